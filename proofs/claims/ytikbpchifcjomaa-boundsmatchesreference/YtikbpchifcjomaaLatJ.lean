/- The law latecomerlaw07.BoundsMatchesReference returns true for every input, and each argument reads afterwards as it read before. Part 10 of 13. No condition. -/
import Derived.Test.YtikbpchifcjomaaLatD
import Derived.Test.YtikbpchifcjomaaLatI
set_option linter.unusedVariables false
set_option linter.unusedSimpArgs false
set_option linter.unnecessarySimpa false
namespace Go.Lat
open Go.RowKit Go.Proofs
attribute [local irreducible] closeM rangeM pointM addBM cycleM holdsM validBM sameM madeM pickM plusM validM possM firstM tableM longerM boundsM ofM addM freeM
def vc_least (n : Int) (l : (List Con)) (above : Int) (to : Int) (most : Int) (Post : (List (List Int)) → Prop) : Prop :=
  ∃ (I1 : Int → List (List Int) → Prop) (μ1 : Int → List (List Int) → Nat), I1 (0 : Int) [] ∧ ∀ (v12 : Int) (r0 : List (List Int)), I1 v12 r0 → ((v12 ≤ most) → ∃ (I2 : Int → List Int → Prop) (μ2 : Int → List Int → Nat), I2 (0 : Int) [] ∧ ∀ (v14 : Int) (r1 : List Int), I2 v14 r1 → ((v14 < n) → ∃ J3 : List Int → Prop, (∀ (r3 : List Int), J3 r3 → (inI (v14 + (1 : Int))) ∧ (I2 (v14 + (1 : Int)) r3 ∧ μ2 (v14 + (1 : Int)) r3 < μ2 v14 r1)) ∧ ((((v12 = (0 : Int)) ∧ (v14 = to)) → ((r1 ++ [(0 : Int)]).length ≤ 1073741824) ∧ J3 (r1 ++ [(0 : Int)])) ∧ (¬ ((v12 = (0 : Int)) ∧ (v14 = to)) → ((r1 ++ [(1152921504606846976 : Int)]).length ≤ 1073741824) ∧ J3 (r1 ++ [(1152921504606846976 : Int)])))) ∧ (¬ (v14 < n) → (inI (above + (1 : Int))) ∧ ∃ (I4 : Int → List Int → Prop) (μ4 : Int → List Int → Nat), I4 (above + (1 : Int)) r1 ∧ ∀ (v15 : Int) (r1_1 : List Int), I4 v15 r1_1 → (((v15 < ((l.length : Nat) : Int)) ∧ ((0 : Int) < v12)) → ∃ J5 : List Int → Prop, (∀ (r1_2 : List Int), J5 r1_2 → (inI (v15 + (1 : Int))) ∧ (I4 (v15 + (1 : Int)) r1_2 ∧ μ4 (v15 + (1 : Int)) r1_2 < μ4 v15 r1_1)) ∧ ((0 ≤ v15 ∧ v15 < (l.length : Int)) ∧ (inI (v12 - (1 : Int))) ∧ (0 ≤ (v12 - (1 : Int)) ∧ (v12 - (1 : Int)) < ((r0.length : Nat) : Int)) ∧ (0 ≤ v15 ∧ v15 < (l.length : Int)) ∧ (0 ≤ ((lat l v15).t) ∧ ((lat l v15).t) < ((lat r0 (v12 - (1 : Int))).length : Int)) ∧ (¬ ((lat l v15).m) = NB → ¬ (lat (lat r0 (v12 - (1 : Int))) ((lat l v15).t)) = NB → inI (((lat l v15).m) + (lat (lat r0 (v12 - (1 : Int))) ((lat l v15).t)))) ∧ (((¬ plusM ((lat l v15).m) (lat (lat r0 (v12 - (1 : Int))) ((lat l v15).t)) = (1152921504606846976 : Int)) → (0 ≤ v15 ∧ v15 < (l.length : Int)) ∧ (0 ≤ ((lat l v15).f) ∧ ((lat l v15).f) < ((r1_1.length : Nat) : Int)) ∧ ((lat r1_1 ((lat l v15).f) = (1152921504606846976 : Int)) → True) ∧ (¬ (lat r1_1 ((lat l v15).f) = (1152921504606846976 : Int)) → (0 ≤ v15 ∧ v15 < (l.length : Int)) ∧ (0 ≤ ((lat l v15).f) ∧ ((lat l v15).f) < ((r1_1.length : Nat) : Int)) ∧ True)) ∧ (¬ (¬ plusM ((lat l v15).m) (lat (lat r0 (v12 - (1 : Int))) ((lat l v15).t)) = (1152921504606846976 : Int)) → True)) ∧ ((((¬ plusM ((lat l v15).m) (lat (lat r0 (v12 - (1 : Int))) ((lat l v15).t)) = (1152921504606846976 : Int)) ∧ ((lat r1_1 ((lat l v15).f) = (1152921504606846976 : Int)) ∨ ((plusM ((lat l v15).m) (lat (lat r0 (v12 - (1 : Int))) ((lat l v15).t))) < (lat r1_1 ((lat l v15).f))))) → (0 ≤ v15 ∧ v15 < (l.length : Int)) ∧ (0 ≤ ((lat l v15).f) ∧ ((lat l v15).f) < ((r1_1.length : Nat) : Int)) ∧ J5 (r1_1.set ((lat l v15).f).toNat (plusM ((lat l v15).m) (lat (lat r0 (v12 - (1 : Int))) ((lat l v15).t))))) ∧ (¬ ((¬ plusM ((lat l v15).m) (lat (lat r0 (v12 - (1 : Int))) ((lat l v15).t)) = (1152921504606846976 : Int)) ∧ ((lat r1_1 ((lat l v15).f) = (1152921504606846976 : Int)) ∨ ((plusM ((lat l v15).m) (lat (lat r0 (v12 - (1 : Int))) ((lat l v15).t))) < (lat r1_1 ((lat l v15).f))))) → J5 r1_1)))) ∧ (¬ ((v15 < ((l.length : Nat) : Int)) ∧ ((0 : Int) < v12)) → ((r0 ++ [r1_1]).length ≤ 1073741824) ∧ (inI (v12 + (1 : Int))) ∧ (I1 (v12 + (1 : Int)) (r0 ++ [r1_1]) ∧ μ1 (v12 + (1 : Int)) (r0 ++ [r1_1]) < μ1 v12 r0)))) ∧ (¬ (v12 ≤ most) → Post r0)
set_option maxRecDepth 100000 in
set_option maxHeartbeats 4000000 in
theorem walk_least {n : Int} {l : (List Con)} {above : Int} {to : Int} {most : Int} {Post : (List (List Int)) → Prop} (hv : vc_least n l above to most Post) : FnP Try.prog 56 [.int .i64 n, .lst true l.length (encL e25 l), .int .i64 above, .int .i64 to, .int .i64 most] (fun x => ∃ q0, x = .lst false q0.length (encL (eSl eInt true) q0) ∧ Post q0) := by
 refine FnP.of_walk (T := tt) (nt := 108) ttOk ttMix ⟨⟨Try.f56, Try.func56, rfl, rfl, rfl, rfl⟩⟩ (by simp) ?_
 unfold vc_least at hv
 change W _ _ _ ⟨108, look [(0, .int .i64 n), (1, .lst true l.length (encL e25 l)), (2, .int .i64 above), (3, .int .i64 to), (4, .int .i64 most)], [], false⟩ _
 refine W.tr [(0, .int _ _), (1, .lst _ _ _), (2, .int _ _), (3, .int _ _), (4, .int _ _)] [] ⟨rfl, rfl, rfl, rfl, rfl, trivial⟩ rfl ?_
 refine W.rL ?_
 refine cL rfl (o_assign (v := .nilS) rfl ?_)
 refine eL ?_
 refine W.tr [(0, .int _ _), (1, .lst _ _ _), (2, .int _ _), (3, .int _ _), (4, .int _ _)] [] ⟨rfl, rfl, rfl, rfl, rfl, trivial⟩ rfl ?_
 refine W.rL ?_
 refine cL rfl (o_assign (v := .nilS) rfl ?_)
 refine eL ?_
 refine W.tr [(0, .int _ _), (1, .lst _ _ _), (2, .int _ _), (3, .int _ _), (4, .int _ _), (11, .nilS)] [] ⟨rfl, rfl, rfl, rfl, rfl, rfl, trivial⟩ rfl ?_
 refine W.seq' ?_
 refine W.rL ?_
 refine aI rfl rfl ?_
 refine eL ?_
 refine W.tr [(0, .int _ _), (1, .lst _ _ _), (2, .int _ _), (3, .int _ _), (4, .int _ _), (11, .nilS), (12, .int _ _)] [] ⟨rfl, rfl, rfl, rfl, rfl, rfl, rfl, trivial⟩ rfl ?_
 refine W.block ?_
 obtain ⟨I1, μ1, hp, hv⟩ := hv
 refine W.loop2 (fun v12 r0 => ⟨108, look [(0, .int .i64 n), (1, .lst true l.length (encL e25 l)), (2, .int .i64 above), (3, .int .i64 to), (4, .int .i64 most), (11, .ref true 0 r0.length), (12, .int .i64 v12)], [.row 35 1 (encL (eSl eInt false) r0)], false⟩) I1 μ1 (0 : Int) [] (St.to_mk (φ := [none]) rfl (.inl rfl) ⟨Ren.int _ _, Ren.lst _ _ _, Ren.int _ _, Ren.int _ _, Ren.int _ _, Ren.nilR rfl rfl, Ren.int _ _, trivial⟩ ⟨rfl, trivial⟩) hp ?_
 clear hp
 intro v12 r0 hI
 replace hv := hv v12 r0 hI
 clear hI
 refine W.seq' ?_
 refine W.rL ?_
 iterate 2 refine mI rfl rfl ?_
 refine cL rfl (o_leq rfl rfl ?_)
 refine eL ?_
 refine W.tr [(0, .int _ _), (1, .lst _ _ _), (2, .int _ _), (3, .int _ _), (4, .int _ _), (11, .ref _ _ _), (12, .int _ _), (19, .bool _)] [.row _ _ _] ⟨rfl, rfl, rfl, rfl, rfl, rfl, rfl, rfl, trivial⟩ rfl ?_
 refine W.cn rfl (fun hc => ?_) (fun hc => ?_)
 have hv := hv.1 hc
 refine W.skip ?_
 refine th_nrm ?_
 refine W.tr [(0, .int _ _), (1, .lst _ _ _), (2, .int _ _), (3, .int _ _), (4, .int _ _), (11, .ref _ _ _), (12, .int _ _)] [.row _ _ _] ⟨rfl, rfl, rfl, rfl, rfl, rfl, rfl, trivial⟩ rfl ?_
 refine W.seq' ?_
 refine W.block ?_
 refine W.rL ?_
 refine cL rfl (o_assign (v := .nilS) rfl ?_)
 refine eL ?_
 refine W.tr [(0, .int _ _), (1, .lst _ _ _), (2, .int _ _), (3, .int _ _), (4, .int _ _), (11, .ref _ _ _), (12, .int _ _), (13, .nilS)] [.row _ _ _] ⟨rfl, rfl, rfl, rfl, rfl, rfl, rfl, rfl, trivial⟩ rfl ?_
 refine W.seq' ?_
 refine W.rL ?_
 refine aI rfl rfl ?_
 refine eL ?_
 refine W.tr [(0, .int _ _), (1, .lst _ _ _), (2, .int _ _), (3, .int _ _), (4, .int _ _), (11, .ref _ _ _), (12, .int _ _), (13, .nilS), (14, .int _ _)] [.row _ _ _] ⟨rfl, rfl, rfl, rfl, rfl, rfl, rfl, rfl, rfl, trivial⟩ rfl ?_
 refine W.block ?_
 obtain ⟨I2, μ2, hp, hv⟩ := hv
 refine W.loop2 (fun v14 r1 => ⟨108, look [(0, .int .i64 n), (1, .lst true l.length (encL e25 l)), (2, .int .i64 above), (3, .int .i64 to), (4, .int .i64 most), (11, .ref true 0 r0.length), (12, .int .i64 v12), (13, .ref true 1 r1.length), (14, .int .i64 v14)], [.row 35 1 (encL (eSl eInt false) r0), .row 3 1 (encL eInt r1)], false⟩) I2 μ2 (0 : Int) [] (St.to_mk (φ := [some 0, none]) rfl (.inl rfl) ⟨Ren.int _ _, Ren.lst _ _ _, Ren.int _ _, Ren.int _ _, Ren.int _ _, Ren.ref rfl (fun h => rfl), Ren.int _ _, Ren.nilR rfl rfl, Ren.int _ _, trivial⟩ ⟨.inr ⟨_, rfl, rfl, rfl, rfl, Rens.enc (encSl eInt) false r0⟩, rfl, trivial⟩) hp ?_
 clear hp
 intro v14 r1 hI
 replace hv := hv v14 r1 hI
 clear hI
 refine W.seq' ?_
 refine W.rL ?_
 iterate 2 refine mI rfl rfl ?_
 refine cL rfl (o_lss rfl rfl ?_)
 refine eL ?_
 refine W.tr [(0, .int _ _), (1, .lst _ _ _), (2, .int _ _), (3, .int _ _), (4, .int _ _), (11, .ref _ _ _), (12, .int _ _), (13, .ref _ _ _), (14, .int _ _), (24, .bool _)] [.row _ _ _, .row _ _ _] ⟨rfl, rfl, rfl, rfl, rfl, rfl, rfl, rfl, rfl, rfl, trivial⟩ rfl ?_
 refine W.cn rfl (fun hc => ?_) (fun hc => ?_)
 have hv := hv.1 hc
 refine W.skip ?_
 refine th_nrm ?_
 refine W.tr [(0, .int _ _), (1, .lst _ _ _), (2, .int _ _), (3, .int _ _), (4, .int _ _), (11, .ref _ _ _), (12, .int _ _), (13, .ref _ _ _), (14, .int _ _)] [.row _ _ _, .row _ _ _] ⟨rfl, rfl, rfl, rfl, rfl, rfl, rfl, rfl, rfl, trivial⟩ rfl ?_
 obtain ⟨J3, hj, hv⟩ := hv
 refine W.mid1 (fun r3 => ⟨108, look [(0, .int .i64 n), (1, .lst true l.length (encL e25 l)), (2, .int .i64 above), (3, .int .i64 to), (4, .int .i64 most), (11, .ref true 0 r0.length), (12, .int .i64 v12), (13, .ref true 3 r3.length), (14, .int .i64 v14)], [.row 35 1 (encL (eSl eInt false) r0), .dead, .dead, .row 3 1 (encL eInt r3)], false⟩) J3 ?_ ?_
 intro r3
 intro hv
 replace hv := hj r3 hv
 refine W.rL1 ?_
 refine mI rfl rfl ?_
 obtain ⟨s2474, hv⟩ := hv
 refine cL rfl (o_add rfl rfl s2474 ?_)
 refine aI rfl rfl ?_
 refine eL ?_
 exact th_nrm (⟨(), (v14 + (1 : Int)), r3, hv, St.to_mk (φ := [some 0, some 3]) rfl (.inl rfl) ⟨Ren.int _ _, Ren.lst _ _ _, Ren.int _ _, Ren.int _ _, Ren.int _ _, Ren.ref rfl (fun h => rfl), Ren.int _ _, Ren.ref rfl (fun h => rfl), Ren.int _ _, trivial⟩ ⟨.inr ⟨_, rfl, rfl, rfl, rfl, Rens.enc (encSl eInt) false r0⟩, .inr ⟨_, rfl, rfl, rfl, rfl, Rens.enc encInt false r3⟩, trivial⟩⟩)
 clear hj
 refine W.block ?_
 refine W.rLm ⟨108, look [(0, .int .i64 n), (1, .lst true l.length (encL e25 l)), (2, .int .i64 above), (3, .int .i64 to), (4, .int .i64 most), (11, .ref true 0 r0.length), (12, .int .i64 v12), (13, .ref true 1 r1.length), (14, .int .i64 v14), (33, .bool (decide ((v12 = (0 : Int)) ∧ (v14 = to))))], [.row 35 1 (encL (eSl eInt false) r0), .row 3 1 (encL eInt r1)], false⟩ ?_ ?_
 refine mI rfl rfl ?_
 refine cL rfl (o_eqI rfl rfl rfl ?_)
 refine mB rfl rfl ?_
 by_cases c1 : v12 = (0 : Int)
 refine cLg rfl rfl (decide_eq_true c1) ?_
 refine mI rfl rfl ?_
 refine cLg rfl rfl (decide_eq_true c1) ?_
 refine mI rfl rfl ?_
 refine cLg rfl rfl (decide_eq_true c1) ?_
 refine cL rfl (o_eqI rfl rfl rfl ?_)
 refine cL rfl (o_pickT (v := .bool _) rfl (decide_eq_true c1) rfl ?_)
 refine eL ?_
 exact le_mk ⟨rfl, rfl, rfl, rfl, rfl, rfl, rfl, rfl, rfl, (congrArg AV.bool (dAndT c1 (rfl))).symm, trivial⟩ rfl
 iterate 3 refine cLs rfl rfl rfl (decide_eq_false c1) ?_
 refine cL rfl (o_pickF (v := .bool _) rfl (decide_eq_false c1) rfl ?_)
 refine eL ?_
 exact le_mk ⟨rfl, rfl, rfl, rfl, rfl, rfl, rfl, rfl, rfl, (congrArg AV.bool (dAndF c1)).symm, trivial⟩ rfl
 refine W.cn rfl (fun hc => ?_) (fun hc => ?_)
 have hv := hv.1 hc
 refine W.rL1 ?_
 refine cL rfl (o_move (v := .ref _ _ _) rfl ?_)
 refine cL rfl (o_bs1 (v := .int _ _) (q := 2) tt35 tt3 rfl rfl rfl rfl rfl rfl rfl rfl ?_)
 obtain ⟨s2475, hv⟩ := hv
 refine cL rfl (o_apR (p := 3) (q := (r1 ++ [(0 : Int)]).length) tt35 tt3 rfl rfl (src_ref rfl rfl) rfl rfl (encL_length (encInt.wd false) _) (Nat.le_trans (Nat.le_of_eq (@List.length_append _ (r1) ([(0 : Int)])).symm) s2475) rfl (@List.length_append _ (r1) ([(0 : Int)])).symm (encL_app eInt r1 [(0 : Int)]) ?_)
 refine cL rfl (o_assign (v := .ref _ _ _) rfl ?_)
 refine eL ?_
 exact bl_nrm (th_nrm (⟨(), (r1 ++ [(0 : Int)]), hv, St.to_mk (φ := [some 0, none, none, some 3]) rfl (.inl rfl) ⟨Ren.int _ _, Ren.lst _ _ _, Ren.int _ _, Ren.int _ _, Ren.int _ _, Ren.ref rfl (fun h => rfl), Ren.int _ _, Ren.ref rfl (fun h => rfl), Ren.int _ _, trivial⟩ ⟨.inr ⟨_, rfl, rfl, rfl, rfl, Rens.enc (encSl eInt) false r0⟩, rfl, rfl, .inr ⟨_, rfl, rfl, rfl, rfl, Rens.enc encInt false (r1 ++ [(0 : Int)])⟩, trivial⟩⟩))
 have hv := hv.2 hc
 refine W.rL1 ?_
 refine cL rfl (o_move (v := .ref _ _ _) rfl ?_)
 refine cL rfl (o_bs1 (v := .int _ _) (q := 2) tt35 tt3 rfl rfl rfl rfl rfl rfl rfl rfl ?_)
 obtain ⟨s2476, hv⟩ := hv
 refine cL rfl (o_apR (p := 3) (q := (r1 ++ [(1152921504606846976 : Int)]).length) tt35 tt3 rfl rfl (src_ref rfl rfl) rfl rfl (encL_length (encInt.wd false) _) (Nat.le_trans (Nat.le_of_eq (@List.length_append _ (r1) ([(1152921504606846976 : Int)])).symm) s2476) rfl (@List.length_append _ (r1) ([(1152921504606846976 : Int)])).symm (encL_app eInt r1 [(1152921504606846976 : Int)]) ?_)
 refine cL rfl (o_assign (v := .ref _ _ _) rfl ?_)
 refine eL ?_
 exact bl_nrm (th_nrm (⟨(), (r1 ++ [(1152921504606846976 : Int)]), hv, St.to_mk (φ := [some 0, none, none, some 3]) rfl (.inl rfl) ⟨Ren.int _ _, Ren.lst _ _ _, Ren.int _ _, Ren.int _ _, Ren.int _ _, Ren.ref rfl (fun h => rfl), Ren.int _ _, Ren.ref rfl (fun h => rfl), Ren.int _ _, trivial⟩ ⟨.inr ⟨_, rfl, rfl, rfl, rfl, Rens.enc (encSl eInt) false r0⟩, rfl, rfl, .inr ⟨_, rfl, rfl, rfl, rfl, Rens.enc encInt false (r1 ++ [(1152921504606846976 : Int)])⟩, trivial⟩⟩))
 have hv := hv.2 hc
 refine W.exit ?_
 refine th_exit (th_exit (bl_hit (th_nrm ?_)))
 refine W.tr [(0, .int _ _), (1, .lst _ _ _), (2, .int _ _), (3, .int _ _), (4, .int _ _), (11, .ref _ _ _), (12, .int _ _), (13, .ref _ _ _)] [.row _ _ _, .row _ _ _] ⟨rfl, rfl, rfl, rfl, rfl, rfl, rfl, rfl, trivial⟩ rfl ?_
 refine W.seq' ?_
 refine W.rL ?_
 refine mI rfl rfl ?_
 obtain ⟨s2577, hv⟩ := hv
 refine cL rfl (o_add rfl rfl s2577 ?_)
 refine aI rfl rfl ?_
 refine eL ?_
 refine W.tr [(0, .int _ _), (1, .lst _ _ _), (2, .int _ _), (3, .int _ _), (4, .int _ _), (11, .ref _ _ _), (12, .int _ _), (13, .ref _ _ _), (15, .int _ _)] [.row _ _ _, .row _ _ _] ⟨rfl, rfl, rfl, rfl, rfl, rfl, rfl, rfl, rfl, trivial⟩ rfl ?_
 refine W.block ?_
 obtain ⟨I4, μ4, hp, hv⟩ := hv
 refine W.loop2 (fun v15 r1_1 => ⟨108, look [(0, .int .i64 n), (1, .lst true l.length (encL e25 l)), (2, .int .i64 above), (3, .int .i64 to), (4, .int .i64 most), (11, .ref true 0 r0.length), (12, .int .i64 v12), (13, .ref true 1 r1_1.length), (15, .int .i64 v15)], [.row 35 1 (encL (eSl eInt false) r0), .row 3 1 (encL eInt r1_1)], false⟩) I4 μ4 (above + (1 : Int)) r1 (St.to_mk (φ := [some 0, some 1]) rfl (.inl rfl) ⟨Ren.int _ _, Ren.lst _ _ _, Ren.int _ _, Ren.int _ _, Ren.int _ _, Ren.ref rfl (fun h => rfl), Ren.int _ _, Ren.ref rfl (fun h => rfl), Ren.int _ _, trivial⟩ ⟨.inr ⟨_, rfl, rfl, rfl, rfl, Rens.enc (encSl eInt) false r0⟩, .inr ⟨_, rfl, rfl, rfl, rfl, Rens.enc encInt false r1⟩, trivial⟩) hp ?_
 clear hp
 intro v15 r1_1 hI
 replace hv := hv v15 r1_1 hI
 clear hI
 refine W.seq' ?_
 refine W.rLm ⟨108, look [(0, .int .i64 n), (1, .lst true l.length (encL e25 l)), (2, .int .i64 above), (3, .int .i64 to), (4, .int .i64 most), (11, .ref true 0 r0.length), (12, .int .i64 v12), (13, .ref true 1 r1_1.length), (15, .int .i64 v15), (49, .bool (decide ((v15 < ((l.length : Nat) : Int)) ∧ ((0 : Int) < v12))))], [.row 35 1 (encL (eSl eInt false) r0), .row 3 1 (encL eInt r1_1)], false⟩ ?_ ?_
 refine mI rfl rfl ?_
 refine mL rfl rfl ?_
 refine cL rfl (o_len (v := .lst _ _ _) tt22 rfl rfl ?_)
 refine cL rfl (o_lss rfl rfl ?_)
 refine mB rfl rfl ?_
 by_cases c1 : v15 < ((l.length : Nat) : Int)
 refine cLg rfl rfl (decide_eq_true c1) ?_
 refine mI rfl rfl ?_
 refine cLg rfl rfl (decide_eq_true c1) ?_
 refine cL rfl (o_gtr rfl rfl ?_)
 refine cL rfl (o_pickT (v := .bool _) rfl (decide_eq_true c1) rfl ?_)
 refine eL ?_
 exact le_mk ⟨rfl, rfl, rfl, rfl, rfl, rfl, rfl, rfl, rfl, (congrArg AV.bool (dAndT c1 (rfl))).symm, trivial⟩ rfl
 iterate 2 refine cLs rfl rfl rfl (decide_eq_false c1) ?_
 refine cL rfl (o_pickF (v := .bool _) rfl (decide_eq_false c1) rfl ?_)
 refine eL ?_
 exact le_mk ⟨rfl, rfl, rfl, rfl, rfl, rfl, rfl, rfl, rfl, (congrArg AV.bool (dAndF c1)).symm, trivial⟩ rfl
 refine W.cn rfl (fun hc => ?_) (fun hc => ?_)
 have hv := hv.1 hc
 refine W.skip ?_
 refine th_nrm ?_
 refine W.tr [(0, .int _ _), (1, .lst _ _ _), (2, .int _ _), (3, .int _ _), (4, .int _ _), (11, .ref _ _ _), (12, .int _ _), (13, .ref _ _ _), (15, .int _ _)] [.row _ _ _, .row _ _ _] ⟨rfl, rfl, rfl, rfl, rfl, rfl, rfl, rfl, rfl, trivial⟩ rfl ?_
 obtain ⟨J5, hj, hv⟩ := hv
 refine W.mid1 (fun r1_2 => ⟨108, look [(0, .int .i64 n), (1, .lst true l.length (encL e25 l)), (2, .int .i64 above), (3, .int .i64 to), (4, .int .i64 most), (11, .ref true 0 r0.length), (12, .int .i64 v12), (13, .ref true 1 r1_2.length), (15, .int .i64 v15)], [.row 35 1 (encL (eSl eInt false) r0), .row 3 1 (encL eInt r1_2)], false⟩) J5 ?_ ?_
 intro r1_2
 intro hv
 replace hv := hj r1_2 hv
 refine W.rL1 ?_
 refine mI rfl rfl ?_
 obtain ⟨s2660, hv⟩ := hv
 refine cL rfl (o_add rfl rfl s2660 ?_)
 refine aI rfl rfl ?_
 refine eL ?_
 exact th_nrm (⟨(), (v15 + (1 : Int)), r1_2, hv, St.to_mk (φ := [some 0, some 1]) rfl (.inl rfl) ⟨Ren.int _ _, Ren.lst _ _ _, Ren.int _ _, Ren.int _ _, Ren.int _ _, Ren.ref rfl (fun h => rfl), Ren.int _ _, Ren.ref rfl (fun h => rfl), Ren.int _ _, trivial⟩ ⟨.inr ⟨_, rfl, rfl, rfl, rfl, Rens.enc (encSl eInt) false r0⟩, .inr ⟨_, rfl, rfl, rfl, rfl, Rens.enc encInt false r1_2⟩, trivial⟩⟩)
 clear hj
 refine W.block ?_
 refine W.rD [0, 1, 2, 3, 4, 5, 6, 7, 8, 9, 10, 11, 12, 13, 14, 15, 16, 17, 18] (by decide +kernel) rfl ?_
 refine mL rfl rfl ?_
 refine mI rfl rfl ?_
 obtain ⟨s2661, hv⟩ := hv
 refine cL rfl (o_iaL tt22 tt25 rfl rfl (enc25.wd true) rfl s2661 ?_)
 intro rest2661
 refine cL rfl (o_faP tt25 rfl tt3 rfl ?_)
 refine cL rfl (o_ldS (v := .int _ _) tt3 rfl rfl ⟨_, rfl⟩ ?_)
 refine cL rfl (o_move (v := .ref _ _ _) rfl ?_)
 refine mI rfl rfl ?_
 obtain ⟨s2662, hv⟩ := hv
 refine cL rfl (o_sub rfl rfl s2662 ?_)
 obtain ⟨s2663, hv⟩ := hv
 refine cL rfl (o_iaR tt32 tt35 rfl rfl s2663 ?_)
 refine cL rfl (o_ldS (v := .lst _ _ _) tt35 rfl rfl (cell_of (ca_row (xs := r0) rfl ((encSl eInt).wd false) s2663) rfl) ?_)
 refine mL rfl rfl ?_
 refine mI rfl rfl ?_
 obtain ⟨s2664, hv⟩ := hv
 refine cL rfl (o_iaL tt22 tt25 rfl rfl (enc25.wd true) rfl s2664 ?_)
 intro rest2664
 refine cL rfl (o_faP tt25 rfl tt3 rfl ?_)
 refine cL rfl (o_ldS (v := .int _ _) tt3 rfl rfl ⟨_, rfl⟩ ?_)
 obtain ⟨s2665, hv⟩ := hv
 refine cL rfl (o_iaL tt35 tt3 rfl rfl (encInt.wd true) rfl s2665 ?_)
 intro rest2665
 refine cL rfl (o_ldS (v := .int _ _) tt3 rfl rfl ⟨_, rfl⟩ ?_)
 obtain ⟨s2666, hv⟩ := hv
 refine cL rfl (o_callP1 (k := 48) (fst := []) (caps := []) (ys := [.int _ _, .int _ _]) rfl rfl (spec_rsum ((lat l v15).m) (lat (lat r0 (v12 - (1 : Int))) ((lat l v15).t)) s2666) (Wks.cons (ag_int _ _ _ _) (Wks.cons (ag_int _ _ _ _) (Wks.refl _))) ?_)
 refine aI rfl rfl ?_
 refine eL ?_
 refine W.tr [(0, .int _ _), (1, .lst _ _ _), (2, .int _ _), (3, .int _ _), (4, .int _ _), (11, .ref _ _ _), (12, .int _ _), (13, .ref _ _ _), (15, .int _ _), (16, .int _ _)] [.row _ _ _, .row _ _ _] ⟨rfl, rfl, rfl, rfl, rfl, rfl, rfl, rfl, rfl, rfl, trivial⟩ rfl ?_
 obtain ⟨sd, hv⟩ := hv
 refine W.rLm ⟨108, look [(0, .int .i64 n), (1, .lst true l.length (encL e25 l)), (2, .int .i64 above), (3, .int .i64 to), (4, .int .i64 most), (11, .ref true 0 r0.length), (12, .int .i64 v12), (13, .ref true 1 r1_1.length), (15, .int .i64 v15), (16, .int .i64 (plusM ((lat l v15).m) (lat (lat r0 (v12 - (1 : Int))) ((lat l v15).t)))), (94, .bool (decide ((¬ plusM ((lat l v15).m) (lat (lat r0 (v12 - (1 : Int))) ((lat l v15).t)) = (1152921504606846976 : Int)) ∧ ((lat r1_1 ((lat l v15).f) = (1152921504606846976 : Int)) ∨ ((plusM ((lat l v15).m) (lat (lat r0 (v12 - (1 : Int))) ((lat l v15).t))) < (lat r1_1 ((lat l v15).f)))))))], [.row 35 1 (encL (eSl eInt false) r0), .row 3 1 (encL eInt r1_1)], false⟩ ?_ ?_
 refine mI rfl rfl ?_
 refine cL rfl (o_neI rfl rfl rfl ?_)
 refine mB rfl rfl ?_
 by_cases c1 : ¬ plusM ((lat l v15).m) (lat (lat r0 (v12 - (1 : Int))) ((lat l v15).t)) = (1152921504606846976 : Int)
 have sd := sd.1 c1
 refine cLg rfl rfl (decide_eq_true c1) ?_
 refine cL rfl (o_move (v := .ref _ _ _) rfl ?_)
 refine cLg rfl rfl (decide_eq_true c1) ?_
 refine mL rfl rfl ?_
 refine cLg rfl rfl (decide_eq_true c1) ?_
 refine mI rfl rfl ?_
 refine cLg rfl rfl (decide_eq_true c1) ?_
 obtain ⟨s2671, sd⟩ := sd
 refine cL rfl (o_iaL tt22 tt25 rfl rfl (enc25.wd true) rfl s2671 ?_)
 intro rest2671
 refine cLg rfl rfl (decide_eq_true c1) ?_
 refine cL rfl (o_faP tt25 rfl tt3 rfl ?_)
 refine cLg rfl rfl (decide_eq_true c1) ?_
 refine cL rfl (o_ldS (v := .int _ _) tt3 rfl rfl ⟨_, rfl⟩ ?_)
 refine cLg rfl rfl (decide_eq_true c1) ?_
 obtain ⟨s2672, sd⟩ := sd
 refine cL rfl (o_iaR tt35 tt3 rfl rfl s2672 ?_)
 refine cLg rfl rfl (decide_eq_true c1) ?_
 refine cL rfl (o_ldS (v := .int _ _) tt3 rfl rfl (cell_of (ca_row (xs := r1_1) rfl (encInt.wd false) s2672) rfl) ?_)
 refine cLg rfl rfl (decide_eq_true c1) ?_
 refine cL rfl (o_eqI rfl rfl rfl ?_)
 refine cLg rfl rfl (decide_eq_true c1) ?_
 refine mB rfl rfl ?_
 by_cases c2 : lat r1_1 ((lat l v15).f) = (1152921504606846976 : Int)
 iterate 10 refine cLs rfl rfl rfl (decide_eq_true c2) ?_
 refine cLg rfl rfl (decide_eq_true c1) ?_
 refine cL rfl (o_pickT (v := .bool _) rfl (decide_eq_true c2) rfl ?_)
 refine cL rfl (o_pickT (v := .bool _) rfl (decide_eq_true c1) rfl ?_)
 refine eL ?_
 exact le_mk ⟨rfl, rfl, rfl, rfl, rfl, rfl, rfl, rfl, rfl, rfl, (congrArg AV.bool (dAndT c1 (dOrT c2))).symm, trivial⟩ rfl
 have sd := sd.2 c2
 refine cLg rfl rfl (decide_eq_false c2) ?_
 refine mI rfl rfl ?_
 refine cLg rfl rfl (decide_eq_false c2) ?_
 refine cL rfl (o_move (v := .ref _ _ _) rfl ?_)
 refine cLg rfl rfl (decide_eq_false c2) ?_
 refine mL rfl rfl ?_
 refine cLg rfl rfl (decide_eq_false c2) ?_
 refine mI rfl rfl ?_
 refine cLg rfl rfl (decide_eq_false c2) ?_
 obtain ⟨s2673, sd⟩ := sd
 refine cL rfl (o_iaL tt22 tt25 rfl rfl (enc25.wd true) rfl s2673 ?_)
 intro rest2673
 refine cLg rfl rfl (decide_eq_false c2) ?_
 refine cL rfl (o_faP tt25 rfl tt3 rfl ?_)
 refine cLg rfl rfl (decide_eq_false c2) ?_
 refine cL rfl (o_ldS (v := .int _ _) tt3 rfl rfl ⟨_, rfl⟩ ?_)
 refine cLg rfl rfl (decide_eq_false c2) ?_
 obtain ⟨s2674, sd⟩ := sd
 refine cL rfl (o_iaR tt35 tt3 rfl rfl s2674 ?_)
 refine cLg rfl rfl (decide_eq_false c2) ?_
 refine cL rfl (o_ldS (v := .int _ _) tt3 rfl rfl (cell_of (ca_row (xs := r1_1) rfl (encInt.wd false) s2674) rfl) ?_)
 refine cLg rfl rfl (decide_eq_false c2) ?_
 refine cL rfl (o_lss rfl rfl ?_)
 refine cLg rfl rfl (decide_eq_true c1) ?_
 refine cL rfl (o_pickF (v := .bool _) rfl (decide_eq_false c2) rfl ?_)
 refine cL rfl (o_pickT (v := .bool _) rfl (decide_eq_true c1) rfl ?_)
 refine eL ?_
 exact le_mk ⟨rfl, rfl, rfl, rfl, rfl, rfl, rfl, rfl, rfl, rfl, (congrArg AV.bool (dAndT c1 (dOrF c2 (rfl)))).symm, trivial⟩ rfl
 iterate 10 refine cLs rfl rfl rfl (decide_eq_false c1) ?_
 iterate 10 refine cLu rfl rfl rfl ?_
 refine cLs rfl rfl rfl (decide_eq_false c1) ?_
 refine cL rfl (o_pickF (v := .bool _) rfl (decide_eq_false c1) rfl ?_)
 refine eL ?_
 exact le_mk ⟨rfl, rfl, rfl, rfl, rfl, rfl, rfl, rfl, rfl, rfl, (congrArg AV.bool (dAndF c1)).symm, trivial⟩ rfl
 refine W.cn rfl (fun hc => ?_) (fun hc => ?_)
 have hv := hv.1 hc
 refine W.rL1 ?_
 refine cL rfl (o_move (v := .ref _ _ _) rfl ?_)
 refine mL rfl rfl ?_
 refine mI rfl rfl ?_
 obtain ⟨s2675, hv⟩ := hv
 refine cL rfl (o_iaL tt22 tt25 rfl rfl (enc25.wd true) rfl s2675 ?_)
 intro rest2675
 refine cL rfl (o_faP tt25 rfl tt3 rfl ?_)
 refine cL rfl (o_ldS (v := .int _ _) tt3 rfl rfl ⟨_, rfl⟩ ?_)
 refine mI rfl rfl ?_
 obtain ⟨s2676, hv⟩ := hv
 refine cL rfl (o_iaR tt35 tt3 rfl rfl s2676 ?_)
 refine cLn (o_stR (v := .int _ _) tt3 rfl rfl rfl rfl rfl (row_in (xs := r1_1) (encInt.wd false) s2676 rfl) (row_set (e := eInt) (encInt.wd false) _ _ (plusM ((lat l v15).m) (lat (lat r0 (v12 - (1 : Int))) ((lat l v15).t))) rfl s2676.1 s2676.2) ?_)
 refine eL ?_
 exact bl_nrm (th_nrm (⟨(), (r1_1.set ((lat l v15).f).toNat (plusM ((lat l v15).m) (lat (lat r0 (v12 - (1 : Int))) ((lat l v15).t)))), hv, St.to_mk (φ := [some 0, some 1]) rfl (.inl rfl) ⟨Ren.int _ _, Ren.lst _ _ _, Ren.int _ _, Ren.int _ _, Ren.int _ _, Ren.ref rfl (fun h => rfl), Ren.int _ _, Ren.refL rfl (fun h => rfl) (by simp), Ren.int _ _, trivial⟩ ⟨.inr ⟨_, rfl, rfl, rfl, rfl, Rens.enc (encSl eInt) false r0⟩, .inr ⟨_, rfl, rfl, rfl, rfl, Rens.enc encInt false (r1_1.set ((lat l v15).f).toNat (plusM ((lat l v15).m) (lat (lat r0 (v12 - (1 : Int))) ((lat l v15).t))))⟩, trivial⟩⟩))
 have hv := hv.2 hc
 refine W.skip ?_
 exact bl_nrm (th_nrm (⟨(), r1_1, hv, St.to_mk (φ := [some 0, some 1]) rfl (.inl rfl) ⟨Ren.int _ _, Ren.lst _ _ _, Ren.int _ _, Ren.int _ _, Ren.int _ _, Ren.ref rfl (fun h => rfl), Ren.int _ _, Ren.ref rfl (fun h => rfl), Ren.int _ _, trivial⟩ ⟨.inr ⟨_, rfl, rfl, rfl, rfl, Rens.enc (encSl eInt) false r0⟩, .inr ⟨_, rfl, rfl, rfl, rfl, Rens.enc encInt false r1_1⟩, trivial⟩⟩))
 have hv := hv.2 hc
 refine W.exit ?_
 refine th_exit (th_exit (bl_hit (th_nrm ?_)))
 refine W.tr [(0, .int _ _), (1, .lst _ _ _), (2, .int _ _), (3, .int _ _), (4, .int _ _), (11, .ref _ _ _), (12, .int _ _), (13, .ref _ _ _)] [.row _ _ _, .row _ _ _] ⟨rfl, rfl, rfl, rfl, rfl, rfl, rfl, rfl, trivial⟩ rfl ?_
 refine W.sealH false 1 (l := [(0, .int .i64 n), (1, .lst true l.length (encL e25 l)), (2, .int .i64 above), (3, .int .i64 to), (4, .int .i64 most), (11, .ref true 0 r0.length), (12, .int .i64 v12), (13, .lst false r1_1.length (encL eInt r1_1))]) rfl (encL_sl encInt false r1_1) ⟨.inl rfl, .inl rfl, .inl rfl, .inl rfl, .inl rfl, .inl rfl, .inl rfl, .inr ⟨_, _, rfl, (encL_length (encInt.wd false) _), rfl⟩, trivial⟩ rfl ?_
 refine W.rL1 ?_
 refine cL rfl (o_move (v := .ref _ _ _) rfl ?_)
 refine mL rfl rfl ?_
 refine cL rfl (o_bs1 (v := .lst _ _ _) (q := 2) tt32 tt35 rfl rfl rfl rfl rfl rfl rfl rfl ?_)
 obtain ⟨s2677, hv⟩ := hv
 refine cL rfl (o_apR (p := 3) (q := (r0 ++ [r1_1]).length) tt32 tt35 rfl rfl (src_ref rfl rfl) rfl rfl (encL_length ((encSl eInt).wd false) _) (Nat.le_trans (Nat.le_of_eq (@List.length_append _ (r0) ([r1_1])).symm) s2677) rfl (@List.length_append _ (r0) ([r1_1])).symm (encL_app (eSl eInt false) r0 [r1_1]) ?_)
 refine cL rfl (o_assign (v := .ref _ _ _) rfl ?_)
 refine eL ?_
 refine bl_nrm (th_nrm ?_)
 refine W.tr [(0, .int _ _), (1, .lst _ _ _), (2, .int _ _), (3, .int _ _), (4, .int _ _), (11, .ref _ _ _), (12, .int _ _)] [.dead, .dead, .row _ _ _, .row _ _ _] ⟨rfl, rfl, rfl, rfl, rfl, rfl, rfl, trivial⟩ rfl ?_
 refine W.rL1 ?_
 refine mI rfl rfl ?_
 obtain ⟨s2678, hv⟩ := hv
 refine cL rfl (o_add rfl rfl s2678 ?_)
 refine aI rfl rfl ?_
 refine eL ?_
 exact th_nrm (⟨(), (v12 + (1 : Int)), (r0 ++ [r1_1]), hv, St.to_mk (φ := [some 3]) rfl (.inl rfl) ⟨Ren.int _ _, Ren.lst _ _ _, Ren.int _ _, Ren.int _ _, Ren.int _ _, Ren.ref rfl (fun h => rfl), Ren.int _ _, trivial⟩ ⟨.inr ⟨_, rfl, rfl, rfl, rfl, Rens.enc (encSl eInt) false (r0 ++ [r1_1])⟩, trivial⟩⟩)
 have hv := hv.2 hc
 refine W.exit ?_
 refine th_exit (th_exit (bl_hit (th_nrm ?_)))
 refine W.tr [(11, .ref _ _ _)] [.row _ _ _] ⟨rfl, trivial⟩ rfl ?_
 refine W.rL ?_
 refine cL rfl (o_move (v := .ref _ _ _) rfl ?_)
 refine cL rfl (o_assign (v := .ref _ _ _) rfl ?_)
 refine eL ?_
 refine W.tr [(10, .ref _ _ _)] [.row _ _ _] ⟨rfl, trivial⟩ rfl ?_
 refine W.ret ?_
 refine rt ?_
 refine rt_t (v := .ref _ _ _) rfl ?_
 refine rt_n ?_
 exact ⟨_, rs_ref (encSl eInt) 4 _ rfl rfl, r0, rfl, hv⟩
theorem vcp_least (n : Int) (l : (List Con)) (above : Int) (to : Int) (most : Int) (h0 : LeastOk n l above to most) : vc_least n l above to most (fun q0 => q0 = (leastM n l above to most)) := by
  unfold vc_least
  obtain ⟨hv, ha, ht, hk⟩ := h0
  have hnb := hNB
  have hg := validM_goodn hv
  obtain ⟨⟨hn1, hn2, hl2⟩, hp⟩ := validM_iff.mp hv
  obtain ⟨n, rfl⟩ : ∃ k : Nat, n = k := ⟨n.toNat, by omega⟩
  simp only [Int.toNat_natCast] at hg
  obtain ⟨a, haa⟩ : ∃ a : Nat, above + 1 = a := ⟨(above + 1).toNat, by omega⟩
  have hta : (above + 1).toNat = a := by omega
  have hR : ∀ r : Nat, tabD l to above (r + 1) = longerM l (tabD l to above r) above := fun r => rfl
  refine ⟨fun v r0 => ∃ r : Nat, v = r ∧ r ≤ most + 1 ∧ r0 = (List.range r).map fun q => rowL n (tabD l to above q), fun v _ => (most + 1).toNat - v.toNat, ⟨0, rfl, by omega, rfl⟩, ?_⟩
  rintro _ _ ⟨r, rfl, hr, rfl⟩
  refine ⟨fun k1 => ⟨fun v r1 => ∃ i : Nat, v = i ∧ i ≤ n ∧ r1 = (List.range i).map fun u => if r = 0 ∧ u = to.toNat then 0 else NB, fun v _ => n - v.toNat, ⟨0, rfl, by omega, rfl⟩, ?_⟩, fun k1 => ?_⟩
  · rintro _ _ ⟨i, rfl, hi, rfl⟩
    refine ⟨fun k2 => ⟨fun r3 => r3 = (List.range (i + 1)).map fun u => if r = 0 ∧ u = to.toNat then 0 else NB, fun r3 h3 => ⟨by unfold inI; omega, ⟨i + 1, by omega, by omega, h3⟩, by first | omega | (dsimp only; omega)⟩, fun k3 => ⟨by simp; omega, ?_⟩, fun k3 => ⟨by simp; omega, ?_⟩⟩, fun k2 => ?_⟩
    · rw [List.range_succ, List.map_append]
      simp only [List.map_cons, List.map_nil]
      rw [if_pos (by omega)]
    · rw [List.range_succ, List.map_append]
      simp only [List.map_cons, List.map_nil]
      rw [if_neg (by omega)]
    have hin : i = n := by omega
    subst hin
    rw [haa]
    refine ⟨by unfold inI; omega, fun v r1 => ∃ j : Nat, v = j ∧ a ≤ j ∧ j ≤ l.length ∧ (r = 0 → r1 = rowL i (tabD l to above 0)) ∧ ∀ q, r = q + 1 → r1 = rowL i (partR l a (tabD l to above q) j), fun v _ => l.length - v.toNat, ⟨a, rfl, Nat.le_refl _, by omega, fun e => ?_, fun q e => ?_⟩, ?_⟩
    · unfold rowL
      refine List.map_congr_left fun u hu => ?_
      have := List.mem_range.mp hu
      show _ = vat (vset _ _ _) _
      rw [vat_vset (by omega), vat_rep (by omega)]
      simp [e]
    · unfold rowL
      refine List.map_congr_left fun u hu => ?_
      have := List.mem_range.mp hu
      rw [partR_start, vat_rep (by omega), if_neg (by omega)]
    rintro _ r1 ⟨j, rfl, hj1, hj2, hz, hs⟩
    refine ⟨fun k3 => ?_, fun k3 => ?_⟩
    · obtain ⟨q, rfl⟩ : ∃ q, r = q + 1 := ⟨r - 1, by omega⟩
      have hs := hs q rfl
      subst hs
      have hc := possM_iff.mp (hp _ (lat_mem (xs := l) (i := (j : Int)) ⟨by omega, by omega⟩))
      have hq : (((q + 1 : Nat) : Int) - 1) = (q : Int) := by omega
      have hro : lat ((List.range (q + 1)).map fun q => rowL i (tabD l to above q)) (q : Int) = rowL i (tabD l to above q) := by
        rw [lat_nat]; simp [List.getD_eq_getElem?_getD]
      rw [hq, hro, lat_rowL (v := (lat l j).t) (by omega)]
      have hfin := tab_fin (by omega) hg (v := to) ht (above := above) (r := q) (u := (lat l j).t.toNat) (by omega) (by omega)
      have hpf := plus_fin (c := lat l j) (by omega) hfin
      have hle := partR_le (by omega) hg (a := a) (i := j) (d := tabD l to above q) (lat l j).f.toNat (by omega)
      have hst := partR_step (d := tabD l to above q) hj1 (i := j) (l := l) (by omega)
      simp only [lat_rowL (o := partR l a (tabD l to above q) j) (v := (lat l j).f) (n := i) (by omega)]
      have hlr : (rowL i (partR l a (tabD l to above q) j)).length = i := rowL_len
      have hlt : (rowL i (tabD l to above q)).length = i := rowL_len
      refine ⟨fun r3 => r3 = rowL i (partR l a (tabD l to above q) (j + 1)), fun r3 h3 => ⟨by unfold inI; omega, ⟨j + 1, by omega, by omega, by omega, fun e => by omega, fun q' e => ?_⟩, by first | omega | (dsimp only; omega)⟩, by omega, by unfold inI; omega, by simp; omega, by omega, by omega, fun h5 h6 => by unfold inI; omega, ⟨fun _ => ⟨by omega, by omega, fun _ => trivial, fun _ => ⟨by omega, by omega, trivial⟩⟩, fun _ => trivial⟩, fun k4 => ⟨by omega, by omega, ?_⟩, fun k4 => ?_⟩
      · obtain rfl : q = q' := by omega
        exact h3
      · rw [set_row (by omega) (by omega), hst, relStep_set (by omega) hle k4]
      · rw [hst, relStep_keep (by omega) hle k4]
    · have key : r1 = rowL i (tabD l to above r) := by
        rcases r with _ | q
        · exact hz rfl
        · rw [hs q rfl, hR, ← partR_end (i := j) (by omega), hta]
      refine ⟨by simp; omega, by unfold inI; omega, ⟨r + 1, by omega, by omega, ?_⟩, by first | omega | (dsimp only; omega)⟩
      rw [key, List.range_succ, List.map_append]; rfl
  · have : r = most.toNat + 1 := by omega
    subst this
    rfl
theorem spec_least (n : Int) (l : (List Con)) (above : Int) (to : Int) (most : Int) (h0 : LeastOk n l above to most) : FnP Try.prog 56 [.int .i64 n, .lst true l.length (encL e25 l), .int .i64 above, .int .i64 to, .int .i64 most] (fun xR => xR = .lst false (leastM n l above to most).length (encL (eSl eInt true) (leastM n l above to most))) :=
  (walk_least (vcp_least n l above to most h0)).mono (by rintro _ ⟨_, rfl, rfl⟩; rfl)
def vc_rfirst (n : Int) (l : (List Con)) (Post : (List Int) → Prop) : Prop :=
  ∃ (I1 : Int → Int → Prop) (μ1 : Int → Int → Nat), I1 (0 : Int) (0 : Int) ∧ ∀ (v5 : Int) (v6 : Int), I1 v5 v6 → ((v6 < n) → (LeastOk n l (-1 : Int) v6 n) ∧ ∃ (I2 : Int → Int → Prop) (μ2 : Int → Int → Nat), I2 v5 (1 : Int) ∧ ∀ (v5_1 : Int) (v8 : Int), I2 v5_1 v8 → ((v8 ≤ n) → ∃ J3 : Int → Prop, (∀ (v5_2 : Int), J3 v5_2 → (inI (v8 + (1 : Int))) ∧ (I2 v5_2 (v8 + (1 : Int)) ∧ μ2 v5_2 (v8 + (1 : Int)) < μ2 v5_1 v8)) ∧ (((0 ≤ v8 ∧ v8 < ((leastM n l (-1 : Int) v6 n).length : Int)) ∧ (0 ≤ v6 ∧ v6 < ((lat (leastM n l (-1 : Int) v6 n) v8).length : Int)) ∧ ((¬ lat (lat (leastM n l (-1 : Int) v6 n) v8) v6 = (1152921504606846976 : Int)) → (0 ≤ v8 ∧ v8 < ((leastM n l (-1 : Int) v6 n).length : Int)) ∧ (0 ≤ v6 ∧ v6 < ((lat (leastM n l (-1 : Int) v6 n) v8).length : Int)) ∧ True) ∧ (¬ (¬ lat (lat (leastM n l (-1 : Int) v6 n) v8) v6 = (1152921504606846976 : Int)) → True)) ∧ ((((¬ lat (lat (leastM n l (-1 : Int) v6 n) v8) v6 = (1152921504606846976 : Int)) ∧ (((lat (lat (leastM n l (-1 : Int) v6 n) v8) v6) < (0 : Int)) ∧ ((v5_1 = (0 : Int)) ∨ (v8 < v5_1)))) → J3 v8) ∧ (¬ ((¬ lat (lat (leastM n l (-1 : Int) v6 n) v8) v6 = (1152921504606846976 : Int)) ∧ (((lat (lat (leastM n l (-1 : Int) v6 n) v8) v6) < (0 : Int)) ∧ ((v5_1 = (0 : Int)) ∨ (v8 < v5_1)))) → J3 v5_1)))) ∧ (¬ (v8 ≤ n) → (inI (v6 + (1 : Int))) ∧ (I1 v5_1 (v6 + (1 : Int)) ∧ μ1 v5_1 (v6 + (1 : Int)) < μ1 v5 v6))) ∧ (¬ (v6 < n) → ∃ (I4 : Int → Prop) (μ4 : Int → Nat), I4 (0 : Int) ∧ ∀ (v9 : Int), I4 v9 → (((v9 < ((l.length : Nat) : Int)) ∧ ((0 : Int) < v5)) → (0 ≤ v9 ∧ v9 < (l.length : Int)) ∧ (inI (v5 - (1 : Int))) ∧ (LeastOk n l v9 ((lat l v9).f) (v5 - (1 : Int))) ∧ (0 ≤ v9 ∧ v9 < (l.length : Int)) ∧ (0 ≤ v9 ∧ v9 < (l.length : Int)) ∧ ∃ J5 : List Int → Int → Int → Prop, (∀ (r0 : List Int) (v11 : Int) (v12 : Int), J5 r0 v11 v12 → (((((r0.length : Nat) : Int) = v5) → (0 ≤ v9 ∧ v9 < (l.length : Int)) ∧ True) ∧ (¬ (((r0.length : Nat) : Int) = v5) → True)) ∧ ((((((r0.length : Nat) : Int) = v5) ∧ ((v11 = (lat l v9).f) ∧ (v12 < (0 : Int)))) → Post r0) ∧ (¬ ((((r0.length : Nat) : Int) = v5) ∧ ((v11 = (lat l v9).f) ∧ (v12 < (0 : Int)))) → (inI (v9 + (1 : Int))) ∧ (I4 (v9 + (1 : Int)) ∧ μ4 (v9 + (1 : Int)) < μ4 v9)))) ∧ (∃ (I6 : Int → Int → List Int → Prop) (μ6 : Int → Int → List Int → Nat), I6 ((lat l v9).t) ((lat l v9).m) [v9] ∧ ∀ (v11 : Int) (v12 : Int) (r0 : List Int), I6 v11 v12 r0 → ((((r0.length : Nat) : Int) < v5) → (inI (v9 + (1 : Int))) ∧ ∃ (I7 : Int → Int → Prop) (μ7 : Int → Int → Nat), I7 (-1 : Int) (v9 + (1 : Int)) ∧ ∀ (v14 : Int) (v15 : Int), I7 v14 v15 → (((v15 < ((l.length : Nat) : Int)) ∧ (v14 < (0 : Int))) → ∃ J8 : Int → Prop, (∀ (v14_1 : Int), J8 v14_1 → (inI (v15 + (1 : Int))) ∧ (I7 v14_1 (v15 + (1 : Int)) ∧ μ7 v14_1 (v15 + (1 : Int)) < μ7 v14 v15)) ∧ ((0 ≤ v15 ∧ v15 < (l.length : Int)) ∧ (inI (v12 + ((lat l v15).m))) ∧ (inI (v5 - ((r0.length : Nat) : Int))) ∧ (inI ((v5 - ((r0.length : Nat) : Int)) - (1 : Int))) ∧ (0 ≤ ((v5 - ((r0.length : Nat) : Int)) - (1 : Int)) ∧ ((v5 - ((r0.length : Nat) : Int)) - (1 : Int)) < ((leastM n l v9 ((lat l v9).f) (v5 - (1 : Int))).length : Int)) ∧ (0 ≤ v15 ∧ v15 < (l.length : Int)) ∧ (0 ≤ ((lat l v15).t) ∧ ((lat l v15).t) < ((lat (leastM n l v9 ((lat l v9).f) (v5 - (1 : Int))) ((v5 - ((r0.length : Nat) : Int)) - (1 : Int))).length : Int)) ∧ (¬ (v12 + ((lat l v15).m)) = NB → ¬ (lat (lat (leastM n l v9 ((lat l v9).f) (v5 - (1 : Int))) ((v5 - ((r0.length : Nat) : Int)) - (1 : Int))) ((lat l v15).t)) = NB → inI ((v12 + ((lat l v15).m)) + (lat (lat (leastM n l v9 ((lat l v9).f) (v5 - (1 : Int))) ((v5 - ((r0.length : Nat) : Int)) - (1 : Int))) ((lat l v15).t)))) ∧ ((0 ≤ v15 ∧ v15 < (l.length : Int)) ∧ True) ∧ (((((lat l v15).f = v11) ∧ ((¬ plusM (v12 + ((lat l v15).m)) (lat (lat (leastM n l v9 ((lat l v9).f) (v5 - (1 : Int))) ((v5 - ((r0.length : Nat) : Int)) - (1 : Int))) ((lat l v15).t)) = (1152921504606846976 : Int)) ∧ ((plusM (v12 + ((lat l v15).m)) (lat (lat (leastM n l v9 ((lat l v9).f) (v5 - (1 : Int))) ((v5 - ((r0.length : Nat) : Int)) - (1 : Int))) ((lat l v15).t))) < (0 : Int)))) → J8 v15) ∧ (¬ (((lat l v15).f = v11) ∧ ((¬ plusM (v12 + ((lat l v15).m)) (lat (lat (leastM n l v9 ((lat l v9).f) (v5 - (1 : Int))) ((v5 - ((r0.length : Nat) : Int)) - (1 : Int))) ((lat l v15).t)) = (1152921504606846976 : Int)) ∧ ((plusM (v12 + ((lat l v15).m)) (lat (lat (leastM n l v9 ((lat l v9).f) (v5 - (1 : Int))) ((v5 - ((r0.length : Nat) : Int)) - (1 : Int))) ((lat l v15).t))) < (0 : Int)))) → J8 v14)))) ∧ (¬ ((v15 < ((l.length : Nat) : Int)) ∧ (v14 < (0 : Int))) → ((v14 < (0 : Int)) → J5 r0 v11 v12) ∧ (¬ (v14 < (0 : Int)) → (0 ≤ v14 ∧ v14 < (l.length : Int)) ∧ (inI (v12 + ((lat l v14).m))) ∧ (0 ≤ v14 ∧ v14 < (l.length : Int)) ∧ ((r0 ++ [v14]).length ≤ 1073741824) ∧ (I6 ((lat l v14).t) (v12 + ((lat l v14).m)) (r0 ++ [v14]) ∧ μ6 ((lat l v14).t) (v12 + ((lat l v14).m)) (r0 ++ [v14]) < μ6 v11 v12 r0)))) ∧ (¬ (((r0.length : Nat) : Int) < v5) → J5 r0 v11 v12))) ∧ (¬ ((v9 < ((l.length : Nat) : Int)) ∧ ((0 : Int) < v5)) → Post []))
set_option maxRecDepth 100000 in
set_option maxHeartbeats 4000000 in
theorem walk_rfirst {n : Int} {l : (List Con)} {Post : (List Int) → Prop} (hv : vc_rfirst n l Post) : FnP Try.prog 30 [.int .i64 n, .lst true l.length (encL e25 l)] (fun x => ∃ q0, x = .lst false q0.length (encL eInt q0) ∧ Post q0) := by
 refine FnP.of_walk (T := tt) (nt := 184) ttOk ttMix ⟨⟨Try.f30, Try.func30, rfl, rfl, rfl, rfl⟩⟩ (by simp) ?_
 unfold vc_rfirst at hv
 change W _ _ _ ⟨184, look [(0, .int .i64 n), (1, .lst true l.length (encL e25 l))], [], false⟩ _
 refine W.tr [(0, .int _ _), (1, .lst _ _ _)] [] ⟨rfl, rfl, trivial⟩ rfl ?_
 refine W.rL ?_
 refine cL rfl (o_assign (v := .nilS) rfl ?_)
 refine eL ?_
 refine W.tr [(0, .int _ _), (1, .lst _ _ _)] [] ⟨rfl, rfl, trivial⟩ rfl ?_
 refine W.rL ?_
 refine aI rfl rfl ?_
 refine eL ?_
 refine W.tr [(0, .int _ _), (1, .lst _ _ _), (5, .int _ _)] [] ⟨rfl, rfl, rfl, trivial⟩ rfl ?_
 refine W.seq' ?_
 refine W.rL ?_
 refine aI rfl rfl ?_
 refine eL ?_
 refine W.tr [(0, .int _ _), (1, .lst _ _ _), (5, .int _ _), (6, .int _ _)] [] ⟨rfl, rfl, rfl, rfl, trivial⟩ rfl ?_
 refine W.block ?_
 obtain ⟨I1, μ1, hp, hv⟩ := hv
 refine W.loop2 (fun v5 v6 => ⟨184, look [(0, .int .i64 n), (1, .lst true l.length (encL e25 l)), (5, .int .i64 v5), (6, .int .i64 v6)], [], false⟩) I1 μ1 (0 : Int) (0 : Int) (St.to_mk (φ := []) rfl (.inl rfl) ⟨Ren.int _ _, Ren.lst _ _ _, Ren.int _ _, Ren.int _ _, trivial⟩ trivial) hp ?_
 clear hp
 intro v5 v6 hI
 replace hv := hv v5 v6 hI
 clear hI
 refine W.seq' ?_
 refine W.rL ?_
 iterate 2 refine mI rfl rfl ?_
 refine cL rfl (o_lss rfl rfl ?_)
 refine eL ?_
 refine W.tr [(0, .int _ _), (1, .lst _ _ _), (5, .int _ _), (6, .int _ _), (19, .bool _)] [] ⟨rfl, rfl, rfl, rfl, rfl, trivial⟩ rfl ?_
 refine W.cn rfl (fun hc => ?_) (fun hc => ?_)
 have hv := hv.1 hc
 refine W.skip ?_
 refine th_nrm ?_
 refine W.tr [(0, .int _ _), (1, .lst _ _ _), (5, .int _ _), (6, .int _ _)] [] ⟨rfl, rfl, rfl, rfl, trivial⟩ rfl ?_
 refine W.seq' ?_
 refine W.block ?_
 refine W.rL ?_
 refine mI rfl rfl ?_
 refine mL rfl rfl ?_
 iterate 2 refine mI rfl rfl ?_
 obtain ⟨s249, hv⟩ := hv
 refine cL rfl (o_callP1 (k := 56) (fst := []) (caps := []) (ys := [.int _ _, .lst _ _ _, .int _ _, .int _ _, .int _ _]) rfl rfl (spec_least n l (-1 : Int) v6 n s249) (Wks.cons (ag_int _ _ _ _) (Wks.cons (ag_lst _ _ _ _ _) (Wks.cons (ag_int _ _ _ _) (Wks.cons (ag_int _ _ _ _) (Wks.cons (ag_int _ _ _ _) (Wks.refl _)))))) ?_)
 refine aL rfl rfl ?_
 refine eL ?_
 refine W.tr [(0, .int _ _), (1, .lst _ _ _), (5, .int _ _), (6, .int _ _), (7, .lst _ _ _)] [] ⟨rfl, rfl, rfl, rfl, rfl, trivial⟩ rfl ?_
 refine W.rL ?_
 refine aI rfl rfl ?_
 refine eL ?_
 refine W.tr [(0, .int _ _), (1, .lst _ _ _), (5, .int _ _), (6, .int _ _), (7, .lst _ _ _), (8, .int _ _)] [] ⟨rfl, rfl, rfl, rfl, rfl, rfl, trivial⟩ rfl ?_
 refine W.block ?_
 obtain ⟨I2, μ2, hp, hv⟩ := hv
 refine W.loop2 (fun v5_1 v8 => ⟨184, look [(0, .int .i64 n), (1, .lst true l.length (encL e25 l)), (5, .int .i64 v5_1), (6, .int .i64 v6), (7, .lst false (leastM n l (-1 : Int) v6 n).length (encL (eSl eInt true) (leastM n l (-1 : Int) v6 n))), (8, .int .i64 v8)], [], false⟩) I2 μ2 v5 (1 : Int) (St.to_mk (φ := []) rfl (.inl rfl) ⟨Ren.int _ _, Ren.lst _ _ _, Ren.int _ _, Ren.int _ _, Ren.lst _ _ _, Ren.int _ _, trivial⟩ trivial) hp ?_
 clear hp
 intro v5_1 v8 hI
 replace hv := hv v5_1 v8 hI
 clear hI
 refine W.seq' ?_
 refine W.rL ?_
 iterate 2 refine mI rfl rfl ?_
 refine cL rfl (o_leq rfl rfl ?_)
 refine eL ?_
 refine W.tr [(0, .int _ _), (1, .lst _ _ _), (5, .int _ _), (6, .int _ _), (7, .lst _ _ _), (8, .int _ _), (29, .bool _)] [] ⟨rfl, rfl, rfl, rfl, rfl, rfl, rfl, trivial⟩ rfl ?_
 refine W.cn rfl (fun hc => ?_) (fun hc => ?_)
 have hv := hv.1 hc
 refine W.skip ?_
 refine th_nrm ?_
 refine W.tr [(0, .int _ _), (1, .lst _ _ _), (5, .int _ _), (6, .int _ _), (7, .lst _ _ _), (8, .int _ _)] [] ⟨rfl, rfl, rfl, rfl, rfl, rfl, trivial⟩ rfl ?_
 obtain ⟨J3, hj, hv⟩ := hv
 refine W.mid1 (fun v5_2 => ⟨184, look [(0, .int .i64 n), (1, .lst true l.length (encL e25 l)), (5, .int .i64 v5_2), (6, .int .i64 v6), (7, .lst false (leastM n l (-1 : Int) v6 n).length (encL (eSl eInt true) (leastM n l (-1 : Int) v6 n))), (8, .int .i64 v8)], [], false⟩) J3 ?_ ?_
 intro v5_2
 intro hv
 replace hv := hj v5_2 hv
 refine W.rL1 ?_
 refine mI rfl rfl ?_
 obtain ⟨s275, hv⟩ := hv
 refine cL rfl (o_add rfl rfl s275 ?_)
 refine aI rfl rfl ?_
 refine eL ?_
 exact th_nrm (⟨(), v5_2, (v8 + (1 : Int)), hv, St.to_mk (φ := []) rfl (.inl rfl) ⟨Ren.int _ _, Ren.lst _ _ _, Ren.int _ _, Ren.int _ _, Ren.lst _ _ _, Ren.int _ _, trivial⟩ trivial⟩)
 clear hj
 refine W.block ?_
 obtain ⟨sd, hv⟩ := hv
 refine W.rLm ⟨184, look [(0, .int .i64 n), (1, .lst true l.length (encL e25 l)), (5, .int .i64 v5_1), (6, .int .i64 v6), (7, .lst false (leastM n l (-1 : Int) v6 n).length (encL (eSl eInt true) (leastM n l (-1 : Int) v6 n))), (8, .int .i64 v8), (58, .bool (decide ((¬ lat (lat (leastM n l (-1 : Int) v6 n) v8) v6 = (1152921504606846976 : Int)) ∧ (((lat (lat (leastM n l (-1 : Int) v6 n) v8) v6) < (0 : Int)) ∧ ((v5_1 = (0 : Int)) ∨ (v8 < v5_1))))))], [], false⟩ ?_ ?_
 refine mL rfl rfl ?_
 refine mI rfl rfl ?_
 obtain ⟨s280, sd⟩ := sd
 refine cL rfl (o_iaL tt32 tt35 rfl rfl ((encSl eInt).wd true) rfl s280 ?_)
 intro rest280
 refine cL rfl (o_ldS (v := .lst _ _ _) tt35 rfl rfl ⟨_, rfl⟩ ?_)
 refine mI rfl rfl ?_
 obtain ⟨s281, sd⟩ := sd
 refine cL rfl (o_iaL tt35 tt3 rfl rfl (encInt.wd true) rfl s281 ?_)
 intro rest281
 refine cL rfl (o_ldS (v := .int _ _) tt3 rfl rfl ⟨_, rfl⟩ ?_)
 refine cL rfl (o_neI rfl rfl rfl ?_)
 refine mB rfl rfl ?_
 by_cases c1 : ¬ lat (lat (leastM n l (-1 : Int) v6 n) v8) v6 = (1152921504606846976 : Int)
 have sd := sd.1 c1
 refine cLg rfl rfl (decide_eq_true c1) ?_
 refine mL rfl rfl ?_
 refine cLg rfl rfl (decide_eq_true c1) ?_
 refine mI rfl rfl ?_
 refine cLg rfl rfl (decide_eq_true c1) ?_
 obtain ⟨s282, sd⟩ := sd
 refine cL rfl (o_iaL tt32 tt35 rfl rfl ((encSl eInt).wd true) rfl s282 ?_)
 intro rest282
 refine cLg rfl rfl (decide_eq_true c1) ?_
 refine cL rfl (o_ldS (v := .lst _ _ _) tt35 rfl rfl ⟨_, rfl⟩ ?_)
 refine cLg rfl rfl (decide_eq_true c1) ?_
 refine mI rfl rfl ?_
 refine cLg rfl rfl (decide_eq_true c1) ?_
 obtain ⟨s283, sd⟩ := sd
 refine cL rfl (o_iaL tt35 tt3 rfl rfl (encInt.wd true) rfl s283 ?_)
 intro rest283
 refine cLg rfl rfl (decide_eq_true c1) ?_
 refine cL rfl (o_ldS (v := .int _ _) tt3 rfl rfl ⟨_, rfl⟩ ?_)
 refine cLg rfl rfl (decide_eq_true c1) ?_
 refine cL rfl (o_lss rfl rfl ?_)
 refine cL rfl (o_pickT (v := .bool _) rfl (decide_eq_true c1) rfl ?_)
 refine mB rfl rfl ?_
 by_cases c2 : (lat (lat (leastM n l (-1 : Int) v6 n) v8) v6) < (0 : Int)
 refine cLg rfl rfl (decide_eq_true c2) ?_
 refine mI rfl rfl ?_
 refine cLg rfl rfl (decide_eq_true c2) ?_
 refine cL rfl (o_eqI rfl rfl rfl ?_)
 refine cLg rfl rfl (decide_eq_true c2) ?_
 refine mB rfl rfl ?_
 by_cases c3 : v5_1 = (0 : Int)
 iterate 3 refine cLs rfl rfl rfl (decide_eq_true c3) ?_
 refine cLg rfl rfl (decide_eq_true c2) ?_
 refine cL rfl (o_pickT (v := .bool _) rfl (decide_eq_true c3) rfl ?_)
 refine cL rfl (o_pickT (v := .bool _) rfl (decide_eq_true c2) rfl ?_)
 refine eL ?_
 exact le_mk ⟨rfl, rfl, rfl, rfl, rfl, rfl, (congrArg AV.bool (dAndT c1 (dAndT c2 (dOrT c3)))).symm, trivial⟩ rfl
 refine cLg rfl rfl (decide_eq_false c3) ?_
 refine mI rfl rfl ?_
 refine cLg rfl rfl (decide_eq_false c3) ?_
 refine mI rfl rfl ?_
 refine cLg rfl rfl (decide_eq_false c3) ?_
 refine cL rfl (o_lss rfl rfl ?_)
 refine cLg rfl rfl (decide_eq_true c2) ?_
 refine cL rfl (o_pickF (v := .bool _) rfl (decide_eq_false c3) rfl ?_)
 refine cL rfl (o_pickT (v := .bool _) rfl (decide_eq_true c2) rfl ?_)
 refine eL ?_
 exact le_mk ⟨rfl, rfl, rfl, rfl, rfl, rfl, (congrArg AV.bool (dAndT c1 (dAndT c2 (dOrF c3 (rfl))))).symm, trivial⟩ rfl
 iterate 3 refine cLs rfl rfl rfl (decide_eq_false c2) ?_
 iterate 3 refine cLu rfl rfl rfl ?_
 refine cLs rfl rfl rfl (decide_eq_false c2) ?_
 refine cL rfl (o_pickF (v := .bool _) rfl (decide_eq_false c2) rfl ?_)
 refine eL ?_
 exact le_mk ⟨rfl, rfl, rfl, rfl, rfl, rfl, (congrArg AV.bool (dAndT c1 (dAndF c2))).symm, trivial⟩ rfl
 iterate 8 refine cLs rfl rfl rfl (decide_eq_false c1) ?_
 refine cL rfl (o_pickF (v := .bool _) rfl (decide_eq_false c1) rfl ?_)
 refine mB rfl rfl ?_
 iterate 3 refine cLs rfl rfl rfl (rfl) ?_
 iterate 3 refine cLu rfl rfl rfl ?_
 refine cLs rfl rfl rfl (rfl) ?_
 refine cL rfl (o_pickF (v := .bool _) rfl rfl rfl ?_)
 refine eL ?_
 exact le_mk ⟨rfl, rfl, rfl, rfl, rfl, rfl, (congrArg AV.bool (dAndF c1)).symm, trivial⟩ rfl
 refine W.cn rfl (fun hc => ?_) (fun hc => ?_)
 have hv := hv.1 hc
 refine W.rL1 ?_
 refine mI rfl rfl ?_
 refine aI rfl rfl ?_
 refine eL ?_
 exact bl_nrm (th_nrm (⟨(), v8, hv, St.to_mk (φ := []) rfl (.inl rfl) ⟨Ren.int _ _, Ren.lst _ _ _, Ren.int _ _, Ren.int _ _, Ren.lst _ _ _, Ren.int _ _, trivial⟩ trivial⟩))
 have hv := hv.2 hc
 refine W.skip ?_
 exact bl_nrm (th_nrm (⟨(), v5_1, hv, St.to_mk (φ := []) rfl (.inl rfl) ⟨Ren.int _ _, Ren.lst _ _ _, Ren.int _ _, Ren.int _ _, Ren.lst _ _ _, Ren.int _ _, trivial⟩ trivial⟩))
 have hv := hv.2 hc
 refine W.exit ?_
 refine th_exit (th_exit (bl_hit (bl_nrm (th_nrm ?_))))
 refine W.tr [(0, .int _ _), (1, .lst _ _ _), (5, .int _ _), (6, .int _ _)] [] ⟨rfl, rfl, rfl, rfl, trivial⟩ rfl ?_
 refine W.rL1 ?_
 refine mI rfl rfl ?_
 obtain ⟨s284, hv⟩ := hv
 refine cL rfl (o_add rfl rfl s284 ?_)
 refine aI rfl rfl ?_
 refine eL ?_
 exact th_nrm (⟨(), v5_1, (v6 + (1 : Int)), hv, St.to_mk (φ := []) rfl (.inl rfl) ⟨Ren.int _ _, Ren.lst _ _ _, Ren.int _ _, Ren.int _ _, trivial⟩ trivial⟩)
 have hv := hv.2 hc
 refine W.exit ?_
 refine th_exit (th_exit (bl_hit (th_nrm ?_)))
 refine W.tr [(0, .int _ _), (1, .lst _ _ _), (5, .int _ _)] [] ⟨rfl, rfl, rfl, trivial⟩ rfl ?_
 refine W.seq' ?_
 refine W.rL ?_
 refine aI rfl rfl ?_
 refine eL ?_
 refine W.tr [(0, .int _ _), (1, .lst _ _ _), (5, .int _ _), (9, .int _ _)] [] ⟨rfl, rfl, rfl, rfl, trivial⟩ rfl ?_
 refine W.block ?_
 obtain ⟨I4, μ4, hp, hv⟩ := hv
 refine W.loop1 (fun v9 => ⟨184, look [(0, .int .i64 n), (1, .lst true l.length (encL e25 l)), (5, .int .i64 v5), (9, .int .i64 v9)], [], false⟩) I4 μ4 (0 : Int) (St.to_mk (φ := []) rfl (.inl rfl) ⟨Ren.int _ _, Ren.lst _ _ _, Ren.int _ _, Ren.int _ _, trivial⟩ trivial) hp ?_
 clear hp
 intro v9 hI
 replace hv := hv v9 hI
 clear hI
 refine W.seq' ?_
 refine W.rLm ⟨184, look [(0, .int .i64 n), (1, .lst true l.length (encL e25 l)), (5, .int .i64 v5), (9, .int .i64 v9), (67, .bool (decide ((v9 < ((l.length : Nat) : Int)) ∧ ((0 : Int) < v5))))], [], false⟩ ?_ ?_
 refine mI rfl rfl ?_
 refine mL rfl rfl ?_
 refine cL rfl (o_len (v := .lst _ _ _) tt22 rfl rfl ?_)
 refine cL rfl (o_lss rfl rfl ?_)
 refine mB rfl rfl ?_
 by_cases c1 : v9 < ((l.length : Nat) : Int)
 refine cLg rfl rfl (decide_eq_true c1) ?_
 refine mI rfl rfl ?_
 refine cLg rfl rfl (decide_eq_true c1) ?_
 refine cL rfl (o_gtr rfl rfl ?_)
 refine cL rfl (o_pickT (v := .bool _) rfl (decide_eq_true c1) rfl ?_)
 refine eL ?_
 exact le_mk ⟨rfl, rfl, rfl, rfl, (congrArg AV.bool (dAndT c1 (rfl))).symm, trivial⟩ rfl
 iterate 2 refine cLs rfl rfl rfl (decide_eq_false c1) ?_
 refine cL rfl (o_pickF (v := .bool _) rfl (decide_eq_false c1) rfl ?_)
 refine eL ?_
 exact le_mk ⟨rfl, rfl, rfl, rfl, (congrArg AV.bool (dAndF c1)).symm, trivial⟩ rfl
 refine W.cn rfl (fun hc => ?_) (fun hc => ?_)
 have hv := hv.1 hc
 refine W.skip ?_
 refine th_nrm ?_
 refine W.tr [(0, .int _ _), (1, .lst _ _ _), (5, .int _ _), (9, .int _ _)] [] ⟨rfl, rfl, rfl, rfl, trivial⟩ rfl ?_
 refine W.seq' ?_
 refine W.block ?_
 refine W.rL ?_
 refine mI rfl rfl ?_
 refine mL rfl rfl ?_
 refine mI rfl rfl ?_
 refine mL rfl rfl ?_
 refine mI rfl rfl ?_
 obtain ⟨s4117, hv⟩ := hv
 refine cL rfl (o_iaL tt22 tt25 rfl rfl (enc25.wd true) rfl s4117 ?_)
 intro rest4117
 refine cL rfl (o_faP tt25 rfl tt3 rfl ?_)
 refine cL rfl (o_ldS (v := .int _ _) tt3 rfl rfl ⟨_, rfl⟩ ?_)
 refine mI rfl rfl ?_
 obtain ⟨s4118, hv⟩ := hv
 refine cL rfl (o_sub rfl rfl s4118 ?_)
 obtain ⟨s4119, hv⟩ := hv
 refine cL rfl (o_callP1 (k := 56) (fst := []) (caps := []) (ys := [.int _ _, .lst _ _ _, .int _ _, .int _ _, .int _ _]) rfl rfl (spec_least n l v9 ((lat l v9).f) (v5 - (1 : Int)) s4119) (Wks.cons (ag_int _ _ _ _) (Wks.cons (ag_lst _ _ _ _ _) (Wks.cons (ag_int _ _ _ _) (Wks.cons (ag_int _ _ _ _) (Wks.cons (ag_int _ _ _ _) (Wks.refl _)))))) ?_)
 refine aL rfl rfl ?_
 refine eL ?_
 refine W.tr [(0, .int _ _), (1, .lst _ _ _), (5, .int _ _), (9, .int _ _), (10, .lst _ _ _)] [] ⟨rfl, rfl, rfl, rfl, rfl, trivial⟩ rfl ?_
 refine W.rL ?_
 refine mL rfl rfl ?_
 refine mI rfl rfl ?_
 obtain ⟨s4120, hv⟩ := hv
 refine cL rfl (o_iaL tt22 tt25 rfl rfl (enc25.wd true) rfl s4120 ?_)
 intro rest4120
 refine cL rfl (o_faP tt25 rfl tt3 rfl ?_)
 refine cL rfl (o_ldS (v := .int _ _) tt3 rfl rfl ⟨_, rfl⟩ ?_)
 refine aI rfl rfl ?_
 refine eL ?_
 refine W.tr [(0, .int _ _), (1, .lst _ _ _), (5, .int _ _), (9, .int _ _), (10, .lst _ _ _), (11, .int _ _)] [] ⟨rfl, rfl, rfl, rfl, rfl, rfl, trivial⟩ rfl ?_
 refine W.rL ?_
 refine mL rfl rfl ?_
 refine mI rfl rfl ?_
 obtain ⟨s4121, hv⟩ := hv
 refine cL rfl (o_iaL tt22 tt25 rfl rfl (enc25.wd true) rfl s4121 ?_)
 intro rest4121
 refine cL rfl (o_faP tt25 rfl tt3 rfl ?_)
 refine cL rfl (o_ldS (v := .int _ _) tt3 rfl rfl ⟨_, rfl⟩ ?_)
 refine aI rfl rfl ?_
 refine eL ?_
 refine W.tr [(0, .int _ _), (1, .lst _ _ _), (5, .int _ _), (9, .int _ _), (10, .lst _ _ _), (11, .int _ _), (12, .int _ _)] [] ⟨rfl, rfl, rfl, rfl, rfl, rfl, rfl, trivial⟩ rfl ?_
 refine W.rL ?_
 refine mI rfl rfl ?_
 refine cL rfl (o_bs1 (v := .int _ _) (q := 0) tt35 tt3 rfl rfl rfl rfl rfl rfl rfl rfl ?_)
 refine cL rfl (o_assign (v := .ref _ _ _) rfl ?_)
 refine eL ?_
 refine W.tr [(0, .int _ _), (1, .lst _ _ _), (5, .int _ _), (9, .int _ _), (10, .lst _ _ _), (11, .int _ _), (12, .int _ _), (13, .ref _ _ _)] [.row _ _ _] ⟨rfl, rfl, rfl, rfl, rfl, rfl, rfl, rfl, trivial⟩ rfl ?_
 obtain ⟨J5, hj, hv⟩ := hv
 refine W.mid3 (fun r0 v11 v12 => ⟨184, look [(0, .int .i64 n), (1, .lst true l.length (encL e25 l)), (5, .int .i64 v5), (9, .int .i64 v9), (11, .int .i64 v11), (12, .int .i64 v12), (13, .ref false 0 r0.length)], [.row 3 1 (encL eInt r0)], false⟩) J5 ?_ ?_
 intro r0 v11 v12
 intro hv
 replace hv := hj r0 v11 v12 hv
 obtain ⟨sd, hv⟩ := hv
 refine W.rLm ⟨184, look [(0, .int .i64 n), (1, .lst true l.length (encL e25 l)), (5, .int .i64 v5), (9, .int .i64 v9), (13, .ref false 0 r0.length), (182, .bool (decide ((((r0.length : Nat) : Int) = v5) ∧ ((v11 = (lat l v9).f) ∧ (v12 < (0 : Int))))))], [.row 3 1 (encL eInt r0)], false⟩ ?_ ?_
 refine cL rfl (o_move (v := .ref _ _ _) rfl ?_)
 refine cL rfl (o_len (v := .ref _ _ _) tt35 rfl rfl ?_)
 refine mI rfl rfl ?_
 refine cL rfl (o_eqI rfl rfl rfl ?_)
 refine mB rfl rfl ?_
 by_cases c1 : ((r0.length : Nat) : Int) = v5
 have sd := sd.1 c1
 refine cLg rfl rfl (decide_eq_true c1) ?_
 refine mI rfl rfl ?_
 refine cLg rfl rfl (decide_eq_true c1) ?_
 refine mL rfl rfl ?_
 refine cLg rfl rfl (decide_eq_true c1) ?_
 refine mI rfl rfl ?_
 refine cLg rfl rfl (decide_eq_true c1) ?_
 obtain ⟨s4393, sd⟩ := sd
 refine cL rfl (o_iaL tt22 tt25 rfl rfl (enc25.wd true) rfl s4393 ?_)
 intro rest4393
 refine cLg rfl rfl (decide_eq_true c1) ?_
 refine cL rfl (o_faP tt25 rfl tt3 rfl ?_)
 refine cLg rfl rfl (decide_eq_true c1) ?_
 refine cL rfl (o_ldS (v := .int _ _) tt3 rfl rfl ⟨_, rfl⟩ ?_)
 refine cLg rfl rfl (decide_eq_true c1) ?_
 refine cL rfl (o_eqI rfl rfl rfl ?_)
 refine cL rfl (o_pickT (v := .bool _) rfl (decide_eq_true c1) rfl ?_)
 refine mB rfl rfl ?_
 by_cases c2 : v11 = (lat l v9).f
 refine cLg rfl rfl (decide_eq_true c2) ?_
 refine mI rfl rfl ?_
 refine cLg rfl rfl (decide_eq_true c2) ?_
 refine cL rfl (o_lss rfl rfl ?_)
 refine cL rfl (o_pickT (v := .bool _) rfl (decide_eq_true c2) rfl ?_)
 refine eL ?_
 exact le_mk ⟨rfl, rfl, rfl, rfl, rfl, (congrArg AV.bool (dAndT c1 (dAndT c2 (rfl)))).symm, trivial⟩ rfl
 iterate 2 refine cLs rfl rfl rfl (decide_eq_false c2) ?_
 refine cL rfl (o_pickF (v := .bool _) rfl (decide_eq_false c2) rfl ?_)
 refine eL ?_
 exact le_mk ⟨rfl, rfl, rfl, rfl, rfl, (congrArg AV.bool (dAndT c1 (dAndF c2))).symm, trivial⟩ rfl
 iterate 7 refine cLs rfl rfl rfl (decide_eq_false c1) ?_
 refine cL rfl (o_pickF (v := .bool _) rfl (decide_eq_false c1) rfl ?_)
 refine mB rfl rfl ?_
 iterate 2 refine cLs rfl rfl rfl (rfl) ?_
 refine cL rfl (o_pickF (v := .bool _) rfl rfl rfl ?_)
 refine eL ?_
 exact le_mk ⟨rfl, rfl, rfl, rfl, rfl, (congrArg AV.bool (dAndF c1)).symm, trivial⟩ rfl
 refine W.cn rfl (fun hc => ?_) (fun hc => ?_)
 have hv := hv.1 hc
 refine W.rL ?_
 refine cL rfl (o_move (v := .ref _ _ _) rfl ?_)
 refine cL rfl (o_assign (v := .ref _ _ _) rfl ?_)
 refine eL ?_
 refine W.tr [(4, .ref _ _ _)] [.row _ _ _] ⟨rfl, trivial⟩ rfl ?_
 refine W.ret ?_
 refine bl_ret (th_ret (th_ret (bl_ret (th_ret (rt ?_)))))
 refine rt_t (v := .ref _ _ _) rfl ?_
 refine rt_n ?_
 exact ⟨_, rs_ref encInt 4 _ rfl rfl, r0, rfl, hv⟩
 have hv := hv.2 hc
 refine W.skip ?_
 refine bl_nrm (th_nrm ?_)
 refine W.tr [(0, .int _ _), (1, .lst _ _ _), (5, .int _ _), (9, .int _ _)] [.row _ _ _] ⟨rfl, rfl, rfl, rfl, trivial⟩ rfl ?_
 refine W.rL1 ?_
 refine mI rfl rfl ?_
 obtain ⟨s4394, hv⟩ := hv
 refine cL rfl (o_add rfl rfl s4394 ?_)
 refine aI rfl rfl ?_
 refine eL ?_
 exact th_nrm (⟨(), (v9 + (1 : Int)), hv, St.to_mk (φ := []) rfl (.inl rfl) ⟨Ren.int _ _, Ren.lst _ _ _, Ren.int _ _, Ren.int _ _, trivial⟩ trivial⟩)
 clear hj
 refine W.block ?_
 obtain ⟨I6, μ6, hp, hv⟩ := hv
 refine W.loop3 (fun v11 v12 r0 => ⟨184, look [(0, .int .i64 n), (1, .lst true l.length (encL e25 l)), (5, .int .i64 v5), (9, .int .i64 v9), (10, .lst false (leastM n l v9 ((lat l v9).f) (v5 - (1 : Int))).length (encL (eSl eInt true) (leastM n l v9 ((lat l v9).f) (v5 - (1 : Int))))), (11, .int .i64 v11), (12, .int .i64 v12), (13, .ref false 0 r0.length)], [.row 3 1 (encL eInt r0)], false⟩) I6 μ6 ((lat l v9).t) ((lat l v9).m) [v9] (St.to_mk (φ := [some 0]) rfl (.inl rfl) ⟨Ren.int _ _, Ren.lst _ _ _, Ren.int _ _, Ren.int _ _, Ren.lst _ _ _, Ren.int _ _, Ren.int _ _, Ren.ref rfl (fun h => h), trivial⟩ ⟨.inr ⟨_, rfl, rfl, rfl, rfl, Rens.enc encInt false [v9]⟩, trivial⟩) hp ?_
 clear hp
 intro v11 v12 r0 hI
 replace hv := hv v11 v12 r0 hI
 clear hI
 refine W.seq' ?_
 refine W.rL ?_
 refine cL rfl (o_move (v := .ref _ _ _) rfl ?_)
 refine cL rfl (o_len (v := .ref _ _ _) tt35 rfl rfl ?_)
 refine mI rfl rfl ?_
 refine cL rfl (o_lss rfl rfl ?_)
 refine eL ?_
 refine W.tr [(0, .int _ _), (1, .lst _ _ _), (5, .int _ _), (9, .int _ _), (10, .lst _ _ _), (11, .int _ _), (12, .int _ _), (13, .ref _ _ _), (96, .bool _)] [.row _ _ _] ⟨rfl, rfl, rfl, rfl, rfl, rfl, rfl, rfl, rfl, trivial⟩ rfl ?_
 refine W.cn rfl (fun hc => ?_) (fun hc => ?_)
 have hv := hv.1 hc
 refine W.skip ?_
 refine th_nrm ?_
 refine W.tr [(0, .int _ _), (1, .lst _ _ _), (5, .int _ _), (9, .int _ _), (10, .lst _ _ _), (11, .int _ _), (12, .int _ _), (13, .ref _ _ _)] [.row _ _ _] ⟨rfl, rfl, rfl, rfl, rfl, rfl, rfl, rfl, trivial⟩ rfl ?_
 refine W.block ?_
 refine W.rL ?_
 refine aI rfl rfl ?_
 refine eL ?_
 refine W.tr [(0, .int _ _), (1, .lst _ _ _), (5, .int _ _), (9, .int _ _), (10, .lst _ _ _), (11, .int _ _), (12, .int _ _), (13, .ref _ _ _), (14, .int _ _)] [.row _ _ _] ⟨rfl, rfl, rfl, rfl, rfl, rfl, rfl, rfl, rfl, trivial⟩ rfl ?_
 refine W.seq' ?_
 refine W.rL ?_
 refine mI rfl rfl ?_
 obtain ⟨s4618, hv⟩ := hv
 refine cL rfl (o_add rfl rfl s4618 ?_)
 refine aI rfl rfl ?_
 refine eL ?_
 refine W.tr [(0, .int _ _), (1, .lst _ _ _), (5, .int _ _), (9, .int _ _), (10, .lst _ _ _), (11, .int _ _), (12, .int _ _), (13, .ref _ _ _), (14, .int _ _), (15, .int _ _)] [.row _ _ _] ⟨rfl, rfl, rfl, rfl, rfl, rfl, rfl, rfl, rfl, rfl, trivial⟩ rfl ?_
 refine W.block ?_
 obtain ⟨I7, μ7, hp, hv⟩ := hv
 refine W.loop2 (fun v14 v15 => ⟨184, look [(0, .int .i64 n), (1, .lst true l.length (encL e25 l)), (5, .int .i64 v5), (9, .int .i64 v9), (10, .lst false (leastM n l v9 ((lat l v9).f) (v5 - (1 : Int))).length (encL (eSl eInt true) (leastM n l v9 ((lat l v9).f) (v5 - (1 : Int))))), (11, .int .i64 v11), (12, .int .i64 v12), (13, .ref false 0 r0.length), (14, .int .i64 v14), (15, .int .i64 v15)], [.row 3 1 (encL eInt r0)], false⟩) I7 μ7 (-1 : Int) (v9 + (1 : Int)) (St.to_mk (φ := [some 0]) rfl (.inl rfl) ⟨Ren.int _ _, Ren.lst _ _ _, Ren.int _ _, Ren.int _ _, Ren.lst _ _ _, Ren.int _ _, Ren.int _ _, Ren.ref rfl (fun h => h), Ren.int _ _, Ren.int _ _, trivial⟩ ⟨.inr ⟨_, rfl, rfl, rfl, rfl, Rens.enc encInt false r0⟩, trivial⟩) hp ?_
 clear hp
 intro v14 v15 hI
 replace hv := hv v14 v15 hI
 clear hI
 refine W.seq' ?_
 refine W.rLm ⟨184, look [(0, .int .i64 n), (1, .lst true l.length (encL e25 l)), (5, .int .i64 v5), (9, .int .i64 v9), (10, .lst false (leastM n l v9 ((lat l v9).f) (v5 - (1 : Int))).length (encL (eSl eInt true) (leastM n l v9 ((lat l v9).f) (v5 - (1 : Int))))), (11, .int .i64 v11), (12, .int .i64 v12), (13, .ref false 0 r0.length), (14, .int .i64 v14), (15, .int .i64 v15), (106, .bool (decide ((v15 < ((l.length : Nat) : Int)) ∧ (v14 < (0 : Int)))))], [.row 3 1 (encL eInt r0)], false⟩ ?_ ?_
 refine mI rfl rfl ?_
 refine mL rfl rfl ?_
 refine cL rfl (o_len (v := .lst _ _ _) tt22 rfl rfl ?_)
 refine cL rfl (o_lss rfl rfl ?_)
 refine mB rfl rfl ?_
 by_cases c1 : v15 < ((l.length : Nat) : Int)
 refine cLg rfl rfl (decide_eq_true c1) ?_
 refine mI rfl rfl ?_
 refine cLg rfl rfl (decide_eq_true c1) ?_
 refine cL rfl (o_lss rfl rfl ?_)
 refine cL rfl (o_pickT (v := .bool _) rfl (decide_eq_true c1) rfl ?_)
 refine eL ?_
 exact le_mk ⟨rfl, rfl, rfl, rfl, rfl, rfl, rfl, rfl, rfl, rfl, (congrArg AV.bool (dAndT c1 (rfl))).symm, trivial⟩ rfl
 iterate 2 refine cLs rfl rfl rfl (decide_eq_false c1) ?_
 refine cL rfl (o_pickF (v := .bool _) rfl (decide_eq_false c1) rfl ?_)
 refine eL ?_
 exact le_mk ⟨rfl, rfl, rfl, rfl, rfl, rfl, rfl, rfl, rfl, rfl, (congrArg AV.bool (dAndF c1)).symm, trivial⟩ rfl
 refine W.cn rfl (fun hc => ?_) (fun hc => ?_)
 have hv := hv.1 hc
 refine W.skip ?_
 refine th_nrm ?_
 refine W.tr [(0, .int _ _), (1, .lst _ _ _), (5, .int _ _), (9, .int _ _), (10, .lst _ _ _), (11, .int _ _), (12, .int _ _), (13, .ref _ _ _), (14, .int _ _), (15, .int _ _)] [.row _ _ _] ⟨rfl, rfl, rfl, rfl, rfl, rfl, rfl, rfl, rfl, rfl, trivial⟩ rfl ?_
 obtain ⟨J8, hj, hv⟩ := hv
 refine W.mid1 (fun v14_1 => ⟨184, look [(0, .int .i64 n), (1, .lst true l.length (encL e25 l)), (5, .int .i64 v5), (9, .int .i64 v9), (10, .lst false (leastM n l v9 ((lat l v9).f) (v5 - (1 : Int))).length (encL (eSl eInt true) (leastM n l v9 ((lat l v9).f) (v5 - (1 : Int))))), (11, .int .i64 v11), (12, .int .i64 v12), (13, .ref false 0 r0.length), (14, .int .i64 v14_1), (15, .int .i64 v15)], [.row 3 1 (encL eInt r0)], false⟩) J8 ?_ ?_
 intro v14_1
 intro hv
 replace hv := hj v14_1 hv
 refine W.rL1 ?_
 refine mI rfl rfl ?_
 obtain ⟨s4650, hv⟩ := hv
 refine cL rfl (o_add rfl rfl s4650 ?_)
 refine aI rfl rfl ?_
 refine eL ?_
 exact th_nrm (⟨(), v14_1, (v15 + (1 : Int)), hv, St.to_mk (φ := [some 0]) rfl (.inl rfl) ⟨Ren.int _ _, Ren.lst _ _ _, Ren.int _ _, Ren.int _ _, Ren.lst _ _ _, Ren.int _ _, Ren.int _ _, Ren.ref rfl (fun h => h), Ren.int _ _, Ren.int _ _, trivial⟩ ⟨.inr ⟨_, rfl, rfl, rfl, rfl, Rens.enc encInt false r0⟩, trivial⟩⟩)
 clear hj
 refine W.block ?_
 refine W.rD [0, 1, 2, 3, 4, 5, 6, 7, 8, 9, 10, 11, 12, 13, 14, 15, 16, 17, 18, 19, 20, 21, 22, 23] (by decide +kernel) rfl ?_
 refine mI rfl rfl ?_
 refine mL rfl rfl ?_
 refine mI rfl rfl ?_
 obtain ⟨s4651, hv⟩ := hv
 refine cL rfl (o_iaL tt22 tt25 rfl rfl (enc25.wd true) rfl s4651 ?_)
 intro rest4651
 refine cL rfl (o_faP tt25 rfl tt3 rfl ?_)
 refine cL rfl (o_ldS (v := .int _ _) tt3 rfl rfl ⟨_, rfl⟩ ?_)
 obtain ⟨s4652, hv⟩ := hv
 refine cL rfl (o_add rfl rfl s4652 ?_)
 refine mL rfl rfl ?_
 refine mI rfl rfl ?_
 refine cL rfl (o_move (v := .ref _ _ _) rfl ?_)
 refine cL rfl (o_len (v := .ref _ _ _) tt35 rfl rfl ?_)
 obtain ⟨s4653, hv⟩ := hv
 refine cL rfl (o_sub rfl rfl s4653 ?_)
 obtain ⟨s4654, hv⟩ := hv
 refine cL rfl (o_sub rfl rfl s4654 ?_)
 obtain ⟨s4655, hv⟩ := hv
 refine cL rfl (o_iaL tt32 tt35 rfl rfl ((encSl eInt).wd true) rfl s4655 ?_)
 intro rest4655
 refine cL rfl (o_ldS (v := .lst _ _ _) tt35 rfl rfl ⟨_, rfl⟩ ?_)
 refine mL rfl rfl ?_
 refine mI rfl rfl ?_
 obtain ⟨s4656, hv⟩ := hv
 refine cL rfl (o_iaL tt22 tt25 rfl rfl (enc25.wd true) rfl s4656 ?_)
 intro rest4656
 refine cL rfl (o_faP tt25 rfl tt3 rfl ?_)
 refine cL rfl (o_ldS (v := .int _ _) tt3 rfl rfl ⟨_, rfl⟩ ?_)
 obtain ⟨s4657, hv⟩ := hv
 refine cL rfl (o_iaL tt35 tt3 rfl rfl (encInt.wd true) rfl s4657 ?_)
 intro rest4657
 refine cL rfl (o_ldS (v := .int _ _) tt3 rfl rfl ⟨_, rfl⟩ ?_)
 obtain ⟨s4658, hv⟩ := hv
 refine cL rfl (o_callP1 (k := 48) (fst := []) (caps := []) (ys := [.int _ _, .int _ _]) rfl rfl (spec_rsum (v12 + ((lat l v15).m)) (lat (lat (leastM n l v9 ((lat l v9).f) (v5 - (1 : Int))) ((v5 - ((r0.length : Nat) : Int)) - (1 : Int))) ((lat l v15).t)) s4658) (Wks.cons (ag_int _ _ _ _) (Wks.cons (ag_int _ _ _ _) (Wks.refl _))) ?_)
 refine aI rfl rfl ?_
 refine eL ?_
 refine W.tr [(0, .int _ _), (1, .lst _ _ _), (5, .int _ _), (9, .int _ _), (10, .lst _ _ _), (11, .int _ _), (12, .int _ _), (13, .ref _ _ _), (14, .int _ _), (15, .int _ _), (16, .int _ _)] [.row _ _ _] ⟨rfl, rfl, rfl, rfl, rfl, rfl, rfl, rfl, rfl, rfl, rfl, trivial⟩ rfl ?_
 obtain ⟨sd, hv⟩ := hv
 refine W.rLm ⟨184, look [(0, .int .i64 n), (1, .lst true l.length (encL e25 l)), (5, .int .i64 v5), (9, .int .i64 v9), (10, .lst false (leastM n l v9 ((lat l v9).f) (v5 - (1 : Int))).length (encL (eSl eInt true) (leastM n l v9 ((lat l v9).f) (v5 - (1 : Int))))), (11, .int .i64 v11), (12, .int .i64 v12), (13, .ref false 0 r0.length), (14, .int .i64 v14), (15, .int .i64 v15), (146, .bool (decide (((lat l v15).f = v11) ∧ ((¬ plusM (v12 + ((lat l v15).m)) (lat (lat (leastM n l v9 ((lat l v9).f) (v5 - (1 : Int))) ((v5 - ((r0.length : Nat) : Int)) - (1 : Int))) ((lat l v15).t)) = (1152921504606846976 : Int)) ∧ ((plusM (v12 + ((lat l v15).m)) (lat (lat (leastM n l v9 ((lat l v9).f) (v5 - (1 : Int))) ((v5 - ((r0.length : Nat) : Int)) - (1 : Int))) ((lat l v15).t))) < (0 : Int))))))], [.row 3 1 (encL eInt r0)], false⟩ ?_ ?_
 refine mL rfl rfl ?_
 refine mI rfl rfl ?_
 obtain ⟨s4660, sd⟩ := sd
 refine cL rfl (o_iaL tt22 tt25 rfl rfl (enc25.wd true) rfl s4660 ?_)
 intro rest4660
 refine cL rfl (o_faP tt25 rfl tt3 rfl ?_)
 refine cL rfl (o_ldS (v := .int _ _) tt3 rfl rfl ⟨_, rfl⟩ ?_)
 refine mI rfl rfl ?_
 refine cL rfl (o_eqI rfl rfl rfl ?_)
 refine mB rfl rfl ?_
 by_cases c1 : (lat l v15).f = v11
 refine cLg rfl rfl (decide_eq_true c1) ?_
 refine mI rfl rfl ?_
 refine cLg rfl rfl (decide_eq_true c1) ?_
 refine cL rfl (o_neI rfl rfl rfl ?_)
 refine cL rfl (o_pickT (v := .bool _) rfl (decide_eq_true c1) rfl ?_)
 refine mB rfl rfl ?_
 by_cases c2 : ¬ plusM (v12 + ((lat l v15).m)) (lat (lat (leastM n l v9 ((lat l v9).f) (v5 - (1 : Int))) ((v5 - ((r0.length : Nat) : Int)) - (1 : Int))) ((lat l v15).t)) = (1152921504606846976 : Int)
 refine cLg rfl rfl (decide_eq_true c2) ?_
 refine mI rfl rfl ?_
 refine cLg rfl rfl (decide_eq_true c2) ?_
 refine cL rfl (o_lss rfl rfl ?_)
 refine cL rfl (o_pickT (v := .bool _) rfl (decide_eq_true c2) rfl ?_)
 refine eL ?_
 exact le_mk ⟨rfl, rfl, rfl, rfl, rfl, rfl, rfl, rfl, rfl, rfl, (congrArg AV.bool (dAndT c1 (dAndT c2 (rfl)))).symm, trivial⟩ rfl
 iterate 2 refine cLs rfl rfl rfl (decide_eq_false c2) ?_
 refine cL rfl (o_pickF (v := .bool _) rfl (decide_eq_false c2) rfl ?_)
 refine eL ?_
 exact le_mk ⟨rfl, rfl, rfl, rfl, rfl, rfl, rfl, rfl, rfl, rfl, (congrArg AV.bool (dAndT c1 (dAndF c2))).symm, trivial⟩ rfl
 iterate 2 refine cLs rfl rfl rfl (decide_eq_false c1) ?_
 refine cL rfl (o_pickF (v := .bool _) rfl (decide_eq_false c1) rfl ?_)
 refine mB rfl rfl ?_
 iterate 2 refine cLs rfl rfl rfl (rfl) ?_
 refine cL rfl (o_pickF (v := .bool _) rfl rfl rfl ?_)
 refine eL ?_
 exact le_mk ⟨rfl, rfl, rfl, rfl, rfl, rfl, rfl, rfl, rfl, rfl, (congrArg AV.bool (dAndF c1)).symm, trivial⟩ rfl
 refine W.cn rfl (fun hc => ?_) (fun hc => ?_)
 have hv := hv.1 hc
 refine W.rL1 ?_
 refine mI rfl rfl ?_
 refine aI rfl rfl ?_
 refine eL ?_
 exact bl_nrm (th_nrm (⟨(), v15, hv, St.to_mk (φ := [some 0]) rfl (.inl rfl) ⟨Ren.int _ _, Ren.lst _ _ _, Ren.int _ _, Ren.int _ _, Ren.lst _ _ _, Ren.int _ _, Ren.int _ _, Ren.ref rfl (fun h => h), Ren.int _ _, Ren.int _ _, trivial⟩ ⟨.inr ⟨_, rfl, rfl, rfl, rfl, Rens.enc encInt false r0⟩, trivial⟩⟩))
 have hv := hv.2 hc
 refine W.skip ?_
 exact bl_nrm (th_nrm (⟨(), v14, hv, St.to_mk (φ := [some 0]) rfl (.inl rfl) ⟨Ren.int _ _, Ren.lst _ _ _, Ren.int _ _, Ren.int _ _, Ren.lst _ _ _, Ren.int _ _, Ren.int _ _, Ren.ref rfl (fun h => h), Ren.int _ _, Ren.int _ _, trivial⟩ ⟨.inr ⟨_, rfl, rfl, rfl, rfl, Rens.enc encInt false r0⟩, trivial⟩⟩))
 have hv := hv.2 hc
 refine W.exit ?_
 refine th_exit (th_exit (bl_hit (th_nrm ?_)))
 refine W.tr [(0, .int _ _), (1, .lst _ _ _), (5, .int _ _), (9, .int _ _), (10, .lst _ _ _), (11, .int _ _), (12, .int _ _), (13, .ref _ _ _), (14, .int _ _)] [.row _ _ _] ⟨rfl, rfl, rfl, rfl, rfl, rfl, rfl, rfl, rfl, trivial⟩ rfl ?_
 refine W.seq' ?_
 refine W.rL ?_
 refine mI rfl rfl ?_
 refine cL rfl (o_lss rfl rfl ?_)
 refine eL ?_
 refine W.tr [(0, .int _ _), (1, .lst _ _ _), (5, .int _ _), (9, .int _ _), (10, .lst _ _ _), (11, .int _ _), (12, .int _ _), (13, .ref _ _ _), (14, .int _ _), (149, .bool _)] [.row _ _ _] ⟨rfl, rfl, rfl, rfl, rfl, rfl, rfl, rfl, rfl, rfl, trivial⟩ rfl ?_
 refine W.cn rfl (fun hc => ?_) (fun hc => ?_)
 have hv := hv.1 hc
 refine W.exit ?_
 exact th_exit (bl_miss rfl (th_exit (bl_hit (th_nrm (⟨(), r0, v11, v12, hv, St.to_mk (φ := [some 0]) rfl (.inl rfl) ⟨Ren.int _ _, Ren.lst _ _ _, Ren.int _ _, Ren.int _ _, Ren.int _ _, Ren.int _ _, Ren.ref rfl (fun h => h), trivial⟩ ⟨.inr ⟨_, rfl, rfl, rfl, rfl, Rens.enc encInt false r0⟩, trivial⟩⟩)))))
 have hv := hv.2 hc
 refine W.skip ?_
 refine th_nrm ?_
 refine W.tr [(0, .int _ _), (1, .lst _ _ _), (5, .int _ _), (9, .int _ _), (10, .lst _ _ _), (12, .int _ _), (13, .ref _ _ _), (14, .int _ _)] [.row _ _ _] ⟨rfl, rfl, rfl, rfl, rfl, rfl, rfl, rfl, trivial⟩ rfl ?_
 refine W.rL ?_
 refine mI rfl rfl ?_
 refine mL rfl rfl ?_
 refine mI rfl rfl ?_
 obtain ⟨s4661, hv⟩ := hv
 refine cL rfl (o_iaL tt22 tt25 rfl rfl (enc25.wd true) rfl s4661 ?_)
 intro rest4661
 refine cL rfl (o_faP tt25 rfl tt3 rfl ?_)
 refine cL rfl (o_ldS (v := .int _ _) tt3 rfl rfl ⟨_, rfl⟩ ?_)
 obtain ⟨s4662, hv⟩ := hv
 refine cL rfl (o_add rfl rfl s4662 ?_)
 refine aI rfl rfl ?_
 refine eL ?_
 refine W.tr [(0, .int _ _), (1, .lst _ _ _), (5, .int _ _), (9, .int _ _), (10, .lst _ _ _), (12, .int _ _), (13, .ref _ _ _), (14, .int _ _)] [.row _ _ _] ⟨rfl, rfl, rfl, rfl, rfl, rfl, rfl, rfl, trivial⟩ rfl ?_
 refine W.rL ?_
 refine mL rfl rfl ?_
 refine mI rfl rfl ?_
 obtain ⟨s4663, hv⟩ := hv
 refine cL rfl (o_iaL tt22 tt25 rfl rfl (enc25.wd true) rfl s4663 ?_)
 intro rest4663
 refine cL rfl (o_faP tt25 rfl tt3 rfl ?_)
 refine cL rfl (o_ldS (v := .int _ _) tt3 rfl rfl ⟨_, rfl⟩ ?_)
 refine aI rfl rfl ?_
 refine eL ?_
 refine W.tr [(0, .int _ _), (1, .lst _ _ _), (5, .int _ _), (9, .int _ _), (10, .lst _ _ _), (11, .int _ _), (12, .int _ _), (13, .ref _ _ _), (14, .int _ _)] [.row _ _ _] ⟨rfl, rfl, rfl, rfl, rfl, rfl, rfl, rfl, rfl, trivial⟩ rfl ?_
 refine W.rL1 ?_
 refine cL rfl (o_move (v := .ref _ _ _) rfl ?_)
 refine mI rfl rfl ?_
 refine cL rfl (o_bs1 (v := .int _ _) (q := 1) tt35 tt3 rfl rfl rfl rfl rfl rfl rfl rfl ?_)
 obtain ⟨s4664, hv⟩ := hv
 refine cL rfl (o_apR (p := 2) (q := (r0 ++ [v14]).length) tt35 tt3 rfl rfl (src_ref rfl rfl) rfl rfl (encL_length (encInt.wd false) _) (Nat.le_trans (Nat.le_of_eq (@List.length_append _ (r0) ([v14])).symm) s4664) rfl (@List.length_append _ (r0) ([v14])).symm (encL_app eInt r0 [v14]) ?_)
 refine cL rfl (o_assign (v := .ref _ _ _) rfl ?_)
 refine eL ?_
 exact bl_nrm (th_nrm (⟨(), ((lat l v14).t), (v12 + ((lat l v14).m)), (r0 ++ [v14]), hv, St.to_mk (φ := [some 2]) rfl (.inl rfl) ⟨Ren.int _ _, Ren.lst _ _ _, Ren.int _ _, Ren.int _ _, Ren.lst _ _ _, Ren.int _ _, Ren.int _ _, Ren.ref rfl (fun h => h), trivial⟩ ⟨.inr ⟨_, rfl, rfl, rfl, rfl, Rens.enc encInt false (r0 ++ [v14])⟩, trivial⟩⟩))
 have hv := hv.2 hc
 refine W.exit ?_
 exact th_exit (th_exit (bl_hit (th_nrm (⟨(), r0, v11, v12, hv, St.to_mk (φ := [some 0]) rfl (.inl rfl) ⟨Ren.int _ _, Ren.lst _ _ _, Ren.int _ _, Ren.int _ _, Ren.int _ _, Ren.int _ _, Ren.ref rfl (fun h => h), trivial⟩ ⟨.inr ⟨_, rfl, rfl, rfl, rfl, Rens.enc encInt false r0⟩, trivial⟩⟩))))
 have hv := hv.2 hc
 refine W.exit ?_
 refine th_exit (th_exit (bl_hit (th_nrm ?_)))
 refine W.tr [] [] trivial rfl ?_
 refine W.rL ?_
 refine cL rfl (o_assign (v := .nilS) rfl ?_)
 refine eL ?_
 refine W.tr [(4, .nilS)] [] ⟨rfl, trivial⟩ rfl ?_
 refine W.ret ?_
 refine rt ?_
 refine rt_t (v := .nilS) rfl ?_
 refine rt_n ?_
 exact ⟨_, rs_nil _ _ _ _ rfl, [], rfl, hv⟩
theorem vcp_rfirst (n : Int) (l : (List Con)) (h0 : FirstOk n l) : vc_rfirst n l (fun q0 => q0 = (rfirstM n l)) := by
  unfold vc_rfirst
  have hnb := hNB
  change validM n l = true at h0
  obtain ⟨⟨hn1, hn2, hlen⟩, hp⟩ := validM_iff.mp h0
  have hg := validM_goodn h0
  have hl : ∀ c ∈ l, (0 ≤ c.f ∧ c.f < n) ∧ (0 ≤ c.t ∧ c.t < n) ∧ -1125899906842624 ≤ c.m ∧ c.m ≤ 1125899906842624 := fun c hc => by
    have := possM_iff.mp (hp c hc); omega
  have hbd : ∀ to above : Int, 0 ≤ to ∧ to < n → ∀ k e : Nat, k ≤ 25 → -28147497671065600 ≤ vat (tabD l to above k) e ∧ vat (tabD l to above k) e ≤ 1152921504606846976 := fun to above ht k e hk => by
    have := tabD_bd (l := l) (to := to) (above := above) (fun c hc => ⟨⟨(hl c hc).1.1, by have := (hl c hc).1.2; omega⟩, (hl c hc).2.2.1⟩) ⟨ht.1, by omega⟩ k e
    omega
  refine ⟨fun z v => ∃ i : Nat, v = i ∧ i ≤ n.toNat ∧ z = zenc n ((List.range i).foldl (sizeStep n l) (n + 1)), fun _ v => n.toNat - v.toNat, ⟨0, rfl, by omega, by unfold zenc; simp⟩, ?_⟩
  rintro z _ ⟨i, rfl, hi, hz⟩
  have hSb := sizeM_bd (l := l) ⟨hn1, hn2⟩ i (by omega)
  refine ⟨fun k1 => ⟨⟨h0, by omega, by omega, by omega⟩, fun z' r => ∃ k : Nat, r = k ∧ 1 ≤ k ∧ k ≤ n.toNat + 1 ∧ ((z' = z ∧ ∀ j, 1 ≤ j → j < k → ¬ vat (tabD l i (-1) j) i < 0) ∨ ∃ r0 : Nat, 1 ≤ r0 ∧ r0 < k ∧ vat (tabD l i (-1) r0) i < 0 ∧ (∀ j, 1 ≤ j → j < r0 → ¬ vat (tabD l i (-1) j) i < 0) ∧ z' = zenc n (min ((List.range i).foldl (sizeStep n l) (n + 1)) r0)), fun _ r => n.toNat + 1 - r.toNat, ⟨1, rfl, by omega, by omega, .inl ⟨rfl, fun j h1 h2 => by omega⟩⟩, ?_⟩, fun k1 => ?_⟩
  · generalize hS : (List.range i).foldl (sizeStep n l) (n + 1) = S at hz hSb
    rintro z' _ ⟨k, rfl, hk1, hk2, hkz⟩
    refine ⟨fun k2 => ?_, fun k2 => ⟨by unfold inI; omega, ⟨i + 1, by omega, by omega, ?_⟩, by first | omega | (dsimp only; omega)⟩⟩
    · rw [least_at ⟨by omega, by omega⟩ ⟨by omega, by omega⟩]
      simp only [Int.toNat_natCast]
      have hll := least_len (n := n) (l := l) (a := -1) (t := i) (k := n) (by omega)
      have hlr := least_rlen (n := n) (l := l) (a := -1) (t := i) (k := n) (q := (k : Int)) (by omega) ⟨by omega, by omega⟩
      have e1 : inI ((k : Int) + 1) := by unfold inI; omega
      have e2 : ((k : Int) + 1) = ((k + 1 : Nat) : Int) := by omega
      have e3 : 1 ≤ k + 1 := by omega
      have e4 : k + 1 ≤ n.toNat + 1 := by omega
      have e5 : n.toNat + 1 - ((k : Int) + 1).toNat < n.toNat + 1 - (k : Int).toNat := by omega
      refine ⟨fun z2 => (z2 = z ∧ ∀ j, 1 ≤ j → j < k + 1 → ¬ vat (tabD l i (-1) j) i < 0) ∨ ∃ r0 : Nat, 1 ≤ r0 ∧ r0 < k + 1 ∧ vat (tabD l i (-1) r0) i < 0 ∧ (∀ j, 1 ≤ j → j < r0 → ¬ vat (tabD l i (-1) j) i < 0) ∧ z2 = zenc n (min S r0), fun z2 h2 => ⟨e1, ⟨k + 1, e2, e3, e4, h2⟩, e5⟩, ⟨by omega, by omega, fun _ => ⟨by omega, by omega, trivial⟩, fun _ => trivial⟩, fun k3 => ?_, fun k3 => ?_⟩
      · rcases hkz with ⟨rfl, hno⟩ | ⟨r0, a1, a2, a3, a4, a5⟩
        · refine .inr ⟨k, by omega, by omega, k3.2.1, hno, ?_⟩
          have hzc : z' = 0 ∨ (k : Int) < z' := k3.2.2
          unfold zenc at hz ⊢
          split at hz <;> split <;> omega
        · exfalso
          have hzc : z' = 0 ∨ (k : Int) < z' := k3.2.2
          unfold zenc at a5
          split at a5 <;> omega
      · rcases hkz with ⟨rfl, hno⟩ | ⟨r0, a1, a2, a3, a4, a5⟩
        · by_cases hneg : vat (tabD l i (-1) k) i < 0
          · refine .inr ⟨k, by omega, by omega, hneg, hno, ?_⟩
            have hzc : ¬ (z' = 0 ∨ (k : Int) < z') := fun h => k3 ⟨by omega, hneg, h⟩
            unfold zenc at hz ⊢
            split at hz <;> split <;> omega
          · refine .inl ⟨rfl, fun j h1 h2 => ?_⟩
            rcases Nat.lt_or_ge j k with h6 | h6
            · exact hno j h1 h6
            · have : j = k := by omega
              subst this; exact hneg
        · exact .inr ⟨r0, a1, by omega, a3, a4, a5⟩
    · have hk : k = n.toNat + 1 := by omega
      have hd0 : ¬ vat (tabD l i (-1) 0) i < 0 := by
        show ¬ vat (vset _ _ _) _ < 0
        rw [vat_vset (by omega)]; simp
      rw [List.range_succ, List.foldl_append, hS]
      simp only [List.foldl_cons, List.foldl_nil]
      rcases hkz with ⟨rfl, hno⟩ | ⟨r0, a1, a2, a3, a4, a5⟩
      · have : sizeAt n l i = none := find_drop_none (a := 0) (fun j _ hj h => by
          rcases Nat.eq_zero_or_pos j with h1 | h1
          · rw [h1] at h; exact hd0 (of_decide_eq_true h)
          · exact hno j h1 (by omega) (of_decide_eq_true h))
        unfold sizeStep; rw [this]; exact hz
      · have : sizeAt n l i = some r0 := find_drop_some (a := 0) ⟨by omega, by omega⟩ (decide_eq_true a3) (fun j _ hj h => by
          rcases Nat.eq_zero_or_pos j with h1 | h1
          · rw [h1] at h; exact hd0 (of_decide_eq_true h)
          · exact a4 j h1 hj (of_decide_eq_true h))
        unfold sizeStep; rw [this]; exact a5
  have hin : i = n.toNat := by omega
  have hzs : z = zenc n (sizeM n l) := by rw [hz, hin, sizeM_eq]
  have hSM : 1 ≤ sizeM n l ∧ sizeM n l ≤ n + 1 := by
    have := sizeM_bd (l := l) ⟨hn1, hn2⟩ n.toNat (by omega)
    rw [← sizeM_eq] at this; exact this
  clear hz hSb k1 hi
  have hz1 : 0 < z → z = sizeM n l ∧ z ≤ n := fun h => by unfold zenc at hzs; split at hzs <;> omega
  refine ⟨fun v => ∃ s : Nat, v = s ∧ s ≤ l.length ∧ (0 < z → ∀ j, j < s → firstAt l z j = none), fun v => l.length - v.toNat, ⟨0, rfl, by omega, fun _ j hj => by omega⟩, ?_⟩
  rintro _ ⟨s, rfl, hs, hsn⟩
  refine ⟨fun k2 => ?_, fun k2 => ?_⟩
  rotate_left
  · show [] = rfirstM n l
    unfold rfirstM
    split
    · rename_i h
      have hzz : z = sizeM n l := by unfold zenc at hzs; rw [if_neg (by omega)] at hzs; exact hzs
      unfold firstM
      rw [← hzz, findSome_range_none fun j hj => hsn (by omega) j (by omega)]; rfl
    · rfl
  have hsn := hsn k2.2
  obtain ⟨hz2, hz3⟩ := hz1 k2.2
  have hslt : s < l.length := by omega
  have hc := hl _ (lat_mem (xs := l) (i := s) ⟨by omega, by omega⟩)
  have hcl : lat l (s : Int) = l.getD s default := lat_nat l s
  rw [hcl] at hc ⊢
  have hlt := fun q (hq : 0 ≤ q ∧ q ≤ z - 1) u (hu : 0 ≤ u ∧ u < n) => least_at (n := n) (l := l) (a := (s : Int)) (t := (l.getD s default).f) (k := z - 1) (q := q) (u := u) hq hu
  have hll := least_len (n := n) (l := l) (a := (s : Int)) (t := (l.getD s default).f) (k := z - 1) (by omega)
  have hlr := fun q (hq : 0 ≤ q ∧ q ≤ z - 1) => least_rlen (n := n) (l := l) (a := (s : Int)) (t := (l.getD s default).f) (k := z - 1) (q := q) (by omega) hq
  have hd0 := fun k e => hbd (l.getD s default).f s hc.1 k e
  generalize hTL : leastM n l (s : Int) (l.getD s default).f (z - 1) = TL at hlt hll hlr ⊢
  refine ⟨by omega, by unfold inI; omega, ⟨h0, by omega, hc.1, by omega⟩, by omega, by omega, fun out a t => ((out.length : Int) = z ∧ (a = (l.getD s default).f ∧ t < 0) → firstAt l z s = some out) ∧ (¬ ((out.length : Int) = z ∧ (a = (l.getD s default).f ∧ t < 0)) → firstAt l z s = none), fun out a t hJ => ⟨⟨fun _ => ⟨by omega, trivial⟩, fun _ => trivial⟩, fun k3 => ?_, fun k3 => ⟨by unfold inI; omega, ⟨s + 1, by omega, by omega, fun _ j hj => ?_⟩, by first | omega | (dsimp only; omega)⟩⟩, ?_⟩
  · show out = rfirstM n l
    unfold rfirstM
    rw [if_pos (by omega)]
    unfold firstM
    rw [← hz2, findSome_range_some (i := s) (by omega) (hJ.1 k3) hsn]; rfl
  · rcases Nat.lt_or_ge j s with h6 | h6
    · exact hsn j h6
    · have : j = s := by omega
      subst this; exact hJ.2 k3
  refine ⟨fun a t out => ∃ (k : Nat) (e : List Int), out = (s : Int) :: e ∧ chainC l (tabD l (l.getD s default).f s) z s z.toNat [(s : Int)] (l.getD s default).t (l.getD s default).m = chainC l (tabD l (l.getD s default).f s) z s k out a t ∧ z ≤ k + out.length ∧ (out.length : Int) ≤ z ∧ (∀ i ∈ e, (s : Int) + 1 ≤ i ∧ i < (l.length : Int)) ∧ Wk2 (l.getD s default).t.toNat (e.map (lat l)) a.toNat ∧ t = (l.getD s default).m + wt (e.map (lat l)) ∧ (0 ≤ a ∧ a < n), fun _ _ out => z.toNat - out.length, ⟨z.toNat, [], rfl, rfl, by simp; omega, by simp; omega, fun i hi => by (cases hi), rfl, by simp [wt_nil], hc.2.1⟩, ?_⟩
  rintro a t out ⟨k, e, ho, hk, hkz, hoz, hem, hew, het, hea⟩
  have hemb : ∀ d ∈ e.map (lat l), d ∈ l := fun d hd => by
    rw [List.mem_map] at hd
    obtain ⟨i, hi, rfl⟩ := hd
    have := hem i hi
    exact lat_mem ⟨by omega, by omega⟩
  have htb := wt_bd hg hemb
  have hol : out.length = e.length + 1 := by rw [ho]; simp
  have hml : (e.map (lat l)).length = e.length := by simp
  have hnone : chainC l (tabD l (l.getD s default).f s) z s z.toNat [(s : Int)] (l.getD s default).t (l.getD s default).m = none → firstAt l z s = none := fun hC => by
    rcases firstAt_spec (by omega) hg (by omega) (size := z) (by omega) hslt with h | ⟨ext, h, -⟩
    · exact h.2
    · have hP : ¬ 0 ≤ plusM (l.getD s default).m (vat (tabD l (l.getD s default).f s (z - 1).toNat) (l.getD s default).t.toNat) := fun hp => by
        rw [firstAt_none hp] at h; cases h
      rw [firstAt_some hP] at h ⊢
      exact hC
  refine ⟨fun h4 => ⟨by unfold inI; omega, fun v w => ∃ i : Nat, w = i ∧ s + 1 ≤ i ∧ i ≤ l.length ∧ ((v = -1 ∧ ∀ j, s + 1 ≤ j → j < i → ¬ ((l.getD j default).f = a ∧ plusM (t + (l.getD j default).m) (vat (tabD l (l.getD s default).f s (z - out.length - 1).toNat) (l.getD j default).t.toNat) < 0)) ∨ ∃ j : Nat, v = j ∧ s + 1 ≤ j ∧ j < l.length ∧ nextC l (tabD l (l.getD s default).f s) z s out.length a t = some j), fun _ w => l.length - w.toNat, ⟨s + 1, by omega, by omega, by omega, .inl ⟨rfl, fun j h1 h2 => by omega⟩⟩, ?_⟩, fun h4 => ?_⟩
  · rintro v _ ⟨i, rfl, hi1, hi2, hv⟩
    refine ⟨fun h5 => ?_, fun h5 => ⟨fun h6 => ?_, fun h6 => ?_⟩⟩
    · have hvm : v = -1 ∧ ∀ j, s + 1 ≤ j → j < i → ¬ ((l.getD j default).f = a ∧ plusM (t + (l.getD j default).m) (vat (tabD l (l.getD s default).f s (z - out.length - 1).toNat) (l.getD j default).t.toNat) < 0) := by
        rcases hv with h | ⟨j, rfl, -⟩
        · exact h
        · omega
      obtain ⟨rfl, hno⟩ := hvm
      have hci := hl _ (lat_mem (xs := l) (i := i) ⟨by omega, by omega⟩)
      rw [lat_nat] at hci ⊢
      rw [hlt (z - out.length - 1) ⟨by omega, by omega⟩ _ hci.2.1]
      have hd2 := hd0 (z - out.length - 1).toNat (l.getD i default).t.toNat (by omega)
      have hlrq := hlr (z - out.length - 1) ⟨by omega, by omega⟩
      refine ⟨fun w => (w = -1 ∧ ∀ j, s + 1 ≤ j → j < i + 1 → ¬ ((l.getD j default).f = a ∧ plusM (t + (l.getD j default).m) (vat (tabD l (l.getD s default).f s (z - out.length - 1).toNat) (l.getD j default).t.toNat) < 0)) ∨ ∃ j : Nat, w = j ∧ s + 1 ≤ j ∧ j < l.length ∧ nextC l (tabD l (l.getD s default).f s) z s out.length a t = some j, fun w hw => ⟨by unfold inI; omega, ⟨i + 1, by omega, by omega, by omega, hw⟩, by first | omega | (dsimp only; omega)⟩, by omega, by unfold inI; omega, by unfold inI; omega, by unfold inI; omega, by omega, by omega, by omega, fun _ _ => by unfold inI; omega, ⟨by omega, trivial⟩, fun h6 => ?_, fun h6 => ?_⟩
      · exact .inr ⟨i, rfl, by omega, by omega, find_drop_some ⟨hi1, by omega⟩ (decide_eq_true ⟨h6.1, h6.2.2⟩) fun j hj1 hj2 h => hno j hj1 hj2 (of_decide_eq_true h)⟩
      · refine .inl ⟨rfl, fun j hj1 hj2 h => ?_⟩
        rcases Nat.lt_or_ge j i with h7 | h7
        · exact hno j hj1 h7 h
        · have : j = i := by omega
          subst this; exact h6 ⟨h.1, by omega, h.2⟩
    · -- no constraint leads on
      have hv : ∀ j, s + 1 ≤ j → j < i → ¬ ((l.getD j default).f = a ∧ plusM (t + (l.getD j default).m) (vat (tabD l (l.getD s default).f s (z - out.length - 1).toNat) (l.getD j default).t.toNat) < 0) := by
        rcases hv with h | ⟨j, rfl, -⟩
        · exact h.2
        · omega
      have hx : nextC l (tabD l (l.getD s default).f s) z s out.length a t = none := find_drop_none fun j hj1 hj2 h => hv j hj1 (by omega) (of_decide_eq_true h)
      obtain ⟨k, rfl⟩ : ∃ k', k = k' + 1 := ⟨k - 1, by omega⟩
      have hC := hk.trans (chain_none h4 hx)
      exact ⟨fun h7 => by omega, fun _ => hnone hC⟩
    · rcases hv with ⟨rfl, -⟩ | ⟨j, rfl, hj1, hj2, hx⟩
      · omega
      · obtain ⟨k, rfl⟩ : ∃ k', k = k' + 1 := ⟨k - 1, by omega⟩
        have hcj := hl _ (lat_mem (xs := l) (i := j) ⟨by omega, by omega⟩)
        have hcf : (l.getD j default).f = a := by
          unfold nextC at hx
          have h0 := List.find?_some hx
          exact (of_decide_eq_true h0).1
        have hlj : lat l (j : Int) = l.getD j default := lat_nat l j
        rw [hlj] at hcj ⊢
        have hoa : ((out ++ [(j : Int)]).length : Int) = out.length + 1 := by simp
        refine ⟨by omega, by unfold inI; omega, by omega, by omega, ⟨k, e ++ [(j : Int)], by rw [ho]; rfl, by rw [hk, chain_some h4 hx], by omega, by omega, fun q hq => ?_, ?_, ?_, hcj.2.1⟩, by first | omega | (dsimp only; omega)⟩
        · rcases List.mem_append.mp hq with h | h
          · exact hem q h
          · rw [List.mem_singleton] at h; omega
        · rw [List.map_append]
          refine hew.app ?_
          show Wk2 _ [lat l (j : Int)] _
          rw [hlj]
          exact ⟨by rw [hcf], rfl⟩
        · rw [List.map_append, wt_append, het]
          show _ = _ + (_ + wt [lat l (j : Int)])
          rw [wt_cons, wt_nil, hlj]; omega
  · have hC : chainC l (tabD l (l.getD s default).f s) z s z.toNat [(s : Int)] (l.getD s default).t (l.getD s default).m = some out := by
      rw [hk]
      rcases k with _ | k
      · rfl
      · exact chain_done h4
    have := chain_all (by omega) hg (size := z) ⟨by omega, by omega⟩ hslt ho hew het hea.1 hem hC (by omega)
    exact ⟨fun h7 => this.1 h7.2, fun h7 => this.2 fun h8 => h7 ⟨by omega, h8⟩⟩
theorem spec_rfirst (n : Int) (l : (List Con)) (h0 : FirstOk n l) : FnP Try.prog 30 [.int .i64 n, .lst true l.length (encL e25 l)] (fun xR => xR = .lst false (rfirstM n l).length (encL eInt (rfirstM n l))) :=
  (walk_rfirst (vcp_rfirst n l h0)).mono (by rintro _ ⟨_, rfl, rfl⟩; rfl)
def vc_rclose (n : Int) (l : (List Con)) (Post : Bd → (List Int) → Int → Prop) : Prop :=
  (l.length ≤ 1073741824) ∧ ((¬ ((validM n l) = true)) → Post (Bd.mk 0 []) [] (2 : Int)) ∧ (¬ (¬ ((validM n l) = true)) → (1 ≤ n ∧ n ≤ 24) ∧ ∃ (I1 : Int → Int → List (List Int) → Prop) (μ1 : Int → Int → List (List Int) → Nat), I1 (0 : Int) ((boundsM freeM n).n) ((boundsM freeM n).most) ∧ ∀ (v8 : Int) (b1n : Int) (b1most : List (List Int)), I1 v8 b1n b1most → ((v8 < ((l.length : Nat) : Int)) → (0 ≤ v8 ∧ v8 < (l.length : Int)) ∧ (0 ≤ v8 ∧ v8 < (l.length : Int)) ∧ (0 ≤ v8 ∧ v8 < (l.length : Int)) ∧ (WithOk (Bd.mk b1n b1most) ((lat l v8).f) ((lat l v8).t) ((lat l v8).m)) ∧ ((¬ (((withM (Bd.mk b1n b1most) ((lat l v8).f) ((lat l v8).t) ((lat l v8).m)).2) = true)) → (FirstOk n l) ∧ Post (Bd.mk 0 []) (rfirstM n l) (70 : Int)) ∧ (¬ (¬ (((withM (Bd.mk b1n b1most) ((lat l v8).f) ((lat l v8).t) ((lat l v8).m)).2) = true)) → (inI (v8 + (1 : Int))) ∧ (I1 (v8 + (1 : Int)) (((withM (Bd.mk b1n b1most) ((lat l v8).f) ((lat l v8).t) ((lat l v8).m)).1).n) (((withM (Bd.mk b1n b1most) ((lat l v8).f) ((lat l v8).t) ((lat l v8).m)).1).most) ∧ μ1 (v8 + (1 : Int)) (((withM (Bd.mk b1n b1most) ((lat l v8).f) ((lat l v8).t) ((lat l v8).m)).1).n) (((withM (Bd.mk b1n b1most) ((lat l v8).f) ((lat l v8).t) ((lat l v8).m)).1).most) < μ1 v8 b1n b1most))) ∧ (¬ (v8 < ((l.length : Nat) : Int)) → Post (Bd.mk b1n b1most) [] (0 : Int)))
set_option maxRecDepth 100000 in
set_option maxHeartbeats 4000000 in
theorem walk_rclose {n : Int} {l : (List Con)} {Post : Bd → (List Int) → Int → Prop} (hv : vc_rclose n l Post) : FnP Try.prog 16 [.int .i64 n, .lst true l.length (encL e25 l)] (fun x => ∃ q0 q1 q2, x = .tup [.agg ((e34 false) q0), .lst false q1.length (encL eInt q1), .int .i64 q2] ∧ Post q0 q1 q2) := by
 refine FnP.of_walk (T := tt) (nt := 52) ttOk ttMix ⟨⟨Try.f16, Try.func16, rfl, rfl, rfl, rfl⟩⟩ (by simp) ?_
 unfold vc_rclose at hv
 change W _ _ _ ⟨52, look [(0, .int .i64 n), (1, .lst true l.length (encL e25 l))], [], false⟩ _
 refine W.tr [(0, .int _ _), (1, .lst _ _ _)] [] ⟨rfl, rfl, trivial⟩ rfl ?_
 refine W.rL ?_
 refine cL rfl (o_alloc (p := 0) tt34 rfl rfl ?_)
 refine cL rfl (o_assign (v := .nilS) rfl ?_)
 refine aI rfl rfl ?_
 refine eL ?_
 refine W.tr [(0, .int _ _), (1, .lst _ _ _), (4, .ptr _ _)] [.box _ [.int _ _, .nilS]] ⟨rfl, rfl, rfl, trivial⟩ rfl ?_
 refine W.seq' ?_
 refine W.rL ?_
 refine mI rfl rfl ?_
 refine mL rfl rfl ?_
 obtain ⟨s2, hv⟩ := hv
 refine cL rfl (o_callP1 (k := 40) (fst := []) (caps := []) (ys := [.int _ _, .lst _ _ _]) rfl rfl (spec_rvalid n l s2) (Wks.cons (ag_int _ _ _ _) (Wks.cons (ag_lst _ _ _ _ _) (Wks.refl _))) ?_)
 refine cL rfl (o_notB rfl ?_)
 refine eL ?_
 refine W.tr [(0, .int _ _), (1, .lst _ _ _), (4, .ptr _ _), (14, .bool _)] [.box _ [.int _ _, .nilS]] ⟨rfl, rfl, rfl, rfl, trivial⟩ rfl ?_
 refine W.cn rfl (fun hc => ?_) (fun hc => ?_)
 have hv := hv.1 hc
 refine W.rL ?_
 refine cL rfl (o_build (qs := []) (cs := [.int _ _, .nilS]) tt34 rfl rfl rfl ?_)
 refine cLn (o_stB (v := .agg _) (vs := [.int _ _, .nilS]) (cs2 := [.int _ _, .nilS]) tt34 rfl rfl rfl rfl rfl (Nat.le_of_ble_eq_true rfl) rfl ?_)
 refine cL rfl (o_assign (v := .nilS) rfl ?_)
 refine aI rfl rfl ?_
 refine eL ?_
 refine W.tr [(4, .ptr _ _), (5, .nilS), (6, .int _ _)] [.box _ [.int _ _, .nilS]] ⟨rfl, rfl, rfl, trivial⟩ rfl ?_
 refine W.ret ?_
 refine th_ret (rt ?_)
 refine rt_c (x := .ptr _ _) rfl (ldA (cs := [.int _ _, .nilS]) tt34 rfl ⟨_, rfl⟩ rfl ?_)
 refine rt_t (v := .nilS) rfl ?_
 refine rt_t (v := .int _ _) rfl ?_
 refine rt_n ?_
 exact ⟨_, rs_tup 5 _ (Wks.cons (rs_agg 4 _ (Wks.cons (rs_int _ _ _ _) (Wks.cons (rs_nil _ _ _ _ rfl) (Wks.refl _)))) (Wks.cons (rs_nil _ _ _ _ rfl) (Wks.cons (rs_int _ _ _ _) (Wks.refl _)))), (Bd.mk 0 []), [], (2 : Int), rfl, hv⟩
 have hv := hv.2 hc
 refine W.skip ?_
 refine th_nrm ?_
 refine W.tr [(0, .int _ _), (1, .lst _ _ _), (4, .ptr _ _)] [.box _ [.int _ _, .nilS]] ⟨rfl, rfl, rfl, trivial⟩ rfl ?_
 refine W.rL ?_
 refine mI rfl rfl ?_
 obtain ⟨s3, hv⟩ := hv
 refine cL rfl (o_callP1 (k := 41) (fst := []) (caps := []) (ys := [.int _ _]) rfl rfl (spec_rfree n s3) (Wks.cons (ag_int _ _ _ _) (Wks.refl _)) ?_)
 refine cL rfl (o_alloc (p := 1) tt34 rfl rfl ?_)
 refine cLn (o_stB (v := .agg _) (vs := [.int _ _, .lst _ _ _]) (cs2 := [.int _ _, .lst _ _ _]) tt34 rfl rfl rfl rfl rfl (Nat.le_of_ble_eq_true rfl) rfl ?_)
 refine eL ?_
 refine W.tr [(0, .int _ _), (1, .lst _ _ _), (4, .ptr _ _), (7, .ptr _ _)] [.box _ [.int _ _, .nilS], .box _ [.int _ _, .lst _ _ _]] ⟨rfl, rfl, rfl, rfl, trivial⟩ rfl ?_
 refine W.seq' ?_
 refine W.rL ?_
 refine aI rfl rfl ?_
 refine eL ?_
 refine W.tr [(0, .int _ _), (1, .lst _ _ _), (4, .ptr _ _), (7, .ptr _ _), (8, .int _ _)] [.box _ [.int _ _, .nilS], .box _ [.int _ _, .lst _ _ _]] ⟨rfl, rfl, rfl, rfl, rfl, trivial⟩ rfl ?_
 refine W.block ?_
 obtain ⟨I1, μ1, hp, hv⟩ := hv
 refine W.loop3 (fun v8 b1n b1most => ⟨52, look [(0, .int .i64 n), (1, .lst true l.length (encL e25 l)), (4, .ptr 0 0), (7, .ptr 1 0), (8, .int .i64 v8)], [.box 34 [.int .i64 (0 : Int), .nilS], .box 34 [.int .i64 b1n, .lst false b1most.length (encL (eSl eInt true) b1most)]], false⟩) I1 μ1 (0 : Int) ((boundsM freeM n).n) ((boundsM freeM n).most) (St.to_mk (φ := [some 0, some 1]) rfl (.inl rfl) ⟨Ren.int _ _, Ren.lst _ _ _, Ren.ptr rfl, Ren.ptr rfl, Ren.int _ _, trivial⟩ ⟨.inr ⟨_, rfl, rfl, Rens.cons (Ren.int _ _) (Rens.cons (Ren.nilS) (Rens.nil))⟩, .inr ⟨_, rfl, rfl, Rens.cons (Ren.int _ _) (Rens.cons (Ren.lst _ _ _) (Rens.nil))⟩, trivial⟩) hp ?_
 clear hp
 intro v8 b1n b1most hI
 replace hv := hv v8 b1n b1most hI
 clear hI
 refine W.seq' ?_
 refine W.rL ?_
 refine mI rfl rfl ?_
 refine mL rfl rfl ?_
 refine cL rfl (o_len (v := .lst _ _ _) tt22 rfl rfl ?_)
 refine cL rfl (o_lss rfl rfl ?_)
 refine eL ?_
 refine W.tr [(0, .int _ _), (1, .lst _ _ _), (4, .ptr _ _), (7, .ptr _ _), (8, .int _ _), (21, .bool _)] [.box _ [.int _ _, .nilS], .box _ [.int _ _, .lst _ _ _]] ⟨rfl, rfl, rfl, rfl, rfl, rfl, trivial⟩ rfl ?_
 refine W.cn rfl (fun hc => ?_) (fun hc => ?_)
 have hv := hv.1 hc
 refine W.skip ?_
 refine th_nrm ?_
 refine W.tr [(0, .int _ _), (1, .lst _ _ _), (4, .ptr _ _), (7, .ptr _ _), (8, .int _ _)] [.box _ [.int _ _, .nilS], .box _ [.int _ _, .lst _ _ _]] ⟨rfl, rfl, rfl, rfl, rfl, trivial⟩ rfl ?_
 refine W.seq' ?_
 refine W.block ?_
 refine W.rP [0, 1, 2, 3, 4, 5, 6, 7, 8, 9, 10, 11, 12, 13, 14, 15, 20, 16, 17, 18, 19, 21, 22] (by decide +kernel) rfl ?_
 refine cL rfl (o_ldA (cs := [.int _ _, .lst _ _ _]) tt34 rfl rfl ⟨_, rfl⟩ rfl ?_)
 refine mL rfl rfl ?_
 refine mI rfl rfl ?_
 obtain ⟨s75, hv⟩ := hv
 refine cL rfl (o_iaL tt22 tt25 rfl rfl (enc25.wd true) rfl s75 ?_)
 intro rest75
 refine cL rfl (o_faP tt25 rfl tt3 rfl ?_)
 refine cL rfl (o_ldS (v := .int _ _) tt3 rfl rfl ⟨_, rfl⟩ ?_)
 refine mL rfl rfl ?_
 refine mI rfl rfl ?_
 obtain ⟨s76, hv⟩ := hv
 refine cL rfl (o_iaL tt22 tt25 rfl rfl (enc25.wd true) rfl s76 ?_)
 intro rest76
 refine cL rfl (o_faP tt25 rfl tt3 rfl ?_)
 refine cL rfl (o_ldS (v := .int _ _) tt3 rfl rfl ⟨_, rfl⟩ ?_)
 refine mL rfl rfl ?_
 refine mI rfl rfl ?_
 obtain ⟨s77, hv⟩ := hv
 refine cL rfl (o_iaL tt22 tt25 rfl rfl (enc25.wd true) rfl s77 ?_)
 intro rest77
 refine cL rfl (o_faP tt25 rfl tt3 rfl ?_)
 refine cL rfl (o_ldS (v := .int _ _) tt3 rfl rfl ⟨_, rfl⟩ ?_)
 refine cL rfl (o_alloc (p := 2) tt34 rfl rfl ?_)
 obtain ⟨s78, hv⟩ := hv
 refine cL rfl (o_callP1 (k := 42) (fst := []) (caps := []) (ys := [.agg _, .int _ _, .int _ _, .int _ _]) rfl rfl (spec_rwith (Bd.mk b1n b1most) ((lat l v8).f) ((lat l v8).t) ((lat l v8).m) s78) (Wks.cons (ag_agg 5 _ (Wks.cons (ag_int _ _ _ _) (Wks.cons (ag_lst _ _ _ _ _) (Wks.refl _)))) (Wks.cons (ag_int _ _ _ _) (Wks.cons (ag_int _ _ _ _) (Wks.cons (ag_int _ _ _ _) (Wks.refl _))))) ?_)
 refine cL rfl (o_move (v := .tup _) rfl ?_)
 refine cL rfl (o_ext (v := .agg _) rfl rfl ?_)
 refine cL rfl (o_ext (v := .bool _) rfl rfl ?_)
 refine cLn (o_stB (v := .agg _) (vs := [.int _ _, .lst _ _ _]) (cs2 := [.int _ _, .lst _ _ _]) tt34 rfl rfl rfl rfl rfl (Nat.le_of_ble_eq_true rfl) rfl ?_)
 refine aB rfl rfl ?_
 refine eL ?_
 refine W.tr [(0, .int _ _), (1, .lst _ _ _), (4, .ptr _ _), (7, .ptr _ _), (8, .int _ _), (9, .ptr _ _), (10, .bool _)] [.box _ [.int _ _, .nilS], .box _ [.int _ _, .lst _ _ _], .box _ [.int _ _, .lst _ _ _]] ⟨rfl, rfl, rfl, rfl, rfl, rfl, rfl, trivial⟩ rfl ?_
 refine W.seq' ?_
 refine W.rL ?_
 refine mB rfl rfl ?_
 refine cL rfl (o_notB rfl ?_)
 refine eL ?_
 refine W.tr [(0, .int _ _), (1, .lst _ _ _), (4, .ptr _ _), (7, .ptr _ _), (8, .int _ _), (9, .ptr _ _), (45, .bool _)] [.box _ [.int _ _, .nilS], .box _ [.int _ _, .lst _ _ _], .box _ [.int _ _, .lst _ _ _]] ⟨rfl, rfl, rfl, rfl, rfl, rfl, rfl, trivial⟩ rfl ?_
 refine W.cn rfl (fun hc => ?_) (fun hc => ?_)
 have hv := hv.1 hc
 refine W.rL ?_
 refine cL rfl (o_build (qs := []) (cs := [.int _ _, .nilS]) tt34 rfl rfl rfl ?_)
 refine mI rfl rfl ?_
 refine mL rfl rfl ?_
 obtain ⟨s80, hv⟩ := hv
 refine cL rfl (o_callP1 (k := 30) (fst := []) (caps := []) (ys := [.int _ _, .lst _ _ _]) rfl rfl (spec_rfirst n l s80) (Wks.cons (ag_int _ _ _ _) (Wks.cons (ag_lst _ _ _ _ _) (Wks.refl _))) ?_)
 refine cLn (o_stB (v := .agg _) (vs := [.int _ _, .nilS]) (cs2 := [.int _ _, .nilS]) tt34 rfl rfl rfl rfl rfl (Nat.le_of_ble_eq_true rfl) rfl ?_)
 refine aL rfl rfl ?_
 refine aI rfl rfl ?_
 refine eL ?_
 refine W.tr [(4, .ptr _ _), (5, .lst _ _ _), (6, .int _ _)] [.box _ [.int _ _, .nilS], .box _ [.int _ _, .lst _ _ _], .box _ [.int _ _, .lst _ _ _]] ⟨rfl, rfl, rfl, trivial⟩ rfl ?_
 refine W.ret ?_
 refine th_ret (bl_ret (th_ret (th_ret (bl_ret (th_ret (rt ?_))))))
 refine rt_c (x := .ptr _ _) rfl (ldA (cs := [.int _ _, .nilS]) tt34 rfl ⟨_, rfl⟩ rfl ?_)
 refine rt_t (v := .lst _ _ _) rfl ?_
 refine rt_t (v := .int _ _) rfl ?_
 refine rt_n ?_
 exact ⟨_, rs_tup 5 _ (Wks.cons (rs_agg 4 _ (Wks.cons (rs_int _ _ _ _) (Wks.cons (rs_nil _ _ _ _ rfl) (Wks.refl _)))) (Wks.cons (rs_lst _ _ _ _) (Wks.cons (rs_int _ _ _ _) (Wks.refl _)))), (Bd.mk 0 []), (rfirstM n l), (70 : Int), rfl, hv⟩
 have hv := hv.2 hc
 refine W.skip ?_
 refine th_nrm ?_
 refine W.tr [(0, .int _ _), (1, .lst _ _ _), (4, .ptr _ _), (7, .ptr _ _), (8, .int _ _), (9, .ptr _ _)] [.box _ [.int _ _, .nilS], .box _ [.int _ _, .lst _ _ _], .box _ [.int _ _, .lst _ _ _]] ⟨rfl, rfl, rfl, rfl, rfl, rfl, trivial⟩ rfl ?_
 refine W.rL1 ?_
 refine cL rfl (o_ldA (cs := [.int _ _, .lst _ _ _]) tt34 rfl rfl ⟨_, rfl⟩ rfl ?_)
 refine cLn (o_stB (v := .agg _) (vs := [.int _ _, .lst _ _ _]) (cs2 := [.int _ _, .lst _ _ _]) tt34 rfl rfl rfl rfl rfl (Nat.le_of_ble_eq_true rfl) rfl ?_)
 refine eL ?_
 refine bl_nrm (th_nrm ?_)
 refine W.tr [(0, .int _ _), (1, .lst _ _ _), (4, .ptr _ _), (7, .ptr _ _), (8, .int _ _)] [.box _ [.int _ _, .nilS], .box _ [.int _ _, .lst _ _ _], .box _ [.int _ _, .lst _ _ _]] ⟨rfl, rfl, rfl, rfl, rfl, trivial⟩ rfl ?_
 refine W.rL1 ?_
 refine mI rfl rfl ?_
 obtain ⟨s81, hv⟩ := hv
 refine cL rfl (o_add rfl rfl s81 ?_)
 refine aI rfl rfl ?_
 refine eL ?_
 exact th_nrm (⟨(), (v8 + (1 : Int)), (((withM (Bd.mk b1n b1most) ((lat l v8).f) ((lat l v8).t) ((lat l v8).m)).1).n), (((withM (Bd.mk b1n b1most) ((lat l v8).f) ((lat l v8).t) ((lat l v8).m)).1).most), hv, St.to_mk (φ := [some 0, some 1]) rfl (.inl rfl) ⟨Ren.int _ _, Ren.lst _ _ _, Ren.ptr rfl, Ren.ptr rfl, Ren.int _ _, trivial⟩ ⟨.inr ⟨_, rfl, rfl, Rens.cons (Ren.int _ _) (Rens.cons (Ren.nilS) (Rens.nil))⟩, .inr ⟨_, rfl, rfl, Rens.cons (Ren.int _ _) (Rens.cons (Ren.lst _ _ _) (Rens.nil))⟩, trivial⟩⟩)
 have hv := hv.2 hc
 refine W.exit ?_
 refine th_exit (th_exit (bl_hit (th_nrm ?_)))
 refine W.tr [(4, .ptr _ _), (7, .ptr _ _)] [.box _ [.int _ _, .nilS], .box _ [.int _ _, .lst _ _ _]] ⟨rfl, rfl, trivial⟩ rfl ?_
 refine W.rL ?_
 refine cL rfl (o_ldA (cs := [.int _ _, .lst _ _ _]) tt34 rfl rfl ⟨_, rfl⟩ rfl ?_)
 refine cLn (o_stB (v := .agg _) (vs := [.int _ _, .lst _ _ _]) (cs2 := [.int _ _, .lst _ _ _]) tt34 rfl rfl rfl rfl rfl (Nat.le_of_ble_eq_true rfl) rfl ?_)
 refine cL rfl (o_assign (v := .nilS) rfl ?_)
 refine aI rfl rfl ?_
 refine eL ?_
 refine W.tr [(4, .ptr _ _), (5, .nilS), (6, .int _ _)] [.box _ [.int _ _, .lst _ _ _], .box _ [.int _ _, .lst _ _ _]] ⟨rfl, rfl, rfl, trivial⟩ rfl ?_
 refine W.ret ?_
 refine rt ?_
 refine rt_c (x := .ptr _ _) rfl (ldA (cs := [.int _ _, .lst _ _ _]) tt34 rfl ⟨_, rfl⟩ rfl ?_)
 refine rt_t (v := .nilS) rfl ?_
 refine rt_t (v := .int _ _) rfl ?_
 refine rt_n ?_
 exact ⟨_, rs_tup 5 _ (Wks.cons (rs_agg 4 _ (Wks.cons (rs_int _ _ _ _) (Wks.cons (rs_lst _ _ _ _) (Wks.refl _)))) (Wks.cons (rs_nil _ _ _ _ rfl) (Wks.cons (rs_int _ _ _ _) (Wks.refl _)))), (Bd.mk b1n b1most), [], (0 : Int), rfl, hv⟩
theorem vcp_rclose (n : Int) (l : (List Con)) (h0 : l.length ≤ 1073741824) : vc_rclose n l (fun q0 q1 q2 => q0 = (closeM n l).1 ∧ q1 = (closeM n l).2.1 ∧ q2 = (closeM n l).2.2) := by
  unfold vc_rclose
  have hnb := hNB
  have hb0 := hB0
  refine ⟨h0, fun h => ?_, fun h => ?_⟩
  · rw [close_inv h]; exact ⟨rfl, rfl, rfl⟩
  have hv := Classical.not_not.mp h
  obtain ⟨⟨hn1, hn2, hl2⟩, hp⟩ := validM_iff.mp hv
  have hg := validM_good hv
  have hgn := validM_goodn hv
  have htk : ∀ k : Nat, Good 24 (l.take k) := fun k c hc => hg c (List.mem_of_mem_take hc)
  refine ⟨⟨hn1, hn2⟩, fun v q r => ∃ (k : Nat) (m : Vector Int 576), v = k ∧ k ≤ l.length ∧ (⟨q, r⟩ : Bd) = boundsM m n ∧ CM m (l.take k) ∧ addAll freeM l = addAll m (l.drop k), fun v _ _ => l.length - v.toNat, ⟨0, freeM, rfl, by omega, rfl, by simpa using CM.free, rfl⟩, ?_⟩
  rintro _ q r ⟨k, m, rfl, hk, hqr, hc, ha⟩
  refine ⟨fun k1 => ?_, fun k1 => ?_⟩
  · have hcm := lat_mem (xs := l) (i := (k : Int)) ⟨by omega, by omega⟩
    obtain ⟨c1, c2, c3, c4, -, c5, c6, -⟩ := possM_iff.mp (hp _ hcm)
    have hdrop : l.drop k = lat l (k : Int) :: l.drop (k + 1) := by rw [lat_get (by omega)]; exact List.drop_eq_getElem_cons (by omega)
    have htake : l.take (k + 1) = l.take k ++ [lat l (k : Int)] := take_succ_lat (by omega)
    have hone : Good 24 [lat l (k : Int)] := fun c hc => by rw [List.mem_singleton] at hc; rw [hc]; exact hg _ hcm
    rw [hqr]
    generalize lat l (k : Int) = c at hdrop htake hone c1 c2 c3 c4 c5 c6 ⊢
    have hwb := with_bounds hc.cl (by omega) (n := n) ⟨hn1, hn2⟩ (f := c.f.toNat) (t := c.t.toNat) (w := c.m) (by omega) (by omega) (by omega)
    rw [show ((c.f.toNat : Nat) : Int) = c.f by omega, show ((c.t.toNat : Nat) : Int) = c.t by omega] at hwb
    rw [hwb]
    rw [hdrop, addAll_cons] at ha
    refine ⟨by omega, by omega, by omega, bounds_wok hc.cl (by omega) ⟨hn1, hn2⟩ ⟨c1, c2⟩ ⟨c3, c4⟩ (by omega), fun k2 => ⟨hv, ?_⟩, fun k2 => ⟨by unfold inI; omega, ?_, ?_⟩⟩
    · have k3 : ¬ (addM m c.f c.t c.m).1 = true := fun e => by rw [if_pos e] at k2; exact k2 rfl
      rw [if_neg k3] at ha
      have hno := (close_spec hg).2 ha
      have hF := first_cycle (n := n.toNat) (by omega) hgn hno
      have hsz := hF.sz
      rw [close_none hv ha]
      refine ⟨rfl, ?_, rfl⟩
      unfold rfirstM
      rw [if_pos]
      rw [show ((n.toNat : Nat) : Int) = n by omega] at hsz
      omega
    · have k3 : (addM m c.f c.t c.m).1 = true := by
        rcases Classical.em ((addM m c.f c.t c.m).1 = true) with e | e
        · exact e
        · rw [if_neg e] at k2; exact (k2 (by simp)).elim
      rw [if_pos k3] at ha ⊢
      exact ⟨k + 1, _, by omega, by omega, rfl, by rw [htake]; exact hc.step (htk k) hone k3, ha⟩
    · first | omega | (dsimp only; omega)
  · obtain rfl : k = l.length := by omega
    rw [List.drop_length] at ha
    rw [close_some hv ha, hqr]; exact ⟨rfl, rfl, rfl⟩
theorem spec_rclose (n : Int) (l : (List Con)) (h0 : l.length ≤ 1073741824) : FnP Try.prog 16 [.int .i64 n, .lst true l.length (encL e25 l)] (fun xR => xR = .tup [.agg ((e34 false) ((closeM n l).1)), .lst false ((closeM n l).2.1).length (encL eInt ((closeM n l).2.1)), .int .i64 ((closeM n l).2.2)]) :=
  (walk_rclose (vcp_rclose n l h0)).mono (by rintro _ ⟨_, _, _, rfl, rfl, rfl, rfl⟩; rfl)
def vc_radd (b : Bd) (c : Con) (Post : Bd → Bool → Int → Prop) : Prop :=
  ((b.most.length ≤ 1073741824) ∧ (∀ r ∈ b.most, r.length ≤ 1073741824) ∧ True) ∧ ((((¬ ((validBM b) = true)) ∨ (¬ ((possM b.n c) = true))) → Post (Bd.mk 0 []) false (2 : Int)) ∧ (¬ ((¬ ((validBM b) = true)) ∨ (¬ ((possM b.n c) = true))) → (WithOk b c.f c.t c.m) ∧ (((((withM b c.f c.t c.m).2) = true) → (((withM b c.f c.t c.m).1).most.length ≤ 1073741824) ∧ (∀ r ∈ ((withM b c.f c.t c.m).1).most, r.length ≤ 1073741824) ∧ True) ∧ (¬ (((withM b c.f c.t c.m).2) = true) → True)) ∧ ((((((withM b c.f c.t c.m).2) = true) ∧ (¬ ((validBM ((withM b c.f c.t c.m).1)) = true))) → Post (Bd.mk 0 []) false (2 : Int)) ∧ (¬ ((((withM b c.f c.t c.m).2) = true) ∧ (¬ ((validBM ((withM b c.f c.t c.m).1)) = true))) → Post ((withM b c.f c.t c.m).1) ((withM b c.f c.t c.m).2) (0 : Int)))))
set_option maxRecDepth 100000 in
set_option maxHeartbeats 4000000 in
theorem walk_radd {b : Bd} {c : Con} {Post : Bd → Bool → Int → Prop} (hv : vc_radd b c Post) : FnP Try.prog 20 [.agg ((e34 true) b), .agg (e25 c)] (fun x => ∃ q0 q1 q2, x = .tup [.agg ((e34 false) q0), .bool q1, .int .i64 q2] ∧ Post q0 q1 q2) := by
 refine FnP.of_walk (T := tt) (nt := 40) ttOk ttMix ⟨⟨Try.f20, Try.func20, rfl, rfl, rfl, rfl⟩⟩ (by simp) ?_
 unfold vc_radd at hv
 change W _ _ _ ⟨40, look [(0, .agg [.int .i64 b.n, .lst true b.most.length (encL (eSl eInt true) b.most)]), (1, .agg [.int .i64 c.f, .int .i64 c.t, .int .i64 c.m, .int .i64 c.a])], [], false⟩ _
 refine W.tr [(0, .agg _), (1, .agg _)] [] ⟨rfl, rfl, trivial⟩ rfl ?_
 refine W.rL ?_
 refine cL rfl (o_box (v := .agg _) (p := 0) rfl rfl rfl ?_)
 refine cL rfl (o_box (v := .agg _) (p := 1) rfl rfl rfl ?_)
 refine cL rfl (o_alloc (p := 2) tt34 rfl rfl ?_)
 refine aB rfl rfl ?_
 refine aI rfl rfl ?_
 refine eL ?_
 refine W.tr [(2, .ptr _ _), (3, .ptr _ _), (4, .ptr _ _)] [.box _ [.int _ _, .lst _ _ _], .box _ [.int _ _, .int _ _, .int _ _, .int _ _], .box _ [.int _ _, .nilS]] ⟨rfl, rfl, rfl, trivial⟩ rfl ?_
 refine W.seq' ?_
 obtain ⟨sd, hv⟩ := hv
 refine W.rLm ⟨40, look [(2, .ptr 0 0), (3, .ptr 1 0), (4, .ptr 2 0), (18, .bool (decide ((¬ ((validBM b) = true)) ∨ (¬ ((possM b.n c) = true)))))], [.box 34 [.int .i64 b.n, .lst true b.most.length (encL (eSl eInt true) b.most)], .box 25 [.int .i64 c.f, .int .i64 c.t, .int .i64 c.m, .int .i64 c.a], .box 34 [.int .i64 (0 : Int), .nilS]], false⟩ ?_ ?_
 refine cL rfl (o_ldA (cs := [.int _ _, .lst _ _ _]) tt34 rfl rfl ⟨_, rfl⟩ rfl ?_)
 obtain ⟨s7, s8, sd⟩ := sd
 refine cL rfl (o_callP1 (k := 26) (fst := []) (caps := []) (ys := [.agg _]) rfl rfl (spec_rvald b s7 s8) (Wks.cons (ag_agg 5 _ (Wks.cons (ag_int _ _ _ _) (Wks.cons (ag_lst _ _ _ _ _) (Wks.refl _)))) (Wks.refl _)) ?_)
 refine cL rfl (o_notB rfl ?_)
 refine mB rfl rfl ?_
 by_cases c1 : ¬ ((validBM b) = true)
 iterate 5 refine cLs rfl rfl rfl (decide_eq_true c1) ?_
 refine cL rfl (o_pickT (v := .bool _) rfl (decide_eq_true c1) rfl ?_)
 refine eL ?_
 exact le_mk ⟨rfl, rfl, rfl, (congrArg AV.bool (dOrT c1)).symm, trivial⟩ rfl
 refine cLg rfl rfl (decide_eq_false c1) ?_
 refine cL rfl (o_fa tt34 rfl tt3 rfl ?_)
 refine cLg rfl rfl (decide_eq_false c1) ?_
 refine cL rfl (o_ldS (v := .int _ _) tt3 rfl rfl ⟨_, rfl⟩ ?_)
 refine cLg rfl rfl (decide_eq_false c1) ?_
 refine cL rfl (o_ldA (cs := [.int _ _, .int _ _, .int _ _, .int _ _]) tt25 rfl rfl ⟨_, rfl⟩ rfl ?_)
 refine cLg rfl rfl (decide_eq_false c1) ?_
 refine cL rfl (o_callP1 (k := 45) (fst := []) (caps := []) (ys := [.int _ _, .agg _]) rfl rfl (spec_rposs b.n c) (Wks.cons (ag_int _ _ _ _) (Wks.cons (ag_agg 5 _ (Wks.cons (ag_int _ _ _ _) (Wks.cons (ag_int _ _ _ _) (Wks.cons (ag_int _ _ _ _) (Wks.cons (ag_int _ _ _ _) (Wks.refl _)))))) (Wks.refl _))) ?_)
 refine cLg rfl rfl (decide_eq_false c1) ?_
 refine cL rfl (o_notB rfl ?_)
 refine cL rfl (o_pickF (v := .bool _) rfl (decide_eq_false c1) rfl ?_)
 refine eL ?_
 exact le_mk ⟨rfl, rfl, rfl, (congrArg AV.bool (dOrF c1 (rfl))).symm, trivial⟩ rfl
 refine W.cn rfl (fun hc => ?_) (fun hc => ?_)
 have hv := hv.1 hc
 refine W.rL ?_
 refine cL rfl (o_build (qs := []) (cs := [.int _ _, .nilS]) tt34 rfl rfl rfl ?_)
 refine cLn (o_stB (v := .agg _) (vs := [.int _ _, .nilS]) (cs2 := [.int _ _, .nilS]) tt34 rfl rfl rfl rfl rfl (Nat.le_of_ble_eq_true rfl) rfl ?_)
 refine aB rfl rfl ?_
 refine aI rfl rfl ?_
 refine eL ?_
 refine W.tr [(4, .ptr _ _), (5, .bool _), (6, .int _ _)] [.box _ [.int _ _, .lst _ _ _], .box _ [.int _ _, .int _ _, .int _ _, .int _ _], .box _ [.int _ _, .nilS]] ⟨rfl, rfl, rfl, trivial⟩ rfl ?_
 refine W.ret ?_
 refine th_ret (rt ?_)
 refine rt_c (x := .ptr _ _) rfl (ldA (cs := [.int _ _, .nilS]) tt34 rfl ⟨_, rfl⟩ rfl ?_)
 refine rt_t (v := .bool _) rfl ?_
 refine rt_t (v := .int _ _) rfl ?_
 refine rt_n ?_
 exact ⟨_, rs_tup 5 _ (Wks.cons (rs_agg 4 _ (Wks.cons (rs_int _ _ _ _) (Wks.cons (rs_nil _ _ _ _ rfl) (Wks.refl _)))) (Wks.cons (rs_bool _ _ _) (Wks.cons (rs_int _ _ _ _) (Wks.refl _)))), (Bd.mk 0 []), false, (2 : Int), rfl, hv⟩
 have hv := hv.2 hc
 refine W.skip ?_
 refine th_nrm ?_
 refine W.tr [(2, .ptr _ _), (3, .ptr _ _), (4, .ptr _ _)] [.box _ [.int _ _, .lst _ _ _], .box _ [.int _ _, .int _ _, .int _ _, .int _ _], .box _ [.int _ _, .nilS]] ⟨rfl, rfl, rfl, trivial⟩ rfl ?_
 refine W.rL ?_
 refine cL rfl (o_ldA (cs := [.int _ _, .lst _ _ _]) tt34 rfl rfl ⟨_, rfl⟩ rfl ?_)
 refine cL rfl (o_fa tt25 rfl tt3 rfl ?_)
 refine cL rfl (o_ldS (v := .int _ _) tt3 rfl rfl ⟨_, rfl⟩ ?_)
 refine cL rfl (o_fa tt25 rfl tt3 rfl ?_)
 refine cL rfl (o_ldS (v := .int _ _) tt3 rfl rfl ⟨_, rfl⟩ ?_)
 refine cL rfl (o_fa tt25 rfl tt3 rfl ?_)
 refine cL rfl (o_ldS (v := .int _ _) tt3 rfl rfl ⟨_, rfl⟩ ?_)
 obtain ⟨s9, hv⟩ := hv
 refine cL rfl (o_callP1 (k := 42) (fst := []) (caps := []) (ys := [.agg _, .int _ _, .int _ _, .int _ _]) rfl rfl (spec_rwith b c.f c.t c.m s9) (Wks.cons (ag_agg 5 _ (Wks.cons (ag_int _ _ _ _) (Wks.cons (ag_lst _ _ _ _ _) (Wks.refl _)))) (Wks.cons (ag_int _ _ _ _) (Wks.cons (ag_int _ _ _ _) (Wks.cons (ag_int _ _ _ _) (Wks.refl _))))) ?_)
 refine cL rfl (o_move (v := .tup _) rfl ?_)
 refine cL rfl (o_ext (v := .agg _) rfl rfl ?_)
 refine cL rfl (o_ext (v := .bool _) rfl rfl ?_)
 refine cL rfl (o_alloc (p := 3) tt34 rfl rfl ?_)
 refine cLn (o_stB (v := .agg _) (vs := [.int _ _, .lst _ _ _]) (cs2 := [.int _ _, .lst _ _ _]) tt34 rfl rfl rfl rfl rfl (Nat.le_of_ble_eq_true rfl) rfl ?_)
 refine aB rfl rfl ?_
 refine eL ?_
 refine W.tr [(4, .ptr _ _), (7, .ptr _ _), (8, .bool _)] [.box _ [.int _ _, .lst _ _ _], .box _ [.int _ _, .int _ _, .int _ _, .int _ _], .box _ [.int _ _, .nilS], .box _ [.int _ _, .lst _ _ _]] ⟨rfl, rfl, rfl, trivial⟩ rfl ?_
 refine W.seq' ?_
 obtain ⟨sd, hv⟩ := hv
 refine W.rLm ⟨40, look [(4, .ptr 2 0), (7, .ptr 3 0), (8, .bool ((withM b c.f c.t c.m).2)), (36, .bool (decide ((((withM b c.f c.t c.m).2) = true) ∧ (¬ ((validBM ((withM b c.f c.t c.m).1)) = true)))))], [.box 34 [.int .i64 b.n, .lst true b.most.length (encL (eSl eInt true) b.most)], .box 25 [.int .i64 c.f, .int .i64 c.t, .int .i64 c.m, .int .i64 c.a], .box 34 [.int .i64 (0 : Int), .nilS], .box 34 [.int .i64 (((withM b c.f c.t c.m).1).n), .lst false (((withM b c.f c.t c.m).1).most).length (encL (eSl eInt true) (((withM b c.f c.t c.m).1).most))]], false⟩ ?_ ?_
 iterate 2 refine mB rfl rfl ?_
 by_cases c1 : ((withM b c.f c.t c.m).2) = true
 have sd := sd.1 c1
 refine cLg rfl rfl (c1) ?_
 refine cL rfl (o_ldA (cs := [.int _ _, .lst _ _ _]) tt34 rfl rfl ⟨_, rfl⟩ rfl ?_)
 refine cLg rfl rfl (c1) ?_
 obtain ⟨s16, s17, sd⟩ := sd
 refine cL rfl (o_callP1 (k := 26) (fst := []) (caps := []) (ys := [.agg _]) rfl rfl (spec_rvald ((withM b c.f c.t c.m).1) s16 s17) (Wks.cons (ag_agg 5 _ (Wks.cons (ag_int _ _ _ _) (Wks.cons (ag_lst _ _ _ _ _) (Wks.refl _)))) (Wks.refl _)) ?_)
 refine cLg rfl rfl (c1) ?_
 refine cL rfl (o_notB rfl ?_)
 refine cL rfl (o_pickT (v := .bool _) rfl c1 rfl ?_)
 refine eL ?_
 exact le_mk ⟨rfl, rfl, rfl, (congrArg AV.bool (dAndT c1 (rfl))).symm, trivial⟩ rfl
 iterate 3 refine cLs rfl rfl rfl ((Bool.eq_false_iff.2 c1)) ?_
 refine cL rfl (o_pickF (v := .bool _) rfl (Bool.eq_false_iff.2 c1) rfl ?_)
 refine eL ?_
 exact le_mk ⟨rfl, rfl, rfl, (congrArg AV.bool (dAndF c1)).symm, trivial⟩ rfl
 refine W.cn rfl (fun hc => ?_) (fun hc => ?_)
 have hv := hv.1 hc
 refine W.rL ?_
 refine cL rfl (o_build (qs := []) (cs := [.int _ _, .nilS]) tt34 rfl rfl rfl ?_)
 refine cLn (o_stB (v := .agg _) (vs := [.int _ _, .nilS]) (cs2 := [.int _ _, .nilS]) tt34 rfl rfl rfl rfl rfl (Nat.le_of_ble_eq_true rfl) rfl ?_)
 refine aB rfl rfl ?_
 refine aI rfl rfl ?_
 refine eL ?_
 refine W.tr [(4, .ptr _ _), (5, .bool _), (6, .int _ _)] [.box _ [.int _ _, .lst _ _ _], .box _ [.int _ _, .int _ _, .int _ _, .int _ _], .box _ [.int _ _, .nilS], .box _ [.int _ _, .lst _ _ _]] ⟨rfl, rfl, rfl, trivial⟩ rfl ?_
 refine W.ret ?_
 refine th_ret (rt ?_)
 refine rt_c (x := .ptr _ _) rfl (ldA (cs := [.int _ _, .nilS]) tt34 rfl ⟨_, rfl⟩ rfl ?_)
 refine rt_t (v := .bool _) rfl ?_
 refine rt_t (v := .int _ _) rfl ?_
 refine rt_n ?_
 exact ⟨_, rs_tup 5 _ (Wks.cons (rs_agg 4 _ (Wks.cons (rs_int _ _ _ _) (Wks.cons (rs_nil _ _ _ _ rfl) (Wks.refl _)))) (Wks.cons (rs_bool _ _ _) (Wks.cons (rs_int _ _ _ _) (Wks.refl _)))), (Bd.mk 0 []), false, (2 : Int), rfl, hv⟩
 have hv := hv.2 hc
 refine W.skip ?_
 refine th_nrm ?_
 refine W.tr [(4, .ptr _ _), (7, .ptr _ _), (8, .bool _)] [.box _ [.int _ _, .lst _ _ _], .box _ [.int _ _, .int _ _, .int _ _, .int _ _], .box _ [.int _ _, .nilS], .box _ [.int _ _, .lst _ _ _]] ⟨rfl, rfl, rfl, trivial⟩ rfl ?_
 refine W.rL ?_
 refine cL rfl (o_ldA (cs := [.int _ _, .lst _ _ _]) tt34 rfl rfl ⟨_, rfl⟩ rfl ?_)
 refine mB rfl rfl ?_
 refine cLn (o_stB (v := .agg _) (vs := [.int _ _, .lst _ _ _]) (cs2 := [.int _ _, .lst _ _ _]) tt34 rfl rfl rfl rfl rfl (Nat.le_of_ble_eq_true rfl) rfl ?_)
 refine aB rfl rfl ?_
 refine aI rfl rfl ?_
 refine eL ?_
 refine W.tr [(4, .ptr _ _), (5, .bool _), (6, .int _ _)] [.box _ [.int _ _, .lst _ _ _], .box _ [.int _ _, .int _ _, .int _ _, .int _ _], .box _ [.int _ _, .lst _ _ _], .box _ [.int _ _, .lst _ _ _]] ⟨rfl, rfl, rfl, trivial⟩ rfl ?_
 refine W.ret ?_
 refine rt ?_
 refine rt_c (x := .ptr _ _) rfl (ldA (cs := [.int _ _, .lst _ _ _]) tt34 rfl ⟨_, rfl⟩ rfl ?_)
 refine rt_t (v := .bool _) rfl ?_
 refine rt_t (v := .int _ _) rfl ?_
 refine rt_n ?_
 exact ⟨_, rs_tup 5 _ (Wks.cons (rs_agg 4 _ (Wks.cons (rs_int _ _ _ _) (Wks.cons (rs_lst _ _ _ _) (Wks.refl _)))) (Wks.cons (rs_bool _ _ _) (Wks.cons (rs_int _ _ _ _) (Wks.refl _)))), ((withM b c.f c.t c.m).1), ((withM b c.f c.t c.m).2), (0 : Int), rfl, hv⟩
theorem vcp_radd (b : Bd) (c : Con) (h0 : b.most.length ≤ 1073741824) (h1 : ∀ r ∈ b.most, r.length ≤ 1073741824) : vc_radd b c (fun q0 q1 q2 => q0 = (addBM b c).1 ∧ q1 = (addBM b c).2.1 ∧ q2 = (addBM b c).2.2) := by
  unfold vc_radd
  refine ⟨⟨h0, h1, trivial⟩, fun h => ?_, fun h => ?_⟩
  · rw [addB_inv (fun e => ?_)]
    · exact ⟨rfl, rfl, rfl⟩
    · rcases h with h | h
      · exact h e.1
      · exact h e.2
  have hv : validBM b = true := Classical.not_not.mp fun e => h (.inl e)
  have hp : possM b.n c = true := Classical.not_not.mp fun e => h (.inr e)
  have vb := validBM_iff.mp hv
  have hn := vb.n
  obtain ⟨c1, c2, c3, c4, -, c5, c6, -⟩ := possM_iff.mp hp
  have hwb := vb.with (f := c.f.toNat) (t := c.t.toNat) (w := c.m) (by omega) (by omega) (by omega)
  have hcl := (vb.cl.add (f := c.f) (t := c.t) (w := c.m) (by omega) (by omega) (by omega) (by omega)).1
  rw [show ((c.f.toNat : Nat) : Int) = c.f by omega, show ((c.t.toNat : Nat) : Int) = c.t by omega] at hwb
  rw [hwb]
  refine ⟨vb.wok ⟨c1, c2⟩ ⟨c3, c4⟩ (by omega), ?_⟩
  by_cases k : (addM (ofM b) c.f c.t c.m).1 = true
  · rw [if_pos k]
    dsimp only
    have hbl := bounds_most_len (m := (addM (ofM b) c.f c.t c.m).2) (n := b.n) (by omega)
    rw [bounds_valid (hcl k).1 ⟨hn.1, hn.2.1⟩]
    refine ⟨⟨fun _ => ⟨hbl.1, hbl.2, trivial⟩, fun _ => trivial⟩, fun h2 => ?_, fun h2 => ?_⟩
    · rw [addB_big ⟨hv, hp⟩ k h2.2]; exact ⟨rfl, rfl, rfl⟩
    · rw [addB_ok ⟨hv, hp⟩ k (Classical.not_not.mp fun e => h2 ⟨rfl, e⟩)]; exact ⟨rfl, rfl, rfl⟩
  · rw [if_neg k]
    dsimp only
    refine ⟨⟨fun h2 => (by cases h2), fun _ => trivial⟩, fun h2 => (by cases h2.1), fun _ => ?_⟩
    rw [addB_no ⟨hv, hp⟩ k]; exact ⟨rfl, rfl, rfl⟩
theorem spec_radd (b : Bd) (c : Con) (h0 : b.most.length ≤ 1073741824) (h1 : ∀ r ∈ b.most, r.length ≤ 1073741824) : FnP Try.prog 20 [.agg ((e34 true) b), .agg (e25 c)] (fun xR => xR = .tup [.agg ((e34 false) ((addBM b c).1)), .bool ((addBM b c).2.1), .int .i64 ((addBM b c).2.2)]) :=
  (walk_radd (vcp_radd b c h0 h1)).mono (by rintro _ ⟨_, _, _, rfl, rfl, rfl, rfl⟩; rfl)
def vc_rrange (b : Bd) (f : Int) (t : Int) (Post : Int → Int → Int → Prop) : Prop :=
  ((b.most.length ≤ 1073741824) ∧ (∀ r ∈ b.most, r.length ≤ 1073741824) ∧ True) ∧ ((((¬ ((validBM b) = true)) ∨ ((f < (0 : Int)) ∨ ((b.n ≤ f) ∨ ((t < (0 : Int)) ∨ (b.n ≤ t))))) → Post (0 : Int) (0 : Int) (2 : Int)) ∧ (¬ ((¬ ((validBM b) = true)) ∨ ((f < (0 : Int)) ∨ ((b.n ≤ f) ∨ ((t < (0 : Int)) ∨ (b.n ≤ t))))) → (0 ≤ t ∧ t < (b.most.length : Int)) ∧ (0 ≤ f ∧ f < ((lat b.most t).length : Int)) ∧ (inI (-(lat (lat b.most t) f))) ∧ (0 ≤ f ∧ f < (b.most.length : Int)) ∧ (0 ≤ t ∧ t < ((lat b.most f).length : Int)) ∧ Post (-(lat (lat b.most t) f)) (lat (lat b.most f) t) (0 : Int)))
set_option maxRecDepth 100000 in
set_option maxHeartbeats 4000000 in
theorem walk_rrange {b : Bd} {f : Int} {t : Int} {Post : Int → Int → Int → Prop} (hv : vc_rrange b f t Post) : FnP Try.prog 22 [.agg ((e34 true) b), .int .i64 f, .int .i64 t] (fun x => ∃ q0 q1 q2, x = .tup [.int .i64 q0, .int .i64 q1, .int .i64 q2] ∧ Post q0 q1 q2) := by
 refine FnP.of_walk (T := tt) (nt := 49) ttOk ttMix ⟨⟨Try.f22, Try.func22, rfl, rfl, rfl, rfl⟩⟩ (by simp) ?_
 unfold vc_rrange at hv
 change W _ _ _ ⟨49, look [(0, .agg [.int .i64 b.n, .lst true b.most.length (encL (eSl eInt true) b.most)]), (1, .int .i64 f), (2, .int .i64 t)], [], false⟩ _
 refine W.tr [(0, .agg _), (1, .int _ _), (2, .int _ _)] [] ⟨rfl, rfl, rfl, trivial⟩ rfl ?_
 refine W.rL ?_
 refine cL rfl (o_box (v := .agg _) (p := 0) rfl rfl rfl ?_)
 iterate 3 refine aI rfl rfl ?_
 refine eL ?_
 refine W.tr [(1, .int _ _), (2, .int _ _), (3, .ptr _ _)] [.box _ [.int _ _, .lst _ _ _]] ⟨rfl, rfl, rfl, trivial⟩ rfl ?_
 refine W.seq' ?_
 obtain ⟨sd, hv⟩ := hv
 refine W.rLm ⟨49, look [(1, .int .i64 f), (2, .int .i64 t), (3, .ptr 0 0), (31, .bool (decide ((¬ ((validBM b) = true)) ∨ ((f < (0 : Int)) ∨ ((b.n ≤ f) ∨ ((t < (0 : Int)) ∨ (b.n ≤ t)))))))], [.box 34 [.int .i64 b.n, .lst true b.most.length (encL (eSl eInt true) b.most)]], false⟩ ?_ ?_
 refine cL rfl (o_ldA (cs := [.int _ _, .lst _ _ _]) tt34 rfl rfl ⟨_, rfl⟩ rfl ?_)
 obtain ⟨s7, s8, sd⟩ := sd
 refine cL rfl (o_callP1 (k := 26) (fst := []) (caps := []) (ys := [.agg _]) rfl rfl (spec_rvald b s7 s8) (Wks.cons (ag_agg 5 _ (Wks.cons (ag_int _ _ _ _) (Wks.cons (ag_lst _ _ _ _ _) (Wks.refl _)))) (Wks.refl _)) ?_)
 refine cL rfl (o_notB rfl ?_)
 refine mB rfl rfl ?_
 by_cases c1 : ¬ ((validBM b) = true)
 iterate 2 refine cLs rfl rfl rfl (decide_eq_true c1) ?_
 refine cL rfl (o_pickT (v := .bool _) rfl (decide_eq_true c1) rfl ?_)
 refine mB rfl rfl ?_
 iterate 4 refine cLs rfl rfl rfl (rfl) ?_
 refine cL rfl (o_pickT (v := .bool _) rfl rfl rfl ?_)
 refine mB rfl rfl ?_
 iterate 2 refine cLs rfl rfl rfl (rfl) ?_
 refine cL rfl (o_pickT (v := .bool _) rfl rfl rfl ?_)
 refine mB rfl rfl ?_
 iterate 4 refine cLs rfl rfl rfl (rfl) ?_
 refine cL rfl (o_pickT (v := .bool _) rfl rfl rfl ?_)
 refine eL ?_
 exact le_mk ⟨rfl, rfl, rfl, (congrArg AV.bool (dOrT c1)).symm, trivial⟩ rfl
 refine cLg rfl rfl (decide_eq_false c1) ?_
 refine mI rfl rfl ?_
 refine cLg rfl rfl (decide_eq_false c1) ?_
 refine cL rfl (o_lss rfl rfl ?_)
 refine cL rfl (o_pickF (v := .bool _) rfl (decide_eq_false c1) rfl ?_)
 refine mB rfl rfl ?_
 by_cases c2 : f < (0 : Int)
 iterate 4 refine cLs rfl rfl rfl (decide_eq_true c2) ?_
 refine cL rfl (o_pickT (v := .bool _) rfl (decide_eq_true c2) rfl ?_)
 refine mB rfl rfl ?_
 iterate 2 refine cLs rfl rfl rfl (rfl) ?_
 refine cL rfl (o_pickT (v := .bool _) rfl rfl rfl ?_)
 refine mB rfl rfl ?_
 iterate 4 refine cLs rfl rfl rfl (rfl) ?_
 refine cL rfl (o_pickT (v := .bool _) rfl rfl rfl ?_)
 refine eL ?_
 exact le_mk ⟨rfl, rfl, rfl, (congrArg AV.bool (dOrF c1 (dOrT c2))).symm, trivial⟩ rfl
 refine cLg rfl rfl (decide_eq_false c2) ?_
 refine mI rfl rfl ?_
 refine cLg rfl rfl (decide_eq_false c2) ?_
 refine cL rfl (o_fa tt34 rfl tt3 rfl ?_)
 refine cLg rfl rfl (decide_eq_false c2) ?_
 refine cL rfl (o_ldS (v := .int _ _) tt3 rfl rfl ⟨_, rfl⟩ ?_)
 refine cLg rfl rfl (decide_eq_false c2) ?_
 refine cL rfl (o_geq rfl rfl ?_)
 refine cL rfl (o_pickF (v := .bool _) rfl (decide_eq_false c2) rfl ?_)
 refine mB rfl rfl ?_
 by_cases c3 : b.n ≤ f
 iterate 2 refine cLs rfl rfl rfl (decide_eq_true c3) ?_
 refine cL rfl (o_pickT (v := .bool _) rfl (decide_eq_true c3) rfl ?_)
 refine mB rfl rfl ?_
 iterate 4 refine cLs rfl rfl rfl (rfl) ?_
 refine cL rfl (o_pickT (v := .bool _) rfl rfl rfl ?_)
 refine eL ?_
 exact le_mk ⟨rfl, rfl, rfl, (congrArg AV.bool (dOrF c1 (dOrF c2 (dOrT c3)))).symm, trivial⟩ rfl
 refine cLg rfl rfl (decide_eq_false c3) ?_
 refine mI rfl rfl ?_
 refine cLg rfl rfl (decide_eq_false c3) ?_
 refine cL rfl (o_lss rfl rfl ?_)
 refine cL rfl (o_pickF (v := .bool _) rfl (decide_eq_false c3) rfl ?_)
 refine mB rfl rfl ?_
 by_cases c4 : t < (0 : Int)
 iterate 4 refine cLs rfl rfl rfl (decide_eq_true c4) ?_
 refine cL rfl (o_pickT (v := .bool _) rfl (decide_eq_true c4) rfl ?_)
 refine eL ?_
 exact le_mk ⟨rfl, rfl, rfl, (congrArg AV.bool (dOrF c1 (dOrF c2 (dOrF c3 (dOrT c4))))).symm, trivial⟩ rfl
 refine cLg rfl rfl (decide_eq_false c4) ?_
 refine mI rfl rfl ?_
 refine cLg rfl rfl (decide_eq_false c4) ?_
 refine cL rfl (o_fa tt34 rfl tt3 rfl ?_)
 refine cLg rfl rfl (decide_eq_false c4) ?_
 refine cL rfl (o_ldS (v := .int _ _) tt3 rfl rfl ⟨_, rfl⟩ ?_)
 refine cLg rfl rfl (decide_eq_false c4) ?_
 refine cL rfl (o_geq rfl rfl ?_)
 refine cL rfl (o_pickF (v := .bool _) rfl (decide_eq_false c4) rfl ?_)
 refine eL ?_
 exact le_mk ⟨rfl, rfl, rfl, (congrArg AV.bool (dOrF c1 (dOrF c2 (dOrF c3 (dOrF c4 (rfl)))))).symm, trivial⟩ rfl
 refine W.cn rfl (fun hc => ?_) (fun hc => ?_)
 have hv := hv.1 hc
 refine W.rL ?_
 iterate 3 refine aI rfl rfl ?_
 refine eL ?_
 refine W.tr [(6, .int _ _), (7, .int _ _), (8, .int _ _)] [.box _ [.int _ _, .lst _ _ _]] ⟨rfl, rfl, rfl, trivial⟩ rfl ?_
 refine W.ret ?_
 refine th_ret (rt ?_)
 iterate 3 refine rt_t (v := .int _ _) rfl ?_
 refine rt_n ?_
 exact ⟨_, rs_tup 5 _ (Wks.cons (rs_int _ _ _ _) (Wks.cons (rs_int _ _ _ _) (Wks.cons (rs_int _ _ _ _) (Wks.refl _)))), (0 : Int), (0 : Int), (2 : Int), rfl, hv⟩
 have hv := hv.2 hc
 refine W.skip ?_
 refine th_nrm ?_
 refine W.tr [(1, .int _ _), (2, .int _ _), (3, .ptr _ _)] [.box _ [.int _ _, .lst _ _ _]] ⟨rfl, rfl, rfl, trivial⟩ rfl ?_
 refine W.rD [0, 1, 2, 3, 4, 5, 6, 7, 8, 9, 10, 11, 12, 13, 14, 15, 16, 17, 18, 19] (by decide +kernel) rfl ?_
 refine cL rfl (o_fa tt34 rfl tt32 rfl ?_)
 refine cL rfl (o_ldS (v := .lst _ _ _) tt32 rfl rfl ⟨_, rfl⟩ ?_)
 refine mI rfl rfl ?_
 obtain ⟨s9, hv⟩ := hv
 refine cL rfl (o_iaL tt32 tt35 rfl rfl ((encSl eInt).wd true) rfl s9 ?_)
 intro rest9
 refine cL rfl (o_ldS (v := .lst _ _ _) tt35 rfl rfl ⟨_, rfl⟩ ?_)
 refine mI rfl rfl ?_
 obtain ⟨s10, hv⟩ := hv
 refine cL rfl (o_iaL tt35 tt3 rfl rfl (encInt.wd true) rfl s10 ?_)
 intro rest10
 refine cL rfl (o_ldS (v := .int _ _) tt3 rfl rfl ⟨_, rfl⟩ ?_)
 obtain ⟨s11, hv⟩ := hv
 refine cL rfl (o_neg rfl s11 ?_)
 refine cL rfl (o_fa tt34 rfl tt32 rfl ?_)
 refine cL rfl (o_ldS (v := .lst _ _ _) tt32 rfl rfl ⟨_, rfl⟩ ?_)
 refine mI rfl rfl ?_
 obtain ⟨s12, hv⟩ := hv
 refine cL rfl (o_iaL tt32 tt35 rfl rfl ((encSl eInt).wd true) rfl s12 ?_)
 intro rest12
 refine cL rfl (o_ldS (v := .lst _ _ _) tt35 rfl rfl ⟨_, rfl⟩ ?_)
 refine mI rfl rfl ?_
 obtain ⟨s13, hv⟩ := hv
 refine cL rfl (o_iaL tt35 tt3 rfl rfl (encInt.wd true) rfl s13 ?_)
 intro rest13
 refine cL rfl (o_ldS (v := .int _ _) tt3 rfl rfl ⟨_, rfl⟩ ?_)
 iterate 3 refine aI rfl rfl ?_
 refine eL ?_
 refine W.tr [(6, .int _ _), (7, .int _ _), (8, .int _ _)] [.box _ [.int _ _, .lst _ _ _]] ⟨rfl, rfl, rfl, trivial⟩ rfl ?_
 refine W.ret ?_
 refine rt ?_
 iterate 3 refine rt_t (v := .int _ _) rfl ?_
 refine rt_n ?_
 exact ⟨_, rs_tup 5 _ (Wks.cons (rs_int _ _ _ _) (Wks.cons (rs_int _ _ _ _) (Wks.cons (rs_int _ _ _ _) (Wks.refl _)))), (-(lat (lat b.most t) f)), (lat (lat b.most f) t), (0 : Int), rfl, hv⟩
theorem vcp_rrange (b : Bd) (f : Int) (t : Int) (h0 : b.most.length ≤ 1073741824) (h1 : ∀ r ∈ b.most, r.length ≤ 1073741824) : vc_rrange b f t (fun q0 q1 q2 => q0 = (rangeM b f t).1 ∧ q1 = (rangeM b f t).2.1 ∧ q2 = (rangeM b f t).2.2) := by
  unfold vc_rrange
  have hnb := hNB
  refine ⟨⟨h0, h1, trivial⟩, fun h => ?_, fun h => ?_⟩
  · rw [range_neg]
    · exact ⟨rfl, rfl, rfl⟩
    · rintro ⟨a1, a2, a3⟩
      rcases h with h | h
      · exact h a1
      · omega
  have hv : validBM b = true := Classical.not_not.mp fun e => h (.inl e)
  have vb := validBM_iff.mp hv
  have h9 := fun e => h (.inr e)
  have hn := vb.n
  obtain ⟨f, rfl⟩ : ∃ k : Nat, f = k := ⟨f.toNat, by omega⟩
  obtain ⟨t, rfl⟩ : ∃ k : Nat, t = k := ⟨t.toNat, by omega⟩
  have r1 := lat_blen vb.row (i := (f : Int)) (by omega)
  have r2 := lat_blen vb.row (i := (t : Int)) (by omega)
  have o := vb.ok t f (by omega) (by omega)
  rw [range_pos hv (by omega) (by omega), lat_lat, lat_lat]
  exact ⟨by omega, by omega, by unfold inI; omega, by omega, by omega, rfl, rfl, rfl⟩
theorem spec_rrange (b : Bd) (f : Int) (t : Int) (h0 : b.most.length ≤ 1073741824) (h1 : ∀ r ∈ b.most, r.length ≤ 1073741824) : FnP Try.prog 22 [.agg ((e34 true) b), .int .i64 f, .int .i64 t] (fun xR => xR = .tup [.int .i64 ((rangeM b f t).1), .int .i64 ((rangeM b f t).2.1), .int .i64 ((rangeM b f t).2.2)]) :=
  (walk_rrange (vcp_rrange b f t h0 h1)).mono (by rintro _ ⟨_, _, _, rfl, rfl, rfl, rfl⟩; rfl)
end Go.Lat
