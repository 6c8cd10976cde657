/- The law latecomerlaw10.BeliefWider returns true for every input, and each argument reads afterwards as it read before. Part 10 of 12. No condition. -/
import Derived.Test.YtoaaemmchnfilaaLatD
import Derived.Test.YtoaaemmchnfilaaLatE
import Derived.Test.YtoaaemmchnfilaaLatG
set_option linter.unusedVariables false
set_option linter.unusedSimpArgs false
set_option linter.unnecessarySimpa false
namespace Go.Lat
open Go.RowKit Go.Proofs
attribute [local irreducible] closeM rangeM pointM addBM cycleM holdsM validBM sameM madeM pickM plusM validM possM firstM tableM longerM boundsM ofM addM freeM
def vc_tpick (c : Int) (n : Int) (Post : Int → Prop) : Prop :=
  ∃ J1 : Int → Prop, (∀ (v0 : Int), J1 v0 → (n ≠ 0) ∧ Post (v0.tmod n)) ∧ (((c < (0 : Int)) → (inI (c + (1 : Int))) ∧ (inI (-(c + (1 : Int)))) ∧ J1 (-(c + (1 : Int)))) ∧ (¬ (c < (0 : Int)) → J1 c))
set_option maxRecDepth 100000 in
set_option maxHeartbeats 4000000 in
theorem walk_tpick {c : Int} {n : Int} {Post : Int → Prop} (hv : vc_tpick c n Post) : FnP Try.prog 52 [.int .i64 c, .int .i64 n] (fun x => ∃ q0, x = .int .i64 q0 ∧ Post q0) := by
 refine FnP.of_walk (T := tt) (nt := 13) ttOk ttMix ⟨⟨Try.f52, Try.func52, rfl, rfl, rfl, rfl⟩⟩ (by simp) ?_
 unfold vc_tpick at hv
 change W _ _ _ ⟨13, look [(0, .int .i64 c), (1, .int .i64 n)], [], 0⟩ _
 refine W.tr [(0, .int _ _), (1, .int _ _)] [] ⟨rfl, rfl, trivial⟩ rfl ?_
 refine W.rL ?_
 refine aI rfl rfl ?_
 refine eL ?_
 refine W.tr [(0, .int _ _), (1, .int _ _)] [] ⟨rfl, rfl, trivial⟩ rfl ?_
 obtain ⟨J1, hj, hv⟩ := hv
 refine W.mid1 (fun v0 => ⟨13, look [(0, .int .i64 v0), (1, .int .i64 n)], [], 0⟩) J1 ?_ ?_
 intro v0
 intro hv
 replace hv := hj v0 hv
 refine W.rL ?_
 iterate 2 refine mI rfl rfl ?_
 obtain ⟨s3, hv⟩ := hv
 refine cL rfl (o_rem rfl rfl s3 ?_)
 refine aI rfl rfl ?_
 refine eL ?_
 refine W.tr [(4, .int _ _)] [] ⟨rfl, trivial⟩ rfl ?_
 refine W.ret ?_
 refine rt ?_
 refine rt_t (v := .int _ _) rfl ?_
 refine rt_n ?_
 exact ⟨_, rs_int _ _ _ _, (v0.tmod n), rfl, hv⟩
 clear hj
 refine W.rL ?_
 refine mI rfl rfl ?_
 refine cL rfl (o_lss rfl rfl ?_)
 refine eL ?_
 refine W.tr [(0, .int _ _), (1, .int _ _), (6, .bool _)] [] ⟨rfl, rfl, rfl, trivial⟩ rfl ?_
 refine W.cn rfl (fun hc => ?_) (fun hc => ?_)
 have hv := hv.1 hc
 refine W.rL1 ?_
 refine mI rfl rfl ?_
 obtain ⟨s4, hv⟩ := hv
 refine cL rfl (o_add rfl rfl s4 ?_)
 obtain ⟨s5, hv⟩ := hv
 refine cL rfl (o_neg rfl s5 ?_)
 refine aI rfl rfl ?_
 refine eL ?_
 exact th_nrm (⟨(), (-(c + (1 : Int))), hv, St.to_mk (φ := []) rfl (rfl) ⟨Ren.int _ _, Ren.int _ _, trivial⟩ trivial⟩)
 have hv := hv.2 hc
 refine W.skip ?_
 exact th_nrm (⟨(), c, hv, St.to_mk (φ := []) rfl (rfl) ⟨Ren.int _ _, Ren.int _ _, trivial⟩ trivial⟩)
theorem vcp_tpick (c : Int) (n : Int) (h0 : inI c) (h1 : 1 ≤ n) : vc_tpick c n (fun q0 => q0 = (pickM c n)) := by
  unfold vc_tpick
  refine ⟨fun v => v = if c < 0 then -(c+1) else c, fun v hv => ⟨by omega, by subst hv; unfold pickM; rfl⟩, fun h => ?_, fun h => ?_⟩
  · unfold inI at *; exact ⟨by omega, by omega, by simp [h]⟩
  · simp [h]
theorem spec_tpick (c : Int) (n : Int) (h0 : inI c) (h1 : 1 ≤ n) : FnP Try.prog 52 [.int .i64 c, .int .i64 n] (fun xR => xR = .int .i64 (pickM c n)) :=
  (walk_tpick (vcp_tpick c n h0 h1)).mono (by rintro _ ⟨_, rfl, rfl⟩; rfl)
attribute [local irreducible] cvalidM bvalidM choicesM partM chM liM brangeM witM pcM inM allM inSet
def vc_fleet (n : Int) (Post : Flt → Prop) : Prop :=
  (inI (n.tdiv (30 : Int))) ∧ (inI (n.tdiv (30 : Int))) ∧ (1 ≤ (5 : Int)) ∧ ∃ (I1 : Int → Int → Int → List Int → Prop) (μ1 : Int → Int → Int → List Int → Nat), I1 (0 : Int) (pickM (n.tdiv (30 : Int)) (5 : Int)) (0 : Int) [] ∧ ∀ (v4 : Int) (b3la : Int) (b3li : Int) (r4 : List Int), I1 v4 b3la b3li r4 → (inI n) ∧ (1 ≤ (5 : Int)) ∧ ((v4 ≤ (pickM n (5 : Int))) → (inI (n.tdiv (7 : Int))) ∧ (inI ((n.tdiv (7 : Int)) + v4)) ∧ (inI ((n.tdiv (7 : Int)) + v4)) ∧ (1 ≤ (40 : Int)) ∧ ((r4 ++ [pickM ((n.tdiv (7 : Int)) + v4) (40 : Int)]).length ≤ 1073741824) ∧ (inI (v4 + (1 : Int))) ∧ (I1 (v4 + (1 : Int)) b3la b3li (r4 ++ [pickM ((n.tdiv (7 : Int)) + v4) (40 : Int)]) ∧ μ1 (v4 + (1 : Int)) b3la b3li (r4 ++ [pickM ((n.tdiv (7 : Int)) + v4) (40 : Int)]) < μ1 v4 b3la b3li r4)) ∧ (¬ (v4 ≤ (pickM n (5 : Int))) → (inI (n.tdiv (5 : Int))) ∧ (inI (((r4.length : Nat) : Int) - (1 : Int))) ∧ (inI (n.tdiv (5 : Int))) ∧ (1 ≤ (3 : Int)) ∧ Post (Flt.mk r4 b3la (min (pickM (n.tdiv (5 : Int)) (3 : Int)) (((r4.length : Nat) : Int) - (1 : Int))) [(0 : Int)] [(0 : Int)]))
set_option maxRecDepth 100000 in
set_option maxHeartbeats 4000000 in
theorem walk_fleet {n : Int} {Post : Flt → Prop} (hv : vc_fleet n Post) : FnP Try.prog 32 [.int .i64 n] (fun x => ∃ q0, x = .agg ((e27 false) q0) ∧ Post q0) := by
 refine FnP.of_walk (T := tt) (nt := 37) ttOk ttMix ⟨⟨Try.f32, Try.func32, rfl, rfl, rfl, rfl⟩⟩ (by simp) ?_
 unfold vc_fleet at hv
 change W _ _ _ ⟨37, look [(0, .int .i64 n)], [], 0⟩ _
 refine W.tr [(0, .int _ _)] [] ⟨rfl, trivial⟩ rfl ?_
 refine W.rL ?_
 refine cL rfl (o_alloc (p := 0) tt27 rfl rfl ?_)
 refine eL ?_
 refine W.tr [(0, .int _ _), (2, .ptr _ _)] [.box _ [.nilS, .int _ _, .int _ _, .nilS, .nilS]] ⟨rfl, rfl, trivial⟩ rfl ?_
 refine W.rL ?_
 refine mI rfl rfl ?_
 obtain ⟨s1, hv⟩ := hv
 refine cL rfl (o_quo rfl rfl (by decide) s1 ?_)
 obtain ⟨s2, s3, hv⟩ := hv
 refine cL rfl (o_callP1 (k := 52) (fst := []) (caps := []) (ys := [.int _ _, .int _ _]) rfl rfl (spec_tpick (n.tdiv (30 : Int)) (5 : Int) s2 s3) (Wks.cons (ag_int _ _ _ _) (Wks.cons (ag_int _ _ _ _) (Wks.refl _))) ?_)
 refine cL rfl (o_bs1 (v := .int _ _) (q := 1) tt23 tt3 rfl rfl rfl rfl rfl rfl rfl rfl ?_)
 refine cL rfl (o_bs1 (v := .int _ _) (q := 2) tt23 tt3 rfl rfl rfl rfl rfl rfl rfl rfl ?_)
 refine cL rfl (o_build (qs := [(1, .int _ _), (3, .ref _ _ _), (4, .ref _ _ _)]) (cs := [.nilS, .int _ _, .int _ _, .ref _ _ _, .ref _ _ _]) tt27 rfl rfl rfl ?_)
 refine cL rfl (o_alloc (p := 3) tt27 rfl rfl ?_)
 refine cLn (o_stB (v := .agg _) (vs := [.nilS, .int _ _, .int _ _, .ref _ _ _, .ref _ _ _]) (cs2 := [.nilS, .int _ _, .int _ _, .ref _ _ _, .ref _ _ _]) tt27 rfl rfl rfl rfl rfl (Nat.le_of_ble_eq_true rfl) rfl ?_)
 refine eL ?_
 refine W.tr [(0, .int _ _), (2, .ptr _ _), (3, .ptr _ _)] [.box _ [.nilS, .int _ _, .int _ _, .nilS, .nilS], .row _ _ _, .row _ _ _, .box _ [.nilS, .int _ _, .int _ _, .ref _ _ _, .ref _ _ _]] ⟨rfl, rfl, rfl, trivial⟩ rfl ?_
 refine W.seq' ?_
 refine W.rL ?_
 refine aI rfl rfl ?_
 refine eL ?_
 refine W.tr [(0, .int _ _), (2, .ptr _ _), (3, .ptr _ _), (4, .int _ _)] [.box _ [.nilS, .int _ _, .int _ _, .nilS, .nilS], .row _ _ _, .row _ _ _, .box _ [.nilS, .int _ _, .int _ _, .ref _ _ _, .ref _ _ _]] ⟨rfl, rfl, rfl, rfl, trivial⟩ rfl ?_
 refine W.block ?_
 obtain ⟨I1, μ1, hp, hv⟩ := hv
 refine W.loop4 (fun v4 b3la b3li r4 => ⟨37, look [(0, .int .i64 n), (2, .ptr 0 0), (3, .ptr 3 0), (4, .int .i64 v4)], [.box 27 [.nilS, .int .i64 (0 : Int), .int .i64 (0 : Int), .nilS, .nilS], .row 3 1 (encL eInt [(0 : Int)]), .row 3 1 (encL eInt [(0 : Int)]), .box 27 [.ref true 4 r4.length, .int .i64 b3la, .int .i64 b3li, .ref false 1 ([(0 : Int)].length), .ref false 2 ([(0 : Int)].length)], .row 3 1 (encL eInt r4)], 0⟩) I1 μ1 (0 : Int) (pickM (n.tdiv (30 : Int)) (5 : Int)) (0 : Int) [] (St.to_mk (φ := [some 0, some 1, some 2, some 3, none]) rfl (rfl) ⟨Ren.int _ _, Ren.ptr rfl, Ren.ptr rfl, Ren.int _ _, trivial⟩ ⟨.inr ⟨_, rfl, rfl, Rens.cons (Ren.nilS) (Rens.cons (Ren.int _ _) (Rens.cons (Ren.int _ _) (Rens.cons (Ren.nilS) (Rens.cons (Ren.nilS) (Rens.nil)))))⟩, .inr ⟨_, rfl, rfl, rfl, rfl, Rens.enc encInt false [(0 : Int)]⟩, .inr ⟨_, rfl, rfl, rfl, rfl, Rens.enc encInt false [(0 : Int)]⟩, .inr ⟨_, rfl, rfl, Rens.cons (Ren.nilR rfl rfl) (Rens.cons (Ren.int _ _) (Rens.cons (Ren.int _ _) (Rens.cons (Ren.ref rfl (fun h => h)) (Rens.cons (Ren.ref rfl (fun h => h)) (Rens.nil)))))⟩, rfl, trivial⟩) hp ?_
 clear hp
 intro v4 b3la b3li r4 hI
 replace hv := hv v4 b3la b3li r4 hI
 clear hI
 refine W.seq' ?_
 refine W.rL ?_
 iterate 2 refine mI rfl rfl ?_
 obtain ⟨s77, s78, hv⟩ := hv
 refine cL rfl (o_callP1 (k := 52) (fst := []) (caps := []) (ys := [.int _ _, .int _ _]) rfl rfl (spec_tpick n (5 : Int) s77 s78) (Wks.cons (ag_int _ _ _ _) (Wks.cons (ag_int _ _ _ _) (Wks.refl _))) ?_)
 refine cL rfl (o_leq rfl rfl ?_)
 refine eL ?_
 refine W.tr [(0, .int _ _), (2, .ptr _ _), (3, .ptr _ _), (4, .int _ _), (14, .bool _)] [.box _ [.nilS, .int _ _, .int _ _, .nilS, .nilS], .row _ _ _, .row _ _ _, .box _ [.ref _ _ _, .int _ _, .int _ _, .ref _ _ _, .ref _ _ _], .row _ _ _] ⟨rfl, rfl, rfl, rfl, rfl, trivial⟩ rfl ?_
 refine W.cn rfl (fun hc => ?_) (fun hc => ?_)
 have hv := hv.1 hc
 refine W.skip ?_
 refine th_nrm ?_
 refine W.tr [(0, .int _ _), (2, .ptr _ _), (3, .ptr _ _), (4, .int _ _)] [.box _ [.nilS, .int _ _, .int _ _, .nilS, .nilS], .row _ _ _, .row _ _ _, .box _ [.ref _ _ _, .int _ _, .int _ _, .ref _ _ _, .ref _ _ _], .row _ _ _] ⟨rfl, rfl, rfl, rfl, trivial⟩ rfl ?_
 refine W.seq' ?_
 refine W.block ?_
 refine W.rD1 [0, 1, 2, 3, 4, 5, 6, 7, 8, 9, 10] (by decide +kernel) rfl ?_
 refine cL rfl (o_fa tt27 rfl tt23 rfl ?_)
 refine cL rfl (o_ldS (v := .ref _ _ _) tt23 rfl rfl ⟨_, rfl⟩ ?_)
 refine mI rfl rfl ?_
 obtain ⟨s84, hv⟩ := hv
 refine cL rfl (o_quo rfl rfl (by decide) s84 ?_)
 refine mI rfl rfl ?_
 obtain ⟨s85, hv⟩ := hv
 refine cL rfl (o_add rfl rfl s85 ?_)
 obtain ⟨s86, s87, hv⟩ := hv
 refine cL rfl (o_callP1 (k := 52) (fst := []) (caps := []) (ys := [.int _ _, .int _ _]) rfl rfl (spec_tpick ((n.tdiv (7 : Int)) + v4) (40 : Int) s86 s87) (Wks.cons (ag_int _ _ _ _) (Wks.cons (ag_int _ _ _ _) (Wks.refl _))) ?_)
 refine cL rfl (o_bs1 (v := .int _ _) (q := 5) tt23 tt3 rfl rfl rfl rfl rfl rfl rfl rfl ?_)
 obtain ⟨s88, hv⟩ := hv
 refine cL rfl (o_apR (p := 6) (q := (r4 ++ [pickM ((n.tdiv (7 : Int)) + v4) (40 : Int)]).length) tt23 tt3 rfl rfl (src_ref rfl rfl) rfl rfl (encL_length (encInt.wd false) _) (Nat.le_trans (Nat.le_of_eq (@List.length_append _ (r4) ([pickM ((n.tdiv (7 : Int)) + v4) (40 : Int)])).symm) s88) rfl (@List.length_append _ (r4) ([pickM ((n.tdiv (7 : Int)) + v4) (40 : Int)])).symm (encL_app eInt r4 [pickM ((n.tdiv (7 : Int)) + v4) (40 : Int)]) ?_)
 refine cL rfl (o_fa tt27 rfl tt23 rfl ?_)
 refine cLn (o_stB (v := .ref _ _ _) (vs := [.ref _ _ _]) (cs2 := [.ref _ _ _, .int _ _, .int _ _, .ref _ _ _, .ref _ _ _]) tt23 rfl rfl rfl rfl rfl (Nat.le_of_ble_eq_true rfl) rfl ?_)
 refine eL ?_
 refine bl_nrm (th_nrm ?_)
 refine W.tr [(0, .int _ _), (2, .ptr _ _), (3, .ptr _ _), (4, .int _ _)] [.box _ [.nilS, .int _ _, .int _ _, .nilS, .nilS], .row _ _ _, .row _ _ _, .box _ [.ref _ _ _, .int _ _, .int _ _, .ref _ _ _, .ref _ _ _], .dead, .row _ _ _, .row _ _ _] ⟨rfl, rfl, rfl, rfl, trivial⟩ rfl ?_
 refine W.rL1 ?_
 refine mI rfl rfl ?_
 obtain ⟨s89, hv⟩ := hv
 refine cL rfl (o_add rfl rfl s89 ?_)
 refine aI rfl rfl ?_
 refine eL ?_
 exact th_nrm (⟨(), (v4 + (1 : Int)), b3la, b3li, (r4 ++ [pickM ((n.tdiv (7 : Int)) + v4) (40 : Int)]), hv, St.to_mk (φ := [some 0, some 1, some 2, some 3, some 6]) rfl (rfl) ⟨Ren.int _ _, Ren.ptr rfl, Ren.ptr rfl, Ren.int _ _, trivial⟩ ⟨.inr ⟨_, rfl, rfl, Rens.cons (Ren.nilS) (Rens.cons (Ren.int _ _) (Rens.cons (Ren.int _ _) (Rens.cons (Ren.nilS) (Rens.cons (Ren.nilS) (Rens.nil)))))⟩, .inr ⟨_, rfl, rfl, rfl, rfl, Rens.enc encInt false [(0 : Int)]⟩, .inr ⟨_, rfl, rfl, rfl, rfl, Rens.enc encInt false [(0 : Int)]⟩, .inr ⟨_, rfl, rfl, Rens.cons (Ren.ref rfl (fun h => rfl)) (Rens.cons (Ren.int _ _) (Rens.cons (Ren.int _ _) (Rens.cons (Ren.ref rfl (fun h => h)) (Rens.cons (Ren.ref rfl (fun h => h)) (Rens.nil)))))⟩, .inr ⟨_, rfl, rfl, rfl, rfl, Rens.enc encInt false (r4 ++ [pickM ((n.tdiv (7 : Int)) + v4) (40 : Int)])⟩, trivial⟩⟩)
 have hv := hv.2 hc
 refine W.exit ?_
 refine th_exit (th_exit (bl_hit (th_nrm ?_)))
 refine W.tr [(0, .int _ _), (2, .ptr _ _), (3, .ptr _ _)] [.box _ [.nilS, .int _ _, .int _ _, .nilS, .nilS], .row _ _ _, .row _ _ _, .box _ [.ref _ _ _, .int _ _, .int _ _, .ref _ _ _, .ref _ _ _], .row _ _ _] ⟨rfl, rfl, rfl, trivial⟩ rfl ?_
 refine W.rP [0, 1, 3, 4, 5, 6, 2, 7, 8, 9] (by decide +kernel) rfl ?_
 refine mI rfl rfl ?_
 obtain ⟨s90, hv⟩ := hv
 refine cL rfl (o_quo rfl rfl (by decide) s90 ?_)
 refine cL rfl (o_fa tt27 rfl tt23 rfl ?_)
 refine cL rfl (o_ldS (v := .ref _ _ _) tt23 rfl rfl ⟨_, rfl⟩ ?_)
 refine cL rfl (o_len (v := .ref _ _ _) tt23 rfl rfl ?_)
 obtain ⟨s91, hv⟩ := hv
 refine cL rfl (o_sub rfl rfl s91 ?_)
 obtain ⟨s92, s93, hv⟩ := hv
 refine cL rfl (o_callP1 (k := 52) (fst := []) (caps := []) (ys := [.int _ _, .int _ _]) rfl rfl (spec_tpick (n.tdiv (5 : Int)) (3 : Int) s92 s93) (Wks.cons (ag_int _ _ _ _) (Wks.cons (ag_int _ _ _ _) (Wks.refl _))) ?_)
 refine cL rfl (o_min rfl rfl ?_)
 refine cL rfl (o_fa tt27 rfl tt3 rfl ?_)
 refine cLn (o_stB (v := .int _ _) (vs := [.int _ _]) (cs2 := [.ref _ _ _, .int _ _, .int _ _, .ref _ _ _, .ref _ _ _]) tt3 rfl rfl rfl rfl rfl (Nat.le_of_ble_eq_true rfl) rfl ?_)
 refine eL ?_
 refine W.tr [(2, .ptr _ _), (3, .ptr _ _)] [.box _ [.nilS, .int _ _, .int _ _, .nilS, .nilS], .row _ _ _, .row _ _ _, .box _ [.ref _ _ _, .int _ _, .int _ _, .ref _ _ _, .ref _ _ _], .row _ _ _] ⟨rfl, rfl, trivial⟩ rfl ?_
 refine W.rL ?_
 refine cL rfl (o_ldA (cs := [.ref _ _ _, .int _ _, .int _ _, .ref _ _ _, .ref _ _ _]) tt27 rfl rfl ⟨_, rfl⟩ rfl ?_)
 refine cLn (o_stB (v := .agg _) (vs := [.ref _ _ _, .int _ _, .int _ _, .ref _ _ _, .ref _ _ _]) (cs2 := [.ref _ _ _, .int _ _, .int _ _, .ref _ _ _, .ref _ _ _]) tt27 rfl rfl rfl rfl rfl (Nat.le_of_ble_eq_true rfl) rfl ?_)
 refine eL ?_
 refine W.tr [(2, .ptr _ _)] [.box _ [.ref _ _ _, .int _ _, .int _ _, .ref _ _ _, .ref _ _ _], .row _ _ _, .row _ _ _, .box _ [.ref _ _ _, .int _ _, .int _ _, .ref _ _ _, .ref _ _ _], .row _ _ _] ⟨rfl, trivial⟩ rfl ?_
 refine W.ret ?_
 refine rt ?_
 refine rt_c (x := .ptr _ _) rfl (ldA (cs := [.ref _ _ _, .int _ _, .int _ _, .ref _ _ _, .ref _ _ _]) tt27 rfl ⟨_, rfl⟩ rfl ?_)
 refine rt_n ?_
 exact ⟨_, rs_agg 5 _ (Wks.cons (rs_ref encInt 3 _ rfl rfl) (Wks.cons (rs_int _ _ _ _) (Wks.cons (rs_int _ _ _ _) (Wks.cons (rs_ref encInt 3 _ rfl rfl) (Wks.cons (rs_ref encInt 3 _ rfl rfl) (Wks.refl _)))))), (Flt.mk r4 b3la (min (pickM (n.tdiv (5 : Int)) (3 : Int)) (((r4.length : Nat) : Int) - (1 : Int))) [(0 : Int)] [(0 : Int)]), rfl, hv⟩
theorem vcp_fleet (n : Int) (h0 : inI n) : vc_fleet n (fun q0 => q0 = (fleetM n)) := by
  unfold vc_fleet
  have h5 := pickM_nonneg (c := n) (n := 5) (by omega)
  have h7 := inI_tdiv7 h0
  refine ⟨inI_tdiv30 h0, inI_tdiv30 h0, by omega, fun v x y r => ∃ i : Nat, v = i ∧ (i : Int) ≤ pickM n 5 + 1 ∧ x = pickM (n.tdiv 30) 5 ∧ y = 0 ∧ r = (List.range i).map fun (a : Nat) => pickM (n.tdiv 7 + a) 40, fun v _ _ _ => 6 - v.toNat, ⟨0, rfl, by omega, rfl, rfl, rfl⟩, ?_⟩
  rintro _ _ _ _ ⟨i, rfl, hi, rfl, rfl, rfl⟩
  have hlen : ((List.range i).map fun (a : Nat) => pickM (n.tdiv 7 + a) 40).length = i := by simp
  refine ⟨h0, by omega, fun h1 => ⟨by unfold inI; omega, by unfold inI; omega, by unfold inI; omega, by omega, by rw [List.length_append, hlen]; simp; omega, by unfold inI; omega, ⟨i + 1, by omega, by omega, rfl, rfl, map_range_succ.symm⟩, by dsimp only; omega⟩, fun h1 => ⟨inI_tdiv5 h0, by rw [hlen]; unfold inI; omega, inI_tdiv5 h0, by omega, ?_⟩⟩
  have hi5 : i = (pickM n 5).toNat + 1 := by omega
  show _ = fleetM n
  subst hi5
  rfl
theorem spec_fleet (n : Int) (h0 : inI n) : FnP Try.prog 32 [.int .i64 n] (fun xR => xR = .agg ((e27 false) (fleetM n))) :=
  (walk_fleet (vcp_fleet n h0)).mono (by rintro _ ⟨_, rfl, rfl⟩; rfl)
def vc_pick (c : Int) (n : Int) (Post : Int → Prop) : Prop :=
  ∃ J1 : Int → Prop, (∀ (v0 : Int), J1 v0 → (n ≠ 0) ∧ Post (v0.tmod n)) ∧ (((c < (0 : Int)) → (inI (c + (1 : Int))) ∧ (inI (-(c + (1 : Int)))) ∧ J1 (-(c + (1 : Int)))) ∧ (¬ (c < (0 : Int)) → J1 c))
set_option maxRecDepth 100000 in
set_option maxHeartbeats 4000000 in
theorem walk_pick {c : Int} {n : Int} {Post : Int → Prop} (hv : vc_pick c n Post) : FnP Try.prog 21 [.int .i64 c, .int .i64 n] (fun x => ∃ q0, x = .int .i64 q0 ∧ Post q0) := by
 refine FnP.of_walk (T := tt) (nt := 13) ttOk ttMix ⟨⟨Try.f21, Try.func21, rfl, rfl, rfl, rfl⟩⟩ (by simp) ?_
 unfold vc_pick at hv
 change W _ _ _ ⟨13, look [(0, .int .i64 c), (1, .int .i64 n)], [], 0⟩ _
 refine W.tr [(0, .int _ _), (1, .int _ _)] [] ⟨rfl, rfl, trivial⟩ rfl ?_
 refine W.rL ?_
 refine aI rfl rfl ?_
 refine eL ?_
 refine W.tr [(0, .int _ _), (1, .int _ _)] [] ⟨rfl, rfl, trivial⟩ rfl ?_
 obtain ⟨J1, hj, hv⟩ := hv
 refine W.mid1 (fun v0 => ⟨13, look [(0, .int .i64 v0), (1, .int .i64 n)], [], 0⟩) J1 ?_ ?_
 intro v0
 intro hv
 replace hv := hj v0 hv
 refine W.rL ?_
 iterate 2 refine mI rfl rfl ?_
 obtain ⟨s3, hv⟩ := hv
 refine cL rfl (o_rem rfl rfl s3 ?_)
 refine aI rfl rfl ?_
 refine eL ?_
 refine W.tr [(4, .int _ _)] [] ⟨rfl, trivial⟩ rfl ?_
 refine W.ret ?_
 refine rt ?_
 refine rt_t (v := .int _ _) rfl ?_
 refine rt_n ?_
 exact ⟨_, rs_int _ _ _ _, (v0.tmod n), rfl, hv⟩
 clear hj
 refine W.rL ?_
 refine mI rfl rfl ?_
 refine cL rfl (o_lss rfl rfl ?_)
 refine eL ?_
 refine W.tr [(0, .int _ _), (1, .int _ _), (6, .bool _)] [] ⟨rfl, rfl, rfl, trivial⟩ rfl ?_
 refine W.cn rfl (fun hc => ?_) (fun hc => ?_)
 have hv := hv.1 hc
 refine W.rL1 ?_
 refine mI rfl rfl ?_
 obtain ⟨s4, hv⟩ := hv
 refine cL rfl (o_add rfl rfl s4 ?_)
 obtain ⟨s5, hv⟩ := hv
 refine cL rfl (o_neg rfl s5 ?_)
 refine aI rfl rfl ?_
 refine eL ?_
 exact th_nrm (⟨(), (-(c + (1 : Int))), hv, St.to_mk (φ := []) rfl (rfl) ⟨Ren.int _ _, Ren.int _ _, trivial⟩ trivial⟩)
 have hv := hv.2 hc
 refine W.skip ?_
 exact th_nrm (⟨(), c, hv, St.to_mk (φ := []) rfl (rfl) ⟨Ren.int _ _, Ren.int _ _, trivial⟩ trivial⟩)
theorem vcp_pick (c : Int) (n : Int) (h0 : inI c) (h1 : 1 ≤ n) : vc_pick c n (fun q0 => q0 = (pickM c n)) := by
  unfold vc_pick
  refine ⟨fun v => v = if c < 0 then -(c+1) else c, fun v hv => ⟨by omega, by subst hv; unfold pickM; rfl⟩, fun h => ?_, fun h => ?_⟩
  · unfold inI at *; exact ⟨by omega, by omega, by simp [h]⟩
  · simp [h]
theorem spec_pick (c : Int) (n : Int) (h0 : inI c) (h1 : 1 ≤ n) : FnP Try.prog 21 [.int .i64 c, .int .i64 n] (fun xR => xR = .int .i64 (pickM c n)) :=
  (walk_pick (vcp_pick c n h0 h1)).mono (by rintro _ ⟨_, rfl, rfl⟩; rfl)
def vc_rpick (c : Int) (n : Int) (Post : Int → Prop) : Prop :=
  ∃ J1 : Int → Prop, (∀ (v0 : Int), J1 v0 → (n ≠ 0) ∧ Post (v0.tmod n)) ∧ (((c < (0 : Int)) → (inI (c + (1 : Int))) ∧ (inI (-(c + (1 : Int)))) ∧ J1 (-(c + (1 : Int)))) ∧ (¬ (c < (0 : Int)) → J1 c))
set_option maxRecDepth 100000 in
set_option maxHeartbeats 4000000 in
theorem walk_rpick {c : Int} {n : Int} {Post : Int → Prop} (hv : vc_rpick c n Post) : FnP Try.prog 70 [.int .i64 c, .int .i64 n] (fun x => ∃ q0, x = .int .i64 q0 ∧ Post q0) := by
 refine FnP.of_walk (T := tt) (nt := 13) ttOk ttMix ⟨⟨Try.f70, Try.func70, rfl, rfl, rfl, rfl⟩⟩ (by simp) ?_
 unfold vc_rpick at hv
 change W _ _ _ ⟨13, look [(0, .int .i64 c), (1, .int .i64 n)], [], 0⟩ _
 refine W.tr [(0, .int _ _), (1, .int _ _)] [] ⟨rfl, rfl, trivial⟩ rfl ?_
 refine W.rL ?_
 refine aI rfl rfl ?_
 refine eL ?_
 refine W.tr [(0, .int _ _), (1, .int _ _)] [] ⟨rfl, rfl, trivial⟩ rfl ?_
 obtain ⟨J1, hj, hv⟩ := hv
 refine W.mid1 (fun v0 => ⟨13, look [(0, .int .i64 v0), (1, .int .i64 n)], [], 0⟩) J1 ?_ ?_
 intro v0
 intro hv
 replace hv := hj v0 hv
 refine W.rL ?_
 iterate 2 refine mI rfl rfl ?_
 obtain ⟨s3, hv⟩ := hv
 refine cL rfl (o_rem rfl rfl s3 ?_)
 refine aI rfl rfl ?_
 refine eL ?_
 refine W.tr [(4, .int _ _)] [] ⟨rfl, trivial⟩ rfl ?_
 refine W.ret ?_
 refine rt ?_
 refine rt_t (v := .int _ _) rfl ?_
 refine rt_n ?_
 exact ⟨_, rs_int _ _ _ _, (v0.tmod n), rfl, hv⟩
 clear hj
 refine W.rL ?_
 refine mI rfl rfl ?_
 refine cL rfl (o_lss rfl rfl ?_)
 refine eL ?_
 refine W.tr [(0, .int _ _), (1, .int _ _), (6, .bool _)] [] ⟨rfl, rfl, rfl, trivial⟩ rfl ?_
 refine W.cn rfl (fun hc => ?_) (fun hc => ?_)
 have hv := hv.1 hc
 refine W.rL1 ?_
 refine mI rfl rfl ?_
 obtain ⟨s4, hv⟩ := hv
 refine cL rfl (o_add rfl rfl s4 ?_)
 obtain ⟨s5, hv⟩ := hv
 refine cL rfl (o_neg rfl s5 ?_)
 refine aI rfl rfl ?_
 refine eL ?_
 exact th_nrm (⟨(), (-(c + (1 : Int))), hv, St.to_mk (φ := []) rfl (rfl) ⟨Ren.int _ _, Ren.int _ _, trivial⟩ trivial⟩)
 have hv := hv.2 hc
 refine W.skip ?_
 exact th_nrm (⟨(), c, hv, St.to_mk (φ := []) rfl (rfl) ⟨Ren.int _ _, Ren.int _ _, trivial⟩ trivial⟩)
theorem vcp_rpick (c : Int) (n : Int) (h0 : inI c) (h1 : 1 ≤ n) : vc_rpick c n (fun q0 => q0 = (pickM c n)) := by
  unfold vc_rpick
  refine ⟨fun v => v = if c < 0 then -(c+1) else c, fun v hv => ⟨by omega, by subst hv; unfold pickM; rfl⟩, fun h => ?_, fun h => ?_⟩
  · unfold inI at *; exact ⟨by omega, by omega, by simp [h]⟩
  · simp [h]
theorem spec_rpick (c : Int) (n : Int) (h0 : inI c) (h1 : 1 ≤ n) : FnP Try.prog 70 [.int .i64 c, .int .i64 n] (fun xR => xR = .int .i64 (pickM c n)) :=
  (walk_rpick (vcp_rpick c n h0 h1)).mono (by rintro _ ⟨_, rfl, rfl⟩; rfl)
def vc_madeR (n : Int) (x : (List A3)) (Post : (List Con) → Prop) : Prop :=
  ∃ (I1 : Int → List Con → Prop) (μ1 : Int → List Con → Nat), I1 (0 : Int) [] ∧ ∀ (v6 : Int) (r0 : List Con), I1 v6 r0 → (((v6 < ((x.length : Nat) : Int)) ∧ ((v6 < (30 : Int)) ∧ ((1 : Int) < n))) → (0 ≤ v6 ∧ v6 < (x.length : Int)) ∧ (inI ((lat x v6).x0)) ∧ (1 ≤ n) ∧ (inI ((pickM ((lat x v6).x0) n) + (1 : Int))) ∧ (0 ≤ v6 ∧ v6 < (x.length : Int)) ∧ (inI (n - (1 : Int))) ∧ (inI ((lat x v6).x1)) ∧ (1 ≤ (n - (1 : Int))) ∧ (inI (((pickM ((lat x v6).x0) n) + (1 : Int)) + (pickM ((lat x v6).x1) (n - (1 : Int))))) ∧ (n ≠ 0) ∧ (0 ≤ v6 ∧ v6 < (x.length : Int)) ∧ (0 ≤ v6 ∧ v6 < (x.length : Int)) ∧ (inI (((lat x v6).x1).tdiv (30 : Int))) ∧ (inI ((lat x v6).x2)) ∧ (1 ≤ (20 : Int)) ∧ (inI ((pickM ((lat x v6).x2) (20 : Int)) - (6 : Int))) ∧ (inI (((lat x v6).x1).tdiv (30 : Int))) ∧ (1 ≤ (6 : Int)) ∧ (0 ≤ (pickM (((lat x v6).x1).tdiv (30 : Int)) (6 : Int))) ∧ (inI ((1 : Int) * 2 ^ (min (pickM (((lat x v6).x1).tdiv (30 : Int)) (6 : Int)).toNat 64))) ∧ ((r0 ++ [(Con.mk (pickM ((lat x v6).x0) n) ((((pickM ((lat x v6).x0) n) + (1 : Int)) + (pickM ((lat x v6).x1) (n - (1 : Int)))).tmod n) ((pickM ((lat x v6).x2) (20 : Int)) - (6 : Int)) ((1 : Int) * 2 ^ (min (pickM (((lat x v6).x1).tdiv (30 : Int)) (6 : Int)).toNat 64)))]).length ≤ 1073741824) ∧ (inI (v6 + (1 : Int))) ∧ (I1 (v6 + (1 : Int)) (r0 ++ [(Con.mk (pickM ((lat x v6).x0) n) ((((pickM ((lat x v6).x0) n) + (1 : Int)) + (pickM ((lat x v6).x1) (n - (1 : Int)))).tmod n) ((pickM ((lat x v6).x2) (20 : Int)) - (6 : Int)) ((1 : Int) * 2 ^ (min (pickM (((lat x v6).x1).tdiv (30 : Int)) (6 : Int)).toNat 64)))]) ∧ μ1 (v6 + (1 : Int)) (r0 ++ [(Con.mk (pickM ((lat x v6).x0) n) ((((pickM ((lat x v6).x0) n) + (1 : Int)) + (pickM ((lat x v6).x1) (n - (1 : Int)))).tmod n) ((pickM ((lat x v6).x2) (20 : Int)) - (6 : Int)) ((1 : Int) * 2 ^ (min (pickM (((lat x v6).x1).tdiv (30 : Int)) (6 : Int)).toNat 64)))]) < μ1 v6 r0)) ∧ (¬ ((v6 < ((x.length : Nat) : Int)) ∧ ((v6 < (30 : Int)) ∧ ((1 : Int) < n))) → Post r0)
set_option maxRecDepth 100000 in
set_option maxHeartbeats 4000000 in
theorem walk_madeR {n : Int} {x : (List A3)} {Post : (List Con) → Prop} (hv : vc_madeR n x Post) : FnH Try.prog 53 [] [.int .i64 n, .lst true x.length (encL e29 x)] (fun x H => ∃ l q0, H = .row 66 4 (encL e66 q0) :: l ∧ x = .ref false 0 q0.length ∧ Post q0) := by
 refine FnH.of_walk (T := tt) (nt := 65) ttOk ttMix ⟨⟨Try.f53, Try.func53, rfl, rfl, rfl, rfl⟩⟩ (by simp) (by simp) 0 (by simp) ?_
 unfold vc_madeR at hv
 change W _ _ _ ⟨65, look [(0, .int .i64 n), (1, .lst true x.length (encL e29 x))], [], 0⟩ _
 refine W.tr [(0, .int _ _), (1, .lst _ _ _)] [] ⟨rfl, rfl, trivial⟩ rfl ?_
 refine W.rL ?_
 refine cL rfl (o_assign (v := .nilS) rfl ?_)
 refine eL ?_
 refine W.tr [(0, .int _ _), (1, .lst _ _ _)] [] ⟨rfl, rfl, trivial⟩ rfl ?_
 refine W.rL ?_
 refine cL rfl (o_assign (v := .nilS) rfl ?_)
 refine eL ?_
 refine W.tr [(0, .int _ _), (1, .lst _ _ _), (5, .nilS)] [] ⟨rfl, rfl, rfl, trivial⟩ rfl ?_
 refine W.seq' ?_
 refine W.rL ?_
 refine aI rfl rfl ?_
 refine eL ?_
 refine W.tr [(0, .int _ _), (1, .lst _ _ _), (5, .nilS), (6, .int _ _)] [] ⟨rfl, rfl, rfl, rfl, trivial⟩ rfl ?_
 refine W.block ?_
 obtain ⟨I1, μ1, hp, hv⟩ := hv
 refine W.loop2 (fun v6 r0 => ⟨65, look [(0, .int .i64 n), (1, .lst true x.length (encL e29 x)), (5, .ref true 0 r0.length), (6, .int .i64 v6)], [.row 66 4 (encL e66 r0)], 0⟩) I1 μ1 (0 : Int) [] (St.to_mk (φ := [none]) rfl (rfl) ⟨Ren.int _ _, Ren.lst _ _ _, Ren.nilR rfl rfl, Ren.int _ _, trivial⟩ ⟨rfl, trivial⟩) hp ?_
 clear hp
 intro v6 r0 hI
 replace hv := hv v6 r0 hI
 clear hI
 refine W.seq' ?_
 refine W.rLm ⟨65, look [(0, .int .i64 n), (1, .lst true x.length (encL e29 x)), (5, .ref true 0 r0.length), (6, .int .i64 v6), (20, .bool (decide ((v6 < ((x.length : Nat) : Int)) ∧ ((v6 < (30 : Int)) ∧ ((1 : Int) < n)))))], [.row 66 4 (encL e66 r0)], 0⟩ ?_ ?_
 refine mI rfl rfl ?_
 refine mL rfl rfl ?_
 refine cL rfl (o_len (v := .lst _ _ _) tt22 rfl rfl ?_)
 refine cL rfl (o_lss rfl rfl ?_)
 refine mB rfl rfl ?_
 by_cases c1 : v6 < ((x.length : Nat) : Int)
 refine cLg rfl rfl (decide_eq_true c1) ?_
 refine mI rfl rfl ?_
 refine cLg rfl rfl (decide_eq_true c1) ?_
 refine cL rfl (o_lss rfl rfl ?_)
 refine cL rfl (o_pickT (v := .bool _) rfl (decide_eq_true c1) rfl ?_)
 refine mB rfl rfl ?_
 by_cases c2 : v6 < (30 : Int)
 refine cLg rfl rfl (decide_eq_true c2) ?_
 refine mI rfl rfl ?_
 refine cLg rfl rfl (decide_eq_true c2) ?_
 refine cL rfl (o_gtr rfl rfl ?_)
 refine cL rfl (o_pickT (v := .bool _) rfl (decide_eq_true c2) rfl ?_)
 refine eL ?_
 exact le_mk ⟨rfl, rfl, rfl, rfl, (congrArg AV.bool (dAndT c1 (dAndT c2 (rfl)))).symm, trivial⟩ rfl
 iterate 2 refine cLs rfl rfl rfl (decide_eq_false c2) ?_
 refine cL rfl (o_pickF (v := .bool _) rfl (decide_eq_false c2) rfl ?_)
 refine eL ?_
 exact le_mk ⟨rfl, rfl, rfl, rfl, (congrArg AV.bool (dAndT c1 (dAndF c2))).symm, trivial⟩ rfl
 iterate 2 refine cLs rfl rfl rfl (decide_eq_false c1) ?_
 refine cL rfl (o_pickF (v := .bool _) rfl (decide_eq_false c1) rfl ?_)
 refine mB rfl rfl ?_
 iterate 2 refine cLs rfl rfl rfl (rfl) ?_
 refine cL rfl (o_pickF (v := .bool _) rfl rfl rfl ?_)
 refine eL ?_
 exact le_mk ⟨rfl, rfl, rfl, rfl, (congrArg AV.bool (dAndF c1)).symm, trivial⟩ rfl
 refine W.cn rfl (fun hc => ?_) (fun hc => ?_)
 have hv := hv.1 hc
 refine W.skip ?_
 refine th_nrm ?_
 refine W.tr [(0, .int _ _), (1, .lst _ _ _), (5, .ref _ _ _), (6, .int _ _)] [.row _ _ _] ⟨rfl, rfl, rfl, rfl, trivial⟩ rfl ?_
 refine W.seq' ?_
 refine W.block ?_
 refine W.rL ?_
 refine mL rfl rfl ?_
 refine mI rfl rfl ?_
 obtain ⟨s233, hv⟩ := hv
 refine cL rfl (o_iaL tt22 tt29 rfl rfl (enc29.wd true) rfl s233 ?_)
 intro rest233
 refine cL rfl (o_iaP tt29 tt3 rfl rfl ⟨by decide, by decide⟩ ?_)
 refine cL rfl (o_ldS (v := .int _ _) tt3 rfl rfl ⟨_, rfl⟩ ?_)
 refine mI rfl rfl ?_
 obtain ⟨s234, s235, hv⟩ := hv
 refine cL rfl (o_callP1 (k := 70) (fst := []) (caps := []) (ys := [.int _ _, .int _ _]) rfl rfl (spec_rpick ((lat x v6).x0) n s234 s235) (Wks.cons (ag_int _ _ _ _) (Wks.cons (ag_int _ _ _ _) (Wks.refl _))) ?_)
 refine aI rfl rfl ?_
 refine eL ?_
 refine W.tr [(0, .int _ _), (1, .lst _ _ _), (5, .ref _ _ _), (6, .int _ _), (7, .int _ _)] [.row _ _ _] ⟨rfl, rfl, rfl, rfl, rfl, trivial⟩ rfl ?_
 refine W.rL ?_
 refine mI rfl rfl ?_
 obtain ⟨s236, hv⟩ := hv
 refine cL rfl (o_add rfl rfl s236 ?_)
 refine mL rfl rfl ?_
 refine mI rfl rfl ?_
 obtain ⟨s237, hv⟩ := hv
 refine cL rfl (o_iaL tt22 tt29 rfl rfl (enc29.wd true) rfl s237 ?_)
 intro rest237
 refine cL rfl (o_iaP tt29 tt3 rfl rfl ⟨by decide, by decide⟩ ?_)
 refine cL rfl (o_ldS (v := .int _ _) tt3 rfl rfl ⟨_, rfl⟩ ?_)
 refine mI rfl rfl ?_
 obtain ⟨s238, hv⟩ := hv
 refine cL rfl (o_sub rfl rfl s238 ?_)
 obtain ⟨s239, s240, hv⟩ := hv
 refine cL rfl (o_callP1 (k := 70) (fst := []) (caps := []) (ys := [.int _ _, .int _ _]) rfl rfl (spec_rpick ((lat x v6).x1) (n - (1 : Int)) s239 s240) (Wks.cons (ag_int _ _ _ _) (Wks.cons (ag_int _ _ _ _) (Wks.refl _))) ?_)
 obtain ⟨s241, hv⟩ := hv
 refine cL rfl (o_add rfl rfl s241 ?_)
 refine mI rfl rfl ?_
 obtain ⟨s242, hv⟩ := hv
 refine cL rfl (o_rem rfl rfl s242 ?_)
 refine aI rfl rfl ?_
 refine eL ?_
 refine W.tr [(0, .int _ _), (1, .lst _ _ _), (5, .ref _ _ _), (6, .int _ _), (7, .int _ _), (8, .int _ _)] [.row _ _ _] ⟨rfl, rfl, rfl, rfl, rfl, rfl, trivial⟩ rfl ?_
 refine W.rP1 [0, 1, 2, 3, 4, 5, 6, 7, 10, 11, 12, 13, 14, 15, 8, 9, 16, 17, 18, 19, 20, 21] (by decide +kernel) rfl ?_
 refine cL rfl (o_move (v := .ref _ _ _) rfl ?_)
 iterate 2 refine mI rfl rfl ?_
 refine mL rfl rfl ?_
 refine mI rfl rfl ?_
 obtain ⟨s243, hv⟩ := hv
 refine cL rfl (o_iaL tt22 tt29 rfl rfl (enc29.wd true) rfl s243 ?_)
 intro rest243
 refine cL rfl (o_iaP tt29 tt3 rfl rfl ⟨by decide, by decide⟩ ?_)
 refine cL rfl (o_ldS (v := .int _ _) tt3 rfl rfl ⟨_, rfl⟩ ?_)
 refine mL rfl rfl ?_
 refine mI rfl rfl ?_
 obtain ⟨s244, hv⟩ := hv
 refine cL rfl (o_iaL tt22 tt29 rfl rfl (enc29.wd true) rfl s244 ?_)
 intro rest244
 refine cL rfl (o_iaP tt29 tt3 rfl rfl ⟨by decide, by decide⟩ ?_)
 refine cL rfl (o_ldS (v := .int _ _) tt3 rfl rfl ⟨_, rfl⟩ ?_)
 obtain ⟨s245, hv⟩ := hv
 refine cL rfl (o_quo rfl rfl (by decide) s245 ?_)
 obtain ⟨s246, s247, hv⟩ := hv
 refine cL rfl (o_callP1 (k := 70) (fst := []) (caps := []) (ys := [.int _ _, .int _ _]) rfl rfl (spec_rpick ((lat x v6).x2) (20 : Int) s246 s247) (Wks.cons (ag_int _ _ _ _) (Wks.cons (ag_int _ _ _ _) (Wks.refl _))) ?_)
 obtain ⟨s248, hv⟩ := hv
 refine cL rfl (o_sub rfl rfl s248 ?_)
 obtain ⟨s249, s250, hv⟩ := hv
 refine cL rfl (o_callP1 (k := 70) (fst := []) (caps := []) (ys := [.int _ _, .int _ _]) rfl rfl (spec_rpick (((lat x v6).x1).tdiv (30 : Int)) (6 : Int) s249 s250) (Wks.cons (ag_int _ _ _ _) (Wks.cons (ag_int _ _ _ _) (Wks.refl _))) ?_)
 obtain ⟨s251, s252, hv⟩ := hv
 refine cL rfl (o_shl rfl rfl s251 s252 ?_)
 refine cL rfl (o_build (qs := [(0, .int _ _), (1, .int _ _), (2, .int _ _), (3, .int _ _)]) (cs := [.int _ _, .int _ _, .int _ _, .int _ _]) tt66 rfl rfl rfl ?_)
 refine cL rfl (o_bs1 (v := .agg _) (q := 1) tt28 tt66 rfl rfl rfl rfl rfl rfl rfl rfl ?_)
 obtain ⟨s253, hv⟩ := hv
 refine cL rfl (o_apR (p := 2) (q := (r0 ++ [(Con.mk (pickM ((lat x v6).x0) n) ((((pickM ((lat x v6).x0) n) + (1 : Int)) + (pickM ((lat x v6).x1) (n - (1 : Int)))).tmod n) ((pickM ((lat x v6).x2) (20 : Int)) - (6 : Int)) ((1 : Int) * 2 ^ (min (pickM (((lat x v6).x1).tdiv (30 : Int)) (6 : Int)).toNat 64)))]).length) tt28 tt66 rfl rfl (src_ref rfl rfl) rfl rfl (encL_length (enc66.wd false) _) (Nat.le_trans (Nat.le_of_eq (@List.length_append _ (r0) ([(Con.mk (pickM ((lat x v6).x0) n) ((((pickM ((lat x v6).x0) n) + (1 : Int)) + (pickM ((lat x v6).x1) (n - (1 : Int)))).tmod n) ((pickM ((lat x v6).x2) (20 : Int)) - (6 : Int)) ((1 : Int) * 2 ^ (min (pickM (((lat x v6).x1).tdiv (30 : Int)) (6 : Int)).toNat 64)))])).symm) s253) rfl (@List.length_append _ (r0) ([(Con.mk (pickM ((lat x v6).x0) n) ((((pickM ((lat x v6).x0) n) + (1 : Int)) + (pickM ((lat x v6).x1) (n - (1 : Int)))).tmod n) ((pickM ((lat x v6).x2) (20 : Int)) - (6 : Int)) ((1 : Int) * 2 ^ (min (pickM (((lat x v6).x1).tdiv (30 : Int)) (6 : Int)).toNat 64)))])).symm (encL_app e66 r0 [(Con.mk (pickM ((lat x v6).x0) n) ((((pickM ((lat x v6).x0) n) + (1 : Int)) + (pickM ((lat x v6).x1) (n - (1 : Int)))).tmod n) ((pickM ((lat x v6).x2) (20 : Int)) - (6 : Int)) ((1 : Int) * 2 ^ (min (pickM (((lat x v6).x1).tdiv (30 : Int)) (6 : Int)).toNat 64)))]) ?_)
 refine cL rfl (o_assign (v := .ref _ _ _) rfl ?_)
 refine eL ?_
 refine bl_nrm (th_nrm ?_)
 refine W.tr [(0, .int _ _), (1, .lst _ _ _), (5, .ref _ _ _), (6, .int _ _)] [.dead, .row _ _ _, .row _ _ _] ⟨rfl, rfl, rfl, rfl, trivial⟩ rfl ?_
 refine W.rL1 ?_
 refine mI rfl rfl ?_
 obtain ⟨s254, hv⟩ := hv
 refine cL rfl (o_add rfl rfl s254 ?_)
 refine aI rfl rfl ?_
 refine eL ?_
 exact th_nrm (⟨(), (v6 + (1 : Int)), (r0 ++ [(Con.mk (pickM ((lat x v6).x0) n) ((((pickM ((lat x v6).x0) n) + (1 : Int)) + (pickM ((lat x v6).x1) (n - (1 : Int)))).tmod n) ((pickM ((lat x v6).x2) (20 : Int)) - (6 : Int)) ((1 : Int) * 2 ^ (min (pickM (((lat x v6).x1).tdiv (30 : Int)) (6 : Int)).toNat 64)))]), hv, St.to_mk (φ := [some 2]) rfl (rfl) ⟨Ren.int _ _, Ren.lst _ _ _, Ren.ref rfl (fun h => rfl), Ren.int _ _, trivial⟩ ⟨.inr ⟨_, rfl, rfl, rfl, rfl, Rens.enc enc66 false (r0 ++ [(Con.mk (pickM ((lat x v6).x0) n) ((((pickM ((lat x v6).x0) n) + (1 : Int)) + (pickM ((lat x v6).x1) (n - (1 : Int)))).tmod n) ((pickM ((lat x v6).x2) (20 : Int)) - (6 : Int)) ((1 : Int) * 2 ^ (min (pickM (((lat x v6).x1).tdiv (30 : Int)) (6 : Int)).toNat 64)))])⟩, trivial⟩⟩)
 have hv := hv.2 hc
 refine W.exit ?_
 refine th_exit (th_exit (bl_hit (th_nrm ?_)))
 refine W.tr [(5, .ref _ _ _)] [.row _ _ _] ⟨rfl, trivial⟩ rfl ?_
 refine W.rL ?_
 refine cL rfl (o_move (v := .ref _ _ _) rfl ?_)
 refine cL rfl (o_assign (v := .ref _ _ _) rfl ?_)
 refine eL ?_
 refine W.tr [(4, .ref _ _ _)] [.row _ _ _] ⟨rfl, trivial⟩ rfl ?_
 refine W.to (st' := ⟨65, look [(4, .ref false 0 r0.length)], [.row 66 4 (encL e66 r0)], 0⟩) (St.to_mk (φ := [some 0]) rfl rfl ⟨Ren.ref rfl (fun h => rfl), trivial⟩ ⟨.inr ⟨_, rfl, rfl, rfl, rfl, Rens.enc enc66 false r0⟩, trivial⟩) ?_
 refine W.ret ?_
 refine rt ?_
 refine rt_t (v := .ref _ _ _) rfl ?_
 refine rt_n ?_
 exact ⟨_, r0, rfl, rfl, hv⟩
theorem vcp_madeR (n : Int) (x : (List A3)) (h0 : 1 ≤ n) (h1 : n ≤ 1000) (h2 : ∀ y ∈ x, inI y.x0 ∧ inI y.x1 ∧ inI y.x2) : vc_madeR n x (fun q0 => q0 = madeM n x) := by
  unfold vc_madeR
  refine ⟨fun v r => ∃ i : Nat, v = i ∧ i ≤ x.length ∧ i ≤ 30 ∧ (1 < n ∨ i = 0) ∧ r = (x.take i).map fun y => ⟨pickM y.x0 n, (pickM y.x0 n + 1 + pickM y.x1 (n - 1)).tmod n, pickM y.x2 20 - 6, 2 ^ (pickM (y.x1.tdiv 30) 6).toNat⟩, fun v _ => 30 - v.toNat, ⟨0, rfl, by omega, by omega, .inr rfl, rfl⟩, ?_⟩
  rintro _ r ⟨i, rfl, hi, hi3, hn, hr⟩
  refine ⟨fun ⟨h4, h5, h6⟩ => ?_, fun h4 => ?_⟩
  · have hlt : i < x.length := by omega
    obtain ⟨y0, y1, y2⟩ := h2 _ (lat_mem (xs := x) (i := i) ⟨by omega, by omega⟩)
    have hx : lat x (i : Int) = x[i] := lat_get hlt
    rw [hx] at y0 y1 y2 ⊢
    have p1 := pickM_nonneg (c := x[i].x0) (n := n) h0
    have p2 := pickM_nonneg (c := x[i].x1) (n := n - 1) (by omega)
    have p3 := pickM_nonneg (c := x[i].x2) (n := 20) (by omega)
    have p4 := pickM_nonneg (c := x[i].x1.tdiv 30) (n := 6) (by omega)
    have hq : inI (x[i].x1.tdiv 30) := by
      have h7 : x[i].x1 = 30 * x[i].x1.tdiv 30 + x[i].x1.tmod 30 := (Int.mul_tdiv_add_tmod _ _).symm
      have h8 := Int.tmod_lt_of_pos x[i].x1 (b := 30) (by omega)
      have h9 := Int.lt_tmod_of_pos x[i].x1 (b := 30) (by omega)
      unfold inI at *; omega
    have hp : (min (pickM (x[i].x1.tdiv 30) 6).toNat 64) = (pickM (x[i].x1.tdiv 30) 6).toNat := by omega
    have h2p : (1 : Int) * 2 ^ (pickM (x[i].x1.tdiv 30) 6).toNat ≤ 32 ∧ 0 ≤ (1 : Int) * 2 ^ (pickM (x[i].x1.tdiv 30) 6).toNat := by
      have : (pickM (x[i].x1.tdiv 30) 6).toNat < 6 := by omega
      generalize (pickM (x[i].x1.tdiv 30) 6).toNat = q at this
      match q, this with
      | 0, _ => decide
      | 1, _ => decide
      | 2, _ => decide
      | 3, _ => decide
      | 4, _ => decide
      | 5, _ => decide
    have hlen : r.length = i := by rw [hr]; simp; omega
    rw [hp]
    refine ⟨by omega, y0, h0, by unfold inI at *; omega, by omega, by unfold inI at *; omega, y1, by omega, by unfold inI at *; omega, by omega, by omega, by omega, hq, y2, by omega, by unfold inI; omega, hq, by omega, p4.1, by unfold inI; omega, by rw [List.length_append, hlen]; simp; omega, by unfold inI; omega, ⟨i + 1, by omega, by omega, by omega, .inl h6, ?_⟩, by dsimp only; omega⟩
    rw [List.take_add_one, List.getElem?_eq_getElem hlt, List.map_append, ← hr, Int.one_mul]
    rfl
  · show r = madeM n x
    unfold madeM
    by_cases h6 : 1 < n
    · rw [if_pos h6, hr]
      congr 1
      rcases Nat.lt_or_ge i 30 with h7 | h7
      · rw [List.take_of_length_le (by omega), List.take_of_length_le (by omega)]
      · have : i = 30 := by omega
        rw [this]
    · have : i = 0 := by omega
      rw [if_neg h6, hr, this]; rfl
theorem spec_madeR (n : Int) (x : (List A3)) (h0 : 1 ≤ n) (h1 : n ≤ 1000) (h2 : ∀ y ∈ x, inI y.x0 ∧ inI y.x1 ∧ inI y.x2) : FnH Try.prog 53 [] [.int .i64 n, .lst true x.length (encL e29 x)] (fun xR H => ∃ l, H = .row 66 4 (encL e66 (madeM n x)) :: l ∧ xR = .ref false 0 (madeM n x).length) :=
  (walk_madeR (vcp_madeR n x h0 h1 h2)).mono (by rintro _ _ ⟨l, _, h1, h2, rfl⟩; exact ⟨l, h1, h2⟩)
def vc_bmade (f : Flt) (n : Int) (x : (List A3)) (honest : Int) (truth : (List Int)) (Post : (List Con) → Prop) : Prop :=
  (0 ≤ ((0 : Nat) : Int) ∧ ((0 : Nat) : Int) ≤ (min ((x.length : Nat) : Int) (24 : Int)) ∧ (min ((x.length : Nat) : Int) (24 : Int)) ≤ (x.length : Int)) ∧ (1 ≤ n) ∧ (n ≤ 1000) ∧ (∀ y ∈ (x.take (min ((x.length : Nat) : Int) (24 : Int)).toNat), inI y.x0 ∧ inI y.x1 ∧ inI y.x2) ∧ ∃ (I1 : Int → List Con → Prop) (μ1 : Int → List Con → Nat), I1 (0 : Int) (madeM n (x.take (min ((x.length : Nat) : Int) (24 : Int)).toNat)) ∧ ∀ (v12 : Int) (r1 : List Con), I1 v12 r1 → ((v12 < ((r1.length : Nat) : Int)) → ∃ J2 : List Con → Prop, (∀ (r1_1 : List Con), J2 r1_1 → (inI (v12 + (1 : Int))) ∧ (I1 (v12 + (1 : Int)) r1_1 ∧ μ1 (v12 + (1 : Int)) r1_1 < μ1 v12 r1)) ∧ ((0 ≤ v12 ∧ v12 < (x.length : Int)) ∧ (inI (((lat x v12).x1).tdiv (30 : Int))) ∧ (inI (((lat x v12).x1).tdiv (30 : Int))) ∧ (1 ≤ ((f.dr.length : Nat) : Int)) ∧ (0 ≤ v12 ∧ v12 < (x.length : Int)) ∧ (inI (((lat x v12).x1).tdiv (200 : Int))) ∧ (inI (((lat x v12).x1).tdiv (200 : Int))) ∧ (1 ≤ ((f.dr.length : Nat) : Int)) ∧ (0 ≤ (pickM (((lat x v12).x1).tdiv (30 : Int)) ((f.dr.length : Nat) : Int))) ∧ (inI ((1 : Int) * 2 ^ (min (pickM (((lat x v12).x1).tdiv (30 : Int)) ((f.dr.length : Nat) : Int)).toNat 64))) ∧ (0 ≤ (pickM (((lat x v12).x1).tdiv (200 : Int)) ((f.dr.length : Nat) : Int))) ∧ (inI ((1 : Int) * 2 ^ (min (pickM (((lat x v12).x1).tdiv (200 : Int)) ((f.dr.length : Nat) : Int)).toNat 64))) ∧ (0 ≤ v12 ∧ v12 < ((r1.length : Nat) : Int)) ∧ (0 ≤ v12 ∧ v12 < ((r1.length : Nat) : Int)) ∧ (0 ≤ v12 ∧ v12 < ((r1.length : Nat) : Int)) ∧ ((bitI .and .i64 ((lat (r1.set v12.toNat (⟨(lat r1 v12).f, (lat r1 v12).t, (lat r1 v12).m, bitI .or .i64 ((1 : Int) * 2 ^ (min (pickM (((lat x v12).x1).tdiv (30 : Int)) ((f.dr.length : Nat) : Int)).toNat 64)) ((1 : Int) * 2 ^ (min (pickM (((lat x v12).x1).tdiv (200 : Int)) ((f.dr.length : Nat) : Int)).toNat 64))⟩ : Con)) v12).a) honest = (lat (r1.set v12.toNat (⟨(lat r1 v12).f, (lat r1 v12).t, (lat r1 v12).m, bitI .or .i64 ((1 : Int) * 2 ^ (min (pickM (((lat x v12).x1).tdiv (30 : Int)) ((f.dr.length : Nat) : Int)).toNat 64)) ((1 : Int) * 2 ^ (min (pickM (((lat x v12).x1).tdiv (200 : Int)) ((f.dr.length : Nat) : Int)).toNat 64))⟩ : Con)) v12).a) → (0 ≤ v12 ∧ v12 < ((r1.length : Nat) : Int)) ∧ (0 ≤ ((lat (r1.set v12.toNat (⟨(lat r1 v12).f, (lat r1 v12).t, (lat r1 v12).m, bitI .or .i64 ((1 : Int) * 2 ^ (min (pickM (((lat x v12).x1).tdiv (30 : Int)) ((f.dr.length : Nat) : Int)).toNat 64)) ((1 : Int) * 2 ^ (min (pickM (((lat x v12).x1).tdiv (200 : Int)) ((f.dr.length : Nat) : Int)).toNat 64))⟩ : Con)) v12).t) ∧ ((lat (r1.set v12.toNat (⟨(lat r1 v12).f, (lat r1 v12).t, (lat r1 v12).m, bitI .or .i64 ((1 : Int) * 2 ^ (min (pickM (((lat x v12).x1).tdiv (30 : Int)) ((f.dr.length : Nat) : Int)).toNat 64)) ((1 : Int) * 2 ^ (min (pickM (((lat x v12).x1).tdiv (200 : Int)) ((f.dr.length : Nat) : Int)).toNat 64))⟩ : Con)) v12).t) < (truth.length : Int)) ∧ (0 ≤ v12 ∧ v12 < ((r1.length : Nat) : Int)) ∧ (0 ≤ ((lat (r1.set v12.toNat (⟨(lat r1 v12).f, (lat r1 v12).t, (lat r1 v12).m, bitI .or .i64 ((1 : Int) * 2 ^ (min (pickM (((lat x v12).x1).tdiv (30 : Int)) ((f.dr.length : Nat) : Int)).toNat 64)) ((1 : Int) * 2 ^ (min (pickM (((lat x v12).x1).tdiv (200 : Int)) ((f.dr.length : Nat) : Int)).toNat 64))⟩ : Con)) v12).f) ∧ ((lat (r1.set v12.toNat (⟨(lat r1 v12).f, (lat r1 v12).t, (lat r1 v12).m, bitI .or .i64 ((1 : Int) * 2 ^ (min (pickM (((lat x v12).x1).tdiv (30 : Int)) ((f.dr.length : Nat) : Int)).toNat 64)) ((1 : Int) * 2 ^ (min (pickM (((lat x v12).x1).tdiv (200 : Int)) ((f.dr.length : Nat) : Int)).toNat 64))⟩ : Con)) v12).f) < (truth.length : Int)) ∧ (inI ((lat truth ((lat (r1.set v12.toNat (⟨(lat r1 v12).f, (lat r1 v12).t, (lat r1 v12).m, bitI .or .i64 ((1 : Int) * 2 ^ (min (pickM (((lat x v12).x1).tdiv (30 : Int)) ((f.dr.length : Nat) : Int)).toNat 64)) ((1 : Int) * 2 ^ (min (pickM (((lat x v12).x1).tdiv (200 : Int)) ((f.dr.length : Nat) : Int)).toNat 64))⟩ : Con)) v12).t)) - (lat truth ((lat (r1.set v12.toNat (⟨(lat r1 v12).f, (lat r1 v12).t, (lat r1 v12).m, bitI .or .i64 ((1 : Int) * 2 ^ (min (pickM (((lat x v12).x1).tdiv (30 : Int)) ((f.dr.length : Nat) : Int)).toNat 64)) ((1 : Int) * 2 ^ (min (pickM (((lat x v12).x1).tdiv (200 : Int)) ((f.dr.length : Nat) : Int)).toNat 64))⟩ : Con)) v12).f)))) ∧ (0 ≤ v12 ∧ v12 < ((r1.length : Nat) : Int)) ∧ (inI (((lat truth ((lat (r1.set v12.toNat (⟨(lat r1 v12).f, (lat r1 v12).t, (lat r1 v12).m, bitI .or .i64 ((1 : Int) * 2 ^ (min (pickM (((lat x v12).x1).tdiv (30 : Int)) ((f.dr.length : Nat) : Int)).toNat 64)) ((1 : Int) * 2 ^ (min (pickM (((lat x v12).x1).tdiv (200 : Int)) ((f.dr.length : Nat) : Int)).toNat 64))⟩ : Con)) v12).t)) - (lat truth ((lat (r1.set v12.toNat (⟨(lat r1 v12).f, (lat r1 v12).t, (lat r1 v12).m, bitI .or .i64 ((1 : Int) * 2 ^ (min (pickM (((lat x v12).x1).tdiv (30 : Int)) ((f.dr.length : Nat) : Int)).toNat 64)) ((1 : Int) * 2 ^ (min (pickM (((lat x v12).x1).tdiv (200 : Int)) ((f.dr.length : Nat) : Int)).toNat 64))⟩ : Con)) v12).f))) + (max ((lat (r1.set v12.toNat (⟨(lat r1 v12).f, (lat r1 v12).t, (lat r1 v12).m, bitI .or .i64 ((1 : Int) * 2 ^ (min (pickM (((lat x v12).x1).tdiv (30 : Int)) ((f.dr.length : Nat) : Int)).toNat 64)) ((1 : Int) * 2 ^ (min (pickM (((lat x v12).x1).tdiv (200 : Int)) ((f.dr.length : Nat) : Int)).toNat 64))⟩ : Con)) v12).m) (0 : Int)))) ∧ (0 ≤ v12 ∧ v12 < ((r1.length : Nat) : Int)) ∧ J2 ((r1.set v12.toNat (⟨(lat r1 v12).f, (lat r1 v12).t, (lat r1 v12).m, bitI .or .i64 ((1 : Int) * 2 ^ (min (pickM (((lat x v12).x1).tdiv (30 : Int)) ((f.dr.length : Nat) : Int)).toNat 64)) ((1 : Int) * 2 ^ (min (pickM (((lat x v12).x1).tdiv (200 : Int)) ((f.dr.length : Nat) : Int)).toNat 64))⟩ : Con)).set v12.toNat (⟨(lat (r1.set v12.toNat (⟨(lat r1 v12).f, (lat r1 v12).t, (lat r1 v12).m, bitI .or .i64 ((1 : Int) * 2 ^ (min (pickM (((lat x v12).x1).tdiv (30 : Int)) ((f.dr.length : Nat) : Int)).toNat 64)) ((1 : Int) * 2 ^ (min (pickM (((lat x v12).x1).tdiv (200 : Int)) ((f.dr.length : Nat) : Int)).toNat 64))⟩ : Con)) v12).f, (lat (r1.set v12.toNat (⟨(lat r1 v12).f, (lat r1 v12).t, (lat r1 v12).m, bitI .or .i64 ((1 : Int) * 2 ^ (min (pickM (((lat x v12).x1).tdiv (30 : Int)) ((f.dr.length : Nat) : Int)).toNat 64)) ((1 : Int) * 2 ^ (min (pickM (((lat x v12).x1).tdiv (200 : Int)) ((f.dr.length : Nat) : Int)).toNat 64))⟩ : Con)) v12).t, (((lat truth ((lat (r1.set v12.toNat (⟨(lat r1 v12).f, (lat r1 v12).t, (lat r1 v12).m, bitI .or .i64 ((1 : Int) * 2 ^ (min (pickM (((lat x v12).x1).tdiv (30 : Int)) ((f.dr.length : Nat) : Int)).toNat 64)) ((1 : Int) * 2 ^ (min (pickM (((lat x v12).x1).tdiv (200 : Int)) ((f.dr.length : Nat) : Int)).toNat 64))⟩ : Con)) v12).t)) - (lat truth ((lat (r1.set v12.toNat (⟨(lat r1 v12).f, (lat r1 v12).t, (lat r1 v12).m, bitI .or .i64 ((1 : Int) * 2 ^ (min (pickM (((lat x v12).x1).tdiv (30 : Int)) ((f.dr.length : Nat) : Int)).toNat 64)) ((1 : Int) * 2 ^ (min (pickM (((lat x v12).x1).tdiv (200 : Int)) ((f.dr.length : Nat) : Int)).toNat 64))⟩ : Con)) v12).f))) + (max ((lat (r1.set v12.toNat (⟨(lat r1 v12).f, (lat r1 v12).t, (lat r1 v12).m, bitI .or .i64 ((1 : Int) * 2 ^ (min (pickM (((lat x v12).x1).tdiv (30 : Int)) ((f.dr.length : Nat) : Int)).toNat 64)) ((1 : Int) * 2 ^ (min (pickM (((lat x v12).x1).tdiv (200 : Int)) ((f.dr.length : Nat) : Int)).toNat 64))⟩ : Con)) v12).m) (0 : Int))), (lat (r1.set v12.toNat (⟨(lat r1 v12).f, (lat r1 v12).t, (lat r1 v12).m, bitI .or .i64 ((1 : Int) * 2 ^ (min (pickM (((lat x v12).x1).tdiv (30 : Int)) ((f.dr.length : Nat) : Int)).toNat 64)) ((1 : Int) * 2 ^ (min (pickM (((lat x v12).x1).tdiv (200 : Int)) ((f.dr.length : Nat) : Int)).toNat 64))⟩ : Con)) v12).a⟩ : Con))) ∧ (¬ (bitI .and .i64 ((lat (r1.set v12.toNat (⟨(lat r1 v12).f, (lat r1 v12).t, (lat r1 v12).m, bitI .or .i64 ((1 : Int) * 2 ^ (min (pickM (((lat x v12).x1).tdiv (30 : Int)) ((f.dr.length : Nat) : Int)).toNat 64)) ((1 : Int) * 2 ^ (min (pickM (((lat x v12).x1).tdiv (200 : Int)) ((f.dr.length : Nat) : Int)).toNat 64))⟩ : Con)) v12).a) honest = (lat (r1.set v12.toNat (⟨(lat r1 v12).f, (lat r1 v12).t, (lat r1 v12).m, bitI .or .i64 ((1 : Int) * 2 ^ (min (pickM (((lat x v12).x1).tdiv (30 : Int)) ((f.dr.length : Nat) : Int)).toNat 64)) ((1 : Int) * 2 ^ (min (pickM (((lat x v12).x1).tdiv (200 : Int)) ((f.dr.length : Nat) : Int)).toNat 64))⟩ : Con)) v12).a) → J2 (r1.set v12.toNat (⟨(lat r1 v12).f, (lat r1 v12).t, (lat r1 v12).m, bitI .or .i64 ((1 : Int) * 2 ^ (min (pickM (((lat x v12).x1).tdiv (30 : Int)) ((f.dr.length : Nat) : Int)).toNat 64)) ((1 : Int) * 2 ^ (min (pickM (((lat x v12).x1).tdiv (200 : Int)) ((f.dr.length : Nat) : Int)).toNat 64))⟩ : Con))))) ∧ (¬ (v12 < ((r1.length : Nat) : Int)) → Post r1)
set_option maxRecDepth 100000 in
set_option maxHeartbeats 4000000 in
theorem walk_bmade {f : Flt} {n : Int} {x : (List A3)} {honest : Int} {truth : (List Int)} {Post : (List Con) → Prop} (hv : vc_bmade f n x honest truth Post) : FnP Try.prog 33 [.agg ((e27 true) f), .int .i64 n, .lst true x.length (encL e29 x), .int .i64 honest, .lst true truth.length (encL eInt truth)] (fun x => ∃ q0, x = .lst false q0.length (encL e66 q0) ∧ Post q0) := by
 refine FnP.of_walk (T := tt) (nt := 99) ttOk ttMix ⟨⟨Try.f33, Try.func33, rfl, rfl, rfl, rfl⟩⟩ (by simp) ?_
 unfold vc_bmade at hv
 change W _ _ _ ⟨99, look [(0, .agg [.lst true f.dr.length (encL eInt f.dr), .int .i64 f.la, .int .i64 f.li, .lst true f.sv.length (encL eInt f.sv), .lst true f.tm.length (encL eInt f.tm)]), (1, .int .i64 n), (2, .lst true x.length (encL e29 x)), (3, .int .i64 honest), (4, .lst true truth.length (encL eInt truth))], [], 0⟩ _
 refine W.tr [(0, .agg _), (1, .int _ _), (2, .lst _ _ _), (3, .int _ _), (4, .lst _ _ _)] [] ⟨rfl, rfl, rfl, rfl, rfl, trivial⟩ rfl ?_
 refine W.rL ?_
 refine cL rfl (o_box (v := .agg _) (p := 0) rfl rfl rfl ?_)
 refine cL rfl (o_assign (v := .nilS) rfl ?_)
 refine eL ?_
 refine W.tr [(1, .int _ _), (2, .lst _ _ _), (3, .int _ _), (4, .lst _ _ _), (5, .ptr _ _)] [.box _ [.lst _ _ _, .int _ _, .int _ _, .lst _ _ _, .lst _ _ _]] ⟨rfl, rfl, rfl, rfl, rfl, trivial⟩ rfl ?_
 refine W.rH ?_
 refine cH rfl (o_move (v := .int _ _) rfl ?_)
 iterate 2 refine cH rfl (o_move (v := .lst _ _ _) rfl ?_)
 refine cH rfl (o_len (v := .lst _ _ _) tt22 rfl rfl ?_)
 refine cH rfl (o_min rfl rfl ?_)
 obtain ⟨s1, hv⟩ := hv
 refine cH rfl (o_slL tt22 tt29 rfl (enc29.wd true) rfl rfl rfl s1 (ys := x.take (min ((x.length : Nat) : Int) (24 : Int)).toNat) (by simp) ?_)
 obtain ⟨s2, s3, s4, hv⟩ := hv
 refine cHc rfl (callH_R1 (xs := _) (spec_madeR n (x.take (min ((x.length : Nat) : Int) (24 : Int)).toNat) s2 s3 s4) (Wks.cons (ag_int _ _ _ _) (Wks.cons (ag_lst _ _ _ _ _) (Wks.refl _))) (flat66 _) rfl ?_)
 refine cH rfl (o_assign (v := .ref _ _ _) rfl ?_)
 refine eH ?_
 refine W.tr [(2, .lst _ _ _), (3, .int _ _), (4, .lst _ _ _), (5, .ptr _ _), (11, .ref _ _ _)] [.box _ [.lst _ _ _, .int _ _, .int _ _, .lst _ _ _, .lst _ _ _], .row _ _ _] ⟨rfl, rfl, rfl, rfl, rfl, trivial⟩ rfl ?_
 refine W.seq' ?_
 refine W.rL ?_
 refine aI rfl rfl ?_
 refine eL ?_
 refine W.tr [(2, .lst _ _ _), (3, .int _ _), (4, .lst _ _ _), (5, .ptr _ _), (11, .ref _ _ _), (12, .int _ _)] [.box _ [.lst _ _ _, .int _ _, .int _ _, .lst _ _ _, .lst _ _ _], .row _ _ _] ⟨rfl, rfl, rfl, rfl, rfl, rfl, trivial⟩ rfl ?_
 refine W.block ?_
 obtain ⟨I1, μ1, hp, hv⟩ := hv
 refine W.loop2 (fun v12 r1 => ⟨99, look [(2, .lst true x.length (encL e29 x)), (3, .int .i64 honest), (4, .lst true truth.length (encL eInt truth)), (5, .ptr 0 0), (11, .ref false 1 r1.length), (12, .int .i64 v12)], [.box 27 [.lst true f.dr.length (encL eInt f.dr), .int .i64 f.la, .int .i64 f.li, .lst true f.sv.length (encL eInt f.sv), .lst true f.tm.length (encL eInt f.tm)], .row 66 4 (encL e66 r1)], 0⟩) I1 μ1 (0 : Int) (madeM n (x.take (min ((x.length : Nat) : Int) (24 : Int)).toNat)) (St.to_mk (φ := [some 0, some 1]) rfl (rfl) ⟨Ren.lst _ _ _, Ren.int _ _, Ren.lst _ _ _, Ren.ptr rfl, Ren.ref rfl (fun h => h), Ren.int _ _, trivial⟩ ⟨.inr ⟨_, rfl, rfl, Rens.cons (Ren.lst _ _ _) (Rens.cons (Ren.int _ _) (Rens.cons (Ren.int _ _) (Rens.cons (Ren.lst _ _ _) (Rens.cons (Ren.lst _ _ _) (Rens.nil)))))⟩, .inr ⟨_, rfl, rfl, rfl, rfl, Rens.enc enc66 false (madeM n (x.take (min ((x.length : Nat) : Int) (24 : Int)).toNat))⟩, trivial⟩) hp ?_
 clear hp
 intro v12 r1 hI
 replace hv := hv v12 r1 hI
 clear hI
 refine W.seq' ?_
 refine W.rL ?_
 refine mI rfl rfl ?_
 refine cL rfl (o_move (v := .ref _ _ _) rfl ?_)
 refine cL rfl (o_len (v := .ref _ _ _) tt28 rfl rfl ?_)
 refine cL rfl (o_lss rfl rfl ?_)
 refine eL ?_
 refine W.tr [(2, .lst _ _ _), (3, .int _ _), (4, .lst _ _ _), (5, .ptr _ _), (11, .ref _ _ _), (12, .int _ _), (25, .bool _)] [.box _ [.lst _ _ _, .int _ _, .int _ _, .lst _ _ _, .lst _ _ _], .row _ _ _] ⟨rfl, rfl, rfl, rfl, rfl, rfl, rfl, trivial⟩ rfl ?_
 refine W.cn rfl (fun hc => ?_) (fun hc => ?_)
 have hv := hv.1 hc
 refine W.skip ?_
 refine th_nrm ?_
 refine W.tr [(2, .lst _ _ _), (3, .int _ _), (4, .lst _ _ _), (5, .ptr _ _), (11, .ref _ _ _), (12, .int _ _)] [.box _ [.lst _ _ _, .int _ _, .int _ _, .lst _ _ _, .lst _ _ _], .row _ _ _] ⟨rfl, rfl, rfl, rfl, rfl, rfl, trivial⟩ rfl ?_
 obtain ⟨J2, hj, hv⟩ := hv
 refine W.mid1 (fun r1_1 => ⟨99, look [(2, .lst true x.length (encL e29 x)), (3, .int .i64 honest), (4, .lst true truth.length (encL eInt truth)), (5, .ptr 0 0), (11, .ref false 1 r1_1.length), (12, .int .i64 v12)], [.box 27 [.lst true f.dr.length (encL eInt f.dr), .int .i64 f.la, .int .i64 f.li, .lst true f.sv.length (encL eInt f.sv), .lst true f.tm.length (encL eInt f.tm)], .row 66 4 (encL e66 r1_1)], 0⟩) J2 ?_ ?_
 intro r1_1
 intro hv
 replace hv := hj r1_1 hv
 refine W.rL1 ?_
 refine mI rfl rfl ?_
 obtain ⟨s263, hv⟩ := hv
 refine cL rfl (o_add rfl rfl s263 ?_)
 refine aI rfl rfl ?_
 refine eL ?_
 exact th_nrm (⟨(), (v12 + (1 : Int)), r1_1, hv, St.to_mk (φ := [some 0, some 1]) rfl (rfl) ⟨Ren.lst _ _ _, Ren.int _ _, Ren.lst _ _ _, Ren.ptr rfl, Ren.ref rfl (fun h => h), Ren.int _ _, trivial⟩ ⟨.inr ⟨_, rfl, rfl, Rens.cons (Ren.lst _ _ _) (Rens.cons (Ren.int _ _) (Rens.cons (Ren.int _ _) (Rens.cons (Ren.lst _ _ _) (Rens.cons (Ren.lst _ _ _) (Rens.nil)))))⟩, .inr ⟨_, rfl, rfl, rfl, rfl, Rens.enc enc66 false r1_1⟩, trivial⟩⟩)
 clear hj
 refine W.block ?_
 refine W.rD [0, 1, 2, 3, 4, 5, 6, 7, 8, 9, 10] (by decide +kernel) rfl ?_
 refine mL rfl rfl ?_
 refine mI rfl rfl ?_
 obtain ⟨s264, hv⟩ := hv
 refine cL rfl (o_iaL tt22 tt29 rfl rfl (enc29.wd true) rfl s264 ?_)
 intro rest264
 refine cL rfl (o_iaP tt29 tt3 rfl rfl ⟨by decide, by decide⟩ ?_)
 refine cL rfl (o_ldS (v := .int _ _) tt3 rfl rfl ⟨_, rfl⟩ ?_)
 obtain ⟨s265, hv⟩ := hv
 refine cL rfl (o_quo rfl rfl (by decide) s265 ?_)
 refine cL rfl (o_fa tt27 rfl tt23 rfl ?_)
 refine cL rfl (o_ldS (v := .lst _ _ _) tt23 rfl rfl ⟨_, rfl⟩ ?_)
 refine cL rfl (o_len (v := .lst _ _ _) tt23 rfl rfl ?_)
 obtain ⟨s266, s267, hv⟩ := hv
 refine cL rfl (o_callP1 (k := 52) (fst := []) (caps := []) (ys := [.int _ _, .int _ _]) rfl rfl (spec_tpick (((lat x v12).x1).tdiv (30 : Int)) ((f.dr.length : Nat) : Int) s266 s267) (Wks.cons (ag_int _ _ _ _) (Wks.cons (ag_int _ _ _ _) (Wks.refl _))) ?_)
 refine aI rfl rfl ?_
 refine eL ?_
 refine W.tr [(2, .lst _ _ _), (3, .int _ _), (4, .lst _ _ _), (5, .ptr _ _), (11, .ref _ _ _), (12, .int _ _), (13, .int _ _)] [.box _ [.lst _ _ _, .int _ _, .int _ _, .lst _ _ _, .lst _ _ _], .row _ _ _] ⟨rfl, rfl, rfl, rfl, rfl, rfl, rfl, trivial⟩ rfl ?_
 refine W.rD [0, 1, 2, 3, 4, 5, 6, 7, 8, 9, 10] (by decide +kernel) rfl ?_
 refine mL rfl rfl ?_
 refine mI rfl rfl ?_
 obtain ⟨s268, hv⟩ := hv
 refine cL rfl (o_iaL tt22 tt29 rfl rfl (enc29.wd true) rfl s268 ?_)
 intro rest268
 refine cL rfl (o_iaP tt29 tt3 rfl rfl ⟨by decide, by decide⟩ ?_)
 refine cL rfl (o_ldS (v := .int _ _) tt3 rfl rfl ⟨_, rfl⟩ ?_)
 obtain ⟨s269, hv⟩ := hv
 refine cL rfl (o_quo rfl rfl (by decide) s269 ?_)
 refine cL rfl (o_fa tt27 rfl tt23 rfl ?_)
 refine cL rfl (o_ldS (v := .lst _ _ _) tt23 rfl rfl ⟨_, rfl⟩ ?_)
 refine cL rfl (o_len (v := .lst _ _ _) tt23 rfl rfl ?_)
 obtain ⟨s270, s271, hv⟩ := hv
 refine cL rfl (o_callP1 (k := 52) (fst := []) (caps := []) (ys := [.int _ _, .int _ _]) rfl rfl (spec_tpick (((lat x v12).x1).tdiv (200 : Int)) ((f.dr.length : Nat) : Int) s270 s271) (Wks.cons (ag_int _ _ _ _) (Wks.cons (ag_int _ _ _ _) (Wks.refl _))) ?_)
 refine aI rfl rfl ?_
 refine eL ?_
 refine W.tr [(2, .lst _ _ _), (3, .int _ _), (4, .lst _ _ _), (5, .ptr _ _), (11, .ref _ _ _), (12, .int _ _), (13, .int _ _), (14, .int _ _)] [.box _ [.lst _ _ _, .int _ _, .int _ _, .lst _ _ _, .lst _ _ _], .row _ _ _] ⟨rfl, rfl, rfl, rfl, rfl, rfl, rfl, rfl, trivial⟩ rfl ?_
 refine W.rD [0, 1, 2, 3, 4, 5, 6, 7, 8, 9] (by decide +kernel) rfl ?_
 refine cL rfl (o_move (v := .ref _ _ _) rfl ?_)
 iterate 2 refine mI rfl rfl ?_
 obtain ⟨s272, s273, hv⟩ := hv
 refine cL rfl (o_shl rfl rfl s272 s273 ?_)
 refine mI rfl rfl ?_
 obtain ⟨s274, s275, hv⟩ := hv
 refine cL rfl (o_shl rfl rfl s274 s275 ?_)
 refine cL rfl (o_or rfl rfl ?_)
 obtain ⟨s276, hv⟩ := hv
 refine cL rfl (o_iaR tt28 tt66 rfl rfl s276 ?_)
 refine cL rfl (o_fa tt66 rfl tt3 rfl ?_)
 refine cLn (o_stR (v := .int _ _) (vs := [.int _ _]) tt3 rfl rfl rfl rfl rfl (row_inF (xs := r1) (enc66.wd false) s276 rfl) (row_setF (e := e66) (enc66.wd false) _ _ 3 (⟨(lat r1 v12).f, (lat r1 v12).t, (lat r1 v12).m, bitI .or .i64 ((1 : Int) * 2 ^ (min (pickM (((lat x v12).x1).tdiv (30 : Int)) ((f.dr.length : Nat) : Int)).toNat 64)) ((1 : Int) * 2 ^ (min (pickM (((lat x v12).x1).tdiv (200 : Int)) ((f.dr.length : Nat) : Int)).toNat 64))⟩ : Con) rfl rfl s276) ?_)
 refine eL ?_
 refine W.tr [(2, .lst _ _ _), (3, .int _ _), (4, .lst _ _ _), (5, .ptr _ _), (11, .ref _ _ _), (12, .int _ _)] [.box _ [.lst _ _ _, .int _ _, .int _ _, .lst _ _ _, .lst _ _ _], .row _ _ _] ⟨rfl, rfl, rfl, rfl, rfl, rfl, trivial⟩ rfl ?_
 refine W.rD [0, 1, 2, 3, 4, 5, 6, 7, 8, 9, 10, 11, 12] (by decide +kernel) rfl ?_
 refine cL rfl (o_move (v := .ref _ _ _) rfl ?_)
 refine mI rfl rfl ?_
 obtain ⟨s277, hv⟩ := hv
 refine cL rfl (o_iaR tt28 tt66 rfl rfl s277 ?_)
 have s277q : 0 ≤ v12 ∧ v12 < (((r1.set v12.toNat (⟨(lat r1 v12).f, (lat r1 v12).t, (lat r1 v12).m, bitI .or .i64 ((1 : Int) * 2 ^ (min (pickM (((lat x v12).x1).tdiv (30 : Int)) ((f.dr.length : Nat) : Int)).toNat 64)) ((1 : Int) * 2 ^ (min (pickM (((lat x v12).x1).tdiv (200 : Int)) ((f.dr.length : Nat) : Int)).toNat 64))⟩ : Con)).length : Nat) : Int) := by simpa using s277
 refine cL rfl (o_fa tt66 rfl tt3 rfl ?_)
 refine cL rfl (o_ldS (v := .int _ _) tt3 rfl rfl (cell_of (ca_rowF (xs := r1.set v12.toNat (⟨(lat r1 v12).f, (lat r1 v12).t, (lat r1 v12).m, bitI .or .i64 ((1 : Int) * 2 ^ (min (pickM (((lat x v12).x1).tdiv (30 : Int)) ((f.dr.length : Nat) : Int)).toNat 64)) ((1 : Int) * 2 ^ (min (pickM (((lat x v12).x1).tdiv (200 : Int)) ((f.dr.length : Nat) : Int)).toNat 64))⟩ : Con)) (k := 3) rfl (enc66.wd false) s277q rfl) rfl) ?_)
 refine mI rfl rfl ?_
 refine cL rfl (o_and rfl rfl ?_)
 refine cL rfl (o_move (v := .ref _ _ _) rfl ?_)
 refine mI rfl rfl ?_
 obtain ⟨s278, hv⟩ := hv
 refine cL rfl (o_iaR tt28 tt66 rfl rfl s278 ?_)
 have s278q : 0 ≤ v12 ∧ v12 < (((r1.set v12.toNat (⟨(lat r1 v12).f, (lat r1 v12).t, (lat r1 v12).m, bitI .or .i64 ((1 : Int) * 2 ^ (min (pickM (((lat x v12).x1).tdiv (30 : Int)) ((f.dr.length : Nat) : Int)).toNat 64)) ((1 : Int) * 2 ^ (min (pickM (((lat x v12).x1).tdiv (200 : Int)) ((f.dr.length : Nat) : Int)).toNat 64))⟩ : Con)).length : Nat) : Int) := by simpa using s278
 refine cL rfl (o_fa tt66 rfl tt3 rfl ?_)
 refine cL rfl (o_ldS (v := .int _ _) tt3 rfl rfl (cell_of (ca_rowF (xs := r1.set v12.toNat (⟨(lat r1 v12).f, (lat r1 v12).t, (lat r1 v12).m, bitI .or .i64 ((1 : Int) * 2 ^ (min (pickM (((lat x v12).x1).tdiv (30 : Int)) ((f.dr.length : Nat) : Int)).toNat 64)) ((1 : Int) * 2 ^ (min (pickM (((lat x v12).x1).tdiv (200 : Int)) ((f.dr.length : Nat) : Int)).toNat 64))⟩ : Con)) (k := 3) rfl (enc66.wd false) s278q rfl) rfl) ?_)
 refine cL rfl (o_eqI rfl rfl rfl ?_)
 refine eL ?_
 refine W.tr [(2, .lst _ _ _), (3, .int _ _), (4, .lst _ _ _), (5, .ptr _ _), (11, .ref _ _ _), (12, .int _ _), (69, .bool _)] [.box _ [.lst _ _ _, .int _ _, .int _ _, .lst _ _ _, .lst _ _ _], .row _ _ _] ⟨rfl, rfl, rfl, rfl, rfl, rfl, rfl, trivial⟩ rfl ?_
 refine W.cn rfl (fun hc => ?_) (fun hc => ?_)
 have hv := hv.1 hc
 refine W.rD1 [0, 1, 2, 3, 4, 5, 6, 7, 8, 9, 10, 11, 12, 13, 14, 15, 16, 17, 18, 19, 20, 21, 22, 23, 24, 25, 26, 27, 28] (by decide +kernel) rfl ?_
 refine cL rfl (o_move (v := .ref _ _ _) rfl ?_)
 refine mI rfl rfl ?_
 refine mL rfl rfl ?_
 refine cL rfl (o_move (v := .ref _ _ _) rfl ?_)
 refine mI rfl rfl ?_
 obtain ⟨s279, hv⟩ := hv
 refine cL rfl (o_iaR tt28 tt66 rfl rfl s279 ?_)
 have s279q : 0 ≤ v12 ∧ v12 < (((r1.set v12.toNat (⟨(lat r1 v12).f, (lat r1 v12).t, (lat r1 v12).m, bitI .or .i64 ((1 : Int) * 2 ^ (min (pickM (((lat x v12).x1).tdiv (30 : Int)) ((f.dr.length : Nat) : Int)).toNat 64)) ((1 : Int) * 2 ^ (min (pickM (((lat x v12).x1).tdiv (200 : Int)) ((f.dr.length : Nat) : Int)).toNat 64))⟩ : Con)).length : Nat) : Int) := by simpa using s279
 refine cL rfl (o_fa tt66 rfl tt3 rfl ?_)
 refine cL rfl (o_ldS (v := .int _ _) tt3 rfl rfl (cell_of (ca_rowF (xs := r1.set v12.toNat (⟨(lat r1 v12).f, (lat r1 v12).t, (lat r1 v12).m, bitI .or .i64 ((1 : Int) * 2 ^ (min (pickM (((lat x v12).x1).tdiv (30 : Int)) ((f.dr.length : Nat) : Int)).toNat 64)) ((1 : Int) * 2 ^ (min (pickM (((lat x v12).x1).tdiv (200 : Int)) ((f.dr.length : Nat) : Int)).toNat 64))⟩ : Con)) (k := 1) rfl (enc66.wd false) s279q rfl) rfl) ?_)
 obtain ⟨s280, hv⟩ := hv
 refine cL rfl (o_iaL tt23 tt3 rfl rfl (encInt.wd true) rfl s280 ?_)
 intro rest280
 refine cL rfl (o_ldS (v := .int _ _) tt3 rfl rfl ⟨_, rfl⟩ ?_)
 refine mL rfl rfl ?_
 refine cL rfl (o_move (v := .ref _ _ _) rfl ?_)
 refine mI rfl rfl ?_
 obtain ⟨s281, hv⟩ := hv
 refine cL rfl (o_iaR tt28 tt66 rfl rfl s281 ?_)
 have s281q : 0 ≤ v12 ∧ v12 < (((r1.set v12.toNat (⟨(lat r1 v12).f, (lat r1 v12).t, (lat r1 v12).m, bitI .or .i64 ((1 : Int) * 2 ^ (min (pickM (((lat x v12).x1).tdiv (30 : Int)) ((f.dr.length : Nat) : Int)).toNat 64)) ((1 : Int) * 2 ^ (min (pickM (((lat x v12).x1).tdiv (200 : Int)) ((f.dr.length : Nat) : Int)).toNat 64))⟩ : Con)).length : Nat) : Int) := by simpa using s281
 refine cL rfl (o_fa tt66 rfl tt3 rfl ?_)
 refine cL rfl (o_ldS (v := .int _ _) tt3 rfl rfl (cell_of (ca_rowF (xs := r1.set v12.toNat (⟨(lat r1 v12).f, (lat r1 v12).t, (lat r1 v12).m, bitI .or .i64 ((1 : Int) * 2 ^ (min (pickM (((lat x v12).x1).tdiv (30 : Int)) ((f.dr.length : Nat) : Int)).toNat 64)) ((1 : Int) * 2 ^ (min (pickM (((lat x v12).x1).tdiv (200 : Int)) ((f.dr.length : Nat) : Int)).toNat 64))⟩ : Con)) (k := 0) rfl (enc66.wd false) s281q rfl) rfl) ?_)
 obtain ⟨s282, hv⟩ := hv
 refine cL rfl (o_iaL tt23 tt3 rfl rfl (encInt.wd true) rfl s282 ?_)
 intro rest282
 refine cL rfl (o_ldS (v := .int _ _) tt3 rfl rfl ⟨_, rfl⟩ ?_)
 obtain ⟨s283, hv⟩ := hv
 refine cL rfl (o_sub rfl rfl s283 ?_)
 refine cL rfl (o_move (v := .ref _ _ _) rfl ?_)
 refine mI rfl rfl ?_
 obtain ⟨s284, hv⟩ := hv
 refine cL rfl (o_iaR tt28 tt66 rfl rfl s284 ?_)
 have s284q : 0 ≤ v12 ∧ v12 < (((r1.set v12.toNat (⟨(lat r1 v12).f, (lat r1 v12).t, (lat r1 v12).m, bitI .or .i64 ((1 : Int) * 2 ^ (min (pickM (((lat x v12).x1).tdiv (30 : Int)) ((f.dr.length : Nat) : Int)).toNat 64)) ((1 : Int) * 2 ^ (min (pickM (((lat x v12).x1).tdiv (200 : Int)) ((f.dr.length : Nat) : Int)).toNat 64))⟩ : Con)).length : Nat) : Int) := by simpa using s284
 refine cL rfl (o_fa tt66 rfl tt3 rfl ?_)
 refine cL rfl (o_ldS (v := .int _ _) tt3 rfl rfl (cell_of (ca_rowF (xs := r1.set v12.toNat (⟨(lat r1 v12).f, (lat r1 v12).t, (lat r1 v12).m, bitI .or .i64 ((1 : Int) * 2 ^ (min (pickM (((lat x v12).x1).tdiv (30 : Int)) ((f.dr.length : Nat) : Int)).toNat 64)) ((1 : Int) * 2 ^ (min (pickM (((lat x v12).x1).tdiv (200 : Int)) ((f.dr.length : Nat) : Int)).toNat 64))⟩ : Con)) (k := 2) rfl (enc66.wd false) s284q rfl) rfl) ?_)
 refine cL rfl (o_max rfl rfl ?_)
 obtain ⟨s285, hv⟩ := hv
 refine cL rfl (o_add rfl rfl s285 ?_)
 obtain ⟨s286, hv⟩ := hv
 refine cL rfl (o_iaR tt28 tt66 rfl rfl s286 ?_)
 have s286q : 0 ≤ v12 ∧ v12 < (((r1.set v12.toNat (⟨(lat r1 v12).f, (lat r1 v12).t, (lat r1 v12).m, bitI .or .i64 ((1 : Int) * 2 ^ (min (pickM (((lat x v12).x1).tdiv (30 : Int)) ((f.dr.length : Nat) : Int)).toNat 64)) ((1 : Int) * 2 ^ (min (pickM (((lat x v12).x1).tdiv (200 : Int)) ((f.dr.length : Nat) : Int)).toNat 64))⟩ : Con)).length : Nat) : Int) := by simpa using s286
 refine cL rfl (o_fa tt66 rfl tt3 rfl ?_)
 refine cLn (o_stR (v := .int _ _) (vs := [.int _ _]) tt3 rfl rfl rfl rfl rfl (row_inF (xs := r1.set v12.toNat (⟨(lat r1 v12).f, (lat r1 v12).t, (lat r1 v12).m, bitI .or .i64 ((1 : Int) * 2 ^ (min (pickM (((lat x v12).x1).tdiv (30 : Int)) ((f.dr.length : Nat) : Int)).toNat 64)) ((1 : Int) * 2 ^ (min (pickM (((lat x v12).x1).tdiv (200 : Int)) ((f.dr.length : Nat) : Int)).toNat 64))⟩ : Con)) (enc66.wd false) s286q rfl) (row_setF (e := e66) (enc66.wd false) _ _ 2 (⟨(lat (r1.set v12.toNat (⟨(lat r1 v12).f, (lat r1 v12).t, (lat r1 v12).m, bitI .or .i64 ((1 : Int) * 2 ^ (min (pickM (((lat x v12).x1).tdiv (30 : Int)) ((f.dr.length : Nat) : Int)).toNat 64)) ((1 : Int) * 2 ^ (min (pickM (((lat x v12).x1).tdiv (200 : Int)) ((f.dr.length : Nat) : Int)).toNat 64))⟩ : Con)) v12).f, (lat (r1.set v12.toNat (⟨(lat r1 v12).f, (lat r1 v12).t, (lat r1 v12).m, bitI .or .i64 ((1 : Int) * 2 ^ (min (pickM (((lat x v12).x1).tdiv (30 : Int)) ((f.dr.length : Nat) : Int)).toNat 64)) ((1 : Int) * 2 ^ (min (pickM (((lat x v12).x1).tdiv (200 : Int)) ((f.dr.length : Nat) : Int)).toNat 64))⟩ : Con)) v12).t, (((lat truth ((lat (r1.set v12.toNat (⟨(lat r1 v12).f, (lat r1 v12).t, (lat r1 v12).m, bitI .or .i64 ((1 : Int) * 2 ^ (min (pickM (((lat x v12).x1).tdiv (30 : Int)) ((f.dr.length : Nat) : Int)).toNat 64)) ((1 : Int) * 2 ^ (min (pickM (((lat x v12).x1).tdiv (200 : Int)) ((f.dr.length : Nat) : Int)).toNat 64))⟩ : Con)) v12).t)) - (lat truth ((lat (r1.set v12.toNat (⟨(lat r1 v12).f, (lat r1 v12).t, (lat r1 v12).m, bitI .or .i64 ((1 : Int) * 2 ^ (min (pickM (((lat x v12).x1).tdiv (30 : Int)) ((f.dr.length : Nat) : Int)).toNat 64)) ((1 : Int) * 2 ^ (min (pickM (((lat x v12).x1).tdiv (200 : Int)) ((f.dr.length : Nat) : Int)).toNat 64))⟩ : Con)) v12).f))) + (max ((lat (r1.set v12.toNat (⟨(lat r1 v12).f, (lat r1 v12).t, (lat r1 v12).m, bitI .or .i64 ((1 : Int) * 2 ^ (min (pickM (((lat x v12).x1).tdiv (30 : Int)) ((f.dr.length : Nat) : Int)).toNat 64)) ((1 : Int) * 2 ^ (min (pickM (((lat x v12).x1).tdiv (200 : Int)) ((f.dr.length : Nat) : Int)).toNat 64))⟩ : Con)) v12).m) (0 : Int))), (lat (r1.set v12.toNat (⟨(lat r1 v12).f, (lat r1 v12).t, (lat r1 v12).m, bitI .or .i64 ((1 : Int) * 2 ^ (min (pickM (((lat x v12).x1).tdiv (30 : Int)) ((f.dr.length : Nat) : Int)).toNat 64)) ((1 : Int) * 2 ^ (min (pickM (((lat x v12).x1).tdiv (200 : Int)) ((f.dr.length : Nat) : Int)).toNat 64))⟩ : Con)) v12).a⟩ : Con) rfl rfl s286q) ?_)
 refine eL ?_
 exact bl_nrm (th_nrm (⟨(), ((r1.set v12.toNat (⟨(lat r1 v12).f, (lat r1 v12).t, (lat r1 v12).m, bitI .or .i64 ((1 : Int) * 2 ^ (min (pickM (((lat x v12).x1).tdiv (30 : Int)) ((f.dr.length : Nat) : Int)).toNat 64)) ((1 : Int) * 2 ^ (min (pickM (((lat x v12).x1).tdiv (200 : Int)) ((f.dr.length : Nat) : Int)).toNat 64))⟩ : Con)).set v12.toNat (⟨(lat (r1.set v12.toNat (⟨(lat r1 v12).f, (lat r1 v12).t, (lat r1 v12).m, bitI .or .i64 ((1 : Int) * 2 ^ (min (pickM (((lat x v12).x1).tdiv (30 : Int)) ((f.dr.length : Nat) : Int)).toNat 64)) ((1 : Int) * 2 ^ (min (pickM (((lat x v12).x1).tdiv (200 : Int)) ((f.dr.length : Nat) : Int)).toNat 64))⟩ : Con)) v12).f, (lat (r1.set v12.toNat (⟨(lat r1 v12).f, (lat r1 v12).t, (lat r1 v12).m, bitI .or .i64 ((1 : Int) * 2 ^ (min (pickM (((lat x v12).x1).tdiv (30 : Int)) ((f.dr.length : Nat) : Int)).toNat 64)) ((1 : Int) * 2 ^ (min (pickM (((lat x v12).x1).tdiv (200 : Int)) ((f.dr.length : Nat) : Int)).toNat 64))⟩ : Con)) v12).t, (((lat truth ((lat (r1.set v12.toNat (⟨(lat r1 v12).f, (lat r1 v12).t, (lat r1 v12).m, bitI .or .i64 ((1 : Int) * 2 ^ (min (pickM (((lat x v12).x1).tdiv (30 : Int)) ((f.dr.length : Nat) : Int)).toNat 64)) ((1 : Int) * 2 ^ (min (pickM (((lat x v12).x1).tdiv (200 : Int)) ((f.dr.length : Nat) : Int)).toNat 64))⟩ : Con)) v12).t)) - (lat truth ((lat (r1.set v12.toNat (⟨(lat r1 v12).f, (lat r1 v12).t, (lat r1 v12).m, bitI .or .i64 ((1 : Int) * 2 ^ (min (pickM (((lat x v12).x1).tdiv (30 : Int)) ((f.dr.length : Nat) : Int)).toNat 64)) ((1 : Int) * 2 ^ (min (pickM (((lat x v12).x1).tdiv (200 : Int)) ((f.dr.length : Nat) : Int)).toNat 64))⟩ : Con)) v12).f))) + (max ((lat (r1.set v12.toNat (⟨(lat r1 v12).f, (lat r1 v12).t, (lat r1 v12).m, bitI .or .i64 ((1 : Int) * 2 ^ (min (pickM (((lat x v12).x1).tdiv (30 : Int)) ((f.dr.length : Nat) : Int)).toNat 64)) ((1 : Int) * 2 ^ (min (pickM (((lat x v12).x1).tdiv (200 : Int)) ((f.dr.length : Nat) : Int)).toNat 64))⟩ : Con)) v12).m) (0 : Int))), (lat (r1.set v12.toNat (⟨(lat r1 v12).f, (lat r1 v12).t, (lat r1 v12).m, bitI .or .i64 ((1 : Int) * 2 ^ (min (pickM (((lat x v12).x1).tdiv (30 : Int)) ((f.dr.length : Nat) : Int)).toNat 64)) ((1 : Int) * 2 ^ (min (pickM (((lat x v12).x1).tdiv (200 : Int)) ((f.dr.length : Nat) : Int)).toNat 64))⟩ : Con)) v12).a⟩ : Con)), hv, St.to_mk (φ := [some 0, some 1]) rfl (rfl) ⟨Ren.lst _ _ _, Ren.int _ _, Ren.lst _ _ _, Ren.ptr rfl, Ren.refL rfl (fun h => h) (by simp), Ren.int _ _, trivial⟩ ⟨.inr ⟨_, rfl, rfl, Rens.cons (Ren.lst _ _ _) (Rens.cons (Ren.int _ _) (Rens.cons (Ren.int _ _) (Rens.cons (Ren.lst _ _ _) (Rens.cons (Ren.lst _ _ _) (Rens.nil)))))⟩, .inr ⟨_, rfl, rfl, rfl, rfl, Rens.enc enc66 false ((r1.set v12.toNat (⟨(lat r1 v12).f, (lat r1 v12).t, (lat r1 v12).m, bitI .or .i64 ((1 : Int) * 2 ^ (min (pickM (((lat x v12).x1).tdiv (30 : Int)) ((f.dr.length : Nat) : Int)).toNat 64)) ((1 : Int) * 2 ^ (min (pickM (((lat x v12).x1).tdiv (200 : Int)) ((f.dr.length : Nat) : Int)).toNat 64))⟩ : Con)).set v12.toNat (⟨(lat (r1.set v12.toNat (⟨(lat r1 v12).f, (lat r1 v12).t, (lat r1 v12).m, bitI .or .i64 ((1 : Int) * 2 ^ (min (pickM (((lat x v12).x1).tdiv (30 : Int)) ((f.dr.length : Nat) : Int)).toNat 64)) ((1 : Int) * 2 ^ (min (pickM (((lat x v12).x1).tdiv (200 : Int)) ((f.dr.length : Nat) : Int)).toNat 64))⟩ : Con)) v12).f, (lat (r1.set v12.toNat (⟨(lat r1 v12).f, (lat r1 v12).t, (lat r1 v12).m, bitI .or .i64 ((1 : Int) * 2 ^ (min (pickM (((lat x v12).x1).tdiv (30 : Int)) ((f.dr.length : Nat) : Int)).toNat 64)) ((1 : Int) * 2 ^ (min (pickM (((lat x v12).x1).tdiv (200 : Int)) ((f.dr.length : Nat) : Int)).toNat 64))⟩ : Con)) v12).t, (((lat truth ((lat (r1.set v12.toNat (⟨(lat r1 v12).f, (lat r1 v12).t, (lat r1 v12).m, bitI .or .i64 ((1 : Int) * 2 ^ (min (pickM (((lat x v12).x1).tdiv (30 : Int)) ((f.dr.length : Nat) : Int)).toNat 64)) ((1 : Int) * 2 ^ (min (pickM (((lat x v12).x1).tdiv (200 : Int)) ((f.dr.length : Nat) : Int)).toNat 64))⟩ : Con)) v12).t)) - (lat truth ((lat (r1.set v12.toNat (⟨(lat r1 v12).f, (lat r1 v12).t, (lat r1 v12).m, bitI .or .i64 ((1 : Int) * 2 ^ (min (pickM (((lat x v12).x1).tdiv (30 : Int)) ((f.dr.length : Nat) : Int)).toNat 64)) ((1 : Int) * 2 ^ (min (pickM (((lat x v12).x1).tdiv (200 : Int)) ((f.dr.length : Nat) : Int)).toNat 64))⟩ : Con)) v12).f))) + (max ((lat (r1.set v12.toNat (⟨(lat r1 v12).f, (lat r1 v12).t, (lat r1 v12).m, bitI .or .i64 ((1 : Int) * 2 ^ (min (pickM (((lat x v12).x1).tdiv (30 : Int)) ((f.dr.length : Nat) : Int)).toNat 64)) ((1 : Int) * 2 ^ (min (pickM (((lat x v12).x1).tdiv (200 : Int)) ((f.dr.length : Nat) : Int)).toNat 64))⟩ : Con)) v12).m) (0 : Int))), (lat (r1.set v12.toNat (⟨(lat r1 v12).f, (lat r1 v12).t, (lat r1 v12).m, bitI .or .i64 ((1 : Int) * 2 ^ (min (pickM (((lat x v12).x1).tdiv (30 : Int)) ((f.dr.length : Nat) : Int)).toNat 64)) ((1 : Int) * 2 ^ (min (pickM (((lat x v12).x1).tdiv (200 : Int)) ((f.dr.length : Nat) : Int)).toNat 64))⟩ : Con)) v12).a⟩ : Con))⟩, trivial⟩⟩))
 have hv := hv.2 hc
 refine W.skip ?_
 exact bl_nrm (th_nrm (⟨(), (r1.set v12.toNat (⟨(lat r1 v12).f, (lat r1 v12).t, (lat r1 v12).m, bitI .or .i64 ((1 : Int) * 2 ^ (min (pickM (((lat x v12).x1).tdiv (30 : Int)) ((f.dr.length : Nat) : Int)).toNat 64)) ((1 : Int) * 2 ^ (min (pickM (((lat x v12).x1).tdiv (200 : Int)) ((f.dr.length : Nat) : Int)).toNat 64))⟩ : Con)), hv, St.to_mk (φ := [some 0, some 1]) rfl (rfl) ⟨Ren.lst _ _ _, Ren.int _ _, Ren.lst _ _ _, Ren.ptr rfl, Ren.refL rfl (fun h => h) (by simp), Ren.int _ _, trivial⟩ ⟨.inr ⟨_, rfl, rfl, Rens.cons (Ren.lst _ _ _) (Rens.cons (Ren.int _ _) (Rens.cons (Ren.int _ _) (Rens.cons (Ren.lst _ _ _) (Rens.cons (Ren.lst _ _ _) (Rens.nil)))))⟩, .inr ⟨_, rfl, rfl, rfl, rfl, Rens.enc enc66 false (r1.set v12.toNat (⟨(lat r1 v12).f, (lat r1 v12).t, (lat r1 v12).m, bitI .or .i64 ((1 : Int) * 2 ^ (min (pickM (((lat x v12).x1).tdiv (30 : Int)) ((f.dr.length : Nat) : Int)).toNat 64)) ((1 : Int) * 2 ^ (min (pickM (((lat x v12).x1).tdiv (200 : Int)) ((f.dr.length : Nat) : Int)).toNat 64))⟩ : Con))⟩, trivial⟩⟩))
 have hv := hv.2 hc
 refine W.exit ?_
 refine th_exit (th_exit (bl_hit (th_nrm ?_)))
 refine W.tr [(11, .ref _ _ _)] [.box _ [.lst _ _ _, .int _ _, .int _ _, .lst _ _ _, .lst _ _ _], .row _ _ _] ⟨rfl, trivial⟩ rfl ?_
 refine W.rL ?_
 refine cL rfl (o_move (v := .ref _ _ _) rfl ?_)
 refine cL rfl (o_assign (v := .ref _ _ _) rfl ?_)
 refine eL ?_
 refine W.tr [(10, .ref _ _ _)] [.box _ [.lst _ _ _, .int _ _, .int _ _, .lst _ _ _, .lst _ _ _], .row _ _ _] ⟨rfl, trivial⟩ rfl ?_
 refine W.ret ?_
 refine rt ?_
 refine rt_t (v := .ref _ _ _) rfl ?_
 refine rt_n ?_
 exact ⟨_, rs_ref enc66 4 _ rfl rfl, r1, rfl, hv⟩
theorem vcp_bmade (f : Flt) (n : Int) (x : (List A3)) (honest : Int) (truth : (List Int)) (h0 : BMadeOk f n x honest truth) : vc_bmade f n x honest truth (fun q0 => q0 = (bmadeM f n x honest truth)) := by
  unfold vc_bmade
  obtain ⟨hd, hn, hxi, htl, htv⟩ := h0
  have ht : (x.take (min ((x.length : Nat) : Int) (24 : Int)).toNat) = x.take 24 := by
    rcases Nat.lt_or_ge x.length 24 with h | h
    · rw [List.take_of_length_le (by omega), List.take_of_length_le (by omega)]
    · congr 1; omega
  rw [ht]
  have hxt : ∀ y ∈ x.take 24, inI y.x0 ∧ inI y.x1 ∧ inI y.x2 := fun y hy => hxi y (List.mem_of_mem_take hy)
  have hml : (madeM n (x.take 24)).length ≤ (x.take 24).length := by
    unfold madeM
    split
    · rw [List.length_map, List.length_take]; omega
    · simp
  have hm24 : (madeM n (x.take 24)).length ≤ 24 := Nat.le_trans hml (by rw [List.length_take]; omega)
  have hmx : (madeM n (x.take 24)).length ≤ x.length := Nat.le_trans hml (by rw [List.length_take]; omega)
  have hmp := made_poss (n := n) (x := x.take 24)
  generalize hL : madeM n (x.take 24) = L at *
  have hres : bmadeM f n x honest truth = List.zipWith (bmade1 f honest truth) L (x.take 24) := by unfold bmadeM; rw [hL]
  refine ⟨by omega, by omega, by omega, hxt, fun v r => ∃ i : Nat, v = i ∧ i ≤ L.length ∧ r.length = L.length ∧ ∀ k, k < L.length → r[k]? = if k < i then (List.zipWith (bmade1 f honest truth) L (x.take 24))[k]? else L[k]?, fun v _ => L.length - v.toNat, ⟨0, rfl, by omega, rfl, fun k _ => by rw [if_neg (by omega)]⟩, ?_⟩
  rintro _ r ⟨i, rfl, hi, hlen, hr⟩
  refine ⟨fun h1 => ?_, fun h1 => ?_⟩
  · have hlt : i < L.length := by omega
    have hlr : i < r.length := by omega
    have hlx : i < x.length := by omega
    have hc : lat r (i : Int) = L[i] := by
      have := hr i hlt
      rw [if_neg (by omega), List.getElem?_eq_getElem hlt, List.getElem?_eq_getElem hlr] at this
      rw [lat_get hlr]; exact Option.some.inj this
    have hxx : lat x (i : Int) = x[i] := lat_get hlx
    have hz : (List.zipWith (bmade1 f honest truth) L (x.take 24))[i]? = some (bmade1 f honest truth L[i] x[i]) := by
      rw [List.getElem?_zipWith, List.getElem?_eq_getElem hlt, List.getElem?_take_of_lt (by omega), List.getElem?_eq_getElem hlx]
    have hy := hxi x[i] (List.getElem_mem hlx)
    obtain ⟨p1, p2, p3⟩ := hmp L[i] (List.getElem_mem hlt)
    have p1 := possM_iff.1 p1
    have hi30 := inI_tdiv30 hy.2.1
    have hi200 := inI_tdiv200 hy.2.1
    have q1 := pickM_nonneg (c := x[i].x1.tdiv 30) (n := ((f.dr.length : Nat) : Int)) (by omega)
    have q2 := pickM_nonneg (c := x[i].x1.tdiv 200) (n := ((f.dr.length : Nat) : Int)) (by omega)
    have r1 := two_pow_lt (q := (pickM (x[i].x1.tdiv 30) ((f.dr.length : Nat) : Int)).toNat) (by omega)
    have r2 := two_pow_lt (q := (pickM (x[i].x1.tdiv 200) ((f.dr.length : Nat) : Int)).toNat) (by omega)
    have m1 : min (pickM (x[i].x1.tdiv 30) ((f.dr.length : Nat) : Int)).toNat 64 = (pickM (x[i].x1.tdiv 30) ((f.dr.length : Nat) : Int)).toNat := by omega
    have m2 : min (pickM (x[i].x1.tdiv 200) ((f.dr.length : Nat) : Int)).toNat 64 = (pickM (x[i].x1.tdiv 200) ((f.dr.length : Nat) : Int)).toNat := by omega
    rw [hxx, hc, m1, m2, Int.one_mul, Int.one_mul, Int.toNat_natCast]
    simp only [lat_set_self hlr]
    have hb1 : bmade1 f honest truth L[i] x[i] = if bitI .and .i64 (bitI .or .i64 (2 ^ (pickM (x[i].x1.tdiv 30) f.dr.length).toNat) (2 ^ (pickM (x[i].x1.tdiv 200) f.dr.length).toNat)) honest = (bitI .or .i64 (2 ^ (pickM (x[i].x1.tdiv 30) f.dr.length).toNat) (2 ^ (pickM (x[i].x1.tdiv 200) f.dr.length).toNat)) then ⟨L[i].f, L[i].t, lat truth L[i].t - lat truth L[i].f + max L[i].m 0, (bitI .or .i64 (2 ^ (pickM (x[i].x1.tdiv 30) f.dr.length).toNat) (2 ^ (pickM (x[i].x1.tdiv 200) f.dr.length).toNat))⟩ else ⟨L[i].f, L[i].t, L[i].m, (bitI .or .i64 (2 ^ (pickM (x[i].x1.tdiv 30) f.dr.length).toNat) (2 ^ (pickM (x[i].x1.tdiv 200) f.dr.length).toNat))⟩ := rfl
    generalize hA : bitI .or .i64 (2 ^ (pickM (x[i].x1.tdiv 30) f.dr.length).toNat) (2 ^ (pickM (x[i].x1.tdiv 200) f.dr.length).toNat) = A at *
    generalize hC : L[i] = c at *
    have t1 := htv _ (lat_mem (xs := truth) (i := c.t) ⟨p1.2.2.1, by omega⟩)
    have t2 := htv _ (lat_mem (xs := truth) (i := c.f) ⟨p1.1, by omega⟩)
    refine ⟨fun r' => r'.length = L.length ∧ ∀ k, k < L.length → r'[k]? = if k < i + 1 then (List.zipWith (bmade1 f honest truth) L (x.take 24))[k]? else L[k]?, ?_, by omega, hi30, hi30, by omega, by omega, hi200, hi200, by omega, by omega, by unfold inI; omega, by omega, by unfold inI; omega, by omega, by omega, by omega, fun h2 => ⟨by omega, by omega, by omega, by omega, by unfold inI; omega, by omega, by unfold inI; omega, by omega, by simp [hlen], fun k hk => ?_⟩, fun h2 => ⟨by simp [hlen], fun k hk => ?_⟩⟩
    · rintro r' ⟨h3, h4⟩
      exact ⟨by unfold inI; omega, ⟨i + 1, by omega, by omega, h3, h4⟩, by omega⟩
    · rw [List.set_set]
      by_cases hk2 : k = i
      · subst hk2
        rw [if_pos (by omega), hz, hb1, if_pos h2, List.getElem?_set_self (by omega)]
      · rw [List.getElem?_set_ne (Ne.symm hk2), hr k hk]
        by_cases hk3 : k < i
        · rw [if_pos hk3, if_pos (by omega)]
        · rw [if_neg hk3, if_neg (by omega)]
    · by_cases hk2 : k = i
      · subst hk2
        rw [if_pos (by omega), hz, hb1, if_neg h2, List.getElem?_set_self (by omega)]
      · rw [List.getElem?_set_ne (Ne.symm hk2), hr k hk]
        by_cases hk3 : k < i
        · rw [if_pos hk3, if_pos (by omega)]
        · rw [if_neg hk3, if_neg (by omega)]
  · have hil : i = L.length := by omega
    subst hil
    show r = bmadeM f n x honest truth
    rw [hres]
    refine List.ext_getElem? fun k => ?_
    rcases Nat.lt_or_ge k L.length with h2 | h2
    · rw [hr k h2, if_pos h2]
    · rw [List.getElem?_eq_none (by omega), List.getElem?_eq_none (by rw [List.length_zipWith]; omega)]
theorem spec_bmade (f : Flt) (n : Int) (x : (List A3)) (honest : Int) (truth : (List Int)) (h0 : BMadeOk f n x honest truth) : FnP Try.prog 33 [.agg ((e27 true) f), .int .i64 n, .lst true x.length (encL e29 x), .int .i64 honest, .lst true truth.length (encL eInt truth)] (fun xR => xR = .lst false (bmadeM f n x honest truth).length (encL e66 (bmadeM f n x honest truth))) :=
  (walk_bmade (vcp_bmade f n x honest truth h0)).mono (by rintro _ ⟨_, rfl, rfl⟩; rfl)
def vc_mk (c : Cas) (Post : Flt → Int → (List Con) → (List Int) → Int → Prop) : Prop :=
  (inI c.fl) ∧ (inI c.n) ∧ (1 ≤ (6 : Int)) ∧ (inI ((1 : Int) + (pickM c.n (6 : Int)))) ∧ (0 ≤ ((((fleetM c.fl).dr).length : Nat) : Int)) ∧ (inI ((1 : Int) * 2 ^ (min ((((fleetM c.fl).dr).length : Nat) : Int).toNat 64))) ∧ (inI (((1 : Int) * 2 ^ (min ((((fleetM c.fl).dr).length : Nat) : Int).toNat 64)) - (1 : Int))) ∧ ∃ (I1 : Int → Int → Int → Prop) (μ1 : Int → Int → Int → Nat), I1 (((1 : Int) * 2 ^ (min ((((fleetM c.fl).dr).length : Nat) : Int).toNat 64)) - (1 : Int)) ((fleetM c.fl).li) (0 : Int) ∧ ∀ (v9 : Int) (v10 : Int) (v11 : Int), I1 v9 v10 v11 → ((v11 < ((((fleetM c.fl).dr).length : Nat) : Int)) → ∃ J2 : Int → Int → Prop, (∀ (v9_1 : Int) (v10_1 : Int), J2 v9_1 v10_1 → (inI (v11 + (1 : Int))) ∧ (I1 v9_1 v10_1 (v11 + (1 : Int)) ∧ μ1 v9_1 v10_1 (v11 + (1 : Int)) < μ1 v9 v10 v11)) ∧ (((((0 : Int) < v10) → (inI c.ho) ∧ (1 ≤ (64 : Int)) ∧ (0 ≤ v11) ∧ True) ∧ (¬ ((0 : Int) < v10) → True)) ∧ (((((0 : Int) < v10) ∧ (((pickM c.ho (64 : Int)).fdiv (2 ^ (min v11.toNat 64))).tmod (2 : Int) = (0 : Int))) → (0 ≤ v11) ∧ (inI ((1 : Int) * 2 ^ (min v11.toNat 64))) ∧ (inI (v10 - (1 : Int))) ∧ J2 (bitI .andNot .i64 v9 ((1 : Int) * 2 ^ (min v11.toNat 64))) (v10 - (1 : Int))) ∧ (¬ (((0 : Int) < v10) ∧ (((pickM c.ho (64 : Int)).fdiv (2 ^ (min v11.toNat 64))).tmod (2 : Int) = (0 : Int))) → J2 v9 v10)))) ∧ (¬ (v11 < ((((fleetM c.fl).dr).length : Nat) : Int)) → ∃ (I3 : Int → List Int → Prop) (μ3 : Int → List Int → Nat), I3 (0 : Int) [] ∧ ∀ (v13 : Int) (r3 : List Int), I3 v13 r3 → ((v13 < ((1 : Int) + (pickM c.n (6 : Int)))) → ∃ J4 : Int → Prop, (∀ (v14 : Int), J4 v14 → ((r3 ++ [v14]).length ≤ 1073741824) ∧ (inI (v13 + (1 : Int))) ∧ (I3 (v13 + (1 : Int)) (r3 ++ [v14]) ∧ μ3 (v13 + (1 : Int)) (r3 ++ [v14]) < μ3 v13 r3)) ∧ (((v13 < ((c.tr.length : Nat) : Int)) → (0 ≤ v13 ∧ v13 < (c.tr.length : Int)) ∧ (inI (lat c.tr v13)) ∧ (1 ≤ (60 : Int)) ∧ J4 (pickM (lat c.tr v13) (60 : Int))) ∧ (¬ (v13 < ((c.tr.length : Nat) : Int)) → J4 (0 : Int)))) ∧ (¬ (v13 < ((1 : Int) + (pickM c.n (6 : Int)))) → (BMadeOk (fleetM c.fl) ((1 : Int) + (pickM c.n (6 : Int))) c.x v9 r3) ∧ Post (fleetM c.fl) ((1 : Int) + (pickM c.n (6 : Int))) (bmadeM (fleetM c.fl) ((1 : Int) + (pickM c.n (6 : Int))) c.x v9 r3) r3 v9))
set_option maxRecDepth 100000 in
set_option maxHeartbeats 4000000 in
theorem walk_mk {c : Cas} {Post : Flt → Int → (List Con) → (List Int) → Int → Prop} (hv : vc_mk c Post) : FnP Try.prog 11 [.agg ((e25 true) c)] (fun x => ∃ q0 q1 q2 q3 q4, x = .tup [.agg ((e27 false) q0), .int .i64 q1, .lst false q2.length (encL e66 q2), .lst false q3.length (encL eInt q3), .int .i64 q4] ∧ Post q0 q1 q2 q3 q4) := by
 refine FnP.of_walk (T := tt) (nt := 84) ttOk ttMix ⟨⟨Try.f11, Try.func11, rfl, rfl, rfl, rfl⟩⟩ (by simp) ?_
 unfold vc_mk at hv
 change W _ _ _ ⟨84, look [(0, .agg [.int .i64 c.fl, .int .i64 c.n, .lst true c.x.length (encL e29 c.x), .lst true c.tr.length (encL eInt c.tr), .int .i64 c.ho])], [], 0⟩ _
 refine W.tr [(0, .agg _)] [] ⟨rfl, trivial⟩ rfl ?_
 refine W.rL ?_
 refine cL rfl (o_box (v := .agg _) (p := 0) rfl rfl rfl ?_)
 refine cL rfl (o_alloc (p := 1) tt27 rfl rfl ?_)
 refine aI rfl rfl ?_
 iterate 2 refine cL rfl (o_assign (v := .nilS) rfl ?_)
 refine aI rfl rfl ?_
 refine eL ?_
 refine W.tr [(1, .ptr _ _), (2, .ptr _ _)] [.box _ [.int _ _, .int _ _, .lst _ _ _, .lst _ _ _, .int _ _], .box _ [.nilS, .int _ _, .int _ _, .nilS, .nilS]] ⟨rfl, rfl, trivial⟩ rfl ?_
 refine W.rL ?_
 refine cL rfl (o_fa tt25 rfl tt3 rfl ?_)
 refine cL rfl (o_ldS (v := .int _ _) tt3 rfl rfl ⟨_, rfl⟩ ?_)
 obtain ⟨s1, hv⟩ := hv
 refine cL rfl (o_callP1 (k := 32) (fst := []) (caps := []) (ys := [.int _ _]) rfl rfl (spec_fleet c.fl s1) (Wks.cons (ag_int _ _ _ _) (Wks.refl _)) ?_)
 refine cL rfl (o_alloc (p := 2) tt27 rfl rfl ?_)
 refine cLn (o_stB (v := .agg _) (vs := [.lst _ _ _, .int _ _, .int _ _, .lst _ _ _, .lst _ _ _]) (cs2 := [.lst _ _ _, .int _ _, .int _ _, .lst _ _ _, .lst _ _ _]) tt27 rfl rfl rfl rfl rfl (Nat.le_of_ble_eq_true rfl) rfl ?_)
 refine eL ?_
 refine W.tr [(1, .ptr _ _), (2, .ptr _ _), (7, .ptr _ _)] [.box _ [.int _ _, .int _ _, .lst _ _ _, .lst _ _ _, .int _ _], .box _ [.nilS, .int _ _, .int _ _, .nilS, .nilS], .box _ [.lst _ _ _, .int _ _, .int _ _, .lst _ _ _, .lst _ _ _]] ⟨rfl, rfl, rfl, trivial⟩ rfl ?_
 refine W.rL ?_
 refine cL rfl (o_fa tt25 rfl tt3 rfl ?_)
 refine cL rfl (o_ldS (v := .int _ _) tt3 rfl rfl ⟨_, rfl⟩ ?_)
 obtain ⟨s2, s3, hv⟩ := hv
 refine cL rfl (o_callP1 (k := 21) (fst := []) (caps := []) (ys := [.int _ _, .int _ _]) rfl rfl (spec_pick c.n (6 : Int) s2 s3) (Wks.cons (ag_int _ _ _ _) (Wks.cons (ag_int _ _ _ _) (Wks.refl _))) ?_)
 obtain ⟨s4, hv⟩ := hv
 refine cL rfl (o_add rfl rfl s4 ?_)
 refine aI rfl rfl ?_
 refine eL ?_
 refine W.tr [(1, .ptr _ _), (2, .ptr _ _), (7, .ptr _ _), (8, .int _ _)] [.box _ [.int _ _, .int _ _, .lst _ _ _, .lst _ _ _, .int _ _], .box _ [.nilS, .int _ _, .int _ _, .nilS, .nilS], .box _ [.lst _ _ _, .int _ _, .int _ _, .lst _ _ _, .lst _ _ _]] ⟨rfl, rfl, rfl, rfl, trivial⟩ rfl ?_
 refine W.rL ?_
 refine cL rfl (o_fa tt27 rfl tt23 rfl ?_)
 refine cL rfl (o_ldS (v := .lst _ _ _) tt23 rfl rfl ⟨_, rfl⟩ ?_)
 refine cL rfl (o_len (v := .lst _ _ _) tt23 rfl rfl ?_)
 obtain ⟨s5, s6, hv⟩ := hv
 refine cL rfl (o_shl rfl rfl s5 s6 ?_)
 obtain ⟨s7, hv⟩ := hv
 refine cL rfl (o_sub rfl rfl s7 ?_)
 refine aI rfl rfl ?_
 refine eL ?_
 refine W.tr [(1, .ptr _ _), (2, .ptr _ _), (7, .ptr _ _), (8, .int _ _), (9, .int _ _)] [.box _ [.int _ _, .int _ _, .lst _ _ _, .lst _ _ _, .int _ _], .box _ [.nilS, .int _ _, .int _ _, .nilS, .nilS], .box _ [.lst _ _ _, .int _ _, .int _ _, .lst _ _ _, .lst _ _ _]] ⟨rfl, rfl, rfl, rfl, rfl, trivial⟩ rfl ?_
 refine W.rL ?_
 refine cL rfl (o_fa tt27 rfl tt3 rfl ?_)
 refine cL rfl (o_ldS (v := .int _ _) tt3 rfl rfl ⟨_, rfl⟩ ?_)
 refine aI rfl rfl ?_
 refine eL ?_
 refine W.tr [(1, .ptr _ _), (2, .ptr _ _), (7, .ptr _ _), (8, .int _ _), (9, .int _ _), (10, .int _ _)] [.box _ [.int _ _, .int _ _, .lst _ _ _, .lst _ _ _, .int _ _], .box _ [.nilS, .int _ _, .int _ _, .nilS, .nilS], .box _ [.lst _ _ _, .int _ _, .int _ _, .lst _ _ _, .lst _ _ _]] ⟨rfl, rfl, rfl, rfl, rfl, rfl, trivial⟩ rfl ?_
 refine W.seq' ?_
 refine W.rL ?_
 refine aI rfl rfl ?_
 refine eL ?_
 refine W.tr [(1, .ptr _ _), (2, .ptr _ _), (7, .ptr _ _), (8, .int _ _), (9, .int _ _), (10, .int _ _), (11, .int _ _)] [.box _ [.int _ _, .int _ _, .lst _ _ _, .lst _ _ _, .int _ _], .box _ [.nilS, .int _ _, .int _ _, .nilS, .nilS], .box _ [.lst _ _ _, .int _ _, .int _ _, .lst _ _ _, .lst _ _ _]] ⟨rfl, rfl, rfl, rfl, rfl, rfl, rfl, trivial⟩ rfl ?_
 refine W.block ?_
 obtain ⟨I1, μ1, hp, hv⟩ := hv
 refine W.loop3 (fun v9 v10 v11 => ⟨84, look [(1, .ptr 0 0), (2, .ptr 1 0), (7, .ptr 2 0), (8, .int .i64 ((1 : Int) + (pickM c.n (6 : Int)))), (9, .int .i64 v9), (10, .int .i64 v10), (11, .int .i64 v11)], [.box 25 [.int .i64 c.fl, .int .i64 c.n, .lst true c.x.length (encL e29 c.x), .lst true c.tr.length (encL eInt c.tr), .int .i64 c.ho], .box 27 [.nilS, .int .i64 (0 : Int), .int .i64 (0 : Int), .nilS, .nilS], .box 27 [.lst false ((fleetM c.fl).dr).length (encL eInt ((fleetM c.fl).dr)), .int .i64 ((fleetM c.fl).la), .int .i64 ((fleetM c.fl).li), .lst false ((fleetM c.fl).sv).length (encL eInt ((fleetM c.fl).sv)), .lst false ((fleetM c.fl).tm).length (encL eInt ((fleetM c.fl).tm))]], 0⟩) I1 μ1 (((1 : Int) * 2 ^ (min ((((fleetM c.fl).dr).length : Nat) : Int).toNat 64)) - (1 : Int)) ((fleetM c.fl).li) (0 : Int) (St.to_mk (φ := [some 0, some 1, some 2]) rfl (rfl) ⟨Ren.ptr rfl, Ren.ptr rfl, Ren.ptr rfl, Ren.int _ _, Ren.int _ _, Ren.int _ _, Ren.int _ _, trivial⟩ ⟨.inr ⟨_, rfl, rfl, Rens.cons (Ren.int _ _) (Rens.cons (Ren.int _ _) (Rens.cons (Ren.lst _ _ _) (Rens.cons (Ren.lst _ _ _) (Rens.cons (Ren.int _ _) (Rens.nil)))))⟩, .inr ⟨_, rfl, rfl, Rens.cons (Ren.nilS) (Rens.cons (Ren.int _ _) (Rens.cons (Ren.int _ _) (Rens.cons (Ren.nilS) (Rens.cons (Ren.nilS) (Rens.nil)))))⟩, .inr ⟨_, rfl, rfl, Rens.cons (Ren.lst _ _ _) (Rens.cons (Ren.int _ _) (Rens.cons (Ren.int _ _) (Rens.cons (Ren.lst _ _ _) (Rens.cons (Ren.lst _ _ _) (Rens.nil)))))⟩, trivial⟩) hp ?_
 clear hp
 intro v9 v10 v11 hI
 replace hv := hv v9 v10 v11 hI
 clear hI
 refine W.seq' ?_
 refine W.rL ?_
 refine mI rfl rfl ?_
 refine cL rfl (o_fa tt27 rfl tt23 rfl ?_)
 refine cL rfl (o_ldS (v := .lst _ _ _) tt23 rfl rfl ⟨_, rfl⟩ ?_)
 refine cL rfl (o_len (v := .lst _ _ _) tt23 rfl rfl ?_)
 refine cL rfl (o_lss rfl rfl ?_)
 refine eL ?_
 refine W.tr [(1, .ptr _ _), (2, .ptr _ _), (7, .ptr _ _), (8, .int _ _), (9, .int _ _), (10, .int _ _), (11, .int _ _), (33, .bool _)] [.box _ [.int _ _, .int _ _, .lst _ _ _, .lst _ _ _, .int _ _], .box _ [.nilS, .int _ _, .int _ _, .nilS, .nilS], .box _ [.lst _ _ _, .int _ _, .int _ _, .lst _ _ _, .lst _ _ _]] ⟨rfl, rfl, rfl, rfl, rfl, rfl, rfl, rfl, trivial⟩ rfl ?_
 refine W.cn rfl (fun hc => ?_) (fun hc => ?_)
 have hv := hv.1 hc
 refine W.skip ?_
 refine th_nrm ?_
 refine W.tr [(1, .ptr _ _), (2, .ptr _ _), (7, .ptr _ _), (8, .int _ _), (9, .int _ _), (10, .int _ _), (11, .int _ _)] [.box _ [.int _ _, .int _ _, .lst _ _ _, .lst _ _ _, .int _ _], .box _ [.nilS, .int _ _, .int _ _, .nilS, .nilS], .box _ [.lst _ _ _, .int _ _, .int _ _, .lst _ _ _, .lst _ _ _]] ⟨rfl, rfl, rfl, rfl, rfl, rfl, rfl, trivial⟩ rfl ?_
 obtain ⟨J2, hj, hv⟩ := hv
 refine W.mid2 (fun v9_1 v10_1 => ⟨84, look [(1, .ptr 0 0), (2, .ptr 1 0), (7, .ptr 2 0), (8, .int .i64 ((1 : Int) + (pickM c.n (6 : Int)))), (9, .int .i64 v9_1), (10, .int .i64 v10_1), (11, .int .i64 v11)], [.box 25 [.int .i64 c.fl, .int .i64 c.n, .lst true c.x.length (encL e29 c.x), .lst true c.tr.length (encL eInt c.tr), .int .i64 c.ho], .box 27 [.nilS, .int .i64 (0 : Int), .int .i64 (0 : Int), .nilS, .nilS], .box 27 [.lst false ((fleetM c.fl).dr).length (encL eInt ((fleetM c.fl).dr)), .int .i64 ((fleetM c.fl).la), .int .i64 ((fleetM c.fl).li), .lst false ((fleetM c.fl).sv).length (encL eInt ((fleetM c.fl).sv)), .lst false ((fleetM c.fl).tm).length (encL eInt ((fleetM c.fl).tm))]], 0⟩) J2 ?_ ?_
 intro v9_1 v10_1
 intro hv
 replace hv := hj v9_1 v10_1 hv
 refine W.rL1 ?_
 refine mI rfl rfl ?_
 obtain ⟨s74, hv⟩ := hv
 refine cL rfl (o_add rfl rfl s74 ?_)
 refine aI rfl rfl ?_
 refine eL ?_
 exact th_nrm (⟨(), v9_1, v10_1, (v11 + (1 : Int)), hv, St.to_mk (φ := [some 0, some 1, some 2]) rfl (rfl) ⟨Ren.ptr rfl, Ren.ptr rfl, Ren.ptr rfl, Ren.int _ _, Ren.int _ _, Ren.int _ _, Ren.int _ _, trivial⟩ ⟨.inr ⟨_, rfl, rfl, Rens.cons (Ren.int _ _) (Rens.cons (Ren.int _ _) (Rens.cons (Ren.lst _ _ _) (Rens.cons (Ren.lst _ _ _) (Rens.cons (Ren.int _ _) (Rens.nil)))))⟩, .inr ⟨_, rfl, rfl, Rens.cons (Ren.nilS) (Rens.cons (Ren.int _ _) (Rens.cons (Ren.int _ _) (Rens.cons (Ren.nilS) (Rens.cons (Ren.nilS) (Rens.nil)))))⟩, .inr ⟨_, rfl, rfl, Rens.cons (Ren.lst _ _ _) (Rens.cons (Ren.int _ _) (Rens.cons (Ren.int _ _) (Rens.cons (Ren.lst _ _ _) (Rens.cons (Ren.lst _ _ _) (Rens.nil)))))⟩, trivial⟩⟩)
 clear hj
 refine W.block ?_
 obtain ⟨sd, hv⟩ := hv
 refine W.rLm ⟨84, look [(1, .ptr 0 0), (2, .ptr 1 0), (7, .ptr 2 0), (8, .int .i64 ((1 : Int) + (pickM c.n (6 : Int)))), (9, .int .i64 v9), (10, .int .i64 v10), (11, .int .i64 v11), (46, .bool (decide (((0 : Int) < v10) ∧ (((pickM c.ho (64 : Int)).fdiv (2 ^ (min v11.toNat 64))).tmod (2 : Int) = (0 : Int)))))], [.box 25 [.int .i64 c.fl, .int .i64 c.n, .lst true c.x.length (encL e29 c.x), .lst true c.tr.length (encL eInt c.tr), .int .i64 c.ho], .box 27 [.nilS, .int .i64 (0 : Int), .int .i64 (0 : Int), .nilS, .nilS], .box 27 [.lst false ((fleetM c.fl).dr).length (encL eInt ((fleetM c.fl).dr)), .int .i64 ((fleetM c.fl).la), .int .i64 ((fleetM c.fl).li), .lst false ((fleetM c.fl).sv).length (encL eInt ((fleetM c.fl).sv)), .lst false ((fleetM c.fl).tm).length (encL eInt ((fleetM c.fl).tm))]], 0⟩ ?_ ?_
 refine mI rfl rfl ?_
 refine cL rfl (o_gtr rfl rfl ?_)
 refine mB rfl rfl ?_
 by_cases c1 : (0 : Int) < v10
 have sd := sd.1 c1
 refine cLg rfl rfl (decide_eq_true c1) ?_
 refine cL rfl (o_fa tt25 rfl tt3 rfl ?_)
 refine cLg rfl rfl (decide_eq_true c1) ?_
 refine cL rfl (o_ldS (v := .int _ _) tt3 rfl rfl ⟨_, rfl⟩ ?_)
 refine cLg rfl rfl (decide_eq_true c1) ?_
 obtain ⟨s78, s79, sd⟩ := sd
 refine cL rfl (o_callP1 (k := 21) (fst := []) (caps := []) (ys := [.int _ _, .int _ _]) rfl rfl (spec_pick c.ho (64 : Int) s78 s79) (Wks.cons (ag_int _ _ _ _) (Wks.cons (ag_int _ _ _ _) (Wks.refl _))) ?_)
 refine cLg rfl rfl (decide_eq_true c1) ?_
 refine mI rfl rfl ?_
 refine cLg rfl rfl (decide_eq_true c1) ?_
 obtain ⟨s80, sd⟩ := sd
 refine cL rfl (o_shr rfl rfl s80 ?_)
 refine cLg rfl rfl (decide_eq_true c1) ?_
 refine cL rfl (o_rem rfl rfl (by decide) ?_)
 refine cLg rfl rfl (decide_eq_true c1) ?_
 refine cL rfl (o_eqI rfl rfl rfl ?_)
 refine cL rfl (o_pickT (v := .bool _) rfl (decide_eq_true c1) rfl ?_)
 refine eL ?_
 exact le_mk ⟨rfl, rfl, rfl, rfl, rfl, rfl, rfl, (congrArg AV.bool (dAndT c1 (rfl))).symm, trivial⟩ rfl
 iterate 7 refine cLs rfl rfl rfl (decide_eq_false c1) ?_
 refine cL rfl (o_pickF (v := .bool _) rfl (decide_eq_false c1) rfl ?_)
 refine eL ?_
 exact le_mk ⟨rfl, rfl, rfl, rfl, rfl, rfl, rfl, (congrArg AV.bool (dAndF c1)).symm, trivial⟩ rfl
 refine W.cn rfl (fun hc => ?_) (fun hc => ?_)
 have hv := hv.1 hc
 refine W.rL ?_
 iterate 2 refine mI rfl rfl ?_
 obtain ⟨s81, s82, hv⟩ := hv
 refine cL rfl (o_shl rfl rfl s81 s82 ?_)
 refine cL rfl (o_anN rfl rfl ?_)
 refine aI rfl rfl ?_
 refine eL ?_
 refine W.tr [(1, .ptr _ _), (2, .ptr _ _), (7, .ptr _ _), (8, .int _ _), (9, .int _ _), (10, .int _ _), (11, .int _ _)] [.box _ [.int _ _, .int _ _, .lst _ _ _, .lst _ _ _, .int _ _], .box _ [.nilS, .int _ _, .int _ _, .nilS, .nilS], .box _ [.lst _ _ _, .int _ _, .int _ _, .lst _ _ _, .lst _ _ _]] ⟨rfl, rfl, rfl, rfl, rfl, rfl, rfl, trivial⟩ rfl ?_
 refine W.rL1 ?_
 refine mI rfl rfl ?_
 obtain ⟨s83, hv⟩ := hv
 refine cL rfl (o_sub rfl rfl s83 ?_)
 refine aI rfl rfl ?_
 refine eL ?_
 exact bl_nrm (th_nrm (⟨(), (bitI .andNot .i64 v9 ((1 : Int) * 2 ^ (min v11.toNat 64))), (v10 - (1 : Int)), hv, St.to_mk (φ := [some 0, some 1, some 2]) rfl (rfl) ⟨Ren.ptr rfl, Ren.ptr rfl, Ren.ptr rfl, Ren.int _ _, Ren.int _ _, Ren.int _ _, Ren.int _ _, trivial⟩ ⟨.inr ⟨_, rfl, rfl, Rens.cons (Ren.int _ _) (Rens.cons (Ren.int _ _) (Rens.cons (Ren.lst _ _ _) (Rens.cons (Ren.lst _ _ _) (Rens.cons (Ren.int _ _) (Rens.nil)))))⟩, .inr ⟨_, rfl, rfl, Rens.cons (Ren.nilS) (Rens.cons (Ren.int _ _) (Rens.cons (Ren.int _ _) (Rens.cons (Ren.nilS) (Rens.cons (Ren.nilS) (Rens.nil)))))⟩, .inr ⟨_, rfl, rfl, Rens.cons (Ren.lst _ _ _) (Rens.cons (Ren.int _ _) (Rens.cons (Ren.int _ _) (Rens.cons (Ren.lst _ _ _) (Rens.cons (Ren.lst _ _ _) (Rens.nil)))))⟩, trivial⟩⟩))
 have hv := hv.2 hc
 refine W.skip ?_
 exact bl_nrm (th_nrm (⟨(), v9, v10, hv, St.to_mk (φ := [some 0, some 1, some 2]) rfl (rfl) ⟨Ren.ptr rfl, Ren.ptr rfl, Ren.ptr rfl, Ren.int _ _, Ren.int _ _, Ren.int _ _, Ren.int _ _, trivial⟩ ⟨.inr ⟨_, rfl, rfl, Rens.cons (Ren.int _ _) (Rens.cons (Ren.int _ _) (Rens.cons (Ren.lst _ _ _) (Rens.cons (Ren.lst _ _ _) (Rens.cons (Ren.int _ _) (Rens.nil)))))⟩, .inr ⟨_, rfl, rfl, Rens.cons (Ren.nilS) (Rens.cons (Ren.int _ _) (Rens.cons (Ren.int _ _) (Rens.cons (Ren.nilS) (Rens.cons (Ren.nilS) (Rens.nil)))))⟩, .inr ⟨_, rfl, rfl, Rens.cons (Ren.lst _ _ _) (Rens.cons (Ren.int _ _) (Rens.cons (Ren.int _ _) (Rens.cons (Ren.lst _ _ _) (Rens.cons (Ren.lst _ _ _) (Rens.nil)))))⟩, trivial⟩⟩))
 have hv := hv.2 hc
 refine W.exit ?_
 refine th_exit (th_exit (bl_hit (th_nrm ?_)))
 refine W.tr [(1, .ptr _ _), (2, .ptr _ _), (7, .ptr _ _), (8, .int _ _), (9, .int _ _)] [.box _ [.int _ _, .int _ _, .lst _ _ _, .lst _ _ _, .int _ _], .box _ [.nilS, .int _ _, .int _ _, .nilS, .nilS], .box _ [.lst _ _ _, .int _ _, .int _ _, .lst _ _ _, .lst _ _ _]] ⟨rfl, rfl, rfl, rfl, rfl, trivial⟩ rfl ?_
 refine W.rL ?_
 refine cL rfl (o_assign (v := .nilS) rfl ?_)
 refine eL ?_
 refine W.tr [(1, .ptr _ _), (2, .ptr _ _), (7, .ptr _ _), (8, .int _ _), (9, .int _ _), (12, .nilS)] [.box _ [.int _ _, .int _ _, .lst _ _ _, .lst _ _ _, .int _ _], .box _ [.nilS, .int _ _, .int _ _, .nilS, .nilS], .box _ [.lst _ _ _, .int _ _, .int _ _, .lst _ _ _, .lst _ _ _]] ⟨rfl, rfl, rfl, rfl, rfl, rfl, trivial⟩ rfl ?_
 refine W.seq' ?_
 refine W.rL ?_
 refine aI rfl rfl ?_
 refine eL ?_
 refine W.tr [(1, .ptr _ _), (2, .ptr _ _), (7, .ptr _ _), (8, .int _ _), (9, .int _ _), (12, .nilS), (13, .int _ _)] [.box _ [.int _ _, .int _ _, .lst _ _ _, .lst _ _ _, .int _ _], .box _ [.nilS, .int _ _, .int _ _, .nilS, .nilS], .box _ [.lst _ _ _, .int _ _, .int _ _, .lst _ _ _, .lst _ _ _]] ⟨rfl, rfl, rfl, rfl, rfl, rfl, rfl, trivial⟩ rfl ?_
 refine W.block ?_
 obtain ⟨I3, μ3, hp, hv⟩ := hv
 refine W.loop2 (fun v13 r3 => ⟨84, look [(1, .ptr 0 0), (2, .ptr 1 0), (7, .ptr 2 0), (8, .int .i64 ((1 : Int) + (pickM c.n (6 : Int)))), (9, .int .i64 v9), (12, .ref true 3 r3.length), (13, .int .i64 v13)], [.box 25 [.int .i64 c.fl, .int .i64 c.n, .lst true c.x.length (encL e29 c.x), .lst true c.tr.length (encL eInt c.tr), .int .i64 c.ho], .box 27 [.nilS, .int .i64 (0 : Int), .int .i64 (0 : Int), .nilS, .nilS], .box 27 [.lst false ((fleetM c.fl).dr).length (encL eInt ((fleetM c.fl).dr)), .int .i64 ((fleetM c.fl).la), .int .i64 ((fleetM c.fl).li), .lst false ((fleetM c.fl).sv).length (encL eInt ((fleetM c.fl).sv)), .lst false ((fleetM c.fl).tm).length (encL eInt ((fleetM c.fl).tm))], .row 3 1 (encL eInt r3)], 0⟩) I3 μ3 (0 : Int) [] (St.to_mk (φ := [some 0, some 1, some 2, none]) rfl (rfl) ⟨Ren.ptr rfl, Ren.ptr rfl, Ren.ptr rfl, Ren.int _ _, Ren.int _ _, Ren.nilR rfl rfl, Ren.int _ _, trivial⟩ ⟨.inr ⟨_, rfl, rfl, Rens.cons (Ren.int _ _) (Rens.cons (Ren.int _ _) (Rens.cons (Ren.lst _ _ _) (Rens.cons (Ren.lst _ _ _) (Rens.cons (Ren.int _ _) (Rens.nil)))))⟩, .inr ⟨_, rfl, rfl, Rens.cons (Ren.nilS) (Rens.cons (Ren.int _ _) (Rens.cons (Ren.int _ _) (Rens.cons (Ren.nilS) (Rens.cons (Ren.nilS) (Rens.nil)))))⟩, .inr ⟨_, rfl, rfl, Rens.cons (Ren.lst _ _ _) (Rens.cons (Ren.int _ _) (Rens.cons (Ren.int _ _) (Rens.cons (Ren.lst _ _ _) (Rens.cons (Ren.lst _ _ _) (Rens.nil)))))⟩, rfl, trivial⟩) hp ?_
 clear hp
 intro v13 r3 hI
 replace hv := hv v13 r3 hI
 clear hI
 refine W.seq' ?_
 refine W.rL ?_
 iterate 2 refine mI rfl rfl ?_
 refine cL rfl (o_lss rfl rfl ?_)
 refine eL ?_
 refine W.tr [(1, .ptr _ _), (2, .ptr _ _), (7, .ptr _ _), (8, .int _ _), (9, .int _ _), (12, .ref _ _ _), (13, .int _ _), (55, .bool _)] [.box _ [.int _ _, .int _ _, .lst _ _ _, .lst _ _ _, .int _ _], .box _ [.nilS, .int _ _, .int _ _, .nilS, .nilS], .box _ [.lst _ _ _, .int _ _, .int _ _, .lst _ _ _, .lst _ _ _], .row _ _ _] ⟨rfl, rfl, rfl, rfl, rfl, rfl, rfl, rfl, trivial⟩ rfl ?_
 refine W.cn rfl (fun hc => ?_) (fun hc => ?_)
 have hv := hv.1 hc
 refine W.skip ?_
 refine th_nrm ?_
 refine W.tr [(1, .ptr _ _), (2, .ptr _ _), (7, .ptr _ _), (8, .int _ _), (9, .int _ _), (12, .ref _ _ _), (13, .int _ _)] [.box _ [.int _ _, .int _ _, .lst _ _ _, .lst _ _ _, .int _ _], .box _ [.nilS, .int _ _, .int _ _, .nilS, .nilS], .box _ [.lst _ _ _, .int _ _, .int _ _, .lst _ _ _, .lst _ _ _], .row _ _ _] ⟨rfl, rfl, rfl, rfl, rfl, rfl, rfl, trivial⟩ rfl ?_
 refine W.seq' ?_
 refine W.block ?_
 refine W.rL ?_
 refine aI rfl rfl ?_
 refine eL ?_
 refine W.tr [(1, .ptr _ _), (2, .ptr _ _), (7, .ptr _ _), (8, .int _ _), (9, .int _ _), (12, .ref _ _ _), (13, .int _ _), (14, .int _ _)] [.box _ [.int _ _, .int _ _, .lst _ _ _, .lst _ _ _, .int _ _], .box _ [.nilS, .int _ _, .int _ _, .nilS, .nilS], .box _ [.lst _ _ _, .int _ _, .int _ _, .lst _ _ _, .lst _ _ _], .row _ _ _] ⟨rfl, rfl, rfl, rfl, rfl, rfl, rfl, rfl, trivial⟩ rfl ?_
 obtain ⟨J4, hj, hv⟩ := hv
 refine W.mid1 (fun v14 => ⟨84, look [(1, .ptr 0 0), (2, .ptr 1 0), (7, .ptr 2 0), (8, .int .i64 ((1 : Int) + (pickM c.n (6 : Int)))), (9, .int .i64 v9), (12, .ref true 3 r3.length), (13, .int .i64 v13), (14, .int .i64 v14)], [.box 25 [.int .i64 c.fl, .int .i64 c.n, .lst true c.x.length (encL e29 c.x), .lst true c.tr.length (encL eInt c.tr), .int .i64 c.ho], .box 27 [.nilS, .int .i64 (0 : Int), .int .i64 (0 : Int), .nilS, .nilS], .box 27 [.lst false ((fleetM c.fl).dr).length (encL eInt ((fleetM c.fl).dr)), .int .i64 ((fleetM c.fl).la), .int .i64 ((fleetM c.fl).li), .lst false ((fleetM c.fl).sv).length (encL eInt ((fleetM c.fl).sv)), .lst false ((fleetM c.fl).tm).length (encL eInt ((fleetM c.fl).tm))], .row 3 1 (encL eInt r3)], 0⟩) J4 ?_ ?_
 intro v14
 intro hv
 replace hv := hj v14 hv
 refine W.rL1 ?_
 refine cL rfl (o_move (v := .ref _ _ _) rfl ?_)
 refine mI rfl rfl ?_
 refine cL rfl (o_bs1 (v := .int _ _) (q := 4) tt23 tt3 rfl rfl rfl rfl rfl rfl rfl rfl ?_)
 obtain ⟨s165, hv⟩ := hv
 refine cL rfl (o_apR (p := 5) (q := (r3 ++ [v14]).length) tt23 tt3 rfl rfl (src_ref rfl rfl) rfl rfl (encL_length (encInt.wd false) _) (Nat.le_trans (Nat.le_of_eq (@List.length_append _ (r3) ([v14])).symm) s165) rfl (@List.length_append _ (r3) ([v14])).symm (encL_app eInt r3 [v14]) ?_)
 refine cL rfl (o_assign (v := .ref _ _ _) rfl ?_)
 refine eL ?_
 refine bl_nrm (th_nrm ?_)
 refine W.tr [(1, .ptr _ _), (2, .ptr _ _), (7, .ptr _ _), (8, .int _ _), (9, .int _ _), (12, .ref _ _ _), (13, .int _ _)] [.box _ [.int _ _, .int _ _, .lst _ _ _, .lst _ _ _, .int _ _], .box _ [.nilS, .int _ _, .int _ _, .nilS, .nilS], .box _ [.lst _ _ _, .int _ _, .int _ _, .lst _ _ _, .lst _ _ _], .dead, .row _ _ _, .row _ _ _] ⟨rfl, rfl, rfl, rfl, rfl, rfl, rfl, trivial⟩ rfl ?_
 refine W.rL1 ?_
 refine mI rfl rfl ?_
 obtain ⟨s166, hv⟩ := hv
 refine cL rfl (o_add rfl rfl s166 ?_)
 refine aI rfl rfl ?_
 refine eL ?_
 exact th_nrm (⟨(), (v13 + (1 : Int)), (r3 ++ [v14]), hv, St.to_mk (φ := [some 0, some 1, some 2, some 5]) rfl (rfl) ⟨Ren.ptr rfl, Ren.ptr rfl, Ren.ptr rfl, Ren.int _ _, Ren.int _ _, Ren.ref rfl (fun h => rfl), Ren.int _ _, trivial⟩ ⟨.inr ⟨_, rfl, rfl, Rens.cons (Ren.int _ _) (Rens.cons (Ren.int _ _) (Rens.cons (Ren.lst _ _ _) (Rens.cons (Ren.lst _ _ _) (Rens.cons (Ren.int _ _) (Rens.nil)))))⟩, .inr ⟨_, rfl, rfl, Rens.cons (Ren.nilS) (Rens.cons (Ren.int _ _) (Rens.cons (Ren.int _ _) (Rens.cons (Ren.nilS) (Rens.cons (Ren.nilS) (Rens.nil)))))⟩, .inr ⟨_, rfl, rfl, Rens.cons (Ren.lst _ _ _) (Rens.cons (Ren.int _ _) (Rens.cons (Ren.int _ _) (Rens.cons (Ren.lst _ _ _) (Rens.cons (Ren.lst _ _ _) (Rens.nil)))))⟩, .inr ⟨_, rfl, rfl, rfl, rfl, Rens.enc encInt false (r3 ++ [v14])⟩, trivial⟩⟩)
 clear hj
 refine W.rL ?_
 refine mI rfl rfl ?_
 refine cL rfl (o_fa tt25 rfl tt23 rfl ?_)
 refine cL rfl (o_ldS (v := .lst _ _ _) tt23 rfl rfl ⟨_, rfl⟩ ?_)
 refine cL rfl (o_len (v := .lst _ _ _) tt23 rfl rfl ?_)
 refine cL rfl (o_lss rfl rfl ?_)
 refine eL ?_
 refine W.tr [(1, .ptr _ _), (2, .ptr _ _), (7, .ptr _ _), (8, .int _ _), (9, .int _ _), (12, .ref _ _ _), (13, .int _ _), (14, .int _ _), (62, .bool _)] [.box _ [.int _ _, .int _ _, .lst _ _ _, .lst _ _ _, .int _ _], .box _ [.nilS, .int _ _, .int _ _, .nilS, .nilS], .box _ [.lst _ _ _, .int _ _, .int _ _, .lst _ _ _, .lst _ _ _], .row _ _ _] ⟨rfl, rfl, rfl, rfl, rfl, rfl, rfl, rfl, rfl, trivial⟩ rfl ?_
 refine W.cn rfl (fun hc => ?_) (fun hc => ?_)
 have hv := hv.1 hc
 refine W.rL1 ?_
 refine cL rfl (o_fa tt25 rfl tt23 rfl ?_)
 refine cL rfl (o_ldS (v := .lst _ _ _) tt23 rfl rfl ⟨_, rfl⟩ ?_)
 refine mI rfl rfl ?_
 obtain ⟨s167, hv⟩ := hv
 refine cL rfl (o_iaL tt23 tt3 rfl rfl (encInt.wd true) rfl s167 ?_)
 intro rest167
 refine cL rfl (o_ldS (v := .int _ _) tt3 rfl rfl ⟨_, rfl⟩ ?_)
 obtain ⟨s168, s169, hv⟩ := hv
 refine cL rfl (o_callP1 (k := 21) (fst := []) (caps := []) (ys := [.int _ _, .int _ _]) rfl rfl (spec_pick (lat c.tr v13) (60 : Int) s168 s169) (Wks.cons (ag_int _ _ _ _) (Wks.cons (ag_int _ _ _ _) (Wks.refl _))) ?_)
 refine aI rfl rfl ?_
 refine eL ?_
 exact th_nrm (⟨(), (pickM (lat c.tr v13) (60 : Int)), hv, St.to_mk (φ := [some 0, some 1, some 2, some 3]) rfl (rfl) ⟨Ren.ptr rfl, Ren.ptr rfl, Ren.ptr rfl, Ren.int _ _, Ren.int _ _, Ren.ref rfl (fun h => rfl), Ren.int _ _, Ren.int _ _, trivial⟩ ⟨.inr ⟨_, rfl, rfl, Rens.cons (Ren.int _ _) (Rens.cons (Ren.int _ _) (Rens.cons (Ren.lst _ _ _) (Rens.cons (Ren.lst _ _ _) (Rens.cons (Ren.int _ _) (Rens.nil)))))⟩, .inr ⟨_, rfl, rfl, Rens.cons (Ren.nilS) (Rens.cons (Ren.int _ _) (Rens.cons (Ren.int _ _) (Rens.cons (Ren.nilS) (Rens.cons (Ren.nilS) (Rens.nil)))))⟩, .inr ⟨_, rfl, rfl, Rens.cons (Ren.lst _ _ _) (Rens.cons (Ren.int _ _) (Rens.cons (Ren.int _ _) (Rens.cons (Ren.lst _ _ _) (Rens.cons (Ren.lst _ _ _) (Rens.nil)))))⟩, .inr ⟨_, rfl, rfl, rfl, rfl, Rens.enc encInt false r3⟩, trivial⟩⟩)
 have hv := hv.2 hc
 refine W.skip ?_
 exact th_nrm (⟨(), (0 : Int), hv, St.to_mk (φ := [some 0, some 1, some 2, some 3]) rfl (rfl) ⟨Ren.ptr rfl, Ren.ptr rfl, Ren.ptr rfl, Ren.int _ _, Ren.int _ _, Ren.ref rfl (fun h => rfl), Ren.int _ _, Ren.int _ _, trivial⟩ ⟨.inr ⟨_, rfl, rfl, Rens.cons (Ren.int _ _) (Rens.cons (Ren.int _ _) (Rens.cons (Ren.lst _ _ _) (Rens.cons (Ren.lst _ _ _) (Rens.cons (Ren.int _ _) (Rens.nil)))))⟩, .inr ⟨_, rfl, rfl, Rens.cons (Ren.nilS) (Rens.cons (Ren.int _ _) (Rens.cons (Ren.int _ _) (Rens.cons (Ren.nilS) (Rens.cons (Ren.nilS) (Rens.nil)))))⟩, .inr ⟨_, rfl, rfl, Rens.cons (Ren.lst _ _ _) (Rens.cons (Ren.int _ _) (Rens.cons (Ren.int _ _) (Rens.cons (Ren.lst _ _ _) (Rens.cons (Ren.lst _ _ _) (Rens.nil)))))⟩, .inr ⟨_, rfl, rfl, rfl, rfl, Rens.enc encInt false r3⟩, trivial⟩⟩)
 have hv := hv.2 hc
 refine W.exit ?_
 refine th_exit (th_exit (bl_hit (th_nrm ?_)))
 refine W.tr [(1, .ptr _ _), (2, .ptr _ _), (7, .ptr _ _), (8, .int _ _), (9, .int _ _), (12, .ref _ _ _)] [.box _ [.int _ _, .int _ _, .lst _ _ _, .lst _ _ _, .int _ _], .box _ [.nilS, .int _ _, .int _ _, .nilS, .nilS], .box _ [.lst _ _ _, .int _ _, .int _ _, .lst _ _ _, .lst _ _ _], .row _ _ _] ⟨rfl, rfl, rfl, rfl, rfl, rfl, trivial⟩ rfl ?_
 refine W.rP [0, 1, 2, 3, 4, 5, 6, 7, 9, 10, 8, 11, 12, 13, 14, 15] (by decide +kernel) rfl ?_
 refine cL rfl (o_ldA (cs := [.lst _ _ _, .int _ _, .int _ _, .lst _ _ _, .lst _ _ _]) tt27 rfl rfl ⟨_, rfl⟩ rfl ?_)
 refine mI rfl rfl ?_
 refine cL rfl (o_ldA (cs := [.lst _ _ _, .int _ _, .int _ _, .lst _ _ _, .lst _ _ _]) tt27 rfl rfl ⟨_, rfl⟩ rfl ?_)
 refine mI rfl rfl ?_
 refine cL rfl (o_fa tt25 rfl tt22 rfl ?_)
 refine cL rfl (o_ldS (v := .lst _ _ _) tt22 rfl rfl ⟨_, rfl⟩ ?_)
 refine mI rfl rfl ?_
 iterate 2 refine cL rfl (o_move (v := .ref _ _ _) rfl ?_)
 refine mI rfl rfl ?_
 obtain ⟨s170, hv⟩ := hv
 refine cL rfl (o_callP1 (k := 33) (fst := []) (caps := []) (ys := [.agg _, .int _ _, .lst _ _ _, .int _ _, .ref _ _ _]) rfl rfl (spec_bmade (fleetM c.fl) ((1 : Int) + (pickM c.n (6 : Int))) c.x v9 r3 s170) (Wks.cons (ag_agg 5 _ (Wks.cons (ag_lst _ _ _ _ _) (Wks.cons (ag_int _ _ _ _) (Wks.cons (ag_int _ _ _ _) (Wks.cons (ag_lst _ _ _ _ _) (Wks.cons (ag_lst _ _ _ _ _) (Wks.refl _))))))) (Wks.cons (ag_int _ _ _ _) (Wks.cons (ag_lst _ _ _ _ _) (Wks.cons (ag_int _ _ _ _) (Wks.cons (ag_ref (fl := false) (xs := r3) encInt 4 _ rfl rfl) (Wks.refl _)))))) ?_)
 refine cLn (o_stB (v := .agg _) (vs := [.lst _ _ _, .int _ _, .int _ _, .lst _ _ _, .lst _ _ _]) (cs2 := [.lst _ _ _, .int _ _, .int _ _, .lst _ _ _, .lst _ _ _]) tt27 rfl rfl rfl rfl rfl (Nat.le_of_ble_eq_true rfl) rfl ?_)
 refine aI rfl rfl ?_
 refine aL rfl rfl ?_
 refine cL rfl (o_assign (v := .ref _ _ _) rfl ?_)
 refine aI rfl rfl ?_
 refine eL ?_
 refine W.tr [(2, .ptr _ _), (3, .int _ _), (4, .lst _ _ _), (5, .ref _ _ _), (6, .int _ _)] [.box _ [.int _ _, .int _ _, .lst _ _ _, .lst _ _ _, .int _ _], .box _ [.lst _ _ _, .int _ _, .int _ _, .lst _ _ _, .lst _ _ _], .box _ [.lst _ _ _, .int _ _, .int _ _, .lst _ _ _, .lst _ _ _], .row _ _ _] ⟨rfl, rfl, rfl, rfl, rfl, trivial⟩ rfl ?_
 refine W.ret ?_
 refine rt ?_
 refine rt_c (x := .ptr _ _) rfl (ldA (cs := [.lst _ _ _, .int _ _, .int _ _, .lst _ _ _, .lst _ _ _]) tt27 rfl ⟨_, rfl⟩ rfl ?_)
 refine rt_t (v := .int _ _) rfl ?_
 refine rt_t (v := .lst _ _ _) rfl ?_
 refine rt_t (v := .ref _ _ _) rfl ?_
 refine rt_t (v := .int _ _) rfl ?_
 refine rt_n ?_
 exact ⟨_, rs_tup 5 _ (Wks.cons (rs_agg 4 _ (Wks.cons (rs_lst _ _ _ _) (Wks.cons (rs_int _ _ _ _) (Wks.cons (rs_int _ _ _ _) (Wks.cons (rs_lst _ _ _ _) (Wks.cons (rs_lst _ _ _ _) (Wks.refl _))))))) (Wks.cons (rs_int _ _ _ _) (Wks.cons (rs_lst _ _ _ _) (Wks.cons (rs_ref encInt 3 _ rfl rfl) (Wks.cons (rs_int _ _ _ _) (Wks.refl _)))))), (fleetM c.fl), ((1 : Int) + (pickM c.n (6 : Int))), (bmadeM (fleetM c.fl) ((1 : Int) + (pickM c.n (6 : Int))) c.x v9 r3), r3, v9, rfl, hv⟩
theorem vcp_mk (c : Cas) (h0 : CasOk c) : vc_mk c (fun q0 q1 q2 q3 q4 => q0 = (mkM c).1 ∧ q1 = (mkM c).2.1 ∧ q2 = (mkM c).2.2.1 ∧ q3 = (mkM c).2.2.2.1 ∧ q4 = (mkM c).2.2.2.2) := by
  unfold vc_mk
  obtain ⟨c1, c2, c3, c4', c6⟩ := h0
  have hF := fleet_ok c.fl
  have hd := hF.five
  have h64 := pow_le64 (show (fleetM c.fl).dr.length ≤ 6 by omega)
  have h6 := pickM_nonneg (c := c.n) (n := 6) (by omega)
  have hp := pickM_nonneg (c := c.ho) (n := 64) (by omega)
  have e2 : (2 ^ (fleetM c.fl).dr.length : Int) = ((2 ^ (fleetM c.fl).dr.length : Nat) : Int) := by simp
  rw [pow_eq (show (fleetM c.fl).dr.length ≤ 6 by omega)]
  obtain ⟨N, hN⟩ : ∃ N : Nat, 2 ^ (fleetM c.fl).dr.length = N := ⟨_, rfl⟩
  rw [hN] at e2 h64 ⊢
  have hpick : ∀ i : Nat, i < 5 → (min ((i : Nat) : Int).toNat 64) = i := fun i _ => by omega
  refine ⟨c1, c2, by omega, by unfold inI; omega, by omega, by unfold inI; omega, by unfold inI; omega, ?_⟩
  refine ⟨fun v w a => ∃ i : Nat, a = i ∧ i ≤ (fleetM c.fl).dr.length ∧ (0 ≤ w ∧ w ≤ 2) ∧ (v, w) = (List.range i).foldl (honStep c.ho) (2 ^ (fleetM c.fl).dr.length - 1, (fleetM c.fl).li), fun _ _ a => (fleetM c.fl).dr.length - a.toNat, ⟨0, rfl, by omega, hF.ok.li, by rw [e2]; rfl⟩, ?_⟩
  rintro v w _ ⟨i, rfl, hi, hw, hvw⟩
  refine ⟨fun h1 => ?_, fun h1 => ?_⟩
  · have hlt : i < (fleetM c.fl).dr.length := by omega
    have hs : (List.range (i + 1)).foldl (honStep c.ho) (2 ^ (fleetM c.fl).dr.length - 1, (fleetM c.fl).li) = honStep c.ho (v, w) i := by rw [List.range_succ, List.foldl_append, ← hvw]; rfl
    have hbit := bitOf (x := pickM c.ho 64) (by omega) (i := i) (by omega)
    rw [hbit, hpick i (by omega), Int.one_mul]
    have h2i : (0 : Int) ≤ 2 ^ i ∧ (2 : Int) ^ i ≤ 32 := two_pow_lt (by omega)
    refine ⟨fun a b => (0 ≤ b ∧ b ≤ 2) ∧ (a, b) = (List.range (i + 1)).foldl (honStep c.ho) (2 ^ (fleetM c.fl).dr.length - 1, (fleetM c.fl).li), ?_, ⟨fun _ => ⟨c3, by omega, by omega, trivial⟩, fun _ => trivial⟩, fun h2 => ⟨by omega, by unfold inI; omega, by unfold inI; omega, by omega, ?_⟩, fun h2 => ⟨by omega, ?_⟩⟩
    · rintro a b ⟨hb, hab⟩
      exact ⟨by unfold inI; omega, ⟨i + 1, by omega, by omega, hb, hab⟩, by dsimp only; omega⟩
    · rw [hs]; unfold honStep; rw [if_pos h2]
    · rw [hs]; unfold honStep; rw [if_neg h2]
  · have hi' : i = (fleetM c.fl).dr.length := by omega
    subst hi'
    have hv : v = honM (fleetM c.fl) c.ho := by unfold honM; rw [← hvw]
    refine ⟨fun v r => ∃ i : Nat, v = i ∧ (i : Int) ≤ 1 + pickM c.n 6 ∧ r = (List.range i).map fun i => if i < c.tr.length then pickM (c.tr.getD i 0) 60 else 0, fun v _ => 7 - v.toNat, ⟨0, rfl, by omega, rfl⟩, ?_⟩
    rintro _ _ ⟨i, rfl, hi, rfl⟩
    have hlen : ((List.range i).map fun i => if i < c.tr.length then pickM (c.tr.getD i 0) 60 else 0).length = i := by simp
    refine ⟨fun h2 => ⟨fun x => x = if i < c.tr.length then pickM (c.tr.getD i 0) 60 else 0, ?_, fun h3 => ⟨by omega, c6 _ (lat_mem ⟨by omega, by omega⟩), by omega, ?_⟩, fun h3 => ?_⟩, fun h2 => ?_⟩
    · rintro _ rfl
      exact ⟨by rw [List.length_append, hlen]; simp; omega, by unfold inI; omega, ⟨i + 1, by omega, by omega, map_range_succ.symm⟩, by dsimp only; omega⟩
    · show pickM (lat c.tr (i : Int)) 60 = _
      rw [if_pos (by omega), lat_nat]; rfl
    · show (0 : Int) = _
      rw [if_neg (by omega)]
    · have hi' : i = (1 + pickM c.n 6).toNat := by omega
      have ht : ((List.range i).map fun i => if i < c.tr.length then pickM (c.tr.getD i 0) 60 else 0) = truthM (1 + pickM c.n 6) c.tr := by subst hi'; rfl
      rw [ht] at hlen ⊢
      refine ⟨⟨⟨by have := hF.ok.len; omega, by omega⟩, by omega, c4', by omega, ?_⟩, ?_⟩
      · intro x hx
        unfold truthM at hx
        simp only [List.mem_map, List.mem_range] at hx
        obtain ⟨k, _, rfl⟩ := hx
        split
        · have := pickM_nonneg (c := c.tr.getD k 0) (n := 60) (by omega)
          omega
        · omega
      · show _ ∧ _ ∧ _ ∧ _ ∧ _
        rw [hv]
        exact ⟨rfl, rfl, rfl, rfl, rfl⟩
theorem spec_mk (c : Cas) (h0 : CasOk c) : FnP Try.prog 11 [.agg ((e25 true) c)] (fun xR => xR = .tup [.agg ((e27 false) ((mkM c).1)), .int .i64 ((mkM c).2.1), .lst false ((mkM c).2.2.1).length (encL e66 ((mkM c).2.2.1)), .lst false ((mkM c).2.2.2.1).length (encL eInt ((mkM c).2.2.2.1)), .int .i64 ((mkM c).2.2.2.2)]) :=
  (walk_mk (vcp_mk c h0)).mono (by rintro _ ⟨_, _, _, _, _, rfl, rfl, rfl, rfl, rfl, rfl⟩; rfl)
def vc_ranges (f : Flt) (n : Int) (l : (List Con)) (Post : (List A2) → Int → Prop) : Prop :=
  ∃ (I1 : Int → List A2 → Prop) (μ1 : Int → List A2 → Nat), I1 (0 : Int) [] ∧ ∀ (v9 : Int) (r1 : List A2), I1 v9 r1 → ((v9 < n) → ∃ (I2 : Int → List A2 → Prop) (μ2 : Int → List A2 → Nat), I2 (0 : Int) r1 ∧ ∀ (v10 : Int) (r1_1 : List A2), I2 v10 r1_1 → ((v10 < n) → (f.dr.length ≤ 1073741824) ∧ (f.sv.length ≤ 1073741824) ∧ (f.tm.length ≤ 1073741824) ∧ (l.length ≤ 1073741824) ∧ ((¬ (brangeM f n l v9 v10).2.2 = (0 : Int)) → Post [] ((brangeM f n l v9 v10).2.2)) ∧ (¬ (¬ (brangeM f n l v9 v10).2.2 = (0 : Int)) → ((r1_1 ++ [(A2.mk ((brangeM f n l v9 v10).1) ((brangeM f n l v9 v10).2.1))]).length ≤ 1073741824) ∧ (inI (v10 + (1 : Int))) ∧ (I2 (v10 + (1 : Int)) (r1_1 ++ [(A2.mk ((brangeM f n l v9 v10).1) ((brangeM f n l v9 v10).2.1))]) ∧ μ2 (v10 + (1 : Int)) (r1_1 ++ [(A2.mk ((brangeM f n l v9 v10).1) ((brangeM f n l v9 v10).2.1))]) < μ2 v10 r1_1))) ∧ (¬ (v10 < n) → (inI (v9 + (1 : Int))) ∧ (I1 (v9 + (1 : Int)) r1_1 ∧ μ1 (v9 + (1 : Int)) r1_1 < μ1 v9 r1))) ∧ (¬ (v9 < n) → Post r1 (0 : Int))
set_option maxRecDepth 100000 in
set_option maxHeartbeats 4000000 in
theorem walk_ranges {f : Flt} {n : Int} {l : (List Con)} {Post : (List A2) → Int → Prop} (hv : vc_ranges f n l Post) : FnP Try.prog 28 [.agg ((e27 true) f), .int .i64 n, .lst true l.length (encL e66 l)] (fun x => ∃ q0 q1, x = .tup [.lst false q0.length (encL e61 q0), .int .i64 q1] ∧ Post q0 q1) := by
 refine FnP.of_walk (T := tt) (nt := 44) ttOk ttMix ⟨⟨Try.f28, Try.func28, rfl, rfl, rfl, rfl⟩⟩ (by simp) ?_
 unfold vc_ranges at hv
 change W _ _ _ ⟨44, look [(0, .agg [.lst true f.dr.length (encL eInt f.dr), .int .i64 f.la, .int .i64 f.li, .lst true f.sv.length (encL eInt f.sv), .lst true f.tm.length (encL eInt f.tm)]), (1, .int .i64 n), (2, .lst true l.length (encL e66 l))], [], 0⟩ _
 refine W.tr [(0, .agg _), (1, .int _ _), (2, .lst _ _ _)] [] ⟨rfl, rfl, rfl, trivial⟩ rfl ?_
 refine W.rL ?_
 refine cL rfl (o_box (v := .agg _) (p := 0) rfl rfl rfl ?_)
 refine cL rfl (o_assign (v := .nilS) rfl ?_)
 refine aI rfl rfl ?_
 refine eL ?_
 refine W.tr [(1, .int _ _), (2, .lst _ _ _), (3, .ptr _ _)] [.box _ [.lst _ _ _, .int _ _, .int _ _, .lst _ _ _, .lst _ _ _]] ⟨rfl, rfl, rfl, trivial⟩ rfl ?_
 refine W.rL ?_
 refine cL rfl (o_assign (v := .nilS) rfl ?_)
 refine eL ?_
 refine W.tr [(1, .int _ _), (2, .lst _ _ _), (3, .ptr _ _), (8, .nilS)] [.box _ [.lst _ _ _, .int _ _, .int _ _, .lst _ _ _, .lst _ _ _]] ⟨rfl, rfl, rfl, rfl, trivial⟩ rfl ?_
 refine W.seq' ?_
 refine W.rL ?_
 refine aI rfl rfl ?_
 refine eL ?_
 refine W.tr [(1, .int _ _), (2, .lst _ _ _), (3, .ptr _ _), (8, .nilS), (9, .int _ _)] [.box _ [.lst _ _ _, .int _ _, .int _ _, .lst _ _ _, .lst _ _ _]] ⟨rfl, rfl, rfl, rfl, rfl, trivial⟩ rfl ?_
 refine W.block ?_
 obtain ⟨I1, μ1, hp, hv⟩ := hv
 refine W.loop2 (fun v9 r1 => ⟨44, look [(1, .int .i64 n), (2, .lst true l.length (encL e66 l)), (3, .ptr 0 0), (8, .ref true 1 r1.length), (9, .int .i64 v9)], [.box 27 [.lst true f.dr.length (encL eInt f.dr), .int .i64 f.la, .int .i64 f.li, .lst true f.sv.length (encL eInt f.sv), .lst true f.tm.length (encL eInt f.tm)], .row 61 2 (encL e61 r1)], 0⟩) I1 μ1 (0 : Int) [] (St.to_mk (φ := [some 0, none]) rfl (rfl) ⟨Ren.int _ _, Ren.lst _ _ _, Ren.ptr rfl, Ren.nilR rfl rfl, Ren.int _ _, trivial⟩ ⟨.inr ⟨_, rfl, rfl, Rens.cons (Ren.lst _ _ _) (Rens.cons (Ren.int _ _) (Rens.cons (Ren.int _ _) (Rens.cons (Ren.lst _ _ _) (Rens.cons (Ren.lst _ _ _) (Rens.nil)))))⟩, rfl, trivial⟩) hp ?_
 clear hp
 intro v9 r1 hI
 replace hv := hv v9 r1 hI
 clear hI
 refine W.seq' ?_
 refine W.rL ?_
 iterate 2 refine mI rfl rfl ?_
 refine cL rfl (o_lss rfl rfl ?_)
 refine eL ?_
 refine W.tr [(1, .int _ _), (2, .lst _ _ _), (3, .ptr _ _), (8, .ref _ _ _), (9, .int _ _), (16, .bool _)] [.box _ [.lst _ _ _, .int _ _, .int _ _, .lst _ _ _, .lst _ _ _], .row _ _ _] ⟨rfl, rfl, rfl, rfl, rfl, rfl, trivial⟩ rfl ?_
 refine W.cn rfl (fun hc => ?_) (fun hc => ?_)
 have hv := hv.1 hc
 refine W.skip ?_
 refine th_nrm ?_
 refine W.tr [(1, .int _ _), (2, .lst _ _ _), (3, .ptr _ _), (8, .ref _ _ _), (9, .int _ _)] [.box _ [.lst _ _ _, .int _ _, .int _ _, .lst _ _ _, .lst _ _ _], .row _ _ _] ⟨rfl, rfl, rfl, rfl, rfl, trivial⟩ rfl ?_
 refine W.seq' ?_
 refine W.block ?_
 refine W.rL ?_
 refine aI rfl rfl ?_
 refine eL ?_
 refine W.tr [(1, .int _ _), (2, .lst _ _ _), (3, .ptr _ _), (8, .ref _ _ _), (9, .int _ _), (10, .int _ _)] [.box _ [.lst _ _ _, .int _ _, .int _ _, .lst _ _ _, .lst _ _ _], .row _ _ _] ⟨rfl, rfl, rfl, rfl, rfl, rfl, trivial⟩ rfl ?_
 refine W.block ?_
 obtain ⟨I2, μ2, hp, hv⟩ := hv
 refine W.loop2 (fun v10 r1_1 => ⟨44, look [(1, .int .i64 n), (2, .lst true l.length (encL e66 l)), (3, .ptr 0 0), (8, .ref true 1 r1_1.length), (9, .int .i64 v9), (10, .int .i64 v10)], [.box 27 [.lst true f.dr.length (encL eInt f.dr), .int .i64 f.la, .int .i64 f.li, .lst true f.sv.length (encL eInt f.sv), .lst true f.tm.length (encL eInt f.tm)], .row 61 2 (encL e61 r1_1)], 0⟩) I2 μ2 (0 : Int) r1 (St.to_mk (φ := [some 0, some 1]) rfl (rfl) ⟨Ren.int _ _, Ren.lst _ _ _, Ren.ptr rfl, Ren.ref rfl (fun h => rfl), Ren.int _ _, Ren.int _ _, trivial⟩ ⟨.inr ⟨_, rfl, rfl, Rens.cons (Ren.lst _ _ _) (Rens.cons (Ren.int _ _) (Rens.cons (Ren.int _ _) (Rens.cons (Ren.lst _ _ _) (Rens.cons (Ren.lst _ _ _) (Rens.nil)))))⟩, .inr ⟨_, rfl, rfl, rfl, rfl, Rens.enc enc61 false r1⟩, trivial⟩) hp ?_
 clear hp
 intro v10 r1_1 hI
 replace hv := hv v10 r1_1 hI
 clear hI
 refine W.seq' ?_
 refine W.rL ?_
 iterate 2 refine mI rfl rfl ?_
 refine cL rfl (o_lss rfl rfl ?_)
 refine eL ?_
 refine W.tr [(1, .int _ _), (2, .lst _ _ _), (3, .ptr _ _), (8, .ref _ _ _), (9, .int _ _), (10, .int _ _), (21, .bool _)] [.box _ [.lst _ _ _, .int _ _, .int _ _, .lst _ _ _, .lst _ _ _], .row _ _ _] ⟨rfl, rfl, rfl, rfl, rfl, rfl, rfl, trivial⟩ rfl ?_
 refine W.cn rfl (fun hc => ?_) (fun hc => ?_)
 have hv := hv.1 hc
 refine W.skip ?_
 refine th_nrm ?_
 refine W.tr [(1, .int _ _), (2, .lst _ _ _), (3, .ptr _ _), (8, .ref _ _ _), (9, .int _ _), (10, .int _ _)] [.box _ [.lst _ _ _, .int _ _, .int _ _, .lst _ _ _, .lst _ _ _], .row _ _ _] ⟨rfl, rfl, rfl, rfl, rfl, rfl, trivial⟩ rfl ?_
 refine W.seq' ?_
 refine W.block ?_
 refine W.rL ?_
 refine cL rfl (o_ldA (cs := [.lst _ _ _, .int _ _, .int _ _, .lst _ _ _, .lst _ _ _]) tt27 rfl rfl ⟨_, rfl⟩ rfl ?_)
 refine mI rfl rfl ?_
 refine mL rfl rfl ?_
 iterate 2 refine mI rfl rfl ?_
 obtain ⟨s388, s389, s390, s391, hv⟩ := hv
 refine cL rfl (o_callP1 (k := 22) (fst := []) (caps := []) (ys := [.agg _, .int _ _, .lst _ _ _, .int _ _, .int _ _]) rfl rfl (spec_brange f n l v9 v10 s388 s389 s390 s391) (Wks.cons (ag_agg 5 _ (Wks.cons (ag_lst _ _ _ _ _) (Wks.cons (ag_int _ _ _ _) (Wks.cons (ag_int _ _ _ _) (Wks.cons (ag_lst _ _ _ _ _) (Wks.cons (ag_lst _ _ _ _ _) (Wks.refl _))))))) (Wks.cons (ag_int _ _ _ _) (Wks.cons (ag_lst _ _ _ _ _) (Wks.cons (ag_int _ _ _ _) (Wks.cons (ag_int _ _ _ _) (Wks.refl _)))))) ?_)
 refine cL rfl (o_move (v := .tup _) rfl ?_)
 iterate 3 refine cL rfl (o_ext (v := .int _ _) rfl rfl ?_)
 iterate 3 refine aI rfl rfl ?_
 refine eL ?_
 refine W.tr [(1, .int _ _), (2, .lst _ _ _), (3, .ptr _ _), (8, .ref _ _ _), (9, .int _ _), (10, .int _ _), (11, .int _ _), (12, .int _ _), (13, .int _ _)] [.box _ [.lst _ _ _, .int _ _, .int _ _, .lst _ _ _, .lst _ _ _], .row _ _ _] ⟨rfl, rfl, rfl, rfl, rfl, rfl, rfl, rfl, rfl, trivial⟩ rfl ?_
 refine W.seq' ?_
 refine W.rL ?_
 refine mI rfl rfl ?_
 refine cL rfl (o_neI rfl rfl rfl ?_)
 refine eL ?_
 refine W.tr [(1, .int _ _), (2, .lst _ _ _), (3, .ptr _ _), (8, .ref _ _ _), (9, .int _ _), (10, .int _ _), (11, .int _ _), (12, .int _ _), (13, .int _ _), (35, .bool _)] [.box _ [.lst _ _ _, .int _ _, .int _ _, .lst _ _ _, .lst _ _ _], .row _ _ _] ⟨rfl, rfl, rfl, rfl, rfl, rfl, rfl, rfl, rfl, rfl, trivial⟩ rfl ?_
 refine W.cn rfl (fun hc => ?_) (fun hc => ?_)
 have hv := hv.1 hc
 refine W.rL ?_
 refine mI rfl rfl ?_
 refine cL rfl (o_assign (v := .nilS) rfl ?_)
 refine aI rfl rfl ?_
 refine eL ?_
 refine W.tr [(6, .nilS), (7, .int _ _)] [.box _ [.lst _ _ _, .int _ _, .int _ _, .lst _ _ _, .lst _ _ _], .row _ _ _] ⟨rfl, rfl, trivial⟩ rfl ?_
 refine W.ret ?_
 refine th_ret (bl_ret (th_ret (th_ret (bl_ret (bl_ret (th_ret (th_ret (bl_ret (th_ret (rt ?_))))))))))
 refine rt_t (v := .nilS) rfl ?_
 refine rt_t (v := .int _ _) rfl ?_
 refine rt_n ?_
 exact ⟨_, rs_tup 5 _ (Wks.cons (rs_nil _ _ _ _ rfl) (Wks.cons (rs_int _ _ _ _) (Wks.refl _))), [], ((brangeM f n l v9 v10).2.2), rfl, hv⟩
 have hv := hv.2 hc
 refine W.skip ?_
 refine th_nrm ?_
 refine W.tr [(1, .int _ _), (2, .lst _ _ _), (3, .ptr _ _), (8, .ref _ _ _), (9, .int _ _), (10, .int _ _), (11, .int _ _), (12, .int _ _)] [.box _ [.lst _ _ _, .int _ _, .int _ _, .lst _ _ _, .lst _ _ _], .row _ _ _] ⟨rfl, rfl, rfl, rfl, rfl, rfl, rfl, rfl, trivial⟩ rfl ?_
 refine W.rL1 ?_
 refine cL rfl (o_move (v := .ref _ _ _) rfl ?_)
 iterate 2 refine mI rfl rfl ?_
 refine cL rfl (o_buildA (qs := [(0, .int _ _), (1, .int _ _)]) (cs := [.int _ _, .int _ _]) tt61 rfl tt3 rfl rfl ?_)
 refine cL rfl (o_bs1 (v := .agg _) (q := 2) tt57 tt61 rfl rfl rfl rfl rfl rfl rfl rfl ?_)
 obtain ⟨s392, hv⟩ := hv
 refine cL rfl (o_apR (p := 3) (q := (r1_1 ++ [(A2.mk ((brangeM f n l v9 v10).1) ((brangeM f n l v9 v10).2.1))]).length) tt57 tt61 rfl rfl (src_ref rfl rfl) rfl rfl (encL_length (enc61.wd false) _) (Nat.le_trans (Nat.le_of_eq (@List.length_append _ (r1_1) ([(A2.mk ((brangeM f n l v9 v10).1) ((brangeM f n l v9 v10).2.1))])).symm) s392) rfl (@List.length_append _ (r1_1) ([(A2.mk ((brangeM f n l v9 v10).1) ((brangeM f n l v9 v10).2.1))])).symm (encL_app e61 r1_1 [(A2.mk ((brangeM f n l v9 v10).1) ((brangeM f n l v9 v10).2.1))]) ?_)
 refine cL rfl (o_assign (v := .ref _ _ _) rfl ?_)
 refine eL ?_
 refine bl_nrm (th_nrm ?_)
 refine W.tr [(1, .int _ _), (2, .lst _ _ _), (3, .ptr _ _), (8, .ref _ _ _), (9, .int _ _), (10, .int _ _)] [.box _ [.lst _ _ _, .int _ _, .int _ _, .lst _ _ _, .lst _ _ _], .dead, .row _ _ _, .row _ _ _] ⟨rfl, rfl, rfl, rfl, rfl, rfl, trivial⟩ rfl ?_
 refine W.rL1 ?_
 refine mI rfl rfl ?_
 obtain ⟨s393, hv⟩ := hv
 refine cL rfl (o_add rfl rfl s393 ?_)
 refine aI rfl rfl ?_
 refine eL ?_
 exact th_nrm (⟨(), (v10 + (1 : Int)), (r1_1 ++ [(A2.mk ((brangeM f n l v9 v10).1) ((brangeM f n l v9 v10).2.1))]), hv, St.to_mk (φ := [some 0, some 3]) rfl (rfl) ⟨Ren.int _ _, Ren.lst _ _ _, Ren.ptr rfl, Ren.ref rfl (fun h => rfl), Ren.int _ _, Ren.int _ _, trivial⟩ ⟨.inr ⟨_, rfl, rfl, Rens.cons (Ren.lst _ _ _) (Rens.cons (Ren.int _ _) (Rens.cons (Ren.int _ _) (Rens.cons (Ren.lst _ _ _) (Rens.cons (Ren.lst _ _ _) (Rens.nil)))))⟩, .inr ⟨_, rfl, rfl, rfl, rfl, Rens.enc enc61 false (r1_1 ++ [(A2.mk ((brangeM f n l v9 v10).1) ((brangeM f n l v9 v10).2.1))])⟩, trivial⟩⟩)
 have hv := hv.2 hc
 refine W.exit ?_
 refine th_exit (th_exit (bl_hit (bl_nrm (th_nrm ?_))))
 refine W.tr [(1, .int _ _), (2, .lst _ _ _), (3, .ptr _ _), (8, .ref _ _ _), (9, .int _ _)] [.box _ [.lst _ _ _, .int _ _, .int _ _, .lst _ _ _, .lst _ _ _], .row _ _ _] ⟨rfl, rfl, rfl, rfl, rfl, trivial⟩ rfl ?_
 refine W.rL1 ?_
 refine mI rfl rfl ?_
 obtain ⟨s394, hv⟩ := hv
 refine cL rfl (o_add rfl rfl s394 ?_)
 refine aI rfl rfl ?_
 refine eL ?_
 exact th_nrm (⟨(), (v9 + (1 : Int)), r1_1, hv, St.to_mk (φ := [some 0, some 1]) rfl (rfl) ⟨Ren.int _ _, Ren.lst _ _ _, Ren.ptr rfl, Ren.ref rfl (fun h => rfl), Ren.int _ _, trivial⟩ ⟨.inr ⟨_, rfl, rfl, Rens.cons (Ren.lst _ _ _) (Rens.cons (Ren.int _ _) (Rens.cons (Ren.int _ _) (Rens.cons (Ren.lst _ _ _) (Rens.cons (Ren.lst _ _ _) (Rens.nil)))))⟩, .inr ⟨_, rfl, rfl, rfl, rfl, Rens.enc enc61 false r1_1⟩, trivial⟩⟩)
 have hv := hv.2 hc
 refine W.exit ?_
 refine th_exit (th_exit (bl_hit (th_nrm ?_)))
 refine W.tr [(8, .ref _ _ _)] [.box _ [.lst _ _ _, .int _ _, .int _ _, .lst _ _ _, .lst _ _ _], .row _ _ _] ⟨rfl, trivial⟩ rfl ?_
 refine W.rL ?_
 refine cL rfl (o_move (v := .ref _ _ _) rfl ?_)
 refine cL rfl (o_assign (v := .ref _ _ _) rfl ?_)
 refine aI rfl rfl ?_
 refine eL ?_
 refine W.tr [(6, .ref _ _ _), (7, .int _ _)] [.box _ [.lst _ _ _, .int _ _, .int _ _, .lst _ _ _, .lst _ _ _], .row _ _ _] ⟨rfl, rfl, trivial⟩ rfl ?_
 refine W.ret ?_
 refine rt ?_
 refine rt_t (v := .ref _ _ _) rfl ?_
 refine rt_t (v := .int _ _) rfl ?_
 refine rt_n ?_
 exact ⟨_, rs_tup 5 _ (Wks.cons (rs_ref enc61 3 _ rfl rfl) (Wks.cons (rs_int _ _ _ _) (Wks.refl _))), r1, (0 : Int), rfl, hv⟩
theorem vcp_ranges (f : Flt) (n : Int) (l : (List Con)) (h0 : RgsOk f n l) : vc_ranges f n l (fun q0 q1 => q0 = (rangesM f n l).1 ∧ q1 = (rangesM f n l).2) := by
  unfold vc_ranges
  obtain ⟨hf, hl, hn, hok⟩ := h0
  refine ⟨fun v r => ∃ i : Nat, v = i ∧ (i : Int) ≤ n ∧ r.length = i * n.toNat ∧ r = (List.range i).flatMap fun (i : Nat) => (List.range n.toNat).map fun (j : Nat) => (⟨(brangeM f n l i j).1, (brangeM f n l i j).2.1⟩ : A2), fun v _ => n.toNat - v.toNat, ⟨0, rfl, by omega, by simp, rfl⟩, ?_⟩
  rintro _ r ⟨i, rfl, hi, hlen, hr⟩
  have hmul : i * n.toNat ≤ 576 := Nat.le_trans (Nat.mul_le_mul (show i ≤ 24 by omega) (show n.toNat ≤ 24 by omega)) (by omega)
  refine ⟨fun h1 => ⟨fun v r2 => ∃ j : Nat, v = j ∧ (j : Int) ≤ n ∧ r2 = r ++ (List.range j).map fun (j : Nat) => (⟨(brangeM f n l i j).1, (brangeM f n l i j).2.1⟩ : A2), fun v _ => n.toNat - v.toNat, ⟨0, rfl, by omega, by simp⟩, ?_⟩, fun h1 => ?_⟩
  · rintro _ _ ⟨j, rfl, hj, rfl⟩
    refine ⟨fun h2 => ⟨hf.1, hf.2.1, hf.2.2, hl, fun h3 => absurd (hok i j h1 h2) h3, fun _ => ⟨?_, by unfold inI; omega, ⟨j + 1, by omega, by omega, ?_⟩, by dsimp only; omega⟩⟩, fun h2 => ⟨by unfold inI; omega, ⟨i + 1, by omega, by omega, ?_, ?_⟩, by dsimp only; omega⟩⟩
    · simp only [List.length_append, List.length_map, List.length_range, List.length_cons, List.length_nil, hlen]; omega
    · rw [map_range_succ, List.append_assoc]
    · have : j = n.toNat := by omega
      subst this
      simp only [List.length_append, List.length_map, List.length_range, hlen]
      rw [Nat.succ_mul]
    · have : j = n.toNat := by omega
      subst this
      rw [List.range_succ, List.flatMap_append, ← hr]; simp
  · have : i = n.toNat := by omega
    subst this
    show _ ∧ _
    rw [hr]
    exact ⟨rfl, rfl⟩
theorem spec_ranges (f : Flt) (n : Int) (l : (List Con)) (h0 : RgsOk f n l) : FnP Try.prog 28 [.agg ((e27 true) f), .int .i64 n, .lst true l.length (encL e66 l)] (fun xR => xR = .tup [.lst false ((rangesM f n l).1).length (encL e61 ((rangesM f n l).1)), .int .i64 ((rangesM f n l).2)]) :=
  (walk_ranges (vcp_ranges f n l h0)).mono (by rintro _ ⟨_, _, rfl, rfl, rfl⟩; rfl)
def vc_contains (a : A2) (b : A2) (Post : Bool → Prop) : Prop :=
  Post (decide ((a.y0 ≤ b.y0) ∧ (b.y1 ≤ a.y1)))
set_option maxRecDepth 100000 in
set_option maxHeartbeats 4000000 in
theorem walk_contains {a : A2} {b : A2} {Post : Bool → Prop} (hv : vc_contains a b Post) : FnP Try.prog 29 [.agg (e61 a), .agg (e61 b)] (fun x => ∃ q0, x = .bool q0 ∧ Post q0) := by
 refine FnP.of_walk (T := tt) (nt := 17) ttOk ttMix ⟨⟨Try.f29, Try.func29, rfl, rfl, rfl, rfl⟩⟩ (by simp) ?_
 unfold vc_contains at hv
 change W _ _ _ ⟨17, look [(0, .agg [.int .i64 a.y0, .int .i64 a.y1]), (1, .agg [.int .i64 b.y0, .int .i64 b.y1])], [], 0⟩ _
 refine W.tr [(0, .agg _), (1, .agg _)] [] ⟨rfl, rfl, trivial⟩ rfl ?_
 refine W.rL ?_
 refine cL rfl (o_box (v := .agg _) (p := 0) rfl rfl rfl ?_)
 refine cL rfl (o_box (v := .agg _) (p := 1) rfl rfl rfl ?_)
 refine aB rfl rfl ?_
 refine eL ?_
 refine W.tr [(2, .ptr _ _), (3, .ptr _ _)] [.box _ [.int _ _, .int _ _], .box _ [.int _ _, .int _ _]] ⟨rfl, rfl, trivial⟩ rfl ?_
 refine W.rLm ⟨17, look [(4, .bool (decide ((a.y0 ≤ b.y0) ∧ (b.y1 ≤ a.y1))))], [.box 61 [.int .i64 a.y0, .int .i64 a.y1], .box 61 [.int .i64 b.y0, .int .i64 b.y1]], 0⟩ ?_ ?_
 refine cL rfl (o_iaA tt61 tt3 rfl rfl ⟨by decide, by decide⟩ rfl ?_)
 refine cL rfl (o_ldS (v := .int _ _) tt3 rfl rfl ⟨_, rfl⟩ ?_)
 refine cL rfl (o_iaA tt61 tt3 rfl rfl ⟨by decide, by decide⟩ rfl ?_)
 refine cL rfl (o_ldS (v := .int _ _) tt3 rfl rfl ⟨_, rfl⟩ ?_)
 refine cL rfl (o_leq rfl rfl ?_)
 refine mB rfl rfl ?_
 by_cases c1 : a.y0 ≤ b.y0
 refine cLg rfl rfl (decide_eq_true c1) ?_
 refine cL rfl (o_iaA tt61 tt3 rfl rfl ⟨by decide, by decide⟩ rfl ?_)
 refine cLg rfl rfl (decide_eq_true c1) ?_
 refine cL rfl (o_ldS (v := .int _ _) tt3 rfl rfl ⟨_, rfl⟩ ?_)
 refine cLg rfl rfl (decide_eq_true c1) ?_
 refine cL rfl (o_iaA tt61 tt3 rfl rfl ⟨by decide, by decide⟩ rfl ?_)
 refine cLg rfl rfl (decide_eq_true c1) ?_
 refine cL rfl (o_ldS (v := .int _ _) tt3 rfl rfl ⟨_, rfl⟩ ?_)
 refine cLg rfl rfl (decide_eq_true c1) ?_
 refine cL rfl (o_geq rfl rfl ?_)
 refine cL rfl (o_pickT (v := .bool _) rfl (decide_eq_true c1) rfl ?_)
 refine aB rfl rfl ?_
 refine eL ?_
 exact le_mk ⟨(congrArg AV.bool (dAndT c1 (rfl))).symm, trivial⟩ rfl
 iterate 5 refine cLs rfl rfl rfl (decide_eq_false c1) ?_
 refine cL rfl (o_pickF (v := .bool _) rfl (decide_eq_false c1) rfl ?_)
 refine aB rfl rfl ?_
 refine eL ?_
 exact le_mk ⟨(congrArg AV.bool (dAndF c1)).symm, trivial⟩ rfl
 refine W.ret ?_
 refine rt ?_
 refine rt_t (v := .bool _) rfl ?_
 refine rt_n ?_
 exact ⟨_, rs_bool _ _ _, (decide ((a.y0 ≤ b.y0) ∧ (b.y1 ≤ a.y1))), rfl, hv⟩
theorem vcp_contains (a : A2) (b : A2)  : vc_contains a b (fun q0 => q0 = (decide (a.y0 ≤ b.y0 ∧ b.y1 ≤ a.y1))) := by
  exact rfl
theorem spec_contains (a : A2) (b : A2)  : FnP Try.prog 29 [.agg (e61 a), .agg (e61 b)] (fun xR => xR = .bool (decide (a.y0 ≤ b.y0 ∧ b.y1 ≤ a.y1))) :=
  (walk_contains (vcp_contains a b)).mono (by rintro _ ⟨_, rfl, rfl⟩; rfl)
end Go.Lat
