/- The law latecomerlaw10.BeliefMatchesReference returns true for every input, and each argument reads afterwards as it read before. Part 10 of 14. No condition. -/
import Derived.Test.YtoaaemmchnfilaaLatD
import Derived.Test.YtoaaemmchnfilaaLatE
set_option linter.unusedVariables false
set_option linter.unusedSimpArgs false
set_option linter.unnecessarySimpa false
set_option maxRecDepth 100000
set_option maxHeartbeats 4000000
namespace Go.Lat
open Go.RowKit Go.Proofs
attribute [local irreducible] zWy zWz pointM addBM cycleM holdsM validBM sameM madeM pickM zW validM possM firstM tableM longerM zYs ofM addM freeM
def vc_tpick (c : Int) (n : Int) (Post : Int -> Prop) : Prop :=
  ∃ J1 : Int -> Prop, (∀ (v0 : Int), J1 v0 -> (n ≠ 0) /\ Post (v0.tmod n)) /\ (((c < 0) -> (inI (c + 1)) /\ (inI (-(c + 1))) /\ J1 (-(c + 1))) /\ (¬ (c < 0) -> J1 c))
theorem walk_tpick {c : Int} {n : Int} {Post : Int -> Prop} (hv : vc_tpick c n Post) : FnP Try.prog 52 [.int .i64 c, .int .i64 n] (fun x => ∃ q0, x = .int .i64 q0 /\ Post q0) := by
 refine FnP.of_walk (T := tt) (nt := 13) ttOk ttMix ⟨⟨Try.f52, Try.func52, rfl, rfl, rfl, rfl⟩⟩ (by simp) ?_
 unfold vc_tpick at hv
 change W _ _ _ ⟨13, look [(0, .int .i64 c), (1, .int .i64 n)], [], 0⟩ _
 refine W.rL (aI rfl rfl (eL ?_))
 obtain ⟨J1, hj, hv⟩ := hv
 refine W.mid1 (fun v0 => ⟨13, look [(0, .int .i64 v0), (1, .int .i64 n)], [], 0⟩) J1 ?_ ?_
 intro v0
 intro hv
 replace hv := hj v0 hv
 refine W.rL ?_
 iterate 2 refine mI rfl rfl ?_
 obtain ⟨s3, hv⟩ := hv
 refine cL rfl (o_rem rfl rfl s3 (aI rfl rfl (eL (W.ret (rt (rt_t (v := .int _ _) rfl (rt_n (⟨_, zY _ _ _ _, (v0.tmod n), rfl, hv⟩))))))))
 clear hj
 refine W.rL (mI rfl rfl (cL rfl (zXw rfl rfl (eL (W.cn rfl (fun hc => ?_) (fun hc => ?_))))))
 have hv := hv.1 hc
 refine W.rL1 (mI rfl rfl ?_)
 obtain ⟨s4, hv⟩ := hv
 refine cL rfl (o_add rfl rfl s4 ?_)
 obtain ⟨s5, hv⟩ := hv
 refine cL rfl (o_neg rfl s5 (aI rfl rfl (eL (zZ (⟨(), (-(c + 1)), hv, St.to_mk (φ := []) rfl (rfl) ⟨Ren.int _ _, Ren.int _ _, trivial⟩ trivial⟩)))))
 have hv := hv.2 hc
 refine W.skip (zZ (⟨(), c, hv, St.to_mk (φ := []) rfl (rfl) ⟨Ren.int _ _, Ren.int _ _, trivial⟩ trivial⟩))
theorem vcp_tpick (c : Int) (n : Int) (h0 : inI c) (h1 : 1 <= n) : vc_tpick c n (fun q0 => q0 = (pickM c n)) := by
  unfold vc_tpick
  refine ⟨fun v => v = if c < 0 then -(c+1) else c, fun v hv => ⟨by omega, by subst hv; unfold pickM; rfl⟩, fun h => ?_, fun h => ?_⟩
  . unfold inI at *; exact ⟨by omega, by omega, by simp [h]⟩
  . simp [h]
theorem spec_tpick (c : Int) (n : Int) (h0 : inI c) (h1 : 1 <= n) : FnP Try.prog 52 [.int .i64 c, .int .i64 n] (fun xR => xR = .int .i64 (pickM c n)) :=
  (walk_tpick (vcp_tpick c n h0 h1)).mono (by rintro _ ⟨_, rfl, rfl⟩; rfl)
attribute [local irreducible] cvalidM zX zYw partM chM liM zYv witM pcM inM allM inSet
def vc_fleet (n : Int) (Post : Flt -> Prop) : Prop :=
  (inI (n.tdiv 30)) /\ (inI (n.tdiv 30)) /\ (1 <= (5 : Int)) /\ ∃ (I1 : Int -> Int -> Int -> List Int -> Prop) (μ1 : Int -> Int -> Int -> List Int -> Nat), I1 0 (pickM (n.tdiv 30) 5) 0 [] /\ ∀ (v4 : Int) (b3la : Int) (b3li : Int) (r4 : List Int), I1 v4 b3la b3li r4 -> (inI n) /\ (1 <= (5 : Int)) /\ ((v4 <= (pickM n 5)) -> (inI (n.tdiv 7)) /\ (inI ((n.tdiv 7) + v4)) /\ (inI ((n.tdiv 7) + v4)) /\ (1 <= (40 : Int)) /\ ((r4 ++ [pickM ((n.tdiv 7) + v4) 40]).length <= 1073741824) /\ (inI (v4 + 1)) /\ (I1 (v4 + 1) b3la b3li (r4 ++ [pickM ((n.tdiv 7) + v4) 40]) /\ μ1 (v4 + 1) b3la b3li (r4 ++ [pickM ((n.tdiv 7) + v4) 40]) < μ1 v4 b3la b3li r4)) /\ (¬ (v4 <= (pickM n 5)) -> (inI (n.tdiv 5)) /\ (inI (((r4.length : Nat) : Int) - 1)) /\ (inI (n.tdiv 5)) /\ (1 <= (3 : Int)) /\ Post (Flt.mk r4 b3la (min (pickM (n.tdiv 5) 3) (((r4.length : Nat) : Int) - 1)) [0] [0]))
theorem walk_fleet {n : Int} {Post : Flt -> Prop} (hv : vc_fleet n Post) : FnP Try.prog 32 [.int .i64 n] (fun x => ∃ q0, x = .agg ((e27 false) q0) /\ Post q0) := by
 refine FnP.of_walk (T := tt) (nt := 37) ttOk ttMix ⟨⟨Try.f32, Try.func32, rfl, rfl, rfl, rfl⟩⟩ (by simp) ?_
 unfold vc_fleet at hv
 change W _ _ _ ⟨37, look [(0, .int .i64 n)], [], 0⟩ _
 refine W.rL (cL rfl (zXs (p := 0) tt27 rfl rfl (eL (W.rL (mI rfl rfl ?_)))))
 obtain ⟨s1, hv⟩ := hv
 refine cL rfl (o_quo rfl rfl (by decide) s1 ?_)
 obtain ⟨s2, s3, hv⟩ := hv
 refine cL rfl (zZu (k := 52) (fst := []) (caps := []) (ys := [.int _ _, .int _ _]) rfl rfl (spec_tpick (n.tdiv 30) 5 s2 s3) (Wks.cons (zZz _ _ _ _) (Wks.cons (zZz _ _ _ _) (Wks.refl _))) (cL rfl (o_bs1 (v := .int _ _) (q := 1) tt23 tt3 rfl rfl rfl rfl rfl rfl rfl rfl (cL rfl (o_bs1 (v := .int _ _) (q := 2) tt23 tt3 rfl rfl rfl rfl rfl rfl rfl rfl (cL rfl (o_build (qs := [(1, .int _ _), (3, .ref _ _ _), (4, .ref _ _ _)]) (cs := [.nilS, .int _ _, .int _ _, .ref _ _ _, .ref _ _ _]) tt27 rfl rfl rfl (cL rfl (zXs (p := 3) tt27 rfl rfl (cLn (o_stB (v := .agg _) (vs := [.nilS, .int _ _, .int _ _, .ref _ _ _, .ref _ _ _]) (cs2 := [.nilS, .int _ _, .int _ _, .ref _ _ _, .ref _ _ _]) tt27 rfl rfl rfl rfl rfl (Nat.le_of_ble_eq_true rfl) rfl (eL (W.tr [(0, .int _ _), (2, .ptr _ _), (3, .ptr _ _)] [.box _ [.nilS, .int _ _, .int _ _, .nilS, .nilS], .row _ _ _, .row _ _ _, .box _ [.nilS, .int _ _, .int _ _, .ref _ _ _, .ref _ _ _]] ⟨rfl, rfl, rfl, trivial⟩ rfl (W.seq' (W.rL (aI rfl rfl (eL (W.block ?_))))))))))))))))))
 obtain ⟨I1, μ1, hp, hv⟩ := hv
 refine W.loop4 (fun v4 b3la b3li r4 => ⟨37, look [(0, .int .i64 n), (2, .ptr 0 0), (3, .ptr 3 0), (4, .int .i64 v4)], [.box 27 [.nilS, .int .i64 0, .int .i64 0, .nilS, .nilS], .row 3 1 (zYy zYx [0]), .row 3 1 (zYy zYx [0]), .box 27 [.ref true 4 r4.length, .int .i64 b3la, .int .i64 b3li, .ref false 1 ([0].length), .ref false 2 ([0].length)], .row 3 1 (zYy zYx r4)], 0⟩) I1 μ1 0 (pickM (n.tdiv 30) 5) 0 [] (St.to_mk (φ := [some 0, some 1, some 2, some 3, none]) rfl (rfl) ⟨Ren.int _ _, Ren.ptr rfl, Ren.ptr rfl, Ren.int _ _, trivial⟩ ⟨.inr ⟨_, rfl, rfl, Rens.cons (Ren.nilS) (Rens.cons (Ren.int _ _) (Rens.cons (Ren.int _ _) (Rens.cons (Ren.nilS) (Rens.cons (Ren.nilS) (Rens.nil)))))⟩, .inr ⟨_, rfl, rfl, rfl, rfl, Rens.enc zZw false [0]⟩, .inr ⟨_, rfl, rfl, rfl, rfl, Rens.enc zZw false [0]⟩, .inr ⟨_, rfl, rfl, Rens.cons (Ren.nilR rfl rfl) (Rens.cons (Ren.int _ _) (Rens.cons (Ren.int _ _) (Rens.cons (Ren.ref rfl (fun h => h)) (Rens.cons (Ren.ref rfl (fun h => h)) (Rens.nil)))))⟩, rfl, trivial⟩) hp ?_
 clear hp
 intro v4 b3la b3li r4 hI
 replace hv := hv v4 b3la b3li r4 hI
 clear hI
 refine W.seq' (W.rL ?_)
 iterate 2 refine mI rfl rfl ?_
 obtain ⟨s77, s78, hv⟩ := hv
 refine cL rfl (zZu (k := 52) (fst := []) (caps := []) (ys := [.int _ _, .int _ _]) rfl rfl (spec_tpick n 5 s77 s78) (Wks.cons (zZz _ _ _ _) (Wks.cons (zZz _ _ _ _) (Wks.refl _))) (cL rfl (o_leq rfl rfl (eL (W.cn rfl (fun hc => ?_) (fun hc => ?_))))))
 have hv := hv.1 hc
 refine W.skip (zZ (W.seq' (W.block (W.rD1 [0, 1, 2, 3, 4, 5, 6, 7, 8, 9, 10] (by decide +kernel) rfl (cL rfl (o_fa tt27 rfl tt23 rfl (cL rfl (zZx (v := .ref _ _ _) tt23 rfl rfl ⟨_, rfl⟩ (mI rfl rfl ?_)))))))))
 obtain ⟨s84, hv⟩ := hv
 refine cL rfl (o_quo rfl rfl (by decide) s84 (mI rfl rfl ?_))
 obtain ⟨s85, hv⟩ := hv
 refine cL rfl (o_add rfl rfl s85 ?_)
 obtain ⟨s86, s87, hv⟩ := hv
 refine cL rfl (zZu (k := 52) (fst := []) (caps := []) (ys := [.int _ _, .int _ _]) rfl rfl (spec_tpick ((n.tdiv 7) + v4) 40 s86 s87) (Wks.cons (zZz _ _ _ _) (Wks.cons (zZz _ _ _ _) (Wks.refl _))) (cL rfl (o_bs1 (v := .int _ _) (q := 5) tt23 tt3 rfl rfl rfl rfl rfl rfl rfl rfl ?_)))
 obtain ⟨s88, hv⟩ := hv
 refine cL rfl (o_apR (p := 6) (q := (r4 ++ [pickM ((n.tdiv 7) + v4) 40]).length) tt23 tt3 rfl rfl (src_ref rfl rfl) rfl rfl (zYr (zZw.wd false) _) (Nat.le_trans (Nat.le_of_eq (@List.length_append _ (r4) ([pickM ((n.tdiv 7) + v4) 40])).symm) s88) rfl (@List.length_append _ (r4) ([pickM ((n.tdiv 7) + v4) 40])).symm (encL_app zYx r4 [pickM ((n.tdiv 7) + v4) 40]) (cL rfl (o_fa tt27 rfl tt23 rfl (cLn (o_stB (v := .ref _ _ _) (vs := [.ref _ _ _]) (cs2 := [.ref _ _ _, .int _ _, .int _ _, .ref _ _ _, .ref _ _ _]) tt23 rfl rfl rfl rfl rfl (Nat.le_of_ble_eq_true rfl) rfl (eL (zYq (zZ (W.tr [(0, .int _ _), (2, .ptr _ _), (3, .ptr _ _), (4, .int _ _)] [.box _ [.nilS, .int _ _, .int _ _, .nilS, .nilS], .row _ _ _, .row _ _ _, .box _ [.ref _ _ _, .int _ _, .int _ _, .ref _ _ _, .ref _ _ _], .dead, .row _ _ _, .row _ _ _] ⟨rfl, rfl, rfl, rfl, trivial⟩ rfl (W.rL1 (mI rfl rfl ?_)))))))))))
 obtain ⟨s89, hv⟩ := hv
 refine cL rfl (o_add rfl rfl s89 (aI rfl rfl (eL (zZ (⟨(), (v4 + 1), b3la, b3li, (r4 ++ [pickM ((n.tdiv 7) + v4) 40]), hv, St.to_mk (φ := [some 0, some 1, some 2, some 3, some 6]) rfl (rfl) ⟨Ren.int _ _, Ren.ptr rfl, Ren.ptr rfl, Ren.int _ _, trivial⟩ ⟨.inr ⟨_, rfl, rfl, Rens.cons (Ren.nilS) (Rens.cons (Ren.int _ _) (Rens.cons (Ren.int _ _) (Rens.cons (Ren.nilS) (Rens.cons (Ren.nilS) (Rens.nil)))))⟩, .inr ⟨_, rfl, rfl, rfl, rfl, Rens.enc zZw false [0]⟩, .inr ⟨_, rfl, rfl, rfl, rfl, Rens.enc zZw false [0]⟩, .inr ⟨_, rfl, rfl, Rens.cons (Ren.ref rfl (fun h => rfl)) (Rens.cons (Ren.int _ _) (Rens.cons (Ren.int _ _) (Rens.cons (Ren.ref rfl (fun h => h)) (Rens.cons (Ren.ref rfl (fun h => h)) (Rens.nil)))))⟩, .inr ⟨_, rfl, rfl, rfl, rfl, Rens.enc zZw false (r4 ++ [pickM ((n.tdiv 7) + v4) 40])⟩, trivial⟩⟩)))))
 have hv := hv.2 hc
 refine W.exit (zZt (zZt (zXy (zZ (W.rP [0, 1, 3, 4, 5, 6, 2, 7, 8, 9] (by decide +kernel) rfl (mI rfl rfl ?_))))))
 obtain ⟨s90, hv⟩ := hv
 refine cL rfl (o_quo rfl rfl (by decide) s90 (cL rfl (o_fa tt27 rfl tt23 rfl (cL rfl (zZx (v := .ref _ _ _) tt23 rfl rfl ⟨_, rfl⟩ (cL rfl (zXq (v := .ref _ _ _) tt23 rfl rfl ?_)))))))
 obtain ⟨s91, hv⟩ := hv
 refine cL rfl (o_sub rfl rfl s91 ?_)
 obtain ⟨s92, s93, hv⟩ := hv
 refine cL rfl (zZu (k := 52) (fst := []) (caps := []) (ys := [.int _ _, .int _ _]) rfl rfl (spec_tpick (n.tdiv 5) 3 s92 s93) (Wks.cons (zZz _ _ _ _) (Wks.cons (zZz _ _ _ _) (Wks.refl _))) (cL rfl (o_min rfl rfl (cL rfl (o_fa tt27 rfl tt3 rfl (cLn (o_stB (v := .int _ _) (vs := [.int _ _]) (cs2 := [.ref _ _ _, .int _ _, .int _ _, .ref _ _ _, .ref _ _ _]) tt3 rfl rfl rfl rfl rfl (Nat.le_of_ble_eq_true rfl) rfl (eL (W.tr [(2, .ptr _ _), (3, .ptr _ _)] [.box _ [.nilS, .int _ _, .int _ _, .nilS, .nilS], .row _ _ _, .row _ _ _, .box _ [.ref _ _ _, .int _ _, .int _ _, .ref _ _ _, .ref _ _ _], .row _ _ _] ⟨rfl, rfl, trivial⟩ rfl (W.rL (cL rfl (zXv (cs := [.ref _ _ _, .int _ _, .int _ _, .ref _ _ _, .ref _ _ _]) tt27 rfl rfl ⟨_, rfl⟩ rfl (cLn (o_stB (v := .agg _) (vs := [.ref _ _ _, .int _ _, .int _ _, .ref _ _ _, .ref _ _ _]) (cs2 := [.ref _ _ _, .int _ _, .int _ _, .ref _ _ _, .ref _ _ _]) tt27 rfl rfl rfl rfl rfl (Nat.le_of_ble_eq_true rfl) rfl (eL (W.tr [(2, .ptr _ _)] [.box _ [.ref _ _ _, .int _ _, .int _ _, .ref _ _ _, .ref _ _ _], .row _ _ _, .row _ _ _, .box _ [.ref _ _ _, .int _ _, .int _ _, .ref _ _ _, .ref _ _ _], .row _ _ _] ⟨rfl, trivial⟩ rfl (W.ret (rt (rt_c (x := .ptr _ _) rfl (ldA (cs := [.ref _ _ _, .int _ _, .int _ _, .ref _ _ _, .ref _ _ _]) tt27 rfl ⟨_, rfl⟩ rfl (rt_n (⟨_, rs_agg 5 _ (Wks.cons (rs_ref zZw 3 _ rfl rfl) (Wks.cons (zY _ _ _ _) (Wks.cons (zY _ _ _ _) (Wks.cons (rs_ref zZw 3 _ rfl rfl) (Wks.cons (rs_ref zZw 3 _ rfl rfl) (Wks.refl _)))))), (Flt.mk r4 b3la (min (pickM (n.tdiv 5) 3) (((r4.length : Nat) : Int) - 1)) [0] [0]), rfl, hv⟩))))))))))))))))))))))
theorem vcp_fleet (n : Int) (h0 : inI n) : vc_fleet n (fun q0 => q0 = (zYt n)) := by
  unfold vc_fleet
  have h5 := zXt (c := n) (n := 5) (by omega)
  have h7 := inI_tdiv7 h0
  refine ⟨inI_tdiv30 h0, inI_tdiv30 h0, by omega, fun v x y r => ∃ i : Nat, v = i /\ (i : Int) <= pickM n 5 + 1 /\ x = pickM (n.tdiv 30) 5 /\ y = 0 /\ r = (List.range i).map fun (a : Nat) => pickM (n.tdiv 7 + a) 40, fun v _ _ _ => 6 - v.toNat, ⟨0, rfl, by omega, rfl, rfl, rfl⟩, ?_⟩
  rintro _ _ _ _ ⟨i, rfl, hi, rfl, rfl, rfl⟩
  have hlen : ((List.range i).map fun (a : Nat) => pickM (n.tdiv 7 + a) 40).length = i := by simp
  refine ⟨h0, by omega, fun h1 => ⟨by unfold inI; omega, by unfold inI; omega, by unfold inI; omega, by omega, by rw [List.length_append, hlen]; simp; omega, by unfold inI; omega, ⟨i + 1, by omega, by omega, rfl, rfl, map_range_succ.symm⟩, by dsimp only; omega⟩, fun h1 => ⟨inI_tdiv5 h0, by rw [hlen]; unfold inI; omega, inI_tdiv5 h0, by omega, ?_⟩⟩
  have hi5 : i = (pickM n 5).toNat + 1 := by omega
  show _ = zYt n
  subst hi5
  rfl
theorem spec_fleet (n : Int) (h0 : inI n) : FnP Try.prog 32 [.int .i64 n] (fun xR => xR = .agg ((e27 false) (zYt n))) :=
  (walk_fleet (vcp_fleet n h0)).mono (by rintro _ ⟨_, rfl, rfl⟩; rfl)
def vc_pick (c : Int) (n : Int) (Post : Int -> Prop) : Prop :=
  ∃ J1 : Int -> Prop, (∀ (v0 : Int), J1 v0 -> (n ≠ 0) /\ Post (v0.tmod n)) /\ (((c < 0) -> (inI (c + 1)) /\ (inI (-(c + 1))) /\ J1 (-(c + 1))) /\ (¬ (c < 0) -> J1 c))
theorem walk_pick {c : Int} {n : Int} {Post : Int -> Prop} (hv : vc_pick c n Post) : FnP Try.prog 21 [.int .i64 c, .int .i64 n] (fun x => ∃ q0, x = .int .i64 q0 /\ Post q0) := by
 refine FnP.of_walk (T := tt) (nt := 13) ttOk ttMix ⟨⟨Try.f21, Try.func21, rfl, rfl, rfl, rfl⟩⟩ (by simp) ?_
 unfold vc_pick at hv
 change W _ _ _ ⟨13, look [(0, .int .i64 c), (1, .int .i64 n)], [], 0⟩ _
 refine W.rL (aI rfl rfl (eL ?_))
 obtain ⟨J1, hj, hv⟩ := hv
 refine W.mid1 (fun v0 => ⟨13, look [(0, .int .i64 v0), (1, .int .i64 n)], [], 0⟩) J1 ?_ ?_
 intro v0
 intro hv
 replace hv := hj v0 hv
 refine W.rL ?_
 iterate 2 refine mI rfl rfl ?_
 obtain ⟨s3, hv⟩ := hv
 refine cL rfl (o_rem rfl rfl s3 (aI rfl rfl (eL (W.ret (rt (rt_t (v := .int _ _) rfl (rt_n (⟨_, zY _ _ _ _, (v0.tmod n), rfl, hv⟩))))))))
 clear hj
 refine W.rL (mI rfl rfl (cL rfl (zXw rfl rfl (eL (W.cn rfl (fun hc => ?_) (fun hc => ?_))))))
 have hv := hv.1 hc
 refine W.rL1 (mI rfl rfl ?_)
 obtain ⟨s4, hv⟩ := hv
 refine cL rfl (o_add rfl rfl s4 ?_)
 obtain ⟨s5, hv⟩ := hv
 refine cL rfl (o_neg rfl s5 (aI rfl rfl (eL (zZ (⟨(), (-(c + 1)), hv, St.to_mk (φ := []) rfl (rfl) ⟨Ren.int _ _, Ren.int _ _, trivial⟩ trivial⟩)))))
 have hv := hv.2 hc
 refine W.skip (zZ (⟨(), c, hv, St.to_mk (φ := []) rfl (rfl) ⟨Ren.int _ _, Ren.int _ _, trivial⟩ trivial⟩))
theorem vcp_pick (c : Int) (n : Int) (h0 : inI c) (h1 : 1 <= n) : vc_pick c n (fun q0 => q0 = (pickM c n)) := by
  unfold vc_pick
  refine ⟨fun v => v = if c < 0 then -(c+1) else c, fun v hv => ⟨by omega, by subst hv; unfold pickM; rfl⟩, fun h => ?_, fun h => ?_⟩
  . unfold inI at *; exact ⟨by omega, by omega, by simp [h]⟩
  . simp [h]
theorem spec_pick (c : Int) (n : Int) (h0 : inI c) (h1 : 1 <= n) : FnP Try.prog 21 [.int .i64 c, .int .i64 n] (fun xR => xR = .int .i64 (pickM c n)) :=
  (walk_pick (vcp_pick c n h0 h1)).mono (by rintro _ ⟨_, rfl, rfl⟩; rfl)
def vc_rpick (c : Int) (n : Int) (Post : Int -> Prop) : Prop :=
  ∃ J1 : Int -> Prop, (∀ (v0 : Int), J1 v0 -> (n ≠ 0) /\ Post (v0.tmod n)) /\ (((c < 0) -> (inI (c + 1)) /\ (inI (-(c + 1))) /\ J1 (-(c + 1))) /\ (¬ (c < 0) -> J1 c))
theorem walk_rpick {c : Int} {n : Int} {Post : Int -> Prop} (hv : vc_rpick c n Post) : FnP Try.prog 70 [.int .i64 c, .int .i64 n] (fun x => ∃ q0, x = .int .i64 q0 /\ Post q0) := by
 refine FnP.of_walk (T := tt) (nt := 13) ttOk ttMix ⟨⟨Try.f70, Try.func70, rfl, rfl, rfl, rfl⟩⟩ (by simp) ?_
 unfold vc_rpick at hv
 change W _ _ _ ⟨13, look [(0, .int .i64 c), (1, .int .i64 n)], [], 0⟩ _
 refine W.rL (aI rfl rfl (eL ?_))
 obtain ⟨J1, hj, hv⟩ := hv
 refine W.mid1 (fun v0 => ⟨13, look [(0, .int .i64 v0), (1, .int .i64 n)], [], 0⟩) J1 ?_ ?_
 intro v0
 intro hv
 replace hv := hj v0 hv
 refine W.rL ?_
 iterate 2 refine mI rfl rfl ?_
 obtain ⟨s3, hv⟩ := hv
 refine cL rfl (o_rem rfl rfl s3 (aI rfl rfl (eL (W.ret (rt (rt_t (v := .int _ _) rfl (rt_n (⟨_, zY _ _ _ _, (v0.tmod n), rfl, hv⟩))))))))
 clear hj
 refine W.rL (mI rfl rfl (cL rfl (zXw rfl rfl (eL (W.cn rfl (fun hc => ?_) (fun hc => ?_))))))
 have hv := hv.1 hc
 refine W.rL1 (mI rfl rfl ?_)
 obtain ⟨s4, hv⟩ := hv
 refine cL rfl (o_add rfl rfl s4 ?_)
 obtain ⟨s5, hv⟩ := hv
 refine cL rfl (o_neg rfl s5 (aI rfl rfl (eL (zZ (⟨(), (-(c + 1)), hv, St.to_mk (φ := []) rfl (rfl) ⟨Ren.int _ _, Ren.int _ _, trivial⟩ trivial⟩)))))
 have hv := hv.2 hc
 refine W.skip (zZ (⟨(), c, hv, St.to_mk (φ := []) rfl (rfl) ⟨Ren.int _ _, Ren.int _ _, trivial⟩ trivial⟩))
theorem vcp_rpick (c : Int) (n : Int) (h0 : inI c) (h1 : 1 <= n) : vc_rpick c n (fun q0 => q0 = (pickM c n)) := by
  unfold vc_rpick
  refine ⟨fun v => v = if c < 0 then -(c+1) else c, fun v hv => ⟨by omega, by subst hv; unfold pickM; rfl⟩, fun h => ?_, fun h => ?_⟩
  . unfold inI at *; exact ⟨by omega, by omega, by simp [h]⟩
  . simp [h]
theorem spec_rpick (c : Int) (n : Int) (h0 : inI c) (h1 : 1 <= n) : FnP Try.prog 70 [.int .i64 c, .int .i64 n] (fun xR => xR = .int .i64 (pickM c n)) :=
  (walk_rpick (vcp_rpick c n h0 h1)).mono (by rintro _ ⟨_, rfl, rfl⟩; rfl)
def vc_madeR (n : Int) (x : (List A3)) (Post : (List Con) -> Prop) : Prop :=
  ∃ (I1 : Int -> List Con -> Prop) (μ1 : Int -> List Con -> Nat), I1 0 [] /\ ∀ (v6 : Int) (r0 : List Con), I1 v6 r0 -> (((v6 < ((x.length : Nat) : Int)) /\ ((v6 < 30) /\ ((1 : Int) < n))) -> (0 <= v6 /\ v6 < (x.length : Int)) /\ (inI ((lat x v6).x0)) /\ (1 <= n) /\ (inI ((pickM ((lat x v6).x0) n) + 1)) /\ (0 <= v6 /\ v6 < (x.length : Int)) /\ (inI (n - 1)) /\ (inI ((lat x v6).x1)) /\ (1 <= (n - 1)) /\ (inI (((pickM ((lat x v6).x0) n) + 1) + (pickM ((lat x v6).x1) (n - 1)))) /\ (n ≠ 0) /\ (0 <= v6 /\ v6 < (x.length : Int)) /\ (0 <= v6 /\ v6 < (x.length : Int)) /\ (inI (((lat x v6).x1).tdiv 30)) /\ (inI ((lat x v6).x2)) /\ (1 <= (20 : Int)) /\ (inI ((pickM ((lat x v6).x2) 20) - 6)) /\ (inI (((lat x v6).x1).tdiv 30)) /\ (1 <= (6 : Int)) /\ (0 <= (pickM (((lat x v6).x1).tdiv 30) 6)) /\ (inI (1 * 2 ^ (min (pickM (((lat x v6).x1).tdiv 30) 6).toNat 64))) /\ ((r0 ++ [(Con.mk (pickM ((lat x v6).x0) n) ((((pickM ((lat x v6).x0) n) + 1) + (pickM ((lat x v6).x1) (n - 1))).tmod n) ((pickM ((lat x v6).x2) 20) - 6) (1 * 2 ^ (min (pickM (((lat x v6).x1).tdiv 30) 6).toNat 64)))]).length <= 1073741824) /\ (inI (v6 + 1)) /\ (I1 (v6 + 1) (r0 ++ [(Con.mk (pickM ((lat x v6).x0) n) ((((pickM ((lat x v6).x0) n) + 1) + (pickM ((lat x v6).x1) (n - 1))).tmod n) ((pickM ((lat x v6).x2) 20) - 6) (1 * 2 ^ (min (pickM (((lat x v6).x1).tdiv 30) 6).toNat 64)))]) /\ μ1 (v6 + 1) (r0 ++ [(Con.mk (pickM ((lat x v6).x0) n) ((((pickM ((lat x v6).x0) n) + 1) + (pickM ((lat x v6).x1) (n - 1))).tmod n) ((pickM ((lat x v6).x2) 20) - 6) (1 * 2 ^ (min (pickM (((lat x v6).x1).tdiv 30) 6).toNat 64)))]) < μ1 v6 r0)) /\ (¬ ((v6 < ((x.length : Nat) : Int)) /\ ((v6 < 30) /\ ((1 : Int) < n))) -> Post r0)
theorem walk_madeR {n : Int} {x : (List A3)} {Post : (List Con) -> Prop} (hv : vc_madeR n x Post) : FnH Try.prog 53 [] [.int .i64 n, .lst true x.length (zYy e29 x)] (fun x H => ∃ l q0, H = .row 66 4 (zYy e66 q0) :: l /\ x = .ref false 0 q0.length /\ Post q0) := by
 refine FnH.of_walk (T := tt) (nt := 65) ttOk ttMix ⟨⟨Try.f53, Try.func53, rfl, rfl, rfl, rfl⟩⟩ (by simp) (by simp) 0 (by simp) ?_
 unfold vc_madeR at hv
 change W _ _ _ ⟨65, look [(0, .int .i64 n), (1, .lst true x.length (zYy e29 x))], [], 0⟩ _
 refine W.rL (cL rfl (zZq (v := .nilS) rfl (eL (W.rL (cL rfl (zZq (v := .nilS) rfl (eL (W.seq' (W.rL (aI rfl rfl (eL (W.block ?_))))))))))))
 obtain ⟨I1, μ1, hp, hv⟩ := hv
 refine W.loop2 (fun v6 r0 => ⟨65, look [(0, .int .i64 n), (1, .lst true x.length (zYy e29 x)), (5, .ref true 0 r0.length), (6, .int .i64 v6)], [.row 66 4 (zYy e66 r0)], 0⟩) I1 μ1 0 [] (St.to_mk (φ := [none]) rfl (rfl) ⟨Ren.int _ _, Ren.lst _ _ _, Ren.nilR rfl rfl, Ren.int _ _, trivial⟩ ⟨rfl, trivial⟩) hp ?_
 clear hp
 intro v6 r0 hI
 replace hv := hv v6 r0 hI
 clear hI
 refine W.seq' (W.rLm ⟨65, look [(0, .int .i64 n), (1, .lst true x.length (zYy e29 x)), (5, .ref true 0 r0.length), (6, .int .i64 v6), (20, .bool (decide ((v6 < ((x.length : Nat) : Int)) /\ ((v6 < 30) /\ ((1 : Int) < n)))))], [.row 66 4 (zYy e66 r0)], 0⟩ ?_ ?_)
 refine mI rfl rfl (mL rfl rfl (cL rfl (zXq (v := .lst _ _ _) tt22 rfl rfl (cL rfl (zXw rfl rfl (mB rfl rfl ?_))))))
 by_cases c1 : v6 < ((x.length : Nat) : Int)
 refine cLg rfl rfl (dT c1) (mI rfl rfl (cLg rfl rfl (dT c1) (cL rfl (zXw rfl rfl (cL rfl (zZv (v := .bool _) rfl (dT c1) rfl (mB rfl rfl ?_)))))))
 by_cases c2 : v6 < 30
 refine cLg rfl rfl (dT c2) (mI rfl rfl (cLg rfl rfl (dT c2) (cL rfl (o_gtr rfl rfl (cL rfl (zZv (v := .bool _) rfl (dT c2) rfl (eL (zYz ⟨rfl, rfl, rfl, rfl, (congrArg AV.bool (zXp c1 (zXp c2 (rfl)))).symm, trivial⟩ rfl))))))))
 iterate 2 refine cLs rfl rfl rfl (dF c2) ?_
 refine cL rfl (zZy (v := .bool _) rfl (dF c2) rfl (eL (zYz ⟨rfl, rfl, rfl, rfl, (congrArg AV.bool (zXp c1 (dAndF c2))).symm, trivial⟩ rfl)))
 iterate 2 refine cLs rfl rfl rfl (dF c1) ?_
 refine cL rfl (zZy (v := .bool _) rfl (dF c1) rfl (mB rfl rfl ?_))
 iterate 2 refine cLs rfl rfl rfl (rfl) ?_
 refine cL rfl (zZy (v := .bool _) rfl rfl rfl (eL (zYz ⟨rfl, rfl, rfl, rfl, (congrArg AV.bool (dAndF c1)).symm, trivial⟩ rfl)))
 refine W.cn rfl (fun hc => ?_) (fun hc => ?_)
 have hv := hv.1 hc
 refine W.skip (zZ (W.seq' (W.block (W.rL (mL rfl rfl (mI rfl rfl ?_))))))
 obtain ⟨s233, hv⟩ := hv
 refine cL rfl (zYp tt22 tt29 rfl rfl (enc29.wd true) rfl s233 ?_)
 intro rest233
 refine cL rfl (o_iaP tt29 tt3 rfl rfl ⟨by decide, by decide⟩ (cL rfl (zZx (v := .int _ _) tt3 rfl rfl ⟨_, rfl⟩ (mI rfl rfl ?_))))
 obtain ⟨s234, s235, hv⟩ := hv
 refine cL rfl (zZu (k := 70) (fst := []) (caps := []) (ys := [.int _ _, .int _ _]) rfl rfl (spec_rpick ((lat x v6).x0) n s234 s235) (Wks.cons (zZz _ _ _ _) (Wks.cons (zZz _ _ _ _) (Wks.refl _))) (aI rfl rfl (eL (W.rL (mI rfl rfl ?_)))))
 obtain ⟨s236, hv⟩ := hv
 refine cL rfl (o_add rfl rfl s236 (mL rfl rfl (mI rfl rfl ?_)))
 obtain ⟨s237, hv⟩ := hv
 refine cL rfl (zYp tt22 tt29 rfl rfl (enc29.wd true) rfl s237 ?_)
 intro rest237
 refine cL rfl (o_iaP tt29 tt3 rfl rfl ⟨by decide, by decide⟩ (cL rfl (zZx (v := .int _ _) tt3 rfl rfl ⟨_, rfl⟩ (mI rfl rfl ?_))))
 obtain ⟨s238, hv⟩ := hv
 refine cL rfl (o_sub rfl rfl s238 ?_)
 obtain ⟨s239, s240, hv⟩ := hv
 refine cL rfl (zZu (k := 70) (fst := []) (caps := []) (ys := [.int _ _, .int _ _]) rfl rfl (spec_rpick ((lat x v6).x1) (n - 1) s239 s240) (Wks.cons (zZz _ _ _ _) (Wks.cons (zZz _ _ _ _) (Wks.refl _))) ?_)
 obtain ⟨s241, hv⟩ := hv
 refine cL rfl (o_add rfl rfl s241 (mI rfl rfl ?_))
 obtain ⟨s242, hv⟩ := hv
 refine cL rfl (o_rem rfl rfl s242 (aI rfl rfl (eL (W.tr [(0, .int _ _), (1, .lst _ _ _), (5, .ref _ _ _), (6, .int _ _), (7, .int _ _), (8, .int _ _)] [.row _ _ _] ⟨rfl, rfl, rfl, rfl, rfl, rfl, trivial⟩ rfl (W.rP1 [0, 1, 2, 3, 4, 5, 6, 7, 10, 11, 12, 13, 14, 15, 8, 9, 16, 17, 18, 19, 20, 21] (by decide +kernel) rfl (cL rfl (zZp (v := .ref _ _ _) rfl ?_)))))))
 iterate 2 refine mI rfl rfl ?_
 refine mL rfl rfl (mI rfl rfl ?_)
 obtain ⟨s243, hv⟩ := hv
 refine cL rfl (zYp tt22 tt29 rfl rfl (enc29.wd true) rfl s243 ?_)
 intro rest243
 refine cL rfl (o_iaP tt29 tt3 rfl rfl ⟨by decide, by decide⟩ (cL rfl (zZx (v := .int _ _) tt3 rfl rfl ⟨_, rfl⟩ (mL rfl rfl (mI rfl rfl ?_)))))
 obtain ⟨s244, hv⟩ := hv
 refine cL rfl (zYp tt22 tt29 rfl rfl (enc29.wd true) rfl s244 ?_)
 intro rest244
 refine cL rfl (o_iaP tt29 tt3 rfl rfl ⟨by decide, by decide⟩ (cL rfl (zZx (v := .int _ _) tt3 rfl rfl ⟨_, rfl⟩ ?_)))
 obtain ⟨s245, hv⟩ := hv
 refine cL rfl (o_quo rfl rfl (by decide) s245 ?_)
 obtain ⟨s246, s247, hv⟩ := hv
 refine cL rfl (zZu (k := 70) (fst := []) (caps := []) (ys := [.int _ _, .int _ _]) rfl rfl (spec_rpick ((lat x v6).x2) 20 s246 s247) (Wks.cons (zZz _ _ _ _) (Wks.cons (zZz _ _ _ _) (Wks.refl _))) ?_)
 obtain ⟨s248, hv⟩ := hv
 refine cL rfl (o_sub rfl rfl s248 ?_)
 obtain ⟨s249, s250, hv⟩ := hv
 refine cL rfl (zZu (k := 70) (fst := []) (caps := []) (ys := [.int _ _, .int _ _]) rfl rfl (spec_rpick (((lat x v6).x1).tdiv 30) 6 s249 s250) (Wks.cons (zZz _ _ _ _) (Wks.cons (zZz _ _ _ _) (Wks.refl _))) ?_)
 obtain ⟨s251, s252, hv⟩ := hv
 refine cL rfl (o_shl rfl rfl s251 s252 (cL rfl (o_build (qs := [(0, .int _ _), (1, .int _ _), (2, .int _ _), (3, .int _ _)]) (cs := [.int _ _, .int _ _, .int _ _, .int _ _]) tt66 rfl rfl rfl (cL rfl (o_bs1 (v := .agg _) (q := 1) tt28 tt66 rfl rfl rfl rfl rfl rfl rfl rfl ?_)))))
 obtain ⟨s253, hv⟩ := hv
 refine cL rfl (o_apR (p := 2) (q := (r0 ++ [(Con.mk (pickM ((lat x v6).x0) n) ((((pickM ((lat x v6).x0) n) + 1) + (pickM ((lat x v6).x1) (n - 1))).tmod n) ((pickM ((lat x v6).x2) 20) - 6) (1 * 2 ^ (min (pickM (((lat x v6).x1).tdiv 30) 6).toNat 64)))]).length) tt28 tt66 rfl rfl (src_ref rfl rfl) rfl rfl (zYr (enc66.wd false) _) (Nat.le_trans (Nat.le_of_eq (@List.length_append _ (r0) ([(Con.mk (pickM ((lat x v6).x0) n) ((((pickM ((lat x v6).x0) n) + 1) + (pickM ((lat x v6).x1) (n - 1))).tmod n) ((pickM ((lat x v6).x2) 20) - 6) (1 * 2 ^ (min (pickM (((lat x v6).x1).tdiv 30) 6).toNat 64)))])).symm) s253) rfl (@List.length_append _ (r0) ([(Con.mk (pickM ((lat x v6).x0) n) ((((pickM ((lat x v6).x0) n) + 1) + (pickM ((lat x v6).x1) (n - 1))).tmod n) ((pickM ((lat x v6).x2) 20) - 6) (1 * 2 ^ (min (pickM (((lat x v6).x1).tdiv 30) 6).toNat 64)))])).symm (encL_app e66 r0 [(Con.mk (pickM ((lat x v6).x0) n) ((((pickM ((lat x v6).x0) n) + 1) + (pickM ((lat x v6).x1) (n - 1))).tmod n) ((pickM ((lat x v6).x2) 20) - 6) (1 * 2 ^ (min (pickM (((lat x v6).x1).tdiv 30) 6).toNat 64)))]) (cL rfl (zZq (v := .ref _ _ _) rfl (eL (zYq (zZ (W.tr [(0, .int _ _), (1, .lst _ _ _), (5, .ref _ _ _), (6, .int _ _)] [.dead, .row _ _ _, .row _ _ _] ⟨rfl, rfl, rfl, rfl, trivial⟩ rfl (W.rL1 (mI rfl rfl ?_)))))))))
 obtain ⟨s254, hv⟩ := hv
 refine cL rfl (o_add rfl rfl s254 (aI rfl rfl (eL (zZ (⟨(), (v6 + 1), (r0 ++ [(Con.mk (pickM ((lat x v6).x0) n) ((((pickM ((lat x v6).x0) n) + 1) + (pickM ((lat x v6).x1) (n - 1))).tmod n) ((pickM ((lat x v6).x2) 20) - 6) (1 * 2 ^ (min (pickM (((lat x v6).x1).tdiv 30) 6).toNat 64)))]), hv, St.to_mk (φ := [some 2]) rfl (rfl) ⟨Ren.int _ _, Ren.lst _ _ _, Ren.ref rfl (fun h => rfl), Ren.int _ _, trivial⟩ ⟨.inr ⟨_, rfl, rfl, rfl, rfl, Rens.enc enc66 false (r0 ++ [(Con.mk (pickM ((lat x v6).x0) n) ((((pickM ((lat x v6).x0) n) + 1) + (pickM ((lat x v6).x1) (n - 1))).tmod n) ((pickM ((lat x v6).x2) 20) - 6) (1 * 2 ^ (min (pickM (((lat x v6).x1).tdiv 30) 6).toNat 64)))])⟩, trivial⟩⟩)))))
 have hv := hv.2 hc
 refine W.exit (zZt (zZt (zXy (zZ (W.rL (cL rfl (zZp (v := .ref _ _ _) rfl (cL rfl (zZq (v := .ref _ _ _) rfl (eL (W.tr [(4, .ref _ _ _)] [.row _ _ _] ⟨rfl, trivial⟩ rfl (W.to (st' := ⟨65, look [(4, .ref false 0 r0.length)], [.row 66 4 (zYy e66 r0)], 0⟩) (St.to_mk (φ := [some 0]) rfl rfl ⟨Ren.ref rfl (fun h => rfl), trivial⟩ ⟨.inr ⟨_, rfl, rfl, rfl, rfl, Rens.enc enc66 false r0⟩, trivial⟩) ?_))))))))))))
 refine W.ret (rt (rt_t (v := .ref _ _ _) rfl (rt_n (⟨_, r0, rfl, rfl, hv⟩))))
theorem vcp_madeR (n : Int) (x : (List A3)) (h0 : 1 <= n) (h1 : n <= 1000) (h2 : ∀ y ∈ x, inI y.x0 /\ inI y.x1 /\ inI y.x2) : vc_madeR n x (fun q0 => q0 = madeM n x) := by
  unfold vc_madeR
  refine ⟨fun v r => ∃ i : Nat, v = i /\ i <= x.length /\ i <= 30 /\ (1 < n \/ i = 0) /\ r = (x.take i).map fun y => ⟨pickM y.x0 n, (pickM y.x0 n + 1 + pickM y.x1 (n - 1)).tmod n, pickM y.x2 20 - 6, 2 ^ (pickM (y.x1.tdiv 30) 6).toNat⟩, fun v _ => 30 - v.toNat, ⟨0, rfl, by omega, by omega, .inr rfl, rfl⟩, ?_⟩
  rintro _ r ⟨i, rfl, hi, hi3, hn, hr⟩
  refine ⟨fun ⟨h4, h5, h6⟩ => ?_, fun h4 => ?_⟩
  . have hlt : i < x.length := by omega
    obtain ⟨y0, y1, y2⟩ := h2 _ (lat_mem (xs := x) (i := i) ⟨by omega, by omega⟩)
    have hx : lat x (i : Int) = x[i] := lat_get hlt
    rw [hx] at y0 y1 y2 ⊢
    have p1 := zXt (c := x[i].x0) (n := n) h0
    have p2 := zXt (c := x[i].x1) (n := n - 1) (by omega)
    have p3 := zXt (c := x[i].x2) (n := 20) (by omega)
    have p4 := zXt (c := x[i].x1.tdiv 30) (n := 6) (by omega)
    have hq : inI (x[i].x1.tdiv 30) := by
      have h7 : x[i].x1 = 30 * x[i].x1.tdiv 30 + x[i].x1.tmod 30 := (Int.mul_tdiv_add_tmod _ _).symm
      have h8 := Int.tmod_lt_of_pos x[i].x1 (b := 30) (by omega)
      have h9 := Int.lt_tmod_of_pos x[i].x1 (b := 30) (by omega)
      unfold inI at *; omega
    have hp : (min (pickM (x[i].x1.tdiv 30) 6).toNat 64) = (pickM (x[i].x1.tdiv 30) 6).toNat := by omega
    have h2p : (1 : Int) * 2 ^ (pickM (x[i].x1.tdiv 30) 6).toNat <= 32 /\ 0 <= (1 : Int) * 2 ^ (pickM (x[i].x1.tdiv 30) 6).toNat := by
      have : (pickM (x[i].x1.tdiv 30) 6).toNat < 6 := by omega
      generalize (pickM (x[i].x1.tdiv 30) 6).toNat = q at this
      match q, this with
      | 0, _ => decide
      | 1, _ => decide
      | 2, _ => decide
      | 3, _ => decide
      | 4, _ => decide
      | 5, _ => decide
    have hlen : r.length = i := by rw [hr]; simp; omega
    rw [hp]
    refine ⟨by omega, y0, h0, by unfold inI at *; omega, by omega, by unfold inI at *; omega, y1, by omega, by unfold inI at *; omega, by omega, by omega, by omega, hq, y2, by omega, by unfold inI; omega, hq, by omega, p4.1, by unfold inI; omega, by rw [List.length_append, hlen]; simp; omega, by unfold inI; omega, ⟨i + 1, by omega, by omega, by omega, .inl h6, ?_⟩, by dsimp only; omega⟩
    rw [List.take_add_one, List.getElem?_eq_getElem hlt, List.map_append, <- hr, Int.one_mul]
    rfl
  . show r = madeM n x
    unfold madeM
    by_cases h6 : 1 < n
    . rw [if_pos h6, hr]
      congr 1
      rcases Nat.lt_or_ge i 30 with h7 | h7
      . rw [List.take_of_length_le (by omega), List.take_of_length_le (by omega)]
      . have : i = 30 := by omega
        rw [this]
    . have : i = 0 := by omega
      rw [if_neg h6, hr, this]; rfl
theorem spec_madeR (n : Int) (x : (List A3)) (h0 : 1 <= n) (h1 : n <= 1000) (h2 : ∀ y ∈ x, inI y.x0 /\ inI y.x1 /\ inI y.x2) : FnH Try.prog 53 [] [.int .i64 n, .lst true x.length (zYy e29 x)] (fun xR H => ∃ l, H = .row 66 4 (zYy e66 (madeM n x)) :: l /\ xR = .ref false 0 (madeM n x).length) :=
  (walk_madeR (vcp_madeR n x h0 h1 h2)).mono (by rintro _ _ ⟨l, _, h1, h2, rfl⟩; exact ⟨l, h1, h2⟩)
def vc_bmade (f : Flt) (n : Int) (x : (List A3)) (honest : Int) (truth : (List Int)) (Post : (List Con) -> Prop) : Prop :=
  (0 <= ((0 : Nat) : Int) /\ ((0 : Nat) : Int) <= (min ((x.length : Nat) : Int) 24) /\ (min ((x.length : Nat) : Int) 24) <= (x.length : Int)) /\ (1 <= n) /\ (n <= 1000) /\ (∀ y ∈ (x.take (min ((x.length : Nat) : Int) 24).toNat), inI y.x0 /\ inI y.x1 /\ inI y.x2) /\ ∃ (I1 : Int -> List Con -> Prop) (μ1 : Int -> List Con -> Nat), I1 0 (madeM n (x.take (min ((x.length : Nat) : Int) 24).toNat)) /\ ∀ (v12 : Int) (r1 : List Con), I1 v12 r1 -> ((v12 < ((r1.length : Nat) : Int)) -> ∃ J2 : List Con -> Prop, (∀ (r1_1 : List Con), J2 r1_1 -> (inI (v12 + 1)) /\ (I1 (v12 + 1) r1_1 /\ μ1 (v12 + 1) r1_1 < μ1 v12 r1)) /\ ((0 <= v12 /\ v12 < (x.length : Int)) /\ (inI (((lat x v12).x1).tdiv 30)) /\ (inI (((lat x v12).x1).tdiv 30)) /\ (1 <= ((f.dr.length : Nat) : Int)) /\ (0 <= v12 /\ v12 < (x.length : Int)) /\ (inI (((lat x v12).x1).tdiv 200)) /\ (inI (((lat x v12).x1).tdiv 200)) /\ (1 <= ((f.dr.length : Nat) : Int)) /\ (0 <= (pickM (((lat x v12).x1).tdiv 30) ((f.dr.length : Nat) : Int))) /\ (inI (1 * 2 ^ (min (pickM (((lat x v12).x1).tdiv 30) ((f.dr.length : Nat) : Int)).toNat 64))) /\ (0 <= (pickM (((lat x v12).x1).tdiv 200) ((f.dr.length : Nat) : Int))) /\ (inI (1 * 2 ^ (min (pickM (((lat x v12).x1).tdiv 200) ((f.dr.length : Nat) : Int)).toNat 64))) /\ (0 <= v12 /\ v12 < ((r1.length : Nat) : Int)) /\ (0 <= v12 /\ v12 < ((r1.length : Nat) : Int)) /\ (0 <= v12 /\ v12 < ((r1.length : Nat) : Int)) /\ ((bitI .and .i64 ((lat (r1.set v12.toNat (⟨(lat r1 v12).f, (lat r1 v12).t, (lat r1 v12).m, bitI .or .i64 (1 * 2 ^ (min (pickM (((lat x v12).x1).tdiv 30) ((f.dr.length : Nat) : Int)).toNat 64)) (1 * 2 ^ (min (pickM (((lat x v12).x1).tdiv 200) ((f.dr.length : Nat) : Int)).toNat 64))⟩ : Con)) v12).a) honest = (lat (r1.set v12.toNat (⟨(lat r1 v12).f, (lat r1 v12).t, (lat r1 v12).m, bitI .or .i64 (1 * 2 ^ (min (pickM (((lat x v12).x1).tdiv 30) ((f.dr.length : Nat) : Int)).toNat 64)) (1 * 2 ^ (min (pickM (((lat x v12).x1).tdiv 200) ((f.dr.length : Nat) : Int)).toNat 64))⟩ : Con)) v12).a) -> (0 <= v12 /\ v12 < ((r1.length : Nat) : Int)) /\ (0 <= ((lat (r1.set v12.toNat (⟨(lat r1 v12).f, (lat r1 v12).t, (lat r1 v12).m, bitI .or .i64 (1 * 2 ^ (min (pickM (((lat x v12).x1).tdiv 30) ((f.dr.length : Nat) : Int)).toNat 64)) (1 * 2 ^ (min (pickM (((lat x v12).x1).tdiv 200) ((f.dr.length : Nat) : Int)).toNat 64))⟩ : Con)) v12).t) /\ ((lat (r1.set v12.toNat (⟨(lat r1 v12).f, (lat r1 v12).t, (lat r1 v12).m, bitI .or .i64 (1 * 2 ^ (min (pickM (((lat x v12).x1).tdiv 30) ((f.dr.length : Nat) : Int)).toNat 64)) (1 * 2 ^ (min (pickM (((lat x v12).x1).tdiv 200) ((f.dr.length : Nat) : Int)).toNat 64))⟩ : Con)) v12).t) < (truth.length : Int)) /\ (0 <= v12 /\ v12 < ((r1.length : Nat) : Int)) /\ (0 <= ((lat (r1.set v12.toNat (⟨(lat r1 v12).f, (lat r1 v12).t, (lat r1 v12).m, bitI .or .i64 (1 * 2 ^ (min (pickM (((lat x v12).x1).tdiv 30) ((f.dr.length : Nat) : Int)).toNat 64)) (1 * 2 ^ (min (pickM (((lat x v12).x1).tdiv 200) ((f.dr.length : Nat) : Int)).toNat 64))⟩ : Con)) v12).f) /\ ((lat (r1.set v12.toNat (⟨(lat r1 v12).f, (lat r1 v12).t, (lat r1 v12).m, bitI .or .i64 (1 * 2 ^ (min (pickM (((lat x v12).x1).tdiv 30) ((f.dr.length : Nat) : Int)).toNat 64)) (1 * 2 ^ (min (pickM (((lat x v12).x1).tdiv 200) ((f.dr.length : Nat) : Int)).toNat 64))⟩ : Con)) v12).f) < (truth.length : Int)) /\ (inI ((lat truth ((lat (r1.set v12.toNat (⟨(lat r1 v12).f, (lat r1 v12).t, (lat r1 v12).m, bitI .or .i64 (1 * 2 ^ (min (pickM (((lat x v12).x1).tdiv 30) ((f.dr.length : Nat) : Int)).toNat 64)) (1 * 2 ^ (min (pickM (((lat x v12).x1).tdiv 200) ((f.dr.length : Nat) : Int)).toNat 64))⟩ : Con)) v12).t)) - (lat truth ((lat (r1.set v12.toNat (⟨(lat r1 v12).f, (lat r1 v12).t, (lat r1 v12).m, bitI .or .i64 (1 * 2 ^ (min (pickM (((lat x v12).x1).tdiv 30) ((f.dr.length : Nat) : Int)).toNat 64)) (1 * 2 ^ (min (pickM (((lat x v12).x1).tdiv 200) ((f.dr.length : Nat) : Int)).toNat 64))⟩ : Con)) v12).f)))) /\ (0 <= v12 /\ v12 < ((r1.length : Nat) : Int)) /\ (inI (((lat truth ((lat (r1.set v12.toNat (⟨(lat r1 v12).f, (lat r1 v12).t, (lat r1 v12).m, bitI .or .i64 (1 * 2 ^ (min (pickM (((lat x v12).x1).tdiv 30) ((f.dr.length : Nat) : Int)).toNat 64)) (1 * 2 ^ (min (pickM (((lat x v12).x1).tdiv 200) ((f.dr.length : Nat) : Int)).toNat 64))⟩ : Con)) v12).t)) - (lat truth ((lat (r1.set v12.toNat (⟨(lat r1 v12).f, (lat r1 v12).t, (lat r1 v12).m, bitI .or .i64 (1 * 2 ^ (min (pickM (((lat x v12).x1).tdiv 30) ((f.dr.length : Nat) : Int)).toNat 64)) (1 * 2 ^ (min (pickM (((lat x v12).x1).tdiv 200) ((f.dr.length : Nat) : Int)).toNat 64))⟩ : Con)) v12).f))) + (max ((lat (r1.set v12.toNat (⟨(lat r1 v12).f, (lat r1 v12).t, (lat r1 v12).m, bitI .or .i64 (1 * 2 ^ (min (pickM (((lat x v12).x1).tdiv 30) ((f.dr.length : Nat) : Int)).toNat 64)) (1 * 2 ^ (min (pickM (((lat x v12).x1).tdiv 200) ((f.dr.length : Nat) : Int)).toNat 64))⟩ : Con)) v12).m) 0))) /\ (0 <= v12 /\ v12 < ((r1.length : Nat) : Int)) /\ J2 ((r1.set v12.toNat (⟨(lat r1 v12).f, (lat r1 v12).t, (lat r1 v12).m, bitI .or .i64 (1 * 2 ^ (min (pickM (((lat x v12).x1).tdiv 30) ((f.dr.length : Nat) : Int)).toNat 64)) (1 * 2 ^ (min (pickM (((lat x v12).x1).tdiv 200) ((f.dr.length : Nat) : Int)).toNat 64))⟩ : Con)).set v12.toNat (⟨(lat (r1.set v12.toNat (⟨(lat r1 v12).f, (lat r1 v12).t, (lat r1 v12).m, bitI .or .i64 (1 * 2 ^ (min (pickM (((lat x v12).x1).tdiv 30) ((f.dr.length : Nat) : Int)).toNat 64)) (1 * 2 ^ (min (pickM (((lat x v12).x1).tdiv 200) ((f.dr.length : Nat) : Int)).toNat 64))⟩ : Con)) v12).f, (lat (r1.set v12.toNat (⟨(lat r1 v12).f, (lat r1 v12).t, (lat r1 v12).m, bitI .or .i64 (1 * 2 ^ (min (pickM (((lat x v12).x1).tdiv 30) ((f.dr.length : Nat) : Int)).toNat 64)) (1 * 2 ^ (min (pickM (((lat x v12).x1).tdiv 200) ((f.dr.length : Nat) : Int)).toNat 64))⟩ : Con)) v12).t, (((lat truth ((lat (r1.set v12.toNat (⟨(lat r1 v12).f, (lat r1 v12).t, (lat r1 v12).m, bitI .or .i64 (1 * 2 ^ (min (pickM (((lat x v12).x1).tdiv 30) ((f.dr.length : Nat) : Int)).toNat 64)) (1 * 2 ^ (min (pickM (((lat x v12).x1).tdiv 200) ((f.dr.length : Nat) : Int)).toNat 64))⟩ : Con)) v12).t)) - (lat truth ((lat (r1.set v12.toNat (⟨(lat r1 v12).f, (lat r1 v12).t, (lat r1 v12).m, bitI .or .i64 (1 * 2 ^ (min (pickM (((lat x v12).x1).tdiv 30) ((f.dr.length : Nat) : Int)).toNat 64)) (1 * 2 ^ (min (pickM (((lat x v12).x1).tdiv 200) ((f.dr.length : Nat) : Int)).toNat 64))⟩ : Con)) v12).f))) + (max ((lat (r1.set v12.toNat (⟨(lat r1 v12).f, (lat r1 v12).t, (lat r1 v12).m, bitI .or .i64 (1 * 2 ^ (min (pickM (((lat x v12).x1).tdiv 30) ((f.dr.length : Nat) : Int)).toNat 64)) (1 * 2 ^ (min (pickM (((lat x v12).x1).tdiv 200) ((f.dr.length : Nat) : Int)).toNat 64))⟩ : Con)) v12).m) 0)), (lat (r1.set v12.toNat (⟨(lat r1 v12).f, (lat r1 v12).t, (lat r1 v12).m, bitI .or .i64 (1 * 2 ^ (min (pickM (((lat x v12).x1).tdiv 30) ((f.dr.length : Nat) : Int)).toNat 64)) (1 * 2 ^ (min (pickM (((lat x v12).x1).tdiv 200) ((f.dr.length : Nat) : Int)).toNat 64))⟩ : Con)) v12).a⟩ : Con))) /\ (¬ (bitI .and .i64 ((lat (r1.set v12.toNat (⟨(lat r1 v12).f, (lat r1 v12).t, (lat r1 v12).m, bitI .or .i64 (1 * 2 ^ (min (pickM (((lat x v12).x1).tdiv 30) ((f.dr.length : Nat) : Int)).toNat 64)) (1 * 2 ^ (min (pickM (((lat x v12).x1).tdiv 200) ((f.dr.length : Nat) : Int)).toNat 64))⟩ : Con)) v12).a) honest = (lat (r1.set v12.toNat (⟨(lat r1 v12).f, (lat r1 v12).t, (lat r1 v12).m, bitI .or .i64 (1 * 2 ^ (min (pickM (((lat x v12).x1).tdiv 30) ((f.dr.length : Nat) : Int)).toNat 64)) (1 * 2 ^ (min (pickM (((lat x v12).x1).tdiv 200) ((f.dr.length : Nat) : Int)).toNat 64))⟩ : Con)) v12).a) -> J2 (r1.set v12.toNat (⟨(lat r1 v12).f, (lat r1 v12).t, (lat r1 v12).m, bitI .or .i64 (1 * 2 ^ (min (pickM (((lat x v12).x1).tdiv 30) ((f.dr.length : Nat) : Int)).toNat 64)) (1 * 2 ^ (min (pickM (((lat x v12).x1).tdiv 200) ((f.dr.length : Nat) : Int)).toNat 64))⟩ : Con))))) /\ (¬ (v12 < ((r1.length : Nat) : Int)) -> Post r1)
theorem walk_bmade {f : Flt} {n : Int} {x : (List A3)} {honest : Int} {truth : (List Int)} {Post : (List Con) -> Prop} (hv : vc_bmade f n x honest truth Post) : FnP Try.prog 33 [.agg ((e27 true) f), .int .i64 n, .lst true x.length (zYy e29 x), .int .i64 honest, .lst true truth.length (zYy zYx truth)] (fun x => ∃ q0, x = .lst false q0.length (zYy e66 q0) /\ Post q0) := by
 refine FnP.of_walk (T := tt) (nt := 99) ttOk ttMix ⟨⟨Try.f33, Try.func33, rfl, rfl, rfl, rfl⟩⟩ (by simp) ?_
 unfold vc_bmade at hv
 change W _ _ _ ⟨99, look [(0, .agg [.lst true f.dr.length (zYy zYx f.dr), .int .i64 f.la, .int .i64 f.li, .lst true f.sv.length (zYy zYx f.sv), .lst true f.tm.length (zYy zYx f.tm)]), (1, .int .i64 n), (2, .lst true x.length (zYy e29 x)), (3, .int .i64 honest), (4, .lst true truth.length (zYy zYx truth))], [], 0⟩ _
 refine W.rL (cL rfl (o_box (v := .agg _) (p := 0) rfl rfl rfl (cL rfl (zZq (v := .nilS) rfl (eL (W.tr [(1, .int _ _), (2, .lst _ _ _), (3, .int _ _), (4, .lst _ _ _), (5, .ptr _ _)] [.box _ [.lst _ _ _, .int _ _, .int _ _, .lst _ _ _, .lst _ _ _]] ⟨rfl, rfl, rfl, rfl, rfl, trivial⟩ rfl (W.rH (cH rfl (zZp (v := .int _ _) rfl ?_)))))))))
 iterate 2 refine cH rfl (zZp (v := .lst _ _ _) rfl ?_)
 refine cH rfl (zXq (v := .lst _ _ _) tt22 rfl rfl (cH rfl (o_min rfl rfl ?_)))
 obtain ⟨s1, hv⟩ := hv
 refine cH rfl (o_slL tt22 tt29 rfl (enc29.wd true) rfl rfl rfl s1 (ys := x.take (min ((x.length : Nat) : Int) 24).toNat) (by simp) ?_)
 obtain ⟨s2, s3, s4, hv⟩ := hv
 refine cHc rfl (callH_R1 (xs := _) (spec_madeR n (x.take (min ((x.length : Nat) : Int) 24).toNat) s2 s3 s4) (Wks.cons (zZz _ _ _ _) (Wks.cons (zZs _ _ _ _ _) (Wks.refl _))) (flat66 _) rfl (cH rfl (zZq (v := .ref _ _ _) rfl (eH (W.tr [(2, .lst _ _ _), (3, .int _ _), (4, .lst _ _ _), (5, .ptr _ _), (11, .ref _ _ _)] [.box _ [.lst _ _ _, .int _ _, .int _ _, .lst _ _ _, .lst _ _ _], .row _ _ _] ⟨rfl, rfl, rfl, rfl, rfl, trivial⟩ rfl (W.seq' (W.rL (aI rfl rfl (eL (W.block ?_))))))))))
 obtain ⟨I1, μ1, hp, hv⟩ := hv
 refine W.loop2 (fun v12 r1 => ⟨99, look [(2, .lst true x.length (zYy e29 x)), (3, .int .i64 honest), (4, .lst true truth.length (zYy zYx truth)), (5, .ptr 0 0), (11, .ref false 1 r1.length), (12, .int .i64 v12)], [.box 27 [.lst true f.dr.length (zYy zYx f.dr), .int .i64 f.la, .int .i64 f.li, .lst true f.sv.length (zYy zYx f.sv), .lst true f.tm.length (zYy zYx f.tm)], .row 66 4 (zYy e66 r1)], 0⟩) I1 μ1 0 (madeM n (x.take (min ((x.length : Nat) : Int) 24).toNat)) (St.to_mk (φ := [some 0, some 1]) rfl (rfl) ⟨Ren.lst _ _ _, Ren.int _ _, Ren.lst _ _ _, Ren.ptr rfl, Ren.ref rfl (fun h => h), Ren.int _ _, trivial⟩ ⟨.inr ⟨_, rfl, rfl, Rens.cons (Ren.lst _ _ _) (Rens.cons (Ren.int _ _) (Rens.cons (Ren.int _ _) (Rens.cons (Ren.lst _ _ _) (Rens.cons (Ren.lst _ _ _) (Rens.nil)))))⟩, .inr ⟨_, rfl, rfl, rfl, rfl, Rens.enc enc66 false (madeM n (x.take (min ((x.length : Nat) : Int) 24).toNat))⟩, trivial⟩) hp ?_
 clear hp
 intro v12 r1 hI
 replace hv := hv v12 r1 hI
 clear hI
 refine W.seq' (W.rL (mI rfl rfl (cL rfl (zZp (v := .ref _ _ _) rfl (cL rfl (zXq (v := .ref _ _ _) tt28 rfl rfl (cL rfl (zXw rfl rfl (eL (W.tr [(2, .lst _ _ _), (3, .int _ _), (4, .lst _ _ _), (5, .ptr _ _), (11, .ref _ _ _), (12, .int _ _), (25, .bool _)] [.box _ [.lst _ _ _, .int _ _, .int _ _, .lst _ _ _, .lst _ _ _], .row _ _ _] ⟨rfl, rfl, rfl, rfl, rfl, rfl, rfl, trivial⟩ rfl (W.cn rfl (fun hc => ?_) (fun hc => ?_))))))))))))
 have hv := hv.1 hc
 refine W.skip (zZ ?_)
 obtain ⟨J2, hj, hv⟩ := hv
 refine W.mid1 (fun r1_1 => ⟨99, look [(2, .lst true x.length (zYy e29 x)), (3, .int .i64 honest), (4, .lst true truth.length (zYy zYx truth)), (5, .ptr 0 0), (11, .ref false 1 r1_1.length), (12, .int .i64 v12)], [.box 27 [.lst true f.dr.length (zYy zYx f.dr), .int .i64 f.la, .int .i64 f.li, .lst true f.sv.length (zYy zYx f.sv), .lst true f.tm.length (zYy zYx f.tm)], .row 66 4 (zYy e66 r1_1)], 0⟩) J2 ?_ ?_
 intro r1_1
 intro hv
 replace hv := hj r1_1 hv
 refine W.rL1 (mI rfl rfl ?_)
 obtain ⟨s263, hv⟩ := hv
 refine cL rfl (o_add rfl rfl s263 (aI rfl rfl (eL (zZ (⟨(), (v12 + 1), r1_1, hv, St.to_mk (φ := [some 0, some 1]) rfl (rfl) ⟨Ren.lst _ _ _, Ren.int _ _, Ren.lst _ _ _, Ren.ptr rfl, Ren.ref rfl (fun h => h), Ren.int _ _, trivial⟩ ⟨.inr ⟨_, rfl, rfl, Rens.cons (Ren.lst _ _ _) (Rens.cons (Ren.int _ _) (Rens.cons (Ren.int _ _) (Rens.cons (Ren.lst _ _ _) (Rens.cons (Ren.lst _ _ _) (Rens.nil)))))⟩, .inr ⟨_, rfl, rfl, rfl, rfl, Rens.enc enc66 false r1_1⟩, trivial⟩⟩)))))
 clear hj
 refine W.block (W.rD [0, 1, 2, 3, 4, 5, 6, 7, 8, 9, 10] (by decide +kernel) rfl (mL rfl rfl (mI rfl rfl ?_)))
 obtain ⟨s264, hv⟩ := hv
 refine cL rfl (zYp tt22 tt29 rfl rfl (enc29.wd true) rfl s264 ?_)
 intro rest264
 refine cL rfl (o_iaP tt29 tt3 rfl rfl ⟨by decide, by decide⟩ (cL rfl (zZx (v := .int _ _) tt3 rfl rfl ⟨_, rfl⟩ ?_)))
 obtain ⟨s265, hv⟩ := hv
 refine cL rfl (o_quo rfl rfl (by decide) s265 (cL rfl (o_fa tt27 rfl tt23 rfl (cL rfl (zZx (v := .lst _ _ _) tt23 rfl rfl ⟨_, rfl⟩ (cL rfl (zXq (v := .lst _ _ _) tt23 rfl rfl ?_)))))))
 obtain ⟨s266, s267, hv⟩ := hv
 refine cL rfl (zZu (k := 52) (fst := []) (caps := []) (ys := [.int _ _, .int _ _]) rfl rfl (spec_tpick (((lat x v12).x1).tdiv 30) ((f.dr.length : Nat) : Int) s266 s267) (Wks.cons (zZz _ _ _ _) (Wks.cons (zZz _ _ _ _) (Wks.refl _))) (aI rfl rfl (eL (W.rD [0, 1, 2, 3, 4, 5, 6, 7, 8, 9, 10] (by decide +kernel) rfl (mL rfl rfl (mI rfl rfl ?_))))))
 obtain ⟨s268, hv⟩ := hv
 refine cL rfl (zYp tt22 tt29 rfl rfl (enc29.wd true) rfl s268 ?_)
 intro rest268
 refine cL rfl (o_iaP tt29 tt3 rfl rfl ⟨by decide, by decide⟩ (cL rfl (zZx (v := .int _ _) tt3 rfl rfl ⟨_, rfl⟩ ?_)))
 obtain ⟨s269, hv⟩ := hv
 refine cL rfl (o_quo rfl rfl (by decide) s269 (cL rfl (o_fa tt27 rfl tt23 rfl (cL rfl (zZx (v := .lst _ _ _) tt23 rfl rfl ⟨_, rfl⟩ (cL rfl (zXq (v := .lst _ _ _) tt23 rfl rfl ?_)))))))
 obtain ⟨s270, s271, hv⟩ := hv
 refine cL rfl (zZu (k := 52) (fst := []) (caps := []) (ys := [.int _ _, .int _ _]) rfl rfl (spec_tpick (((lat x v12).x1).tdiv 200) ((f.dr.length : Nat) : Int) s270 s271) (Wks.cons (zZz _ _ _ _) (Wks.cons (zZz _ _ _ _) (Wks.refl _))) (aI rfl rfl (eL (W.tr [(2, .lst _ _ _), (3, .int _ _), (4, .lst _ _ _), (5, .ptr _ _), (11, .ref _ _ _), (12, .int _ _), (13, .int _ _), (14, .int _ _)] [.box _ [.lst _ _ _, .int _ _, .int _ _, .lst _ _ _, .lst _ _ _], .row _ _ _] ⟨rfl, rfl, rfl, rfl, rfl, rfl, rfl, rfl, trivial⟩ rfl (W.rD [0, 1, 2, 3, 4, 5, 6, 7, 8, 9] (by decide +kernel) rfl (cL rfl (zZp (v := .ref _ _ _) rfl ?_)))))))
 iterate 2 refine mI rfl rfl ?_
 obtain ⟨s272, s273, hv⟩ := hv
 refine cL rfl (o_shl rfl rfl s272 s273 (mI rfl rfl ?_))
 obtain ⟨s274, s275, hv⟩ := hv
 refine cL rfl (o_shl rfl rfl s274 s275 (cL rfl (o_or rfl rfl ?_)))
 obtain ⟨s276, hv⟩ := hv
 refine cL rfl (o_iaR tt28 tt66 rfl rfl s276 (cL rfl (o_fa tt66 rfl tt3 rfl (cLn (o_stR (v := .int _ _) (vs := [.int _ _]) tt3 rfl rfl rfl rfl rfl (row_inF (xs := r1) (enc66.wd false) s276 rfl) (row_setF (e := e66) (enc66.wd false) _ _ 3 (⟨(lat r1 v12).f, (lat r1 v12).t, (lat r1 v12).m, bitI .or .i64 (1 * 2 ^ (min (pickM (((lat x v12).x1).tdiv 30) ((f.dr.length : Nat) : Int)).toNat 64)) (1 * 2 ^ (min (pickM (((lat x v12).x1).tdiv 200) ((f.dr.length : Nat) : Int)).toNat 64))⟩ : Con) rfl rfl s276) (eL (W.tr [(2, .lst _ _ _), (3, .int _ _), (4, .lst _ _ _), (5, .ptr _ _), (11, .ref _ _ _), (12, .int _ _)] [.box _ [.lst _ _ _, .int _ _, .int _ _, .lst _ _ _, .lst _ _ _], .row _ _ _] ⟨rfl, rfl, rfl, rfl, rfl, rfl, trivial⟩ rfl (W.rD [0, 1, 2, 3, 4, 5, 6, 7, 8, 9, 10, 11, 12] (by decide +kernel) rfl (cL rfl (zZp (v := .ref _ _ _) rfl (mI rfl rfl ?_)))))))))))
 obtain ⟨s277, hv⟩ := hv
 refine cL rfl (o_iaR tt28 tt66 rfl rfl s277 ?_)
 have s277q : 0 <= v12 /\ v12 < (((r1.set v12.toNat (⟨(lat r1 v12).f, (lat r1 v12).t, (lat r1 v12).m, bitI .or .i64 (1 * 2 ^ (min (pickM (((lat x v12).x1).tdiv 30) ((f.dr.length : Nat) : Int)).toNat 64)) (1 * 2 ^ (min (pickM (((lat x v12).x1).tdiv 200) ((f.dr.length : Nat) : Int)).toNat 64))⟩ : Con)).length : Nat) : Int) := by simpa using s277
 refine cL rfl (o_fa tt66 rfl tt3 rfl (cL rfl (zZx (v := .int _ _) tt3 rfl rfl (cell_of (ca_rowF (xs := r1.set v12.toNat (⟨(lat r1 v12).f, (lat r1 v12).t, (lat r1 v12).m, bitI .or .i64 (1 * 2 ^ (min (pickM (((lat x v12).x1).tdiv 30) ((f.dr.length : Nat) : Int)).toNat 64)) (1 * 2 ^ (min (pickM (((lat x v12).x1).tdiv 200) ((f.dr.length : Nat) : Int)).toNat 64))⟩ : Con)) (k := 3) rfl (enc66.wd false) s277q rfl) rfl) (mI rfl rfl (cL rfl (o_and rfl rfl (cL rfl (zZp (v := .ref _ _ _) rfl (mI rfl rfl ?_)))))))))
 obtain ⟨s278, hv⟩ := hv
 refine cL rfl (o_iaR tt28 tt66 rfl rfl s278 ?_)
 have s278q : 0 <= v12 /\ v12 < (((r1.set v12.toNat (⟨(lat r1 v12).f, (lat r1 v12).t, (lat r1 v12).m, bitI .or .i64 (1 * 2 ^ (min (pickM (((lat x v12).x1).tdiv 30) ((f.dr.length : Nat) : Int)).toNat 64)) (1 * 2 ^ (min (pickM (((lat x v12).x1).tdiv 200) ((f.dr.length : Nat) : Int)).toNat 64))⟩ : Con)).length : Nat) : Int) := by simpa using s278
 refine cL rfl (o_fa tt66 rfl tt3 rfl (cL rfl (zZx (v := .int _ _) tt3 rfl rfl (cell_of (ca_rowF (xs := r1.set v12.toNat (⟨(lat r1 v12).f, (lat r1 v12).t, (lat r1 v12).m, bitI .or .i64 (1 * 2 ^ (min (pickM (((lat x v12).x1).tdiv 30) ((f.dr.length : Nat) : Int)).toNat 64)) (1 * 2 ^ (min (pickM (((lat x v12).x1).tdiv 200) ((f.dr.length : Nat) : Int)).toNat 64))⟩ : Con)) (k := 3) rfl (enc66.wd false) s278q rfl) rfl) (cL rfl (o_eqI rfl rfl rfl (eL (W.tr [(2, .lst _ _ _), (3, .int _ _), (4, .lst _ _ _), (5, .ptr _ _), (11, .ref _ _ _), (12, .int _ _), (69, .bool _)] [.box _ [.lst _ _ _, .int _ _, .int _ _, .lst _ _ _, .lst _ _ _], .row _ _ _] ⟨rfl, rfl, rfl, rfl, rfl, rfl, rfl, trivial⟩ rfl (W.cn rfl (fun hc => ?_) (fun hc => ?_)))))))))
 have hv := hv.1 hc
 refine W.rD1 [0, 1, 2, 3, 4, 5, 6, 7, 8, 9, 10, 11, 12, 13, 14, 15, 16, 17, 18, 19, 20, 21, 22, 23, 24, 25, 26, 27, 28] (by decide +kernel) rfl (cL rfl (zZp (v := .ref _ _ _) rfl (mI rfl rfl (mL rfl rfl (cL rfl (zZp (v := .ref _ _ _) rfl (mI rfl rfl ?_)))))))
 obtain ⟨s279, hv⟩ := hv
 refine cL rfl (o_iaR tt28 tt66 rfl rfl s279 ?_)
 have s279q : 0 <= v12 /\ v12 < (((r1.set v12.toNat (⟨(lat r1 v12).f, (lat r1 v12).t, (lat r1 v12).m, bitI .or .i64 (1 * 2 ^ (min (pickM (((lat x v12).x1).tdiv 30) ((f.dr.length : Nat) : Int)).toNat 64)) (1 * 2 ^ (min (pickM (((lat x v12).x1).tdiv 200) ((f.dr.length : Nat) : Int)).toNat 64))⟩ : Con)).length : Nat) : Int) := by simpa using s279
 refine cL rfl (o_fa tt66 rfl tt3 rfl (cL rfl (zZx (v := .int _ _) tt3 rfl rfl (cell_of (ca_rowF (xs := r1.set v12.toNat (⟨(lat r1 v12).f, (lat r1 v12).t, (lat r1 v12).m, bitI .or .i64 (1 * 2 ^ (min (pickM (((lat x v12).x1).tdiv 30) ((f.dr.length : Nat) : Int)).toNat 64)) (1 * 2 ^ (min (pickM (((lat x v12).x1).tdiv 200) ((f.dr.length : Nat) : Int)).toNat 64))⟩ : Con)) (k := 1) rfl (enc66.wd false) s279q rfl) rfl) ?_)))
 obtain ⟨s280, hv⟩ := hv
 refine cL rfl (zYp tt23 tt3 rfl rfl (zZw.wd true) rfl s280 ?_)
 intro rest280
 refine cL rfl (zZx (v := .int _ _) tt3 rfl rfl ⟨_, rfl⟩ (mL rfl rfl (cL rfl (zZp (v := .ref _ _ _) rfl (mI rfl rfl ?_)))))
 obtain ⟨s281, hv⟩ := hv
 refine cL rfl (o_iaR tt28 tt66 rfl rfl s281 ?_)
 have s281q : 0 <= v12 /\ v12 < (((r1.set v12.toNat (⟨(lat r1 v12).f, (lat r1 v12).t, (lat r1 v12).m, bitI .or .i64 (1 * 2 ^ (min (pickM (((lat x v12).x1).tdiv 30) ((f.dr.length : Nat) : Int)).toNat 64)) (1 * 2 ^ (min (pickM (((lat x v12).x1).tdiv 200) ((f.dr.length : Nat) : Int)).toNat 64))⟩ : Con)).length : Nat) : Int) := by simpa using s281
 refine cL rfl (o_fa tt66 rfl tt3 rfl (cL rfl (zZx (v := .int _ _) tt3 rfl rfl (cell_of (ca_rowF (xs := r1.set v12.toNat (⟨(lat r1 v12).f, (lat r1 v12).t, (lat r1 v12).m, bitI .or .i64 (1 * 2 ^ (min (pickM (((lat x v12).x1).tdiv 30) ((f.dr.length : Nat) : Int)).toNat 64)) (1 * 2 ^ (min (pickM (((lat x v12).x1).tdiv 200) ((f.dr.length : Nat) : Int)).toNat 64))⟩ : Con)) (k := 0) rfl (enc66.wd false) s281q rfl) rfl) ?_)))
 obtain ⟨s282, hv⟩ := hv
 refine cL rfl (zYp tt23 tt3 rfl rfl (zZw.wd true) rfl s282 ?_)
 intro rest282
 refine cL rfl (zZx (v := .int _ _) tt3 rfl rfl ⟨_, rfl⟩ ?_)
 obtain ⟨s283, hv⟩ := hv
 refine cL rfl (o_sub rfl rfl s283 (cL rfl (zZp (v := .ref _ _ _) rfl (mI rfl rfl ?_))))
 obtain ⟨s284, hv⟩ := hv
 refine cL rfl (o_iaR tt28 tt66 rfl rfl s284 ?_)
 have s284q : 0 <= v12 /\ v12 < (((r1.set v12.toNat (⟨(lat r1 v12).f, (lat r1 v12).t, (lat r1 v12).m, bitI .or .i64 (1 * 2 ^ (min (pickM (((lat x v12).x1).tdiv 30) ((f.dr.length : Nat) : Int)).toNat 64)) (1 * 2 ^ (min (pickM (((lat x v12).x1).tdiv 200) ((f.dr.length : Nat) : Int)).toNat 64))⟩ : Con)).length : Nat) : Int) := by simpa using s284
 refine cL rfl (o_fa tt66 rfl tt3 rfl (cL rfl (zZx (v := .int _ _) tt3 rfl rfl (cell_of (ca_rowF (xs := r1.set v12.toNat (⟨(lat r1 v12).f, (lat r1 v12).t, (lat r1 v12).m, bitI .or .i64 (1 * 2 ^ (min (pickM (((lat x v12).x1).tdiv 30) ((f.dr.length : Nat) : Int)).toNat 64)) (1 * 2 ^ (min (pickM (((lat x v12).x1).tdiv 200) ((f.dr.length : Nat) : Int)).toNat 64))⟩ : Con)) (k := 2) rfl (enc66.wd false) s284q rfl) rfl) (cL rfl (o_max rfl rfl ?_)))))
 obtain ⟨s285, hv⟩ := hv
 refine cL rfl (o_add rfl rfl s285 ?_)
 obtain ⟨s286, hv⟩ := hv
 refine cL rfl (o_iaR tt28 tt66 rfl rfl s286 ?_)
 have s286q : 0 <= v12 /\ v12 < (((r1.set v12.toNat (⟨(lat r1 v12).f, (lat r1 v12).t, (lat r1 v12).m, bitI .or .i64 (1 * 2 ^ (min (pickM (((lat x v12).x1).tdiv 30) ((f.dr.length : Nat) : Int)).toNat 64)) (1 * 2 ^ (min (pickM (((lat x v12).x1).tdiv 200) ((f.dr.length : Nat) : Int)).toNat 64))⟩ : Con)).length : Nat) : Int) := by simpa using s286
 refine cL rfl (o_fa tt66 rfl tt3 rfl (cLn (o_stR (v := .int _ _) (vs := [.int _ _]) tt3 rfl rfl rfl rfl rfl (row_inF (xs := r1.set v12.toNat (⟨(lat r1 v12).f, (lat r1 v12).t, (lat r1 v12).m, bitI .or .i64 (1 * 2 ^ (min (pickM (((lat x v12).x1).tdiv 30) ((f.dr.length : Nat) : Int)).toNat 64)) (1 * 2 ^ (min (pickM (((lat x v12).x1).tdiv 200) ((f.dr.length : Nat) : Int)).toNat 64))⟩ : Con)) (enc66.wd false) s286q rfl) (row_setF (e := e66) (enc66.wd false) _ _ 2 (⟨(lat (r1.set v12.toNat (⟨(lat r1 v12).f, (lat r1 v12).t, (lat r1 v12).m, bitI .or .i64 (1 * 2 ^ (min (pickM (((lat x v12).x1).tdiv 30) ((f.dr.length : Nat) : Int)).toNat 64)) (1 * 2 ^ (min (pickM (((lat x v12).x1).tdiv 200) ((f.dr.length : Nat) : Int)).toNat 64))⟩ : Con)) v12).f, (lat (r1.set v12.toNat (⟨(lat r1 v12).f, (lat r1 v12).t, (lat r1 v12).m, bitI .or .i64 (1 * 2 ^ (min (pickM (((lat x v12).x1).tdiv 30) ((f.dr.length : Nat) : Int)).toNat 64)) (1 * 2 ^ (min (pickM (((lat x v12).x1).tdiv 200) ((f.dr.length : Nat) : Int)).toNat 64))⟩ : Con)) v12).t, (((lat truth ((lat (r1.set v12.toNat (⟨(lat r1 v12).f, (lat r1 v12).t, (lat r1 v12).m, bitI .or .i64 (1 * 2 ^ (min (pickM (((lat x v12).x1).tdiv 30) ((f.dr.length : Nat) : Int)).toNat 64)) (1 * 2 ^ (min (pickM (((lat x v12).x1).tdiv 200) ((f.dr.length : Nat) : Int)).toNat 64))⟩ : Con)) v12).t)) - (lat truth ((lat (r1.set v12.toNat (⟨(lat r1 v12).f, (lat r1 v12).t, (lat r1 v12).m, bitI .or .i64 (1 * 2 ^ (min (pickM (((lat x v12).x1).tdiv 30) ((f.dr.length : Nat) : Int)).toNat 64)) (1 * 2 ^ (min (pickM (((lat x v12).x1).tdiv 200) ((f.dr.length : Nat) : Int)).toNat 64))⟩ : Con)) v12).f))) + (max ((lat (r1.set v12.toNat (⟨(lat r1 v12).f, (lat r1 v12).t, (lat r1 v12).m, bitI .or .i64 (1 * 2 ^ (min (pickM (((lat x v12).x1).tdiv 30) ((f.dr.length : Nat) : Int)).toNat 64)) (1 * 2 ^ (min (pickM (((lat x v12).x1).tdiv 200) ((f.dr.length : Nat) : Int)).toNat 64))⟩ : Con)) v12).m) 0)), (lat (r1.set v12.toNat (⟨(lat r1 v12).f, (lat r1 v12).t, (lat r1 v12).m, bitI .or .i64 (1 * 2 ^ (min (pickM (((lat x v12).x1).tdiv 30) ((f.dr.length : Nat) : Int)).toNat 64)) (1 * 2 ^ (min (pickM (((lat x v12).x1).tdiv 200) ((f.dr.length : Nat) : Int)).toNat 64))⟩ : Con)) v12).a⟩ : Con) rfl rfl s286q) (eL (zYq (zZ (⟨(), ((r1.set v12.toNat (⟨(lat r1 v12).f, (lat r1 v12).t, (lat r1 v12).m, bitI .or .i64 (1 * 2 ^ (min (pickM (((lat x v12).x1).tdiv 30) ((f.dr.length : Nat) : Int)).toNat 64)) (1 * 2 ^ (min (pickM (((lat x v12).x1).tdiv 200) ((f.dr.length : Nat) : Int)).toNat 64))⟩ : Con)).set v12.toNat (⟨(lat (r1.set v12.toNat (⟨(lat r1 v12).f, (lat r1 v12).t, (lat r1 v12).m, bitI .or .i64 (1 * 2 ^ (min (pickM (((lat x v12).x1).tdiv 30) ((f.dr.length : Nat) : Int)).toNat 64)) (1 * 2 ^ (min (pickM (((lat x v12).x1).tdiv 200) ((f.dr.length : Nat) : Int)).toNat 64))⟩ : Con)) v12).f, (lat (r1.set v12.toNat (⟨(lat r1 v12).f, (lat r1 v12).t, (lat r1 v12).m, bitI .or .i64 (1 * 2 ^ (min (pickM (((lat x v12).x1).tdiv 30) ((f.dr.length : Nat) : Int)).toNat 64)) (1 * 2 ^ (min (pickM (((lat x v12).x1).tdiv 200) ((f.dr.length : Nat) : Int)).toNat 64))⟩ : Con)) v12).t, (((lat truth ((lat (r1.set v12.toNat (⟨(lat r1 v12).f, (lat r1 v12).t, (lat r1 v12).m, bitI .or .i64 (1 * 2 ^ (min (pickM (((lat x v12).x1).tdiv 30) ((f.dr.length : Nat) : Int)).toNat 64)) (1 * 2 ^ (min (pickM (((lat x v12).x1).tdiv 200) ((f.dr.length : Nat) : Int)).toNat 64))⟩ : Con)) v12).t)) - (lat truth ((lat (r1.set v12.toNat (⟨(lat r1 v12).f, (lat r1 v12).t, (lat r1 v12).m, bitI .or .i64 (1 * 2 ^ (min (pickM (((lat x v12).x1).tdiv 30) ((f.dr.length : Nat) : Int)).toNat 64)) (1 * 2 ^ (min (pickM (((lat x v12).x1).tdiv 200) ((f.dr.length : Nat) : Int)).toNat 64))⟩ : Con)) v12).f))) + (max ((lat (r1.set v12.toNat (⟨(lat r1 v12).f, (lat r1 v12).t, (lat r1 v12).m, bitI .or .i64 (1 * 2 ^ (min (pickM (((lat x v12).x1).tdiv 30) ((f.dr.length : Nat) : Int)).toNat 64)) (1 * 2 ^ (min (pickM (((lat x v12).x1).tdiv 200) ((f.dr.length : Nat) : Int)).toNat 64))⟩ : Con)) v12).m) 0)), (lat (r1.set v12.toNat (⟨(lat r1 v12).f, (lat r1 v12).t, (lat r1 v12).m, bitI .or .i64 (1 * 2 ^ (min (pickM (((lat x v12).x1).tdiv 30) ((f.dr.length : Nat) : Int)).toNat 64)) (1 * 2 ^ (min (pickM (((lat x v12).x1).tdiv 200) ((f.dr.length : Nat) : Int)).toNat 64))⟩ : Con)) v12).a⟩ : Con)), hv, St.to_mk (φ := [some 0, some 1]) rfl (rfl) ⟨Ren.lst _ _ _, Ren.int _ _, Ren.lst _ _ _, Ren.ptr rfl, Ren.refL rfl (fun h => h) (by simp), Ren.int _ _, trivial⟩ ⟨.inr ⟨_, rfl, rfl, Rens.cons (Ren.lst _ _ _) (Rens.cons (Ren.int _ _) (Rens.cons (Ren.int _ _) (Rens.cons (Ren.lst _ _ _) (Rens.cons (Ren.lst _ _ _) (Rens.nil)))))⟩, .inr ⟨_, rfl, rfl, rfl, rfl, Rens.enc enc66 false ((r1.set v12.toNat (⟨(lat r1 v12).f, (lat r1 v12).t, (lat r1 v12).m, bitI .or .i64 (1 * 2 ^ (min (pickM (((lat x v12).x1).tdiv 30) ((f.dr.length : Nat) : Int)).toNat 64)) (1 * 2 ^ (min (pickM (((lat x v12).x1).tdiv 200) ((f.dr.length : Nat) : Int)).toNat 64))⟩ : Con)).set v12.toNat (⟨(lat (r1.set v12.toNat (⟨(lat r1 v12).f, (lat r1 v12).t, (lat r1 v12).m, bitI .or .i64 (1 * 2 ^ (min (pickM (((lat x v12).x1).tdiv 30) ((f.dr.length : Nat) : Int)).toNat 64)) (1 * 2 ^ (min (pickM (((lat x v12).x1).tdiv 200) ((f.dr.length : Nat) : Int)).toNat 64))⟩ : Con)) v12).f, (lat (r1.set v12.toNat (⟨(lat r1 v12).f, (lat r1 v12).t, (lat r1 v12).m, bitI .or .i64 (1 * 2 ^ (min (pickM (((lat x v12).x1).tdiv 30) ((f.dr.length : Nat) : Int)).toNat 64)) (1 * 2 ^ (min (pickM (((lat x v12).x1).tdiv 200) ((f.dr.length : Nat) : Int)).toNat 64))⟩ : Con)) v12).t, (((lat truth ((lat (r1.set v12.toNat (⟨(lat r1 v12).f, (lat r1 v12).t, (lat r1 v12).m, bitI .or .i64 (1 * 2 ^ (min (pickM (((lat x v12).x1).tdiv 30) ((f.dr.length : Nat) : Int)).toNat 64)) (1 * 2 ^ (min (pickM (((lat x v12).x1).tdiv 200) ((f.dr.length : Nat) : Int)).toNat 64))⟩ : Con)) v12).t)) - (lat truth ((lat (r1.set v12.toNat (⟨(lat r1 v12).f, (lat r1 v12).t, (lat r1 v12).m, bitI .or .i64 (1 * 2 ^ (min (pickM (((lat x v12).x1).tdiv 30) ((f.dr.length : Nat) : Int)).toNat 64)) (1 * 2 ^ (min (pickM (((lat x v12).x1).tdiv 200) ((f.dr.length : Nat) : Int)).toNat 64))⟩ : Con)) v12).f))) + (max ((lat (r1.set v12.toNat (⟨(lat r1 v12).f, (lat r1 v12).t, (lat r1 v12).m, bitI .or .i64 (1 * 2 ^ (min (pickM (((lat x v12).x1).tdiv 30) ((f.dr.length : Nat) : Int)).toNat 64)) (1 * 2 ^ (min (pickM (((lat x v12).x1).tdiv 200) ((f.dr.length : Nat) : Int)).toNat 64))⟩ : Con)) v12).m) 0)), (lat (r1.set v12.toNat (⟨(lat r1 v12).f, (lat r1 v12).t, (lat r1 v12).m, bitI .or .i64 (1 * 2 ^ (min (pickM (((lat x v12).x1).tdiv 30) ((f.dr.length : Nat) : Int)).toNat 64)) (1 * 2 ^ (min (pickM (((lat x v12).x1).tdiv 200) ((f.dr.length : Nat) : Int)).toNat 64))⟩ : Con)) v12).a⟩ : Con))⟩, trivial⟩⟩)))))))
 have hv := hv.2 hc
 refine W.skip (zYq (zZ (⟨(), (r1.set v12.toNat (⟨(lat r1 v12).f, (lat r1 v12).t, (lat r1 v12).m, bitI .or .i64 (1 * 2 ^ (min (pickM (((lat x v12).x1).tdiv 30) ((f.dr.length : Nat) : Int)).toNat 64)) (1 * 2 ^ (min (pickM (((lat x v12).x1).tdiv 200) ((f.dr.length : Nat) : Int)).toNat 64))⟩ : Con)), hv, St.to_mk (φ := [some 0, some 1]) rfl (rfl) ⟨Ren.lst _ _ _, Ren.int _ _, Ren.lst _ _ _, Ren.ptr rfl, Ren.refL rfl (fun h => h) (by simp), Ren.int _ _, trivial⟩ ⟨.inr ⟨_, rfl, rfl, Rens.cons (Ren.lst _ _ _) (Rens.cons (Ren.int _ _) (Rens.cons (Ren.int _ _) (Rens.cons (Ren.lst _ _ _) (Rens.cons (Ren.lst _ _ _) (Rens.nil)))))⟩, .inr ⟨_, rfl, rfl, rfl, rfl, Rens.enc enc66 false (r1.set v12.toNat (⟨(lat r1 v12).f, (lat r1 v12).t, (lat r1 v12).m, bitI .or .i64 (1 * 2 ^ (min (pickM (((lat x v12).x1).tdiv 30) ((f.dr.length : Nat) : Int)).toNat 64)) (1 * 2 ^ (min (pickM (((lat x v12).x1).tdiv 200) ((f.dr.length : Nat) : Int)).toNat 64))⟩ : Con))⟩, trivial⟩⟩)))
 have hv := hv.2 hc
 refine W.exit (zZt (zZt (zXy (zZ (W.rL (cL rfl (zZp (v := .ref _ _ _) rfl (cL rfl (zZq (v := .ref _ _ _) rfl (eL (W.tr [(10, .ref _ _ _)] [.box _ [.lst _ _ _, .int _ _, .int _ _, .lst _ _ _, .lst _ _ _], .row _ _ _] ⟨rfl, trivial⟩ rfl (W.ret (rt (rt_t (v := .ref _ _ _) rfl (rt_n (⟨_, rs_ref enc66 4 _ rfl rfl, r1, rfl, hv⟩))))))))))))))))
theorem vcp_bmade (f : Flt) (n : Int) (x : (List A3)) (honest : Int) (truth : (List Int)) (h0 : BMadeOk f n x honest truth) : vc_bmade f n x honest truth (fun q0 => q0 = (bmadeM f n x honest truth)) := by
  unfold vc_bmade
  obtain ⟨hd, hn, hxi, htl, htv⟩ := h0
  have ht : (x.take (min ((x.length : Nat) : Int) (24 : Int)).toNat) = x.take 24 := by
    rcases Nat.lt_or_ge x.length 24 with h | h
    . rw [List.take_of_length_le (by omega), List.take_of_length_le (by omega)]
    . congr 1; omega
  rw [ht]
  have hxt : ∀ y ∈ x.take 24, inI y.x0 /\ inI y.x1 /\ inI y.x2 := fun y hy => hxi y (List.mem_of_mem_take hy)
  have hml : (madeM n (x.take 24)).length <= (x.take 24).length := by
    unfold madeM
    split
    . rw [List.length_map, List.length_take]; omega
    . simp
  have hm24 : (madeM n (x.take 24)).length <= 24 := Nat.le_trans hml (by rw [List.length_take]; omega)
  have hmx : (madeM n (x.take 24)).length <= x.length := Nat.le_trans hml (by rw [List.length_take]; omega)
  have hmp := made_poss (n := n) (x := x.take 24)
  generalize hL : madeM n (x.take 24) = L at *
  have hres : bmadeM f n x honest truth = List.zipWith (bmade1 f honest truth) L (x.take 24) := by unfold bmadeM; rw [hL]
  refine ⟨by omega, by omega, by omega, hxt, fun v r => ∃ i : Nat, v = i /\ i <= L.length /\ r.length = L.length /\ ∀ k, k < L.length -> r[k]? = if k < i then (List.zipWith (bmade1 f honest truth) L (x.take 24))[k]? else L[k]?, fun v _ => L.length - v.toNat, ⟨0, rfl, by omega, rfl, fun k _ => by rw [if_neg (by omega)]⟩, ?_⟩
  rintro _ r ⟨i, rfl, hi, hlen, hr⟩
  refine ⟨fun h1 => ?_, fun h1 => ?_⟩
  . have hlt : i < L.length := by omega
    have hlr : i < r.length := by omega
    have hlx : i < x.length := by omega
    have hc : lat r (i : Int) = L[i] := by
      have := hr i hlt
      rw [if_neg (by omega), List.getElem?_eq_getElem hlt, List.getElem?_eq_getElem hlr] at this
      rw [lat_get hlr]; exact Option.some.inj this
    have hxx : lat x (i : Int) = x[i] := lat_get hlx
    have hz : (List.zipWith (bmade1 f honest truth) L (x.take 24))[i]? = some (bmade1 f honest truth L[i] x[i]) := by
      rw [List.getElem?_zipWith, List.getElem?_eq_getElem hlt, List.getElem?_take_of_lt (by omega), List.getElem?_eq_getElem hlx]
    have hy := hxi x[i] (List.getElem_mem hlx)
    obtain ⟨p1, p2, p3⟩ := hmp L[i] (List.getElem_mem hlt)
    have p1 := possM_iff.1 p1
    have hi30 := inI_tdiv30 hy.2.1
    have hi200 := inI_tdiv200 hy.2.1
    have q1 := zXt (c := x[i].x1.tdiv 30) (n := ((f.dr.length : Nat) : Int)) (by omega)
    have q2 := zXt (c := x[i].x1.tdiv 200) (n := ((f.dr.length : Nat) : Int)) (by omega)
    have r1 := two_pow_lt (q := (pickM (x[i].x1.tdiv 30) ((f.dr.length : Nat) : Int)).toNat) (by omega)
    have r2 := two_pow_lt (q := (pickM (x[i].x1.tdiv 200) ((f.dr.length : Nat) : Int)).toNat) (by omega)
    have m1 : min (pickM (x[i].x1.tdiv 30) ((f.dr.length : Nat) : Int)).toNat 64 = (pickM (x[i].x1.tdiv 30) ((f.dr.length : Nat) : Int)).toNat := by omega
    have m2 : min (pickM (x[i].x1.tdiv 200) ((f.dr.length : Nat) : Int)).toNat 64 = (pickM (x[i].x1.tdiv 200) ((f.dr.length : Nat) : Int)).toNat := by omega
    rw [hxx, hc, m1, m2, Int.one_mul, Int.one_mul, Int.toNat_natCast]
    simp only [lat_set_self hlr]
    have hb1 : bmade1 f honest truth L[i] x[i] = if bitI .and .i64 (bitI .or .i64 (2 ^ (pickM (x[i].x1.tdiv 30) f.dr.length).toNat) (2 ^ (pickM (x[i].x1.tdiv 200) f.dr.length).toNat)) honest = (bitI .or .i64 (2 ^ (pickM (x[i].x1.tdiv 30) f.dr.length).toNat) (2 ^ (pickM (x[i].x1.tdiv 200) f.dr.length).toNat)) then ⟨L[i].f, L[i].t, lat truth L[i].t - lat truth L[i].f + max L[i].m 0, (bitI .or .i64 (2 ^ (pickM (x[i].x1.tdiv 30) f.dr.length).toNat) (2 ^ (pickM (x[i].x1.tdiv 200) f.dr.length).toNat))⟩ else ⟨L[i].f, L[i].t, L[i].m, (bitI .or .i64 (2 ^ (pickM (x[i].x1.tdiv 30) f.dr.length).toNat) (2 ^ (pickM (x[i].x1.tdiv 200) f.dr.length).toNat))⟩ := rfl
    generalize hA : bitI .or .i64 (2 ^ (pickM (x[i].x1.tdiv 30) f.dr.length).toNat) (2 ^ (pickM (x[i].x1.tdiv 200) f.dr.length).toNat) = A at *
    generalize hC : L[i] = c at *
    have t1 := htv _ (lat_mem (xs := truth) (i := c.t) ⟨p1.2.2.1, by omega⟩)
    have t2 := htv _ (lat_mem (xs := truth) (i := c.f) ⟨p1.1, by omega⟩)
    refine ⟨fun r' => r'.length = L.length /\ ∀ k, k < L.length -> r'[k]? = if k < i + 1 then (List.zipWith (bmade1 f honest truth) L (x.take 24))[k]? else L[k]?, ?_, by omega, hi30, hi30, by omega, by omega, hi200, hi200, by omega, by omega, by unfold inI; omega, by omega, by unfold inI; omega, by omega, by omega, by omega, fun h2 => ⟨by omega, by omega, by omega, by omega, by unfold inI; omega, by omega, by unfold inI; omega, by omega, by simp [hlen], fun k hk => ?_⟩, fun h2 => ⟨by simp [hlen], fun k hk => ?_⟩⟩
    . rintro r' ⟨h3, h4⟩
      exact ⟨by unfold inI; omega, ⟨i + 1, by omega, by omega, h3, h4⟩, by omega⟩
    . rw [List.set_set]
      by_cases hk2 : k = i
      . subst hk2
        rw [if_pos (by omega), hz, hb1, if_pos h2, List.getElem?_set_self (by omega)]
      . rw [List.getElem?_set_ne (Ne.symm hk2), hr k hk]
        by_cases hk3 : k < i
        . rw [if_pos hk3, if_pos (by omega)]
        . rw [if_neg hk3, if_neg (by omega)]
    . by_cases hk2 : k = i
      . subst hk2
        rw [if_pos (by omega), hz, hb1, if_neg h2, List.getElem?_set_self (by omega)]
      . rw [List.getElem?_set_ne (Ne.symm hk2), hr k hk]
        by_cases hk3 : k < i
        . rw [if_pos hk3, if_pos (by omega)]
        . rw [if_neg hk3, if_neg (by omega)]
  . have hil : i = L.length := by omega
    subst hil
    show r = bmadeM f n x honest truth
    rw [hres]
    refine List.ext_getElem? fun k => ?_
    rcases Nat.lt_or_ge k L.length with h2 | h2
    . rw [hr k h2, if_pos h2]
    . rw [List.getElem?_eq_none (by omega), List.getElem?_eq_none (by rw [List.length_zipWith]; omega)]
theorem spec_bmade (f : Flt) (n : Int) (x : (List A3)) (honest : Int) (truth : (List Int)) (h0 : BMadeOk f n x honest truth) : FnP Try.prog 33 [.agg ((e27 true) f), .int .i64 n, .lst true x.length (zYy e29 x), .int .i64 honest, .lst true truth.length (zYy zYx truth)] (fun xR => xR = .lst false (bmadeM f n x honest truth).length (zYy e66 (bmadeM f n x honest truth))) :=
  (walk_bmade (vcp_bmade f n x honest truth h0)).mono (by rintro _ ⟨_, rfl, rfl⟩; rfl)
def vc_mk (c : Cas) (Post : Flt -> Int -> (List Con) -> (List Int) -> Int -> Prop) : Prop :=
  (inI c.fl) /\ (inI c.n) /\ (1 <= (6 : Int)) /\ (inI (1 + (pickM c.n 6))) /\ (0 <= ((((zYt c.fl).dr).length : Nat) : Int)) /\ (inI (1 * 2 ^ (min ((((zYt c.fl).dr).length : Nat) : Int).toNat 64))) /\ (inI ((1 * 2 ^ (min ((((zYt c.fl).dr).length : Nat) : Int).toNat 64)) - 1)) /\ ∃ (I1 : Int -> Int -> Int -> Prop) (μ1 : Int -> Int -> Int -> Nat), I1 ((1 * 2 ^ (min ((((zYt c.fl).dr).length : Nat) : Int).toNat 64)) - 1) ((zYt c.fl).li) 0 /\ ∀ (v9 : Int) (v10 : Int) (v11 : Int), I1 v9 v10 v11 -> ((v11 < ((((zYt c.fl).dr).length : Nat) : Int)) -> ∃ J2 : Int -> Int -> Prop, (∀ (v9_1 : Int) (v10_1 : Int), J2 v9_1 v10_1 -> (inI (v11 + 1)) /\ (I1 v9_1 v10_1 (v11 + 1) /\ μ1 v9_1 v10_1 (v11 + 1) < μ1 v9 v10 v11)) /\ (((((0 : Int) < v10) -> (inI c.ho) /\ (1 <= (64 : Int)) /\ (0 <= v11) /\ True) /\ (¬ ((0 : Int) < v10) -> True)) /\ (((((0 : Int) < v10) /\ (((pickM c.ho 64).fdiv (2 ^ (min v11.toNat 64))).tmod (2 : Int) = 0)) -> (0 <= v11) /\ (inI (1 * 2 ^ (min v11.toNat 64))) /\ (inI (v10 - 1)) /\ J2 (bitI .andNot .i64 v9 (1 * 2 ^ (min v11.toNat 64))) (v10 - 1)) /\ (¬ (((0 : Int) < v10) /\ (((pickM c.ho 64).fdiv (2 ^ (min v11.toNat 64))).tmod (2 : Int) = 0)) -> J2 v9 v10)))) /\ (¬ (v11 < ((((zYt c.fl).dr).length : Nat) : Int)) -> ∃ (I3 : Int -> List Int -> Prop) (μ3 : Int -> List Int -> Nat), I3 0 [] /\ ∀ (v13 : Int) (r3 : List Int), I3 v13 r3 -> ((v13 < (1 + (pickM c.n 6))) -> ∃ J4 : Int -> Prop, (∀ (v14 : Int), J4 v14 -> ((r3 ++ [v14]).length <= 1073741824) /\ (inI (v13 + 1)) /\ (I3 (v13 + 1) (r3 ++ [v14]) /\ μ3 (v13 + 1) (r3 ++ [v14]) < μ3 v13 r3)) /\ (((v13 < ((c.tr.length : Nat) : Int)) -> (0 <= v13 /\ v13 < (c.tr.length : Int)) /\ (inI (lat c.tr v13)) /\ (1 <= (60 : Int)) /\ J4 (pickM (lat c.tr v13) 60)) /\ (¬ (v13 < ((c.tr.length : Nat) : Int)) -> J4 0))) /\ (¬ (v13 < (1 + (pickM c.n 6))) -> (BMadeOk (zYt c.fl) (1 + (pickM c.n 6)) c.x v9 r3) /\ Post (zYt c.fl) (1 + (pickM c.n 6)) (bmadeM (zYt c.fl) (1 + (pickM c.n 6)) c.x v9 r3) r3 v9))
theorem walk_mk {c : Cas} {Post : Flt -> Int -> (List Con) -> (List Int) -> Int -> Prop} (hv : vc_mk c Post) : FnP Try.prog 11 [.agg ((e25 true) c)] (fun x => ∃ q0 q1 q2 q3 q4, x = .tup [.agg ((e27 false) q0), .int .i64 q1, .lst false q2.length (zYy e66 q2), .lst false q3.length (zYy zYx q3), .int .i64 q4] /\ Post q0 q1 q2 q3 q4) := by
 refine FnP.of_walk (T := tt) (nt := 84) ttOk ttMix ⟨⟨Try.f11, Try.func11, rfl, rfl, rfl, rfl⟩⟩ (by simp) ?_
 unfold vc_mk at hv
 change W _ _ _ ⟨84, look [(0, .agg [.int .i64 c.fl, .int .i64 c.n, .lst true c.x.length (zYy e29 c.x), .lst true c.tr.length (zYy zYx c.tr), .int .i64 c.ho])], [], 0⟩ _
 refine W.rL (cL rfl (o_box (v := .agg _) (p := 0) rfl rfl rfl (cL rfl (zXs (p := 1) tt27 rfl rfl (aI rfl rfl ?_)))))
 iterate 2 refine cL rfl (zZq (v := .nilS) rfl ?_)
 refine aI rfl rfl (eL (W.tr [(1, .ptr _ _), (2, .ptr _ _)] [.box _ [.int _ _, .int _ _, .lst _ _ _, .lst _ _ _, .int _ _], .box _ [.nilS, .int _ _, .int _ _, .nilS, .nilS]] ⟨rfl, rfl, trivial⟩ rfl (W.rL (cL rfl (o_fa tt25 rfl tt3 rfl (cL rfl (zZx (v := .int _ _) tt3 rfl rfl ⟨_, rfl⟩ ?_)))))))
 obtain ⟨s1, hv⟩ := hv
 refine cL rfl (zZu (k := 32) (fst := []) (caps := []) (ys := [.int _ _]) rfl rfl (spec_fleet c.fl s1) (Wks.cons (zZz _ _ _ _) (Wks.refl _)) (cL rfl (zXs (p := 2) tt27 rfl rfl (cLn (o_stB (v := .agg _) (vs := [.lst _ _ _, .int _ _, .int _ _, .lst _ _ _, .lst _ _ _]) (cs2 := [.lst _ _ _, .int _ _, .int _ _, .lst _ _ _, .lst _ _ _]) tt27 rfl rfl rfl rfl rfl (Nat.le_of_ble_eq_true rfl) rfl (eL (W.tr [(1, .ptr _ _), (2, .ptr _ _), (7, .ptr _ _)] [.box _ [.int _ _, .int _ _, .lst _ _ _, .lst _ _ _, .int _ _], .box _ [.nilS, .int _ _, .int _ _, .nilS, .nilS], .box _ [.lst _ _ _, .int _ _, .int _ _, .lst _ _ _, .lst _ _ _]] ⟨rfl, rfl, rfl, trivial⟩ rfl (W.rL (cL rfl (o_fa tt25 rfl tt3 rfl (cL rfl (zZx (v := .int _ _) tt3 rfl rfl ⟨_, rfl⟩ ?_))))))))))))
 obtain ⟨s2, s3, hv⟩ := hv
 refine cL rfl (zZu (k := 21) (fst := []) (caps := []) (ys := [.int _ _, .int _ _]) rfl rfl (spec_pick c.n 6 s2 s3) (Wks.cons (zZz _ _ _ _) (Wks.cons (zZz _ _ _ _) (Wks.refl _))) ?_)
 obtain ⟨s4, hv⟩ := hv
 refine cL rfl (o_add rfl rfl s4 (aI rfl rfl (eL (W.rL (cL rfl (o_fa tt27 rfl tt23 rfl (cL rfl (zZx (v := .lst _ _ _) tt23 rfl rfl ⟨_, rfl⟩ (cL rfl (zXq (v := .lst _ _ _) tt23 rfl rfl ?_))))))))))
 obtain ⟨s5, s6, hv⟩ := hv
 refine cL rfl (o_shl rfl rfl s5 s6 ?_)
 obtain ⟨s7, hv⟩ := hv
 refine cL rfl (o_sub rfl rfl s7 (aI rfl rfl (eL (W.rL (cL rfl (o_fa tt27 rfl tt3 rfl (cL rfl (zZx (v := .int _ _) tt3 rfl rfl ⟨_, rfl⟩ (aI rfl rfl (eL (W.seq' (W.rL (aI rfl rfl (eL (W.block ?_)))))))))))))))
 obtain ⟨I1, μ1, hp, hv⟩ := hv
 refine W.loop3 (fun v9 v10 v11 => ⟨84, look [(1, .ptr 0 0), (2, .ptr 1 0), (7, .ptr 2 0), (8, .int .i64 (1 + (pickM c.n 6))), (9, .int .i64 v9), (10, .int .i64 v10), (11, .int .i64 v11)], [.box 25 [.int .i64 c.fl, .int .i64 c.n, .lst true c.x.length (zYy e29 c.x), .lst true c.tr.length (zYy zYx c.tr), .int .i64 c.ho], .box 27 [.nilS, .int .i64 0, .int .i64 0, .nilS, .nilS], .box 27 [.lst false ((zYt c.fl).dr).length (zYy zYx ((zYt c.fl).dr)), .int .i64 ((zYt c.fl).la), .int .i64 ((zYt c.fl).li), .lst false ((zYt c.fl).sv).length (zYy zYx ((zYt c.fl).sv)), .lst false ((zYt c.fl).tm).length (zYy zYx ((zYt c.fl).tm))]], 0⟩) I1 μ1 ((1 * 2 ^ (min ((((zYt c.fl).dr).length : Nat) : Int).toNat 64)) - 1) ((zYt c.fl).li) 0 (St.to_mk (φ := [some 0, some 1, some 2]) rfl (rfl) ⟨Ren.ptr rfl, Ren.ptr rfl, Ren.ptr rfl, Ren.int _ _, Ren.int _ _, Ren.int _ _, Ren.int _ _, trivial⟩ ⟨.inr ⟨_, rfl, rfl, Rens.cons (Ren.int _ _) (Rens.cons (Ren.int _ _) (Rens.cons (Ren.lst _ _ _) (Rens.cons (Ren.lst _ _ _) (Rens.cons (Ren.int _ _) (Rens.nil)))))⟩, .inr ⟨_, rfl, rfl, Rens.cons (Ren.nilS) (Rens.cons (Ren.int _ _) (Rens.cons (Ren.int _ _) (Rens.cons (Ren.nilS) (Rens.cons (Ren.nilS) (Rens.nil)))))⟩, .inr ⟨_, rfl, rfl, Rens.cons (Ren.lst _ _ _) (Rens.cons (Ren.int _ _) (Rens.cons (Ren.int _ _) (Rens.cons (Ren.lst _ _ _) (Rens.cons (Ren.lst _ _ _) (Rens.nil)))))⟩, trivial⟩) hp ?_
 clear hp
 intro v9 v10 v11 hI
 replace hv := hv v9 v10 v11 hI
 clear hI
 refine W.seq' (W.rL (mI rfl rfl (cL rfl (o_fa tt27 rfl tt23 rfl (cL rfl (zZx (v := .lst _ _ _) tt23 rfl rfl ⟨_, rfl⟩ (cL rfl (zXq (v := .lst _ _ _) tt23 rfl rfl (cL rfl (zXw rfl rfl (eL (W.cn rfl (fun hc => ?_) (fun hc => ?_)))))))))))))
 have hv := hv.1 hc
 refine W.skip (zZ ?_)
 obtain ⟨J2, hj, hv⟩ := hv
 refine W.mid2 (fun v9_1 v10_1 => ⟨84, look [(1, .ptr 0 0), (2, .ptr 1 0), (7, .ptr 2 0), (8, .int .i64 (1 + (pickM c.n 6))), (9, .int .i64 v9_1), (10, .int .i64 v10_1), (11, .int .i64 v11)], [.box 25 [.int .i64 c.fl, .int .i64 c.n, .lst true c.x.length (zYy e29 c.x), .lst true c.tr.length (zYy zYx c.tr), .int .i64 c.ho], .box 27 [.nilS, .int .i64 0, .int .i64 0, .nilS, .nilS], .box 27 [.lst false ((zYt c.fl).dr).length (zYy zYx ((zYt c.fl).dr)), .int .i64 ((zYt c.fl).la), .int .i64 ((zYt c.fl).li), .lst false ((zYt c.fl).sv).length (zYy zYx ((zYt c.fl).sv)), .lst false ((zYt c.fl).tm).length (zYy zYx ((zYt c.fl).tm))]], 0⟩) J2 ?_ ?_
 intro v9_1 v10_1
 intro hv
 replace hv := hj v9_1 v10_1 hv
 refine W.rL1 (mI rfl rfl ?_)
 obtain ⟨s74, hv⟩ := hv
 refine cL rfl (o_add rfl rfl s74 (aI rfl rfl (eL (zZ (⟨(), v9_1, v10_1, (v11 + 1), hv, St.to_mk (φ := [some 0, some 1, some 2]) rfl (rfl) ⟨Ren.ptr rfl, Ren.ptr rfl, Ren.ptr rfl, Ren.int _ _, Ren.int _ _, Ren.int _ _, Ren.int _ _, trivial⟩ ⟨.inr ⟨_, rfl, rfl, Rens.cons (Ren.int _ _) (Rens.cons (Ren.int _ _) (Rens.cons (Ren.lst _ _ _) (Rens.cons (Ren.lst _ _ _) (Rens.cons (Ren.int _ _) (Rens.nil)))))⟩, .inr ⟨_, rfl, rfl, Rens.cons (Ren.nilS) (Rens.cons (Ren.int _ _) (Rens.cons (Ren.int _ _) (Rens.cons (Ren.nilS) (Rens.cons (Ren.nilS) (Rens.nil)))))⟩, .inr ⟨_, rfl, rfl, Rens.cons (Ren.lst _ _ _) (Rens.cons (Ren.int _ _) (Rens.cons (Ren.int _ _) (Rens.cons (Ren.lst _ _ _) (Rens.cons (Ren.lst _ _ _) (Rens.nil)))))⟩, trivial⟩⟩)))))
 clear hj
 refine W.block ?_
 obtain ⟨sd, hv⟩ := hv
 refine W.rLm ⟨84, look [(1, .ptr 0 0), (2, .ptr 1 0), (7, .ptr 2 0), (8, .int .i64 (1 + (pickM c.n 6))), (9, .int .i64 v9), (10, .int .i64 v10), (11, .int .i64 v11), (46, .bool (decide (((0 : Int) < v10) /\ (((pickM c.ho 64).fdiv (2 ^ (min v11.toNat 64))).tmod (2 : Int) = 0))))], [.box 25 [.int .i64 c.fl, .int .i64 c.n, .lst true c.x.length (zYy e29 c.x), .lst true c.tr.length (zYy zYx c.tr), .int .i64 c.ho], .box 27 [.nilS, .int .i64 0, .int .i64 0, .nilS, .nilS], .box 27 [.lst false ((zYt c.fl).dr).length (zYy zYx ((zYt c.fl).dr)), .int .i64 ((zYt c.fl).la), .int .i64 ((zYt c.fl).li), .lst false ((zYt c.fl).sv).length (zYy zYx ((zYt c.fl).sv)), .lst false ((zYt c.fl).tm).length (zYy zYx ((zYt c.fl).tm))]], 0⟩ ?_ ?_
 refine mI rfl rfl (cL rfl (o_gtr rfl rfl (mB rfl rfl ?_)))
 by_cases c1 : (0 : Int) < v10
 have sd := sd.1 c1
 refine cLg rfl rfl (dT c1) (cL rfl (o_fa tt25 rfl tt3 rfl (cLg rfl rfl (dT c1) (cL rfl (zZx (v := .int _ _) tt3 rfl rfl ⟨_, rfl⟩ (cLg rfl rfl (dT c1) ?_))))))
 obtain ⟨s78, s79, sd⟩ := sd
 refine cL rfl (zZu (k := 21) (fst := []) (caps := []) (ys := [.int _ _, .int _ _]) rfl rfl (spec_pick c.ho 64 s78 s79) (Wks.cons (zZz _ _ _ _) (Wks.cons (zZz _ _ _ _) (Wks.refl _))) (cLg rfl rfl (dT c1) (mI rfl rfl (cLg rfl rfl (dT c1) ?_))))
 obtain ⟨s80, sd⟩ := sd
 refine cL rfl (o_shr rfl rfl s80 (cLg rfl rfl (dT c1) (cL rfl (o_rem rfl rfl (by decide) (cLg rfl rfl (dT c1) (cL rfl (o_eqI rfl rfl rfl (cL rfl (zZv (v := .bool _) rfl (dT c1) rfl (eL (zYz ⟨rfl, rfl, rfl, rfl, rfl, rfl, rfl, (congrArg AV.bool (zXp c1 (rfl))).symm, trivial⟩ rfl)))))))))))
 iterate 7 refine cLs rfl rfl rfl (dF c1) ?_
 refine cL rfl (zZy (v := .bool _) rfl (dF c1) rfl (eL (zYz ⟨rfl, rfl, rfl, rfl, rfl, rfl, rfl, (congrArg AV.bool (dAndF c1)).symm, trivial⟩ rfl)))
 refine W.cn rfl (fun hc => ?_) (fun hc => ?_)
 have hv := hv.1 hc
 refine W.rL ?_
 iterate 2 refine mI rfl rfl ?_
 obtain ⟨s81, s82, hv⟩ := hv
 refine cL rfl (o_shl rfl rfl s81 s82 (cL rfl (o_anN rfl rfl (aI rfl rfl (eL (W.rL1 (mI rfl rfl ?_)))))))
 obtain ⟨s83, hv⟩ := hv
 refine cL rfl (o_sub rfl rfl s83 (aI rfl rfl (eL (zYq (zZ (⟨(), (bitI .andNot .i64 v9 (1 * 2 ^ (min v11.toNat 64))), (v10 - 1), hv, St.to_mk (φ := [some 0, some 1, some 2]) rfl (rfl) ⟨Ren.ptr rfl, Ren.ptr rfl, Ren.ptr rfl, Ren.int _ _, Ren.int _ _, Ren.int _ _, Ren.int _ _, trivial⟩ ⟨.inr ⟨_, rfl, rfl, Rens.cons (Ren.int _ _) (Rens.cons (Ren.int _ _) (Rens.cons (Ren.lst _ _ _) (Rens.cons (Ren.lst _ _ _) (Rens.cons (Ren.int _ _) (Rens.nil)))))⟩, .inr ⟨_, rfl, rfl, Rens.cons (Ren.nilS) (Rens.cons (Ren.int _ _) (Rens.cons (Ren.int _ _) (Rens.cons (Ren.nilS) (Rens.cons (Ren.nilS) (Rens.nil)))))⟩, .inr ⟨_, rfl, rfl, Rens.cons (Ren.lst _ _ _) (Rens.cons (Ren.int _ _) (Rens.cons (Ren.int _ _) (Rens.cons (Ren.lst _ _ _) (Rens.cons (Ren.lst _ _ _) (Rens.nil)))))⟩, trivial⟩⟩))))))
 have hv := hv.2 hc
 refine W.skip (zYq (zZ (⟨(), v9, v10, hv, St.to_mk (φ := [some 0, some 1, some 2]) rfl (rfl) ⟨Ren.ptr rfl, Ren.ptr rfl, Ren.ptr rfl, Ren.int _ _, Ren.int _ _, Ren.int _ _, Ren.int _ _, trivial⟩ ⟨.inr ⟨_, rfl, rfl, Rens.cons (Ren.int _ _) (Rens.cons (Ren.int _ _) (Rens.cons (Ren.lst _ _ _) (Rens.cons (Ren.lst _ _ _) (Rens.cons (Ren.int _ _) (Rens.nil)))))⟩, .inr ⟨_, rfl, rfl, Rens.cons (Ren.nilS) (Rens.cons (Ren.int _ _) (Rens.cons (Ren.int _ _) (Rens.cons (Ren.nilS) (Rens.cons (Ren.nilS) (Rens.nil)))))⟩, .inr ⟨_, rfl, rfl, Rens.cons (Ren.lst _ _ _) (Rens.cons (Ren.int _ _) (Rens.cons (Ren.int _ _) (Rens.cons (Ren.lst _ _ _) (Rens.cons (Ren.lst _ _ _) (Rens.nil)))))⟩, trivial⟩⟩)))
 have hv := hv.2 hc
 refine W.exit (zZt (zZt (zXy (zZ (W.rL (cL rfl (zZq (v := .nilS) rfl (eL (W.seq' (W.rL (aI rfl rfl (eL (W.block ?_)))))))))))))
 obtain ⟨I3, μ3, hp, hv⟩ := hv
 refine W.loop2 (fun v13 r3 => ⟨84, look [(1, .ptr 0 0), (2, .ptr 1 0), (7, .ptr 2 0), (8, .int .i64 (1 + (pickM c.n 6))), (9, .int .i64 v9), (12, .ref true 3 r3.length), (13, .int .i64 v13)], [.box 25 [.int .i64 c.fl, .int .i64 c.n, .lst true c.x.length (zYy e29 c.x), .lst true c.tr.length (zYy zYx c.tr), .int .i64 c.ho], .box 27 [.nilS, .int .i64 0, .int .i64 0, .nilS, .nilS], .box 27 [.lst false ((zYt c.fl).dr).length (zYy zYx ((zYt c.fl).dr)), .int .i64 ((zYt c.fl).la), .int .i64 ((zYt c.fl).li), .lst false ((zYt c.fl).sv).length (zYy zYx ((zYt c.fl).sv)), .lst false ((zYt c.fl).tm).length (zYy zYx ((zYt c.fl).tm))], .row 3 1 (zYy zYx r3)], 0⟩) I3 μ3 0 [] (St.to_mk (φ := [some 0, some 1, some 2, none]) rfl (rfl) ⟨Ren.ptr rfl, Ren.ptr rfl, Ren.ptr rfl, Ren.int _ _, Ren.int _ _, Ren.nilR rfl rfl, Ren.int _ _, trivial⟩ ⟨.inr ⟨_, rfl, rfl, Rens.cons (Ren.int _ _) (Rens.cons (Ren.int _ _) (Rens.cons (Ren.lst _ _ _) (Rens.cons (Ren.lst _ _ _) (Rens.cons (Ren.int _ _) (Rens.nil)))))⟩, .inr ⟨_, rfl, rfl, Rens.cons (Ren.nilS) (Rens.cons (Ren.int _ _) (Rens.cons (Ren.int _ _) (Rens.cons (Ren.nilS) (Rens.cons (Ren.nilS) (Rens.nil)))))⟩, .inr ⟨_, rfl, rfl, Rens.cons (Ren.lst _ _ _) (Rens.cons (Ren.int _ _) (Rens.cons (Ren.int _ _) (Rens.cons (Ren.lst _ _ _) (Rens.cons (Ren.lst _ _ _) (Rens.nil)))))⟩, rfl, trivial⟩) hp ?_
 clear hp
 intro v13 r3 hI
 replace hv := hv v13 r3 hI
 clear hI
 refine W.seq' (W.rL ?_)
 iterate 2 refine mI rfl rfl ?_
 refine cL rfl (zXw rfl rfl (eL (W.cn rfl (fun hc => ?_) (fun hc => ?_))))
 have hv := hv.1 hc
 refine W.skip (zZ (W.seq' (W.block (W.rL (aI rfl rfl (eL ?_))))))
 obtain ⟨J4, hj, hv⟩ := hv
 refine W.mid1 (fun v14 => ⟨84, look [(1, .ptr 0 0), (2, .ptr 1 0), (7, .ptr 2 0), (8, .int .i64 (1 + (pickM c.n 6))), (9, .int .i64 v9), (12, .ref true 3 r3.length), (13, .int .i64 v13), (14, .int .i64 v14)], [.box 25 [.int .i64 c.fl, .int .i64 c.n, .lst true c.x.length (zYy e29 c.x), .lst true c.tr.length (zYy zYx c.tr), .int .i64 c.ho], .box 27 [.nilS, .int .i64 0, .int .i64 0, .nilS, .nilS], .box 27 [.lst false ((zYt c.fl).dr).length (zYy zYx ((zYt c.fl).dr)), .int .i64 ((zYt c.fl).la), .int .i64 ((zYt c.fl).li), .lst false ((zYt c.fl).sv).length (zYy zYx ((zYt c.fl).sv)), .lst false ((zYt c.fl).tm).length (zYy zYx ((zYt c.fl).tm))], .row 3 1 (zYy zYx r3)], 0⟩) J4 ?_ ?_
 intro v14
 intro hv
 replace hv := hj v14 hv
 refine W.rL1 (cL rfl (zZp (v := .ref _ _ _) rfl (mI rfl rfl (cL rfl (o_bs1 (v := .int _ _) (q := 4) tt23 tt3 rfl rfl rfl rfl rfl rfl rfl rfl ?_)))))
 obtain ⟨s165, hv⟩ := hv
 refine cL rfl (o_apR (p := 5) (q := (r3 ++ [v14]).length) tt23 tt3 rfl rfl (src_ref rfl rfl) rfl rfl (zYr (zZw.wd false) _) (Nat.le_trans (Nat.le_of_eq (@List.length_append _ (r3) ([v14])).symm) s165) rfl (@List.length_append _ (r3) ([v14])).symm (encL_app zYx r3 [v14]) (cL rfl (zZq (v := .ref _ _ _) rfl (eL (zYq (zZ (W.tr [(1, .ptr _ _), (2, .ptr _ _), (7, .ptr _ _), (8, .int _ _), (9, .int _ _), (12, .ref _ _ _), (13, .int _ _)] [.box _ [.int _ _, .int _ _, .lst _ _ _, .lst _ _ _, .int _ _], .box _ [.nilS, .int _ _, .int _ _, .nilS, .nilS], .box _ [.lst _ _ _, .int _ _, .int _ _, .lst _ _ _, .lst _ _ _], .dead, .row _ _ _, .row _ _ _] ⟨rfl, rfl, rfl, rfl, rfl, rfl, rfl, trivial⟩ rfl (W.rL1 (mI rfl rfl ?_)))))))))
 obtain ⟨s166, hv⟩ := hv
 refine cL rfl (o_add rfl rfl s166 (aI rfl rfl (eL (zZ (⟨(), (v13 + 1), (r3 ++ [v14]), hv, St.to_mk (φ := [some 0, some 1, some 2, some 5]) rfl (rfl) ⟨Ren.ptr rfl, Ren.ptr rfl, Ren.ptr rfl, Ren.int _ _, Ren.int _ _, Ren.ref rfl (fun h => rfl), Ren.int _ _, trivial⟩ ⟨.inr ⟨_, rfl, rfl, Rens.cons (Ren.int _ _) (Rens.cons (Ren.int _ _) (Rens.cons (Ren.lst _ _ _) (Rens.cons (Ren.lst _ _ _) (Rens.cons (Ren.int _ _) (Rens.nil)))))⟩, .inr ⟨_, rfl, rfl, Rens.cons (Ren.nilS) (Rens.cons (Ren.int _ _) (Rens.cons (Ren.int _ _) (Rens.cons (Ren.nilS) (Rens.cons (Ren.nilS) (Rens.nil)))))⟩, .inr ⟨_, rfl, rfl, Rens.cons (Ren.lst _ _ _) (Rens.cons (Ren.int _ _) (Rens.cons (Ren.int _ _) (Rens.cons (Ren.lst _ _ _) (Rens.cons (Ren.lst _ _ _) (Rens.nil)))))⟩, .inr ⟨_, rfl, rfl, rfl, rfl, Rens.enc zZw false (r3 ++ [v14])⟩, trivial⟩⟩)))))
 clear hj
 refine W.rL (mI rfl rfl (cL rfl (o_fa tt25 rfl tt23 rfl (cL rfl (zZx (v := .lst _ _ _) tt23 rfl rfl ⟨_, rfl⟩ (cL rfl (zXq (v := .lst _ _ _) tt23 rfl rfl (cL rfl (zXw rfl rfl (eL (W.cn rfl (fun hc => ?_) (fun hc => ?_))))))))))))
 have hv := hv.1 hc
 refine W.rL1 (cL rfl (o_fa tt25 rfl tt23 rfl (cL rfl (zZx (v := .lst _ _ _) tt23 rfl rfl ⟨_, rfl⟩ (mI rfl rfl ?_)))))
 obtain ⟨s167, hv⟩ := hv
 refine cL rfl (zYp tt23 tt3 rfl rfl (zZw.wd true) rfl s167 ?_)
 intro rest167
 refine cL rfl (zZx (v := .int _ _) tt3 rfl rfl ⟨_, rfl⟩ ?_)
 obtain ⟨s168, s169, hv⟩ := hv
 refine cL rfl (zZu (k := 21) (fst := []) (caps := []) (ys := [.int _ _, .int _ _]) rfl rfl (spec_pick (lat c.tr v13) 60 s168 s169) (Wks.cons (zZz _ _ _ _) (Wks.cons (zZz _ _ _ _) (Wks.refl _))) (aI rfl rfl (eL (zZ (⟨(), (pickM (lat c.tr v13) 60), hv, St.to_mk (φ := [some 0, some 1, some 2, some 3]) rfl (rfl) ⟨Ren.ptr rfl, Ren.ptr rfl, Ren.ptr rfl, Ren.int _ _, Ren.int _ _, Ren.ref rfl (fun h => rfl), Ren.int _ _, Ren.int _ _, trivial⟩ ⟨.inr ⟨_, rfl, rfl, Rens.cons (Ren.int _ _) (Rens.cons (Ren.int _ _) (Rens.cons (Ren.lst _ _ _) (Rens.cons (Ren.lst _ _ _) (Rens.cons (Ren.int _ _) (Rens.nil)))))⟩, .inr ⟨_, rfl, rfl, Rens.cons (Ren.nilS) (Rens.cons (Ren.int _ _) (Rens.cons (Ren.int _ _) (Rens.cons (Ren.nilS) (Rens.cons (Ren.nilS) (Rens.nil)))))⟩, .inr ⟨_, rfl, rfl, Rens.cons (Ren.lst _ _ _) (Rens.cons (Ren.int _ _) (Rens.cons (Ren.int _ _) (Rens.cons (Ren.lst _ _ _) (Rens.cons (Ren.lst _ _ _) (Rens.nil)))))⟩, .inr ⟨_, rfl, rfl, rfl, rfl, Rens.enc zZw false r3⟩, trivial⟩⟩)))))
 have hv := hv.2 hc
 refine W.skip (zZ (⟨(), 0, hv, St.to_mk (φ := [some 0, some 1, some 2, some 3]) rfl (rfl) ⟨Ren.ptr rfl, Ren.ptr rfl, Ren.ptr rfl, Ren.int _ _, Ren.int _ _, Ren.ref rfl (fun h => rfl), Ren.int _ _, Ren.int _ _, trivial⟩ ⟨.inr ⟨_, rfl, rfl, Rens.cons (Ren.int _ _) (Rens.cons (Ren.int _ _) (Rens.cons (Ren.lst _ _ _) (Rens.cons (Ren.lst _ _ _) (Rens.cons (Ren.int _ _) (Rens.nil)))))⟩, .inr ⟨_, rfl, rfl, Rens.cons (Ren.nilS) (Rens.cons (Ren.int _ _) (Rens.cons (Ren.int _ _) (Rens.cons (Ren.nilS) (Rens.cons (Ren.nilS) (Rens.nil)))))⟩, .inr ⟨_, rfl, rfl, Rens.cons (Ren.lst _ _ _) (Rens.cons (Ren.int _ _) (Rens.cons (Ren.int _ _) (Rens.cons (Ren.lst _ _ _) (Rens.cons (Ren.lst _ _ _) (Rens.nil)))))⟩, .inr ⟨_, rfl, rfl, rfl, rfl, Rens.enc zZw false r3⟩, trivial⟩⟩))
 have hv := hv.2 hc
 refine W.exit (zZt (zZt (zXy (zZ (W.rP [0, 1, 2, 3, 4, 5, 6, 7, 9, 10, 8, 11, 12, 13, 14, 15] (by decide +kernel) rfl (cL rfl (zXv (cs := [.lst _ _ _, .int _ _, .int _ _, .lst _ _ _, .lst _ _ _]) tt27 rfl rfl ⟨_, rfl⟩ rfl (mI rfl rfl (cL rfl (zXv (cs := [.lst _ _ _, .int _ _, .int _ _, .lst _ _ _, .lst _ _ _]) tt27 rfl rfl ⟨_, rfl⟩ rfl (mI rfl rfl (cL rfl (o_fa tt25 rfl tt22 rfl (cL rfl (zZx (v := .lst _ _ _) tt22 rfl rfl ⟨_, rfl⟩ (mI rfl rfl ?_))))))))))))))))
 iterate 2 refine cL rfl (zZp (v := .ref _ _ _) rfl ?_)
 refine mI rfl rfl ?_
 obtain ⟨s170, hv⟩ := hv
 refine cL rfl (zZu (k := 33) (fst := []) (caps := []) (ys := [.agg _, .int _ _, .lst _ _ _, .int _ _, .ref _ _ _]) rfl rfl (spec_bmade (zYt c.fl) (1 + (pickM c.n 6)) c.x v9 r3 s170) (Wks.cons (zXr 5 _ (Wks.cons (zZs _ _ _ _ _) (Wks.cons (zZz _ _ _ _) (Wks.cons (zZz _ _ _ _) (Wks.cons (zZs _ _ _ _ _) (Wks.cons (zZs _ _ _ _ _) (Wks.refl _))))))) (Wks.cons (zZz _ _ _ _) (Wks.cons (zZs _ _ _ _ _) (Wks.cons (zZz _ _ _ _) (Wks.cons (ag_ref (fl := false) (xs := r3) zZw 4 _ rfl rfl) (Wks.refl _)))))) (cLn (o_stB (v := .agg _) (vs := [.lst _ _ _, .int _ _, .int _ _, .lst _ _ _, .lst _ _ _]) (cs2 := [.lst _ _ _, .int _ _, .int _ _, .lst _ _ _, .lst _ _ _]) tt27 rfl rfl rfl rfl rfl (Nat.le_of_ble_eq_true rfl) rfl (aI rfl rfl (aL rfl rfl (cL rfl (zZq (v := .ref _ _ _) rfl (aI rfl rfl (eL (W.tr [(2, .ptr _ _), (3, .int _ _), (4, .lst _ _ _), (5, .ref _ _ _), (6, .int _ _)] [.box _ [.int _ _, .int _ _, .lst _ _ _, .lst _ _ _, .int _ _], .box _ [.lst _ _ _, .int _ _, .int _ _, .lst _ _ _, .lst _ _ _], .box _ [.lst _ _ _, .int _ _, .int _ _, .lst _ _ _, .lst _ _ _], .row _ _ _] ⟨rfl, rfl, rfl, rfl, rfl, trivial⟩ rfl (W.ret (rt (rt_c (x := .ptr _ _) rfl (ldA (cs := [.lst _ _ _, .int _ _, .int _ _, .lst _ _ _, .lst _ _ _]) tt27 rfl ⟨_, rfl⟩ rfl (rt_t (v := .int _ _) rfl (rt_t (v := .lst _ _ _) rfl (rt_t (v := .ref _ _ _) rfl (rt_t (v := .int _ _) rfl (rt_n (⟨_, rs_tup 5 _ (Wks.cons (rs_agg 4 _ (Wks.cons (rs_lst _ _ _ _) (Wks.cons (zY _ _ _ _) (Wks.cons (zY _ _ _ _) (Wks.cons (rs_lst _ _ _ _) (Wks.cons (rs_lst _ _ _ _) (Wks.refl _))))))) (Wks.cons (zY _ _ _ _) (Wks.cons (rs_lst _ _ _ _) (Wks.cons (rs_ref zZw 3 _ rfl rfl) (Wks.cons (zY _ _ _ _) (Wks.refl _)))))), (zYt c.fl), (1 + (pickM c.n 6)), (bmadeM (zYt c.fl) (1 + (pickM c.n 6)) c.x v9 r3), r3, v9, rfl, hv⟩))))))))))))))))))))
theorem vcp_mk (c : Cas) (h0 : CasOk c) : vc_mk c (fun q0 q1 q2 q3 q4 => q0 = (mkM c).1 /\ q1 = (mkM c).2.1 /\ q2 = (mkM c).2.2.1 /\ q3 = (mkM c).2.2.2.1 /\ q4 = (mkM c).2.2.2.2) := by
  unfold vc_mk
  obtain ⟨c1, c2, c3, c4', c6⟩ := h0
  have hF := fleet_ok c.fl
  have hd := hF.five
  have h64 := pow_le64 (show (zYt c.fl).dr.length <= 6 by omega)
  have h6 := zXt (c := c.n) (n := 6) (by omega)
  have hp := zXt (c := c.ho) (n := 64) (by omega)
  have e2 : (2 ^ (zYt c.fl).dr.length : Int) = ((2 ^ (zYt c.fl).dr.length : Nat) : Int) := by simp
  rw [pow_eq (show (zYt c.fl).dr.length <= 6 by omega)]
  obtain ⟨N, hN⟩ : ∃ N : Nat, 2 ^ (zYt c.fl).dr.length = N := ⟨_, rfl⟩
  rw [hN] at e2 h64 ⊢
  have hpick : ∀ i : Nat, i < 5 -> (min ((i : Nat) : Int).toNat 64) = i := fun i _ => by omega
  refine ⟨c1, c2, by omega, by unfold inI; omega, by omega, by unfold inI; omega, by unfold inI; omega, ?_⟩
  refine ⟨fun v w a => ∃ i : Nat, a = i /\ i <= (zYt c.fl).dr.length /\ (0 <= w /\ w <= 2) /\ (v, w) = (List.range i).foldl (honStep c.ho) (2 ^ (zYt c.fl).dr.length - 1, (zYt c.fl).li), fun _ _ a => (zYt c.fl).dr.length - a.toNat, ⟨0, rfl, by omega, hF.ok.li, by rw [e2]; rfl⟩, ?_⟩
  rintro v w _ ⟨i, rfl, hi, hw, hvw⟩
  refine ⟨fun h1 => ?_, fun h1 => ?_⟩
  . have hlt : i < (zYt c.fl).dr.length := by omega
    have hs : (List.range (i + 1)).foldl (honStep c.ho) (2 ^ (zYt c.fl).dr.length - 1, (zYt c.fl).li) = honStep c.ho (v, w) i := by rw [List.range_succ, List.foldl_append, <- hvw]; rfl
    have hbit := bitOf (x := pickM c.ho 64) (by omega) (i := i) (by omega)
    rw [hbit, hpick i (by omega), Int.one_mul]
    have h2i : (0 : Int) <= 2 ^ i /\ (2 : Int) ^ i <= 32 := two_pow_lt (by omega)
    refine ⟨fun a b => (0 <= b /\ b <= 2) /\ (a, b) = (List.range (i + 1)).foldl (honStep c.ho) (2 ^ (zYt c.fl).dr.length - 1, (zYt c.fl).li), ?_, ⟨fun _ => ⟨c3, by omega, by omega, trivial⟩, fun _ => trivial⟩, fun h2 => ⟨by omega, by unfold inI; omega, by unfold inI; omega, by omega, ?_⟩, fun h2 => ⟨by omega, ?_⟩⟩
    . rintro a b ⟨hb, hab⟩
      exact ⟨by unfold inI; omega, ⟨i + 1, by omega, by omega, hb, hab⟩, by dsimp only; omega⟩
    . rw [hs]; unfold honStep; rw [if_pos h2]
    . rw [hs]; unfold honStep; rw [if_neg h2]
  . have hi' : i = (zYt c.fl).dr.length := by omega
    subst hi'
    have hv : v = honM (zYt c.fl) c.ho := by unfold honM; rw [<- hvw]
    refine ⟨fun v r => ∃ i : Nat, v = i /\ (i : Int) <= 1 + pickM c.n 6 /\ r = (List.range i).map fun i => if i < c.tr.length then pickM (c.tr.getD i 0) 60 else 0, fun v _ => 7 - v.toNat, ⟨0, rfl, by omega, rfl⟩, ?_⟩
    rintro _ _ ⟨i, rfl, hi, rfl⟩
    have hlen : ((List.range i).map fun i => if i < c.tr.length then pickM (c.tr.getD i 0) 60 else 0).length = i := by simp
    refine ⟨fun h2 => ⟨fun x => x = if i < c.tr.length then pickM (c.tr.getD i 0) 60 else 0, ?_, fun h3 => ⟨by omega, c6 _ (lat_mem ⟨by omega, by omega⟩), by omega, ?_⟩, fun h3 => ?_⟩, fun h2 => ?_⟩
    . rintro _ rfl
      exact ⟨by rw [List.length_append, hlen]; simp; omega, by unfold inI; omega, ⟨i + 1, by omega, by omega, map_range_succ.symm⟩, by dsimp only; omega⟩
    . show pickM (lat c.tr (i : Int)) 60 = _
      rw [if_pos (by omega), lat_nat]; rfl
    . show (0 : Int) = _
      rw [if_neg (by omega)]
    . have hi' : i = (1 + pickM c.n 6).toNat := by omega
      have ht : ((List.range i).map fun i => if i < c.tr.length then pickM (c.tr.getD i 0) 60 else 0) = truthM (1 + pickM c.n 6) c.tr := by subst hi'; rfl
      rw [ht] at hlen ⊢
      refine ⟨⟨⟨by have := hF.ok.len; omega, by omega⟩, by omega, c4', by omega, ?_⟩, ?_⟩
      . intro x hx
        unfold truthM at hx
        simp only [List.mem_map, List.mem_range] at hx
        obtain ⟨k, _, rfl⟩ := hx
        split
        . have := zXt (c := c.tr.getD k 0) (n := 60) (by omega)
          omega
        . omega
      . show _ /\ _ /\ _ /\ _ /\ _
        rw [hv]
        exact ⟨rfl, rfl, rfl, rfl, rfl⟩
theorem spec_mk (c : Cas) (h0 : CasOk c) : FnP Try.prog 11 [.agg ((e25 true) c)] (fun xR => xR = .tup [.agg ((e27 false) ((mkM c).1)), .int .i64 ((mkM c).2.1), .lst false ((mkM c).2.2.1).length (zYy e66 ((mkM c).2.2.1)), .lst false ((mkM c).2.2.2.1).length (zYy zYx ((mkM c).2.2.2.1)), .int .i64 ((mkM c).2.2.2.2)]) :=
  (walk_mk (vcp_mk c h0)).mono (by rintro _ ⟨_, _, _, _, _, rfl, rfl, rfl, rfl, rfl, rfl⟩; rfl)
def vc_few (l : (List Con)) (Post : (List Con) -> Prop) : Prop :=
  (0 <= ((0 : Nat) : Int) /\ ((0 : Nat) : Int) <= (min ((l.length : Nat) : Int) 40) /\ (min ((l.length : Nat) : Int) 40) <= (l.length : Int)) /\ Post (l.take (min ((l.length : Nat) : Int) 40).toNat)
theorem walk_few {l : (List Con)} {Post : (List Con) -> Prop} (hv : vc_few l Post) : FnS Try.prog 12 [.lst true l.length (zYy e66 l)] (fun x => ∃ q0, x = .lst true q0.length (zYy e66 q0) /\ Post q0) := by
 refine FnS.of_walk (T := tt) (nt := 8) ttOk ttMix ⟨⟨Try.f12, Try.func12, rfl, rfl, rfl, rfl⟩⟩ (by simp) ?_
 unfold vc_few at hv
 change W _ _ _ ⟨8, look [(0, .lst true l.length (zYy e66 l))], [], 0⟩ _
 refine W.rL (cL rfl (zZq (v := .nilS) rfl (eL (W.rL ?_))))
 iterate 2 refine mL rfl rfl ?_
 refine cL rfl (zXq (v := .lst _ _ _) tt28 rfl rfl (cL rfl (o_min rfl rfl ?_)))
 obtain ⟨s1, hv⟩ := hv
 refine cL rfl (o_slL tt28 tt66 rfl (enc66.wd true) rfl rfl rfl s1 (ys := l.take (min ((l.length : Nat) : Int) 40).toNat) (by simp) (aL rfl rfl (eL (W.ret (rt (rt_t (v := .lst _ _ _) rfl (rt_n (⟨_, zZs _ _ _ _ _, (l.take (min ((l.length : Nat) : Int) 40).toNat), rfl, hv⟩))))))))
theorem vcp_few (l : (List Con))  : vc_few l (fun q0 => q0 = (l.take 40)) := by
  unfold vc_few
  refine ⟨by omega, ?_⟩
  have : (min ((l.length : Nat) : Int) (40 : Int)).toNat = min l.length 40 := by omega
  rw [this]; show l.take _ = l.take 40
  rw [List.take_eq_take_iff]
  omega
theorem spec_few (l : (List Con))  : FnS Try.prog 12 [.lst true l.length (zYy e66 l)] (fun xR => xR = .lst true (l.take 40).length (zYy e66 (l.take 40))) :=
  (walk_few (vcp_few l)).mono (by rintro _ ⟨_, rfl, rfl⟩; rfl)
def vc_rin (x : Int) (lo : Int) (hi : Int) (Post : Bool -> Prop) : Prop :=
  Post (decide ((lo <= x) /\ (x <= hi)))
theorem walk_rin {x : Int} {lo : Int} {hi : Int} {Post : Bool -> Prop} (hv : vc_rin x lo hi Post) : FnP Try.prog 75 [.int .i64 x, .int .i64 lo, .int .i64 hi] (fun x => ∃ q0, x = .bool q0 /\ Post q0) := by
 refine FnP.of_walk (T := tt) (nt := 15) ttOk ttMix ⟨⟨Try.f75, Try.func75, rfl, rfl, rfl, rfl⟩⟩ (by simp) ?_
 unfold vc_rin at hv
 change W _ _ _ ⟨15, look [(0, .int .i64 x), (1, .int .i64 lo), (2, .int .i64 hi)], [], 0⟩ _
 refine W.rL (aB rfl rfl (eL (W.rLm ⟨15, look [(6, .bool (decide ((lo <= x) /\ (x <= hi))))], [], 0⟩ ?_ ?_)))
 iterate 2 refine mI rfl rfl ?_
 refine cL rfl (o_geq rfl rfl (mB rfl rfl ?_))
 by_cases c1 : lo <= x
 refine cLg rfl rfl (dT c1) (mI rfl rfl (cLg rfl rfl (dT c1) (mI rfl rfl (cLg rfl rfl (dT c1) (cL rfl (o_leq rfl rfl (cL rfl (zZv (v := .bool _) rfl (dT c1) rfl (aB rfl rfl (eL (zYz ⟨(congrArg AV.bool (zXp c1 (rfl))).symm, trivial⟩ rfl)))))))))))
 iterate 3 refine cLs rfl rfl rfl (dF c1) ?_
 refine cL rfl (zZy (v := .bool _) rfl (dF c1) rfl (aB rfl rfl (eL (zYz ⟨(congrArg AV.bool (dAndF c1)).symm, trivial⟩ rfl))))
 refine W.ret (rt (rt_t (v := .bool _) rfl (rt_n (⟨_, zXx _ _ _, (decide ((lo <= x) /\ (x <= hi))), rfl, hv⟩))))
theorem vcp_rin (x : Int) (lo : Int) (hi : Int)  : vc_rin x lo hi (fun q0 => q0 = (inM x lo hi)) := by
  show decide _ = inM x lo hi
  unfold inM
  rfl
theorem spec_rin (x : Int) (lo : Int) (hi : Int)  : FnP Try.prog 75 [.int .i64 x, .int .i64 lo, .int .i64 hi] (fun xR => xR = .bool (inM x lo hi)) :=
  (walk_rin (vcp_rin x lo hi)).mono (by rintro _ ⟨_, rfl, rfl⟩; rfl)
def vc_rall (l : (List Int)) (most : Int) (Post : Bool -> Prop) : Prop :=
  ∃ (I1 : Int -> Prop) (μ1 : Int -> Nat), I1 0 /\ ∀ (v5 : Int), I1 v5 -> ((v5 < ((l.length : Nat) : Int)) -> (0 <= v5 /\ v5 < (l.length : Int)) /\ ((¬ ((inM (lat l v5) 0 most) = true)) -> Post false) /\ (¬ (¬ ((inM (lat l v5) 0 most) = true)) -> (inI (v5 + 1)) /\ (I1 (v5 + 1) /\ μ1 (v5 + 1) < μ1 v5))) /\ (¬ (v5 < ((l.length : Nat) : Int)) -> Post true)
theorem walk_rall {l : (List Int)} {most : Int} {Post : Bool -> Prop} (hv : vc_rall l most Post) : FnP Try.prog 76 [.lst true l.length (zYy zYx l), .int .i64 most] (fun x => ∃ q0, x = .bool q0 /\ Post q0) := by
 refine FnP.of_walk (T := tt) (nt := 19) ttOk ttMix ⟨⟨Try.f76, Try.func76, rfl, rfl, rfl, rfl⟩⟩ (by simp) ?_
 unfold vc_rall at hv
 change W _ _ _ ⟨19, look [(0, .lst true l.length (zYy zYx l)), (1, .int .i64 most)], [], 0⟩ _
 refine W.rL (aB rfl rfl (eL (W.seq' (W.rL (aI rfl rfl (eL (W.block ?_)))))))
 obtain ⟨I1, μ1, hp, hv⟩ := hv
 refine W.loop1 (fun v5 => ⟨19, look [(0, .lst true l.length (zYy zYx l)), (1, .int .i64 most), (5, .int .i64 v5)], [], 0⟩) I1 μ1 0 (St.to_mk (φ := []) rfl (rfl) ⟨Ren.lst _ _ _, Ren.int _ _, Ren.int _ _, trivial⟩ trivial) hp ?_
 clear hp
 intro v5 hI
 replace hv := hv v5 hI
 clear hI
 refine W.seq' (W.rL (mI rfl rfl (mL rfl rfl (cL rfl (zXq (v := .lst _ _ _) tt23 rfl rfl (cL rfl (zXw rfl rfl (eL (W.cn rfl (fun hc => ?_) (fun hc => ?_))))))))))
 have hv := hv.1 hc
 refine W.skip (zZ (W.seq' (W.block (W.rL (mL rfl rfl (mI rfl rfl ?_))))))
 obtain ⟨s11, hv⟩ := hv
 refine cL rfl (zYp tt23 tt3 rfl rfl (zZw.wd true) rfl s11 ?_)
 intro rest11
 refine cL rfl (zZx (v := .int _ _) tt3 rfl rfl ⟨_, rfl⟩ (mI rfl rfl (cL rfl (zZu (k := 75) (fst := []) (caps := []) (ys := [.int _ _, .int _ _, .int _ _]) rfl rfl (spec_rin (lat l v5) 0 most) (Wks.cons (zZz _ _ _ _) (Wks.cons (zZz _ _ _ _) (Wks.cons (zZz _ _ _ _) (Wks.refl _)))) (cL rfl (o_notB rfl (eL (W.cn rfl (fun hc => ?_) (fun hc => ?_)))))))))
 have hv := hv.1 hc
 refine W.rL (aB rfl rfl (eL (W.ret (zXz (zZr (zZr (zXz (zZr (rt (rt_t (v := .bool _) rfl (rt_n (⟨_, zXx _ _ _, false, rfl, hv⟩))))))))))))
 have hv := hv.2 hc
 refine W.skip (zYq (zZ (W.rL1 (mI rfl rfl ?_))))
 obtain ⟨s12, hv⟩ := hv
 refine cL rfl (o_add rfl rfl s12 (aI rfl rfl (eL (zZ (⟨(), (v5 + 1), hv, St.to_mk (φ := []) rfl (rfl) ⟨Ren.lst _ _ _, Ren.int _ _, Ren.int _ _, trivial⟩ trivial⟩)))))
 have hv := hv.2 hc
 refine W.exit (zZt (zZt (zXy (zZ (W.rL (aB rfl rfl (eL (W.ret (rt (rt_t (v := .bool _) rfl (rt_n (⟨_, zXx _ _ _, true, rfl, hv⟩))))))))))))
theorem vcp_rall (l : (List Int)) (most : Int) (h0 : l.length <= 9223372036854775807) : vc_rall l most (fun q0 => q0 = (rallM l most)) := by
  unfold vc_rall
  refine ⟨fun v => ∃ i : Nat, v = i /\ i <= l.length /\ ∀ y ∈ l.take i, 0 <= y /\ y <= most, fun v => l.length - v.toNat, ⟨0, rfl, by omega, by simp⟩, ?_⟩
  rintro _ ⟨i, rfl, hle, hj⟩
  refine ⟨fun h1 => ?_, fun h1 => ?_⟩
  . have hlt : i < l.length := by omega
    rw [lat_get hlt]
    refine ⟨by omega, fun h2 => ?_, fun h2 => ⟨by unfold inI; omega, ⟨i + 1, by omega, by omega, ?_⟩, by dsimp only; omega⟩⟩
    . show false = rallM l most
      unfold inM at h2
      unfold rallM
      refine (List.all_eq_false.2 ⟨l[i], List.getElem_mem hlt, by simpa using h2⟩).symm
    . unfold inM at h2
      intro y hy
      rw [take_succ_nat (List.getElem?_eq_getElem hlt)] at hy
      rcases List.mem_append.1 hy with h | h
      . exact hj y h
      . rw [List.mem_singleton] at h
        subst h
        simpa using h2
  . show true = rallM l most
    unfold rallM
    rw [List.take_of_length_le (by omega)] at hj
    exact (List.all_eq_true.2 fun y hy => decide_eq_true (hj y hy)).symm
theorem spec_rall (l : (List Int)) (most : Int) (h0 : l.length <= 9223372036854775807) : FnP Try.prog 76 [.lst true l.length (zYy zYx l), .int .i64 most] (fun xR => xR = .bool (rallM l most)) :=
  (walk_rall (vcp_rall l most h0)).mono (by rintro _ ⟨_, rfl, rfl⟩; rfl)
def vc_rcvalid (f : Flt) (Post : Bool -> Prop) : Prop :=
  (((¬ ((inM ((f.dr.length : Nat) : Int) 1 6) = true)) -> True) /\ (¬ (¬ ((inM ((f.dr.length : Nat) : Int) 1 6) = true)) -> (f.dr.length <= 9223372036854775807) /\ True)) /\ ((((¬ ((inM ((f.dr.length : Nat) : Int) 1 6) = true)) \/ ((¬ ((rallM f.dr 1000) = true)) \/ ((¬ ((inM f.la 0 1000000) = true)) \/ ((¬ ((inM f.li 0 2) = true)) \/ (((f.dr.length : Nat) : Int) <= f.li))))) -> Post false) /\ (¬ ((¬ ((inM ((f.dr.length : Nat) : Int) 1 6) = true)) \/ ((¬ ((rallM f.dr 1000) = true)) \/ ((¬ ((inM f.la 0 1000000) = true)) \/ ((¬ ((inM f.li 0 2) = true)) \/ (((f.dr.length : Nat) : Int) <= f.li))))) -> ((((inM ((f.tm.length : Nat) : Int) 1 8) = true) -> (f.tm.length <= 9223372036854775807) /\ (((rallM f.tm 3) = true) -> (((inM ((f.sv.length : Nat) : Int) 1 12) = true) -> (inI (((f.tm.length : Nat) : Int) - 1)) /\ (f.sv.length <= 9223372036854775807) /\ True) /\ (¬ ((inM ((f.sv.length : Nat) : Int) 1 12) = true) -> True)) /\ (¬ ((rallM f.tm 3) = true) -> True)) /\ (¬ ((inM ((f.tm.length : Nat) : Int) 1 8) = true) -> True)) /\ (Post (decide (((inM ((f.tm.length : Nat) : Int) 1 8) = true) /\ (((rallM f.tm 3) = true) /\ (((inM ((f.sv.length : Nat) : Int) 1 12) = true) /\ ((rallM f.sv (((f.tm.length : Nat) : Int) - 1)) = true))))))))
theorem walk_rcvalid {f : Flt} {Post : Bool -> Prop} (hv : vc_rcvalid f Post) : FnP Try.prog 58 [.agg ((e27 true) f)] (fun x => ∃ q0, x = .bool q0 /\ Post q0) := by
 refine FnP.of_walk (T := tt) (nt := 58) ttOk ttMix ⟨⟨Try.f58, Try.func58, rfl, rfl, rfl, rfl⟩⟩ (by simp) ?_
 unfold vc_rcvalid at hv
 change W _ _ _ ⟨58, look [(0, .agg [.lst true f.dr.length (zYy zYx f.dr), .int .i64 f.la, .int .i64 f.li, .lst true f.sv.length (zYy zYx f.sv), .lst true f.tm.length (zYy zYx f.tm)])], [], 0⟩ _
 refine W.rL (cL rfl (o_box (v := .agg _) (p := 0) rfl rfl rfl (aB rfl rfl (eL (W.tr [(1, .ptr _ _)] [.box _ [.lst _ _ _, .int _ _, .int _ _, .lst _ _ _, .lst _ _ _]] ⟨rfl, trivial⟩ rfl (W.seq' ?_))))))
 obtain ⟨sd, hv⟩ := hv
 refine W.rLm ⟨58, look [(1, .ptr 0 0), (33, .bool (decide ((¬ ((inM ((f.dr.length : Nat) : Int) 1 6) = true)) \/ ((¬ ((rallM f.dr 1000) = true)) \/ ((¬ ((inM f.la 0 1000000) = true)) \/ ((¬ ((inM f.li 0 2) = true)) \/ (((f.dr.length : Nat) : Int) <= f.li)))))))], [.box 27 [.lst true f.dr.length (zYy zYx f.dr), .int .i64 f.la, .int .i64 f.li, .lst true f.sv.length (zYy zYx f.sv), .lst true f.tm.length (zYy zYx f.tm)]], 0⟩ ?_ ?_
 refine cL rfl (o_fa tt27 rfl tt23 rfl (cL rfl (zZx (v := .lst _ _ _) tt23 rfl rfl ⟨_, rfl⟩ (cL rfl (zXq (v := .lst _ _ _) tt23 rfl rfl (cL rfl (zZu (k := 75) (fst := []) (caps := []) (ys := [.int _ _, .int _ _, .int _ _]) rfl rfl (spec_rin ((f.dr.length : Nat) : Int) 1 6) (Wks.cons (zZz _ _ _ _) (Wks.cons (zZz _ _ _ _) (Wks.cons (zZz _ _ _ _) (Wks.refl _)))) (cL rfl (o_notB rfl (mB rfl rfl ?_))))))))))
 by_cases c1 : ¬ ((inM ((f.dr.length : Nat) : Int) 1 6) = true)
 iterate 4 refine cLs rfl rfl rfl (dT c1) ?_
 refine cL rfl (zZv (v := .bool _) rfl (dT c1) rfl (mB rfl rfl ?_))
 iterate 4 refine cLs rfl rfl rfl (rfl) ?_
 refine cL rfl (zZv (v := .bool _) rfl rfl rfl (mB rfl rfl ?_))
 iterate 4 refine cLs rfl rfl rfl (rfl) ?_
 refine cL rfl (zZv (v := .bool _) rfl rfl rfl (mB rfl rfl ?_))
 iterate 6 refine cLs rfl rfl rfl (rfl) ?_
 refine cL rfl (zZv (v := .bool _) rfl rfl rfl (eL (zYz ⟨rfl, (congrArg AV.bool (dOrT c1)).symm, trivial⟩ rfl)))
 have sd := sd.2 c1
 refine cLg rfl rfl (dF c1) (cL rfl (o_fa tt27 rfl tt23 rfl (cLg rfl rfl (dF c1) (cL rfl (zZx (v := .lst _ _ _) tt23 rfl rfl ⟨_, rfl⟩ (cLg rfl rfl (dF c1) ?_))))))
 obtain ⟨s4, sd⟩ := sd
 refine cL rfl (zZu (k := 76) (fst := []) (caps := []) (ys := [.lst _ _ _, .int _ _]) rfl rfl (spec_rall f.dr 1000 s4) (Wks.cons (zZs _ _ _ _ _) (Wks.cons (zZz _ _ _ _) (Wks.refl _))) (cLg rfl rfl (dF c1) (cL rfl (o_notB rfl (cL rfl (zZy (v := .bool _) rfl (dF c1) rfl (mB rfl rfl ?_)))))))
 by_cases c2 : ¬ ((rallM f.dr 1000) = true)
 iterate 4 refine cLs rfl rfl rfl (dT c2) ?_
 refine cL rfl (zZv (v := .bool _) rfl (dT c2) rfl (mB rfl rfl ?_))
 iterate 4 refine cLs rfl rfl rfl (rfl) ?_
 refine cL rfl (zZv (v := .bool _) rfl rfl rfl (mB rfl rfl ?_))
 iterate 6 refine cLs rfl rfl rfl (rfl) ?_
 refine cL rfl (zZv (v := .bool _) rfl rfl rfl (eL (zYz ⟨rfl, (congrArg AV.bool (dOrF c1 (dOrT c2))).symm, trivial⟩ rfl)))
 refine cLg rfl rfl (dF c2) (cL rfl (o_fa tt27 rfl tt3 rfl (cLg rfl rfl (dF c2) (cL rfl (zZx (v := .int _ _) tt3 rfl rfl ⟨_, rfl⟩ (cLg rfl rfl (dF c2) (cL rfl (zZu (k := 75) (fst := []) (caps := []) (ys := [.int _ _, .int _ _, .int _ _]) rfl rfl (spec_rin f.la 0 1000000) (Wks.cons (zZz _ _ _ _) (Wks.cons (zZz _ _ _ _) (Wks.cons (zZz _ _ _ _) (Wks.refl _)))) (cLg rfl rfl (dF c2) (cL rfl (o_notB rfl (cL rfl (zZy (v := .bool _) rfl (dF c2) rfl (mB rfl rfl ?_))))))))))))))
 by_cases c3 : ¬ ((inM f.la 0 1000000) = true)
 iterate 4 refine cLs rfl rfl rfl (dT c3) ?_
 refine cL rfl (zZv (v := .bool _) rfl (dT c3) rfl (mB rfl rfl ?_))
 iterate 6 refine cLs rfl rfl rfl (rfl) ?_
 refine cL rfl (zZv (v := .bool _) rfl rfl rfl (eL (zYz ⟨rfl, (congrArg AV.bool (dOrF c1 (dOrF c2 (dOrT c3)))).symm, trivial⟩ rfl)))
 refine cLg rfl rfl (dF c3) (cL rfl (o_fa tt27 rfl tt3 rfl (cLg rfl rfl (dF c3) (cL rfl (zZx (v := .int _ _) tt3 rfl rfl ⟨_, rfl⟩ (cLg rfl rfl (dF c3) (cL rfl (zZu (k := 75) (fst := []) (caps := []) (ys := [.int _ _, .int _ _, .int _ _]) rfl rfl (spec_rin f.li 0 2) (Wks.cons (zZz _ _ _ _) (Wks.cons (zZz _ _ _ _) (Wks.cons (zZz _ _ _ _) (Wks.refl _)))) (cLg rfl rfl (dF c3) (cL rfl (o_notB rfl (cL rfl (zZy (v := .bool _) rfl (dF c3) rfl (mB rfl rfl ?_))))))))))))))
 by_cases c4 : ¬ ((inM f.li 0 2) = true)
 iterate 6 refine cLs rfl rfl rfl (dT c4) ?_
 refine cL rfl (zZv (v := .bool _) rfl (dT c4) rfl (eL (zYz ⟨rfl, (congrArg AV.bool (dOrF c1 (dOrF c2 (dOrF c3 (dOrT c4))))).symm, trivial⟩ rfl)))
 refine cLg rfl rfl (dF c4) (cL rfl (o_fa tt27 rfl tt3 rfl (cLg rfl rfl (dF c4) (cL rfl (zZx (v := .int _ _) tt3 rfl rfl ⟨_, rfl⟩ (cLg rfl rfl (dF c4) (cL rfl (o_fa tt27 rfl tt23 rfl (cLg rfl rfl (dF c4) (cL rfl (zZx (v := .lst _ _ _) tt23 rfl rfl ⟨_, rfl⟩ (cLg rfl rfl (dF c4) (cL rfl (zXq (v := .lst _ _ _) tt23 rfl rfl (cLg rfl rfl (dF c4) (cL rfl (o_geq rfl rfl (cL rfl (zZy (v := .bool _) rfl (dF c4) rfl (eL (zYz ⟨rfl, (congrArg AV.bool (dOrF c1 (dOrF c2 (dOrF c3 (dOrF c4 (rfl)))))).symm, trivial⟩ rfl)))))))))))))))))))))
 refine W.cn rfl (fun hc => ?_) (fun hc => ?_)
 have hv := hv.1 hc
 refine W.rL (aB rfl rfl (eL (W.ret (zZr (rt (rt_t (v := .bool _) rfl (rt_n (⟨_, zXx _ _ _, false, rfl, hv⟩))))))))
 have hv := hv.2 hc
 refine W.skip (zZ ?_)
 obtain ⟨sd, hv⟩ := hv
 refine W.rLm ⟨58, look [(2, .bool (decide (((inM ((f.tm.length : Nat) : Int) 1 8) = true) /\ (((rallM f.tm 3) = true) /\ (((inM ((f.sv.length : Nat) : Int) 1 12) = true) /\ ((rallM f.sv (((f.tm.length : Nat) : Int) - 1)) = true))))))], [.box 27 [.lst true f.dr.length (zYy zYx f.dr), .int .i64 f.la, .int .i64 f.li, .lst true f.sv.length (zYy zYx f.sv), .lst true f.tm.length (zYy zYx f.tm)]], 0⟩ ?_ ?_
 refine cL rfl (o_fa tt27 rfl tt23 rfl (cL rfl (zZx (v := .lst _ _ _) tt23 rfl rfl ⟨_, rfl⟩ (cL rfl (zXq (v := .lst _ _ _) tt23 rfl rfl (cL rfl (zZu (k := 75) (fst := []) (caps := []) (ys := [.int _ _, .int _ _, .int _ _]) rfl rfl (spec_rin ((f.tm.length : Nat) : Int) 1 8) (Wks.cons (zZz _ _ _ _) (Wks.cons (zZz _ _ _ _) (Wks.cons (zZz _ _ _ _) (Wks.refl _)))) (mB rfl rfl ?_))))))))
 by_cases c1 : (inM ((f.tm.length : Nat) : Int) 1 8) = true
 have sd := sd.1 c1
 refine cLg rfl rfl (c1) (cL rfl (o_fa tt27 rfl tt23 rfl (cLg rfl rfl (c1) (cL rfl (zZx (v := .lst _ _ _) tt23 rfl rfl ⟨_, rfl⟩ (cLg rfl rfl (c1) ?_))))))
 obtain ⟨s8, sd⟩ := sd
 refine cL rfl (zZu (k := 76) (fst := []) (caps := []) (ys := [.lst _ _ _, .int _ _]) rfl rfl (spec_rall f.tm 3 s8) (Wks.cons (zZs _ _ _ _ _) (Wks.cons (zZz _ _ _ _) (Wks.refl _))) (cL rfl (zZv (v := .bool _) rfl c1 rfl (mB rfl rfl ?_))))
 by_cases c2 : (rallM f.tm 3) = true
 have sd := sd.1 c2
 refine cLg rfl rfl (c2) (cL rfl (o_fa tt27 rfl tt23 rfl (cLg rfl rfl (c2) (cL rfl (zZx (v := .lst _ _ _) tt23 rfl rfl ⟨_, rfl⟩ (cLg rfl rfl (c2) (cL rfl (zXq (v := .lst _ _ _) tt23 rfl rfl (cLg rfl rfl (c2) (cL rfl (zZu (k := 75) (fst := []) (caps := []) (ys := [.int _ _, .int _ _, .int _ _]) rfl rfl (spec_rin ((f.sv.length : Nat) : Int) 1 12) (Wks.cons (zZz _ _ _ _) (Wks.cons (zZz _ _ _ _) (Wks.cons (zZz _ _ _ _) (Wks.refl _)))) (cL rfl (zZv (v := .bool _) rfl c2 rfl (mB rfl rfl ?_))))))))))))))
 by_cases c3 : (inM ((f.sv.length : Nat) : Int) 1 12) = true
 have sd := sd.1 c3
 refine cLg rfl rfl (c3) (cL rfl (o_fa tt27 rfl tt23 rfl (cLg rfl rfl (c3) (cL rfl (zZx (v := .lst _ _ _) tt23 rfl rfl ⟨_, rfl⟩ (cLg rfl rfl (c3) (cL rfl (o_fa tt27 rfl tt23 rfl (cLg rfl rfl (c3) (cL rfl (zZx (v := .lst _ _ _) tt23 rfl rfl ⟨_, rfl⟩ (cLg rfl rfl (c3) (cL rfl (zXq (v := .lst _ _ _) tt23 rfl rfl (cLg rfl rfl (c3) ?_)))))))))))))))
 obtain ⟨s9, sd⟩ := sd
 refine cL rfl (o_sub rfl rfl s9 (cLg rfl rfl (c3) ?_))
 obtain ⟨s10, sd⟩ := sd
 refine cL rfl (zZu (k := 76) (fst := []) (caps := []) (ys := [.lst _ _ _, .int _ _]) rfl rfl (spec_rall f.sv (((f.tm.length : Nat) : Int) - 1) s10) (Wks.cons (zZs _ _ _ _ _) (Wks.cons (zZz _ _ _ _) (Wks.refl _))) (cL rfl (zZv (v := .bool _) rfl c3 rfl (aB rfl rfl (eL (zYz ⟨(congrArg AV.bool (zXp c1 (zXp c2 (zXp c3 (dVar _))))).symm, trivial⟩ rfl))))))
 iterate 7 refine cLs rfl rfl rfl ((Bool.eq_false_iff.2 c3)) ?_
 refine cL rfl (zZy (v := .bool _) rfl (Bool.eq_false_iff.2 c3) rfl (aB rfl rfl (eL (zYz ⟨(congrArg AV.bool (zXp c1 (zXp c2 (dAndF c3)))).symm, trivial⟩ rfl))))
 iterate 4 refine cLs rfl rfl rfl ((Bool.eq_false_iff.2 c2)) ?_
 refine cL rfl (zZy (v := .bool _) rfl (Bool.eq_false_iff.2 c2) rfl (mB rfl rfl ?_))
 iterate 7 refine cLs rfl rfl rfl (rfl) ?_
 refine cL rfl (zZy (v := .bool _) rfl rfl rfl (aB rfl rfl (eL (zYz ⟨(congrArg AV.bool (zXp c1 (dAndF c2))).symm, trivial⟩ rfl))))
 iterate 3 refine cLs rfl rfl rfl ((Bool.eq_false_iff.2 c1)) ?_
 refine cL rfl (zZy (v := .bool _) rfl (Bool.eq_false_iff.2 c1) rfl (mB rfl rfl ?_))
 iterate 4 refine cLs rfl rfl rfl (rfl) ?_
 refine cL rfl (zZy (v := .bool _) rfl rfl rfl (mB rfl rfl ?_))
 iterate 7 refine cLs rfl rfl rfl (rfl) ?_
 refine cL rfl (zZy (v := .bool _) rfl rfl rfl (aB rfl rfl (eL (zYz ⟨(congrArg AV.bool (dAndF c1)).symm, trivial⟩ rfl))))
 refine W.ret (rt (rt_t (v := .bool _) rfl (rt_n (⟨_, zXx _ _ _, (decide (((inM ((f.tm.length : Nat) : Int) 1 8) = true) /\ (((rallM f.tm 3) = true) /\ (((inM ((f.sv.length : Nat) : Int) 1 12) = true) /\ ((rallM f.sv (((f.tm.length : Nat) : Int) - 1)) = true))))), rfl, hv⟩))))
theorem vcp_rcvalid (f : Flt) (h0 : f.dr.length <= 9223372036854775807) (h1 : f.sv.length <= 9223372036854775807) (h2 : f.tm.length <= 9223372036854775807) : vc_rcvalid f (fun q0 => q0 = (cvalidM f)) := by
  unfold vc_rcvalid
  have e : cvalidM f = (rallM f.dr 1000 && inM (f.dr.length : Int) 1 6 && decide (0 <= f.la /\ f.la <= 1000000) && decide (0 <= f.li /\ f.li <= 2) && decide (f.li < (f.dr.length : Int)) && (rallM f.tm 3 && inM (f.tm.length : Int) 1 8) && (rallM f.sv ((f.tm.length : Int) - 1) && inM (f.sv.length : Int) 1 12)) := by
    unfold cvalidM
    rw [rall_all, rall_all, rall_all]
  have e1 : ∀ x lo hi : Int, decide (lo <= x /\ x <= hi) = inM x lo hi := fun x lo hi => by unfold inM; rfl
  rw [e1, e1] at e
  refine ⟨⟨fun _ => trivial, fun _ => ⟨h0, trivial⟩⟩, fun h => ?_, fun h => ⟨⟨fun _ => ⟨h2, fun _ => ⟨fun _ => ⟨by unfold inI; omega, h1, trivial⟩, fun _ => trivial⟩, fun _ => trivial⟩, fun _ => trivial⟩, ?_⟩⟩
  . show false = cvalidM f
    rw [e]
    refine (Bool.eq_false_iff.2 fun hb => ?_).symm
    simp only [Bool.and_eq_true, decide_eq_true_eq] at hb
    obtain ⟨⟨⟨⟨⟨⟨k1, k2⟩, k3⟩, k4⟩, k5⟩, _⟩, _⟩ := hb
    rcases h with h | h | h | h | h
    . exact h k2
    . exact h k1
    . exact h k3
    . exact h k4
    . omega
  . show decide _ = cvalidM f
    have g : ∀ {p : Prop}, ¬ ¬ p -> p := fun h => Classical.not_not.1 h
    have k2 := g fun x => h (.inl x)
    have k1 := g fun x => h (.inr (.inl x))
    have k3 := g fun x => h (.inr (.inr (.inl x)))
    have k4 := g fun x => h (.inr (.inr (.inr (.inl x))))
    have k5 : f.li < ((f.dr.length : Nat) : Int) := Int.not_le.1 fun x => h (.inr (.inr (.inr (.inr x))))
    rw [e, k1, k2, k3, k4, decide_eq_true k5, Bool.eq_iff_iff]
    simp only [decide_eq_true_eq, Bool.and_eq_true, Bool.true_and, and_assoc]
    exact ⟨fun ⟨a, b, c, d⟩ => ⟨b, a, d, c⟩, fun ⟨b, a, d, c⟩ => ⟨a, b, c, d⟩⟩
theorem spec_rcvalid (f : Flt) (h0 : f.dr.length <= 9223372036854775807) (h1 : f.sv.length <= 9223372036854775807) (h2 : f.tm.length <= 9223372036854775807) : FnP Try.prog 58 [.agg ((e27 true) f)] (fun xR => xR = .bool (cvalidM f)) :=
  (walk_rcvalid (vcp_rcvalid f h0 h1 h2)).mono (by rintro _ ⟨_, rfl, rfl⟩; rfl)
def vc_rposs (n : Int) (c : Con) (Post : Bool -> Prop) : Prop :=
  Post (decide (((0 : Int) <= c.f) /\ ((c.f < n) /\ (((0 : Int) <= c.t) /\ ((c.t < n) /\ ((¬ c.f = c.t) /\ (((-1125899906842624 : Int) <= c.m) /\ ((c.m <= 1125899906842624) /\ (((0 : Int) <= c.a) /\ (c.a < 64))))))))))
theorem walk_rposs {n : Int} {c : Con} {Post : Bool -> Prop} (hv : vc_rposs n c Post) : FnP Try.prog 77 [.int .i64 n, .agg (e66 c)] (fun x => ∃ q0, x = .bool q0 /\ Post q0) := by
 refine FnP.of_walk (T := tt) (nt := 52) ttOk ttMix ⟨⟨Try.f77, Try.func77, rfl, rfl, rfl, rfl⟩⟩ (by simp) ?_
 unfold vc_rposs at hv
 change W _ _ _ ⟨52, look [(0, .int .i64 n), (1, .agg [.int .i64 c.f, .int .i64 c.t, .int .i64 c.m, .int .i64 c.a])], [], 0⟩ _
 refine W.rL (cL rfl (o_box (v := .agg _) (p := 0) rfl rfl rfl (aB rfl rfl (eL (W.tr [(0, .int _ _), (3, .ptr _ _)] [.box _ [.int _ _, .int _ _, .int _ _, .int _ _]] ⟨rfl, rfl, trivial⟩ rfl (W.rLm ⟨52, look [(4, .bool (decide (((0 : Int) <= c.f) /\ ((c.f < n) /\ (((0 : Int) <= c.t) /\ ((c.t < n) /\ ((¬ c.f = c.t) /\ (((-1125899906842624 : Int) <= c.m) /\ ((c.m <= 1125899906842624) /\ (((0 : Int) <= c.a) /\ (c.a < 64)))))))))))], [.box 66 [.int .i64 c.f, .int .i64 c.t, .int .i64 c.m, .int .i64 c.a]], 0⟩ ?_ ?_))))))
 refine cL rfl (o_fa tt66 rfl tt3 rfl (cL rfl (zZx (v := .int _ _) tt3 rfl rfl ⟨_, rfl⟩ (cL rfl (o_geq rfl rfl (mB rfl rfl ?_))))))
 by_cases c1 : (0 : Int) <= c.f
 refine cLg rfl rfl (dT c1) (cL rfl (o_fa tt66 rfl tt3 rfl (cLg rfl rfl (dT c1) (cL rfl (zZx (v := .int _ _) tt3 rfl rfl ⟨_, rfl⟩ (cLg rfl rfl (dT c1) (mI rfl rfl (cLg rfl rfl (dT c1) (cL rfl (zXw rfl rfl (cL rfl (zZv (v := .bool _) rfl (dT c1) rfl (mB rfl rfl ?_)))))))))))))
 by_cases c2 : c.f < n
 refine cLg rfl rfl (dT c2) (cL rfl (o_fa tt66 rfl tt3 rfl (cLg rfl rfl (dT c2) (cL rfl (zZx (v := .int _ _) tt3 rfl rfl ⟨_, rfl⟩ (cLg rfl rfl (dT c2) (cL rfl (o_geq rfl rfl (cL rfl (zZv (v := .bool _) rfl (dT c2) rfl (mB rfl rfl ?_)))))))))))
 by_cases c3 : (0 : Int) <= c.t
 refine cLg rfl rfl (dT c3) (cL rfl (o_fa tt66 rfl tt3 rfl (cLg rfl rfl (dT c3) (cL rfl (zZx (v := .int _ _) tt3 rfl rfl ⟨_, rfl⟩ (cLg rfl rfl (dT c3) (mI rfl rfl (cLg rfl rfl (dT c3) (cL rfl (zXw rfl rfl (cL rfl (zZv (v := .bool _) rfl (dT c3) rfl (mB rfl rfl ?_)))))))))))))
 by_cases c4 : c.t < n
 refine cLg rfl rfl (dT c4) (cL rfl (o_fa tt66 rfl tt3 rfl (cLg rfl rfl (dT c4) (cL rfl (zZx (v := .int _ _) tt3 rfl rfl ⟨_, rfl⟩ (cLg rfl rfl (dT c4) (cL rfl (o_fa tt66 rfl tt3 rfl (cLg rfl rfl (dT c4) (cL rfl (zZx (v := .int _ _) tt3 rfl rfl ⟨_, rfl⟩ (cLg rfl rfl (dT c4) (cL rfl (o_neI rfl rfl rfl (cL rfl (zZv (v := .bool _) rfl (dT c4) rfl (mB rfl rfl ?_)))))))))))))))))
 by_cases c5 : ¬ c.f = c.t
 refine cLg rfl rfl (dT c5) (cL rfl (o_fa tt66 rfl tt3 rfl (cLg rfl rfl (dT c5) (cL rfl (zZx (v := .int _ _) tt3 rfl rfl ⟨_, rfl⟩ (cLg rfl rfl (dT c5) (cL rfl (o_geq rfl rfl (cL rfl (zZv (v := .bool _) rfl (dT c5) rfl (mB rfl rfl ?_)))))))))))
 by_cases c6 : (-1125899906842624 : Int) <= c.m
 refine cLg rfl rfl (dT c6) (cL rfl (o_fa tt66 rfl tt3 rfl (cLg rfl rfl (dT c6) (cL rfl (zZx (v := .int _ _) tt3 rfl rfl ⟨_, rfl⟩ (cLg rfl rfl (dT c6) (cL rfl (o_leq rfl rfl (cL rfl (zZv (v := .bool _) rfl (dT c6) rfl (mB rfl rfl ?_)))))))))))
 by_cases c7 : c.m <= 1125899906842624
 refine cLg rfl rfl (dT c7) (cL rfl (o_fa tt66 rfl tt3 rfl (cLg rfl rfl (dT c7) (cL rfl (zZx (v := .int _ _) tt3 rfl rfl ⟨_, rfl⟩ (cLg rfl rfl (dT c7) (cL rfl (o_geq rfl rfl (cL rfl (zZv (v := .bool _) rfl (dT c7) rfl (mB rfl rfl ?_)))))))))))
 by_cases c8 : (0 : Int) <= c.a
 refine cLg rfl rfl (dT c8) (cL rfl (o_fa tt66 rfl tt3 rfl (cLg rfl rfl (dT c8) (cL rfl (zZx (v := .int _ _) tt3 rfl rfl ⟨_, rfl⟩ (cLg rfl rfl (dT c8) (cL rfl (zXw rfl rfl (cL rfl (zZv (v := .bool _) rfl (dT c8) rfl (aB rfl rfl (eL (zYz ⟨(congrArg AV.bool (zXp c1 (zXp c2 (zXp c3 (zXp c4 (zXp c5 (zXp c6 (zXp c7 (zXp c8 (rfl)))))))))).symm, trivial⟩ rfl)))))))))))))
 iterate 3 refine cLs rfl rfl rfl (dF c8) ?_
 refine cL rfl (zZy (v := .bool _) rfl (dF c8) rfl (aB rfl rfl (eL (zYz ⟨(congrArg AV.bool (zXp c1 (zXp c2 (zXp c3 (zXp c4 (zXp c5 (zXp c6 (zXp c7 (dAndF c8))))))))).symm, trivial⟩ rfl))))
 iterate 3 refine cLs rfl rfl rfl (dF c7) ?_
 refine cL rfl (zZy (v := .bool _) rfl (dF c7) rfl (mB rfl rfl ?_))
 iterate 3 refine cLs rfl rfl rfl (rfl) ?_
 refine cL rfl (zZy (v := .bool _) rfl rfl rfl (aB rfl rfl (eL (zYz ⟨(congrArg AV.bool (zXp c1 (zXp c2 (zXp c3 (zXp c4 (zXp c5 (zXp c6 (dAndF c7)))))))).symm, trivial⟩ rfl))))
 iterate 3 refine cLs rfl rfl rfl (dF c6) ?_
 refine cL rfl (zZy (v := .bool _) rfl (dF c6) rfl (mB rfl rfl ?_))
 iterate 3 refine cLs rfl rfl rfl (rfl) ?_
 refine cL rfl (zZy (v := .bool _) rfl rfl rfl (mB rfl rfl ?_))
 iterate 3 refine cLs rfl rfl rfl (rfl) ?_
 refine cL rfl (zZy (v := .bool _) rfl rfl rfl (aB rfl rfl (eL (zYz ⟨(congrArg AV.bool (zXp c1 (zXp c2 (zXp c3 (zXp c4 (zXp c5 (dAndF c6))))))).symm, trivial⟩ rfl))))
 iterate 3 refine cLs rfl rfl rfl (dF c5) ?_
 refine cL rfl (zZy (v := .bool _) rfl (dF c5) rfl (mB rfl rfl ?_))
 iterate 3 refine cLs rfl rfl rfl (rfl) ?_
 refine cL rfl (zZy (v := .bool _) rfl rfl rfl (mB rfl rfl ?_))
 iterate 3 refine cLs rfl rfl rfl (rfl) ?_
 refine cL rfl (zZy (v := .bool _) rfl rfl rfl (mB rfl rfl ?_))
 iterate 3 refine cLs rfl rfl rfl (rfl) ?_
 refine cL rfl (zZy (v := .bool _) rfl rfl rfl (aB rfl rfl (eL (zYz ⟨(congrArg AV.bool (zXp c1 (zXp c2 (zXp c3 (zXp c4 (dAndF c5)))))).symm, trivial⟩ rfl))))
 iterate 5 refine cLs rfl rfl rfl (dF c4) ?_
 refine cL rfl (zZy (v := .bool _) rfl (dF c4) rfl (mB rfl rfl ?_))
 iterate 3 refine cLs rfl rfl rfl (rfl) ?_
 refine cL rfl (zZy (v := .bool _) rfl rfl rfl (mB rfl rfl ?_))
 iterate 3 refine cLs rfl rfl rfl (rfl) ?_
 refine cL rfl (zZy (v := .bool _) rfl rfl rfl (mB rfl rfl ?_))
 iterate 3 refine cLs rfl rfl rfl (rfl) ?_
 refine cL rfl (zZy (v := .bool _) rfl rfl rfl (mB rfl rfl ?_))
 iterate 3 refine cLs rfl rfl rfl (rfl) ?_
 refine cL rfl (zZy (v := .bool _) rfl rfl rfl (aB rfl rfl (eL (zYz ⟨(congrArg AV.bool (zXp c1 (zXp c2 (zXp c3 (dAndF c4))))).symm, trivial⟩ rfl))))
 iterate 4 refine cLs rfl rfl rfl (dF c3) ?_
 refine cL rfl (zZy (v := .bool _) rfl (dF c3) rfl (mB rfl rfl ?_))
 iterate 5 refine cLs rfl rfl rfl (rfl) ?_
 refine cL rfl (zZy (v := .bool _) rfl rfl rfl (mB rfl rfl ?_))
 iterate 3 refine cLs rfl rfl rfl (rfl) ?_
 refine cL rfl (zZy (v := .bool _) rfl rfl rfl (mB rfl rfl ?_))
 iterate 3 refine cLs rfl rfl rfl (rfl) ?_
 refine cL rfl (zZy (v := .bool _) rfl rfl rfl (mB rfl rfl ?_))
 iterate 3 refine cLs rfl rfl rfl (rfl) ?_
 refine cL rfl (zZy (v := .bool _) rfl rfl rfl (mB rfl rfl ?_))
 iterate 3 refine cLs rfl rfl rfl (rfl) ?_
 refine cL rfl (zZy (v := .bool _) rfl rfl rfl (aB rfl rfl (eL (zYz ⟨(congrArg AV.bool (zXp c1 (zXp c2 (dAndF c3)))).symm, trivial⟩ rfl))))
 iterate 3 refine cLs rfl rfl rfl (dF c2) ?_
 refine cL rfl (zZy (v := .bool _) rfl (dF c2) rfl (mB rfl rfl ?_))
 iterate 4 refine cLs rfl rfl rfl (rfl) ?_
 refine cL rfl (zZy (v := .bool _) rfl rfl rfl (mB rfl rfl ?_))
 iterate 5 refine cLs rfl rfl rfl (rfl) ?_
 refine cL rfl (zZy (v := .bool _) rfl rfl rfl (mB rfl rfl ?_))
 iterate 3 refine cLs rfl rfl rfl (rfl) ?_
 refine cL rfl (zZy (v := .bool _) rfl rfl rfl (mB rfl rfl ?_))
 iterate 3 refine cLs rfl rfl rfl (rfl) ?_
 refine cL rfl (zZy (v := .bool _) rfl rfl rfl (mB rfl rfl ?_))
 iterate 3 refine cLs rfl rfl rfl (rfl) ?_
 refine cL rfl (zZy (v := .bool _) rfl rfl rfl (mB rfl rfl ?_))
 iterate 3 refine cLs rfl rfl rfl (rfl) ?_
 refine cL rfl (zZy (v := .bool _) rfl rfl rfl (aB rfl rfl (eL (zYz ⟨(congrArg AV.bool (zXp c1 (dAndF c2))).symm, trivial⟩ rfl))))
 iterate 4 refine cLs rfl rfl rfl (dF c1) ?_
 refine cL rfl (zZy (v := .bool _) rfl (dF c1) rfl (mB rfl rfl ?_))
 iterate 3 refine cLs rfl rfl rfl (rfl) ?_
 refine cL rfl (zZy (v := .bool _) rfl rfl rfl (mB rfl rfl ?_))
 iterate 4 refine cLs rfl rfl rfl (rfl) ?_
 refine cL rfl (zZy (v := .bool _) rfl rfl rfl (mB rfl rfl ?_))
 iterate 5 refine cLs rfl rfl rfl (rfl) ?_
 refine cL rfl (zZy (v := .bool _) rfl rfl rfl (mB rfl rfl ?_))
 iterate 3 refine cLs rfl rfl rfl (rfl) ?_
 refine cL rfl (zZy (v := .bool _) rfl rfl rfl (mB rfl rfl ?_))
 iterate 3 refine cLs rfl rfl rfl (rfl) ?_
 refine cL rfl (zZy (v := .bool _) rfl rfl rfl (mB rfl rfl ?_))
 iterate 3 refine cLs rfl rfl rfl (rfl) ?_
 refine cL rfl (zZy (v := .bool _) rfl rfl rfl (mB rfl rfl ?_))
 iterate 3 refine cLs rfl rfl rfl (rfl) ?_
 refine cL rfl (zZy (v := .bool _) rfl rfl rfl (aB rfl rfl (eL (zYz ⟨(congrArg AV.bool (dAndF c1)).symm, trivial⟩ rfl))))
 refine W.ret (rt (rt_t (v := .bool _) rfl (rt_n (⟨_, zXx _ _ _, (decide (((0 : Int) <= c.f) /\ ((c.f < n) /\ (((0 : Int) <= c.t) /\ ((c.t < n) /\ ((¬ c.f = c.t) /\ (((-1125899906842624 : Int) <= c.m) /\ ((c.m <= 1125899906842624) /\ (((0 : Int) <= c.a) /\ (c.a < 64)))))))))), rfl, hv⟩))))
theorem vcp_rposs (n : Int) (c : Con)  : vc_rposs n c (fun q0 => q0 = (possM n c)) := by
  unfold vc_rposs possM
  exact decide_eq_decide.mpr (by omega)
theorem spec_rposs (n : Int) (c : Con)  : FnP Try.prog 77 [.int .i64 n, .agg (e66 c)] (fun xR => xR = .bool (possM n c)) :=
  (walk_rposs (vcp_rposs n c)).mono (by rintro _ ⟨_, rfl, rfl⟩; rfl)
def vc_rvalid (n : Int) (l : (List Con)) (Post : Bool -> Prop) : Prop :=
  (((n < 1) \/ (((24 : Int) < n) \/ ((2000 : Int) < ((l.length : Nat) : Int)))) -> Post false) /\ (¬ ((n < 1) \/ (((24 : Int) < n) \/ ((2000 : Int) < ((l.length : Nat) : Int)))) -> ∃ (I1 : Int -> Prop) (μ1 : Int -> Nat), I1 0 /\ ∀ (v5 : Int), I1 v5 -> ((v5 < ((l.length : Nat) : Int)) -> (0 <= v5 /\ v5 < (l.length : Int)) /\ ((¬ ((possM n (lat l v5)) = true)) -> Post false) /\ (¬ (¬ ((possM n (lat l v5)) = true)) -> (inI (v5 + 1)) /\ (I1 (v5 + 1) /\ μ1 (v5 + 1) < μ1 v5))) /\ (¬ (v5 < ((l.length : Nat) : Int)) -> Post true))
theorem walk_rvalid {n : Int} {l : (List Con)} {Post : Bool -> Prop} (hv : vc_rvalid n l Post) : FnP Try.prog 59 [.int .i64 n, .lst true l.length (zYy e66 l)] (fun x => ∃ q0, x = .bool q0 /\ Post q0) := by
 refine FnP.of_walk (T := tt) (nt := 30) ttOk ttMix ⟨⟨Try.f59, Try.func59, rfl, rfl, rfl, rfl⟩⟩ (by simp) ?_
 unfold vc_rvalid at hv
 change W _ _ _ ⟨30, look [(0, .int .i64 n), (1, .lst true l.length (zYy e66 l))], [], 0⟩ _
 refine W.rL (aB rfl rfl (eL (W.seq' (W.rLm ⟨30, look [(0, .int .i64 n), (1, .lst true l.length (zYy e66 l)), (16, .bool (decide ((n < 1) \/ (((24 : Int) < n) \/ ((2000 : Int) < ((l.length : Nat) : Int))))))], [], 0⟩ ?_ ?_))))
 refine mI rfl rfl (cL rfl (zXw rfl rfl (mB rfl rfl ?_)))
 by_cases c1 : n < 1
 iterate 2 refine cLs rfl rfl rfl (dT c1) ?_
 refine cL rfl (zZv (v := .bool _) rfl (dT c1) rfl (mB rfl rfl ?_))
 iterate 3 refine cLs rfl rfl rfl (rfl) ?_
 refine cL rfl (zZv (v := .bool _) rfl rfl rfl (eL (zYz ⟨rfl, rfl, (congrArg AV.bool (dOrT c1)).symm, trivial⟩ rfl)))
 refine cLg rfl rfl (dF c1) (mI rfl rfl (cLg rfl rfl (dF c1) (cL rfl (o_gtr rfl rfl (cL rfl (zZy (v := .bool _) rfl (dF c1) rfl (mB rfl rfl ?_)))))))
 by_cases c2 : (24 : Int) < n
 iterate 3 refine cLs rfl rfl rfl (dT c2) ?_
 refine cL rfl (zZv (v := .bool _) rfl (dT c2) rfl (eL (zYz ⟨rfl, rfl, (congrArg AV.bool (dOrF c1 (dOrT c2))).symm, trivial⟩ rfl)))
 refine cLg rfl rfl (dF c2) (mL rfl rfl (cLg rfl rfl (dF c2) (cL rfl (zXq (v := .lst _ _ _) tt28 rfl rfl (cLg rfl rfl (dF c2) (cL rfl (o_gtr rfl rfl (cL rfl (zZy (v := .bool _) rfl (dF c2) rfl (eL (zYz ⟨rfl, rfl, (congrArg AV.bool (dOrF c1 (dOrF c2 (rfl)))).symm, trivial⟩ rfl)))))))))))
 refine W.cn rfl (fun hc => ?_) (fun hc => ?_)
 have hv := hv.1 hc
 refine W.rL (aB rfl rfl (eL (W.ret (zZr (rt (rt_t (v := .bool _) rfl (rt_n (⟨_, zXx _ _ _, false, rfl, hv⟩))))))))
 have hv := hv.2 hc
 refine W.skip (zZ (W.seq' (W.rL (aI rfl rfl (eL (W.block ?_))))))
 obtain ⟨I1, μ1, hp, hv⟩ := hv
 refine W.loop1 (fun v5 => ⟨30, look [(0, .int .i64 n), (1, .lst true l.length (zYy e66 l)), (5, .int .i64 v5)], [], 0⟩) I1 μ1 0 (St.to_mk (φ := []) rfl (rfl) ⟨Ren.int _ _, Ren.lst _ _ _, Ren.int _ _, trivial⟩ trivial) hp ?_
 clear hp
 intro v5 hI
 replace hv := hv v5 hI
 clear hI
 refine W.seq' (W.rL (mI rfl rfl (mL rfl rfl (cL rfl (zXq (v := .lst _ _ _) tt28 rfl rfl (cL rfl (zXw rfl rfl (eL (W.cn rfl (fun hc => ?_) (fun hc => ?_))))))))))
 have hv := hv.1 hc
 refine W.skip (zZ (W.seq' (W.block (W.rL (mI rfl rfl (mL rfl rfl (mI rfl rfl ?_)))))))
 obtain ⟨s11, hv⟩ := hv
 refine cL rfl (zYp tt28 tt66 rfl rfl (enc66.wd true) rfl s11 ?_)
 intro rest11
 refine cL rfl (zXv (cs := [.int _ _, .int _ _, .int _ _, .int _ _]) tt66 rfl rfl ⟨_, rfl⟩ rfl (cL rfl (zZu (k := 77) (fst := []) (caps := []) (ys := [.int _ _, .agg _]) rfl rfl (spec_rposs n (lat l v5)) (Wks.cons (zZz _ _ _ _) (Wks.cons (zXr 5 _ (Wks.cons (zZz _ _ _ _) (Wks.cons (zZz _ _ _ _) (Wks.cons (zZz _ _ _ _) (Wks.cons (zZz _ _ _ _) (Wks.refl _)))))) (Wks.refl _))) (cL rfl (o_notB rfl (eL (W.tr [(0, .int _ _), (1, .lst _ _ _), (5, .int _ _), (29, .bool _)] [] ⟨rfl, rfl, rfl, rfl, trivial⟩ rfl (W.cn rfl (fun hc => ?_) (fun hc => ?_)))))))))
 have hv := hv.1 hc
 refine W.rL (aB rfl rfl (eL (W.ret (zXz (zZr (zZr (zXz (zZr (rt (rt_t (v := .bool _) rfl (rt_n (⟨_, zXx _ _ _, false, rfl, hv⟩))))))))))))
 have hv := hv.2 hc
 refine W.skip (zYq (zZ (W.rL1 (mI rfl rfl ?_))))
 obtain ⟨s12, hv⟩ := hv
 refine cL rfl (o_add rfl rfl s12 (aI rfl rfl (eL (zZ (⟨(), (v5 + 1), hv, St.to_mk (φ := []) rfl (rfl) ⟨Ren.int _ _, Ren.lst _ _ _, Ren.int _ _, trivial⟩ trivial⟩)))))
 have hv := hv.2 hc
 refine W.exit (zZt (zZt (zXy (zZ (W.rL (aB rfl rfl (eL (W.ret (rt (rt_t (v := .bool _) rfl (rt_n (⟨_, zXx _ _ _, true, rfl, hv⟩))))))))))))
theorem vcp_rvalid (n : Int) (l : (List Con)) (h0 : l.length <= 1073741824) : vc_rvalid n l (fun q0 => q0 = (validM n l)) := by
  unfold vc_rvalid
  refine ⟨fun h => ?_, fun h => ⟨fun v => ∃ i : Nat, v = i /\ i <= l.length /\ ∀ j : Nat, j < i -> possM n (lat l j) = true, fun v => l.length - v.toNat, ⟨0, rfl, by omega, fun j hj => by omega⟩, ?_⟩⟩
  . refine (Bool.eq_false_iff.mpr fun e => ?_).symm
    obtain ⟨e, -⟩ := validM_iff.mp e
    omega
  rintro _ ⟨i, rfl, hi, hp⟩
  refine ⟨fun k1 => ⟨by omega, fun k2 => ?_, fun k2 => ⟨by unfold inI; omega, ⟨i + 1, by omega, by omega, fun j hj => ?_⟩, by dsimp only; omega⟩⟩, fun k1 => ?_⟩
  . refine (Bool.eq_false_iff.mpr fun e => k2 ?_).symm
    exact (validM_iff.mp e).2 _ (lat_mem ⟨by omega, by omega⟩)
  . rcases Nat.lt_or_ge j i with h6 | h6
    . exact hp j h6
    . have : j = i := by omega
      subst this; exact Classical.not_not.mp k2
  . refine (validM_iff.mpr ⟨by omega, fun c hc => ?_⟩).symm
    obtain ⟨j, hj, rfl⟩ := List.getElem_of_mem hc
    have := hp j (by omega)
    rwa [lat_get hj] at this
theorem spec_rvalid (n : Int) (l : (List Con)) (h0 : l.length <= 1073741824) : FnP Try.prog 59 [.int .i64 n, .lst true l.length (zYy e66 l)] (fun xR => xR = .bool (validM n l)) :=
  (walk_rvalid (vcp_rvalid n l h0)).mono (by rintro _ ⟨_, rfl, rfl⟩; rfl)
def vc_r10valid (f : Flt) (n : Int) (l : (List Con)) (Post : Bool -> Prop) : Prop :=
  ((f.dr.length <= 9223372036854775807) /\ (f.sv.length <= 9223372036854775807) /\ (f.tm.length <= 9223372036854775807) /\ ((¬ ((cvalidM f) = true)) -> True) /\ (¬ (¬ ((cvalidM f) = true)) -> (l.length <= 1073741824) /\ True)) /\ ((((¬ ((cvalidM f) = true)) \/ (¬ ((validM n l) = true))) -> Post false) /\ (¬ ((¬ ((cvalidM f) = true)) \/ (¬ ((validM n l) = true))) -> ∃ (I1 : Int -> Prop) (μ1 : Int -> Nat), I1 0 /\ ∀ (v7 : Int), I1 v7 -> ((v7 < ((l.length : Nat) : Int)) -> (0 <= v7 /\ v7 < (l.length : Int)) /\ (0 <= ((f.dr.length : Nat) : Int)) /\ (inI (1 * 2 ^ (min ((f.dr.length : Nat) : Int).toNat 64))) /\ (((1 * 2 ^ (min ((f.dr.length : Nat) : Int).toNat 64)) <= ((lat l v7).a)) -> Post false) /\ (¬ ((1 * 2 ^ (min ((f.dr.length : Nat) : Int).toNat 64)) <= ((lat l v7).a)) -> (inI (v7 + 1)) /\ (I1 (v7 + 1) /\ μ1 (v7 + 1) < μ1 v7))) /\ (¬ (v7 < ((l.length : Nat) : Int)) -> Post true)))
theorem walk_r10valid {f : Flt} {n : Int} {l : (List Con)} {Post : Bool -> Prop} (hv : vc_r10valid f n l Post) : FnP Try.prog 39 [.agg ((e27 true) f), .int .i64 n, .lst true l.length (zYy e66 l)] (fun x => ∃ q0, x = .bool q0 /\ Post q0) := by
 refine FnP.of_walk (T := tt) (nt := 33) ttOk ttMix ⟨⟨Try.f39, Try.func39, rfl, rfl, rfl, rfl⟩⟩ (by simp) ?_
 unfold vc_r10valid at hv
 change W _ _ _ ⟨33, look [(0, .agg [.lst true f.dr.length (zYy zYx f.dr), .int .i64 f.la, .int .i64 f.li, .lst true f.sv.length (zYy zYx f.sv), .lst true f.tm.length (zYy zYx f.tm)]), (1, .int .i64 n), (2, .lst true l.length (zYy e66 l))], [], 0⟩ _
 refine W.rL (cL rfl (o_box (v := .agg _) (p := 0) rfl rfl rfl (aB rfl rfl (eL (W.tr [(1, .int _ _), (2, .lst _ _ _), (3, .ptr _ _)] [.box _ [.lst _ _ _, .int _ _, .int _ _, .lst _ _ _, .lst _ _ _]] ⟨rfl, rfl, rfl, trivial⟩ rfl (W.seq' ?_))))))
 obtain ⟨sd, hv⟩ := hv
 refine W.rLm ⟨33, look [(2, .lst true l.length (zYy e66 l)), (3, .ptr 0 0), (16, .bool (decide ((¬ ((cvalidM f) = true)) \/ (¬ ((validM n l) = true)))))], [.box 27 [.lst true f.dr.length (zYy zYx f.dr), .int .i64 f.la, .int .i64 f.li, .lst true f.sv.length (zYy zYx f.sv), .lst true f.tm.length (zYy zYx f.tm)]], 0⟩ ?_ ?_
 refine cL rfl (zXv (cs := [.lst _ _ _, .int _ _, .int _ _, .lst _ _ _, .lst _ _ _]) tt27 rfl rfl ⟨_, rfl⟩ rfl ?_)
 obtain ⟨s13, s14, s15, sd⟩ := sd
 refine cL rfl (zZu (k := 58) (fst := []) (caps := []) (ys := [.agg _]) rfl rfl (spec_rcvalid f s13 s14 s15) (Wks.cons (zXr 5 _ (Wks.cons (zZs _ _ _ _ _) (Wks.cons (zZz _ _ _ _) (Wks.cons (zZz _ _ _ _) (Wks.cons (zZs _ _ _ _ _) (Wks.cons (zZs _ _ _ _ _) (Wks.refl _))))))) (Wks.refl _)) (cL rfl (o_notB rfl (mB rfl rfl ?_))))
 by_cases c1 : ¬ ((cvalidM f) = true)
 iterate 4 refine cLs rfl rfl rfl (dT c1) ?_
 refine cL rfl (zZv (v := .bool _) rfl (dT c1) rfl (eL (zYz ⟨rfl, rfl, (congrArg AV.bool (dOrT c1)).symm, trivial⟩ rfl)))
 have sd := sd.2 c1
 refine cLg rfl rfl (dF c1) (mI rfl rfl (cLg rfl rfl (dF c1) (mL rfl rfl (cLg rfl rfl (dF c1) ?_))))
 obtain ⟨s16, sd⟩ := sd
 refine cL rfl (zZu (k := 59) (fst := []) (caps := []) (ys := [.int _ _, .lst _ _ _]) rfl rfl (spec_rvalid n l s16) (Wks.cons (zZz _ _ _ _) (Wks.cons (zZs _ _ _ _ _) (Wks.refl _))) (cLg rfl rfl (dF c1) (cL rfl (o_notB rfl (cL rfl (zZy (v := .bool _) rfl (dF c1) rfl (eL (zYz ⟨rfl, rfl, (congrArg AV.bool (dOrF c1 (rfl))).symm, trivial⟩ rfl))))))))
 refine W.cn rfl (fun hc => ?_) (fun hc => ?_)
 have hv := hv.1 hc
 refine W.rL (aB rfl rfl (eL (W.ret (zZr (rt (rt_t (v := .bool _) rfl (rt_n (⟨_, zXx _ _ _, false, rfl, hv⟩))))))))
 have hv := hv.2 hc
 refine W.skip (zZ (W.seq' (W.rL (aI rfl rfl (eL (W.block ?_))))))
 obtain ⟨I1, μ1, hp, hv⟩ := hv
 refine W.loop1 (fun v7 => ⟨33, look [(2, .lst true l.length (zYy e66 l)), (3, .ptr 0 0), (7, .int .i64 v7)], [.box 27 [.lst true f.dr.length (zYy zYx f.dr), .int .i64 f.la, .int .i64 f.li, .lst true f.sv.length (zYy zYx f.sv), .lst true f.tm.length (zYy zYx f.tm)]], 0⟩) I1 μ1 0 (St.to_mk (φ := [some 0]) rfl (rfl) ⟨Ren.lst _ _ _, Ren.ptr rfl, Ren.int _ _, trivial⟩ ⟨.inr ⟨_, rfl, rfl, Rens.cons (Ren.lst _ _ _) (Rens.cons (Ren.int _ _) (Rens.cons (Ren.int _ _) (Rens.cons (Ren.lst _ _ _) (Rens.cons (Ren.lst _ _ _) (Rens.nil)))))⟩, trivial⟩) hp ?_
 clear hp
 intro v7 hI
 replace hv := hv v7 hI
 clear hI
 refine W.seq' (W.rL (mI rfl rfl (mL rfl rfl (cL rfl (zXq (v := .lst _ _ _) tt28 rfl rfl (cL rfl (zXw rfl rfl (eL (W.cn rfl (fun hc => ?_) (fun hc => ?_))))))))))
 have hv := hv.1 hc
 refine W.skip (zZ (W.seq' (W.block (W.rD [0, 1, 2, 3, 4, 5, 6, 7, 8, 9] (by decide +kernel) rfl (mL rfl rfl (mI rfl rfl ?_))))))
 obtain ⟨s41, hv⟩ := hv
 refine cL rfl (zYp tt28 tt66 rfl rfl (enc66.wd true) rfl s41 ?_)
 intro rest41
 refine cL rfl (o_faP tt66 rfl tt3 rfl (cL rfl (zZx (v := .int _ _) tt3 rfl rfl ⟨_, rfl⟩ (cL rfl (o_fa tt27 rfl tt23 rfl (cL rfl (zZx (v := .lst _ _ _) tt23 rfl rfl ⟨_, rfl⟩ (cL rfl (zXq (v := .lst _ _ _) tt23 rfl rfl ?_)))))))))
 obtain ⟨s42, s43, hv⟩ := hv
 refine cL rfl (o_shl rfl rfl s42 s43 (cL rfl (o_geq rfl rfl (eL (W.cn rfl (fun hc => ?_) (fun hc => ?_))))))
 have hv := hv.1 hc
 refine W.rL (aB rfl rfl (eL (W.tr [(6, .bool _)] [.box _ [.lst _ _ _, .int _ _, .int _ _, .lst _ _ _, .lst _ _ _]] ⟨rfl, trivial⟩ rfl (W.ret (zXz (zZr (zZr (zXz (zZr (rt (rt_t (v := .bool _) rfl (rt_n (⟨_, zXx _ _ _, false, rfl, hv⟩)))))))))))))
 have hv := hv.2 hc
 refine W.skip (zYq (zZ (W.rL1 (mI rfl rfl ?_))))
 obtain ⟨s44, hv⟩ := hv
 refine cL rfl (o_add rfl rfl s44 (aI rfl rfl (eL (zZ (⟨(), (v7 + 1), hv, St.to_mk (φ := [some 0]) rfl (rfl) ⟨Ren.lst _ _ _, Ren.ptr rfl, Ren.int _ _, trivial⟩ ⟨.inr ⟨_, rfl, rfl, Rens.cons (Ren.lst _ _ _) (Rens.cons (Ren.int _ _) (Rens.cons (Ren.int _ _) (Rens.cons (Ren.lst _ _ _) (Rens.cons (Ren.lst _ _ _) (Rens.nil)))))⟩, trivial⟩⟩)))))
 have hv := hv.2 hc
 refine W.exit (zZt (zZt (zXy (zZ (W.rL (aB rfl rfl (eL (W.ret (rt (rt_t (v := .bool _) rfl (rt_n (⟨_, zXx _ _ _, true, rfl, hv⟩))))))))))))
theorem vcp_r10valid (f : Flt) (n : Int) (l : (List Con)) (h0 : f.dr.length <= 9223372036854775807) (h1 : f.sv.length <= 9223372036854775807) (h2 : f.tm.length <= 9223372036854775807) (h3 : l.length <= 1073741824) : vc_r10valid f n l (fun q0 => q0 = (zX f n l)) := by
  unfold vc_r10valid
  refine ⟨⟨h0, h1, h2, fun _ => trivial, fun _ => ⟨h3, trivial⟩⟩, fun h => ?_, fun h => ?_⟩
  . show false = zX f n l
    refine (Bool.eq_false_iff.2 fun hb => ?_).symm
    obtain ⟨k1, k2, _⟩ := bvalid_ref.1 hb
    rcases h with h | h
    . exact h k1
    . exact h k2
  . have g : ∀ {p : Prop}, ¬ ¬ p -> p := fun h => Classical.not_not.1 h
    have k1 := g fun x => h (.inl x)
    have k2 := g fun x => h (.inr x)
    have hf := cvalid_ok k1
    have h64 := pow_le64 hf.len.2
    rw [pow_eq hf.len.2]
    have hbv := bvalid_ref (f := f) (n := n) (l := l)
    generalize 2 ^ f.dr.length = N at *
    refine ⟨fun v => ∃ i : Nat, v = i /\ i <= l.length /\ ∀ c ∈ l.take i, c.a < (N : Int), fun v => l.length - v.toNat, ⟨0, rfl, by omega, by simp⟩, ?_⟩
    rintro _ ⟨i, rfl, hle, hj⟩
    refine ⟨fun h5 => ?_, fun h5 => ?_⟩
    . have hlt : i < l.length := by omega
      rw [lat_get hlt]
      refine ⟨by omega, by omega, by unfold inI; omega, fun h6 => ?_, fun h6 => ⟨by unfold inI; omega, ⟨i + 1, by omega, by omega, ?_⟩, by dsimp only; omega⟩⟩
      . show false = zX f n l
        refine (Bool.eq_false_iff.2 fun hb => ?_).symm
        have := (hbv.1 hb).2.2 l[i] (List.getElem_mem hlt)
        omega
      . intro d hd
        rw [take_succ_nat (List.getElem?_eq_getElem hlt)] at hd
        rcases List.mem_append.1 hd with hd | hd
        . exact hj d hd
        . rw [List.mem_singleton] at hd
          subst hd
          omega
    . show true = zX f n l
      rw [List.take_of_length_le (by omega)] at hj
      exact (hbv.2 ⟨k1, k2, hj⟩).symm
theorem spec_r10valid (f : Flt) (n : Int) (l : (List Con)) (h0 : f.dr.length <= 9223372036854775807) (h1 : f.sv.length <= 9223372036854775807) (h2 : f.tm.length <= 9223372036854775807) (h3 : l.length <= 1073741824) : FnP Try.prog 39 [.agg ((e27 true) f), .int .i64 n, .lst true l.length (zYy e66 l)] (fun xR => xR = .bool (zX f n l)) :=
  (walk_r10valid (vcp_r10valid f n l h0 h1 h2 h3)).mono (by rintro _ ⟨_, rfl, rfl⟩; rfl)
def vc_members (m : Int) (Post : Int -> Prop) : Prop :=
  ∃ (I1 : Int -> Int -> Prop) (μ1 : Int -> Int -> Nat), I1 0 0 /\ ∀ (v3 : Int) (v4 : Int), I1 v3 v4 -> ((v4 < 6) -> (0 <= v4) /\ (inI (v3 + ((m.fdiv (2 ^ (min v4.toNat 64))).tmod 2))) /\ (inI (v4 + 1)) /\ (I1 (v3 + ((m.fdiv (2 ^ (min v4.toNat 64))).tmod 2)) (v4 + 1) /\ μ1 (v3 + ((m.fdiv (2 ^ (min v4.toNat 64))).tmod 2)) (v4 + 1) < μ1 v3 v4)) /\ (¬ (v4 < 6) -> Post v3)
theorem walk_members {m : Int} {Post : Int -> Prop} (hv : vc_members m Post) : FnP Try.prog 30 [.int .i64 m] (fun x => ∃ q0, x = .int .i64 q0 /\ Post q0) := by
 refine FnP.of_walk (T := tt) (nt := 16) ttOk ttMix ⟨⟨Try.f30, Try.func30, rfl, rfl, rfl, rfl⟩⟩ (by simp) ?_
 unfold vc_members at hv
 change W _ _ _ ⟨16, look [(0, .int .i64 m)], [], 0⟩ _
 refine W.rL (aI rfl rfl (eL (W.rL (aI rfl rfl (eL (W.seq' (W.rL (aI rfl rfl (eL (W.block ?_))))))))))
 obtain ⟨I1, μ1, hp, hv⟩ := hv
 refine W.loop2 (fun v3 v4 => ⟨16, look [(0, .int .i64 m), (3, .int .i64 v3), (4, .int .i64 v4)], [], 0⟩) I1 μ1 0 0 (St.to_mk (φ := []) rfl (rfl) ⟨Ren.int _ _, Ren.int _ _, Ren.int _ _, trivial⟩ trivial) hp ?_
 clear hp
 intro v3 v4 hI
 replace hv := hv v3 v4 hI
 clear hI
 refine W.seq' (W.rL (mI rfl rfl (cL rfl (zXw rfl rfl (eL (W.cn rfl (fun hc => ?_) (fun hc => ?_)))))))
 have hv := hv.1 hc
 refine W.skip (zZ (W.seq' (W.block (W.rL1 ?_))))
 iterate 3 refine mI rfl rfl ?_
 obtain ⟨s18, hv⟩ := hv
 refine cL rfl (o_shr rfl rfl s18 (cL rfl (o_rem rfl rfl (by decide) ?_)))
 obtain ⟨s19, hv⟩ := hv
 refine cL rfl (o_add rfl rfl s19 (aI rfl rfl (eL (zYq (zZ (W.rL1 (mI rfl rfl ?_)))))))
 obtain ⟨s20, hv⟩ := hv
 refine cL rfl (o_add rfl rfl s20 (aI rfl rfl (eL (zZ (⟨(), (v3 + ((m.fdiv (2 ^ (min v4.toNat 64))).tmod 2)), (v4 + 1), hv, St.to_mk (φ := []) rfl (rfl) ⟨Ren.int _ _, Ren.int _ _, Ren.int _ _, trivial⟩ trivial⟩)))))
 have hv := hv.2 hc
 refine W.exit (zZt (zZt (zXy (zZ (W.rL (mI rfl rfl (aI rfl rfl (eL (W.ret (rt (rt_t (v := .int _ _) rfl (rt_n (⟨_, zY _ _ _ _, v3, rfl, hv⟩)))))))))))))
theorem vcp_members (m : Int) (h0 : 0 <= m /\ m < 64) : vc_members m (fun q0 => q0 = (pcM m)) := by
  unfold vc_members
  refine ⟨fun v w => ∃ i : Nat, w = i /\ i <= 6 /\ (0 <= v /\ v <= i) /\ v = ((List.range i).map fun a => m / 2 ^ a % 2).sum, fun _ w => 6 - w.toNat, ⟨0, rfl, by omega, by omega, rfl⟩, ?_⟩
  rintro v _ ⟨i, rfl, hi, hb, hv⟩
  refine ⟨fun h1 => ?_, fun h1 => ?_⟩
  . have hlt : i < 6 := by omega
    rw [bitOf h0 hlt]
    have hb2 := bit01 m i
    refine ⟨by omega, by unfold inI; omega, by unfold inI; omega, ⟨i + 1, by omega, by omega, by omega, ?_⟩, by dsimp only; omega⟩
    rw [List.range_succ, List.map_append, List.sum_append, <- hv]
    simp
  . show v = pcM m
    have : i = 6 := by omega
    subst this
    unfold pcM
    exact hv
theorem spec_members (m : Int) (h0 : 0 <= m /\ m < 64) : FnP Try.prog 30 [.int .i64 m] (fun xR => xR = .int .i64 (pcM m)) :=
  (walk_members (vcp_members m h0)).mono (by rintro _ ⟨_, rfl, rfl⟩; rfl)
end Go.Lat
