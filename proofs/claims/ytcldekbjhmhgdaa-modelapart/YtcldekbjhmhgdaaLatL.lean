/- The law latecomerlaw23.ModelApart returns true for every input, and each argument reads afterwards as it read before. Part 12 of 14. No condition. -/
import Derived.Test.YtcldekbjhmhgdaaLatE
import Derived.Test.YtcldekbjhmhgdaaLatF
import Derived.Test.YtcldekbjhmhgdaaLatD
set_option linter.unusedVariables false
set_option linter.unusedSimpArgs false
set_option linter.unnecessarySimpa false
set_option maxRecDepth 100000
set_option maxHeartbeats 4000000
namespace Go.Lat
open Go.RowKit Go.Proofs
attribute [local irreducible] seqL opC
def vc_pick35 (c : Int) (n : Int) (Post : Int -> Prop) : Prop :=
  ∃ J1 : Int -> Prop, (∀ (v0 : Int), J1 v0 -> (n ≠ 0) /\ Post (v0.tmod n)) /\ (((c < (0 : Int)) -> (inI (c + (1 : Int))) /\ (inI (-(c + (1 : Int)))) /\ J1 (-(c + (1 : Int)))) /\ (¬ (c < (0 : Int)) -> J1 c))
theorem walk_pick35 {c : Int} {n : Int} {Post : Int -> Prop} (hv : vc_pick35 c n Post) : FnP Try.prog 35 [.int .i64 c, .int .i64 n] (fun x => ∃ q0, x = .int .i64 q0 /\ Post q0) := by
 refine FnP.of_walk (T := tt) (nt := 13) ttOk ttMix ⟨⟨Try.f35, Try.func35, rfl, rfl, rfl, rfl⟩⟩ (by simp) ?_
 unfold vc_pick35 at hv
 change W _ _ _ ⟨13, look [(0, .int .i64 c), (1, .int .i64 n)], [], 0⟩ _
 refine W.ty [(0, .int _ _), (1, .int _ _)] rfl (W.rL (aI rfl rfl (eL (W.ty [(0, .int _ _), (1, .int _ _)] rfl ?_))))
 obtain ⟨J1, hj, hv⟩ := hv
 refine W.mid1 (fun v0 => ⟨13, look [(0, .int .i64 v0), (1, .int .i64 n)], [], 0⟩) J1 ?_ ?_
 intro v0
 intro hv
 replace hv := hj v0 hv
 refine W.rL ?_
 iterate 2 refine mI rfl rfl ?_
 obtain ⟨s3, hv⟩ := hv
 refine cL rfl (o_rem rfl rfl s3 (aI rfl rfl (eL (W.ty [(4, .int _ _)] rfl (W.ret (rt (rt_t (v := .int _ _) rfl (rt_n (⟨_, zY _ _ _ _, (v0.tmod n), rfl, hv⟩)))))))))
 clear hj
 refine W.rL (mI rfl rfl (cL rfl (zYq rfl rfl (eL (W.ty [(0, .int _ _), (1, .int _ _), (6, .bool _)] rfl (W.cn rfl (fun hc => ?_) (fun hc => ?_)))))))
 have hv := hv.1 hc
 refine W.rL1 (mI rfl rfl ?_)
 obtain ⟨s4, hv⟩ := hv
 refine cL rfl (o_add rfl rfl s4 ?_)
 obtain ⟨s5, hv⟩ := hv
 refine cL rfl (o_neg rfl s5 (aI rfl rfl (eL (zZ (⟨(), (-(c + (1 : Int))), hv, St.to_mk (φ := []) rfl (rfl) (zT rfl rfl) trivial⟩)))))
 have hv := hv.2 hc
 refine W.skip (zZ (⟨(), c, hv, St.to_mk (φ := []) rfl (rfl) (zT rfl rfl) trivial⟩))
set_option maxHeartbeats 4000000 in
theorem vcp_pick35 (c : Int) (n : Int) (h0 : 1 <= n) (h1 : inI c) : vc_pick35 c n (fun q0 => q0 = (pickM c n)) := by
  unfold vc_pick35
  refine ⟨fun v => v = if c < 0 then -(c + 1) else c, fun v hv => ⟨by omega, by subst hv; rfl⟩, fun h => ⟨by unfold inI at *; omega, by unfold inI at *; omega, (if_pos h).symm⟩, fun h => (if_neg h).symm⟩
theorem spec_pick35 (c : Int) (n : Int) (h0 : 1 <= n) (h1 : inI c) : FnP Try.prog 35 [.int .i64 c, .int .i64 n] (fun xR => xR = .int .i64 (pickM c n)) :=
  (walk_pick35 (vcp_pick35 c n h0 h1)).mono (by rintro _ ⟨_, rfl, rfl⟩; rfl)
def vc_servers (n : Int) (Post : (List Int) -> Prop) : Prop :=
  ∃ (I1 : Int -> List Int -> Prop) (μ1 : Int -> List Int -> Nat), I1 (0 : Int) [] /\ ∀ (v4 : Int) (r0 : List Int), I1 v4 r0 -> (1 <= (3 : Int)) /\ (inI n) /\ (inI ((1 : Int) + (pickM n (3 : Int)))) /\ ((v4 < ((1 : Int) + (pickM n (3 : Int)))) -> (inI ((3 : Int) + v4)) /\ (((3 : Int) + v4) ≠ 0) /\ (inI (n.tdiv ((3 : Int) + v4))) /\ (1 <= (3 : Int)) /\ (inI (n.tdiv ((3 : Int) + v4))) /\ (inI ((1 : Int) + (pickM (n.tdiv ((3 : Int) + v4)) (3 : Int)))) /\ ((r0 ++ [((1 : Int) + (pickM (n.tdiv ((3 : Int) + v4)) (3 : Int)))]).length <= 1073741824) /\ (inI (v4 + (1 : Int))) /\ (I1 (v4 + (1 : Int)) (r0 ++ [((1 : Int) + (pickM (n.tdiv ((3 : Int) + v4)) (3 : Int)))]) /\ μ1 (v4 + (1 : Int)) (r0 ++ [((1 : Int) + (pickM (n.tdiv ((3 : Int) + v4)) (3 : Int)))]) < μ1 v4 r0)) /\ (¬ (v4 < ((1 : Int) + (pickM n (3 : Int)))) -> Post r0)
theorem walk_servers {n : Int} {Post : (List Int) -> Prop} (hv : vc_servers n Post) : FnP Try.prog 10 [.int .i64 n] (fun x => ∃ q0, x = .lst false q0.length (zYy zYx q0) /\ Post q0) := by
 refine FnP.of_walk (T := tt) (nt := 22) ttOk ttMix ⟨⟨Try.f10, Try.func10, rfl, rfl, rfl, rfl⟩⟩ (by simp) ?_
 unfold vc_servers at hv
 change W _ _ _ ⟨22, look [(0, .int .i64 n)], [], 0⟩ _
 refine W.ty [(0, .int _ _)] rfl (W.rL (cL rfl (zZq (v := .nilS) rfl (eL (W.ty [(0, .int _ _)] rfl (W.rL (cL rfl (zZq (v := .nilS) rfl (eL (W.ty [(0, .int _ _), (3, .nilS)] rfl (W.seq' (W.rL (aI rfl rfl (eL (W.ty [(0, .int _ _), (3, .nilS), (4, .int _ _)] rfl (W.block ?_))))))))))))))))
 obtain ⟨I1, μ1, hp, hv⟩ := hv
 refine W.loop2 (fun v4 r0 => ⟨22, look [(0, .int .i64 n), (3, .ref true 0 r0.length), (4, .int .i64 v4)], [.row 3 1 (zYy zYx r0)], 0⟩) I1 μ1 (0 : Int) [] (St.to_mk (φ := [none]) rfl (rfl) ⟨Ren.int _ _, Ren.nilR rfl rfl, Ren.int _ _, trivial⟩ ⟨rfl, trivial⟩) hp ?_
 clear hp
 intro v4 r0 hI
 replace hv := hv v4 r0 hI
 clear hI
 refine W.seq' (W.rL ?_)
 iterate 2 refine mI rfl rfl ?_
 obtain ⟨s109, s110, hv⟩ := hv
 refine cL rfl (zZu (k := 35) (fst := []) (caps := []) (ys := [.int _ _, .int _ _]) rfl rfl (spec_pick35 n (3 : Int) s109 s110) zk ?_)
 obtain ⟨s111, hv⟩ := hv
 refine cL rfl (o_add rfl rfl s111 (cL rfl (zYq rfl rfl (eL (W.ty [(0, .int _ _), (3, .ref _ _ _), (4, .int _ _), (9, .bool _)] rfl (W.cn rfl (fun hc => ?_) (fun hc => ?_)))))))
 have hv := hv.1 hc
 refine W.skip (zZ (W.ty [(0, .int _ _), (3, .ref _ _ _), (4, .int _ _)] rfl (W.seq' (W.block (W.rL1 (cL rfl (zZp (v := .ref _ _ _) rfl ?_)))))))
 iterate 2 refine mI rfl rfl ?_
 obtain ⟨s119, hv⟩ := hv
 refine cL rfl (o_add rfl rfl s119 ?_)
 obtain ⟨s120, s121, hv⟩ := hv
 refine cL rfl (o_quo rfl rfl s120 s121 ?_)
 obtain ⟨s122, s123, hv⟩ := hv
 refine cL rfl (zZu (k := 35) (fst := []) (caps := []) (ys := [.int _ _, .int _ _]) rfl rfl (spec_pick35 (n.tdiv ((3 : Int) + v4)) (3 : Int) s122 s123) zk ?_)
 obtain ⟨s124, hv⟩ := hv
 refine cL rfl (o_add rfl rfl s124 (cL rfl (o_bs1 (v := .int _ _) (q := 1) tt24 tt3 rfl rfl rfl rfl rfl rfl rfl rfl ?_)))
 obtain ⟨s125, hv⟩ := hv
 refine cL rfl (o_apR (p := 2) (q := (r0 ++ [((1 : Int) + (pickM (n.tdiv ((3 : Int) + v4)) (3 : Int)))]).length) tt24 tt3 rfl rfl (src_ref rfl rfl) rfl rfl (zYw (zZw.wd false) _) (Nat.le_trans (Nat.le_of_eq (@List.length_append _ (r0) ([((1 : Int) + (pickM (n.tdiv ((3 : Int) + v4)) (3 : Int)))])).symm) s125) rfl (@List.length_append _ (r0) ([((1 : Int) + (pickM (n.tdiv ((3 : Int) + v4)) (3 : Int)))])).symm (encL_app zYx r0 [((1 : Int) + (pickM (n.tdiv ((3 : Int) + v4)) (3 : Int)))]) (cL rfl (zZq (v := .ref _ _ _) rfl (eL (zYv (zZ (W.ty [(0, .int _ _), (3, .ref _ _ _), (4, .int _ _)] rfl (W.rL1 (mI rfl rfl ?_)))))))))
 obtain ⟨s126, hv⟩ := hv
 refine cL rfl (o_add rfl rfl s126 (aI rfl rfl (eL (zZ (⟨(), (v4 + (1 : Int)), (r0 ++ [((1 : Int) + (pickM (n.tdiv ((3 : Int) + v4)) (3 : Int)))]), hv, St.to_mk (φ := [some 2]) rfl (rfl) ⟨Ren.int _ _, Ren.ref rfl (fun h => rfl), Ren.int _ _, trivial⟩ ⟨zE zZw false (r0 ++ [((1 : Int) + (pickM (n.tdiv ((3 : Int) + v4)) (3 : Int)))]) rfl, trivial⟩⟩)))))
 have hv := hv.2 hc
 refine W.exit (zZt (zZt (zYs (zZ (W.ty [(3, .ref _ _ _)] rfl (W.rL (cL rfl (zZp (v := .ref _ _ _) rfl (cL rfl (zZq (v := .ref _ _ _) rfl (eL (W.ty [(2, .ref _ _ _)] rfl (W.ret (rt (rt_t (v := .ref _ _ _) rfl (rt_n (⟨_, rs_ref zZw 4 _ rfl rfl, r0, rfl, hv⟩)))))))))))))))))
set_option maxHeartbeats 4000000 in
theorem vcp_servers (n : Int) (h0 : inI n) : vc_servers n (fun q0 => q0 = (serversM n)) := by
  unfold vc_servers
  have hp := zXz (c := n) (n := 3) (by omega)
  refine ⟨fun v l => ∃ i : Nat, v = i /\ (i : Int) <= 1 + pickM n 3 /\ l = (List.range i).map fun i : Nat => 1 + pickM (n.tdiv (3 + i)) 3, fun v _ => (1 + pickM n 3).toNat - v.toNat, ⟨0, rfl, by omega, rfl⟩, ?_⟩
  rintro _ _ ⟨i, rfl, hi, rfl⟩
  refine ⟨by omega, h0, by unfold inI; omega, fun k1 => ?_, fun k1 => ?_⟩
  . have ht := inI_td (x := n) (k := 3 + i) (by omega) h0
    have hq := zXz (c := n.tdiv (3 + i)) (n := 3) (by omega)
    refine ⟨by unfold inI; omega, by omega, ht, by omega, ht, by unfold inI; omega, by simp; omega, by unfold inI; omega, ⟨i + 1, by omega, by omega, ?_⟩, by show (1 + pickM n 3).toNat - ((i : Int) + 1).toNat < (1 + pickM n 3).toNat - (i : Int).toNat; omega⟩
    rw [map_range_succ]
  . unfold serversM
    rw [show (1 + pickM n 3).toNat = i by omega]
theorem spec_servers (n : Int) (h0 : inI n) : FnP Try.prog 10 [.int .i64 n] (fun xR => xR = .lst false (serversM n).length (zYy zYx (serversM n))) :=
  (walk_servers (vcp_servers n h0)).mono (by rintro _ ⟨_, rfl, rfl⟩; rfl)
def vc_jobs (n : Int) (x : (List (Vector Int 4))) (Post : (List Job) -> Prop) : Prop :=
  ∃ (I1 : Int -> List Job -> Prop) (μ1 : Int -> List Job -> Nat), I1 (0 : Int) [] /\ ∀ (v6 : Int) (r0 : List Job), I1 v6 r0 -> (((v6 < (x.length : Int)) /\ (v6 < (12 : Int))) -> (0 <= v6 /\ v6 < (x.length : Int)) /\ (0 <= (0 : Int) /\ (0 : Int) < ((4 : Nat) : Int)) /\ (1 <= (40 : Int)) /\ (inI (vat (lat x v6) (0 : Int).toNat)) /\ ∃ (I2 : Int -> Int -> List Ld -> Prop) (μ2 : Int -> Int -> List Ld -> Nat), I2 (0 : Int) (pickM (vat (lat x v6) (0 : Int).toNat) (40 : Int)) [] /\ ∀ (v8 : Int) (b1ar : Int) (r2 : List Ld), I2 v8 b1ar r2 -> (0 <= v6 /\ v6 < (x.length : Int)) /\ (0 <= (1 : Int) /\ (1 : Int) < ((4 : Nat) : Int)) /\ (1 <= (4 : Int)) /\ (inI (vat (lat x v6) (1 : Int).toNat)) /\ ((v8 < (pickM (vat (lat x v6) (1 : Int).toNat) (4 : Int))) -> (0 <= v6 /\ v6 < (x.length : Int)) /\ (0 <= (2 : Int) /\ (2 : Int) < ((4 : Nat) : Int)) /\ (inI ((1 : Int) + v8)) /\ (((1 : Int) + v8) ≠ 0) /\ (inI ((vat (lat x v6) (2 : Int).toNat).tdiv ((1 : Int) + v8))) /\ (0 <= v6 /\ v6 < (x.length : Int)) /\ (0 <= (3 : Int) /\ (3 : Int) < ((4 : Nat) : Int)) /\ (inI ((3 : Int) * v8)) /\ (inI ((1 : Int) + ((3 : Int) * v8))) /\ (((1 : Int) + ((3 : Int) * v8)) ≠ 0) /\ (inI ((vat (lat x v6) (3 : Int).toNat).tdiv ((1 : Int) + ((3 : Int) * v8)))) /\ (1 <= n) /\ (inI ((vat (lat x v6) (2 : Int).toNat).tdiv ((1 : Int) + v8))) /\ (1 <= (13 : Int)) /\ (inI ((vat (lat x v6) (3 : Int).toNat).tdiv ((1 : Int) + ((3 : Int) * v8)))) /\ ((r2 ++ [(Ld.mk (pickM ((vat (lat x v6) (2 : Int).toNat).tdiv ((1 : Int) + v8)) n) (pickM ((vat (lat x v6) (3 : Int).toNat).tdiv ((1 : Int) + ((3 : Int) * v8))) (13 : Int)))]).length <= 1073741824) /\ (inI (v8 + (1 : Int))) /\ (I2 (v8 + (1 : Int)) b1ar (r2 ++ [(Ld.mk (pickM ((vat (lat x v6) (2 : Int).toNat).tdiv ((1 : Int) + v8)) n) (pickM ((vat (lat x v6) (3 : Int).toNat).tdiv ((1 : Int) + ((3 : Int) * v8))) (13 : Int)))]) /\ μ2 (v8 + (1 : Int)) b1ar (r2 ++ [(Ld.mk (pickM ((vat (lat x v6) (2 : Int).toNat).tdiv ((1 : Int) + v8)) n) (pickM ((vat (lat x v6) (3 : Int).toNat).tdiv ((1 : Int) + ((3 : Int) * v8))) (13 : Int)))]) < μ2 v8 b1ar r2)) /\ (¬ (v8 < (pickM (vat (lat x v6) (1 : Int).toNat) (4 : Int))) -> ((r0 ++ [(Job.mk b1ar r2)]).length <= 1073741824) /\ (inI (v6 + (1 : Int))) /\ (I1 (v6 + (1 : Int)) (r0 ++ [(Job.mk b1ar r2)]) /\ μ1 (v6 + (1 : Int)) (r0 ++ [(Job.mk b1ar r2)]) < μ1 v6 r0))) /\ (¬ ((v6 < (x.length : Int)) /\ (v6 < (12 : Int))) -> Post r0)
theorem walk_jobs {n : Int} {x : (List (Vector Int 4))} {Post : (List Job) -> Prop} (hv : vc_jobs n x Post) : FnP Try.prog 11 [.int .i64 n, .lst true x.length (zYy eV4 x)] (fun x => ∃ q0, x = .lst false q0.length (zYy (e42 true) q0) /\ Post q0) := by
 refine FnP.of_walk (T := tt) (nt := 67) ttOk ttMix ⟨⟨Try.f11, Try.func11, rfl, rfl, rfl, rfl⟩⟩ (by simp) ?_
 unfold vc_jobs at hv
 change W _ _ _ ⟨67, look [(0, .int .i64 n), (1, .lst true x.length (zYy eV4 x))], [], 0⟩ _
 refine W.ty [(0, .int _ _), (1, .lst _ _ _)] rfl (W.rL (cL rfl (zZq (v := .nilS) rfl (eL (W.ty [(0, .int _ _), (1, .lst _ _ _)] rfl (W.rL (cL rfl (zZq (v := .nilS) rfl (eL (W.ty [(0, .int _ _), (1, .lst _ _ _), (5, .nilS)] rfl (W.seq' (W.rL (aI rfl rfl (eL (W.ty [(0, .int _ _), (1, .lst _ _ _), (5, .nilS), (6, .int _ _)] rfl (W.block ?_))))))))))))))))
 obtain ⟨I1, μ1, hp, hv⟩ := hv
 refine W.loop2 (fun v6 r0 => ⟨67, look [(0, .int .i64 n), (1, .lst true x.length (zYy eV4 x)), (5, .ref true 0 r0.length), (6, .int .i64 v6)], [.row 42 2 (zYy (e42 false) r0)], 0⟩) I1 μ1 (0 : Int) [] (St.to_mk (φ := [none]) rfl (rfl) ⟨Ren.int _ _, Ren.lst _ _ _, Ren.nilR rfl rfl, Ren.int _ _, trivial⟩ ⟨rfl, trivial⟩) hp ?_
 clear hp
 intro v6 r0 hI
 replace hv := hv v6 r0 hI
 clear hI
 refine W.seq' (W.rLm ⟨67, look [(0, .int .i64 n), (1, .lst true x.length (zYy eV4 x)), (5, .ref true 0 r0.length), (6, .int .i64 v6), (16, .bool (decide ((v6 < (x.length : Int)) /\ (v6 < (12 : Int)))))], [.row 42 2 (zYy (e42 false) r0)], 0⟩ ?_ ?_)
 refine mI rfl rfl (mL rfl rfl (cL rfl (zXw (v := .lst _ _ _) tt22 rfl rfl (cL rfl (zYq rfl rfl (mB rfl rfl ?_))))))
 by_cases c1 : v6 < (x.length : Int)
 refine cLg rfl rfl (dT c1) (mI rfl rfl (cLg rfl rfl (dT c1) (cL rfl (zYq rfl rfl (cL rfl (zZv (v := .bool _) rfl (dT c1) rfl (eL (zYz ⟨rfl, rfl, rfl, rfl, (congrArg AV.bool (zXv c1 (rfl))).symm, trivial⟩ rfl))))))))
 iterate 2 refine cLs rfl rfl rfl (dF c1) ?_
 refine cL rfl (zZy (v := .bool _) rfl (dF c1) rfl (eL (zYz ⟨rfl, rfl, rfl, rfl, (congrArg AV.bool (dAndF c1)).symm, trivial⟩ rfl)))
 refine W.cn rfl (fun hc => ?_) (fun hc => ?_)
 have hv := hv.1 hc
 refine W.skip (zZ (W.ty [(0, .int _ _), (1, .lst _ _ _), (5, .ref _ _ _), (6, .int _ _)] rfl (W.seq' (W.block (W.rL (mL rfl rfl (mI rfl rfl ?_)))))))
 obtain ⟨s2763, hv⟩ := hv
 refine cL rfl (zYu tt22 tt73 rfl rfl (encV4.wd true) rfl s2763 ?_)
 intro rest2763
 obtain ⟨s2764, hv⟩ := hv
 refine cL rfl (o_iaPV tt73 tt3 rfl rfl s2764 ?_)
 intro rest2764
 refine cL rfl (zZx (v := .int _ _) tt3 rfl rfl ⟨_, rfl⟩ ?_)
 obtain ⟨s2765, s2766, hv⟩ := hv
 refine cL rfl (zZu (k := 35) (fst := []) (caps := []) (ys := [.int _ _, .int _ _]) rfl rfl (spec_pick35 (vat (lat x v6) (0 : Int).toNat) (40 : Int) s2765 s2766) zk (cL rfl (o_build (qs := [(0, .int _ _)]) (cs := [.int _ _, .nilS]) tt42 rfl rfl rfl (cL rfl (zXy (p := 1) tt42 rfl rfl (cLn (o_stB (v := .agg _) (vs := [.int _ _, .nilS]) (cs2 := [.int _ _, .nilS]) tt42 rfl rfl rfl rfl rfl (Nat.le_of_ble_eq_true rfl) rfl (eL (W.ty [(0, .int _ _), (1, .lst _ _ _), (5, .ref _ _ _), (6, .int _ _), (7, .ptr _ _)] rfl (W.seq' (W.rL (aI rfl rfl (eL (W.ty [(0, .int _ _), (1, .lst _ _ _), (5, .ref _ _ _), (6, .int _ _), (7, .ptr _ _), (8, .int _ _)] rfl (W.block ?_)))))))))))))))
 obtain ⟨I2, μ2, hp, hv⟩ := hv
 refine W.loop3 (fun v8 b1ar r2 => ⟨67, look [(0, .int .i64 n), (1, .lst true x.length (zYy eV4 x)), (5, .ref true 0 r0.length), (6, .int .i64 v6), (7, .ptr 1 0), (8, .int .i64 v8)], [.row 42 2 (zYy (e42 false) r0), .box 42 [.int .i64 b1ar, .ref true 2 r2.length], .row 45 2 (zYy e45 r2)], 0⟩) I2 μ2 (0 : Int) (pickM (vat (lat x v6) (0 : Int).toNat) (40 : Int)) [] (St.to_mk (φ := [some 0, some 1, none]) rfl (rfl) ⟨Ren.int _ _, Ren.lst _ _ _, Ren.ref rfl (fun h => rfl), Ren.int _ _, Ren.ptr rfl, Ren.int _ _, trivial⟩ ⟨zE enc42 false r0 rfl, .inr ⟨_, rfl, rfl, Rens.cons (Ren.int _ _) (Rens.cons (Ren.nilR rfl rfl) (Rens.nil))⟩, rfl, trivial⟩) hp ?_
 clear hp
 intro v8 b1ar r2 hI
 replace hv := hv v8 b1ar r2 hI
 clear hI
 refine W.seq' (W.rL (mI rfl rfl (mL rfl rfl (mI rfl rfl ?_))))
 obtain ⟨s2976, hv⟩ := hv
 refine cL rfl (zYu tt22 tt73 rfl rfl (encV4.wd true) rfl s2976 ?_)
 intro rest2976
 obtain ⟨s2977, hv⟩ := hv
 refine cL rfl (o_iaPV tt73 tt3 rfl rfl s2977 ?_)
 intro rest2977
 refine cL rfl (zZx (v := .int _ _) tt3 rfl rfl ⟨_, rfl⟩ ?_)
 obtain ⟨s2978, s2979, hv⟩ := hv
 refine cL rfl (zZu (k := 35) (fst := []) (caps := []) (ys := [.int _ _, .int _ _]) rfl rfl (spec_pick35 (vat (lat x v6) (1 : Int).toNat) (4 : Int) s2978 s2979) zk (cL rfl (zYq rfl rfl (eL (W.ty [(0, .int _ _), (1, .lst _ _ _), (5, .ref _ _ _), (6, .int _ _), (7, .ptr _ _), (8, .int _ _), (33, .bool _)] rfl (W.cn rfl (fun hc => ?_) (fun hc => ?_)))))))
 have hv := hv.1 hc
 refine W.skip (zZ (W.ty [(0, .int _ _), (1, .lst _ _ _), (5, .ref _ _ _), (6, .int _ _), (7, .ptr _ _), (8, .int _ _)] rfl (W.seq' (W.block (W.rP1 [0, 1, 2, 3, 4, 5, 6, 7, 8, 9, 10, 12, 13, 14, 15, 16, 17, 18, 19, 20, 11, 21, 22, 23, 24, 25, 26] (by decide +kernel) rfl (cL rfl (o_fa tt42 rfl tt40 rfl (cL rfl (zZx (v := .ref _ _ _) tt40 rfl rfl ⟨_, rfl⟩ (mL rfl rfl (mI rfl rfl ?_)))))))))))
 obtain ⟨s2996, hv⟩ := hv
 refine cL rfl (zYu tt22 tt73 rfl rfl (encV4.wd true) rfl s2996 ?_)
 intro rest2996
 obtain ⟨s2997, hv⟩ := hv
 refine cL rfl (o_iaPV tt73 tt3 rfl rfl s2997 ?_)
 intro rest2997
 refine cL rfl (zZx (v := .int _ _) tt3 rfl rfl ⟨_, rfl⟩ (mI rfl rfl ?_))
 obtain ⟨s2998, hv⟩ := hv
 refine cL rfl (o_add rfl rfl s2998 ?_)
 obtain ⟨s2999, s3000, hv⟩ := hv
 refine cL rfl (o_quo rfl rfl s2999 s3000 (mI rfl rfl (mL rfl rfl (mI rfl rfl ?_))))
 obtain ⟨s3001, hv⟩ := hv
 refine cL rfl (zYu tt22 tt73 rfl rfl (encV4.wd true) rfl s3001 ?_)
 intro rest3001
 obtain ⟨s3002, hv⟩ := hv
 refine cL rfl (o_iaPV tt73 tt3 rfl rfl s3002 ?_)
 intro rest3002
 refine cL rfl (zZx (v := .int _ _) tt3 rfl rfl ⟨_, rfl⟩ (mI rfl rfl ?_))
 obtain ⟨s3003, hv⟩ := hv
 refine cL rfl (o_mul rfl rfl s3003 ?_)
 obtain ⟨s3004, hv⟩ := hv
 refine cL rfl (o_add rfl rfl s3004 ?_)
 obtain ⟨s3005, s3006, hv⟩ := hv
 refine cL rfl (o_quo rfl rfl s3005 s3006 ?_)
 obtain ⟨s3007, s3008, hv⟩ := hv
 refine cL rfl (zZu (k := 35) (fst := []) (caps := []) (ys := [.int _ _, .int _ _]) rfl rfl (spec_pick35 ((vat (lat x v6) (2 : Int).toNat).tdiv ((1 : Int) + v8)) n s3007 s3008) zk ?_)
 obtain ⟨s3009, s3010, hv⟩ := hv
 refine cL rfl (zZu (k := 35) (fst := []) (caps := []) (ys := [.int _ _, .int _ _]) rfl rfl (spec_pick35 ((vat (lat x v6) (3 : Int).toNat).tdiv ((1 : Int) + ((3 : Int) * v8))) (13 : Int) s3009 s3010) zk (cL rfl (o_build (qs := [(0, .int _ _), (1, .int _ _)]) (cs := [.int _ _, .int _ _]) tt45 rfl rfl rfl (cL rfl (o_bs1 (v := .agg _) (q := 3) tt40 tt45 rfl rfl rfl rfl rfl rfl rfl rfl ?_)))))
 obtain ⟨s3011, hv⟩ := hv
 refine cL rfl (o_apR (p := 4) (q := (r2 ++ [(Ld.mk (pickM ((vat (lat x v6) (2 : Int).toNat).tdiv ((1 : Int) + v8)) n) (pickM ((vat (lat x v6) (3 : Int).toNat).tdiv ((1 : Int) + ((3 : Int) * v8))) (13 : Int)))]).length) tt40 tt45 rfl rfl (src_ref rfl rfl) rfl rfl (zYw (enc45.wd false) _) (Nat.le_trans (Nat.le_of_eq (@List.length_append _ (r2) ([(Ld.mk (pickM ((vat (lat x v6) (2 : Int).toNat).tdiv ((1 : Int) + v8)) n) (pickM ((vat (lat x v6) (3 : Int).toNat).tdiv ((1 : Int) + ((3 : Int) * v8))) (13 : Int)))])).symm) s3011) rfl (@List.length_append _ (r2) ([(Ld.mk (pickM ((vat (lat x v6) (2 : Int).toNat).tdiv ((1 : Int) + v8)) n) (pickM ((vat (lat x v6) (3 : Int).toNat).tdiv ((1 : Int) + ((3 : Int) * v8))) (13 : Int)))])).symm (encL_app e45 r2 [(Ld.mk (pickM ((vat (lat x v6) (2 : Int).toNat).tdiv ((1 : Int) + v8)) n) (pickM ((vat (lat x v6) (3 : Int).toNat).tdiv ((1 : Int) + ((3 : Int) * v8))) (13 : Int)))]) (cL rfl (o_fa tt42 rfl tt40 rfl (cLn (o_stB (v := .ref _ _ _) (vs := [.ref _ _ _]) (cs2 := [.int _ _, .ref _ _ _]) tt40 rfl rfl rfl rfl rfl (Nat.le_of_ble_eq_true rfl) rfl (eL (zYv (zZ (W.ty [(0, .int _ _), (1, .lst _ _ _), (5, .ref _ _ _), (6, .int _ _), (7, .ptr _ _), (8, .int _ _)] rfl (W.rL1 (mI rfl rfl ?_)))))))))))
 obtain ⟨s3012, hv⟩ := hv
 refine cL rfl (o_add rfl rfl s3012 (aI rfl rfl (eL (zZ (⟨(), (v8 + (1 : Int)), b1ar, (r2 ++ [(Ld.mk (pickM ((vat (lat x v6) (2 : Int).toNat).tdiv ((1 : Int) + v8)) n) (pickM ((vat (lat x v6) (3 : Int).toNat).tdiv ((1 : Int) + ((3 : Int) * v8))) (13 : Int)))]), hv, St.to_mk (φ := [some 0, some 1, some 4]) rfl (rfl) ⟨Ren.int _ _, Ren.lst _ _ _, Ren.ref rfl (fun h => rfl), Ren.int _ _, Ren.ptr rfl, Ren.int _ _, trivial⟩ ⟨zE enc42 false r0 rfl, .inr ⟨_, rfl, rfl, Rens.cons (Ren.int _ _) (Rens.cons (Ren.ref rfl (fun h => rfl)) (Rens.nil))⟩, zE enc45 false (r2 ++ [(Ld.mk (pickM ((vat (lat x v6) (2 : Int).toNat).tdiv ((1 : Int) + v8)) n) (pickM ((vat (lat x v6) (3 : Int).toNat).tdiv ((1 : Int) + ((3 : Int) * v8))) (13 : Int)))]) rfl, trivial⟩⟩)))))
 have hv := hv.2 hc
 refine W.exit (zZt (zZt (zYs (zZ (W.ty [(0, .int _ _), (1, .lst _ _ _), (5, .ref _ _ _), (6, .int _ _), (7, .ptr _ _)] rfl (W.sealB false 2 1 (bcs' := [.int .i64 b1ar, .lst false r2.length (zYy e45 r2)]) (l := [(0, .int .i64 n), (1, .lst true x.length (zYy eV4 x)), (5, .ref true 0 r0.length), (6, .int .i64 v6), (7, .ptr 1 0)]) rfl rfl (encL_sl enc45 false r2) ⟨.inl rfl, .inl rfl, .inl rfl, .inl rfl, .inl rfl, trivial⟩ ⟨.inl rfl, .inr ⟨_, _, rfl, (zYw (enc45.wd false) _), rfl⟩, trivial⟩ rfl (W.rL1g (cL rfl (zZp (v := .ref _ _ _) rfl (cL rfl (zYp (cs := [.int _ _, .lst _ _ _]) tt42 rfl rfl ⟨_, rfl⟩ rfl (cL rfl (o_bs1 (v := .agg _) (q := 3) tt26 tt42 rfl rfl rfl rfl rfl rfl rfl rfl ?_)))))))))))))
 obtain ⟨s3013, hv⟩ := hv
 refine cL rfl (o_apR (p := 4) (q := (r0 ++ [(Job.mk b1ar r2)]).length) tt26 tt42 rfl rfl (src_ref rfl rfl) rfl rfl (zYw (enc42.wd false) _) (Nat.le_trans (Nat.le_of_eq (@List.length_append _ (r0) ([(Job.mk b1ar r2)])).symm) s3013) rfl (@List.length_append _ (r0) ([(Job.mk b1ar r2)])).symm (encL_app (e42 false) r0 [(Job.mk b1ar r2)]) (cL rfl (zZq (v := .ref _ _ _) rfl (eL (go_nil (zYv (zZ (W.ty [(0, .int _ _), (1, .lst _ _ _), (5, .ref _ _ _), (6, .int _ _)] rfl (W.rL1 (mI rfl rfl ?_))))))))))
 obtain ⟨s3014, hv⟩ := hv
 refine cL rfl (o_add rfl rfl s3014 (aI rfl rfl (eL (zZ (⟨(), (v6 + (1 : Int)), (r0 ++ [(Job.mk b1ar r2)]), hv, St.to_mk (φ := [some 4]) rfl (rfl) ⟨Ren.int _ _, Ren.lst _ _ _, Ren.ref rfl (fun h => rfl), Ren.int _ _, trivial⟩ ⟨zE enc42 false (r0 ++ [(Job.mk b1ar r2)]) rfl, trivial⟩⟩)))))
 have hv := hv.2 hc
 refine W.exit (zZt (zZt (zYs (zZ (W.ty [(5, .ref _ _ _)] rfl (W.rL (cL rfl (zZp (v := .ref _ _ _) rfl (cL rfl (zZq (v := .ref _ _ _) rfl (eL (W.ty [(4, .ref _ _ _)] rfl (W.ret (rt (rt_t (v := .ref _ _ _) rfl (rt_n (⟨_, rs_ref enc42 4 _ rfl rfl, r0, rfl, hv⟩)))))))))))))))))
set_option maxHeartbeats 4000000 in
theorem vcp_jobs (n : Int) (x : (List (Vector Int 4))) (h0 : 1 <= n /\ n <= 1000000) (h1 : x.length <= 9223372036854775807) (h2 : ∀ y ∈ x, ∀ k, inI (vat y k)) : vc_jobs n x (fun q0 => q0 = (jobsM23 n x)) := by
  unfold vc_jobs
  simp only [show (0 : Int).toNat = 0 from rfl, show (1 : Int).toNat = 1 from rfl, show (2 : Int).toNat = 2 from rfl, show (3 : Int).toNat = 3 from rfl]
  refine ⟨fun v l => ∃ i : Nat, v = i /\ i <= x.length /\ i <= 12 /\ l = (x.take i).map (jobM23 n), fun v _ => 12 - v.toNat, ⟨0, rfl, by omega, by omega, rfl⟩, ?_⟩
  rintro _ _ ⟨i, rfl, hi, h12, rfl⟩
  refine ⟨fun k1 => ?_, fun k1 => ?_⟩
  . have hm := h2 _ (lat_mem (xs := x) (i := (i : Int)) ⟨by omega, by omega⟩)
    have p1 := zXz (c := vat (lat x (i : Int)) 1) (n := 4) (by omega)
    have ix : 0 <= (i : Int) /\ (i : Int) < (x.length : Int) := ⟨by omega, by omega⟩
    refine ⟨ix, ⟨by omega, by omega⟩, by omega, hm 0, fun v a l => ∃ k : Nat, v = k /\ (k : Int) <= pickM (vat (lat x (i : Int)) 1) 4 /\ a = pickM (vat (lat x (i : Int)) 0) 40 /\ l = (List.range k).map fun k : Nat => ⟨pickM ((vat (lat x (i : Int)) 2).tdiv (1 + k)) n, pickM ((vat (lat x (i : Int)) 3).tdiv (1 + 3 * k)) 13⟩, fun v _ _ => 4 - v.toNat, ⟨0, rfl, by omega, rfl, rfl⟩, ?_⟩
    rintro _ _ _ ⟨k, rfl, hk, rfl, rfl⟩
    refine ⟨ix, ⟨by omega, by omega⟩, by omega, hm 1, fun k2 => ?_, fun k2 => ?_⟩
    . have t2 := inI_td (x := vat (lat x (i : Int)) 2) (k := 1 + k) (by omega) (hm 2)
      have t3 := inI_td (x := vat (lat x (i : Int)) 3) (k := 1 + 3 * k) (by omega) (hm 3)
      refine ⟨ix, ⟨by omega, by omega⟩, by unfold inI; omega, by omega, t2, ix, ⟨by omega, by omega⟩, by unfold inI; omega, by unfold inI; omega, by omega, t3, by omega, t2, by omega, t3, by simp; omega, by unfold inI; omega, ⟨k + 1, by omega, by omega, rfl, ?_⟩, by show 4 - ((k : Int) + 1).toNat < 4 - (k : Int).toNat; omega⟩
      rw [map_range_succ]
    . have ej : Job.mk (pickM (vat (lat x (i : Int)) 0) 40) ((List.range k).map fun k : Nat => ⟨pickM ((vat (lat x (i : Int)) 2).tdiv (1 + k)) n, pickM ((vat (lat x (i : Int)) 3).tdiv (1 + 3 * k)) 13⟩) = jobM23 n (lat x (i : Int)) := by
        unfold jobM23
        rw [show (pickM (vat (lat x (i : Int)) 1) 4).toNat = k by omega]
      rw [ej]
      refine ⟨by simp; omega, by unfold inI; omega, ⟨i + 1, by omega, by omega, by omega, ?_⟩, by show 12 - ((i : Int) + 1).toNat < 12 - (i : Int).toNat; omega⟩
      rw [take_succ_lat (by omega), List.map_append]; rfl
  . unfold jobsM23
    rcases Nat.lt_or_ge i 12 with h | h
    . show _ = (x.take 12).map (jobM23 n)
      rw [List.take_of_length_le (l := x) (i := i) (by omega), List.take_of_length_le (l := x) (i := 12) (by omega)]
    . rw [show i = 12 by omega]
theorem spec_jobs (n : Int) (x : (List (Vector Int 4))) (h0 : 1 <= n /\ n <= 1000000) (h1 : x.length <= 9223372036854775807) (h2 : ∀ y ∈ x, ∀ k, inI (vat y k)) : FnP Try.prog 11 [.int .i64 n, .lst true x.length (zYy eV4 x)] (fun xR => xR = .lst false (jobsM23 n x).length (zYy (e42 true) (jobsM23 n x))) :=
  (walk_jobs (vcp_jobs n x h0 h1 h2)).mono (by rintro _ ⟨_, rfl, rfl⟩; rfl)
def vc_pick16 (c : Int) (n : Int) (Post : Int -> Prop) : Prop :=
  ∃ J1 : Int -> Prop, (∀ (v0 : Int), J1 v0 -> (n ≠ 0) /\ Post (v0.tmod n)) /\ (((c < (0 : Int)) -> (inI (c + (1 : Int))) /\ (inI (-(c + (1 : Int)))) /\ J1 (-(c + (1 : Int)))) /\ (¬ (c < (0 : Int)) -> J1 c))
theorem walk_pick16 {c : Int} {n : Int} {Post : Int -> Prop} (hv : vc_pick16 c n Post) : FnP Try.prog 16 [.int .i64 c, .int .i64 n] (fun x => ∃ q0, x = .int .i64 q0 /\ Post q0) := by
 refine FnP.of_walk (T := tt) (nt := 13) ttOk ttMix ⟨⟨Try.f16, Try.func16, rfl, rfl, rfl, rfl⟩⟩ (by simp) ?_
 unfold vc_pick16 at hv
 change W _ _ _ ⟨13, look [(0, .int .i64 c), (1, .int .i64 n)], [], 0⟩ _
 refine W.ty [(0, .int _ _), (1, .int _ _)] rfl (W.rL (aI rfl rfl (eL (W.ty [(0, .int _ _), (1, .int _ _)] rfl ?_))))
 obtain ⟨J1, hj, hv⟩ := hv
 refine W.mid1 (fun v0 => ⟨13, look [(0, .int .i64 v0), (1, .int .i64 n)], [], 0⟩) J1 ?_ ?_
 intro v0
 intro hv
 replace hv := hj v0 hv
 refine W.rL ?_
 iterate 2 refine mI rfl rfl ?_
 obtain ⟨s3, hv⟩ := hv
 refine cL rfl (o_rem rfl rfl s3 (aI rfl rfl (eL (W.ty [(4, .int _ _)] rfl (W.ret (rt (rt_t (v := .int _ _) rfl (rt_n (⟨_, zY _ _ _ _, (v0.tmod n), rfl, hv⟩)))))))))
 clear hj
 refine W.rL (mI rfl rfl (cL rfl (zYq rfl rfl (eL (W.ty [(0, .int _ _), (1, .int _ _), (6, .bool _)] rfl (W.cn rfl (fun hc => ?_) (fun hc => ?_)))))))
 have hv := hv.1 hc
 refine W.rL1 (mI rfl rfl ?_)
 obtain ⟨s4, hv⟩ := hv
 refine cL rfl (o_add rfl rfl s4 ?_)
 obtain ⟨s5, hv⟩ := hv
 refine cL rfl (o_neg rfl s5 (aI rfl rfl (eL (zZ (⟨(), (-(c + (1 : Int))), hv, St.to_mk (φ := []) rfl (rfl) (zT rfl rfl) trivial⟩)))))
 have hv := hv.2 hc
 refine W.skip (zZ (⟨(), c, hv, St.to_mk (φ := []) rfl (rfl) (zT rfl rfl) trivial⟩))
set_option maxHeartbeats 4000000 in
theorem vcp_pick16 (c : Int) (n : Int) (h0 : 1 <= n) (h1 : inI c) : vc_pick16 c n (fun q0 => q0 = (pickM c n)) := by
  unfold vc_pick16
  refine ⟨fun v => v = if c < 0 then -(c + 1) else c, fun v hv => ⟨by omega, by subst hv; rfl⟩, fun h => ⟨by unfold inI at *; omega, by unfold inI at *; omega, (if_pos h).symm⟩, fun h => (if_neg h).symm⟩
theorem spec_pick16 (c : Int) (n : Int) (h0 : 1 <= n) (h1 : inI c) : FnP Try.prog 16 [.int .i64 c, .int .i64 n] (fun xR => xR = .int .i64 (pickM c n)) :=
  (walk_pick16 (vcp_pick16 c n h0 h1)).mono (by rintro _ ⟨_, rfl, rfl⟩; rfl)
end Go.Lat
namespace Go.Lat
open Go.RowKit
def lkv : List (Nat × Value) -> Nat -> Option Value
  | [], _ => none
  | (k, v) :: l, t => if t = k then some v else lkv l t
structure XR (s1 : Nat) (X : Nat -> Prop) (D : List Deferred × Rho) (w0 : World) (mA : Mem) (r : Rho) (m : MM) (nt : Nat) (keep : List (Nat × AV)) (h : List AObj) (l : List (Nat × Value)) (mC : Mem) (a : Act) (w : World) : Prop where
  R0 : R X D w0 mA r m ⟨nt, look keep, h, 0⟩ a w
  le : w0.heap.size <= s1
  low : ∀ p v, m true p = some v -> p.block < s1
  obl : ∀ (i : Nat) o (b c : Nat), h[i]? = some o -> o.live = true -> r[i]? = some (b, c) -> b < s1
  reg : ∀ t v, lkv l t = some v -> a.tmps.getD t undef = v
  mem : ∀ p u, mC p = some u -> w.cell? p = some u /\ p.block < w.heap.size /\ s1 <= p.block /\ w.frozen? p = false
def evx (l : List (Nat × Value)) : Operand -> Option Value
  | .tmp t => lkv l t
  | .const v => some v
  | _ => none
section
variable {s1 : Nat} {X : Nat -> Prop} {D : List Deferred × Rho} {w0 : World} {mA : Mem} {r : Rho} {m : MM} {nt : Nat} {keep : List (Nat × AV)} {h : List AObj} {l : List (Nat × Value)} {mC : Mem} {a : Act} {w : World} {P : Program} {T : TT}
theorem XR.ev (hx : XR s1 X D w0 mA r m nt keep h l mC a w) {x : Operand} {v : Value} (hv : evx l x = some v) : a.eval x = v := by
  cases x with
  | tmp t => exact hx.reg t v hv
  | const u => simp only [evx, Option.some.injEq] at hv; subst hv; rfl
  | global g => cases hv
  | func f => cases hv
theorem XR.put (hx : XR s1 X D w0 mA r m nt keep h l mC a w) {d : Nat} {u : Value} (hk : look keep d = .any) (hd : Nat.blt d nt = true) : XR s1 X D w0 mA r m nt keep h ((d, u) :: l) mC (a.put (some d) u) w := by
  have hd : d < nt := Nat.le_of_ble_eq_true hd
  have hs : a.tmps.size = nt := hx.R0.size'
  refine { hx with R0 := ?_, reg := ?_ }
  . have h1 := hx.R0.put (some d) (x := .any) (v := u) (by simp only [VR])
    simp only [St.put, if_pos hd] at h1
    refine h1.le ⟨rfl, rfl, rfl, fun t => ?_⟩
    by_cases e : t = d
    . subst e; exact .inl hk
    . right; show look keep t = putT (look keep) d .any t
      unfold putT; rw [if_neg e]
  . intro t v hv
    unfold lkv at hv
    split at hv
    . rename_i e
      subst e
      cases hv
      simp [Act.put, hs, hd]
    . rename_i e
      have := hx.reg t v hv
      simp only [Act.put]
      simpa [Array.getElem?_setIfInBounds, Ne.symm e] using this
section
variable {ops : Array Oper} {ro : Option Nat} {n : Nat} {Q : Exit -> Act -> World -> Prop} {rest : List Oper} {d : Nat} {ty : TypeId} {pos : String} {af : Array Edge}
theorem x_op (hx : XR s1 X D w0 mA r m nt keep h l mC a w) {op : Op} {u : Value} (hnd : ∀ c, op ≠ .defer c) (hrun : (execOp a.eval ⟨some d, op, ty, pos, af, none⟩).run P w = .ok (.value u) w) (hk : look keep d = .any) (hd : Nat.blt d nt = true)
    (k : ∀ a', XR s1 X D w0 mA r m nt keep h ((d, u) :: l) mC a' w -> wpListIn (FW ro) n P ops Q rest a' w) : wpListIn (FW ro) n P ops Q (⟨some d, op, ty, pos, af, none⟩ :: rest) a w :=
  wpListIn_step fun K' hK' => by
    rw [if_pos (by rfl)]
    exact Oper.wpIn_value hnd hrun (.inl rfl) (hK' _ _ (k _ (hx.put hk hd)))
theorem x_move (hx : XR s1 X D w0 mA r m nt keep h l mC a w) {x : Operand} {v : Value} (hv : evx l x = some v) (hk : look keep d = .any) (hd : Nat.blt d nt = true)
    (k : ∀ a', XR s1 X D w0 mA r m nt keep h ((d, v) :: l) mC a' w -> wpListIn (FW ro) n P ops Q rest a' w) : wpListIn (FW ro) n P ops Q (⟨some d, .move x, ty, pos, af, none⟩ :: rest) a w :=
  x_op hx (fun c hc => by cases hc) (by rw [<- hx.ev hv]; simp [execOp]) hk hd k
theorem x_assign (hx : XR s1 X D w0 mA r m nt keep h l mC a w) {x : Operand} {v : Value} (hv : evx l x = some v) (hk : look keep d = .any) (hd : Nat.blt d nt = true)
    (k : ∀ a', XR s1 X D w0 mA r m nt keep h ((d, v) :: l) mC a' w -> wpListIn (FW ro) n P ops Q rest a' w) : wpListIn (FW ro) n P ops Q (⟨some d, .assign x, ty, pos, af, none⟩ :: rest) a w :=
  x_op hx (fun c hc => by cases hc) (by rw [<- hx.ev hv]; simp [execOp]) hk hd k
theorem x_len (hx : XR s1 X D w0 mA r m nt keep h l mC a w) (hT : TsOk P T) {x : Operand} {t e : TypeId} {s by_ : Nat} {z : List AV} (ht : T t = some ⟨.sl e, s, by_, z⟩) {p : Option Addr} {q c : Nat} (hv : evx l x = some (.slice p q c)) (hk : look keep d = .any) (hd : Nat.blt d nt = true)
    (k : ∀ a', XR s1 X D w0 mA r m nt keep h ((d, .int .i64 (q : Int)) :: l) mC a' w -> wpListIn (FW ro) n P ops Q rest a' w) : wpListIn (FW ro) n P ops Q (⟨some d, .call ⟨.builtin .len, #[x], #[t]⟩, ty, pos, af, none⟩ :: rest) a w := by
  have hs := (hT t _ ht).sl rfl
  have hrun : (Builtin.len_ #[t] ty #[.slice p q c]).run P w = .ok (goInt q) w := by simp [Builtin.len_, run_underlying hs]
  exact x_op hx (fun c hc => by cases hc) (u := .int .i64 (q : Int)) (by simp [execOp, resolve, invoke, builtin, hx.ev hv, hrun, goInt]) hk hd k
theorem x_bin {op : BinOp} (hx : XR s1 X D w0 mA r m nt keep h l mC a w) (hT : TsOk P T) {x y : Operand} {t ty' : TypeId} {i j : Int} {K : AV -> Prop} {u : Value} (hi : evx l x = some (.int .i64 i)) (hj : evx l y = some (.int .i64 j)) (hb : binA T op t (.int .i64 i) (.int .i64 j) K) (hu : ∀ z q, K z -> VR [] (fun _ _ => none) z q -> q = u) (hk : look keep d = .any) (hd : Nat.blt d nt = true)
    (k : ∀ a', XR s1 X D w0 mA r m nt keep h ((d, u) :: l) mC a' w -> wpListIn (FW ro) n P ops Q rest a' w) : wpListIn (FW ro) n P ops Q (⟨some d, .binOp op t x y ty', ty, pos, af, none⟩ :: rest) a w := by
  obtain ⟨z, q, hK, hv, hrun⟩ := bin_sound (P := P) (w := w) (r := []) (m := fun _ _ => none) (xo := x) (yo := y) (u := .int .i64 i) (v := .int .i64 j) hT (by simp only [VR]) (by simp only [VR]) hb
  have e := hu z q hK hv
  subst e
  refine x_op hx (fun c hc => by cases hc) ?_ hk hd k
  simp only [execOp, hx.ev hi, hx.ev hj]
  rw [Sem.run_bind, hrun]
  simp [Sem.run_pure]
theorem x_lss (hx : XR s1 X D w0 mA r m nt keep h l mC a w) (hT : TsOk P T) {x y : Operand} {t ty' : TypeId} {i j : Int} (hi : evx l x = some (.int .i64 i)) (hj : evx l y = some (.int .i64 j)) (hk : look keep d = .any) (hd : Nat.blt d nt = true)
    (k : ∀ a', XR s1 X D w0 mA r m nt keep h ((d, .bool (decide (i < j))) :: l) mC a' w -> wpListIn (FW ro) n P ops Q rest a' w) : wpListIn (FW ro) n P ops Q (⟨some d, .binOp .lss t x y ty', ty, pos, af, none⟩ :: rest) a w :=
  x_bin (T := T) (K := fun z => z = .bool (decide (i < j))) hx hT hi hj ⟨rfl, rfl⟩ (fun z q hz hq => by subst hz; simpa only [VR] using hq) hk hd k
theorem x_add (hx : XR s1 X D w0 mA r m nt keep h l mC a w) (hT : TsOk P T) {x y : Operand} {t ty' : TypeId} {i j : Int} (hi : evx l x = some (.int .i64 i)) (hj : evx l y = some (.int .i64 j)) (hr : inI (i + j)) (hk : look keep d = .any) (hd : Nat.blt d nt = true)
    (k : ∀ a', XR s1 X D w0 mA r m nt keep h ((d, .int .i64 (i + j)) :: l) mC a' w -> wpListIn (FW ro) n P ops Q rest a' w) : wpListIn (FW ro) n P ops Q (⟨some d, .binOp .add t x y ty', ty, pos, af, none⟩ :: rest) a w :=
  x_bin (T := T) (K := fun z => z = .int .i64 (i + j)) hx hT hi hj ⟨hr, rfl⟩ (fun z q hz hq => by subst hz; simpa only [VR] using hq) hk hd k
theorem x_ia (hx : XR s1 X D w0 mA r m nt keep h l mC a w) (hT : TsOk P T) {x y : Operand} {t e : TypeId} {s by_ es eb : Nat} {z ez : List AV} {ek : TK} (ht : T t = some ⟨.sl e, s, by_, z⟩) (he : T e = some ⟨ek, es, eb, ez⟩) {p : Addr} {q c : Nat} {j : Int} (hv : evx l x = some (.slice (some p) q c)) (hj : evx l y = some (.int .i64 j)) (hjb : 0 <= j /\ j < (q : Int)) (hk : look keep d = .any) (hd : Nat.blt d nt = true)
    (k : ∀ a', XR s1 X D w0 mA r m nt keep h ((d, .pointer (some (p.add (j.toNat * es)))) :: l) mC a' w -> wpListIn (FW ro) n P ops Q rest a' w) : wpListIn (FW ro) n P ops Q (⟨some d, .indexAddr t x y, ty, pos, af, none⟩ :: rest) a w := by
  have hrun := run_indexAt_slice (w := w) ((hT t _ ht).sl rfl) (hT e _ he) (k := .i64) (n := q) (cap := c) p hjb
  exact x_op hx (fun c hc => by cases hc) (by simp only [execOp, hx.ev hv, hx.ev hj, Sem.run_bind, hrun, Result.andThen_ok, Sem.run_pure]) hk hd k
theorem x_fa (hx : XR s1 X D w0 mA r m nt keep h l mC a w) (hT : TsOk P T) {x : Operand} {t ft : TypeId} {s by_ fs fb off f : Nat} {z fz : List AV} {fk : TK} {F : List (Nat × TypeId)} (ht : T t = some ⟨.st F, s, by_, z⟩) (hf : F[f]? = some (off, ft)) (hft : T ft = some ⟨fk, fs, fb, fz⟩) (hsz : fs ≠ 0) {p : Addr} (hv : evx l x = some (.pointer (some p))) (hk : look keep d = .any) (hd : Nat.blt d nt = true)
    (k : ∀ a', XR s1 X D w0 mA r m nt keep h ((d, .pointer (some (p.add off))) :: l) mC a' w -> wpListIn (FW ro) n P ops Q rest a' w) : wpListIn (FW ro) n P ops Q (⟨some d, .fieldAddr t x f, ty, pos, af, none⟩ :: rest) a w := by
  obtain ⟨G, fd, hu, hF, ho, hty⟩ := (hT t _ ht).st rfl hf
  subst ho; subst hty
  have hrun : (Instr.fieldAt t (.pointer (some p)) f).run P w = .ok (.pointer (some (p.add fd.offset))) w := by
    simp only [Instr.fieldAt, Sem.run_bind, run_underlying hu, Result.andThen_ok, hF, Instr.sureAddr, Sem.run_pure, fieldPlace, (hT _ _ hft).run_sizeOf, hsz, if_false]
  exact x_op hx (fun c hc => by cases hc) (by simp only [execOp, hx.ev hv, Sem.run_bind, hrun, Result.andThen_ok, Sem.run_pure]) hk hd k
theorem x_ld (hx : XR s1 X D w0 mA r m nt keep h l mC a w) (hT : TsOk P T) {x : Operand} {t : TypeId} {i : TI} (ht : T t = some i) (hag : i.k.agg = false) {p : Addr} {u : Value} (hv : evx l x = some (.pointer (some p))) (hc : mC p = some u) (hk : look keep d = .any) (hd : Nat.blt d nt = true)
    (k : ∀ a', XR s1 X D w0 mA r m nt keep h ((d, u) :: l) mC a' w -> wpListIn (FW ro) n P ops Q rest a' w) : wpListIn (FW ro) n P ops Q (⟨some d, .load t x, ty, pos, af, none⟩ :: rest) a w := by
  have hc0 := (hx.mem p u hc).1
  have hrun : (Instr.loadAt t (.pointer (some p))).run P w = .ok u w := by
    simp only [Instr.loadAt, Instr.sureAddr, Sem.run_bind, Sem.run_pure, Result.andThen_ok, loadVar, (hT t i ht).run_isAgg, hag, Bool.false_eq_true, if_false, load, Sem.run, hc0]
  exact x_op hx (fun c hc => by cases hc) (by simp only [execOp, hx.ev hv, Sem.run_bind, hrun, Result.andThen_ok, Sem.run_pure]) hk hd k
theorem setCell_heap {p : Addr} {v : Value} {k : Nat} (hk : k ≠ p.block) : (w.setCell p v).heap[k]? = w.heap[k]? := by
  unfold World.setCell
  simp only [Array.getElem?_modify]
  rw [if_neg (Ne.symm hk)]
theorem setCell_size {p : Addr} {v : Value} : (w.setCell p v).heap.size = w.heap.size := by
  unfold World.setCell
  simp
theorem cell_parts {p : Addr} {u : Value} (hc : w.cell? p = some u) : ∃ c e f, w.heap[p.block]? = some (.cells c e f) /\ p.spot = none /\ c[p.off]? = some u := by
  unfold World.cell? at hc
  split at hc
  . rename_i c e f hb
    split at hc
    . cases hc
    . rename_i hs
      exact ⟨c, e, f, hb, by simpa using hs, hc⟩
  . cases hc
theorem setCell_cell {p : Addr} {u v : Value} (hc : w.cell? p = some u) (q : Addr) : (w.setCell p v).cell? q = if q = p then some v else w.cell? q := by
  obtain ⟨c, e, f, hb, hs, hu⟩ := cell_parts hc
  by_cases hqb : q.block = p.block
  . have hb' : (w.setCell p v).heap[q.block]? = some (.cells (c.setIfInBounds p.off v) e f) := by
      unfold World.setCell
      simp only [Array.getElem?_modify]
      rw [if_pos hqb.symm, hqb, hb]
      simp [hs]
    have h1 : (w.setCell p v).cell? q = if q.spot.isSome then none else (c.setIfInBounds p.off v)[q.off]? := by
      unfold World.cell?; rw [hb']
    have h2 : w.cell? q = if q.spot.isSome then none else c[q.off]? := by
      unfold World.cell?; rw [hqb, hb]
    rw [h1, h2]
    by_cases hqs : q.spot.isSome = true
    . rw [if_pos hqs, if_pos hqs, if_neg]
      rintro rfl
      rw [hs] at hqs; cases hqs
    . rw [if_neg hqs, if_neg hqs]
      have hqn : q.spot = none := by simpa using hqs
      have hlt : p.off < c.size := by
        rcases Nat.lt_or_ge p.off c.size with h | h
        . exact h
        . rw [Array.getElem?_eq_none h] at hu; cases hu
      by_cases ho : p.off = q.off
      . have e : q = p := by
          rcases q with ⟨q1, q2, q3⟩
          rcases p with ⟨p1, p2, p3⟩
          simp only at hqb ho hqn hs
          subst hqb; subst ho; subst hqn; subst hs; rfl
        rw [if_pos e, <- ho]
        simp [Array.getElem?_setIfInBounds, hlt]
      . rw [if_neg (fun e => ho (by rw [e])), Array.getElem?_setIfInBounds, if_neg ho]
  . rw [if_neg (fun e => hqb (by rw [e]))]
    exact World.cell?_of_block (setCell_heap hqb)
theorem setCell_frozen {p : Addr} {u v : Value} (hc : w.cell? p = some u) (q : Addr) : (w.setCell p v).frozen? q = w.frozen? q := by
  by_cases hqb : q.block = p.block
  . obtain ⟨c, e, f, hb, hs, hu⟩ := cell_parts hc
    have hb' : (w.setCell p v).heap[q.block]? = some (.cells (c.setIfInBounds p.off v) e f) := by
      unfold World.setCell
      simp only [Array.getElem?_modify]
      rw [if_pos hqb.symm, hqb, hb]
      simp [hs]
    unfold World.frozen?
    rw [hb', hqb, hb]
  . exact froz_of (setCell_heap hqb)
theorem XR.store (hx : XR s1 X D w0 mA r m nt keep h l mC a w) {p : Addr} {u0 v : Value} (hc : mC p = some u0) : XR s1 X D w0 mA r m nt keep h l (fun q => if q = p then some v else mC q) a (w.setCell p v) := by
  obtain ⟨hcell, hlt, hs, hf⟩ := hx.mem p u0 hc
  obtain ⟨c, e, f, hb, hsp, hu⟩ := cell_parts hcell
  have h0 := hx.R0
  have hle := hx.le
  refine { hx with R0 := { h0 with os := h0.os, tape := h0.tape, output := h0.output, size := by rw [setCell_size]; exact h0.size, old := fun k hk hX => ?_, lt := fun i o b c ho hl hr => by rw [setCell_size]; exact h0.lt i o b c ho hl hr, mem := fun q u hq => ?_, fz := fun q u hq => by rw [setCell_frozen hcell]; exact h0.fz q u hq, obj := fun i o ho => ?_, marks := fun d hd => ?_ }, mem := fun q u hq => ?_ }
  . rw [setCell_heap (by omega)]; exact h0.old k hk hX
  . have h1 := h0.mem q u hq
    have h2 := hx.low q u hq
    rw [setCell_size, setCell_cell hcell, if_neg (fun e => by rw [e] at h2; omega)]
    exact h1
  . exact (h0.obj i o ho).same fun b c hr hl => setCell_heap (by have := hx.obl i o b c ho hl hr; omega)
  . obtain ⟨b, e1, e0, e2⟩ := h0.marks d hd
    refine ⟨b, e1, e0, ?_⟩
    rw [setCell_heap]
    . exact e2
    . rintro rfl
      rw [hb] at e2; cases e2
  . rw [setCell_size, setCell_frozen hcell, setCell_cell hcell]
    by_cases e : q = p
    . subst e
      rw [if_pos rfl] at hq ⊢
      exact ⟨hq, hlt, hs, hf⟩
    . rw [if_neg e] at hq ⊢
      exact hx.mem q u hq
theorem x_st (hx : XR s1 X D w0 mA r m nt keep h l mC a w) (hT : TsOk P T) {x y : Operand} {t : TypeId} {i : TI} (ht : T t = some i) {p : Addr} {c : Int} {u0 : Value} (his : i.size = 1) (hp : evx l x = some (.pointer (some p))) (hv : evx l y = some (.int .i64 c)) (hc : mC p = some u0)
    (k : ∀ w', XR s1 X D w0 mA r m nt keep h l (fun q => if q = p then some (.int .i64 c) else mC q) a w' -> wpListIn (FW ro) n P ops Q rest a w') : wpListIn (FW ro) n P ops Q (⟨none, .store t x y, ty, pos, af, none⟩ :: rest) a w := by
  obtain ⟨hcell, hlt, hs, hf⟩ := hx.mem p u0 hc
  have e : ∀ k : Sem Unit, (Sem.store Mode.plain p (.int .i64 c) k).run P w = k.run P (w.setCell p (.int .i64 c)) := fun k => by
    rw [Sem.run]
    . simp only [hcell, hf, Bool.false_eq_true, if_false]
    all_goals simp
  have hrun : (Instr.storeAt t (.pointer (some p)) (.int .i64 c)).run P w = .ok () (w.setCell p (.int .i64 c)) := by
    have hp0 : p.add 0 = p := by simp [Addr.add]
    have hsz : (Value.int .i64 c).cells = #[.int .i64 c] := rfl
    simp only [Instr.storeAt, Instr.sureAddr, Sem.run_bind, Sem.run_pure, Result.andThen_ok, storeVar, (hT t i ht).run_sizeOf, hsz, his]
    simp only [List.size_toArray, List.length_cons, List.length_nil, Nat.zero_add, ne_eq, not_true_eq_false, if_false, storeCells, hp0, store, Sem.run_bind, e, Sem.run_pure]
    rfl
  refine wpListIn_step fun K' hK' => ?_
  rw [if_pos (by rfl)]
  refine Oper.wpIn_value (u := undef) (fun c hc => by cases hc) (by simp only [execOp, hx.ev hp, hx.ev hv, Sem.run_bind, hrun, Result.andThen_ok, Sem.run_pure]) (.inr ⟨rfl, rfl⟩) (hK' _ _ (k _ (hx.store hc)))
theorem x_callP {mC0 : Mem} (hx : XR s1 X D w0 mA r m nt keep h l mC0 a w) (hs : s1 <= w.heap.size) {k : FuncId} {args : Array Operand} {tys : Array TypeId} {xs ys : List AV} {Post : AV -> Prop} (hfn : FnP P k xs Post) (hys : VRs r m ys (args.toList.map a.eval)) (hw : Wks (ys.map (conv 6 h)) xs) (hk : look keep d = .any) (hd : Nat.blt d nt = true)
    (kont : ∀ a' w' v x mR, Post x -> VR [] (fun _ => mR) x v -> XR s1 X D w0 mA r m nt keep h ((d, v) :: l) mR a' w' -> wpListIn (FW ro) n P ops Q rest a' w') : wpListIn (FW ro) n P ops Q (⟨some d, .call ⟨.value (.func k), args, tys⟩, ty, pos, af, none⟩ :: rest) a w := by
  have hfn' := hfn.wk hw
  have hcall : (execOp a.eval ⟨some d, .call ⟨.value (.func k), args, tys⟩, ty, pos, af, none⟩).run P w = .ok (.enter k (args.toList.map a.eval).toArray) w := by
    have e : (args.toList.map a.eval).toArray = args.map a.eval := by
      apply Array.toList_inj.1
      simp
    rw [e]
    have ef : a.eval (.func k) = .func (.func k) #[] #[] := rfl
    simp only [execOp, resolve, Deferred.ofValue, ef, Sem.run_bind, Sem.run_pure, Result.andThen_ok, invoke, run_callFunc hfn'.1]
    simp
  refine wpListIn_step fun K' hK' => ?_
  rw [if_pos (by rfl)]
  refine ⟨fun _ _ => trivial, ?_⟩
  rw [Oper.semAt_eq _ _ _ (fun c' h' => by cases h'), hcall]
  refine ⟨fun h => (by cases h), ?_⟩
  have hc := hfn'.2 (memAll r m h w) w _ (memAll_ok hx.R0) (vrs_map_conv (fun x v hv => cv_sound hx.R0 6 x v hv) _ _ hys)
  refine callsIn_FW (hc.mono ?_)
  rintro e w' ⟨v, z, mR, rfl, hg, hp, hv, hm⟩
  refine hK' _ _ (kont _ w' v z mR hp hv ?_)
  have hx' : XR s1 X D w0 mA r m nt keep h l mR a w' := { hx with R0 := hx.R0.grown hg, mem := fun p u hu => ⟨(hm p u hu).1, (hm p u hu).2.1, Nat.le_trans hs (hm p u hu).2.2.1, (hm p u hu).2.2.2⟩ }
  exact hx'.put hk hd
end
end
end Go.Lat
namespace Go.Lat
open Go.RowKit
def Chg (c : Int) (mR mC : Mem) : Prop := ∀ p, mC p = mR p \/ ((∃ k n, mR p = some (.int k n)) /\ mC p = some (.int .i64 c))
theorem Chg.refl (c : Int) (mR : Mem) : Chg c mR mR := fun _ => .inl rfl
theorem Chg.int {c : Int} {mR mC : Mem} (h : Chg c mR mC) {p : Addr} {n : Int} (hp : mR p = some (.int .i64 n)) : ∃ n', mC p = some (.int .i64 n') /\ (n' = n \/ n' = c) := by
  rcases h p with h | ⟨_, h⟩
  . exact ⟨n, h.trans hp, .inl rfl⟩
  . exact ⟨c, h, .inr rfl⟩
theorem Chg.sl {c : Int} {mR mC : Mem} (h : Chg c mR mC) {p : Addr} {o : Option Addr} {q k : Nat} (hp : mR p = some (.slice o q k)) : mC p = some (.slice o q k) := by
  rcases h p with h | ⟨⟨_, _, h⟩, _⟩
  . exact h.trans hp
  . rw [hp] at h; cases h
theorem Chg.store {c : Int} {mR mC : Mem} (h : Chg c mR mC) {p : Addr} {n : Int} (hp : mR p = some (.int .i64 n)) : Chg c mR (fun q => if q = p then some (.int .i64 c) else mC q) := fun q => by
  by_cases e : q = p
  . subst e; exact .inr ⟨⟨_, _, hp⟩, if_pos rfl⟩
  . show (if q = p then _ else mC q) = _ \/ _ /\ (if q = p then _ else mC q) = _
    rw [if_neg e]; exact h q
theorem add_add' (a : Addr) (m n : Nat) : (a.add m).add n = a.add (m + n) := by
  unfold Addr.add
  by_cases hm : m = 0 <;> by_cases hn : n = 0 <;> simp [hm, hn, Nat.add_assoc]
theorem Sealed.hd {m : Mem} {a : Addr} {v : Value} {vs : List Value} (h : Sealed m a (v :: vs)) : m a = some v /\ v.oneCell' = true := by
  have := h 0 v rfl
  rwa [show a.add 0 = a by simp [Addr.add]] at this
theorem Sealed.tl {m : Mem} {a : Addr} {v : Value} {vs : List Value} (h : Sealed m a (v :: vs)) : Sealed m (a.add 1) vs := h.drop 1
theorem Sealed.mk {m : Mem} {a : Addr} {v : Value} {vs : List Value} (h0 : m a = some v) (h1 : v.oneCell' = true) (h : Sealed m (a.add 1) vs) : Sealed m a (v :: vs) := fun i u hu => by
  rcases i with _ | i
  . simp at hu; subst hu
    rw [show a.add 0 = a by simp [Addr.add]]; exact ⟨h0, h1⟩
  . have := h i u (by simpa using hu)
    rwa [add_add', Nat.add_comm] at this
theorem ld_chg {c : Int} {mR mC : Mem} {mm : MM} (h : Chg c mR mC) (B : Int -> Prop) (hBc : B c) : ∀ (wk : List Ld) (ws : List Value) (a : Addr), Sealed mR a ws -> VRs [] mm (zYy e45 wk) ws -> (∀ x ∈ wk, B x.tm) →
    (∀ k : Nat, k < wk.length -> mC (a.add (2 * k)) = some (.int .i64 c)) -> ∃ (wk' : List Ld) (ws' : List Value), wk'.length = wk.length /\ Sealed mC a ws' /\ (∀ mm' : MM, VRs [] mm' (zYy e45 wk') ws') /\ ∀ x ∈ wk', x.st = c /\ B x.tm
  | [], _, a, _, _, _, _ => ⟨[], [], rfl, Sealed.nil, fun _ => VRs.nil, fun x hx => by cases hx⟩
  | x :: wk, ws, a, hs, hv, hB, hd => by
    have hv' : VRs [] mm (.int .i64 x.st :: .int .i64 x.tm :: zYy e45 wk) ws := hv
    simp only [VRs] at hv'
    obtain ⟨v1, ws1, rfl, h1, v2, ws2, rfl, h2, h3⟩ := hv'
    simp only [VR] at h1 h2
    subst h1; subst h2
    have s1 := hs.hd
    have s2 := hs.tl.hd
    have s3 := hs.tl.tl
    rw [add_add'] at s3
    obtain ⟨t', ht, htc⟩ := h.int s2.1
    have d0 := hd 0 (by simp)
    rw [show a.add (2 * 0) = a by simp [Addr.add]] at d0
    obtain ⟨wk', ws', e1, e2, e3, e4⟩ := ld_chg h B hBc wk ws2 (a.add 2) s3 h3 (fun y hy => hB y (List.mem_cons_of_mem _ hy)) fun k hk => by
      have := hd (k + 1) (by simp; omega)
      rwa [show 2 * (k + 1) = 2 + 2 * k by omega, <- add_add'] at this
    refine ⟨⟨c, t'⟩ :: wk', .int .i64 c :: .int .i64 t' :: ws', by simp [e1], Sealed.mk d0 rfl (Sealed.mk ht rfl (by rw [add_add']; exact e2)), fun mm' => ?_, fun y hy => ?_⟩
    . show VRs [] mm' (.int .i64 c :: .int .i64 t' :: zYy e45 wk') _
      simp only [VRs, VR]
      exact ⟨_, _, rfl, rfl, _, _, rfl, rfl, e3 mm'⟩
    . rcases List.mem_cons.1 hy with rfl | hy
      . exact ⟨rfl, (show B t' from htc.elim (fun e => by rw [e]; exact hB x List.mem_cons_self) fun e => by rw [e]; exact hBc)⟩
      . exact e4 y hy
theorem jb_chg {c : Int} {mR mC : Mem} (h : Chg c mR mC) (A B : Int -> Prop) (hAc : A c) (hBc : B c) (N : Nat) : ∀ (js : List Job) (vs : List Value) (a : Addr), Sealed mR a vs -> VRs [] (nest mR) (zYy (e42 true) js) vs -> (∀ j ∈ js, A j.ar /\ j.wk.length <= N /\ ∀ x ∈ j.wk, B x.tm) →
    (∀ (i : Nat) (q : Addr) (n cap k : Nat), i < js.length -> mR (a.add (2 * i + 1)) = some (.slice (some q) n cap) -> k < n -> mC (q.add (2 * k)) = some (.int .i64 c)) →
    ∃ (js' : List Job) (vs' : List Value), js'.length = js.length /\ vs'.length = vs.length /\ Sealed mC a vs' /\ VRs [] (nest mC) (zYy (e42 true) js') vs' /\ ∀ j ∈ js', A j.ar /\ j.wk.length <= N /\ ∀ x ∈ j.wk, x.st = c /\ B x.tm
  | [], vs, a, _, hv, _, _ => by
    have hv' : VRs [] (nest mR) [] vs := hv
    simp only [VRs] at hv'
    subst hv'
    exact ⟨[], [], rfl, rfl, Sealed.nil, VRs.nil, fun x hx => by cases hx⟩
  | j :: js, vs, a, hs, hv, hP, hd => by
    have hv' : VRs [] (nest mR) (.int .i64 j.ar :: .lst true j.wk.length (zYy e45 j.wk) :: zYy (e42 true) js) vs := hv
    simp only [VRs] at hv'
    obtain ⟨v1, vs1, rfl, h1, v2, vs2, rfl, h2, h3⟩ := hv'
    have h1 : v1 = .int .i64 j.ar := by simpa only [VR] using h1
    subst h1
    have s1 := hs.hd
    have s2 := hs.tl.hd
    have s3 := hs.tl.tl
    rw [add_add'] at s3
    obtain ⟨ar', har, harc⟩ := h.int s1.1
    obtain ⟨js', vs', e1, e1', e2, e3, e4⟩ := jb_chg h A B hAc hBc N js vs2 (a.add 2) s3 h3 (fun y hy => hP y (List.mem_cons_of_mem _ hy)) fun i q n cap k hi hq hk => hd (i + 1) q n cap k (by simp; omega) (by
      rw [show 2 * (i + 1) + 1 = 2 + (2 * i + 1) by omega, <- add_add']; exact hq) hk
    have hj := hP j List.mem_cons_self
    have key : ∃ wk' : List Ld, wk'.length = j.wk.length /\ mC (a.add 1) = some v2 /\ VR [] (nest mC) (.lst true wk'.length (zYy e45 wk')) v2 /\ ∀ x ∈ wk', x.st = c /\ B x.tm := by
      simp only [VR] at h2
      rcases h2 with ⟨h0, rfl⟩ | ⟨q, cap, ws, hle, rfl, h4, h5⟩
      . exact ⟨[], h0.symm, h.sl s2.1, by simp [VR], fun x hx => by cases hx⟩
      . obtain ⟨wk', ws', f1, f2, f3, f4⟩ := ld_chg h B hBc j.wk ws q h4 h5 hj.2.2 fun k hk => hd 0 q _ _ k (by simp) s2.1 hk
        refine ⟨wk', f1, h.sl s2.1, ?_, f4⟩
        simp only [VR]
        exact .inr ⟨q, cap, ws', by rw [f1]; exact hle, by rw [f1], f2, f3 _⟩
    obtain ⟨wk', f1, f2, f3, f4⟩ := key
    refine ⟨⟨ar', wk'⟩ :: js', .int .i64 ar' :: v2 :: vs', by simp [e1], by simp [e1'], Sealed.mk har rfl (Sealed.mk f2 s2.2 (by rw [add_add']; exact e2)), ?_, fun y hy => ?_⟩
    . show VRs [] (nest mC) (.int .i64 ar' :: .lst true wk'.length (zYy e45 wk') :: zYy (e42 true) js') _
      simp only [VRs]
      exact ⟨_, _, rfl, by simp only [VR], _, _, rfl, f3, e3⟩
    . rcases List.mem_cons.1 hy with rfl | hy
      . exact ⟨(show A ar' from harc.elim (fun e => by rw [e]; exact hj.1) fun e => by rw [e]; exact hAc), by show wk'.length <= N; omega, f4⟩
      . exact e4 y hy
theorem ld_read {mR : Mem} {mm : MM} : ∀ (wk : List Ld) (ws : List Value) (a : Addr), Sealed mR a ws -> VRs [] mm (zYy e45 wk) ws -> ∀ k : Nat, k < wk.length -> ∃ s, mR (a.add (2 * k)) = some (.int .i64 s)
  | [], _, _, _, _, k, hk => by simp at hk
  | x :: wk, ws, a, hs, hv, k, hk => by
    have hv' : VRs [] mm (.int .i64 x.st :: .int .i64 x.tm :: zYy e45 wk) ws := hv
    simp only [VRs] at hv'
    obtain ⟨v1, ws1, rfl, h1, v2, ws2, rfl, h2, h3⟩ := hv'
    simp only [VR] at h1 h2
    subst h1; subst h2
    rcases k with _ | k
    . exact ⟨x.st, by rw [show a.add (2 * 0) = a by simp [Addr.add]]; exact hs.hd.1⟩
    . have s3 := hs.tl.tl
      rw [add_add'] at s3
      obtain ⟨s, h4⟩ := ld_read wk ws2 (a.add 2) s3 h3 k (by simpa using hk)
      exact ⟨s, by rw [show 2 * (k + 1) = 2 + 2 * k by omega, <- add_add']; exact h4⟩
theorem jb_read {mR : Mem} : ∀ (js : List Job) (vs : List Value) (a : Addr), Sealed mR a vs -> VRs [] (nest mR) (zYy (e42 true) js) vs -> ∀ i : Nat, i < js.length -> ∃ o n cap, mR (a.add (2 * i + 1)) = some (.slice o n cap) /\ (0 < n -> ∃ q, o = some q /\ ∀ k : Nat, k < n -> ∃ s, mR (q.add (2 * k)) = some (.int .i64 s)) /\ ∃ j ∈ js, n = j.wk.length
  | [], _, _, _, _, i, hi => by simp at hi
  | j :: js, vs, a, hs, hv, i, hi => by
    have hv' : VRs [] (nest mR) (.int .i64 j.ar :: .lst true j.wk.length (zYy e45 j.wk) :: zYy (e42 true) js) vs := hv
    simp only [VRs] at hv'
    obtain ⟨v1, vs1, rfl, h1, v2, vs2, rfl, h2, h3⟩ := hv'
    rcases i with _ | i
    . have s2 := hs.tl.hd
      simp only [VR] at h2
      rcases h2 with ⟨h0, rfl⟩ | ⟨q, cap, ws, hle, rfl, h4, h5⟩
      . exact ⟨none, 0, 0, s2.1, fun h => absurd h (Nat.lt_irrefl _), j, List.mem_cons_self, h0.symm⟩
      . exact ⟨some q, _, cap, s2.1, fun _ => ⟨q, rfl, fun k hk => ld_read j.wk ws q h4 h5 k hk⟩, j, List.mem_cons_self, rfl⟩
    . have s3 := hs.tl.tl
      rw [add_add'] at s3
      obtain ⟨o, n, cap, h4, h5, y, h6, h7⟩ := jb_read js vs2 (a.add 2) s3 h3 i (by simpa using hi)
      exact ⟨o, n, cap, by rw [show 2 * (i + 1) + 1 = 2 + (2 * i + 1) by omega, <- add_add']; exact h4, h5, y, List.mem_cons_of_mem _ h6, h7⟩
end Go.Lat
namespace Go.Lat
open Go.RowKit Go.Proofs
def tlC : Code -> Code
  | .seq _ b => b
  | c => c
def headC : Code -> Code
  | .seq a _ => a
  | c => c
def bodyOf (f : Func) : Code := f.body.getD .skip
def anyL (keep : List (Nat × AV)) : List Nat -> Prop
  | [] => True
  | d :: l => look keep d = .any /\ anyL keep l
theorem anyL_at {keep : List (Nat × AV)} : ∀ {l : List Nat}, anyL keep l -> ∀ d ∈ l, look keep d = .any
  | [], _, d, hd => by cases hd
  | _ :: l, h, d, hd => by
    rcases List.mem_cons.1 hd with rfl | hd
    . exact h.1
    . exact anyL_at h.2 d hd
def allLk (l : List (Nat × Value)) : List (Nat × Value) -> Prop
  | [] => True
  | (t, v) :: r => lkv l t = some v /\ allLk l r
theorem allLk_at {l : List (Nat × Value)} : ∀ {r : List (Nat × Value)}, allLk l r -> ∀ t v, lkv r t = some v -> lkv l t = some v
  | [], _, t, v, h => by cases h
  | (k, u) :: r, ha, t, v, h => by
    unfold lkv at h
    split at h
    . rename_i e; subst e; cases h; exact ha.1
    . exact allLk_at ha.2 t v h
theorem XR.sub {s1 : Nat} {X : Nat -> Prop} {D : List Deferred × Rho} {w0 : World} {mA : Mem} {r : Rho} {m : MM} {nt : Nat} {keep : List (Nat × AV)} {h : List AObj} {l l' : List (Nat × Value)} {mC : Mem} {a : Act} {w : World} (hx : XR s1 X D w0 mA r m nt keep h l mC a w) (hl : allLk l l') : XR s1 X D w0 mA r m nt keep h l' mC a w :=
  { hx with reg := fun t v hv => hx.reg t v (allLk_at hl t v hv) }
def valN : Value -> Nat
  | .int _ i => i.toNat
  | _ => 0
def GoodO (c : Int) (n : Nat) (js : List Job) : Prop := js.length = n /\ ∀ j ∈ js, (0 <= j.ar /\ j.ar <= 39) /\ j.wk.length <= 3 /\ ∀ x ∈ j.wk, x.st = c /\ 0 <= x.tm /\ x.tm <= 12
def DoneO (mR : Mem) (a0 : Addr) (n : Nat) (c : Int) (i k : Nat) (mC : Mem) : Prop :=
  ∀ (i' : Nat) (q : Addr) (len cap k' : Nat), i' < n -> mR (a0.add (2 * i' + 1)) = some (.slice (some q) len cap) -> k' < len -> (i' < i \/ i' = i /\ k' < k) -> mC (q.add (2 * k')) = some (.int .i64 c)
theorem apx {S : List Int} {y : List (Vector Int 4)} {keep : List (Nat × AV)} {h : List AObj} {fl : Bool} {Q : Ex -> St -> Prop} (hy1 : y.length <= 9223372036854775807) (hy2 : ∀ z ∈ y, ∀ k, inI (vat z k)) (hS : S.length <= 12)
    (h10 : look keep 10 = .lst fl S.length (zYy zYx S)) (h2 : look keep 2 = .lst true y.length (zYy eV4 y)) (hk : anyL keep [46, 47, 12, 13, 48, 49, 50, 51, 14, 54, 55, 56, 57, 58, 59, 60, 61, 64, 65, 66, 67, 68, 69, 70, 71, 72, 73, 62, 63, 52, 53])
    (k : ∀ js, GoodO S.length (jobsM23 1 y).length js -> W Try.prog tt (tlC (tlC (tlC (tlC (tlC (tlC (bodyOf Try.f6))))))) ⟨322, look ((12, .lst true js.length (zYy (e42 true) js)) :: keep), h, 0⟩ Q) :
    W Try.prog tt (tlC (tlC (tlC (tlC (bodyOf Try.f6))))) ⟨322, look keep, h, 0⟩ Q := by
  intro hT hf ro hro n X D w0 mA r m a w hR
  have ka : ∀ d ∈ [46, 47, 12, 13, 48, 49, 50, 51, 14, 54, 55, 56, 57, 58, 59, 60, 61, 64, 65, 66, 67, 68, 69, 70, 71, 72, 73, 62, 63, 52, 53], look keep d = .any := anyL_at hk
  have t10 := hR.tmps 10
  have t2 := hR.tmps 2
  simp only [h10] at t10
  simp only [h2] at t2
  obtain ⟨p10, c10, e10⟩ : ∃ p c, a.tmps.getD 10 undef = .slice p S.length c := by
    simp only [VR] at t10
    rcases t10 with ⟨h0, h1⟩ | ⟨p, c, vs, _, h1, _⟩
    . exact ⟨none, 0, by rw [h1, h0]⟩
    . exact ⟨_, _, h1⟩
  have hx0 : XR w.heap.size X D w0 mA r m 322 keep h [(2, a.tmps.getD 2 undef), (10, .slice p10 S.length c10)] (fun _ => none) a w := {
    R0 := hR, le := hR.size, low := fun p v hp => (hR.mem p v hp).2, obl := fun i o b c ho hl hr => hR.lt i o b c ho hl hr
    reg := fun t v hv => by
      unfold lkv at hv
      split at hv
      . rename_i e; subst e; cases hv; rfl
      . unfold lkv at hv
        split at hv
        . rename_i e; subst e; cases hv; exact e10
        . cases hv
    mem := fun p u hp => by cases hp }
  have hb : noRg (tlC (tlC (tlC (tlC (bodyOf Try.f6))))) = true -> noRg (tlC (tlC (tlC (tlC (tlC (tlC (bodyOf Try.f6))))))) = true := fun hh => by
    have hh : (_ && ((_ && _) && noRg (tlC (tlC (tlC (tlC (tlC (tlC (bodyOf Try.f6)))))))) ) = true := hh
    simp only [Bool.and_eq_true] at hh
    exact hh.2.2
  refine wpIn_seq (wpIn_region_list ?_)
  refine x_move hx0 rfl (ka _ (by simp)) rfl fun a hx => ?_
  refine x_callP hx (Nat.le_refl _) (spec_jobs 1 y (by omega) hy1 hy2) (ys := [.int .i64 1, .lst true y.length (zYy eV4 y)]) ?_ zk (ka _ (by simp)) rfl fun a w' v js0 mR hjs hv hx => ?_
  . show VRs r m _ [_, _]
    simp only [VRs]
    refine ⟨_, _, rfl, ?_, _, _, rfl, ?_, rfl⟩
    . rw [hx.ev (x := .const (.int .i64 1)) rfl]; simp only [VR]
    . rw [hx.ev (x := .tmp 46) rfl]; exact t2
  refine x_assign hx rfl (ka _ (by simp)) rfl fun a hx => wpListIn_nil ?_
  subst hjs
  have hmj := made_jobs (m := 1) (by omega) y
  have hx := hx.sub (l' := [(12, v), (10, .slice p10 S.length c10)]) ⟨rfl, rfl, trivial⟩
  generalize hJ : jobsM23 1 y = J at *
  obtain ⟨o, cap0, a0, vs0, hvo, hpo, hcap, hs0, hv0⟩ : ∃ (o : Option Addr) (cap0 : Nat) (a0 : Addr) (vs0 : List Value), v = .slice o J.length cap0 /\ (o = some a0 \/ (J.length = 0 /\ o = none /\ cap0 = 0)) /\ J.length <= cap0 /\ Sealed mR a0 vs0 /\ VRs [] (nest mR) (zYy (e42 true) J) vs0 := by
    simp only [VR] at hv
    rcases hv with ⟨hl, hv⟩ | ⟨p, cp, vs, hle, hv, h3, h4⟩
    . have : J = [] := List.eq_nil_of_length_eq_zero hl
      subst this
      exact ⟨none, 0, ⟨0, 0, none⟩, [], hv, .inr ⟨rfl, rfl, rfl⟩, Nat.le_refl _, Sealed.nil, VRs.nil⟩
    . exact ⟨some p, cp, p, vs, hv, .inl rfl, hle, h3, h4⟩
  subst hvo
  have rd := jb_read J vs0 a0 hs0 hv0
  have hJ12 : J.length <= 12 := hmj.1
  -- the two loops
  have core : ∀ (a : Act) (w1 : World), XR w.heap.size X D w0 mA r m 322 keep h [(12, .slice o J.length cap0), (10, .slice p10 S.length c10)] mR a w1 →
      (headC (tlC (tlC (tlC (tlC (tlC (bodyOf Try.f6))))))).wpIn (FW ro) n Try.prog (fun e a w2 => e = .normal /\ ∃ mC, Chg S.length mR mC /\ DoneO mR a0 J.length S.length J.length 0 mC /\ XR w.heap.size X D w0 mA r m 322 keep h [(12, .slice o J.length cap0)] mC a w2) a w1 := by
    intro a w1 hx
    refine wpIn_seq (wpIn_region_list ?_)
    refine x_assign hx rfl (ka _ (by simp)) rfl fun a hx => wpListIn_nil ?_
    refine wpIn_block (wpIn_loop (fun a w2 => ∃ (i : Nat) (mC : Mem), i <= J.length /\ Chg S.length mR mC /\ DoneO mR a0 J.length S.length i 0 mC /\ XR w.heap.size X D w0 mA r m 322 keep h [(13, .int .i64 (i : Int)), (12, .slice o J.length cap0), (10, .slice p10 S.length c10)] mC a w2)
      (fun a _ => J.length - valN (a.tmps.getD 13 undef)) ⟨0, mR, Nat.zero_le _, Chg.refl _ _, fun i' q len cap k' _ _ _ hlt => by omega, hx.sub ⟨rfl, rfl, rfl, trivial⟩⟩ ?_)
    rintro a w2 ⟨i, mC, hi, hch, hdn, hx⟩
    have e13 : a.tmps.getD 13 undef = .int .i64 (i : Int) := hx.reg 13 _ rfl
    refine wpIn_seq (wpIn_seq (wpIn_region_list ?_))
    refine x_move hx rfl (ka _ (by simp)) rfl fun a hx => ?_
    refine x_move hx rfl (ka _ (by simp)) rfl fun a hx => ?_
    refine x_len hx hT tt26 rfl (ka _ (by simp)) rfl fun a hx => ?_
    refine x_lss hx hT rfl rfl (ka _ (by simp)) rfl fun a hx => wpListIn_nil ?_
    refine wpIn_cond_split (t := decide ((i : Int) < (J.length : Int))) (hx.ev rfl) (fun ht => wpIn_skip ?_) (fun hff => wpIn_exit ?_)
    rotate_left
    . have hff := of_decide_eq_false hff
      have e : i = J.length := by omega
      subst e
      exact ⟨rfl, mC, hch, hdn, hx.sub ⟨rfl, trivial⟩⟩
    have ht := of_decide_eq_true ht
    have hi' : i < J.length := by omega
    have hoa : o = some a0 := hpo.resolve_right fun h => by omega
    obtain ⟨oq, len, cq, rq, rk, j, hj, hjl⟩ := rd i hi'
    have hl3 : len <= 3 := by have := (hmj.2 j hj).1.2.2; omega
    refine wpIn_seq (wpIn_block (wpIn_seq (wpIn_region_list ?_)))
    refine x_assign hx rfl (ka _ (by simp)) rfl fun a hx => wpListIn_nil ?_
    refine wpIn_block (wpIn_loop (fun a w2 => ∃ (k : Nat) (mC : Mem), k <= len /\ Chg S.length mR mC /\ DoneO mR a0 J.length S.length i k mC /\ XR w.heap.size X D w0 mA r m 322 keep h [(14, .int .i64 (k : Int)), (13, .int .i64 (i : Int)), (12, .slice o J.length cap0), (10, .slice p10 S.length c10)] mC a w2)
      (fun a _ => len - valN (a.tmps.getD 14 undef)) ⟨0, mC, Nat.zero_le _, hch, hdn, hx.sub ⟨rfl, rfl, rfl, rfl, trivial⟩⟩ ?_)
    rintro a w2 ⟨k, mC, hk, hch, hdn, hx⟩
    have e14 : a.tmps.getD 14 undef = .int .i64 (k : Int) := hx.reg 14 _ rfl
    have hld : mC ((a0.add ((i : Int).toNat * 2)).add 1) = some (.slice oq len cq) := by
      rw [add_add', Int.toNat_natCast, Nat.mul_comm]; exact hch.sl rq
    refine wpIn_seq (wpIn_seq (wpIn_region_list ?_))
    refine x_move hx rfl (ka _ (by simp)) rfl fun a hx => ?_
    refine x_move hx rfl (ka _ (by simp)) rfl fun a hx => ?_
    refine x_move hx rfl (ka _ (by simp)) rfl fun a hx => ?_
    refine x_ia hx hT tt26 tt42 (p := a0) (by rw [<- hoa]; rfl) rfl ⟨by omega, ht⟩ (ka _ (by simp)) rfl fun a hx => ?_
    refine x_fa hx hT tt42 rfl tt40 (by decide) rfl (ka _ (by simp)) rfl fun a hx => ?_
    refine x_ld hx hT tt40 rfl rfl hld (ka _ (by simp)) rfl fun a hx => ?_
    refine x_len hx hT tt40 rfl (ka _ (by simp)) rfl fun a hx => ?_
    refine x_lss hx hT rfl rfl (ka _ (by simp)) rfl fun a hx => wpListIn_nil ?_
    refine wpIn_cond_split (t := decide ((k : Int) < (len : Int))) (hx.ev rfl) (fun hk1 => wpIn_skip ?_) (fun hff => wpIn_exit ?_)
    rotate_left
    . have hff := of_decide_eq_false hff
      have e : k = len := by omega
      subst e
      have hx := hx.sub (l' := [(13, .int .i64 (i : Int)), (12, .slice o J.length cap0), (10, .slice p10 S.length c10)]) ⟨rfl, rfl, rfl, trivial⟩
      have hdn' : DoneO mR a0 J.length S.length (i + 1) 0 mC := fun i' q len' cap k' h1 h2 h3 h4 => by
        refine hdn i' q len' cap k' h1 h2 h3 ?_
        by_cases e : i' = i
        . subst e
          rw [rq] at h2
          have : len' = k := by cases h2; rfl
          exact .inr ⟨rfl, by omega⟩
        . exact .inl (by omega)
      show Code.wpIn _ _ _ _ _ _ _
      refine wpIn_region_list ?_
      refine x_move hx rfl (ka _ (by simp)) rfl fun a hx => ?_
      refine x_add hx hT rfl rfl (by unfold inI; omega) (ka _ (by simp)) rfl fun a hx => ?_
      refine x_assign hx rfl (ka _ (by simp)) rfl fun a hx => wpListIn_nil ?_
      refine ⟨⟨i + 1, mC, by omega, hch, hdn', hx.sub ⟨rfl, rfl, rfl, trivial⟩⟩, ?_⟩
      have e1 : a.tmps.getD 13 undef = .int .i64 ((i : Int) + 1) := hx.reg 13 _ rfl
      rw [e1, e13]
      show J.length - ((i : Int) + 1).toNat < J.length - ((i : Int)).toNat
      omega
    have hk1 := of_decide_eq_true hk1
    have hk' : k < len := by omega
    obtain ⟨q, rfl, hst⟩ := rk (by omega)
    obtain ⟨s, hs⟩ := hst k hk'
    obtain ⟨s', hs', _⟩ := hch.int hs
    have hpq : (q.add ((k : Int).toNat * 2)).add 0 = q.add (2 * k) := by rw [add_add', Int.toNat_natCast, Nat.mul_comm, Nat.add_zero]
    refine wpIn_seq (wpIn_block (wpIn_region_list ?_))
    refine x_move hx rfl (ka _ (by simp)) rfl fun a hx => ?_
    refine x_move hx rfl (ka _ (by simp)) rfl fun a hx => ?_
    refine x_ia hx hT tt26 tt42 (p := a0) (by rw [<- hoa]; rfl) rfl ⟨by omega, ht⟩ (ka _ (by simp)) rfl fun a hx => ?_
    refine x_fa hx hT tt42 rfl tt40 (by decide) rfl (ka _ (by simp)) rfl fun a hx => ?_
    refine x_ld hx hT tt40 rfl rfl hld (ka _ (by simp)) rfl fun a hx => ?_
    refine x_move hx rfl (ka _ (by simp)) rfl fun a hx => ?_
    refine x_move hx rfl (ka _ (by simp)) rfl fun a hx => ?_
    refine x_len hx hT tt24 rfl (ka _ (by simp)) rfl fun a hx => ?_
    refine x_ia hx hT tt40 tt45 rfl rfl ⟨by omega, hk1⟩ (ka _ (by simp)) rfl fun a hx => ?_
    refine x_fa hx hT tt45 rfl tt3 (by decide) rfl (ka _ (by simp)) rfl fun a hx => ?_
    refine x_st hx hT tt3 rfl rfl rfl (by rw [hpq]; exact hs') fun w2 hx => wpListIn_nil ?_
    rw [hpq] at hx
    have hdn' : DoneO mR a0 J.length S.length i (k + 1) (fun p => if p = q.add (2 * k) then some (.int .i64 (S.length : Int)) else mC p) := fun i' q' len' cap k' h1 h2 h3 h4 => by
      by_cases ep : q'.add (2 * k') = q.add (2 * k)
      . exact if_pos ep
      . show (if q'.add (2 * k') = q.add (2 * k) then some (Value.int .i64 (S.length : Int)) else mC (q'.add (2 * k'))) = _
        rw [if_neg ep]
        refine hdn i' q' len' cap k' h1 h2 h3 ?_
        rcases h4 with h4 | ⟨h4, h5⟩
        . exact .inl h4
        . subst h4
          refine .inr ⟨rfl, ?_⟩
          rw [rq] at h2
          cases h2
          by_cases e : k' = k
          . subst e; exact absurd rfl ep
          . omega
    show Code.wpIn _ _ _ _ _ _ _
    refine wpIn_region_list ?_
    refine x_move hx rfl (ka _ (by simp)) rfl fun a hx => ?_
    refine x_add hx hT rfl rfl (by unfold inI; omega) (ka _ (by simp)) rfl fun a hx => ?_
    refine x_assign hx rfl (ka _ (by simp)) rfl fun a hx => wpListIn_nil ?_
    refine ⟨⟨k + 1, _, by omega, hch.store hs, hdn', hx.sub ⟨rfl, rfl, rfl, rfl, trivial⟩⟩, ?_⟩
    have e1 : a.tmps.getD 14 undef = .int .i64 ((k : Int) + 1) := hx.reg 14 _ rfl
    rw [e1, e14]
    show len - ((k : Int) + 1).toNat < len - ((k : Int)).toNat
    omega
  refine wpIn_seq (wpIn_mono (core a w' hx) fun e a w2 he => ?_)
  obtain ⟨rfl, mC, hch, hdn, hx⟩ := he
  obtain ⟨js, vs', g1, g2, g3, g4, g5⟩ := jb_chg hch (fun n => 0 <= n /\ n <= 39) (fun n => 0 <= n /\ n <= 12) (by omega) (by omega) 3 J vs0 a0 hs0 hv0 (fun j hj => ⟨⟨(hmj.2 j hj).1.1, (hmj.2 j hj).1.2.1⟩, (hmj.2 j hj).1.2.2, fun x hx => ((hmj.2 j hj).2 x hx).2⟩)
    fun i q len cap k hi hq hk => hdn i q len cap k hi hq hk (.inl hi)
  have hR' := hx.R0
  obtain ⟨m', hle, hle', hR2⟩ := hR'.learn (mR := mC) (fl := true) (fun p u hu => ⟨(hx.mem p u hu).1, (hx.mem p u hu).2.1⟩) (fun p u hu => .inl ⟨Nat.le_trans hx.le (hx.mem p u hu).2.2.1, fun i o b c ho hl hr => by
    have := hx.obl i o b c ho hl hr
    have := (hx.mem p u hu).2.2.1
    omega⟩) (fun h => by cases h)
  have e12 : a.tmps.getD 12 undef = .slice o J.length cap0 := hx.reg 12 _ rfl
  have htm : ∀ t, VR r m' (look ((12, .lst true js.length (zYy (e42 true) js)) :: keep) t) (a.tmps.getD t undef) := fun t => by
    rw [look_cons]
    by_cases e : t = 12
    . subst e
      rw [if_pos rfl, e12]
      refine VR.mono (RLe.nil r) hle' _ _ ?_
      simp only [VR]
      rcases hpo with rfl | ⟨h0, rfl, rfl⟩
      . exact .inr ⟨a0, cap0, vs', by omega, by rw [g1], g3, g4⟩
      . exact .inl ⟨by omega, by rw [h0]⟩
    . rw [if_neg e]; exact hR2.tmps t
  have hR3 : R X D w0 mA r m' ⟨322, look ((12, .lst true js.length (zYy (e42 true) js)) :: keep), h, 0⟩ a w2 := { hR2 with tmps := htm }
  refine wpIn_mono (k js ⟨g1, fun j hj => ⟨(g5 j hj).1, (g5 j hj).2.1, fun x hx => ⟨((g5 j hj).2.2 x hx).1, ((g5 j hj).2.2 x hx).2⟩⟩⟩ hT hf ro (fun h => hb (hro h)) n X D w0 mA r m' a w2 hR3) fun _ _ _ => relQ_weak hb
end Go.Lat
