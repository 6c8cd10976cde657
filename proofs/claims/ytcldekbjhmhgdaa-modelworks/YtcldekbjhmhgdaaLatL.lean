/- The law latecomerlaw23.ModelWorks returns true for every input, and each argument reads afterwards as it read before. Part 12 of 14. No condition. -/
import Derived.Test.YtcldekbjhmhgdaaLatE
import Derived.Test.YtcldekbjhmhgdaaLatF
import Derived.Test.YtcldekbjhmhgdaaLatD
set_option linter.unusedVariables false
set_option linter.unusedSimpArgs false
set_option linter.unnecessarySimpa false
set_option maxRecDepth 100000
set_option maxHeartbeats 4000000
namespace Go.Lat
open Go.RowKit Go.Proofs
attribute [local irreducible] seqL opC
def vc_pick35 (c : Int) (n : Int) (Post : Int -> Prop) : Prop :=
  ∃ J1 : Int -> Prop, (∀ (v0 : Int), J1 v0 -> (n ≠ 0) /\ Post (v0.tmod n)) /\ (((c < (0 : Int)) -> (inI (c + (1 : Int))) /\ (inI (-(c + (1 : Int)))) /\ J1 (-(c + (1 : Int)))) /\ (¬ (c < (0 : Int)) -> J1 c))
theorem walk_pick35 {c : Int} {n : Int} {Post : Int -> Prop} (hv : vc_pick35 c n Post) : FnP Try.prog 35 [.int .i64 c, .int .i64 n] (fun x => ∃ q0, x = .int .i64 q0 /\ Post q0) := by
 refine FnP.of_walk (T := tt) (nt := 13) ttOk ttMix ⟨⟨Try.f35, Try.func35, rfl, rfl, rfl, rfl⟩⟩ (by simp) ?_
 unfold vc_pick35 at hv
 change W _ _ _ ⟨13, look [(0, .int .i64 c), (1, .int .i64 n)], [], 0⟩ _
 refine W.ty [(0, .int _ _), (1, .int _ _)] rfl (W.rL (aI rfl rfl (eL (W.ty [(0, .int _ _), (1, .int _ _)] rfl ?_))))
 obtain ⟨J1, hj, hv⟩ := hv
 refine W.mid1 (fun v0 => ⟨13, look [(0, .int .i64 v0), (1, .int .i64 n)], [], 0⟩) J1 ?_ ?_
 intro v0
 intro hv
 replace hv := hj v0 hv
 refine W.rL ?_
 iterate 2 refine mI rfl rfl ?_
 obtain ⟨s3, hv⟩ := hv
 refine cL rfl (o_rem rfl rfl s3 (aI rfl rfl (eL (W.ty [(4, .int _ _)] rfl (W.ret (rt (rt_t (v := .int _ _) rfl (rt_n (⟨_, zY _ _ _ _, (v0.tmod n), rfl, hv⟩)))))))))
 clear hj
 refine W.rL (mI rfl rfl (cL rfl (zYq rfl rfl (eL (W.ty [(0, .int _ _), (1, .int _ _), (6, .bool _)] rfl (W.cn rfl (fun hc => ?_) (fun hc => ?_)))))))
 have hv := hv.1 hc
 refine W.rL1 (mI rfl rfl ?_)
 obtain ⟨s4, hv⟩ := hv
 refine cL rfl (o_add rfl rfl s4 ?_)
 obtain ⟨s5, hv⟩ := hv
 refine cL rfl (o_neg rfl s5 (aI rfl rfl (eL (zZ (⟨(), (-(c + (1 : Int))), hv, St.to_mk (φ := []) rfl (rfl) (zT rfl rfl) trivial⟩)))))
 have hv := hv.2 hc
 refine W.skip (zZ (⟨(), c, hv, St.to_mk (φ := []) rfl (rfl) (zT rfl rfl) trivial⟩))
set_option maxHeartbeats 4000000 in
theorem vcp_pick35 (c : Int) (n : Int) (h0 : 1 <= n) (h1 : inI c) : vc_pick35 c n (fun q0 => q0 = (pickM c n)) := by
  unfold vc_pick35
  refine ⟨fun v => v = if c < 0 then -(c + 1) else c, fun v hv => ⟨by omega, by subst hv; rfl⟩, fun h => ⟨by unfold inI at *; omega, by unfold inI at *; omega, (if_pos h).symm⟩, fun h => (if_neg h).symm⟩
theorem spec_pick35 (c : Int) (n : Int) (h0 : 1 <= n) (h1 : inI c) : FnP Try.prog 35 [.int .i64 c, .int .i64 n] (fun xR => xR = .int .i64 (pickM c n)) :=
  (walk_pick35 (vcp_pick35 c n h0 h1)).mono (by rintro _ ⟨_, rfl, rfl⟩; rfl)
def vc_servers (n : Int) (Post : (List Int) -> Prop) : Prop :=
  ∃ (I1 : Int -> List Int -> Prop) (μ1 : Int -> List Int -> Nat), I1 (0 : Int) [] /\ ∀ (v4 : Int) (r0 : List Int), I1 v4 r0 -> (1 <= (3 : Int)) /\ (inI n) /\ (inI ((1 : Int) + (pickM n (3 : Int)))) /\ ((v4 < ((1 : Int) + (pickM n (3 : Int)))) -> (inI ((3 : Int) + v4)) /\ (((3 : Int) + v4) ≠ 0) /\ (inI (n.tdiv ((3 : Int) + v4))) /\ (1 <= (3 : Int)) /\ (inI (n.tdiv ((3 : Int) + v4))) /\ (inI ((1 : Int) + (pickM (n.tdiv ((3 : Int) + v4)) (3 : Int)))) /\ ((r0 ++ [((1 : Int) + (pickM (n.tdiv ((3 : Int) + v4)) (3 : Int)))]).length <= 1073741824) /\ (inI (v4 + (1 : Int))) /\ (I1 (v4 + (1 : Int)) (r0 ++ [((1 : Int) + (pickM (n.tdiv ((3 : Int) + v4)) (3 : Int)))]) /\ μ1 (v4 + (1 : Int)) (r0 ++ [((1 : Int) + (pickM (n.tdiv ((3 : Int) + v4)) (3 : Int)))]) < μ1 v4 r0)) /\ (¬ (v4 < ((1 : Int) + (pickM n (3 : Int)))) -> Post r0)
theorem walk_servers {n : Int} {Post : (List Int) -> Prop} (hv : vc_servers n Post) : FnP Try.prog 10 [.int .i64 n] (fun x => ∃ q0, x = .lst false q0.length (zYy zYx q0) /\ Post q0) := by
 refine FnP.of_walk (T := tt) (nt := 22) ttOk ttMix ⟨⟨Try.f10, Try.func10, rfl, rfl, rfl, rfl⟩⟩ (by simp) ?_
 unfold vc_servers at hv
 change W _ _ _ ⟨22, look [(0, .int .i64 n)], [], 0⟩ _
 refine W.ty [(0, .int _ _)] rfl (W.rL (cL rfl (zZq (v := .nilS) rfl (eL (W.ty [(0, .int _ _)] rfl (W.rL (cL rfl (zZq (v := .nilS) rfl (eL (W.ty [(0, .int _ _), (3, .nilS)] rfl (W.seq' (W.rL (aI rfl rfl (eL (W.ty [(0, .int _ _), (3, .nilS), (4, .int _ _)] rfl (W.block ?_))))))))))))))))
 obtain ⟨I1, μ1, hp, hv⟩ := hv
 refine W.loop2 (fun v4 r0 => ⟨22, look [(0, .int .i64 n), (3, .ref true 0 r0.length), (4, .int .i64 v4)], [.row 3 1 (zYy zYx r0)], 0⟩) I1 μ1 (0 : Int) [] (St.to_mk (φ := [none]) rfl (rfl) ⟨Ren.int _ _, Ren.nilR rfl rfl, Ren.int _ _, trivial⟩ ⟨rfl, trivial⟩) hp ?_
 clear hp
 intro v4 r0 hI
 replace hv := hv v4 r0 hI
 clear hI
 refine W.seq' (W.rL ?_)
 iterate 2 refine mI rfl rfl ?_
 obtain ⟨s109, s110, hv⟩ := hv
 refine cL rfl (zZu (k := 35) (fst := []) (caps := []) (ys := [.int _ _, .int _ _]) rfl rfl (spec_pick35 n (3 : Int) s109 s110) zk ?_)
 obtain ⟨s111, hv⟩ := hv
 refine cL rfl (o_add rfl rfl s111 (cL rfl (zYq rfl rfl (eL (W.ty [(0, .int _ _), (3, .ref _ _ _), (4, .int _ _), (9, .bool _)] rfl (W.cn rfl (fun hc => ?_) (fun hc => ?_)))))))
 have hv := hv.1 hc
 refine W.skip (zZ (W.ty [(0, .int _ _), (3, .ref _ _ _), (4, .int _ _)] rfl (W.seq' (W.block (W.rL1 (cL rfl (zZp (v := .ref _ _ _) rfl ?_)))))))
 iterate 2 refine mI rfl rfl ?_
 obtain ⟨s119, hv⟩ := hv
 refine cL rfl (o_add rfl rfl s119 ?_)
 obtain ⟨s120, s121, hv⟩ := hv
 refine cL rfl (o_quo rfl rfl s120 s121 ?_)
 obtain ⟨s122, s123, hv⟩ := hv
 refine cL rfl (zZu (k := 35) (fst := []) (caps := []) (ys := [.int _ _, .int _ _]) rfl rfl (spec_pick35 (n.tdiv ((3 : Int) + v4)) (3 : Int) s122 s123) zk ?_)
 obtain ⟨s124, hv⟩ := hv
 refine cL rfl (o_add rfl rfl s124 (cL rfl (o_bs1 (v := .int _ _) (q := 1) tt24 tt3 rfl rfl rfl rfl rfl rfl rfl rfl ?_)))
 obtain ⟨s125, hv⟩ := hv
 refine cL rfl (o_apR (p := 2) (q := (r0 ++ [((1 : Int) + (pickM (n.tdiv ((3 : Int) + v4)) (3 : Int)))]).length) tt24 tt3 rfl rfl (src_ref rfl rfl) rfl rfl (zYw (zZw.wd false) _) (Nat.le_trans (Nat.le_of_eq (@List.length_append _ (r0) ([((1 : Int) + (pickM (n.tdiv ((3 : Int) + v4)) (3 : Int)))])).symm) s125) rfl (@List.length_append _ (r0) ([((1 : Int) + (pickM (n.tdiv ((3 : Int) + v4)) (3 : Int)))])).symm (encL_app zYx r0 [((1 : Int) + (pickM (n.tdiv ((3 : Int) + v4)) (3 : Int)))]) (cL rfl (zZq (v := .ref _ _ _) rfl (eL (zYv (zZ (W.ty [(0, .int _ _), (3, .ref _ _ _), (4, .int _ _)] rfl (W.rL1 (mI rfl rfl ?_)))))))))
 obtain ⟨s126, hv⟩ := hv
 refine cL rfl (o_add rfl rfl s126 (aI rfl rfl (eL (zZ (⟨(), (v4 + (1 : Int)), (r0 ++ [((1 : Int) + (pickM (n.tdiv ((3 : Int) + v4)) (3 : Int)))]), hv, St.to_mk (φ := [some 2]) rfl (rfl) ⟨Ren.int _ _, Ren.ref rfl (fun h => rfl), Ren.int _ _, trivial⟩ ⟨zE zZw false (r0 ++ [((1 : Int) + (pickM (n.tdiv ((3 : Int) + v4)) (3 : Int)))]) rfl, trivial⟩⟩)))))
 have hv := hv.2 hc
 refine W.exit (zZt (zZt (zYs (zZ (W.ty [(3, .ref _ _ _)] rfl (W.rL (cL rfl (zZp (v := .ref _ _ _) rfl (cL rfl (zZq (v := .ref _ _ _) rfl (eL (W.ty [(2, .ref _ _ _)] rfl (W.ret (rt (rt_t (v := .ref _ _ _) rfl (rt_n (⟨_, rs_ref zZw 4 _ rfl rfl, r0, rfl, hv⟩)))))))))))))))))
set_option maxHeartbeats 4000000 in
theorem vcp_servers (n : Int) (h0 : inI n) : vc_servers n (fun q0 => q0 = (serversM n)) := by
  unfold vc_servers
  have hp := zXz (c := n) (n := 3) (by omega)
  refine ⟨fun v l => ∃ i : Nat, v = i /\ (i : Int) <= 1 + pickM n 3 /\ l = (List.range i).map fun i : Nat => 1 + pickM (n.tdiv (3 + i)) 3, fun v _ => (1 + pickM n 3).toNat - v.toNat, ⟨0, rfl, by omega, rfl⟩, ?_⟩
  rintro _ _ ⟨i, rfl, hi, rfl⟩
  refine ⟨by omega, h0, by unfold inI; omega, fun k1 => ?_, fun k1 => ?_⟩
  . have ht := inI_td (x := n) (k := 3 + i) (by omega) h0
    have hq := zXz (c := n.tdiv (3 + i)) (n := 3) (by omega)
    refine ⟨by unfold inI; omega, by omega, ht, by omega, ht, by unfold inI; omega, by simp; omega, by unfold inI; omega, ⟨i + 1, by omega, by omega, ?_⟩, by show (1 + pickM n 3).toNat - ((i : Int) + 1).toNat < (1 + pickM n 3).toNat - (i : Int).toNat; omega⟩
    rw [map_range_succ]
  . unfold serversM
    rw [show (1 + pickM n 3).toNat = i by omega]
theorem spec_servers (n : Int) (h0 : inI n) : FnP Try.prog 10 [.int .i64 n] (fun xR => xR = .lst false (serversM n).length (zYy zYx (serversM n))) :=
  (walk_servers (vcp_servers n h0)).mono (by rintro _ ⟨_, rfl, rfl⟩; rfl)
def vc_jobs (n : Int) (x : (List (Vector Int 4))) (Post : (List Job) -> Prop) : Prop :=
  ∃ (I1 : Int -> List Job -> Prop) (μ1 : Int -> List Job -> Nat), I1 (0 : Int) [] /\ ∀ (v6 : Int) (r0 : List Job), I1 v6 r0 -> (((v6 < (x.length : Int)) /\ (v6 < (12 : Int))) -> (0 <= v6 /\ v6 < (x.length : Int)) /\ (0 <= (0 : Int) /\ (0 : Int) < ((4 : Nat) : Int)) /\ (1 <= (40 : Int)) /\ (inI (vat (lat x v6) (0 : Int).toNat)) /\ ∃ (I2 : Int -> Int -> List Ld -> Prop) (μ2 : Int -> Int -> List Ld -> Nat), I2 (0 : Int) (pickM (vat (lat x v6) (0 : Int).toNat) (40 : Int)) [] /\ ∀ (v8 : Int) (b1ar : Int) (r2 : List Ld), I2 v8 b1ar r2 -> (0 <= v6 /\ v6 < (x.length : Int)) /\ (0 <= (1 : Int) /\ (1 : Int) < ((4 : Nat) : Int)) /\ (1 <= (4 : Int)) /\ (inI (vat (lat x v6) (1 : Int).toNat)) /\ ((v8 < (pickM (vat (lat x v6) (1 : Int).toNat) (4 : Int))) -> (0 <= v6 /\ v6 < (x.length : Int)) /\ (0 <= (2 : Int) /\ (2 : Int) < ((4 : Nat) : Int)) /\ (inI ((1 : Int) + v8)) /\ (((1 : Int) + v8) ≠ 0) /\ (inI ((vat (lat x v6) (2 : Int).toNat).tdiv ((1 : Int) + v8))) /\ (0 <= v6 /\ v6 < (x.length : Int)) /\ (0 <= (3 : Int) /\ (3 : Int) < ((4 : Nat) : Int)) /\ (inI ((3 : Int) * v8)) /\ (inI ((1 : Int) + ((3 : Int) * v8))) /\ (((1 : Int) + ((3 : Int) * v8)) ≠ 0) /\ (inI ((vat (lat x v6) (3 : Int).toNat).tdiv ((1 : Int) + ((3 : Int) * v8)))) /\ (1 <= n) /\ (inI ((vat (lat x v6) (2 : Int).toNat).tdiv ((1 : Int) + v8))) /\ (1 <= (13 : Int)) /\ (inI ((vat (lat x v6) (3 : Int).toNat).tdiv ((1 : Int) + ((3 : Int) * v8)))) /\ ((r2 ++ [(Ld.mk (pickM ((vat (lat x v6) (2 : Int).toNat).tdiv ((1 : Int) + v8)) n) (pickM ((vat (lat x v6) (3 : Int).toNat).tdiv ((1 : Int) + ((3 : Int) * v8))) (13 : Int)))]).length <= 1073741824) /\ (inI (v8 + (1 : Int))) /\ (I2 (v8 + (1 : Int)) b1ar (r2 ++ [(Ld.mk (pickM ((vat (lat x v6) (2 : Int).toNat).tdiv ((1 : Int) + v8)) n) (pickM ((vat (lat x v6) (3 : Int).toNat).tdiv ((1 : Int) + ((3 : Int) * v8))) (13 : Int)))]) /\ μ2 (v8 + (1 : Int)) b1ar (r2 ++ [(Ld.mk (pickM ((vat (lat x v6) (2 : Int).toNat).tdiv ((1 : Int) + v8)) n) (pickM ((vat (lat x v6) (3 : Int).toNat).tdiv ((1 : Int) + ((3 : Int) * v8))) (13 : Int)))]) < μ2 v8 b1ar r2)) /\ (¬ (v8 < (pickM (vat (lat x v6) (1 : Int).toNat) (4 : Int))) -> ((r0 ++ [(Job.mk b1ar r2)]).length <= 1073741824) /\ (inI (v6 + (1 : Int))) /\ (I1 (v6 + (1 : Int)) (r0 ++ [(Job.mk b1ar r2)]) /\ μ1 (v6 + (1 : Int)) (r0 ++ [(Job.mk b1ar r2)]) < μ1 v6 r0))) /\ (¬ ((v6 < (x.length : Int)) /\ (v6 < (12 : Int))) -> Post r0)
theorem walk_jobs {n : Int} {x : (List (Vector Int 4))} {Post : (List Job) -> Prop} (hv : vc_jobs n x Post) : FnP Try.prog 11 [.int .i64 n, .lst true x.length (zYy eV4 x)] (fun x => ∃ q0, x = .lst false q0.length (zYy (e42 true) q0) /\ Post q0) := by
 refine FnP.of_walk (T := tt) (nt := 67) ttOk ttMix ⟨⟨Try.f11, Try.func11, rfl, rfl, rfl, rfl⟩⟩ (by simp) ?_
 unfold vc_jobs at hv
 change W _ _ _ ⟨67, look [(0, .int .i64 n), (1, .lst true x.length (zYy eV4 x))], [], 0⟩ _
 refine W.ty [(0, .int _ _), (1, .lst _ _ _)] rfl (W.rL (cL rfl (zZq (v := .nilS) rfl (eL (W.ty [(0, .int _ _), (1, .lst _ _ _)] rfl (W.rL (cL rfl (zZq (v := .nilS) rfl (eL (W.ty [(0, .int _ _), (1, .lst _ _ _), (5, .nilS)] rfl (W.seq' (W.rL (aI rfl rfl (eL (W.ty [(0, .int _ _), (1, .lst _ _ _), (5, .nilS), (6, .int _ _)] rfl (W.block ?_))))))))))))))))
 obtain ⟨I1, μ1, hp, hv⟩ := hv
 refine W.loop2 (fun v6 r0 => ⟨67, look [(0, .int .i64 n), (1, .lst true x.length (zYy eV4 x)), (5, .ref true 0 r0.length), (6, .int .i64 v6)], [.row 42 2 (zYy (e42 false) r0)], 0⟩) I1 μ1 (0 : Int) [] (St.to_mk (φ := [none]) rfl (rfl) ⟨Ren.int _ _, Ren.lst _ _ _, Ren.nilR rfl rfl, Ren.int _ _, trivial⟩ ⟨rfl, trivial⟩) hp ?_
 clear hp
 intro v6 r0 hI
 replace hv := hv v6 r0 hI
 clear hI
 refine W.seq' (W.rLm ⟨67, look [(0, .int .i64 n), (1, .lst true x.length (zYy eV4 x)), (5, .ref true 0 r0.length), (6, .int .i64 v6), (16, .bool (decide ((v6 < (x.length : Int)) /\ (v6 < (12 : Int)))))], [.row 42 2 (zYy (e42 false) r0)], 0⟩ ?_ ?_)
 refine mI rfl rfl (mL rfl rfl (cL rfl (zXw (v := .lst _ _ _) tt22 rfl rfl (cL rfl (zYq rfl rfl (mB rfl rfl ?_))))))
 by_cases c1 : v6 < (x.length : Int)
 refine cLg rfl rfl (dT c1) (mI rfl rfl (cLg rfl rfl (dT c1) (cL rfl (zYq rfl rfl (cL rfl (zZv (v := .bool _) rfl (dT c1) rfl (eL (zYz ⟨rfl, rfl, rfl, rfl, (congrArg AV.bool (zXv c1 (rfl))).symm, trivial⟩ rfl))))))))
 iterate 2 refine cLs rfl rfl rfl (dF c1) ?_
 refine cL rfl (zZy (v := .bool _) rfl (dF c1) rfl (eL (zYz ⟨rfl, rfl, rfl, rfl, (congrArg AV.bool (dAndF c1)).symm, trivial⟩ rfl)))
 refine W.cn rfl (fun hc => ?_) (fun hc => ?_)
 have hv := hv.1 hc
 refine W.skip (zZ (W.ty [(0, .int _ _), (1, .lst _ _ _), (5, .ref _ _ _), (6, .int _ _)] rfl (W.seq' (W.block (W.rL (mL rfl rfl (mI rfl rfl ?_)))))))
 obtain ⟨s2763, hv⟩ := hv
 refine cL rfl (zYu tt22 tt73 rfl rfl (encV4.wd true) rfl s2763 ?_)
 intro rest2763
 obtain ⟨s2764, hv⟩ := hv
 refine cL rfl (o_iaPV tt73 tt3 rfl rfl s2764 ?_)
 intro rest2764
 refine cL rfl (zZx (v := .int _ _) tt3 rfl rfl ⟨_, rfl⟩ ?_)
 obtain ⟨s2765, s2766, hv⟩ := hv
 refine cL rfl (zZu (k := 35) (fst := []) (caps := []) (ys := [.int _ _, .int _ _]) rfl rfl (spec_pick35 (vat (lat x v6) (0 : Int).toNat) (40 : Int) s2765 s2766) zk (cL rfl (o_build (qs := [(0, .int _ _)]) (cs := [.int _ _, .nilS]) tt42 rfl rfl rfl (cL rfl (zXy (p := 1) tt42 rfl rfl (cLn (o_stB (v := .agg _) (vs := [.int _ _, .nilS]) (cs2 := [.int _ _, .nilS]) tt42 rfl rfl rfl rfl rfl (Nat.le_of_ble_eq_true rfl) rfl (eL (W.ty [(0, .int _ _), (1, .lst _ _ _), (5, .ref _ _ _), (6, .int _ _), (7, .ptr _ _)] rfl (W.seq' (W.rL (aI rfl rfl (eL (W.ty [(0, .int _ _), (1, .lst _ _ _), (5, .ref _ _ _), (6, .int _ _), (7, .ptr _ _), (8, .int _ _)] rfl (W.block ?_)))))))))))))))
 obtain ⟨I2, μ2, hp, hv⟩ := hv
 refine W.loop3 (fun v8 b1ar r2 => ⟨67, look [(0, .int .i64 n), (1, .lst true x.length (zYy eV4 x)), (5, .ref true 0 r0.length), (6, .int .i64 v6), (7, .ptr 1 0), (8, .int .i64 v8)], [.row 42 2 (zYy (e42 false) r0), .box 42 [.int .i64 b1ar, .ref true 2 r2.length], .row 45 2 (zYy e45 r2)], 0⟩) I2 μ2 (0 : Int) (pickM (vat (lat x v6) (0 : Int).toNat) (40 : Int)) [] (St.to_mk (φ := [some 0, some 1, none]) rfl (rfl) ⟨Ren.int _ _, Ren.lst _ _ _, Ren.ref rfl (fun h => rfl), Ren.int _ _, Ren.ptr rfl, Ren.int _ _, trivial⟩ ⟨zE enc42 false r0 rfl, .inr ⟨_, rfl, rfl, Rens.cons (Ren.int _ _) (Rens.cons (Ren.nilR rfl rfl) (Rens.nil))⟩, rfl, trivial⟩) hp ?_
 clear hp
 intro v8 b1ar r2 hI
 replace hv := hv v8 b1ar r2 hI
 clear hI
 refine W.seq' (W.rL (mI rfl rfl (mL rfl rfl (mI rfl rfl ?_))))
 obtain ⟨s2976, hv⟩ := hv
 refine cL rfl (zYu tt22 tt73 rfl rfl (encV4.wd true) rfl s2976 ?_)
 intro rest2976
 obtain ⟨s2977, hv⟩ := hv
 refine cL rfl (o_iaPV tt73 tt3 rfl rfl s2977 ?_)
 intro rest2977
 refine cL rfl (zZx (v := .int _ _) tt3 rfl rfl ⟨_, rfl⟩ ?_)
 obtain ⟨s2978, s2979, hv⟩ := hv
 refine cL rfl (zZu (k := 35) (fst := []) (caps := []) (ys := [.int _ _, .int _ _]) rfl rfl (spec_pick35 (vat (lat x v6) (1 : Int).toNat) (4 : Int) s2978 s2979) zk (cL rfl (zYq rfl rfl (eL (W.ty [(0, .int _ _), (1, .lst _ _ _), (5, .ref _ _ _), (6, .int _ _), (7, .ptr _ _), (8, .int _ _), (33, .bool _)] rfl (W.cn rfl (fun hc => ?_) (fun hc => ?_)))))))
 have hv := hv.1 hc
 refine W.skip (zZ (W.ty [(0, .int _ _), (1, .lst _ _ _), (5, .ref _ _ _), (6, .int _ _), (7, .ptr _ _), (8, .int _ _)] rfl (W.seq' (W.block (W.rP1 [0, 1, 2, 3, 4, 5, 6, 7, 8, 9, 10, 12, 13, 14, 15, 16, 17, 18, 19, 20, 11, 21, 22, 23, 24, 25, 26] (by decide +kernel) rfl (cL rfl (o_fa tt42 rfl tt40 rfl (cL rfl (zZx (v := .ref _ _ _) tt40 rfl rfl ⟨_, rfl⟩ (mL rfl rfl (mI rfl rfl ?_)))))))))))
 obtain ⟨s2996, hv⟩ := hv
 refine cL rfl (zYu tt22 tt73 rfl rfl (encV4.wd true) rfl s2996 ?_)
 intro rest2996
 obtain ⟨s2997, hv⟩ := hv
 refine cL rfl (o_iaPV tt73 tt3 rfl rfl s2997 ?_)
 intro rest2997
 refine cL rfl (zZx (v := .int _ _) tt3 rfl rfl ⟨_, rfl⟩ (mI rfl rfl ?_))
 obtain ⟨s2998, hv⟩ := hv
 refine cL rfl (o_add rfl rfl s2998 ?_)
 obtain ⟨s2999, s3000, hv⟩ := hv
 refine cL rfl (o_quo rfl rfl s2999 s3000 (mI rfl rfl (mL rfl rfl (mI rfl rfl ?_))))
 obtain ⟨s3001, hv⟩ := hv
 refine cL rfl (zYu tt22 tt73 rfl rfl (encV4.wd true) rfl s3001 ?_)
 intro rest3001
 obtain ⟨s3002, hv⟩ := hv
 refine cL rfl (o_iaPV tt73 tt3 rfl rfl s3002 ?_)
 intro rest3002
 refine cL rfl (zZx (v := .int _ _) tt3 rfl rfl ⟨_, rfl⟩ (mI rfl rfl ?_))
 obtain ⟨s3003, hv⟩ := hv
 refine cL rfl (o_mul rfl rfl s3003 ?_)
 obtain ⟨s3004, hv⟩ := hv
 refine cL rfl (o_add rfl rfl s3004 ?_)
 obtain ⟨s3005, s3006, hv⟩ := hv
 refine cL rfl (o_quo rfl rfl s3005 s3006 ?_)
 obtain ⟨s3007, s3008, hv⟩ := hv
 refine cL rfl (zZu (k := 35) (fst := []) (caps := []) (ys := [.int _ _, .int _ _]) rfl rfl (spec_pick35 ((vat (lat x v6) (2 : Int).toNat).tdiv ((1 : Int) + v8)) n s3007 s3008) zk ?_)
 obtain ⟨s3009, s3010, hv⟩ := hv
 refine cL rfl (zZu (k := 35) (fst := []) (caps := []) (ys := [.int _ _, .int _ _]) rfl rfl (spec_pick35 ((vat (lat x v6) (3 : Int).toNat).tdiv ((1 : Int) + ((3 : Int) * v8))) (13 : Int) s3009 s3010) zk (cL rfl (o_build (qs := [(0, .int _ _), (1, .int _ _)]) (cs := [.int _ _, .int _ _]) tt45 rfl rfl rfl (cL rfl (o_bs1 (v := .agg _) (q := 3) tt40 tt45 rfl rfl rfl rfl rfl rfl rfl rfl ?_)))))
 obtain ⟨s3011, hv⟩ := hv
 refine cL rfl (o_apR (p := 4) (q := (r2 ++ [(Ld.mk (pickM ((vat (lat x v6) (2 : Int).toNat).tdiv ((1 : Int) + v8)) n) (pickM ((vat (lat x v6) (3 : Int).toNat).tdiv ((1 : Int) + ((3 : Int) * v8))) (13 : Int)))]).length) tt40 tt45 rfl rfl (src_ref rfl rfl) rfl rfl (zYw (enc45.wd false) _) (Nat.le_trans (Nat.le_of_eq (@List.length_append _ (r2) ([(Ld.mk (pickM ((vat (lat x v6) (2 : Int).toNat).tdiv ((1 : Int) + v8)) n) (pickM ((vat (lat x v6) (3 : Int).toNat).tdiv ((1 : Int) + ((3 : Int) * v8))) (13 : Int)))])).symm) s3011) rfl (@List.length_append _ (r2) ([(Ld.mk (pickM ((vat (lat x v6) (2 : Int).toNat).tdiv ((1 : Int) + v8)) n) (pickM ((vat (lat x v6) (3 : Int).toNat).tdiv ((1 : Int) + ((3 : Int) * v8))) (13 : Int)))])).symm (encL_app e45 r2 [(Ld.mk (pickM ((vat (lat x v6) (2 : Int).toNat).tdiv ((1 : Int) + v8)) n) (pickM ((vat (lat x v6) (3 : Int).toNat).tdiv ((1 : Int) + ((3 : Int) * v8))) (13 : Int)))]) (cL rfl (o_fa tt42 rfl tt40 rfl (cLn (o_stB (v := .ref _ _ _) (vs := [.ref _ _ _]) (cs2 := [.int _ _, .ref _ _ _]) tt40 rfl rfl rfl rfl rfl (Nat.le_of_ble_eq_true rfl) rfl (eL (zYv (zZ (W.ty [(0, .int _ _), (1, .lst _ _ _), (5, .ref _ _ _), (6, .int _ _), (7, .ptr _ _), (8, .int _ _)] rfl (W.rL1 (mI rfl rfl ?_)))))))))))
 obtain ⟨s3012, hv⟩ := hv
 refine cL rfl (o_add rfl rfl s3012 (aI rfl rfl (eL (zZ (⟨(), (v8 + (1 : Int)), b1ar, (r2 ++ [(Ld.mk (pickM ((vat (lat x v6) (2 : Int).toNat).tdiv ((1 : Int) + v8)) n) (pickM ((vat (lat x v6) (3 : Int).toNat).tdiv ((1 : Int) + ((3 : Int) * v8))) (13 : Int)))]), hv, St.to_mk (φ := [some 0, some 1, some 4]) rfl (rfl) ⟨Ren.int _ _, Ren.lst _ _ _, Ren.ref rfl (fun h => rfl), Ren.int _ _, Ren.ptr rfl, Ren.int _ _, trivial⟩ ⟨zE enc42 false r0 rfl, .inr ⟨_, rfl, rfl, Rens.cons (Ren.int _ _) (Rens.cons (Ren.ref rfl (fun h => rfl)) (Rens.nil))⟩, zE enc45 false (r2 ++ [(Ld.mk (pickM ((vat (lat x v6) (2 : Int).toNat).tdiv ((1 : Int) + v8)) n) (pickM ((vat (lat x v6) (3 : Int).toNat).tdiv ((1 : Int) + ((3 : Int) * v8))) (13 : Int)))]) rfl, trivial⟩⟩)))))
 have hv := hv.2 hc
 refine W.exit (zZt (zZt (zYs (zZ (W.ty [(0, .int _ _), (1, .lst _ _ _), (5, .ref _ _ _), (6, .int _ _), (7, .ptr _ _)] rfl (W.sealB false 2 1 (bcs' := [.int .i64 b1ar, .lst false r2.length (zYy e45 r2)]) (l := [(0, .int .i64 n), (1, .lst true x.length (zYy eV4 x)), (5, .ref true 0 r0.length), (6, .int .i64 v6), (7, .ptr 1 0)]) rfl rfl (encL_sl enc45 false r2) ⟨.inl rfl, .inl rfl, .inl rfl, .inl rfl, .inl rfl, trivial⟩ ⟨.inl rfl, .inr ⟨_, _, rfl, (zYw (enc45.wd false) _), rfl⟩, trivial⟩ rfl (W.rL1g (cL rfl (zZp (v := .ref _ _ _) rfl (cL rfl (zYp (cs := [.int _ _, .lst _ _ _]) tt42 rfl rfl ⟨_, rfl⟩ rfl (cL rfl (o_bs1 (v := .agg _) (q := 3) tt26 tt42 rfl rfl rfl rfl rfl rfl rfl rfl ?_)))))))))))))
 obtain ⟨s3013, hv⟩ := hv
 refine cL rfl (o_apR (p := 4) (q := (r0 ++ [(Job.mk b1ar r2)]).length) tt26 tt42 rfl rfl (src_ref rfl rfl) rfl rfl (zYw (enc42.wd false) _) (Nat.le_trans (Nat.le_of_eq (@List.length_append _ (r0) ([(Job.mk b1ar r2)])).symm) s3013) rfl (@List.length_append _ (r0) ([(Job.mk b1ar r2)])).symm (encL_app (e42 false) r0 [(Job.mk b1ar r2)]) (cL rfl (zZq (v := .ref _ _ _) rfl (eL (go_nil (zYv (zZ (W.ty [(0, .int _ _), (1, .lst _ _ _), (5, .ref _ _ _), (6, .int _ _)] rfl (W.rL1 (mI rfl rfl ?_))))))))))
 obtain ⟨s3014, hv⟩ := hv
 refine cL rfl (o_add rfl rfl s3014 (aI rfl rfl (eL (zZ (⟨(), (v6 + (1 : Int)), (r0 ++ [(Job.mk b1ar r2)]), hv, St.to_mk (φ := [some 4]) rfl (rfl) ⟨Ren.int _ _, Ren.lst _ _ _, Ren.ref rfl (fun h => rfl), Ren.int _ _, trivial⟩ ⟨zE enc42 false (r0 ++ [(Job.mk b1ar r2)]) rfl, trivial⟩⟩)))))
 have hv := hv.2 hc
 refine W.exit (zZt (zZt (zYs (zZ (W.ty [(5, .ref _ _ _)] rfl (W.rL (cL rfl (zZp (v := .ref _ _ _) rfl (cL rfl (zZq (v := .ref _ _ _) rfl (eL (W.ty [(4, .ref _ _ _)] rfl (W.ret (rt (rt_t (v := .ref _ _ _) rfl (rt_n (⟨_, rs_ref enc42 4 _ rfl rfl, r0, rfl, hv⟩)))))))))))))))))
set_option maxHeartbeats 4000000 in
theorem vcp_jobs (n : Int) (x : (List (Vector Int 4))) (h0 : 1 <= n /\ n <= 1000000) (h1 : x.length <= 9223372036854775807) (h2 : ∀ y ∈ x, ∀ k, inI (vat y k)) : vc_jobs n x (fun q0 => q0 = (jobsM23 n x)) := by
  unfold vc_jobs
  simp only [show (0 : Int).toNat = 0 from rfl, show (1 : Int).toNat = 1 from rfl, show (2 : Int).toNat = 2 from rfl, show (3 : Int).toNat = 3 from rfl]
  refine ⟨fun v l => ∃ i : Nat, v = i /\ i <= x.length /\ i <= 12 /\ l = (x.take i).map (jobM23 n), fun v _ => 12 - v.toNat, ⟨0, rfl, by omega, by omega, rfl⟩, ?_⟩
  rintro _ _ ⟨i, rfl, hi, h12, rfl⟩
  refine ⟨fun k1 => ?_, fun k1 => ?_⟩
  . have hm := h2 _ (lat_mem (xs := x) (i := (i : Int)) ⟨by omega, by omega⟩)
    have p1 := zXz (c := vat (lat x (i : Int)) 1) (n := 4) (by omega)
    have ix : 0 <= (i : Int) /\ (i : Int) < (x.length : Int) := ⟨by omega, by omega⟩
    refine ⟨ix, ⟨by omega, by omega⟩, by omega, hm 0, fun v a l => ∃ k : Nat, v = k /\ (k : Int) <= pickM (vat (lat x (i : Int)) 1) 4 /\ a = pickM (vat (lat x (i : Int)) 0) 40 /\ l = (List.range k).map fun k : Nat => ⟨pickM ((vat (lat x (i : Int)) 2).tdiv (1 + k)) n, pickM ((vat (lat x (i : Int)) 3).tdiv (1 + 3 * k)) 13⟩, fun v _ _ => 4 - v.toNat, ⟨0, rfl, by omega, rfl, rfl⟩, ?_⟩
    rintro _ _ _ ⟨k, rfl, hk, rfl, rfl⟩
    refine ⟨ix, ⟨by omega, by omega⟩, by omega, hm 1, fun k2 => ?_, fun k2 => ?_⟩
    . have t2 := inI_td (x := vat (lat x (i : Int)) 2) (k := 1 + k) (by omega) (hm 2)
      have t3 := inI_td (x := vat (lat x (i : Int)) 3) (k := 1 + 3 * k) (by omega) (hm 3)
      refine ⟨ix, ⟨by omega, by omega⟩, by unfold inI; omega, by omega, t2, ix, ⟨by omega, by omega⟩, by unfold inI; omega, by unfold inI; omega, by omega, t3, by omega, t2, by omega, t3, by simp; omega, by unfold inI; omega, ⟨k + 1, by omega, by omega, rfl, ?_⟩, by show 4 - ((k : Int) + 1).toNat < 4 - (k : Int).toNat; omega⟩
      rw [map_range_succ]
    . have ej : Job.mk (pickM (vat (lat x (i : Int)) 0) 40) ((List.range k).map fun k : Nat => ⟨pickM ((vat (lat x (i : Int)) 2).tdiv (1 + k)) n, pickM ((vat (lat x (i : Int)) 3).tdiv (1 + 3 * k)) 13⟩) = jobM23 n (lat x (i : Int)) := by
        unfold jobM23
        rw [show (pickM (vat (lat x (i : Int)) 1) 4).toNat = k by omega]
      rw [ej]
      refine ⟨by simp; omega, by unfold inI; omega, ⟨i + 1, by omega, by omega, by omega, ?_⟩, by show 12 - ((i : Int) + 1).toNat < 12 - (i : Int).toNat; omega⟩
      rw [take_succ_lat (by omega), List.map_append]; rfl
  . unfold jobsM23
    rcases Nat.lt_or_ge i 12 with h | h
    . show _ = (x.take 12).map (jobM23 n)
      rw [List.take_of_length_le (l := x) (i := i) (by omega), List.take_of_length_le (l := x) (i := 12) (by omega)]
    . rw [show i = 12 by omega]
theorem spec_jobs (n : Int) (x : (List (Vector Int 4))) (h0 : 1 <= n /\ n <= 1000000) (h1 : x.length <= 9223372036854775807) (h2 : ∀ y ∈ x, ∀ k, inI (vat y k)) : FnP Try.prog 11 [.int .i64 n, .lst true x.length (zYy eV4 x)] (fun xR => xR = .lst false (jobsM23 n x).length (zYy (e42 true) (jobsM23 n x))) :=
  (walk_jobs (vcp_jobs n x h0 h1 h2)).mono (by rintro _ ⟨_, rfl, rfl⟩; rfl)
def vc_places (jobs : (List Job)) (l : (List (List Vis))) (Post : (List Plc) -> Bool -> Prop) : Prop :=
  ((¬ (l.length : Int) = (jobs.length : Int)) -> Post [] false) /\ (¬ (¬ (l.length : Int) = (jobs.length : Int)) -> ∃ (I1 : Int -> List Plc -> Prop) (μ1 : Int -> List Plc -> Nat), I1 (0 : Int) [] /\ ∀ (v7 : Int) (r0 : List Plc), I1 v7 r0 -> ((v7 < (jobs.length : Int)) -> (0 <= v7 /\ v7 < (l.length : Int)) /\ (0 <= v7 /\ v7 < (jobs.length : Int)) /\ ((¬ ((lat l v7).length : Int) = (((lat jobs v7).wk).length : Int)) -> Post [] false) /\ (¬ (¬ ((lat l v7).length : Int) = (((lat jobs v7).wk).length : Int)) -> ∃ (I2 : Int -> List Plc -> Prop) (μ2 : Int -> List Plc -> Nat), I2 (0 : Int) r0 /\ ∀ (v8 : Int) (r0_1 : List Plc), I2 v8 r0_1 -> (0 <= v7 /\ v7 < (l.length : Int)) /\ ((v8 < ((lat l v7).length : Int)) -> (0 <= v7 /\ v7 < (jobs.length : Int)) /\ (0 <= v8 /\ v8 < (((lat jobs v7).wk).length : Int)) /\ (0 <= v7 /\ v7 < (jobs.length : Int)) /\ (0 <= v8 /\ v8 < (((lat jobs v7).wk).length : Int)) /\ (0 <= v7 /\ v7 < (l.length : Int)) /\ (0 <= v8 /\ v8 < ((lat l v7).length : Int)) /\ ((r0_1 ++ [(Plc.mk v7 ((lat ((lat jobs v7).wk) v8).st) ((lat ((lat jobs v7).wk) v8).tm) (lat (lat l v7) v8))]).length <= 1073741824) /\ (inI (v8 + (1 : Int))) /\ (I2 (v8 + (1 : Int)) (r0_1 ++ [(Plc.mk v7 ((lat ((lat jobs v7).wk) v8).st) ((lat ((lat jobs v7).wk) v8).tm) (lat (lat l v7) v8))]) /\ μ2 (v8 + (1 : Int)) (r0_1 ++ [(Plc.mk v7 ((lat ((lat jobs v7).wk) v8).st) ((lat ((lat jobs v7).wk) v8).tm) (lat (lat l v7) v8))]) < μ2 v8 r0_1)) /\ (¬ (v8 < ((lat l v7).length : Int)) -> (inI (v7 + (1 : Int))) /\ (I1 (v7 + (1 : Int)) r0_1 /\ μ1 (v7 + (1 : Int)) r0_1 < μ1 v7 r0)))) /\ (¬ (v7 < (jobs.length : Int)) -> Post r0 true))
theorem walk_places {jobs : (List Job)} {l : (List (List Vis))} {Post : (List Plc) -> Bool -> Prop} (hv : vc_places jobs l Post) : FnP Try.prog 13 [.lst true jobs.length (zYy (e42 true) jobs), .lst true l.length (zYy (eSl e36 true) l)] (fun x => ∃ q0 q1, x = .tup [.lst false q0.length (zYy e38 q0), .bool q1] /\ Post q0 q1) := by
 refine FnP.of_walk (T := tt) (nt := 72) ttOk ttMix ⟨⟨Try.f13, Try.func13, rfl, rfl, rfl, rfl⟩⟩ (by simp) ?_
 unfold vc_places at hv
 change W _ _ _ ⟨72, look [(0, .lst true jobs.length (zYy (e42 true) jobs)), (1, .lst true l.length (zYy (eSl e36 true) l))], [], 0⟩ _
 refine W.ty [(0, .lst _ _ _), (1, .lst _ _ _)] rfl (W.rL (cL rfl (zZq (v := .nilS) rfl (aB rfl rfl (eL (W.ty [(0, .lst _ _ _), (1, .lst _ _ _)] rfl (W.seq' (W.rL (mL rfl rfl (cL rfl (zXw (v := .lst _ _ _) tt28 rfl rfl (mL rfl rfl (cL rfl (zXw (v := .lst _ _ _) tt26 rfl rfl (cL rfl (o_neI rfl rfl rfl (eL (W.ty [(0, .lst _ _ _), (1, .lst _ _ _), (13, .bool _)] rfl (W.cn rfl (fun hc => ?_) (fun hc => ?_))))))))))))))))))))
 have hv := hv.1 hc
 refine W.rL (cL rfl (zZq (v := .nilS) rfl (aB rfl rfl (eL (W.ty [(4, .nilS), (5, .bool _)] rfl (W.ret (zZr (rt (rt_t (v := .nilS) rfl (rt_t (v := .bool _) rfl (rt_n (⟨_, rs_tup 5 _ (Wks.cons (rs_nil _ _ _ _ rfl) (Wks.cons (zYr _ _ _) zk)), [], false, rfl, hv⟩))))))))))))
 have hv := hv.2 hc
 refine W.skip (zZ (W.ty [(0, .lst _ _ _), (1, .lst _ _ _)] rfl (W.rL (cL rfl (zZq (v := .nilS) rfl (eL (W.ty [(0, .lst _ _ _), (1, .lst _ _ _), (6, .nilS)] rfl (W.seq' (W.rL (aI rfl rfl (eL (W.ty [(0, .lst _ _ _), (1, .lst _ _ _), (6, .nilS), (7, .int _ _)] rfl (W.block ?_)))))))))))))
 obtain ⟨I1, μ1, hp, hv⟩ := hv
 refine W.loop2 (fun v7 r0 => ⟨72, look [(0, .lst true jobs.length (zYy (e42 true) jobs)), (1, .lst true l.length (zYy (eSl e36 true) l)), (6, .ref true 0 r0.length), (7, .int .i64 v7)], [.row 38 6 (zYy e38 r0)], 0⟩) I1 μ1 (0 : Int) [] (St.to_mk (φ := [none]) rfl (rfl) ⟨Ren.lst _ _ _, Ren.lst _ _ _, Ren.nilR rfl rfl, Ren.int _ _, trivial⟩ ⟨rfl, trivial⟩) hp ?_
 clear hp
 intro v7 r0 hI
 replace hv := hv v7 r0 hI
 clear hI
 refine W.seq' (W.rL (mI rfl rfl (mL rfl rfl (cL rfl (zXw (v := .lst _ _ _) tt26 rfl rfl (cL rfl (zYq rfl rfl (eL (W.ty [(0, .lst _ _ _), (1, .lst _ _ _), (6, .ref _ _ _), (7, .int _ _), (17, .bool _)] rfl (W.cn rfl (fun hc => ?_) (fun hc => ?_)))))))))))
 have hv := hv.1 hc
 refine W.skip (zZ (W.ty [(0, .lst _ _ _), (1, .lst _ _ _), (6, .ref _ _ _), (7, .int _ _)] rfl (W.seq' (W.block (W.seq' (W.rD [0, 1, 2, 3, 4, 5, 6, 7, 8, 9, 10, 11] (by decide +kernel) rfl (mL rfl rfl (mI rfl rfl ?_))))))))
 obtain ⟨s605, hv⟩ := hv
 refine cL rfl (zYu tt28 tt43 rfl rfl ((encSl e36).wd true) rfl s605 ?_)
 intro rest605
 refine cL rfl (zZx (v := .lst _ _ _) tt43 rfl rfl ⟨_, rfl⟩ (cL rfl (zXw (v := .lst _ _ _) tt43 rfl rfl (mL rfl rfl (mI rfl rfl ?_)))))
 obtain ⟨s606, hv⟩ := hv
 refine cL rfl (zYu tt26 tt42 rfl rfl (enc42.wd true) rfl s606 ?_)
 intro rest606
 refine cL rfl (o_faP tt42 rfl tt40 rfl (cL rfl (zZx (v := .lst _ _ _) tt40 rfl rfl ⟨_, rfl⟩ (cL rfl (zXw (v := .lst _ _ _) tt40 rfl rfl (cL rfl (o_neI rfl rfl rfl (eL (W.ty [(0, .lst _ _ _), (1, .lst _ _ _), (6, .ref _ _ _), (7, .int _ _), (31, .bool _)] rfl (W.cn rfl (fun hc => ?_) (fun hc => ?_)))))))))))
 have hv := hv.1 hc
 refine W.rL (cL rfl (zZq (v := .nilS) rfl (aB rfl rfl (eL (W.ty [(4, .nilS), (5, .bool _)] rfl (W.ret (zZr (zYt (zZr (zZr (zYt (zZr (rt (rt_t (v := .nilS) rfl (rt_t (v := .bool _) rfl (rt_n (⟨_, rs_tup 5 _ (Wks.cons (rs_nil _ _ _ _ rfl) (Wks.cons (zYr _ _ _) zk)), [], false, rfl, hv⟩)))))))))))))))))
 have hv := hv.2 hc
 refine W.skip (zZ (W.ty [(0, .lst _ _ _), (1, .lst _ _ _), (6, .ref _ _ _), (7, .int _ _)] rfl (W.rL (aI rfl rfl (eL (W.ty [(0, .lst _ _ _), (1, .lst _ _ _), (6, .ref _ _ _), (7, .int _ _), (8, .int _ _)] rfl (W.block ?_)))))))
 obtain ⟨I2, μ2, hp, hv⟩ := hv
 refine W.loop2 (fun v8 r0_1 => ⟨72, look [(0, .lst true jobs.length (zYy (e42 true) jobs)), (1, .lst true l.length (zYy (eSl e36 true) l)), (6, .ref true 0 r0_1.length), (7, .int .i64 v7), (8, .int .i64 v8)], [.row 38 6 (zYy e38 r0_1)], 0⟩) I2 μ2 (0 : Int) r0 (St.to_mk (φ := [some 0]) rfl (rfl) ⟨Ren.lst _ _ _, Ren.lst _ _ _, Ren.ref rfl (fun h => rfl), Ren.int _ _, Ren.int _ _, trivial⟩ ⟨zE enc38 false r0 rfl, trivial⟩) hp ?_
 clear hp
 intro v8 r0_1 hI
 replace hv := hv v8 r0_1 hI
 clear hI
 refine W.seq' (W.rL (mI rfl rfl (mL rfl rfl (mI rfl rfl ?_))))
 obtain ⟨s642, hv⟩ := hv
 refine cL rfl (zYu tt28 tt43 rfl rfl ((encSl e36).wd true) rfl s642 ?_)
 intro rest642
 refine cL rfl (zZx (v := .lst _ _ _) tt43 rfl rfl ⟨_, rfl⟩ (cL rfl (zXw (v := .lst _ _ _) tt43 rfl rfl (cL rfl (zYq rfl rfl (eL (W.ty [(0, .lst _ _ _), (1, .lst _ _ _), (6, .ref _ _ _), (7, .int _ _), (8, .int _ _), (38, .bool _)] rfl (W.cn rfl (fun hc => ?_) (fun hc => ?_)))))))))
 have hv := hv.1 hc
 refine W.skip (zZ (W.ty [(0, .lst _ _ _), (1, .lst _ _ _), (6, .ref _ _ _), (7, .int _ _), (8, .int _ _)] rfl (W.seq' (W.block (W.rD1 [0, 1, 2, 3, 4, 5, 6, 7, 8, 9, 10, 11, 12, 13, 14, 15, 16, 17, 18, 19, 20, 21, 22, 23, 24, 25, 26, 27, 28, 29, 30] (by decide +kernel) rfl (cL rfl (zZp (v := .ref _ _ _) rfl (mI rfl rfl (mL rfl rfl (mI rfl rfl ?_))))))))))
 obtain ⟨s650, hv⟩ := hv
 refine cL rfl (zYu tt26 tt42 rfl rfl (enc42.wd true) rfl s650 ?_)
 intro rest650
 refine cL rfl (o_faP tt42 rfl tt40 rfl (cL rfl (zZx (v := .lst _ _ _) tt40 rfl rfl ⟨_, rfl⟩ (mI rfl rfl ?_))))
 obtain ⟨s651, hv⟩ := hv
 refine cL rfl (zYu tt40 tt45 rfl rfl (enc45.wd true) rfl s651 ?_)
 intro rest651
 refine cL rfl (o_faP tt45 rfl tt3 rfl (cL rfl (zZx (v := .int _ _) tt3 rfl rfl ⟨_, rfl⟩ (mL rfl rfl (mI rfl rfl ?_)))))
 obtain ⟨s652, hv⟩ := hv
 refine cL rfl (zYu tt26 tt42 rfl rfl (enc42.wd true) rfl s652 ?_)
 intro rest652
 refine cL rfl (o_faP tt42 rfl tt40 rfl (cL rfl (zZx (v := .lst _ _ _) tt40 rfl rfl ⟨_, rfl⟩ (mI rfl rfl ?_))))
 obtain ⟨s653, hv⟩ := hv
 refine cL rfl (zYu tt40 tt45 rfl rfl (enc45.wd true) rfl s653 ?_)
 intro rest653
 refine cL rfl (o_faP tt45 rfl tt3 rfl (cL rfl (zZx (v := .int _ _) tt3 rfl rfl ⟨_, rfl⟩ (mL rfl rfl (mI rfl rfl ?_)))))
 obtain ⟨s654, hv⟩ := hv
 refine cL rfl (zYu tt28 tt43 rfl rfl ((encSl e36).wd true) rfl s654 ?_)
 intro rest654
 refine cL rfl (zZx (v := .lst _ _ _) tt43 rfl rfl ⟨_, rfl⟩ (mI rfl rfl ?_))
 obtain ⟨s655, hv⟩ := hv
 refine cL rfl (zYu tt43 tt36 rfl rfl (enc36.wd true) rfl s655 ?_)
 intro rest655
 refine cL rfl (zYp (cs := [.int _ _, .int _ _, .int _ _]) tt36 rfl rfl ⟨_, rfl⟩ rfl (cL rfl (o_build (qs := [(0, .int _ _), (1, .int _ _), (2, .int _ _), (3, .agg _)]) (cs := [.int _ _, .int _ _, .int _ _, .int _ _, .int _ _, .int _ _]) tt38 rfl rfl rfl (cL rfl (o_bs1 (v := .agg _) (q := 1) tt32 tt38 rfl rfl rfl rfl rfl rfl rfl rfl ?_)))))
 obtain ⟨s656, hv⟩ := hv
 refine cL rfl (o_apR (p := 2) (q := (r0_1 ++ [(Plc.mk v7 ((lat ((lat jobs v7).wk) v8).st) ((lat ((lat jobs v7).wk) v8).tm) (lat (lat l v7) v8))]).length) tt32 tt38 rfl rfl (src_ref rfl rfl) rfl rfl (zYw (enc38.wd false) _) (Nat.le_trans (Nat.le_of_eq (@List.length_append _ (r0_1) ([(Plc.mk v7 ((lat ((lat jobs v7).wk) v8).st) ((lat ((lat jobs v7).wk) v8).tm) (lat (lat l v7) v8))])).symm) s656) rfl (@List.length_append _ (r0_1) ([(Plc.mk v7 ((lat ((lat jobs v7).wk) v8).st) ((lat ((lat jobs v7).wk) v8).tm) (lat (lat l v7) v8))])).symm (encL_app e38 r0_1 [(Plc.mk v7 ((lat ((lat jobs v7).wk) v8).st) ((lat ((lat jobs v7).wk) v8).tm) (lat (lat l v7) v8))]) (cL rfl (zZq (v := .ref _ _ _) rfl (eL (zYv (zZ (W.ty [(0, .lst _ _ _), (1, .lst _ _ _), (6, .ref _ _ _), (7, .int _ _), (8, .int _ _)] rfl (W.rL1 (mI rfl rfl ?_)))))))))
 obtain ⟨s657, hv⟩ := hv
 refine cL rfl (o_add rfl rfl s657 (aI rfl rfl (eL (zZ (⟨(), (v8 + (1 : Int)), (r0_1 ++ [(Plc.mk v7 ((lat ((lat jobs v7).wk) v8).st) ((lat ((lat jobs v7).wk) v8).tm) (lat (lat l v7) v8))]), hv, St.to_mk (φ := [some 2]) rfl (rfl) ⟨Ren.lst _ _ _, Ren.lst _ _ _, Ren.ref rfl (fun h => rfl), Ren.int _ _, Ren.int _ _, trivial⟩ ⟨zE enc38 false (r0_1 ++ [(Plc.mk v7 ((lat ((lat jobs v7).wk) v8).st) ((lat ((lat jobs v7).wk) v8).tm) (lat (lat l v7) v8))]) rfl, trivial⟩⟩)))))
 have hv := hv.2 hc
 refine W.exit (zZt (zZt (zYs (zYv (zZ (W.ty [(0, .lst _ _ _), (1, .lst _ _ _), (6, .ref _ _ _), (7, .int _ _)] rfl (W.rL1 (mI rfl rfl ?_))))))))
 obtain ⟨s658, hv⟩ := hv
 refine cL rfl (o_add rfl rfl s658 (aI rfl rfl (eL (zZ (⟨(), (v7 + (1 : Int)), r0_1, hv, St.to_mk (φ := [some 0]) rfl (rfl) ⟨Ren.lst _ _ _, Ren.lst _ _ _, Ren.ref rfl (fun h => rfl), Ren.int _ _, trivial⟩ ⟨zE enc38 false r0_1 rfl, trivial⟩⟩)))))
 have hv := hv.2 hc
 refine W.exit (zZt (zZt (zYs (zZ (W.ty [(6, .ref _ _ _)] rfl (W.rL (cL rfl (zZp (v := .ref _ _ _) rfl (cL rfl (zZq (v := .ref _ _ _) rfl (aB rfl rfl (eL (W.ty [(4, .ref _ _ _), (5, .bool _)] rfl (W.ret (rt (rt_t (v := .ref _ _ _) rfl (rt_t (v := .bool _) rfl (rt_n (⟨_, rs_tup 5 _ (Wks.cons (rs_ref enc38 3 _ rfl rfl) (Wks.cons (zYr _ _ _) zk)), r0, true, rfl, hv⟩)))))))))))))))))))
set_option maxHeartbeats 4000000 in
theorem vcp_places (jobs : (List Job)) (l : (List (List Vis))) (h0 : jobs.length <= 24) (h1 : ∀ j ∈ jobs, j.wk.length <= 6) : vc_places jobs l (fun q0 q1 => q0 = (placesM jobs l).1 /\ q1 = (placesM jobs l).2) := by
  unfold vc_places
  refine ⟨fun k => ?_, fun k => ?_⟩
  . unfold placesM
    rw [if_neg (fun h => k (by omega))]
    exact ⟨rfl, rfl⟩
  have hl : l.length = jobs.length := by have := Decidable.not_not.1 k; omega
  refine ⟨fun v r => ∃ i : Nat, v = i /\ i <= jobs.length /\ (∀ a : Nat, a < i -> (lat l (a : Int)).length = (lat jobs (a : Int)).wk.length) /\ r = placesA jobs l i, fun v _ => jobs.length - v.toNat, ⟨0, rfl, by omega, fun a ha => by omega, rfl⟩, ?_⟩
  rintro _ _ ⟨i, rfl, hi, hx, rfl⟩
  refine ⟨fun k1 => ⟨⟨by omega, by omega⟩, ⟨by omega, k1⟩, fun k2 => ?_, fun k2 => ?_⟩, fun k1 => ?_⟩
  . unfold placesM
    rw [if_neg]
    . exact ⟨rfl, rfl⟩
    . rintro ⟨_, h⟩
      rw [List.all_eq_true] at h
      have := of_decide_eq_true (h i (List.mem_range.2 (by omega)))
      exact k2 (by omega)
  . have hw : (lat l (i : Int)).length = (lat jobs (i : Int)).wk.length := by omega
    have h6 := h1 _ (lat_mem (xs := jobs) (i := (i : Int)) ⟨by omega, k1⟩)
    have hpl := placesA_le (jobs := jobs) (l := l) (i := i) fun a ha => by rw [hx a ha]; exact h1 _ (lat_mem (xs := jobs) (i := (a : Int)) ⟨by omega, by omega⟩)
    refine ⟨fun v r => ∃ q : Nat, v = q /\ q <= (lat l (i : Int)).length /\ r = placesA jobs l i ++ (placeJ jobs l i).take q, fun v _ => (lat l (i : Int)).length - v.toNat, ⟨0, rfl, by omega, by simp⟩, ?_⟩
    rintro _ _ ⟨q, rfl, hq, rfl⟩
    have hpj : (placeJ jobs l i).length = (lat l (i : Int)).length := by simp [placeJ]
    refine ⟨⟨by omega, by omega⟩, fun k3 => ?_, fun k3 => ?_⟩
    . have hq' : q < (placeJ jobs l i).length := by omega
      have et : (placeJ jobs l i).take (q + 1) = (placeJ jobs l i).take q ++ [⟨i, (lat (lat jobs (i : Int)).wk (q : Int)).st, (lat (lat jobs (i : Int)).wk (q : Int)).tm, lat (lat l (i : Int)) (q : Int)⟩] := by
        rw [List.take_add_one, List.getElem?_eq_getElem hq']
        simp [placeJ]
      refine ⟨⟨by omega, k1⟩, ⟨by omega, by omega⟩, ⟨by omega, k1⟩, ⟨by omega, by omega⟩, ⟨by omega, by omega⟩, ⟨by omega, by omega⟩, ?_, by unfold inI; omega, ⟨q + 1, by omega, by omega, by rw [et, List.append_assoc]⟩, dec_lt k3⟩
      rw [List.length_append, List.length_append, List.length_take]
      simp only [List.length_singleton]
      omega
    . refine ⟨by unfold inI; omega, ⟨i + 1, by omega, by omega, fun a ha => ?_, ?_⟩, dec_lt k1⟩
      . rcases Nat.lt_or_ge a i with h | h
        . exact hx a h
        . rw [show a = i by omega]; exact hw
      . rw [List.take_of_length_le (by omega), placesA_succ]
  . have ei : i = jobs.length := by omega
    subst ei
    unfold placesM
    rw [if_pos]
    . exact ⟨rfl, rfl⟩
    . refine ⟨hl, ?_⟩
      rw [List.all_eq_true]
      intro a ha
      exact decide_eq_true (hx a (List.mem_range.1 ha))
theorem spec_places (jobs : (List Job)) (l : (List (List Vis))) (h0 : jobs.length <= 24) (h1 : ∀ j ∈ jobs, j.wk.length <= 6) : FnP Try.prog 13 [.lst true jobs.length (zYy (e42 true) jobs), .lst true l.length (zYy (eSl e36 true) l)] (fun xR => xR = .tup [.lst false ((placesM jobs l).1).length (zYy e38 ((placesM jobs l).1)), .bool ((placesM jobs l).2)]) :=
  (walk_places (vcp_places jobs l h0 h1)).mono (by rintro _ ⟨_, _, rfl, rfl, rfl⟩; rfl)
end Go.Lat
