/- The law latecomerlaw24.ReplayMatchesReference returns true for every input, and each argument reads afterwards as it read before. Part 12 of 15. No condition. -/
import Derived.Test.YtbaillkjjlmehaaLatF
import Derived.Test.YtbaillkjjlmehaaLatD
import Derived.Test.YtbaillkjjlmehaaLatE
import Derived.Test.YtbaillkjjlmehaaLatK
set_option linter.unusedVariables false
set_option linter.unusedSimpArgs false
set_option linter.unnecessarySimpa false
set_option maxRecDepth 100000
set_option maxHeartbeats 4000000
namespace Go.Lat
open Go.RowKit Go.Proofs
attribute [local irreducible] seqL opC
def vc_made (c : Cas) (lone : Bool) (Post : Req -> Prop) : Prop :=
  (c.jobs.length <= 9223372036854775807) /\ (c.ex.length <= 9223372036854775807) /\ ((inI c.sv.x0 /\ inI c.sv.x1 /\ inI c.sv.x2) /\ inI c.late /\ inI c.obj) /\ ((∀ j ∈ c.jobs, ∀ k, inI (vat j k)) /\ ∀ e ∈ c.ex, inI e.x0 /\ inI e.x1 /\ inI e.x2) /\ Post (madeM c.sv c.jobs c.ex c.late c.obj lone)
theorem walk_made {c : Cas} {lone : Bool} {Post : Req -> Prop} (hv : vc_made c lone Post) : FnP Try.prog 12 [.agg ((e31 true) c), .bool lone] (fun x => ∃ q0, x = .agg ((e26 false) q0) /\ Post q0) := by
 refine FnP.of_walk (T := tt) (nt := 17) ttOk ttMix ⟨⟨Try.f12, Try.func12, rfl, rfl, rfl, rfl⟩⟩ (by simp) ?_
 unfold vc_made at hv
 change W _ _ _ ⟨17, look [(0, .agg [.int .i64 c.sv.x0, .int .i64 c.sv.x1, .int .i64 c.sv.x2, .lst true c.jobs.length (zYy eV6 c.jobs), .lst true c.ex.length (zYy e27 c.ex), .int .i64 c.late, .int .i64 c.obj]), (1, .bool lone)], [], 0⟩ _
 refine W.ty [(0, .agg _), (1, .bool _)] rfl (W.rL (cL rfl (o_box (v := .agg _) (p := 0) rfl rfl rfl (cL rfl (zXy (p := 1) tt26 rfl rfl (eL (W.ty [(1, .bool _), (2, .ptr _ _), (4, .ptr _ _)] rfl (W.rL (cL rfl (o_fa tt31 rfl tt27 rfl (cL rfl (zYp (cs := [.int _ _, .int _ _, .int _ _]) tt27 rfl rfl ⟨_, rfl⟩ rfl (cL rfl (o_fa tt31 rfl tt28 rfl (cL rfl (zZx (v := .lst _ _ _) tt28 rfl rfl ⟨_, rfl⟩ (cL rfl (o_fa tt31 rfl tt29 rfl (cL rfl (zZx (v := .lst _ _ _) tt29 rfl rfl ⟨_, rfl⟩ (cL rfl (o_fa tt31 rfl tt3 rfl (cL rfl (zZx (v := .int _ _) tt3 rfl rfl ⟨_, rfl⟩ (cL rfl (o_fa tt31 rfl tt3 rfl (cL rfl (zZx (v := .int _ _) tt3 rfl rfl ⟨_, rfl⟩ (mB rfl rfl ?_)))))))))))))))))))))))))))))
 obtain ⟨s1, s2, s3, s4, hv⟩ := hv
 refine cL rfl (zZu (k := 31) (fst := []) (caps := []) (ys := [.agg _, .lst _ _ _, .lst _ _ _, .int _ _, .int _ _, .bool _]) rfl rfl (spec_Made c.sv c.jobs c.ex c.late c.obj lone s1 s2 s3 s4) zk (cLn (o_stB (v := .agg _) (vs := [.lst _ _ _, .lst _ _ _, .int _ _, .int _ _, .int _ _, .lst _ _ _]) (cs2 := [.lst _ _ _, .lst _ _ _, .int _ _, .int _ _, .int _ _, .lst _ _ _]) tt26 rfl rfl rfl rfl rfl (Nat.le_of_ble_eq_true rfl) rfl (eL (W.ty [(4, .ptr _ _)] rfl (W.ret (rt (rt_c (x := .ptr _ _) rfl (ldA (cs := [.lst _ _ _, .lst _ _ _, .int _ _, .int _ _, .int _ _, .lst _ _ _]) tt26 rfl ⟨_, rfl⟩ rfl (rt_n (⟨_, rs_agg 5 _ (Wks.cons (rs_lst _ _ _ _) (Wks.cons (rs_lst _ _ _ _) (Wks.cons (zY _ _ _ _) (Wks.cons (zY _ _ _ _) (Wks.cons (zY _ _ _ _) (Wks.cons (rs_lst _ _ _ _) zk)))))), (madeM c.sv c.jobs c.ex c.late c.obj lone), rfl, hv⟩)))))))))))
set_option maxHeartbeats 4000000 in
theorem vcp_made (c : Cas) (lone : Bool) (h0 : CasOk c) : vc_made c lone (fun q0 => q0 = (madeC c lone)) := by
  exact ⟨h0.jl, h0.el, h0.i, h0.v, rfl⟩
theorem spec_made (c : Cas) (lone : Bool) (h0 : CasOk c) : FnP Try.prog 12 [.agg ((e31 true) c), .bool lone] (fun xR => xR = .agg ((e26 false) (madeC c lone))) :=
  (walk_made (vcp_made c lone h0)).mono (by rintro _ ⟨_, rfl, rfl⟩; rfl)
def vc_in39 (n : Int) (lo : Int) (hi : Int) (Post : Bool -> Prop) : Prop :=
  Post (decide ((lo <= n) /\ (n <= hi)))
theorem walk_in39 {n : Int} {lo : Int} {hi : Int} {Post : Bool -> Prop} (hv : vc_in39 n lo hi Post) : FnP Try.prog 39 [.int .i64 n, .int .i64 lo, .int .i64 hi] (fun x => ∃ q0, x = .bool q0 /\ Post q0) := by
 refine FnP.of_walk (T := tt) (nt := 15) ttOk ttMix ⟨⟨Try.f39, Try.func39, rfl, rfl, rfl, rfl⟩⟩ (by simp) ?_
 unfold vc_in39 at hv
 change W _ _ _ ⟨15, look [(0, .int .i64 n), (1, .int .i64 lo), (2, .int .i64 hi)], [], 0⟩ _
 refine W.ty [(0, .int _ _), (1, .int _ _), (2, .int _ _)] rfl (W.rL (aB rfl rfl (eL (W.ty [(0, .int _ _), (1, .int _ _), (2, .int _ _)] rfl (W.rLm ⟨15, look [(6, .bool (decide ((lo <= n) /\ (n <= hi))))], [], 0⟩ ?_ ?_)))))
 iterate 2 refine mI rfl rfl ?_
 refine cL rfl (o_geq rfl rfl (mB rfl rfl ?_))
 by_cases c1 : lo <= n
 refine cLg rfl rfl (dT c1) (mI rfl rfl (cLg rfl rfl (dT c1) (mI rfl rfl (cLg rfl rfl (dT c1) (cL rfl (o_leq rfl rfl (cL rfl (zZv (v := .bool _) rfl (dT c1) rfl (aB rfl rfl (eL (zYz ⟨(congrArg AV.bool (zXv c1 (rfl))).symm, trivial⟩ rfl)))))))))))
 iterate 3 refine cLs rfl rfl rfl (dF c1) ?_
 refine cL rfl (zZy (v := .bool _) rfl (dF c1) rfl (aB rfl rfl (eL (zYz ⟨(congrArg AV.bool (dAndF c1)).symm, trivial⟩ rfl))))
 refine W.ret (rt (rt_t (v := .bool _) rfl (rt_n (⟨_, zYr _ _ _, (decide ((lo <= n) /\ (n <= hi))), rfl, hv⟩))))
set_option maxHeartbeats 4000000 in
theorem vcp_in39 (n : Int) (lo : Int) (hi : Int)  : vc_in39 n lo hi (fun q0 => q0 = (inM n lo hi)) := by
  unfold vc_in39
  unfold inM
  rfl
theorem spec_in39 (n : Int) (lo : Int) (hi : Int)  : FnP Try.prog 39 [.int .i64 n, .int .i64 lo, .int .i64 hi] (fun xR => xR = .bool (inM n lo hi)) :=
  (walk_in39 (vcp_in39 n lo hi)).mono (by rintro _ ⟨_, rfl, rfl⟩; rfl)
def vc_in54 (n : Int) (lo : Int) (hi : Int) (Post : Bool -> Prop) : Prop :=
  Post (decide ((lo <= n) /\ (n <= hi)))
theorem walk_in54 {n : Int} {lo : Int} {hi : Int} {Post : Bool -> Prop} (hv : vc_in54 n lo hi Post) : FnP Try.prog 54 [.int .i64 n, .int .i64 lo, .int .i64 hi] (fun x => ∃ q0, x = .bool q0 /\ Post q0) := by
 refine FnP.of_walk (T := tt) (nt := 15) ttOk ttMix ⟨⟨Try.f54, Try.func54, rfl, rfl, rfl, rfl⟩⟩ (by simp) ?_
 unfold vc_in54 at hv
 change W _ _ _ ⟨15, look [(0, .int .i64 n), (1, .int .i64 lo), (2, .int .i64 hi)], [], 0⟩ _
 refine W.ty [(0, .int _ _), (1, .int _ _), (2, .int _ _)] rfl (W.rL (aB rfl rfl (eL (W.ty [(0, .int _ _), (1, .int _ _), (2, .int _ _)] rfl (W.rLm ⟨15, look [(6, .bool (decide ((lo <= n) /\ (n <= hi))))], [], 0⟩ ?_ ?_)))))
 iterate 2 refine mI rfl rfl ?_
 refine cL rfl (o_geq rfl rfl (mB rfl rfl ?_))
 by_cases c1 : lo <= n
 refine cLg rfl rfl (dT c1) (mI rfl rfl (cLg rfl rfl (dT c1) (mI rfl rfl (cLg rfl rfl (dT c1) (cL rfl (o_leq rfl rfl (cL rfl (zZv (v := .bool _) rfl (dT c1) rfl (aB rfl rfl (eL (zYz ⟨(congrArg AV.bool (zXv c1 (rfl))).symm, trivial⟩ rfl)))))))))))
 iterate 3 refine cLs rfl rfl rfl (dF c1) ?_
 refine cL rfl (zZy (v := .bool _) rfl (dF c1) rfl (aB rfl rfl (eL (zYz ⟨(congrArg AV.bool (dAndF c1)).symm, trivial⟩ rfl))))
 refine W.ret (rt (rt_t (v := .bool _) rfl (rt_n (⟨_, zYr _ _ _, (decide ((lo <= n) /\ (n <= hi))), rfl, hv⟩))))
set_option maxHeartbeats 4000000 in
theorem vcp_in54 (n : Int) (lo : Int) (hi : Int)  : vc_in54 n lo hi (fun q0 => q0 = (inM n lo hi)) := by
  unfold vc_in54
  unfold inM
  rfl
theorem spec_in54 (n : Int) (lo : Int) (hi : Int)  : FnP Try.prog 54 [.int .i64 n, .int .i64 lo, .int .i64 hi] (fun xR => xR = .bool (inM n lo hi)) :=
  (walk_in54 (vcp_in54 n lo hi)).mono (by rintro _ ⟨_, rfl, rfl⟩; rfl)
def vc_rmvalid (sv : (List Int)) (jobs : (List Job)) (Post : Bool -> Prop) : Prop :=
  (((¬ ((inM (sv.length : Int) (1 : Int) (6 : Int)) = true)) \/ ((24 : Int) < (jobs.length : Int))) -> Post false) /\ (¬ ((¬ ((inM (sv.length : Int) (1 : Int) (6 : Int)) = true)) \/ ((24 : Int) < (jobs.length : Int))) -> ∃ (I1 : Int -> Prop) (μ1 : Int -> Nat), I1 (0 : Int) /\ ∀ (v5 : Int), I1 v5 -> ((v5 < (sv.length : Int)) -> (0 <= v5 /\ v5 < (sv.length : Int)) /\ ((¬ ((inM (lat sv v5) (1 : Int) (4 : Int)) = true)) -> Post false) /\ (¬ (¬ ((inM (lat sv v5) (1 : Int) (4 : Int)) = true)) -> (inI (v5 + (1 : Int))) /\ (I1 (v5 + (1 : Int)) /\ μ1 (v5 + (1 : Int)) < μ1 v5))) /\ (¬ (v5 < (sv.length : Int)) -> ∃ (I2 : Int -> Prop) (μ2 : Int -> Nat), I2 (0 : Int) /\ ∀ (v6 : Int), I2 v6 -> ((v6 < (jobs.length : Int)) -> ((0 <= v6 /\ v6 < (jobs.length : Int)) /\ ((¬ ((inM ((lat jobs v6).ar) (0 : Int) (4398046511104 : Int)) = true)) -> True) /\ (¬ (¬ ((inM ((lat jobs v6).ar) (0 : Int) (4398046511104 : Int)) = true)) -> (0 <= v6 /\ v6 < (jobs.length : Int)) /\ True)) /\ ((((¬ ((inM ((lat jobs v6).ar) (0 : Int) (4398046511104 : Int)) = true)) \/ ((6 : Int) < (((lat jobs v6).wk).length : Int))) -> Post false) /\ (¬ ((¬ ((inM ((lat jobs v6).ar) (0 : Int) (4398046511104 : Int)) = true)) \/ ((6 : Int) < (((lat jobs v6).wk).length : Int))) -> ∃ (I3 : Int -> Prop) (μ3 : Int -> Nat), I3 (0 : Int) /\ ∀ (v7 : Int), I3 v7 -> (0 <= v6 /\ v6 < (jobs.length : Int)) /\ ((v7 < (((lat jobs v6).wk).length : Int)) -> ((0 <= v6 /\ v6 < (jobs.length : Int)) /\ (0 <= v7 /\ v7 < (((lat jobs v6).wk).length : Int)) /\ (inI ((sv.length : Int) - (1 : Int))) /\ ((¬ ((inM ((lat ((lat jobs v6).wk) v7).st) (0 : Int) ((sv.length : Int) - (1 : Int))) = true)) -> True) /\ (¬ (¬ ((inM ((lat ((lat jobs v6).wk) v7).st) (0 : Int) ((sv.length : Int) - (1 : Int))) = true)) -> (0 <= v6 /\ v6 < (jobs.length : Int)) /\ (0 <= v7 /\ v7 < (((lat jobs v6).wk).length : Int)) /\ True)) /\ ((((¬ ((inM ((lat ((lat jobs v6).wk) v7).st) (0 : Int) ((sv.length : Int) - (1 : Int))) = true)) \/ (¬ ((inM ((lat ((lat jobs v6).wk) v7).tm) (0 : Int) (1099511627776 : Int)) = true))) -> Post false) /\ (¬ ((¬ ((inM ((lat ((lat jobs v6).wk) v7).st) (0 : Int) ((sv.length : Int) - (1 : Int))) = true)) \/ (¬ ((inM ((lat ((lat jobs v6).wk) v7).tm) (0 : Int) (1099511627776 : Int)) = true))) -> (inI (v7 + (1 : Int))) /\ (I3 (v7 + (1 : Int)) /\ μ3 (v7 + (1 : Int)) < μ3 v7)))) /\ (¬ (v7 < (((lat jobs v6).wk).length : Int)) -> (inI (v6 + (1 : Int))) /\ (I2 (v6 + (1 : Int)) /\ μ2 (v6 + (1 : Int)) < μ2 v6))))) /\ (¬ (v6 < (jobs.length : Int)) -> Post true)))
theorem walk_rmvalid {sv : (List Int)} {jobs : (List Job)} {Post : Bool -> Prop} (hv : vc_rmvalid sv jobs Post) : FnP Try.prog 38 [.lst true sv.length (zYy zYx sv), .lst true jobs.length (zYy (e53 true) jobs)] (fun x => ∃ q0, x = .bool q0 /\ Post q0) := by
 refine FnP.of_walk (T := tt) (nt := 88) ttOk ttMix ⟨⟨Try.f38, Try.func38, rfl, rfl, rfl, rfl⟩⟩ (by simp) ?_
 unfold vc_rmvalid at hv
 change W _ _ _ ⟨88, look [(0, .lst true sv.length (zYy zYx sv)), (1, .lst true jobs.length (zYy (e53 true) jobs))], [], 0⟩ _
 refine W.ty [(0, .lst _ _ _), (1, .lst _ _ _)] rfl (W.rL (aB rfl rfl (eL (W.ty [(0, .lst _ _ _), (1, .lst _ _ _)] rfl (W.seq' (W.rLm ⟨88, look [(0, .lst true sv.length (zYy zYx sv)), (1, .lst true jobs.length (zYy (e53 true) jobs)), (16, .bool (decide ((¬ ((inM (sv.length : Int) (1 : Int) (6 : Int)) = true)) \/ ((24 : Int) < (jobs.length : Int)))))], [], 0⟩ ?_ ?_))))))
 refine mL rfl rfl (cL rfl (zXw (v := .lst _ _ _) tt22 rfl rfl (cL rfl (zZu (k := 54) (fst := []) (caps := []) (ys := [.int _ _, .int _ _, .int _ _]) rfl rfl (spec_in54 (sv.length : Int) (1 : Int) (6 : Int)) zk (cL rfl (o_notB rfl (mB rfl rfl ?_)))))))
 by_cases c1 : ¬ ((inM (sv.length : Int) (1 : Int) (6 : Int)) = true)
 iterate 3 refine cLs rfl rfl rfl (dT c1) ?_
 refine cL rfl (zZv (v := .bool _) rfl (dT c1) rfl (eL (zYz ⟨rfl, rfl, (congrArg AV.bool (dOrT c1)).symm, trivial⟩ rfl)))
 refine cLg rfl rfl (dF c1) (mL rfl rfl (cLg rfl rfl (dF c1) (cL rfl (zXw (v := .lst _ _ _) tt23 rfl rfl (cLg rfl rfl (dF c1) (cL rfl (o_gtr rfl rfl (cL rfl (zZy (v := .bool _) rfl (dF c1) rfl (eL (zYz ⟨rfl, rfl, (congrArg AV.bool (dOrF c1 (rfl))).symm, trivial⟩ rfl)))))))))))
 refine W.cn rfl (fun hc => ?_) (fun hc => ?_)
 have hv := hv.1 hc
 refine W.rL (aB rfl rfl (eL (W.ty [(4, .bool _)] rfl (W.ret (zZr (rt (rt_t (v := .bool _) rfl (rt_n (⟨_, zYr _ _ _, false, rfl, hv⟩)))))))))
 have hv := hv.2 hc
 refine W.skip (zZ (W.ty [(0, .lst _ _ _), (1, .lst _ _ _)] rfl (W.seq' (W.rL (aI rfl rfl (eL (W.ty [(0, .lst _ _ _), (1, .lst _ _ _), (5, .int _ _)] rfl (W.block ?_))))))))
 obtain ⟨I1, μ1, hp, hv⟩ := hv
 refine W.loop1 (fun v5 => ⟨88, look [(0, .lst true sv.length (zYy zYx sv)), (1, .lst true jobs.length (zYy (e53 true) jobs)), (5, .int .i64 v5)], [], 0⟩) I1 μ1 (0 : Int) (St.to_mk (φ := []) rfl (rfl) (zT rfl rfl) trivial) hp ?_
 clear hp
 intro v5 hI
 replace hv := hv v5 hI
 clear hI
 refine W.seq' (W.rL (mI rfl rfl (mL rfl rfl (cL rfl (zXw (v := .lst _ _ _) tt22 rfl rfl (cL rfl (zYq rfl rfl (eL (W.ty [(0, .lst _ _ _), (1, .lst _ _ _), (5, .int _ _), (20, .bool _)] rfl (W.cn rfl (fun hc => ?_) (fun hc => ?_)))))))))))
 have hv := hv.1 hc
 refine W.skip (zZ (W.ty [(0, .lst _ _ _), (1, .lst _ _ _), (5, .int _ _)] rfl (W.seq' (W.block (W.rL (mL rfl rfl (mI rfl rfl ?_)))))))
 obtain ⟨s11, hv⟩ := hv
 refine cL rfl (zYu tt22 tt3 rfl rfl (zZw.wd true) rfl s11 ?_)
 intro rest11
 refine cL rfl (zZx (v := .int _ _) tt3 rfl rfl ⟨_, rfl⟩ (cL rfl (zZu (k := 54) (fst := []) (caps := []) (ys := [.int _ _, .int _ _, .int _ _]) rfl rfl (spec_in54 (lat sv v5) (1 : Int) (4 : Int)) zk (cL rfl (o_notB rfl (eL (W.ty [(0, .lst _ _ _), (1, .lst _ _ _), (5, .int _ _), (28, .bool _)] rfl (W.cn rfl (fun hc => ?_) (fun hc => ?_)))))))))
 have hv := hv.1 hc
 refine W.rL (aB rfl rfl (eL (W.ty [(4, .bool _)] rfl (W.ret (zYt (zZr (zZr (zYt (zZr (rt (rt_t (v := .bool _) rfl (rt_n (⟨_, zYr _ _ _, false, rfl, hv⟩)))))))))))))
 have hv := hv.2 hc
 refine W.skip (zYv (zZ (W.ty [(0, .lst _ _ _), (1, .lst _ _ _), (5, .int _ _)] rfl (W.rL1 (mI rfl rfl ?_)))))
 obtain ⟨s12, hv⟩ := hv
 refine cL rfl (o_add rfl rfl s12 (aI rfl rfl (eL (zZ (⟨(), (v5 + (1 : Int)), hv, St.to_mk (φ := []) rfl (rfl) (zT rfl rfl) trivial⟩)))))
 have hv := hv.2 hc
 refine W.exit (zZt (zZt (zYs (zZ (W.ty [(0, .lst _ _ _), (1, .lst _ _ _)] rfl (W.seq' (W.rL (aI rfl rfl (eL (W.ty [(0, .lst _ _ _), (1, .lst _ _ _), (6, .int _ _)] rfl (W.block ?_)))))))))))
 obtain ⟨I2, μ2, hp, hv⟩ := hv
 refine W.loop1 (fun v6 => ⟨88, look [(0, .lst true sv.length (zYy zYx sv)), (1, .lst true jobs.length (zYy (e53 true) jobs)), (6, .int .i64 v6)], [], 0⟩) I2 μ2 (0 : Int) (St.to_mk (φ := []) rfl (rfl) (zT rfl rfl) trivial) hp ?_
 clear hp
 intro v6 hI
 replace hv := hv v6 hI
 clear hI
 refine W.seq' (W.rL (mI rfl rfl (mL rfl rfl (cL rfl (zXw (v := .lst _ _ _) tt23 rfl rfl (cL rfl (zYq rfl rfl (eL (W.ty [(0, .lst _ _ _), (1, .lst _ _ _), (6, .int _ _), (32, .bool _)] rfl (W.cn rfl (fun hc => ?_) (fun hc => ?_)))))))))))
 have hv := hv.1 hc
 refine W.skip (zZ (W.ty [(0, .lst _ _ _), (1, .lst _ _ _), (6, .int _ _)] rfl (W.seq' (W.block (W.seq' ?_)))))
 obtain ⟨sd, hv⟩ := hv
 refine W.rLm ⟨88, look [(0, .lst true sv.length (zYy zYx sv)), (1, .lst true jobs.length (zYy (e53 true) jobs)), (6, .int .i64 v6), (50, .bool (decide ((¬ ((inM ((lat jobs v6).ar) (0 : Int) (4398046511104 : Int)) = true)) \/ ((6 : Int) < (((lat jobs v6).wk).length : Int)))))], [], 0⟩ ?_ ?_
 refine mL rfl rfl (mI rfl rfl ?_)
 obtain ⟨s400, sd⟩ := sd
 refine cL rfl (zYu tt23 tt53 rfl rfl (enc53.wd true) rfl s400 ?_)
 intro rest400
 refine cL rfl (o_faP tt53 rfl tt3 rfl (cL rfl (zZx (v := .int _ _) tt3 rfl rfl ⟨_, rfl⟩ (cL rfl (zZu (k := 54) (fst := []) (caps := []) (ys := [.int _ _, .int _ _, .int _ _]) rfl rfl (spec_in54 ((lat jobs v6).ar) (0 : Int) (4398046511104 : Int)) zk (cL rfl (o_notB rfl (mB rfl rfl ?_))))))))
 by_cases c1 : ¬ ((inM ((lat jobs v6).ar) (0 : Int) (4398046511104 : Int)) = true)
 iterate 7 refine cLs rfl rfl rfl (dT c1) ?_
 refine cL rfl (zZv (v := .bool _) rfl (dT c1) rfl (eL (zYz ⟨rfl, rfl, rfl, (congrArg AV.bool (dOrT c1)).symm, trivial⟩ rfl)))
 have sd := sd.2 c1
 refine cLg rfl rfl (dF c1) (mL rfl rfl (cLg rfl rfl (dF c1) (mI rfl rfl (cLg rfl rfl (dF c1) ?_))))
 obtain ⟨s401, sd⟩ := sd
 refine cL rfl (zYu tt23 tt53 rfl rfl (enc53.wd true) rfl s401 ?_)
 intro rest401
 refine cLg rfl rfl (dF c1) (cL rfl (o_faP tt53 rfl tt51 rfl (cLg rfl rfl (dF c1) (cL rfl (zZx (v := .lst _ _ _) tt51 rfl rfl ⟨_, rfl⟩ (cLg rfl rfl (dF c1) (cL rfl (zXw (v := .lst _ _ _) tt51 rfl rfl (cLg rfl rfl (dF c1) (cL rfl (o_gtr rfl rfl (cL rfl (zZy (v := .bool _) rfl (dF c1) rfl (eL (zYz ⟨rfl, rfl, rfl, (congrArg AV.bool (dOrF c1 (rfl))).symm, trivial⟩ rfl)))))))))))))))
 refine W.cn rfl (fun hc => ?_) (fun hc => ?_)
 have hv := hv.1 hc
 refine W.rL (aB rfl rfl (eL (W.ty [(4, .bool _)] rfl (W.ret (zZr (zYt (zZr (zZr (zYt (zZr (rt (rt_t (v := .bool _) rfl (rt_n (⟨_, zYr _ _ _, false, rfl, hv⟩))))))))))))))
 have hv := hv.2 hc
 refine W.skip (zZ (W.ty [(0, .lst _ _ _), (1, .lst _ _ _), (6, .int _ _)] rfl (W.rL (aI rfl rfl (eL (W.ty [(0, .lst _ _ _), (1, .lst _ _ _), (6, .int _ _), (7, .int _ _)] rfl (W.block ?_)))))))
 obtain ⟨I3, μ3, hp, hv⟩ := hv
 refine W.loop1 (fun v7 => ⟨88, look [(0, .lst true sv.length (zYy zYx sv)), (1, .lst true jobs.length (zYy (e53 true) jobs)), (6, .int .i64 v6), (7, .int .i64 v7)], [], 0⟩) I3 μ3 (0 : Int) (St.to_mk (φ := []) rfl (rfl) (zT rfl rfl) trivial) hp ?_
 clear hp
 intro v7 hI
 replace hv := hv v7 hI
 clear hI
 refine W.seq' (W.rL (mI rfl rfl (mL rfl rfl (mI rfl rfl ?_))))
 obtain ⟨s426, hv⟩ := hv
 refine cL rfl (zYu tt23 tt53 rfl rfl (enc53.wd true) rfl s426 ?_)
 intro rest426
 refine cL rfl (o_faP tt53 rfl tt51 rfl (cL rfl (zZx (v := .lst _ _ _) tt51 rfl rfl ⟨_, rfl⟩ (cL rfl (zXw (v := .lst _ _ _) tt51 rfl rfl (cL rfl (zYq rfl rfl (eL (W.ty [(0, .lst _ _ _), (1, .lst _ _ _), (6, .int _ _), (7, .int _ _), (58, .bool _)] rfl (W.cn rfl (fun hc => ?_) (fun hc => ?_)))))))))))
 have hv := hv.1 hc
 refine W.skip (zZ (W.ty [(0, .lst _ _ _), (1, .lst _ _ _), (6, .int _ _), (7, .int _ _)] rfl (W.seq' (W.block ?_))))
 obtain ⟨sd, hv⟩ := hv
 refine W.rLm ⟨88, look [(0, .lst true sv.length (zYy zYx sv)), (1, .lst true jobs.length (zYy (e53 true) jobs)), (6, .int .i64 v6), (7, .int .i64 v7), (87, .bool (decide ((¬ ((inM ((lat ((lat jobs v6).wk) v7).st) (0 : Int) ((sv.length : Int) - (1 : Int))) = true)) \/ (¬ ((inM ((lat ((lat jobs v6).wk) v7).tm) (0 : Int) (1099511627776 : Int)) = true)))))], [], 0⟩ ?_ ?_
 refine mL rfl rfl (mI rfl rfl ?_)
 obtain ⟨s442, sd⟩ := sd
 refine cL rfl (zYu tt23 tt53 rfl rfl (enc53.wd true) rfl s442 ?_)
 intro rest442
 refine cL rfl (o_faP tt53 rfl tt51 rfl (cL rfl (zZx (v := .lst _ _ _) tt51 rfl rfl ⟨_, rfl⟩ (mI rfl rfl ?_))))
 obtain ⟨s443, sd⟩ := sd
 refine cL rfl (zYu tt51 tt60 rfl rfl (enc60.wd true) rfl s443 ?_)
 intro rest443
 refine cL rfl (o_faP tt60 rfl tt3 rfl (cL rfl (zZx (v := .int _ _) tt3 rfl rfl ⟨_, rfl⟩ (mL rfl rfl (cL rfl (zXw (v := .lst _ _ _) tt22 rfl rfl ?_))))))
 obtain ⟨s444, sd⟩ := sd
 refine cL rfl (o_sub rfl rfl s444 (cL rfl (zZu (k := 54) (fst := []) (caps := []) (ys := [.int _ _, .int _ _, .int _ _]) rfl rfl (spec_in54 ((lat ((lat jobs v6).wk) v7).st) (0 : Int) ((sv.length : Int) - (1 : Int))) zk (cL rfl (o_notB rfl (mB rfl rfl ?_))))))
 by_cases c1 : ¬ ((inM ((lat ((lat jobs v6).wk) v7).st) (0 : Int) ((sv.length : Int) - (1 : Int))) = true)
 iterate 11 refine cLs rfl rfl rfl (dT c1) ?_
 refine cL rfl (zZv (v := .bool _) rfl (dT c1) rfl (eL (zYz ⟨rfl, rfl, rfl, rfl, (congrArg AV.bool (dOrT c1)).symm, trivial⟩ rfl)))
 have sd := sd.2 c1
 refine cLg rfl rfl (dF c1) (mL rfl rfl (cLg rfl rfl (dF c1) (mI rfl rfl (cLg rfl rfl (dF c1) ?_))))
 obtain ⟨s445, sd⟩ := sd
 refine cL rfl (zYu tt23 tt53 rfl rfl (enc53.wd true) rfl s445 ?_)
 intro rest445
 refine cLg rfl rfl (dF c1) (cL rfl (o_faP tt53 rfl tt51 rfl (cLg rfl rfl (dF c1) (cL rfl (zZx (v := .lst _ _ _) tt51 rfl rfl ⟨_, rfl⟩ (cLg rfl rfl (dF c1) (mI rfl rfl (cLg rfl rfl (dF c1) ?_))))))))
 obtain ⟨s446, sd⟩ := sd
 refine cL rfl (zYu tt51 tt60 rfl rfl (enc60.wd true) rfl s446 ?_)
 intro rest446
 refine cLg rfl rfl (dF c1) (cL rfl (o_faP tt60 rfl tt3 rfl (cLg rfl rfl (dF c1) (cL rfl (zZx (v := .int _ _) tt3 rfl rfl ⟨_, rfl⟩ (cLg rfl rfl (dF c1) (cL rfl (zZu (k := 54) (fst := []) (caps := []) (ys := [.int _ _, .int _ _, .int _ _]) rfl rfl (spec_in54 ((lat ((lat jobs v6).wk) v7).tm) (0 : Int) (1099511627776 : Int)) zk (cLg rfl rfl (dF c1) (cL rfl (o_notB rfl (cL rfl (zZy (v := .bool _) rfl (dF c1) rfl (eL (zYz ⟨rfl, rfl, rfl, rfl, (congrArg AV.bool (dOrF c1 (rfl))).symm, trivial⟩ rfl)))))))))))))))
 refine W.cn rfl (fun hc => ?_) (fun hc => ?_)
 have hv := hv.1 hc
 refine W.rL (aB rfl rfl (eL (W.ty [(4, .bool _)] rfl (W.ret (zYt (zZr (zZr (zYt (zYt (zZr (zZr (zYt (zZr (rt (rt_t (v := .bool _) rfl (rt_n (⟨_, zYr _ _ _, false, rfl, hv⟩)))))))))))))))))
 have hv := hv.2 hc
 refine W.skip (zYv (zZ (W.ty [(0, .lst _ _ _), (1, .lst _ _ _), (6, .int _ _), (7, .int _ _)] rfl (W.rL1 (mI rfl rfl ?_)))))
 obtain ⟨s447, hv⟩ := hv
 refine cL rfl (o_add rfl rfl s447 (aI rfl rfl (eL (zZ (⟨(), (v7 + (1 : Int)), hv, St.to_mk (φ := []) rfl (rfl) (zT rfl rfl) trivial⟩)))))
 have hv := hv.2 hc
 refine W.exit (zZt (zZt (zYs (zYv (zZ (W.ty [(0, .lst _ _ _), (1, .lst _ _ _), (6, .int _ _)] rfl (W.rL1 (mI rfl rfl ?_))))))))
 obtain ⟨s448, hv⟩ := hv
 refine cL rfl (o_add rfl rfl s448 (aI rfl rfl (eL (zZ (⟨(), (v6 + (1 : Int)), hv, St.to_mk (φ := []) rfl (rfl) (zT rfl rfl) trivial⟩)))))
 have hv := hv.2 hc
 refine W.exit (zZt (zZt (zYs (zZ (W.ty [] rfl (W.rL (aB rfl rfl (eL (W.ty [(4, .bool _)] rfl (W.ret (rt (rt_t (v := .bool _) rfl (rt_n (⟨_, zYr _ _ _, true, rfl, hv⟩))))))))))))))
set_option maxHeartbeats 4000000 in
theorem vcp_rmvalid (sv : (List Int)) (jobs : (List Job)) (h0 : sv.length <= 9223372036854775807) (h1 : ∀ j ∈ jobs, j.wk.length <= 9223372036854775807) (h2 : jobs.length <= 9223372036854775807) : vc_rmvalid sv jobs (fun q0 => q0 = (validJ sv jobs)) := by
  unfold vc_rmvalid
  have e1 : ∀ n lo hi : Int, (inM n lo hi = true) = (lo <= n /\ n <= hi) := fun n lo hi => by unfold inM; simp
  simp only [e1]
  have bad : ∀ {q : Prop}, (validJ sv jobs = true -> q) -> ¬ q -> false = validJ sv jobs := fun h k => by
    rcases hv : validJ sv jobs with _ | _
    . rfl
    . exact absurd (h hv) k
  refine ⟨fun k => bad (fun h => (job_ok h).1) (by omega), fun k => ?_⟩
  refine ⟨fun v => ∃ i : Nat, v = i /\ i <= sv.length /\ ∀ a : Nat, a < i -> 1 <= lat sv a /\ lat sv a <= 4, fun v => sv.length - v.toNat, ⟨0, rfl, by omega, fun a ha => by omega⟩, ?_⟩
  rintro _ ⟨i, rfl, hi, hs⟩
  refine ⟨fun k1 => ⟨⟨by omega, k1⟩, fun k2 => bad (fun h => (job_ok h).2.1 _ (lat_mem (xs := sv) (i := (i : Int)) ⟨by omega, k1⟩)) k2, fun k2 => ⟨by unfold inI; omega, ⟨i + 1, by omega, by omega, fun a ha => ?_⟩, dec_lt k1⟩⟩, fun k1 => ?_⟩
  . rcases Nat.lt_or_ge a i with h | h
    . exact hs a h
    . rw [show a = i by omega]; exact Decidable.not_not.1 k2
  have hsv : ∀ n ∈ sv, 1 <= n /\ n <= 4 := fun n hn => by
    obtain ⟨a, ha, rfl⟩ := List.mem_iff_getElem.1 hn
    have := hs a (by omega)
    rwa [lat_get ha] at this
  refine ⟨fun v => ∃ i : Nat, v = i /\ i <= jobs.length /\ ∀ a : Nat, a < i -> jobOk sv.length (lat jobs a) = true, fun v => jobs.length - v.toNat, ⟨0, rfl, by omega, fun a ha => by omega⟩, ?_⟩
  rintro _ ⟨j, rfl, hj, hjs⟩
  refine ⟨fun k2 => ⟨⟨⟨by omega, k2⟩, fun _ => trivial, fun _ => ⟨⟨by omega, k2⟩, trivial⟩⟩, fun k3 => bad (fun h => ((job_ok h).2.2 _ (lat_mem (xs := jobs) (i := (j : Int)) ⟨by omega, k2⟩)).1) (by omega), fun k3 => ?_⟩, fun k2 => ?_⟩
  . have hmem : lat jobs (j : Int) ∈ jobs := lat_mem ⟨by omega, k2⟩
    refine ⟨fun v => ∃ i : Nat, v = i /\ i <= (lat jobs (j : Int)).wk.length /\ ∀ a : Nat, a < i -> 0 <= (lat (lat jobs (j : Int)).wk a).st /\ (lat (lat jobs (j : Int)).wk a).st <= (sv.length : Int) - 1 /\ 0 <= (lat (lat jobs (j : Int)).wk a).tm /\ (lat (lat jobs (j : Int)).wk a).tm <= 1099511627776, fun v => (lat jobs (j : Int)).wk.length - v.toNat, ⟨0, rfl, by omega, fun a ha => by omega⟩, ?_⟩
    rintro _ ⟨q, rfl, hq, hqs⟩
    refine ⟨⟨by omega, k2⟩, fun k4 => ⟨⟨⟨by omega, k2⟩, ⟨by omega, k4⟩, by unfold inI; omega, fun _ => trivial, fun _ => ⟨⟨by omega, k2⟩, ⟨by omega, k4⟩, trivial⟩⟩, fun k5 => bad (fun h => ((job_ok h).2.2 _ hmem).2 _ (lat_mem (xs := (lat jobs (j : Int)).wk) (i := (q : Int)) ⟨by omega, k4⟩)) (by omega), fun k5 => ⟨by unfold inI; have := h1 _ hmem; omega, ⟨q + 1, by omega, by omega, fun a ha => ?_⟩, dec_lt k4⟩⟩, fun k4 => ⟨by unfold inI; omega, ⟨j + 1, by omega, by omega, fun a ha => ?_⟩, dec_lt k2⟩⟩
    . rcases Nat.lt_or_ge a q with h | h
      . exact hqs a h
      . rw [show a = q by omega]; omega
    . rcases Nat.lt_or_ge a j with h | h
      . exact hjs a h
      . rw [show a = j by omega]
        unfold jobOk
        rw [Bool.and_eq_true, decide_eq_true_eq, List.all_eq_true]
        refine ⟨by omega, fun w hw => ?_⟩
        obtain ⟨b, hb, rfl⟩ := List.mem_iff_getElem.1 hw
        have := hqs b (by omega)
        rw [lat_get hb] at this
        exact decide_eq_true this
  . show true = validJ sv jobs
    unfold validJ
    symm
    rw [Bool.and_eq_true, Bool.and_eq_true, decide_eq_true_eq, List.all_eq_true, List.all_eq_true]
    refine ⟨⟨by omega, fun n hn => decide_eq_true (hsv n hn)⟩, fun x hx => ?_⟩
    obtain ⟨b, hb, rfl⟩ := List.mem_iff_getElem.1 hx
    have := hjs b (by omega)
    rwa [lat_get hb] at this
theorem spec_rmvalid (sv : (List Int)) (jobs : (List Job)) (h0 : sv.length <= 9223372036854775807) (h1 : ∀ j ∈ jobs, j.wk.length <= 9223372036854775807) (h2 : jobs.length <= 9223372036854775807) : FnP Try.prog 38 [.lst true sv.length (zYy zYx sv), .lst true jobs.length (zYy (e53 true) jobs)] (fun xR => xR = .bool (validJ sv jobs)) :=
  (walk_rmvalid (vcp_rmvalid sv jobs h0 h1 h2)).mono (by rintro _ ⟨_, rfl, rfl⟩; rfl)
def vc_rvalid (r : Req) (Post : Bool -> Prop) : Prop :=
  (r.sv.length <= 9223372036854775807) /\ (∀ j ∈ r.jobs, j.wk.length <= 9223372036854775807) /\ (r.jobs.length <= 9223372036854775807) /\ (((¬ ((validJ r.sv r.jobs) = true)) -> True) /\ (¬ (¬ ((validJ r.sv r.jobs) = true)) -> (inI ((r.jobs.length : Int) - (1 : Int))) /\ True)) /\ ((((¬ ((validJ r.sv r.jobs) = true)) \/ ((¬ ((inM r.late (0 : Int) ((r.jobs.length : Int) - (1 : Int))) = true)) \/ ((¬ ((inM r.obj (0 : Int) (4398046511104 : Int)) = true)) \/ (¬ ((inM r.causes (0 : Int) (6 : Int)) = true))))) -> Post false) /\ (¬ ((¬ ((validJ r.sv r.jobs) = true)) \/ ((¬ ((inM r.late (0 : Int) ((r.jobs.length : Int) - (1 : Int))) = true)) \/ ((¬ ((inM r.obj (0 : Int) (4398046511104 : Int)) = true)) \/ (¬ ((inM r.causes (0 : Int) (6 : Int)) = true))))) -> ∃ (I1 : Int -> Prop) (μ1 : Int -> Nat), I1 (0 : Int) /\ ∀ (v4 : Int), I1 v4 -> ((v4 < (r.ex.length : Int)) -> ∃ J2 : Prop, (J2 -> (inI (v4 + (1 : Int))) /\ (I1 (v4 + (1 : Int)) /\ μ1 (v4 + (1 : Int)) < μ1 v4)) /\ ((0 <= v4 /\ v4 < (r.ex.length : Int)) /\ ((inI ((r.jobs.length : Int) - (1 : Int))) /\ ((¬ ((inM ((lat r.ex v4).jb) (0 : Int) ((r.jobs.length : Int) - (1 : Int))) = true)) -> True) /\ (¬ (¬ ((inM ((lat r.ex v4).jb) (0 : Int) ((r.jobs.length : Int) - (1 : Int))) = true)) -> (inI (r.causes - (1 : Int))) /\ True)) /\ ((((¬ ((inM ((lat r.ex v4).jb) (0 : Int) ((r.jobs.length : Int) - (1 : Int))) = true)) \/ (¬ ((inM ((lat r.ex v4).ca) (0 : Int) (r.causes - (1 : Int))) = true))) -> Post false) /\ (¬ ((¬ ((inM ((lat r.ex v4).jb) (0 : Int) ((r.jobs.length : Int) - (1 : Int))) = true)) \/ (¬ ((inM ((lat r.ex v4).ca) (0 : Int) (r.causes - (1 : Int))) = true))) -> ((((0 : Int) < v4) -> (inI (v4 - (1 : Int))) /\ (0 <= (v4 - (1 : Int)) /\ (v4 - (1 : Int)) < (r.ex.length : Int)) /\ ((((lat r.ex v4).jb) < ((lat r.ex (v4 - (1 : Int))).jb)) -> True) /\ (¬ (((lat r.ex v4).jb) < ((lat r.ex (v4 - (1 : Int))).jb)) -> (inI (v4 - (1 : Int))) /\ (0 <= (v4 - (1 : Int)) /\ (v4 - (1 : Int)) < (r.ex.length : Int)) /\ (((lat r.ex v4).jb = (lat r.ex (v4 - (1 : Int))).jb) -> (inI (v4 - (1 : Int))) /\ (0 <= (v4 - (1 : Int)) /\ (v4 - (1 : Int)) < (r.ex.length : Int)) /\ True) /\ (¬ ((lat r.ex v4).jb = (lat r.ex (v4 - (1 : Int))).jb) -> True))) /\ (¬ ((0 : Int) < v4) -> True)) /\ (((((0 : Int) < v4) /\ ((((lat r.ex v4).jb) < ((lat r.ex (v4 - (1 : Int))).jb)) \/ (((lat r.ex v4).jb = (lat r.ex (v4 - (1 : Int))).jb) /\ (((lat r.ex v4).pc) <= ((lat r.ex (v4 - (1 : Int))).pc))))) -> Post false) /\ (¬ (((0 : Int) < v4) /\ ((((lat r.ex v4).jb) < ((lat r.ex (v4 - (1 : Int))).jb)) \/ (((lat r.ex v4).jb = (lat r.ex (v4 - (1 : Int))).jb) /\ (((lat r.ex v4).pc) <= ((lat r.ex (v4 - (1 : Int))).pc))))) -> (((lat r.ex v4).pc = (-1 : Int)) -> ((((lat r.ex v4).jb = r.late) \/ ((¬ (lat r.ex v4).ba = (0 : Int)) \/ ((¬ (lat r.ex v4).op = (0 : Int)) \/ (¬ (lat r.ex v4).ver = (0 : Int))))) -> Post false) /\ (¬ (((lat r.ex v4).jb = r.late) \/ ((¬ (lat r.ex v4).ba = (0 : Int)) \/ ((¬ (lat r.ex v4).op = (0 : Int)) \/ (¬ (lat r.ex v4).ver = (0 : Int))))) -> J2)) /\ (¬ ((lat r.ex v4).pc = (-1 : Int)) -> ((0 <= ((lat r.ex v4).jb) /\ ((lat r.ex v4).jb) < (r.jobs.length : Int)) /\ (inI (((((lat r.jobs ((lat r.ex v4).jb)).wk).length : Nat) : Int) - (1 : Int))) /\ True) /\ ((((¬ ((inM ((lat r.ex v4).pc) (0 : Int) (((((lat r.jobs ((lat r.ex v4).jb)).wk).length : Nat) : Int) - (1 : Int))) = true)) \/ ((¬ ((inM ((lat r.ex v4).ba) (0 : Int) (1099511627776 : Int)) = true)) \/ ((¬ ((inM ((lat r.ex v4).op) (0 : Int) (11 : Int)) = true)) \/ (¬ ((inM ((lat r.ex v4).ver) (0 : Int) (9 : Int)) = true))))) -> Post false) /\ (¬ ((¬ ((inM ((lat r.ex v4).pc) (0 : Int) (((((lat r.jobs ((lat r.ex v4).jb)).wk).length : Nat) : Int) - (1 : Int))) = true)) \/ ((¬ ((inM ((lat r.ex v4).ba) (0 : Int) (1099511627776 : Int)) = true)) \/ ((¬ ((inM ((lat r.ex v4).op) (0 : Int) (11 : Int)) = true)) \/ (¬ ((inM ((lat r.ex v4).ver) (0 : Int) (9 : Int)) = true))))) -> J2))))))))) /\ (¬ (v4 < (r.ex.length : Int)) -> Post true)))
theorem walk_rvalid {r : Req} {Post : Bool -> Prop} (hv : vc_rvalid r Post) : FnP Try.prog 14 [.agg ((e26 true) r)] (fun x => ∃ q0, x = .bool q0 /\ Post q0) := by
 refine FnP.of_walk (T := tt) (nt := 156) ttOk ttMix ⟨⟨Try.f14, Try.func14, rfl, rfl, rfl, rfl⟩⟩ (by simp) ?_
 unfold vc_rvalid at hv
 change W _ _ _ ⟨156, look [(0, .agg [.lst true r.sv.length (zYy zYx r.sv), .lst true r.jobs.length (zYy (e53 true) r.jobs), .int .i64 r.late, .int .i64 r.obj, .int .i64 r.causes, .lst true r.ex.length (zYy e58 r.ex)])], [], 0⟩ _
 refine W.ty [(0, .agg _)] rfl (W.rL (cL rfl (o_box (v := .agg _) (p := 0) rfl rfl rfl (aB rfl rfl (eL (W.ty [(1, .ptr _ _)] rfl (W.rL (cL rfl (o_fa tt26 rfl tt22 rfl (cL rfl (zZx (v := .lst _ _ _) tt22 rfl rfl ⟨_, rfl⟩ (cL rfl (o_fa tt26 rfl tt23 rfl (cL rfl (zZx (v := .lst _ _ _) tt23 rfl rfl ⟨_, rfl⟩ ?_)))))))))))))))
 obtain ⟨s1, s2, s3, hv⟩ := hv
 refine cL rfl (zZu (k := 38) (fst := []) (caps := []) (ys := [.lst _ _ _, .lst _ _ _]) rfl rfl (spec_rmvalid r.sv r.jobs s1 s2 s3) zk (aB rfl rfl (eL (W.ty [(1, .ptr _ _), (3, .bool _)] rfl (W.seq' ?_)))))
 obtain ⟨sd, hv⟩ := hv
 refine W.rLm ⟨156, look [(1, .ptr 0 0), (34, .bool (decide ((¬ ((validJ r.sv r.jobs) = true)) \/ ((¬ ((inM r.late (0 : Int) ((r.jobs.length : Int) - (1 : Int))) = true)) \/ ((¬ ((inM r.obj (0 : Int) (4398046511104 : Int)) = true)) \/ (¬ ((inM r.causes (0 : Int) (6 : Int)) = true)))))))], [.box 26 [.lst true r.sv.length (zYy zYx r.sv), .lst true r.jobs.length (zYy (e53 true) r.jobs), .int .i64 r.late, .int .i64 r.obj, .int .i64 r.causes, .lst true r.ex.length (zYy e58 r.ex)]], 0⟩ ?_ ?_
 refine mB rfl rfl (cL rfl (o_notB rfl (mB rfl rfl ?_)))
 by_cases c1 : ¬ ((validJ r.sv r.jobs) = true)
 iterate 8 refine cLs rfl rfl rfl (dT c1) ?_
 refine cL rfl (zZv (v := .bool _) rfl (dT c1) rfl (mB rfl rfl ?_))
 iterate 4 refine cLs rfl rfl rfl (rfl) ?_
 refine cL rfl (zZv (v := .bool _) rfl rfl rfl (mB rfl rfl ?_))
 iterate 4 refine cLs rfl rfl rfl (rfl) ?_
 refine cL rfl (zZv (v := .bool _) rfl rfl rfl (eL (zYz ⟨rfl, (congrArg AV.bool (dOrT c1)).symm, trivial⟩ rfl)))
 have sd := sd.2 c1
 refine cLg rfl rfl (dF c1) (cL rfl (o_fa tt26 rfl tt3 rfl (cLg rfl rfl (dF c1) (cL rfl (zZx (v := .int _ _) tt3 rfl rfl ⟨_, rfl⟩ (cLg rfl rfl (dF c1) (cL rfl (o_fa tt26 rfl tt23 rfl (cLg rfl rfl (dF c1) (cL rfl (zZx (v := .lst _ _ _) tt23 rfl rfl ⟨_, rfl⟩ (cLg rfl rfl (dF c1) (cL rfl (zXw (v := .lst _ _ _) tt23 rfl rfl (cLg rfl rfl (dF c1) ?_)))))))))))))))
 obtain ⟨s7, sd⟩ := sd
 refine cL rfl (o_sub rfl rfl s7 (cLg rfl rfl (dF c1) (cL rfl (zZu (k := 39) (fst := []) (caps := []) (ys := [.int _ _, .int _ _, .int _ _]) rfl rfl (spec_in39 r.late (0 : Int) ((r.jobs.length : Int) - (1 : Int))) zk (cLg rfl rfl (dF c1) (cL rfl (o_notB rfl (cL rfl (zZy (v := .bool _) rfl (dF c1) rfl (mB rfl rfl ?_))))))))))
 by_cases c2 : ¬ ((inM r.late (0 : Int) ((r.jobs.length : Int) - (1 : Int))) = true)
 iterate 4 refine cLs rfl rfl rfl (dT c2) ?_
 refine cL rfl (zZv (v := .bool _) rfl (dT c2) rfl (mB rfl rfl ?_))
 iterate 4 refine cLs rfl rfl rfl (rfl) ?_
 refine cL rfl (zZv (v := .bool _) rfl rfl rfl (eL (zYz ⟨rfl, (congrArg AV.bool (dOrF c1 (dOrT c2))).symm, trivial⟩ rfl)))
 refine cLg rfl rfl (dF c2) (cL rfl (o_fa tt26 rfl tt3 rfl (cLg rfl rfl (dF c2) (cL rfl (zZx (v := .int _ _) tt3 rfl rfl ⟨_, rfl⟩ (cLg rfl rfl (dF c2) (cL rfl (zZu (k := 39) (fst := []) (caps := []) (ys := [.int _ _, .int _ _, .int _ _]) rfl rfl (spec_in39 r.obj (0 : Int) (4398046511104 : Int)) zk (cLg rfl rfl (dF c2) (cL rfl (o_notB rfl (cL rfl (zZy (v := .bool _) rfl (dF c2) rfl (mB rfl rfl ?_))))))))))))))
 by_cases c3 : ¬ ((inM r.obj (0 : Int) (4398046511104 : Int)) = true)
 iterate 4 refine cLs rfl rfl rfl (dT c3) ?_
 refine cL rfl (zZv (v := .bool _) rfl (dT c3) rfl (eL (zYz ⟨rfl, (congrArg AV.bool (dOrF c1 (dOrF c2 (dOrT c3)))).symm, trivial⟩ rfl)))
 refine cLg rfl rfl (dF c3) (cL rfl (o_fa tt26 rfl tt3 rfl (cLg rfl rfl (dF c3) (cL rfl (zZx (v := .int _ _) tt3 rfl rfl ⟨_, rfl⟩ (cLg rfl rfl (dF c3) (cL rfl (zZu (k := 39) (fst := []) (caps := []) (ys := [.int _ _, .int _ _, .int _ _]) rfl rfl (spec_in39 r.causes (0 : Int) (6 : Int)) zk (cLg rfl rfl (dF c3) (cL rfl (o_notB rfl (cL rfl (zZy (v := .bool _) rfl (dF c3) rfl (eL (zYz ⟨rfl, (congrArg AV.bool (dOrF c1 (dOrF c2 (dOrF c3 (rfl))))).symm, trivial⟩ rfl)))))))))))))))
 refine W.cn rfl (fun hc => ?_) (fun hc => ?_)
 have hv := hv.1 hc
 refine W.rL (aB rfl rfl (eL (W.ty [(2, .bool _)] rfl (W.ret (zZr (rt (rt_t (v := .bool _) rfl (rt_n (⟨_, zYr _ _ _, false, rfl, hv⟩)))))))))
 have hv := hv.2 hc
 refine W.skip (zZ (W.ty [(1, .ptr _ _)] rfl (W.seq' (W.rL (aI rfl rfl (eL (W.ty [(1, .ptr _ _), (4, .int _ _)] rfl (W.block ?_))))))))
 obtain ⟨I1, μ1, hp, hv⟩ := hv
 refine W.loop1 (fun v4 => ⟨156, look [(1, .ptr 0 0), (4, .int .i64 v4)], [.box 26 [.lst true r.sv.length (zYy zYx r.sv), .lst true r.jobs.length (zYy (e53 true) r.jobs), .int .i64 r.late, .int .i64 r.obj, .int .i64 r.causes, .lst true r.ex.length (zYy e58 r.ex)]], 0⟩) I1 μ1 (0 : Int) (St.to_mk (φ := [some 0]) rfl (rfl) ⟨Ren.ptr rfl, Ren.int _ _, trivial⟩ ⟨(zB rfl rfl), trivial⟩) hp ?_
 clear hp
 intro v4 hI
 replace hv := hv v4 hI
 clear hI
 refine W.seq' (W.rL (mI rfl rfl (cL rfl (o_fa tt26 rfl tt24 rfl (cL rfl (zZx (v := .lst _ _ _) tt24 rfl rfl ⟨_, rfl⟩ (cL rfl (zXw (v := .lst _ _ _) tt24 rfl rfl (cL rfl (zYq rfl rfl (eL (W.ty [(1, .ptr _ _), (4, .int _ _), (39, .bool _)] rfl (W.cn rfl (fun hc => ?_) (fun hc => ?_))))))))))))))
 have hv := hv.1 hc
 refine W.skip (zZ (W.ty [(1, .ptr _ _), (4, .int _ _)] rfl ?_))
 obtain ⟨J2, hj, hv⟩ := hv
 refine W.mid0 (⟨156, look [(1, .ptr 0 0), (4, .int .i64 v4)], [.box 26 [.lst true r.sv.length (zYy zYx r.sv), .lst true r.jobs.length (zYy (e53 true) r.jobs), .int .i64 r.late, .int .i64 r.obj, .int .i64 r.causes, .lst true r.ex.length (zYy e58 r.ex)]], 0⟩) J2 ?_ ?_
 intro hv
 replace hv := hj hv
 refine W.rL1 (mI rfl rfl ?_)
 obtain ⟨s270, hv⟩ := hv
 refine cL rfl (o_add rfl rfl s270 (aI rfl rfl (eL (zZ (⟨(), (v4 + (1 : Int)), hv, St.to_mk (φ := [some 0]) rfl (rfl) ⟨Ren.ptr rfl, Ren.int _ _, trivial⟩ ⟨(zB rfl rfl), trivial⟩⟩)))))
 clear hj
 refine W.block (W.rL (cL rfl (o_fa tt26 rfl tt24 rfl (cL rfl (zZx (v := .lst _ _ _) tt24 rfl rfl ⟨_, rfl⟩ (mI rfl rfl ?_))))))
 obtain ⟨s271, hv⟩ := hv
 refine cL rfl (zYu tt24 tt58 rfl rfl (enc58.wd true) rfl s271 ?_)
 intro rest271
 refine cL rfl (zYp (cs := [.int _ _, .int _ _, .int _ _, .int _ _, .int _ _, .int _ _]) tt58 rfl rfl ⟨_, rfl⟩ rfl (cL rfl (zXy (p := 1) tt58 rfl rfl (cLn (o_stB (v := .agg _) (vs := [.int _ _, .int _ _, .int _ _, .int _ _, .int _ _, .int _ _]) (cs2 := [.int _ _, .int _ _, .int _ _, .int _ _, .int _ _, .int _ _]) tt58 rfl rfl rfl rfl rfl (Nat.le_of_ble_eq_true rfl) rfl (eL (W.ty [(1, .ptr _ _), (4, .int _ _), (5, .ptr _ _)] rfl (W.seq' ?_))))))))
 obtain ⟨sd, hv⟩ := hv
 refine W.rLm ⟨156, look [(1, .ptr 0 0), (4, .int .i64 v4), (5, .ptr 1 0), (63, .bool (decide ((¬ ((inM ((lat r.ex v4).jb) (0 : Int) ((r.jobs.length : Int) - (1 : Int))) = true)) \/ (¬ ((inM ((lat r.ex v4).ca) (0 : Int) (r.causes - (1 : Int))) = true)))))], [.box 26 [.lst true r.sv.length (zYy zYx r.sv), .lst true r.jobs.length (zYy (e53 true) r.jobs), .int .i64 r.late, .int .i64 r.obj, .int .i64 r.causes, .lst true r.ex.length (zYy e58 r.ex)], .box 58 [.int .i64 ((lat r.ex v4).jb), .int .i64 ((lat r.ex v4).pc), .int .i64 ((lat r.ex v4).ca), .int .i64 ((lat r.ex v4).ba), .int .i64 ((lat r.ex v4).op), .int .i64 ((lat r.ex v4).ver)]], 0⟩ ?_ ?_
 refine cL rfl (o_fa tt58 rfl tt3 rfl (cL rfl (zZx (v := .int _ _) tt3 rfl rfl ⟨_, rfl⟩ (cL rfl (o_fa tt26 rfl tt23 rfl (cL rfl (zZx (v := .lst _ _ _) tt23 rfl rfl ⟨_, rfl⟩ (cL rfl (zXw (v := .lst _ _ _) tt23 rfl rfl ?_)))))))))
 obtain ⟨s278, sd⟩ := sd
 refine cL rfl (o_sub rfl rfl s278 (cL rfl (zZu (k := 39) (fst := []) (caps := []) (ys := [.int _ _, .int _ _, .int _ _]) rfl rfl (spec_in39 ((lat r.ex v4).jb) (0 : Int) ((r.jobs.length : Int) - (1 : Int))) zk (cL rfl (o_notB rfl (mB rfl rfl ?_))))))
 by_cases c1 : ¬ ((inM ((lat r.ex v4).jb) (0 : Int) ((r.jobs.length : Int) - (1 : Int))) = true)
 iterate 7 refine cLs rfl rfl rfl (dT c1) ?_
 refine cL rfl (zZv (v := .bool _) rfl (dT c1) rfl (eL (zYz ⟨rfl, rfl, rfl, (congrArg AV.bool (dOrT c1)).symm, trivial⟩ rfl)))
 have sd := sd.2 c1
 refine cLg rfl rfl (dF c1) (cL rfl (o_fa tt58 rfl tt3 rfl (cLg rfl rfl (dF c1) (cL rfl (zZx (v := .int _ _) tt3 rfl rfl ⟨_, rfl⟩ (cLg rfl rfl (dF c1) (cL rfl (o_fa tt26 rfl tt3 rfl (cLg rfl rfl (dF c1) (cL rfl (zZx (v := .int _ _) tt3 rfl rfl ⟨_, rfl⟩ (cLg rfl rfl (dF c1) ?_))))))))))))
 obtain ⟨s279, sd⟩ := sd
 refine cL rfl (o_sub rfl rfl s279 (cLg rfl rfl (dF c1) (cL rfl (zZu (k := 39) (fst := []) (caps := []) (ys := [.int _ _, .int _ _, .int _ _]) rfl rfl (spec_in39 ((lat r.ex v4).ca) (0 : Int) (r.causes - (1 : Int))) zk (cLg rfl rfl (dF c1) (cL rfl (o_notB rfl (cL rfl (zZy (v := .bool _) rfl (dF c1) rfl (eL (zYz ⟨rfl, rfl, rfl, (congrArg AV.bool (dOrF c1 (rfl))).symm, trivial⟩ rfl)))))))))))
 refine W.cn rfl (fun hc => ?_) (fun hc => ?_)
 have hv := hv.1 hc
 refine W.rL (aB rfl rfl (eL (W.ty [(2, .bool _)] rfl (W.ret (zZr (zYt (zZr (zZr (zYt (zZr (rt (rt_t (v := .bool _) rfl (rt_n (⟨_, zYr _ _ _, false, rfl, hv⟩))))))))))))))
 have hv := hv.2 hc
 refine W.skip (zZ (W.ty [(1, .ptr _ _), (4, .int _ _), (5, .ptr _ _)] rfl (W.seq' ?_)))
 obtain ⟨sd, hv⟩ := hv
 refine W.rDm ⟨156, look [(1, .ptr 0 0), (4, .int .i64 v4), (5, .ptr 1 0), (101, .bool (decide (((0 : Int) < v4) /\ ((((lat r.ex v4).jb) < ((lat r.ex (v4 - (1 : Int))).jb)) \/ (((lat r.ex v4).jb = (lat r.ex (v4 - (1 : Int))).jb) /\ (((lat r.ex v4).pc) <= ((lat r.ex (v4 - (1 : Int))).pc)))))))], [.box 26 [.lst true r.sv.length (zYy zYx r.sv), .lst true r.jobs.length (zYy (e53 true) r.jobs), .int .i64 r.late, .int .i64 r.obj, .int .i64 r.causes, .lst true r.ex.length (zYy e58 r.ex)], .box 58 [.int .i64 ((lat r.ex v4).jb), .int .i64 ((lat r.ex v4).pc), .int .i64 ((lat r.ex v4).ca), .int .i64 ((lat r.ex v4).ba), .int .i64 ((lat r.ex v4).op), .int .i64 ((lat r.ex v4).ver)]], 0⟩ [0, 1, 2, 3, 4, 5, 6, 7, 8, 9, 10, 11, 12, 13, 14, 15, 16, 17, 18, 19, 20, 21, 22, 23, 24, 25, 26, 27, 28, 29, 30, 31, 32, 33, 34, 35, 36, 37] (by decide +kernel) rfl ?_ ?_
 refine mI rfl rfl (cL rfl (o_gtr rfl rfl (mB rfl rfl ?_)))
 by_cases c1 : (0 : Int) < v4
 have sd := sd.1 c1
 refine cLg rfl rfl (dT c1) (cL rfl (o_fa tt58 rfl tt3 rfl (cLg rfl rfl (dT c1) (cL rfl (zZx (v := .int _ _) tt3 rfl rfl ⟨_, rfl⟩ (cLg rfl rfl (dT c1) (cL rfl (o_fa tt26 rfl tt24 rfl (cLg rfl rfl (dT c1) (cL rfl (zZx (v := .lst _ _ _) tt24 rfl rfl ⟨_, rfl⟩ (cLg rfl rfl (dT c1) (mI rfl rfl (cLg rfl rfl (dT c1) ?_))))))))))))))
 obtain ⟨s298, sd⟩ := sd
 refine cL rfl (o_sub rfl rfl s298 (cLg rfl rfl (dT c1) ?_))
 obtain ⟨s299, sd⟩ := sd
 refine cL rfl (zYu tt24 tt58 rfl rfl (enc58.wd true) rfl s299 ?_)
 intro rest299
 refine cLg rfl rfl (dT c1) (cL rfl (o_faP tt58 rfl tt3 rfl (cLg rfl rfl (dT c1) (cL rfl (zZx (v := .int _ _) tt3 rfl rfl ⟨_, rfl⟩ (cLg rfl rfl (dT c1) (cL rfl (zYq rfl rfl (cLg rfl rfl (dT c1) (mB rfl rfl ?_))))))))))
 by_cases c2 : ((lat r.ex v4).jb) < ((lat r.ex (v4 - (1 : Int))).jb)
 iterate 11 refine cLs rfl rfl rfl (dT c2) ?_
 iterate 4 refine cLu rfl rfl rfl ?_
 iterate 6 refine cLu rfl rfl (by kernel_rfl) ?_
 refine cLs rfl rfl rfl (dT c2) (cLg rfl rfl (dT c1) (cL rfl (zZv (v := .bool _) rfl (dT c2) rfl (cL rfl (zZv (v := .bool _) rfl (dT c1) rfl (eL (zYz ⟨rfl, rfl, rfl, (congrArg AV.bool (zXv c1 (dOrT c2))).symm, trivial⟩ rfl)))))))
 have sd := sd.2 c2
 refine cLg rfl rfl (dF c2) (cL rfl (o_fa tt58 rfl tt3 rfl (cLg rfl rfl (dF c2) (cL rfl (zZx (v := .int _ _) tt3 rfl rfl ⟨_, rfl⟩ (cLg rfl rfl (dF c2) (cL rfl (o_fa tt26 rfl tt24 rfl (cLg rfl rfl (dF c2) (cL rfl (zZx (v := .lst _ _ _) tt24 rfl rfl ⟨_, rfl⟩ (cLg rfl rfl (dF c2) (mI rfl rfl (cLg rfl rfl (dF c2) ?_))))))))))))))
 obtain ⟨s300, sd⟩ := sd
 refine cL rfl (o_sub rfl rfl s300 (cLg rfl rfl (dF c2) ?_))
 obtain ⟨s301, sd⟩ := sd
 refine cL rfl (zYu tt24 tt58 rfl rfl (enc58.wd true) rfl s301 ?_)
 intro rest301
 refine cLg rfl rfl (dF c2) (cL rfl (o_faP tt58 rfl tt3 rfl (cLg rfl rfl (dF c2) (cL rfl (zZx (v := .int _ _) tt3 rfl rfl ⟨_, rfl⟩ (cLg rfl rfl (dF c2) (cL rfl (o_eqI rfl rfl rfl (cLg rfl rfl (dF c2) (mB rfl rfl ?_))))))))))
 by_cases c3 : (lat r.ex v4).jb = (lat r.ex (v4 - (1 : Int))).jb
 have sd := sd.1 c3
 refine cLg rfl rfl (dT c3) (cL rfl (o_fa tt58 rfl tt3 rfl (cLg rfl rfl (dT c3) (cL rfl (zZx (v := .int _ _) tt3 rfl rfl ⟨_, rfl⟩ (cLg rfl rfl (dT c3) (cL rfl (o_fa tt26 rfl tt24 rfl (cLg rfl rfl (dT c3) (cL rfl (zZx (v := .lst _ _ _) tt24 rfl rfl ⟨_, rfl⟩ (cLg rfl rfl (dT c3) (mI rfl rfl (cLg rfl rfl (dT c3) ?_))))))))))))))
 obtain ⟨s302, sd⟩ := sd
 refine cL rfl (o_sub rfl rfl s302 (cLg rfl rfl (dT c3) ?_))
 obtain ⟨s303, sd⟩ := sd
 refine cL rfl (zYu tt24 tt58 rfl rfl (enc58.wd true) rfl s303 ?_)
 intro rest303
 refine cLg rfl rfl (dT c3) (cL rfl (o_faP tt58 rfl tt3 rfl (cLg rfl rfl (dT c3) (cL rfl (zZx (v := .int _ _) tt3 rfl rfl ⟨_, rfl⟩ (cLg rfl rfl (dT c3) (cL rfl (o_leq rfl rfl (cLg rfl rfl (dF c2) (cL rfl (zZv (v := .bool _) rfl (dT c3) rfl (cLg rfl rfl (dT c1) (cL rfl (zZy (v := .bool _) rfl (dF c2) rfl (cL rfl (zZv (v := .bool _) rfl (dT c1) rfl (eL (zYz ⟨rfl, rfl, rfl, (congrArg AV.bool (zXv c1 (dOrF c2 (zXv c3 (rfl))))).symm, trivial⟩ rfl))))))))))))))))))
 iterate 10 refine cLs rfl rfl rfl (dF c3) ?_
 refine cLg rfl rfl (dF c2) (cL rfl (zZy (v := .bool _) rfl (dF c3) rfl (cLg rfl rfl (dT c1) (cL rfl (zZy (v := .bool _) rfl (dF c2) rfl (cL rfl (zZv (v := .bool _) rfl (dT c1) rfl (eL (zYz ⟨rfl, rfl, rfl, (congrArg AV.bool (zXv c1 (dOrF c2 (dAndF c3)))).symm, trivial⟩ rfl)))))))))
 iterate 11 refine cLs rfl rfl rfl (dF c1) ?_
 iterate 4 refine cLu rfl rfl rfl ?_
 iterate 18 refine cLu rfl rfl (by kernel_rfl) ?_
 refine cLs rfl rfl rfl (dF c1) (cL rfl (zZy (v := .bool _) rfl (dF c1) rfl (eL (zYz ⟨rfl, rfl, rfl, (congrArg AV.bool (dAndF c1)).symm, trivial⟩ rfl))))
 refine W.cn rfl (fun hc => ?_) (fun hc => ?_)
 have hv := hv.1 hc
 refine W.rL (aB rfl rfl (eL (W.ty [(2, .bool _)] rfl (W.ret (zZr (zYt (zZr (zZr (zYt (zZr (rt (rt_t (v := .bool _) rfl (rt_n (⟨_, zYr _ _ _, false, rfl, hv⟩))))))))))))))
 have hv := hv.2 hc
 refine W.skip (zZ (W.ty [(1, .ptr _ _), (4, .int _ _), (5, .ptr _ _)] rfl (W.seq' (W.rL (cL rfl (o_fa tt58 rfl tt3 rfl (cL rfl (zZx (v := .int _ _) tt3 rfl rfl ⟨_, rfl⟩ (cL rfl (o_eqI rfl rfl rfl (eL (W.ty [(1, .ptr _ _), (4, .int _ _), (5, .ptr _ _), (104, .bool _)] rfl (W.cn rfl (fun hc => ?_) (fun hc => ?_))))))))))))))
 have hv := hv.1 hc
 refine W.seq' (W.rLm ⟨156, look [(1, .ptr 0 0), (4, .int .i64 v4), (124, .bool (decide (((lat r.ex v4).jb = r.late) \/ ((¬ (lat r.ex v4).ba = (0 : Int)) \/ ((¬ (lat r.ex v4).op = (0 : Int)) \/ (¬ (lat r.ex v4).ver = (0 : Int)))))))], [.box 26 [.lst true r.sv.length (zYy zYx r.sv), .lst true r.jobs.length (zYy (e53 true) r.jobs), .int .i64 r.late, .int .i64 r.obj, .int .i64 r.causes, .lst true r.ex.length (zYy e58 r.ex)], .box 58 [.int .i64 ((lat r.ex v4).jb), .int .i64 ((lat r.ex v4).pc), .int .i64 ((lat r.ex v4).ca), .int .i64 ((lat r.ex v4).ba), .int .i64 ((lat r.ex v4).op), .int .i64 ((lat r.ex v4).ver)]], 0⟩ ?_ ?_)
 refine cL rfl (o_fa tt58 rfl tt3 rfl (cL rfl (zZx (v := .int _ _) tt3 rfl rfl ⟨_, rfl⟩ (cL rfl (o_fa tt26 rfl tt3 rfl (cL rfl (zZx (v := .int _ _) tt3 rfl rfl ⟨_, rfl⟩ (cL rfl (o_eqI rfl rfl rfl (mB rfl rfl ?_))))))))))
 by_cases c1 : (lat r.ex v4).jb = r.late
 iterate 3 refine cLs rfl rfl rfl (dT c1) ?_
 refine cL rfl (zZv (v := .bool _) rfl (dT c1) rfl (mB rfl rfl ?_))
 iterate 3 refine cLs rfl rfl rfl (rfl) ?_
 refine cL rfl (zZv (v := .bool _) rfl rfl rfl (mB rfl rfl ?_))
 iterate 3 refine cLs rfl rfl rfl (rfl) ?_
 refine cL rfl (zZv (v := .bool _) rfl rfl rfl (eL (zYz ⟨rfl, rfl, (congrArg AV.bool (dOrT c1)).symm, trivial⟩ rfl)))
 refine cLg rfl rfl (dF c1) (cL rfl (o_fa tt58 rfl tt3 rfl (cLg rfl rfl (dF c1) (cL rfl (zZx (v := .int _ _) tt3 rfl rfl ⟨_, rfl⟩ (cLg rfl rfl (dF c1) (cL rfl (o_neI rfl rfl rfl (cL rfl (zZy (v := .bool _) rfl (dF c1) rfl (mB rfl rfl ?_)))))))))))
 by_cases c2 : ¬ (lat r.ex v4).ba = (0 : Int)
 iterate 3 refine cLs rfl rfl rfl (dT c2) ?_
 refine cL rfl (zZv (v := .bool _) rfl (dT c2) rfl (mB rfl rfl ?_))
 iterate 3 refine cLs rfl rfl rfl (rfl) ?_
 refine cL rfl (zZv (v := .bool _) rfl rfl rfl (eL (zYz ⟨rfl, rfl, (congrArg AV.bool (dOrF c1 (dOrT c2))).symm, trivial⟩ rfl)))
 refine cLg rfl rfl (dF c2) (cL rfl (o_fa tt58 rfl tt3 rfl (cLg rfl rfl (dF c2) (cL rfl (zZx (v := .int _ _) tt3 rfl rfl ⟨_, rfl⟩ (cLg rfl rfl (dF c2) (cL rfl (o_neI rfl rfl rfl (cL rfl (zZy (v := .bool _) rfl (dF c2) rfl (mB rfl rfl ?_)))))))))))
 by_cases c3 : ¬ (lat r.ex v4).op = (0 : Int)
 iterate 3 refine cLs rfl rfl rfl (dT c3) ?_
 refine cL rfl (zZv (v := .bool _) rfl (dT c3) rfl (eL (zYz ⟨rfl, rfl, (congrArg AV.bool (dOrF c1 (dOrF c2 (dOrT c3)))).symm, trivial⟩ rfl)))
 refine cLg rfl rfl (dF c3) (cL rfl (o_fa tt58 rfl tt3 rfl (cLg rfl rfl (dF c3) (cL rfl (zZx (v := .int _ _) tt3 rfl rfl ⟨_, rfl⟩ (cLg rfl rfl (dF c3) (cL rfl (o_neI rfl rfl rfl (cL rfl (zZy (v := .bool _) rfl (dF c3) rfl (eL (zYz ⟨rfl, rfl, (congrArg AV.bool (dOrF c1 (dOrF c2 (dOrF c3 (rfl))))).symm, trivial⟩ rfl))))))))))))
 refine W.cn rfl (fun hc => ?_) (fun hc => ?_)
 have hv := hv.1 hc
 refine W.rL (aB rfl rfl (eL (W.ty [(2, .bool _)] rfl (W.ret (zZr (zZr (zYt (zZr (zZr (zYt (zZr (rt (rt_t (v := .bool _) rfl (rt_n (⟨_, zYr _ _ _, false, rfl, hv⟩)))))))))))))))
 have hv := hv.2 hc
 refine W.skip (zZ (W.ty [(1, .ptr _ _), (4, .int _ _)] rfl (W.exit (zZt (zYs (zZ (⟨(), hv, St.to_mk (φ := [some 0]) rfl (rfl) ⟨Ren.ptr rfl, Ren.int _ _, trivial⟩ ⟨(zB rfl rfl), trivial⟩⟩)))))))
 have hv := hv.2 hc
 refine W.skip (zZ (W.ty [(1, .ptr _ _), (4, .int _ _), (5, .ptr _ _)] rfl ?_))
 obtain ⟨sd, hv⟩ := hv
 refine W.rDm ⟨156, look [(1, .ptr 0 0), (4, .int .i64 v4), (155, .bool (decide ((¬ ((inM ((lat r.ex v4).pc) (0 : Int) (((((lat r.jobs ((lat r.ex v4).jb)).wk).length : Nat) : Int) - (1 : Int))) = true)) \/ ((¬ ((inM ((lat r.ex v4).ba) (0 : Int) (1099511627776 : Int)) = true)) \/ ((¬ ((inM ((lat r.ex v4).op) (0 : Int) (11 : Int)) = true)) \/ (¬ ((inM ((lat r.ex v4).ver) (0 : Int) (9 : Int)) = true)))))))], [.box 26 [.lst true r.sv.length (zYy zYx r.sv), .lst true r.jobs.length (zYy (e53 true) r.jobs), .int .i64 r.late, .int .i64 r.obj, .int .i64 r.causes, .lst true r.ex.length (zYy e58 r.ex)], .box 58 [.int .i64 ((lat r.ex v4).jb), .int .i64 ((lat r.ex v4).pc), .int .i64 ((lat r.ex v4).ca), .int .i64 ((lat r.ex v4).ba), .int .i64 ((lat r.ex v4).op), .int .i64 ((lat r.ex v4).ver)]], 0⟩ [0, 1, 2, 3, 4, 5, 6, 7, 8, 9, 10, 11, 12, 13, 14, 15, 16, 17, 18, 19, 20, 21, 22, 23, 24, 25, 26, 27, 28, 29, 30] (by decide +kernel) rfl ?_ ?_
 refine cL rfl (o_fa tt58 rfl tt3 rfl (cL rfl (zZx (v := .int _ _) tt3 rfl rfl ⟨_, rfl⟩ (cL rfl (o_fa tt26 rfl tt23 rfl (cL rfl (zZx (v := .lst _ _ _) tt23 rfl rfl ⟨_, rfl⟩ (cL rfl (o_fa tt58 rfl tt3 rfl (cL rfl (zZx (v := .int _ _) tt3 rfl rfl ⟨_, rfl⟩ ?_)))))))))))
 obtain ⟨s306, sd⟩ := sd
 refine cL rfl (zYu tt23 tt53 rfl rfl (enc53.wd true) rfl s306 ?_)
 intro rest306
 refine cL rfl (o_faP tt53 rfl tt51 rfl (cL rfl (zZx (v := .lst _ _ _) tt51 rfl rfl ⟨_, rfl⟩ (cL rfl (zXw (v := .lst _ _ _) tt51 rfl rfl ?_)))))
 obtain ⟨s307, sd⟩ := sd
 refine cL rfl (o_sub rfl rfl s307 (cL rfl (zZu (k := 39) (fst := []) (caps := []) (ys := [.int _ _, .int _ _, .int _ _]) rfl rfl (spec_in39 ((lat r.ex v4).pc) (0 : Int) (((((lat r.jobs ((lat r.ex v4).jb)).wk).length : Nat) : Int) - (1 : Int))) zk (cL rfl (o_notB rfl (mB rfl rfl ?_))))))
 by_cases c1 : ¬ ((inM ((lat r.ex v4).pc) (0 : Int) (((((lat r.jobs ((lat r.ex v4).jb)).wk).length : Nat) : Int) - (1 : Int))) = true)
 iterate 4 refine cLs rfl rfl rfl (dT c1) ?_
 refine cL rfl (zZv (v := .bool _) rfl (dT c1) rfl (mB rfl rfl ?_))
 iterate 4 refine cLs rfl rfl rfl (rfl) ?_
 refine cL rfl (zZv (v := .bool _) rfl rfl rfl (mB rfl rfl ?_))
 iterate 4 refine cLs rfl rfl rfl (rfl) ?_
 refine cL rfl (zZv (v := .bool _) rfl rfl rfl (eL (zYz ⟨rfl, rfl, (congrArg AV.bool (dOrT c1)).symm, trivial⟩ rfl)))
 refine cLg rfl rfl (dF c1) (cL rfl (o_fa tt58 rfl tt3 rfl (cLg rfl rfl (dF c1) (cL rfl (zZx (v := .int _ _) tt3 rfl rfl ⟨_, rfl⟩ (cLg rfl rfl (dF c1) (cL rfl (zZu (k := 39) (fst := []) (caps := []) (ys := [.int _ _, .int _ _, .int _ _]) rfl rfl (spec_in39 ((lat r.ex v4).ba) (0 : Int) (1099511627776 : Int)) zk (cLg rfl rfl (dF c1) (cL rfl (o_notB rfl (cL rfl (zZy (v := .bool _) rfl (dF c1) rfl (mB rfl rfl ?_))))))))))))))
 by_cases c2 : ¬ ((inM ((lat r.ex v4).ba) (0 : Int) (1099511627776 : Int)) = true)
 iterate 4 refine cLs rfl rfl rfl (dT c2) ?_
 refine cL rfl (zZv (v := .bool _) rfl (dT c2) rfl (mB rfl rfl ?_))
 iterate 4 refine cLs rfl rfl rfl (rfl) ?_
 refine cL rfl (zZv (v := .bool _) rfl rfl rfl (eL (zYz ⟨rfl, rfl, (congrArg AV.bool (dOrF c1 (dOrT c2))).symm, trivial⟩ rfl)))
 refine cLg rfl rfl (dF c2) (cL rfl (o_fa tt58 rfl tt3 rfl (cLg rfl rfl (dF c2) (cL rfl (zZx (v := .int _ _) tt3 rfl rfl ⟨_, rfl⟩ (cLg rfl rfl (dF c2) (cL rfl (zZu (k := 39) (fst := []) (caps := []) (ys := [.int _ _, .int _ _, .int _ _]) rfl rfl (spec_in39 ((lat r.ex v4).op) (0 : Int) (11 : Int)) zk (cLg rfl rfl (dF c2) (cL rfl (o_notB rfl (cL rfl (zZy (v := .bool _) rfl (dF c2) rfl (mB rfl rfl ?_))))))))))))))
 by_cases c3 : ¬ ((inM ((lat r.ex v4).op) (0 : Int) (11 : Int)) = true)
 iterate 4 refine cLs rfl rfl rfl (dT c3) ?_
 refine cL rfl (zZv (v := .bool _) rfl (dT c3) rfl (eL (zYz ⟨rfl, rfl, (congrArg AV.bool (dOrF c1 (dOrF c2 (dOrT c3)))).symm, trivial⟩ rfl)))
 refine cLg rfl rfl (dF c3) (cL rfl (o_fa tt58 rfl tt3 rfl (cLg rfl rfl (dF c3) (cL rfl (zZx (v := .int _ _) tt3 rfl rfl ⟨_, rfl⟩ (cLg rfl rfl (dF c3) (cL rfl (zZu (k := 39) (fst := []) (caps := []) (ys := [.int _ _, .int _ _, .int _ _]) rfl rfl (spec_in39 ((lat r.ex v4).ver) (0 : Int) (9 : Int)) zk (cLg rfl rfl (dF c3) (cL rfl (o_notB rfl (cL rfl (zZy (v := .bool _) rfl (dF c3) rfl (eL (zYz ⟨rfl, rfl, (congrArg AV.bool (dOrF c1 (dOrF c2 (dOrF c3 (rfl))))).symm, trivial⟩ rfl)))))))))))))))
 refine W.cn rfl (fun hc => ?_) (fun hc => ?_)
 have hv := hv.1 hc
 refine W.rL (aB rfl rfl (eL (W.ty [(2, .bool _)] rfl (W.ret (zYt (zZr (zZr (zYt (zZr (rt (rt_t (v := .bool _) rfl (rt_n (⟨_, zYr _ _ _, false, rfl, hv⟩)))))))))))))
 have hv := hv.2 hc
 refine W.skip (zYv (zZ (⟨(), hv, St.to_mk (φ := [some 0]) rfl (rfl) ⟨Ren.ptr rfl, Ren.int _ _, trivial⟩ ⟨(zB rfl rfl), trivial⟩⟩)))
 have hv := hv.2 hc
 refine W.exit (zZt (zZt (zYs (zZ (W.ty [] rfl (W.rL (aB rfl rfl (eL (W.ty [(2, .bool _)] rfl (W.ret (rt (rt_t (v := .bool _) rfl (rt_n (⟨_, zYr _ _ _, true, rfl, hv⟩))))))))))))))
set_option maxHeartbeats 4000000 in
theorem vcp_rvalid (r : Req) (h0 : r.sv.length <= 9223372036854775807) (h1 : ∀ j ∈ r.jobs, j.wk.length <= 9223372036854775807) (h2 : r.jobs.length <= 9223372036854775807) (h3 : r.ex.length <= 9223372036854775807) : vc_rvalid r (fun q0 => q0 = (validR r)) := by
  have e1 : ∀ n lo hi : Int, (inM n lo hi = true) = (lo <= n /\ n <= hi) := fun n lo hi => by unfold inM; simp
  have bad : ∀ {q : Prop}, (ValidR r -> q) -> ¬ q -> false = validR r := fun h k => by
    rcases hv : validR r with _ | _
    . rfl
    . exact absurd (h ((validR_iff r).1 hv)) k
  unfold vc_rvalid
  simp only [e1]
  refine ⟨h0, h1, h2, ⟨fun _ => trivial, fun _ => ⟨by unfold inI; omega, trivial⟩⟩, fun k => bad (q := validJ r.sv r.jobs = true /\ (0 <= r.late /\ r.late < r.jobs.length) /\ (0 <= r.obj /\ r.obj <= 4398046511104) /\ 0 <= r.causes /\ r.causes <= 6) (fun h => ⟨h.j, h.late, h.obj, h.causes⟩) fun h => ?_, fun k => ?_⟩
  . rcases k with k | k | k | k
    . exact k h.1
    . exact k (by omega)
    . exact k h.2.2.1
    . exact k h.2.2.2
  have kj : validJ r.sv r.jobs = true := Decidable.not_not.1 fun h => k (.inl h)
  have kl : 0 <= r.late /\ r.late <= (r.jobs.length : Int) - 1 := Decidable.not_not.1 fun h => k (.inr (.inl h))
  have ko : 0 <= r.obj /\ r.obj <= 4398046511104 := Decidable.not_not.1 fun h => k (.inr (.inr (.inl h)))
  have kc : 0 <= r.causes /\ r.causes <= 6 := Decidable.not_not.1 fun h => k (.inr (.inr (.inr h)))
  refine ⟨fun v => ∃ i : Nat, v = i /\ i <= r.ex.length /\ (∀ a : Nat, a < i -> ((0 <= (lat r.ex a).jb /\ (lat r.ex a).jb < r.jobs.length) /\ 0 <= (lat r.ex a).ca /\ (lat r.ex a).ca < r.causes) /\ (isRemM r (lat r.ex a) = true \/ isWorkM r (lat r.ex a) = true)) /\ ∀ a : Nat, a + 1 < i -> extLt (lat r.ex a) (lat r.ex ((a + 1 : Nat) : Int)) = true, fun v => r.ex.length - v.toNat, ⟨0, rfl, by omega, fun a ha => by omega, fun a ha => by omega⟩, ?_⟩
  rintro _ ⟨i, rfl, hi, hx, ho⟩
  have hpr : 0 < (i : Int) -> ∃ q : Nat, i = q + 1 /\ ((i : Int) - 1) = (q : Int) := fun h => ⟨i - 1, by omega, by omega⟩
  have hlt : ∀ a b : Ext, (a.jb < b.jb \/ a.jb = b.jb /\ a.pc < b.pc) ↔ extLt a b = true := fun a b => by unfold extLt; rw [decide_eq_true_eq]
  have hrem : isRemM r (lat r.ex (i : Int)) = true ↔ ((lat r.ex (i : Int)).pc = -1 /\ ¬ (lat r.ex (i : Int)).jb = r.late /\ (lat r.ex (i : Int)).ba = 0 /\ (lat r.ex (i : Int)).op = 0 /\ (lat r.ex (i : Int)).ver = 0) := by unfold isRemM; rw [decide_eq_true_eq]
  have hwrk : isWorkM r (lat r.ex (i : Int)) = true ↔ ((0 <= (lat r.ex (i : Int)).pc /\ (lat r.ex (i : Int)).pc <= ((lat r.jobs (lat r.ex (i : Int)).jb).wk.length : Int) - 1) /\ (0 <= (lat r.ex (i : Int)).ba /\ (lat r.ex (i : Int)).ba <= 1099511627776) /\ (0 <= (lat r.ex (i : Int)).op /\ (lat r.ex (i : Int)).op <= 11) /\ 0 <= (lat r.ex (i : Int)).ver /\ (lat r.ex (i : Int)).ver <= 9) := by unfold isWorkM; rw [decide_eq_true_eq]
  refine ⟨fun k1 => ⟨(((0 <= (lat r.ex i).jb /\ (lat r.ex i).jb < r.jobs.length) /\ 0 <= (lat r.ex i).ca /\ (lat r.ex i).ca < r.causes) /\ (isRemM r (lat r.ex i) = true \/ isWorkM r (lat r.ex i) = true)) /\ ∀ q : Nat, q + 1 = i -> extLt (lat r.ex q) (lat r.ex (i : Int)) = true, fun hJ => ⟨by unfold inI; omega, ⟨i + 1, by omega, by omega, fun a ha => ?_, fun a ha => ?_⟩, dec_lt k1⟩, ⟨⟨by omega, k1⟩, ⟨by unfold inI; omega, fun _ => trivial, fun _ => ⟨by unfold inI; omega, trivial⟩⟩, fun k2 => ?_, fun k2 => ⟨⟨fun k3 => ⟨by unfold inI; omega, ⟨by omega, by omega⟩, fun _ => trivial, fun _ => ⟨by unfold inI; omega, ⟨by omega, by omega⟩, fun _ => ⟨by unfold inI; omega, ⟨by omega, by omega⟩, trivial⟩, fun _ => trivial⟩⟩, fun _ => trivial⟩, fun k3 => ?_, fun k3 => ⟨fun k4 => ⟨fun k5 => ?_, fun k5 => ?_⟩, fun k4 => ⟨⟨⟨by omega, by omega⟩, ?_, trivial⟩, fun k5 => ?_, fun k5 => ?_⟩⟩⟩⟩⟩, fun k1 => ?_⟩
  . rcases Nat.lt_or_ge a i with h | h
    . exact hx a h
    . rw [show a = i by omega]; exact hJ.1
  . rcases Nat.lt_or_ge (a + 1) i with h | h
    . exact ho a h
    . have ea : i = a + 1 := by omega
      have := hJ.2 a ea.symm
      rw [ea] at this; exact this
  . refine bad (fun h => h.ex i (by omega)) fun h => ?_
    rcases k2 with k2 | k2
    . exact k2 (by omega)
    . exact k2 (by omega)
  . obtain ⟨q, rfl, e⟩ := hpr k3.1
    rw [e] at k3
    refine bad (fun h => h.ord q (by omega)) fun h => ?_
    have := (hlt _ _).2 h
    omega
  . refine bad (fun h => h.ex i (by omega)) fun h => ?_
    rcases h.2 with h | h
    . have := hrem.1 h
      omega
    . have := (hwrk.1 h).1
      omega
  . refine ⟨⟨by omega, .inl (hrem.2 (by omega))⟩, fun q hq => (hlt _ _).1 ?_⟩
    subst hq
    have e : (((q + 1 : Nat) : Int) - 1) = (q : Int) := by omega
    rw [e] at k3
    omega
  . have := h1 _ (lat_mem (xs := r.jobs) (i := (lat r.ex (i : Int)).jb) ⟨by omega, by omega⟩)
    unfold inI; omega
  . refine bad (fun h => h.ex i (by omega)) fun h => ?_
    rcases h.2 with h | h
    . exact k4 (hrem.1 h).1
    . have := hwrk.1 h
      omega
  . refine ⟨⟨by omega, .inr (hwrk.2 (by omega))⟩, fun q hq => (hlt _ _).1 ?_⟩
    subst hq
    have e : (((q + 1 : Nat) : Int) - 1) = (q : Int) := by omega
    rw [e] at k3
    omega
  . have ei : i = r.ex.length := by omega
    subst ei
    exact ((validR_iff r).2 ⟨kj, ⟨kl.1, by omega⟩, ko, kc, hx, ho⟩).symm
theorem spec_rvalid (r : Req) (h0 : r.sv.length <= 9223372036854775807) (h1 : ∀ j ∈ r.jobs, j.wk.length <= 9223372036854775807) (h2 : r.jobs.length <= 9223372036854775807) (h3 : r.ex.length <= 9223372036854775807) : FnP Try.prog 14 [.agg ((e26 true) r)] (fun xR => xR = .bool (validR r)) :=
  (walk_rvalid (vcp_rvalid r h0 h1 h2 h3)).mono (by rintro _ ⟨_, rfl, rfl⟩; rfl)
def vc_rvranges (l : (List Rg)) (Post : Bool -> Prop) : Prop :=
  ∃ (I1 : Int -> Prop) (μ1 : Int -> Nat), I1 (0 : Int) /\ ∀ (v3 : Int), I1 v3 -> ((v3 < (l.length : Int)) -> (0 <= v3 /\ v3 < (l.length : Int)) /\ (((¬ ((inM ((lat l v3).op) (0 : Int) (11 : Int)) = true)) \/ ((¬ ((inM ((lat l v3).ver) (0 : Int) (9 : Int)) = true)) \/ ((¬ ((inM ((lat l v3).nu) (1 : Int) (1000000 : Int)) = true)) \/ ((((lat l v3).le) < (0 : Int)) \/ ((((lat l v3).mo) < ((lat l v3).le)) \/ ((4398046511104 : Int) < ((lat l v3).mo))))))) -> Post false) /\ (¬ ((¬ ((inM ((lat l v3).op) (0 : Int) (11 : Int)) = true)) \/ ((¬ ((inM ((lat l v3).ver) (0 : Int) (9 : Int)) = true)) \/ ((¬ ((inM ((lat l v3).nu) (1 : Int) (1000000 : Int)) = true)) \/ ((((lat l v3).le) < (0 : Int)) \/ ((((lat l v3).mo) < ((lat l v3).le)) \/ ((4398046511104 : Int) < ((lat l v3).mo))))))) -> ((((0 : Int) < v3) -> (inI (v3 - (1 : Int))) /\ (0 <= (v3 - (1 : Int)) /\ (v3 - (1 : Int)) < (l.length : Int)) /\ ((((lat l v3).op) < ((lat l (v3 - (1 : Int))).op)) -> True) /\ (¬ (((lat l v3).op) < ((lat l (v3 - (1 : Int))).op)) -> (inI (v3 - (1 : Int))) /\ (0 <= (v3 - (1 : Int)) /\ (v3 - (1 : Int)) < (l.length : Int)) /\ (((lat l (v3 - (1 : Int))).op = (lat l v3).op) -> (inI (v3 - (1 : Int))) /\ (0 <= (v3 - (1 : Int)) /\ (v3 - (1 : Int)) < (l.length : Int)) /\ True) /\ (¬ ((lat l (v3 - (1 : Int))).op = (lat l v3).op) -> True))) /\ (¬ ((0 : Int) < v3) -> True)) /\ (((((0 : Int) < v3) /\ ((((lat l v3).op) < ((lat l (v3 - (1 : Int))).op)) \/ (((lat l (v3 - (1 : Int))).op = (lat l v3).op) /\ (((lat l v3).ver) <= ((lat l (v3 - (1 : Int))).ver))))) -> Post false) /\ (¬ (((0 : Int) < v3) /\ ((((lat l v3).op) < ((lat l (v3 - (1 : Int))).op)) \/ (((lat l (v3 - (1 : Int))).op = (lat l v3).op) /\ (((lat l v3).ver) <= ((lat l (v3 - (1 : Int))).ver))))) -> (inI (v3 + (1 : Int))) /\ (I1 (v3 + (1 : Int)) /\ μ1 (v3 + (1 : Int)) < μ1 v3))))) /\ (¬ (v3 < (l.length : Int)) -> Post true)
theorem walk_rvranges {l : (List Rg)} {Post : Bool -> Prop} (hv : vc_rvranges l Post) : FnP Try.prog 58 [.lst true l.length (zYy e73 l)] (fun x => ∃ q0, x = .bool q0 /\ Post q0) := by
 refine FnP.of_walk (T := tt) (nt := 83) ttOk ttMix ⟨⟨Try.f58, Try.func58, rfl, rfl, rfl, rfl⟩⟩ (by simp) ?_
 unfold vc_rvranges at hv
 change W _ _ _ ⟨83, look [(0, .lst true l.length (zYy e73 l))], [], 0⟩ _
 refine W.ty [(0, .lst _ _ _)] rfl (W.rL (aB rfl rfl (eL (W.ty [(0, .lst _ _ _)] rfl (W.seq' (W.rL (aI rfl rfl (eL (W.ty [(0, .lst _ _ _), (3, .int _ _)] rfl (W.block ?_))))))))))
 obtain ⟨I1, μ1, hp, hv⟩ := hv
 refine W.loop1 (fun v3 => ⟨83, look [(0, .lst true l.length (zYy e73 l)), (3, .int .i64 v3)], [], 0⟩) I1 μ1 (0 : Int) (St.to_mk (φ := []) rfl (rfl) (zT rfl rfl) trivial) hp ?_
 clear hp
 intro v3 hI
 replace hv := hv v3 hI
 clear hI
 refine W.seq' (W.rL (mI rfl rfl (mL rfl rfl (cL rfl (zXw (v := .lst _ _ _) tt32 rfl rfl (cL rfl (zYq rfl rfl (eL (W.ty [(0, .lst _ _ _), (3, .int _ _), (8, .bool _)] rfl (W.cn rfl (fun hc => ?_) (fun hc => ?_)))))))))))
 have hv := hv.1 hc
 refine W.skip (zZ (W.ty [(0, .lst _ _ _), (3, .int _ _)] rfl (W.seq' (W.block (W.rL (mL rfl rfl (mI rfl rfl ?_)))))))
 obtain ⟨s95, hv⟩ := hv
 refine cL rfl (zYu tt32 tt73 rfl rfl (enc73.wd true) rfl s95 ?_)
 intro rest95
 refine cL rfl (zYp (cs := [.int _ _, .int _ _, .int _ _, .int _ _, .int _ _]) tt73 rfl rfl ⟨_, rfl⟩ rfl (cL rfl (zXy (p := 0) tt73 rfl rfl (cLn (o_stB (v := .agg _) (vs := [.int _ _, .int _ _, .int _ _, .int _ _, .int _ _]) (cs2 := [.int _ _, .int _ _, .int _ _, .int _ _, .int _ _]) tt73 rfl rfl rfl rfl rfl (Nat.le_of_ble_eq_true rfl) rfl (eL (W.ty [(0, .lst _ _ _), (3, .int _ _), (4, .ptr _ _)] rfl (W.seq' (W.rLm ⟨83, look [(0, .lst true l.length (zYy e73 l)), (3, .int .i64 v3), (4, .ptr 0 0), (47, .bool (decide ((¬ ((inM ((lat l v3).op) (0 : Int) (11 : Int)) = true)) \/ ((¬ ((inM ((lat l v3).ver) (0 : Int) (9 : Int)) = true)) \/ ((¬ ((inM ((lat l v3).nu) (1 : Int) (1000000 : Int)) = true)) \/ ((((lat l v3).le) < (0 : Int)) \/ ((((lat l v3).mo) < ((lat l v3).le)) \/ ((4398046511104 : Int) < ((lat l v3).mo)))))))))], [.box 73 [.int .i64 ((lat l v3).op), .int .i64 ((lat l v3).ver), .int .i64 ((lat l v3).nu), .int .i64 ((lat l v3).le), .int .i64 ((lat l v3).mo)]], 0⟩ ?_ ?_)))))))))
 refine cL rfl (o_fa tt73 rfl tt3 rfl (cL rfl (zZx (v := .int _ _) tt3 rfl rfl ⟨_, rfl⟩ (cL rfl (zZu (k := 54) (fst := []) (caps := []) (ys := [.int _ _, .int _ _, .int _ _]) rfl rfl (spec_in54 ((lat l v3).op) (0 : Int) (11 : Int)) zk (cL rfl (o_notB rfl (mB rfl rfl ?_))))))))
 by_cases c1 : ¬ ((inM ((lat l v3).op) (0 : Int) (11 : Int)) = true)
 iterate 4 refine cLs rfl rfl rfl (dT c1) ?_
 refine cL rfl (zZv (v := .bool _) rfl (dT c1) rfl (mB rfl rfl ?_))
 iterate 4 refine cLs rfl rfl rfl (rfl) ?_
 refine cL rfl (zZv (v := .bool _) rfl rfl rfl (mB rfl rfl ?_))
 iterate 3 refine cLs rfl rfl rfl (rfl) ?_
 refine cL rfl (zZv (v := .bool _) rfl rfl rfl (mB rfl rfl ?_))
 iterate 5 refine cLs rfl rfl rfl (rfl) ?_
 refine cL rfl (zZv (v := .bool _) rfl rfl rfl (mB rfl rfl ?_))
 iterate 3 refine cLs rfl rfl rfl (rfl) ?_
 refine cL rfl (zZv (v := .bool _) rfl rfl rfl (eL (zYz ⟨rfl, rfl, rfl, (congrArg AV.bool (dOrT c1)).symm, trivial⟩ rfl)))
 refine cLg rfl rfl (dF c1) (cL rfl (o_fa tt73 rfl tt3 rfl (cLg rfl rfl (dF c1) (cL rfl (zZx (v := .int _ _) tt3 rfl rfl ⟨_, rfl⟩ (cLg rfl rfl (dF c1) (cL rfl (zZu (k := 54) (fst := []) (caps := []) (ys := [.int _ _, .int _ _, .int _ _]) rfl rfl (spec_in54 ((lat l v3).ver) (0 : Int) (9 : Int)) zk (cLg rfl rfl (dF c1) (cL rfl (o_notB rfl (cL rfl (zZy (v := .bool _) rfl (dF c1) rfl (mB rfl rfl ?_))))))))))))))
 by_cases c2 : ¬ ((inM ((lat l v3).ver) (0 : Int) (9 : Int)) = true)
 iterate 4 refine cLs rfl rfl rfl (dT c2) ?_
 refine cL rfl (zZv (v := .bool _) rfl (dT c2) rfl (mB rfl rfl ?_))
 iterate 3 refine cLs rfl rfl rfl (rfl) ?_
 refine cL rfl (zZv (v := .bool _) rfl rfl rfl (mB rfl rfl ?_))
 iterate 5 refine cLs rfl rfl rfl (rfl) ?_
 refine cL rfl (zZv (v := .bool _) rfl rfl rfl (mB rfl rfl ?_))
 iterate 3 refine cLs rfl rfl rfl (rfl) ?_
 refine cL rfl (zZv (v := .bool _) rfl rfl rfl (eL (zYz ⟨rfl, rfl, rfl, (congrArg AV.bool (dOrF c1 (dOrT c2))).symm, trivial⟩ rfl)))
 refine cLg rfl rfl (dF c2) (cL rfl (o_fa tt73 rfl tt3 rfl (cLg rfl rfl (dF c2) (cL rfl (zZx (v := .int _ _) tt3 rfl rfl ⟨_, rfl⟩ (cLg rfl rfl (dF c2) (cL rfl (zZu (k := 54) (fst := []) (caps := []) (ys := [.int _ _, .int _ _, .int _ _]) rfl rfl (spec_in54 ((lat l v3).nu) (1 : Int) (1000000 : Int)) zk (cLg rfl rfl (dF c2) (cL rfl (o_notB rfl (cL rfl (zZy (v := .bool _) rfl (dF c2) rfl (mB rfl rfl ?_))))))))))))))
 by_cases c3 : ¬ ((inM ((lat l v3).nu) (1 : Int) (1000000 : Int)) = true)
 iterate 3 refine cLs rfl rfl rfl (dT c3) ?_
 refine cL rfl (zZv (v := .bool _) rfl (dT c3) rfl (mB rfl rfl ?_))
 iterate 5 refine cLs rfl rfl rfl (rfl) ?_
 refine cL rfl (zZv (v := .bool _) rfl rfl rfl (mB rfl rfl ?_))
 iterate 3 refine cLs rfl rfl rfl (rfl) ?_
 refine cL rfl (zZv (v := .bool _) rfl rfl rfl (eL (zYz ⟨rfl, rfl, rfl, (congrArg AV.bool (dOrF c1 (dOrF c2 (dOrT c3)))).symm, trivial⟩ rfl)))
 refine cLg rfl rfl (dF c3) (cL rfl (o_fa tt73 rfl tt3 rfl (cLg rfl rfl (dF c3) (cL rfl (zZx (v := .int _ _) tt3 rfl rfl ⟨_, rfl⟩ (cLg rfl rfl (dF c3) (cL rfl (zYq rfl rfl (cL rfl (zZy (v := .bool _) rfl (dF c3) rfl (mB rfl rfl ?_)))))))))))
 by_cases c4 : ((lat l v3).le) < (0 : Int)
 iterate 5 refine cLs rfl rfl rfl (dT c4) ?_
 refine cL rfl (zZv (v := .bool _) rfl (dT c4) rfl (mB rfl rfl ?_))
 iterate 3 refine cLs rfl rfl rfl (rfl) ?_
 refine cL rfl (zZv (v := .bool _) rfl rfl rfl (eL (zYz ⟨rfl, rfl, rfl, (congrArg AV.bool (dOrF c1 (dOrF c2 (dOrF c3 (dOrT c4))))).symm, trivial⟩ rfl)))
 refine cLg rfl rfl (dF c4) (cL rfl (o_fa tt73 rfl tt3 rfl (cLg rfl rfl (dF c4) (cL rfl (zZx (v := .int _ _) tt3 rfl rfl ⟨_, rfl⟩ (cLg rfl rfl (dF c4) (cL rfl (o_fa tt73 rfl tt3 rfl (cLg rfl rfl (dF c4) (cL rfl (zZx (v := .int _ _) tt3 rfl rfl ⟨_, rfl⟩ (cLg rfl rfl (dF c4) (cL rfl (o_gtr rfl rfl (cL rfl (zZy (v := .bool _) rfl (dF c4) rfl (mB rfl rfl ?_)))))))))))))))))
 by_cases c5 : ((lat l v3).mo) < ((lat l v3).le)
 iterate 3 refine cLs rfl rfl rfl (dT c5) ?_
 refine cL rfl (zZv (v := .bool _) rfl (dT c5) rfl (eL (zYz ⟨rfl, rfl, rfl, (congrArg AV.bool (dOrF c1 (dOrF c2 (dOrF c3 (dOrF c4 (dOrT c5)))))).symm, trivial⟩ rfl)))
 refine cLg rfl rfl (dF c5) (cL rfl (o_fa tt73 rfl tt3 rfl (cLg rfl rfl (dF c5) (cL rfl (zZx (v := .int _ _) tt3 rfl rfl ⟨_, rfl⟩ (cLg rfl rfl (dF c5) (cL rfl (o_gtr rfl rfl (cL rfl (zZy (v := .bool _) rfl (dF c5) rfl (eL (zYz ⟨rfl, rfl, rfl, (congrArg AV.bool (dOrF c1 (dOrF c2 (dOrF c3 (dOrF c4 (dOrF c5 (rfl))))))).symm, trivial⟩ rfl))))))))))))
 refine W.cn rfl (fun hc => ?_) (fun hc => ?_)
 have hv := hv.1 hc
 refine W.rL (aB rfl rfl (eL (W.ty [(2, .bool _)] rfl (W.ret (zZr (zYt (zZr (zZr (zYt (zZr (rt (rt_t (v := .bool _) rfl (rt_n (⟨_, zYr _ _ _, false, rfl, hv⟩))))))))))))))
 have hv := hv.2 hc
 refine W.skip (zZ (W.ty [(0, .lst _ _ _), (3, .int _ _), (4, .ptr _ _)] rfl ?_))
 obtain ⟨sd, hv⟩ := hv
 refine W.rDm ⟨83, look [(0, .lst true l.length (zYy e73 l)), (3, .int .i64 v3), (82, .bool (decide (((0 : Int) < v3) /\ ((((lat l v3).op) < ((lat l (v3 - (1 : Int))).op)) \/ (((lat l (v3 - (1 : Int))).op = (lat l v3).op) /\ (((lat l v3).ver) <= ((lat l (v3 - (1 : Int))).ver)))))))], [.box 73 [.int .i64 ((lat l v3).op), .int .i64 ((lat l v3).ver), .int .i64 ((lat l v3).nu), .int .i64 ((lat l v3).le), .int .i64 ((lat l v3).mo)]], 0⟩ [0, 1, 2, 3, 4, 5, 6, 7, 8, 9, 10, 11, 12, 13, 14, 15, 16, 17, 18, 19, 20, 21, 22, 23, 24, 25, 26, 27, 28, 29, 30, 31, 32, 33, 34] (by decide +kernel) rfl ?_ ?_
 refine mI rfl rfl (cL rfl (o_gtr rfl rfl (mB rfl rfl ?_)))
 by_cases c1 : (0 : Int) < v3
 have sd := sd.1 c1
 refine cLg rfl rfl (dT c1) (mL rfl rfl (cLg rfl rfl (dT c1) (mI rfl rfl (cLg rfl rfl (dT c1) ?_))))
 obtain ⟨s102, sd⟩ := sd
 refine cL rfl (o_sub rfl rfl s102 (cLg rfl rfl (dT c1) ?_))
 obtain ⟨s103, sd⟩ := sd
 refine cL rfl (zYu tt32 tt73 rfl rfl (enc73.wd true) rfl s103 ?_)
 intro rest103
 refine cLg rfl rfl (dT c1) (cL rfl (o_faP tt73 rfl tt3 rfl (cLg rfl rfl (dT c1) (cL rfl (zZx (v := .int _ _) tt3 rfl rfl ⟨_, rfl⟩ (cLg rfl rfl (dT c1) (cL rfl (o_fa tt73 rfl tt3 rfl (cLg rfl rfl (dT c1) (cL rfl (zZx (v := .int _ _) tt3 rfl rfl ⟨_, rfl⟩ (cLg rfl rfl (dT c1) (cL rfl (o_gtr rfl rfl (cLg rfl rfl (dT c1) (mB rfl rfl ?_))))))))))))))))
 by_cases c2 : ((lat l v3).op) < ((lat l (v3 - (1 : Int))).op)
 iterate 10 refine cLs rfl rfl rfl (dT c2) ?_
 iterate 4 refine cLu rfl rfl rfl ?_
 iterate 5 refine cLu rfl rfl (by kernel_rfl) ?_
 refine cLs rfl rfl rfl (dT c2) (cLg rfl rfl (dT c1) (cL rfl (zZv (v := .bool _) rfl (dT c2) rfl (cL rfl (zZv (v := .bool _) rfl (dT c1) rfl (eL (zYz ⟨rfl, rfl, (congrArg AV.bool (zXv c1 (dOrT c2))).symm, trivial⟩ rfl)))))))
 have sd := sd.2 c2
 refine cLg rfl rfl (dF c2) (mL rfl rfl (cLg rfl rfl (dF c2) (mI rfl rfl (cLg rfl rfl (dF c2) ?_))))
 obtain ⟨s104, sd⟩ := sd
 refine cL rfl (o_sub rfl rfl s104 (cLg rfl rfl (dF c2) ?_))
 obtain ⟨s105, sd⟩ := sd
 refine cL rfl (zYu tt32 tt73 rfl rfl (enc73.wd true) rfl s105 ?_)
 intro rest105
 refine cLg rfl rfl (dF c2) (cL rfl (o_faP tt73 rfl tt3 rfl (cLg rfl rfl (dF c2) (cL rfl (zZx (v := .int _ _) tt3 rfl rfl ⟨_, rfl⟩ (cLg rfl rfl (dF c2) (cL rfl (o_fa tt73 rfl tt3 rfl (cLg rfl rfl (dF c2) (cL rfl (zZx (v := .int _ _) tt3 rfl rfl ⟨_, rfl⟩ (cLg rfl rfl (dF c2) (cL rfl (o_eqI rfl rfl rfl (cLg rfl rfl (dF c2) (mB rfl rfl ?_))))))))))))))))
 by_cases c3 : (lat l (v3 - (1 : Int))).op = (lat l v3).op
 have sd := sd.1 c3
 refine cLg rfl rfl (dT c3) (mL rfl rfl (cLg rfl rfl (dT c3) (mI rfl rfl (cLg rfl rfl (dT c3) ?_))))
 obtain ⟨s106, sd⟩ := sd
 refine cL rfl (o_sub rfl rfl s106 (cLg rfl rfl (dT c3) ?_))
 obtain ⟨s107, sd⟩ := sd
 refine cL rfl (zYu tt32 tt73 rfl rfl (enc73.wd true) rfl s107 ?_)
 intro rest107
 refine cLg rfl rfl (dT c3) (cL rfl (o_faP tt73 rfl tt3 rfl (cLg rfl rfl (dT c3) (cL rfl (zZx (v := .int _ _) tt3 rfl rfl ⟨_, rfl⟩ (cLg rfl rfl (dT c3) (cL rfl (o_fa tt73 rfl tt3 rfl (cLg rfl rfl (dT c3) (cL rfl (zZx (v := .int _ _) tt3 rfl rfl ⟨_, rfl⟩ (cLg rfl rfl (dT c3) (cL rfl (o_geq rfl rfl (cLg rfl rfl (dF c2) (cL rfl (zZv (v := .bool _) rfl (dT c3) rfl (cLg rfl rfl (dT c1) (cL rfl (zZy (v := .bool _) rfl (dF c2) rfl (cL rfl (zZv (v := .bool _) rfl (dT c1) rfl (eL (zYz ⟨rfl, rfl, (congrArg AV.bool (zXv c1 (dOrF c2 (zXv c3 (rfl))))).symm, trivial⟩ rfl))))))))))))))))))))))))
 iterate 9 refine cLs rfl rfl rfl (dF c3) ?_
 refine cLg rfl rfl (dF c2) (cL rfl (zZy (v := .bool _) rfl (dF c3) rfl (cLg rfl rfl (dT c1) (cL rfl (zZy (v := .bool _) rfl (dF c2) rfl (cL rfl (zZv (v := .bool _) rfl (dT c1) rfl (eL (zYz ⟨rfl, rfl, (congrArg AV.bool (zXv c1 (dOrF c2 (dAndF c3)))).symm, trivial⟩ rfl)))))))))
 iterate 10 refine cLs rfl rfl rfl (dF c1) ?_
 iterate 4 refine cLu rfl rfl rfl ?_
 iterate 16 refine cLu rfl rfl (by kernel_rfl) ?_
 refine cLs rfl rfl rfl (dF c1) (cL rfl (zZy (v := .bool _) rfl (dF c1) rfl (eL (zYz ⟨rfl, rfl, (congrArg AV.bool (dAndF c1)).symm, trivial⟩ rfl))))
 refine W.cn rfl (fun hc => ?_) (fun hc => ?_)
 have hv := hv.1 hc
 refine W.rL (aB rfl rfl (eL (W.ty [(2, .bool _)] rfl (W.ret (zYt (zZr (zZr (zYt (zZr (rt (rt_t (v := .bool _) rfl (rt_n (⟨_, zYr _ _ _, false, rfl, hv⟩)))))))))))))
 have hv := hv.2 hc
 refine W.skip (zYv (zZ (W.ty [(0, .lst _ _ _), (3, .int _ _)] rfl (W.rL1 (mI rfl rfl ?_)))))
 obtain ⟨s108, hv⟩ := hv
 refine cL rfl (o_add rfl rfl s108 (aI rfl rfl (eL (zZ (⟨(), (v3 + (1 : Int)), hv, St.to_mk (φ := []) rfl (rfl) (zT rfl rfl) trivial⟩)))))
 have hv := hv.2 hc
 refine W.exit (zZt (zZt (zYs (zZ (W.ty [] rfl (W.rL (aB rfl rfl (eL (W.ty [(2, .bool _)] rfl (W.ret (rt (rt_t (v := .bool _) rfl (rt_n (⟨_, zYr _ _ _, true, rfl, hv⟩))))))))))))))
set_option maxHeartbeats 4000000 in
theorem vcp_rvranges (l : (List Rg)) (h0 : l.length <= 9223372036854775807) : vc_rvranges l (fun q0 => q0 = (validRgs l)) := by
  have e1 : ∀ n lo hi : Int, (inM n lo hi = true) = (lo <= n /\ n <= hi) := fun n lo hi => by unfold inM; simp
  have bad : ∀ {q : Prop}, (RgsOk l -> q) -> ¬ q -> false = validRgs l := fun h k => by
    rcases hv : validRgs l with _ | _
    . rfl
    . exact absurd (h ((validRgs_iff l).1 hv)) k
  unfold vc_rvranges
  simp only [e1]
  refine ⟨fun v => ∃ i : Nat, v = i /\ i <= l.length /\ (∀ a : Nat, a < i -> (0 <= (lat l a).op /\ (lat l a).op <= 11) /\ (0 <= (lat l a).ver /\ (lat l a).ver <= 9) /\ (1 <= (lat l a).nu /\ (lat l a).nu <= 1000000) /\ (0 <= (lat l a).le /\ (lat l a).le <= (lat l a).mo) /\ (lat l a).mo <= 4398046511104) /\ ∀ a : Nat, a + 1 < i -> cmpR (lat l a) (lat l ((a + 1 : Nat) : Int)) < 0, fun v => l.length - v.toNat, ⟨0, rfl, by omega, fun a ha => by omega, fun a ha => by omega⟩, ?_⟩
  rintro _ ⟨i, rfl, hi, hx, ho⟩
  refine ⟨fun k1 => ⟨⟨by omega, k1⟩, fun k2 => bad (fun h => h.ok i (by omega)) (by omega), fun k2 => ⟨⟨fun k3 => ⟨by unfold inI; omega, ⟨by omega, by omega⟩, fun _ => trivial, fun _ => ⟨by unfold inI; omega, ⟨by omega, by omega⟩, fun _ => ⟨by unfold inI; omega, ⟨by omega, by omega⟩, trivial⟩, fun _ => trivial⟩⟩, fun _ => trivial⟩, fun k3 => ?_, fun k3 => ⟨by unfold inI; omega, ⟨i + 1, by omega, by omega, fun a ha => ?_, fun a ha => ?_⟩, dec_lt k1⟩⟩⟩, fun k1 => ?_⟩
  . obtain ⟨q, rfl⟩ : ∃ q, i = q + 1 := ⟨i - 1, by omega⟩
    rw [show (((q + 1 : Nat) : Int) - 1) = (q : Int) by omega] at k3
    refine bad (fun h => h.ord q (by omega)) fun h => ?_
    have := (cmpR_lt _ _).1 h
    omega
  . rcases Nat.lt_or_ge a i with h | h
    . exact hx a h
    . rw [show a = i by omega]; omega
  . rcases Nat.lt_or_ge (a + 1) i with h | h
    . exact ho a h
    . have ea : i = a + 1 := by omega
      subst ea
      rw [show (((a + 1 : Nat) : Int) - 1) = (a : Int) by omega] at k3
      refine (cmpR_lt _ _).2 ?_
      omega
  . have ei : i = l.length := by omega
    subst ei
    exact ((validRgs_iff l).2 ⟨hx, ho⟩).symm
theorem spec_rvranges (l : (List Rg)) (h0 : l.length <= 9223372036854775807) : FnP Try.prog 58 [.lst true l.length (zYy e73 l)] (fun xR => xR = .bool (validRgs l)) :=
  (walk_rvranges (vcp_rvranges l h0)).mono (by rintro _ ⟨_, rfl, rfl⟩; rfl)
def vc_rallows (l : (List Rg)) (op : Int) (ver : Int) (t : Int) (Post : Bool -> Prop) : Prop :=
  (l.length <= 9223372036854775807) /\ ((¬ ((validRgs l) = true)) -> Post false) /\ (¬ (¬ ((validRgs l) = true)) -> ∃ (I1 : Int -> Prop) (μ1 : Int -> Nat), I1 (0 : Int) /\ ∀ (v9 : Int), I1 v9 -> ((v9 < (l.length : Int)) -> ((0 <= v9 /\ v9 < (l.length : Int)) /\ (((lat l v9).op = op) -> (0 <= v9 /\ v9 < (l.length : Int)) /\ True) /\ (¬ ((lat l v9).op = op) -> True)) /\ (((((lat l v9).op = op) /\ ((lat l v9).ver = ver)) -> ((0 <= v9 /\ v9 < (l.length : Int)) /\ (((3 : Int) <= ((lat l v9).nu)) -> (0 <= v9 /\ v9 < (l.length : Int)) /\ (0 <= v9 /\ v9 < (l.length : Int)) /\ True) /\ (¬ ((3 : Int) <= ((lat l v9).nu)) -> True)) /\ (Post (decide (((3 : Int) <= ((lat l v9).nu)) /\ ((inM t ((lat l v9).le) ((lat l v9).mo)) = true))))) /\ (¬ (((lat l v9).op = op) /\ ((lat l v9).ver = ver)) -> (inI (v9 + (1 : Int))) /\ (I1 (v9 + (1 : Int)) /\ μ1 (v9 + (1 : Int)) < μ1 v9)))) /\ (¬ (v9 < (l.length : Int)) -> Post false))
theorem walk_rallows {l : (List Rg)} {op : Int} {ver : Int} {t : Int} {Post : Bool -> Prop} (hv : vc_rallows l op ver t Post) : FnP Try.prog 41 [.lst true l.length (zYy e73 l), .int .i64 op, .int .i64 ver, .int .i64 t] (fun x => ∃ q0, x = .bool q0 /\ Post q0) := by
 refine FnP.of_walk (T := tt) (nt := 55) ttOk ttMix ⟨⟨Try.f41, Try.func41, rfl, rfl, rfl, rfl⟩⟩ (by simp) ?_
 unfold vc_rallows at hv
 change W _ _ _ ⟨55, look [(0, .lst true l.length (zYy e73 l)), (1, .int .i64 op), (2, .int .i64 ver), (3, .int .i64 t)], [], 0⟩ _
 refine W.ty [(0, .lst _ _ _), (1, .int _ _), (2, .int _ _), (3, .int _ _)] rfl (W.rL (aB rfl rfl (eL (W.ty [(0, .lst _ _ _), (1, .int _ _), (2, .int _ _), (3, .int _ _)] rfl (W.seq' (W.rL (mL rfl rfl ?_)))))))
 obtain ⟨s2, hv⟩ := hv
 refine cL rfl (zZu (k := 58) (fst := []) (caps := []) (ys := [.lst _ _ _]) rfl rfl (spec_rvranges l s2) zk (cL rfl (o_notB rfl (eL (W.ty [(0, .lst _ _ _), (1, .int _ _), (2, .int _ _), (3, .int _ _), (12, .bool _)] rfl (W.cn rfl (fun hc => ?_) (fun hc => ?_)))))))
 have hv := hv.1 hc
 refine W.rL (aB rfl rfl (eL (W.ty [(8, .bool _)] rfl (W.ret (zZr (rt (rt_t (v := .bool _) rfl (rt_n (⟨_, zYr _ _ _, false, rfl, hv⟩)))))))))
 have hv := hv.2 hc
 refine W.skip (zZ (W.ty [(0, .lst _ _ _), (1, .int _ _), (2, .int _ _), (3, .int _ _)] rfl (W.seq' (W.rL (aI rfl rfl (eL (W.ty [(0, .lst _ _ _), (1, .int _ _), (2, .int _ _), (3, .int _ _), (9, .int _ _)] rfl (W.block ?_))))))))
 obtain ⟨I1, μ1, hp, hv⟩ := hv
 refine W.loop1 (fun v9 => ⟨55, look [(0, .lst true l.length (zYy e73 l)), (1, .int .i64 op), (2, .int .i64 ver), (3, .int .i64 t), (9, .int .i64 v9)], [], 0⟩) I1 μ1 (0 : Int) (St.to_mk (φ := []) rfl (rfl) (zT rfl rfl) trivial) hp ?_
 clear hp
 intro v9 hI
 replace hv := hv v9 hI
 clear hI
 refine W.seq' (W.rL (mI rfl rfl (mL rfl rfl (cL rfl (zXw (v := .lst _ _ _) tt32 rfl rfl (cL rfl (zYq rfl rfl (eL (W.ty [(0, .lst _ _ _), (1, .int _ _), (2, .int _ _), (3, .int _ _), (9, .int _ _), (16, .bool _)] rfl (W.cn rfl (fun hc => ?_) (fun hc => ?_)))))))))))
 have hv := hv.1 hc
 refine W.skip (zZ (W.ty [(0, .lst _ _ _), (1, .int _ _), (2, .int _ _), (3, .int _ _), (9, .int _ _)] rfl (W.seq' (W.block ?_))))
 obtain ⟨sd, hv⟩ := hv
 refine W.rLm ⟨55, look [(0, .lst true l.length (zYy e73 l)), (1, .int .i64 op), (2, .int .i64 ver), (3, .int .i64 t), (9, .int .i64 v9), (34, .bool (decide (((lat l v9).op = op) /\ ((lat l v9).ver = ver))))], [], 0⟩ ?_ ?_
 refine mL rfl rfl (mI rfl rfl ?_)
 obtain ⟨s78, sd⟩ := sd
 refine cL rfl (zYu tt32 tt73 rfl rfl (enc73.wd true) rfl s78 ?_)
 intro rest78
 refine cL rfl (o_faP tt73 rfl tt3 rfl (cL rfl (zZx (v := .int _ _) tt3 rfl rfl ⟨_, rfl⟩ (mI rfl rfl (cL rfl (o_eqI rfl rfl rfl (mB rfl rfl ?_)))))))
 by_cases c1 : (lat l v9).op = op
 have sd := sd.1 c1
 refine cLg rfl rfl (dT c1) (mL rfl rfl (cLg rfl rfl (dT c1) (mI rfl rfl (cLg rfl rfl (dT c1) ?_))))
 obtain ⟨s79, sd⟩ := sd
 refine cL rfl (zYu tt32 tt73 rfl rfl (enc73.wd true) rfl s79 ?_)
 intro rest79
 refine cLg rfl rfl (dT c1) (cL rfl (o_faP tt73 rfl tt3 rfl (cLg rfl rfl (dT c1) (cL rfl (zZx (v := .int _ _) tt3 rfl rfl ⟨_, rfl⟩ (cLg rfl rfl (dT c1) (mI rfl rfl (cLg rfl rfl (dT c1) (cL rfl (o_eqI rfl rfl rfl (cL rfl (zZv (v := .bool _) rfl (dT c1) rfl (eL (zYz ⟨rfl, rfl, rfl, rfl, rfl, (congrArg AV.bool (zXv c1 (rfl))).symm, trivial⟩ rfl))))))))))))))
 iterate 7 refine cLs rfl rfl rfl (dF c1) ?_
 refine cL rfl (zZy (v := .bool _) rfl (dF c1) rfl (eL (zYz ⟨rfl, rfl, rfl, rfl, rfl, (congrArg AV.bool (dAndF c1)).symm, trivial⟩ rfl)))
 refine W.cn rfl (fun hc => ?_) (fun hc => ?_)
 have hv := hv.1 hc
 obtain ⟨sd, hv⟩ := hv
 refine W.rDm ⟨55, look [(8, .bool (decide (((3 : Int) <= ((lat l v9).nu)) /\ ((inM t ((lat l v9).le) ((lat l v9).mo)) = true))))], [], 0⟩ [0, 1, 2, 3, 4, 5, 6, 7, 8, 9, 10, 11, 12, 13, 14, 15, 16, 17, 18, 19, 20] (by decide +kernel) rfl ?_ ?_
 refine mL rfl rfl (mI rfl rfl ?_)
 obtain ⟨s83, sd⟩ := sd
 refine cL rfl (zYu tt32 tt73 rfl rfl (enc73.wd true) rfl s83 ?_)
 intro rest83
 refine cL rfl (o_faP tt73 rfl tt3 rfl (cL rfl (zZx (v := .int _ _) tt3 rfl rfl ⟨_, rfl⟩ (cL rfl (o_geq rfl rfl (mB rfl rfl ?_))))))
 by_cases c1 : (3 : Int) <= ((lat l v9).nu)
 have sd := sd.1 c1
 refine cLg rfl rfl (dT c1) (mI rfl rfl (cLg rfl rfl (dT c1) (mL rfl rfl (cLg rfl rfl (dT c1) (mI rfl rfl (cLg rfl rfl (dT c1) ?_))))))
 obtain ⟨s84, sd⟩ := sd
 refine cL rfl (zYu tt32 tt73 rfl rfl (enc73.wd true) rfl s84 ?_)
 intro rest84
 refine cLg rfl rfl (dT c1) (cL rfl (o_faP tt73 rfl tt3 rfl (cLg rfl rfl (dT c1) (cL rfl (zZx (v := .int _ _) tt3 rfl rfl ⟨_, rfl⟩ (cLg rfl rfl (dT c1) (mL rfl rfl (cLg rfl rfl (dT c1) (mI rfl rfl (cLg rfl rfl (dT c1) ?_))))))))))
 obtain ⟨s85, sd⟩ := sd
 refine cL rfl (zYu tt32 tt73 rfl rfl (enc73.wd true) rfl s85 ?_)
 intro rest85
 refine cLg rfl rfl (dT c1) (cL rfl (o_faP tt73 rfl tt3 rfl (cLg rfl rfl (dT c1) (cL rfl (zZx (v := .int _ _) tt3 rfl rfl ⟨_, rfl⟩ (cLg rfl rfl (dT c1) (cL rfl (zZu (k := 54) (fst := []) (caps := []) (ys := [.int _ _, .int _ _, .int _ _]) rfl rfl (spec_in54 t ((lat l v9).le) ((lat l v9).mo)) zk (cL rfl (zZv (v := .bool _) rfl (dT c1) rfl (aB rfl rfl (eL (zYz ⟨(congrArg AV.bool (zXv c1 (dVar _))).symm, trivial⟩ rfl)))))))))))))
 iterate 12 refine cLs rfl rfl rfl (dF c1) ?_
 refine cL rfl (zZy (v := .bool _) rfl (dF c1) rfl (aB rfl rfl (eL (zYz ⟨(congrArg AV.bool (dAndF c1)).symm, trivial⟩ rfl))))
 refine W.ret (zYt (zZr (zZr (zYt (zZr (rt (rt_t (v := .bool _) rfl (rt_n (⟨_, zYr _ _ _, (decide (((3 : Int) <= ((lat l v9).nu)) /\ ((inM t ((lat l v9).le) ((lat l v9).mo)) = true))), rfl, hv⟩)))))))))
 have hv := hv.2 hc
 refine W.skip (zYv (zZ (W.ty [(0, .lst _ _ _), (1, .int _ _), (2, .int _ _), (3, .int _ _), (9, .int _ _)] rfl (W.rL1 (mI rfl rfl ?_)))))
 obtain ⟨s86, hv⟩ := hv
 refine cL rfl (o_add rfl rfl s86 (aI rfl rfl (eL (zZ (⟨(), (v9 + (1 : Int)), hv, St.to_mk (φ := []) rfl (rfl) (zT rfl rfl) trivial⟩)))))
 have hv := hv.2 hc
 refine W.exit (zZt (zZt (zYs (zZ (W.ty [] rfl (W.rL (aB rfl rfl (eL (W.ty [(8, .bool _)] rfl (W.ret (rt (rt_t (v := .bool _) rfl (rt_n (⟨_, zYr _ _ _, false, rfl, hv⟩))))))))))))))
set_option maxHeartbeats 4000000 in
theorem vcp_rallows (l : (List Rg)) (op : Int) (ver : Int) (t : Int) (h0 : l.length <= 1073741824) : vc_rallows l op ver t (fun q0 => q0 = (allowsM l op ver t)) := by
  have e1 : ∀ n lo hi : Int, (inM n lo hi = true) = (lo <= n /\ n <= hi) := fun n lo hi => by unfold inM; simp
  unfold vc_rallows
  refine ⟨by omega, fun k => ?_, fun k => ?_⟩
  . show false = allowsM l op ver t
    unfold allowsM
    symm
    rw [decide_eq_false_iff_not]
    exact fun h => k h.1
  have k := Decidable.not_not.1 k
  have hs := ((validRgs_iff l).1 k).sorted
  refine ⟨fun v => ∃ i : Nat, v = i /\ i <= l.length /\ ∀ a : Nat, a < i -> ¬ ((lat l a).op = op /\ (lat l a).ver = ver), fun v => l.length - v.toNat, ⟨0, rfl, by omega, fun a ha => by omega⟩, ?_⟩
  rintro _ ⟨i, rfl, hi, hx⟩
  refine ⟨fun k1 => ⟨⟨⟨by omega, k1⟩, fun _ => ⟨⟨by omega, k1⟩, trivial⟩, fun _ => trivial⟩, fun k2 => ⟨⟨⟨by omega, k1⟩, fun _ => ⟨⟨by omega, k1⟩, ⟨by omega, k1⟩, trivial⟩, fun _ => trivial⟩, ?_⟩, fun k2 => ⟨by unfold inI; omega, ⟨i + 1, by omega, by omega, fun a ha => ?_⟩, dec_lt k1⟩⟩, fun k1 => ?_⟩
  . show decide _ = allowsM l op ver t
    obtain ⟨b1, b2⟩ := bs_hit (x := ⟨op, ver, 0, 0, 0⟩) hs (i := i) (by omega) k2
    have b2 : bsI l ⟨op, ver, 0, 0, 0⟩ = i := b2
    unfold allowsM
    rw [b2]
    refine decide_eq_decide.2 ?_
    rw [e1]
    exact ⟨fun h => ⟨k, b1, h⟩, fun h => h.2.2⟩
  . rcases Nat.lt_or_ge a i with h | h
    . exact hx a h
    . rw [show a = i by omega]; exact k2
  . show false = allowsM l op ver t
    symm
    rw [Bool.eq_false_iff]
    intro h
    obtain ⟨a, ha, he, _⟩ := (allows_iff k op ver t).1 h
    exact hx a (by omega) he
theorem spec_rallows (l : (List Rg)) (op : Int) (ver : Int) (t : Int) (h0 : l.length <= 1073741824) : FnP Try.prog 41 [.lst true l.length (zYy e73 l), .int .i64 op, .int .i64 ver, .int .i64 t] (fun xR => xR = .bool (allowsM l op ver t)) :=
  (walk_rallows (vcp_rallows l op ver t h0)).mono (by rintro _ ⟨_, rfl, rfl⟩; rfl)
def vc_rsup (r : Req) (l : (List Rg)) (Post : Bool -> Prop) : Prop :=
  (r.sv.length <= 9223372036854775807) /\ (∀ j ∈ r.jobs, j.wk.length <= 9223372036854775807) /\ (r.jobs.length <= 9223372036854775807) /\ (r.ex.length <= 9223372036854775807) /\ ((¬ ((validR r) = true)) -> Post false) /\ (¬ (¬ ((validR r) = true)) -> ∃ (I1 : Int -> Prop) (μ1 : Int -> Nat), I1 (0 : Int) /\ ∀ (v5 : Int), I1 v5 -> ((v5 < (r.ex.length : Int)) -> (0 <= v5 /\ v5 < (r.ex.length : Int)) /\ (l.length <= 1073741824) /\ (((¬ (lat r.ex v5).pc = (-1 : Int)) /\ (¬ ((allowsM l ((lat r.ex v5).op) ((lat r.ex v5).ver) ((lat r.ex v5).ba)) = true))) -> Post false) /\ (¬ ((¬ (lat r.ex v5).pc = (-1 : Int)) /\ (¬ ((allowsM l ((lat r.ex v5).op) ((lat r.ex v5).ver) ((lat r.ex v5).ba)) = true))) -> (inI (v5 + (1 : Int))) /\ (I1 (v5 + (1 : Int)) /\ μ1 (v5 + (1 : Int)) < μ1 v5))) /\ (¬ (v5 < (r.ex.length : Int)) -> Post true))
theorem walk_rsup {r : Req} {l : (List Rg)} {Post : Bool -> Prop} (hv : vc_rsup r l Post) : FnP Try.prog 16 [.agg ((e26 true) r), .lst true l.length (zYy e73 l)] (fun x => ∃ q0, x = .bool q0 /\ Post q0) := by
 refine FnP.of_walk (T := tt) (nt := 38) ttOk ttMix ⟨⟨Try.f16, Try.func16, rfl, rfl, rfl, rfl⟩⟩ (by simp) ?_
 unfold vc_rsup at hv
 change W _ _ _ ⟨38, look [(0, .agg [.lst true r.sv.length (zYy zYx r.sv), .lst true r.jobs.length (zYy (e53 true) r.jobs), .int .i64 r.late, .int .i64 r.obj, .int .i64 r.causes, .lst true r.ex.length (zYy e58 r.ex)]), (1, .lst true l.length (zYy e73 l))], [], 0⟩ _
 refine W.ty [(0, .agg _), (1, .lst _ _ _)] rfl (W.rL (cL rfl (o_box (v := .agg _) (p := 0) rfl rfl rfl (aB rfl rfl (eL (W.ty [(1, .lst _ _ _), (2, .ptr _ _)] rfl (W.seq' (W.rL (cL rfl (zYp (cs := [.lst _ _ _, .lst _ _ _, .int _ _, .int _ _, .int _ _, .lst _ _ _]) tt26 rfl rfl ⟨_, rfl⟩ rfl ?_))))))))))
 obtain ⟨s5, s6, s7, s8, hv⟩ := hv
 refine cL rfl (zZu (k := 14) (fst := []) (caps := []) (ys := [.agg _]) rfl rfl (spec_rvalid r s5 s6 s7 s8) zk (cL rfl (o_notB rfl (eL (W.ty [(1, .lst _ _ _), (2, .ptr _ _), (10, .bool _)] rfl (W.cn rfl (fun hc => ?_) (fun hc => ?_)))))))
 have hv := hv.1 hc
 refine W.rL (aB rfl rfl (eL (W.ty [(4, .bool _)] rfl (W.ret (zZr (rt (rt_t (v := .bool _) rfl (rt_n (⟨_, zYr _ _ _, false, rfl, hv⟩)))))))))
 have hv := hv.2 hc
 refine W.skip (zZ (W.ty [(1, .lst _ _ _), (2, .ptr _ _)] rfl (W.seq' (W.rL (aI rfl rfl (eL (W.ty [(1, .lst _ _ _), (2, .ptr _ _), (5, .int _ _)] rfl (W.block ?_))))))))
 obtain ⟨I1, μ1, hp, hv⟩ := hv
 refine W.loop1 (fun v5 => ⟨38, look [(1, .lst true l.length (zYy e73 l)), (2, .ptr 0 0), (5, .int .i64 v5)], [.box 26 [.lst true r.sv.length (zYy zYx r.sv), .lst true r.jobs.length (zYy (e53 true) r.jobs), .int .i64 r.late, .int .i64 r.obj, .int .i64 r.causes, .lst true r.ex.length (zYy e58 r.ex)]], 0⟩) I1 μ1 (0 : Int) (St.to_mk (φ := [some 0]) rfl (rfl) ⟨Ren.lst _ _ _, Ren.ptr rfl, Ren.int _ _, trivial⟩ ⟨(zB rfl rfl), trivial⟩) hp ?_
 clear hp
 intro v5 hI
 replace hv := hv v5 hI
 clear hI
 refine W.seq' (W.rL (mI rfl rfl (cL rfl (o_fa tt26 rfl tt24 rfl (cL rfl (zZx (v := .lst _ _ _) tt24 rfl rfl ⟨_, rfl⟩ (cL rfl (zXw (v := .lst _ _ _) tt24 rfl rfl (cL rfl (zYq rfl rfl (eL (W.ty [(1, .lst _ _ _), (2, .ptr _ _), (5, .int _ _), (15, .bool _)] rfl (W.cn rfl (fun hc => ?_) (fun hc => ?_))))))))))))))
 have hv := hv.1 hc
 refine W.skip (zZ (W.ty [(1, .lst _ _ _), (2, .ptr _ _), (5, .int _ _)] rfl (W.seq' (W.block (W.rL (cL rfl (o_fa tt26 rfl tt24 rfl (cL rfl (zZx (v := .lst _ _ _) tt24 rfl rfl ⟨_, rfl⟩ (mI rfl rfl ?_))))))))))
 obtain ⟨s26, hv⟩ := hv
 refine cL rfl (zYu tt24 tt58 rfl rfl (enc58.wd true) rfl s26 ?_)
 intro rest26
 refine cL rfl (zYp (cs := [.int _ _, .int _ _, .int _ _, .int _ _, .int _ _, .int _ _]) tt58 rfl rfl ⟨_, rfl⟩ rfl (cL rfl (zXy (p := 1) tt58 rfl rfl (cLn (o_stB (v := .agg _) (vs := [.int _ _, .int _ _, .int _ _, .int _ _, .int _ _, .int _ _]) (cs2 := [.int _ _, .int _ _, .int _ _, .int _ _, .int _ _, .int _ _]) tt58 rfl rfl rfl rfl rfl (Nat.le_of_ble_eq_true rfl) rfl (eL (W.ty [(1, .lst _ _ _), (2, .ptr _ _), (5, .int _ _), (6, .ptr _ _)] rfl (W.rL (mL rfl rfl (cL rfl (o_fa tt58 rfl tt3 rfl (cL rfl (zZx (v := .int _ _) tt3 rfl rfl ⟨_, rfl⟩ (cL rfl (o_fa tt58 rfl tt3 rfl (cL rfl (zZx (v := .int _ _) tt3 rfl rfl ⟨_, rfl⟩ (cL rfl (o_fa tt58 rfl tt3 rfl (cL rfl (zZx (v := .int _ _) tt3 rfl rfl ⟨_, rfl⟩ ?_)))))))))))))))))))))
 obtain ⟨s27, hv⟩ := hv
 refine cL rfl (zZu (k := 41) (fst := []) (caps := []) (ys := [.lst _ _ _, .int _ _, .int _ _, .int _ _]) rfl rfl (spec_rallows l ((lat r.ex v5).op) ((lat r.ex v5).ver) ((lat r.ex v5).ba) s27) zk (aB rfl rfl (eL (W.ty [(1, .lst _ _ _), (2, .ptr _ _), (5, .int _ _), (6, .ptr _ _), (7, .bool _)] rfl (W.rLm ⟨38, look [(1, .lst true l.length (zYy e73 l)), (2, .ptr 0 0), (5, .int .i64 v5), (37, .bool (decide ((¬ (lat r.ex v5).pc = (-1 : Int)) /\ (¬ ((allowsM l ((lat r.ex v5).op) ((lat r.ex v5).ver) ((lat r.ex v5).ba)) = true)))))], [.box 26 [.lst true r.sv.length (zYy zYx r.sv), .lst true r.jobs.length (zYy (e53 true) r.jobs), .int .i64 r.late, .int .i64 r.obj, .int .i64 r.causes, .lst true r.ex.length (zYy e58 r.ex)], .box 58 [.int .i64 ((lat r.ex v5).jb), .int .i64 ((lat r.ex v5).pc), .int .i64 ((lat r.ex v5).ca), .int .i64 ((lat r.ex v5).ba), .int .i64 ((lat r.ex v5).op), .int .i64 ((lat r.ex v5).ver)]], 0⟩ ?_ ?_)))))
 refine cL rfl (o_fa tt58 rfl tt3 rfl (cL rfl (zZx (v := .int _ _) tt3 rfl rfl ⟨_, rfl⟩ (cL rfl (o_neI rfl rfl rfl (mB rfl rfl ?_))))))
 by_cases c1 : ¬ (lat r.ex v5).pc = (-1 : Int)
 refine cLg rfl rfl (dT c1) (mB rfl rfl (cLg rfl rfl (dT c1) (cL rfl (o_notB rfl (cL rfl (zZv (v := .bool _) rfl (dT c1) rfl (eL (zYz ⟨rfl, rfl, rfl, (congrArg AV.bool (zXv c1 (rfl))).symm, trivial⟩ rfl))))))))
 iterate 2 refine cLs rfl rfl rfl (dF c1) ?_
 refine cL rfl (zZy (v := .bool _) rfl (dF c1) rfl (eL (zYz ⟨rfl, rfl, rfl, (congrArg AV.bool (dAndF c1)).symm, trivial⟩ rfl)))
 refine W.cn rfl (fun hc => ?_) (fun hc => ?_)
 have hv := hv.1 hc
 refine W.rL (aB rfl rfl (eL (W.ty [(4, .bool _)] rfl (W.ret (zYt (zZr (zZr (zYt (zZr (rt (rt_t (v := .bool _) rfl (rt_n (⟨_, zYr _ _ _, false, rfl, hv⟩)))))))))))))
 have hv := hv.2 hc
 refine W.skip (zYv (zZ (W.ty [(1, .lst _ _ _), (2, .ptr _ _), (5, .int _ _)] rfl (W.rL1 (mI rfl rfl ?_)))))
 obtain ⟨s28, hv⟩ := hv
 refine cL rfl (o_add rfl rfl s28 (aI rfl rfl (eL (zZ (⟨(), (v5 + (1 : Int)), hv, St.to_mk (φ := [some 0]) rfl (rfl) ⟨Ren.lst _ _ _, Ren.ptr rfl, Ren.int _ _, trivial⟩ ⟨(zB rfl rfl), trivial⟩⟩)))))
 have hv := hv.2 hc
 refine W.exit (zZt (zZt (zYs (zZ (W.ty [] rfl (W.rL (aB rfl rfl (eL (W.ty [(4, .bool _)] rfl (W.ret (rt (rt_t (v := .bool _) rfl (rt_n (⟨_, zYr _ _ _, true, rfl, hv⟩))))))))))))))
set_option maxHeartbeats 4000000 in
theorem vcp_rsup (r : Req) (l : (List Rg)) (h0 : r.sv.length <= 9223372036854775807) (h1 : ∀ j ∈ r.jobs, j.wk.length <= 9223372036854775807) (h2 : r.jobs.length <= 9223372036854775807) (h3 : r.ex.length <= 9223372036854775807) (h4 : l.length <= 1073741824) : vc_rsup r l (fun q0 => q0 = (supM r l)) := by
  unfold vc_rsup
  refine ⟨h0, h1, h2, h3, fun k => ?_, fun k => ?_⟩
  . show false = supM r l
    unfold supM
    rw [Bool.eq_false_iff.2 k]; rfl
  have k := Decidable.not_not.1 k
  have bad : ∀ {q : Prop}, ((∀ x ∈ r.ex, x.pc = -1 \/ allowsM l x.op x.ver x.ba = true) -> q) -> ¬ q -> false = supM r l := fun h kk => by
    rcases hv : supM r l with _ | _
    . rfl
    . unfold supM at hv
      rw [Bool.and_eq_true, List.all_eq_true] at hv
      refine absurd (h fun x hx => ?_) kk
      have := hv.2 x hx
      rwa [Bool.or_eq_true, decide_eq_true_eq] at this
  refine ⟨fun v => ∃ i : Nat, v = i /\ i <= r.ex.length /\ ∀ a : Nat, a < i -> (lat r.ex a).pc = -1 \/ allowsM l (lat r.ex a).op (lat r.ex a).ver (lat r.ex a).ba = true, fun v => r.ex.length - v.toNat, ⟨0, rfl, by omega, fun a ha => by omega⟩, ?_⟩
  rintro _ ⟨i, rfl, hi, hx⟩
  refine ⟨fun k1 => ⟨⟨by omega, k1⟩, h4, fun k2 => bad (fun h => h _ (lat_mem (xs := r.ex) (i := (i : Int)) ⟨by omega, k1⟩)) (fun h => h.elim k2.1 k2.2), fun k2 => ⟨by unfold inI; omega, ⟨i + 1, by omega, by omega, fun a ha => ?_⟩, dec_lt k1⟩⟩, fun k1 => ?_⟩
  . rcases Nat.lt_or_ge a i with h | h
    . exact hx a h
    . rw [show a = i by omega]
      by_cases e : (lat r.ex (i : Int)).pc = -1
      . exact .inl e
      . exact .inr (Decidable.not_not.1 fun h => k2 ⟨e, h⟩)
  . show true = supM r l
    unfold supM
    rw [k, Bool.true_and]
    symm
    rw [List.all_eq_true]
    intro x hxm
    obtain ⟨b, hb, rfl⟩ := List.mem_iff_getElem.1 hxm
    have := hx b (by omega)
    rw [lat_get hb] at this
    rw [Bool.or_eq_true, decide_eq_true_eq]
    exact this
theorem spec_rsup (r : Req) (l : (List Rg)) (h0 : r.sv.length <= 9223372036854775807) (h1 : ∀ j ∈ r.jobs, j.wk.length <= 9223372036854775807) (h2 : r.jobs.length <= 9223372036854775807) (h3 : r.ex.length <= 9223372036854775807) (h4 : l.length <= 1073741824) : FnP Try.prog 16 [.agg ((e26 true) r), .lst true l.length (zYy e73 l)] (fun xR => xR = .bool (supM r l)) :=
  (walk_rsup (vcp_rsup r l h0 h1 h2 h3 h4)).mono (by rintro _ ⟨_, rfl, rfl⟩; rfl)
def vc_rwith (r : Req) (p : Int) (Post : (List Job) -> Int -> Prop) : Prop :=
  ((r.sv.length <= 9223372036854775807) /\ (∀ j ∈ r.jobs, j.wk.length <= 9223372036854775807) /\ (r.jobs.length <= 9223372036854775807) /\ (r.ex.length <= 9223372036854775807) /\ ((¬ ((validR r) = true)) -> True) /\ (¬ (¬ ((validR r) = true)) -> (0 <= r.causes) /\ (inI ((1 : Int) * 2 ^ (min r.causes.toNat 64))) /\ (inI (((1 : Int) * 2 ^ (min r.causes.toNat 64)) - (1 : Int))) /\ True)) /\ ((((¬ ((validR r) = true)) \/ (¬ ((inM p (0 : Int) (((1 : Int) * 2 ^ (min r.causes.toNat 64)) - (1 : Int))) = true))) -> Post [] (240 : Int)) /\ (¬ ((¬ ((validR r) = true)) \/ (¬ ((inM p (0 : Int) (((1 : Int) * 2 ^ (min r.causes.toNat 64)) - (1 : Int))) = true))) -> ∃ (I1 : Int -> List Job -> Prop) (μ1 : Int -> List Job -> Nat), I1 (0 : Int) [] /\ ∀ (v7 : Int) (r1 : List Job), I1 v7 r1 -> ((v7 < (r.jobs.length : Int)) -> (0 <= v7 /\ v7 < (r.jobs.length : Int)) /\ (((lat r.jobs v7).wk).length <= 1073741824) /\ ∃ (I2 : Bool -> Int -> List Ld -> Int -> Prop) (μ2 : Bool -> Int -> List Ld -> Int -> Nat), I2 false (0 : Int) ((lat r.jobs v7).wk) ((lat r.jobs v7).ar) /\ ∀ (v9 : Bool) (v10 : Int) (r3 : List Ld) (b4ar : Int), I2 v9 v10 r3 b4ar -> ((v10 < (r.ex.length : Int)) -> ∃ J3 : List Ld -> Bool -> Prop, (∀ (r3_1 : List Ld) (v9_1 : Bool), J3 r3_1 v9_1 -> (inI (v10 + (1 : Int))) /\ (I2 v9_1 (v10 + (1 : Int)) r3_1 b4ar /\ μ2 v9_1 (v10 + (1 : Int)) r3_1 b4ar < μ2 v9 v10 r3 b4ar)) /\ ((0 <= v10 /\ v10 < (r.ex.length : Int)) /\ (((¬ (lat r.ex v10).jb = v7) -> True) /\ (¬ (¬ (lat r.ex v10).jb = v7) -> (0 <= ((lat r.ex v10).ca)) /\ True)) /\ ((((¬ (lat r.ex v10).jb = v7) \/ (bitI .and .i64 (p.fdiv (2 ^ (min ((lat r.ex v10).ca).toNat 64))) (1 : Int) = (1 : Int))) -> J3 r3 v9) /\ (¬ ((¬ (lat r.ex v10).jb = v7) \/ (bitI .and .i64 (p.fdiv (2 ^ (min ((lat r.ex v10).ca).toNat 64))) (1 : Int) = (1 : Int))) -> (((lat r.ex v10).pc = (-1 : Int)) -> J3 r3 true) /\ (¬ ((lat r.ex v10).pc = (-1 : Int)) -> (0 <= ((lat r.ex v10).pc) /\ ((lat r.ex v10).pc) < (r3.length : Int)) /\ J3 (r3.set ((lat r.ex v10).pc).toNat (⟨(lat r3 ((lat r.ex v10).pc)).st, (lat r.ex v10).ba⟩ : Ld)) v9))))) /\ (¬ (v10 < (r.ex.length : Int)) -> ∃ J4 : List Ld -> Prop, (∀ (r3_1 : List Ld), J4 r3_1 -> ((r1 ++ [(Job.mk b4ar r3_1)]).length <= 1073741824) /\ (inI (v7 + (1 : Int))) /\ (I1 (v7 + (1 : Int)) (r1 ++ [(Job.mk b4ar r3_1)]) /\ μ1 (v7 + (1 : Int)) (r1 ++ [(Job.mk b4ar r3_1)]) < μ1 v7 r1)) /\ (((v9 = true) -> J4 []) /\ (¬ (v9 = true) -> J4 r3)))) /\ (¬ (v7 < (r.jobs.length : Int)) -> Post r1 (0 : Int))))
theorem walk_rwith {r : Req} {p : Int} {Post : (List Job) -> Int -> Prop} (hv : vc_rwith r p Post) : FnP Try.prog 24 [.agg ((e26 true) r), .int .i64 p] (fun x => ∃ q0 q1, x = .tup [.lst false q0.length (zYy (e53 true) q0), .int .i64 q1] /\ Post q0 q1) := by
 refine FnP.of_walk (T := tt) (nt := 88) ttOk ttMix ⟨⟨Try.f24, Try.func24, rfl, rfl, rfl, rfl⟩⟩ (by simp) ?_
 unfold vc_rwith at hv
 change W _ _ _ ⟨88, look [(0, .agg [.lst true r.sv.length (zYy zYx r.sv), .lst true r.jobs.length (zYy (e53 true) r.jobs), .int .i64 r.late, .int .i64 r.obj, .int .i64 r.causes, .lst true r.ex.length (zYy e58 r.ex)]), (1, .int .i64 p)], [], 0⟩ _
 refine W.ty [(0, .agg _), (1, .int _ _)] rfl (W.rL (cL rfl (o_box (v := .agg _) (p := 0) rfl rfl rfl (cL rfl (zZq (v := .nilS) rfl (aI rfl rfl (eL (W.ty [(1, .int _ _), (2, .ptr _ _)] rfl (W.seq' ?_)))))))))
 obtain ⟨sd, hv⟩ := hv
 refine W.rLm ⟨88, look [(1, .int .i64 p), (2, .ptr 0 0), (23, .bool (decide ((¬ ((validR r) = true)) \/ (¬ ((inM p (0 : Int) (((1 : Int) * 2 ^ (min r.causes.toNat 64)) - (1 : Int))) = true)))))], [.box 26 [.lst true r.sv.length (zYy zYx r.sv), .lst true r.jobs.length (zYy (e53 true) r.jobs), .int .i64 r.late, .int .i64 r.obj, .int .i64 r.causes, .lst true r.ex.length (zYy e58 r.ex)]], 0⟩ ?_ ?_
 refine cL rfl (zYp (cs := [.lst _ _ _, .lst _ _ _, .int _ _, .int _ _, .int _ _, .lst _ _ _]) tt26 rfl rfl ⟨_, rfl⟩ rfl ?_)
 obtain ⟨s22, s23, s24, s25, sd⟩ := sd
 refine cL rfl (zZu (k := 14) (fst := []) (caps := []) (ys := [.agg _]) rfl rfl (spec_rvalid r s22 s23 s24 s25) zk (cL rfl (o_notB rfl (mB rfl rfl ?_))))
 by_cases c1 : ¬ ((validR r) = true)
 iterate 7 refine cLs rfl rfl rfl (dT c1) ?_
 refine cL rfl (zZv (v := .bool _) rfl (dT c1) rfl (eL (zYz ⟨rfl, rfl, (congrArg AV.bool (dOrT c1)).symm, trivial⟩ rfl)))
 have sd := sd.2 c1
 refine cLg rfl rfl (dF c1) (mI rfl rfl (cLg rfl rfl (dF c1) (cL rfl (o_fa tt26 rfl tt3 rfl (cLg rfl rfl (dF c1) (cL rfl (zZx (v := .int _ _) tt3 rfl rfl ⟨_, rfl⟩ (cLg rfl rfl (dF c1) ?_))))))))
 obtain ⟨s26, s27, sd⟩ := sd
 refine cL rfl (o_shl rfl rfl s26 s27 (cLg rfl rfl (dF c1) ?_))
 obtain ⟨s28, sd⟩ := sd
 refine cL rfl (o_sub rfl rfl s28 (cLg rfl rfl (dF c1) (cL rfl (zZu (k := 39) (fst := []) (caps := []) (ys := [.int _ _, .int _ _, .int _ _]) rfl rfl (spec_in39 p (0 : Int) (((1 : Int) * 2 ^ (min r.causes.toNat 64)) - (1 : Int))) zk (cLg rfl rfl (dF c1) (cL rfl (o_notB rfl (cL rfl (zZy (v := .bool _) rfl (dF c1) rfl (eL (zYz ⟨rfl, rfl, (congrArg AV.bool (dOrF c1 (rfl))).symm, trivial⟩ rfl)))))))))))
 refine W.cn rfl (fun hc => ?_) (fun hc => ?_)
 have hv := hv.1 hc
 refine W.rL (cL rfl (zZq (v := .nilS) rfl (aI rfl rfl (eL (W.ty [(4, .nilS), (5, .int _ _)] rfl (W.ret (zZr (rt (rt_t (v := .nilS) rfl (rt_t (v := .int _ _) rfl (rt_n (⟨_, rs_tup 5 _ (Wks.cons (rs_nil _ _ _ _ rfl) (Wks.cons (zY _ _ _ _) zk)), [], (240 : Int), rfl, hv⟩))))))))))))
 have hv := hv.2 hc
 refine W.skip (zZ (W.ty [(1, .int _ _), (2, .ptr _ _)] rfl (W.rL (cL rfl (zZq (v := .nilS) rfl (eL (W.ty [(1, .int _ _), (2, .ptr _ _), (6, .nilS)] rfl (W.seq' (W.rL (aI rfl rfl (eL (W.ty [(1, .int _ _), (2, .ptr _ _), (6, .nilS), (7, .int _ _)] rfl (W.block ?_)))))))))))))
 obtain ⟨I1, μ1, hp, hv⟩ := hv
 refine W.loop2 (fun v7 r1 => ⟨88, look [(1, .int .i64 p), (2, .ptr 0 0), (6, .ref true 1 r1.length), (7, .int .i64 v7)], [.box 26 [.lst true r.sv.length (zYy zYx r.sv), .lst true r.jobs.length (zYy (e53 true) r.jobs), .int .i64 r.late, .int .i64 r.obj, .int .i64 r.causes, .lst true r.ex.length (zYy e58 r.ex)], .row 53 2 (zYy (e53 false) r1)], 0⟩) I1 μ1 (0 : Int) [] (St.to_mk (φ := [some 0, none]) rfl (rfl) ⟨Ren.int _ _, Ren.ptr rfl, Ren.nilR rfl rfl, Ren.int _ _, trivial⟩ ⟨(zB rfl rfl), rfl, trivial⟩) hp ?_
 clear hp
 intro v7 r1 hI
 replace hv := hv v7 r1 hI
 clear hI
 refine W.seq' (W.rL (mI rfl rfl (cL rfl (o_fa tt26 rfl tt23 rfl (cL rfl (zZx (v := .lst _ _ _) tt23 rfl rfl ⟨_, rfl⟩ (cL rfl (zXw (v := .lst _ _ _) tt23 rfl rfl (cL rfl (zYq rfl rfl (eL (W.ty [(1, .int _ _), (2, .ptr _ _), (6, .ref _ _ _), (7, .int _ _), (28, .bool _)] rfl (W.cn rfl (fun hc => ?_) (fun hc => ?_))))))))))))))
 have hv := hv.1 hc
 refine W.skip (zZ (W.ty [(1, .int _ _), (2, .ptr _ _), (6, .ref _ _ _), (7, .int _ _)] rfl (W.seq' (W.block ?_))))
 obtain ⟨s921, s922, hv⟩ := hv
 refine W.rT ⟨88, look [(1, .int .i64 p), (2, .ptr 0 0), (6, .ref true 1 r1.length), (7, .int .i64 v7), (8, .ptr 4 0)], [.box 26 [.lst true r.sv.length (zYy zYx r.sv), .lst true r.jobs.length (zYy (e53 true) r.jobs), .int .i64 r.late, .int .i64 r.obj, .int .i64 r.causes, .lst true r.ex.length (zYy e58 r.ex)], .row 53 2 (zYy (e53 false) r1), .dead, .row 60 2 (zYy e60 ((lat r.jobs v7).wk)), .box 53 [.int .i64 ((lat r.jobs v7).ar), .ref false 3 (((lat r.jobs v7).wk).length)]], 0⟩ (.node [0, 2, 7, 8, 9, 10, 11, 12] (.cons 1 (.node [3, 4] (.cons 5 (.node [] (.cons 6 (.node [] (.cons 13 (.leaf [14, 15, 16]) (.cons 15 (.leaf [13, 14, 16]) .nil))) (.cons 15 (.leaf [6, 13, 14, 16]) .nil))) (.cons 6 (.node [] (.cons 5 (.node [] (.cons 13 (.leaf [14, 15, 16]) (.cons 15 (.leaf [13, 14, 16]) .nil))) (.cons 13 (.leaf [5, 14, 15, 16]) (.cons 15 (.leaf [13, 5, 14, 16]) .nil)))) (.cons 15 (.leaf [6, 13, 5, 14, 16]) .nil)))) (.cons 6 (.node [] (.cons 1 (.node [3, 4] (.cons 5 (.node [] (.cons 13 (.leaf [14, 15, 16]) (.cons 15 (.leaf [13, 14, 16]) .nil))) (.cons 13 (.leaf [5, 14, 15, 16]) (.cons 15 (.leaf [13, 5, 14, 16]) .nil)))) (.cons 13 (.leaf [1, 3, 4, 5, 14, 15, 16]) (.cons 15 (.leaf [13, 1, 3, 4, 5, 14, 16]) .nil)))) (.cons 15 (.leaf [6, 13, 1, 3, 4, 5, 14, 16]) .nil)))) (by decide +kernel) ?_ ?_
 refine tN (cS rfl rfl (o_fa tt26 rfl tt23 rfl (cS rfl rfl (zZp (v := .int _ _) rfl (cS rfl rfl (o_fa tt26 rfl tt23 rfl (cS rfl rfl (zZx (v := .lst _ _ _) tt23 rfl rfl ⟨_, rfl⟩ (cS rfl rfl (zZp (v := .int _ _) rfl (cS rfl rfl (zYu tt23 tt53 rfl rfl (enc53.wd true) rfl s921 ?_))))))))))))
 intro rest922
 refine cS rfl rfl (o_faP tt53 rfl tt51 rfl (cS rfl rfl (zZx (v := .lst _ _ _) tt51 rfl rfl ⟨_, rfl⟩ (eS (tC ?_ ?_)))))
 refine cI rfl rfl (zZx (v := .lst _ _ _) tt23 rfl rfl ⟨_, rfl⟩ (tN (cS rfl rfl (zYu tt23 tt53 rfl rfl (enc53.wd true) rfl s921 ?_))))
 intro rest922
 refine cS rfl rfl (o_faP tt53 rfl tt3 rfl (eS (tC ?_ ?_)))
 refine cI rfl rfl (zZx (v := .int _ _) tt3 rfl rfl ⟨_, rfl⟩ (tN (eS (tC ?_ ?_))))
 refine cI rfl rfl (o_buildS (q := 2) (qs := []) (cs := []) tt51 tt60 rfl rfl rfl rfl (tN (eS (tC ?_ ?_))))
 refine cI rfl rfl (o_apR (p := 3) (q := ((lat r.jobs v7).wk).length) tt51 tt60 rfl rfl (src_lst (enc60.wd true) _ _ rfl) (zYw (enc60.wd true) _) rfl rfl (by simpa using s922) rfl (Nat.zero_add _) (List.nil_append _) (tL (cS rfl rfl (o_build (qs := [(0, .int _ _), (1, .ref _ _ _)]) (cs := [.int _ _, .ref _ _ _]) tt53 rfl rfl rfl (cS rfl rfl (zXy (p := 4) tt53 rfl rfl (cSn rfl (o_stB (v := .agg _) (vs := [.int _ _, .ref _ _ _]) (cs2 := [.int _ _, .ref _ _ _]) tt53 rfl rfl rfl rfl rfl (Nat.le_of_ble_eq_true rfl) rfl (eS (St.to_mk (φ := [some 0, some 1, none, some 3, some 4]) rfl (rfl) ⟨Ren.int _ _, Ren.ptr rfl, Ren.ref rfl (fun h => rfl), Ren.int _ _, Ren.ptr rfl, trivial⟩ ⟨(zB rfl rfl), zE enc53 false r1 rfl, rfl, zE enc60 false ((lat r.jobs v7).wk) rfl, .inr ⟨_, rfl, rfl, Rens.cons (Ren.int _ _) (Rens.cons (Ren.ref rfl id) (Rens.nil))⟩, trivial⟩))))))))))
 refine tC ?_ ?_
 refine cI rfl rfl (zXy (p := 3) tt53 rfl rfl (tL (cS rfl rfl (o_apR (p := 4) (q := ((lat r.jobs v7).wk).length) tt51 tt60 rfl rfl (src_lst (enc60.wd true) _ _ rfl) (zYw (enc60.wd true) _) rfl rfl (by simpa using s922) rfl (Nat.zero_add _) (List.nil_append _) (cS rfl rfl (o_build (qs := [(0, .int _ _), (1, .ref _ _ _)]) (cs := [.int _ _, .ref _ _ _]) tt53 rfl rfl rfl (cSn rfl (o_stB (v := .agg _) (vs := [.int _ _, .ref _ _ _]) (cs2 := [.int _ _, .ref _ _ _]) tt53 rfl rfl rfl rfl rfl (Nat.le_of_ble_eq_true rfl) rfl (eS (St.to_mk (φ := [some 0, some 1, none, some 4, some 3]) rfl (rfl) ⟨Ren.int _ _, Ren.ptr rfl, Ren.ref rfl (fun h => rfl), Ren.int _ _, Ren.ptr rfl, trivial⟩ ⟨(zB rfl rfl), zE enc53 false r1 rfl, rfl, zE enc60 false ((lat r.jobs v7).wk) rfl, .inr ⟨_, rfl, rfl, Rens.cons (Ren.int _ _) (Rens.cons (Ren.ref rfl id) (Rens.nil))⟩, trivial⟩))))))))))
 exact tE
 refine tC ?_ ?_
 refine cI rfl rfl (zXy (p := 2) tt53 rfl rfl (tL (cS rfl rfl (o_buildS (q := 3) (qs := []) (cs := []) tt51 tt60 rfl rfl rfl rfl (cS rfl rfl (o_apR (p := 4) (q := ((lat r.jobs v7).wk).length) tt51 tt60 rfl rfl (src_lst (enc60.wd true) _ _ rfl) (zYw (enc60.wd true) _) rfl rfl (by simpa using s922) rfl (Nat.zero_add _) (List.nil_append _) (cS rfl rfl (o_build (qs := [(0, .int _ _), (1, .ref _ _ _)]) (cs := [.int _ _, .ref _ _ _]) tt53 rfl rfl rfl (cSn rfl (o_stB (v := .agg _) (vs := [.int _ _, .ref _ _ _]) (cs2 := [.int _ _, .ref _ _ _]) tt53 rfl rfl rfl rfl rfl (Nat.le_of_ble_eq_true rfl) rfl (eS (St.to_mk (φ := [some 0, some 1, none, some 4, some 2]) rfl (rfl) ⟨Ren.int _ _, Ren.ptr rfl, Ren.ref rfl (fun h => rfl), Ren.int _ _, Ren.ptr rfl, trivial⟩ ⟨(zB rfl rfl), zE enc53 false r1 rfl, rfl, zE enc60 false ((lat r.jobs v7).wk) rfl, .inr ⟨_, rfl, rfl, Rens.cons (Ren.int _ _) (Rens.cons (Ren.ref rfl id) (Rens.nil))⟩, trivial⟩))))))))))))
 exact tE
 refine tC ?_ ?_
 refine cI rfl rfl (o_buildS (q := 2) (qs := []) (cs := []) tt51 tt60 rfl rfl rfl rfl (tN (eS (tC ?_ ?_))))
 refine cI rfl rfl (zZx (v := .int _ _) tt3 rfl rfl ⟨_, rfl⟩ (tN (eS (tC ?_ ?_))))
 refine cI rfl rfl (o_apR (p := 3) (q := ((lat r.jobs v7).wk).length) tt51 tt60 rfl rfl (src_lst (enc60.wd true) _ _ rfl) (zYw (enc60.wd true) _) rfl rfl (by simpa using s922) rfl (Nat.zero_add _) (List.nil_append _) (tL (cS rfl rfl (o_build (qs := [(0, .int _ _), (1, .ref _ _ _)]) (cs := [.int _ _, .ref _ _ _]) tt53 rfl rfl rfl (cS rfl rfl (zXy (p := 4) tt53 rfl rfl (cSn rfl (o_stB (v := .agg _) (vs := [.int _ _, .ref _ _ _]) (cs2 := [.int _ _, .ref _ _ _]) tt53 rfl rfl rfl rfl rfl (Nat.le_of_ble_eq_true rfl) rfl (eS (St.to_mk (φ := [some 0, some 1, none, some 3, some 4]) rfl (rfl) ⟨Ren.int _ _, Ren.ptr rfl, Ren.ref rfl (fun h => rfl), Ren.int _ _, Ren.ptr rfl, trivial⟩ ⟨(zB rfl rfl), zE enc53 false r1 rfl, rfl, zE enc60 false ((lat r.jobs v7).wk) rfl, .inr ⟨_, rfl, rfl, Rens.cons (Ren.int _ _) (Rens.cons (Ren.ref rfl id) (Rens.nil))⟩, trivial⟩))))))))))
 refine tC ?_ ?_
 refine cI rfl rfl (zXy (p := 3) tt53 rfl rfl (tL (cS rfl rfl (o_apR (p := 4) (q := ((lat r.jobs v7).wk).length) tt51 tt60 rfl rfl (src_lst (enc60.wd true) _ _ rfl) (zYw (enc60.wd true) _) rfl rfl (by simpa using s922) rfl (Nat.zero_add _) (List.nil_append _) (cS rfl rfl (o_build (qs := [(0, .int _ _), (1, .ref _ _ _)]) (cs := [.int _ _, .ref _ _ _]) tt53 rfl rfl rfl (cSn rfl (o_stB (v := .agg _) (vs := [.int _ _, .ref _ _ _]) (cs2 := [.int _ _, .ref _ _ _]) tt53 rfl rfl rfl rfl rfl (Nat.le_of_ble_eq_true rfl) rfl (eS (St.to_mk (φ := [some 0, some 1, none, some 4, some 3]) rfl (rfl) ⟨Ren.int _ _, Ren.ptr rfl, Ren.ref rfl (fun h => rfl), Ren.int _ _, Ren.ptr rfl, trivial⟩ ⟨(zB rfl rfl), zE enc53 false r1 rfl, rfl, zE enc60 false ((lat r.jobs v7).wk) rfl, .inr ⟨_, rfl, rfl, Rens.cons (Ren.int _ _) (Rens.cons (Ren.ref rfl id) (Rens.nil))⟩, trivial⟩))))))))))
 exact tE
 refine tC ?_ ?_
 refine cI rfl rfl (o_apR (p := 3) (q := ((lat r.jobs v7).wk).length) tt51 tt60 rfl rfl (src_lst (enc60.wd true) _ _ rfl) (zYw (enc60.wd true) _) rfl rfl (by simpa using s922) rfl (Nat.zero_add _) (List.nil_append _) (tL (cS rfl rfl (zZx (v := .int _ _) tt3 rfl rfl ⟨_, rfl⟩ (cS rfl rfl (o_build (qs := [(0, .int _ _), (1, .ref _ _ _)]) (cs := [.int _ _, .ref _ _ _]) tt53 rfl rfl rfl (cS rfl rfl (zXy (p := 4) tt53 rfl rfl (cSn rfl (o_stB (v := .agg _) (vs := [.int _ _, .ref _ _ _]) (cs2 := [.int _ _, .ref _ _ _]) tt53 rfl rfl rfl rfl rfl (Nat.le_of_ble_eq_true rfl) rfl (eS (St.to_mk (φ := [some 0, some 1, none, some 3, some 4]) rfl (rfl) ⟨Ren.int _ _, Ren.ptr rfl, Ren.ref rfl (fun h => rfl), Ren.int _ _, Ren.ptr rfl, trivial⟩ ⟨(zB rfl rfl), zE enc53 false r1 rfl, rfl, zE enc60 false ((lat r.jobs v7).wk) rfl, .inr ⟨_, rfl, rfl, Rens.cons (Ren.int _ _) (Rens.cons (Ren.ref rfl id) (Rens.nil))⟩, trivial⟩))))))))))))
 refine tC ?_ ?_
 refine cI rfl rfl (zXy (p := 3) tt53 rfl rfl (tL (cS rfl rfl (o_apR (p := 4) (q := ((lat r.jobs v7).wk).length) tt51 tt60 rfl rfl (src_lst (enc60.wd true) _ _ rfl) (zYw (enc60.wd true) _) rfl rfl (by simpa using s922) rfl (Nat.zero_add _) (List.nil_append _) (cS rfl rfl (zZx (v := .int _ _) tt3 rfl rfl ⟨_, rfl⟩ (cS rfl rfl (o_build (qs := [(0, .int _ _), (1, .ref _ _ _)]) (cs := [.int _ _, .ref _ _ _]) tt53 rfl rfl rfl (cSn rfl (o_stB (v := .agg _) (vs := [.int _ _, .ref _ _ _]) (cs2 := [.int _ _, .ref _ _ _]) tt53 rfl rfl rfl rfl rfl (Nat.le_of_ble_eq_true rfl) rfl (eS (St.to_mk (φ := [some 0, some 1, none, some 4, some 3]) rfl (rfl) ⟨Ren.int _ _, Ren.ptr rfl, Ren.ref rfl (fun h => rfl), Ren.int _ _, Ren.ptr rfl, trivial⟩ ⟨(zB rfl rfl), zE enc53 false r1 rfl, rfl, zE enc60 false ((lat r.jobs v7).wk) rfl, .inr ⟨_, rfl, rfl, Rens.cons (Ren.int _ _) (Rens.cons (Ren.ref rfl id) (Rens.nil))⟩, trivial⟩))))))))))))
 exact tE
 refine tC ?_ ?_
 refine cI rfl rfl (zXy (p := 2) tt53 rfl rfl (tL (cS rfl rfl (o_buildS (q := 3) (qs := []) (cs := []) tt51 tt60 rfl rfl rfl rfl (cS rfl rfl (o_apR (p := 4) (q := ((lat r.jobs v7).wk).length) tt51 tt60 rfl rfl (src_lst (enc60.wd true) _ _ rfl) (zYw (enc60.wd true) _) rfl rfl (by simpa using s922) rfl (Nat.zero_add _) (List.nil_append _) (cS rfl rfl (zZx (v := .int _ _) tt3 rfl rfl ⟨_, rfl⟩ (cS rfl rfl (o_build (qs := [(0, .int _ _), (1, .ref _ _ _)]) (cs := [.int _ _, .ref _ _ _]) tt53 rfl rfl rfl (cSn rfl (o_stB (v := .agg _) (vs := [.int _ _, .ref _ _ _]) (cs2 := [.int _ _, .ref _ _ _]) tt53 rfl rfl rfl rfl rfl (Nat.le_of_ble_eq_true rfl) rfl (eS (St.to_mk (φ := [some 0, some 1, none, some 4, some 2]) rfl (rfl) ⟨Ren.int _ _, Ren.ptr rfl, Ren.ref rfl (fun h => rfl), Ren.int _ _, Ren.ptr rfl, trivial⟩ ⟨(zB rfl rfl), zE enc53 false r1 rfl, rfl, zE enc60 false ((lat r.jobs v7).wk) rfl, .inr ⟨_, rfl, rfl, Rens.cons (Ren.int _ _) (Rens.cons (Ren.ref rfl id) (Rens.nil))⟩, trivial⟩))))))))))))))
 exact tE
 refine tC ?_ ?_
 refine cI rfl rfl (o_buildS (q := 2) (qs := []) (cs := []) tt51 tt60 rfl rfl rfl rfl (tN (eS (tC ?_ ?_))))
 refine cI rfl rfl (zZx (v := .lst _ _ _) tt23 rfl rfl ⟨_, rfl⟩ (tN (cS rfl rfl (zYu tt23 tt53 rfl rfl (enc53.wd true) rfl s921 ?_))))
 intro rest922
 refine cS rfl rfl (o_faP tt53 rfl tt3 rfl (eS (tC ?_ ?_)))
 refine cI rfl rfl (zZx (v := .int _ _) tt3 rfl rfl ⟨_, rfl⟩ (tN (eS (tC ?_ ?_))))
 refine cI rfl rfl (o_apR (p := 3) (q := ((lat r.jobs v7).wk).length) tt51 tt60 rfl rfl (src_lst (enc60.wd true) _ _ rfl) (zYw (enc60.wd true) _) rfl rfl (by simpa using s922) rfl (Nat.zero_add _) (List.nil_append _) (tL (cS rfl rfl (o_build (qs := [(0, .int _ _), (1, .ref _ _ _)]) (cs := [.int _ _, .ref _ _ _]) tt53 rfl rfl rfl (cS rfl rfl (zXy (p := 4) tt53 rfl rfl (cSn rfl (o_stB (v := .agg _) (vs := [.int _ _, .ref _ _ _]) (cs2 := [.int _ _, .ref _ _ _]) tt53 rfl rfl rfl rfl rfl (Nat.le_of_ble_eq_true rfl) rfl (eS (St.to_mk (φ := [some 0, some 1, none, some 3, some 4]) rfl (rfl) ⟨Ren.int _ _, Ren.ptr rfl, Ren.ref rfl (fun h => rfl), Ren.int _ _, Ren.ptr rfl, trivial⟩ ⟨(zB rfl rfl), zE enc53 false r1 rfl, rfl, zE enc60 false ((lat r.jobs v7).wk) rfl, .inr ⟨_, rfl, rfl, Rens.cons (Ren.int _ _) (Rens.cons (Ren.ref rfl id) (Rens.nil))⟩, trivial⟩))))))))))
 refine tC ?_ ?_
 refine cI rfl rfl (zXy (p := 3) tt53 rfl rfl (tL (cS rfl rfl (o_apR (p := 4) (q := ((lat r.jobs v7).wk).length) tt51 tt60 rfl rfl (src_lst (enc60.wd true) _ _ rfl) (zYw (enc60.wd true) _) rfl rfl (by simpa using s922) rfl (Nat.zero_add _) (List.nil_append _) (cS rfl rfl (o_build (qs := [(0, .int _ _), (1, .ref _ _ _)]) (cs := [.int _ _, .ref _ _ _]) tt53 rfl rfl rfl (cSn rfl (o_stB (v := .agg _) (vs := [.int _ _, .ref _ _ _]) (cs2 := [.int _ _, .ref _ _ _]) tt53 rfl rfl rfl rfl rfl (Nat.le_of_ble_eq_true rfl) rfl (eS (St.to_mk (φ := [some 0, some 1, none, some 4, some 3]) rfl (rfl) ⟨Ren.int _ _, Ren.ptr rfl, Ren.ref rfl (fun h => rfl), Ren.int _ _, Ren.ptr rfl, trivial⟩ ⟨(zB rfl rfl), zE enc53 false r1 rfl, rfl, zE enc60 false ((lat r.jobs v7).wk) rfl, .inr ⟨_, rfl, rfl, Rens.cons (Ren.int _ _) (Rens.cons (Ren.ref rfl id) (Rens.nil))⟩, trivial⟩))))))))))
 exact tE
 refine tC ?_ ?_
 refine cI rfl rfl (o_apR (p := 3) (q := ((lat r.jobs v7).wk).length) tt51 tt60 rfl rfl (src_lst (enc60.wd true) _ _ rfl) (zYw (enc60.wd true) _) rfl rfl (by simpa using s922) rfl (Nat.zero_add _) (List.nil_append _) (tL (cS rfl rfl (zZx (v := .int _ _) tt3 rfl rfl ⟨_, rfl⟩ (cS rfl rfl (o_build (qs := [(0, .int _ _), (1, .ref _ _ _)]) (cs := [.int _ _, .ref _ _ _]) tt53 rfl rfl rfl (cS rfl rfl (zXy (p := 4) tt53 rfl rfl (cSn rfl (o_stB (v := .agg _) (vs := [.int _ _, .ref _ _ _]) (cs2 := [.int _ _, .ref _ _ _]) tt53 rfl rfl rfl rfl rfl (Nat.le_of_ble_eq_true rfl) rfl (eS (St.to_mk (φ := [some 0, some 1, none, some 3, some 4]) rfl (rfl) ⟨Ren.int _ _, Ren.ptr rfl, Ren.ref rfl (fun h => rfl), Ren.int _ _, Ren.ptr rfl, trivial⟩ ⟨(zB rfl rfl), zE enc53 false r1 rfl, rfl, zE enc60 false ((lat r.jobs v7).wk) rfl, .inr ⟨_, rfl, rfl, Rens.cons (Ren.int _ _) (Rens.cons (Ren.ref rfl id) (Rens.nil))⟩, trivial⟩))))))))))))
 refine tC ?_ ?_
 refine cI rfl rfl (zXy (p := 3) tt53 rfl rfl (tL (cS rfl rfl (o_apR (p := 4) (q := ((lat r.jobs v7).wk).length) tt51 tt60 rfl rfl (src_lst (enc60.wd true) _ _ rfl) (zYw (enc60.wd true) _) rfl rfl (by simpa using s922) rfl (Nat.zero_add _) (List.nil_append _) (cS rfl rfl (zZx (v := .int _ _) tt3 rfl rfl ⟨_, rfl⟩ (cS rfl rfl (o_build (qs := [(0, .int _ _), (1, .ref _ _ _)]) (cs := [.int _ _, .ref _ _ _]) tt53 rfl rfl rfl (cSn rfl (o_stB (v := .agg _) (vs := [.int _ _, .ref _ _ _]) (cs2 := [.int _ _, .ref _ _ _]) tt53 rfl rfl rfl rfl rfl (Nat.le_of_ble_eq_true rfl) rfl (eS (St.to_mk (φ := [some 0, some 1, none, some 4, some 3]) rfl (rfl) ⟨Ren.int _ _, Ren.ptr rfl, Ren.ref rfl (fun h => rfl), Ren.int _ _, Ren.ptr rfl, trivial⟩ ⟨(zB rfl rfl), zE enc53 false r1 rfl, rfl, zE enc60 false ((lat r.jobs v7).wk) rfl, .inr ⟨_, rfl, rfl, Rens.cons (Ren.int _ _) (Rens.cons (Ren.ref rfl id) (Rens.nil))⟩, trivial⟩))))))))))))
 exact tE
 refine tC ?_ ?_
 refine cI rfl rfl (o_apR (p := 3) (q := ((lat r.jobs v7).wk).length) tt51 tt60 rfl rfl (src_lst (enc60.wd true) _ _ rfl) (zYw (enc60.wd true) _) rfl rfl (by simpa using s922) rfl (Nat.zero_add _) (List.nil_append _) (tL (cS rfl rfl (zZx (v := .lst _ _ _) tt23 rfl rfl ⟨_, rfl⟩ (cS rfl rfl (zYu tt23 tt53 rfl rfl (enc53.wd true) rfl s921 ?_))))))
 intro rest922
 refine cS rfl rfl (o_faP tt53 rfl tt3 rfl (cS rfl rfl (zZx (v := .int _ _) tt3 rfl rfl ⟨_, rfl⟩ (cS rfl rfl (o_build (qs := [(0, .int _ _), (1, .ref _ _ _)]) (cs := [.int _ _, .ref _ _ _]) tt53 rfl rfl rfl (cS rfl rfl (zXy (p := 4) tt53 rfl rfl (cSn rfl (o_stB (v := .agg _) (vs := [.int _ _, .ref _ _ _]) (cs2 := [.int _ _, .ref _ _ _]) tt53 rfl rfl rfl rfl rfl (Nat.le_of_ble_eq_true rfl) rfl (eS (St.to_mk (φ := [some 0, some 1, none, some 3, some 4]) rfl (rfl) ⟨Ren.int _ _, Ren.ptr rfl, Ren.ref rfl (fun h => rfl), Ren.int _ _, Ren.ptr rfl, trivial⟩ ⟨(zB rfl rfl), zE enc53 false r1 rfl, rfl, zE enc60 false ((lat r.jobs v7).wk) rfl, .inr ⟨_, rfl, rfl, Rens.cons (Ren.int _ _) (Rens.cons (Ren.ref rfl id) (Rens.nil))⟩, trivial⟩)))))))))))
 refine tC ?_ ?_
 refine cI rfl rfl (zXy (p := 3) tt53 rfl rfl (tL (cS rfl rfl (o_apR (p := 4) (q := ((lat r.jobs v7).wk).length) tt51 tt60 rfl rfl (src_lst (enc60.wd true) _ _ rfl) (zYw (enc60.wd true) _) rfl rfl (by simpa using s922) rfl (Nat.zero_add _) (List.nil_append _) (cS rfl rfl (zZx (v := .lst _ _ _) tt23 rfl rfl ⟨_, rfl⟩ (cS rfl rfl (zYu tt23 tt53 rfl rfl (enc53.wd true) rfl s921 ?_))))))))
 intro rest922
 refine cS rfl rfl (o_faP tt53 rfl tt3 rfl (cS rfl rfl (zZx (v := .int _ _) tt3 rfl rfl ⟨_, rfl⟩ (cS rfl rfl (o_build (qs := [(0, .int _ _), (1, .ref _ _ _)]) (cs := [.int _ _, .ref _ _ _]) tt53 rfl rfl rfl (cSn rfl (o_stB (v := .agg _) (vs := [.int _ _, .ref _ _ _]) (cs2 := [.int _ _, .ref _ _ _]) tt53 rfl rfl rfl rfl rfl (Nat.le_of_ble_eq_true rfl) rfl (eS (St.to_mk (φ := [some 0, some 1, none, some 4, some 3]) rfl (rfl) ⟨Ren.int _ _, Ren.ptr rfl, Ren.ref rfl (fun h => rfl), Ren.int _ _, Ren.ptr rfl, trivial⟩ ⟨(zB rfl rfl), zE enc53 false r1 rfl, rfl, zE enc60 false ((lat r.jobs v7).wk) rfl, .inr ⟨_, rfl, rfl, Rens.cons (Ren.int _ _) (Rens.cons (Ren.ref rfl id) (Rens.nil))⟩, trivial⟩)))))))))
 exact tE
 refine tC ?_ ?_
 refine cI rfl rfl (zXy (p := 2) tt53 rfl rfl (tL (cS rfl rfl (o_buildS (q := 3) (qs := []) (cs := []) tt51 tt60 rfl rfl rfl rfl (cS rfl rfl (o_apR (p := 4) (q := ((lat r.jobs v7).wk).length) tt51 tt60 rfl rfl (src_lst (enc60.wd true) _ _ rfl) (zYw (enc60.wd true) _) rfl rfl (by simpa using s922) rfl (Nat.zero_add _) (List.nil_append _) (cS rfl rfl (zZx (v := .lst _ _ _) tt23 rfl rfl ⟨_, rfl⟩ (cS rfl rfl (zYu tt23 tt53 rfl rfl (enc53.wd true) rfl s921 ?_))))))))))
 intro rest922
 refine cS rfl rfl (o_faP tt53 rfl tt3 rfl (cS rfl rfl (zZx (v := .int _ _) tt3 rfl rfl ⟨_, rfl⟩ (cS rfl rfl (o_build (qs := [(0, .int _ _), (1, .ref _ _ _)]) (cs := [.int _ _, .ref _ _ _]) tt53 rfl rfl rfl (cSn rfl (o_stB (v := .agg _) (vs := [.int _ _, .ref _ _ _]) (cs2 := [.int _ _, .ref _ _ _]) tt53 rfl rfl rfl rfl rfl (Nat.le_of_ble_eq_true rfl) rfl (eS (St.to_mk (φ := [some 0, some 1, none, some 4, some 2]) rfl (rfl) ⟨Ren.int _ _, Ren.ptr rfl, Ren.ref rfl (fun h => rfl), Ren.int _ _, Ren.ptr rfl, trivial⟩ ⟨(zB rfl rfl), zE enc53 false r1 rfl, rfl, zE enc60 false ((lat r.jobs v7).wk) rfl, .inr ⟨_, rfl, rfl, Rens.cons (Ren.int _ _) (Rens.cons (Ren.ref rfl id) (Rens.nil))⟩, trivial⟩)))))))))
 exact tE
 refine W.rL (aB rfl rfl (eL (W.ty [(1, .int _ _), (2, .ptr _ _), (6, .ref _ _ _), (7, .int _ _), (8, .ptr _ _), (9, .bool _)] rfl (W.seq' (W.rL (aI rfl rfl (eL (W.ty [(1, .int _ _), (2, .ptr _ _), (6, .ref _ _ _), (7, .int _ _), (8, .ptr _ _), (9, .bool _), (10, .int _ _)] rfl (W.block ?_)))))))))
 obtain ⟨I2, μ2, hp, hv⟩ := hv
 refine W.loop4 (fun v9 v10 r3 b4ar => ⟨88, look [(1, .int .i64 p), (2, .ptr 0 0), (6, .ref true 1 r1.length), (7, .int .i64 v7), (8, .ptr 4 0), (9, .bool v9), (10, .int .i64 v10)], [.box 26 [.lst true r.sv.length (zYy zYx r.sv), .lst true r.jobs.length (zYy (e53 true) r.jobs), .int .i64 r.late, .int .i64 r.obj, .int .i64 r.causes, .lst true r.ex.length (zYy e58 r.ex)], .row 53 2 (zYy (e53 false) r1), .dead, .row 60 2 (zYy e60 r3), .box 53 [.int .i64 b4ar, .ref false 3 r3.length]], 0⟩) I2 μ2 false (0 : Int) ((lat r.jobs v7).wk) ((lat r.jobs v7).ar) (St.to_mk (φ := [some 0, some 1, none, some 3, some 4]) rfl (rfl) ⟨Ren.int _ _, Ren.ptr rfl, Ren.ref rfl (fun h => rfl), Ren.int _ _, Ren.ptr rfl, Ren.bool _, Ren.int _ _, trivial⟩ ⟨(zB rfl rfl), zE enc53 false r1 rfl, rfl, zE enc60 false ((lat r.jobs v7).wk) rfl, .inr ⟨_, rfl, rfl, Rens.cons (Ren.int _ _) (Rens.cons (Ren.ref rfl id) (Rens.nil))⟩, trivial⟩) hp ?_
 clear hp
 intro v9 v10 r3 b4ar hI
 replace hv := hv v9 v10 r3 b4ar hI
 clear hI
 refine W.seq' (W.rL (mI rfl rfl (cL rfl (o_fa tt26 rfl tt24 rfl (cL rfl (zZx (v := .lst _ _ _) tt24 rfl rfl ⟨_, rfl⟩ (cL rfl (zXw (v := .lst _ _ _) tt24 rfl rfl (cL rfl (zYq rfl rfl (eL (W.ty [(1, .int _ _), (2, .ptr _ _), (6, .ref _ _ _), (7, .int _ _), (8, .ptr _ _), (9, .bool _), (10, .int _ _), (50, .bool _)] rfl (W.cn rfl (fun hc => ?_) (fun hc => ?_))))))))))))))
 have hv := hv.1 hc
 refine W.skip (zZ (W.ty [(1, .int _ _), (2, .ptr _ _), (6, .ref _ _ _), (7, .int _ _), (8, .ptr _ _), (9, .bool _), (10, .int _ _)] rfl ?_))
 obtain ⟨J3, hj, hv⟩ := hv
 refine W.mid2 (fun r3_1 v9_1 => ⟨88, look [(1, .int .i64 p), (2, .ptr 0 0), (6, .ref true 1 r1.length), (7, .int .i64 v7), (8, .ptr 4 0), (9, .bool v9_1), (10, .int .i64 v10)], [.box 26 [.lst true r.sv.length (zYy zYx r.sv), .lst true r.jobs.length (zYy (e53 true) r.jobs), .int .i64 r.late, .int .i64 r.obj, .int .i64 r.causes, .lst true r.ex.length (zYy e58 r.ex)], .row 53 2 (zYy (e53 false) r1), .dead, .row 60 2 (zYy e60 r3_1), .box 53 [.int .i64 b4ar, .ref false 3 r3_1.length]], 0⟩) J3 ?_ ?_
 intro r3_1 v9_1
 intro hv
 replace hv := hj r3_1 v9_1 hv
 refine W.rL1 (mI rfl rfl ?_)
 obtain ⟨s994, hv⟩ := hv
 refine cL rfl (o_add rfl rfl s994 (aI rfl rfl (eL (zZ (⟨(), v9_1, (v10 + (1 : Int)), r3_1, b4ar, hv, St.to_mk (φ := [some 0, some 1, none, some 3, some 4]) rfl (rfl) ⟨Ren.int _ _, Ren.ptr rfl, Ren.ref rfl (fun h => rfl), Ren.int _ _, Ren.ptr rfl, Ren.bool _, Ren.int _ _, trivial⟩ ⟨(zB rfl rfl), zE enc53 false r1 rfl, rfl, zE enc60 false r3_1 rfl, .inr ⟨_, rfl, rfl, Rens.cons (Ren.int _ _) (Rens.cons (Ren.ref rfl id) (Rens.nil))⟩, trivial⟩⟩)))))
 clear hj
 refine W.block (W.rL (cL rfl (o_fa tt26 rfl tt24 rfl (cL rfl (zZx (v := .lst _ _ _) tt24 rfl rfl ⟨_, rfl⟩ (mI rfl rfl ?_))))))
 obtain ⟨s995, hv⟩ := hv
 refine cL rfl (zYu tt24 tt58 rfl rfl (enc58.wd true) rfl s995 ?_)
 intro rest995
 refine cL rfl (zYp (cs := [.int _ _, .int _ _, .int _ _, .int _ _, .int _ _, .int _ _]) tt58 rfl rfl ⟨_, rfl⟩ rfl (cL rfl (zXy (p := 5) tt58 rfl rfl (cLn (o_stB (v := .agg _) (vs := [.int _ _, .int _ _, .int _ _, .int _ _, .int _ _, .int _ _]) (cs2 := [.int _ _, .int _ _, .int _ _, .int _ _, .int _ _, .int _ _]) tt58 rfl rfl rfl rfl rfl (Nat.le_of_ble_eq_true rfl) rfl (eL (W.ty [(1, .int _ _), (2, .ptr _ _), (6, .ref _ _ _), (7, .int _ _), (8, .ptr _ _), (9, .bool _), (10, .int _ _), (11, .ptr _ _)] rfl (W.seq' ?_))))))))
 obtain ⟨sd, hv⟩ := hv
 refine W.rLm ⟨88, look [(1, .int .i64 p), (2, .ptr 0 0), (6, .ref true 1 r1.length), (7, .int .i64 v7), (8, .ptr 4 0), (9, .bool v9), (10, .int .i64 v10), (11, .ptr 5 0), (69, .bool (decide ((¬ (lat r.ex v10).jb = v7) \/ (bitI .and .i64 (p.fdiv (2 ^ (min ((lat r.ex v10).ca).toNat 64))) (1 : Int) = (1 : Int)))))], [.box 26 [.lst true r.sv.length (zYy zYx r.sv), .lst true r.jobs.length (zYy (e53 true) r.jobs), .int .i64 r.late, .int .i64 r.obj, .int .i64 r.causes, .lst true r.ex.length (zYy e58 r.ex)], .row 53 2 (zYy (e53 false) r1), .dead, .row 60 2 (zYy e60 r3), .box 53 [.int .i64 b4ar, .ref false 3 r3.length], .box 58 [.int .i64 ((lat r.ex v10).jb), .int .i64 ((lat r.ex v10).pc), .int .i64 ((lat r.ex v10).ca), .int .i64 ((lat r.ex v10).ba), .int .i64 ((lat r.ex v10).op), .int .i64 ((lat r.ex v10).ver)]], 0⟩ ?_ ?_
 refine cL rfl (o_fa tt58 rfl tt3 rfl (cL rfl (zZx (v := .int _ _) tt3 rfl rfl ⟨_, rfl⟩ (mI rfl rfl (cL rfl (o_neI rfl rfl rfl (mB rfl rfl ?_)))))))
 by_cases c1 : ¬ (lat r.ex v10).jb = v7
 iterate 6 refine cLs rfl rfl rfl (dT c1) ?_
 refine cL rfl (zZv (v := .bool _) rfl (dT c1) rfl (eL (zYz ⟨rfl, rfl, rfl, rfl, rfl, rfl, rfl, rfl, (congrArg AV.bool (dOrT c1)).symm, trivial⟩ rfl)))
 have sd := sd.2 c1
 refine cLg rfl rfl (dF c1) (mI rfl rfl (cLg rfl rfl (dF c1) (cL rfl (o_fa tt58 rfl tt3 rfl (cLg rfl rfl (dF c1) (cL rfl (zZx (v := .int _ _) tt3 rfl rfl ⟨_, rfl⟩ (cLg rfl rfl (dF c1) ?_))))))))
 obtain ⟨s999, sd⟩ := sd
 refine cL rfl (o_shr rfl rfl s999 (cLg rfl rfl (dF c1) (cL rfl (o_and rfl rfl (cLg rfl rfl (dF c1) (cL rfl (o_eqI rfl rfl rfl (cL rfl (zZy (v := .bool _) rfl (dF c1) rfl (eL (zYz ⟨rfl, rfl, rfl, rfl, rfl, rfl, rfl, rfl, (congrArg AV.bool (dOrF c1 (rfl))).symm, trivial⟩ rfl)))))))))))
 refine W.cn rfl (fun hc => ?_) (fun hc => ?_)
 have hv := hv.1 hc
 refine W.exit (zZt (zYs (zZ (⟨(), r3, v9, hv, St.to_mk (φ := [some 0, some 1, none, some 3, some 4]) rfl (rfl) ⟨Ren.int _ _, Ren.ptr rfl, Ren.ref rfl (fun h => rfl), Ren.int _ _, Ren.ptr rfl, Ren.bool _, Ren.int _ _, trivial⟩ ⟨(zB rfl rfl), zE enc53 false r1 rfl, rfl, zE enc60 false r3 rfl, .inr ⟨_, rfl, rfl, Rens.cons (Ren.int _ _) (Rens.cons (Ren.ref rfl id) (Rens.nil))⟩, trivial⟩⟩))))
 have hv := hv.2 hc
 refine W.skip (zZ (W.ty [(1, .int _ _), (2, .ptr _ _), (6, .ref _ _ _), (7, .int _ _), (8, .ptr _ _), (9, .bool _), (10, .int _ _), (11, .ptr _ _)] rfl (W.seq' (W.rL (cL rfl (o_fa tt58 rfl tt3 rfl (cL rfl (zZx (v := .int _ _) tt3 rfl rfl ⟨_, rfl⟩ (cL rfl (o_eqI rfl rfl rfl (eL (W.ty [(1, .int _ _), (2, .ptr _ _), (6, .ref _ _ _), (7, .int _ _), (8, .ptr _ _), (9, .bool _), (10, .int _ _), (11, .ptr _ _), (72, .bool _)] rfl (W.cn rfl (fun hc => ?_) (fun hc => ?_))))))))))))))
 have hv := hv.1 hc
 refine W.rL (aB rfl rfl (eL (W.ty [(1, .int _ _), (2, .ptr _ _), (6, .ref _ _ _), (7, .int _ _), (8, .ptr _ _), (9, .bool _), (10, .int _ _)] rfl (W.exit (zZt (zYs (zZ (⟨(), r3, true, hv, St.to_mk (φ := [some 0, some 1, none, some 3, some 4]) rfl (rfl) ⟨Ren.int _ _, Ren.ptr rfl, Ren.ref rfl (fun h => rfl), Ren.int _ _, Ren.ptr rfl, Ren.bool _, Ren.int _ _, trivial⟩ ⟨(zB rfl rfl), zE enc53 false r1 rfl, rfl, zE enc60 false r3 rfl, .inr ⟨_, rfl, rfl, Rens.cons (Ren.int _ _) (Rens.cons (Ren.ref rfl id) (Rens.nil))⟩, trivial⟩⟩))))))))
 have hv := hv.2 hc
 refine W.skip (zZ (W.ty [(1, .int _ _), (2, .ptr _ _), (6, .ref _ _ _), (7, .int _ _), (8, .ptr _ _), (9, .bool _), (10, .int _ _), (11, .ptr _ _)] rfl (W.rL1 (cL rfl (o_fa tt53 rfl tt51 rfl (cL rfl (zZx (v := .ref _ _ _) tt51 rfl rfl ⟨_, rfl⟩ (cL rfl (o_fa tt58 rfl tt3 rfl (cL rfl (zZx (v := .int _ _) tt3 rfl rfl ⟨_, rfl⟩ (cL rfl (o_fa tt58 rfl tt3 rfl (cL rfl (zZx (v := .int _ _) tt3 rfl rfl ⟨_, rfl⟩ ?_)))))))))))))))
 obtain ⟨s1000, hv⟩ := hv
 refine cL rfl (o_iaR tt51 tt60 rfl rfl s1000 (cL rfl (o_fa tt60 rfl tt3 rfl (cLn (o_stR (v := .int _ _) (vs := [.int _ _]) tt3 rfl rfl rfl rfl rfl (row_inF (xs := r3) (enc60.wd false) s1000 rfl) (row_setF (e := e60) (enc60.wd false) _ _ 1 (⟨(lat r3 ((lat r.ex v10).pc)).st, (lat r.ex v10).ba⟩ : Ld) rfl rfl s1000) (eL (zYv (zZ (⟨(), (r3.set ((lat r.ex v10).pc).toNat (⟨(lat r3 ((lat r.ex v10).pc)).st, (lat r.ex v10).ba⟩ : Ld)), v9, hv, St.to_mk (φ := [some 0, some 1, none, some 3, some 4]) rfl (rfl) ⟨Ren.int _ _, Ren.ptr rfl, Ren.ref rfl (fun h => rfl), Ren.int _ _, Ren.ptr rfl, Ren.bool _, Ren.int _ _, trivial⟩ ⟨(zB rfl rfl), zE enc53 false r1 rfl, rfl, .inr ⟨_, rfl, rfl, rfl, rfl, Rens.enc enc60 false (r3.set ((lat r.ex v10).pc).toNat (⟨(lat r3 ((lat r.ex v10).pc)).st, (lat r.ex v10).ba⟩ : Ld))⟩, .inr ⟨_, rfl, rfl, Rens.cons (Ren.int _ _) (Rens.cons (Ren.refL rfl id (by simp)) (Rens.nil))⟩, trivial⟩⟩)))))))))
 have hv := hv.2 hc
 refine W.exit (zZt (zZt (zYs (zZ (W.ty [(1, .int _ _), (2, .ptr _ _), (6, .ref _ _ _), (7, .int _ _), (8, .ptr _ _), (9, .bool _)] rfl ?_)))))
 obtain ⟨J4, hj, hv⟩ := hv
 refine W.mid1 (fun r3_1 => ⟨88, look [(1, .int .i64 p), (2, .ptr 0 0), (6, .ref true 1 r1.length), (7, .int .i64 v7), (8, .ptr 4 0)], [.box 26 [.lst true r.sv.length (zYy zYx r.sv), .lst true r.jobs.length (zYy (e53 true) r.jobs), .int .i64 r.late, .int .i64 r.obj, .int .i64 r.causes, .lst true r.ex.length (zYy e58 r.ex)], .row 53 2 (zYy (e53 false) r1), .dead, .row 60 2 (zYy e60 r3_1), .box 53 [.int .i64 b4ar, .ref false 3 r3_1.length]], 0⟩) J4 ?_ ?_
 intro r3_1
 intro hv
 replace hv := hj r3_1 hv
 refine W.sealB false 3 4 (bcs' := [.int .i64 b4ar, .lst false r3_1.length (zYy e60 r3_1)]) (l := [(1, .int .i64 p), (2, .ptr 0 0), (6, .ref true 1 r1.length), (7, .int .i64 v7), (8, .ptr 4 0)]) rfl rfl (encL_sl enc60 false r3_1) ⟨.inl rfl, .inl rfl, .inl rfl, .inl rfl, .inl rfl, trivial⟩ ⟨.inl rfl, .inr ⟨_, _, rfl, (zYw (enc60.wd false) _), rfl⟩, trivial⟩ rfl (W.rL1g (cL rfl (zZp (v := .ref _ _ _) rfl (cL rfl (zYp (cs := [.int _ _, .lst _ _ _]) tt53 rfl rfl ⟨_, rfl⟩ rfl (cL rfl (o_bs1 (v := .agg _) (q := 5) tt23 tt53 rfl rfl rfl rfl rfl rfl rfl rfl ?_)))))))
 obtain ⟨s1001, hv⟩ := hv
 refine cL rfl (o_apR (p := 6) (q := (r1 ++ [(Job.mk b4ar r3_1)]).length) tt23 tt53 rfl rfl (src_ref rfl rfl) rfl rfl (zYw (enc53.wd false) _) (Nat.le_trans (Nat.le_of_eq (@List.length_append _ (r1) ([(Job.mk b4ar r3_1)])).symm) s1001) rfl (@List.length_append _ (r1) ([(Job.mk b4ar r3_1)])).symm (encL_app (e53 false) r1 [(Job.mk b4ar r3_1)]) (cL rfl (zZq (v := .ref _ _ _) rfl (eL (go_nil (zYv (zZ (W.ty [(1, .int _ _), (2, .ptr _ _), (6, .ref _ _ _), (7, .int _ _)] rfl (W.rL1 (mI rfl rfl ?_))))))))))
 obtain ⟨s1002, hv⟩ := hv
 refine cL rfl (o_add rfl rfl s1002 (aI rfl rfl (eL (zZ (⟨(), (v7 + (1 : Int)), (r1 ++ [(Job.mk b4ar r3_1)]), hv, St.to_mk (φ := [some 0, some 6]) rfl (rfl) ⟨Ren.int _ _, Ren.ptr rfl, Ren.ref rfl (fun h => rfl), Ren.int _ _, trivial⟩ ⟨(zB rfl rfl), zE enc53 false (r1 ++ [(Job.mk b4ar r3_1)]) rfl, trivial⟩⟩)))))
 clear hj
 refine W.rL (mB rfl rfl (eL (W.ty [(1, .int _ _), (2, .ptr _ _), (6, .ref _ _ _), (7, .int _ _), (8, .ptr _ _), (81, .bool _)] rfl (W.cb rfl (fun hc => ?_) (fun hc => ?_)))))
 have hv := hv.1 hc
 refine W.rL1 (cL rfl (o_fa tt53 rfl tt51 rfl (cLn (o_stB (v := .nilS) (vs := [.nilS]) (cs2 := [.int _ _, .nilS]) tt51 rfl rfl rfl rfl rfl (Nat.le_of_ble_eq_true rfl) rfl (eL (zZ (⟨(), [], hv, St.to_mk (φ := [some 0, some 1, none, none, some 4]) rfl (rfl) ⟨Ren.int _ _, Ren.ptr rfl, Ren.ref rfl (fun h => rfl), Ren.int _ _, Ren.ptr rfl, trivial⟩ ⟨(zB rfl rfl), zE enc53 false r1 rfl, rfl, rfl, .inr ⟨_, rfl, rfl, Rens.cons (Ren.int _ _) (Rens.cons (Ren.nilR rfl rfl) (Rens.nil))⟩, trivial⟩⟩)))))))
 have hv := hv.2 hc
 refine W.skip (zZ (⟨(), r3, hv, St.to_mk (φ := [some 0, some 1, none, some 3, some 4]) rfl (rfl) ⟨Ren.int _ _, Ren.ptr rfl, Ren.ref rfl (fun h => rfl), Ren.int _ _, Ren.ptr rfl, trivial⟩ ⟨(zB rfl rfl), zE enc53 false r1 rfl, rfl, zE enc60 false r3 rfl, .inr ⟨_, rfl, rfl, Rens.cons (Ren.int _ _) (Rens.cons (Ren.ref rfl id) (Rens.nil))⟩, trivial⟩⟩))
 have hv := hv.2 hc
 refine W.exit (zZt (zZt (zYs (zZ (W.ty [(6, .ref _ _ _)] rfl (W.rL (cL rfl (zZp (v := .ref _ _ _) rfl (cL rfl (zZq (v := .ref _ _ _) rfl (aI rfl rfl (eL (W.ty [(4, .ref _ _ _), (5, .int _ _)] rfl (W.ret (rt (rt_t (v := .ref _ _ _) rfl (rt_t (v := .int _ _) rfl (rt_n (⟨_, rs_tup 5 _ (Wks.cons (rs_ref enc53 3 _ rfl rfl) (Wks.cons (zY _ _ _ _) zk)), r1, (0 : Int), rfl, hv⟩)))))))))))))))))))
set_option maxHeartbeats 4000000 in
theorem vcp_rwith (r : Req) (p : Int) (h0 : r.sv.length <= 9223372036854775807) (h1 : ∀ j ∈ r.jobs, j.wk.length <= 9223372036854775807) (h2 : r.jobs.length <= 9223372036854775807) (h3 : r.ex.length <= 9223372036854775807) : vc_rwith r p (fun q0 q1 => q0 = (withE r p).1 /\ q1 = (withE r p).2) := by
  have e1 : ∀ n lo hi : Int, (inM n lo hi = true) = (lo <= n /\ n <= hi) := fun n lo hi => by unfold inM; simp
  have hp : validR r = true -> (2 : Int) ^ (min r.causes.toNat 64) = 2 ^ r.causes.toNat /\ (1 : Int) <= 2 ^ r.causes.toNat /\ (2 : Int) ^ r.causes.toNat <= 64 := fun h => by
    have := ((validR_iff r).1 h).causes
    obtain ⟨c, hc⟩ : ∃ c : Nat, r.causes = c := ⟨r.causes.toNat, by omega⟩
    rw [hc] at this ⊢
    have : c <= 6 := by omega
    rw [Int.toNat_natCast, Nat.min_eq_left (by omega)]
    rcases c with _ | _ | _ | _ | _ | _ | _ | c <;> first | decide | omega
  unfold vc_rwith
  refine ⟨⟨h0, h1, h2, h3, fun _ => trivial, fun k => ?_⟩, fun k => ?_, fun k => ?_⟩
  . have k := Decidable.not_not.1 k
    obtain ⟨p1, p2, p3⟩ := hp k
    have := ((validR_iff r).1 k).causes
    rw [p1]
    exact ⟨by omega, by unfold inI; omega, by unfold inI; omega, trivial⟩
  . have : ¬ isSetM r p = true := fun h => by
      unfold isSetM at h
      rw [Bool.and_eq_true, decide_eq_true_eq] at h
      obtain ⟨p1, p2, p3⟩ := hp h.1
      rw [p1, e1] at k
      rcases k with k | k
      . exact k h.1
      . omega
    unfold withE
    rw [if_neg this]
    exact ⟨rfl, rfl⟩
  have kv : validR r = true := Decidable.not_not.1 fun h => k (.inl h)
  have ks : isSetM r p = true := by
    unfold isSetM
    rw [Bool.and_eq_true, decide_eq_true_eq]
    refine ⟨kv, ?_⟩
    obtain ⟨p1, p2, p3⟩ := hp kv
    rw [p1, e1] at k
    omega
  have hv := (validR_iff r).1 kv
  obtain ⟨hj1, hj2, hj3⟩ := job_ok hv.j
  have hwl := withM_len r p
  refine ⟨fun v l => ∃ i : Nat, v = i /\ i <= r.jobs.length /\ l = (withM r p).take i, fun v _ => r.jobs.length - v.toNat, ⟨0, rfl, by omega, rfl⟩, ?_⟩
  rintro _ _ ⟨i, rfl, hi, rfl⟩
  refine ⟨fun k1 => ?_, fun k1 => ?_⟩
  . have hi' : i < r.jobs.length := by omega
    have hjb := hj3 _ (lat_mem (xs := r.jobs) (i := (i : Int)) ⟨by omega, k1⟩)
    refine ⟨⟨by omega, k1⟩, by have := hjb.1; omega, fun g a w b => ∃ q : Nat, a = q /\ q <= r.ex.length /\ g = goneF p i (r.ex.take q) /\ w = wkF p i (r.ex.take q) (lat r.jobs (i : Int)).wk /\ b = (lat r.jobs (i : Int)).ar, fun _ a _ _ => r.ex.length - a.toNat, ⟨0, rfl, by omega, rfl, rfl, rfl⟩, ?_⟩
    rintro _ _ _ _ ⟨q, rfl, hq, rfl, rfl, rfl⟩
    refine ⟨fun k2 => ?_, fun k2 => ?_⟩
    . have hq' : q < r.ex.length := by omega
      have et : r.ex.take (q + 1) = r.ex.take q ++ [lat r.ex (q : Int)] := by
        rw [List.take_add_one, List.getElem?_eq_getElem hq', lat_get hq']; rfl
      have ew : wkF p i (r.ex.take (q + 1)) (lat r.jobs (i : Int)).wk = wkStep p i (wkF p i (r.ex.take q) (lat r.jobs (i : Int)).wk) (lat r.ex (q : Int)) := by
        unfold wkF; rw [et, List.foldl_append]; rfl
      have eg : goneF p i (r.ex.take (q + 1)) = (goneF p i (r.ex.take q) || decide ((lat r.ex (q : Int)).jb = i /\ ¬ hasB p (lat r.ex (q : Int)).ca /\ (lat r.ex (q : Int)).pc = -1)) := by
        unfold goneF; rw [et, List.any_append]; simp
      have hmem := hv.mem (lat_mem (xs := r.ex) (i := (q : Int)) ⟨by omega, k2⟩)
      have hwk := (wkF_ok hv p hi' (l := r.ex.take q) (wk := (lat r.jobs (i : Int)).wk) (fun x hx => List.mem_of_mem_take hx) rfl hjb.2).1
      refine ⟨fun w g => w = wkF p i (r.ex.take (q + 1)) (lat r.jobs (i : Int)).wk /\ g = goneF p i (r.ex.take (q + 1)), fun w g hJ => ⟨by unfold inI; omega, ⟨q + 1, by omega, by omega, hJ.2, hJ.1, rfl⟩, by show r.ex.length - ((q : Int) + 1).toNat < r.ex.length - (q : Int).toNat; omega⟩, ⟨by omega, k2⟩, ⟨fun _ => trivial, fun _ => ⟨hmem.1.2.1, trivial⟩⟩, fun k3 => ?_, fun k3 => ⟨fun k4 => ?_, fun k4 => ?_⟩⟩
      . have hn : ¬ ((lat r.ex (q : Int)).jb = i /\ ¬ hasB p (lat r.ex (q : Int)).ca) := fun h => k3.elim (fun k => k h.1) (fun k => h.2 k)
        rw [ew, eg]
        unfold wkStep
        rw [if_neg (fun h => hn ⟨h.1, h.2.1⟩), decide_eq_false (fun h => hn ⟨h.1, h.2.1⟩), Bool.or_false]
        exact ⟨rfl, rfl⟩
      . have hn : (lat r.ex (q : Int)).jb = i /\ ¬ hasB p (lat r.ex (q : Int)).ca := ⟨Decidable.not_not.1 fun h => k3 (.inl h), fun h => k3 (.inr h)⟩
        rw [ew, eg]
        unfold wkStep
        rw [if_neg (fun h => h.2.2 k4), decide_eq_true ⟨hn.1, hn.2, k4⟩, Bool.or_true]
        exact ⟨rfl, rfl⟩
      . have hn : (lat r.ex (q : Int)).jb = i /\ ¬ hasB p (lat r.ex (q : Int)).ca := ⟨Decidable.not_not.1 fun h => k3 (.inl h), fun h => k3 (.inr h)⟩
        have hw : isWorkM r (lat r.ex (q : Int)) = true := hmem.2.resolve_left fun hm => by
          unfold isRemM at hm
          rw [decide_eq_true_eq] at hm
          exact k4 hm.1
        unfold isWorkM at hw
        rw [decide_eq_true_eq, hn.1] at hw
        refine ⟨⟨hw.1.1, by omega⟩, ?_⟩
        rw [ew, eg]
        unfold wkStep
        rw [if_pos ⟨hn.1, hn.2, k4⟩, decide_eq_false (fun h => k4 h.2.2), Bool.or_false]
        exact ⟨rfl, rfl⟩
    . have ea : r.ex.take q = r.ex := List.take_of_length_le (by omega)
      rw [ea]
      refine ⟨fun w => w = (jobW r p i).wk, fun w hw => ?_, fun k3 => ?_, fun k3 => ?_⟩
      . subst hw
        have ej : Job.mk (lat r.jobs (i : Int)).ar (jobW r p i).wk = jobW r p i := rfl
        have et : (withM r p).take (i + 1) = (withM r p).take i ++ [jobW r p i] := by
          rw [List.take_add_one, List.getElem?_eq_getElem (by omega)]
          have := hv.with_lat p hi'
          rw [lat_get (by omega)] at this
          rw [this]; rfl
        rw [ej, <- et]
        exact ⟨by rw [List.length_take]; omega, by unfold inI; omega, ⟨i + 1, by omega, by omega, rfl⟩, by show r.jobs.length - ((i : Int) + 1).toNat < r.jobs.length - (i : Int).toNat; omega⟩
      . unfold jobW; rw [if_pos k3]
      . unfold jobW; rw [if_neg k3]
  . unfold withE
    rw [if_pos ks, List.take_of_length_le (by omega)]
    exact ⟨rfl, rfl⟩
theorem spec_rwith (r : Req) (p : Int) (h0 : r.sv.length <= 9223372036854775807) (h1 : ∀ j ∈ r.jobs, j.wk.length <= 9223372036854775807) (h2 : r.jobs.length <= 9223372036854775807) (h3 : r.ex.length <= 9223372036854775807) : FnP Try.prog 24 [.agg ((e26 true) r), .int .i64 p] (fun xR => xR = .tup [.lst false ((withE r p).1).length (zYy (e53 true) ((withE r p).1)), .int .i64 ((withE r p).2)]) :=
  (walk_rwith (vcp_rwith r p h0 h1 h2 h3)).mono (by rintro _ ⟨_, _, rfl, rfl, rfl⟩; rfl)
end Go.Lat
