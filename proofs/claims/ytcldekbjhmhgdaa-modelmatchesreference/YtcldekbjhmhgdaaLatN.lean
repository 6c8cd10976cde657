/- The law latecomerlaw23.ModelMatchesReference returns true for every input, and each argument reads afterwards as it read before. Part 14 of 15. No condition. -/
import Derived.Test.YtcldekbjhmhgdaaLatE
import Derived.Test.YtcldekbjhmhgdaaLatF
import Derived.Test.YtcldekbjhmhgdaaLatD
import Derived.Test.YtcldekbjhmhgdaaLatJ
import Derived.Test.YtcldekbjhmhgdaaLatI
import Derived.Test.YtcldekbjhmhgdaaLatL
import Derived.Test.YtcldekbjhmhgdaaLatK
import Derived.Test.YtcldekbjhmhgdaaLatG
import Derived.Test.YtcldekbjhmhgdaaLatM
set_option linter.unusedVariables false
set_option linter.unusedSimpArgs false
set_option linter.unnecessarySimpa false
set_option maxRecDepth 100000
set_option maxHeartbeats 4000000
namespace Go.Lat
open Go.RowKit Go.Proofs
attribute [local irreducible] seqL opC
def vc_in55 (n : Int) (lo : Int) (hi : Int) (Post : Bool -> Prop) : Prop :=
  Post (decide ((lo <= n) /\ (n <= hi)))
theorem walk_in55 {n : Int} {lo : Int} {hi : Int} {Post : Bool -> Prop} (hv : vc_in55 n lo hi Post) : FnP Try.prog 55 [.int .i64 n, .int .i64 lo, .int .i64 hi] (fun x => ∃ q0, x = .bool q0 /\ Post q0) := by
 refine FnP.of_walk (T := tt) (nt := 15) ttOk ttMix ⟨⟨Try.f55, Try.func55, rfl, rfl, rfl, rfl⟩⟩ (by simp) ?_
 unfold vc_in55 at hv
 change W _ _ _ ⟨15, look [(0, .int .i64 n), (1, .int .i64 lo), (2, .int .i64 hi)], [], 0⟩ _
 refine W.ty [(0, .int _ _), (1, .int _ _), (2, .int _ _)] rfl (W.rL (aB rfl rfl (eL (W.ty [(0, .int _ _), (1, .int _ _), (2, .int _ _)] rfl (W.rLm ⟨15, look [(6, .bool (decide ((lo <= n) /\ (n <= hi))))], [], 0⟩ ?_ ?_)))))
 iterate 2 refine mI rfl rfl ?_
 refine cL rfl (o_geq rfl rfl (mB rfl rfl ?_))
 by_cases c1 : lo <= n
 refine cLg rfl rfl (dT c1) (mI rfl rfl (cLg rfl rfl (dT c1) (mI rfl rfl (cLg rfl rfl (dT c1) (cL rfl (o_leq rfl rfl (cL rfl (zZv (v := .bool _) rfl (dT c1) rfl (aB rfl rfl (eL (zYz ⟨(congrArg AV.bool (zXv c1 (rfl))).symm, trivial⟩ rfl)))))))))))
 iterate 3 refine cLs rfl rfl rfl (dF c1) ?_
 refine cL rfl (zZy (v := .bool _) rfl (dF c1) rfl (aB rfl rfl (eL (zYz ⟨(congrArg AV.bool (dAndF c1)).symm, trivial⟩ rfl))))
 refine W.ret (rt (rt_t (v := .bool _) rfl (rt_n (⟨_, zYr _ _ _, (decide ((lo <= n) /\ (n <= hi))), rfl, hv⟩))))
set_option maxHeartbeats 4000000 in
theorem vcp_in55 (n : Int) (lo : Int) (hi : Int)  : vc_in55 n lo hi (fun q0 => q0 = (inM n lo hi)) := by
  unfold vc_in55
  unfold inM
  rfl
theorem spec_in55 (n : Int) (lo : Int) (hi : Int)  : FnP Try.prog 55 [.int .i64 n, .int .i64 lo, .int .i64 hi] (fun xR => xR = .bool (inM n lo hi)) :=
  (walk_in55 (vcp_in55 n lo hi)).mono (by rintro _ ⟨_, rfl, rfl⟩; rfl)
def vc_rvfact (x : Fct) (Post : Bool -> Prop) : Prop :=
  (((¬ ((inM x.tr (0 : Int) (999 : Int)) = true)) \/ ((¬ ((inM x.sp (0 : Int) (9 : Int)) = true)) \/ ((¬ ((inM x.se (0 : Int) (7 : Int)) = true)) \/ ((¬ ((inM x.ver (0 : Int) (9 : Int)) = true)) \/ ((¬ ((inM x.op (0 : Int) (11 : Int)) = true)) \/ (¬ ((inM x.pe (-1 : Int) (19 : Int)) = true))))))) -> Post false) /\ (¬ ((¬ ((inM x.tr (0 : Int) (999 : Int)) = true)) \/ ((¬ ((inM x.sp (0 : Int) (9 : Int)) = true)) \/ ((¬ ((inM x.se (0 : Int) (7 : Int)) = true)) \/ ((¬ ((inM x.ver (0 : Int) (9 : Int)) = true)) \/ ((¬ ((inM x.op (0 : Int) (11 : Int)) = true)) \/ (¬ ((inM x.pe (-1 : Int) (19 : Int)) = true))))))) -> ((inI (x.tr.tdiv (10 : Int))) /\ True) /\ (Post (decide ((x.da = x.tr.tdiv (10 : Int)) /\ (((0 : Int) <= x.lo) /\ ((x.lo <= x.hi) /\ ((x.hi <= (4398046511104 : Int)) /\ ((inM x.by_ (0 : Int) (24000 : Int)) = true))))))))
theorem walk_rvfact {x : Fct} {Post : Bool -> Prop} (hv : vc_rvfact x Post) : FnP Try.prog 42 [.agg (e69 x)] (fun x => ∃ q0, x = .bool q0 /\ Post q0) := by
 refine FnP.of_walk (T := tt) (nt := 65) ttOk ttMix ⟨⟨Try.f42, Try.func42, rfl, rfl, rfl, rfl⟩⟩ (by simp) ?_
 unfold vc_rvfact at hv
 change W _ _ _ ⟨65, look [(0, .agg [.int .i64 x.tr, .int .i64 x.sp, .int .i64 x.se, .int .i64 x.ver, .int .i64 x.op, .int .i64 x.pe, .int .i64 x.da, .int .i64 x.lo, .int .i64 x.hi, .int .i64 x.by_])], [], 0⟩ _
 refine W.ty [(0, .agg _)] rfl (W.rL (cL rfl (o_box (v := .agg _) (p := 0) rfl rfl rfl (aB rfl rfl (eL (W.ty [(1, .ptr _ _)] rfl (W.seq' (W.rLm ⟨65, look [(1, .ptr 0 0), (36, .bool (decide ((¬ ((inM x.tr (0 : Int) (999 : Int)) = true)) \/ ((¬ ((inM x.sp (0 : Int) (9 : Int)) = true)) \/ ((¬ ((inM x.se (0 : Int) (7 : Int)) = true)) \/ ((¬ ((inM x.ver (0 : Int) (9 : Int)) = true)) \/ ((¬ ((inM x.op (0 : Int) (11 : Int)) = true)) \/ (¬ ((inM x.pe (-1 : Int) (19 : Int)) = true)))))))))], [.box 69 [.int .i64 x.tr, .int .i64 x.sp, .int .i64 x.se, .int .i64 x.ver, .int .i64 x.op, .int .i64 x.pe, .int .i64 x.da, .int .i64 x.lo, .int .i64 x.hi, .int .i64 x.by_]], 0⟩ ?_ ?_))))))))
 refine cL rfl (o_fa tt69 rfl tt3 rfl (cL rfl (zZx (v := .int _ _) tt3 rfl rfl ⟨_, rfl⟩ (cL rfl (zZu (k := 55) (fst := []) (caps := []) (ys := [.int _ _, .int _ _, .int _ _]) rfl rfl (spec_in55 x.tr (0 : Int) (999 : Int)) zk (cL rfl (o_notB rfl (mB rfl rfl ?_))))))))
 by_cases c1 : ¬ ((inM x.tr (0 : Int) (999 : Int)) = true)
 iterate 4 refine cLs rfl rfl rfl (dT c1) ?_
 refine cL rfl (zZv (v := .bool _) rfl (dT c1) rfl (mB rfl rfl ?_))
 iterate 4 refine cLs rfl rfl rfl (rfl) ?_
 refine cL rfl (zZv (v := .bool _) rfl rfl rfl (mB rfl rfl ?_))
 iterate 4 refine cLs rfl rfl rfl (rfl) ?_
 refine cL rfl (zZv (v := .bool _) rfl rfl rfl (mB rfl rfl ?_))
 iterate 4 refine cLs rfl rfl rfl (rfl) ?_
 refine cL rfl (zZv (v := .bool _) rfl rfl rfl (mB rfl rfl ?_))
 iterate 4 refine cLs rfl rfl rfl (rfl) ?_
 refine cL rfl (zZv (v := .bool _) rfl rfl rfl (eL (zYz ⟨rfl, (congrArg AV.bool (dOrT c1)).symm, trivial⟩ rfl)))
 refine cLg rfl rfl (dF c1) (cL rfl (o_fa tt69 rfl tt3 rfl (cLg rfl rfl (dF c1) (cL rfl (zZx (v := .int _ _) tt3 rfl rfl ⟨_, rfl⟩ (cLg rfl rfl (dF c1) (cL rfl (zZu (k := 55) (fst := []) (caps := []) (ys := [.int _ _, .int _ _, .int _ _]) rfl rfl (spec_in55 x.sp (0 : Int) (9 : Int)) zk (cLg rfl rfl (dF c1) (cL rfl (o_notB rfl (cL rfl (zZy (v := .bool _) rfl (dF c1) rfl (mB rfl rfl ?_))))))))))))))
 by_cases c2 : ¬ ((inM x.sp (0 : Int) (9 : Int)) = true)
 iterate 4 refine cLs rfl rfl rfl (dT c2) ?_
 refine cL rfl (zZv (v := .bool _) rfl (dT c2) rfl (mB rfl rfl ?_))
 iterate 4 refine cLs rfl rfl rfl (rfl) ?_
 refine cL rfl (zZv (v := .bool _) rfl rfl rfl (mB rfl rfl ?_))
 iterate 4 refine cLs rfl rfl rfl (rfl) ?_
 refine cL rfl (zZv (v := .bool _) rfl rfl rfl (mB rfl rfl ?_))
 iterate 4 refine cLs rfl rfl rfl (rfl) ?_
 refine cL rfl (zZv (v := .bool _) rfl rfl rfl (eL (zYz ⟨rfl, (congrArg AV.bool (dOrF c1 (dOrT c2))).symm, trivial⟩ rfl)))
 refine cLg rfl rfl (dF c2) (cL rfl (o_fa tt69 rfl tt3 rfl (cLg rfl rfl (dF c2) (cL rfl (zZx (v := .int _ _) tt3 rfl rfl ⟨_, rfl⟩ (cLg rfl rfl (dF c2) (cL rfl (zZu (k := 55) (fst := []) (caps := []) (ys := [.int _ _, .int _ _, .int _ _]) rfl rfl (spec_in55 x.se (0 : Int) (7 : Int)) zk (cLg rfl rfl (dF c2) (cL rfl (o_notB rfl (cL rfl (zZy (v := .bool _) rfl (dF c2) rfl (mB rfl rfl ?_))))))))))))))
 by_cases c3 : ¬ ((inM x.se (0 : Int) (7 : Int)) = true)
 iterate 4 refine cLs rfl rfl rfl (dT c3) ?_
 refine cL rfl (zZv (v := .bool _) rfl (dT c3) rfl (mB rfl rfl ?_))
 iterate 4 refine cLs rfl rfl rfl (rfl) ?_
 refine cL rfl (zZv (v := .bool _) rfl rfl rfl (mB rfl rfl ?_))
 iterate 4 refine cLs rfl rfl rfl (rfl) ?_
 refine cL rfl (zZv (v := .bool _) rfl rfl rfl (eL (zYz ⟨rfl, (congrArg AV.bool (dOrF c1 (dOrF c2 (dOrT c3)))).symm, trivial⟩ rfl)))
 refine cLg rfl rfl (dF c3) (cL rfl (o_fa tt69 rfl tt3 rfl (cLg rfl rfl (dF c3) (cL rfl (zZx (v := .int _ _) tt3 rfl rfl ⟨_, rfl⟩ (cLg rfl rfl (dF c3) (cL rfl (zZu (k := 55) (fst := []) (caps := []) (ys := [.int _ _, .int _ _, .int _ _]) rfl rfl (spec_in55 x.ver (0 : Int) (9 : Int)) zk (cLg rfl rfl (dF c3) (cL rfl (o_notB rfl (cL rfl (zZy (v := .bool _) rfl (dF c3) rfl (mB rfl rfl ?_))))))))))))))
 by_cases c4 : ¬ ((inM x.ver (0 : Int) (9 : Int)) = true)
 iterate 4 refine cLs rfl rfl rfl (dT c4) ?_
 refine cL rfl (zZv (v := .bool _) rfl (dT c4) rfl (mB rfl rfl ?_))
 iterate 4 refine cLs rfl rfl rfl (rfl) ?_
 refine cL rfl (zZv (v := .bool _) rfl rfl rfl (eL (zYz ⟨rfl, (congrArg AV.bool (dOrF c1 (dOrF c2 (dOrF c3 (dOrT c4))))).symm, trivial⟩ rfl)))
 refine cLg rfl rfl (dF c4) (cL rfl (o_fa tt69 rfl tt3 rfl (cLg rfl rfl (dF c4) (cL rfl (zZx (v := .int _ _) tt3 rfl rfl ⟨_, rfl⟩ (cLg rfl rfl (dF c4) (cL rfl (zZu (k := 55) (fst := []) (caps := []) (ys := [.int _ _, .int _ _, .int _ _]) rfl rfl (spec_in55 x.op (0 : Int) (11 : Int)) zk (cLg rfl rfl (dF c4) (cL rfl (o_notB rfl (cL rfl (zZy (v := .bool _) rfl (dF c4) rfl (mB rfl rfl ?_))))))))))))))
 by_cases c5 : ¬ ((inM x.op (0 : Int) (11 : Int)) = true)
 iterate 4 refine cLs rfl rfl rfl (dT c5) ?_
 refine cL rfl (zZv (v := .bool _) rfl (dT c5) rfl (eL (zYz ⟨rfl, (congrArg AV.bool (dOrF c1 (dOrF c2 (dOrF c3 (dOrF c4 (dOrT c5)))))).symm, trivial⟩ rfl)))
 refine cLg rfl rfl (dF c5) (cL rfl (o_fa tt69 rfl tt3 rfl (cLg rfl rfl (dF c5) (cL rfl (zZx (v := .int _ _) tt3 rfl rfl ⟨_, rfl⟩ (cLg rfl rfl (dF c5) (cL rfl (zZu (k := 55) (fst := []) (caps := []) (ys := [.int _ _, .int _ _, .int _ _]) rfl rfl (spec_in55 x.pe (-1 : Int) (19 : Int)) zk (cLg rfl rfl (dF c5) (cL rfl (o_notB rfl (cL rfl (zZy (v := .bool _) rfl (dF c5) rfl (eL (zYz ⟨rfl, (congrArg AV.bool (dOrF c1 (dOrF c2 (dOrF c3 (dOrF c4 (dOrF c5 (rfl))))))).symm, trivial⟩ rfl)))))))))))))))
 refine W.cn rfl (fun hc => ?_) (fun hc => ?_)
 have hv := hv.1 hc
 refine W.rL (aB rfl rfl (eL (W.ty [(2, .bool _)] rfl (W.ret (zZr (rt (rt_t (v := .bool _) rfl (rt_n (⟨_, zYr _ _ _, false, rfl, hv⟩)))))))))
 have hv := hv.2 hc
 refine W.skip (zZ (W.ty [(1, .ptr _ _)] rfl ?_))
 obtain ⟨sd, hv⟩ := hv
 refine W.rLm ⟨65, look [(2, .bool (decide ((x.da = x.tr.tdiv (10 : Int)) /\ (((0 : Int) <= x.lo) /\ ((x.lo <= x.hi) /\ ((x.hi <= (4398046511104 : Int)) /\ ((inM x.by_ (0 : Int) (24000 : Int)) = true)))))))], [.box 69 [.int .i64 x.tr, .int .i64 x.sp, .int .i64 x.se, .int .i64 x.ver, .int .i64 x.op, .int .i64 x.pe, .int .i64 x.da, .int .i64 x.lo, .int .i64 x.hi, .int .i64 x.by_]], 0⟩ ?_ ?_
 refine cL rfl (o_fa tt69 rfl tt3 rfl (cL rfl (zZx (v := .int _ _) tt3 rfl rfl ⟨_, rfl⟩ (cL rfl (o_fa tt69 rfl tt3 rfl (cL rfl (zZx (v := .int _ _) tt3 rfl rfl ⟨_, rfl⟩ ?_)))))))
 obtain ⟨s2, sd⟩ := sd
 refine cL rfl (o_quo rfl rfl (by decide) s2 (cL rfl (o_eqI rfl rfl rfl (mB rfl rfl ?_))))
 by_cases c1 : x.da = x.tr.tdiv (10 : Int)
 refine cLg rfl rfl (dT c1) (cL rfl (o_fa tt69 rfl tt3 rfl (cLg rfl rfl (dT c1) (cL rfl (zZx (v := .int _ _) tt3 rfl rfl ⟨_, rfl⟩ (cLg rfl rfl (dT c1) (cL rfl (o_geq rfl rfl (cL rfl (zZv (v := .bool _) rfl (dT c1) rfl (mB rfl rfl ?_)))))))))))
 by_cases c2 : (0 : Int) <= x.lo
 refine cLg rfl rfl (dT c2) (cL rfl (o_fa tt69 rfl tt3 rfl (cLg rfl rfl (dT c2) (cL rfl (zZx (v := .int _ _) tt3 rfl rfl ⟨_, rfl⟩ (cLg rfl rfl (dT c2) (cL rfl (o_fa tt69 rfl tt3 rfl (cLg rfl rfl (dT c2) (cL rfl (zZx (v := .int _ _) tt3 rfl rfl ⟨_, rfl⟩ (cLg rfl rfl (dT c2) (cL rfl (o_leq rfl rfl (cL rfl (zZv (v := .bool _) rfl (dT c2) rfl (mB rfl rfl ?_)))))))))))))))))
 by_cases c3 : x.lo <= x.hi
 refine cLg rfl rfl (dT c3) (cL rfl (o_fa tt69 rfl tt3 rfl (cLg rfl rfl (dT c3) (cL rfl (zZx (v := .int _ _) tt3 rfl rfl ⟨_, rfl⟩ (cLg rfl rfl (dT c3) (cL rfl (o_leq rfl rfl (cL rfl (zZv (v := .bool _) rfl (dT c3) rfl (mB rfl rfl ?_)))))))))))
 by_cases c4 : x.hi <= (4398046511104 : Int)
 refine cLg rfl rfl (dT c4) (cL rfl (o_fa tt69 rfl tt3 rfl (cLg rfl rfl (dT c4) (cL rfl (zZx (v := .int _ _) tt3 rfl rfl ⟨_, rfl⟩ (cLg rfl rfl (dT c4) (cL rfl (zZu (k := 55) (fst := []) (caps := []) (ys := [.int _ _, .int _ _, .int _ _]) rfl rfl (spec_in55 x.by_ (0 : Int) (24000 : Int)) zk (cL rfl (zZv (v := .bool _) rfl (dT c4) rfl (aB rfl rfl (eL (zYz ⟨(congrArg AV.bool (zXv c1 (zXv c2 (zXv c3 (zXv c4 (dVar _)))))).symm, trivial⟩ rfl)))))))))))))
 iterate 3 refine cLs rfl rfl rfl (dF c4) ?_
 refine cL rfl (zZy (v := .bool _) rfl (dF c4) rfl (aB rfl rfl (eL (zYz ⟨(congrArg AV.bool (zXv c1 (zXv c2 (zXv c3 (dAndF c4))))).symm, trivial⟩ rfl))))
 iterate 3 refine cLs rfl rfl rfl (dF c3) ?_
 refine cL rfl (zZy (v := .bool _) rfl (dF c3) rfl (mB rfl rfl ?_))
 iterate 3 refine cLs rfl rfl rfl (rfl) ?_
 refine cL rfl (zZy (v := .bool _) rfl rfl rfl (aB rfl rfl (eL (zYz ⟨(congrArg AV.bool (zXv c1 (zXv c2 (dAndF c3)))).symm, trivial⟩ rfl))))
 iterate 5 refine cLs rfl rfl rfl (dF c2) ?_
 refine cL rfl (zZy (v := .bool _) rfl (dF c2) rfl (mB rfl rfl ?_))
 iterate 3 refine cLs rfl rfl rfl (rfl) ?_
 refine cL rfl (zZy (v := .bool _) rfl rfl rfl (mB rfl rfl ?_))
 iterate 3 refine cLs rfl rfl rfl (rfl) ?_
 refine cL rfl (zZy (v := .bool _) rfl rfl rfl (aB rfl rfl (eL (zYz ⟨(congrArg AV.bool (zXv c1 (dAndF c2))).symm, trivial⟩ rfl))))
 iterate 3 refine cLs rfl rfl rfl (dF c1) ?_
 refine cL rfl (zZy (v := .bool _) rfl (dF c1) rfl (mB rfl rfl ?_))
 iterate 5 refine cLs rfl rfl rfl (rfl) ?_
 refine cL rfl (zZy (v := .bool _) rfl rfl rfl (mB rfl rfl ?_))
 iterate 3 refine cLs rfl rfl rfl (rfl) ?_
 refine cL rfl (zZy (v := .bool _) rfl rfl rfl (mB rfl rfl ?_))
 iterate 3 refine cLs rfl rfl rfl (rfl) ?_
 refine cL rfl (zZy (v := .bool _) rfl rfl rfl (aB rfl rfl (eL (zYz ⟨(congrArg AV.bool (dAndF c1)).symm, trivial⟩ rfl))))
 refine W.ret (rt (rt_t (v := .bool _) rfl (rt_n (⟨_, zYr _ _ _, (decide ((x.da = x.tr.tdiv (10 : Int)) /\ (((0 : Int) <= x.lo) /\ ((x.lo <= x.hi) /\ ((x.hi <= (4398046511104 : Int)) /\ ((inM x.by_ (0 : Int) (24000 : Int)) = true)))))), rfl, hv⟩))))
set_option maxHeartbeats 4000000 in
theorem vcp_rvfact (x : Fct)  : vc_rvfact x (fun q0 => q0 = (factOk x)) := by
  have e1 : ∀ n lo hi : Int, (inM n lo hi = true) = (lo <= n /\ n <= hi) := fun n lo hi => by unfold inM; simp
  unfold vc_rvfact
  simp only [e1]
  refine ⟨fun k => ?_, fun k => ⟨⟨inI_td (by omega) (by unfold inI; omega), trivial⟩, ?_⟩⟩
  . show false = factOk x
    unfold factOk
    symm
    rw [decide_eq_false_iff_not]
    intro h
    omega
  . show decide _ = factOk x
    unfold factOk
    refine decide_eq_decide.2 ⟨fun h => ?_, fun h => ?_⟩
    . omega
    . omega
theorem spec_rvfact (x : Fct)  : FnP Try.prog 42 [.agg (e69 x)] (fun xR => xR = .bool (factOk x)) :=
  (walk_rvfact (vcp_rvfact x)).mono (by rintro _ ⟨_, rfl, rfl⟩; rfl)
def vc_rput (l : (List Rg)) (r : Rg) (Post : (List Rg) -> Prop) : Prop :=
  ∃ (I1 : Int -> Prop) (μ1 : Int -> Nat), I1 (0 : Int) /\ ∀ (v5 : Int), I1 v5 -> (((v5 < (l.length : Int)) -> (0 <= v5 /\ v5 < (l.length : Int)) /\ ((((lat l v5).op) < r.op) -> True) /\ (¬ (((lat l v5).op) < r.op) -> (0 <= v5 /\ v5 < (l.length : Int)) /\ (((lat l v5).op = r.op) -> (0 <= v5 /\ v5 < (l.length : Int)) /\ True) /\ (¬ ((lat l v5).op = r.op) -> True))) /\ (¬ (v5 < (l.length : Int)) -> True)) /\ ((((v5 < (l.length : Int)) /\ ((((lat l v5).op) < r.op) \/ (((lat l v5).op = r.op) /\ (((lat l v5).ver) < r.ver)))) -> (inI (v5 + (1 : Int))) /\ (I1 (v5 + (1 : Int)) /\ μ1 (v5 + (1 : Int)) < μ1 v5)) /\ (¬ ((v5 < (l.length : Int)) /\ ((((lat l v5).op) < r.op) \/ (((lat l v5).op = r.op) /\ (((lat l v5).ver) < r.ver)))) -> (0 <= ((0 : Nat) : Int) /\ ((0 : Nat) : Int) <= v5 /\ v5 <= (l.length : Int)) /\ ((l.take v5.toNat).length <= 1073741824) /\ ∃ J2 : List Rg -> Int -> Prop, (∀ (r5 : List Rg) (v5_1 : Int), J2 r5 v5_1 -> (0 <= v5_1 /\ v5_1 <= (l.length : Int) /\ (l.length : Int) <= (l.length : Int)) /\ ((r5 ++ (l.drop v5_1.toNat)).length <= 1073741824) /\ Post (r5 ++ (l.drop v5_1.toNat))) /\ ((((v5 < (l.length : Int)) -> (0 <= v5 /\ v5 < (l.length : Int)) /\ (((lat l v5).op = r.op) -> (0 <= v5 /\ v5 < (l.length : Int)) /\ True) /\ (¬ ((lat l v5).op = r.op) -> True)) /\ (¬ (v5 < (l.length : Int)) -> True)) /\ ((((v5 < (l.length : Int)) /\ (((lat l v5).op = r.op) /\ ((lat l v5).ver = r.ver))) -> (0 <= v5 /\ v5 < (l.length : Int)) /\ (inI (((lat l v5).nu) + r.nu)) /\ (((l.take v5.toNat) ++ [(Rg.mk ((lat l v5).op) ((lat l v5).ver) (((lat l v5).nu) + r.nu) (min ((lat l v5).le) r.le) (max ((lat l v5).mo) r.mo))]).length <= 1073741824) /\ (inI (v5 + (1 : Int))) /\ J2 ((l.take v5.toNat) ++ [(Rg.mk ((lat l v5).op) ((lat l v5).ver) (((lat l v5).nu) + r.nu) (min ((lat l v5).le) r.le) (max ((lat l v5).mo) r.mo))]) (v5 + (1 : Int))) /\ (¬ ((v5 < (l.length : Int)) /\ (((lat l v5).op = r.op) /\ ((lat l v5).ver = r.ver))) -> (((l.take v5.toNat) ++ [r]).length <= 1073741824) /\ J2 ((l.take v5.toNat) ++ [r]) v5)))))
theorem walk_rput {l : (List Rg)} {r : Rg} {Post : (List Rg) -> Prop} (hv : vc_rput l r Post) : FnP Try.prog 43 [.lst true l.length (zYy e72 l), .agg (e72 r)] (fun x => ∃ q0, x = .lst false q0.length (zYy e72 q0) /\ Post q0) := by
 refine FnP.of_walk (T := tt) (nt := 110) ttOk ttMix ⟨⟨Try.f43, Try.func43, rfl, rfl, rfl, rfl⟩⟩ (by simp) ?_
 unfold vc_rput at hv
 change W _ _ _ ⟨110, look [(0, .lst true l.length (zYy e72 l)), (1, .agg [.int .i64 r.op, .int .i64 r.ver, .int .i64 r.nu, .int .i64 r.le, .int .i64 r.mo])], [], 0⟩ _
 refine W.ty [(0, .lst _ _ _), (1, .agg _)] rfl (W.rL (cL rfl (o_box (v := .agg _) (p := 0) rfl rfl rfl (cL rfl (zZq (v := .nilS) rfl (eL (W.ty [(0, .lst _ _ _), (3, .ptr _ _)] rfl (W.rL (aI rfl rfl (eL (W.ty [(0, .lst _ _ _), (3, .ptr _ _), (5, .int _ _)] rfl (W.seq' (W.block ?_)))))))))))))
 obtain ⟨I1, μ1, hp, hv⟩ := hv
 refine W.loop1 (fun v5 => ⟨110, look [(0, .lst true l.length (zYy e72 l)), (3, .ptr 0 0), (5, .int .i64 v5)], [.box 72 [.int .i64 r.op, .int .i64 r.ver, .int .i64 r.nu, .int .i64 r.le, .int .i64 r.mo]], 0⟩) I1 μ1 (0 : Int) (St.to_mk (φ := [some 0]) rfl (rfl) ⟨Ren.lst _ _ _, Ren.ptr rfl, Ren.int _ _, trivial⟩ ⟨(zB rfl rfl), trivial⟩) hp ?_
 clear hp
 intro v5 hI
 replace hv := hv v5 hI
 clear hI
 refine W.seq' ?_
 obtain ⟨sd, hv⟩ := hv
 refine W.rDm ⟨110, look [(0, .lst true l.length (zYy e72 l)), (3, .ptr 0 0), (5, .int .i64 v5), (41, .bool (decide ((v5 < (l.length : Int)) /\ ((((lat l v5).op) < r.op) \/ (((lat l v5).op = r.op) /\ (((lat l v5).ver) < r.ver))))))], [.box 72 [.int .i64 r.op, .int .i64 r.ver, .int .i64 r.nu, .int .i64 r.le, .int .i64 r.mo]], 0⟩ [0, 1, 2, 3, 4, 5, 6, 7, 8, 9, 10, 11, 12, 13, 14, 15, 16, 17, 18, 19, 20, 21, 22, 23, 24, 25, 26, 27, 28, 29, 30, 31, 32, 33] (by decide +kernel) rfl ?_ ?_
 refine mI rfl rfl (mL rfl rfl (cL rfl (zXw (v := .lst _ _ _) tt54 rfl rfl (cL rfl (zYq rfl rfl (mB rfl rfl ?_))))))
 by_cases c1 : v5 < (l.length : Int)
 have sd := sd.1 c1
 refine cLg rfl rfl (dT c1) (mL rfl rfl (cLg rfl rfl (dT c1) (mI rfl rfl (cLg rfl rfl (dT c1) ?_))))
 obtain ⟨s49, sd⟩ := sd
 refine cL rfl (zYu tt54 tt72 rfl rfl (enc72.wd true) rfl s49 ?_)
 intro rest49
 refine cLg rfl rfl (dT c1) (cL rfl (o_faP tt72 rfl tt3 rfl (cLg rfl rfl (dT c1) (cL rfl (zZx (v := .int _ _) tt3 rfl rfl ⟨_, rfl⟩ (cLg rfl rfl (dT c1) (cL rfl (o_fa tt72 rfl tt3 rfl (cLg rfl rfl (dT c1) (cL rfl (zZx (v := .int _ _) tt3 rfl rfl ⟨_, rfl⟩ (cLg rfl rfl (dT c1) (cL rfl (zYq rfl rfl (cLg rfl rfl (dT c1) (mB rfl rfl ?_))))))))))))))))
 by_cases c2 : ((lat l v5).op) < r.op
 iterate 9 refine cLs rfl rfl rfl (dT c2) ?_
 iterate 4 refine cLu rfl rfl rfl ?_
 iterate 4 refine cLu rfl rfl (by kernel_rfl) ?_
 refine cLs rfl rfl rfl (dT c2) (cLg rfl rfl (dT c1) (cL rfl (zZv (v := .bool _) rfl (dT c2) rfl (cL rfl (zZv (v := .bool _) rfl (dT c1) rfl (eL (zYz ⟨rfl, rfl, rfl, (congrArg AV.bool (zXv c1 (dOrT c2))).symm, trivial⟩ rfl)))))))
 have sd := sd.2 c2
 refine cLg rfl rfl (dF c2) (mL rfl rfl (cLg rfl rfl (dF c2) (mI rfl rfl (cLg rfl rfl (dF c2) ?_))))
 obtain ⟨s50, sd⟩ := sd
 refine cL rfl (zYu tt54 tt72 rfl rfl (enc72.wd true) rfl s50 ?_)
 intro rest50
 refine cLg rfl rfl (dF c2) (cL rfl (o_faP tt72 rfl tt3 rfl (cLg rfl rfl (dF c2) (cL rfl (zZx (v := .int _ _) tt3 rfl rfl ⟨_, rfl⟩ (cLg rfl rfl (dF c2) (cL rfl (o_fa tt72 rfl tt3 rfl (cLg rfl rfl (dF c2) (cL rfl (zZx (v := .int _ _) tt3 rfl rfl ⟨_, rfl⟩ (cLg rfl rfl (dF c2) (cL rfl (o_eqI rfl rfl rfl (cLg rfl rfl (dF c2) (mB rfl rfl ?_))))))))))))))))
 by_cases c3 : (lat l v5).op = r.op
 have sd := sd.1 c3
 refine cLg rfl rfl (dT c3) (mL rfl rfl (cLg rfl rfl (dT c3) (mI rfl rfl (cLg rfl rfl (dT c3) ?_))))
 obtain ⟨s51, sd⟩ := sd
 refine cL rfl (zYu tt54 tt72 rfl rfl (enc72.wd true) rfl s51 ?_)
 intro rest51
 refine cLg rfl rfl (dT c3) (cL rfl (o_faP tt72 rfl tt3 rfl (cLg rfl rfl (dT c3) (cL rfl (zZx (v := .int _ _) tt3 rfl rfl ⟨_, rfl⟩ (cLg rfl rfl (dT c3) (cL rfl (o_fa tt72 rfl tt3 rfl (cLg rfl rfl (dT c3) (cL rfl (zZx (v := .int _ _) tt3 rfl rfl ⟨_, rfl⟩ (cLg rfl rfl (dT c3) (cL rfl (zYq rfl rfl (cLg rfl rfl (dF c2) (cL rfl (zZv (v := .bool _) rfl (dT c3) rfl (cLg rfl rfl (dT c1) (cL rfl (zZy (v := .bool _) rfl (dF c2) rfl (cL rfl (zZv (v := .bool _) rfl (dT c1) rfl (eL (zYz ⟨rfl, rfl, rfl, (congrArg AV.bool (zXv c1 (dOrF c2 (zXv c3 (rfl))))).symm, trivial⟩ rfl))))))))))))))))))))))))
 iterate 8 refine cLs rfl rfl rfl (dF c3) ?_
 refine cLg rfl rfl (dF c2) (cL rfl (zZy (v := .bool _) rfl (dF c3) rfl (cLg rfl rfl (dT c1) (cL rfl (zZy (v := .bool _) rfl (dF c2) rfl (cL rfl (zZv (v := .bool _) rfl (dT c1) rfl (eL (zYz ⟨rfl, rfl, rfl, (congrArg AV.bool (zXv c1 (dOrF c2 (dAndF c3)))).symm, trivial⟩ rfl)))))))))
 iterate 9 refine cLs rfl rfl rfl (dF c1) ?_
 iterate 4 refine cLu rfl rfl rfl ?_
 iterate 14 refine cLu rfl rfl (by kernel_rfl) ?_
 refine cLs rfl rfl rfl (dF c1) (cL rfl (zZy (v := .bool _) rfl (dF c1) rfl (eL (zYz ⟨rfl, rfl, rfl, (congrArg AV.bool (dAndF c1)).symm, trivial⟩ rfl))))
 refine W.cn rfl (fun hc => ?_) (fun hc => ?_)
 have hv := hv.1 hc
 refine W.skip (zZ (W.ty [(0, .lst _ _ _), (3, .ptr _ _), (5, .int _ _)] rfl (W.block (W.rL1 (mI rfl rfl ?_)))))
 obtain ⟨s52, hv⟩ := hv
 refine cL rfl (o_add rfl rfl s52 (aI rfl rfl (eL (zYv (zZ (⟨(), (v5 + (1 : Int)), hv, St.to_mk (φ := [some 0]) rfl (rfl) ⟨Ren.lst _ _ _, Ren.ptr rfl, Ren.int _ _, trivial⟩ ⟨(zB rfl rfl), trivial⟩⟩))))))
 have hv := hv.2 hc
 refine W.exit (zZt (zZt (zYs (zZ (W.ty [(0, .lst _ _ _), (3, .ptr _ _), (5, .int _ _)] rfl (W.rL (cL rfl (o_buildS (q := 1) (qs := []) (cs := []) tt54 tt72 rfl rfl rfl rfl (mL rfl rfl (mI rfl rfl ?_))))))))))
 obtain ⟨s53, hv⟩ := hv
 refine cL rfl (o_slL tt54 tt72 rfl (enc72.wd true) rfl rfl rfl s53 (ys := l.take v5.toNat) (by simp) ?_)
 obtain ⟨s54, hv⟩ := hv
 refine cL rfl (o_apR (p := 2) (q := (l.take v5.toNat).length) tt54 tt72 rfl rfl (src_lst (enc72.wd true) _ _ rfl) (zYw (enc72.wd true) _) rfl rfl (by simpa using s54) rfl (Nat.zero_add _) (List.nil_append _) (cL rfl (zZq (v := .ref _ _ _) rfl (eL (W.ty [(0, .lst _ _ _), (3, .ptr _ _), (5, .int _ _), (6, .ref _ _ _)] rfl ?_)))))
 obtain ⟨J2, hj, hv⟩ := hv
 refine W.mid2 (fun r5 v5_1 => ⟨110, look [(0, .lst true l.length (zYy e72 l)), (5, .int .i64 v5_1), (6, .ref false 5 r5.length)], [.dead, .dead, .dead, .dead, .dead, .row 72 5 (zYy e72 r5)], 0⟩) J2 ?_ ?_
 intro r5 v5_1
 intro hv
 replace hv := hj r5 v5_1 hv
 refine W.rL (cL rfl (zZp (v := .ref _ _ _) rfl (mL rfl rfl (mI rfl rfl ?_))))
 obtain ⟨s64, hv⟩ := hv
 refine cL rfl (o_slL tt54 tt72 rfl (enc72.wd true) rfl rfl rfl s64 (ys := l.drop v5_1.toNat) (sl_end _ _) ?_)
 obtain ⟨s65, hv⟩ := hv
 refine cL rfl (o_apR (p := 6) (q := (r5 ++ (l.drop v5_1.toNat)).length) tt54 tt72 rfl rfl (src_lst (enc72.wd true) _ _ rfl) (zYw (enc72.wd true) _) rfl (zYw (enc72.wd false) _) (Nat.le_trans (Nat.le_of_eq (@List.length_append _ (r5) (l.drop v5_1.toNat)).symm) s65) rfl (@List.length_append _ (r5) (l.drop v5_1.toNat)).symm (encL_app e72 r5 (l.drop v5_1.toNat)) (cL rfl (zZq (v := .ref _ _ _) rfl (eL (W.ty [(4, .ref _ _ _)] rfl (W.ret (rt (rt_t (v := .ref _ _ _) rfl (rt_n (⟨_, rs_ref enc72 4 _ rfl rfl, (r5 ++ (l.drop v5_1.toNat)), rfl, hv⟩))))))))))
 clear hj
 obtain ⟨sd, hv⟩ := hv
 refine W.rDm ⟨110, look [(0, .lst true l.length (zYy e72 l)), (3, .ptr 0 0), (5, .int .i64 v5), (6, .ref false 2 ((l.take v5.toNat).length)), (72, .bool (decide ((v5 < (l.length : Int)) /\ (((lat l v5).op = r.op) /\ ((lat l v5).ver = r.ver)))))], [.box 72 [.int .i64 r.op, .int .i64 r.ver, .int .i64 r.nu, .int .i64 r.le, .int .i64 r.mo], .dead, .row 72 5 (zYy e72 (l.take v5.toNat))], 0⟩ [0, 1, 2, 3, 4, 5, 6, 7, 8, 9, 10, 11, 12, 13, 14, 15, 16, 17, 18, 19, 20, 21, 22, 23] (by decide +kernel) rfl ?_ ?_
 refine mI rfl rfl (mL rfl rfl (cL rfl (zXw (v := .lst _ _ _) tt54 rfl rfl (cL rfl (zYq rfl rfl (mB rfl rfl ?_))))))
 by_cases c1 : v5 < (l.length : Int)
 have sd := sd.1 c1
 refine cLg rfl rfl (dT c1) (mL rfl rfl (cLg rfl rfl (dT c1) (mI rfl rfl (cLg rfl rfl (dT c1) ?_))))
 obtain ⟨s68, sd⟩ := sd
 refine cL rfl (zYu tt54 tt72 rfl rfl (enc72.wd true) rfl s68 ?_)
 intro rest68
 refine cLg rfl rfl (dT c1) (cL rfl (o_faP tt72 rfl tt3 rfl (cLg rfl rfl (dT c1) (cL rfl (zZx (v := .int _ _) tt3 rfl rfl ⟨_, rfl⟩ (cLg rfl rfl (dT c1) (cL rfl (o_fa tt72 rfl tt3 rfl (cLg rfl rfl (dT c1) (cL rfl (zZx (v := .int _ _) tt3 rfl rfl ⟨_, rfl⟩ (cLg rfl rfl (dT c1) (cL rfl (o_eqI rfl rfl rfl (cL rfl (zZv (v := .bool _) rfl (dT c1) rfl (mB rfl rfl ?_)))))))))))))))))
 by_cases c2 : (lat l v5).op = r.op
 have sd := sd.1 c2
 refine cLg rfl rfl (dT c2) (mL rfl rfl (cLg rfl rfl (dT c2) (mI rfl rfl (cLg rfl rfl (dT c2) ?_))))
 obtain ⟨s69, sd⟩ := sd
 refine cL rfl (zYu tt54 tt72 rfl rfl (enc72.wd true) rfl s69 ?_)
 intro rest69
 refine cLg rfl rfl (dT c2) (cL rfl (o_faP tt72 rfl tt3 rfl (cLg rfl rfl (dT c2) (cL rfl (zZx (v := .int _ _) tt3 rfl rfl ⟨_, rfl⟩ (cLg rfl rfl (dT c2) (cL rfl (o_fa tt72 rfl tt3 rfl (cLg rfl rfl (dT c2) (cL rfl (zZx (v := .int _ _) tt3 rfl rfl ⟨_, rfl⟩ (cLg rfl rfl (dT c2) (cL rfl (o_eqI rfl rfl rfl (cL rfl (zZv (v := .bool _) rfl (dT c2) rfl (eL (zYz ⟨rfl, rfl, rfl, rfl, (congrArg AV.bool (zXv c1 (zXv c2 (rfl)))).symm, trivial⟩ rfl))))))))))))))))))
 iterate 8 refine cLs rfl rfl rfl (dF c2) ?_
 refine cL rfl (zZy (v := .bool _) rfl (dF c2) rfl (eL (zYz ⟨rfl, rfl, rfl, rfl, (congrArg AV.bool (zXv c1 (dAndF c2))).symm, trivial⟩ rfl)))
 iterate 8 refine cLs rfl rfl rfl (dF c1) ?_
 refine cL rfl (zZy (v := .bool _) rfl (dF c1) rfl (mB rfl rfl ?_))
 iterate 8 refine cLs rfl rfl rfl (rfl) ?_
 refine cL rfl (zZy (v := .bool _) rfl rfl rfl (eL (zYz ⟨rfl, rfl, rfl, rfl, (congrArg AV.bool (dAndF c1)).symm, trivial⟩ rfl)))
 refine W.cn rfl (fun hc => ?_) (fun hc => ?_)
 have hv := hv.1 hc
 refine W.rL (mL rfl rfl (mI rfl rfl ?_))
 obtain ⟨s70, hv⟩ := hv
 refine cL rfl (zYu tt54 tt72 rfl rfl (enc72.wd true) rfl s70 ?_)
 intro rest70
 refine cL rfl (zYp (cs := [.int _ _, .int _ _, .int _ _, .int _ _, .int _ _]) tt72 rfl rfl ⟨_, rfl⟩ rfl (cL rfl (zXy (p := 3) tt72 rfl rfl (cLn (o_stB (v := .agg _) (vs := [.int _ _, .int _ _, .int _ _, .int _ _, .int _ _]) (cs2 := [.int _ _, .int _ _, .int _ _, .int _ _, .int _ _]) tt72 rfl rfl rfl rfl rfl (Nat.le_of_ble_eq_true rfl) rfl (eL (W.ty [(0, .lst _ _ _), (3, .ptr _ _), (5, .int _ _), (6, .ref _ _ _), (7, .ptr _ _)] rfl (W.rL (cL rfl (o_fa tt72 rfl tt3 rfl (cL rfl (zZx (v := .int _ _) tt3 rfl rfl ⟨_, rfl⟩ (cL rfl (o_fa tt72 rfl tt3 rfl (cL rfl (zZx (v := .int _ _) tt3 rfl rfl ⟨_, rfl⟩ ?_))))))))))))))))
 obtain ⟨s71, hv⟩ := hv
 refine cL rfl (o_add rfl rfl s71 (cL rfl (o_fa tt72 rfl tt3 rfl (cLn (o_stB (v := .int _ _) (vs := [.int _ _]) (cs2 := [.int _ _, .int _ _, .int _ _, .int _ _, .int _ _]) tt3 rfl rfl rfl rfl rfl (Nat.le_of_ble_eq_true rfl) rfl (eL (W.ty [(0, .lst _ _ _), (3, .ptr _ _), (5, .int _ _), (6, .ref _ _ _), (7, .ptr _ _)] rfl (W.rL (cL rfl (o_fa tt72 rfl tt3 rfl (cL rfl (zZx (v := .int _ _) tt3 rfl rfl ⟨_, rfl⟩ (cL rfl (o_fa tt72 rfl tt3 rfl (cL rfl (zZx (v := .int _ _) tt3 rfl rfl ⟨_, rfl⟩ (cL rfl (o_min rfl rfl (cL rfl (o_fa tt72 rfl tt3 rfl (cLn (o_stB (v := .int _ _) (vs := [.int _ _]) (cs2 := [.int _ _, .int _ _, .int _ _, .int _ _, .int _ _]) tt3 rfl rfl rfl rfl rfl (Nat.le_of_ble_eq_true rfl) rfl (eL (W.ty [(0, .lst _ _ _), (3, .ptr _ _), (5, .int _ _), (6, .ref _ _ _), (7, .ptr _ _)] rfl (W.rL (cL rfl (o_fa tt72 rfl tt3 rfl (cL rfl (zZx (v := .int _ _) tt3 rfl rfl ⟨_, rfl⟩ (cL rfl (o_fa tt72 rfl tt3 rfl (cL rfl (zZx (v := .int _ _) tt3 rfl rfl ⟨_, rfl⟩ (cL rfl (o_max rfl rfl (cL rfl (o_fa tt72 rfl tt3 rfl (cLn (o_stB (v := .int _ _) (vs := [.int _ _]) (cs2 := [.int _ _, .int _ _, .int _ _, .int _ _, .int _ _]) tt3 rfl rfl rfl rfl rfl (Nat.le_of_ble_eq_true rfl) rfl (eL (W.ty [(0, .lst _ _ _), (5, .int _ _), (6, .ref _ _ _), (7, .ptr _ _)] rfl (W.rL ?_))))))))))))))))))))))))))))))))))))))))))
 refine cL rfl (zZp (v := .ref _ _ _) rfl (cL rfl (zYp (cs := [.int _ _, .int _ _, .int _ _, .int _ _, .int _ _]) tt72 rfl rfl ⟨_, rfl⟩ rfl (cL rfl (o_bs1 (v := .agg _) (q := 4) tt54 tt72 rfl rfl rfl rfl rfl rfl rfl rfl ?_)))))
 obtain ⟨s72, hv⟩ := hv
 refine cL rfl (o_apR (p := 5) (q := ((l.take v5.toNat) ++ [(Rg.mk ((lat l v5).op) ((lat l v5).ver) (((lat l v5).nu) + r.nu) (min ((lat l v5).le) r.le) (max ((lat l v5).mo) r.mo))]).length) tt54 tt72 rfl rfl (src_ref rfl rfl) rfl rfl (zYw (enc72.wd false) _) (Nat.le_trans (Nat.le_of_eq (@List.length_append _ (l.take v5.toNat) ([(Rg.mk ((lat l v5).op) ((lat l v5).ver) (((lat l v5).nu) + r.nu) (min ((lat l v5).le) r.le) (max ((lat l v5).mo) r.mo))])).symm) s72) rfl (@List.length_append _ (l.take v5.toNat) ([(Rg.mk ((lat l v5).op) ((lat l v5).ver) (((lat l v5).nu) + r.nu) (min ((lat l v5).le) r.le) (max ((lat l v5).mo) r.mo))])).symm (encL_app e72 (l.take v5.toNat) [(Rg.mk ((lat l v5).op) ((lat l v5).ver) (((lat l v5).nu) + r.nu) (min ((lat l v5).le) r.le) (max ((lat l v5).mo) r.mo))]) (cL rfl (zZq (v := .ref _ _ _) rfl (eL (W.ty [(0, .lst _ _ _), (5, .int _ _), (6, .ref _ _ _)] rfl (W.rL1 (mI rfl rfl ?_)))))))
 obtain ⟨s73, hv⟩ := hv
 refine cL rfl (o_add rfl rfl s73 (aI rfl rfl (eL (zZ (⟨(), ((l.take v5.toNat) ++ [(Rg.mk ((lat l v5).op) ((lat l v5).ver) (((lat l v5).nu) + r.nu) (min ((lat l v5).le) r.le) (max ((lat l v5).mo) r.mo))]), (v5 + (1 : Int)), hv, St.to_mk (φ := [none, none, none, none, none, some 5]) rfl (rfl) ⟨Ren.lst _ _ _, Ren.int _ _, Ren.refL rfl id (by simp only [List.length_append, List.length_take] <;> omega), trivial⟩ ⟨rfl, rfl, rfl, rfl, rfl, zE enc72 false ((l.take v5.toNat) ++ [(Rg.mk ((lat l v5).op) ((lat l v5).ver) (((lat l v5).nu) + r.nu) (min ((lat l v5).le) r.le) (max ((lat l v5).mo) r.mo))]) rfl, trivial⟩⟩)))))
 have hv := hv.2 hc
 refine W.rL1 (cL rfl (zZp (v := .ref _ _ _) rfl (cL rfl (zYp (cs := [.int _ _, .int _ _, .int _ _, .int _ _, .int _ _]) tt72 rfl rfl ⟨_, rfl⟩ rfl (cL rfl (o_bs1 (v := .agg _) (q := 3) tt54 tt72 rfl rfl rfl rfl rfl rfl rfl rfl ?_))))))
 obtain ⟨s74, hv⟩ := hv
 refine cL rfl (o_apR (p := 4) (q := ((l.take v5.toNat) ++ [r]).length) tt54 tt72 rfl rfl (src_ref rfl rfl) rfl rfl (zYw (enc72.wd false) _) (Nat.le_trans (Nat.le_of_eq (@List.length_append _ (l.take v5.toNat) ([r])).symm) s74) rfl (@List.length_append _ (l.take v5.toNat) ([r])).symm (encL_app e72 (l.take v5.toNat) [r]) (cL rfl (zZq (v := .ref _ _ _) rfl (eL (zZ (⟨(), ((l.take v5.toNat) ++ [r]), v5, hv, St.to_mk (φ := [none, none, none, none, none, some 4]) rfl (rfl) ⟨Ren.lst _ _ _, Ren.int _ _, Ren.refL rfl id (by simp only [List.length_append, List.length_take] <;> omega), trivial⟩ ⟨rfl, rfl, rfl, rfl, rfl, zE enc72 false ((l.take v5.toNat) ++ [r]) rfl, trivial⟩⟩))))))
set_option maxHeartbeats 4000000 in
theorem vcp_rput (l : (List Rg)) (r : Rg) (h0 : l.length <= 1073741823) (h1 : ∀ x ∈ l, 0 <= x.nu /\ x.nu <= 4611686018427387904) (h2 : 0 <= r.nu /\ r.nu <= 1000000) : vc_rput l r (fun q0 => q0 = (rputM l r)) := by
  unfold vc_rput
  refine ⟨fun v => ∃ i : Nat, v = i /\ i <= l.length /\ ∀ a : Nat, a < i -> (lat l (a : Int)).op < r.op \/ (lat l (a : Int)).op = r.op /\ (lat l (a : Int)).ver < r.ver, fun v => l.length - v.toNat, ⟨0, rfl, by omega, fun a ha => by omega⟩, ?_⟩
  rintro _ ⟨i, rfl, hi, hx⟩
  refine ⟨⟨fun k1 => ⟨⟨by omega, k1⟩, fun _ => trivial, fun _ => ⟨⟨by omega, k1⟩, fun _ => ⟨⟨by omega, k1⟩, trivial⟩, fun _ => trivial⟩⟩, fun _ => trivial⟩, fun k1 => ⟨by unfold inI; omega, ⟨i + 1, by omega, by omega, fun a ha => ?_⟩, dec_lt k1.1⟩, fun k1 => ?_⟩
  . rcases Nat.lt_or_ge a i with h | h
    . exact hx a h
    . rw [show a = i by omega]; exact k1.2
  have hp : posR l r = i := posR_eq hi hx (fun ⟨h3, h4⟩ => k1 ⟨by omega, h4⟩)
  have ht : (l.take i).length = i := by rw [List.length_take]; omega
  rw [Int.toNat_natCast]
  refine ⟨⟨by omega, by omega, by omega⟩, by omega, fun w v => w ++ l.drop v.toNat = rputM l r /\ (0 <= v /\ v <= (l.length : Int)) /\ w.length <= v + 1, fun w v hJ => ⟨⟨hJ.2.1.1, hJ.2.1.2, by omega⟩, ?_, hJ.1⟩, ⟨fun k2 => ⟨⟨by omega, k2⟩, fun _ => ⟨⟨by omega, k2⟩, trivial⟩, fun _ => trivial⟩, fun _ => trivial⟩, fun k2 => ?_, fun k2 => ?_⟩
  . have := hJ.2
    rw [List.length_append, List.length_drop]; omega
  . have hm := h1 _ (lat_mem (xs := l) (i := (i : Int)) ⟨by omega, k2.1⟩)
    refine ⟨⟨by omega, k2.1⟩, by unfold inI; omega, by rw [List.length_append, ht]; simp only [List.length_singleton]; omega, by unfold inI; omega, ?_, ⟨by omega, by omega⟩, by rw [List.length_append, ht]; simp only [List.length_singleton]; omega⟩
    unfold rputM
    rw [hp, if_pos ⟨by omega, k2.2⟩, show ((i : Int) + 1).toNat = i + 1 by omega]
    rfl
  . refine ⟨by rw [List.length_append, ht]; simp only [List.length_singleton]; omega, ?_, ⟨by omega, by omega⟩, by rw [List.length_append, ht]; simp only [List.length_singleton]; omega⟩
    unfold rputM
    rw [hp, if_neg (fun h => k2 ⟨by omega, h.2⟩), Int.toNat_natCast]
theorem spec_rput (l : (List Rg)) (r : Rg) (h0 : l.length <= 1073741823) (h1 : ∀ x ∈ l, 0 <= x.nu /\ x.nu <= 4611686018427387904) (h2 : 0 <= r.nu /\ r.nu <= 1000000) : FnP Try.prog 43 [.lst true l.length (zYy e72 l), .agg (e72 r)] (fun xR => xR = .lst false (rputM l r).length (zYy e72 (rputM l r))) :=
  (walk_rput (vcp_rput l r h0 h1 h2)).mono (by rintro _ ⟨_, rfl, rfl⟩; rfl)
def vc_rfit (l : (List Fct)) (Post : (List Rg) -> Int -> Prop) : Prop :=
  (((400 : Int) < (l.length : Int)) -> Post [] (230 : Int)) /\ (¬ ((400 : Int) < (l.length : Int)) -> ∃ (I1 : List Rg -> Int -> Prop) (μ1 : List Rg -> Int -> Nat), I1 [] (0 : Int) /\ ∀ (v4 : List Rg) (v5 : Int), I1 v4 v5 -> ((v5 < (l.length : Int)) -> (0 <= v5 /\ v5 < (l.length : Int)) /\ ((¬ ((factOk (lat l v5)) = true)) -> Post [] (230 : Int)) /\ (¬ (¬ ((factOk (lat l v5)) = true)) -> (0 <= v5 /\ v5 < (l.length : Int)) /\ (0 <= v5 /\ v5 < (l.length : Int)) /\ (0 <= v5 /\ v5 < (l.length : Int)) /\ (0 <= v5 /\ v5 < (l.length : Int)) /\ (v4.length <= 1073741823) /\ (∀ x ∈ v4, 0 <= x.nu /\ x.nu <= 4611686018427387904) /\ (0 <= (Rg.mk ((lat l v5).op) ((lat l v5).ver) (1 : Int) ((lat l v5).lo) ((lat l v5).hi)).nu /\ (Rg.mk ((lat l v5).op) ((lat l v5).ver) (1 : Int) ((lat l v5).lo) ((lat l v5).hi)).nu <= 1000000) /\ (inI (v5 + (1 : Int))) /\ (I1 (rputM v4 (Rg.mk ((lat l v5).op) ((lat l v5).ver) (1 : Int) ((lat l v5).lo) ((lat l v5).hi))) (v5 + (1 : Int)) /\ μ1 (rputM v4 (Rg.mk ((lat l v5).op) ((lat l v5).ver) (1 : Int) ((lat l v5).lo) ((lat l v5).hi))) (v5 + (1 : Int)) < μ1 v4 v5))) /\ (¬ (v5 < (l.length : Int)) -> Post v4 (0 : Int)))
theorem walk_rfit {l : (List Fct)} {Post : (List Rg) -> Int -> Prop} (hv : vc_rfit l Post) : FnP Try.prog 27 [.lst true l.length (zYy e69 l)] (fun x => ∃ q0 q1, x = .tup [.lst false q0.length (zYy e72 q0), .int .i64 q1] /\ Post q0 q1) := by
 refine FnP.of_walk (T := tt) (nt := 45) ttOk ttMix ⟨⟨Try.f27, Try.func27, rfl, rfl, rfl, rfl⟩⟩ (by simp) ?_
 unfold vc_rfit at hv
 change W _ _ _ ⟨45, look [(0, .lst true l.length (zYy e69 l))], [], 0⟩ _
 refine W.ty [(0, .lst _ _ _)] rfl (W.rL (cL rfl (zZq (v := .nilS) rfl (aI rfl rfl (eL (W.ty [(0, .lst _ _ _)] rfl (W.seq' (W.rL (mL rfl rfl (cL rfl (zXw (v := .lst _ _ _) tt58 rfl rfl (cL rfl (o_gtr rfl rfl (eL (W.ty [(0, .lst _ _ _), (8, .bool _)] rfl (W.cn rfl (fun hc => ?_) (fun hc => ?_)))))))))))))))))
 have hv := hv.1 hc
 refine W.rL (cL rfl (zZq (v := .nilS) rfl (aI rfl rfl (eL (W.ty [(2, .nilS), (3, .int _ _)] rfl (W.ret (zZr (rt (rt_t (v := .nilS) rfl (rt_t (v := .int _ _) rfl (rt_n (⟨_, rs_tup 5 _ (Wks.cons (rs_nil _ _ _ _ rfl) (Wks.cons (zY _ _ _ _) zk)), [], (230 : Int), rfl, hv⟩))))))))))))
 have hv := hv.2 hc
 refine W.skip (zZ (W.ty [(0, .lst _ _ _)] rfl (W.rL (cL rfl (zZq (v := .nilS) rfl (eL (W.ty [(0, .lst _ _ _), (4, .nilS)] rfl (W.seq' (W.rL (aI rfl rfl (eL (W.ty [(0, .lst _ _ _), (4, .nilS), (5, .int _ _)] rfl (W.block ?_)))))))))))))
 obtain ⟨I1, μ1, hp, hv⟩ := hv
 refine W.loop2 (fun v4 v5 => ⟨45, look [(0, .lst true l.length (zYy e69 l)), (4, .lst false v4.length (zYy e72 v4)), (5, .int .i64 v5)], [], 0⟩) I1 μ1 [] (0 : Int) (St.to_mk (φ := []) rfl (rfl) ⟨Ren.lst _ _ _, Ren.nilL _ _ _ rfl, Ren.int _ _, trivial⟩ trivial) hp ?_
 clear hp
 intro v4 v5 hI
 replace hv := hv v4 v5 hI
 clear hI
 refine W.seq' (W.rL (mI rfl rfl (mL rfl rfl (cL rfl (zXw (v := .lst _ _ _) tt58 rfl rfl (cL rfl (zYq rfl rfl (eL (W.ty [(0, .lst _ _ _), (4, .lst _ _ _), (5, .int _ _), (12, .bool _)] rfl (W.cn rfl (fun hc => ?_) (fun hc => ?_)))))))))))
 have hv := hv.1 hc
 refine W.skip (zZ (W.ty [(0, .lst _ _ _), (4, .lst _ _ _), (5, .int _ _)] rfl (W.seq' (W.block (W.seq' (W.rL (mL rfl rfl (mI rfl rfl ?_))))))))
 obtain ⟨s106, hv⟩ := hv
 refine cL rfl (zYu tt58 tt69 rfl rfl (enc69.wd true) rfl s106 ?_)
 intro rest106
 refine cL rfl (zYp (cs := [.int _ _, .int _ _, .int _ _, .int _ _, .int _ _, .int _ _, .int _ _, .int _ _, .int _ _, .int _ _]) tt69 rfl rfl ⟨_, rfl⟩ rfl (cL rfl (zZu (k := 42) (fst := []) (caps := []) (ys := [.agg _]) rfl rfl (spec_rvfact (lat l v5)) zk (cL rfl (o_notB rfl (eL (W.ty [(0, .lst _ _ _), (4, .lst _ _ _), (5, .int _ _), (20, .bool _)] rfl (W.cn rfl (fun hc => ?_) (fun hc => ?_)))))))))
 have hv := hv.1 hc
 refine W.rL (cL rfl (zZq (v := .nilS) rfl (aI rfl rfl (eL (W.ty [(2, .nilS), (3, .int _ _)] rfl (W.ret (zZr (zYt (zZr (zZr (zYt (zZr (rt (rt_t (v := .nilS) rfl (rt_t (v := .int _ _) rfl (rt_n (⟨_, rs_tup 5 _ (Wks.cons (rs_nil _ _ _ _ rfl) (Wks.cons (zY _ _ _ _) zk)), [], (230 : Int), rfl, hv⟩)))))))))))))))))
 have hv := hv.2 hc
 refine W.skip (zZ (W.ty [(0, .lst _ _ _), (4, .lst _ _ _), (5, .int _ _)] rfl (W.rD1 [0, 1, 2, 3, 4, 5, 6, 7, 8, 9, 10, 11, 12, 13, 14, 15, 16, 17, 18, 19, 20, 21, 22, 23] (by decide +kernel) rfl ?_)))
 iterate 2 refine mL rfl rfl ?_
 refine mI rfl rfl ?_
 obtain ⟨s107, hv⟩ := hv
 refine cL rfl (zYu tt58 tt69 rfl rfl (enc69.wd true) rfl s107 ?_)
 intro rest107
 refine cL rfl (o_faP tt69 rfl tt3 rfl (cL rfl (zZx (v := .int _ _) tt3 rfl rfl ⟨_, rfl⟩ (mL rfl rfl (mI rfl rfl ?_)))))
 obtain ⟨s108, hv⟩ := hv
 refine cL rfl (zYu tt58 tt69 rfl rfl (enc69.wd true) rfl s108 ?_)
 intro rest108
 refine cL rfl (o_faP tt69 rfl tt3 rfl (cL rfl (zZx (v := .int _ _) tt3 rfl rfl ⟨_, rfl⟩ (mL rfl rfl (mI rfl rfl ?_)))))
 obtain ⟨s109, hv⟩ := hv
 refine cL rfl (zYu tt58 tt69 rfl rfl (enc69.wd true) rfl s109 ?_)
 intro rest109
 refine cL rfl (o_faP tt69 rfl tt3 rfl (cL rfl (zZx (v := .int _ _) tt3 rfl rfl ⟨_, rfl⟩ (mL rfl rfl (mI rfl rfl ?_)))))
 obtain ⟨s110, hv⟩ := hv
 refine cL rfl (zYu tt58 tt69 rfl rfl (enc69.wd true) rfl s110 ?_)
 intro rest110
 refine cL rfl (o_faP tt69 rfl tt3 rfl (cL rfl (zZx (v := .int _ _) tt3 rfl rfl ⟨_, rfl⟩ (cL rfl (o_build (qs := [(0, .int _ _), (1, .int _ _), (2, .int _ _), (3, .int _ _), (4, .int _ _)]) (cs := [.int _ _, .int _ _, .int _ _, .int _ _, .int _ _]) tt72 rfl rfl rfl ?_)))))
 obtain ⟨s111, s112, s113, hv⟩ := hv
 refine cL rfl (zZu (k := 43) (fst := []) (caps := []) (ys := [.lst _ _ _, .agg _]) rfl rfl (spec_rput v4 (Rg.mk ((lat l v5).op) ((lat l v5).ver) (1 : Int) ((lat l v5).lo) ((lat l v5).hi)) s111 s112 s113) zk (aL rfl rfl (eL (zYv (zZ (W.ty [(0, .lst _ _ _), (4, .lst _ _ _), (5, .int _ _)] rfl (W.rL1 (mI rfl rfl ?_))))))))
 obtain ⟨s114, hv⟩ := hv
 refine cL rfl (o_add rfl rfl s114 (aI rfl rfl (eL (zZ (⟨(), (rputM v4 (Rg.mk ((lat l v5).op) ((lat l v5).ver) (1 : Int) ((lat l v5).lo) ((lat l v5).hi))), (v5 + (1 : Int)), hv, St.to_mk (φ := []) rfl (rfl) (zT rfl rfl) trivial⟩)))))
 have hv := hv.2 hc
 refine W.exit (zZt (zZt (zYs (zZ (W.ty [(4, .lst _ _ _)] rfl (W.rL (mL rfl rfl (aL rfl rfl (aI rfl rfl (eL (W.ty [(2, .lst _ _ _), (3, .int _ _)] rfl (W.ret (rt (rt_t (v := .lst _ _ _) rfl (rt_t (v := .int _ _) rfl (rt_n (⟨_, rs_tup 5 _ (Wks.cons (rs_lst _ _ _ _) (Wks.cons (zY _ _ _ _) zk)), v4, (0 : Int), rfl, hv⟩)))))))))))))))))
set_option maxHeartbeats 4000000 in
theorem vcp_rfit (l : (List Fct)) (h0 : l.length <= 1073741823) : vc_rfit l (fun q0 q1 => q0 = (fitM l).1 /\ q1 = (fitM l).2) := by
  unfold vc_rfit
  refine ⟨fun k => ?_, fun k => ?_⟩
  . have : fitM l = ([], 230) := by unfold fitM; rw [if_pos (.inl (by omega))]
    rw [this]; exact ⟨rfl, rfl⟩
  refine ⟨fun r v => ∃ i : Nat, v = i /\ i <= l.length /\ r = joinM ((l.take i).map fRg) /\ ∀ j : Nat, j < i -> factOk (lat l (j : Int)) = true, fun _ v => l.length - v.toNat, ⟨0, rfl, by omega, rfl, fun j hj => by omega⟩, ?_⟩
  rintro _ _ ⟨i, rfl, hi, rfl, hok⟩
  have hnu : ∀ x ∈ l.map fRg, 0 <= x.nu /\ x.nu <= 1000000 := fun x hx => by
    obtain ⟨f, _, rfl⟩ := List.mem_map.1 hx
    exact ⟨by show (0 : Int) <= 1; omega, by show (1 : Int) <= 1000000; omega⟩
  refine ⟨fun k1 => ⟨⟨by omega, k1⟩, fun k2 => ?_, fun k2 => ?_⟩, fun k1 => ?_⟩
  . have := fitM_bad (l := l) (i := i) (by omega) (.inr k2)
    rw [this]; exact ⟨rfl, rfl⟩
  . have k4 : factOk (lat l (i : Int)) = true := Decidable.not_not.1 k2
    have ix : 0 <= (i : Int) /\ (i : Int) < (l.length : Int) := ⟨by omega, k1⟩
    have hl := joinM_len (l := l.map fRg) i (by simpa using hi)
    have hn := joinM_nu hnu i (by simpa using hi)
    rw [<- List.map_take] at hl hn
    have e : rputM (joinM ((l.take i).map fRg)) (fRg (lat l (i : Int))) = joinM ((l.take (i + 1)).map fRg) := by
      rw [rput_put (JR.join _).pw, take_succ_lat (by omega), List.map_append]
      exact (joinM_snoc _ _).symm
    refine ⟨ix, ix, ix, ix, by omega, fun x hx => by have := hn x hx; omega, ⟨by show (0 : Int) <= 1; omega, by show (1 : Int) <= 1000000; omega⟩, by unfold inI; omega, ⟨i + 1, by omega, by omega, e, fun j hj => ?_⟩, dec_lt k1⟩
    rcases Nat.lt_or_ge j i with h | h
    . exact hok j h
    . rw [show j = i by omega]; exact k4
  . have hil : i = l.length := by omega
    subst hil
    rw [List.take_length]
    have e : fitM l = (joinM (l.map fRg), 0) := by
      unfold fitM
      rw [if_neg]
      rintro (h | h)
      . omega
      . refine h ?_
        rw [List.all_eq_true]
        intro f hf
        obtain ⟨j, hj, rfl⟩ := List.mem_iff_getElem.1 hf
        have := hok j hj
        rwa [lat_get hj] at this
    rw [e]
    exact ⟨rfl, rfl⟩
theorem spec_rfit (l : (List Fct)) (h0 : l.length <= 1073741823) : FnP Try.prog 27 [.lst true l.length (zYy e69 l)] (fun xR => xR = .tup [.lst false ((fitM l).1).length (zYy e72 ((fitM l).1)), .int .i64 ((fitM l).2)]) :=
  (walk_rfit (vcp_rfit l h0)).mono (by rintro _ ⟨_, _, rfl, rfl, rfl⟩; rfl)
def vc_clone (s : (List Rg)) (Post : (List Rg) -> Prop) : Prop :=
  ∃ J1 : Prop, (J1 -> ((s).length <= 1073741824) /\ Post s) /\ ((0 < s.length -> J1) /\ (s.length = 0 -> (Post []) /\ (J1)))
theorem walk_clone {s : (List Rg)} {Post : (List Rg) -> Prop} (hv : vc_clone s Post) : FnH Try.prog 44 [] [.lst true s.length (zYy e72 s)] (fun x H => ∃ l q0, H = .row 72 5 (zYy e72 q0) :: l /\ x = .ref false 0 q0.length /\ Post q0) := by
 refine FnH.of_walk (T := tt) (nt := 8) ttOk ttMix ⟨⟨Try.f44, Try.func44, rfl, rfl, rfl, rfl⟩⟩ (by simp) (by simp) 0 (by simp) ?_
 unfold vc_clone at hv
 change W _ _ _ ⟨8, look [(0, .lst true s.length (zYy e72 s))], [], 0⟩ _
 refine W.ty [(0, .lst _ _ _)] rfl (W.rL (cL rfl (zZq (v := .nilS) rfl (eL (W.ty [(0, .lst _ _ _)] rfl ?_)))))
 obtain ⟨J1, hj, hv⟩ := hv
 refine W.mid0 (⟨8, look [(0, .lst true s.length (zYy e72 s))], [], 0⟩) J1 ?_ ?_
 intro hv
 replace hv := hj hv
 refine W.rL (cL rfl (o_buildS (q := 0) (qs := []) (cs := []) tt54 tt72 rfl rfl rfl rfl (mL rfl rfl ?_)))
 obtain ⟨s1, hv⟩ := hv
 refine cL rfl (o_apR (p := 1) (q := (s).length) tt54 tt72 rfl rfl (src_lst (enc72.wd true) _ _ rfl) (zYw (enc72.wd true) _) rfl rfl (by simpa using s1) rfl (Nat.zero_add _) (List.nil_append _) (cL rfl (zZq (v := .ref _ _ _) rfl (eL (W.ty [(2, .ref _ _ _)] rfl (W.to (st' := ⟨8, look [(2, .ref false 0 s.length)], [.row 72 5 (zYy e72 s)], 0⟩) (St.to_mk (φ := [some 1]) rfl rfl ⟨Ren.ref rfl id, trivial⟩ ⟨zE enc72 false s rfl, trivial⟩) ?_))))))
 refine W.ret (rt (rt_t (v := .ref _ _ _) rfl (rt_n (⟨_, s, rfl, rfl, hv⟩))))
 clear hj
 refine W.rL (mL rfl rfl (cL rfl (o_nilEL tt54 rfl ⟨fun hz => ?_, fun hz => ⟨?_, ?_⟩⟩)))
 have hv := hv.1 hz
 refine eL (W.ty [(0, .lst _ _ _), (4, .bool _)] rfl (W.cF rfl (W.skip (zZ (⟨(), hv, St.to_mk (φ := []) rfl (rfl) (zT rfl rfl) trivial⟩)))))
 have hv := (hv.2 hz).1
 refine eL (W.ty [(0, .lst _ _ _), (4, .bool _)] rfl (W.cT rfl (W.rL (cL rfl (zZq (v := .nilS) rfl (eL (W.ty [(2, .nilS)] rfl (W.to (st' := ⟨8, look [(2, .ref false 0 0)], [.row 72 5 (zYy e72 [])], 0⟩) (St.to_mk (φ := [none]) rfl rfl ⟨Ren.nilR rfl rfl, trivial⟩ ⟨rfl, trivial⟩) (W.ret (zZr (rt (rt_t (v := .ref _ _ _) rfl (rt_n (⟨_, [], rfl, rfl, hv⟩))))))))))))))
 have hv := (hv.2 hz).2
 refine eL (W.ty [(0, .lst _ _ _), (4, .bool _)] rfl (W.cF rfl (W.skip (zZ (⟨(), hv, St.to_mk (φ := []) rfl (rfl) (zT rfl rfl) trivial⟩)))))
set_option maxHeartbeats 4000000 in
theorem vcp_clone (s : (List Rg)) (h0 : s.length <= 1073741823) : vc_clone s (fun q0 => q0 = s) := by
  unfold vc_clone
  exact ⟨True, fun _ => ⟨by omega, rfl⟩, fun _ => trivial, fun h => ⟨(List.eq_nil_of_length_eq_zero h).symm, trivial⟩⟩
theorem spec_clone (s : (List Rg)) (h0 : s.length <= 1073741823) : FnH Try.prog 44 [] [.lst true s.length (zYy e72 s)] (fun xR H => ∃ l, H = .row 72 5 (zYy e72 (s)) :: l /\ xR = .ref false 0 (s).length) :=
  (walk_clone (vcp_clone s h0)).mono (by rintro _ _ ⟨l, _, h1, h2, rfl⟩; exact ⟨l, h1, h2⟩)
def vc_mjoin (a : (List Rg)) (b : (List Rg)) (Post : (List Rg) -> Int -> Prop) : Prop :=
  ((a.length <= 9223372036854775807) /\ ((¬ ((validRgs a) = true)) -> True) /\ (¬ (¬ ((validRgs a) = true)) -> (b.length <= 9223372036854775807) /\ True)) /\ ((((¬ ((validRgs a) = true)) \/ (¬ ((validRgs b) = true))) -> Post [] (230 : Int)) /\ (¬ ((¬ ((validRgs a) = true)) \/ (¬ ((validRgs b) = true))) -> (a.length <= 1073741823) /\ ((a ++ b).length <= 1073741824) /\ ((a ++ b).length <= 1073741823) /\ (∀ x ∈ (a ++ b), 0 <= x.nu /\ x.nu <= 1000000) /\ ((joinM (a ++ b)).length <= 9223372036854775807) /\ ((¬ ((validRgs (joinM (a ++ b))) = true)) -> Post [] (230 : Int)) /\ (¬ (¬ ((validRgs (joinM (a ++ b))) = true)) -> Post (joinM (a ++ b)) (0 : Int))))
theorem walk_mjoin {a : (List Rg)} {b : (List Rg)} {Post : (List Rg) -> Int -> Prop} (hv : vc_mjoin a b Post) : FnP Try.prog 28 [.lst true a.length (zYy e72 a), .lst true b.length (zYy e72 b)] (fun x => ∃ q0 q1, x = .tup [.lst false q0.length (zYy e72 q0), .int .i64 q1] /\ Post q0 q1) := by
 refine FnP.of_walk (T := tt) (nt := 24) ttOk ttMix ⟨⟨Try.f28, Try.func28, rfl, rfl, rfl, rfl⟩⟩ (by simp) ?_
 unfold vc_mjoin at hv
 change W _ _ _ ⟨24, look [(0, .lst true a.length (zYy e72 a)), (1, .lst true b.length (zYy e72 b))], [], 0⟩ _
 refine W.ty [(0, .lst _ _ _), (1, .lst _ _ _)] rfl (W.rL (cL rfl (zZq (v := .nilS) rfl (aI rfl rfl (eL (W.ty [(0, .lst _ _ _), (1, .lst _ _ _)] rfl (W.seq' ?_)))))))
 obtain ⟨sd, hv⟩ := hv
 refine W.rLm ⟨24, look [(0, .lst true a.length (zYy e72 a)), (1, .lst true b.length (zYy e72 b)), (14, .bool (decide ((¬ ((validRgs a) = true)) \/ (¬ ((validRgs b) = true)))))], [], 0⟩ ?_ ?_
 refine mL rfl rfl ?_
 obtain ⟨s7, sd⟩ := sd
 refine cL rfl (zZu (k := 31) (fst := []) (caps := []) (ys := [.lst _ _ _]) rfl rfl (spec_vranges a s7) zk (cL rfl (o_notB rfl (mB rfl rfl ?_))))
 by_cases c1 : ¬ ((validRgs a) = true)
 iterate 3 refine cLs rfl rfl rfl (dT c1) ?_
 refine cL rfl (zZv (v := .bool _) rfl (dT c1) rfl (eL (zYz ⟨rfl, rfl, (congrArg AV.bool (dOrT c1)).symm, trivial⟩ rfl)))
 have sd := sd.2 c1
 refine cLg rfl rfl (dF c1) (mL rfl rfl (cLg rfl rfl (dF c1) ?_))
 obtain ⟨s8, sd⟩ := sd
 refine cL rfl (zZu (k := 31) (fst := []) (caps := []) (ys := [.lst _ _ _]) rfl rfl (spec_vranges b s8) zk (cLg rfl rfl (dF c1) (cL rfl (o_notB rfl (cL rfl (zZy (v := .bool _) rfl (dF c1) rfl (eL (zYz ⟨rfl, rfl, (congrArg AV.bool (dOrF c1 (rfl))).symm, trivial⟩ rfl))))))))
 refine W.cn rfl (fun hc => ?_) (fun hc => ?_)
 have hv := hv.1 hc
 refine W.rL (cL rfl (zZq (v := .nilS) rfl (aI rfl rfl (eL (W.ty [(4, .nilS), (5, .int _ _)] rfl (W.ret (zZr (rt (rt_t (v := .nilS) rfl (rt_t (v := .int _ _) rfl (rt_n (⟨_, rs_tup 5 _ (Wks.cons (rs_nil _ _ _ _ rfl) (Wks.cons (zY _ _ _ _) zk)), [], (230 : Int), rfl, hv⟩))))))))))))
 have hv := hv.2 hc
 refine W.skip (zZ (W.ty [(0, .lst _ _ _), (1, .lst _ _ _)] rfl (W.rH (cH rfl (zZp (v := .lst _ _ _) rfl ?_)))))
 obtain ⟨s9, hv⟩ := hv
 refine cHc rfl (callH_R1 (xs := _) (spec_clone a s9) zk (flat72 _) rfl (cH rfl (zZp (v := .lst _ _ _) rfl ?_)))
 obtain ⟨s10, hv⟩ := hv
 refine cH rfl (o_apR (p := 1) (q := (a ++ b).length) tt54 tt72 rfl rfl (src_lst (enc72.wd true) _ _ rfl) (zYw (enc72.wd true) _) rfl (zYw (enc72.wd false) _) (Nat.le_trans (Nat.le_of_eq (@List.length_append _ (a) (b)).symm) s10) rfl (@List.length_append _ (a) (b)).symm (encL_app e72 a b) ?_)
 obtain ⟨s11, s12, hv⟩ := hv
 refine cH rfl (zZu (k := 41) (fst := []) (caps := []) (ys := [.ref _ _ _]) rfl rfl (spec_join (a ++ b) s11 s12) (Wks.cons (ag_ref (fl := false) (xs := a ++ b) enc72 4 _ rfl rfl) zk) (cH rfl (zZq (v := .lst _ _ _) rfl (eH (W.ty [(6, .lst _ _ _)] rfl (W.seq' (W.rL (mL rfl rfl ?_))))))))
 obtain ⟨s14, hv⟩ := hv
 refine cL rfl (zZu (k := 31) (fst := []) (caps := []) (ys := [.lst _ _ _]) rfl rfl (spec_vranges (joinM (a ++ b)) s14) zk (cL rfl (o_notB rfl (eL (W.ty [(6, .lst _ _ _), (22, .bool _)] rfl (W.cn rfl (fun hc => ?_) (fun hc => ?_)))))))
 have hv := hv.1 hc
 refine W.rL (cL rfl (zZq (v := .nilS) rfl (aI rfl rfl (eL (W.ty [(4, .nilS), (5, .int _ _)] rfl (W.ret (zZr (rt (rt_t (v := .nilS) rfl (rt_t (v := .int _ _) rfl (rt_n (⟨_, rs_tup 5 _ (Wks.cons (rs_nil _ _ _ _ rfl) (Wks.cons (zY _ _ _ _) zk)), [], (230 : Int), rfl, hv⟩))))))))))))
 have hv := hv.2 hc
 refine W.skip (zZ (W.ty [(6, .lst _ _ _)] rfl (W.rL (mL rfl rfl (aL rfl rfl (aI rfl rfl (eL (W.ty [(4, .lst _ _ _), (5, .int _ _)] rfl (W.ret (rt (rt_t (v := .lst _ _ _) rfl (rt_t (v := .int _ _) rfl (rt_n (⟨_, rs_tup 5 _ (Wks.cons (rs_lst _ _ _ _) (Wks.cons (zY _ _ _ _) zk)), (joinM (a ++ b)), (0 : Int), rfl, hv⟩))))))))))))))
set_option maxHeartbeats 4000000 in
theorem vcp_mjoin (a : (List Rg)) (b : (List Rg)) (h0 : a.length + b.length <= 1073741822) : vc_mjoin a b (fun q0 q1 => q0 = (joinE a b).1 /\ q1 = (joinE a b).2) := by
  unfold vc_mjoin
  refine ⟨⟨by omega, fun _ => trivial, fun _ => ⟨by omega, trivial⟩⟩, fun k => ?_, fun k => ?_⟩
  . unfold joinE
    rw [if_neg (fun h => k.elim (fun k => k h.1) (fun k => k h.2.1))]
    exact ⟨rfl, rfl⟩
  have ka : validRgs a = true := Decidable.not_not.1 fun h => k (.inl h)
  have kb : validRgs b = true := Decidable.not_not.1 fun h => k (.inr h)
  have hm : ∀ x ∈ a ++ b, 0 <= x.nu /\ x.nu <= 1000000 := fun x hx => by
    rcases List.mem_append.1 hx with hx | hx
    . have := ((validRgs_iff a).1 ka).mem hx; omega
    . have := ((validRgs_iff b).1 kb).mem hx; omega
  have hl : (joinM (a ++ b)).length <= (a ++ b).length := by
    have := joinM_len (l := a ++ b) (a ++ b).length (Nat.le_refl _)
    rwa [List.take_length] at this
  have hab : (a ++ b).length = a.length + b.length := List.length_append
  refine ⟨by omega, by omega, by omega, hm, by omega, fun k2 => ?_, fun k2 => ?_⟩
  . unfold joinE
    rw [if_neg (fun h => k2 h.2.2)]
    exact ⟨rfl, rfl⟩
  . unfold joinE
    rw [if_pos ⟨ka, kb, Decidable.not_not.1 k2⟩]
    exact ⟨rfl, rfl⟩
theorem spec_mjoin (a : (List Rg)) (b : (List Rg)) (h0 : a.length + b.length <= 1073741822) : FnP Try.prog 28 [.lst true a.length (zYy e72 a), .lst true b.length (zYy e72 b)] (fun xR => xR = .tup [.lst false ((joinE a b).1).length (zYy e72 ((joinE a b).1)), .int .i64 ((joinE a b).2)]) :=
  (walk_mjoin (vcp_mjoin a b h0)).mono (by rintro _ ⟨_, _, rfl, rfl, rfl⟩; rfl)
def vc_rvranges (l : (List Rg)) (Post : Bool -> Prop) : Prop :=
  ∃ (I1 : Int -> Prop) (μ1 : Int -> Nat), I1 (0 : Int) /\ ∀ (v3 : Int), I1 v3 -> ((v3 < (l.length : Int)) -> (0 <= v3 /\ v3 < (l.length : Int)) /\ (((¬ ((inM ((lat l v3).op) (0 : Int) (11 : Int)) = true)) \/ ((¬ ((inM ((lat l v3).ver) (0 : Int) (9 : Int)) = true)) \/ ((¬ ((inM ((lat l v3).nu) (1 : Int) (1000000 : Int)) = true)) \/ ((((lat l v3).le) < (0 : Int)) \/ ((((lat l v3).mo) < ((lat l v3).le)) \/ ((4398046511104 : Int) < ((lat l v3).mo))))))) -> Post false) /\ (¬ ((¬ ((inM ((lat l v3).op) (0 : Int) (11 : Int)) = true)) \/ ((¬ ((inM ((lat l v3).ver) (0 : Int) (9 : Int)) = true)) \/ ((¬ ((inM ((lat l v3).nu) (1 : Int) (1000000 : Int)) = true)) \/ ((((lat l v3).le) < (0 : Int)) \/ ((((lat l v3).mo) < ((lat l v3).le)) \/ ((4398046511104 : Int) < ((lat l v3).mo))))))) -> ((((0 : Int) < v3) -> (inI (v3 - (1 : Int))) /\ (0 <= (v3 - (1 : Int)) /\ (v3 - (1 : Int)) < (l.length : Int)) /\ ((((lat l v3).op) < ((lat l (v3 - (1 : Int))).op)) -> True) /\ (¬ (((lat l v3).op) < ((lat l (v3 - (1 : Int))).op)) -> (inI (v3 - (1 : Int))) /\ (0 <= (v3 - (1 : Int)) /\ (v3 - (1 : Int)) < (l.length : Int)) /\ (((lat l (v3 - (1 : Int))).op = (lat l v3).op) -> (inI (v3 - (1 : Int))) /\ (0 <= (v3 - (1 : Int)) /\ (v3 - (1 : Int)) < (l.length : Int)) /\ True) /\ (¬ ((lat l (v3 - (1 : Int))).op = (lat l v3).op) -> True))) /\ (¬ ((0 : Int) < v3) -> True)) /\ (((((0 : Int) < v3) /\ ((((lat l v3).op) < ((lat l (v3 - (1 : Int))).op)) \/ (((lat l (v3 - (1 : Int))).op = (lat l v3).op) /\ (((lat l v3).ver) <= ((lat l (v3 - (1 : Int))).ver))))) -> Post false) /\ (¬ (((0 : Int) < v3) /\ ((((lat l v3).op) < ((lat l (v3 - (1 : Int))).op)) \/ (((lat l (v3 - (1 : Int))).op = (lat l v3).op) /\ (((lat l v3).ver) <= ((lat l (v3 - (1 : Int))).ver))))) -> (inI (v3 + (1 : Int))) /\ (I1 (v3 + (1 : Int)) /\ μ1 (v3 + (1 : Int)) < μ1 v3))))) /\ (¬ (v3 < (l.length : Int)) -> Post true)
theorem walk_rvranges {l : (List Rg)} {Post : Bool -> Prop} (hv : vc_rvranges l Post) : FnP Try.prog 32 [.lst true l.length (zYy e72 l)] (fun x => ∃ q0, x = .bool q0 /\ Post q0) := by
 refine FnP.of_walk (T := tt) (nt := 83) ttOk ttMix ⟨⟨Try.f32, Try.func32, rfl, rfl, rfl, rfl⟩⟩ (by simp) ?_
 unfold vc_rvranges at hv
 change W _ _ _ ⟨83, look [(0, .lst true l.length (zYy e72 l))], [], 0⟩ _
 refine W.ty [(0, .lst _ _ _)] rfl (W.rL (aB rfl rfl (eL (W.ty [(0, .lst _ _ _)] rfl (W.seq' (W.rL (aI rfl rfl (eL (W.ty [(0, .lst _ _ _), (3, .int _ _)] rfl (W.block ?_))))))))))
 obtain ⟨I1, μ1, hp, hv⟩ := hv
 refine W.loop1 (fun v3 => ⟨83, look [(0, .lst true l.length (zYy e72 l)), (3, .int .i64 v3)], [], 0⟩) I1 μ1 (0 : Int) (St.to_mk (φ := []) rfl (rfl) (zT rfl rfl) trivial) hp ?_
 clear hp
 intro v3 hI
 replace hv := hv v3 hI
 clear hI
 refine W.seq' (W.rL (mI rfl rfl (mL rfl rfl (cL rfl (zXw (v := .lst _ _ _) tt54 rfl rfl (cL rfl (zYq rfl rfl (eL (W.ty [(0, .lst _ _ _), (3, .int _ _), (8, .bool _)] rfl (W.cn rfl (fun hc => ?_) (fun hc => ?_)))))))))))
 have hv := hv.1 hc
 refine W.skip (zZ (W.ty [(0, .lst _ _ _), (3, .int _ _)] rfl (W.seq' (W.block (W.rL (mL rfl rfl (mI rfl rfl ?_)))))))
 obtain ⟨s95, hv⟩ := hv
 refine cL rfl (zYu tt54 tt72 rfl rfl (enc72.wd true) rfl s95 ?_)
 intro rest95
 refine cL rfl (zYp (cs := [.int _ _, .int _ _, .int _ _, .int _ _, .int _ _]) tt72 rfl rfl ⟨_, rfl⟩ rfl (cL rfl (zXy (p := 0) tt72 rfl rfl (cLn (o_stB (v := .agg _) (vs := [.int _ _, .int _ _, .int _ _, .int _ _, .int _ _]) (cs2 := [.int _ _, .int _ _, .int _ _, .int _ _, .int _ _]) tt72 rfl rfl rfl rfl rfl (Nat.le_of_ble_eq_true rfl) rfl (eL (W.ty [(0, .lst _ _ _), (3, .int _ _), (4, .ptr _ _)] rfl (W.seq' (W.rLm ⟨83, look [(0, .lst true l.length (zYy e72 l)), (3, .int .i64 v3), (4, .ptr 0 0), (47, .bool (decide ((¬ ((inM ((lat l v3).op) (0 : Int) (11 : Int)) = true)) \/ ((¬ ((inM ((lat l v3).ver) (0 : Int) (9 : Int)) = true)) \/ ((¬ ((inM ((lat l v3).nu) (1 : Int) (1000000 : Int)) = true)) \/ ((((lat l v3).le) < (0 : Int)) \/ ((((lat l v3).mo) < ((lat l v3).le)) \/ ((4398046511104 : Int) < ((lat l v3).mo)))))))))], [.box 72 [.int .i64 ((lat l v3).op), .int .i64 ((lat l v3).ver), .int .i64 ((lat l v3).nu), .int .i64 ((lat l v3).le), .int .i64 ((lat l v3).mo)]], 0⟩ ?_ ?_)))))))))
 refine cL rfl (o_fa tt72 rfl tt3 rfl (cL rfl (zZx (v := .int _ _) tt3 rfl rfl ⟨_, rfl⟩ (cL rfl (zZu (k := 38) (fst := []) (caps := []) (ys := [.int _ _, .int _ _, .int _ _]) rfl rfl (spec_in38 ((lat l v3).op) (0 : Int) (11 : Int)) zk (cL rfl (o_notB rfl (mB rfl rfl ?_))))))))
 by_cases c1 : ¬ ((inM ((lat l v3).op) (0 : Int) (11 : Int)) = true)
 iterate 4 refine cLs rfl rfl rfl (dT c1) ?_
 refine cL rfl (zZv (v := .bool _) rfl (dT c1) rfl (mB rfl rfl ?_))
 iterate 4 refine cLs rfl rfl rfl (rfl) ?_
 refine cL rfl (zZv (v := .bool _) rfl rfl rfl (mB rfl rfl ?_))
 iterate 3 refine cLs rfl rfl rfl (rfl) ?_
 refine cL rfl (zZv (v := .bool _) rfl rfl rfl (mB rfl rfl ?_))
 iterate 5 refine cLs rfl rfl rfl (rfl) ?_
 refine cL rfl (zZv (v := .bool _) rfl rfl rfl (mB rfl rfl ?_))
 iterate 3 refine cLs rfl rfl rfl (rfl) ?_
 refine cL rfl (zZv (v := .bool _) rfl rfl rfl (eL (zYz ⟨rfl, rfl, rfl, (congrArg AV.bool (dOrT c1)).symm, trivial⟩ rfl)))
 refine cLg rfl rfl (dF c1) (cL rfl (o_fa tt72 rfl tt3 rfl (cLg rfl rfl (dF c1) (cL rfl (zZx (v := .int _ _) tt3 rfl rfl ⟨_, rfl⟩ (cLg rfl rfl (dF c1) (cL rfl (zZu (k := 38) (fst := []) (caps := []) (ys := [.int _ _, .int _ _, .int _ _]) rfl rfl (spec_in38 ((lat l v3).ver) (0 : Int) (9 : Int)) zk (cLg rfl rfl (dF c1) (cL rfl (o_notB rfl (cL rfl (zZy (v := .bool _) rfl (dF c1) rfl (mB rfl rfl ?_))))))))))))))
 by_cases c2 : ¬ ((inM ((lat l v3).ver) (0 : Int) (9 : Int)) = true)
 iterate 4 refine cLs rfl rfl rfl (dT c2) ?_
 refine cL rfl (zZv (v := .bool _) rfl (dT c2) rfl (mB rfl rfl ?_))
 iterate 3 refine cLs rfl rfl rfl (rfl) ?_
 refine cL rfl (zZv (v := .bool _) rfl rfl rfl (mB rfl rfl ?_))
 iterate 5 refine cLs rfl rfl rfl (rfl) ?_
 refine cL rfl (zZv (v := .bool _) rfl rfl rfl (mB rfl rfl ?_))
 iterate 3 refine cLs rfl rfl rfl (rfl) ?_
 refine cL rfl (zZv (v := .bool _) rfl rfl rfl (eL (zYz ⟨rfl, rfl, rfl, (congrArg AV.bool (dOrF c1 (dOrT c2))).symm, trivial⟩ rfl)))
 refine cLg rfl rfl (dF c2) (cL rfl (o_fa tt72 rfl tt3 rfl (cLg rfl rfl (dF c2) (cL rfl (zZx (v := .int _ _) tt3 rfl rfl ⟨_, rfl⟩ (cLg rfl rfl (dF c2) (cL rfl (zZu (k := 38) (fst := []) (caps := []) (ys := [.int _ _, .int _ _, .int _ _]) rfl rfl (spec_in38 ((lat l v3).nu) (1 : Int) (1000000 : Int)) zk (cLg rfl rfl (dF c2) (cL rfl (o_notB rfl (cL rfl (zZy (v := .bool _) rfl (dF c2) rfl (mB rfl rfl ?_))))))))))))))
 by_cases c3 : ¬ ((inM ((lat l v3).nu) (1 : Int) (1000000 : Int)) = true)
 iterate 3 refine cLs rfl rfl rfl (dT c3) ?_
 refine cL rfl (zZv (v := .bool _) rfl (dT c3) rfl (mB rfl rfl ?_))
 iterate 5 refine cLs rfl rfl rfl (rfl) ?_
 refine cL rfl (zZv (v := .bool _) rfl rfl rfl (mB rfl rfl ?_))
 iterate 3 refine cLs rfl rfl rfl (rfl) ?_
 refine cL rfl (zZv (v := .bool _) rfl rfl rfl (eL (zYz ⟨rfl, rfl, rfl, (congrArg AV.bool (dOrF c1 (dOrF c2 (dOrT c3)))).symm, trivial⟩ rfl)))
 refine cLg rfl rfl (dF c3) (cL rfl (o_fa tt72 rfl tt3 rfl (cLg rfl rfl (dF c3) (cL rfl (zZx (v := .int _ _) tt3 rfl rfl ⟨_, rfl⟩ (cLg rfl rfl (dF c3) (cL rfl (zYq rfl rfl (cL rfl (zZy (v := .bool _) rfl (dF c3) rfl (mB rfl rfl ?_)))))))))))
 by_cases c4 : ((lat l v3).le) < (0 : Int)
 iterate 5 refine cLs rfl rfl rfl (dT c4) ?_
 refine cL rfl (zZv (v := .bool _) rfl (dT c4) rfl (mB rfl rfl ?_))
 iterate 3 refine cLs rfl rfl rfl (rfl) ?_
 refine cL rfl (zZv (v := .bool _) rfl rfl rfl (eL (zYz ⟨rfl, rfl, rfl, (congrArg AV.bool (dOrF c1 (dOrF c2 (dOrF c3 (dOrT c4))))).symm, trivial⟩ rfl)))
 refine cLg rfl rfl (dF c4) (cL rfl (o_fa tt72 rfl tt3 rfl (cLg rfl rfl (dF c4) (cL rfl (zZx (v := .int _ _) tt3 rfl rfl ⟨_, rfl⟩ (cLg rfl rfl (dF c4) (cL rfl (o_fa tt72 rfl tt3 rfl (cLg rfl rfl (dF c4) (cL rfl (zZx (v := .int _ _) tt3 rfl rfl ⟨_, rfl⟩ (cLg rfl rfl (dF c4) (cL rfl (o_gtr rfl rfl (cL rfl (zZy (v := .bool _) rfl (dF c4) rfl (mB rfl rfl ?_)))))))))))))))))
 by_cases c5 : ((lat l v3).mo) < ((lat l v3).le)
 iterate 3 refine cLs rfl rfl rfl (dT c5) ?_
 refine cL rfl (zZv (v := .bool _) rfl (dT c5) rfl (eL (zYz ⟨rfl, rfl, rfl, (congrArg AV.bool (dOrF c1 (dOrF c2 (dOrF c3 (dOrF c4 (dOrT c5)))))).symm, trivial⟩ rfl)))
 refine cLg rfl rfl (dF c5) (cL rfl (o_fa tt72 rfl tt3 rfl (cLg rfl rfl (dF c5) (cL rfl (zZx (v := .int _ _) tt3 rfl rfl ⟨_, rfl⟩ (cLg rfl rfl (dF c5) (cL rfl (o_gtr rfl rfl (cL rfl (zZy (v := .bool _) rfl (dF c5) rfl (eL (zYz ⟨rfl, rfl, rfl, (congrArg AV.bool (dOrF c1 (dOrF c2 (dOrF c3 (dOrF c4 (dOrF c5 (rfl))))))).symm, trivial⟩ rfl))))))))))))
 refine W.cn rfl (fun hc => ?_) (fun hc => ?_)
 have hv := hv.1 hc
 refine W.rL (aB rfl rfl (eL (W.ty [(2, .bool _)] rfl (W.ret (zZr (zYt (zZr (zZr (zYt (zZr (rt (rt_t (v := .bool _) rfl (rt_n (⟨_, zYr _ _ _, false, rfl, hv⟩))))))))))))))
 have hv := hv.2 hc
 refine W.skip (zZ (W.ty [(0, .lst _ _ _), (3, .int _ _), (4, .ptr _ _)] rfl ?_))
 obtain ⟨sd, hv⟩ := hv
 refine W.rDm ⟨83, look [(0, .lst true l.length (zYy e72 l)), (3, .int .i64 v3), (82, .bool (decide (((0 : Int) < v3) /\ ((((lat l v3).op) < ((lat l (v3 - (1 : Int))).op)) \/ (((lat l (v3 - (1 : Int))).op = (lat l v3).op) /\ (((lat l v3).ver) <= ((lat l (v3 - (1 : Int))).ver)))))))], [.box 72 [.int .i64 ((lat l v3).op), .int .i64 ((lat l v3).ver), .int .i64 ((lat l v3).nu), .int .i64 ((lat l v3).le), .int .i64 ((lat l v3).mo)]], 0⟩ [0, 1, 2, 3, 4, 5, 6, 7, 8, 9, 10, 11, 12, 13, 14, 15, 16, 17, 18, 19, 20, 21, 22, 23, 24, 25, 26, 27, 28, 29, 30, 31, 32, 33, 34] (by decide +kernel) rfl ?_ ?_
 refine mI rfl rfl (cL rfl (o_gtr rfl rfl (mB rfl rfl ?_)))
 by_cases c1 : (0 : Int) < v3
 have sd := sd.1 c1
 refine cLg rfl rfl (dT c1) (mL rfl rfl (cLg rfl rfl (dT c1) (mI rfl rfl (cLg rfl rfl (dT c1) ?_))))
 obtain ⟨s102, sd⟩ := sd
 refine cL rfl (o_sub rfl rfl s102 (cLg rfl rfl (dT c1) ?_))
 obtain ⟨s103, sd⟩ := sd
 refine cL rfl (zYu tt54 tt72 rfl rfl (enc72.wd true) rfl s103 ?_)
 intro rest103
 refine cLg rfl rfl (dT c1) (cL rfl (o_faP tt72 rfl tt3 rfl (cLg rfl rfl (dT c1) (cL rfl (zZx (v := .int _ _) tt3 rfl rfl ⟨_, rfl⟩ (cLg rfl rfl (dT c1) (cL rfl (o_fa tt72 rfl tt3 rfl (cLg rfl rfl (dT c1) (cL rfl (zZx (v := .int _ _) tt3 rfl rfl ⟨_, rfl⟩ (cLg rfl rfl (dT c1) (cL rfl (o_gtr rfl rfl (cLg rfl rfl (dT c1) (mB rfl rfl ?_))))))))))))))))
 by_cases c2 : ((lat l v3).op) < ((lat l (v3 - (1 : Int))).op)
 iterate 10 refine cLs rfl rfl rfl (dT c2) ?_
 iterate 4 refine cLu rfl rfl rfl ?_
 iterate 5 refine cLu rfl rfl (by kernel_rfl) ?_
 refine cLs rfl rfl rfl (dT c2) (cLg rfl rfl (dT c1) (cL rfl (zZv (v := .bool _) rfl (dT c2) rfl (cL rfl (zZv (v := .bool _) rfl (dT c1) rfl (eL (zYz ⟨rfl, rfl, (congrArg AV.bool (zXv c1 (dOrT c2))).symm, trivial⟩ rfl)))))))
 have sd := sd.2 c2
 refine cLg rfl rfl (dF c2) (mL rfl rfl (cLg rfl rfl (dF c2) (mI rfl rfl (cLg rfl rfl (dF c2) ?_))))
 obtain ⟨s104, sd⟩ := sd
 refine cL rfl (o_sub rfl rfl s104 (cLg rfl rfl (dF c2) ?_))
 obtain ⟨s105, sd⟩ := sd
 refine cL rfl (zYu tt54 tt72 rfl rfl (enc72.wd true) rfl s105 ?_)
 intro rest105
 refine cLg rfl rfl (dF c2) (cL rfl (o_faP tt72 rfl tt3 rfl (cLg rfl rfl (dF c2) (cL rfl (zZx (v := .int _ _) tt3 rfl rfl ⟨_, rfl⟩ (cLg rfl rfl (dF c2) (cL rfl (o_fa tt72 rfl tt3 rfl (cLg rfl rfl (dF c2) (cL rfl (zZx (v := .int _ _) tt3 rfl rfl ⟨_, rfl⟩ (cLg rfl rfl (dF c2) (cL rfl (o_eqI rfl rfl rfl (cLg rfl rfl (dF c2) (mB rfl rfl ?_))))))))))))))))
 by_cases c3 : (lat l (v3 - (1 : Int))).op = (lat l v3).op
 have sd := sd.1 c3
 refine cLg rfl rfl (dT c3) (mL rfl rfl (cLg rfl rfl (dT c3) (mI rfl rfl (cLg rfl rfl (dT c3) ?_))))
 obtain ⟨s106, sd⟩ := sd
 refine cL rfl (o_sub rfl rfl s106 (cLg rfl rfl (dT c3) ?_))
 obtain ⟨s107, sd⟩ := sd
 refine cL rfl (zYu tt54 tt72 rfl rfl (enc72.wd true) rfl s107 ?_)
 intro rest107
 refine cLg rfl rfl (dT c3) (cL rfl (o_faP tt72 rfl tt3 rfl (cLg rfl rfl (dT c3) (cL rfl (zZx (v := .int _ _) tt3 rfl rfl ⟨_, rfl⟩ (cLg rfl rfl (dT c3) (cL rfl (o_fa tt72 rfl tt3 rfl (cLg rfl rfl (dT c3) (cL rfl (zZx (v := .int _ _) tt3 rfl rfl ⟨_, rfl⟩ (cLg rfl rfl (dT c3) (cL rfl (o_geq rfl rfl (cLg rfl rfl (dF c2) (cL rfl (zZv (v := .bool _) rfl (dT c3) rfl (cLg rfl rfl (dT c1) (cL rfl (zZy (v := .bool _) rfl (dF c2) rfl (cL rfl (zZv (v := .bool _) rfl (dT c1) rfl (eL (zYz ⟨rfl, rfl, (congrArg AV.bool (zXv c1 (dOrF c2 (zXv c3 (rfl))))).symm, trivial⟩ rfl))))))))))))))))))))))))
 iterate 9 refine cLs rfl rfl rfl (dF c3) ?_
 refine cLg rfl rfl (dF c2) (cL rfl (zZy (v := .bool _) rfl (dF c3) rfl (cLg rfl rfl (dT c1) (cL rfl (zZy (v := .bool _) rfl (dF c2) rfl (cL rfl (zZv (v := .bool _) rfl (dT c1) rfl (eL (zYz ⟨rfl, rfl, (congrArg AV.bool (zXv c1 (dOrF c2 (dAndF c3)))).symm, trivial⟩ rfl)))))))))
 iterate 10 refine cLs rfl rfl rfl (dF c1) ?_
 iterate 4 refine cLu rfl rfl rfl ?_
 iterate 16 refine cLu rfl rfl (by kernel_rfl) ?_
 refine cLs rfl rfl rfl (dF c1) (cL rfl (zZy (v := .bool _) rfl (dF c1) rfl (eL (zYz ⟨rfl, rfl, (congrArg AV.bool (dAndF c1)).symm, trivial⟩ rfl))))
 refine W.cn rfl (fun hc => ?_) (fun hc => ?_)
 have hv := hv.1 hc
 refine W.rL (aB rfl rfl (eL (W.ty [(2, .bool _)] rfl (W.ret (zYt (zZr (zZr (zYt (zZr (rt (rt_t (v := .bool _) rfl (rt_n (⟨_, zYr _ _ _, false, rfl, hv⟩)))))))))))))
 have hv := hv.2 hc
 refine W.skip (zYv (zZ (W.ty [(0, .lst _ _ _), (3, .int _ _)] rfl (W.rL1 (mI rfl rfl ?_)))))
 obtain ⟨s108, hv⟩ := hv
 refine cL rfl (o_add rfl rfl s108 (aI rfl rfl (eL (zZ (⟨(), (v3 + (1 : Int)), hv, St.to_mk (φ := []) rfl (rfl) (zT rfl rfl) trivial⟩)))))
 have hv := hv.2 hc
 refine W.exit (zZt (zZt (zYs (zZ (W.ty [] rfl (W.rL (aB rfl rfl (eL (W.ty [(2, .bool _)] rfl (W.ret (rt (rt_t (v := .bool _) rfl (rt_n (⟨_, zYr _ _ _, true, rfl, hv⟩))))))))))))))
set_option maxHeartbeats 4000000 in
theorem vcp_rvranges (l : (List Rg)) (h0 : l.length <= 9223372036854775807) : vc_rvranges l (fun q0 => q0 = (validRgs l)) := by
  have e1 : ∀ n lo hi : Int, (inM n lo hi = true) = (lo <= n /\ n <= hi) := fun n lo hi => by unfold inM; simp
  have bad : ∀ {q : Prop}, (RgsOk l -> q) -> ¬ q -> false = validRgs l := fun h k => by
    rcases hv : validRgs l with _ | _
    . rfl
    . exact absurd (h ((validRgs_iff l).1 hv)) k
  unfold vc_rvranges
  simp only [e1]
  refine ⟨fun v => ∃ i : Nat, v = i /\ i <= l.length /\ (∀ a : Nat, a < i -> (0 <= (lat l a).op /\ (lat l a).op <= 11) /\ (0 <= (lat l a).ver /\ (lat l a).ver <= 9) /\ (1 <= (lat l a).nu /\ (lat l a).nu <= 1000000) /\ (0 <= (lat l a).le /\ (lat l a).le <= (lat l a).mo) /\ (lat l a).mo <= 4398046511104) /\ ∀ a : Nat, a + 1 < i -> cmpR (lat l a) (lat l ((a + 1 : Nat) : Int)) < 0, fun v => l.length - v.toNat, ⟨0, rfl, by omega, fun a ha => by omega, fun a ha => by omega⟩, ?_⟩
  rintro _ ⟨i, rfl, hi, hx, ho⟩
  refine ⟨fun k1 => ⟨⟨by omega, k1⟩, fun k2 => bad (fun h => h.ok i (by omega)) (by omega), fun k2 => ⟨⟨fun k3 => ⟨by unfold inI; omega, ⟨by omega, by omega⟩, fun _ => trivial, fun _ => ⟨by unfold inI; omega, ⟨by omega, by omega⟩, fun _ => ⟨by unfold inI; omega, ⟨by omega, by omega⟩, trivial⟩, fun _ => trivial⟩⟩, fun _ => trivial⟩, fun k3 => ?_, fun k3 => ⟨by unfold inI; omega, ⟨i + 1, by omega, by omega, fun a ha => ?_, fun a ha => ?_⟩, dec_lt k1⟩⟩⟩, fun k1 => ?_⟩
  . obtain ⟨q, rfl⟩ : ∃ q, i = q + 1 := ⟨i - 1, by omega⟩
    rw [show (((q + 1 : Nat) : Int) - 1) = (q : Int) by omega] at k3
    refine bad (fun h => h.ord q (by omega)) fun h => ?_
    have := (cmpR_lt _ _).1 h
    omega
  . rcases Nat.lt_or_ge a i with h | h
    . exact hx a h
    . rw [show a = i by omega]; omega
  . rcases Nat.lt_or_ge (a + 1) i with h | h
    . exact ho a h
    . have ea : i = a + 1 := by omega
      subst ea
      rw [show (((a + 1 : Nat) : Int) - 1) = (a : Int) by omega] at k3
      refine (cmpR_lt _ _).2 ?_
      omega
  . have ei : i = l.length := by omega
    subst ei
    exact ((validRgs_iff l).2 ⟨hx, ho⟩).symm
theorem spec_rvranges (l : (List Rg)) (h0 : l.length <= 9223372036854775807) : FnP Try.prog 32 [.lst true l.length (zYy e72 l)] (fun xR => xR = .bool (validRgs l)) :=
  (walk_rvranges (vcp_rvranges l h0)).mono (by rintro _ ⟨_, rfl, rfl⟩; rfl)
def vc_rjoin (a : (List Rg)) (b : (List Rg)) (Post : (List Rg) -> Int -> Prop) : Prop :=
  ((a.length <= 9223372036854775807) /\ ((¬ ((validRgs a) = true)) -> True) /\ (¬ (¬ ((validRgs a) = true)) -> (b.length <= 9223372036854775807) /\ True)) /\ ((((¬ ((validRgs a) = true)) \/ (¬ ((validRgs b) = true))) -> Post [] (230 : Int)) /\ (¬ ((¬ ((validRgs a) = true)) \/ (¬ ((validRgs b) = true))) -> ∃ (I1 : List Rg -> Int -> Prop) (μ1 : List Rg -> Int -> Nat), I1 a (0 : Int) /\ ∀ (v6 : List Rg) (v7 : Int), I1 v6 v7 -> ((v7 < (b.length : Int)) -> (0 <= v7 /\ v7 < (b.length : Int)) /\ (v6.length <= 1073741823) /\ (∀ x ∈ v6, 0 <= x.nu /\ x.nu <= 4611686018427387904) /\ (0 <= (lat b v7).nu /\ (lat b v7).nu <= 1000000) /\ (inI (v7 + (1 : Int))) /\ (I1 (rputM v6 (lat b v7)) (v7 + (1 : Int)) /\ μ1 (rputM v6 (lat b v7)) (v7 + (1 : Int)) < μ1 v6 v7)) /\ (¬ (v7 < (b.length : Int)) -> (v6.length <= 9223372036854775807) /\ ((¬ ((validRgs v6) = true)) -> Post [] (230 : Int)) /\ (¬ (¬ ((validRgs v6) = true)) -> Post v6 (0 : Int)))))
theorem walk_rjoin {a : (List Rg)} {b : (List Rg)} {Post : (List Rg) -> Int -> Prop} (hv : vc_rjoin a b Post) : FnS Try.prog 29 [.lst true a.length (zYy e72 a), .lst true b.length (zYy e72 b)] (fun x => ∃ q0 q1, x = .tup [.lst true q0.length (zYy e72 q0), .int .i64 q1] /\ Post q0 q1) := by
 refine FnS.of_walk (T := tt) (nt := 33) ttOk ttMix ⟨⟨Try.f29, Try.func29, rfl, rfl, rfl, rfl⟩⟩ (by simp) ?_
 unfold vc_rjoin at hv
 change W _ _ _ ⟨33, look [(0, .lst true a.length (zYy e72 a)), (1, .lst true b.length (zYy e72 b))], [], 0⟩ _
 refine W.ty [(0, .lst _ _ _), (1, .lst _ _ _)] rfl (W.rL (cL rfl (zZq (v := .nilS) rfl (aI rfl rfl (eL (W.ty [(0, .lst _ _ _), (1, .lst _ _ _)] rfl (W.seq' ?_)))))))
 obtain ⟨sd, hv⟩ := hv
 refine W.rLm ⟨33, look [(0, .lst true a.length (zYy e72 a)), (1, .lst true b.length (zYy e72 b)), (15, .bool (decide ((¬ ((validRgs a) = true)) \/ (¬ ((validRgs b) = true)))))], [], 0⟩ ?_ ?_
 refine mL rfl rfl ?_
 obtain ⟨s7, sd⟩ := sd
 refine cL rfl (zZu (k := 32) (fst := []) (caps := []) (ys := [.lst _ _ _]) rfl rfl (spec_rvranges a s7) zk (cL rfl (o_notB rfl (mB rfl rfl ?_))))
 by_cases c1 : ¬ ((validRgs a) = true)
 iterate 3 refine cLs rfl rfl rfl (dT c1) ?_
 refine cL rfl (zZv (v := .bool _) rfl (dT c1) rfl (eL (zYz ⟨rfl, rfl, (congrArg AV.bool (dOrT c1)).symm, trivial⟩ rfl)))
 have sd := sd.2 c1
 refine cLg rfl rfl (dF c1) (mL rfl rfl (cLg rfl rfl (dF c1) ?_))
 obtain ⟨s8, sd⟩ := sd
 refine cL rfl (zZu (k := 32) (fst := []) (caps := []) (ys := [.lst _ _ _]) rfl rfl (spec_rvranges b s8) zk (cLg rfl rfl (dF c1) (cL rfl (o_notB rfl (cL rfl (zZy (v := .bool _) rfl (dF c1) rfl (eL (zYz ⟨rfl, rfl, (congrArg AV.bool (dOrF c1 (rfl))).symm, trivial⟩ rfl))))))))
 refine W.cn rfl (fun hc => ?_) (fun hc => ?_)
 have hv := hv.1 hc
 refine W.rL (cL rfl (zZq (v := .nilS) rfl (aI rfl rfl (eL (W.ty [(4, .nilS), (5, .int _ _)] rfl (W.ret (zZr (rt (rt_t (v := .nilS) rfl (rt_t (v := .int _ _) rfl (rt_n (⟨_, gs_tup 5 _ (Wks.cons (ag_nil _ _ _ _ rfl) zk), [], (230 : Int), rfl, hv⟩))))))))))))
 have hv := hv.2 hc
 refine W.skip (zZ (W.ty [(0, .lst _ _ _), (1, .lst _ _ _)] rfl (W.rL (mL rfl rfl (aL rfl rfl (eL (W.ty [(1, .lst _ _ _), (6, .lst _ _ _)] rfl (W.seq' (W.rL (aI rfl rfl (eL (W.ty [(1, .lst _ _ _), (6, .lst _ _ _), (7, .int _ _)] rfl (W.block ?_)))))))))))))
 obtain ⟨I1, μ1, hp, hv⟩ := hv
 refine W.loop2 (fun v6 v7 => ⟨33, look [(1, .lst true b.length (zYy e72 b)), (6, .lst true v6.length (zYy e72 v6)), (7, .int .i64 v7)], [], 0⟩) I1 μ1 a (0 : Int) (St.to_mk (φ := []) rfl (rfl) (zT rfl rfl) trivial) hp ?_
 clear hp
 intro v6 v7 hI
 replace hv := hv v6 v7 hI
 clear hI
 refine W.seq' (W.rL (mI rfl rfl (mL rfl rfl (cL rfl (zXw (v := .lst _ _ _) tt54 rfl rfl (cL rfl (zYq rfl rfl (eL (W.ty [(1, .lst _ _ _), (6, .lst _ _ _), (7, .int _ _), (20, .bool _)] rfl (W.cn rfl (fun hc => ?_) (fun hc => ?_)))))))))))
 have hv := hv.1 hc
 refine W.skip (zZ (W.ty [(1, .lst _ _ _), (6, .lst _ _ _), (7, .int _ _)] rfl (W.seq' (W.block (W.rL1 ?_)))))
 iterate 2 refine mL rfl rfl ?_
 refine mI rfl rfl ?_
 obtain ⟨s40, hv⟩ := hv
 refine cL rfl (zYu tt54 tt72 rfl rfl (enc72.wd true) rfl s40 ?_)
 intro rest40
 refine cL rfl (zYp (cs := [.int _ _, .int _ _, .int _ _, .int _ _, .int _ _]) tt72 rfl rfl ⟨_, rfl⟩ rfl ?_)
 obtain ⟨s41, s42, s43, hv⟩ := hv
 refine cL rfl (zZu (k := 43) (fst := []) (caps := []) (ys := [.lst _ _ _, .agg _]) rfl rfl (spec_rput v6 (lat b v7) s41 s42 s43) zk (aL rfl rfl (eL (zYv (zZ (W.ty [(1, .lst _ _ _), (6, .lst _ _ _), (7, .int _ _)] rfl (W.rL1 (mI rfl rfl ?_))))))))
 obtain ⟨s44, hv⟩ := hv
 refine cL rfl (o_add rfl rfl s44 (aI rfl rfl (eL (zZ (⟨(), (rputM v6 (lat b v7)), (v7 + (1 : Int)), hv, St.to_mk (φ := []) rfl (rfl) ⟨Ren.lst _ _ _, Ren.lstT _ _ _, Ren.int _ _, trivial⟩ trivial⟩)))))
 have hv := hv.2 hc
 refine W.exit (zZt (zZt (zYs (zZ (W.ty [(6, .lst _ _ _)] rfl (W.seq' (W.rL (mL rfl rfl ?_))))))))
 obtain ⟨s46, hv⟩ := hv
 refine cL rfl (zZu (k := 32) (fst := []) (caps := []) (ys := [.lst _ _ _]) rfl rfl (spec_rvranges v6 s46) zk (cL rfl (o_notB rfl (eL (W.ty [(6, .lst _ _ _), (31, .bool _)] rfl (W.cn rfl (fun hc => ?_) (fun hc => ?_)))))))
 have hv := hv.1 hc
 refine W.rL (cL rfl (zZq (v := .nilS) rfl (aI rfl rfl (eL (W.ty [(4, .nilS), (5, .int _ _)] rfl (W.ret (zZr (rt (rt_t (v := .nilS) rfl (rt_t (v := .int _ _) rfl (rt_n (⟨_, gs_tup 5 _ (Wks.cons (ag_nil _ _ _ _ rfl) zk), [], (230 : Int), rfl, hv⟩))))))))))))
 have hv := hv.2 hc
 refine W.skip (zZ (W.ty [(6, .lst _ _ _)] rfl (W.rL (mL rfl rfl (aL rfl rfl (aI rfl rfl (eL (W.ty [(4, .lst _ _ _), (5, .int _ _)] rfl (W.ret (rt (rt_t (v := .lst _ _ _) rfl (rt_t (v := .int _ _) rfl (rt_n (⟨_, gs_tup 5 _ zk, v6, (0 : Int), rfl, hv⟩))))))))))))))
set_option maxHeartbeats 4000000 in
theorem vcp_rjoin (a : (List Rg)) (b : (List Rg)) (h0 : a.length + b.length <= 1073741822) : vc_rjoin a b (fun q0 q1 => q0 = (joinE a b).1 /\ q1 = (joinE a b).2) := by
  unfold vc_rjoin
  refine ⟨⟨by omega, fun _ => trivial, fun _ => ⟨by omega, trivial⟩⟩, fun k => ?_, fun k => ?_⟩
  . unfold joinE
    rw [if_neg (fun h => k.elim (fun k => k h.1) (fun k => k h.2.1))]
    exact ⟨rfl, rfl⟩
  have ka : validRgs a = true := Decidable.not_not.1 fun h => k (.inl h)
  have kb : validRgs b = true := Decidable.not_not.1 fun h => k (.inr h)
  have hm : ∀ x ∈ a ++ b, 0 <= x.nu /\ x.nu <= 1000000 := fun x hx => by
    rcases List.mem_append.1 hx with hx | hx
    . have := ((validRgs_iff a).1 ka).mem hx; omega
    . have := ((validRgs_iff b).1 kb).mem hx; omega
  have hab : (a ++ b).length = a.length + b.length := List.length_append
  have hs := ((validRgs_iff a).1 ka).sorted
  refine ⟨fun w v => ∃ i : Nat, v = i /\ i <= b.length /\ w = joinM ((a ++ b).take (a.length + i)), fun _ v => b.length - v.toNat, ⟨0, rfl, by omega, ?_⟩, ?_⟩
  . have := joinM_sorted hs a.length (Nat.le_refl _)
    rw [List.take_length] at this
    rw [Nat.add_zero, List.take_left, this]
  rintro _ _ ⟨i, rfl, hi, rfl⟩
  have hl := joinM_len (l := a ++ b) (a.length + i) (by omega)
  have hn := joinM_nu hm (a.length + i) (by omega)
  refine ⟨fun k1 => ?_, fun k1 => ?_⟩
  . have hbm := hm _ (List.mem_append_right a (lat_mem (xs := b) (i := (i : Int)) ⟨by omega, k1⟩))
    refine ⟨⟨by omega, k1⟩, by omega, fun x hx => by have := hn x hx; omega, hbm, by unfold inI; omega, ⟨i + 1, by omega, by omega, ?_⟩, dec_lt k1⟩
    rw [rput_put (JR.join _).pw, <- Nat.add_assoc, joinM_take (by omega)]
    congr 1
    have e : ((a.length + i : Nat) : Int) = ((a.length + i : Nat) : Int) := rfl
    rw [lat_get (by omega), lat_get (by omega), List.getElem_append_right (by omega)]
    congr 1
    omega
  . have e : (a ++ b).take (a.length + i) = a ++ b := List.take_of_length_le (by omega)
    rw [e] at hl ⊢
    refine ⟨by omega, fun k2 => ?_, fun k2 => ?_⟩
    . unfold joinE
      rw [if_neg (fun h => k2 h.2.2)]
      exact ⟨rfl, rfl⟩
    . unfold joinE
      rw [if_pos ⟨ka, kb, Decidable.not_not.1 k2⟩]
      exact ⟨rfl, rfl⟩
theorem spec_rjoin (a : (List Rg)) (b : (List Rg)) (h0 : a.length + b.length <= 1073741822) : FnS Try.prog 29 [.lst true a.length (zYy e72 a), .lst true b.length (zYy e72 b)] (fun xR => xR = .tup [.lst true ((joinE a b).1).length (zYy e72 ((joinE a b).1)), .int .i64 ((joinE a b).2)]) :=
  (walk_rjoin (vcp_rjoin a b h0)).mono (by rintro _ ⟨_, _, rfl, rfl, rfl⟩; rfl)
def vc_sameR (a : (List Rg)) (b : (List Rg)) (Post : Bool -> Prop) : Prop :=
  ((¬ (a.length : Int) = (b.length : Int)) -> Post false) /\ (¬ (¬ (a.length : Int) = (b.length : Int)) -> ∃ (I1 : Int -> Prop) (μ1 : Int -> Nat), I1 (0 : Int) /\ ∀ (v5 : Int), I1 v5 -> ((v5 < (a.length : Int)) -> (0 <= v5 /\ v5 < (a.length : Int)) /\ (0 <= v5 /\ v5 < (b.length : Int)) /\ ((¬ (lat a v5) = (lat b v5)) -> Post false) /\ (¬ (¬ (lat a v5) = (lat b v5)) -> (inI (v5 + (1 : Int))) /\ (I1 (v5 + (1 : Int)) /\ μ1 (v5 + (1 : Int)) < μ1 v5))) /\ (¬ (v5 < (a.length : Int)) -> Post true))
theorem walk_sameR {a : (List Rg)} {b : (List Rg)} {Post : Bool -> Prop} (hv : vc_sameR a b Post) : FnP Try.prog 30 [.lst true a.length (zYy e72 a), .lst true b.length (zYy e72 b)] (fun x => ∃ q0, x = .bool q0 /\ Post q0) := by
 refine FnP.of_walk (T := tt) (nt := 26) ttOk ttMix ⟨⟨Try.f30, Try.func30, rfl, rfl, rfl, rfl⟩⟩ (by simp) ?_
 unfold vc_sameR at hv
 change W _ _ _ ⟨26, look [(0, .lst true a.length (zYy e72 a)), (1, .lst true b.length (zYy e72 b))], [], 0⟩ _
 refine W.ty [(0, .lst _ _ _), (1, .lst _ _ _)] rfl (W.rL (aB rfl rfl (eL (W.ty [(0, .lst _ _ _), (1, .lst _ _ _)] rfl (W.seq' (W.rL (mL rfl rfl (cL rfl (zXw (v := .lst _ _ _) tt54 rfl rfl (mL rfl rfl (cL rfl (zXw (v := .lst _ _ _) tt54 rfl rfl (cL rfl (o_neI rfl rfl rfl (eL (W.ty [(0, .lst _ _ _), (1, .lst _ _ _), (10, .bool _)] rfl (W.cn rfl (fun hc => ?_) (fun hc => ?_))))))))))))))))))
 have hv := hv.1 hc
 refine W.rL (aB rfl rfl (eL (W.ty [(4, .bool _)] rfl (W.ret (zZr (rt (rt_t (v := .bool _) rfl (rt_n (⟨_, zYr _ _ _, false, rfl, hv⟩)))))))))
 have hv := hv.2 hc
 refine W.skip (zZ (W.ty [(0, .lst _ _ _), (1, .lst _ _ _)] rfl (W.seq' (W.rL (aI rfl rfl (eL (W.ty [(0, .lst _ _ _), (1, .lst _ _ _), (5, .int _ _)] rfl (W.block ?_))))))))
 obtain ⟨I1, μ1, hp, hv⟩ := hv
 refine W.loop1 (fun v5 => ⟨26, look [(0, .lst true a.length (zYy e72 a)), (1, .lst true b.length (zYy e72 b)), (5, .int .i64 v5)], [], 0⟩) I1 μ1 (0 : Int) (St.to_mk (φ := []) rfl (rfl) (zT rfl rfl) trivial) hp ?_
 clear hp
 intro v5 hI
 replace hv := hv v5 hI
 clear hI
 refine W.seq' (W.rL (mI rfl rfl (mL rfl rfl (cL rfl (zXw (v := .lst _ _ _) tt54 rfl rfl (cL rfl (zYq rfl rfl (eL (W.ty [(0, .lst _ _ _), (1, .lst _ _ _), (5, .int _ _), (14, .bool _)] rfl (W.cn rfl (fun hc => ?_) (fun hc => ?_)))))))))))
 have hv := hv.1 hc
 refine W.skip (zZ (W.ty [(0, .lst _ _ _), (1, .lst _ _ _), (5, .int _ _)] rfl (W.seq' (W.block (W.rD [0, 1, 2, 3, 4, 5, 6, 7, 8] (by decide +kernel) rfl (mL rfl rfl (mI rfl rfl ?_)))))))
 obtain ⟨s18, hv⟩ := hv
 refine cL rfl (zYu tt54 tt72 rfl rfl (enc72.wd true) rfl s18 ?_)
 intro rest18
 refine cL rfl (zYp (cs := [.int _ _, .int _ _, .int _ _, .int _ _, .int _ _]) tt72 rfl rfl ⟨_, rfl⟩ rfl (mL rfl rfl (mI rfl rfl ?_)))
 obtain ⟨s19, hv⟩ := hv
 refine cL rfl (zYu tt54 tt72 rfl rfl (enc72.wd true) rfl s19 ?_)
 intro rest19
 refine cL rfl (zYp (cs := [.int _ _, .int _ _, .int _ _, .int _ _, .int _ _]) tt72 rfl rfl ⟨_, rfl⟩ rfl (cL rfl (o_neS [(lat a v5).op, (lat a v5).ver, (lat a v5).nu, (lat a v5).le, (lat a v5).mo] [(lat b v5).op, (lat b v5).ver, (lat b v5).nu, (lat b v5).le, (lat b v5).mo] tt72 eqf72 rfl rfl rfl rfl rfl rfl (eq72 (lat a v5) (lat b v5)) (eL (W.ty [(0, .lst _ _ _), (1, .lst _ _ _), (5, .int _ _), (25, .bool _)] rfl (W.cn rfl (fun hc => ?_) (fun hc => ?_)))))))
 have hv := hv.1 hc
 refine W.rL (aB rfl rfl (eL (W.ty [(4, .bool _)] rfl (W.ret (zYt (zZr (zZr (zYt (zZr (rt (rt_t (v := .bool _) rfl (rt_n (⟨_, zYr _ _ _, false, rfl, hv⟩)))))))))))))
 have hv := hv.2 hc
 refine W.skip (zYv (zZ (W.ty [(0, .lst _ _ _), (1, .lst _ _ _), (5, .int _ _)] rfl (W.rL1 (mI rfl rfl ?_)))))
 obtain ⟨s20, hv⟩ := hv
 refine cL rfl (o_add rfl rfl s20 (aI rfl rfl (eL (zZ (⟨(), (v5 + (1 : Int)), hv, St.to_mk (φ := []) rfl (rfl) (zT rfl rfl) trivial⟩)))))
 have hv := hv.2 hc
 refine W.exit (zZt (zZt (zYs (zZ (W.ty [] rfl (W.rL (aB rfl rfl (eL (W.ty [(4, .bool _)] rfl (W.ret (rt (rt_t (v := .bool _) rfl (rt_n (⟨_, zYr _ _ _, true, rfl, hv⟩))))))))))))))
set_option maxHeartbeats 4000000 in
theorem vcp_sameR (a : (List Rg)) (b : (List Rg)) (h0 : a.length <= 9223372036854775807) (h1 : b.length <= 9223372036854775807) : vc_sameR a b (fun q0 => q0 = (decide (a = b))) := by
  have bad : ∀ {q : Prop}, (a = b -> q) -> ¬ q -> false = decide (a = b) := fun h k => (decide_eq_false fun e => k (h e)).symm
  unfold vc_sameR
  refine ⟨fun k => bad (fun h => by rw [h]) k, fun k => ?_⟩
  have hl : a.length = b.length := by have := Decidable.not_not.1 k; omega
  refine ⟨fun v => ∃ i : Nat, v = i /\ i <= a.length /\ ∀ q : Nat, q < i -> lat a (q : Int) = lat b (q : Int), fun v => a.length - v.toNat, ⟨0, rfl, by omega, fun a ha => by omega⟩, ?_⟩
  rintro _ ⟨i, rfl, hi, hx⟩
  refine ⟨fun k1 => ⟨⟨by omega, k1⟩, ⟨by omega, by omega⟩, fun k2 => bad (fun h => by rw [h]) k2, fun k2 => ⟨by unfold inI; omega, ⟨i + 1, by omega, by omega, fun q hq => ?_⟩, dec_lt k1⟩⟩, fun k1 => ?_⟩
  . rcases Nat.lt_or_ge q i with h | h
    . exact hx q h
    . rw [show q = i by omega]; exact Decidable.not_not.1 k2
  . show true = decide (a = b)
    symm
    rw [decide_eq_true_eq]
    apply List.ext_getElem hl
    intro m m1 m2
    have := hx m (by omega)
    rwa [lat_get m1, lat_get m2] at this
theorem spec_sameR (a : (List Rg)) (b : (List Rg)) (h0 : a.length <= 9223372036854775807) (h1 : b.length <= 9223372036854775807) : FnP Try.prog 30 [.lst true a.length (zYy e72 a), .lst true b.length (zYy e72 b)] (fun xR => xR = .bool (decide (a = b))) :=
  (walk_sameR (vcp_sameR a b h0 h1)).mono (by rintro _ ⟨_, rfl, rfl⟩; rfl)
def vc_rallows (l : (List Rg)) (op : Int) (ver : Int) (t : Int) (Post : Bool -> Prop) : Prop :=
  (l.length <= 9223372036854775807) /\ ((¬ ((validRgs l) = true)) -> Post false) /\ (¬ (¬ ((validRgs l) = true)) -> ∃ (I1 : Int -> Prop) (μ1 : Int -> Nat), I1 (0 : Int) /\ ∀ (v9 : Int), I1 v9 -> ((v9 < (l.length : Int)) -> ((0 <= v9 /\ v9 < (l.length : Int)) /\ (((lat l v9).op = op) -> (0 <= v9 /\ v9 < (l.length : Int)) /\ True) /\ (¬ ((lat l v9).op = op) -> True)) /\ (((((lat l v9).op = op) /\ ((lat l v9).ver = ver)) -> ((0 <= v9 /\ v9 < (l.length : Int)) /\ (((3 : Int) <= ((lat l v9).nu)) -> (0 <= v9 /\ v9 < (l.length : Int)) /\ (0 <= v9 /\ v9 < (l.length : Int)) /\ True) /\ (¬ ((3 : Int) <= ((lat l v9).nu)) -> True)) /\ (Post (decide (((3 : Int) <= ((lat l v9).nu)) /\ ((inM t ((lat l v9).le) ((lat l v9).mo)) = true))))) /\ (¬ (((lat l v9).op = op) /\ ((lat l v9).ver = ver)) -> (inI (v9 + (1 : Int))) /\ (I1 (v9 + (1 : Int)) /\ μ1 (v9 + (1 : Int)) < μ1 v9)))) /\ (¬ (v9 < (l.length : Int)) -> Post false))
theorem walk_rallows {l : (List Rg)} {op : Int} {ver : Int} {t : Int} {Post : Bool -> Prop} (hv : vc_rallows l op ver t Post) : FnP Try.prog 34 [.lst true l.length (zYy e72 l), .int .i64 op, .int .i64 ver, .int .i64 t] (fun x => ∃ q0, x = .bool q0 /\ Post q0) := by
 refine FnP.of_walk (T := tt) (nt := 55) ttOk ttMix ⟨⟨Try.f34, Try.func34, rfl, rfl, rfl, rfl⟩⟩ (by simp) ?_
 unfold vc_rallows at hv
 change W _ _ _ ⟨55, look [(0, .lst true l.length (zYy e72 l)), (1, .int .i64 op), (2, .int .i64 ver), (3, .int .i64 t)], [], 0⟩ _
 refine W.ty [(0, .lst _ _ _), (1, .int _ _), (2, .int _ _), (3, .int _ _)] rfl (W.rL (aB rfl rfl (eL (W.ty [(0, .lst _ _ _), (1, .int _ _), (2, .int _ _), (3, .int _ _)] rfl (W.seq' (W.rL (mL rfl rfl ?_)))))))
 obtain ⟨s2, hv⟩ := hv
 refine cL rfl (zZu (k := 32) (fst := []) (caps := []) (ys := [.lst _ _ _]) rfl rfl (spec_rvranges l s2) zk (cL rfl (o_notB rfl (eL (W.ty [(0, .lst _ _ _), (1, .int _ _), (2, .int _ _), (3, .int _ _), (12, .bool _)] rfl (W.cn rfl (fun hc => ?_) (fun hc => ?_)))))))
 have hv := hv.1 hc
 refine W.rL (aB rfl rfl (eL (W.ty [(8, .bool _)] rfl (W.ret (zZr (rt (rt_t (v := .bool _) rfl (rt_n (⟨_, zYr _ _ _, false, rfl, hv⟩)))))))))
 have hv := hv.2 hc
 refine W.skip (zZ (W.ty [(0, .lst _ _ _), (1, .int _ _), (2, .int _ _), (3, .int _ _)] rfl (W.seq' (W.rL (aI rfl rfl (eL (W.ty [(0, .lst _ _ _), (1, .int _ _), (2, .int _ _), (3, .int _ _), (9, .int _ _)] rfl (W.block ?_))))))))
 obtain ⟨I1, μ1, hp, hv⟩ := hv
 refine W.loop1 (fun v9 => ⟨55, look [(0, .lst true l.length (zYy e72 l)), (1, .int .i64 op), (2, .int .i64 ver), (3, .int .i64 t), (9, .int .i64 v9)], [], 0⟩) I1 μ1 (0 : Int) (St.to_mk (φ := []) rfl (rfl) (zT rfl rfl) trivial) hp ?_
 clear hp
 intro v9 hI
 replace hv := hv v9 hI
 clear hI
 refine W.seq' (W.rL (mI rfl rfl (mL rfl rfl (cL rfl (zXw (v := .lst _ _ _) tt54 rfl rfl (cL rfl (zYq rfl rfl (eL (W.ty [(0, .lst _ _ _), (1, .int _ _), (2, .int _ _), (3, .int _ _), (9, .int _ _), (16, .bool _)] rfl (W.cn rfl (fun hc => ?_) (fun hc => ?_)))))))))))
 have hv := hv.1 hc
 refine W.skip (zZ (W.ty [(0, .lst _ _ _), (1, .int _ _), (2, .int _ _), (3, .int _ _), (9, .int _ _)] rfl (W.seq' (W.block ?_))))
 obtain ⟨sd, hv⟩ := hv
 refine W.rLm ⟨55, look [(0, .lst true l.length (zYy e72 l)), (1, .int .i64 op), (2, .int .i64 ver), (3, .int .i64 t), (9, .int .i64 v9), (34, .bool (decide (((lat l v9).op = op) /\ ((lat l v9).ver = ver))))], [], 0⟩ ?_ ?_
 refine mL rfl rfl (mI rfl rfl ?_)
 obtain ⟨s78, sd⟩ := sd
 refine cL rfl (zYu tt54 tt72 rfl rfl (enc72.wd true) rfl s78 ?_)
 intro rest78
 refine cL rfl (o_faP tt72 rfl tt3 rfl (cL rfl (zZx (v := .int _ _) tt3 rfl rfl ⟨_, rfl⟩ (mI rfl rfl (cL rfl (o_eqI rfl rfl rfl (mB rfl rfl ?_)))))))
 by_cases c1 : (lat l v9).op = op
 have sd := sd.1 c1
 refine cLg rfl rfl (dT c1) (mL rfl rfl (cLg rfl rfl (dT c1) (mI rfl rfl (cLg rfl rfl (dT c1) ?_))))
 obtain ⟨s79, sd⟩ := sd
 refine cL rfl (zYu tt54 tt72 rfl rfl (enc72.wd true) rfl s79 ?_)
 intro rest79
 refine cLg rfl rfl (dT c1) (cL rfl (o_faP tt72 rfl tt3 rfl (cLg rfl rfl (dT c1) (cL rfl (zZx (v := .int _ _) tt3 rfl rfl ⟨_, rfl⟩ (cLg rfl rfl (dT c1) (mI rfl rfl (cLg rfl rfl (dT c1) (cL rfl (o_eqI rfl rfl rfl (cL rfl (zZv (v := .bool _) rfl (dT c1) rfl (eL (zYz ⟨rfl, rfl, rfl, rfl, rfl, (congrArg AV.bool (zXv c1 (rfl))).symm, trivial⟩ rfl))))))))))))))
 iterate 7 refine cLs rfl rfl rfl (dF c1) ?_
 refine cL rfl (zZy (v := .bool _) rfl (dF c1) rfl (eL (zYz ⟨rfl, rfl, rfl, rfl, rfl, (congrArg AV.bool (dAndF c1)).symm, trivial⟩ rfl)))
 refine W.cn rfl (fun hc => ?_) (fun hc => ?_)
 have hv := hv.1 hc
 obtain ⟨sd, hv⟩ := hv
 refine W.rDm ⟨55, look [(8, .bool (decide (((3 : Int) <= ((lat l v9).nu)) /\ ((inM t ((lat l v9).le) ((lat l v9).mo)) = true))))], [], 0⟩ [0, 1, 2, 3, 4, 5, 6, 7, 8, 9, 10, 11, 12, 13, 14, 15, 16, 17, 18, 19, 20] (by decide +kernel) rfl ?_ ?_
 refine mL rfl rfl (mI rfl rfl ?_)
 obtain ⟨s83, sd⟩ := sd
 refine cL rfl (zYu tt54 tt72 rfl rfl (enc72.wd true) rfl s83 ?_)
 intro rest83
 refine cL rfl (o_faP tt72 rfl tt3 rfl (cL rfl (zZx (v := .int _ _) tt3 rfl rfl ⟨_, rfl⟩ (cL rfl (o_geq rfl rfl (mB rfl rfl ?_))))))
 by_cases c1 : (3 : Int) <= ((lat l v9).nu)
 have sd := sd.1 c1
 refine cLg rfl rfl (dT c1) (mI rfl rfl (cLg rfl rfl (dT c1) (mL rfl rfl (cLg rfl rfl (dT c1) (mI rfl rfl (cLg rfl rfl (dT c1) ?_))))))
 obtain ⟨s84, sd⟩ := sd
 refine cL rfl (zYu tt54 tt72 rfl rfl (enc72.wd true) rfl s84 ?_)
 intro rest84
 refine cLg rfl rfl (dT c1) (cL rfl (o_faP tt72 rfl tt3 rfl (cLg rfl rfl (dT c1) (cL rfl (zZx (v := .int _ _) tt3 rfl rfl ⟨_, rfl⟩ (cLg rfl rfl (dT c1) (mL rfl rfl (cLg rfl rfl (dT c1) (mI rfl rfl (cLg rfl rfl (dT c1) ?_))))))))))
 obtain ⟨s85, sd⟩ := sd
 refine cL rfl (zYu tt54 tt72 rfl rfl (enc72.wd true) rfl s85 ?_)
 intro rest85
 refine cLg rfl rfl (dT c1) (cL rfl (o_faP tt72 rfl tt3 rfl (cLg rfl rfl (dT c1) (cL rfl (zZx (v := .int _ _) tt3 rfl rfl ⟨_, rfl⟩ (cLg rfl rfl (dT c1) (cL rfl (zZu (k := 38) (fst := []) (caps := []) (ys := [.int _ _, .int _ _, .int _ _]) rfl rfl (spec_in38 t ((lat l v9).le) ((lat l v9).mo)) zk (cL rfl (zZv (v := .bool _) rfl (dT c1) rfl (aB rfl rfl (eL (zYz ⟨(congrArg AV.bool (zXv c1 (dVar _))).symm, trivial⟩ rfl)))))))))))))
 iterate 12 refine cLs rfl rfl rfl (dF c1) ?_
 refine cL rfl (zZy (v := .bool _) rfl (dF c1) rfl (aB rfl rfl (eL (zYz ⟨(congrArg AV.bool (dAndF c1)).symm, trivial⟩ rfl))))
 refine W.ret (zYt (zZr (zZr (zYt (zZr (rt (rt_t (v := .bool _) rfl (rt_n (⟨_, zYr _ _ _, (decide (((3 : Int) <= ((lat l v9).nu)) /\ ((inM t ((lat l v9).le) ((lat l v9).mo)) = true))), rfl, hv⟩)))))))))
 have hv := hv.2 hc
 refine W.skip (zYv (zZ (W.ty [(0, .lst _ _ _), (1, .int _ _), (2, .int _ _), (3, .int _ _), (9, .int _ _)] rfl (W.rL1 (mI rfl rfl ?_)))))
 obtain ⟨s86, hv⟩ := hv
 refine cL rfl (o_add rfl rfl s86 (aI rfl rfl (eL (zZ (⟨(), (v9 + (1 : Int)), hv, St.to_mk (φ := []) rfl (rfl) (zT rfl rfl) trivial⟩)))))
 have hv := hv.2 hc
 refine W.exit (zZt (zZt (zYs (zZ (W.ty [] rfl (W.rL (aB rfl rfl (eL (W.ty [(8, .bool _)] rfl (W.ret (rt (rt_t (v := .bool _) rfl (rt_n (⟨_, zYr _ _ _, false, rfl, hv⟩))))))))))))))
set_option maxHeartbeats 4000000 in
theorem vcp_rallows (l : (List Rg)) (op : Int) (ver : Int) (t : Int) (h0 : l.length <= 1073741824) : vc_rallows l op ver t (fun q0 => q0 = (allowsM l op ver t)) := by
  have e1 : ∀ n lo hi : Int, (inM n lo hi = true) = (lo <= n /\ n <= hi) := fun n lo hi => by unfold inM; simp
  unfold vc_rallows
  refine ⟨by omega, fun k => ?_, fun k => ?_⟩
  . show false = allowsM l op ver t
    unfold allowsM
    symm
    rw [decide_eq_false_iff_not]
    exact fun h => k h.1
  have k := Decidable.not_not.1 k
  have hs := ((validRgs_iff l).1 k).sorted
  refine ⟨fun v => ∃ i : Nat, v = i /\ i <= l.length /\ ∀ a : Nat, a < i -> ¬ ((lat l a).op = op /\ (lat l a).ver = ver), fun v => l.length - v.toNat, ⟨0, rfl, by omega, fun a ha => by omega⟩, ?_⟩
  rintro _ ⟨i, rfl, hi, hx⟩
  refine ⟨fun k1 => ⟨⟨⟨by omega, k1⟩, fun _ => ⟨⟨by omega, k1⟩, trivial⟩, fun _ => trivial⟩, fun k2 => ⟨⟨⟨by omega, k1⟩, fun _ => ⟨⟨by omega, k1⟩, ⟨by omega, k1⟩, trivial⟩, fun _ => trivial⟩, ?_⟩, fun k2 => ⟨by unfold inI; omega, ⟨i + 1, by omega, by omega, fun a ha => ?_⟩, dec_lt k1⟩⟩, fun k1 => ?_⟩
  . show decide _ = allowsM l op ver t
    obtain ⟨b1, b2⟩ := bs_hit (x := ⟨op, ver, 0, 0, 0⟩) hs (i := i) (by omega) k2
    have b2 : bsI l ⟨op, ver, 0, 0, 0⟩ = i := b2
    unfold allowsM
    rw [b2]
    refine decide_eq_decide.2 ?_
    rw [e1]
    exact ⟨fun h => ⟨k, b1, h⟩, fun h => h.2.2⟩
  . rcases Nat.lt_or_ge a i with h | h
    . exact hx a h
    . rw [show a = i by omega]; exact k2
  . show false = allowsM l op ver t
    symm
    rw [Bool.eq_false_iff]
    intro h
    obtain ⟨a, ha, he, _⟩ := (allows_iff k op ver t).1 h
    exact hx a (by omega) he
theorem spec_rallows (l : (List Rg)) (op : Int) (ver : Int) (t : Int) (h0 : l.length <= 1073741824) : FnP Try.prog 34 [.lst true l.length (zYy e72 l), .int .i64 op, .int .i64 ver, .int .i64 t] (fun xR => xR = .bool (allowsM l op ver t)) :=
  (walk_rallows (vcp_rallows l op ver t h0)).mono (by rintro _ ⟨_, rfl, rfl⟩; rfl)
def vc_lawmat (sv : (List Int)) (jb : (List Job)) (n : Int) (xa : (List (Vector Int 4))) (k : Int) (fr : Int) (to : Int) (xb : (List (Vector Int 4))) (raw : (List Rg)) (t : Int) (Post : Bool -> Prop) : Prop :=
  (sv.length <= 9223372036854775807) /\ (∀ j ∈ jb, j.wk.length <= 9223372036854775807) /\ (jb.length <= 9223372036854775807) /\ (inI n) /\ ∃ (I1 : List Int -> List Job -> Int -> Prop) (μ1 : List Int -> List Job -> Int -> Nat), I1 ((fewM sv jb).1) ((fewM sv jb).2) (0 : Int) /\ ∀ (v22 : List Int) (v23 : List Job) (v25 : Int), I1 v22 v23 v25 -> ((v25 < (2 : Int)) -> (v22.length <= 9223372036854775807) /\ (∀ j ∈ v23, j.wk.length <= 9223372036854775807) /\ (v23.length <= 9223372036854775807) /\ (v22.length <= 9223372036854775807) /\ (∀ j ∈ v23, j.wk.length <= 9223372036854775807) /\ (v23.length <= 9223372036854775807) /\ (v22.length <= 9223372036854775807) /\ (∀ q ∈ v23, q.wk.length <= 9223372036854775807) /\ (v23.length <= 9223372036854775807) /\ (v22.length <= 9223372036854775807) /\ (∀ q ∈ v23, q.wk.length <= 9223372036854775807) /\ (v23.length <= 9223372036854775807) /\ (1 <= (7 : Int)) /\ (inI k) /\ (v22.length <= 9223372036854775807) /\ (∀ j ∈ v23, j.wk.length <= 9223372036854775807) /\ (v23.length <= 9223372036854775807) /\ (1 <= (7 : Int)) /\ (inI k) /\ (v22.length <= 9223372036854775807) /\ (∀ j ∈ v23, j.wk.length <= 9223372036854775807) /\ (v23.length <= 9223372036854775807) /\ ((v22.length <= 9223372036854775807) /\ (∀ j ∈ v23, j.wk.length <= 9223372036854775807) /\ (v23.length <= 9223372036854775807) /\ (v22.length <= 9223372036854775807) /\ (∀ j ∈ v23, j.wk.length <= 9223372036854775807) /\ (v23.length <= 9223372036854775807) /\ ((¬ (validJ v22 v23) = (validJ v22 v23)) -> True) /\ (¬ (¬ (validJ v22 v23) = (validJ v22 v23)) -> ((¬ (runR v22 v23).2 = (runR v22 v23).2) -> True) /\ (¬ (¬ (runR v22 v23).2 = (runR v22 v23).2) -> (((runR v22 v23).1).length <= 9223372036854775807) /\ (((runR v22 v23).1).length <= 9223372036854775807) /\ (∀ j ∈ ((runR v22 v23).1), j.length <= 9223372036854775807) /\ (∀ j ∈ ((runR v22 v23).1), j.length <= 9223372036854775807) /\ True))) /\ ((((¬ (validJ v22 v23) = (validJ v22 v23)) \/ ((¬ (runR v22 v23).2 = (runR v22 v23).2) \/ ((¬ (((runR v22 v23).1) = ((runR v22 v23).1))) \/ ((¬ (finishM v22 v23 k).1 = (finishM v22 v23 k).1) \/ ((¬ (finishM v22 v23 k).2 = (finishM v22 v23 k).2) \/ ((¬ (busyM v22 v23 (pickM k (7 : Int)) fr to).1 = (busyM v22 v23 (pickM k (7 : Int)) fr to).1) \/ (¬ (busyM v22 v23 (pickM k (7 : Int)) fr to).2 = (busyM v22 v23 (pickM k (7 : Int)) fr to).2))))))) -> Post false) /\ (¬ ((¬ (validJ v22 v23) = (validJ v22 v23)) \/ ((¬ (runR v22 v23).2 = (runR v22 v23).2) \/ ((¬ (((runR v22 v23).1) = ((runR v22 v23).1))) \/ ((¬ (finishM v22 v23 k).1 = (finishM v22 v23 k).1) \/ ((¬ (finishM v22 v23 k).2 = (finishM v22 v23 k).2) \/ ((¬ (busyM v22 v23 (pickM k (7 : Int)) fr to).1 = (busyM v22 v23 (pickM k (7 : Int)) fr to).1) \/ (¬ (busyM v22 v23 (pickM k (7 : Int)) fr to).2 = (busyM v22 v23 (pickM k (7 : Int)) fr to).2))))))) -> (1 <= ((serversM n).length : Int) /\ ((serversM n).length : Int) <= 1000000) /\ (xa.length <= 9223372036854775807) /\ (∀ y ∈ xa, ∀ k, inI (vat y k)) /\ (inI (v25 + (1 : Int))) /\ (I1 (serversM n) (jobsM23 ((serversM n).length : Int) xa) (v25 + (1 : Int)) /\ μ1 (serversM n) (jobsM23 ((serversM n).length : Int) xa) (v25 + (1 : Int)) < μ1 v22 v23 v25)))) /\ (¬ (v25 < (2 : Int)) -> (xb.length <= 9223372036854775807) /\ (∀ y ∈ xb, ∀ k, inI (vat y k)) /\ ((factsM xb).length <= 1073741823) /\ ((factsM xb).length <= 1073741823) /\ (0 <= ((0 : Nat) : Int) /\ ((0 : Nat) : Int) <= (min (raw.length : Int) (10 : Int)) /\ (min (raw.length : Int) (10 : Int)) <= (raw.length : Int)) /\ (((fitM (factsM xb)).1).length + (raw.take (min (raw.length : Int) (10 : Int)).toNat).length <= 1073741822) /\ (((fitM (factsM xb)).1).length + (raw.take (min (raw.length : Int) (10 : Int)).toNat).length <= 1073741822) /\ (((¬ (fitM (factsM xb)).2 = (fitM (factsM xb)).2) -> True) /\ (¬ (¬ (fitM (factsM xb)).2 = (fitM (factsM xb)).2) -> ((¬ (joinE ((fitM (factsM xb)).1) (raw.take (min (raw.length : Int) (10 : Int)).toNat)).2 = (joinE ((fitM (factsM xb)).1) (raw.take (min (raw.length : Int) (10 : Int)).toNat)).2) -> True) /\ (¬ (¬ (joinE ((fitM (factsM xb)).1) (raw.take (min (raw.length : Int) (10 : Int)).toNat)).2 = (joinE ((fitM (factsM xb)).1) (raw.take (min (raw.length : Int) (10 : Int)).toNat)).2) -> (((fitM (factsM xb)).1).length <= 9223372036854775807) /\ (((fitM (factsM xb)).1).length <= 9223372036854775807) /\ ((¬ (((fitM (factsM xb)).1) = ((fitM (factsM xb)).1))) -> True) /\ (¬ (¬ (((fitM (factsM xb)).1) = ((fitM (factsM xb)).1))) -> (((joinE ((fitM (factsM xb)).1) (raw.take (min (raw.length : Int) (10 : Int)).toNat)).1).length <= 9223372036854775807) /\ (((joinE ((fitM (factsM xb)).1) (raw.take (min (raw.length : Int) (10 : Int)).toNat)).1).length <= 9223372036854775807) /\ ((¬ (((joinE ((fitM (factsM xb)).1) (raw.take (min (raw.length : Int) (10 : Int)).toNat)).1) = ((joinE ((fitM (factsM xb)).1) (raw.take (min (raw.length : Int) (10 : Int)).toNat)).1))) -> True) /\ (¬ (¬ (((joinE ((fitM (factsM xb)).1) (raw.take (min (raw.length : Int) (10 : Int)).toNat)).1) = ((joinE ((fitM (factsM xb)).1) (raw.take (min (raw.length : Int) (10 : Int)).toNat)).1))) -> ((raw.take (min (raw.length : Int) (10 : Int)).toNat).length <= 9223372036854775807) /\ ((raw.take (min (raw.length : Int) (10 : Int)).toNat).length <= 9223372036854775807) /\ True))))) /\ ((((¬ (fitM (factsM xb)).2 = (fitM (factsM xb)).2) \/ ((¬ (joinE ((fitM (factsM xb)).1) (raw.take (min (raw.length : Int) (10 : Int)).toNat)).2 = (joinE ((fitM (factsM xb)).1) (raw.take (min (raw.length : Int) (10 : Int)).toNat)).2) \/ ((¬ (((fitM (factsM xb)).1) = ((fitM (factsM xb)).1))) \/ ((¬ (((joinE ((fitM (factsM xb)).1) (raw.take (min (raw.length : Int) (10 : Int)).toNat)).1) = ((joinE ((fitM (factsM xb)).1) (raw.take (min (raw.length : Int) (10 : Int)).toNat)).1))) \/ (¬ (validRgs (raw.take (min (raw.length : Int) (10 : Int)).toNat)) = (validRgs (raw.take (min (raw.length : Int) (10 : Int)).toNat))))))) -> Post false) /\ (¬ ((¬ (fitM (factsM xb)).2 = (fitM (factsM xb)).2) \/ ((¬ (joinE ((fitM (factsM xb)).1) (raw.take (min (raw.length : Int) (10 : Int)).toNat)).2 = (joinE ((fitM (factsM xb)).1) (raw.take (min (raw.length : Int) (10 : Int)).toNat)).2) \/ ((¬ (((fitM (factsM xb)).1) = ((fitM (factsM xb)).1))) \/ ((¬ (((joinE ((fitM (factsM xb)).1) (raw.take (min (raw.length : Int) (10 : Int)).toNat)).1) = ((joinE ((fitM (factsM xb)).1) (raw.take (min (raw.length : Int) (10 : Int)).toNat)).1))) \/ (¬ (validRgs (raw.take (min (raw.length : Int) (10 : Int)).toNat)) = (validRgs (raw.take (min (raw.length : Int) (10 : Int)).toNat))))))) -> ∃ (I2 : Int -> Prop) (μ2 : Int -> Nat), I2 (0 : Int) /\ ∀ (v47 : Int), I2 v47 -> ((v47 < (5 : Int)) -> ∃ (I3 : Int -> Prop) (μ3 : Int -> Nat), I3 (0 : Int) /\ ∀ (v217 : Int), I3 v217 -> ((v217 < ((3 : Nat) : Int)) -> (0 <= v217 /\ v217 < (([(fitM (factsM xb)).1, raw.take (min (raw.length : Int) (10 : Int)).toNat, (joinE ((fitM (factsM xb)).1) (raw.take (min (raw.length : Int) (10 : Int)).toNat)).1].length : Nat) : Int)) /\ (1 <= (4 : Int)) /\ (inI k) /\ ((lat [(fitM (factsM xb)).1, raw.take (min (raw.length : Int) (10 : Int)).toNat, (joinE ((fitM (factsM xb)).1) (raw.take (min (raw.length : Int) (10 : Int)).toNat)).1] v217).length <= 1073741824) /\ (1 <= (4 : Int)) /\ (inI k) /\ ((lat [(fitM (factsM xb)).1, raw.take (min (raw.length : Int) (10 : Int)).toNat, (joinE ((fitM (factsM xb)).1) (raw.take (min (raw.length : Int) (10 : Int)).toNat)).1] v217).length <= 1073741824) /\ ((¬ (allowsM (lat [(fitM (factsM xb)).1, raw.take (min (raw.length : Int) (10 : Int)).toNat, (joinE ((fitM (factsM xb)).1) (raw.take (min (raw.length : Int) (10 : Int)).toNat)).1] v217) v47 (pickM k (4 : Int)) t) = (allowsM (lat [(fitM (factsM xb)).1, raw.take (min (raw.length : Int) (10 : Int)).toNat, (joinE ((fitM (factsM xb)).1) (raw.take (min (raw.length : Int) (10 : Int)).toNat)).1] v217) v47 (pickM k (4 : Int)) t)) -> Post false) /\ (¬ (¬ (allowsM (lat [(fitM (factsM xb)).1, raw.take (min (raw.length : Int) (10 : Int)).toNat, (joinE ((fitM (factsM xb)).1) (raw.take (min (raw.length : Int) (10 : Int)).toNat)).1] v217) v47 (pickM k (4 : Int)) t) = (allowsM (lat [(fitM (factsM xb)).1, raw.take (min (raw.length : Int) (10 : Int)).toNat, (joinE ((fitM (factsM xb)).1) (raw.take (min (raw.length : Int) (10 : Int)).toNat)).1] v217) v47 (pickM k (4 : Int)) t)) -> (inI (v217 + (1 : Int))) /\ (I3 (v217 + (1 : Int)) /\ μ3 (v217 + (1 : Int)) < μ3 v217))) /\ (¬ (v217 < ((3 : Nat) : Int)) -> (inI (v47 + (1 : Int))) /\ (I2 (v47 + (1 : Int)) /\ μ2 (v47 + (1 : Int)) < μ2 v47))) /\ (¬ (v47 < (5 : Int)) -> Post true))))
theorem walk_lawmat {sv : (List Int)} {jb : (List Job)} {n : Int} {xa : (List (Vector Int 4))} {k : Int} {fr : Int} {to : Int} {xb : (List (Vector Int 4))} {raw : (List Rg)} {t : Int} {Post : Bool -> Prop} (hv : vc_lawmat sv jb n xa k fr to xb raw t Post) : FnP Try.prog 7 [.lst true sv.length (zYy zYx sv), .lst true jb.length (zYy (e42 true) jb), .int .i64 n, .lst true xa.length (zYy eV4 xa), .int .i64 k, .int .i64 fr, .int .i64 to, .lst true xb.length (zYy eV4 xb), .lst true raw.length (zYy e72 raw), .int .i64 t] (fun x => ∃ q0, x = .bool q0 /\ Post q0) := by
 refine FnP.of_walk (T := tt) (nt := 236) ttOk ttMix ⟨⟨Try.f7, Try.func7, rfl, rfl, rfl, rfl⟩⟩ (by simp) ?_
 unfold vc_lawmat at hv
 change W _ _ _ ⟨236, look [(0, .lst true sv.length (zYy zYx sv)), (1, .lst true jb.length (zYy (e42 true) jb)), (2, .int .i64 n), (3, .lst true xa.length (zYy eV4 xa)), (4, .int .i64 k), (5, .int .i64 fr), (6, .int .i64 to), (7, .lst true xb.length (zYy eV4 xb)), (8, .lst true raw.length (zYy e72 raw)), (9, .int .i64 t)], [], 0⟩ _
 refine W.ty [(0, .lst _ _ _), (1, .lst _ _ _), (2, .int _ _), (3, .lst _ _ _), (4, .int _ _), (5, .int _ _), (6, .int _ _), (7, .lst _ _ _), (8, .lst _ _ _), (9, .int _ _)] rfl (W.rL (aB rfl rfl (eL (W.ty [(0, .lst _ _ _), (1, .lst _ _ _), (2, .int _ _), (3, .lst _ _ _), (4, .int _ _), (5, .int _ _), (6, .int _ _), (7, .lst _ _ _), (8, .lst _ _ _), (9, .int _ _)] rfl (W.rL (cL rfl (zZu (k := 9) (fst := []) (caps := []) (ys := []) rfl rfl (spec_sane) zk (aB rfl rfl (eL (W.ty [(0, .lst _ _ _), (1, .lst _ _ _), (2, .int _ _), (3, .lst _ _ _), (4, .int _ _), (5, .int _ _), (6, .int _ _), (7, .lst _ _ _), (8, .lst _ _ _), (9, .int _ _), (21, .bool _)] rfl (W.rL ?_)))))))))))
 iterate 2 refine mL rfl rfl ?_
 obtain ⟨s1, s2, s3, hv⟩ := hv
 refine cL rfl (o_callS1 (k := 19) (fst := []) (caps := []) (ys := [.lst _ _ _, .lst _ _ _]) rfl rfl (spec_few sv jb s1 s2 s3) zk (cL rfl (zZp (v := .tup _) rfl ?_)))
 iterate 2 refine cL rfl (o_ext (v := .lst _ _ _) rfl rfl ?_)
 iterate 2 refine aL rfl rfl ?_
 refine eL (W.ty [(2, .int _ _), (3, .lst _ _ _), (4, .int _ _), (5, .int _ _), (6, .int _ _), (7, .lst _ _ _), (8, .lst _ _ _), (9, .int _ _), (21, .bool _), (22, .lst _ _ _), (23, .lst _ _ _)] rfl (W.rL (mI rfl rfl ?_)))
 obtain ⟨s4, hv⟩ := hv
 refine cL rfl (zZu (k := 10) (fst := []) (caps := []) (ys := [.int _ _]) rfl rfl (spec_servers n s4) zk (aL rfl rfl (eL (W.ty [(3, .lst _ _ _), (4, .int _ _), (5, .int _ _), (6, .int _ _), (7, .lst _ _ _), (8, .lst _ _ _), (9, .int _ _), (21, .bool _), (22, .lst _ _ _), (23, .lst _ _ _), (24, .lst _ _ _)] rfl (W.seq' (W.rL (aI rfl rfl (eL (W.ty [(3, .lst _ _ _), (4, .int _ _), (5, .int _ _), (6, .int _ _), (7, .lst _ _ _), (8, .lst _ _ _), (9, .int _ _), (21, .bool _), (22, .lst _ _ _), (23, .lst _ _ _), (24, .lst _ _ _), (25, .int _ _)] rfl (W.block ?_))))))))))
 obtain ⟨I1, μ1, hp, hv⟩ := hv
 refine W.loop3 (fun v22 v23 v25 => ⟨236, look [(3, .lst true xa.length (zYy eV4 xa)), (4, .int .i64 k), (5, .int .i64 fr), (6, .int .i64 to), (7, .lst true xb.length (zYy eV4 xb)), (8, .lst true raw.length (zYy e72 raw)), (9, .int .i64 t), (21, .bool true), (22, .lst true v22.length (zYy zYx v22)), (23, .lst true v23.length (zYy (e42 true) v23)), (24, .lst false (serversM n).length (zYy zYx (serversM n))), (25, .int .i64 v25)], [], 0⟩) I1 μ1 ((fewM sv jb).1) ((fewM sv jb).2) (0 : Int) (St.to_mk (φ := []) rfl (rfl) (zT rfl rfl) trivial) hp ?_
 clear hp
 intro v22 v23 v25 hI
 replace hv := hv v22 v23 v25 hI
 clear hI
 refine W.seq' (W.rL (mI rfl rfl (cL rfl (zYq rfl rfl (eL (W.ty [(3, .lst _ _ _), (4, .int _ _), (5, .int _ _), (6, .int _ _), (7, .lst _ _ _), (8, .lst _ _ _), (9, .int _ _), (21, .bool _), (22, .lst _ _ _), (23, .lst _ _ _), (24, .lst _ _ _), (25, .int _ _), (60, .bool _)] rfl (W.cn rfl (fun hc => ?_) (fun hc => ?_))))))))
 have hv := hv.1 hc
 refine W.skip (zZ (W.ty [(3, .lst _ _ _), (4, .int _ _), (5, .int _ _), (6, .int _ _), (7, .lst _ _ _), (8, .lst _ _ _), (9, .int _ _), (21, .bool _), (22, .lst _ _ _), (23, .lst _ _ _), (24, .lst _ _ _), (25, .int _ _)] rfl (W.seq' (W.block (W.rL ?_)))))
 iterate 2 refine mL rfl rfl ?_
 obtain ⟨s463, s464, s465, hv⟩ := hv
 refine cL rfl (zZu (k := 12) (fst := []) (caps := []) (ys := [.lst _ _ _, .lst _ _ _]) rfl rfl (spec_mrun v22 v23 s463 s464 s465) zk (cL rfl (zZp (v := .tup _) rfl (cL rfl (o_ext (v := .lst _ _ _) rfl rfl (cL rfl (o_ext (v := .int _ _) rfl rfl (aL rfl rfl (aI rfl rfl (eL (W.ty [(3, .lst _ _ _), (4, .int _ _), (5, .int _ _), (6, .int _ _), (7, .lst _ _ _), (8, .lst _ _ _), (9, .int _ _), (21, .bool _), (22, .lst _ _ _), (23, .lst _ _ _), (24, .lst _ _ _), (25, .int _ _), (26, .lst _ _ _), (27, .int _ _)] rfl (W.rL ?_))))))))))))
 iterate 2 refine mL rfl rfl ?_
 obtain ⟨s466, s467, s468, hv⟩ := hv
 refine cL rfl (zZu (k := 20) (fst := []) (caps := []) (ys := [.lst _ _ _, .lst _ _ _]) rfl rfl (spec_rrun v22 v23 s466 s467 s468) zk (cL rfl (zZp (v := .tup _) rfl (cL rfl (o_ext (v := .lst _ _ _) rfl rfl (cL rfl (o_ext (v := .int _ _) rfl rfl (aL rfl rfl (aI rfl rfl (eL (W.ty [(3, .lst _ _ _), (4, .int _ _), (5, .int _ _), (6, .int _ _), (7, .lst _ _ _), (8, .lst _ _ _), (9, .int _ _), (21, .bool _), (22, .lst _ _ _), (23, .lst _ _ _), (24, .lst _ _ _), (25, .int _ _), (26, .lst _ _ _), (27, .int _ _), (28, .lst _ _ _), (29, .int _ _)] rfl (W.rL ?_))))))))))))
 iterate 2 refine mL rfl rfl ?_
 refine mI rfl rfl ?_
 obtain ⟨s469, s470, s471, hv⟩ := hv
 refine cL rfl (zZu (k := 14) (fst := []) (caps := []) (ys := [.lst _ _ _, .lst _ _ _, .int _ _]) rfl rfl (spec_finish v22 v23 k s469 s470 s471) zk (cL rfl (zZp (v := .tup _) rfl ?_)))
 iterate 2 refine cL rfl (o_ext (v := .int _ _) rfl rfl ?_)
 iterate 2 refine aI rfl rfl ?_
 refine eL (W.ty [(3, .lst _ _ _), (4, .int _ _), (5, .int _ _), (6, .int _ _), (7, .lst _ _ _), (8, .lst _ _ _), (9, .int _ _), (21, .bool _), (22, .lst _ _ _), (23, .lst _ _ _), (24, .lst _ _ _), (25, .int _ _), (26, .lst _ _ _), (27, .int _ _), (28, .lst _ _ _), (29, .int _ _), (30, .int _ _), (31, .int _ _)] rfl (W.rL ?_))
 iterate 2 refine mL rfl rfl ?_
 refine mI rfl rfl ?_
 obtain ⟨s472, s473, s474, hv⟩ := hv
 refine cL rfl (zZu (k := 21) (fst := []) (caps := []) (ys := [.lst _ _ _, .lst _ _ _, .int _ _]) rfl rfl (spec_rfin v22 v23 k s472 s473 s474) zk (cL rfl (zZp (v := .tup _) rfl ?_)))
 iterate 2 refine cL rfl (o_ext (v := .int _ _) rfl rfl ?_)
 iterate 2 refine aI rfl rfl ?_
 refine eL (W.ty [(3, .lst _ _ _), (4, .int _ _), (5, .int _ _), (6, .int _ _), (7, .lst _ _ _), (8, .lst _ _ _), (9, .int _ _), (21, .bool _), (22, .lst _ _ _), (23, .lst _ _ _), (24, .lst _ _ _), (25, .int _ _), (26, .lst _ _ _), (27, .int _ _), (28, .lst _ _ _), (29, .int _ _), (30, .int _ _), (31, .int _ _), (32, .int _ _), (33, .int _ _)] rfl (W.rL ?_))
 iterate 2 refine mL rfl rfl ?_
 refine mI rfl rfl ?_
 obtain ⟨s475, s476, hv⟩ := hv
 refine cL rfl (zZu (k := 16) (fst := []) (caps := []) (ys := [.int _ _, .int _ _]) rfl rfl (spec_pick16 k (7 : Int) s475 s476) zk ?_)
 iterate 2 refine mI rfl rfl ?_
 obtain ⟨s477, s478, s479, hv⟩ := hv
 refine cL rfl (zZu (k := 15) (fst := []) (caps := []) (ys := [.lst _ _ _, .lst _ _ _, .int _ _, .int _ _, .int _ _]) rfl rfl (spec_busy v22 v23 (pickM k (7 : Int)) fr to s477 s478 s479) zk (cL rfl (zZp (v := .tup _) rfl ?_)))
 iterate 2 refine cL rfl (o_ext (v := .int _ _) rfl rfl ?_)
 iterate 2 refine aI rfl rfl ?_
 refine eL (W.ty [(3, .lst _ _ _), (4, .int _ _), (5, .int _ _), (6, .int _ _), (7, .lst _ _ _), (8, .lst _ _ _), (9, .int _ _), (21, .bool _), (22, .lst _ _ _), (23, .lst _ _ _), (24, .lst _ _ _), (25, .int _ _), (26, .lst _ _ _), (27, .int _ _), (28, .lst _ _ _), (29, .int _ _), (30, .int _ _), (31, .int _ _), (32, .int _ _), (33, .int _ _), (34, .int _ _), (35, .int _ _)] rfl (W.rL ?_))
 iterate 2 refine mL rfl rfl ?_
 refine mI rfl rfl ?_
 obtain ⟨s480, s481, hv⟩ := hv
 refine cL rfl (zZu (k := 16) (fst := []) (caps := []) (ys := [.int _ _, .int _ _]) rfl rfl (spec_pick16 k (7 : Int) s480 s481) zk ?_)
 iterate 2 refine mI rfl rfl ?_
 obtain ⟨s482, s483, s484, hv⟩ := hv
 refine cL rfl (zZu (k := 22) (fst := []) (caps := []) (ys := [.lst _ _ _, .lst _ _ _, .int _ _, .int _ _, .int _ _]) rfl rfl (spec_rbusy v22 v23 (pickM k (7 : Int)) fr to s482 s483 s484) zk (cL rfl (zZp (v := .tup _) rfl ?_)))
 iterate 2 refine cL rfl (o_ext (v := .int _ _) rfl rfl ?_)
 iterate 2 refine aI rfl rfl ?_
 refine eL (W.ty [(3, .lst _ _ _), (4, .int _ _), (5, .int _ _), (6, .int _ _), (7, .lst _ _ _), (8, .lst _ _ _), (9, .int _ _), (21, .bool _), (22, .lst _ _ _), (23, .lst _ _ _), (24, .lst _ _ _), (25, .int _ _), (26, .lst _ _ _), (27, .int _ _), (28, .lst _ _ _), (29, .int _ _), (30, .int _ _), (31, .int _ _), (32, .int _ _), (33, .int _ _), (34, .int _ _), (35, .int _ _), (36, .int _ _), (37, .int _ _)] rfl (W.seq' ?_))
 obtain ⟨sd, hv⟩ := hv
 refine W.rLm ⟨236, look [(3, .lst true xa.length (zYy eV4 xa)), (4, .int .i64 k), (5, .int .i64 fr), (6, .int .i64 to), (7, .lst true xb.length (zYy eV4 xb)), (8, .lst true raw.length (zYy e72 raw)), (9, .int .i64 t), (21, .bool true), (24, .lst false (serversM n).length (zYy zYx (serversM n))), (25, .int .i64 v25), (146, .bool (decide ((¬ (validJ v22 v23) = (validJ v22 v23)) \/ ((¬ (runR v22 v23).2 = (runR v22 v23).2) \/ ((¬ (((runR v22 v23).1) = ((runR v22 v23).1))) \/ ((¬ (finishM v22 v23 k).1 = (finishM v22 v23 k).1) \/ ((¬ (finishM v22 v23 k).2 = (finishM v22 v23 k).2) \/ ((¬ (busyM v22 v23 (pickM k (7 : Int)) fr to).1 = (busyM v22 v23 (pickM k (7 : Int)) fr to).1) \/ (¬ (busyM v22 v23 (pickM k (7 : Int)) fr to).2 = (busyM v22 v23 (pickM k (7 : Int)) fr to).2)))))))))], [], 0⟩ ?_ ?_
 iterate 2 refine mL rfl rfl ?_
 obtain ⟨s515, s516, s517, sd⟩ := sd
 refine cL rfl (zZu (k := 23) (fst := []) (caps := []) (ys := [.lst _ _ _, .lst _ _ _]) rfl rfl (spec_mvalid v22 v23 s515 s516 s517) zk ?_)
 iterate 2 refine mL rfl rfl ?_
 obtain ⟨s518, s519, s520, sd⟩ := sd
 refine cL rfl (zZu (k := 24) (fst := []) (caps := []) (ys := [.lst _ _ _, .lst _ _ _]) rfl rfl (spec_rmvalid v22 v23 s518 s519 s520) zk (cL rfl (o_neB rfl tt4 rfl rfl (mB rfl rfl ?_))))
 by_cases c1 : ¬ (validJ v22 v23) = (validJ v22 v23)
 iterate 3 refine cLs rfl rfl rfl (dT c1) ?_
 refine cL rfl (zZv (v := .bool _) rfl (dT c1) rfl (mB rfl rfl ?_))
 iterate 4 refine cLs rfl rfl rfl (rfl) ?_
 refine cL rfl (zZv (v := .bool _) rfl rfl rfl (mB rfl rfl ?_))
 iterate 3 refine cLs rfl rfl rfl (rfl) ?_
 refine cL rfl (zZv (v := .bool _) rfl rfl rfl (mB rfl rfl ?_))
 iterate 3 refine cLs rfl rfl rfl (rfl) ?_
 refine cL rfl (zZv (v := .bool _) rfl rfl rfl (mB rfl rfl ?_))
 iterate 3 refine cLs rfl rfl rfl (rfl) ?_
 refine cL rfl (zZv (v := .bool _) rfl rfl rfl (mB rfl rfl ?_))
 iterate 3 refine cLs rfl rfl rfl (rfl) ?_
 refine cL rfl (zZv (v := .bool _) rfl rfl rfl (eL (zYz ⟨rfl, rfl, rfl, rfl, rfl, rfl, rfl, rfl, rfl, rfl, (congrArg AV.bool (dOrT c1)).symm, trivial⟩ rfl)))
 have sd := sd.2 c1
 refine cLg rfl rfl (dF c1) (mI rfl rfl (cLg rfl rfl (dF c1) (mI rfl rfl (cLg rfl rfl (dF c1) (cL rfl (o_neI rfl rfl rfl (cL rfl (zZy (v := .bool _) rfl (dF c1) rfl (mB rfl rfl ?_)))))))))
 by_cases c2 : ¬ (runR v22 v23).2 = (runR v22 v23).2
 iterate 4 refine cLs rfl rfl rfl (dT c2) ?_
 refine cL rfl (zZv (v := .bool _) rfl (dT c2) rfl (mB rfl rfl ?_))
 iterate 3 refine cLs rfl rfl rfl (rfl) ?_
 refine cL rfl (zZv (v := .bool _) rfl rfl rfl (mB rfl rfl ?_))
 iterate 3 refine cLs rfl rfl rfl (rfl) ?_
 refine cL rfl (zZv (v := .bool _) rfl rfl rfl (mB rfl rfl ?_))
 iterate 3 refine cLs rfl rfl rfl (rfl) ?_
 refine cL rfl (zZv (v := .bool _) rfl rfl rfl (mB rfl rfl ?_))
 iterate 3 refine cLs rfl rfl rfl (rfl) ?_
 refine cL rfl (zZv (v := .bool _) rfl rfl rfl (eL (zYz ⟨rfl, rfl, rfl, rfl, rfl, rfl, rfl, rfl, rfl, rfl, (congrArg AV.bool (dOrF c1 (dOrT c2))).symm, trivial⟩ rfl)))
 have sd := sd.2 c2
 refine cLg rfl rfl (dF c2) (mL rfl rfl (cLg rfl rfl (dF c2) (mL rfl rfl (cLg rfl rfl (dF c2) ?_))))
 obtain ⟨s521, s522, s523, s524, sd⟩ := sd
 refine cL rfl (zZu (k := 18) (fst := []) (caps := []) (ys := [.lst _ _ _, .lst _ _ _]) rfl rfl (spec_sameV ((runR v22 v23).1) ((runR v22 v23).1) s521 s522 s523 s524) zk (cLg rfl rfl (dF c2) (cL rfl (o_not rfl (cL rfl (zZy (v := .bool _) rfl (dF c2) rfl (mB rfl rfl ?_)))))))
 by_cases c3 : ¬ (((runR v22 v23).1) = ((runR v22 v23).1))
 iterate 3 refine cLs rfl rfl rfl (dT c3) ?_
 refine cL rfl (zZv (v := .bool _) rfl (dT c3) rfl (mB rfl rfl ?_))
 iterate 3 refine cLs rfl rfl rfl (rfl) ?_
 refine cL rfl (zZv (v := .bool _) rfl rfl rfl (mB rfl rfl ?_))
 iterate 3 refine cLs rfl rfl rfl (rfl) ?_
 refine cL rfl (zZv (v := .bool _) rfl rfl rfl (mB rfl rfl ?_))
 iterate 3 refine cLs rfl rfl rfl (rfl) ?_
 refine cL rfl (zZv (v := .bool _) rfl rfl rfl (eL (zYz ⟨rfl, rfl, rfl, rfl, rfl, rfl, rfl, rfl, rfl, rfl, (congrArg AV.bool (dOrF c1 (dOrF c2 (dOrT c3)))).symm, trivial⟩ rfl)))
 refine cLg rfl rfl (dF c3) (mI rfl rfl (cLg rfl rfl (dF c3) (mI rfl rfl (cLg rfl rfl (dF c3) (cL rfl (o_neI rfl rfl rfl (cL rfl (zZy (v := .bool _) rfl (dF c3) rfl (mB rfl rfl ?_)))))))))
 by_cases c4 : ¬ (finishM v22 v23 k).1 = (finishM v22 v23 k).1
 iterate 3 refine cLs rfl rfl rfl (dT c4) ?_
 refine cL rfl (zZv (v := .bool _) rfl (dT c4) rfl (mB rfl rfl ?_))
 iterate 3 refine cLs rfl rfl rfl (rfl) ?_
 refine cL rfl (zZv (v := .bool _) rfl rfl rfl (mB rfl rfl ?_))
 iterate 3 refine cLs rfl rfl rfl (rfl) ?_
 refine cL rfl (zZv (v := .bool _) rfl rfl rfl (eL (zYz ⟨rfl, rfl, rfl, rfl, rfl, rfl, rfl, rfl, rfl, rfl, (congrArg AV.bool (dOrF c1 (dOrF c2 (dOrF c3 (dOrT c4))))).symm, trivial⟩ rfl)))
 refine cLg rfl rfl (dF c4) (mI rfl rfl (cLg rfl rfl (dF c4) (mI rfl rfl (cLg rfl rfl (dF c4) (cL rfl (o_neI rfl rfl rfl (cL rfl (zZy (v := .bool _) rfl (dF c4) rfl (mB rfl rfl ?_)))))))))
 by_cases c5 : ¬ (finishM v22 v23 k).2 = (finishM v22 v23 k).2
 iterate 3 refine cLs rfl rfl rfl (dT c5) ?_
 refine cL rfl (zZv (v := .bool _) rfl (dT c5) rfl (mB rfl rfl ?_))
 iterate 3 refine cLs rfl rfl rfl (rfl) ?_
 refine cL rfl (zZv (v := .bool _) rfl rfl rfl (eL (zYz ⟨rfl, rfl, rfl, rfl, rfl, rfl, rfl, rfl, rfl, rfl, (congrArg AV.bool (dOrF c1 (dOrF c2 (dOrF c3 (dOrF c4 (dOrT c5)))))).symm, trivial⟩ rfl)))
 refine cLg rfl rfl (dF c5) (mI rfl rfl (cLg rfl rfl (dF c5) (mI rfl rfl (cLg rfl rfl (dF c5) (cL rfl (o_neI rfl rfl rfl (cL rfl (zZy (v := .bool _) rfl (dF c5) rfl (mB rfl rfl ?_)))))))))
 by_cases c6 : ¬ (busyM v22 v23 (pickM k (7 : Int)) fr to).1 = (busyM v22 v23 (pickM k (7 : Int)) fr to).1
 iterate 3 refine cLs rfl rfl rfl (dT c6) ?_
 refine cL rfl (zZv (v := .bool _) rfl (dT c6) rfl (eL (zYz ⟨rfl, rfl, rfl, rfl, rfl, rfl, rfl, rfl, rfl, rfl, (congrArg AV.bool (dOrF c1 (dOrF c2 (dOrF c3 (dOrF c4 (dOrF c5 (dOrT c6))))))).symm, trivial⟩ rfl)))
 refine cLg rfl rfl (dF c6) (mI rfl rfl (cLg rfl rfl (dF c6) (mI rfl rfl (cLg rfl rfl (dF c6) (cL rfl (o_neI rfl rfl rfl (cL rfl (zZy (v := .bool _) rfl (dF c6) rfl (eL (zYz ⟨rfl, rfl, rfl, rfl, rfl, rfl, rfl, rfl, rfl, rfl, (congrArg AV.bool (dOrF c1 (dOrF c2 (dOrF c3 (dOrF c4 (dOrF c5 (dOrF c6 (rfl)))))))).symm, trivial⟩ rfl))))))))))
 refine W.cn rfl (fun hc => ?_) (fun hc => ?_)
 have hv := hv.1 hc
 refine W.rL (aB rfl rfl (eL (W.ty [(20, .bool _)] rfl (W.ret (zZr (zYt (zZr (zZr (zYt (zZr (rt (rt_t (v := .bool _) rfl (rt_n (⟨_, zYr _ _ _, false, rfl, hv⟩))))))))))))))
 have hv := hv.2 hc
 refine W.skip (zZ (W.ty [(3, .lst _ _ _), (4, .int _ _), (5, .int _ _), (6, .int _ _), (7, .lst _ _ _), (8, .lst _ _ _), (9, .int _ _), (21, .bool _), (24, .lst _ _ _), (25, .int _ _)] rfl (W.rL (mL rfl rfl (aL rfl rfl (eL (W.ty [(3, .lst _ _ _), (4, .int _ _), (5, .int _ _), (6, .int _ _), (7, .lst _ _ _), (8, .lst _ _ _), (9, .int _ _), (21, .bool _), (22, .lst _ _ _), (24, .lst _ _ _), (25, .int _ _)] rfl (W.rL1 (mL rfl rfl (cL rfl (zXw (v := .lst _ _ _) tt24 rfl rfl (mL rfl rfl ?_))))))))))))
 obtain ⟨s525, s526, s527, hv⟩ := hv
 refine cL rfl (zZu (k := 11) (fst := []) (caps := []) (ys := [.int _ _, .lst _ _ _]) rfl rfl (spec_jobs ((serversM n).length : Int) xa s525 s526 s527) zk (aL rfl rfl (eL (zYv (zZ (W.ty [(3, .lst _ _ _), (4, .int _ _), (5, .int _ _), (6, .int _ _), (7, .lst _ _ _), (8, .lst _ _ _), (9, .int _ _), (21, .bool _), (22, .lst _ _ _), (23, .lst _ _ _), (24, .lst _ _ _), (25, .int _ _)] rfl (W.rL1 (mI rfl rfl ?_))))))))
 obtain ⟨s528, hv⟩ := hv
 refine cL rfl (o_add rfl rfl s528 (aI rfl rfl (eL (zZ (⟨(), (serversM n), (jobsM23 ((serversM n).length : Int) xa), (v25 + (1 : Int)), hv, St.to_mk (φ := []) rfl (rfl) ⟨Ren.lst _ _ _, Ren.int _ _, Ren.int _ _, Ren.int _ _, Ren.lst _ _ _, Ren.lst _ _ _, Ren.int _ _, Ren.bool _, Ren.lstT _ _ _, Ren.lstT _ _ _, Ren.lst _ _ _, Ren.int _ _, trivial⟩ trivial⟩)))))
 have hv := hv.2 hc
 refine W.exit (zZt (zZt (zYs (zZ (W.ty [(4, .int _ _), (7, .lst _ _ _), (8, .lst _ _ _), (9, .int _ _), (21, .bool _)] rfl (W.rL (mL rfl rfl ?_)))))))
 obtain ⟨s529, s530, hv⟩ := hv
 refine cL rfl (zZu (k := 25) (fst := []) (caps := []) (ys := [.lst _ _ _]) rfl rfl (spec_MadeFacts xb s529 s530) zk (aL rfl rfl (eL (W.ty [(4, .int _ _), (8, .lst _ _ _), (9, .int _ _), (21, .bool _), (38, .lst _ _ _)] rfl (W.rL (mL rfl rfl ?_))))))
 obtain ⟨s531, hv⟩ := hv
 refine cL rfl (zZu (k := 26) (fst := []) (caps := []) (ys := [.lst _ _ _]) rfl rfl (spec_fit (factsM xb) s531) zk (cL rfl (zZp (v := .tup _) rfl (cL rfl (o_ext (v := .lst _ _ _) rfl rfl (cL rfl (o_ext (v := .int _ _) rfl rfl (aL rfl rfl (aI rfl rfl (eL (W.ty [(4, .int _ _), (8, .lst _ _ _), (9, .int _ _), (21, .bool _), (38, .lst _ _ _), (39, .lst _ _ _), (40, .int _ _)] rfl (W.rL (mL rfl rfl ?_)))))))))))))
 obtain ⟨s532, hv⟩ := hv
 refine cL rfl (zZu (k := 27) (fst := []) (caps := []) (ys := [.lst _ _ _]) rfl rfl (spec_rfit (factsM xb) s532) zk (cL rfl (zZp (v := .tup _) rfl (cL rfl (o_ext (v := .lst _ _ _) rfl rfl (cL rfl (o_ext (v := .int _ _) rfl rfl (aL rfl rfl (aI rfl rfl (eL (W.ty [(4, .int _ _), (8, .lst _ _ _), (9, .int _ _), (21, .bool _), (39, .lst _ _ _), (40, .int _ _), (41, .lst _ _ _), (42, .int _ _)] rfl (W.rL ?_))))))))))))
 iterate 2 refine mL rfl rfl ?_
 refine cL rfl (zXw (v := .lst _ _ _) tt54 rfl rfl (cL rfl (o_min rfl rfl ?_)))
 obtain ⟨s533, hv⟩ := hv
 refine cL rfl (o_slL tt54 tt72 rfl (enc72.wd true) rfl rfl rfl s533 (ys := raw.take (min (raw.length : Int) (10 : Int)).toNat) (by simp) (aL rfl rfl (eL (W.ty [(4, .int _ _), (8, .lst _ _ _), (9, .int _ _), (21, .bool _), (39, .lst _ _ _), (40, .int _ _), (41, .lst _ _ _), (42, .int _ _)] rfl (W.rL ?_)))))
 iterate 2 refine mL rfl rfl ?_
 obtain ⟨s534, hv⟩ := hv
 refine cL rfl (zZu (k := 28) (fst := []) (caps := []) (ys := [.lst _ _ _, .lst _ _ _]) rfl rfl (spec_mjoin ((fitM (factsM xb)).1) (raw.take (min (raw.length : Int) (10 : Int)).toNat) s534) zk (cL rfl (zZp (v := .tup _) rfl (cL rfl (o_ext (v := .lst _ _ _) rfl rfl (cL rfl (o_ext (v := .int _ _) rfl rfl (aL rfl rfl (aI rfl rfl (eL (W.ty [(4, .int _ _), (8, .lst _ _ _), (9, .int _ _), (21, .bool _), (39, .lst _ _ _), (40, .int _ _), (41, .lst _ _ _), (42, .int _ _), (43, .lst _ _ _), (44, .int _ _)] rfl (W.rL ?_))))))))))))
 iterate 2 refine mL rfl rfl ?_
 obtain ⟨s535, hv⟩ := hv
 refine cL rfl (o_callS1 (k := 29) (fst := []) (caps := []) (ys := [.lst _ _ _, .lst _ _ _]) rfl rfl (spec_rjoin ((fitM (factsM xb)).1) (raw.take (min (raw.length : Int) (10 : Int)).toNat) s535) zk (cL rfl (zZp (v := .tup _) rfl (cL rfl (o_ext (v := .lst _ _ _) rfl rfl (cL rfl (o_ext (v := .int _ _) rfl rfl (aL rfl rfl (aI rfl rfl (eL (W.ty [(4, .int _ _), (8, .lst _ _ _), (9, .int _ _), (21, .bool _), (39, .lst _ _ _), (40, .int _ _), (41, .lst _ _ _), (42, .int _ _), (43, .lst _ _ _), (44, .int _ _), (45, .lst _ _ _), (46, .int _ _)] rfl (W.seq' ?_))))))))))))
 obtain ⟨sd, hv⟩ := hv
 refine W.rLm ⟨236, look [(4, .int .i64 k), (8, .lst true (raw.take (min (raw.length : Int) (10 : Int)).toNat).length (zYy e72 (raw.take (min (raw.length : Int) (10 : Int)).toNat))), (9, .int .i64 t), (21, .bool true), (39, .lst false ((fitM (factsM xb)).1).length (zYy e72 ((fitM (factsM xb)).1))), (43, .lst false ((joinE ((fitM (factsM xb)).1) (raw.take (min (raw.length : Int) (10 : Int)).toNat)).1).length (zYy e72 ((joinE ((fitM (factsM xb)).1) (raw.take (min (raw.length : Int) (10 : Int)).toNat)).1))), (207, .bool (decide ((¬ (fitM (factsM xb)).2 = (fitM (factsM xb)).2) \/ ((¬ (joinE ((fitM (factsM xb)).1) (raw.take (min (raw.length : Int) (10 : Int)).toNat)).2 = (joinE ((fitM (factsM xb)).1) (raw.take (min (raw.length : Int) (10 : Int)).toNat)).2) \/ ((¬ (((fitM (factsM xb)).1) = ((fitM (factsM xb)).1))) \/ ((¬ (((joinE ((fitM (factsM xb)).1) (raw.take (min (raw.length : Int) (10 : Int)).toNat)).1) = ((joinE ((fitM (factsM xb)).1) (raw.take (min (raw.length : Int) (10 : Int)).toNat)).1))) \/ (¬ (validRgs (raw.take (min (raw.length : Int) (10 : Int)).toNat)) = (validRgs (raw.take (min (raw.length : Int) (10 : Int)).toNat)))))))))], [], 0⟩ ?_ ?_
 iterate 2 refine mI rfl rfl ?_
 refine cL rfl (o_neI rfl rfl rfl (mB rfl rfl ?_))
 by_cases c1 : ¬ (fitM (factsM xb)).2 = (fitM (factsM xb)).2
 iterate 3 refine cLs rfl rfl rfl (dT c1) ?_
 refine cL rfl (zZv (v := .bool _) rfl (dT c1) rfl (mB rfl rfl ?_))
 iterate 4 refine cLs rfl rfl rfl (rfl) ?_
 refine cL rfl (zZv (v := .bool _) rfl rfl rfl (mB rfl rfl ?_))
 iterate 4 refine cLs rfl rfl rfl (rfl) ?_
 refine cL rfl (zZv (v := .bool _) rfl rfl rfl (mB rfl rfl ?_))
 iterate 5 refine cLs rfl rfl rfl (rfl) ?_
 refine cL rfl (zZv (v := .bool _) rfl rfl rfl (eL (zYz ⟨rfl, rfl, rfl, rfl, rfl, rfl, (congrArg AV.bool (dOrT c1)).symm, trivial⟩ rfl)))
 have sd := sd.2 c1
 refine cLg rfl rfl (dF c1) (mI rfl rfl (cLg rfl rfl (dF c1) (mI rfl rfl (cLg rfl rfl (dF c1) (cL rfl (o_neI rfl rfl rfl (cL rfl (zZy (v := .bool _) rfl (dF c1) rfl (mB rfl rfl ?_)))))))))
 by_cases c2 : ¬ (joinE ((fitM (factsM xb)).1) (raw.take (min (raw.length : Int) (10 : Int)).toNat)).2 = (joinE ((fitM (factsM xb)).1) (raw.take (min (raw.length : Int) (10 : Int)).toNat)).2
 iterate 4 refine cLs rfl rfl rfl (dT c2) ?_
 refine cL rfl (zZv (v := .bool _) rfl (dT c2) rfl (mB rfl rfl ?_))
 iterate 4 refine cLs rfl rfl rfl (rfl) ?_
 refine cL rfl (zZv (v := .bool _) rfl rfl rfl (mB rfl rfl ?_))
 iterate 5 refine cLs rfl rfl rfl (rfl) ?_
 refine cL rfl (zZv (v := .bool _) rfl rfl rfl (eL (zYz ⟨rfl, rfl, rfl, rfl, rfl, rfl, (congrArg AV.bool (dOrF c1 (dOrT c2))).symm, trivial⟩ rfl)))
 have sd := sd.2 c2
 refine cLg rfl rfl (dF c2) (mL rfl rfl (cLg rfl rfl (dF c2) (mL rfl rfl (cLg rfl rfl (dF c2) ?_))))
 obtain ⟨s554, s555, sd⟩ := sd
 refine cL rfl (zZu (k := 30) (fst := []) (caps := []) (ys := [.lst _ _ _, .lst _ _ _]) rfl rfl (spec_sameR ((fitM (factsM xb)).1) ((fitM (factsM xb)).1) s554 s555) zk (cLg rfl rfl (dF c2) (cL rfl (o_not rfl (cL rfl (zZy (v := .bool _) rfl (dF c2) rfl (mB rfl rfl ?_)))))))
 by_cases c3 : ¬ (((fitM (factsM xb)).1) = ((fitM (factsM xb)).1))
 iterate 4 refine cLs rfl rfl rfl (dT c3) ?_
 refine cL rfl (zZv (v := .bool _) rfl (dT c3) rfl (mB rfl rfl ?_))
 iterate 5 refine cLs rfl rfl rfl (rfl) ?_
 refine cL rfl (zZv (v := .bool _) rfl rfl rfl (eL (zYz ⟨rfl, rfl, rfl, rfl, rfl, rfl, (congrArg AV.bool (dOrF c1 (dOrF c2 (dOrT c3)))).symm, trivial⟩ rfl)))
 have sd := sd.2 c3
 refine cLg rfl rfl (dF c3) (mL rfl rfl (cLg rfl rfl (dF c3) (mL rfl rfl (cLg rfl rfl (dF c3) ?_))))
 obtain ⟨s556, s557, sd⟩ := sd
 refine cL rfl (zZu (k := 30) (fst := []) (caps := []) (ys := [.lst _ _ _, .lst _ _ _]) rfl rfl (spec_sameR ((joinE ((fitM (factsM xb)).1) (raw.take (min (raw.length : Int) (10 : Int)).toNat)).1) ((joinE ((fitM (factsM xb)).1) (raw.take (min (raw.length : Int) (10 : Int)).toNat)).1) s556 s557) zk (cLg rfl rfl (dF c3) (cL rfl (o_not rfl (cL rfl (zZy (v := .bool _) rfl (dF c3) rfl (mB rfl rfl ?_)))))))
 by_cases c4 : ¬ (((joinE ((fitM (factsM xb)).1) (raw.take (min (raw.length : Int) (10 : Int)).toNat)).1) = ((joinE ((fitM (factsM xb)).1) (raw.take (min (raw.length : Int) (10 : Int)).toNat)).1))
 iterate 5 refine cLs rfl rfl rfl (dT c4) ?_
 refine cL rfl (zZv (v := .bool _) rfl (dT c4) rfl (eL (zYz ⟨rfl, rfl, rfl, rfl, rfl, rfl, (congrArg AV.bool (dOrF c1 (dOrF c2 (dOrF c3 (dOrT c4))))).symm, trivial⟩ rfl)))
 have sd := sd.2 c4
 refine cLg rfl rfl (dF c4) (mL rfl rfl (cLg rfl rfl (dF c4) ?_))
 obtain ⟨s558, sd⟩ := sd
 refine cL rfl (zZu (k := 31) (fst := []) (caps := []) (ys := [.lst _ _ _]) rfl rfl (spec_vranges (raw.take (min (raw.length : Int) (10 : Int)).toNat) s558) zk (cLg rfl rfl (dF c4) (mL rfl rfl (cLg rfl rfl (dF c4) ?_))))
 obtain ⟨s559, sd⟩ := sd
 refine cL rfl (zZu (k := 32) (fst := []) (caps := []) (ys := [.lst _ _ _]) rfl rfl (spec_rvranges (raw.take (min (raw.length : Int) (10 : Int)).toNat) s559) zk (cLg rfl rfl (dF c4) (cL rfl (o_neB rfl tt4 rfl rfl (cL rfl (zZy (v := .bool _) rfl (dF c4) rfl (eL (zYz ⟨rfl, rfl, rfl, rfl, rfl, rfl, (congrArg AV.bool (dOrF c1 (dOrF c2 (dOrF c3 (dOrF c4 (rfl)))))).symm, trivial⟩ rfl))))))))
 refine W.cn rfl (fun hc => ?_) (fun hc => ?_)
 have hv := hv.1 hc
 refine W.rL (aB rfl rfl (eL (W.ty [(20, .bool _)] rfl (W.ret (zZr (rt (rt_t (v := .bool _) rfl (rt_n (⟨_, zYr _ _ _, false, rfl, hv⟩)))))))))
 have hv := hv.2 hc
 refine W.skip (zZ (W.ty [(4, .int _ _), (8, .lst _ _ _), (9, .int _ _), (21, .bool _), (39, .lst _ _ _), (43, .lst _ _ _)] rfl (W.seq' (W.rL (aI rfl rfl (eL (W.ty [(4, .int _ _), (8, .lst _ _ _), (9, .int _ _), (21, .bool _), (39, .lst _ _ _), (43, .lst _ _ _), (47, .int _ _)] rfl (W.block ?_))))))))
 obtain ⟨I2, μ2, hp, hv⟩ := hv
 refine W.loop1 (fun v47 => ⟨236, look [(4, .int .i64 k), (8, .lst true (raw.take (min (raw.length : Int) (10 : Int)).toNat).length (zYy e72 (raw.take (min (raw.length : Int) (10 : Int)).toNat))), (9, .int .i64 t), (21, .bool true), (39, .lst false ((fitM (factsM xb)).1).length (zYy e72 ((fitM (factsM xb)).1))), (43, .lst false ((joinE ((fitM (factsM xb)).1) (raw.take (min (raw.length : Int) (10 : Int)).toNat)).1).length (zYy e72 ((joinE ((fitM (factsM xb)).1) (raw.take (min (raw.length : Int) (10 : Int)).toNat)).1))), (47, .int .i64 v47)], [], 0⟩) I2 μ2 (0 : Int) (St.to_mk (φ := []) rfl (rfl) (zT rfl rfl) trivial) hp ?_
 clear hp
 intro v47 hI
 replace hv := hv v47 hI
 clear hI
 refine W.seq' (W.rL (mI rfl rfl (cL rfl (zYq rfl rfl (eL (W.ty [(4, .int _ _), (8, .lst _ _ _), (9, .int _ _), (21, .bool _), (39, .lst _ _ _), (43, .lst _ _ _), (47, .int _ _), (209, .bool _)] rfl (W.cn rfl (fun hc => ?_) (fun hc => ?_))))))))
 have hv := hv.1 hc
 refine W.skip (zZ (W.ty [(4, .int _ _), (8, .lst _ _ _), (9, .int _ _), (21, .bool _), (39, .lst _ _ _), (43, .lst _ _ _), (47, .int _ _)] rfl (W.seq' (W.block (W.rL ?_)))))
 iterate 3 refine mL rfl rfl ?_
 refine cL rfl (o_buildS (q := 0) (qs := [(0, .lst _ _ _), (1, .lst _ _ _), (2, .lst _ _ _)]) (cs := [.lst _ _ _, .lst _ _ _, .lst _ _ _]) tt65 tt54 rfl rfl rfl rfl (cL rfl (zXw (v := .ref _ _ _) tt65 rfl rfl (mI rfl rfl (eL (W.ty [(4, .int _ _), (8, .lst _ _ _), (9, .int _ _), (21, .bool _), (39, .lst _ _ _), (43, .lst _ _ _), (47, .int _ _), (215, .ref _ _ _), (216, .int _ _), (217, .int _ _)] rfl (W.to (st' := ⟨236, look [(4, .int .i64 k), (8, .lst true (raw.take (min (raw.length : Int) (10 : Int)).toNat).length (zYy e72 (raw.take (min (raw.length : Int) (10 : Int)).toNat))), (9, .int .i64 t), (21, .bool true), (39, .lst false ((fitM (factsM xb)).1).length (zYy e72 ((fitM (factsM xb)).1))), (43, .lst false ((joinE ((fitM (factsM xb)).1) (raw.take (min (raw.length : Int) (10 : Int)).toNat)).1).length (zYy e72 ((joinE ((fitM (factsM xb)).1) (raw.take (min (raw.length : Int) (10 : Int)).toNat)).1))), (47, .int .i64 v47), (215, .ref false 0 3), (216, .int .i64 ((3 : Nat) : Int)), (217, .int .i64 (0 : Int))], [.row 54 1 (zYy (eSl e72 true) [(fitM (factsM xb)).1, raw.take (min (raw.length : Int) (10 : Int)).toNat, (joinE ((fitM (factsM xb)).1) (raw.take (min (raw.length : Int) (10 : Int)).toNat)).1])], 0⟩) (St.to_mk (φ := [some 0]) rfl (rfl) ⟨Ren.int _ _, Ren.lst _ _ _, Ren.int _ _, Ren.bool _, Ren.lst _ _ _, Ren.lst _ _ _, Ren.int _ _, Ren.ref rfl id, Ren.int _ _, Ren.int _ _, trivial⟩ ⟨.inr ⟨_, rfl, rfl, rfl, rfl, Rens.cons (Ren.lstT _ _ _) (Rens.cons (Ren.lstT _ _ _) (Rens.cons (Ren.lstT _ _ _) (Rens.nil)))⟩, trivial⟩) ?_)))))))
 refine W.block ?_
 obtain ⟨I3, μ3, hp, hv⟩ := hv
 refine W.loop1 (fun v217 => ⟨236, look [(4, .int .i64 k), (8, .lst true (raw.take (min (raw.length : Int) (10 : Int)).toNat).length (zYy e72 (raw.take (min (raw.length : Int) (10 : Int)).toNat))), (9, .int .i64 t), (21, .bool true), (39, .lst false ((fitM (factsM xb)).1).length (zYy e72 ((fitM (factsM xb)).1))), (43, .lst false ((joinE ((fitM (factsM xb)).1) (raw.take (min (raw.length : Int) (10 : Int)).toNat)).1).length (zYy e72 ((joinE ((fitM (factsM xb)).1) (raw.take (min (raw.length : Int) (10 : Int)).toNat)).1))), (47, .int .i64 v47), (215, .ref false 0 ([(fitM (factsM xb)).1, raw.take (min (raw.length : Int) (10 : Int)).toNat, (joinE ((fitM (factsM xb)).1) (raw.take (min (raw.length : Int) (10 : Int)).toNat)).1].length)), (216, .int .i64 ((3 : Nat) : Int)), (217, .int .i64 v217)], [.row 54 1 (zYy (eSl e72 true) [(fitM (factsM xb)).1, raw.take (min (raw.length : Int) (10 : Int)).toNat, (joinE ((fitM (factsM xb)).1) (raw.take (min (raw.length : Int) (10 : Int)).toNat)).1])], 0⟩) I3 μ3 (0 : Int) (St.to_mk (φ := [some 0]) rfl (rfl) ⟨Ren.int _ _, Ren.lst _ _ _, Ren.int _ _, Ren.bool _, Ren.lst _ _ _, Ren.lst _ _ _, Ren.int _ _, Ren.ref rfl id, Ren.int _ _, Ren.int _ _, trivial⟩ ⟨.inr ⟨_, rfl, rfl, rfl, rfl, Rens.enc (encSl e72) true [(fitM (factsM xb)).1, raw.take (min (raw.length : Int) (10 : Int)).toNat, (joinE ((fitM (factsM xb)).1) (raw.take (min (raw.length : Int) (10 : Int)).toNat)).1]⟩, trivial⟩) hp ?_
 clear hp
 intro v217 hI
 replace hv := hv v217 hI
 clear hI
 refine W.rL (cL rfl (zYq rfl rfl (eL (W.ty [(4, .int _ _), (8, .lst _ _ _), (9, .int _ _), (21, .bool _), (39, .lst _ _ _), (43, .lst _ _ _), (47, .int _ _), (215, .ref _ _ _), (216, .int _ _), (217, .int _ _), (218, .bool _)] rfl (W.seq' (W.cn rfl (fun hc => ?_) (fun hc => ?_)))))))
 have hv := hv.1 hc
 refine W.skip (zZ (W.ty [(4, .int _ _), (8, .lst _ _ _), (9, .int _ _), (21, .bool _), (39, .lst _ _ _), (43, .lst _ _ _), (47, .int _ _), (215, .ref _ _ _), (216, .int _ _), (217, .int _ _)] rfl (W.seq' (W.block (W.rL ?_)))))
 obtain ⟨s795, hv⟩ := hv
 refine cL rfl (o_iaR tt65 tt54 rfl rfl s795 (cL rfl (zZx (v := .lst _ _ _) tt54 rfl rfl (cell_of (ca_row (xs := [(fitM (factsM xb)).1, raw.take (min (raw.length : Int) (10 : Int)).toNat, (joinE ((fitM (factsM xb)).1) (raw.take (min (raw.length : Int) (10 : Int)).toNat)).1]) rfl ((encSl e72).wd true) s795) rfl) (aL rfl rfl (eL (W.ty [(4, .int _ _), (8, .lst _ _ _), (9, .int _ _), (21, .bool _), (39, .lst _ _ _), (43, .lst _ _ _), (47, .int _ _), (49, .lst _ _ _), (215, .ref _ _ _), (216, .int _ _), (217, .int _ _)] rfl (W.rL (mL rfl rfl ?_))))))))
 iterate 2 refine mI rfl rfl ?_
 obtain ⟨s796, s797, hv⟩ := hv
 refine cL rfl (zZu (k := 16) (fst := []) (caps := []) (ys := [.int _ _, .int _ _]) rfl rfl (spec_pick16 k (4 : Int) s796 s797) zk (mI rfl rfl ?_))
 obtain ⟨s798, hv⟩ := hv
 refine cL rfl (zZu (k := 33) (fst := []) (caps := []) (ys := [.lst _ _ _, .int _ _, .int _ _, .int _ _]) rfl rfl (spec_allows (lat [(fitM (factsM xb)).1, raw.take (min (raw.length : Int) (10 : Int)).toNat, (joinE ((fitM (factsM xb)).1) (raw.take (min (raw.length : Int) (10 : Int)).toNat)).1] v217) v47 (pickM k (4 : Int)) t s798) zk (mL rfl rfl ?_))
 iterate 2 refine mI rfl rfl ?_
 obtain ⟨s799, s800, hv⟩ := hv
 refine cL rfl (zZu (k := 16) (fst := []) (caps := []) (ys := [.int _ _, .int _ _]) rfl rfl (spec_pick16 k (4 : Int) s799 s800) zk (mI rfl rfl ?_))
 obtain ⟨s801, hv⟩ := hv
 refine cL rfl (zZu (k := 34) (fst := []) (caps := []) (ys := [.lst _ _ _, .int _ _, .int _ _, .int _ _]) rfl rfl (spec_rallows (lat [(fitM (factsM xb)).1, raw.take (min (raw.length : Int) (10 : Int)).toNat, (joinE ((fitM (factsM xb)).1) (raw.take (min (raw.length : Int) (10 : Int)).toNat)).1] v217) v47 (pickM k (4 : Int)) t s801) zk (cL rfl (o_neB rfl tt4 rfl rfl (eL (W.ty [(4, .int _ _), (8, .lst _ _ _), (9, .int _ _), (21, .bool _), (39, .lst _ _ _), (43, .lst _ _ _), (47, .int _ _), (215, .ref _ _ _), (216, .int _ _), (217, .int _ _), (233, .bool _)] rfl (W.cn rfl (fun hc => ?_) (fun hc => ?_)))))))
 have hv := hv.1 hc
 refine W.rL (aB rfl rfl (eL (W.ty [(20, .bool _)] rfl (W.ret (zYt (zZr (zZr (zYt (zYt (zZr (zZr (zYt (zZr (rt (rt_t (v := .bool _) rfl (rt_n (⟨_, zYr _ _ _, false, rfl, hv⟩)))))))))))))))))
 have hv := hv.2 hc
 refine W.skip (zYv (zZ (W.ty [(4, .int _ _), (8, .lst _ _ _), (9, .int _ _), (21, .bool _), (39, .lst _ _ _), (43, .lst _ _ _), (47, .int _ _), (215, .ref _ _ _), (216, .int _ _), (217, .int _ _)] rfl (W.rL1 ?_))))
 obtain ⟨s802, hv⟩ := hv
 refine cL rfl (o_add rfl rfl s802 (mI rfl rfl (eL (zZ (⟨(), (v217 + (1 : Int)), hv, St.to_mk (φ := [some 0]) rfl (rfl) ⟨Ren.int _ _, Ren.lst _ _ _, Ren.int _ _, Ren.bool _, Ren.lst _ _ _, Ren.lst _ _ _, Ren.int _ _, Ren.ref rfl id, Ren.int _ _, Ren.int _ _, trivial⟩ ⟨.inr ⟨_, rfl, rfl, rfl, rfl, Rens.enc (encSl e72) true [(fitM (factsM xb)).1, raw.take (min (raw.length : Int) (10 : Int)).toNat, (joinE ((fitM (factsM xb)).1) (raw.take (min (raw.length : Int) (10 : Int)).toNat)).1]⟩, trivial⟩⟩)))))
 have hv := hv.2 hc
 refine W.exit (zZt (zZt (zYs (zYv (zZ (W.ty [(4, .int _ _), (8, .lst _ _ _), (9, .int _ _), (21, .bool _), (39, .lst _ _ _), (43, .lst _ _ _), (47, .int _ _)] rfl (W.rL1 (mI rfl rfl ?_))))))))
 obtain ⟨s803, hv⟩ := hv
 refine cL rfl (o_add rfl rfl s803 (aI rfl rfl (eL (zZ (⟨(), (v47 + (1 : Int)), hv, St.to_mk (φ := []) rfl (rfl) (zT rfl rfl) trivial⟩)))))
 have hv := hv.2 hc
 refine W.exit (zZt (zZt (zYs (zZ (W.ty [(21, .bool _)] rfl (W.rL (mB rfl rfl (aB rfl rfl (eL (W.ty [(20, .bool _)] rfl (W.ret (rt (rt_t (v := .bool _) rfl (rt_n (⟨_, zYr _ _ _, true, rfl, hv⟩)))))))))))))))
set_option maxHeartbeats 4000000 in
theorem vcp_lawmat (sv : (List Int)) (jb : (List Job)) (n : Int) (xa : (List (Vector Int 4))) (k : Int) (fr : Int) (to : Int) (xb : (List (Vector Int 4))) (raw : (List Rg)) (t : Int) (h0 : sv.length <= 9223372036854775807) (h1 : ∀ j ∈ jb, j.wk.length <= 9223372036854775807) (h2 : jb.length <= 9223372036854775807) (h3 : inI n) (h4 : xa.length <= 9223372036854775807 /\ ∀ z ∈ xa, ∀ k, inI (vat z k)) (h5 : inI k) (h6 : xb.length <= 9223372036854775807 /\ ∀ z ∈ xb, ∀ k, inI (vat z k)) (h7 : raw.length <= 9223372036854775807) : vc_lawmat sv jb n xa k fr to xb raw t (fun q0 => q0 = (true)) := by
  unfold vc_lawmat
  have hs := servers_len n
  have hj := jobs_len ((serversM n).length : Int) xa
  have hF := (facts_ok xb).1
  have hA := fitM_len (factsM xb)
  have hl : (raw.take (min (raw.length : Int) 10).toNat).length <= 10 := by rw [List.length_take]; omega
  have hc : 0 <= ((0 : Nat) : Int) /\ ((0 : Nat) : Int) <= (min (raw.length : Int) 10) /\ (min (raw.length : Int) 10) <= (raw.length : Int) := ⟨by omega, by omega, by omega⟩
  generalize raw.take (min (raw.length : Int) 10).toNat = l at *
  have hJ := joinE_len (fitM (factsM xb)).1 l
  refine ⟨h0, h1, h2, h3, fun a b v => (0 <= v /\ v <= 2) /\ a.length <= 9223372036854775807 /\ (∀ j ∈ b, j.wk.length <= 9223372036854775807) /\ b.length <= 9223372036854775807, fun _ _ v => 2 - v.toNat, ⟨by omega, ?_, ?_, ?_⟩, ?_⟩
  . show (sv.take 7).length <= _
    rw [List.length_take]; omega
  . intro j hj
    obtain ⟨q, _, rfl⟩ := List.mem_map.1 hj
    show (q.wk.take 7).length <= _
    rw [List.length_take]; omega
  . show ((jb.take 26).map _).length <= _
    rw [List.length_map, List.length_take]; omega
  rintro a b v ⟨hv, ha, hb, hbl⟩
  have hR := runR_len a b
  refine ⟨fun k1 => ⟨ha, hb, hbl, ha, hb, hbl, ha, hb, hbl, ha, hb, hbl, by omega, h5, ha, hb, hbl, by omega, h5, ha, hb, hbl, ⟨ha, hb, hbl, ha, hb, hbl, fun _ => trivial, fun _ => ⟨fun _ => trivial, fun _ => ⟨hR.1, hR.1, hR.2, hR.2, trivial⟩⟩⟩, fun k2 => ?_, fun _ => ⟨⟨by omega, by omega⟩, h4.1, h4.2, by unfold inI; omega, ⟨by omega, by omega, fun j hjm => by have := hj.2 j hjm; omega, by omega⟩, by show 2 - (v + 1).toNat < 2 - v.toNat; omega⟩⟩, fun k1 => ⟨h6.1, h6.2, by omega, by omega, hc, by omega, by omega, ⟨fun _ => trivial, fun _ => ⟨fun _ => trivial, fun _ => ⟨by omega, by omega, fun _ => trivial, fun _ => ⟨by omega, by omega, fun _ => trivial, fun _ => ⟨by omega, by omega, trivial⟩⟩⟩⟩⟩, fun k2 => ?_, fun _ => ?_⟩⟩
  . exact (k2.elim (fun a => a rfl) fun k2 => k2.elim (fun a => a rfl) fun k2 => k2.elim (fun a => a rfl) fun k2 => k2.elim (fun a => a rfl) fun k2 => k2.elim (fun a => a rfl) fun k2 => k2.elim (fun a => a rfl) fun a => a rfl).elim
  . exact (k2.elim (fun a => a rfl) fun k2 => k2.elim (fun a => a rfl) fun k2 => k2.elim (fun a => a rfl) fun k2 => k2.elim (fun a => a rfl) fun a => a rfl).elim
  refine ⟨fun v => 0 <= v /\ v <= 5, fun v => 5 - v.toNat, by omega, fun v hv => ⟨fun k2 => ?_, fun _ => rfl⟩⟩
  refine ⟨fun w => 0 <= w /\ w <= 3, fun w => 3 - w.toNat, by omega, fun w hw => ⟨fun k3 => ?_, fun _ => ⟨by unfold inI; omega, ⟨by omega, by omega⟩, by show 5 - (v + 1).toNat < 5 - v.toNat; omega⟩⟩⟩
  have k3' : w < 3 := k3
  have hL : (lat [(fitM (factsM xb)).1, l, (joinE (fitM (factsM xb)).1 l).1] w).length <= 1073741824 := by
    rcases (show w = 0 \/ w = 1 \/ w = 2 by omega) with rfl | rfl | rfl
    . show (fitM (factsM xb)).1.length <= _; omega
    . show l.length <= _; omega
    . show (joinE (fitM (factsM xb)).1 l).1.length <= _; omega
  exact ⟨⟨hw.1, k3⟩, by omega, h5, hL, by omega, h5, hL, fun a => (a rfl).elim, fun _ => ⟨by unfold inI; omega, ⟨by omega, by omega⟩, by show 3 - (w + 1).toNat < 3 - w.toNat; omega⟩⟩
theorem spec_lawmat (sv : (List Int)) (jb : (List Job)) (n : Int) (xa : (List (Vector Int 4))) (k : Int) (fr : Int) (to : Int) (xb : (List (Vector Int 4))) (raw : (List Rg)) (t : Int) (h0 : sv.length <= 9223372036854775807) (h1 : ∀ j ∈ jb, j.wk.length <= 9223372036854775807) (h2 : jb.length <= 9223372036854775807) (h3 : inI n) (h4 : xa.length <= 9223372036854775807 /\ ∀ z ∈ xa, ∀ k, inI (vat z k)) (h5 : inI k) (h6 : xb.length <= 9223372036854775807 /\ ∀ z ∈ xb, ∀ k, inI (vat z k)) (h7 : raw.length <= 9223372036854775807) : FnP Try.prog 7 [.lst true sv.length (zYy zYx sv), .lst true jb.length (zYy (e42 true) jb), .int .i64 n, .lst true xa.length (zYy eV4 xa), .int .i64 k, .int .i64 fr, .int .i64 to, .lst true xb.length (zYy eV4 xb), .lst true raw.length (zYy e72 raw), .int .i64 t] (fun xR => xR = .bool (true)) :=
  (walk_lawmat (vcp_lawmat sv jb n xa k fr to xb raw t h0 h1 h2 h3 h4 h5 h6 h7)).mono (by rintro _ ⟨_, rfl, rfl⟩; rfl)
end Go.Lat
