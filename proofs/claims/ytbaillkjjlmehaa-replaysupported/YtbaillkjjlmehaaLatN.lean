/- The law latecomerlaw24.ReplaySupported returns true for every input, and each argument reads afterwards as it read before. Part 14 of 19. No condition. -/
import Derived.Test.YtbaillkjjlmehaaLatE
import Derived.Test.YtbaillkjjlmehaaLatF
import Derived.Test.YtbaillkjjlmehaaLatD
set_option linter.unusedVariables false
set_option linter.unusedSimpArgs false
set_option linter.unnecessarySimpa false
set_option maxRecDepth 100000
set_option maxHeartbeats 4000000
namespace Go.Lat
open Go.RowKit Go.Proofs
attribute [local irreducible] seqL opC
def vc_within (n : Int) (lo : Int) (hi : Int) (Post : Bool -> Prop) : Prop :=
  Post (decide ((lo <= n) /\ (n <= hi)))
theorem walk_within {n : Int} {lo : Int} {hi : Int} {Post : Bool -> Prop} (hv : vc_within n lo hi Post) : FnP Try.prog 68 [.int .i64 n, .int .i64 lo, .int .i64 hi] (fun x => ∃ q0, x = .bool q0 /\ Post q0) := by
 refine FnP.of_walk (T := tt) (nt := 15) ttOk ttMix ⟨⟨Try.f68, Try.func68, rfl, rfl, rfl, rfl⟩⟩ (by simp) ?_
 unfold vc_within at hv
 change W _ _ _ ⟨15, look [(0, .int .i64 n), (1, .int .i64 lo), (2, .int .i64 hi)], [], 0⟩ _
 refine W.tr [(0, .int _ _), (1, .int _ _), (2, .int _ _)] [] ⟨rfl, rfl, rfl, trivial⟩ rfl (W.rL (aB rfl rfl (eL (W.tr [(0, .int _ _), (1, .int _ _), (2, .int _ _)] [] ⟨rfl, rfl, rfl, trivial⟩ rfl (W.rLm ⟨15, look [(6, .bool (decide ((lo <= n) /\ (n <= hi))))], [], 0⟩ ?_ ?_)))))
 iterate 2 refine mI rfl rfl ?_
 refine cL rfl (o_geq rfl rfl (mB rfl rfl ?_))
 by_cases c1 : lo <= n
 refine cLg rfl rfl (dT c1) (mI rfl rfl (cLg rfl rfl (dT c1) (mI rfl rfl (cLg rfl rfl (dT c1) (cL rfl (o_leq rfl rfl (cL rfl (zZv (v := .bool _) rfl (dT c1) rfl (aB rfl rfl (eL (zYz ⟨(congrArg AV.bool (zXv c1 (rfl))).symm, trivial⟩ rfl)))))))))))
 iterate 3 refine cLs rfl rfl rfl (dF c1) ?_
 refine cL rfl (zZy (v := .bool _) rfl (dF c1) rfl (aB rfl rfl (eL (zYz ⟨(congrArg AV.bool (dAndF c1)).symm, trivial⟩ rfl))))
 refine W.ret (rt (rt_t (v := .bool _) rfl (rt_n (⟨_, zYr _ _ _, (decide ((lo <= n) /\ (n <= hi))), rfl, hv⟩))))
set_option maxHeartbeats 2000000 in
theorem vcp_within (n : Int) (lo : Int) (hi : Int)  : vc_within n lo hi (fun q0 => q0 = (inM n lo hi)) := by
  show decide _ = inM n lo hi
  rfl
theorem spec_within (n : Int) (lo : Int) (hi : Int)  : FnP Try.prog 68 [.int .i64 n, .int .i64 lo, .int .i64 hi] (fun xR => xR = .bool (inM n lo hi)) :=
  (walk_within (vcp_within n lo hi)).mono (by rintro _ ⟨_, rfl, rfl⟩; rfl)
def vc_vfact (x : Fct) (Post : Bool -> Prop) : Prop :=
  ((((inM x.tr (0 : Int) (999 : Int)) = true) -> (((inM x.sp (0 : Int) (9 : Int)) = true) -> (((inM x.se (0 : Int) (7 : Int)) = true) -> (((inM x.ver (0 : Int) (9 : Int)) = true) -> (((inM x.op (0 : Int) (11 : Int)) = true) -> (((inM x.pe (-1 : Int) (19 : Int)) = true) -> (inI (x.tr.tdiv (10 : Int))) /\ True) /\ (¬ ((inM x.pe (-1 : Int) (19 : Int)) = true) -> True)) /\ (¬ ((inM x.op (0 : Int) (11 : Int)) = true) -> True)) /\ (¬ ((inM x.ver (0 : Int) (9 : Int)) = true) -> True)) /\ (¬ ((inM x.se (0 : Int) (7 : Int)) = true) -> True)) /\ (¬ ((inM x.sp (0 : Int) (9 : Int)) = true) -> True)) /\ (¬ ((inM x.tr (0 : Int) (999 : Int)) = true) -> True)) /\ (Post (decide (((inM x.tr (0 : Int) (999 : Int)) = true) /\ (((inM x.sp (0 : Int) (9 : Int)) = true) /\ (((inM x.se (0 : Int) (7 : Int)) = true) /\ (((inM x.ver (0 : Int) (9 : Int)) = true) /\ (((inM x.op (0 : Int) (11 : Int)) = true) /\ (((inM x.pe (-1 : Int) (19 : Int)) = true) /\ ((x.da = x.tr.tdiv (10 : Int)) /\ (((inM x.lo (0 : Int) x.hi) = true) /\ ((x.hi <= (4398046511104 : Int)) /\ ((inM x.by_ (0 : Int) (24000 : Int)) = true))))))))))))
theorem walk_vfact {x : Fct} {Post : Bool -> Prop} (hv : vc_vfact x Post) : FnP Try.prog 50 [.agg (e69 x)] (fun x => ∃ q0, x = .bool q0 /\ Post q0) := by
 refine FnP.of_walk (T := tt) (nt := 56) ttOk ttMix ⟨⟨Try.f50, Try.func50, rfl, rfl, rfl, rfl⟩⟩ (by simp) ?_
 unfold vc_vfact at hv
 change W _ _ _ ⟨56, look [(0, .agg [.int .i64 x.tr, .int .i64 x.sp, .int .i64 x.se, .int .i64 x.ver, .int .i64 x.op, .int .i64 x.pe, .int .i64 x.da, .int .i64 x.lo, .int .i64 x.hi, .int .i64 x.by_])], [], 0⟩ _
 refine W.tr [(0, .agg _)] [] ⟨rfl, trivial⟩ rfl (W.rL (cL rfl (o_box (v := .agg _) (p := 0) rfl rfl rfl (aB rfl rfl (eL (W.tr [(1, .ptr _ _)] [.box _ [.int _ _, .int _ _, .int _ _, .int _ _, .int _ _, .int _ _, .int _ _, .int _ _, .int _ _, .int _ _]] ⟨rfl, trivial⟩ rfl ?_))))))
 obtain ⟨sd, hv⟩ := hv
 refine W.rLm ⟨56, look [(2, .bool (decide (((inM x.tr (0 : Int) (999 : Int)) = true) /\ (((inM x.sp (0 : Int) (9 : Int)) = true) /\ (((inM x.se (0 : Int) (7 : Int)) = true) /\ (((inM x.ver (0 : Int) (9 : Int)) = true) /\ (((inM x.op (0 : Int) (11 : Int)) = true) /\ (((inM x.pe (-1 : Int) (19 : Int)) = true) /\ ((x.da = x.tr.tdiv (10 : Int)) /\ (((inM x.lo (0 : Int) x.hi) = true) /\ ((x.hi <= (4398046511104 : Int)) /\ ((inM x.by_ (0 : Int) (24000 : Int)) = true))))))))))))], [.box 69 [.int .i64 x.tr, .int .i64 x.sp, .int .i64 x.se, .int .i64 x.ver, .int .i64 x.op, .int .i64 x.pe, .int .i64 x.da, .int .i64 x.lo, .int .i64 x.hi, .int .i64 x.by_]], 0⟩ ?_ ?_
 refine cL rfl (o_fa tt69 rfl tt3 rfl (cL rfl (zZx (v := .int _ _) tt3 rfl rfl ⟨_, rfl⟩ (cL rfl (zZu (k := 68) (fst := []) (caps := []) (ys := [.int _ _, .int _ _, .int _ _]) rfl rfl (spec_within x.tr (0 : Int) (999 : Int)) (Wks.cons (zZz _ _ _ _) (Wks.cons (zZz _ _ _ _) (Wks.cons (zZz _ _ _ _) (Wks.refl _)))) (mB rfl rfl ?_))))))
 by_cases c1 : (inM x.tr (0 : Int) (999 : Int)) = true
 have sd := sd.1 c1
 refine cLg rfl rfl (c1) (cL rfl (o_fa tt69 rfl tt3 rfl (cLg rfl rfl (c1) (cL rfl (zZx (v := .int _ _) tt3 rfl rfl ⟨_, rfl⟩ (cLg rfl rfl (c1) (cL rfl (zZu (k := 68) (fst := []) (caps := []) (ys := [.int _ _, .int _ _, .int _ _]) rfl rfl (spec_within x.sp (0 : Int) (9 : Int)) (Wks.cons (zZz _ _ _ _) (Wks.cons (zZz _ _ _ _) (Wks.cons (zZz _ _ _ _) (Wks.refl _)))) (cL rfl (zZv (v := .bool _) rfl c1 rfl (mB rfl rfl ?_)))))))))))
 by_cases c2 : (inM x.sp (0 : Int) (9 : Int)) = true
 have sd := sd.1 c2
 refine cLg rfl rfl (c2) (cL rfl (o_fa tt69 rfl tt3 rfl (cLg rfl rfl (c2) (cL rfl (zZx (v := .int _ _) tt3 rfl rfl ⟨_, rfl⟩ (cLg rfl rfl (c2) (cL rfl (zZu (k := 68) (fst := []) (caps := []) (ys := [.int _ _, .int _ _, .int _ _]) rfl rfl (spec_within x.se (0 : Int) (7 : Int)) (Wks.cons (zZz _ _ _ _) (Wks.cons (zZz _ _ _ _) (Wks.cons (zZz _ _ _ _) (Wks.refl _)))) (cL rfl (zZv (v := .bool _) rfl c2 rfl (mB rfl rfl ?_)))))))))))
 by_cases c3 : (inM x.se (0 : Int) (7 : Int)) = true
 have sd := sd.1 c3
 refine cLg rfl rfl (c3) (cL rfl (o_fa tt69 rfl tt3 rfl (cLg rfl rfl (c3) (cL rfl (zZx (v := .int _ _) tt3 rfl rfl ⟨_, rfl⟩ (cLg rfl rfl (c3) (cL rfl (zZu (k := 68) (fst := []) (caps := []) (ys := [.int _ _, .int _ _, .int _ _]) rfl rfl (spec_within x.ver (0 : Int) (9 : Int)) (Wks.cons (zZz _ _ _ _) (Wks.cons (zZz _ _ _ _) (Wks.cons (zZz _ _ _ _) (Wks.refl _)))) (cL rfl (zZv (v := .bool _) rfl c3 rfl (mB rfl rfl ?_)))))))))))
 by_cases c4 : (inM x.ver (0 : Int) (9 : Int)) = true
 have sd := sd.1 c4
 refine cLg rfl rfl (c4) (cL rfl (o_fa tt69 rfl tt3 rfl (cLg rfl rfl (c4) (cL rfl (zZx (v := .int _ _) tt3 rfl rfl ⟨_, rfl⟩ (cLg rfl rfl (c4) (cL rfl (zZu (k := 68) (fst := []) (caps := []) (ys := [.int _ _, .int _ _, .int _ _]) rfl rfl (spec_within x.op (0 : Int) (11 : Int)) (Wks.cons (zZz _ _ _ _) (Wks.cons (zZz _ _ _ _) (Wks.cons (zZz _ _ _ _) (Wks.refl _)))) (cL rfl (zZv (v := .bool _) rfl c4 rfl (mB rfl rfl ?_)))))))))))
 by_cases c5 : (inM x.op (0 : Int) (11 : Int)) = true
 have sd := sd.1 c5
 refine cLg rfl rfl (c5) (cL rfl (o_fa tt69 rfl tt3 rfl (cLg rfl rfl (c5) (cL rfl (zZx (v := .int _ _) tt3 rfl rfl ⟨_, rfl⟩ (cLg rfl rfl (c5) (cL rfl (zZu (k := 68) (fst := []) (caps := []) (ys := [.int _ _, .int _ _, .int _ _]) rfl rfl (spec_within x.pe (-1 : Int) (19 : Int)) (Wks.cons (zZz _ _ _ _) (Wks.cons (zZz _ _ _ _) (Wks.cons (zZz _ _ _ _) (Wks.refl _)))) (cL rfl (zZv (v := .bool _) rfl c5 rfl (mB rfl rfl ?_)))))))))))
 by_cases c6 : (inM x.pe (-1 : Int) (19 : Int)) = true
 have sd := sd.1 c6
 refine cLg rfl rfl (c6) (cL rfl (o_fa tt69 rfl tt3 rfl (cLg rfl rfl (c6) (cL rfl (zZx (v := .int _ _) tt3 rfl rfl ⟨_, rfl⟩ (cLg rfl rfl (c6) (cL rfl (o_fa tt69 rfl tt3 rfl (cLg rfl rfl (c6) (cL rfl (zZx (v := .int _ _) tt3 rfl rfl ⟨_, rfl⟩ (cLg rfl rfl (c6) ?_))))))))))))
 obtain ⟨s2, sd⟩ := sd
 refine cL rfl (o_quo rfl rfl (by decide) s2 (cLg rfl rfl (c6) (cL rfl (o_eqI rfl rfl rfl (cL rfl (zZv (v := .bool _) rfl c6 rfl (mB rfl rfl ?_)))))))
 by_cases c7 : x.da = x.tr.tdiv (10 : Int)
 refine cLg rfl rfl (dT c7) (cL rfl (o_fa tt69 rfl tt3 rfl (cLg rfl rfl (dT c7) (cL rfl (zZx (v := .int _ _) tt3 rfl rfl ⟨_, rfl⟩ (cLg rfl rfl (dT c7) (cL rfl (o_fa tt69 rfl tt3 rfl (cLg rfl rfl (dT c7) (cL rfl (zZx (v := .int _ _) tt3 rfl rfl ⟨_, rfl⟩ (cLg rfl rfl (dT c7) (cL rfl (zZu (k := 68) (fst := []) (caps := []) (ys := [.int _ _, .int _ _, .int _ _]) rfl rfl (spec_within x.lo (0 : Int) x.hi) (Wks.cons (zZz _ _ _ _) (Wks.cons (zZz _ _ _ _) (Wks.cons (zZz _ _ _ _) (Wks.refl _)))) (cL rfl (zZv (v := .bool _) rfl (dT c7) rfl (mB rfl rfl ?_)))))))))))))))))
 by_cases c8 : (inM x.lo (0 : Int) x.hi) = true
 refine cLg rfl rfl (c8) (cL rfl (o_fa tt69 rfl tt3 rfl (cLg rfl rfl (c8) (cL rfl (zZx (v := .int _ _) tt3 rfl rfl ⟨_, rfl⟩ (cLg rfl rfl (c8) (cL rfl (o_leq rfl rfl (cL rfl (zZv (v := .bool _) rfl c8 rfl (mB rfl rfl ?_)))))))))))
 by_cases c9 : x.hi <= (4398046511104 : Int)
 refine cLg rfl rfl (dT c9) (cL rfl (o_fa tt69 rfl tt3 rfl (cLg rfl rfl (dT c9) (cL rfl (zZx (v := .int _ _) tt3 rfl rfl ⟨_, rfl⟩ (cLg rfl rfl (dT c9) (cL rfl (zZu (k := 68) (fst := []) (caps := []) (ys := [.int _ _, .int _ _, .int _ _]) rfl rfl (spec_within x.by_ (0 : Int) (24000 : Int)) (Wks.cons (zZz _ _ _ _) (Wks.cons (zZz _ _ _ _) (Wks.cons (zZz _ _ _ _) (Wks.refl _)))) (cL rfl (zZv (v := .bool _) rfl (dT c9) rfl (aB rfl rfl (eL (zYz ⟨(congrArg AV.bool (zXv c1 (zXv c2 (zXv c3 (zXv c4 (zXv c5 (zXv c6 (zXv c7 (zXv c8 (zXv c9 (dVar _))))))))))).symm, trivial⟩ rfl)))))))))))))
 iterate 3 refine cLs rfl rfl rfl (dF c9) ?_
 refine cL rfl (zZy (v := .bool _) rfl (dF c9) rfl (aB rfl rfl (eL (zYz ⟨(congrArg AV.bool (zXv c1 (zXv c2 (zXv c3 (zXv c4 (zXv c5 (zXv c6 (zXv c7 (zXv c8 (dAndF c9)))))))))).symm, trivial⟩ rfl))))
 iterate 3 refine cLs rfl rfl rfl ((Bool.eq_false_iff.2 c8)) ?_
 refine cL rfl (zZy (v := .bool _) rfl (Bool.eq_false_iff.2 c8) rfl (mB rfl rfl ?_))
 iterate 3 refine cLs rfl rfl rfl (rfl) ?_
 refine cL rfl (zZy (v := .bool _) rfl rfl rfl (aB rfl rfl (eL (zYz ⟨(congrArg AV.bool (zXv c1 (zXv c2 (zXv c3 (zXv c4 (zXv c5 (zXv c6 (zXv c7 (dAndF c8))))))))).symm, trivial⟩ rfl))))
 iterate 5 refine cLs rfl rfl rfl (dF c7) ?_
 refine cL rfl (zZy (v := .bool _) rfl (dF c7) rfl (mB rfl rfl ?_))
 iterate 3 refine cLs rfl rfl rfl (rfl) ?_
 refine cL rfl (zZy (v := .bool _) rfl rfl rfl (mB rfl rfl ?_))
 iterate 3 refine cLs rfl rfl rfl (rfl) ?_
 refine cL rfl (zZy (v := .bool _) rfl rfl rfl (aB rfl rfl (eL (zYz ⟨(congrArg AV.bool (zXv c1 (zXv c2 (zXv c3 (zXv c4 (zXv c5 (zXv c6 (dAndF c7)))))))).symm, trivial⟩ rfl))))
 iterate 6 refine cLs rfl rfl rfl ((Bool.eq_false_iff.2 c6)) ?_
 refine cL rfl (zZy (v := .bool _) rfl (Bool.eq_false_iff.2 c6) rfl (mB rfl rfl ?_))
 iterate 5 refine cLs rfl rfl rfl (rfl) ?_
 refine cL rfl (zZy (v := .bool _) rfl rfl rfl (mB rfl rfl ?_))
 iterate 3 refine cLs rfl rfl rfl (rfl) ?_
 refine cL rfl (zZy (v := .bool _) rfl rfl rfl (mB rfl rfl ?_))
 iterate 3 refine cLs rfl rfl rfl (rfl) ?_
 refine cL rfl (zZy (v := .bool _) rfl rfl rfl (aB rfl rfl (eL (zYz ⟨(congrArg AV.bool (zXv c1 (zXv c2 (zXv c3 (zXv c4 (zXv c5 (dAndF c6))))))).symm, trivial⟩ rfl))))
 iterate 3 refine cLs rfl rfl rfl ((Bool.eq_false_iff.2 c5)) ?_
 refine cL rfl (zZy (v := .bool _) rfl (Bool.eq_false_iff.2 c5) rfl (mB rfl rfl ?_))
 iterate 6 refine cLs rfl rfl rfl (rfl) ?_
 refine cL rfl (zZy (v := .bool _) rfl rfl rfl (mB rfl rfl ?_))
 iterate 5 refine cLs rfl rfl rfl (rfl) ?_
 refine cL rfl (zZy (v := .bool _) rfl rfl rfl (mB rfl rfl ?_))
 iterate 3 refine cLs rfl rfl rfl (rfl) ?_
 refine cL rfl (zZy (v := .bool _) rfl rfl rfl (mB rfl rfl ?_))
 iterate 3 refine cLs rfl rfl rfl (rfl) ?_
 refine cL rfl (zZy (v := .bool _) rfl rfl rfl (aB rfl rfl (eL (zYz ⟨(congrArg AV.bool (zXv c1 (zXv c2 (zXv c3 (zXv c4 (dAndF c5)))))).symm, trivial⟩ rfl))))
 iterate 3 refine cLs rfl rfl rfl ((Bool.eq_false_iff.2 c4)) ?_
 refine cL rfl (zZy (v := .bool _) rfl (Bool.eq_false_iff.2 c4) rfl (mB rfl rfl ?_))
 iterate 3 refine cLs rfl rfl rfl (rfl) ?_
 refine cL rfl (zZy (v := .bool _) rfl rfl rfl (mB rfl rfl ?_))
 iterate 6 refine cLs rfl rfl rfl (rfl) ?_
 refine cL rfl (zZy (v := .bool _) rfl rfl rfl (mB rfl rfl ?_))
 iterate 5 refine cLs rfl rfl rfl (rfl) ?_
 refine cL rfl (zZy (v := .bool _) rfl rfl rfl (mB rfl rfl ?_))
 iterate 3 refine cLs rfl rfl rfl (rfl) ?_
 refine cL rfl (zZy (v := .bool _) rfl rfl rfl (mB rfl rfl ?_))
 iterate 3 refine cLs rfl rfl rfl (rfl) ?_
 refine cL rfl (zZy (v := .bool _) rfl rfl rfl (aB rfl rfl (eL (zYz ⟨(congrArg AV.bool (zXv c1 (zXv c2 (zXv c3 (dAndF c4))))).symm, trivial⟩ rfl))))
 iterate 3 refine cLs rfl rfl rfl ((Bool.eq_false_iff.2 c3)) ?_
 refine cL rfl (zZy (v := .bool _) rfl (Bool.eq_false_iff.2 c3) rfl (mB rfl rfl ?_))
 iterate 3 refine cLs rfl rfl rfl (rfl) ?_
 refine cL rfl (zZy (v := .bool _) rfl rfl rfl (mB rfl rfl ?_))
 iterate 3 refine cLs rfl rfl rfl (rfl) ?_
 refine cL rfl (zZy (v := .bool _) rfl rfl rfl (mB rfl rfl ?_))
 iterate 6 refine cLs rfl rfl rfl (rfl) ?_
 refine cL rfl (zZy (v := .bool _) rfl rfl rfl (mB rfl rfl ?_))
 iterate 5 refine cLs rfl rfl rfl (rfl) ?_
 refine cL rfl (zZy (v := .bool _) rfl rfl rfl (mB rfl rfl ?_))
 iterate 3 refine cLs rfl rfl rfl (rfl) ?_
 refine cL rfl (zZy (v := .bool _) rfl rfl rfl (mB rfl rfl ?_))
 iterate 3 refine cLs rfl rfl rfl (rfl) ?_
 refine cL rfl (zZy (v := .bool _) rfl rfl rfl (aB rfl rfl (eL (zYz ⟨(congrArg AV.bool (zXv c1 (zXv c2 (dAndF c3)))).symm, trivial⟩ rfl))))
 iterate 3 refine cLs rfl rfl rfl ((Bool.eq_false_iff.2 c2)) ?_
 refine cL rfl (zZy (v := .bool _) rfl (Bool.eq_false_iff.2 c2) rfl (mB rfl rfl ?_))
 iterate 3 refine cLs rfl rfl rfl (rfl) ?_
 refine cL rfl (zZy (v := .bool _) rfl rfl rfl (mB rfl rfl ?_))
 iterate 3 refine cLs rfl rfl rfl (rfl) ?_
 refine cL rfl (zZy (v := .bool _) rfl rfl rfl (mB rfl rfl ?_))
 iterate 3 refine cLs rfl rfl rfl (rfl) ?_
 refine cL rfl (zZy (v := .bool _) rfl rfl rfl (mB rfl rfl ?_))
 iterate 6 refine cLs rfl rfl rfl (rfl) ?_
 refine cL rfl (zZy (v := .bool _) rfl rfl rfl (mB rfl rfl ?_))
 iterate 5 refine cLs rfl rfl rfl (rfl) ?_
 refine cL rfl (zZy (v := .bool _) rfl rfl rfl (mB rfl rfl ?_))
 iterate 3 refine cLs rfl rfl rfl (rfl) ?_
 refine cL rfl (zZy (v := .bool _) rfl rfl rfl (mB rfl rfl ?_))
 iterate 3 refine cLs rfl rfl rfl (rfl) ?_
 refine cL rfl (zZy (v := .bool _) rfl rfl rfl (aB rfl rfl (eL (zYz ⟨(congrArg AV.bool (zXv c1 (dAndF c2))).symm, trivial⟩ rfl))))
 iterate 3 refine cLs rfl rfl rfl ((Bool.eq_false_iff.2 c1)) ?_
 refine cL rfl (zZy (v := .bool _) rfl (Bool.eq_false_iff.2 c1) rfl (mB rfl rfl ?_))
 iterate 3 refine cLs rfl rfl rfl (rfl) ?_
 refine cL rfl (zZy (v := .bool _) rfl rfl rfl (mB rfl rfl ?_))
 iterate 3 refine cLs rfl rfl rfl (rfl) ?_
 refine cL rfl (zZy (v := .bool _) rfl rfl rfl (mB rfl rfl ?_))
 iterate 3 refine cLs rfl rfl rfl (rfl) ?_
 refine cL rfl (zZy (v := .bool _) rfl rfl rfl (mB rfl rfl ?_))
 iterate 3 refine cLs rfl rfl rfl (rfl) ?_
 refine cL rfl (zZy (v := .bool _) rfl rfl rfl (mB rfl rfl ?_))
 iterate 6 refine cLs rfl rfl rfl (rfl) ?_
 refine cL rfl (zZy (v := .bool _) rfl rfl rfl (mB rfl rfl ?_))
 iterate 5 refine cLs rfl rfl rfl (rfl) ?_
 refine cL rfl (zZy (v := .bool _) rfl rfl rfl (mB rfl rfl ?_))
 iterate 3 refine cLs rfl rfl rfl (rfl) ?_
 refine cL rfl (zZy (v := .bool _) rfl rfl rfl (mB rfl rfl ?_))
 iterate 3 refine cLs rfl rfl rfl (rfl) ?_
 refine cL rfl (zZy (v := .bool _) rfl rfl rfl (aB rfl rfl (eL (zYz ⟨(congrArg AV.bool (dAndF c1)).symm, trivial⟩ rfl))))
 refine W.ret (rt (rt_t (v := .bool _) rfl (rt_n (⟨_, zYr _ _ _, (decide (((inM x.tr (0 : Int) (999 : Int)) = true) /\ (((inM x.sp (0 : Int) (9 : Int)) = true) /\ (((inM x.se (0 : Int) (7 : Int)) = true) /\ (((inM x.ver (0 : Int) (9 : Int)) = true) /\ (((inM x.op (0 : Int) (11 : Int)) = true) /\ (((inM x.pe (-1 : Int) (19 : Int)) = true) /\ ((x.da = x.tr.tdiv (10 : Int)) /\ (((inM x.lo (0 : Int) x.hi) = true) /\ ((x.hi <= (4398046511104 : Int)) /\ ((inM x.by_ (0 : Int) (24000 : Int)) = true))))))))))), rfl, hv⟩))))
set_option maxHeartbeats 2000000 in
theorem vcp_vfact (x : Fct)  : vc_vfact x (fun q0 => q0 = (factOk x)) := by
  have e1 : ∀ n lo hi : Int, (inM n lo hi = true) = (lo <= n /\ n <= hi) := fun n lo hi => by unfold inM; simp
  unfold vc_vfact
  simp only [e1]
  refine ⟨⟨fun h1 => ⟨fun _ => ⟨fun _ => ⟨fun _ => ⟨fun _ => ⟨fun _ => ⟨?_, trivial⟩, fun _ => trivial⟩, fun _ => trivial⟩, fun _ => trivial⟩, fun _ => trivial⟩, fun _ => trivial⟩, fun _ => trivial⟩, ?_⟩
  . have := inI_td (x := x.tr) (k := 10) (by omega) (by unfold inI; omega)
    exact this
  . rfl
theorem spec_vfact (x : Fct)  : FnP Try.prog 50 [.agg (e69 x)] (fun xR => xR = .bool (factOk x)) :=
  (walk_vfact (vcp_vfact x)).mono (by rintro _ ⟨_, rfl, rfl⟩; rfl)
end Go.Lat
