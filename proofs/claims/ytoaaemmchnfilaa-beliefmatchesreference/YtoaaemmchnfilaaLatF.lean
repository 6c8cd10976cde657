/- The law latecomerlaw10.BeliefMatchesReference returns true for every input, and each argument reads afterwards as it read before. Part 6 of 14. No condition. -/
import Derived.Test.YtoaaemmchnfilaaLatD
import Derived.Test.YtoaaemmchnfilaaLatE
set_option linter.unusedVariables false
set_option linter.unusedSimpArgs false
set_option linter.unnecessarySimpa false
set_option maxRecDepth 100000
set_option maxHeartbeats 4000000
namespace Go.Lat
open Go.RowKit Go.Proofs
attribute [local irreducible] cvalidM zX zYw partM chM liM zYv witM pcM inM allM inSet
attribute [local irreducible] zWy zWz pointM addBM cycleM holdsM validBM sameM madeM pickM zW validM possM firstM tableM longerM zYs ofM addM freeM
def vc_cvalid (f : Flt) (Post : Bool -> Prop) : Prop :=
  ((f.dr.length <= 9223372036854775807) /\ (((allM f.dr 1 6 1000) = true) -> (((inM f.la 0 1000000) = true) -> (((inM f.li 0 2) = true) -> ((f.li < ((f.dr.length : Nat) : Int)) -> (f.tm.length <= 9223372036854775807) /\ (((allM f.tm 1 8 3) = true) -> (inI (((f.tm.length : Nat) : Int) - 1)) /\ (f.sv.length <= 9223372036854775807) /\ True) /\ (¬ ((allM f.tm 1 8 3) = true) -> True)) /\ (¬ (f.li < ((f.dr.length : Nat) : Int)) -> True)) /\ (¬ ((inM f.li 0 2) = true) -> True)) /\ (¬ ((inM f.la 0 1000000) = true) -> True)) /\ (¬ ((allM f.dr 1 6 1000) = true) -> True)) /\ (Post (decide (((allM f.dr 1 6 1000) = true) /\ (((inM f.la 0 1000000) = true) /\ (((inM f.li 0 2) = true) /\ ((f.li < ((f.dr.length : Nat) : Int)) /\ (((allM f.tm 1 8 3) = true) /\ ((allM f.sv 1 12 (((f.tm.length : Nat) : Int) - 1)) = true))))))))
theorem walk_cvalid {f : Flt} {Post : Bool -> Prop} (hv : vc_cvalid f Post) : FnP Try.prog 54 [.agg ((e27 true) f)] (fun x => ∃ q0, x = .bool q0 /\ Post q0) := by
 refine FnP.of_walk (T := tt) (nt := 38) ttOk ttMix ⟨⟨Try.f54, Try.func54, rfl, rfl, rfl, rfl⟩⟩ (by simp) ?_
 unfold vc_cvalid at hv
 change W _ _ _ ⟨38, look [(0, .agg [.lst true f.dr.length (zYy zYx f.dr), .int .i64 f.la, .int .i64 f.li, .lst true f.sv.length (zYy zYx f.sv), .lst true f.tm.length (zYy zYx f.tm)])], [], 0⟩ _
 refine W.rL (cL rfl (o_box (v := .agg _) (p := 0) rfl rfl rfl (aB rfl rfl (eL (W.tr [(1, .ptr _ _)] [.box _ [.lst _ _ _, .int _ _, .int _ _, .lst _ _ _, .lst _ _ _]] ⟨rfl, trivial⟩ rfl ?_)))))
 obtain ⟨sd, hv⟩ := hv
 refine W.rLm ⟨38, look [(2, .bool (decide (((allM f.dr 1 6 1000) = true) /\ (((inM f.la 0 1000000) = true) /\ (((inM f.li 0 2) = true) /\ ((f.li < ((f.dr.length : Nat) : Int)) /\ (((allM f.tm 1 8 3) = true) /\ ((allM f.sv 1 12 (((f.tm.length : Nat) : Int) - 1)) = true))))))))], [.box 27 [.lst true f.dr.length (zYy zYx f.dr), .int .i64 f.la, .int .i64 f.li, .lst true f.sv.length (zYy zYx f.sv), .lst true f.tm.length (zYy zYx f.tm)]], 0⟩ ?_ ?_
 refine cL rfl (o_fa tt27 rfl tt23 rfl (cL rfl (zZx (v := .lst _ _ _) tt23 rfl rfl ⟨_, rfl⟩ ?_)))
 obtain ⟨s5, sd⟩ := sd
 refine cL rfl (zZu (k := 71) (fst := []) (caps := []) (ys := [.lst _ _ _, .int _ _, .int _ _, .int _ _]) rfl rfl (spec_allr f.dr 1 6 1000 s5) (Wks.cons (zZs _ _ _ _ _) (Wks.cons (zZz _ _ _ _) (Wks.cons (zZz _ _ _ _) (Wks.cons (zZz _ _ _ _) (Wks.refl _))))) (mB rfl rfl ?_))
 by_cases c1 : (allM f.dr 1 6 1000) = true
 have sd := sd.1 c1
 refine cLg rfl rfl (c1) (cL rfl (o_fa tt27 rfl tt3 rfl (cLg rfl rfl (c1) (cL rfl (zZx (v := .int _ _) tt3 rfl rfl ⟨_, rfl⟩ (cLg rfl rfl (c1) (cL rfl (zZu (k := 72) (fst := []) (caps := []) (ys := [.int _ _, .int _ _, .int _ _]) rfl rfl (spec_inr f.la 0 1000000) (Wks.cons (zZz _ _ _ _) (Wks.cons (zZz _ _ _ _) (Wks.cons (zZz _ _ _ _) (Wks.refl _)))) (cL rfl (zZv (v := .bool _) rfl c1 rfl (mB rfl rfl ?_)))))))))))
 by_cases c2 : (inM f.la 0 1000000) = true
 have sd := sd.1 c2
 refine cLg rfl rfl (c2) (cL rfl (o_fa tt27 rfl tt3 rfl (cLg rfl rfl (c2) (cL rfl (zZx (v := .int _ _) tt3 rfl rfl ⟨_, rfl⟩ (cLg rfl rfl (c2) (cL rfl (zZu (k := 72) (fst := []) (caps := []) (ys := [.int _ _, .int _ _, .int _ _]) rfl rfl (spec_inr f.li 0 2) (Wks.cons (zZz _ _ _ _) (Wks.cons (zZz _ _ _ _) (Wks.cons (zZz _ _ _ _) (Wks.refl _)))) (cL rfl (zZv (v := .bool _) rfl c2 rfl (mB rfl rfl ?_)))))))))))
 by_cases c3 : (inM f.li 0 2) = true
 have sd := sd.1 c3
 refine cLg rfl rfl (c3) (cL rfl (o_fa tt27 rfl tt3 rfl (cLg rfl rfl (c3) (cL rfl (zZx (v := .int _ _) tt3 rfl rfl ⟨_, rfl⟩ (cLg rfl rfl (c3) (cL rfl (o_fa tt27 rfl tt23 rfl (cLg rfl rfl (c3) (cL rfl (zZx (v := .lst _ _ _) tt23 rfl rfl ⟨_, rfl⟩ (cLg rfl rfl (c3) (cL rfl (zXq (v := .lst _ _ _) tt23 rfl rfl (cLg rfl rfl (c3) (cL rfl (zXw rfl rfl (cL rfl (zZv (v := .bool _) rfl c3 rfl (mB rfl rfl ?_))))))))))))))))))))
 by_cases c4 : f.li < ((f.dr.length : Nat) : Int)
 have sd := sd.1 c4
 refine cLg rfl rfl (dT c4) (cL rfl (o_fa tt27 rfl tt23 rfl (cLg rfl rfl (dT c4) (cL rfl (zZx (v := .lst _ _ _) tt23 rfl rfl ⟨_, rfl⟩ (cLg rfl rfl (dT c4) ?_))))))
 obtain ⟨s6, sd⟩ := sd
 refine cL rfl (zZu (k := 71) (fst := []) (caps := []) (ys := [.lst _ _ _, .int _ _, .int _ _, .int _ _]) rfl rfl (spec_allr f.tm 1 8 3 s6) (Wks.cons (zZs _ _ _ _ _) (Wks.cons (zZz _ _ _ _) (Wks.cons (zZz _ _ _ _) (Wks.cons (zZz _ _ _ _) (Wks.refl _))))) (cL rfl (zZv (v := .bool _) rfl (dT c4) rfl (mB rfl rfl ?_))))
 by_cases c5 : (allM f.tm 1 8 3) = true
 have sd := sd.1 c5
 refine cLg rfl rfl (c5) (cL rfl (o_fa tt27 rfl tt23 rfl (cLg rfl rfl (c5) (cL rfl (zZx (v := .lst _ _ _) tt23 rfl rfl ⟨_, rfl⟩ (cLg rfl rfl (c5) (cL rfl (o_fa tt27 rfl tt23 rfl (cLg rfl rfl (c5) (cL rfl (zZx (v := .lst _ _ _) tt23 rfl rfl ⟨_, rfl⟩ (cLg rfl rfl (c5) (cL rfl (zXq (v := .lst _ _ _) tt23 rfl rfl (cLg rfl rfl (c5) ?_)))))))))))))))
 obtain ⟨s7, sd⟩ := sd
 refine cL rfl (o_sub rfl rfl s7 (cLg rfl rfl (c5) ?_))
 obtain ⟨s8, sd⟩ := sd
 refine cL rfl (zZu (k := 71) (fst := []) (caps := []) (ys := [.lst _ _ _, .int _ _, .int _ _, .int _ _]) rfl rfl (spec_allr f.sv 1 12 (((f.tm.length : Nat) : Int) - 1) s8) (Wks.cons (zZs _ _ _ _ _) (Wks.cons (zZz _ _ _ _) (Wks.cons (zZz _ _ _ _) (Wks.cons (zZz _ _ _ _) (Wks.refl _))))) (cL rfl (zZv (v := .bool _) rfl c5 rfl (aB rfl rfl (eL (zYz ⟨(congrArg AV.bool (zXp c1 (zXp c2 (zXp c3 (zXp c4 (zXp c5 (dVar _))))))).symm, trivial⟩ rfl))))))
 iterate 7 refine cLs rfl rfl rfl ((Bool.eq_false_iff.2 c5)) ?_
 refine cL rfl (zZy (v := .bool _) rfl (Bool.eq_false_iff.2 c5) rfl (aB rfl rfl (eL (zYz ⟨(congrArg AV.bool (zXp c1 (zXp c2 (zXp c3 (zXp c4 (dAndF c5)))))).symm, trivial⟩ rfl))))
 iterate 3 refine cLs rfl rfl rfl (dF c4) ?_
 refine cL rfl (zZy (v := .bool _) rfl (dF c4) rfl (mB rfl rfl ?_))
 iterate 7 refine cLs rfl rfl rfl (rfl) ?_
 refine cL rfl (zZy (v := .bool _) rfl rfl rfl (aB rfl rfl (eL (zYz ⟨(congrArg AV.bool (zXp c1 (zXp c2 (zXp c3 (dAndF c4))))).symm, trivial⟩ rfl))))
 iterate 6 refine cLs rfl rfl rfl ((Bool.eq_false_iff.2 c3)) ?_
 refine cL rfl (zZy (v := .bool _) rfl (Bool.eq_false_iff.2 c3) rfl (mB rfl rfl ?_))
 iterate 3 refine cLs rfl rfl rfl (rfl) ?_
 refine cL rfl (zZy (v := .bool _) rfl rfl rfl (mB rfl rfl ?_))
 iterate 7 refine cLs rfl rfl rfl (rfl) ?_
 refine cL rfl (zZy (v := .bool _) rfl rfl rfl (aB rfl rfl (eL (zYz ⟨(congrArg AV.bool (zXp c1 (zXp c2 (dAndF c3)))).symm, trivial⟩ rfl))))
 iterate 3 refine cLs rfl rfl rfl ((Bool.eq_false_iff.2 c2)) ?_
 refine cL rfl (zZy (v := .bool _) rfl (Bool.eq_false_iff.2 c2) rfl (mB rfl rfl ?_))
 iterate 6 refine cLs rfl rfl rfl (rfl) ?_
 refine cL rfl (zZy (v := .bool _) rfl rfl rfl (mB rfl rfl ?_))
 iterate 3 refine cLs rfl rfl rfl (rfl) ?_
 refine cL rfl (zZy (v := .bool _) rfl rfl rfl (mB rfl rfl ?_))
 iterate 7 refine cLs rfl rfl rfl (rfl) ?_
 refine cL rfl (zZy (v := .bool _) rfl rfl rfl (aB rfl rfl (eL (zYz ⟨(congrArg AV.bool (zXp c1 (dAndF c2))).symm, trivial⟩ rfl))))
 iterate 3 refine cLs rfl rfl rfl ((Bool.eq_false_iff.2 c1)) ?_
 refine cL rfl (zZy (v := .bool _) rfl (Bool.eq_false_iff.2 c1) rfl (mB rfl rfl ?_))
 iterate 3 refine cLs rfl rfl rfl (rfl) ?_
 refine cL rfl (zZy (v := .bool _) rfl rfl rfl (mB rfl rfl ?_))
 iterate 6 refine cLs rfl rfl rfl (rfl) ?_
 refine cL rfl (zZy (v := .bool _) rfl rfl rfl (mB rfl rfl ?_))
 iterate 3 refine cLs rfl rfl rfl (rfl) ?_
 refine cL rfl (zZy (v := .bool _) rfl rfl rfl (mB rfl rfl ?_))
 iterate 7 refine cLs rfl rfl rfl (rfl) ?_
 refine cL rfl (zZy (v := .bool _) rfl rfl rfl (aB rfl rfl (eL (zYz ⟨(congrArg AV.bool (dAndF c1)).symm, trivial⟩ rfl))))
 refine W.ret (rt (rt_t (v := .bool _) rfl (rt_n (⟨_, zXx _ _ _, (decide (((allM f.dr 1 6 1000) = true) /\ (((inM f.la 0 1000000) = true) /\ (((inM f.li 0 2) = true) /\ ((f.li < ((f.dr.length : Nat) : Int)) /\ (((allM f.tm 1 8 3) = true) /\ ((allM f.sv 1 12 (((f.tm.length : Nat) : Int) - 1)) = true))))))), rfl, hv⟩))))
theorem vcp_cvalid (f : Flt) (h0 : f.dr.length <= 9223372036854775807) (h1 : f.sv.length <= 9223372036854775807) (h2 : f.tm.length <= 9223372036854775807) : vc_cvalid f (fun q0 => q0 = (cvalidM f)) := by
  unfold vc_cvalid
  refine ⟨⟨h0, fun _ => ⟨fun _ => ⟨fun _ => ⟨fun _ => ⟨h2, fun _ => ⟨by unfold inI; omega, h1, trivial⟩, fun _ => trivial⟩, fun _ => trivial⟩, fun _ => trivial⟩, fun _ => trivial⟩, fun _ => trivial⟩, ?_⟩
  show decide _ = cvalidM f
  unfold cvalidM inM
  rw [Bool.eq_iff_iff]
  simp only [decide_eq_true_eq, Bool.and_eq_true, and_assoc]
theorem spec_cvalid (f : Flt) (h0 : f.dr.length <= 9223372036854775807) (h1 : f.sv.length <= 9223372036854775807) (h2 : f.tm.length <= 9223372036854775807) : FnP Try.prog 54 [.agg ((e27 true) f)] (fun xR => xR = .bool (cvalidM f)) :=
  (walk_cvalid (vcp_cvalid f h0 h1 h2)).mono (by rintro _ ⟨_, rfl, rfl⟩; rfl)
def vc_poss (n : Int) (c : Con) (Post : Bool -> Prop) : Prop :=
  (((((0 : Int) <= (min c.f c.t)) /\ (((max c.f c.t) < n) /\ (¬ c.f = c.t))) -> (((-1125899906842624 : Int) <= c.m) -> ((c.m <= 1125899906842624) -> (((0 : Int) <= c.a) -> (0 <= (6 : Int)) /\ True) /\ (¬ ((0 : Int) <= c.a) -> True)) /\ (¬ (c.m <= 1125899906842624) -> True)) /\ (¬ ((-1125899906842624 : Int) <= c.m) -> True)) /\ (¬ (((0 : Int) <= (min c.f c.t)) /\ (((max c.f c.t) < n) /\ (¬ c.f = c.t))) -> True)) /\ (Post (decide ((((0 : Int) <= (min c.f c.t)) /\ (((max c.f c.t) < n) /\ (¬ c.f = c.t))) /\ (((-1125899906842624 : Int) <= c.m) /\ ((c.m <= 1125899906842624) /\ (((0 : Int) <= c.a) /\ (c.a.fdiv (2 ^ (min (6 : Int).toNat 64)) = 0)))))))
theorem walk_poss {n : Int} {c : Con} {Post : Bool -> Prop} (hv : vc_poss n c Post) : FnP Try.prog 65 [.int .i64 n, .agg (e66 c)] (fun x => ∃ q0, x = .bool q0 /\ Post q0) := by
 refine FnP.of_walk (T := tt) (nt := 50) ttOk ttMix ⟨⟨Try.f65, Try.func65, rfl, rfl, rfl, rfl⟩⟩ (by simp) ?_
 unfold vc_poss at hv
 change W _ _ _ ⟨50, look [(0, .int .i64 n), (1, .agg [.int .i64 c.f, .int .i64 c.t, .int .i64 c.m, .int .i64 c.a])], [], 0⟩ _
 refine W.rL (cL rfl (o_box (v := .agg _) (p := 0) rfl rfl rfl (aB rfl rfl (eL (W.tr [(0, .int _ _), (3, .ptr _ _)] [.box _ [.int _ _, .int _ _, .int _ _, .int _ _]] ⟨rfl, rfl, trivial⟩ rfl (W.rLm ⟨50, look [(3, .ptr 0 0), (5, .bool (decide (((0 : Int) <= (min c.f c.t)) /\ (((max c.f c.t) < n) /\ (¬ c.f = c.t)))))], [.box 66 [.int .i64 c.f, .int .i64 c.t, .int .i64 c.m, .int .i64 c.a]], 0⟩ ?_ ?_))))))
 refine cL rfl (o_fa tt66 rfl tt3 rfl (cL rfl (zZx (v := .int _ _) tt3 rfl rfl ⟨_, rfl⟩ (cL rfl (o_fa tt66 rfl tt3 rfl (cL rfl (zZx (v := .int _ _) tt3 rfl rfl ⟨_, rfl⟩ (cL rfl (o_min rfl rfl (cL rfl (o_geq rfl rfl (mB rfl rfl ?_))))))))))))
 by_cases c1 : (0 : Int) <= (min c.f c.t)
 refine cLg rfl rfl (dT c1) (cL rfl (o_fa tt66 rfl tt3 rfl (cLg rfl rfl (dT c1) (cL rfl (zZx (v := .int _ _) tt3 rfl rfl ⟨_, rfl⟩ (cLg rfl rfl (dT c1) (cL rfl (o_fa tt66 rfl tt3 rfl (cLg rfl rfl (dT c1) (cL rfl (zZx (v := .int _ _) tt3 rfl rfl ⟨_, rfl⟩ (cLg rfl rfl (dT c1) (cL rfl (o_max rfl rfl (cLg rfl rfl (dT c1) (mI rfl rfl (cLg rfl rfl (dT c1) (cL rfl (zXw rfl rfl (cL rfl (zZv (v := .bool _) rfl (dT c1) rfl (mB rfl rfl ?_))))))))))))))))))))))
 by_cases c2 : (max c.f c.t) < n
 refine cLg rfl rfl (dT c2) (cL rfl (o_fa tt66 rfl tt3 rfl (cLg rfl rfl (dT c2) (cL rfl (zZx (v := .int _ _) tt3 rfl rfl ⟨_, rfl⟩ (cLg rfl rfl (dT c2) (cL rfl (o_fa tt66 rfl tt3 rfl (cLg rfl rfl (dT c2) (cL rfl (zZx (v := .int _ _) tt3 rfl rfl ⟨_, rfl⟩ (cLg rfl rfl (dT c2) (cL rfl (o_neI rfl rfl rfl (cL rfl (zZv (v := .bool _) rfl (dT c2) rfl (aB rfl rfl (eL (zYz ⟨rfl, (congrArg AV.bool (zXp c1 (zXp c2 (rfl)))).symm, trivial⟩ rfl)))))))))))))))))))
 iterate 5 refine cLs rfl rfl rfl (dF c2) ?_
 refine cL rfl (zZy (v := .bool _) rfl (dF c2) rfl (aB rfl rfl (eL (zYz ⟨rfl, (congrArg AV.bool (zXp c1 (dAndF c2))).symm, trivial⟩ rfl))))
 iterate 7 refine cLs rfl rfl rfl (dF c1) ?_
 refine cL rfl (zZy (v := .bool _) rfl (dF c1) rfl (mB rfl rfl ?_))
 iterate 5 refine cLs rfl rfl rfl (rfl) ?_
 refine cL rfl (zZy (v := .bool _) rfl rfl rfl (aB rfl rfl (eL (zYz ⟨rfl, (congrArg AV.bool (dAndF c1)).symm, trivial⟩ rfl))))
 obtain ⟨sd, hv⟩ := hv
 refine W.rLm ⟨50, look [(4, .bool (decide ((((0 : Int) <= (min c.f c.t)) /\ (((max c.f c.t) < n) /\ (¬ c.f = c.t))) /\ (((-1125899906842624 : Int) <= c.m) /\ ((c.m <= 1125899906842624) /\ (((0 : Int) <= c.a) /\ (c.a.fdiv (2 ^ (min (6 : Int).toNat 64)) = 0)))))))], [.box 66 [.int .i64 c.f, .int .i64 c.t, .int .i64 c.m, .int .i64 c.a]], 0⟩ ?_ ?_
 iterate 2 refine mB rfl rfl ?_
 by_cases c1 : ((0 : Int) <= (min c.f c.t)) /\ (((max c.f c.t) < n) /\ (¬ c.f = c.t))
 have sd := sd.1 c1
 refine cLg rfl rfl (dT c1) (cL rfl (o_fa tt66 rfl tt3 rfl (cLg rfl rfl (dT c1) (cL rfl (zZx (v := .int _ _) tt3 rfl rfl ⟨_, rfl⟩ (cLg rfl rfl (dT c1) (cL rfl (o_geq rfl rfl (cL rfl (zZv (v := .bool _) rfl (dT c1) rfl (mB rfl rfl ?_)))))))))))
 by_cases c2 : (-1125899906842624 : Int) <= c.m
 have sd := sd.1 c2
 refine cLg rfl rfl (dT c2) (cL rfl (o_fa tt66 rfl tt3 rfl (cLg rfl rfl (dT c2) (cL rfl (zZx (v := .int _ _) tt3 rfl rfl ⟨_, rfl⟩ (cLg rfl rfl (dT c2) (cL rfl (o_leq rfl rfl (cL rfl (zZv (v := .bool _) rfl (dT c2) rfl (mB rfl rfl ?_)))))))))))
 by_cases c3 : c.m <= 1125899906842624
 have sd := sd.1 c3
 refine cLg rfl rfl (dT c3) (cL rfl (o_fa tt66 rfl tt3 rfl (cLg rfl rfl (dT c3) (cL rfl (zZx (v := .int _ _) tt3 rfl rfl ⟨_, rfl⟩ (cLg rfl rfl (dT c3) (cL rfl (o_geq rfl rfl (cL rfl (zZv (v := .bool _) rfl (dT c3) rfl (mB rfl rfl ?_)))))))))))
 by_cases c4 : (0 : Int) <= c.a
 have sd := sd.1 c4
 refine cLg rfl rfl (dT c4) (cL rfl (o_fa tt66 rfl tt3 rfl (cLg rfl rfl (dT c4) (cL rfl (zZx (v := .int _ _) tt3 rfl rfl ⟨_, rfl⟩ (cLg rfl rfl (dT c4) ?_))))))
 obtain ⟨s2, sd⟩ := sd
 refine cL rfl (o_shr rfl rfl s2 (cLg rfl rfl (dT c4) (cL rfl (o_eqI rfl rfl rfl (cL rfl (zZv (v := .bool _) rfl (dT c4) rfl (aB rfl rfl (eL (zYz ⟨(congrArg AV.bool (zXp c1 (zXp c2 (zXp c3 (zXp c4 (rfl)))))).symm, trivial⟩ rfl)))))))))
 iterate 4 refine cLs rfl rfl rfl (dF c4) ?_
 refine cL rfl (zZy (v := .bool _) rfl (dF c4) rfl (aB rfl rfl (eL (zYz ⟨(congrArg AV.bool (zXp c1 (zXp c2 (zXp c3 (dAndF c4))))).symm, trivial⟩ rfl))))
 iterate 3 refine cLs rfl rfl rfl (dF c3) ?_
 refine cL rfl (zZy (v := .bool _) rfl (dF c3) rfl (mB rfl rfl ?_))
 iterate 4 refine cLs rfl rfl rfl (rfl) ?_
 refine cL rfl (zZy (v := .bool _) rfl rfl rfl (aB rfl rfl (eL (zYz ⟨(congrArg AV.bool (zXp c1 (zXp c2 (dAndF c3)))).symm, trivial⟩ rfl))))
 iterate 3 refine cLs rfl rfl rfl (dF c2) ?_
 refine cL rfl (zZy (v := .bool _) rfl (dF c2) rfl (mB rfl rfl ?_))
 iterate 3 refine cLs rfl rfl rfl (rfl) ?_
 refine cL rfl (zZy (v := .bool _) rfl rfl rfl (mB rfl rfl ?_))
 iterate 4 refine cLs rfl rfl rfl (rfl) ?_
 refine cL rfl (zZy (v := .bool _) rfl rfl rfl (aB rfl rfl (eL (zYz ⟨(congrArg AV.bool (zXp c1 (dAndF c2))).symm, trivial⟩ rfl))))
 iterate 3 refine cLs rfl rfl rfl (dF c1) ?_
 refine cL rfl (zZy (v := .bool _) rfl (dF c1) rfl (mB rfl rfl ?_))
 iterate 3 refine cLs rfl rfl rfl (rfl) ?_
 refine cL rfl (zZy (v := .bool _) rfl rfl rfl (mB rfl rfl ?_))
 iterate 3 refine cLs rfl rfl rfl (rfl) ?_
 refine cL rfl (zZy (v := .bool _) rfl rfl rfl (mB rfl rfl ?_))
 iterate 4 refine cLs rfl rfl rfl (rfl) ?_
 refine cL rfl (zZy (v := .bool _) rfl rfl rfl (aB rfl rfl (eL (zYz ⟨(congrArg AV.bool (dAndF c1)).symm, trivial⟩ rfl))))
 refine W.ret (rt (rt_t (v := .bool _) rfl (rt_n (⟨_, zXx _ _ _, (decide ((((0 : Int) <= (min c.f c.t)) /\ (((max c.f c.t) < n) /\ (¬ c.f = c.t))) /\ (((-1125899906842624 : Int) <= c.m) /\ ((c.m <= 1125899906842624) /\ (((0 : Int) <= c.a) /\ (c.a.fdiv (2 ^ (min (6 : Int).toNat 64)) = 0)))))), rfl, hv⟩))))
theorem vcp_poss (n : Int) (c : Con)  : vc_poss n c (fun q0 => q0 = (possM n c)) := by
  unfold vc_poss
  refine ⟨by simp, ?_⟩
  unfold possM
  have e : (2 : Int) ^ (min (6 : Int).toNat 64) = 64 := by decide
  rw [e]
  have e2 : c.a.fdiv 64 = c.a / 64 := Int.fdiv_eq_ediv_of_nonneg _ (by omega)
  rw [e2]
  exact decide_eq_decide.mpr (by omega)
theorem spec_poss (n : Int) (c : Con)  : FnP Try.prog 65 [.int .i64 n, .agg (e66 c)] (fun xR => xR = .bool (possM n c)) :=
  (walk_poss (vcp_poss n c)).mono (by rintro _ ⟨_, rfl, rfl⟩; rfl)
def vc_valid1 (c : Con) (n : Int) (Post : Bool -> Prop) : Prop :=
  Post (decide (¬ ((possM n c) = true)))
theorem walk_valid1 {c : Con} {n : Int} {Post : Bool -> Prop} (hv : vc_valid1 c n Post) : FnP Try.prog 64 [.agg (e66 c), .ipt true [.int .i64 n]] (fun x => ∃ q0, x = .bool q0 /\ Post q0) := by
 refine FnP.of_walk (T := tt) (nt := 8) ttOk ttMix ⟨⟨Try.f64, Try.func64, rfl, rfl, rfl, rfl⟩⟩ (by simp) ?_
 unfold vc_valid1 at hv
 change W _ _ _ ⟨8, look [(0, .agg [.int .i64 c.f, .int .i64 c.t, .int .i64 c.m, .int .i64 c.a]), (1, .ipt true [.int .i64 n])], [], 0⟩ _
 refine W.rL (cL rfl (o_box (v := .agg _) (p := 0) rfl rfl rfl (aB rfl rfl (eL (W.tr [(1, .ipt _ _), (2, .ptr _ _)] [.box _ [.int _ _, .int _ _, .int _ _, .int _ _]] ⟨rfl, rfl, trivial⟩ rfl (W.rL (cL rfl (zZx (v := .int _ _) tt3 rfl rfl ⟨_, rfl⟩ (cL rfl (zXv (cs := [.int _ _, .int _ _, .int _ _, .int _ _]) tt66 rfl rfl ⟨_, rfl⟩ rfl (cL rfl (zZu (k := 65) (fst := []) (caps := []) (ys := [.int _ _, .agg _]) rfl rfl (spec_poss n c) (Wks.cons (zZz _ _ _ _) (Wks.cons (zXr 5 _ (Wks.cons (zZz _ _ _ _) (Wks.cons (zZz _ _ _ _) (Wks.cons (zZz _ _ _ _) (Wks.cons (zZz _ _ _ _) (Wks.refl _)))))) (Wks.refl _))) (cL rfl (o_notB rfl (aB rfl rfl (eL (W.tr [(3, .bool _)] [.box _ [.int _ _, .int _ _, .int _ _, .int _ _]] ⟨rfl, trivial⟩ rfl (W.ret (rt (rt_t (v := .bool _) rfl (rt_n (⟨_, zXx _ _ _, (decide (¬ ((possM n c) = true))), rfl, hv⟩))))))))))))))))))))))
theorem vcp_valid1 (c : Con) (n : Int)  : vc_valid1 c n (fun q0 => q0 = (!(possM n c))) := by
  unfold vc_valid1
  cases possM n c <;> rfl
theorem spec_valid1 (c : Con) (n : Int)  : FnP Try.prog 64 [.agg (e66 c), .ipt true [.int .i64 n]] (fun xR => xR = .bool (!(possM n c))) :=
  (walk_valid1 (vcp_valid1 c n)).mono (by rintro _ ⟨_, rfl, rfl⟩; rfl)
def vc_idxV (s : (List Con)) (n : Int) (Post : Int -> Prop) : Prop :=
  ∃ (I1 : Int -> Prop) (μ1 : Int -> Nat), I1 0 /\ ∀ (v8 : Int), I1 v8 -> ((v8 < ((s.length : Nat) : Int)) -> (0 <= v8 /\ v8 < (s.length : Int)) /\ (((!(possM n (lat s v8))) = true) -> Post v8) /\ (¬ ((!(possM n (lat s v8))) = true) -> (inI (v8 + 1)) /\ (I1 (v8 + 1) /\ μ1 (v8 + 1) < μ1 v8))) /\ (¬ (v8 < ((s.length : Nat) : Int)) -> Post (-1))
theorem walk_idxV {s : (List Con)} {n : Int} {Post : Int -> Prop} (hv : vc_idxV s n Post) : FnP Try.prog 69 [.lst true s.length (zYy e66 s), .clo 64 [] [.ipt true [.int .i64 n]]] (fun x => ∃ q0, x = .int .i64 q0 /\ Post q0) := by
 refine FnP.of_walk (T := tt) (nt := 19) ttOk ttMix ⟨⟨Try.f69, Try.func69, rfl, rfl, rfl, rfl⟩⟩ (by simp) ?_
 unfold vc_idxV at hv
 change W _ _ _ ⟨19, look [(0, .lst true s.length (zYy e66 s)), (1, .clo 64 [] [.ipt true [.int .i64 n]])], [], 0⟩ _
 refine W.rL (aI rfl rfl (eL (W.seq' (W.rL (mL rfl rfl (cL rfl (zXq (v := .lst _ _ _) tt28 rfl rfl (mI rfl rfl (eL (W.block ?_))))))))))
 obtain ⟨I1, μ1, hp, hv⟩ := hv
 refine W.loop1 (fun v8 => ⟨19, look [(0, .lst true s.length (zYy e66 s)), (1, .clo 64 [] [.ipt true [.int .i64 n]]), (7, .int .i64 ((s.length : Nat) : Int)), (8, .int .i64 v8)], [], 0⟩) I1 μ1 0 (St.to_mk (φ := []) rfl (rfl) ⟨Ren.lst _ _ _, Ren.clo _ (Rens.nil) (Rens.cons (Ren.ipt _ _) (Rens.nil)), Ren.int _ _, Ren.int _ _, trivial⟩ trivial) hp ?_
 clear hp
 intro v8 hI
 replace hv := hv v8 hI
 clear hI
 refine W.rL (cL rfl (zXw rfl rfl (eL (W.seq' (W.cn rfl (fun hc => ?_) (fun hc => ?_))))))
 have hv := hv.1 hc
 refine W.skip (zZ (W.seq' (W.block (W.rL (mI rfl rfl (aI rfl rfl (eL (W.rL (cL rfl (zZp (v := .clo _ _ _) rfl (mL rfl rfl (mI rfl rfl ?_))))))))))))
 obtain ⟨s11, hv⟩ := hv
 refine cL rfl (zYp tt28 tt66 rfl rfl (enc66.wd true) rfl s11 ?_)
 intro rest11
 refine cL rfl (zXv (cs := [.int _ _, .int _ _, .int _ _, .int _ _]) tt66 rfl rfl ⟨_, rfl⟩ rfl (cL rfl (zZu (k := 64) (fst := []) (caps := [.ipt _ _]) (ys := [.agg _]) rfl rfl (spec_valid1 (lat s v8) n) (Wks.cons (zXr 5 _ (Wks.cons (zZz _ _ _ _) (Wks.cons (zZz _ _ _ _) (Wks.cons (zZz _ _ _ _) (Wks.cons (zZz _ _ _ _) (Wks.refl _)))))) (Wks.cons (ag_ipt _ _ _ _) (Wks.refl _))) (eL (W.tr [(0, .lst _ _ _), (1, .clo _ _ _), (5, .int _ _), (7, .int _ _), (8, .int _ _), (16, .bool _)] [] ⟨rfl, rfl, rfl, rfl, rfl, rfl, trivial⟩ rfl (W.cb rfl (fun hc => ?_) (fun hc => ?_)))))))
 have hv := hv.1 hc
 refine W.rL (mI rfl rfl (aI rfl rfl (eL (W.ret (zXz (zZr (zZr (zXz (zZr (rt (rt_t (v := .int _ _) rfl (rt_n (⟨_, zY _ _ _ _, v8, rfl, hv⟩)))))))))))))
 have hv := hv.2 hc
 refine W.skip (zYq (zZ (W.rL1 ?_)))
 obtain ⟨s12, hv⟩ := hv
 refine cL rfl (o_add rfl rfl s12 (mI rfl rfl (eL (zZ (⟨(), (v8 + 1), hv, St.to_mk (φ := []) rfl (rfl) ⟨Ren.lst _ _ _, Ren.clo _ (Rens.nil) (Rens.cons (Ren.ipt _ _) (Rens.nil)), Ren.int _ _, Ren.int _ _, trivial⟩ trivial⟩)))))
 have hv := hv.2 hc
 refine W.exit (zZt (zZt (zXy (zZ (W.rL (aI rfl rfl (eL (W.ret (rt (rt_t (v := .int _ _) rfl (rt_n (⟨_, zY _ _ _ _, (-1), rfl, hv⟩))))))))))))
theorem vcp_idxV (s : (List Con)) (n : Int) (h0 : s.length <= 1073741824) : vc_idxV s n (fun q0 => q0 = (findIx (fun c => !(possM n c)) s)) := by
  unfold vc_idxV
  refine ⟨fun v => ∃ i : Nat, v = i /\ i <= s.length /\ ∀ j : Nat, j < i -> ¬ (!(possM n (lat s j))) = true, fun v => s.length - v.toNat, ⟨0, rfl, by omega, by omega⟩, ?_⟩
  rintro _ ⟨i, rfl, hi, hj⟩
  refine ⟨fun h1 => ⟨by omega, fun h2 => ?_, fun h2 => ⟨by unfold inI; omega, ⟨i + 1, by omega, by omega, ?_⟩, by dsimp only; omega⟩⟩, fun h1 => ?_⟩
  . exact (findIx_lt (by omega) h2 hj).symm
  . intro j h3
    rcases Nat.lt_or_ge j i with h4 | h4
    . exact hj j h4
    . have : j = i := by omega
      subst this; exact h2
  . exact (findIx_none fun j h3 => hj j (by omega)).symm
theorem spec_idxV (s : (List Con)) (n : Int) (h0 : s.length <= 1073741824) : FnP Try.prog 69 [.lst true s.length (zYy e66 s), .clo 64 [] [.ipt true [.int .i64 n]]] (fun xR => xR = .int .i64 (findIx (fun c => !(possM n c)) s)) :=
  (walk_idxV (vcp_idxV s n h0)).mono (by rintro _ ⟨_, rfl, rfl⟩; rfl)
def vc_conV (s : (List Con)) (n : Int) (Post : Bool -> Prop) : Prop :=
  (s.length <= 1073741824) /\ Post (decide ((0 : Int) <= (findIx (fun c => !(possM n c)) s)))
theorem walk_conV {s : (List Con)} {n : Int} {Post : Bool -> Prop} (hv : vc_conV s n Post) : FnP Try.prog 50 [.lst true s.length (zYy e66 s), .clo 64 [] [.ipt true [.int .i64 n]]] (fun x => ∃ q0, x = .bool q0 /\ Post q0) := by
 refine FnP.of_walk (T := tt) (nt := 9) ttOk ttMix ⟨⟨Try.f50, Try.func50, rfl, rfl, rfl, rfl⟩⟩ (by simp) ?_
 unfold vc_conV at hv
 change W _ _ _ ⟨9, look [(0, .lst true s.length (zYy e66 s)), (1, .clo 64 [] [.ipt true [.int .i64 n]])], [], 0⟩ _
 refine W.rL (aB rfl rfl (eL (W.rL (mL rfl rfl (cL rfl (zZp (v := .clo _ _ _) rfl ?_))))))
 obtain ⟨s1, hv⟩ := hv
 refine cL rfl (zZu (k := 69) (fst := []) (caps := []) (ys := [.lst _ _ _, .clo _ _ _]) rfl rfl (spec_idxV s n s1) (Wks.cons (zZs _ _ _ _ _) (Wks.cons (ag_clo 5 _ _ (Wks.refl _) (Wks.cons (ag_ipt _ _ _ _) (Wks.refl _))) (Wks.refl _))) (cL rfl (o_geq rfl rfl (aB rfl rfl (eL (W.ret (rt (rt_t (v := .bool _) rfl (rt_n (⟨_, zXx _ _ _, (decide ((0 : Int) <= (findIx (fun c => !(possM n c)) s))), rfl, hv⟩))))))))))
theorem vcp_conV (s : (List Con)) (n : Int) (h0 : s.length <= 1073741824) : vc_conV s n (fun q0 => q0 = (!(s.all (possM n)))) := by
  unfold vc_conV
  exact ⟨h0, findIx_nonneg⟩
theorem spec_conV (s : (List Con)) (n : Int) (h0 : s.length <= 1073741824) : FnP Try.prog 50 [.lst true s.length (zYy e66 s), .clo 64 [] [.ipt true [.int .i64 n]]] (fun xR => xR = .bool (!(s.all (possM n)))) :=
  (walk_conV (vcp_conV s n h0)).mono (by rintro _ ⟨_, rfl, rfl⟩; rfl)
def vc_valid (n : Int) (l : (List Con)) (Post : Bool -> Prop) : Prop :=
  (((n < 1) \/ (((24 : Int) < n) \/ ((2000 : Int) < ((l.length : Nat) : Int)))) -> Post false) /\ (¬ ((n < 1) \/ (((24 : Int) < n) \/ ((2000 : Int) < ((l.length : Nat) : Int)))) -> (l.length <= 1073741824) /\ Post (decide (¬ ((!(l.all (possM n))) = true))))
theorem walk_valid {n : Int} {l : (List Con)} {Post : Bool -> Prop} (hv : vc_valid n l Post) : FnP Try.prog 42 [.int .i64 n, .lst true l.length (zYy e66 l)] (fun x => ∃ q0, x = .bool q0 /\ Post q0) := by
 refine FnP.of_walk (T := tt) (nt := 20) ttOk ttMix ⟨⟨Try.f42, Try.func42, rfl, rfl, rfl, rfl⟩⟩ (by simp) ?_
 unfold vc_valid at hv
 change W _ _ _ ⟨20, look [(0, .int .i64 n), (1, .lst true l.length (zYy e66 l))], [], 0⟩ _
 refine W.rL (cL rfl (o_box (v := .int _ _) (p := 0) rfl rfl rfl (aB rfl rfl (eL (W.seq' (W.rLm ⟨20, look [(1, .lst true l.length (zYy e66 l)), (2, .ptr 0 0), (15, .bool (decide ((n < 1) \/ (((24 : Int) < n) \/ ((2000 : Int) < ((l.length : Nat) : Int))))))], [.box 3 [.int .i64 n]], 0⟩ ?_ ?_))))))
 refine cL rfl (zZx (v := .int _ _) tt3 rfl rfl ⟨_, rfl⟩ (cL rfl (zXw rfl rfl (mB rfl rfl ?_))))
 by_cases c1 : n < 1
 iterate 2 refine cLs rfl rfl rfl (dT c1) ?_
 refine cL rfl (zZv (v := .bool _) rfl (dT c1) rfl (mB rfl rfl ?_))
 iterate 3 refine cLs rfl rfl rfl (rfl) ?_
 refine cL rfl (zZv (v := .bool _) rfl rfl rfl (eL (zYz ⟨rfl, rfl, (congrArg AV.bool (dOrT c1)).symm, trivial⟩ rfl)))
 refine cLg rfl rfl (dF c1) (cL rfl (zZx (v := .int _ _) tt3 rfl rfl ⟨_, rfl⟩ (cLg rfl rfl (dF c1) (cL rfl (o_gtr rfl rfl (cL rfl (zZy (v := .bool _) rfl (dF c1) rfl (mB rfl rfl ?_))))))))
 by_cases c2 : (24 : Int) < n
 iterate 3 refine cLs rfl rfl rfl (dT c2) ?_
 refine cL rfl (zZv (v := .bool _) rfl (dT c2) rfl (eL (zYz ⟨rfl, rfl, (congrArg AV.bool (dOrF c1 (dOrT c2))).symm, trivial⟩ rfl)))
 refine cLg rfl rfl (dF c2) (mL rfl rfl (cLg rfl rfl (dF c2) (cL rfl (zXq (v := .lst _ _ _) tt28 rfl rfl (cLg rfl rfl (dF c2) (cL rfl (o_gtr rfl rfl (cL rfl (zZy (v := .bool _) rfl (dF c2) rfl (eL (zYz ⟨rfl, rfl, (congrArg AV.bool (dOrF c1 (dOrF c2 (rfl)))).symm, trivial⟩ rfl)))))))))))
 refine W.cn rfl (fun hc => ?_) (fun hc => ?_)
 have hv := hv.1 hc
 refine W.rL (aB rfl rfl (eL (W.ret (zZr (rt (rt_t (v := .bool _) rfl (rt_n (⟨_, zXx _ _ _, false, rfl, hv⟩))))))))
 have hv := hv.2 hc
 refine W.skip (zZ (W.rL (mL rfl rfl (cL rfl (o_mf (ps := []) (qs := [.ptr _ _]) rfl rfl ?_)))))
 obtain ⟨s1, hv⟩ := hv
 refine cL rfl (zZu (k := 50) (fst := []) (caps := []) (ys := [.lst _ _ _, .clo _ _ _]) rfl rfl (spec_conV l n s1) (Wks.cons (zZs _ _ _ _ _) (Wks.cons (ag_clo 5 _ _ (Wks.refl _) (Wks.cons (ag_box 4 rfl (Wks.cons (zZz _ _ _ _) (Wks.refl _))) (Wks.refl _))) (Wks.refl _))) (cL rfl (o_notB rfl (aB rfl rfl (eL (W.ret (rt (rt_t (v := .bool _) rfl (rt_n (⟨_, zXx _ _ _, (decide (¬ ((!(l.all (possM n))) = true))), rfl, hv⟩))))))))))
theorem vcp_valid (n : Int) (l : (List Con)) (h0 : l.length <= 1073741824) : vc_valid n l (fun q0 => q0 = (validM n l)) := by
  unfold vc_valid
  refine ⟨fun h => ?_, fun h => ⟨h0, ?_⟩⟩
  . unfold validM
    rw [decide_eq_false (by omega)]; rfl
  . unfold validM
    rw [decide_eq_true (by omega)]
    cases l.all (possM n) <;> rfl
theorem spec_valid (n : Int) (l : (List Con)) (h0 : l.length <= 1073741824) : FnP Try.prog 42 [.int .i64 n, .lst true l.length (zYy e66 l)] (fun xR => xR = .bool (validM n l)) :=
  (walk_valid (vcp_valid n l h0)).mono (by rintro _ ⟨_, rfl, rfl⟩; rfl)
def vc_free  (Post : (Vector Int 576) -> Prop) : Prop :=
  ∃ (I1 : Int -> (Vector Int 576) -> Prop) (μ1 : Int -> (Vector Int 576) -> Nat), I1 0 (Vector.replicate 576 0) /\ ∀ (v4 : Int) (m0 : (Vector Int 576)), I1 v4 m0 -> ((v4 < 24) -> ∃ (I2 : Int -> (Vector Int 576) -> Prop) (μ2 : Int -> (Vector Int 576) -> Nat), I2 0 m0 /\ ∀ (v7 : Int) (m0_1 : (Vector Int 576)), I2 v7 m0_1 -> ((v7 < 24) -> ∃ J3 : (Vector Int 576) -> Prop, (∀ (b0 : (Vector Int 576)), J3 b0 -> (inI (v7 + 1)) /\ (I2 (v7 + 1) b0 /\ μ2 (v7 + 1) b0 < μ2 v7 m0_1)) /\ (((¬ v4 = v7) -> (0 <= v4 /\ v4 < ((24 : Nat) : Int)) /\ (0 <= v7 /\ v7 < ((24 : Nat) : Int)) /\ (v4.toNat * 24 + v7.toNat < 576) /\ J3 (vset m0_1 (v4.toNat * 24 + v7.toNat) 1152921504606846976)) /\ (¬ (¬ v4 = v7) -> J3 m0_1))) /\ (¬ (v7 < 24) -> (inI (v4 + 1)) /\ (I1 (v4 + 1) m0_1 /\ μ1 (v4 + 1) m0_1 < μ1 v4 m0))) /\ (¬ (v4 < 24) -> Post m0)
theorem walk_free  {Post : (Vector Int 576) -> Prop} (hv : vc_free Post) : FnH Try.prog 43 [] [] (fun x H => ∃ l q0, H = .box 108 (zYy zYx q0.toList) :: l /\ x = .ptr 0 0 /\ Post q0) := by
 refine FnH.of_walk (T := tt) (nt := 19) ttOk ttMix ⟨⟨Try.f43, Try.func43, rfl, rfl, rfl, rfl⟩⟩ (by simp) (by simp) 0 (by simp) ?_
 unfold vc_free at hv
 change W _ _ _ ⟨19, look [], [], 0⟩ _
 refine W.rL (cL rfl (zZq (v := .nilP) rfl (eL (W.tr [] [] trivial rfl (W.rL (cL rfl (zXs (p := 0) tt108 rfl (ints_zero 576) (eL (W.seq' (W.rL (mI rfl rfl (eL (W.block ?_)))))))))))))
 obtain ⟨I1, μ1, hp, hv⟩ := hv
 refine W.loop2 (fun v4 m0 => ⟨19, look [(1, .ptr 0 0), (4, .int .i64 v4)], [.box 108 (zYy zYx m0.toList)], 0⟩) I1 μ1 0 (Vector.replicate 576 0) (St.to_mk (φ := [some 0]) rfl (rfl) ⟨Ren.ptr rfl, Ren.int _ _, trivial⟩ ⟨.inr ⟨_, rfl, rfl, Rens.enc zZw true _⟩, trivial⟩) hp ?_
 clear hp
 intro v4 m0 hI
 replace hv := hv v4 m0 hI
 clear hI
 refine W.rL (cL rfl (zXw rfl rfl (eL (W.seq' (W.cn rfl (fun hc => ?_) (fun hc => ?_))))))
 have hv := hv.1 hc
 refine W.skip (zZ (W.seq' (W.block (W.rL (mI rfl rfl (aI rfl rfl (eL (W.rL (mI rfl rfl (eL (W.block ?_)))))))))))
 obtain ⟨I2, μ2, hp, hv⟩ := hv
 refine W.loop2 (fun v7 m0_1 => ⟨19, look [(1, .ptr 0 0), (2, .int .i64 v4), (4, .int .i64 v4), (7, .int .i64 v7)], [.box 108 (zYy zYx m0_1.toList)], 0⟩) I2 μ2 0 m0 (St.to_mk (φ := [some 0]) rfl (rfl) ⟨Ren.ptr rfl, Ren.int _ _, Ren.int _ _, Ren.int _ _, trivial⟩ ⟨.inr ⟨_, rfl, rfl, Rens.enc zZw true _⟩, trivial⟩) hp ?_
 clear hp
 intro v7 m0_1 hI
 replace hv := hv v7 m0_1 hI
 clear hI
 refine W.rL (cL rfl (zXw rfl rfl (eL (W.seq' (W.cn rfl (fun hc => ?_) (fun hc => ?_))))))
 have hv := hv.1 hc
 refine W.skip (zZ ?_)
 obtain ⟨J3, hj, hv⟩ := hv
 refine W.mid1 (fun b0 => ⟨19, look [(1, .ptr 0 0), (2, .int .i64 v4), (4, .int .i64 v4), (7, .int .i64 v7)], [.box 108 (zYy zYx b0.toList)], 0⟩) J3 ?_ ?_
 intro b0
 intro hv
 replace hv := hj b0 hv
 refine W.rL1 ?_
 obtain ⟨s254, hv⟩ := hv
 refine cL rfl (o_add rfl rfl s254 (mI rfl rfl (eL (zZ (⟨(), (v7 + 1), b0, hv, St.to_mk (φ := [some 0]) rfl (rfl) ⟨Ren.ptr rfl, Ren.int _ _, Ren.int _ _, Ren.int _ _, trivial⟩ ⟨.inr ⟨_, rfl, rfl, Rens.enc zZw true _⟩, trivial⟩⟩)))))
 clear hj
 refine W.block (W.rL (mI rfl rfl (aI rfl rfl (eL (W.rL ?_)))))
 iterate 2 refine mI rfl rfl ?_
 refine cL rfl (o_neI rfl rfl rfl (eL (W.cn rfl (fun hc => ?_) (fun hc => ?_))))
 have hv := hv.1 hc
 refine W.rL1 ?_
 iterate 2 refine mI rfl rfl ?_
 obtain ⟨s255, hv⟩ := hv
 refine cL rfl (o_iaA tt108 tt104 rfl rfl s255 (Nat.zero_add _) ?_)
 obtain ⟨s256, hv⟩ := hv
 refine cL rfl (o_iaA tt104 tt3 rfl rfl s256 (by rw [Nat.mul_one]) ?_)
 obtain ⟨s257, hv⟩ := hv
 refine cLn (o_stB (v := .int _ _) tt3 rfl rfl rfl rfl rfl (by rw [zXu]; exact s257) (ints_set _ _ _) (eL (zYq (zZ (⟨(), (vset m0_1 (v4.toNat * 24 + v7.toNat) 1152921504606846976), hv, St.to_mk (φ := [some 0]) rfl (rfl) ⟨Ren.ptr rfl, Ren.int _ _, Ren.int _ _, Ren.int _ _, trivial⟩ ⟨.inr ⟨_, rfl, rfl, Rens.enc zZw true _⟩, trivial⟩⟩)))))
 have hv := hv.2 hc
 refine W.skip (zYq (zZ (⟨(), m0_1, hv, St.to_mk (φ := [some 0]) rfl (rfl) ⟨Ren.ptr rfl, Ren.int _ _, Ren.int _ _, Ren.int _ _, trivial⟩ ⟨.inr ⟨_, rfl, rfl, Rens.enc zZw true _⟩, trivial⟩⟩)))
 have hv := hv.2 hc
 refine W.exit (zZt (zZt (zXy (zYq (zZ (W.rL1 ?_))))))
 obtain ⟨s258, hv⟩ := hv
 refine cL rfl (o_add rfl rfl s258 (mI rfl rfl (eL (zZ (⟨(), (v4 + 1), m0_1, hv, St.to_mk (φ := [some 0]) rfl (rfl) ⟨Ren.ptr rfl, Ren.int _ _, trivial⟩ ⟨.inr ⟨_, rfl, rfl, Rens.enc zZw true _⟩, trivial⟩⟩)))))
 have hv := hv.2 hc
 refine W.exit (zZt (zZt (zXy (zZ (W.rL (cL rfl (zZq (v := .ptr _ _) rfl (eL (W.to (st' := ⟨19, look [(0, .ptr 0 0)], [.box 108 (zYy zYx m0.toList)], 0⟩) (St.to_mk (φ := [some 0]) rfl rfl ⟨Ren.ptr rfl, trivial⟩ ⟨.inr ⟨_, rfl, rfl, Rens.enc zZw true _⟩, trivial⟩) (W.ret (rt (rt_t (v := .ptr _ _) rfl (rt_n (⟨_, m0, rfl, rfl, hv⟩))))))))))))))
theorem vcp_free   : vc_free (fun q0 => q0 = freeM) := by
  unfold vc_free
  have hNB : NB = 1152921504606846976 := rfl
  refine ⟨fun v m => ∃ i : Nat, v = i /\ i <= 24 /\ ∀ k, k < 576 -> vat m k = if k / 24 < i /\ ¬ k / 24 = k % 24 then NB else 0, fun v _ => 24 - v.toNat, ⟨0, rfl, by omega, fun k hk => by rw [vat_rep hk]; simp⟩, ?_⟩
  rintro _ m0 ⟨i, rfl, hi, hm⟩
  refine ⟨fun h1 => ⟨fun v m => ∃ j : Nat, v = j /\ j <= 24 /\ ∀ k, k < 576 -> vat m k = if (k / 24 < i \/ k / 24 = i /\ k % 24 < j) /\ ¬ k / 24 = k % 24 then NB else 0, fun v _ => 24 - v.toNat, ⟨0, rfl, by omega, fun k hk => ?_⟩, ?_⟩, fun h1 => ?_⟩
  . rw [hm k hk]; split <;> split <;> omega
  . rintro _ m1 ⟨j, rfl, hj, hk⟩
    refine ⟨fun h2 => ⟨fun b => ∀ k, k < 576 -> vat b k = if (k / 24 < i \/ k / 24 = i /\ k % 24 < j + 1) /\ ¬ k / 24 = k % 24 then NB else 0, fun b hb => ⟨by unfold inI; omega, ⟨j + 1, by omega, by omega, hb⟩, by dsimp only; omega⟩, fun h3 => ⟨by omega, by omega, by omega, ?_⟩, fun h3 => ?_⟩, fun h2 => ⟨by unfold inI; omega, ⟨i + 1, by omega, by omega, ?_⟩, by dsimp only; omega⟩⟩
    . intro k hk1
      rw [vat_vset (by omega), hk k hk1]
      simp only [Int.toNat_natCast]
      split <;> split <;> (try split) <;> omega
    . intro k hk1
      rw [hk k hk1]; split <;> split <;> omega
    . intro k hk1
      rw [hk k hk1]; split <;> split <;> omega
  . refine vec_ext fun k hk => ?_
    rw [hm k hk]
    unfold freeM
    rw [vat_ofFn hk]
    dsimp only
    split <;> split <;> omega
theorem spec_free   : FnH Try.prog 43 [] [] (fun xR H => ∃ l, H = .box 108 (zYy zYx (freeM).toList) :: l /\ xR = .ptr 0 0) :=
  (walk_free (vcp_free)).mono (by rintro _ _ ⟨l, _, h1, h2, rfl⟩; exact ⟨l, h1, h2⟩)
def vc_plus (a : Int) (b : Int) (Post : Int -> Prop) : Prop :=
  (((a = 1152921504606846976) \/ (b = 1152921504606846976)) -> Post 1152921504606846976) /\ (¬ ((a = 1152921504606846976) \/ (b = 1152921504606846976)) -> (inI (a + b)) /\ Post (a + b))
theorem walk_plus {a : Int} {b : Int} {Post : Int -> Prop} (hv : vc_plus a b Post) : FnP Try.prog 66 [.int .i64 a, .int .i64 b] (fun x => ∃ q0, x = .int .i64 q0 /\ Post q0) := by
 refine FnP.of_walk (T := tt) (nt := 14) ttOk ttMix ⟨⟨Try.f66, Try.func66, rfl, rfl, rfl, rfl⟩⟩ (by simp) ?_
 unfold vc_plus at hv
 change W _ _ _ ⟨14, look [(0, .int .i64 a), (1, .int .i64 b)], [], 0⟩ _
 refine W.rL (aI rfl rfl (eL (W.seq' (W.rLm ⟨14, look [(0, .int .i64 a), (1, .int .i64 b), (10, .bool (decide ((a = 1152921504606846976) \/ (b = 1152921504606846976))))], [], 0⟩ ?_ ?_))))
 refine mI rfl rfl (cL rfl (o_eqI rfl rfl rfl (mB rfl rfl ?_)))
 by_cases c1 : a = 1152921504606846976
 iterate 2 refine cLs rfl rfl rfl (dT c1) ?_
 refine cL rfl (zZv (v := .bool _) rfl (dT c1) rfl (eL (zYz ⟨rfl, rfl, (congrArg AV.bool (dOrT c1)).symm, trivial⟩ rfl)))
 refine cLg rfl rfl (dF c1) (mI rfl rfl (cLg rfl rfl (dF c1) (cL rfl (o_eqI rfl rfl rfl (cL rfl (zZy (v := .bool _) rfl (dF c1) rfl (eL (zYz ⟨rfl, rfl, (congrArg AV.bool (dOrF c1 (rfl))).symm, trivial⟩ rfl))))))))
 refine W.cn rfl (fun hc => ?_) (fun hc => ?_)
 have hv := hv.1 hc
 refine W.rL (aI rfl rfl (eL (W.ret (zZr (rt (rt_t (v := .int _ _) rfl (rt_n (⟨_, zY _ _ _ _, 1152921504606846976, rfl, hv⟩))))))))
 have hv := hv.2 hc
 refine W.skip (zZ (W.rL ?_))
 iterate 2 refine mI rfl rfl ?_
 obtain ⟨s1, hv⟩ := hv
 refine cL rfl (o_add rfl rfl s1 (aI rfl rfl (eL (W.ret (rt (rt_t (v := .int _ _) rfl (rt_n (⟨_, zY _ _ _ _, (a + b), rfl, hv⟩))))))))
theorem vcp_plus (a : Int) (b : Int) (h0 : ¬ a = NB -> ¬ b = NB -> inI (a + b)) : vc_plus a b (fun q0 => q0 = (zW a b)) := by
  unfold vc_plus zW
  refine ⟨fun h => by simp only [h, if_true, NB], fun h => ?_⟩
  have ha : ¬ a = NB := fun e => h (.inl e)
  have hb : ¬ b = NB := fun e => h (.inr e)
  exact ⟨h0 ha hb, by simp only [ha, hb, or_self, if_false]⟩
theorem spec_plus (a : Int) (b : Int) (h0 : ¬ a = NB -> ¬ b = NB -> inI (a + b)) : FnP Try.prog 66 [.int .i64 a, .int .i64 b] (fun xR => xR = .int .i64 (zW a b)) :=
  (walk_plus (vcp_plus a b h0)).mono (by rintro _ ⟨_, rfl, rfl⟩; rfl)
def vc_add (m : (Vector Int 576)) (f : Int) (t : Int) (w : Int) (Post : (Vector Int 576) -> Bool -> Prop) : Prop :=
  (0 <= t /\ t < ((24 : Nat) : Int)) /\ (0 <= f /\ f < ((24 : Nat) : Int)) /\ (t.toNat * 24 + f.toNat < 576) /\ (¬ w = NB -> ¬ (vat m (t.toNat * 24 + f.toNat)) = NB -> inI (w + (vat m (t.toNat * 24 + f.toNat)))) /\ (((zW w (vat m (t.toNat * 24 + f.toNat))) < 0) -> Post m false) /\ (¬ ((zW w (vat m (t.toNat * 24 + f.toNat))) < 0) -> (0 <= f /\ f < ((24 : Nat) : Int)) /\ (0 <= t /\ t < ((24 : Nat) : Int)) /\ (f.toNat * 24 + t.toNat < 576) /\ (((vat m (f.toNat * 24 + t.toNat)) <= w) -> Post m true) /\ (¬ ((vat m (f.toNat * 24 + t.toNat)) <= w) -> ∃ (I1 : Int -> (Vector Int 576) -> Prop) (μ1 : Int -> (Vector Int 576) -> Nat), I1 0 m /\ ∀ (v34 : Int) (m0 : (Vector Int 576)), I1 v34 m0 -> ((v34 < 24) -> ∃ J2 : (Vector Int 576) -> Prop, (∀ (b0 : (Vector Int 576)), J2 b0 -> (inI (v34 + 1)) /\ (I1 (v34 + 1) b0 /\ μ1 (v34 + 1) b0 < μ1 v34 m0)) /\ ((0 <= v34 /\ v34 < ((24 : Nat) : Int)) /\ (0 <= f /\ f < ((24 : Nat) : Int)) /\ (v34.toNat * 24 + f.toNat < 576) /\ ((vat m (v34.toNat * 24 + f.toNat) = 1152921504606846976) -> J2 m0) /\ (¬ (vat m (v34.toNat * 24 + f.toNat) = 1152921504606846976) -> ∃ (I3 : Int -> (Vector Int 576) -> Prop) (μ3 : Int -> (Vector Int 576) -> Nat), I3 0 m0 /\ ∀ (v43 : Int) (m0_1 : (Vector Int 576)), I3 v43 m0_1 -> ((v43 < 24) -> (0 <= v34 /\ v34 < ((24 : Nat) : Int)) /\ (0 <= v43 /\ v43 < ((24 : Nat) : Int)) /\ (v34.toNat * 24 + v43.toNat < 576) /\ (0 <= v34 /\ v34 < ((24 : Nat) : Int)) /\ (0 <= f /\ f < ((24 : Nat) : Int)) /\ (v34.toNat * 24 + f.toNat < 576) /\ (inI ((vat m (v34.toNat * 24 + f.toNat)) + w)) /\ (0 <= t /\ t < ((24 : Nat) : Int)) /\ (0 <= v43 /\ v43 < ((24 : Nat) : Int)) /\ (t.toNat * 24 + v43.toNat < 576) /\ (0 <= v34 /\ v34 < ((24 : Nat) : Int)) /\ (¬ ((vat m (v34.toNat * 24 + f.toNat)) + w) = NB -> ¬ (vat m (t.toNat * 24 + v43.toNat)) = NB -> inI (((vat m (v34.toNat * 24 + f.toNat)) + w) + (vat m (t.toNat * 24 + v43.toNat)))) /\ (0 <= v43 /\ v43 < ((24 : Nat) : Int)) /\ (v34.toNat * 24 + v43.toNat < 576) /\ (inI (v43 + 1)) /\ (I3 (v43 + 1) (vset m0_1 (v34.toNat * 24 + v43.toNat) (min (vat m0_1 (v34.toNat * 24 + v43.toNat)) (zW ((vat m (v34.toNat * 24 + f.toNat)) + w) (vat m (t.toNat * 24 + v43.toNat))))) /\ μ3 (v43 + 1) (vset m0_1 (v34.toNat * 24 + v43.toNat) (min (vat m0_1 (v34.toNat * 24 + v43.toNat)) (zW ((vat m (v34.toNat * 24 + f.toNat)) + w) (vat m (t.toNat * 24 + v43.toNat))))) < μ3 v43 m0_1)) /\ (¬ (v43 < 24) -> J2 m0_1)))) /\ (¬ (v34 < 24) -> Post m0 true)))
theorem walk_add {m : (Vector Int 576)} {f : Int} {t : Int} {w : Int} {Post : (Vector Int 576) -> Bool -> Prop} (hv : vc_add m f t w Post) : FnH Try.prog 44 [.box 108 (zYy zYx m.toList)] [.ptr 0 0, .int .i64 f, .int .i64 t, .int .i64 w] (fun x H => ∃ l q0 q1, H = .box 108 (zYy zYx q0.toList) :: l /\ x = .bool q1 /\ Post q0 q1) := by
 refine FnH.of_walk (T := tt) (nt := 75) ttOk ttMix ⟨⟨Try.f44, Try.func44, rfl, rfl, rfl, rfl⟩⟩ (by simp) (by simp) 1 (by simp) ?_
 unfold vc_add at hv
 change W _ _ _ ⟨75, look [(0, .ptr 0 0), (1, .int .i64 f), (2, .int .i64 t), (3, .int .i64 w)], [.box 108 (zYy zYx m.toList)], 1⟩ _
 refine W.rL (aB rfl rfl (eL (W.seq' (W.rL (mI rfl rfl (cL rfl (zZp (v := .ptr _ _) rfl ?_)))))))
 iterate 2 refine mI rfl rfl ?_
 refine cL rfl (o_nil rfl ?_)
 obtain ⟨s5, hv⟩ := hv
 refine cL rfl (o_iaA tt108 tt104 rfl rfl s5 (Nat.zero_add _) ?_)
 obtain ⟨s6, hv⟩ := hv
 refine cL rfl (o_iaA tt104 tt3 rfl rfl s6 (by rw [Nat.mul_one]) ?_)
 obtain ⟨s7, hv⟩ := hv
 refine cL rfl (zZx tt3 rfl rfl (ca_vec rfl s7) ?_)
 obtain ⟨s8, hv⟩ := hv
 refine cL rfl (zZu (k := 66) (fst := []) (caps := []) (ys := [.int _ _, .int _ _]) rfl rfl (spec_plus w (vat m (t.toNat * 24 + f.toNat)) s8) (Wks.cons (zZz _ _ _ _) (Wks.cons (zZz _ _ _ _) (Wks.refl _))) (cL rfl (zXw rfl rfl (eL (W.cn rfl (fun hc => ?_) (fun hc => ?_))))))
 have hv := hv.1 hc
 refine W.rL (aB rfl rfl (eL (W.ret (zZr (rt (rt_t (v := .bool _) rfl (rt_n (⟨_, m, false, rfl, rfl, hv⟩))))))))
 have hv := hv.2 hc
 refine W.skip (zZ (W.seq' (W.rL (cL rfl (zZp (v := .ptr _ _) rfl ?_)))))
 iterate 2 refine mI rfl rfl ?_
 refine cL rfl (o_nil rfl ?_)
 obtain ⟨s12, hv⟩ := hv
 refine cL rfl (o_iaA tt108 tt104 rfl rfl s12 (Nat.zero_add _) ?_)
 obtain ⟨s13, hv⟩ := hv
 refine cL rfl (o_iaA tt104 tt3 rfl rfl s13 (by rw [Nat.mul_one]) ?_)
 obtain ⟨s14, hv⟩ := hv
 refine cL rfl (zZx tt3 rfl rfl (ca_vec rfl s14) (mI rfl rfl (cL rfl (o_leq rfl rfl (eL (W.tr [(0, .ptr _ _), (1, .int _ _), (2, .int _ _), (3, .int _ _), (30, .bool _)] [.box _ _] ⟨rfl, rfl, rfl, rfl, rfl, trivial⟩ rfl (W.cn rfl (fun hc => ?_) (fun hc => ?_))))))))
 have hv := hv.1 hc
 refine W.rL (aB rfl rfl (eL (W.ret (zZr (rt (rt_t (v := .bool _) rfl (rt_n (⟨_, m, true, rfl, rfl, hv⟩))))))))
 have hv := hv.2 hc
 refine W.skip (zZ (W.rL (cL rfl (zZp (v := .ptr _ _) rfl (cL rfl (o_nil rfl (cL rfl (zXv tt108 rfl rfl (ca_all rfl) (zXu _) (cL rfl (zXs (p := 1) tt108 rfl (ints_zero 576) (cLn (o_stB (v := .agg _) tt108 rfl rfl rfl (zXu _) rfl (vec_in (zXu _) (zXu _)) (spl_all _ _ ((zXu _).trans (zXu _).symm)) (eL (W.tr [(0, .ptr _ _), (1, .int _ _), (2, .int _ _), (3, .int _ _), (9, .ptr _ _)] [.box _ _, .box _ _] ⟨rfl, rfl, rfl, rfl, rfl, trivial⟩ rfl (W.seq' (W.rL (mI rfl rfl (eL (W.block ?_)))))))))))))))))))
 obtain ⟨I1, μ1, hp, hv⟩ := hv
 refine W.loop2 (fun v34 m0 => ⟨75, look [(0, .ptr 0 0), (1, .int .i64 f), (2, .int .i64 t), (3, .int .i64 w), (9, .ptr 1 0), (34, .int .i64 v34)], [.box 108 (zYy zYx m0.toList), .box 108 (zYy zYx m.toList)], 1⟩) I1 μ1 0 m (St.to_mk (φ := [some 0, some 1]) rfl (rfl) ⟨Ren.ptr rfl, Ren.int _ _, Ren.int _ _, Ren.int _ _, Ren.ptr rfl, Ren.int _ _, trivial⟩ ⟨.inr ⟨_, rfl, rfl, Rens.enc zZw true _⟩, .inr ⟨_, rfl, rfl, Rens.enc zZw true _⟩, trivial⟩) hp ?_
 clear hp
 intro v34 m0 hI
 replace hv := hv v34 m0 hI
 clear hI
 refine W.rL (cL rfl (zXw rfl rfl (eL (W.seq' (W.cn rfl (fun hc => ?_) (fun hc => ?_))))))
 have hv := hv.1 hc
 refine W.skip (zZ ?_)
 obtain ⟨J2, hj, hv⟩ := hv
 refine W.mid1 (fun b0 => ⟨75, look [(0, .ptr 0 0), (1, .int .i64 f), (2, .int .i64 t), (3, .int .i64 w), (9, .ptr 1 0), (34, .int .i64 v34)], [.box 108 (zYy zYx b0.toList), .box 108 (zYy zYx m.toList)], 1⟩) J2 ?_ ?_
 intro b0
 intro hv
 replace hv := hj b0 hv
 refine W.rL1 ?_
 obtain ⟨s1043, hv⟩ := hv
 refine cL rfl (o_add rfl rfl s1043 (mI rfl rfl (eL (zZ (⟨(), (v34 + 1), b0, hv, St.to_mk (φ := [some 0, some 1]) rfl (rfl) ⟨Ren.ptr rfl, Ren.int _ _, Ren.int _ _, Ren.int _ _, Ren.ptr rfl, Ren.int _ _, trivial⟩ ⟨.inr ⟨_, rfl, rfl, Rens.enc zZw true _⟩, .inr ⟨_, rfl, rfl, Rens.enc zZw true _⟩, trivial⟩⟩)))))
 clear hj
 refine W.block (W.rL (mI rfl rfl (aI rfl rfl (eL (W.seq' (W.rL ?_))))))
 iterate 2 refine mI rfl rfl ?_
 obtain ⟨s1047, hv⟩ := hv
 refine cL rfl (o_iaA tt108 tt104 rfl rfl s1047 (Nat.zero_add _) ?_)
 obtain ⟨s1048, hv⟩ := hv
 refine cL rfl (o_iaA tt104 tt3 rfl rfl s1048 (by rw [Nat.mul_one]) ?_)
 obtain ⟨s1049, hv⟩ := hv
 refine cL rfl (zZx tt3 rfl rfl (ca_vec rfl s1049) (cL rfl (o_eqI rfl rfl rfl (eL (W.cn rfl (fun hc => ?_) (fun hc => ?_))))))
 have hv := hv.1 hc
 refine W.exit (zZt (zXy (zZ (⟨(), m0, hv, St.to_mk (φ := [some 0, some 1]) rfl (rfl) ⟨Ren.ptr rfl, Ren.int _ _, Ren.int _ _, Ren.int _ _, Ren.ptr rfl, Ren.int _ _, trivial⟩ ⟨.inr ⟨_, rfl, rfl, Rens.enc zZw true _⟩, .inr ⟨_, rfl, rfl, Rens.enc zZw true _⟩, trivial⟩⟩))))
 have hv := hv.2 hc
 refine W.skip (zZ (W.rL (mI rfl rfl (eL (W.block ?_)))))
 obtain ⟨I3, μ3, hp, hv⟩ := hv
 refine W.loop2 (fun v43 m0_1 => ⟨75, look [(0, .ptr 0 0), (1, .int .i64 f), (2, .int .i64 t), (3, .int .i64 w), (9, .ptr 1 0), (10, .int .i64 v34), (34, .int .i64 v34), (43, .int .i64 v43)], [.box 108 (zYy zYx m0_1.toList), .box 108 (zYy zYx m.toList)], 1⟩) I3 μ3 0 m0 (St.to_mk (φ := [some 0, some 1]) rfl (rfl) ⟨Ren.ptr rfl, Ren.int _ _, Ren.int _ _, Ren.int _ _, Ren.ptr rfl, Ren.int _ _, Ren.int _ _, Ren.int _ _, trivial⟩ ⟨.inr ⟨_, rfl, rfl, Rens.enc zZw true _⟩, .inr ⟨_, rfl, rfl, Rens.enc zZw true _⟩, trivial⟩) hp ?_
 clear hp
 intro v43 m0_1 hI
 replace hv := hv v43 m0_1 hI
 clear hI
 refine W.rL (cL rfl (zXw rfl rfl (eL (W.seq' (W.cn rfl (fun hc => ?_) (fun hc => ?_))))))
 have hv := hv.1 hc
 refine W.skip (zZ (W.seq' (W.block (W.rL (mI rfl rfl (aI rfl rfl (eL (W.rP1 [0, 1, 2, 3, 4, 5, 6, 7, 8, 9, 10, 11, 12, 13, 14, 15, 16, 17, 18, 19, 20, 21, 24, 25, 22, 23, 26, 27] (by decide +kernel) rfl (cL rfl (zZp (v := .ptr _ _) rfl ?_))))))))))
 iterate 2 refine mI rfl rfl ?_
 refine cL rfl (zZp (v := .ptr _ _) rfl ?_)
 iterate 2 refine mI rfl rfl ?_
 refine cL rfl (o_nil rfl ?_)
 obtain ⟨s1122, hv⟩ := hv
 refine cL rfl (o_iaA tt108 tt104 rfl rfl s1122 (Nat.zero_add _) ?_)
 obtain ⟨s1123, hv⟩ := hv
 refine cL rfl (o_iaA tt104 tt3 rfl rfl s1123 (by rw [Nat.mul_one]) ?_)
 obtain ⟨s1124, hv⟩ := hv
 refine cL rfl (zZx tt3 rfl rfl (ca_vec rfl s1124) ?_)
 iterate 2 refine mI rfl rfl ?_
 obtain ⟨s1125, hv⟩ := hv
 refine cL rfl (o_iaA tt108 tt104 rfl rfl s1125 (Nat.zero_add _) ?_)
 obtain ⟨s1126, hv⟩ := hv
 refine cL rfl (o_iaA tt104 tt3 rfl rfl s1126 (by rw [Nat.mul_one]) ?_)
 obtain ⟨s1127, hv⟩ := hv
 refine cL rfl (zZx tt3 rfl rfl (ca_vec rfl s1127) (mI rfl rfl ?_))
 obtain ⟨s1128, hv⟩ := hv
 refine cL rfl (o_add rfl rfl s1128 ?_)
 iterate 2 refine mI rfl rfl ?_
 obtain ⟨s1129, hv⟩ := hv
 refine cL rfl (o_iaA tt108 tt104 rfl rfl s1129 (Nat.zero_add _) ?_)
 obtain ⟨s1130, hv⟩ := hv
 refine cL rfl (o_iaA tt104 tt3 rfl rfl s1130 (by rw [Nat.mul_one]) ?_)
 obtain ⟨s1131, hv⟩ := hv
 refine cL rfl (zZx tt3 rfl rfl (ca_vec rfl s1131) (cL rfl (o_nil rfl ?_)))
 obtain ⟨s1132, hv⟩ := hv
 refine cL rfl (o_iaA tt108 tt104 rfl rfl s1132 (Nat.zero_add _) ?_)
 obtain ⟨s1133, hv⟩ := hv
 refine cL rfl (zZu (k := 66) (fst := []) (caps := []) (ys := [.int _ _, .int _ _]) rfl rfl (spec_plus ((vat m (v34.toNat * 24 + f.toNat)) + w) (vat m (t.toNat * 24 + v43.toNat)) s1133) (Wks.cons (zZz _ _ _ _) (Wks.cons (zZz _ _ _ _) (Wks.refl _))) (cL rfl (o_min rfl rfl ?_)))
 obtain ⟨s1134, hv⟩ := hv
 refine cL rfl (o_iaA tt104 tt3 rfl rfl s1134 (by rw [Nat.mul_one]) ?_)
 obtain ⟨s1135, hv⟩ := hv
 refine cLn (o_stB (v := .int _ _) tt3 rfl rfl rfl rfl rfl (by rw [zXu]; exact s1135) (ints_set _ _ _) (eL (zYq (zZ (W.tr [(0, .ptr _ _), (1, .int _ _), (2, .int _ _), (3, .int _ _), (9, .ptr _ _), (10, .int _ _), (34, .int _ _), (43, .int _ _)] [.box _ _, .box _ _] ⟨rfl, rfl, rfl, rfl, rfl, rfl, rfl, rfl, trivial⟩ rfl (W.rL1 ?_))))))
 obtain ⟨s1136, hv⟩ := hv
 refine cL rfl (o_add rfl rfl s1136 (mI rfl rfl (eL (zZ (⟨(), (v43 + 1), (vset m0_1 (v34.toNat * 24 + v43.toNat) (min (vat m0_1 (v34.toNat * 24 + v43.toNat)) (zW ((vat m (v34.toNat * 24 + f.toNat)) + w) (vat m (t.toNat * 24 + v43.toNat))))), hv, St.to_mk (φ := [some 0, some 1]) rfl (rfl) ⟨Ren.ptr rfl, Ren.int _ _, Ren.int _ _, Ren.int _ _, Ren.ptr rfl, Ren.int _ _, Ren.int _ _, Ren.int _ _, trivial⟩ ⟨.inr ⟨_, rfl, rfl, Rens.enc zZw true _⟩, .inr ⟨_, rfl, rfl, Rens.enc zZw true _⟩, trivial⟩⟩)))))
 have hv := hv.2 hc
 refine W.exit (zZt (zZt (zXy (zYq (zZ (⟨(), m0_1, hv, St.to_mk (φ := [some 0, some 1]) rfl (rfl) ⟨Ren.ptr rfl, Ren.int _ _, Ren.int _ _, Ren.int _ _, Ren.ptr rfl, Ren.int _ _, trivial⟩ ⟨.inr ⟨_, rfl, rfl, Rens.enc zZw true _⟩, .inr ⟨_, rfl, rfl, Rens.enc zZw true _⟩, trivial⟩⟩))))))
 have hv := hv.2 hc
 refine W.exit (zZt (zZt (zXy (zZ (W.rL (aB rfl rfl (eL (W.ret (rt (rt_t (v := .bool _) rfl (rt_n (⟨_, m0, true, rfl, rfl, hv⟩))))))))))))
theorem vcp_add (m : (Vector Int 576)) (f : Int) (t : Int) (w : Int) (h0 : AddOk m f t w) : vc_add m f t w (fun q0 q1 => q0 = (addM m f t w).2 /\ q1 = (addM m f t w).1) := by
  unfold vc_add
  obtain ⟨hf, ht, hw, hm⟩ := h0
  obtain ⟨f, rfl⟩ : ∃ k : Nat, f = k := ⟨f.toNat, by omega⟩
  obtain ⟨t, rfl⟩ : ∃ k : Nat, t = k := ⟨t.toNat, by omega⟩
  simp only [Int.toNat_natCast]
  refine ⟨by omega, by omega, by omega, fun _ _ => by have := hm (t * 24 + f); unfold inI; omega, fun h1 => ?_, fun h1 => ⟨by omega, by omega, by omega, fun h2 => ?_, fun h2 => ?_⟩⟩
  . rw [addM_neg h1]; exact ⟨rfl, rfl⟩
  . rw [addM_le h1 h2]; exact ⟨rfl, rfl⟩
  have ha : addM m f t w = (true, relaxM m f t w) := addM_relax h1 h2
  rw [ha]
  refine ⟨fun v b => ∃ i : Nat, v = i /\ i <= 24 /\ ∀ k, k < 576 -> vat b k = if k / 24 < i then vat (relaxM m f t w) k else vat m k, fun v _ => 24 - v.toNat, ⟨0, rfl, by omega, fun k hk => by simp⟩, ?_⟩
  rintro _ m0 ⟨i, rfl, hi, h3⟩
  refine ⟨fun h4 => ⟨fun b => ∀ k, k < 576 -> vat b k = if k / 24 < i + 1 then vat (relaxM m f t w) k else vat m k, fun b hb => ⟨by unfold inI; omega, ⟨i + 1, by omega, by omega, hb⟩, by dsimp only; omega⟩, by omega, by omega, by simp only [Int.toNat_natCast]; omega, fun h5 => ?_, fun h5 => ?_⟩, fun h4 => ⟨vec_ext fun k hk => ?_, rfl⟩⟩
  . intro k hk
    rw [h3 k hk]
    by_cases e : k / 24 = i
    . rw [if_neg (by omega), if_pos (by omega), vat_relax hk, e, if_pos (by simpa using h5)]
    . split <;> split <;> omega
  . simp only [Int.toNat_natCast] at h5 ⊢
    refine ⟨fun v b => ∃ j : Nat, v = j /\ j <= 24 /\ ∀ k, k < 576 -> vat b k = if k / 24 < i \/ k / 24 = i /\ k % 24 < j then vat (relaxM m f t w) k else vat m k, fun v _ => 24 - v.toNat, ⟨0, rfl, by omega, fun k hk => ?_⟩, ?_⟩
    . rw [h3 k hk]; split <;> split <;> omega
    rintro _ m1 ⟨j, rfl, hj, h6⟩
    simp only [Int.toNat_natCast]
    have m1' := hm (i * 24 + f)
    have m2' := hm (t * 24 + j)
    refine ⟨fun h7 => ⟨by omega, by omega, by omega, by omega, by omega, by omega, by unfold inI; omega, by omega, by omega, by omega, by omega, fun _ _ => by unfold inI; omega, by omega, by omega, by unfold inI; omega, ⟨j + 1, by omega, by omega, ?_⟩, by omega⟩, fun h7 => ?_⟩
    . intro k hk
      rw [vat_vset (by omega)]
      by_cases e : k = i * 24 + j
      . subst e
        have e1 : (i * 24 + j) / 24 = i := by omega
        have e2 : (i * 24 + j) % 24 = j := by omega
        rw [if_pos rfl, h6 _ hk, vat_relax hk, e1, e2, if_neg (by omega), if_pos (by omega), if_neg h5]
      . rw [if_neg e, h6 k hk]
        split <;> split <;> omega
    . intro k hk
      rw [h6 k hk]
      split <;> split <;> omega
  . rw [h3 k hk, if_pos (by omega)]
theorem spec_add (m : (Vector Int 576)) (f : Int) (t : Int) (w : Int) (h0 : AddOk m f t w) : FnH Try.prog 44 [.box 108 (zYy zYx m.toList)] [.ptr 0 0, .int .i64 f, .int .i64 t, .int .i64 w] (fun xR H => ∃ l, H = .box 108 (zYy zYx ((addM m f t w).2).toList) :: l /\ xR = .bool (addM m f t w).1) :=
  (walk_add (vcp_add m f t w h0)).mono (by rintro _ _ ⟨l, _, _, h1, h2, rfl, rfl⟩; exact ⟨l, h1, h2⟩)
def vc_longer (w : Wlk) (d : (Vector Int 24)) (above : Int) (Post : (Vector Int 24) -> Prop) : Prop :=
  ∃ (I1 : Int -> (Vector Int 24) -> Prop) (μ1 : Int -> (Vector Int 24) -> Nat), I1 0 (Vector.replicate 24 0) /\ ∀ (v11 : Int) (m3 : (Vector Int 24)), I1 v11 m3 -> ((v11 < 24) -> (0 <= v11 /\ v11 < ((24 : Nat) : Int)) /\ (v11.toNat < 24) /\ (inI (v11 + 1)) /\ (I1 (v11 + 1) (vset m3 v11.toNat 1152921504606846976) /\ μ1 (v11 + 1) (vset m3 v11.toNat 1152921504606846976) < μ1 v11 m3)) /\ (¬ (v11 < 24) -> (inI (above + 1)) /\ (0 <= (above + 1) /\ (above + 1) <= (w.l.length : Int) /\ (w.l.length : Int) <= (w.l.length : Int)) /\ ∃ (I2 : Int -> (Vector Int 24) -> Prop) (μ2 : Int -> (Vector Int 24) -> Nat), I2 0 m3 /\ ∀ (v23 : Int) (m3_1 : (Vector Int 24)), I2 v23 m3_1 -> ((v23 < (((w.l.drop (above + 1).toNat).length : Nat) : Int)) -> (0 <= v23 /\ v23 < ((w.l.drop (above + 1).toNat).length : Int)) /\ (0 <= ((lat (w.l.drop (above + 1).toNat) v23).f) /\ ((lat (w.l.drop (above + 1).toNat) v23).f) < ((24 : Nat) : Int)) /\ (((lat (w.l.drop (above + 1).toNat) v23).f).toNat < 24) /\ (0 <= ((lat (w.l.drop (above + 1).toNat) v23).t) /\ ((lat (w.l.drop (above + 1).toNat) v23).t) < ((24 : Nat) : Int)) /\ (((lat (w.l.drop (above + 1).toNat) v23).t).toNat < 24) /\ (¬ ((lat (w.l.drop (above + 1).toNat) v23).m) = NB -> ¬ (vat d (((lat (w.l.drop (above + 1).toNat) v23).t).toNat)) = NB -> inI (((lat (w.l.drop (above + 1).toNat) v23).m) + (vat d (((lat (w.l.drop (above + 1).toNat) v23).t).toNat)))) /\ (0 <= ((lat (w.l.drop (above + 1).toNat) v23).f) /\ ((lat (w.l.drop (above + 1).toNat) v23).f) < ((24 : Nat) : Int)) /\ (((lat (w.l.drop (above + 1).toNat) v23).f).toNat < 24) /\ (inI (v23 + 1)) /\ (I2 (v23 + 1) (vset m3_1 (((lat (w.l.drop (above + 1).toNat) v23).f).toNat) (min (vat m3_1 (((lat (w.l.drop (above + 1).toNat) v23).f).toNat)) (zW ((lat (w.l.drop (above + 1).toNat) v23).m) (vat d (((lat (w.l.drop (above + 1).toNat) v23).t).toNat))))) /\ μ2 (v23 + 1) (vset m3_1 (((lat (w.l.drop (above + 1).toNat) v23).f).toNat) (min (vat m3_1 (((lat (w.l.drop (above + 1).toNat) v23).f).toNat)) (zW ((lat (w.l.drop (above + 1).toNat) v23).m) (vat d (((lat (w.l.drop (above + 1).toNat) v23).t).toNat))))) < μ2 v23 m3_1)) /\ (¬ (v23 < (((w.l.drop (above + 1).toNat).length : Nat) : Int)) -> Post m3_1))
theorem walk_longer {w : Wlk} {d : (Vector Int 24)} {above : Int} {Post : (Vector Int 24) -> Prop} (hv : vc_longer w d above Post) : FnP Try.prog 80 [.agg ((e88 true) w), .agg (eV24 d), .int .i64 above] (fun x => ∃ q0, x = .agg (eV24 q0) /\ Post q0) := by
 refine FnP.of_walk (T := tt) (nt := 44) ttOk ttMix ⟨⟨Try.f80, Try.func80, rfl, rfl, rfl, rfl⟩⟩ (by simp) ?_
 unfold vc_longer at hv
 change W _ _ _ ⟨44, look [(0, .agg [.int .i64 w.n, .lst true w.l.length (zYy e66 w.l)]), (1, .agg (zYy zYx d.toList)), (2, .int .i64 above)], [], 0⟩ _
 refine W.rL (cL rfl (o_box (v := .agg _) (p := 0) rfl rfl rfl (cL rfl (o_box (v := .agg _) (p := 1) rfl rfl rfl (cL rfl (zXs (p := 2) tt104 rfl (ints_zero 24) (eL (W.tr [(2, .int _ _), (3, .ptr _ _), (4, .ptr _ _), (6, .ptr _ _)] [.box _ [.int _ _, .lst _ _ _], .box _ _, .box _ _] ⟨rfl, rfl, rfl, rfl, trivial⟩ rfl (W.rL (cL rfl (zXs (p := 3) tt104 rfl (ints_zero 24) (eL (W.seq' (W.rL (mI rfl rfl (eL (W.block ?_)))))))))))))))))
 obtain ⟨I1, μ1, hp, hv⟩ := hv
 refine W.loop2 (fun v11 m3 => ⟨44, look [(2, .int .i64 above), (3, .ptr 0 0), (4, .ptr 1 0), (6, .ptr 2 0), (7, .ptr 3 0), (11, .int .i64 v11)], [.box 88 [.int .i64 w.n, .lst true w.l.length (zYy e66 w.l)], .box 104 (zYy zYx d.toList), .box 104 (zYy zYx (Vector.replicate 24 0).toList), .box 104 (zYy zYx m3.toList)], 0⟩) I1 μ1 0 (Vector.replicate 24 0) (St.to_mk (φ := [some 0, some 1, some 2, some 3]) rfl (rfl) ⟨Ren.int _ _, Ren.ptr rfl, Ren.ptr rfl, Ren.ptr rfl, Ren.ptr rfl, Ren.int _ _, trivial⟩ ⟨.inr ⟨_, rfl, rfl, Rens.cons (Ren.int _ _) (Rens.cons (Ren.lst _ _ _) (Rens.nil))⟩, .inr ⟨_, rfl, rfl, Rens.enc zZw true _⟩, .inr ⟨_, rfl, rfl, Rens.enc zZw true _⟩, .inr ⟨_, rfl, rfl, Rens.enc zZw true _⟩, trivial⟩) hp ?_
 clear hp
 intro v11 m3 hI
 replace hv := hv v11 m3 hI
 clear hI
 refine W.rL (cL rfl (zXw rfl rfl (eL (W.seq' (W.cn rfl (fun hc => ?_) (fun hc => ?_))))))
 have hv := hv.1 hc
 refine W.skip (zZ (W.seq' (W.block (W.rL (mI rfl rfl (aI rfl rfl (eL (W.rL1 (mI rfl rfl ?_)))))))))
 obtain ⟨s28, hv⟩ := hv
 refine cL rfl (o_iaA tt104 tt3 rfl rfl s28 (by rw [Nat.mul_one, Nat.zero_add]) ?_)
 obtain ⟨s29, hv⟩ := hv
 refine cLn (o_stB (v := .int _ _) tt3 rfl rfl rfl rfl rfl (by rw [zXu]; exact s29) (ints_set _ _ _) (eL (zYq (zZ (W.rL1 ?_)))))
 obtain ⟨s30, hv⟩ := hv
 refine cL rfl (o_add rfl rfl s30 (mI rfl rfl (eL (zZ (⟨(), (v11 + 1), (vset m3 v11.toNat 1152921504606846976), hv, St.to_mk (φ := [some 0, some 1, some 2, some 3]) rfl (rfl) ⟨Ren.int _ _, Ren.ptr rfl, Ren.ptr rfl, Ren.ptr rfl, Ren.ptr rfl, Ren.int _ _, trivial⟩ ⟨.inr ⟨_, rfl, rfl, Rens.cons (Ren.int _ _) (Rens.cons (Ren.lst _ _ _) (Rens.nil))⟩, .inr ⟨_, rfl, rfl, Rens.enc zZw true _⟩, .inr ⟨_, rfl, rfl, Rens.enc zZw true _⟩, .inr ⟨_, rfl, rfl, Rens.enc zZw true _⟩, trivial⟩⟩)))))
 have hv := hv.2 hc
 refine W.exit (zZt (zZt (zXy (zZ (W.seq' (W.rL (cL rfl (o_fa tt88 rfl tt28 rfl (cL rfl (zZx (v := .lst _ _ _) tt28 rfl rfl ⟨_, rfl⟩ (mI rfl rfl ?_)))))))))))
 obtain ⟨s84, hv⟩ := hv
 refine cL rfl (o_add rfl rfl s84 ?_)
 obtain ⟨s85, hv⟩ := hv
 refine cL rfl (o_slL tt28 tt66 rfl (enc66.wd true) rfl rfl rfl s85 (ys := w.l.drop (above + 1).toNat) (sl_end _ _) (cL rfl (zXq (v := .lst _ _ _) tt28 rfl rfl (mI rfl rfl (eL (W.block ?_))))))
 obtain ⟨I2, μ2, hp, hv⟩ := hv
 refine W.loop2 (fun v23 m3_1 => ⟨44, look [(4, .ptr 1 0), (6, .ptr 2 0), (7, .ptr 3 0), (21, .lst true (w.l.drop (above + 1).toNat).length (zYy e66 (w.l.drop (above + 1).toNat))), (22, .int .i64 (((w.l.drop (above + 1).toNat).length : Nat) : Int)), (23, .int .i64 v23)], [.dead, .box 104 (zYy zYx d.toList), .box 104 (zYy zYx (Vector.replicate 24 0).toList), .box 104 (zYy zYx m3_1.toList)], 0⟩) I2 μ2 0 m3 (St.to_mk (φ := [none, some 1, some 2, some 3]) rfl (rfl) ⟨Ren.ptr rfl, Ren.ptr rfl, Ren.ptr rfl, Ren.lst _ _ _, Ren.int _ _, Ren.int _ _, trivial⟩ ⟨rfl, .inr ⟨_, rfl, rfl, Rens.enc zZw true _⟩, .inr ⟨_, rfl, rfl, Rens.enc zZw true _⟩, .inr ⟨_, rfl, rfl, Rens.enc zZw true _⟩, trivial⟩) hp ?_
 clear hp
 intro v23 m3_1 hI
 replace hv := hv v23 m3_1 hI
 clear hI
 refine W.rL (cL rfl (zXw rfl rfl (eL (W.seq' (W.cn rfl (fun hc => ?_) (fun hc => ?_))))))
 have hv := hv.1 hc
 refine W.skip (zZ (W.seq' (W.block (W.rL ?_))))
 obtain ⟨s128, hv⟩ := hv
 refine cL rfl (zYp tt28 tt66 rfl rfl (enc66.wd true) rfl s128 ?_)
 intro rest128
 refine cL rfl (zXv (cs := [.int _ _, .int _ _, .int _ _, .int _ _]) tt66 rfl rfl ⟨_, rfl⟩ rfl (cL rfl (zXs (p := 4) tt66 rfl rfl (cLn (o_stB (v := .agg _) (vs := [.int _ _, .int _ _, .int _ _, .int _ _]) (cs2 := [.int _ _, .int _ _, .int _ _, .int _ _]) tt66 rfl rfl rfl rfl rfl (Nat.le_of_ble_eq_true rfl) rfl (eL (W.tr [(4, .ptr _ _), (6, .ptr _ _), (7, .ptr _ _), (10, .ptr _ _), (21, .lst _ _ _), (22, .int _ _), (23, .int _ _)] [.dead, .box _ _, .box _ _, .box _ _, .box _ [.int _ _, .int _ _, .int _ _, .int _ _]] ⟨rfl, rfl, rfl, rfl, rfl, rfl, rfl, trivial⟩ rfl (W.rD1 [0, 1, 2, 3, 4, 5, 6, 7, 8, 9, 10, 11, 12, 13, 14, 15] (by decide +kernel) rfl (cL rfl (o_fa tt66 rfl tt3 rfl (cL rfl (zZx (v := .int _ _) tt3 rfl rfl ⟨_, rfl⟩ (cL rfl (o_fa tt66 rfl tt3 rfl (cL rfl (zZx (v := .int _ _) tt3 rfl rfl ⟨_, rfl⟩ ?_))))))))))))))))
 obtain ⟨s129, hv⟩ := hv
 refine cL rfl (o_iaA tt104 tt3 rfl rfl s129 (by rw [Nat.mul_one, Nat.zero_add]) ?_)
 obtain ⟨s130, hv⟩ := hv
 refine cL rfl (zZx tt3 rfl rfl (ca_vec rfl s130) (cL rfl (o_fa tt66 rfl tt3 rfl (cL rfl (zZx (v := .int _ _) tt3 rfl rfl ⟨_, rfl⟩ (cL rfl (o_fa tt66 rfl tt3 rfl (cL rfl (zZx (v := .int _ _) tt3 rfl rfl ⟨_, rfl⟩ ?_)))))))))
 obtain ⟨s131, hv⟩ := hv
 refine cL rfl (o_iaA tt104 tt3 rfl rfl s131 (by rw [Nat.mul_one, Nat.zero_add]) ?_)
 obtain ⟨s132, hv⟩ := hv
 refine cL rfl (zZx tt3 rfl rfl (ca_vec rfl s132) ?_)
 obtain ⟨s133, hv⟩ := hv
 refine cL rfl (zZu (k := 66) (fst := []) (caps := []) (ys := [.int _ _, .int _ _]) rfl rfl (spec_plus ((lat (w.l.drop (above + 1).toNat) v23).m) (vat d (((lat (w.l.drop (above + 1).toNat) v23).t).toNat)) s133) (Wks.cons (zZz _ _ _ _) (Wks.cons (zZz _ _ _ _) (Wks.refl _))) (cL rfl (o_min rfl rfl ?_)))
 obtain ⟨s134, hv⟩ := hv
 refine cL rfl (o_iaA tt104 tt3 rfl rfl s134 (by rw [Nat.mul_one, Nat.zero_add]) ?_)
 obtain ⟨s135, hv⟩ := hv
 refine cLn (o_stB (v := .int _ _) tt3 rfl rfl rfl rfl rfl (by rw [zXu]; exact s135) (ints_set _ _ _) (eL (zYq (zZ (W.rL1 ?_)))))
 obtain ⟨s136, hv⟩ := hv
 refine cL rfl (o_add rfl rfl s136 (mI rfl rfl (eL (zZ (⟨(), (v23 + 1), (vset m3_1 (((lat (w.l.drop (above + 1).toNat) v23).f).toNat) (min (vat m3_1 (((lat (w.l.drop (above + 1).toNat) v23).f).toNat)) (zW ((lat (w.l.drop (above + 1).toNat) v23).m) (vat d (((lat (w.l.drop (above + 1).toNat) v23).t).toNat))))), hv, St.to_mk (φ := [none, some 1, some 2, some 3]) rfl (rfl) ⟨Ren.ptr rfl, Ren.ptr rfl, Ren.ptr rfl, Ren.lst _ _ _, Ren.int _ _, Ren.int _ _, trivial⟩ ⟨rfl, .inr ⟨_, rfl, rfl, Rens.enc zZw true _⟩, .inr ⟨_, rfl, rfl, Rens.enc zZw true _⟩, .inr ⟨_, rfl, rfl, Rens.enc zZw true _⟩, trivial⟩⟩)))))
 have hv := hv.2 hc
 refine W.exit (zZt (zZt (zXy (zZ (W.rL (cL rfl (zXv tt104 rfl rfl (ca_all rfl) (zXu _) (cLn (o_stB (v := .agg _) tt104 rfl rfl rfl (zXu _) rfl (vec_in (zXu _) (zXu _)) (spl_all _ _ ((zXu _).trans (zXu _).symm)) (eL (W.tr [(6, .ptr _ _)] [.dead, .box _ _, .box _ _, .box _ _] ⟨rfl, trivial⟩ rfl (W.ret (rt (rt_c (x := .ptr _ _) rfl (ldA tt104 rfl (ca_all rfl) (zXu _) (rt_n (⟨_, rs_agg 5 _ (rs_vec 4 _ _), m3_1, rfl, hv⟩)))))))))))))))))
theorem vcp_longer (w : Wlk) (d : (Vector Int 24)) (above : Int) (h0 : LongOk w.l d above) : vc_longer w d above (fun q0 => q0 = (longerM w.l d above)) := by
  unfold vc_longer
  have hnb := hNB
  obtain ⟨ha, hlen, hl, hd⟩ := h0
  refine ⟨fun v m => ∃ i : Nat, v = i /\ i <= 24 /\ ∀ k, k < 24 -> vat m k = if k < i then NB else 0, fun v _ => 24 - v.toNat, ⟨0, rfl, by omega, fun k hk => by rw [vat_rep hk]; simp⟩, ?_⟩
  rintro _ m0 ⟨i, rfl, hi, hm⟩
  refine ⟨fun h1 => ⟨by omega, by omega, by unfold inI; omega, ⟨i + 1, by omega, by omega, fun k hk => ?_⟩, by dsimp only; omega⟩, fun h1 => ⟨by unfold inI; omega, by omega, ?_⟩⟩
  . rw [vat_vset (by omega), hm k hk]
    split <;> split <;> (try split) <;> omega
  have hm0 : m0 = Vector.replicate 24 NB := rep_ext fun k hk => by rw [hm k hk, if_pos (by omega)]
  subst hm0
  have hel : ∀ j : Nat, j < (w.l.drop (above + 1).toNat).length -> lat (w.l.drop (above + 1).toNat) (j : Int) ∈ w.l := fun j hj => List.mem_of_mem_drop (lat_mem ⟨by omega, by omega⟩)
  have hl2 : (w.l.drop (above + 1).toNat).length <= 2000 := by rw [List.length_drop]; omega
  refine ⟨fun v m => ∃ i : Nat, v = i /\ i <= (w.l.drop (above + 1).toNat).length /\ m = ((w.l.drop (above + 1).toNat).take i).foldl (relStep d) (Vector.replicate 24 NB), fun v _ => (w.l.drop (above + 1).toNat).length - v.toNat, ⟨0, rfl, by omega, rfl⟩, ?_⟩
  rintro _ m1 ⟨i, rfl, hi, hm⟩
  refine ⟨fun h2 => ?_, fun h2 => ?_⟩
  . have hlt : i < (w.l.drop (above + 1).toNat).length := by omega
    obtain ⟨c1, c2, c3, c4⟩ := hl _ (hel i hlt)
    have hdd := hd (lat (w.l.drop (above + 1).toNat) (i : Int)).t.toNat
    refine ⟨by omega, by omega, by omega, by omega, by omega, fun _ _ => by unfold inI; omega, by omega, by omega, by unfold inI; omega, ⟨i + 1, by omega, by omega, ?_⟩, by dsimp only; omega⟩
    rw [List.take_add_one, List.foldl_append, <- hm, List.getElem?_eq_getElem hlt, lat_get hlt]
    rfl
  . have : i = (w.l.drop (above + 1).toNat).length := by omega
    subst this
    rw [List.take_length] at hm
    show m1 = longerM w.l d above
    rw [longerM_eq]; exact hm
theorem spec_longer (w : Wlk) (d : (Vector Int 24)) (above : Int) (h0 : LongOk w.l d above) : FnP Try.prog 80 [.agg ((e88 true) w), .agg (eV24 d), .int .i64 above] (fun xR => xR = .agg (eV24 (longerM w.l d above))) :=
  (walk_longer (vcp_longer w d above h0)).mono (by rintro _ ⟨_, rfl, rfl⟩; rfl)
def vc_table (w : Wlk) (to : Int) (above : Int) (many : Int) (Post : (List (Vector Int 24)) -> Prop) : Prop :=
  ∃ (I1 : Int -> (Vector Int 24) -> Prop) (μ1 : Int -> (Vector Int 24) -> Nat), I1 0 (Vector.replicate 24 0) /\ ∀ (v15 : Int) (m1 : (Vector Int 24)), I1 v15 m1 -> ((v15 < 24) -> (0 <= v15 /\ v15 < ((24 : Nat) : Int)) /\ (v15.toNat < 24) /\ (inI (v15 + 1)) /\ (I1 (v15 + 1) (vset m1 v15.toNat 1152921504606846976) /\ μ1 (v15 + 1) (vset m1 v15.toNat 1152921504606846976) < μ1 v15 m1)) /\ (¬ (v15 < 24) -> (0 <= to /\ to < ((24 : Nat) : Int)) /\ (to.toNat < 24) /\ ∃ (I2 : Int -> (Vector Int 24) -> List (Vector Int 24) -> Prop) (μ2 : Int -> (Vector Int 24) -> List (Vector Int 24) -> Nat), I2 0 (vset m1 to.toNat 0) [vset m1 to.toNat 0] /\ ∀ (v26 : Int) (m1_1 : (Vector Int 24)) (r2 : List (Vector Int 24)), I2 v26 m1_1 r2 -> ((v26 < many) -> (LongOk w.l m1_1 above) /\ ((r2 ++ [longerM w.l m1_1 above]).length <= 1073741824) /\ (inI (v26 + 1)) /\ (I2 (v26 + 1) (longerM w.l m1_1 above) (r2 ++ [longerM w.l m1_1 above]) /\ μ2 (v26 + 1) (longerM w.l m1_1 above) (r2 ++ [longerM w.l m1_1 above]) < μ2 v26 m1_1 r2)) /\ (¬ (v26 < many) -> Post r2))
theorem walk_table {w : Wlk} {to : Int} {above : Int} {many : Int} {Post : (List (Vector Int 24)) -> Prop} (hv : vc_table w to above many Post) : FnP Try.prog 67 [.agg ((e88 true) w), .int .i64 to, .int .i64 above, .int .i64 many] (fun x => ∃ q0, x = .lst false q0.length (zYy eV24 q0) /\ Post q0) := by
 refine FnP.of_walk (T := tt) (nt := 38) ttOk ttMix ⟨⟨Try.f67, Try.func67, rfl, rfl, rfl, rfl⟩⟩ (by simp) ?_
 unfold vc_table at hv
 change W _ _ _ ⟨38, look [(0, .agg [.int .i64 w.n, .lst true w.l.length (zYy e66 w.l)]), (1, .int .i64 to), (2, .int .i64 above), (3, .int .i64 many)], [], 0⟩ _
 refine W.rL (cL rfl (o_box (v := .agg _) (p := 0) rfl rfl rfl (cL rfl (zZq (v := .nilS) rfl (eL (W.tr [(1, .int _ _), (2, .int _ _), (3, .int _ _), (4, .ptr _ _)] [.box _ [.int _ _, .lst _ _ _]] ⟨rfl, rfl, rfl, rfl, trivial⟩ rfl (W.rL (cL rfl (zXv (cs := [.int _ _, .lst _ _ _]) tt88 rfl rfl ⟨_, rfl⟩ rfl (cL rfl (o_mf (ps := [.agg _]) (qs := []) rfl rfl (cL rfl (zZq (v := .clo _ _ _) rfl (eL (W.tr [(1, .int _ _), (2, .int _ _), (3, .int _ _), (9, .clo _ _ _)] [.box _ [.int _ _, .lst _ _ _]] ⟨rfl, rfl, rfl, rfl, trivial⟩ rfl (W.rL (cL rfl (zXs (p := 1) tt104 rfl (ints_zero 24) (eL (W.seq' (W.rL (mI rfl rfl (eL (W.block ?_))))))))))))))))))))))))
 obtain ⟨I1, μ1, hp, hv⟩ := hv
 refine W.loop2 (fun v15 m1 => ⟨38, look [(1, .int .i64 to), (2, .int .i64 above), (3, .int .i64 many), (9, .clo 80 [.agg [.int .i64 w.n, .lst true w.l.length (zYy e66 w.l)]] []), (10, .ptr 1 0), (15, .int .i64 v15)], [.dead, .box 104 (zYy zYx m1.toList)], 0⟩) I1 μ1 0 (Vector.replicate 24 0) (St.to_mk (φ := [none, some 1]) rfl (rfl) ⟨Ren.int _ _, Ren.int _ _, Ren.int _ _, Ren.clo _ (Rens.cons (Ren.agg (Rens.cons (Ren.int _ _) (Rens.cons (Ren.lst _ _ _) (Rens.nil)))) (Rens.nil)) (Rens.nil), Ren.ptr rfl, Ren.int _ _, trivial⟩ ⟨rfl, .inr ⟨_, rfl, rfl, Rens.enc zZw true _⟩, trivial⟩) hp ?_
 clear hp
 intro v15 m1 hI
 replace hv := hv v15 m1 hI
 clear hI
 refine W.rL (cL rfl (zXw rfl rfl (eL (W.seq' (W.cn rfl (fun hc => ?_) (fun hc => ?_))))))
 have hv := hv.1 hc
 refine W.skip (zZ (W.seq' (W.block (W.rL (mI rfl rfl (aI rfl rfl (eL (W.rL1 (mI rfl rfl ?_)))))))))
 obtain ⟨s28, hv⟩ := hv
 refine cL rfl (o_iaA tt104 tt3 rfl rfl s28 (by rw [Nat.mul_one, Nat.zero_add]) ?_)
 obtain ⟨s29, hv⟩ := hv
 refine cLn (o_stB (v := .int _ _) tt3 rfl rfl rfl rfl rfl (by rw [zXu]; exact s29) (ints_set _ _ _) (eL (zYq (zZ (W.rL1 ?_)))))
 obtain ⟨s30, hv⟩ := hv
 refine cL rfl (o_add rfl rfl s30 (mI rfl rfl (eL (zZ (⟨(), (v15 + 1), (vset m1 v15.toNat 1152921504606846976), hv, St.to_mk (φ := [none, some 1]) rfl (rfl) ⟨Ren.int _ _, Ren.int _ _, Ren.int _ _, Ren.clo _ (Rens.cons (Ren.agg (Rens.cons (Ren.int _ _) (Rens.cons (Ren.lst _ _ _) (Rens.nil)))) (Rens.nil)) (Rens.nil), Ren.ptr rfl, Ren.int _ _, trivial⟩ ⟨rfl, .inr ⟨_, rfl, rfl, Rens.enc zZw true _⟩, trivial⟩⟩)))))
 have hv := hv.2 hc
 refine W.exit (zZt (zZt (zXy (zZ (W.rL (mI rfl rfl ?_))))))
 obtain ⟨s31, hv⟩ := hv
 refine cL rfl (o_iaA tt104 tt3 rfl rfl s31 (by rw [Nat.mul_one, Nat.zero_add]) ?_)
 obtain ⟨s32, hv⟩ := hv
 refine cLn (o_stB (v := .int _ _) tt3 rfl rfl rfl rfl rfl (by rw [zXu]; exact s32) (ints_set _ _ _) (eL (W.rL (cL rfl (zXv tt104 rfl rfl (ca_all rfl) (zXu _) (cL rfl (o_bs1 (v := .agg (zYy zYx _)) (q := 2) tt109 tt104 rfl rfl rfl (zXu _) List.length_replicate rfl rfl (encL_one eV24 _) (cL rfl (zZq (v := .ref _ _ _) rfl (eL (W.tr [(2, .int _ _), (3, .int _ _), (9, .clo _ _ _), (10, .ptr _ _), (12, .ref _ _ _)] [.dead, .box _ _, .row _ _ _] ⟨rfl, rfl, rfl, rfl, rfl, trivial⟩ rfl (W.seq' (W.rL ?_)))))))))))))
 iterate 2 refine mI rfl rfl ?_
 refine eL (W.block ?_)
 obtain ⟨I2, μ2, hp, hv⟩ := hv
 refine W.loop3 (fun v26 m1_1 r2 => ⟨38, look [(2, .int .i64 above), (9, .clo 80 [.agg [.int .i64 w.n, .lst true w.l.length (zYy e66 w.l)]] []), (10, .ptr 1 0), (12, .ref false 2 r2.length), (25, .int .i64 many), (26, .int .i64 v26)], [.dead, .box 104 (zYy zYx m1_1.toList), .row 104 24 (zYy eV24 r2)], 0⟩) I2 μ2 0 (vset m1 to.toNat 0) [vset m1 to.toNat 0] (St.to_mk (φ := [none, some 1, some 2]) rfl (rfl) ⟨Ren.int _ _, Ren.clo _ (Rens.cons (Ren.agg (Rens.cons (Ren.int _ _) (Rens.cons (Ren.lst _ _ _) (Rens.nil)))) (Rens.nil)) (Rens.nil), Ren.ptr rfl, Ren.ref rfl (fun h => h), Ren.int _ _, Ren.int _ _, trivial⟩ ⟨rfl, .inr ⟨_, rfl, rfl, Rens.enc zZw true _⟩, .inr ⟨_, rfl, rfl, rfl, rfl, Rens.enc encV24 false [vset m1 to.toNat 0]⟩, trivial⟩) hp ?_
 clear hp
 intro v26 m1_1 r2 hI
 replace hv := hv v26 m1_1 r2 hI
 clear hI
 refine W.rL (cL rfl (zXw rfl rfl (eL (W.seq' (W.cn rfl (fun hc => ?_) (fun hc => ?_))))))
 have hv := hv.1 hc
 refine W.skip (zZ (W.seq' (W.block (W.rL (cL rfl (zZp (v := .clo _ _ _) rfl (cL rfl (zXv tt104 rfl rfl (ca_all rfl) (zXu _) (mI rfl rfl ?_)))))))))
 obtain ⟨s60, hv⟩ := hv
 refine cL rfl (zZu (k := 80) (fst := [.agg _]) (caps := []) (ys := [.agg _, .int _ _]) rfl rfl (spec_longer w m1_1 above s60) (Wks.cons (zXr 5 _ (Wks.cons (zZz _ _ _ _) (Wks.cons (zZs _ _ _ _ _) (Wks.refl _)))) (Wks.cons (zXr 5 _ (ag_vec 4 _ _)) (Wks.cons (zZz _ _ _ _) (Wks.refl _)))) (cLn (o_stB (v := .agg _) tt104 rfl rfl rfl (zXu _) rfl (vec_in (zXu _) (zXu _)) (spl_all _ _ ((zXu _).trans (zXu _).symm)) (eL (W.tr [(2, .int _ _), (9, .clo _ _ _), (10, .ptr _ _), (12, .ref _ _ _), (25, .int _ _), (26, .int _ _)] [.dead, .box _ _, .row _ _ _] ⟨rfl, rfl, rfl, rfl, rfl, rfl, trivial⟩ rfl (W.rL1 (cL rfl (zZp (v := .ref _ _ _) rfl (cL rfl (zXv tt104 rfl rfl (ca_all rfl) (zXu _) (cL rfl (o_bs1 (v := .agg (zYy zYx _)) (q := 3) tt109 tt104 rfl rfl rfl (zXu _) List.length_replicate rfl rfl (encL_one eV24 _) ?_))))))))))))
 obtain ⟨s61, hv⟩ := hv
 refine cL rfl (o_apR (p := 4) (q := (r2 ++ [longerM w.l m1_1 above]).length) tt109 tt104 rfl rfl (src_ref rfl (zYr (encV24.wd false) _)) (zYr (encV24.wd false) _) rfl (zYr (encV24.wd false) _) (Nat.le_trans (Nat.le_of_eq (@List.length_append _ (r2) ([longerM w.l m1_1 above])).symm) s61) rfl (@List.length_append _ (r2) ([longerM w.l m1_1 above])).symm (encL_app eV24 r2 [longerM w.l m1_1 above]) (cL rfl (zZq (v := .ref _ _ _) rfl (eL (zYq (zZ (W.tr [(2, .int _ _), (9, .clo _ _ _), (10, .ptr _ _), (12, .ref _ _ _), (25, .int _ _), (26, .int _ _)] [.dead, .box _ _, .dead, .row _ _ _, .row _ _ _] ⟨rfl, rfl, rfl, rfl, rfl, rfl, trivial⟩ rfl (W.rL1 ?_))))))))
 obtain ⟨s62, hv⟩ := hv
 refine cL rfl (o_add rfl rfl s62 (mI rfl rfl (eL (zZ (⟨(), (v26 + 1), (longerM w.l m1_1 above), (r2 ++ [longerM w.l m1_1 above]), hv, St.to_mk (φ := [none, some 1, some 4]) rfl (rfl) ⟨Ren.int _ _, Ren.clo _ (Rens.cons (Ren.agg (Rens.cons (Ren.int _ _) (Rens.cons (Ren.lst _ _ _) (Rens.nil)))) (Rens.nil)) (Rens.nil), Ren.ptr rfl, Ren.ref rfl (fun h => h), Ren.int _ _, Ren.int _ _, trivial⟩ ⟨rfl, .inr ⟨_, rfl, rfl, Rens.enc zZw true _⟩, .inr ⟨_, rfl, rfl, rfl, rfl, Rens.enc encV24 false (r2 ++ [longerM w.l m1_1 above])⟩, trivial⟩⟩)))))
 have hv := hv.2 hc
 refine W.exit (zZt (zZt (zXy (zZ (W.rL (cL rfl (zZp (v := .ref _ _ _) rfl (cL rfl (zZq (v := .ref _ _ _) rfl (eL (W.tr [(8, .ref _ _ _)] [.dead, .box _ _, .row _ _ _] ⟨rfl, trivial⟩ rfl (W.ret (rt (rt_t (v := .ref _ _ _) rfl (rt_n (⟨_, rs_ref encV24 4 _ rfl rfl, r2, rfl, hv⟩))))))))))))))))
theorem vcp_table (w : Wlk) (to : Int) (above : Int) (many : Int) (h0 : TabOk w.l to above many) : vc_table w to above many (fun q0 => q0 = (tableM w.l to above many)) := by
  unfold vc_table
  have hnb := hNB
  obtain ⟨ha, hlen, hl, ht, hk⟩ := h0
  refine ⟨fun v m => ∃ i : Nat, v = i /\ i <= 24 /\ ∀ k, k < 24 -> vat m k = if k < i then NB else 0, fun v _ => 24 - v.toNat, ⟨0, rfl, by omega, fun k hk => by rw [vat_rep hk]; simp⟩, ?_⟩
  rintro _ m0 ⟨i, rfl, hi, hm⟩
  refine ⟨fun h1 => ⟨by omega, by omega, by unfold inI; omega, ⟨i + 1, by omega, by omega, fun k hk => ?_⟩, by dsimp only; omega⟩, fun h1 => ⟨by omega, by omega, ?_⟩⟩
  . rw [vat_vset (by omega), hm k hk]
    split <;> split <;> (try split) <;> omega
  have hm0 : m0 = Vector.replicate 24 NB := rep_ext fun k hk => by rw [hm k hk, if_pos (by omega)]
  subst hm0
  refine ⟨fun v m r => ∃ k : Nat, v = k /\ k <= many.toNat /\ m = tabD w.l to above k /\ r = (List.range (k + 1)).map (tabD w.l to above), fun v _ _ => many.toNat - v.toNat, ⟨0, rfl, by omega, rfl, rfl⟩, ?_⟩
  rintro _ _ _ ⟨k, rfl, hkk, rfl, rfl⟩
  refine ⟨fun h2 => ⟨⟨ha, hlen, hl, fun j => ?_⟩, by simp; omega, by unfold inI; omega, ⟨k + 1, by omega, by omega, rfl, ?_⟩, by dsimp only; omega⟩, fun h2 => ?_⟩
  . have := tabD_bd (l := w.l) (to := to) (above := above) (fun c hc => ⟨(hl c hc).1, (hl c hc).2.2.1⟩) ht k j
    omega
  . rw [List.range_succ (n := k + 1), List.map_append]; rfl
  . have : k = many.toNat := by omega
    subst this; unfold tableM; rfl
theorem spec_table (w : Wlk) (to : Int) (above : Int) (many : Int) (h0 : TabOk w.l to above many) : FnP Try.prog 67 [.agg ((e88 true) w), .int .i64 to, .int .i64 above, .int .i64 many] (fun xR => xR = .lst false (tableM w.l to above many).length (zYy eV24 (tableM w.l to above many))) :=
  (walk_table (vcp_table w to above many h0)).mono (by rintro _ ⟨_, rfl, rfl⟩; rfl)
def vc_first (w : Wlk) (Post : (List Int) -> Prop) : Prop :=
  (inI (w.n + 1)) /\ ∃ (I1 : Int -> Int -> Prop) (μ1 : Int -> Int -> Nat), I1 (w.n + 1) 0 /\ ∀ (v3 : Int) (v20 : Int), I1 v3 v20 -> ((v20 < w.n) -> ∃ J2 : Int -> Prop, (∀ (v3_1 : Int), J2 v3_1 -> (inI (v20 + 1)) /\ (I1 v3_1 (v20 + 1) /\ μ1 v3_1 (v20 + 1) < μ1 v3 v20)) /\ ((TabOk w.l v20 (-1) w.n) /\ ∃ (I3 : Int -> Int -> Prop) (μ3 : Int -> Int -> Nat), I3 v3 0 /\ ∀ (v3_1 : Int) (v29 : Int), I3 v3_1 v29 -> ((v29 < (((tableM w.l v20 (-1) w.n).length : Nat) : Int)) -> (0 <= v29 /\ v29 < ((tableM w.l v20 (-1) w.n).length : Int)) /\ (0 <= v20 /\ v20 < ((24 : Nat) : Int)) /\ (v20.toNat < 24) /\ (((vat (lat (tableM w.l v20 (-1) w.n) v29) v20.toNat) < 0) -> J2 (min v3_1 v29)) /\ (¬ ((vat (lat (tableM w.l v20 (-1) w.n) v29) v20.toNat) < 0) -> (inI (v29 + 1)) /\ (I3 v3_1 (v29 + 1) /\ μ3 v3_1 (v29 + 1) < μ3 v3_1 v29))) /\ (¬ (v29 < (((tableM w.l v20 (-1) w.n).length : Nat) : Int)) -> J2 v3_1))) /\ (¬ (v20 < w.n) -> ∃ (I4 : Int -> Prop) (μ4 : Int -> Nat), I4 0 /\ ∀ (v46 : Int), I4 v46 -> ((v46 < ((w.l.length : Nat) : Int)) -> ∃ J5 : Prop, (J5 -> (inI (v46 + 1)) /\ (I4 (v46 + 1) /\ μ4 (v46 + 1) < μ4 v46)) /\ ((0 <= v46 /\ v46 < (w.l.length : Int)) /\ (inI (v3 - 1)) /\ (TabOk w.l ((lat w.l v46).f) v46 (v3 - 1)) /\ (inI (v3 - 1)) /\ (0 <= (v3 - 1) /\ (v3 - 1) < ((tableM w.l ((lat w.l v46).f) v46 (v3 - 1)).length : Int)) /\ (0 <= ((lat w.l v46).t) /\ ((lat w.l v46).t) < ((24 : Nat) : Int)) /\ (¬ ((lat w.l v46).m) = NB -> ¬ (vat (lat (tableM w.l ((lat w.l v46).f) v46 (v3 - 1)) (v3 - 1)) ((lat w.l v46).t).toNat) = NB -> inI (((lat w.l v46).m) + (vat (lat (tableM w.l ((lat w.l v46).f) v46 (v3 - 1)) (v3 - 1)) ((lat w.l v46).t).toNat))) /\ (((0 : Int) <= (zW ((lat w.l v46).m) (vat (lat (tableM w.l ((lat w.l v46).f) v46 (v3 - 1)) (v3 - 1)) ((lat w.l v46).t).toNat))) -> J5) /\ (¬ ((0 : Int) <= (zW ((lat w.l v46).m) (vat (lat (tableM w.l ((lat w.l v46).f) v46 (v3 - 1)) (v3 - 1)) ((lat w.l v46).t).toNat))) -> ∃ (I6 : Int -> Int -> List Int -> Prop) (μ6 : Int -> Int -> List Int -> Nat), I6 ((lat w.l v46).t) ((lat w.l v46).m) [v46] /\ ∀ (v11 : Int) (v12 : Int) (r2 : List Int), I6 v11 v12 r2 -> ((((r2.length : Nat) : Int) < v3) -> (inI (v46 + 1)) /\ ∃ J7 : Int -> Prop, (∀ (v13 : Int), J7 v13 -> ((v13 = ((w.l.length : Nat) : Int)) -> J5) /\ (¬ (v13 = ((w.l.length : Nat) : Int)) -> ((r2 ++ [v13]).length <= 1073741824) /\ (0 <= v13 /\ v13 < (w.l.length : Int)) /\ (0 <= v13 /\ v13 < (w.l.length : Int)) /\ (inI (v12 + ((lat w.l v13).m))) /\ (I6 ((lat w.l v13).t) (v12 + ((lat w.l v13).m)) (r2 ++ [v13]) /\ μ6 ((lat w.l v13).t) (v12 + ((lat w.l v13).m)) (r2 ++ [v13]) < μ6 v11 v12 r2))) /\ (∃ (I8 : Int -> Prop) (μ8 : Int -> Nat), I8 (v46 + 1) /\ ∀ (v13 : Int), I8 v13 -> ((v13 < ((w.l.length : Nat) : Int)) -> (0 <= v13 /\ v13 < (w.l.length : Int)) /\ ((((lat w.l v13).f = v11) -> (inI (v12 + ((lat w.l v13).m))) /\ (inI (v3 - ((r2.length : Nat) : Int))) /\ (inI ((v3 - ((r2.length : Nat) : Int)) - 1)) /\ (0 <= ((v3 - ((r2.length : Nat) : Int)) - 1) /\ ((v3 - ((r2.length : Nat) : Int)) - 1) < ((tableM w.l ((lat w.l v46).f) v46 (v3 - 1)).length : Int)) /\ (0 <= ((lat w.l v13).t) /\ ((lat w.l v13).t) < ((24 : Nat) : Int)) /\ (¬ (v12 + ((lat w.l v13).m)) = NB -> ¬ (vat (lat (tableM w.l ((lat w.l v46).f) v46 (v3 - 1)) ((v3 - ((r2.length : Nat) : Int)) - 1)) ((lat w.l v13).t).toNat) = NB -> inI ((v12 + ((lat w.l v13).m)) + (vat (lat (tableM w.l ((lat w.l v46).f) v46 (v3 - 1)) ((v3 - ((r2.length : Nat) : Int)) - 1)) ((lat w.l v13).t).toNat))) /\ True) /\ (¬ ((lat w.l v13).f = v11) -> True)) /\ (((((lat w.l v13).f = v11) /\ ((zW (v12 + ((lat w.l v13).m)) (vat (lat (tableM w.l ((lat w.l v46).f) v46 (v3 - 1)) ((v3 - ((r2.length : Nat) : Int)) - 1)) ((lat w.l v13).t).toNat)) < 0)) -> J7 v13) /\ (¬ (((lat w.l v13).f = v11) /\ ((zW (v12 + ((lat w.l v13).m)) (vat (lat (tableM w.l ((lat w.l v46).f) v46 (v3 - 1)) ((v3 - ((r2.length : Nat) : Int)) - 1)) ((lat w.l v13).t).toNat)) < 0)) -> (inI (v13 + 1)) /\ (I8 (v13 + 1) /\ μ8 (v13 + 1) < μ8 v13)))) /\ (¬ (v13 < ((w.l.length : Nat) : Int)) -> J7 v13))) /\ (¬ (((r2.length : Nat) : Int) < v3) -> Post r2)))) /\ (¬ (v46 < ((w.l.length : Nat) : Int)) -> Post []))
theorem walk_first {w : Wlk} {Post : (List Int) -> Prop} (hv : vc_first w Post) : FnP Try.prog 45 [.agg ((e88 true) w)] (fun x => ∃ q0, x = .lst false q0.length (zYy zYx q0) /\ Post q0) := by
 refine FnP.of_walk (T := tt) (nt := 142) ttOk ttMix ⟨⟨Try.f45, Try.func45, rfl, rfl, rfl, rfl⟩⟩ (by simp) ?_
 unfold vc_first at hv
 change W _ _ _ ⟨142, look [(0, .agg [.int .i64 w.n, .lst true w.l.length (zYy e66 w.l)])], [], 0⟩ _
 refine W.rL (cL rfl (o_box (v := .agg _) (p := 0) rfl rfl rfl (cL rfl (zZq (v := .nilS) rfl (eL (W.tr [(1, .ptr _ _)] [.box _ [.int _ _, .lst _ _ _]] ⟨rfl, trivial⟩ rfl (W.scope (W.rL (cL rfl (o_fa tt88 rfl tt3 rfl (cL rfl (zZx (v := .int _ _) tt3 rfl rfl ⟨_, rfl⟩ ?_))))))))))))
 obtain ⟨s1, hv⟩ := hv
 refine cL rfl (o_add rfl rfl s1 (aI rfl rfl (eL (W.seq' (W.rL (cL rfl (o_fa tt88 rfl tt3 rfl (cL rfl (zZx (v := .int _ _) tt3 rfl rfl ⟨_, rfl⟩ (mI rfl rfl (eL (W.block ?_))))))))))))
 obtain ⟨I1, μ1, hp, hv⟩ := hv
 refine W.loop2 (fun v3 v20 => ⟨142, look [(1, .ptr 0 0), (3, .int .i64 v3), (19, .int .i64 w.n), (20, .int .i64 v20)], [.box 88 [.int .i64 w.n, .lst true w.l.length (zYy e66 w.l)]], 0⟩) I1 μ1 (w.n + 1) 0 (St.to_mk (φ := [some 0]) rfl (rfl) ⟨Ren.ptr rfl, Ren.int _ _, Ren.int _ _, Ren.int _ _, trivial⟩ ⟨.inr ⟨_, rfl, rfl, Rens.cons (Ren.int _ _) (Rens.cons (Ren.lst _ _ _) (Rens.nil))⟩, trivial⟩) hp ?_
 clear hp
 intro v3 v20 hI
 replace hv := hv v3 v20 hI
 clear hI
 refine W.rL (cL rfl (zXw rfl rfl (eL (W.seq' (W.cn rfl (fun hc => ?_) (fun hc => ?_))))))
 have hv := hv.1 hc
 refine W.skip (zZ ?_)
 obtain ⟨J2, hj, hv⟩ := hv
 refine W.mid1 (fun v3_1 => ⟨142, look [(1, .ptr 0 0), (3, .int .i64 v3_1), (19, .int .i64 w.n), (20, .int .i64 v20)], [.box 88 [.int .i64 w.n, .lst true w.l.length (zYy e66 w.l)]], 0⟩) J2 ?_ ?_
 intro v3_1
 intro hv
 replace hv := hj v3_1 hv
 refine W.rL1 ?_
 obtain ⟨s110, hv⟩ := hv
 refine cL rfl (o_add rfl rfl s110 (mI rfl rfl (eL (zZ (⟨(), v3_1, (v20 + 1), hv, St.to_mk (φ := [some 0]) rfl (rfl) ⟨Ren.ptr rfl, Ren.int _ _, Ren.int _ _, Ren.int _ _, trivial⟩ ⟨.inr ⟨_, rfl, rfl, Rens.cons (Ren.int _ _) (Rens.cons (Ren.lst _ _ _) (Rens.nil))⟩, trivial⟩⟩)))))
 clear hj
 refine W.block (W.rL (mI rfl rfl (aI rfl rfl (eL (W.rL (cL rfl (zXv (cs := [.int _ _, .lst _ _ _]) tt88 rfl rfl ⟨_, rfl⟩ rfl (mI rfl rfl (cL rfl (o_fa tt88 rfl tt3 rfl (cL rfl (zZx (v := .int _ _) tt3 rfl rfl ⟨_, rfl⟩ ?_))))))))))))
 obtain ⟨s111, hv⟩ := hv
 refine cL rfl (zZu (k := 67) (fst := []) (caps := []) (ys := [.agg _, .int _ _, .int _ _, .int _ _]) rfl rfl (spec_table w v20 (-1) w.n s111) (Wks.cons (zXr 5 _ (Wks.cons (zZz _ _ _ _) (Wks.cons (zZs _ _ _ _ _) (Wks.refl _)))) (Wks.cons (zZz _ _ _ _) (Wks.cons (zZz _ _ _ _) (Wks.cons (zZz _ _ _ _) (Wks.refl _))))) (cL rfl (zXq (v := .lst _ _ _) tt109 rfl rfl (mI rfl rfl (eL (W.tr [(1, .ptr _ _), (3, .int _ _), (4, .int _ _), (19, .int _ _), (20, .int _ _), (27, .lst _ _ _), (28, .int _ _), (29, .int _ _)] [.box _ [.int _ _, .lst _ _ _]] ⟨rfl, rfl, rfl, rfl, rfl, rfl, rfl, rfl, trivial⟩ rfl (W.block ?_)))))))
 obtain ⟨I3, μ3, hp, hv⟩ := hv
 refine W.loop2 (fun v3_1 v29 => ⟨142, look [(1, .ptr 0 0), (3, .int .i64 v3_1), (4, .int .i64 v20), (19, .int .i64 w.n), (20, .int .i64 v20), (27, .lst false (tableM w.l v20 (-1) w.n).length (zYy eV24 (tableM w.l v20 (-1) w.n))), (28, .int .i64 (((tableM w.l v20 (-1) w.n).length : Nat) : Int)), (29, .int .i64 v29)], [.box 88 [.int .i64 w.n, .lst true w.l.length (zYy e66 w.l)]], 0⟩) I3 μ3 v3 0 (St.to_mk (φ := [some 0]) rfl (rfl) ⟨Ren.ptr rfl, Ren.int _ _, Ren.int _ _, Ren.int _ _, Ren.int _ _, Ren.lst _ _ _, Ren.int _ _, Ren.int _ _, trivial⟩ ⟨.inr ⟨_, rfl, rfl, Rens.cons (Ren.int _ _) (Rens.cons (Ren.lst _ _ _) (Rens.nil))⟩, trivial⟩) hp ?_
 clear hp
 intro v3_1 v29 hI
 replace hv := hv v3_1 v29 hI
 clear hI
 refine W.rL (cL rfl (zXw rfl rfl (eL (W.seq' (W.cn rfl (fun hc => ?_) (fun hc => ?_))))))
 have hv := hv.1 hc
 refine W.skip (zZ (W.seq' (W.block (W.rL (mI rfl rfl ?_)))))
 obtain ⟨s122, hv⟩ := hv
 refine cL rfl (zYp tt109 tt104 rfl rfl (encV24.wd true) rfl s122 ?_)
 intro rest122
 refine cL rfl (zXv (cs := zYy zYx _) tt104 rfl rfl ⟨_, rfl⟩ (zXu _) (cL rfl (zXs (p := 1) tt104 rfl (ints_zero 24) (aI rfl rfl (cLn (o_stB (v := .agg _) tt104 rfl rfl rfl (zXu _) rfl (vec_in (zXu _) (zXu _)) (spl_all _ _ ((zXu _).trans (zXu _).symm)) (eL (W.tr [(1, .ptr _ _), (3, .int _ _), (4, .int _ _), (5, .int _ _), (6, .ptr _ _), (19, .int _ _), (20, .int _ _), (27, .lst _ _ _), (28, .int _ _), (29, .int _ _)] [.box _ [.int _ _, .lst _ _ _], .box _ _] ⟨rfl, rfl, rfl, rfl, rfl, rfl, rfl, rfl, rfl, rfl, trivial⟩ rfl (W.rL (mI rfl rfl ?_))))))))))
 obtain ⟨s123, hv⟩ := hv
 refine cL rfl (o_iaA tt104 tt3 rfl rfl s123 (by rw [Nat.mul_one, Nat.zero_add]) ?_)
 obtain ⟨s124, hv⟩ := hv
 refine cL rfl (zZx tt3 rfl rfl (ca_vec rfl s124) (cL rfl (zXw rfl rfl (eL (W.cn rfl (fun hc => ?_) (fun hc => ?_))))))
 have hv := hv.1 hc
 refine W.rL ?_
 iterate 2 refine mI rfl rfl ?_
 refine cL rfl (o_min rfl rfl (aI rfl rfl (eL (W.exit (bl_miss rfl (zZt (zZt (zXy (zYq (zZ (⟨(), (min v3_1 v29), hv, St.to_mk (φ := [some 0]) rfl (rfl) ⟨Ren.ptr rfl, Ren.int _ _, Ren.int _ _, Ren.int _ _, trivial⟩ ⟨.inr ⟨_, rfl, rfl, Rens.cons (Ren.int _ _) (Rens.cons (Ren.lst _ _ _) (Rens.nil))⟩, trivial⟩⟩)))))))))))
 have hv := hv.2 hc
 refine W.skip (zYq (zZ (W.rL1 ?_)))
 obtain ⟨s125, hv⟩ := hv
 refine cL rfl (o_add rfl rfl s125 (mI rfl rfl (eL (zZ (⟨(), v3_1, (v29 + 1), hv, St.to_mk (φ := [some 0]) rfl (rfl) ⟨Ren.ptr rfl, Ren.int _ _, Ren.int _ _, Ren.int _ _, Ren.int _ _, Ren.lst _ _ _, Ren.int _ _, Ren.int _ _, trivial⟩ ⟨.inr ⟨_, rfl, rfl, Rens.cons (Ren.int _ _) (Rens.cons (Ren.lst _ _ _) (Rens.nil))⟩, trivial⟩⟩)))))
 have hv := hv.2 hc
 refine W.exit (zZt (zZt (zXy (zYq (zZ (⟨(), v3_1, hv, St.to_mk (φ := [some 0]) rfl (rfl) ⟨Ren.ptr rfl, Ren.int _ _, Ren.int _ _, Ren.int _ _, trivial⟩ ⟨.inr ⟨_, rfl, rfl, Rens.cons (Ren.int _ _) (Rens.cons (Ren.lst _ _ _) (Rens.nil))⟩, trivial⟩⟩))))))
 have hv := hv.2 hc
 refine W.exit (zZt (zZt (zXy (zZ (W.seq' (W.label (zZ (W.seq' (W.rL (cL rfl (o_fa tt88 rfl tt28 rfl (cL rfl (zZx (v := .lst _ _ _) tt28 rfl rfl ⟨_, rfl⟩ (cL rfl (zXq (v := .lst _ _ _) tt28 rfl rfl (mI rfl rfl (eL (W.block ?_))))))))))))))))))
 obtain ⟨I4, μ4, hp, hv⟩ := hv
 refine W.loop1 (fun v46 => ⟨142, look [(1, .ptr 0 0), (3, .int .i64 v3), (44, .lst true w.l.length (zYy e66 w.l)), (45, .int .i64 ((w.l.length : Nat) : Int)), (46, .int .i64 v46)], [.box 88 [.int .i64 w.n, .lst true w.l.length (zYy e66 w.l)]], 0⟩) I4 μ4 0 (St.to_mk (φ := [some 0]) rfl (rfl) ⟨Ren.ptr rfl, Ren.int _ _, Ren.lst _ _ _, Ren.int _ _, Ren.int _ _, trivial⟩ ⟨.inr ⟨_, rfl, rfl, Rens.cons (Ren.int _ _) (Rens.cons (Ren.lst _ _ _) (Rens.nil))⟩, trivial⟩) hp ?_
 clear hp
 intro v46 hI
 replace hv := hv v46 hI
 clear hI
 refine W.rL (cL rfl (zXw rfl rfl (eL (W.seq' (W.cn rfl (fun hc => ?_) (fun hc => ?_))))))
 have hv := hv.1 hc
 refine W.skip (zZ ?_)
 obtain ⟨J5, hj, hv⟩ := hv
 refine W.mid0 (⟨142, look [(1, .ptr 0 0), (3, .int .i64 v3), (44, .lst true w.l.length (zYy e66 w.l)), (45, .int .i64 ((w.l.length : Nat) : Int)), (46, .int .i64 v46)], [.box 88 [.int .i64 w.n, .lst true w.l.length (zYy e66 w.l)]], 0⟩) J5 ?_ ?_
 intro hv
 replace hv := hj hv
 refine W.rL1 ?_
 obtain ⟨s4952, hv⟩ := hv
 refine cL rfl (o_add rfl rfl s4952 (mI rfl rfl (eL (zZ (⟨(), (v46 + 1), hv, St.to_mk (φ := [some 0]) rfl (rfl) ⟨Ren.ptr rfl, Ren.int _ _, Ren.lst _ _ _, Ren.int _ _, Ren.int _ _, trivial⟩ ⟨.inr ⟨_, rfl, rfl, Rens.cons (Ren.int _ _) (Rens.cons (Ren.lst _ _ _) (Rens.nil))⟩, trivial⟩⟩)))))
 clear hj
 refine W.block (W.rL (mI rfl rfl ?_))
 obtain ⟨s4953, hv⟩ := hv
 refine cL rfl (zYp tt28 tt66 rfl rfl (enc66.wd true) rfl s4953 ?_)
 intro rest4953
 refine cL rfl (zXv (cs := [.int _ _, .int _ _, .int _ _, .int _ _]) tt66 rfl rfl ⟨_, rfl⟩ rfl (cL rfl (zXs (p := 1) tt66 rfl rfl (aI rfl rfl (cLn (o_stB (v := .agg _) (vs := [.int _ _, .int _ _, .int _ _, .int _ _]) (cs2 := [.int _ _, .int _ _, .int _ _, .int _ _]) tt66 rfl rfl rfl rfl rfl (Nat.le_of_ble_eq_true rfl) rfl (eL (W.tr [(1, .ptr _ _), (3, .int _ _), (7, .int _ _), (8, .ptr _ _), (44, .lst _ _ _), (45, .int _ _), (46, .int _ _)] [.box _ [.int _ _, .lst _ _ _], .box _ [.int _ _, .int _ _, .int _ _, .int _ _]] ⟨rfl, rfl, rfl, rfl, rfl, rfl, rfl, trivial⟩ rfl (W.rL (cL rfl (zXv (cs := [.int _ _, .lst _ _ _]) tt88 rfl rfl ⟨_, rfl⟩ rfl (cL rfl (o_fa tt66 rfl tt3 rfl (cL rfl (zZx (v := .int _ _) tt3 rfl rfl ⟨_, rfl⟩ ?_)))))))))))))))
 iterate 2 refine mI rfl rfl ?_
 obtain ⟨s4954, hv⟩ := hv
 refine cL rfl (o_sub rfl rfl s4954 ?_)
 obtain ⟨s4955, hv⟩ := hv
 refine cL rfl (zZu (k := 67) (fst := []) (caps := []) (ys := [.agg _, .int _ _, .int _ _, .int _ _]) rfl rfl (spec_table w ((lat w.l v46).f) v46 (v3 - 1) s4955) (Wks.cons (zXr 5 _ (Wks.cons (zZz _ _ _ _) (Wks.cons (zZs _ _ _ _ _) (Wks.refl _)))) (Wks.cons (zZz _ _ _ _) (Wks.cons (zZz _ _ _ _) (Wks.cons (zZz _ _ _ _) (Wks.refl _))))) (aL rfl rfl (eL (W.tr [(1, .ptr _ _), (3, .int _ _), (7, .int _ _), (8, .ptr _ _), (9, .lst _ _ _), (44, .lst _ _ _), (45, .int _ _), (46, .int _ _)] [.box _ [.int _ _, .lst _ _ _], .box _ [.int _ _, .int _ _, .int _ _, .int _ _]] ⟨rfl, rfl, rfl, rfl, rfl, rfl, rfl, rfl, trivial⟩ rfl (W.seq' (W.rD [0, 1, 2, 3, 4, 5, 6, 7, 8, 9, 10, 11] (by decide +kernel) rfl (cL rfl (o_fa tt66 rfl tt3 rfl (cL rfl (zZx (v := .int _ _) tt3 rfl rfl ⟨_, rfl⟩ (mL rfl rfl (mI rfl rfl ?_))))))))))))
 obtain ⟨s4960, hv⟩ := hv
 refine cL rfl (o_sub rfl rfl s4960 (cL rfl (o_fa tt66 rfl tt3 rfl (cL rfl (zZx (v := .int _ _) tt3 rfl rfl ⟨_, rfl⟩ ?_)))))
 obtain ⟨s4961, hv⟩ := hv
 refine cL rfl (zYp tt109 tt104 rfl rfl (encV24.wd true) rfl s4961 ?_)
 intro rest4961
 obtain ⟨s4962, hv⟩ := hv
 refine cL rfl (o_iaPV tt104 tt3 rfl rfl s4962 ?_)
 intro rest4962
 refine cL rfl (zZx (v := .int _ _) tt3 rfl rfl ⟨_, rfl⟩ ?_)
 obtain ⟨s4963, hv⟩ := hv
 refine cL rfl (zZu (k := 66) (fst := []) (caps := []) (ys := [.int _ _, .int _ _]) rfl rfl (spec_plus ((lat w.l v46).m) (vat (lat (tableM w.l ((lat w.l v46).f) v46 (v3 - 1)) (v3 - 1)) ((lat w.l v46).t).toNat) s4963) (Wks.cons (zZz _ _ _ _) (Wks.cons (zZz _ _ _ _) (Wks.refl _))) (cL rfl (o_geq rfl rfl (eL (W.cn rfl (fun hc => ?_) (fun hc => ?_))))))
 have hv := hv.1 hc
 refine W.exit (zZt (zXy (zZ (⟨(), hv, St.to_mk (φ := [some 0]) rfl (rfl) ⟨Ren.ptr rfl, Ren.int _ _, Ren.lst _ _ _, Ren.int _ _, Ren.int _ _, trivial⟩ ⟨.inr ⟨_, rfl, rfl, Rens.cons (Ren.int _ _) (Rens.cons (Ren.lst _ _ _) (Rens.nil))⟩, trivial⟩⟩))))
 have hv := hv.2 hc
 refine W.skip (zZ (W.rD [0, 1, 2, 3, 4, 5, 6, 7, 8] (by decide +kernel) rfl (mI rfl rfl (cL rfl (o_bs1 (v := .int _ _) (q := 2) tt23 tt3 rfl rfl rfl rfl rfl rfl rfl rfl (cL rfl (o_fa tt66 rfl tt3 rfl (cL rfl (zZx (v := .int _ _) tt3 rfl rfl ⟨_, rfl⟩ (cL rfl (o_fa tt66 rfl tt3 rfl (cL rfl (zZx (v := .int _ _) tt3 rfl rfl ⟨_, rfl⟩ (cL rfl (zZq (v := .ref _ _ _) rfl ?_)))))))))))))))
 iterate 2 refine aI rfl rfl ?_
 refine eL (W.tr [(1, .ptr _ _), (3, .int _ _), (7, .int _ _), (9, .lst _ _ _), (10, .ref _ _ _), (11, .int _ _), (12, .int _ _), (44, .lst _ _ _), (45, .int _ _), (46, .int _ _)] [.box _ [.int _ _, .lst _ _ _], .box _ [.int _ _, .int _ _, .int _ _, .int _ _], .row _ _ _] ⟨rfl, rfl, rfl, rfl, rfl, rfl, rfl, rfl, rfl, rfl, trivial⟩ rfl (W.seq' (W.block ?_)))
 obtain ⟨I6, μ6, hp, hv⟩ := hv
 refine W.loop3 (fun v11 v12 r2 => ⟨142, look [(1, .ptr 0 0), (3, .int .i64 v3), (7, .int .i64 v46), (9, .lst false (tableM w.l ((lat w.l v46).f) v46 (v3 - 1)).length (zYy eV24 (tableM w.l ((lat w.l v46).f) v46 (v3 - 1)))), (10, .ref false 2 r2.length), (11, .int .i64 v11), (12, .int .i64 v12), (44, .lst true w.l.length (zYy e66 w.l)), (45, .int .i64 ((w.l.length : Nat) : Int)), (46, .int .i64 v46)], [.box 88 [.int .i64 w.n, .lst true w.l.length (zYy e66 w.l)], .dead, .row 3 1 (zYy zYx r2)], 0⟩) I6 μ6 ((lat w.l v46).t) ((lat w.l v46).m) [v46] (St.to_mk (φ := [some 0, none, some 2]) rfl (rfl) ⟨Ren.ptr rfl, Ren.int _ _, Ren.int _ _, Ren.lst _ _ _, Ren.ref rfl (fun h => h), Ren.int _ _, Ren.int _ _, Ren.lst _ _ _, Ren.int _ _, Ren.int _ _, trivial⟩ ⟨.inr ⟨_, rfl, rfl, Rens.cons (Ren.int _ _) (Rens.cons (Ren.lst _ _ _) (Rens.nil))⟩, rfl, .inr ⟨_, rfl, rfl, rfl, rfl, Rens.enc zZw false [v46]⟩, trivial⟩) hp ?_
 clear hp
 intro v11 v12 r2 hI
 replace hv := hv v11 v12 r2 hI
 clear hI
 refine W.seq' (W.rL (cL rfl (zZp (v := .ref _ _ _) rfl (cL rfl (zXq (v := .ref _ _ _) tt23 rfl rfl (mI rfl rfl (cL rfl (zXw rfl rfl (eL (W.tr [(1, .ptr _ _), (3, .int _ _), (7, .int _ _), (9, .lst _ _ _), (10, .ref _ _ _), (11, .int _ _), (12, .int _ _), (44, .lst _ _ _), (45, .int _ _), (46, .int _ _), (79, .bool _)] [.box _ [.int _ _, .lst _ _ _], .dead, .row _ _ _] ⟨rfl, rfl, rfl, rfl, rfl, rfl, rfl, rfl, rfl, rfl, rfl, trivial⟩ rfl (W.cn rfl (fun hc => ?_) (fun hc => ?_))))))))))))
 have hv := hv.1 hc
 refine W.skip (zZ (W.block (W.rL (mI rfl rfl ?_))))
 obtain ⟨s5529, hv⟩ := hv
 refine cL rfl (o_add rfl rfl s5529 (aI rfl rfl (eL ?_)))
 obtain ⟨J7, hj, hv⟩ := hv
 refine W.mid1 (fun v13 => ⟨142, look [(1, .ptr 0 0), (3, .int .i64 v3), (7, .int .i64 v46), (9, .lst false (tableM w.l ((lat w.l v46).f) v46 (v3 - 1)).length (zYy eV24 (tableM w.l ((lat w.l v46).f) v46 (v3 - 1)))), (10, .ref false 2 r2.length), (12, .int .i64 v12), (13, .int .i64 v13), (44, .lst true w.l.length (zYy e66 w.l)), (45, .int .i64 ((w.l.length : Nat) : Int)), (46, .int .i64 v46)], [.box 88 [.int .i64 w.n, .lst true w.l.length (zYy e66 w.l)], .dead, .row 3 1 (zYy zYx r2)], 0⟩) J7 ?_ ?_
 intro v13
 intro hv
 replace hv := hj v13 hv
 refine W.seq' (W.rL (mI rfl rfl (cL rfl (o_fa tt88 rfl tt28 rfl (cL rfl (zZx (v := .lst _ _ _) tt28 rfl rfl ⟨_, rfl⟩ (cL rfl (zXq (v := .lst _ _ _) tt28 rfl rfl (cL rfl (o_eqI rfl rfl rfl (eL (W.cn rfl (fun hc => ?_) (fun hc => ?_)))))))))))))
 have hv := hv.1 hc
 refine W.exit (zZt (bl_miss rfl (zZt (bl_miss rfl (zZt (zXy (zZ (⟨(), hv, St.to_mk (φ := [some 0]) rfl (rfl) ⟨Ren.ptr rfl, Ren.int _ _, Ren.lst _ _ _, Ren.int _ _, Ren.int _ _, trivial⟩ ⟨.inr ⟨_, rfl, rfl, Rens.cons (Ren.int _ _) (Rens.cons (Ren.lst _ _ _) (Rens.nil))⟩, trivial⟩⟩))))))))
 have hv := hv.2 hc
 refine W.skip (zZ (W.rD1 [0, 1, 2, 3, 4, 5, 6, 7, 8, 9, 10, 11, 12, 13, 14, 15, 16, 17, 18, 19, 20] (by decide +kernel) rfl (cL rfl (zZp (v := .ref _ _ _) rfl (mI rfl rfl (cL rfl (o_bs1 (v := .int _ _) (q := 3) tt23 tt3 rfl rfl rfl rfl rfl rfl rfl rfl ?_)))))))
 obtain ⟨s5584, hv⟩ := hv
 refine cL rfl (o_apR (p := 4) (q := (r2 ++ [v13]).length) tt23 tt3 rfl rfl (src_ref rfl rfl) rfl rfl (zYr (zZw.wd false) _) (Nat.le_trans (Nat.le_of_eq (@List.length_append _ (r2) ([v13])).symm) s5584) rfl (@List.length_append _ (r2) ([v13])).symm (encL_app zYx r2 [v13]) (cL rfl (o_fa tt88 rfl tt28 rfl (cL rfl (zZx (v := .lst _ _ _) tt28 rfl rfl ⟨_, rfl⟩ (mI rfl rfl ?_))))))
 obtain ⟨s5585, hv⟩ := hv
 refine cL rfl (zYp tt28 tt66 rfl rfl (enc66.wd true) rfl s5585 ?_)
 intro rest5585
 refine cL rfl (o_faP tt66 rfl tt3 rfl (cL rfl (zZx (v := .int _ _) tt3 rfl rfl ⟨_, rfl⟩ (mI rfl rfl (cL rfl (o_fa tt88 rfl tt28 rfl (cL rfl (zZx (v := .lst _ _ _) tt28 rfl rfl ⟨_, rfl⟩ (mI rfl rfl ?_)))))))))
 obtain ⟨s5586, hv⟩ := hv
 refine cL rfl (zYp tt28 tt66 rfl rfl (enc66.wd true) rfl s5586 ?_)
 intro rest5586
 refine cL rfl (o_faP tt66 rfl tt3 rfl (cL rfl (zZx (v := .int _ _) tt3 rfl rfl ⟨_, rfl⟩ ?_)))
 obtain ⟨s5587, hv⟩ := hv
 refine cL rfl (o_add rfl rfl s5587 (cL rfl (zZq (v := .ref _ _ _) rfl ?_)))
 iterate 2 refine aI rfl rfl ?_
 refine eL (zYq (zZ (⟨(), ((lat w.l v13).t), (v12 + ((lat w.l v13).m)), (r2 ++ [v13]), hv, St.to_mk (φ := [some 0, none, some 4]) rfl (rfl) ⟨Ren.ptr rfl, Ren.int _ _, Ren.int _ _, Ren.lst _ _ _, Ren.ref rfl (fun h => h), Ren.int _ _, Ren.int _ _, Ren.lst _ _ _, Ren.int _ _, Ren.int _ _, trivial⟩ ⟨.inr ⟨_, rfl, rfl, Rens.cons (Ren.int _ _) (Rens.cons (Ren.lst _ _ _) (Rens.nil))⟩, rfl, .inr ⟨_, rfl, rfl, rfl, rfl, Rens.enc zZw false (r2 ++ [v13])⟩, trivial⟩⟩)))
 clear hj
 refine W.block ?_
 obtain ⟨I8, μ8, hp, hv⟩ := hv
 refine W.loop1 (fun v13 => ⟨142, look [(1, .ptr 0 0), (3, .int .i64 v3), (7, .int .i64 v46), (9, .lst false (tableM w.l ((lat w.l v46).f) v46 (v3 - 1)).length (zYy eV24 (tableM w.l ((lat w.l v46).f) v46 (v3 - 1)))), (10, .ref false 2 r2.length), (11, .int .i64 v11), (12, .int .i64 v12), (13, .int .i64 v13), (44, .lst true w.l.length (zYy e66 w.l)), (45, .int .i64 ((w.l.length : Nat) : Int)), (46, .int .i64 v46)], [.box 88 [.int .i64 w.n, .lst true w.l.length (zYy e66 w.l)], .dead, .row 3 1 (zYy zYx r2)], 0⟩) I8 μ8 (v46 + 1) (St.to_mk (φ := [some 0, none, some 2]) rfl (rfl) ⟨Ren.ptr rfl, Ren.int _ _, Ren.int _ _, Ren.lst _ _ _, Ren.ref rfl (fun h => h), Ren.int _ _, Ren.int _ _, Ren.int _ _, Ren.lst _ _ _, Ren.int _ _, Ren.int _ _, trivial⟩ ⟨.inr ⟨_, rfl, rfl, Rens.cons (Ren.int _ _) (Rens.cons (Ren.lst _ _ _) (Rens.nil))⟩, rfl, .inr ⟨_, rfl, rfl, rfl, rfl, Rens.enc zZw false r2⟩, trivial⟩) hp ?_
 clear hp
 intro v13 hI
 replace hv := hv v13 hI
 clear hI
 refine W.seq' (W.rL (mI rfl rfl (cL rfl (o_fa tt88 rfl tt28 rfl (cL rfl (zZx (v := .lst _ _ _) tt28 rfl rfl ⟨_, rfl⟩ (cL rfl (zXq (v := .lst _ _ _) tt28 rfl rfl (cL rfl (zXw rfl rfl (eL (W.cn rfl (fun hc => ?_) (fun hc => ?_)))))))))))))
 have hv := hv.1 hc
 refine W.skip (zZ (W.seq' (W.block (W.rL (cL rfl (o_fa tt88 rfl tt28 rfl (cL rfl (zZx (v := .lst _ _ _) tt28 rfl rfl ⟨_, rfl⟩ (mI rfl rfl ?_)))))))))
 obtain ⟨s5628, hv⟩ := hv
 refine cL rfl (zYp tt28 tt66 rfl rfl (enc66.wd true) rfl s5628 ?_)
 intro rest5628
 refine cL rfl (zXv (cs := [.int _ _, .int _ _, .int _ _, .int _ _]) tt66 rfl rfl ⟨_, rfl⟩ rfl (cL rfl (zXs (p := 3) tt66 rfl rfl (cLn (o_stB (v := .agg _) (vs := [.int _ _, .int _ _, .int _ _, .int _ _]) (cs2 := [.int _ _, .int _ _, .int _ _, .int _ _]) tt66 rfl rfl rfl rfl rfl (Nat.le_of_ble_eq_true rfl) rfl (eL (W.tr [(1, .ptr _ _), (3, .int _ _), (7, .int _ _), (9, .lst _ _ _), (10, .ref _ _ _), (11, .int _ _), (12, .int _ _), (13, .int _ _), (14, .ptr _ _), (44, .lst _ _ _), (45, .int _ _), (46, .int _ _)] [.box _ [.int _ _, .lst _ _ _], .dead, .row _ _ _, .box _ [.int _ _, .int _ _, .int _ _, .int _ _]] ⟨rfl, rfl, rfl, rfl, rfl, rfl, rfl, rfl, rfl, rfl, rfl, rfl, trivial⟩ rfl ?_)))))))
 obtain ⟨sd, hv⟩ := hv
 refine W.rDm ⟨142, look [(1, .ptr 0 0), (3, .int .i64 v3), (7, .int .i64 v46), (9, .lst false (tableM w.l ((lat w.l v46).f) v46 (v3 - 1)).length (zYy eV24 (tableM w.l ((lat w.l v46).f) v46 (v3 - 1)))), (10, .ref false 2 r2.length), (11, .int .i64 v11), (12, .int .i64 v12), (13, .int .i64 v13), (44, .lst true w.l.length (zYy e66 w.l)), (45, .int .i64 ((w.l.length : Nat) : Int)), (46, .int .i64 v46), (116, .bool (decide (((lat w.l v13).f = v11) /\ ((zW (v12 + ((lat w.l v13).m)) (vat (lat (tableM w.l ((lat w.l v46).f) v46 (v3 - 1)) ((v3 - ((r2.length : Nat) : Int)) - 1)) ((lat w.l v13).t).toNat)) < 0))))], [.box 88 [.int .i64 w.n, .lst true w.l.length (zYy e66 w.l)], .dead, .row 3 1 (zYy zYx r2), .box 66 [.int .i64 ((lat w.l v13).f), .int .i64 ((lat w.l v13).t), .int .i64 ((lat w.l v13).m), .int .i64 ((lat w.l v13).a)]], 0⟩ [0, 1, 2, 3, 4, 5, 6, 7, 8, 9, 10, 11, 12, 13, 14, 15, 16, 17, 18, 19, 20, 21, 22] (by decide +kernel) rfl ?_ ?_
 refine cL rfl (o_fa tt66 rfl tt3 rfl (cL rfl (zZx (v := .int _ _) tt3 rfl rfl ⟨_, rfl⟩ (mI rfl rfl (cL rfl (o_eqI rfl rfl rfl (mB rfl rfl ?_)))))))
 by_cases c1 : (lat w.l v13).f = v11
 have sd := sd.1 c1
 refine cLg rfl rfl (dT c1) (mI rfl rfl (cLg rfl rfl (dT c1) (cL rfl (o_fa tt66 rfl tt3 rfl (cLg rfl rfl (dT c1) (cL rfl (zZx (v := .int _ _) tt3 rfl rfl ⟨_, rfl⟩ (cLg rfl rfl (dT c1) ?_))))))))
 obtain ⟨s5635, sd⟩ := sd
 refine cL rfl (o_add rfl rfl s5635 (cLg rfl rfl (dT c1) (mL rfl rfl (cLg rfl rfl (dT c1) (mI rfl rfl (cLg rfl rfl (dT c1) (cL rfl (zZp (v := .ref _ _ _) rfl (cLg rfl rfl (dT c1) (cL rfl (zXq (v := .ref _ _ _) tt23 rfl rfl (cLg rfl rfl (dT c1) ?_))))))))))))
 obtain ⟨s5636, sd⟩ := sd
 refine cL rfl (o_sub rfl rfl s5636 (cLg rfl rfl (dT c1) ?_))
 obtain ⟨s5637, sd⟩ := sd
 refine cL rfl (o_sub rfl rfl s5637 (cLg rfl rfl (dT c1) (cL rfl (o_fa tt66 rfl tt3 rfl (cLg rfl rfl (dT c1) (cL rfl (zZx (v := .int _ _) tt3 rfl rfl ⟨_, rfl⟩ (cLg rfl rfl (dT c1) ?_))))))))
 obtain ⟨s5638, sd⟩ := sd
 refine cL rfl (zYp tt109 tt104 rfl rfl (encV24.wd true) rfl s5638 ?_)
 intro rest5638
 refine cLg rfl rfl (dT c1) ?_
 obtain ⟨s5639, sd⟩ := sd
 refine cL rfl (o_iaPV tt104 tt3 rfl rfl s5639 ?_)
 intro rest5639
 refine cLg rfl rfl (dT c1) (cL rfl (zZx (v := .int _ _) tt3 rfl rfl ⟨_, rfl⟩ (cLg rfl rfl (dT c1) ?_)))
 obtain ⟨s5640, sd⟩ := sd
 refine cL rfl (zZu (k := 66) (fst := []) (caps := []) (ys := [.int _ _, .int _ _]) rfl rfl (spec_plus (v12 + ((lat w.l v13).m)) (vat (lat (tableM w.l ((lat w.l v46).f) v46 (v3 - 1)) ((v3 - ((r2.length : Nat) : Int)) - 1)) ((lat w.l v13).t).toNat) s5640) (Wks.cons (zZz _ _ _ _) (Wks.cons (zZz _ _ _ _) (Wks.refl _))) (cLg rfl rfl (dT c1) (cL rfl (zXw rfl rfl (cL rfl (zZv (v := .bool _) rfl (dT c1) rfl (eL (zYz ⟨rfl, rfl, rfl, rfl, rfl, rfl, rfl, rfl, rfl, rfl, rfl, (congrArg AV.bool (zXp c1 (rfl))).symm, trivial⟩ rfl))))))))
 iterate 17 refine cLs rfl rfl rfl (dF c1) ?_
 refine cL rfl (zZy (v := .bool _) rfl (dF c1) rfl (eL (zYz ⟨rfl, rfl, rfl, rfl, rfl, rfl, rfl, rfl, rfl, rfl, rfl, (congrArg AV.bool (dAndF c1)).symm, trivial⟩ rfl)))
 refine W.cn rfl (fun hc => ?_) (fun hc => ?_)
 have hv := hv.1 hc
 refine W.exit (bl_miss rfl (zZt (zZt (zXy (zZ (⟨(), v13, hv, St.to_mk (φ := [some 0, none, some 2]) rfl (rfl) ⟨Ren.ptr rfl, Ren.int _ _, Ren.int _ _, Ren.lst _ _ _, Ren.ref rfl (fun h => h), Ren.int _ _, Ren.int _ _, Ren.lst _ _ _, Ren.int _ _, Ren.int _ _, trivial⟩ ⟨.inr ⟨_, rfl, rfl, Rens.cons (Ren.int _ _) (Rens.cons (Ren.lst _ _ _) (Rens.nil))⟩, rfl, .inr ⟨_, rfl, rfl, rfl, rfl, Rens.enc zZw false r2⟩, trivial⟩⟩))))))
 have hv := hv.2 hc
 refine W.skip (zYq (zZ (W.rL1 (mI rfl rfl ?_))))
 obtain ⟨s5641, hv⟩ := hv
 refine cL rfl (o_add rfl rfl s5641 (aI rfl rfl (eL (zZ (⟨(), (v13 + 1), hv, St.to_mk (φ := [some 0, none, some 2]) rfl (rfl) ⟨Ren.ptr rfl, Ren.int _ _, Ren.int _ _, Ren.lst _ _ _, Ren.ref rfl (fun h => h), Ren.int _ _, Ren.int _ _, Ren.int _ _, Ren.lst _ _ _, Ren.int _ _, Ren.int _ _, trivial⟩ ⟨.inr ⟨_, rfl, rfl, Rens.cons (Ren.int _ _) (Rens.cons (Ren.lst _ _ _) (Rens.nil))⟩, rfl, .inr ⟨_, rfl, rfl, rfl, rfl, Rens.enc zZw false r2⟩, trivial⟩⟩)))))
 have hv := hv.2 hc
 refine W.exit (zZt (zZt (zXy (zZ (⟨(), v13, hv, St.to_mk (φ := [some 0, none, some 2]) rfl (rfl) ⟨Ren.ptr rfl, Ren.int _ _, Ren.int _ _, Ren.lst _ _ _, Ren.ref rfl (fun h => h), Ren.int _ _, Ren.int _ _, Ren.lst _ _ _, Ren.int _ _, Ren.int _ _, trivial⟩ ⟨.inr ⟨_, rfl, rfl, Rens.cons (Ren.int _ _) (Rens.cons (Ren.lst _ _ _) (Rens.nil))⟩, rfl, .inr ⟨_, rfl, rfl, rfl, rfl, Rens.enc zZw false r2⟩, trivial⟩⟩)))))
 have hv := hv.2 hc
 refine W.exit (zZt (zZt (zXy (zZ (W.rL (cL rfl (zZp (v := .ref _ _ _) rfl (cL rfl (zZq (v := .ref _ _ _) rfl (eL (W.tr [(2, .ref _ _ _)] [.box _ [.int _ _, .lst _ _ _], .dead, .row _ _ _] ⟨rfl, trivial⟩ rfl (W.ret (zXz (zZr (zZr (zXz (zZr (rt (rt_t (v := .ref _ _ _) rfl (rt_n (⟨_, rs_ref zZw 4 _ rfl rfl, r2, rfl, hv⟩)))))))))))))))))))))
 have hv := hv.2 hc
 refine W.exit (zZt (zZt (zXy (zZ (W.rL (cL rfl (zZq (v := .nilS) rfl (eL (W.ret (rt (rt_t (v := .nilS) rfl (rt_n (⟨_, rs_nil _ _ _ _ rfl, [], rfl, hv⟩)))))))))))))
theorem vcp_first (w : Wlk) (h0 : FirstOk w.n w.l) : vc_first w (fun q0 => q0 = (firstM w.n w.l)) := by
  unfold vc_first
  have hnb := hNB
  obtain ⟨n, l⟩ := w
  change validM n l = true at h0
  dsimp only
  obtain ⟨⟨hn1, hn2, hlen⟩, hp⟩ := validM_iff.mp h0
  have hl : ∀ c ∈ l, (0 <= c.f /\ c.f < 24) /\ (0 <= c.t /\ c.t < 24) /\ -1125899906842624 <= c.m /\ c.m <= 1125899906842624 := fun c hc => by
    have := possM_iff.mp (hp c hc); omega
  have hbd : ∀ to above : Int, 0 <= to /\ to < 24 -> ∀ k e : Nat, k <= 25 -> -28147497671065600 <= vat (tabD l to above k) e /\ vat (tabD l to above k) e <= 1152921504606846976 := fun to above ht k e hk => by
    have := tabD_bd (l := l) (to := to) (above := above) (fun c hc => ⟨(hl c hc).1, (hl c hc).2.2.1⟩) ht k e
    omega
  refine ⟨by unfold inI; omega, fun z v => ∃ i : Nat, v = i /\ i <= n.toNat /\ z = (List.range i).foldl (sizeStep n l) (n + 1), fun _ v => n.toNat - v.toNat, ⟨0, rfl, by omega, rfl⟩, ?_⟩
  rintro z _ ⟨i, rfl, hi, hz⟩
  refine ⟨fun h1 => ⟨fun z' => z' = sizeStep n l z i, fun z' hz' => ⟨by unfold inI; omega, ⟨i + 1, by omega, by omega, ?_⟩, by dsimp only; omega⟩, ⟨by omega, hlen, hl, by omega, by omega⟩, fun z' r => ∃ k : Nat, r = k /\ z' = z /\ k <= n.toNat + 1 /\ ∀ j, j < k -> ¬ vat (tabD l i (-1) j) i < 0, fun _ r => n.toNat + 1 - r.toNat, ⟨0, rfl, rfl, by omega, by omega⟩, ?_⟩, fun h1 => ?_⟩
  . rw [hz', hz, List.range_succ, List.foldl_append]; rfl
  . rintro z' _ ⟨k, rfl, rfl, hk, hkn⟩
    rw [tableM_len]
    refine ⟨fun h2 => ?_, fun h2 => ?_⟩
    . rw [tableM_at ⟨by omega, by omega⟩]
      simp only [Int.toNat_natCast]
      refine ⟨by omega, by omega, by omega, fun h3 => ?_, fun h3 => ⟨by unfold inI; omega, ⟨k + 1, by omega, trivial, by omega, fun j hj => ?_⟩, by omega⟩⟩
      . have : sizeAt n l i = some k := find_drop_some (a := 0) ⟨by omega, by omega⟩ (decide_eq_true h3) (fun j _ hj h => hkn j hj (of_decide_eq_true h))
        unfold sizeStep; rw [this]
      . rcases Nat.lt_or_ge j k with h6 | h6
        . exact hkn j h6
        . have : j = k := by omega
          subst this; exact h3
    . have : sizeAt n l i = none := find_drop_none (a := 0) (fun j _ hj h => hkn j (by omega) (of_decide_eq_true h))
      unfold sizeStep; rw [this]
  have hi' : i = n.toNat := by omega
  have hzb := sizeM_bd (l := l) ⟨hn1, hn2⟩ i (by omega)
  rw [<- hz] at hzb
  have hzs : z = sizeM n l := by rw [hz, hi', sizeM_eq]
  clear hz h1 hi hi'
  refine ⟨fun v => ∃ s : Nat, v = s /\ s <= l.length /\ ∀ j, j < s -> firstAt l z j = none, fun v => l.length - v.toNat, ⟨0, rfl, by omega, by omega⟩, ?_⟩
  rintro _ ⟨s, rfl, hs, hsn⟩
  refine ⟨fun h2 => ?_, fun h2 => ?_⟩
  rotate_left
  . show [] = firstM n l
    unfold firstM
    rw [<- hzs, findSome_range_none fun j hj => hsn j (by omega)]; rfl
  have hc := hl _ (lat_mem (xs := l) (i := s) ⟨by omega, by omega⟩)
  rw [lat_nat] at hc ⊢
  rw [tableM_at ⟨by omega, by omega⟩]
  have hd0 := fun k e => hbd (l.getD s default).f s hc.1 k e
  have hd1 := hd0 (z - 1).toNat (l.getD s default).t.toNat (by omega)
  refine ⟨firstAt l z s = none, fun hJ => ⟨by unfold inI; omega, ⟨s + 1, by omega, by omega, fun j hj => ?_⟩, by dsimp only; omega⟩, by omega, by unfold inI; omega, ⟨by omega, hlen, hl, hc.1, by omega⟩, by unfold inI; omega, by rw [tableM_len]; omega, by omega, fun _ _ => by unfold inI; omega, fun h3 => firstAt_none h3, fun h3 => ?_⟩
  . rcases Nat.lt_or_ge j s with h6 | h6
    . exact hsn j h6
    . have : j = s := by omega
      subst this; exact hJ
  have hfs := firstAt_some h3
  refine ⟨fun a t out => ∃ k : Nat, firstAt l z s = chainC l (tabD l (l.getD s default).f s) z s k out a t /\ z <= k + out.length /\ 1 <= out.length /\ (out.length : Int) <= z /\ -(out.length * 1125899906842624) <= t /\ t <= out.length * 1125899906842624, fun _ _ out => z.toNat - out.length, ⟨z.toNat, hfs, by omega, by simp only [List.length_append, List.length_cons, List.length_nil]; omega, by simp only [List.length_append, List.length_cons, List.length_nil]; omega, by simp only [List.length_append, List.length_cons, List.length_nil]; omega, by simp only [List.length_append, List.length_cons, List.length_nil]; omega⟩, ?_⟩
  rintro a t out ⟨k, hk, hkz, ho1, hoz, ht1, ht2⟩
  refine ⟨fun h4 => ⟨by unfold inI; omega, fun v => (∃ i : Nat, v = i /\ i < l.length /\ nextC l (tabD l (l.getD s default).f s) z s out.length a t = some i) \/ (v = l.length /\ nextC l (tabD l (l.getD s default).f s) z s out.length a t = none), fun v hv => ⟨fun h5 => ?_, fun h5 => ?_⟩, fun v => ∃ i : Nat, v = i /\ s + 1 <= i /\ i <= l.length /\ ∀ j, s + 1 <= j -> j < i -> ¬ ((l.getD j default).f = a /\ zW (t + (l.getD j default).m) (vat (tabD l (l.getD s default).f s (z - out.length - 1).toNat) (l.getD j default).t.toNat) < 0), fun v => l.length - v.toNat, ⟨s + 1, by omega, by omega, by omega, by omega⟩, ?_⟩, fun h4 => ?_⟩
  . obtain ⟨k, rfl⟩ : ∃ k', k = k' + 1 := ⟨k - 1, by omega⟩
    rcases hv with ⟨i, rfl, hi, hx⟩ | ⟨-, hx⟩
    . omega
    . rw [hk, chain_none h4 hx]
  . obtain ⟨k, rfl⟩ : ∃ k', k = k' + 1 := ⟨k - 1, by omega⟩
    rcases hv with ⟨i, rfl, hi, hx⟩ | ⟨hx, -⟩
    . have hci := hl _ (lat_mem (xs := l) (i := i) ⟨by omega, by omega⟩)
      rw [lat_nat] at hci ⊢
      refine ⟨by simp only [List.length_append, List.length_cons, List.length_nil]; omega, by omega, by omega, by unfold inI; omega, ⟨k, by rw [hk, chain_some h4 hx], by simp only [List.length_append, List.length_cons, List.length_nil]; omega, by simp only [List.length_append, List.length_cons, List.length_nil]; omega, by simp only [List.length_append, List.length_cons, List.length_nil]; omega, by simp only [List.length_append, List.length_cons, List.length_nil]; omega, by simp only [List.length_append, List.length_cons, List.length_nil]; omega⟩, by simp only [List.length_append, List.length_cons, List.length_nil]; omega⟩
    . exact (h5 hx).elim
  . rintro _ ⟨i, rfl, hi1, hi2, hin⟩
    refine ⟨fun h5 => ?_, fun h5 => .inr ⟨by omega, find_drop_none fun j hj1 hj2 h => hin j hj1 (by omega) (of_decide_eq_true h)⟩⟩
    have hci := hl _ (lat_mem (xs := l) (i := i) ⟨by omega, by omega⟩)
    rw [lat_nat] at hci ⊢
    rw [tableM_at ⟨by omega, by omega⟩]
    have hd2 := hd0 (z - out.length - 1).toNat (l.getD i default).t.toNat (by omega)
    refine ⟨by omega, ⟨fun h6 => ⟨by unfold inI; omega, by unfold inI; omega, by unfold inI; omega, by rw [tableM_len]; omega, by omega, fun _ _ => by unfold inI; omega, trivial⟩, fun _ => trivial⟩, fun h6 => .inl ⟨i, rfl, by omega, find_drop_some ⟨hi1, by omega⟩ (decide_eq_true h6) fun j hj1 hj2 h => hin j hj1 hj2 (of_decide_eq_true h)⟩, fun h6 => ⟨by unfold inI; omega, ⟨i + 1, by omega, by omega, by omega, fun j hj1 hj2 => ?_⟩, by dsimp only; omega⟩⟩
    rcases Nat.lt_or_ge j i with h7 | h7
    . exact hin j hj1 h7
    . have : j = i := by omega
      subst this; exact h6
  . show out = firstM n l
    unfold firstM
    rw [<- hzs, findSome_range_some (i := s) (by omega) (by rw [hk, chain_done h4]) hsn]; rfl
theorem spec_first (w : Wlk) (h0 : FirstOk w.n w.l) : FnP Try.prog 45 [.agg ((e88 true) w)] (fun xR => xR = .lst false (firstM w.n w.l).length (zYy zYx (firstM w.n w.l))) :=
  (walk_first (vcp_first w h0)).mono (by rintro _ ⟨_, rfl, rfl⟩; rfl)
def vc_clone (s : (List Int)) (Post : (List Int) -> Prop) : Prop :=
  ∃ J1 : Prop, (J1 -> ((s).length <= 1073741824) /\ Post s) /\ ((0 < s.length -> J1) /\ (s.length = 0 -> (Post []) /\ (J1)))
theorem walk_clone {s : (List Int)} {Post : (List Int) -> Prop} (hv : vc_clone s Post) : FnP Try.prog 61 [.lst true s.length (zYy zYx s)] (fun x => ∃ q0, x = .lst false q0.length (zYy zYx q0) /\ Post q0) := by
 refine FnP.of_walk (T := tt) (nt := 8) ttOk ttMix ⟨⟨Try.f61, Try.func61, rfl, rfl, rfl, rfl⟩⟩ (by simp) ?_
 unfold vc_clone at hv
 change W _ _ _ ⟨8, look [(0, .lst true s.length (zYy zYx s))], [], 0⟩ _
 refine W.rL (cL rfl (zZq (v := .nilS) rfl (eL ?_)))
 obtain ⟨J1, hj, hv⟩ := hv
 refine W.mid0 (⟨8, look [(0, .lst true s.length (zYy zYx s))], [], 0⟩) J1 ?_ ?_
 intro hv
 replace hv := hj hv
 refine W.rL (cL rfl (o_buildS (q := 0) (qs := []) (cs := []) tt23 tt3 rfl rfl rfl rfl (mL rfl rfl ?_)))
 obtain ⟨s1, hv⟩ := hv
 refine cL rfl (o_apR (p := 1) (q := (s).length) tt23 tt3 rfl rfl (src_lst (zZw.wd true) _ _ rfl) (zYr (zZw.wd true) _) rfl rfl (by simpa using s1) rfl (Nat.zero_add _) (List.nil_append _) (cL rfl (zZq (v := .ref _ _ _) rfl (eL (W.tr [(2, .ref _ _ _)] [.dead, .row _ _ _] ⟨rfl, trivial⟩ rfl (W.ret (rt (rt_t (v := .ref _ _ _) rfl (rt_n (⟨_, rs_ref zZw 4 _ rfl rfl, s, rfl, hv⟩))))))))))
 clear hj
 refine W.rL (mL rfl rfl (cL rfl (o_nilEL tt23 rfl ⟨fun hz => ?_, fun hz => ⟨?_, ?_⟩⟩)))
 have hv := hv.1 hz
 refine eL (W.cF rfl (W.skip (zZ (⟨(), hv, St.to_mk (φ := []) rfl (rfl) ⟨Ren.lst _ _ _, trivial⟩ trivial⟩))))
 have hv := (hv.2 hz).1
 refine eL (W.cT rfl (W.rL (cL rfl (zZq (v := .nilS) rfl (eL (W.ret (zZr (rt (rt_t (v := .nilS) rfl (rt_n (⟨_, rs_nil _ _ _ _ rfl, [], rfl, hv⟩)))))))))))
 have hv := (hv.2 hz).2
 refine eL (W.cF rfl (W.skip (zZ (⟨(), hv, St.to_mk (φ := []) rfl (rfl) ⟨Ren.lst _ _ _, trivial⟩ trivial⟩))))
theorem vcp_clone (s : (List Int)) (h0 : s.length <= 1073741824) : vc_clone s (fun q0 => q0 = (s)) := by
  unfold vc_clone
  exact ⟨True, fun _ => ⟨h0, rfl⟩, fun _ => trivial, fun h => ⟨(List.eq_nil_of_length_eq_zero h).symm, trivial⟩⟩
theorem spec_clone (s : (List Int)) (h0 : s.length <= 1073741824) : FnP Try.prog 61 [.lst true s.length (zYy zYx s)] (fun xR => xR = .lst false (s).length (zYy zYx (s))) :=
  (walk_clone (vcp_clone s h0)).mono (by rintro _ ⟨_, rfl, rfl⟩; rfl)
def vc_bounds (m : (Vector Int 576)) (n : Int) (Post : Bd -> Prop) : Prop :=
  ∃ (I1 : Int -> Int -> List (List Int) -> Prop) (μ1 : Int -> Int -> List (List Int) -> Nat), I1 0 n [] /\ ∀ (v10 : Int) (b1n : Int) (r2 : List (List Int)), I1 v10 b1n r2 -> ((v10 < n) -> (0 <= v10 /\ v10 < ((24 : Nat) : Int)) /\ (0 <= ((0 : Nat) : Int) /\ ((0 : Nat) : Int) <= n /\ n <= ((24 : Nat) : Int)) /\ (v10.toNat * 24 + 24 <= 576) /\ (((m.toList.drop (v10.toNat * 24)).take n.toNat).length <= 1073741824) /\ ((r2 ++ [((m.toList.drop (v10.toNat * 24)).take n.toNat)]).length <= 1073741824) /\ (inI (v10 + 1)) /\ (I1 (v10 + 1) b1n (r2 ++ [((m.toList.drop (v10.toNat * 24)).take n.toNat)]) /\ μ1 (v10 + 1) b1n (r2 ++ [((m.toList.drop (v10.toNat * 24)).take n.toNat)]) < μ1 v10 b1n r2)) /\ (¬ (v10 < n) -> Post (Bd.mk b1n r2))
theorem walk_bounds {m : (Vector Int 576)} {n : Int} {Post : Bd -> Prop} (hv : vc_bounds m n Post) : FnP Try.prog 46 [.ipt true (zYy zYx m.toList), .int .i64 n] (fun x => ∃ q0, x = .agg ((e53 false) q0) /\ Post q0) := by
 refine FnP.of_walk (T := tt) (nt := 27) ttOk ttMix ⟨⟨Try.f46, Try.func46, rfl, rfl, rfl, rfl⟩⟩ (by simp) ?_
 unfold vc_bounds at hv
 change W _ _ _ ⟨27, look [(0, .ipt true (zYy zYx m.toList)), (1, .int .i64 n)], [], 0⟩ _
 refine W.rL (cL rfl (zXs (p := 0) tt53 rfl rfl (eL (W.rL (mI rfl rfl (cL rfl (o_build (qs := [(0, .int _ _)]) (cs := [.int _ _, .nilS]) tt53 rfl rfl rfl (cL rfl (zXs (p := 1) tt53 rfl rfl (cLn (o_stB (v := .agg _) (vs := [.int _ _, .nilS]) (cs2 := [.int _ _, .nilS]) tt53 rfl rfl rfl rfl rfl (Nat.le_of_ble_eq_true rfl) rfl (eL (W.tr [(0, .ipt _ _), (1, .int _ _), (4, .ptr _ _), (5, .ptr _ _)] [.box _ [.int _ _, .nilS], .box _ [.int _ _, .nilS]] ⟨rfl, rfl, rfl, rfl, trivial⟩ rfl (W.seq' (W.rL ?_)))))))))))))))
 iterate 2 refine mI rfl rfl ?_
 refine eL (W.block ?_)
 obtain ⟨I1, μ1, hp, hv⟩ := hv
 refine W.loop3 (fun v10 b1n r2 => ⟨27, look [(0, .ipt true (zYy zYx m.toList)), (1, .int .i64 n), (4, .ptr 0 0), (5, .ptr 1 0), (9, .int .i64 n), (10, .int .i64 v10)], [.box 53 [.int .i64 0, .nilS], .box 53 [.int .i64 b1n, .ref true 2 r2.length], .row 23 1 (zYy (eSl zYx false) r2)], 0⟩) I1 μ1 0 n [] (St.to_mk (φ := [some 0, some 1, none]) rfl (rfl) ⟨Ren.ipt _ _, Ren.int _ _, Ren.ptr rfl, Ren.ptr rfl, Ren.int _ _, Ren.int _ _, trivial⟩ ⟨.inr ⟨_, rfl, rfl, Rens.cons (Ren.int _ _) (Rens.cons (Ren.nilS) (Rens.nil))⟩, .inr ⟨_, rfl, rfl, Rens.cons (Ren.int _ _) (Rens.cons (Ren.nilR rfl rfl) (Rens.nil))⟩, rfl, trivial⟩) hp ?_
 clear hp
 intro v10 b1n r2 hI
 replace hv := hv v10 b1n r2 hI
 clear hI
 refine W.rL (cL rfl (zXw rfl rfl (eL (W.seq' (W.cn rfl (fun hc => ?_) (fun hc => ?_))))))
 have hv := hv.1 hc
 refine W.skip (zZ (W.seq' (W.block (W.rL (mI rfl rfl (aI rfl rfl (eL (W.rD1 [0, 1, 2, 3, 4, 5, 6, 7, 8, 9, 10, 11, 12] (by decide +kernel) rfl (cL rfl (o_fa tt53 rfl tt51 rfl (cL rfl (zZx (v := .ref _ _ _) tt51 rfl rfl ⟨_, rfl⟩ (cL rfl (zZp (v := .ipt _ _) rfl (mI rfl rfl (cL rfl (o_nilP (fl := true) rfl ?_)))))))))))))))))
 obtain ⟨s57, hv⟩ := hv
 refine cL rfl (o_iaP tt108 tt104 rfl rfl s57 (mI rfl rfl ?_))
 obtain ⟨s58, s59, hv⟩ := hv
 refine cL rfl (o_slW (ys := (m.toList.drop (v10.toNat * 24)).take n.toNat) tt104 tt3 rfl rfl s58 s59 rfl ?_)
 obtain ⟨s60, hv⟩ := hv
 refine cL rfl (zZu (k := 61) (fst := []) (caps := []) (ys := [.lst _ _ _]) rfl rfl (spec_clone ((m.toList.drop (v10.toNat * 24)).take n.toNat) s60) (Wks.cons (zZs _ _ _ _ _) (Wks.refl _)) (cL rfl (o_bs1 (v := .lst _ _ _) (q := 3) tt51 tt23 rfl rfl rfl rfl rfl rfl rfl rfl ?_)))
 obtain ⟨s61, hv⟩ := hv
 refine cL rfl (o_apR (p := 4) (q := (r2 ++ [((m.toList.drop (v10.toNat * 24)).take n.toNat)]).length) tt51 tt23 rfl rfl (src_ref rfl rfl) rfl rfl (zYr ((encSl zYx).wd false) _) (Nat.le_trans (Nat.le_of_eq (@List.length_append _ (r2) ([((m.toList.drop (v10.toNat * 24)).take n.toNat)])).symm) s61) rfl (@List.length_append _ (r2) ([((m.toList.drop (v10.toNat * 24)).take n.toNat)])).symm (encL_app (eSl zYx false) r2 [((m.toList.drop (v10.toNat * 24)).take n.toNat)]) (cL rfl (o_fa tt53 rfl tt51 rfl (cLn (o_stB (v := .ref _ _ _) (vs := [.ref _ _ _]) (cs2 := [.int _ _, .ref _ _ _]) tt51 rfl rfl rfl rfl rfl (Nat.le_of_ble_eq_true rfl) rfl (eL (zYq (zZ (W.tr [(0, .ipt _ _), (1, .int _ _), (4, .ptr _ _), (5, .ptr _ _), (9, .int _ _), (10, .int _ _)] [.box _ [.int _ _, .nilS], .box _ [.int _ _, .ref _ _ _], .dead, .row _ _ _, .row _ _ _] ⟨rfl, rfl, rfl, rfl, rfl, rfl, trivial⟩ rfl (W.rL1 ?_))))))))))
 obtain ⟨s62, hv⟩ := hv
 refine cL rfl (o_add rfl rfl s62 (mI rfl rfl (eL (zZ (⟨(), (v10 + 1), b1n, (r2 ++ [((m.toList.drop (v10.toNat * 24)).take n.toNat)]), hv, St.to_mk (φ := [some 0, some 1, some 4]) rfl (rfl) ⟨Ren.ipt _ _, Ren.int _ _, Ren.ptr rfl, Ren.ptr rfl, Ren.int _ _, Ren.int _ _, trivial⟩ ⟨.inr ⟨_, rfl, rfl, Rens.cons (Ren.int _ _) (Rens.cons (Ren.nilS) (Rens.nil))⟩, .inr ⟨_, rfl, rfl, Rens.cons (Ren.int _ _) (Rens.cons (Ren.ref rfl (fun h => rfl)) (Rens.nil))⟩, .inr ⟨_, rfl, rfl, rfl, rfl, Rens.enc (encSl zYx) false (r2 ++ [((m.toList.drop (v10.toNat * 24)).take n.toNat)])⟩, trivial⟩⟩)))))
 have hv := hv.2 hc
 refine W.exit (zZt (zZt (zXy (zZ (W.tr [(4, .ptr _ _), (5, .ptr _ _)] [.box _ [.int _ _, .nilS], .box _ [.int _ _, .ref _ _ _], .row _ _ _] ⟨rfl, rfl, trivial⟩ rfl (W.rL (cL rfl (zXv (cs := [.int _ _, .ref _ _ _]) tt53 rfl rfl ⟨_, rfl⟩ rfl (cLn (o_stB (v := .agg _) (vs := [.int _ _, .ref _ _ _]) (cs2 := [.int _ _, .ref _ _ _]) tt53 rfl rfl rfl rfl rfl (Nat.le_of_ble_eq_true rfl) rfl (eL (W.tr [(4, .ptr _ _)] [.box _ [.int _ _, .ref _ _ _], .box _ [.int _ _, .ref _ _ _], .row _ _ _] ⟨rfl, trivial⟩ rfl (W.ret (rt (rt_c (x := .ptr _ _) rfl (ldA (cs := [.int _ _, .ref _ _ _]) tt53 rfl ⟨_, rfl⟩ rfl (rt_n (⟨_, rs_agg 5 _ (Wks.cons (zY _ _ _ _) (Wks.cons (rs_ref (encSl zYx) 3 _ rfl rfl) (Wks.refl _))), (Bd.mk b1n r2), rfl, hv⟩))))))))))))))))))
theorem vcp_bounds (m : (Vector Int 576)) (n : Int) (h0 : 1 <= n /\ n <= 24) : vc_bounds m n (fun q0 => q0 = (zYs m n)) := by
  unfold vc_bounds
  refine ⟨fun v b l => ∃ i : Nat, v = i /\ i <= n.toNat /\ b = n /\ l = (List.range i).map fun i => (m.toList.drop (i * 24)).take n.toNat, fun v _ _ => n.toNat - v.toNat, ⟨0, rfl, by omega, rfl, rfl⟩, ?_⟩
  rintro _ _ _ ⟨i, rfl, hi, hb, rfl⟩
  refine ⟨fun h1 => ⟨by omega, by omega, by omega, by simp; omega, by simp; omega, by unfold inI; omega, ⟨i + 1, by omega, by omega, hb, ?_⟩, by dsimp only; omega⟩, fun h1 => ?_⟩
  . rw [List.range_succ, List.map_append]; simp
  . have : i = n.toNat := by omega
    subst this; subst hb; unfold zYs; rfl
theorem spec_bounds (m : (Vector Int 576)) (n : Int) (h0 : 1 <= n /\ n <= 24) : FnP Try.prog 46 [.ipt true (zYy zYx m.toList), .int .i64 n] (fun xR => xR = .agg ((e53 false) (zYs m n))) :=
  (walk_bounds (vcp_bounds m n h0)).mono (by rintro _ ⟨_, rfl, rfl⟩; rfl)
def vc_close (n : Int) (l : (List Con)) (Post : Bd -> (List Int) -> Int -> Prop) : Prop :=
  (l.length <= 1073741824) /\ ((¬ ((validM n l) = true)) -> Post (Bd.mk 0 []) [] 2) /\ (¬ (¬ ((validM n l) = true)) -> ∃ (I1 : Int -> (Vector Int 576) -> Prop) (μ1 : Int -> (Vector Int 576) -> Nat), I1 0 freeM /\ ∀ (v18 : Int) (m1 : (Vector Int 576)), I1 v18 m1 -> ((v18 < ((l.length : Nat) : Int)) -> (0 <= v18 /\ v18 < (l.length : Int)) /\ (AddOk m1 ((lat l v18).f) ((lat l v18).t) ((lat l v18).m)) /\ ((¬ (((addM m1 ((lat l v18).f) ((lat l v18).t) ((lat l v18).m)).1) = true)) -> (FirstOk (Wlk.mk n l).n (Wlk.mk n l).l) /\ Post (Bd.mk 0 []) (firstM (Wlk.mk n l).n (Wlk.mk n l).l) 70) /\ (¬ (¬ (((addM m1 ((lat l v18).f) ((lat l v18).t) ((lat l v18).m)).1) = true)) -> (inI (v18 + 1)) /\ (I1 (v18 + 1) ((addM m1 ((lat l v18).f) ((lat l v18).t) ((lat l v18).m)).2) /\ μ1 (v18 + 1) ((addM m1 ((lat l v18).f) ((lat l v18).t) ((lat l v18).m)).2) < μ1 v18 m1))) /\ (¬ (v18 < ((l.length : Nat) : Int)) -> (1 <= n /\ n <= 24) /\ Post (zYs m1 n) [] 0))
theorem walk_close {n : Int} {l : (List Con)} {Post : Bd -> (List Int) -> Int -> Prop} (hv : vc_close n l Post) : FnP Try.prog 26 [.int .i64 n, .lst true l.length (zYy e66 l)] (fun x => ∃ q0 q1 q2, x = .tup [.agg ((e53 false) q0), .lst false q1.length (zYy zYx q1), .int .i64 q2] /\ Post q0 q1 q2) := by
 refine FnP.of_walk (T := tt) (nt := 40) ttOk ttMix ⟨⟨Try.f26, Try.func26, rfl, rfl, rfl, rfl⟩⟩ (by simp) ?_
 unfold vc_close at hv
 change W _ _ _ ⟨40, look [(0, .int .i64 n), (1, .lst true l.length (zYy e66 l))], [], 0⟩ _
 refine W.rL (cL rfl (zXs (p := 0) tt53 rfl rfl (cL rfl (zZq (v := .nilS) rfl (aI rfl rfl (eL (W.seq' (W.rL (mI rfl rfl (mL rfl rfl ?_))))))))))
 obtain ⟨s2, hv⟩ := hv
 refine cL rfl (zZu (k := 42) (fst := []) (caps := []) (ys := [.int _ _, .lst _ _ _]) rfl rfl (spec_valid n l s2) (Wks.cons (zZz _ _ _ _) (Wks.cons (zZs _ _ _ _ _) (Wks.refl _))) (cL rfl (o_notB rfl (eL (W.cn rfl (fun hc => ?_) (fun hc => ?_))))))
 have hv := hv.1 hc
 refine W.rL (cL rfl (o_build (qs := []) (cs := [.int _ _, .nilS]) tt53 rfl rfl rfl (cLn (o_stB (v := .agg _) (vs := [.int _ _, .nilS]) (cs2 := [.int _ _, .nilS]) tt53 rfl rfl rfl rfl rfl (Nat.le_of_ble_eq_true rfl) rfl (cL rfl (zZq (v := .nilS) rfl (aI rfl rfl (eL (W.tr [(4, .ptr _ _), (5, .nilS), (6, .int _ _)] [.box _ [.int _ _, .nilS]] ⟨rfl, rfl, rfl, trivial⟩ rfl (W.ret (zZr (rt (rt_c (x := .ptr _ _) rfl (ldA (cs := [.int _ _, .nilS]) tt53 rfl ⟨_, rfl⟩ rfl (rt_t (v := .nilS) rfl (rt_t (v := .int _ _) rfl (rt_n (⟨_, rs_tup 5 _ (Wks.cons (rs_agg 4 _ (Wks.cons (zY _ _ _ _) (Wks.cons (rs_nil _ _ _ _ rfl) (Wks.refl _)))) (Wks.cons (rs_nil _ _ _ _ rfl) (Wks.cons (zY _ _ _ _) (Wks.refl _)))), (Bd.mk 0 []), [], 2, rfl, hv⟩))))))))))))))))))
 have hv := hv.2 hc
 refine W.skip (zZ (W.rH (cHc rfl (callH_N1 (xs := _) (spec_free) (Wks.refl _) flatI rfl (cH rfl (zZq (v := .ptr _ _) rfl (eH (W.seq' (W.rL (mL rfl rfl (cL rfl (zXq (v := .lst _ _ _) tt28 rfl rfl (mI rfl rfl (eL (W.block ?_)))))))))))))))
 obtain ⟨I1, μ1, hp, hv⟩ := hv
 refine W.loop2 (fun v18 m1 => ⟨40, look [(0, .int .i64 n), (1, .lst true l.length (zYy e66 l)), (4, .ptr 0 0), (7, .ptr 1 0), (16, .lst true l.length (zYy e66 l)), (17, .int .i64 ((l.length : Nat) : Int)), (18, .int .i64 v18)], [.box 53 [.int .i64 0, .nilS], .box 108 (zYy zYx m1.toList)], 0⟩) I1 μ1 0 freeM (St.to_mk (φ := [some 0, some 1]) rfl (rfl) ⟨Ren.int _ _, Ren.lst _ _ _, Ren.ptr rfl, Ren.ptr rfl, Ren.lst _ _ _, Ren.int _ _, Ren.int _ _, trivial⟩ ⟨.inr ⟨_, rfl, rfl, Rens.cons (Ren.int _ _) (Rens.cons (Ren.nilS) (Rens.nil))⟩, .inr ⟨_, rfl, rfl, Rens.enc zZw true _⟩, trivial⟩) hp ?_
 clear hp
 intro v18 m1 hI
 replace hv := hv v18 m1 hI
 clear hI
 refine W.rL (cL rfl (zXw rfl rfl (eL (W.seq' (W.cn rfl (fun hc => ?_) (fun hc => ?_))))))
 have hv := hv.1 hc
 refine W.skip (zZ (W.seq' (W.block (W.rL ?_))))
 obtain ⟨s41, hv⟩ := hv
 refine cL rfl (zYp tt28 tt66 rfl rfl (enc66.wd true) rfl s41 ?_)
 intro rest41
 refine cL rfl (zXv (cs := [.int _ _, .int _ _, .int _ _, .int _ _]) tt66 rfl rfl ⟨_, rfl⟩ rfl (cL rfl (zXs (p := 2) tt66 rfl rfl (cLn (o_stB (v := .agg _) (vs := [.int _ _, .int _ _, .int _ _, .int _ _]) (cs2 := [.int _ _, .int _ _, .int _ _, .int _ _]) tt66 rfl rfl rfl rfl rfl (Nat.le_of_ble_eq_true rfl) rfl (eL (W.tr [(0, .int _ _), (1, .lst _ _ _), (4, .ptr _ _), (7, .ptr _ _), (9, .ptr _ _), (16, .lst _ _ _), (17, .int _ _), (18, .int _ _)] [.box _ [.int _ _, .nilS], .box _ _, .box _ [.int _ _, .int _ _, .int _ _, .int _ _]] ⟨rfl, rfl, rfl, rfl, rfl, rfl, rfl, rfl, trivial⟩ rfl (W.rH (cH rfl (zZp (v := .ptr _ _) rfl (cH rfl (o_fa tt66 rfl tt3 rfl (cH rfl (zZx (v := .int _ _) tt3 rfl rfl ⟨_, rfl⟩ (cH rfl (o_fa tt66 rfl tt3 rfl (cH rfl (zZx (v := .int _ _) tt3 rfl rfl ⟨_, rfl⟩ (cH rfl (o_fa tt66 rfl tt3 rfl (cH rfl (zZx (v := .int _ _) tt3 rfl rfl ⟨_, rfl⟩ ?_))))))))))))))))))))))
 obtain ⟨s42, hv⟩ := hv
 refine cHc rfl (callH_M1 (spec_add m1 ((lat l v18).f) ((lat l v18).t) ((lat l v18).m) s42) rfl flatI flatI rfl (.inl ⟨_, rfl, rfl⟩) (Wks.cons (zZz _ _ _ _) (Wks.cons (zZz _ _ _ _) (Wks.cons (zZz _ _ _ _) (Wks.refl _)))) (cH rfl (o_notB rfl (eH (W.cn rfl (fun hc => ?_) (fun hc => ?_))))))
 have hv := hv.1 hc
 refine W.rL (cL rfl (o_build (qs := []) (cs := [.int _ _, .nilS]) tt53 rfl rfl rfl (mI rfl rfl (mL rfl rfl (cL rfl (o_build (qs := [(0, .int _ _), (1, .lst _ _ _)]) (cs := [.int _ _, .lst _ _ _]) tt88 rfl rfl rfl ?_))))))
 obtain ⟨s43, hv⟩ := hv
 refine cL rfl (zZu (k := 45) (fst := []) (caps := []) (ys := [.agg _]) rfl rfl (spec_first (Wlk.mk n l) s43) (Wks.cons (zXr 5 _ (Wks.cons (zZz _ _ _ _) (Wks.cons (zZs _ _ _ _ _) (Wks.refl _)))) (Wks.refl _)) (cLn (o_stB (v := .agg _) (vs := [.int _ _, .nilS]) (cs2 := [.int _ _, .nilS]) tt53 rfl rfl rfl rfl rfl (Nat.le_of_ble_eq_true rfl) rfl (aL rfl rfl (aI rfl rfl (eL (W.tr [(4, .ptr _ _), (5, .lst _ _ _), (6, .int _ _)] [.box _ [.int _ _, .nilS], .box _ _, .box _ [.int _ _, .int _ _, .int _ _, .int _ _]] ⟨rfl, rfl, rfl, trivial⟩ rfl (W.ret (zXz (zZr (zZr (zXz (zZr (rt (rt_c (x := .ptr _ _) rfl (ldA (cs := [.int _ _, .nilS]) tt53 rfl ⟨_, rfl⟩ rfl (rt_t (v := .lst _ _ _) rfl (rt_t (v := .int _ _) rfl (rt_n (⟨_, rs_tup 5 _ (Wks.cons (rs_agg 4 _ (Wks.cons (zY _ _ _ _) (Wks.cons (rs_nil _ _ _ _ rfl) (Wks.refl _)))) (Wks.cons (rs_lst _ _ _ _) (Wks.cons (zY _ _ _ _) (Wks.refl _)))), (Bd.mk 0 []), (firstM (Wlk.mk n l).n (Wlk.mk n l).l), 70, rfl, hv⟩))))))))))))))))))))
 have hv := hv.2 hc
 refine W.skip (zYq (zZ (W.rL1 ?_)))
 obtain ⟨s44, hv⟩ := hv
 refine cL rfl (o_add rfl rfl s44 (mI rfl rfl (eL (zZ (⟨(), (v18 + 1), ((addM m1 ((lat l v18).f) ((lat l v18).t) ((lat l v18).m)).2), hv, St.to_mk (φ := [some 0, some 1]) rfl (rfl) ⟨Ren.int _ _, Ren.lst _ _ _, Ren.ptr rfl, Ren.ptr rfl, Ren.lst _ _ _, Ren.int _ _, Ren.int _ _, trivial⟩ ⟨.inr ⟨_, rfl, rfl, Rens.cons (Ren.int _ _) (Rens.cons (Ren.nilS) (Rens.nil))⟩, .inr ⟨_, rfl, rfl, Rens.enc zZw true _⟩, trivial⟩⟩)))))
 have hv := hv.2 hc
 refine W.exit (zZt (zZt (zXy (zZ (W.rL (cL rfl (zZp (v := .ptr _ _) rfl (mI rfl rfl ?_))))))))
 obtain ⟨s45, hv⟩ := hv
 refine cL rfl (zZu (k := 46) (fst := []) (caps := []) (ys := [.ptr _ _, .int _ _]) rfl rfl (spec_bounds m1 n s45) (Wks.cons (ag_box 5 rfl (ag_vec 4 _ _)) (Wks.cons (zZz _ _ _ _) (Wks.refl _))) (cLn (o_stB (v := .agg _) (vs := [.int _ _, .lst _ _ _]) (cs2 := [.int _ _, .lst _ _ _]) tt53 rfl rfl rfl rfl rfl (Nat.le_of_ble_eq_true rfl) rfl (cL rfl (zZq (v := .nilS) rfl (aI rfl rfl (eL (W.tr [(4, .ptr _ _), (5, .nilS), (6, .int _ _)] [.box _ [.int _ _, .lst _ _ _], .box _ _] ⟨rfl, rfl, rfl, trivial⟩ rfl (W.ret (rt (rt_c (x := .ptr _ _) rfl (ldA (cs := [.int _ _, .lst _ _ _]) tt53 rfl ⟨_, rfl⟩ rfl (rt_t (v := .nilS) rfl (rt_t (v := .int _ _) rfl (rt_n (⟨_, rs_tup 5 _ (Wks.cons (rs_agg 4 _ (Wks.cons (zY _ _ _ _) (Wks.cons (rs_lst _ _ _ _) (Wks.refl _)))) (Wks.cons (rs_nil _ _ _ _ rfl) (Wks.cons (zY _ _ _ _) (Wks.refl _)))), (zYs m1 n), [], 0, rfl, hv⟩))))))))))))))))
theorem vcp_close (n : Int) (l : (List Con)) (h0 : l.length <= 1073741824) : vc_close n l (fun q0 q1 q2 => q0 = (zWy n l).1 /\ q1 = (zWy n l).2.1 /\ q2 = (zWy n l).2.2) := by
  unfold vc_close
  refine ⟨h0, fun h => ?_, fun h => ⟨fun v m => ∃ i : Nat, v = i /\ i <= l.length /\ CM m (l.take i) /\ addAll freeM l = addAll m (l.drop i), fun v _ => l.length - v.toNat, ⟨0, rfl, by omega, CM.free, rfl⟩, ?_⟩⟩
  . rw [close_inv h]; exact ⟨rfl, rfl, rfl⟩
  have hv : validM n l = true := Classical.not_not.mp h
  have hg := validM_good hv
  have hvv := (validM_iff.mp hv).1
  rintro _ m ⟨i, rfl, hi, hc, ha⟩
  refine ⟨fun h1 => ?_, fun h1 => ⟨by omega, ?_⟩⟩
  . have hlt : i < l.length := by omega
    have hci : Good 24 [lat l (i : Int)] := fun c hc => by
      rw [List.mem_singleton] at hc; subst hc; exact hg _ (lat_mem ⟨by omega, by omega⟩)
    have hd : l.drop i = lat l (i : Int) :: l.drop (i + 1) := by rw [lat_get hlt]; exact List.drop_eq_getElem_cons hlt
    have ht : l.take (i + 1) = l.take i ++ [lat l (i : Int)] := by rw [lat_get hlt, List.take_add_one, List.getElem?_eq_getElem hlt]; rfl
    rw [hd, addAll_cons] at ha
    refine ⟨by omega, hc.addOk hci, fun h2 => ⟨hv, ?_⟩, fun h2 => ⟨by unfold inI; omega, ⟨i + 1, by omega, by omega, ?_, ?_⟩, by dsimp only; omega⟩⟩
    . rw [if_neg h2] at ha
      rw [close_none hv ha]; exact ⟨rfl, rfl, rfl⟩
    . rw [ht]
      exact hc.step (fun c hc => hg c (List.mem_of_mem_take hc)) hci (Classical.not_not.mp h2)
    . rw [ha, if_pos (Classical.not_not.mp h2)]
  . rw [List.drop_of_length_le (by omega)] at ha
    rw [close_some hv ha]; exact ⟨rfl, rfl, rfl⟩
theorem spec_close (n : Int) (l : (List Con)) (h0 : l.length <= 1073741824) : FnP Try.prog 26 [.int .i64 n, .lst true l.length (zYy e66 l)] (fun xR => xR = .tup [.agg ((e53 false) ((zWy n l).1)), .lst false ((zWy n l).2.1).length (zYy zYx ((zWy n l).2.1)), .int .i64 ((zWy n l).2.2)]) :=
  (walk_close (vcp_close n l h0)).mono (by rintro _ ⟨_, _, _, rfl, rfl, rfl, rfl⟩; rfl)
end Go.Lat
