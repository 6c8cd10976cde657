/- The law latecomerlaw10.BeliefMatchesReference returns true for every input, and each argument reads afterwards as it read before. Part 7 of 14. No condition. -/
import Derived.Test.YtoaaemmchnfilaaLatD
import Derived.Test.YtoaaemmchnfilaaLatE
import Derived.Test.YtoaaemmchnfilaaLatF
set_option linter.unusedVariables false
set_option linter.unusedSimpArgs false
set_option linter.unnecessarySimpa false
set_option maxRecDepth 100000
set_option maxHeartbeats 4000000
namespace Go.Lat
open Go.RowKit Go.Proofs
attribute [local irreducible] cvalidM zX zYw partM chM liM zYv witM pcM inM allM inSet
attribute [local irreducible] zWy zWz pointM addBM cycleM holdsM validBM sameM madeM pickM zW validM possM firstM tableM longerM zYs ofM addM freeM
def vc_bvalid (f : Flt) (n : Int) (l : (List Con)) (Post : Bool -> Prop) : Prop :=
  (f.dr.length <= 9223372036854775807) /\ (f.sv.length <= 9223372036854775807) /\ (f.tm.length <= 9223372036854775807) /\ ((¬ ((cvalidM f) = true)) -> Post false) /\ (¬ (¬ ((cvalidM f) = true)) -> (([] : (List Con)).length <= 1073741824) /\ (((¬ (zWy n ([] : (List Con))).2.2 = 0) \/ ((2000 : Int) < ((l.length : Nat) : Int))) -> Post false) /\ (¬ ((¬ (zWy n ([] : (List Con))).2.2 = 0) \/ ((2000 : Int) < ((l.length : Nat) : Int))) -> ∃ (I1 : Int -> Prop) (μ1 : Int -> Nat), I1 0 /\ ∀ (v31 : Int), I1 v31 -> ((v31 < ((l.length : Nat) : Int)) -> (0 <= v31 /\ v31 < (l.length : Int)) /\ (((¬ (((0 : Int) <= (min ((lat l v31).f) ((lat l v31).t))) /\ (((max ((lat l v31).f) ((lat l v31).t)) < n) /\ (¬ (lat l v31).f = (lat l v31).t)))) -> True) /\ (¬ (¬ (((0 : Int) <= (min ((lat l v31).f) ((lat l v31).t))) /\ (((max ((lat l v31).f) ((lat l v31).t)) < n) /\ (¬ (lat l v31).f = (lat l v31).t)))) -> ((((lat l v31).m) < (-1125899906842624)) -> True) /\ (¬ (((lat l v31).m) < (-1125899906842624)) -> (((1125899906842624 : Int) < ((lat l v31).m)) -> True) /\ (¬ ((1125899906842624 : Int) < ((lat l v31).m)) -> ((((lat l v31).a) < 0) -> True) /\ (¬ (((lat l v31).a) < 0) -> (0 <= ((f.dr.length : Nat) : Int)) /\ True))))) /\ ((((¬ (((0 : Int) <= (min ((lat l v31).f) ((lat l v31).t))) /\ (((max ((lat l v31).f) ((lat l v31).t)) < n) /\ (¬ (lat l v31).f = (lat l v31).t)))) \/ ((((lat l v31).m) < (-1125899906842624)) \/ (((1125899906842624 : Int) < ((lat l v31).m)) \/ ((((lat l v31).a) < 0) \/ (¬ ((lat l v31).a).fdiv (2 ^ (min ((f.dr.length : Nat) : Int).toNat 64)) = 0))))) -> Post false) /\ (¬ ((¬ (((0 : Int) <= (min ((lat l v31).f) ((lat l v31).t))) /\ (((max ((lat l v31).f) ((lat l v31).t)) < n) /\ (¬ (lat l v31).f = (lat l v31).t)))) \/ ((((lat l v31).m) < (-1125899906842624)) \/ (((1125899906842624 : Int) < ((lat l v31).m)) \/ ((((lat l v31).a) < 0) \/ (¬ ((lat l v31).a).fdiv (2 ^ (min ((f.dr.length : Nat) : Int).toNat 64)) = 0))))) -> (inI (v31 + 1)) /\ (I1 (v31 + 1) /\ μ1 (v31 + 1) < μ1 v31)))) /\ (¬ (v31 < ((l.length : Nat) : Int)) -> Post true)))
theorem walk_bvalid {f : Flt} {n : Int} {l : (List Con)} {Post : Bool -> Prop} (hv : vc_bvalid f n l Post) : FnP Try.prog 34 [.agg ((e27 true) f), .int .i64 n, .lst true l.length (zYy e66 l)] (fun x => ∃ q0, x = .bool q0 /\ Post q0) := by
 refine FnP.of_walk (T := tt) (nt := 84) ttOk ttMix ⟨⟨Try.f34, Try.func34, rfl, rfl, rfl, rfl⟩⟩ (by simp) ?_
 unfold vc_bvalid at hv
 change W _ _ _ ⟨84, look [(0, .agg [.lst true f.dr.length (zYy zYx f.dr), .int .i64 f.la, .int .i64 f.li, .lst true f.sv.length (zYy zYx f.sv), .lst true f.tm.length (zYy zYx f.tm)]), (1, .int .i64 n), (2, .lst true l.length (zYy e66 l))], [], 0⟩ _
 refine W.rL (cL rfl (o_box (v := .agg _) (p := 0) rfl rfl rfl (aB rfl rfl (eL (W.tr [(1, .int _ _), (2, .lst _ _ _), (3, .ptr _ _)] [.box _ [.lst _ _ _, .int _ _, .int _ _, .lst _ _ _, .lst _ _ _]] ⟨rfl, rfl, rfl, trivial⟩ rfl (W.seq' (W.rL (cL rfl (zXv (cs := [.lst _ _ _, .int _ _, .int _ _, .lst _ _ _, .lst _ _ _]) tt27 rfl rfl ⟨_, rfl⟩ rfl ?_)))))))))
 obtain ⟨s4, s5, s6, hv⟩ := hv
 refine cL rfl (zZu (k := 54) (fst := []) (caps := []) (ys := [.agg _]) rfl rfl (spec_cvalid f s4 s5 s6) (Wks.cons (zXr 5 _ (Wks.cons (zZs _ _ _ _ _) (Wks.cons (zZz _ _ _ _) (Wks.cons (zZz _ _ _ _) (Wks.cons (zZs _ _ _ _ _) (Wks.cons (zZs _ _ _ _ _) (Wks.refl _))))))) (Wks.refl _)) (cL rfl (o_notB rfl (eL (W.tr [(1, .int _ _), (2, .lst _ _ _), (3, .ptr _ _), (15, .bool _)] [.box _ [.lst _ _ _, .int _ _, .int _ _, .lst _ _ _, .lst _ _ _]] ⟨rfl, rfl, rfl, rfl, trivial⟩ rfl (W.cn rfl (fun hc => ?_) (fun hc => ?_)))))))
 have hv := hv.1 hc
 refine W.rL (aB rfl rfl (eL (W.ret (zZr (rt (rt_t (v := .bool _) rfl (rt_n (⟨_, zXx _ _ _, false, rfl, hv⟩))))))))
 have hv := hv.2 hc
 refine W.skip (zZ (W.seq' (W.rL (mI rfl rfl ?_))))
 obtain ⟨s8, hv⟩ := hv
 refine cL rfl (zZu (k := 26) (fst := []) (caps := []) (ys := [.int _ _, .nilS]) rfl rfl (spec_close n ([] : (List Con)) s8) (Wks.cons (zZz _ _ _ _) (Wks.cons (ag_nil _ _ _ _ rfl) (Wks.refl _))) (cL rfl (zZp (v := .tup _) rfl (cL rfl (o_ext (v := .agg _) rfl rfl (cL rfl (o_ext (v := .lst _ _ _) rfl rfl (cL rfl (o_ext (v := .int _ _) rfl rfl (cL rfl (zXs (p := 1) tt53 rfl rfl (cLn (o_stB (v := .agg _) (vs := [.int _ _, .lst _ _ _]) (cs2 := [.int _ _, .lst _ _ _]) tt53 rfl rfl rfl rfl rfl (Nat.le_of_ble_eq_true rfl) rfl (aL rfl rfl (aI rfl rfl (eL (W.tr [(1, .int _ _), (2, .lst _ _ _), (3, .ptr _ _), (9, .int _ _)] [.box _ [.lst _ _ _, .int _ _, .int _ _, .lst _ _ _, .lst _ _ _], .box _ [.int _ _, .lst _ _ _]] ⟨rfl, rfl, rfl, rfl, trivial⟩ rfl (W.rLm ⟨84, look [(1, .int .i64 n), (2, .lst true l.length (zYy e66 l)), (3, .ptr 0 0), (28, .bool (decide ((¬ (zWy n ([] : (List Con))).2.2 = 0) \/ ((2000 : Int) < ((l.length : Nat) : Int)))))], [.box 27 [.lst true f.dr.length (zYy zYx f.dr), .int .i64 f.la, .int .i64 f.li, .lst true f.sv.length (zYy zYx f.sv), .lst true f.tm.length (zYy zYx f.tm)], .box 53 [.int .i64 (((zWy n ([] : (List Con))).1).n), .lst false (((zWy n ([] : (List Con))).1).most).length (zYy (eSl zYx true) (((zWy n ([] : (List Con))).1).most))]], 0⟩ ?_ ?_))))))))))))))))))
 refine mI rfl rfl (cL rfl (o_neI rfl rfl rfl (mB rfl rfl ?_)))
 by_cases c1 : ¬ (zWy n ([] : (List Con))).2.2 = 0
 iterate 3 refine cLs rfl rfl rfl (dT c1) ?_
 refine cL rfl (zZv (v := .bool _) rfl (dT c1) rfl (eL (zYz ⟨rfl, rfl, rfl, (congrArg AV.bool (dOrT c1)).symm, trivial⟩ rfl)))
 refine cLg rfl rfl (dF c1) (mL rfl rfl (cLg rfl rfl (dF c1) (cL rfl (zXq (v := .lst _ _ _) tt28 rfl rfl (cLg rfl rfl (dF c1) (cL rfl (o_gtr rfl rfl (cL rfl (zZy (v := .bool _) rfl (dF c1) rfl (eL (zYz ⟨rfl, rfl, rfl, (congrArg AV.bool (dOrF c1 (rfl))).symm, trivial⟩ rfl)))))))))))
 refine W.cn rfl (fun hc => ?_) (fun hc => ?_)
 have hv := hv.1 hc
 refine W.rL (aB rfl rfl (eL (W.ret (zZr (rt (rt_t (v := .bool _) rfl (rt_n (⟨_, zXx _ _ _, false, rfl, hv⟩))))))))
 have hv := hv.2 hc
 refine W.skip (zZ (W.seq' (W.rL (mL rfl rfl (cL rfl (zXq (v := .lst _ _ _) tt28 rfl rfl (mI rfl rfl (eL (W.block ?_)))))))))
 obtain ⟨I1, μ1, hp, hv⟩ := hv
 refine W.loop1 (fun v31 => ⟨84, look [(1, .int .i64 n), (3, .ptr 0 0), (29, .lst true l.length (zYy e66 l)), (30, .int .i64 ((l.length : Nat) : Int)), (31, .int .i64 v31)], [.box 27 [.lst true f.dr.length (zYy zYx f.dr), .int .i64 f.la, .int .i64 f.li, .lst true f.sv.length (zYy zYx f.sv), .lst true f.tm.length (zYy zYx f.tm)]], 0⟩) I1 μ1 0 (St.to_mk (φ := [some 0]) rfl (rfl) ⟨Ren.int _ _, Ren.ptr rfl, Ren.lst _ _ _, Ren.int _ _, Ren.int _ _, trivial⟩ ⟨.inr ⟨_, rfl, rfl, Rens.cons (Ren.lst _ _ _) (Rens.cons (Ren.int _ _) (Rens.cons (Ren.int _ _) (Rens.cons (Ren.lst _ _ _) (Rens.cons (Ren.lst _ _ _) (Rens.nil)))))⟩, trivial⟩) hp ?_
 clear hp
 intro v31 hI
 replace hv := hv v31 hI
 clear hI
 refine W.rL (cL rfl (zXw rfl rfl (eL (W.seq' (W.cn rfl (fun hc => ?_) (fun hc => ?_))))))
 have hv := hv.1 hc
 refine W.skip (zZ (W.seq' (W.block (W.rL ?_))))
 obtain ⟨s33, hv⟩ := hv
 refine cL rfl (zYp tt28 tt66 rfl rfl (enc66.wd true) rfl s33 ?_)
 intro rest33
 refine cL rfl (zXv (cs := [.int _ _, .int _ _, .int _ _, .int _ _]) tt66 rfl rfl ⟨_, rfl⟩ rfl (cL rfl (zXs (p := 1) tt66 rfl rfl (cLn (o_stB (v := .agg _) (vs := [.int _ _, .int _ _, .int _ _, .int _ _]) (cs2 := [.int _ _, .int _ _, .int _ _, .int _ _]) tt66 rfl rfl rfl rfl rfl (Nat.le_of_ble_eq_true rfl) rfl (eL (W.tr [(1, .int _ _), (3, .ptr _ _), (11, .ptr _ _), (29, .lst _ _ _), (30, .int _ _), (31, .int _ _)] [.box _ [.lst _ _ _, .int _ _, .int _ _, .lst _ _ _, .lst _ _ _], .box _ [.int _ _, .int _ _, .int _ _, .int _ _]] ⟨rfl, rfl, rfl, rfl, rfl, rfl, trivial⟩ rfl (W.rLm ⟨84, look [(1, .int .i64 n), (3, .ptr 0 0), (11, .ptr 1 0), (12, .bool (decide (((0 : Int) <= (min ((lat l v31).f) ((lat l v31).t))) /\ (((max ((lat l v31).f) ((lat l v31).t)) < n) /\ (¬ (lat l v31).f = (lat l v31).t))))), (29, .lst true l.length (zYy e66 l)), (30, .int .i64 ((l.length : Nat) : Int)), (31, .int .i64 v31)], [.box 27 [.lst true f.dr.length (zYy zYx f.dr), .int .i64 f.la, .int .i64 f.li, .lst true f.sv.length (zYy zYx f.sv), .lst true f.tm.length (zYy zYx f.tm)], .box 66 [.int .i64 ((lat l v31).f), .int .i64 ((lat l v31).t), .int .i64 ((lat l v31).m), .int .i64 ((lat l v31).a)]], 0⟩ ?_ ?_))))))))
 refine cL rfl (o_fa tt66 rfl tt3 rfl (cL rfl (zZx (v := .int _ _) tt3 rfl rfl ⟨_, rfl⟩ (cL rfl (o_fa tt66 rfl tt3 rfl (cL rfl (zZx (v := .int _ _) tt3 rfl rfl ⟨_, rfl⟩ (cL rfl (o_min rfl rfl (cL rfl (o_geq rfl rfl (mB rfl rfl ?_))))))))))))
 by_cases c1 : (0 : Int) <= (min ((lat l v31).f) ((lat l v31).t))
 refine cLg rfl rfl (dT c1) (cL rfl (o_fa tt66 rfl tt3 rfl (cLg rfl rfl (dT c1) (cL rfl (zZx (v := .int _ _) tt3 rfl rfl ⟨_, rfl⟩ (cLg rfl rfl (dT c1) (cL rfl (o_fa tt66 rfl tt3 rfl (cLg rfl rfl (dT c1) (cL rfl (zZx (v := .int _ _) tt3 rfl rfl ⟨_, rfl⟩ (cLg rfl rfl (dT c1) (cL rfl (o_max rfl rfl (cLg rfl rfl (dT c1) (mI rfl rfl (cLg rfl rfl (dT c1) (cL rfl (zXw rfl rfl (cL rfl (zZv (v := .bool _) rfl (dT c1) rfl (mB rfl rfl ?_))))))))))))))))))))))
 by_cases c2 : (max ((lat l v31).f) ((lat l v31).t)) < n
 refine cLg rfl rfl (dT c2) (cL rfl (o_fa tt66 rfl tt3 rfl (cLg rfl rfl (dT c2) (cL rfl (zZx (v := .int _ _) tt3 rfl rfl ⟨_, rfl⟩ (cLg rfl rfl (dT c2) (cL rfl (o_fa tt66 rfl tt3 rfl (cLg rfl rfl (dT c2) (cL rfl (zZx (v := .int _ _) tt3 rfl rfl ⟨_, rfl⟩ (cLg rfl rfl (dT c2) (cL rfl (o_neI rfl rfl rfl (cL rfl (zZv (v := .bool _) rfl (dT c2) rfl (aB rfl rfl (eL (zYz ⟨rfl, rfl, rfl, (congrArg AV.bool (zXp c1 (zXp c2 (rfl)))).symm, rfl, rfl, rfl, trivial⟩ rfl)))))))))))))))))))
 iterate 5 refine cLs rfl rfl rfl (dF c2) ?_
 refine cL rfl (zZy (v := .bool _) rfl (dF c2) rfl (aB rfl rfl (eL (zYz ⟨rfl, rfl, rfl, (congrArg AV.bool (zXp c1 (dAndF c2))).symm, rfl, rfl, rfl, trivial⟩ rfl))))
 iterate 7 refine cLs rfl rfl rfl (dF c1) ?_
 refine cL rfl (zZy (v := .bool _) rfl (dF c1) rfl (mB rfl rfl ?_))
 iterate 5 refine cLs rfl rfl rfl (rfl) ?_
 refine cL rfl (zZy (v := .bool _) rfl rfl rfl (aB rfl rfl (eL (zYz ⟨rfl, rfl, rfl, (congrArg AV.bool (dAndF c1)).symm, rfl, rfl, rfl, trivial⟩ rfl))))
 obtain ⟨sd, hv⟩ := hv
 refine W.rLm ⟨84, look [(1, .int .i64 n), (3, .ptr 0 0), (29, .lst true l.length (zYy e66 l)), (30, .int .i64 ((l.length : Nat) : Int)), (31, .int .i64 v31), (82, .bool (decide ((¬ (((0 : Int) <= (min ((lat l v31).f) ((lat l v31).t))) /\ (((max ((lat l v31).f) ((lat l v31).t)) < n) /\ (¬ (lat l v31).f = (lat l v31).t)))) \/ ((((lat l v31).m) < (-1125899906842624)) \/ (((1125899906842624 : Int) < ((lat l v31).m)) \/ ((((lat l v31).a) < 0) \/ (¬ ((lat l v31).a).fdiv (2 ^ (min ((f.dr.length : Nat) : Int).toNat 64)) = 0)))))))], [.box 27 [.lst true f.dr.length (zYy zYx f.dr), .int .i64 f.la, .int .i64 f.li, .lst true f.sv.length (zYy zYx f.sv), .lst true f.tm.length (zYy zYx f.tm)], .box 66 [.int .i64 ((lat l v31).f), .int .i64 ((lat l v31).t), .int .i64 ((lat l v31).m), .int .i64 ((lat l v31).a)]], 0⟩ ?_ ?_
 refine mB rfl rfl (cL rfl (o_not rfl (mB rfl rfl ?_)))
 by_cases c1 : ¬ (((0 : Int) <= (min ((lat l v31).f) ((lat l v31).t))) /\ (((max ((lat l v31).f) ((lat l v31).t)) < n) /\ (¬ (lat l v31).f = (lat l v31).t)))
 iterate 3 refine cLs rfl rfl rfl (dT c1) ?_
 refine cL rfl (zZv (v := .bool _) rfl (dT c1) rfl (mB rfl rfl ?_))
 iterate 3 refine cLs rfl rfl rfl (rfl) ?_
 refine cL rfl (zZv (v := .bool _) rfl rfl rfl (mB rfl rfl ?_))
 iterate 3 refine cLs rfl rfl rfl (rfl) ?_
 refine cL rfl (zZv (v := .bool _) rfl rfl rfl (mB rfl rfl ?_))
 iterate 7 refine cLs rfl rfl rfl (rfl) ?_
 refine cL rfl (zZv (v := .bool _) rfl rfl rfl (eL (zYz ⟨rfl, rfl, rfl, rfl, rfl, (congrArg AV.bool (dOrT c1)).symm, trivial⟩ rfl)))
 have sd := sd.2 c1
 refine cLg rfl rfl (dF c1) (cL rfl (o_fa tt66 rfl tt3 rfl (cLg rfl rfl (dF c1) (cL rfl (zZx (v := .int _ _) tt3 rfl rfl ⟨_, rfl⟩ (cLg rfl rfl (dF c1) (cL rfl (zXw rfl rfl (cL rfl (zZy (v := .bool _) rfl (dF c1) rfl (mB rfl rfl ?_)))))))))))
 by_cases c2 : ((lat l v31).m) < (-1125899906842624)
 iterate 3 refine cLs rfl rfl rfl (dT c2) ?_
 refine cL rfl (zZv (v := .bool _) rfl (dT c2) rfl (mB rfl rfl ?_))
 iterate 3 refine cLs rfl rfl rfl (rfl) ?_
 refine cL rfl (zZv (v := .bool _) rfl rfl rfl (mB rfl rfl ?_))
 iterate 7 refine cLs rfl rfl rfl (rfl) ?_
 refine cL rfl (zZv (v := .bool _) rfl rfl rfl (eL (zYz ⟨rfl, rfl, rfl, rfl, rfl, (congrArg AV.bool (dOrF c1 (dOrT c2))).symm, trivial⟩ rfl)))
 have sd := sd.2 c2
 refine cLg rfl rfl (dF c2) (cL rfl (o_fa tt66 rfl tt3 rfl (cLg rfl rfl (dF c2) (cL rfl (zZx (v := .int _ _) tt3 rfl rfl ⟨_, rfl⟩ (cLg rfl rfl (dF c2) (cL rfl (o_gtr rfl rfl (cL rfl (zZy (v := .bool _) rfl (dF c2) rfl (mB rfl rfl ?_)))))))))))
 by_cases c3 : (1125899906842624 : Int) < ((lat l v31).m)
 iterate 3 refine cLs rfl rfl rfl (dT c3) ?_
 refine cL rfl (zZv (v := .bool _) rfl (dT c3) rfl (mB rfl rfl ?_))
 iterate 7 refine cLs rfl rfl rfl (rfl) ?_
 refine cL rfl (zZv (v := .bool _) rfl rfl rfl (eL (zYz ⟨rfl, rfl, rfl, rfl, rfl, (congrArg AV.bool (dOrF c1 (dOrF c2 (dOrT c3)))).symm, trivial⟩ rfl)))
 have sd := sd.2 c3
 refine cLg rfl rfl (dF c3) (cL rfl (o_fa tt66 rfl tt3 rfl (cLg rfl rfl (dF c3) (cL rfl (zZx (v := .int _ _) tt3 rfl rfl ⟨_, rfl⟩ (cLg rfl rfl (dF c3) (cL rfl (zXw rfl rfl (cL rfl (zZy (v := .bool _) rfl (dF c3) rfl (mB rfl rfl ?_)))))))))))
 by_cases c4 : ((lat l v31).a) < 0
 iterate 7 refine cLs rfl rfl rfl (dT c4) ?_
 refine cL rfl (zZv (v := .bool _) rfl (dT c4) rfl (eL (zYz ⟨rfl, rfl, rfl, rfl, rfl, (congrArg AV.bool (dOrF c1 (dOrF c2 (dOrF c3 (dOrT c4))))).symm, trivial⟩ rfl)))
 have sd := sd.2 c4
 refine cLg rfl rfl (dF c4) (cL rfl (o_fa tt66 rfl tt3 rfl (cLg rfl rfl (dF c4) (cL rfl (zZx (v := .int _ _) tt3 rfl rfl ⟨_, rfl⟩ (cLg rfl rfl (dF c4) (cL rfl (o_fa tt27 rfl tt23 rfl (cLg rfl rfl (dF c4) (cL rfl (zZx (v := .lst _ _ _) tt23 rfl rfl ⟨_, rfl⟩ (cLg rfl rfl (dF c4) (cL rfl (zXq (v := .lst _ _ _) tt23 rfl rfl (cLg rfl rfl (dF c4) ?_)))))))))))))))
 obtain ⟨s35, sd⟩ := sd
 refine cL rfl (o_shr rfl rfl s35 (cLg rfl rfl (dF c4) (cL rfl (o_neI rfl rfl rfl (cL rfl (zZy (v := .bool _) rfl (dF c4) rfl (eL (zYz ⟨rfl, rfl, rfl, rfl, rfl, (congrArg AV.bool (dOrF c1 (dOrF c2 (dOrF c3 (dOrF c4 (rfl)))))).symm, trivial⟩ rfl))))))))
 refine W.cn rfl (fun hc => ?_) (fun hc => ?_)
 have hv := hv.1 hc
 refine W.rL (aB rfl rfl (eL (W.ret (zXz (zZr (zZr (zXz (zZr (rt (rt_t (v := .bool _) rfl (rt_n (⟨_, zXx _ _ _, false, rfl, hv⟩))))))))))))
 have hv := hv.2 hc
 refine W.skip (zYq (zZ (W.rL1 ?_)))
 obtain ⟨s36, hv⟩ := hv
 refine cL rfl (o_add rfl rfl s36 (mI rfl rfl (eL (zZ (⟨(), (v31 + 1), hv, St.to_mk (φ := [some 0]) rfl (rfl) ⟨Ren.int _ _, Ren.ptr rfl, Ren.lst _ _ _, Ren.int _ _, Ren.int _ _, trivial⟩ ⟨.inr ⟨_, rfl, rfl, Rens.cons (Ren.lst _ _ _) (Rens.cons (Ren.int _ _) (Rens.cons (Ren.int _ _) (Rens.cons (Ren.lst _ _ _) (Rens.cons (Ren.lst _ _ _) (Rens.nil)))))⟩, trivial⟩⟩)))))
 have hv := hv.2 hc
 refine W.exit (zZt (zZt (zXy (zZ (W.rL (aB rfl rfl (eL (W.ret (rt (rt_t (v := .bool _) rfl (rt_n (⟨_, zXx _ _ _, true, rfl, hv⟩))))))))))))
theorem vcp_bvalid (f : Flt) (n : Int) (l : (List Con)) (h0 : f.dr.length <= 9223372036854775807) (h1 : f.sv.length <= 9223372036854775807) (h2 : f.tm.length <= 9223372036854775807) (h3 : l.length <= 1073741824) : vc_bvalid f n l (fun q0 => q0 = (zX f n l)) := by
  unfold vc_bvalid
  refine ⟨h0, h1, h2, fun h => ?_, fun h => ⟨by simp, fun h4 => ?_, fun h4 => ?_⟩⟩
  . show false = zX f n l
    unfold zX
    rw [Bool.eq_false_iff.2 h]; rfl
  . show false = zX f n l
    refine (Bool.eq_false_iff.2 fun hb => ?_).symm
    obtain ⟨k1, k2, k3, k4⟩ := bvalid_iff.1 hb
    rcases h4 with h4 | h4
    . exact h4 (close_nil.2 k2)
    . omega
  . have hn := close_nil.1 (Classical.not_not.1 fun e => h4 (.inl e))
    refine ⟨fun v => ∃ i : Nat, v = i /\ i <= l.length /\ ∀ c ∈ l.take i, conOk f n c = true, fun v => l.length - v.toNat, ⟨0, rfl, by omega, by simp⟩, ?_⟩
    rintro _ ⟨i, rfl, hle, hj⟩
    refine ⟨fun h5 => ?_, fun h5 => ?_⟩
    . have hlt : i < l.length := by omega
      rw [lat_get hlt]
      generalize hc : l[i] = c
      refine ⟨by omega, ⟨fun _ => trivial, fun _ => ⟨fun _ => trivial, fun _ => ⟨fun _ => trivial, fun _ => ⟨fun _ => trivial, fun _ => ⟨by omega, trivial⟩⟩⟩⟩⟩, fun h6 => ?_, fun h6 => ⟨by unfold inI; omega, ⟨i + 1, by omega, by omega, ?_⟩, by dsimp only; omega⟩⟩
      . show false = zX f n l
        refine (Bool.eq_false_iff.2 fun hb => ?_).symm
        have := (bvalid_iff.1 hb).2.2.2 c (by rw [<- hc]; exact List.getElem_mem hlt)
        unfold conOk at this
        rw [decide_eq_true_eq] at this
        obtain ⟨q1, q2, q3, q4, q5, q6, q7⟩ := this
        rcases h6 with h6 | h6 | h6 | h6 | h6
        . exact h6 ⟨q1, q2, q3⟩
        . omega
        . omega
        . omega
        . exact h6 q7
      . intro d hd
        rw [take_succ_nat (by rw [List.getElem?_eq_getElem hlt, hc])] at hd
        rcases List.mem_append.1 hd with hd | hd
        . exact hj d hd
        . rw [List.mem_singleton] at hd
          subst hd
          unfold conOk
          rw [decide_eq_true_eq]
          have e : ∀ {p : Prop}, ¬ ¬ p -> p := fun h => Classical.not_not.1 h
          have q1 := e fun x => h6 (.inl x)
          refine ⟨q1.1, q1.2.1, q1.2.2, ?_, ?_, ?_, ?_⟩
          . exact Int.not_lt.1 fun x => h6 (.inr (.inl x))
          . exact Int.not_lt.1 fun x => h6 (.inr (.inr (.inl x)))
          . exact Int.not_lt.1 fun x => h6 (.inr (.inr (.inr (.inl x))))
          . exact e fun x => h6 (.inr (.inr (.inr (.inr x))))
    . show true = zX f n l
      rw [List.take_of_length_le (by omega)] at hj
      refine (bvalid_iff.2 ⟨Classical.not_not.1 h, hn, ?_, hj⟩).symm
      have : ¬ (2000 : Int) < ((l.length : Nat) : Int) := fun e => h4 (.inr e)
      omega
theorem spec_bvalid (f : Flt) (n : Int) (l : (List Con)) (h0 : f.dr.length <= 9223372036854775807) (h1 : f.sv.length <= 9223372036854775807) (h2 : f.tm.length <= 9223372036854775807) (h3 : l.length <= 1073741824) : FnP Try.prog 34 [.agg ((e27 true) f), .int .i64 n, .lst true l.length (zYy e66 l)] (fun xR => xR = .bool (zX f n l)) :=
  (walk_bvalid (vcp_bvalid f n l h0 h1 h2 h3)).mono (by rintro _ ⟨_, rfl, rfl⟩; rfl)
def vc_possible  (Post : Prop) : Prop :=
  Post
theorem walk_possible {f : Flt} {n : Int} {l : (List Con)} {Post : Prop} (hv : vc_possible Post) : FnS Try.prog 35 [.agg ((e27 true) f), .int .i64 n, .lst true l.length (zYy e66 l)] (fun x => x = .clo 55 [] [.ipt true [.lst true f.dr.length (zYy zYx f.dr), .int .i64 f.la, .int .i64 f.li, .lst true f.sv.length (zYy zYx f.sv), .lst true f.tm.length (zYy zYx f.tm)], .ipt true [.int .i64 n], .ipt true [.lst true l.length (zYy e66 l)]] /\ Post) := by
 refine FnS.of_walk (T := tt) (nt := 8) ttOk ttMix ⟨⟨Try.f35, Try.func35, rfl, rfl, rfl, rfl⟩⟩ (by simp) ?_
 unfold vc_possible at hv
 change W _ _ _ ⟨8, look [(0, .agg [.lst true f.dr.length (zYy zYx f.dr), .int .i64 f.la, .int .i64 f.li, .lst true f.sv.length (zYy zYx f.sv), .lst true f.tm.length (zYy zYx f.tm)]), (1, .int .i64 n), (2, .lst true l.length (zYy e66 l))], [], 0⟩ _
 refine W.rL (cL rfl (o_box (v := .agg _) (p := 0) rfl rfl rfl (cL rfl (o_box (v := .int _ _) (p := 1) rfl rfl rfl (cL rfl (o_box (v := .lst _ _ _) (p := 2) rfl rfl rfl (cL rfl (zZq (v := .nilF) rfl (eL (W.tr [(3, .ptr _ _), (4, .ptr _ _), (5, .ptr _ _)] [.box _ [.lst _ _ _, .int _ _, .int _ _, .lst _ _ _, .lst _ _ _], .box _ [.int _ _], .box _ [.lst _ _ _]] ⟨rfl, rfl, rfl, trivial⟩ rfl (W.rL (cL rfl (o_mf (ps := []) (qs := [.ptr _ _, .ptr _ _, .ptr _ _]) rfl rfl (cL rfl (zZq (v := .clo _ _ _) rfl (eL (W.ret (rt (rt_t (v := .clo _ _ _) rfl (rt_n (⟨_, ag_clo 5 _ _ (Wks.refl _) (Wks.cons (ag_box 4 rfl (Wks.cons (zZs _ _ _ _ _) (Wks.cons (zZz _ _ _ _) (Wks.cons (zZz _ _ _ _) (Wks.cons (zZs _ _ _ _ _) (Wks.cons (zZs _ _ _ _ _) (Wks.refl _))))))) (Wks.cons (ag_box 4 rfl (Wks.cons (zZz _ _ _ _) (Wks.refl _))) (Wks.cons (ag_box 4 rfl (Wks.cons (zZs _ _ _ _ _) (Wks.refl _))) (Wks.refl _)))), rfl, hv⟩)))))))))))))))))))))
theorem spec_possible (f : Flt) (n : Int) (l : (List Con))  : FnS Try.prog 35 [.agg ((e27 true) f), .int .i64 n, .lst true l.length (zYy e66 l)] (fun xR => xR = .clo 55 [] [.ipt true [.lst true f.dr.length (zYy zYx f.dr), .int .i64 f.la, .int .i64 f.li, .lst true f.sv.length (zYy zYx f.sv), .lst true f.tm.length (zYy zYx f.tm)], .ipt true [.int .i64 n], .ipt true [.lst true l.length (zYy e66 l)]]) :=
  (walk_possible (f := f) (n := n) (l := l) (Post := True) trivial).mono (by rintro _ ⟨rfl, -⟩; rfl)
def vc_ones64 (x : Int) (Post : Int -> Prop) : Prop :=
  Post (bitI .and .i64 (IntKind.i64.wrap (IntKind.u64.wrap ((IntKind.u64.wrap ((IntKind.u64.wrap ((bitI .and .u64 (IntKind.u64.wrap (((IntKind.u64.wrap ((bitI .and .u64 ((IntKind.u64.wrap ((bitI .and .u64 (x.fdiv (2 ^ (min (1 : Int).toNat 64))) 6148914691236517205) + (bitI .and .u64 x 6148914691236517205))).fdiv (2 ^ (min (2 : Int).toNat 64))) 3689348814741910323) + (bitI .and .u64 (IntKind.u64.wrap ((bitI .and .u64 (x.fdiv (2 ^ (min (1 : Int).toNat 64))) 6148914691236517205) + (bitI .and .u64 x 6148914691236517205))) 3689348814741910323))).fdiv (2 ^ (min (4 : Int).toNat 64))) + (IntKind.u64.wrap ((bitI .and .u64 ((IntKind.u64.wrap ((bitI .and .u64 (x.fdiv (2 ^ (min (1 : Int).toNat 64))) 6148914691236517205) + (bitI .and .u64 x 6148914691236517205))).fdiv (2 ^ (min (2 : Int).toNat 64))) 3689348814741910323) + (bitI .and .u64 (IntKind.u64.wrap ((bitI .and .u64 (x.fdiv (2 ^ (min (1 : Int).toNat 64))) 6148914691236517205) + (bitI .and .u64 x 6148914691236517205))) 3689348814741910323))))) 1085102592571150095) + ((bitI .and .u64 (IntKind.u64.wrap (((IntKind.u64.wrap ((bitI .and .u64 ((IntKind.u64.wrap ((bitI .and .u64 (x.fdiv (2 ^ (min (1 : Int).toNat 64))) 6148914691236517205) + (bitI .and .u64 x 6148914691236517205))).fdiv (2 ^ (min (2 : Int).toNat 64))) 3689348814741910323) + (bitI .and .u64 (IntKind.u64.wrap ((bitI .and .u64 (x.fdiv (2 ^ (min (1 : Int).toNat 64))) 6148914691236517205) + (bitI .and .u64 x 6148914691236517205))) 3689348814741910323))).fdiv (2 ^ (min (4 : Int).toNat 64))) + (IntKind.u64.wrap ((bitI .and .u64 ((IntKind.u64.wrap ((bitI .and .u64 (x.fdiv (2 ^ (min (1 : Int).toNat 64))) 6148914691236517205) + (bitI .and .u64 x 6148914691236517205))).fdiv (2 ^ (min (2 : Int).toNat 64))) 3689348814741910323) + (bitI .and .u64 (IntKind.u64.wrap ((bitI .and .u64 (x.fdiv (2 ^ (min (1 : Int).toNat 64))) 6148914691236517205) + (bitI .and .u64 x 6148914691236517205))) 3689348814741910323))))) 1085102592571150095).fdiv (2 ^ (min (8 : Int).toNat 64))))) + ((IntKind.u64.wrap ((bitI .and .u64 (IntKind.u64.wrap (((IntKind.u64.wrap ((bitI .and .u64 ((IntKind.u64.wrap ((bitI .and .u64 (x.fdiv (2 ^ (min (1 : Int).toNat 64))) 6148914691236517205) + (bitI .and .u64 x 6148914691236517205))).fdiv (2 ^ (min (2 : Int).toNat 64))) 3689348814741910323) + (bitI .and .u64 (IntKind.u64.wrap ((bitI .and .u64 (x.fdiv (2 ^ (min (1 : Int).toNat 64))) 6148914691236517205) + (bitI .and .u64 x 6148914691236517205))) 3689348814741910323))).fdiv (2 ^ (min (4 : Int).toNat 64))) + (IntKind.u64.wrap ((bitI .and .u64 ((IntKind.u64.wrap ((bitI .and .u64 (x.fdiv (2 ^ (min (1 : Int).toNat 64))) 6148914691236517205) + (bitI .and .u64 x 6148914691236517205))).fdiv (2 ^ (min (2 : Int).toNat 64))) 3689348814741910323) + (bitI .and .u64 (IntKind.u64.wrap ((bitI .and .u64 (x.fdiv (2 ^ (min (1 : Int).toNat 64))) 6148914691236517205) + (bitI .and .u64 x 6148914691236517205))) 3689348814741910323))))) 1085102592571150095) + ((bitI .and .u64 (IntKind.u64.wrap (((IntKind.u64.wrap ((bitI .and .u64 ((IntKind.u64.wrap ((bitI .and .u64 (x.fdiv (2 ^ (min (1 : Int).toNat 64))) 6148914691236517205) + (bitI .and .u64 x 6148914691236517205))).fdiv (2 ^ (min (2 : Int).toNat 64))) 3689348814741910323) + (bitI .and .u64 (IntKind.u64.wrap ((bitI .and .u64 (x.fdiv (2 ^ (min (1 : Int).toNat 64))) 6148914691236517205) + (bitI .and .u64 x 6148914691236517205))) 3689348814741910323))).fdiv (2 ^ (min (4 : Int).toNat 64))) + (IntKind.u64.wrap ((bitI .and .u64 ((IntKind.u64.wrap ((bitI .and .u64 (x.fdiv (2 ^ (min (1 : Int).toNat 64))) 6148914691236517205) + (bitI .and .u64 x 6148914691236517205))).fdiv (2 ^ (min (2 : Int).toNat 64))) 3689348814741910323) + (bitI .and .u64 (IntKind.u64.wrap ((bitI .and .u64 (x.fdiv (2 ^ (min (1 : Int).toNat 64))) 6148914691236517205) + (bitI .and .u64 x 6148914691236517205))) 3689348814741910323))))) 1085102592571150095).fdiv (2 ^ (min (8 : Int).toNat 64))))).fdiv (2 ^ (min (16 : Int).toNat 64))))) + ((IntKind.u64.wrap ((IntKind.u64.wrap ((bitI .and .u64 (IntKind.u64.wrap (((IntKind.u64.wrap ((bitI .and .u64 ((IntKind.u64.wrap ((bitI .and .u64 (x.fdiv (2 ^ (min (1 : Int).toNat 64))) 6148914691236517205) + (bitI .and .u64 x 6148914691236517205))).fdiv (2 ^ (min (2 : Int).toNat 64))) 3689348814741910323) + (bitI .and .u64 (IntKind.u64.wrap ((bitI .and .u64 (x.fdiv (2 ^ (min (1 : Int).toNat 64))) 6148914691236517205) + (bitI .and .u64 x 6148914691236517205))) 3689348814741910323))).fdiv (2 ^ (min (4 : Int).toNat 64))) + (IntKind.u64.wrap ((bitI .and .u64 ((IntKind.u64.wrap ((bitI .and .u64 (x.fdiv (2 ^ (min (1 : Int).toNat 64))) 6148914691236517205) + (bitI .and .u64 x 6148914691236517205))).fdiv (2 ^ (min (2 : Int).toNat 64))) 3689348814741910323) + (bitI .and .u64 (IntKind.u64.wrap ((bitI .and .u64 (x.fdiv (2 ^ (min (1 : Int).toNat 64))) 6148914691236517205) + (bitI .and .u64 x 6148914691236517205))) 3689348814741910323))))) 1085102592571150095) + ((bitI .and .u64 (IntKind.u64.wrap (((IntKind.u64.wrap ((bitI .and .u64 ((IntKind.u64.wrap ((bitI .and .u64 (x.fdiv (2 ^ (min (1 : Int).toNat 64))) 6148914691236517205) + (bitI .and .u64 x 6148914691236517205))).fdiv (2 ^ (min (2 : Int).toNat 64))) 3689348814741910323) + (bitI .and .u64 (IntKind.u64.wrap ((bitI .and .u64 (x.fdiv (2 ^ (min (1 : Int).toNat 64))) 6148914691236517205) + (bitI .and .u64 x 6148914691236517205))) 3689348814741910323))).fdiv (2 ^ (min (4 : Int).toNat 64))) + (IntKind.u64.wrap ((bitI .and .u64 ((IntKind.u64.wrap ((bitI .and .u64 (x.fdiv (2 ^ (min (1 : Int).toNat 64))) 6148914691236517205) + (bitI .and .u64 x 6148914691236517205))).fdiv (2 ^ (min (2 : Int).toNat 64))) 3689348814741910323) + (bitI .and .u64 (IntKind.u64.wrap ((bitI .and .u64 (x.fdiv (2 ^ (min (1 : Int).toNat 64))) 6148914691236517205) + (bitI .and .u64 x 6148914691236517205))) 3689348814741910323))))) 1085102592571150095).fdiv (2 ^ (min (8 : Int).toNat 64))))) + ((IntKind.u64.wrap ((bitI .and .u64 (IntKind.u64.wrap (((IntKind.u64.wrap ((bitI .and .u64 ((IntKind.u64.wrap ((bitI .and .u64 (x.fdiv (2 ^ (min (1 : Int).toNat 64))) 6148914691236517205) + (bitI .and .u64 x 6148914691236517205))).fdiv (2 ^ (min (2 : Int).toNat 64))) 3689348814741910323) + (bitI .and .u64 (IntKind.u64.wrap ((bitI .and .u64 (x.fdiv (2 ^ (min (1 : Int).toNat 64))) 6148914691236517205) + (bitI .and .u64 x 6148914691236517205))) 3689348814741910323))).fdiv (2 ^ (min (4 : Int).toNat 64))) + (IntKind.u64.wrap ((bitI .and .u64 ((IntKind.u64.wrap ((bitI .and .u64 (x.fdiv (2 ^ (min (1 : Int).toNat 64))) 6148914691236517205) + (bitI .and .u64 x 6148914691236517205))).fdiv (2 ^ (min (2 : Int).toNat 64))) 3689348814741910323) + (bitI .and .u64 (IntKind.u64.wrap ((bitI .and .u64 (x.fdiv (2 ^ (min (1 : Int).toNat 64))) 6148914691236517205) + (bitI .and .u64 x 6148914691236517205))) 3689348814741910323))))) 1085102592571150095) + ((bitI .and .u64 (IntKind.u64.wrap (((IntKind.u64.wrap ((bitI .and .u64 ((IntKind.u64.wrap ((bitI .and .u64 (x.fdiv (2 ^ (min (1 : Int).toNat 64))) 6148914691236517205) + (bitI .and .u64 x 6148914691236517205))).fdiv (2 ^ (min (2 : Int).toNat 64))) 3689348814741910323) + (bitI .and .u64 (IntKind.u64.wrap ((bitI .and .u64 (x.fdiv (2 ^ (min (1 : Int).toNat 64))) 6148914691236517205) + (bitI .and .u64 x 6148914691236517205))) 3689348814741910323))).fdiv (2 ^ (min (4 : Int).toNat 64))) + (IntKind.u64.wrap ((bitI .and .u64 ((IntKind.u64.wrap ((bitI .and .u64 (x.fdiv (2 ^ (min (1 : Int).toNat 64))) 6148914691236517205) + (bitI .and .u64 x 6148914691236517205))).fdiv (2 ^ (min (2 : Int).toNat 64))) 3689348814741910323) + (bitI .and .u64 (IntKind.u64.wrap ((bitI .and .u64 (x.fdiv (2 ^ (min (1 : Int).toNat 64))) 6148914691236517205) + (bitI .and .u64 x 6148914691236517205))) 3689348814741910323))))) 1085102592571150095).fdiv (2 ^ (min (8 : Int).toNat 64))))).fdiv (2 ^ (min (16 : Int).toNat 64))))).fdiv (2 ^ (min (32 : Int).toNat 64)))))) 127)
theorem walk_ones64 {x : Int} {Post : Int -> Prop} (hv : vc_ones64 x Post) : FnP Try.prog 82 [.int .u64 x] (fun x => ∃ q0, x = .int .i64 q0 /\ Post q0) := by
 refine FnP.of_walk (T := tt) (nt := 35) ttOk ttMix ⟨⟨Try.f82, Try.func82, rfl, rfl, rfl, rfl⟩⟩ (by simp) ?_
 unfold vc_ones64 at hv
 change W _ _ _ ⟨35, look [(0, .int .u64 x)], [], 0⟩ _
 refine W.rL (aI rfl rfl (eL (W.rL (mI rfl rfl (cL rfl (o_shr rfl rfl (by decide) (cL rfl (o_and rfl rfl (mI rfl rfl (cL rfl (o_and rfl rfl (cL rfl (o_addU rfl rfl (aI rfl rfl (eL (W.rL (mI rfl rfl (cL rfl (o_shr rfl rfl (by decide) (cL rfl (o_and rfl rfl (mI rfl rfl (cL rfl (o_and rfl rfl (cL rfl (o_addU rfl rfl (aI rfl rfl (eL (W.rL (mI rfl rfl (cL rfl (o_shr rfl rfl (by decide) (mI rfl rfl (cL rfl (o_addU rfl rfl ?_)))))))))))))))))))))))))))))))))))
 refine cL rfl (o_and rfl rfl (aI rfl rfl (eL (W.tr [(0, .int _ _)] [] ⟨rfl, trivial⟩ rfl (W.rL ?_)))))
 iterate 2 refine mI rfl rfl ?_
 refine cL rfl (o_shr rfl rfl (by decide) (cL rfl (o_addU rfl rfl (aI rfl rfl (eL (W.rL ?_))))))
 iterate 2 refine mI rfl rfl ?_
 refine cL rfl (o_shr rfl rfl (by decide) (cL rfl (o_addU rfl rfl (aI rfl rfl (eL (W.rL ?_))))))
 iterate 2 refine mI rfl rfl ?_
 refine cL rfl (o_shr rfl rfl (by decide) (cL rfl (o_addU rfl rfl (aI rfl rfl (eL (W.rL (mI rfl rfl (cL rfl (o_conv tt121 tt3 rfl rfl (cL rfl (o_and rfl rfl (aI rfl rfl (eL (W.ret (rt (rt_t (v := .int _ _) rfl (rt_n (⟨_, zY _ _ _ _, (bitI .and .i64 (IntKind.i64.wrap (IntKind.u64.wrap ((IntKind.u64.wrap ((IntKind.u64.wrap ((bitI .and .u64 (IntKind.u64.wrap (((IntKind.u64.wrap ((bitI .and .u64 ((IntKind.u64.wrap ((bitI .and .u64 (x.fdiv (2 ^ (min (1 : Int).toNat 64))) 6148914691236517205) + (bitI .and .u64 x 6148914691236517205))).fdiv (2 ^ (min (2 : Int).toNat 64))) 3689348814741910323) + (bitI .and .u64 (IntKind.u64.wrap ((bitI .and .u64 (x.fdiv (2 ^ (min (1 : Int).toNat 64))) 6148914691236517205) + (bitI .and .u64 x 6148914691236517205))) 3689348814741910323))).fdiv (2 ^ (min (4 : Int).toNat 64))) + (IntKind.u64.wrap ((bitI .and .u64 ((IntKind.u64.wrap ((bitI .and .u64 (x.fdiv (2 ^ (min (1 : Int).toNat 64))) 6148914691236517205) + (bitI .and .u64 x 6148914691236517205))).fdiv (2 ^ (min (2 : Int).toNat 64))) 3689348814741910323) + (bitI .and .u64 (IntKind.u64.wrap ((bitI .and .u64 (x.fdiv (2 ^ (min (1 : Int).toNat 64))) 6148914691236517205) + (bitI .and .u64 x 6148914691236517205))) 3689348814741910323))))) 1085102592571150095) + ((bitI .and .u64 (IntKind.u64.wrap (((IntKind.u64.wrap ((bitI .and .u64 ((IntKind.u64.wrap ((bitI .and .u64 (x.fdiv (2 ^ (min (1 : Int).toNat 64))) 6148914691236517205) + (bitI .and .u64 x 6148914691236517205))).fdiv (2 ^ (min (2 : Int).toNat 64))) 3689348814741910323) + (bitI .and .u64 (IntKind.u64.wrap ((bitI .and .u64 (x.fdiv (2 ^ (min (1 : Int).toNat 64))) 6148914691236517205) + (bitI .and .u64 x 6148914691236517205))) 3689348814741910323))).fdiv (2 ^ (min (4 : Int).toNat 64))) + (IntKind.u64.wrap ((bitI .and .u64 ((IntKind.u64.wrap ((bitI .and .u64 (x.fdiv (2 ^ (min (1 : Int).toNat 64))) 6148914691236517205) + (bitI .and .u64 x 6148914691236517205))).fdiv (2 ^ (min (2 : Int).toNat 64))) 3689348814741910323) + (bitI .and .u64 (IntKind.u64.wrap ((bitI .and .u64 (x.fdiv (2 ^ (min (1 : Int).toNat 64))) 6148914691236517205) + (bitI .and .u64 x 6148914691236517205))) 3689348814741910323))))) 1085102592571150095).fdiv (2 ^ (min (8 : Int).toNat 64))))) + ((IntKind.u64.wrap ((bitI .and .u64 (IntKind.u64.wrap (((IntKind.u64.wrap ((bitI .and .u64 ((IntKind.u64.wrap ((bitI .and .u64 (x.fdiv (2 ^ (min (1 : Int).toNat 64))) 6148914691236517205) + (bitI .and .u64 x 6148914691236517205))).fdiv (2 ^ (min (2 : Int).toNat 64))) 3689348814741910323) + (bitI .and .u64 (IntKind.u64.wrap ((bitI .and .u64 (x.fdiv (2 ^ (min (1 : Int).toNat 64))) 6148914691236517205) + (bitI .and .u64 x 6148914691236517205))) 3689348814741910323))).fdiv (2 ^ (min (4 : Int).toNat 64))) + (IntKind.u64.wrap ((bitI .and .u64 ((IntKind.u64.wrap ((bitI .and .u64 (x.fdiv (2 ^ (min (1 : Int).toNat 64))) 6148914691236517205) + (bitI .and .u64 x 6148914691236517205))).fdiv (2 ^ (min (2 : Int).toNat 64))) 3689348814741910323) + (bitI .and .u64 (IntKind.u64.wrap ((bitI .and .u64 (x.fdiv (2 ^ (min (1 : Int).toNat 64))) 6148914691236517205) + (bitI .and .u64 x 6148914691236517205))) 3689348814741910323))))) 1085102592571150095) + ((bitI .and .u64 (IntKind.u64.wrap (((IntKind.u64.wrap ((bitI .and .u64 ((IntKind.u64.wrap ((bitI .and .u64 (x.fdiv (2 ^ (min (1 : Int).toNat 64))) 6148914691236517205) + (bitI .and .u64 x 6148914691236517205))).fdiv (2 ^ (min (2 : Int).toNat 64))) 3689348814741910323) + (bitI .and .u64 (IntKind.u64.wrap ((bitI .and .u64 (x.fdiv (2 ^ (min (1 : Int).toNat 64))) 6148914691236517205) + (bitI .and .u64 x 6148914691236517205))) 3689348814741910323))).fdiv (2 ^ (min (4 : Int).toNat 64))) + (IntKind.u64.wrap ((bitI .and .u64 ((IntKind.u64.wrap ((bitI .and .u64 (x.fdiv (2 ^ (min (1 : Int).toNat 64))) 6148914691236517205) + (bitI .and .u64 x 6148914691236517205))).fdiv (2 ^ (min (2 : Int).toNat 64))) 3689348814741910323) + (bitI .and .u64 (IntKind.u64.wrap ((bitI .and .u64 (x.fdiv (2 ^ (min (1 : Int).toNat 64))) 6148914691236517205) + (bitI .and .u64 x 6148914691236517205))) 3689348814741910323))))) 1085102592571150095).fdiv (2 ^ (min (8 : Int).toNat 64))))).fdiv (2 ^ (min (16 : Int).toNat 64))))) + ((IntKind.u64.wrap ((IntKind.u64.wrap ((bitI .and .u64 (IntKind.u64.wrap (((IntKind.u64.wrap ((bitI .and .u64 ((IntKind.u64.wrap ((bitI .and .u64 (x.fdiv (2 ^ (min (1 : Int).toNat 64))) 6148914691236517205) + (bitI .and .u64 x 6148914691236517205))).fdiv (2 ^ (min (2 : Int).toNat 64))) 3689348814741910323) + (bitI .and .u64 (IntKind.u64.wrap ((bitI .and .u64 (x.fdiv (2 ^ (min (1 : Int).toNat 64))) 6148914691236517205) + (bitI .and .u64 x 6148914691236517205))) 3689348814741910323))).fdiv (2 ^ (min (4 : Int).toNat 64))) + (IntKind.u64.wrap ((bitI .and .u64 ((IntKind.u64.wrap ((bitI .and .u64 (x.fdiv (2 ^ (min (1 : Int).toNat 64))) 6148914691236517205) + (bitI .and .u64 x 6148914691236517205))).fdiv (2 ^ (min (2 : Int).toNat 64))) 3689348814741910323) + (bitI .and .u64 (IntKind.u64.wrap ((bitI .and .u64 (x.fdiv (2 ^ (min (1 : Int).toNat 64))) 6148914691236517205) + (bitI .and .u64 x 6148914691236517205))) 3689348814741910323))))) 1085102592571150095) + ((bitI .and .u64 (IntKind.u64.wrap (((IntKind.u64.wrap ((bitI .and .u64 ((IntKind.u64.wrap ((bitI .and .u64 (x.fdiv (2 ^ (min (1 : Int).toNat 64))) 6148914691236517205) + (bitI .and .u64 x 6148914691236517205))).fdiv (2 ^ (min (2 : Int).toNat 64))) 3689348814741910323) + (bitI .and .u64 (IntKind.u64.wrap ((bitI .and .u64 (x.fdiv (2 ^ (min (1 : Int).toNat 64))) 6148914691236517205) + (bitI .and .u64 x 6148914691236517205))) 3689348814741910323))).fdiv (2 ^ (min (4 : Int).toNat 64))) + (IntKind.u64.wrap ((bitI .and .u64 ((IntKind.u64.wrap ((bitI .and .u64 (x.fdiv (2 ^ (min (1 : Int).toNat 64))) 6148914691236517205) + (bitI .and .u64 x 6148914691236517205))).fdiv (2 ^ (min (2 : Int).toNat 64))) 3689348814741910323) + (bitI .and .u64 (IntKind.u64.wrap ((bitI .and .u64 (x.fdiv (2 ^ (min (1 : Int).toNat 64))) 6148914691236517205) + (bitI .and .u64 x 6148914691236517205))) 3689348814741910323))))) 1085102592571150095).fdiv (2 ^ (min (8 : Int).toNat 64))))) + ((IntKind.u64.wrap ((bitI .and .u64 (IntKind.u64.wrap (((IntKind.u64.wrap ((bitI .and .u64 ((IntKind.u64.wrap ((bitI .and .u64 (x.fdiv (2 ^ (min (1 : Int).toNat 64))) 6148914691236517205) + (bitI .and .u64 x 6148914691236517205))).fdiv (2 ^ (min (2 : Int).toNat 64))) 3689348814741910323) + (bitI .and .u64 (IntKind.u64.wrap ((bitI .and .u64 (x.fdiv (2 ^ (min (1 : Int).toNat 64))) 6148914691236517205) + (bitI .and .u64 x 6148914691236517205))) 3689348814741910323))).fdiv (2 ^ (min (4 : Int).toNat 64))) + (IntKind.u64.wrap ((bitI .and .u64 ((IntKind.u64.wrap ((bitI .and .u64 (x.fdiv (2 ^ (min (1 : Int).toNat 64))) 6148914691236517205) + (bitI .and .u64 x 6148914691236517205))).fdiv (2 ^ (min (2 : Int).toNat 64))) 3689348814741910323) + (bitI .and .u64 (IntKind.u64.wrap ((bitI .and .u64 (x.fdiv (2 ^ (min (1 : Int).toNat 64))) 6148914691236517205) + (bitI .and .u64 x 6148914691236517205))) 3689348814741910323))))) 1085102592571150095) + ((bitI .and .u64 (IntKind.u64.wrap (((IntKind.u64.wrap ((bitI .and .u64 ((IntKind.u64.wrap ((bitI .and .u64 (x.fdiv (2 ^ (min (1 : Int).toNat 64))) 6148914691236517205) + (bitI .and .u64 x 6148914691236517205))).fdiv (2 ^ (min (2 : Int).toNat 64))) 3689348814741910323) + (bitI .and .u64 (IntKind.u64.wrap ((bitI .and .u64 (x.fdiv (2 ^ (min (1 : Int).toNat 64))) 6148914691236517205) + (bitI .and .u64 x 6148914691236517205))) 3689348814741910323))).fdiv (2 ^ (min (4 : Int).toNat 64))) + (IntKind.u64.wrap ((bitI .and .u64 ((IntKind.u64.wrap ((bitI .and .u64 (x.fdiv (2 ^ (min (1 : Int).toNat 64))) 6148914691236517205) + (bitI .and .u64 x 6148914691236517205))).fdiv (2 ^ (min (2 : Int).toNat 64))) 3689348814741910323) + (bitI .and .u64 (IntKind.u64.wrap ((bitI .and .u64 (x.fdiv (2 ^ (min (1 : Int).toNat 64))) 6148914691236517205) + (bitI .and .u64 x 6148914691236517205))) 3689348814741910323))))) 1085102592571150095).fdiv (2 ^ (min (8 : Int).toNat 64))))).fdiv (2 ^ (min (16 : Int).toNat 64))))).fdiv (2 ^ (min (32 : Int).toNat 64)))))) 127), rfl, hv⟩))))))))))))))))))
theorem vcp_ones64 (x : Int) (h0 : 0 <= x /\ x < 64) : vc_ones64 x (fun q0 => q0 = (pcM x)) := by
  unfold vc_ones64
  obtain ⟨n, rfl⟩ := fin64 h0
  clear h0
  show _ = pcM _
  revert n
  decide +kernel
theorem spec_ones64 (x : Int) (h0 : 0 <= x /\ x < 64) : FnP Try.prog 82 [.int .u64 x] (fun xR => xR = .int .i64 (pcM x)) :=
  (walk_ones64 (vcp_ones64 x h0)).mono (by rintro _ ⟨_, rfl, rfl⟩; rfl)
def vc_ones (x : Int) (Post : Int -> Prop) : Prop :=
  (0 <= x /\ x < 64) /\ Post (pcM x)
theorem walk_ones {x : Int} {Post : Int -> Prop} (hv : vc_ones x Post) : FnP Try.prog 73 [.int .u64 x] (fun x => ∃ q0, x = .int .i64 q0 /\ Post q0) := by
 refine FnP.of_walk (T := tt) (nt := 8) ttOk ttMix ⟨⟨Try.f73, Try.func73, rfl, rfl, rfl, rfl⟩⟩ (by simp) ?_
 unfold vc_ones at hv
 change W _ _ _ ⟨8, look [(0, .int .u64 x)], [], 0⟩ _
 refine W.rL (aI rfl rfl (eL (W.seq' (W.cF rfl (W.skip (zZ (W.rL (mI rfl rfl ?_))))))))
 obtain ⟨s1, hv⟩ := hv
 refine cL rfl (zZu (k := 82) (fst := []) (caps := []) (ys := [.int _ _]) rfl rfl (spec_ones64 x s1) (Wks.cons (zZz _ _ _ _) (Wks.refl _)) (aI rfl rfl (eL (W.ret (rt (rt_t (v := .int _ _) rfl (rt_n (⟨_, zY _ _ _ _, (pcM x), rfl, hv⟩))))))))
theorem vcp_ones (x : Int) (h0 : 0 <= x /\ x < 64) : vc_ones x (fun q0 => q0 = (pcM x)) := by
  exact ⟨h0, rfl⟩
theorem spec_ones (x : Int) (h0 : 0 <= x /\ x < 64) : FnP Try.prog 73 [.int .u64 x] (fun xR => xR = .int .i64 (pcM x)) :=
  (walk_ones (vcp_ones x h0)).mono (by rintro _ ⟨_, rfl, rfl⟩; rfl)
def vc_size (x : Int) (Post : Int -> Prop) : Prop :=
  (0 <= (IntKind.u64.wrap x) /\ (IntKind.u64.wrap x) < 64) /\ Post (pcM (IntKind.u64.wrap x))
theorem walk_size {x : Int} {Post : Int -> Prop} (hv : vc_size x Post) : FnP Try.prog 56 [.int .i64 x] (fun x => ∃ q0, x = .int .i64 q0 /\ Post q0) := by
 refine FnP.of_walk (T := tt) (nt := 6) ttOk ttMix ⟨⟨Try.f56, Try.func56, rfl, rfl, rfl, rfl⟩⟩ (by simp) ?_
 unfold vc_size at hv
 change W _ _ _ ⟨6, look [(0, .int .i64 x)], [], 0⟩ _
 refine W.rL (aI rfl rfl (eL (W.rL (mI rfl rfl (cL rfl (o_conv tt73 tt115 rfl rfl ?_))))))
 obtain ⟨s1, hv⟩ := hv
 refine cL rfl (zZu (k := 73) (fst := []) (caps := []) (ys := [.int _ _]) rfl rfl (spec_ones (IntKind.u64.wrap x) s1) (Wks.cons (zZz _ _ _ _) (Wks.refl _)) (aI rfl rfl (eL (W.ret (rt (rt_t (v := .int _ _) rfl (rt_n (⟨_, zY _ _ _ _, (pcM (IntKind.u64.wrap x)), rfl, hv⟩))))))))
theorem vcp_size (x : Int) (h0 : 0 <= x /\ x < 64) : vc_size x (fun q0 => q0 = (pcM x)) := by
  unfold vc_size
  rw [wrapU h0]
  exact ⟨h0, rfl⟩
theorem spec_size (x : Int) (h0 : 0 <= x /\ x < 64) : FnP Try.prog 56 [.int .i64 x] (fun xR => xR = .int .i64 (pcM x)) :=
  (walk_size (vcp_size x h0)).mono (by rintro _ ⟨_, rfl, rfl⟩; rfl)
def vc_believes (s : Int) (c : Con) (Post : Bool -> Prop) : Prop :=
  Post (decide (bitI .andNot .i64 c.a s = 0))
theorem walk_believes {s : Int} {c : Con} {Post : Bool -> Prop} (hv : vc_believes s c Post) : FnP Try.prog 38 [.int .i64 s, .agg (e66 c)] (fun x => ∃ q0, x = .bool q0 /\ Post q0) := by
 refine FnP.of_walk (T := tt) (nt := 10) ttOk ttMix ⟨⟨Try.f38, Try.func38, rfl, rfl, rfl, rfl⟩⟩ (by simp) ?_
 unfold vc_believes at hv
 change W _ _ _ ⟨10, look [(0, .int .i64 s), (1, .agg [.int .i64 c.f, .int .i64 c.t, .int .i64 c.m, .int .i64 c.a])], [], 0⟩ _
 refine W.rL (cL rfl (o_box (v := .agg _) (p := 0) rfl rfl rfl (aB rfl rfl (eL (W.tr [(0, .int _ _), (3, .ptr _ _)] [.box _ [.int _ _, .int _ _, .int _ _, .int _ _]] ⟨rfl, rfl, trivial⟩ rfl (W.rL (cL rfl (o_fa tt66 rfl tt3 rfl (cL rfl (zZx (v := .int _ _) tt3 rfl rfl ⟨_, rfl⟩ (mI rfl rfl (cL rfl (o_anN rfl rfl (cL rfl (o_eqI rfl rfl rfl (aB rfl rfl (eL (W.ret (rt (rt_t (v := .bool _) rfl (rt_n (⟨_, zXx _ _ _, (decide (bitI .andNot .i64 c.a s = 0)), rfl, hv⟩))))))))))))))))))))))
theorem vcp_believes (s : Int) (c : Con)  : vc_believes s c (fun q0 => q0 = (inSet c s)) := by
  show decide _ = inSet c s
  unfold inSet
  rfl
theorem spec_believes (s : Int) (c : Con)  : FnP Try.prog 38 [.int .i64 s, .agg (e66 c)] (fun xR => xR = .bool (inSet c s)) :=
  (walk_believes (vcp_believes s c)).mono (by rintro _ ⟨_, rfl, rfl⟩; rfl)
def vc_filter (l : (List Con)) (s : Int) (Post : (List Con) -> Prop) : Prop :=
  ∃ (I1 : Int -> List Con -> Prop) (μ1 : Int -> List Con -> Nat), I1 0 [] /\ ∀ (v12 : Int) (r0 : List Con), I1 v12 r0 -> ((v12 < ((l.length : Nat) : Int)) -> ∃ J2 : List Con -> Prop, (∀ (r3 : List Con), J2 r3 -> (inI (v12 + 1)) /\ (I1 (v12 + 1) r3 /\ μ1 (v12 + 1) r3 < μ1 v12 r0)) /\ ((0 <= v12 /\ v12 < (l.length : Int)) /\ (((inSet (lat l v12) s) = true) -> ((r0 ++ [(lat l v12)]).length <= 1073741824) /\ J2 (r0 ++ [(lat l v12)])) /\ (¬ ((inSet (lat l v12) s) = true) -> J2 r0))) /\ (¬ (v12 < ((l.length : Nat) : Int)) -> Post r0)
theorem walk_filter {l : (List Con)} {s : Int} {Post : (List Con) -> Prop} (hv : vc_filter l s Post) : FnP Try.prog 37 [.lst true l.length (zYy e66 l), .int .i64 s, .clo 38 [] []] (fun x => ∃ q0, x = .lst false q0.length (zYy e66 q0) /\ Post q0) := by
 refine FnP.of_walk (T := tt) (nt := 26) ttOk ttMix ⟨⟨Try.f37, Try.func37, rfl, rfl, rfl, rfl⟩⟩ (by simp) ?_
 unfold vc_filter at hv
 change W _ _ _ ⟨26, look [(0, .lst true l.length (zYy e66 l)), (1, .int .i64 s), (2, .clo 38 [] [])], [], 0⟩ _
 refine W.rL (cL rfl (zZq (v := .nilS) rfl (eL (W.rL (cL rfl (zZq (v := .nilS) rfl (eL (W.seq' (W.rL (mL rfl rfl (cL rfl (zXq (v := .lst _ _ _) tt28 rfl rfl (mI rfl rfl (eL (W.block ?_)))))))))))))))
 obtain ⟨I1, μ1, hp, hv⟩ := hv
 refine W.loop2 (fun v12 r0 => ⟨26, look [(1, .int .i64 s), (2, .clo 38 [] []), (7, .ref true 0 r0.length), (10, .lst true l.length (zYy e66 l)), (11, .int .i64 ((l.length : Nat) : Int)), (12, .int .i64 v12)], [.row 66 4 (zYy e66 r0)], 0⟩) I1 μ1 0 [] (St.to_mk (φ := [none]) rfl (rfl) ⟨Ren.int _ _, Ren.clo _ (Rens.nil) (Rens.nil), Ren.nilR rfl rfl, Ren.lst _ _ _, Ren.int _ _, Ren.int _ _, trivial⟩ ⟨rfl, trivial⟩) hp ?_
 clear hp
 intro v12 r0 hI
 replace hv := hv v12 r0 hI
 clear hI
 refine W.rL (cL rfl (zXw rfl rfl (eL (W.seq' (W.cn rfl (fun hc => ?_) (fun hc => ?_))))))
 have hv := hv.1 hc
 refine W.skip (zZ ?_)
 obtain ⟨J2, hj, hv⟩ := hv
 refine W.mid1 (fun r3 => ⟨26, look [(1, .int .i64 s), (2, .clo 38 [] []), (7, .ref true 3 r3.length), (10, .lst true l.length (zYy e66 l)), (11, .int .i64 ((l.length : Nat) : Int)), (12, .int .i64 v12)], [.dead, .dead, .dead, .row 66 4 (zYy e66 r3)], 0⟩) J2 ?_ ?_
 intro r3
 intro hv
 replace hv := hj r3 hv
 refine W.rL1 ?_
 obtain ⟨s24, hv⟩ := hv
 refine cL rfl (o_add rfl rfl s24 (mI rfl rfl (eL (zZ (⟨(), (v12 + 1), r3, hv, St.to_mk (φ := [some 3]) rfl (rfl) ⟨Ren.int _ _, Ren.clo _ (Rens.nil) (Rens.nil), Ren.ref rfl (fun h => rfl), Ren.lst _ _ _, Ren.int _ _, Ren.int _ _, trivial⟩ ⟨.inr ⟨_, rfl, rfl, rfl, rfl, Rens.enc enc66 false r3⟩, trivial⟩⟩)))))
 clear hj
 refine W.block (W.rL ?_)
 obtain ⟨s25, hv⟩ := hv
 refine cL rfl (zYp tt28 tt66 rfl rfl (enc66.wd true) rfl s25 ?_)
 intro rest25
 refine cL rfl (zXv (cs := [.int _ _, .int _ _, .int _ _, .int _ _]) tt66 rfl rfl ⟨_, rfl⟩ rfl (cL rfl (zXs (p := 1) tt66 rfl rfl (cLn (o_stB (v := .agg _) (vs := [.int _ _, .int _ _, .int _ _, .int _ _]) (cs2 := [.int _ _, .int _ _, .int _ _, .int _ _]) tt66 rfl rfl rfl rfl rfl (Nat.le_of_ble_eq_true rfl) rfl (eL (W.tr [(1, .int _ _), (2, .clo _ _ _), (7, .ref _ _ _), (9, .ptr _ _), (10, .lst _ _ _), (11, .int _ _), (12, .int _ _)] [.row _ _ _, .box _ [.int _ _, .int _ _, .int _ _, .int _ _]] ⟨rfl, rfl, rfl, rfl, rfl, rfl, rfl, trivial⟩ rfl (W.rL (cL rfl (zZp (v := .clo _ _ _) rfl (mI rfl rfl (cL rfl (zXv (cs := [.int _ _, .int _ _, .int _ _, .int _ _]) tt66 rfl rfl ⟨_, rfl⟩ rfl (cL rfl (zZu (k := 38) (fst := []) (caps := []) (ys := [.int _ _, .agg _]) rfl rfl (spec_believes s (lat l v12)) (Wks.cons (zZz _ _ _ _) (Wks.cons (zXr 5 _ (Wks.cons (zZz _ _ _ _) (Wks.cons (zZz _ _ _ _) (Wks.cons (zZz _ _ _ _) (Wks.cons (zZz _ _ _ _) (Wks.refl _)))))) (Wks.refl _))) (eL (W.tr [(1, .int _ _), (2, .clo _ _ _), (7, .ref _ _ _), (9, .ptr _ _), (10, .lst _ _ _), (11, .int _ _), (12, .int _ _), (19, .bool _)] [.row _ _ _, .box _ [.int _ _, .int _ _, .int _ _, .int _ _]] ⟨rfl, rfl, rfl, rfl, rfl, rfl, rfl, rfl, trivial⟩ rfl (W.cb rfl (fun hc => ?_) (fun hc => ?_)))))))))))))))))))
 have hv := hv.1 hc
 refine W.rL1 (cL rfl (zZp (v := .ref _ _ _) rfl (cL rfl (zXv (cs := [.int _ _, .int _ _, .int _ _, .int _ _]) tt66 rfl rfl ⟨_, rfl⟩ rfl (cL rfl (o_bs1 (v := .agg _) (q := 2) tt28 tt66 rfl rfl rfl rfl rfl rfl rfl rfl ?_))))))
 obtain ⟨s26, hv⟩ := hv
 refine cL rfl (o_apR (p := 3) (q := (r0 ++ [(lat l v12)]).length) tt28 tt66 rfl rfl (src_ref rfl rfl) rfl rfl (zYr (enc66.wd false) _) (Nat.le_trans (Nat.le_of_eq (@List.length_append _ (r0) ([(lat l v12)])).symm) s26) rfl (@List.length_append _ (r0) ([(lat l v12)])).symm (encL_app e66 r0 [(lat l v12)]) (cL rfl (zZq (v := .ref _ _ _) rfl (eL (zYq (zZ (⟨(), (r0 ++ [(lat l v12)]), hv, St.to_mk (φ := [none, none, none, some 3]) rfl (rfl) ⟨Ren.int _ _, Ren.clo _ (Rens.nil) (Rens.nil), Ren.ref rfl (fun h => rfl), Ren.lst _ _ _, Ren.int _ _, Ren.int _ _, trivial⟩ ⟨rfl, rfl, rfl, .inr ⟨_, rfl, rfl, rfl, rfl, Rens.enc enc66 false (r0 ++ [(lat l v12)])⟩, trivial⟩⟩)))))))
 have hv := hv.2 hc
 refine W.skip (zYq (zZ (⟨(), r0, hv, St.to_mk (φ := [none, none, none, some 0]) rfl (rfl) ⟨Ren.int _ _, Ren.clo _ (Rens.nil) (Rens.nil), Ren.ref rfl (fun h => rfl), Ren.lst _ _ _, Ren.int _ _, Ren.int _ _, trivial⟩ ⟨rfl, rfl, rfl, .inr ⟨_, rfl, rfl, rfl, rfl, Rens.enc enc66 false r0⟩, trivial⟩⟩)))
 have hv := hv.2 hc
 refine W.exit (zZt (zZt (zXy (zZ (W.rL (cL rfl (zZp (v := .ref _ _ _) rfl (cL rfl (zZq (v := .ref _ _ _) rfl (eL (W.tr [(6, .ref _ _ _)] [.row _ _ _] ⟨rfl, trivial⟩ rfl (W.ret (rt (rt_t (v := .ref _ _ _) rfl (rt_n (⟨_, rs_ref enc66 4 _ rfl rfl, r0, rfl, hv⟩))))))))))))))))
theorem vcp_filter (l : (List Con)) (s : Int) (h0 : l.length <= 1073741824) : vc_filter l s (fun q0 => q0 = (partM l s)) := by
  unfold vc_filter
  refine ⟨fun v r => ∃ i : Nat, v = i /\ i <= l.length /\ r = (l.take i).filter (fun c => inSet c s), fun v _ => l.length - v.toNat, ⟨0, rfl, by omega, by simp⟩, ?_⟩
  rintro _ _ ⟨i, rfl, hi, rfl⟩
  refine ⟨fun h1 => ?_, fun h1 => ?_⟩
  . have hlt : i < l.length := by omega
    rw [lat_get hlt]
    have e : l.take (i + 1) = l.take i ++ [l[i]] := by rw [List.take_add_one, List.getElem?_eq_getElem hlt]; rfl
    refine ⟨fun r => r = (l.take (i + 1)).filter (fun c => inSet c s), ?_, by omega, fun h2 => ⟨?_, ?_⟩, fun h2 => ?_⟩
    . rintro _ rfl
      exact ⟨by unfold inI; omega, ⟨i + 1, by omega, by omega, rfl⟩, by dsimp only; omega⟩
    . have := List.length_filter_le (fun c => inSet c s) (l.take i)
      simp only [List.length_append, List.length_cons, List.length_nil, List.length_take] at this ⊢
      omega
    . rw [e, List.filter_append]
      simp [h2]
    . rw [e, List.filter_append]
      simp [h2]
  . show _ = partM l s
    unfold partM
    rw [List.take_of_length_le (by omega)]
theorem spec_filter (l : (List Con)) (s : Int) (h0 : l.length <= 1073741824) : FnP Try.prog 37 [.lst true l.length (zYy e66 l), .int .i64 s, .clo 38 [] []] (fun xR => xR = .lst false (partM l s).length (zYy e66 (partM l s))) :=
  (walk_filter (vcp_filter l s h0)).mono (by rintro _ ⟨_, rfl, rfl⟩; rfl)
def vc_part (l : (List Con)) (s : Int) (Post : (List Con) -> Prop) : Prop :=
  (l.length <= 1073741824) /\ Post (partM l s)
theorem walk_part {l : (List Con)} {s : Int} {Post : (List Con) -> Prop} (hv : vc_part l s Post) : FnP Try.prog 19 [.lst true l.length (zYy e66 l), .int .i64 s] (fun x => ∃ q0, x = .lst false q0.length (zYy e66 q0) /\ Post q0) := by
 refine FnP.of_walk (T := tt) (nt := 8) ttOk ttMix ⟨⟨Try.f19, Try.func19, rfl, rfl, rfl, rfl⟩⟩ (by simp) ?_
 unfold vc_part at hv
 change W _ _ _ ⟨8, look [(0, .lst true l.length (zYy e66 l)), (1, .int .i64 s)], [], 0⟩ _
 refine W.rL (cL rfl (zZq (v := .nilS) rfl (eL (W.rL (mL rfl rfl (mI rfl rfl ?_))))))
 obtain ⟨s1, hv⟩ := hv
 refine cL rfl (zZu (k := 37) (fst := []) (caps := []) (ys := [.lst _ _ _, .int _ _, .clo _ _ _]) rfl rfl (spec_filter l s s1) (Wks.cons (zZs _ _ _ _ _) (Wks.cons (zZz _ _ _ _) (Wks.cons (ag_clo 5 _ _ (Wks.refl _) (Wks.refl _)) (Wks.refl _)))) (aL rfl rfl (eL (W.ret (rt (rt_t (v := .lst _ _ _) rfl (rt_n (⟨_, rs_lst _ _ _ _, (partM l s), rfl, hv⟩))))))))
theorem vcp_part (l : (List Con)) (s : Int) (h0 : l.length <= 1073741824) : vc_part l s (fun q0 => q0 = (partM l s)) := by
  exact ⟨h0, rfl⟩
theorem spec_part (l : (List Con)) (s : Int) (h0 : l.length <= 1073741824) : FnP Try.prog 19 [.lst true l.length (zYy e66 l), .int .i64 s] (fun xR => xR = .lst false (partM l s).length (zYy e66 (partM l s))) :=
  (walk_part (vcp_part l s h0)).mono (by rintro _ ⟨_, rfl, rfl⟩; rfl)
def vc_possible1 (f : Flt) (n : Int) (l : (List Con)) : Prop :=
  (0 <= ((f.dr.length : Nat) : Int)) /\ (inI (1 * 2 ^ (min ((f.dr.length : Nat) : Int).toNat 64))) /\ ∃ (I1 : Int -> Nat -> Prop) (μ1 : Int -> Nat -> Nat), I1 0 0 /\ ∀ (v14 : Int) (g : Nat), I1 v14 g -> ((v14 < (1 * 2 ^ (min ((f.dr.length : Nat) : Int).toNat 64))) -> ∃ J2 : Nat -> Prop, (∀ (g_1 : Nat), J2 g_1 -> (inI (v14 + 1)) /\ (I1 (v14 + 1) g_1 /\ μ1 (v14 + 1) g_1 < μ1 v14 g)) /\ ((inI (((f.dr.length : Nat) : Int) - f.li)) /\ (0 <= v14 /\ v14 < 64) /\ ((¬ pcM v14 = (((f.dr.length : Nat) : Int) - f.li)) -> J2 g) /\ (¬ (¬ pcM v14 = (((f.dr.length : Nat) : Int) - f.li)) -> (l.length <= 1073741824) /\ ((partM l v14).length <= 1073741824) /\ (((zWy n (partM l v14)).2.2 = 0) -> ((zYw f n l)[g]? = some (Cho.mk ((zWy n (partM l v14)).1) v14)) /\ (J2 (g + 1)) /\ (True)) /\ (¬ ((zWy n (partM l v14)).2.2 = 0) -> J2 g)))) /\ (¬ (v14 < (1 * 2 ^ (min ((f.dr.length : Nat) : Int).toNat 64))) -> g = (zYw f n l).length)
theorem walk_possible1 {f : Flt} {n : Int} {l : (List Con)} (hv : vc_possible1 f n l) : FnIt Try.prog 55 [.ipt true [.lst true f.dr.length (zYy zYx f.dr), .int .i64 f.la, .int .i64 f.li, .lst true f.sv.length (zYy zYx f.sv), .lst true f.tm.length (zYy zYx f.tm)], .ipt true [.int .i64 n], .ipt true [.lst true l.length (zYy e66 l)]] ((zYw f n l).map (fun c => .agg [.int .i64 c.b.n, .lst true c.b.most.length (zYy (eSl zYx true) c.b.most), .int .i64 c.s])) := by
 refine FnIt.of_walk (T := tt) (nt := 47) ttOk ttMix ⟨⟨Try.f55, Try.func55, rfl, rfl, rfl, rfl⟩⟩ rfl (Nat.le_of_ble_eq_true rfl) ?_
 intro C hCL
 unfold vc_possible1 at hv
 change WJ C _ _ _ ⟨47, look [(1000000, .gh (0 + 1)), (0, .yl C.l), (1, .ipt true [.lst true f.dr.length (zYy zYx f.dr), .int .i64 f.la, .int .i64 f.li, .lst true f.sv.length (zYy zYx f.sv), .lst true f.tm.length (zYy zYx f.tm)]), (2, .ipt true [.int .i64 n]), (3, .ipt true [.lst true l.length (zYy e66 l)])], [], 0⟩ _
 refine WJ.tr [(0, .yl _), (1, .ipt _ _), (2, .ipt _ _), (3, .ipt _ _), (1000000, .gh _)] [] ⟨rfl, rfl, rfl, rfl, rfl, trivial⟩ rfl rfl (WJ.rL (cL rfl (zZq (v := .clo _ _ _) rfl (eL ⟨rfl, ?_⟩))))
 refine WJ.tr [(0, .yl _), (1, .ipt _ _), (2, .ipt _ _), (3, .ipt _ _), (5, .clo _ _ _), (1000000, .gh _)] [] ⟨rfl, rfl, rfl, rfl, rfl, rfl, trivial⟩ rfl rfl (WJ.rL (cL rfl (o_faP tt27 rfl tt23 rfl (cL rfl (zZx (v := .lst _ _ _) tt23 rfl rfl ⟨_, rfl⟩ (cL rfl (zXq (v := .lst _ _ _) tt23 rfl rfl ?_)))))))
 obtain ⟨s1, s2, hv⟩ := hv
 refine cL rfl (o_shl rfl rfl s1 s2 (mI rfl rfl (eL ⟨rfl, ?_⟩)))
 refine WJ.tr [(0, .yl _), (1, .ipt _ _), (2, .ipt _ _), (3, .ipt _ _), (5, .clo _ _ _), (13, .int _ _), (14, .int _ _), (1000000, .gh _)] [] ⟨rfl, rfl, rfl, rfl, rfl, rfl, rfl, rfl, trivial⟩ rfl rfl (WJ.block ?_)
 obtain ⟨I1, μ1, hp, hv⟩ := hv
 refine WJ.loop2 (fun v14 g => ⟨47, look [(0, .yl C.l), (1, .ipt true [.lst true f.dr.length (zYy zYx f.dr), .int .i64 f.la, .int .i64 f.li, .lst true f.sv.length (zYy zYx f.sv), .lst true f.tm.length (zYy zYx f.tm)]), (2, .ipt true [.int .i64 n]), (3, .ipt true [.lst true l.length (zYy e66 l)]), (5, .clo 56 [] []), (13, .int .i64 (1 * 2 ^ (min ((f.dr.length : Nat) : Int).toNat 64))), (14, .int .i64 v14), (1000000, .gh (g + 1))], [], 0⟩) I1 μ1 0 0 (St.to_mk (φ := []) rfl (rfl) ⟨Ren.yl _, Ren.ipt _ _, Ren.ipt _ _, Ren.ipt _ _, Ren.clo _ (Rens.nil) (Rens.nil), Ren.int _ _, Ren.int _ _, Ren.gh _, trivial⟩ trivial) rfl hp ?_
 clear hp
 intro v14 g hI
 replace hv := hv v14 g hI
 clear hI
 refine WJ.rL (cL rfl (zXw rfl rfl (eL ⟨rfl, ?_⟩)))
 refine WJ.tr [(0, .yl _), (1, .ipt _ _), (2, .ipt _ _), (3, .ipt _ _), (5, .clo _ _ _), (13, .int _ _), (14, .int _ _), (15, .bool _), (1000000, .gh _)] [] ⟨rfl, rfl, rfl, rfl, rfl, rfl, rfl, rfl, rfl, trivial⟩ rfl rfl (WJ.seq' (WJ.cn rfl (fun hc => ?_) (fun hc => ?_)))
 have hv := hv.1 hc
 refine WJ.skip (zZ (WJ.tr [(0, .yl _), (1, .ipt _ _), (2, .ipt _ _), (3, .ipt _ _), (5, .clo _ _ _), (13, .int _ _), (14, .int _ _), (1000000, .gh _)] [] ⟨rfl, rfl, rfl, rfl, rfl, rfl, rfl, rfl, trivial⟩ rfl rfl ?_))
 obtain ⟨J2, hj, hv⟩ := hv
 refine WJ.mid1 (fun g_1 => ⟨47, look [(0, .yl C.l), (1, .ipt true [.lst true f.dr.length (zYy zYx f.dr), .int .i64 f.la, .int .i64 f.li, .lst true f.sv.length (zYy zYx f.sv), .lst true f.tm.length (zYy zYx f.tm)]), (2, .ipt true [.int .i64 n]), (3, .ipt true [.lst true l.length (zYy e66 l)]), (5, .clo 56 [] []), (13, .int .i64 (1 * 2 ^ (min ((f.dr.length : Nat) : Int).toNat 64))), (14, .int .i64 v14), (1000000, .gh (g_1 + 1))], [], 0⟩) J2 ?_ ?_
 intro g_1
 intro hv
 replace hv := hj g_1 hv
 refine WJ.rL1 ?_
 obtain ⟨s40, hv⟩ := hv
 refine cL rfl (o_add rfl rfl s40 (mI rfl rfl (eL ⟨rfl, ?_⟩)))
 exact zZ (⟨(), (v14 + 1), g_1, hv, St.to_mk (φ := []) rfl (rfl) ⟨Ren.yl _, Ren.ipt _ _, Ren.ipt _ _, Ren.ipt _ _, Ren.clo _ (Rens.nil) (Rens.nil), Ren.int _ _, Ren.int _ _, Ren.gh _, trivial⟩ trivial, rfl⟩)
 clear hj
 refine WJ.block (WJ.rL (mI rfl rfl (aI rfl rfl (eL ⟨rfl, ?_⟩))))
 refine WJ.tr [(0, .yl _), (1, .ipt _ _), (2, .ipt _ _), (3, .ipt _ _), (5, .clo _ _ _), (6, .int _ _), (13, .int _ _), (14, .int _ _), (1000000, .gh _)] [] ⟨rfl, rfl, rfl, rfl, rfl, rfl, rfl, rfl, rfl, trivial⟩ rfl rfl (WJ.seq' (WJ.rP [0, 1, 3, 4, 5, 6, 7, 8, 2, 9] (by decide +kernel) rfl (cL rfl (zZp (v := .clo _ _ _) rfl (mI rfl rfl (cL rfl (o_faP tt27 rfl tt23 rfl (cL rfl (zZx (v := .lst _ _ _) tt23 rfl rfl ⟨_, rfl⟩ (cL rfl (zXq (v := .lst _ _ _) tt23 rfl rfl (cL rfl (o_faP tt27 rfl tt3 rfl (cL rfl (zZx (v := .int _ _) tt3 rfl rfl ⟨_, rfl⟩ ?_)))))))))))))))
 obtain ⟨s43, hv⟩ := hv
 refine cL rfl (o_sub rfl rfl s43 ?_)
 obtain ⟨s44, hv⟩ := hv
 refine cL rfl (zZu (k := 56) (fst := []) (caps := []) (ys := [.int _ _]) rfl rfl (spec_size v14 s44) (Wks.cons (zZz _ _ _ _) (Wks.refl _)) (cL rfl (o_neI rfl rfl rfl (eL ⟨rfl, ?_⟩))))
 refine WJ.tr [(0, .yl _), (1, .ipt _ _), (2, .ipt _ _), (3, .ipt _ _), (5, .clo _ _ _), (6, .int _ _), (13, .int _ _), (14, .int _ _), (26, .bool _), (1000000, .gh _)] [] ⟨rfl, rfl, rfl, rfl, rfl, rfl, rfl, rfl, rfl, rfl, trivial⟩ rfl rfl (WJ.cn rfl (fun hc => ?_) (fun hc => ?_))
 have hv := hv.1 hc
 refine WJ.exit (zZt (zXy (zZ (⟨(), g, hv, St.to_mk (φ := []) rfl (rfl) ⟨Ren.yl _, Ren.ipt _ _, Ren.ipt _ _, Ren.ipt _ _, Ren.clo _ (Rens.nil) (Rens.nil), Ren.int _ _, Ren.int _ _, Ren.gh _, trivial⟩ trivial, rfl⟩))))
 have hv := hv.2 hc
 refine WJ.skip (zZ (WJ.tr [(0, .yl _), (1, .ipt _ _), (2, .ipt _ _), (3, .ipt _ _), (5, .clo _ _ _), (6, .int _ _), (13, .int _ _), (14, .int _ _), (1000000, .gh _)] [] ⟨rfl, rfl, rfl, rfl, rfl, rfl, rfl, rfl, rfl, trivial⟩ rfl rfl (WJ.rP [0, 1, 2, 9, 3, 4, 5, 6, 7, 8, 10, 11, 12] (by decide +kernel) rfl (cL rfl (zZx (v := .int _ _) tt3 rfl rfl ⟨_, rfl⟩ (cL rfl (zZx (v := .lst _ _ _) tt28 rfl rfl ⟨_, rfl⟩ (mI rfl rfl (cL rfl (zXs (p := 0) tt53 rfl rfl ?_))))))))))
 obtain ⟨s45, hv⟩ := hv
 refine cL rfl (zZu (k := 19) (fst := []) (caps := []) (ys := [.lst _ _ _, .int _ _]) rfl rfl (spec_part l v14 s45) (Wks.cons (zZs _ _ _ _ _) (Wks.cons (zZz _ _ _ _) (Wks.refl _))) ?_)
 obtain ⟨s46, hv⟩ := hv
 refine cL rfl (zZu (k := 26) (fst := []) (caps := []) (ys := [.int _ _, .lst _ _ _]) rfl rfl (spec_close n (partM l v14) s46) (Wks.cons (zZz _ _ _ _) (Wks.cons (zZs _ _ _ _ _) (Wks.refl _))) (cL rfl (zZp (v := .tup _) rfl (cL rfl (o_ext (v := .agg _) rfl rfl (cL rfl (o_ext (v := .lst _ _ _) rfl rfl (cL rfl (o_ext (v := .int _ _) rfl rfl (cLn (o_stB (v := .agg _) (vs := [.int _ _, .lst _ _ _]) (cs2 := [.int _ _, .lst _ _ _]) tt53 rfl rfl rfl rfl rfl (Nat.le_of_ble_eq_true rfl) rfl (aL rfl rfl (aI rfl rfl (eL ⟨rfl, ?_⟩))))))))))))))
 refine WJ.tr [(0, .yl _), (1, .ipt _ _), (2, .ipt _ _), (3, .ipt _ _), (5, .clo _ _ _), (6, .int _ _), (7, .ptr _ _), (9, .int _ _), (13, .int _ _), (14, .int _ _), (1000000, .gh _)] [.box _ [.int _ _, .lst _ _ _]] ⟨rfl, rfl, rfl, rfl, rfl, rfl, rfl, rfl, rfl, rfl, rfl, trivial⟩ rfl rfl ?_
 by_cases c1 : (zWy n (partM l v14)).2.2 = 0
 have hv := hv.1 c1
 refine WJ.rYn (j := 0) 7 rfl (mI rfl rfl (cL rfl (o_eqI rfl rfl rfl (mB rfl rfl (cLg rfl rfl (dT c1) (cL rfl (zZp (v := .yl _) rfl (cLg rfl rfl (dT c1) (cL rfl (zXv (cs := [.int _ _, .lst _ _ _]) tt53 rfl rfl ⟨_, rfl⟩ rfl (cLg rfl rfl (dT c1) (mI rfl rfl (cLg rfl rfl (dT c1) (cL rfl (o_build (qs := [(0, .agg _), (1, .int _ _)]) (cs := [.int _ _, .lst _ _ _, .int _ _]) tt75 rfl rfl rfl (eL (?_)))))))))))))))))
 obtain ⟨s47, hv⟩ := hv
 refine YSt.intro ⟨_, _, _, g, _, [(0, .yl C.l), (1, .ipt true [.lst true f.dr.length (zYy zYx f.dr), .int .i64 f.la, .int .i64 f.li, .lst true f.sv.length (zYy zYx f.sv), .lst true f.tm.length (zYy zYx f.tm)]), (2, .ipt true [.int .i64 n]), (3, .ipt true [.lst true l.length (zYy e66 l)]), (5, .clo 56 [] []), (13, .int .i64 (1 * 2 ^ (min ((f.dr.length : Nat) : Int).toNat 64))), (14, .int .i64 v14), (38, .bool (decide ((zWy n (partM l v14)).2.2 = 0))), (39, .yl C.l), (41, .int .i64 v14)], rfl, .inr ⟨_, _, rfl, rfl, congrArg AV.bool (dT c1)⟩, by decide, rfl, rfl, (by rw [hCL, List.getElem?_map, s47]; rfl), zXr 5 _ (Wks.cons (zZz _ _ _ _) (Wks.cons (zZs _ _ _ _ _) (Wks.cons (zZz _ _ _ _) (Wks.refl _)))), rfl, ⟨rfl, rfl, rfl, rfl, rfl, rfl, rfl, rfl, rfl, rfl, trivial⟩, ?_, ?_⟩
 have hv := hv.1
 refine cLg rfl rfl (dT c1) (cL rfl (o_notB rfl (cL rfl (zZv (v := .bool _) rfl (dT c1) rfl (eL ⟨rfl, ?_⟩)))))
 refine WJ.tr [(0, .yl _), (1, .ipt _ _), (2, .ipt _ _), (3, .ipt _ _), (5, .clo _ _ _), (13, .int _ _), (14, .int _ _), (39, .yl _), (41, .int _ _), (43, .bool _), (44, .bool _), (45, .bool _), (1000000, .gh _)] [] ⟨rfl, rfl, rfl, rfl, rfl, rfl, rfl, rfl, rfl, rfl, rfl, rfl, rfl, trivial⟩ rfl rfl (WJ.cF rfl (WJ.skip (zYq (zZ (⟨(), (g + 1), hv, St.to_mk (φ := []) rfl (rfl) ⟨Ren.yl _, Ren.ipt _ _, Ren.ipt _ _, Ren.ipt _ _, Ren.clo _ (Rens.nil) (Rens.nil), Ren.int _ _, Ren.int _ _, Ren.gh _, trivial⟩ trivial, rfl⟩)))))
 have hv := hv.2
 refine cLg rfl rfl (dT c1) (cL rfl (o_notB rfl (cL rfl (zZv (v := .bool _) rfl (dT c1) rfl (eL ⟨rfl, ?_⟩)))))
 refine WJ.tr [(0, .yl _), (1, .ipt _ _), (2, .ipt _ _), (3, .ipt _ _), (5, .clo _ _ _), (13, .int _ _), (14, .int _ _), (39, .yl _), (41, .int _ _), (43, .bool _), (44, .bool _), (45, .bool _), (1000000, .gh _)] [] ⟨rfl, rfl, rfl, rfl, rfl, rfl, rfl, rfl, rfl, rfl, rfl, rfl, rfl, trivial⟩ rfl rfl (WJ.cT rfl (WJ.ret (zXz (zZr (zZr (zXz (⟨.inr rfl, .inl rfl⟩)))))))
 have hv := hv.2 c1
 refine WJ.rL (mI rfl rfl (cL rfl (o_eqI rfl rfl rfl (mB rfl rfl ?_))))
 iterate 6 refine cLs rfl rfl rfl (dF c1) ?_
 refine cL rfl (zZy (v := .bool _) rfl (dF c1) rfl (eL ⟨rfl, ?_⟩))
 refine WJ.tr [(0, .yl _), (1, .ipt _ _), (2, .ipt _ _), (3, .ipt _ _), (5, .clo _ _ _), (13, .int _ _), (14, .int _ _), (39, .tup []), (40, .tup []), (41, .tup []), (42, .tup []), (43, .tup []), (44, .tup []), (45, .bool _), (1000000, .gh _)] [.box _ [.int _ _, .lst _ _ _]] ⟨rfl, rfl, rfl, rfl, rfl, rfl, rfl, rfl, rfl, rfl, rfl, rfl, rfl, rfl, rfl, trivial⟩ rfl rfl (WJ.cF rfl (WJ.skip (zYq (zZ (⟨(), g, hv, St.to_mk (φ := []) rfl (rfl) ⟨Ren.yl _, Ren.ipt _ _, Ren.ipt _ _, Ren.ipt _ _, Ren.clo _ (Rens.nil) (Rens.nil), Ren.int _ _, Ren.int _ _, Ren.gh _, trivial⟩ trivial, rfl⟩)))))
 have hv := hv.2 hc
 refine WJ.exit (zZt (zZt (zXy (⟨.inl rfl, .inr (by rw [List.length_map]; exact congrArg (fun k => AV.gh (k + 1)) hv)⟩))))
theorem vcp_possible1 (f : Flt) (n : Int) (l : (List Con)) (h0 : PossOk f l) : vc_possible1 f n l := by
  unfold vc_possible1
  obtain ⟨hd, hl, hi⟩ := h0
  rw [pow_eq hd]
  have h64 := pow_le64 hd
  have hch : zYw f n l = prefC f n l (2 ^ f.dr.length) := by unfold zYw prefC; rfl
  have hst := fun s c => @pref_step f n l s c
  generalize hN : 2 ^ f.dr.length = N at *
  refine ⟨by omega, by unfold inI; omega, fun v g => ∃ s : Nat, v = s /\ s <= N /\ g = (prefC f n l s).length, fun v _ => N - v.toNat, ⟨0, rfl, by omega, rfl⟩, ?_⟩
  rintro _ _ ⟨s, rfl, hs, rfl⟩
  refine ⟨fun h1 => ?_, fun h1 => ?_⟩
  . have hlt : s < N := by omega
    have hlen := partM_len (l := l) (s := (s : Int))
    have hp : ∀ c, choice1 f n l (s : Int) = c -> (prefC f n l (s + 1)).length = (prefC f n l s).length + c.toList.length := fun c hc => by rw [pref_succ, hc, List.length_append]
    refine ⟨fun g => g = (prefC f n l (s + 1)).length, ?_, by unfold inI; omega, by omega, fun h2 => ?_, fun h2 => ⟨hl, by omega, fun h3 => ?_, fun h3 => ?_⟩⟩
    . rintro _ rfl
      exact ⟨by unfold inI; omega, ⟨s + 1, by omega, by omega, rfl⟩, by dsimp only; omega⟩
    . exact (hp none (by unfold choice1; rw [if_neg fun h => h2 h.1])).symm
    . have hc : choice1 f n l (s : Int) = some ⟨(zWy n (partM l s)).1, s⟩ := by unfold choice1; rw [if_pos ⟨Classical.not_not.1 h2, h3⟩]
      exact ⟨hst s _ hlt hc, (hp _ hc).symm, trivial⟩
    . exact (hp none (by unfold choice1; rw [if_neg fun h => h3 h.2])).symm
  . have : s = N := by omega
    rw [this, hch]
theorem it_possible1 (f : Flt) (n : Int) (l : (List Con)) (h0 : PossOk f l) : FnIt Try.prog 55 [.ipt true [.lst true f.dr.length (zYy zYx f.dr), .int .i64 f.la, .int .i64 f.li, .lst true f.sv.length (zYy zYx f.sv), .lst true f.tm.length (zYy zYx f.tm)], .ipt true [.int .i64 n], .ipt true [.lst true l.length (zYy e66 l)]] ((zYw f n l).map (fun c => .agg [.int .i64 c.b.n, .lst true c.b.most.length (zYy (eSl zYx true) c.b.most), .int .i64 c.s])) :=
  walk_possible1 (vcp_possible1 f n l h0)
def vc_choices (f : Flt) (n : Int) (l : (List Con)) (Post : (List Int) -> Int -> Prop) : Prop :=
  (f.dr.length <= 9223372036854775807) /\ (f.sv.length <= 9223372036854775807) /\ (f.tm.length <= 9223372036854775807) /\ (l.length <= 1073741824) /\ ((¬ ((zX f n l) = true)) -> Post [] 2) /\ (¬ (¬ ((zX f n l) = true)) -> (PossOk f l) /\ ∃ (I1 : Nat -> List Int -> Prop), I1 0 ([] : List Int) /\ (∀ (i : Nat) (c : Cho) (r2 : List Int), (zYw f n l)[i]? = some c -> I1 i r2 -> ((r2 ++ [c.s]).length <= 1073741824) /\ I1 (i + 1) (r2 ++ [c.s])) /\ (∀ (r2 : List Int), I1 (zYw f n l).length r2 -> ((r2.length = 0) -> Post [] 100) /\ (¬ (r2.length = 0) -> Post r2 0)))
theorem walk_choices {f : Flt} {n : Int} {l : (List Con)} {Post : (List Int) -> Int -> Prop} (hv : vc_choices f n l Post) : FnP Try.prog 13 [.agg ((e27 true) f), .int .i64 n, .lst true l.length (zYy e66 l)] (fun x => ∃ q0 q1, x = .tup [.lst false q0.length (zYy zYx q0), .int .i64 q1] /\ Post q0 q1) := by
 refine FnP.of_walk (T := tt) (nt := 28) ttOk ttMix ⟨⟨Try.f13, Try.func13, rfl, rfl, rfl, rfl⟩⟩ (by simp) ?_
 unfold vc_choices at hv
 change W _ _ _ ⟨28, look [(0, .agg [.lst true f.dr.length (zYy zYx f.dr), .int .i64 f.la, .int .i64 f.li, .lst true f.sv.length (zYy zYx f.sv), .lst true f.tm.length (zYy zYx f.tm)]), (1, .int .i64 n), (2, .lst true l.length (zYy e66 l))], [], 0⟩ _
 refine W.rL (cL rfl (o_box (v := .agg _) (p := 0) rfl rfl rfl (cL rfl (zZq (v := .nilS) rfl (aI rfl rfl (eL (W.tr [(1, .int _ _), (2, .lst _ _ _), (3, .ptr _ _), (6, .nilS), (7, .int _ _)] [.box _ [.lst _ _ _, .int _ _, .int _ _, .lst _ _ _, .lst _ _ _]] ⟨rfl, rfl, rfl, rfl, rfl, trivial⟩ rfl (W.seq' (W.rL (cL rfl (zXv (cs := [.lst _ _ _, .int _ _, .int _ _, .lst _ _ _, .lst _ _ _]) tt27 rfl rfl ⟨_, rfl⟩ rfl (mI rfl rfl (mL rfl rfl ?_)))))))))))))
 obtain ⟨s5, s6, s7, s8, hv⟩ := hv
 refine cL rfl (zZu (k := 34) (fst := []) (caps := []) (ys := [.agg _, .int _ _, .lst _ _ _]) rfl rfl (spec_bvalid f n l s5 s6 s7 s8) (Wks.cons (zXr 5 _ (Wks.cons (zZs _ _ _ _ _) (Wks.cons (zZz _ _ _ _) (Wks.cons (zZz _ _ _ _) (Wks.cons (zZs _ _ _ _ _) (Wks.cons (zZs _ _ _ _ _) (Wks.refl _))))))) (Wks.cons (zZz _ _ _ _) (Wks.cons (zZs _ _ _ _ _) (Wks.refl _)))) (cL rfl (o_notB rfl (eL (W.tr [(1, .int _ _), (2, .lst _ _ _), (3, .ptr _ _), (6, .nilS), (7, .int _ _), (14, .bool _)] [.box _ [.lst _ _ _, .int _ _, .int _ _, .lst _ _ _, .lst _ _ _]] ⟨rfl, rfl, rfl, rfl, rfl, rfl, trivial⟩ rfl (W.cn rfl (fun hc => ?_) (fun hc => ?_)))))))
 have hv := hv.1 hc
 refine W.rL (cL rfl (zZq (v := .nilS) rfl (aI rfl rfl (eL (W.ret (zZr (rt (rt_t (v := .nilS) rfl (rt_t (v := .int _ _) rfl (rt_n (⟨_, rs_tup 5 _ (Wks.cons (rs_nil _ _ _ _ rfl) (Wks.cons (zY _ _ _ _) (Wks.refl _))), [], 2, rfl, hv⟩)))))))))))
 have hv := hv.2 hc
 refine W.skip (zZ (W.rL (cL rfl (zXs (p := 1) tt23 rfl rfl (eL (W.seq' (W.rL (cL rfl (zXv (cs := [.lst _ _ _, .int _ _, .int _ _, .lst _ _ _, .lst _ _ _]) tt27 rfl rfl ⟨_, rfl⟩ rfl (mI rfl rfl (mL rfl rfl (cL rfl (o_callS1 (k := 35) (fst := []) (caps := []) (ys := [.agg _, .int _ _, .lst _ _ _]) rfl rfl (spec_possible f n l) (Wks.cons (zXr 5 _ (Wks.cons (zZs _ _ _ _ _) (Wks.cons (zZz _ _ _ _) (Wks.cons (zZz _ _ _ _) (Wks.cons (zZs _ _ _ _ _) (Wks.cons (zZs _ _ _ _ _) (Wks.refl _))))))) (Wks.cons (zZz _ _ _ _) (Wks.cons (zZs _ _ _ _ _) (Wks.refl _)))) (eL (W.tr [(6, .nilS), (7, .int _ _), (8, .ptr _ _), (18, .clo _ _ _)] [.box _ [.lst _ _ _, .int _ _, .int _ _, .lst _ _ _, .lst _ _ _], .box _ [.nilS]] ⟨rfl, rfl, rfl, rfl, trivial⟩ rfl (W.block (W.to (st' := ⟨28, look [(6, .nilS), (7, .int .i64 0), (8, .ptr 1 0), (18, .clo 55 [] [.ipt true [.lst true f.dr.length (zYy zYx f.dr), .int .i64 f.la, .int .i64 f.li, .lst true f.sv.length (zYy zYx f.sv), .lst true f.tm.length (zYy zYx f.tm)], .ipt true [.int .i64 n], .ipt true [.lst true l.length (zYy e66 l)]])], [.box 27 [.lst true f.dr.length (zYy zYx f.dr), .int .i64 f.la, .int .i64 f.li, .lst true f.sv.length (zYy zYx f.sv), .lst true f.tm.length (zYy zYx f.tm)], .box 23 [.ref true 2 ([] : List Int).length], .row 3 1 (zYy zYx ([] : List Int))], 0⟩) (St.to_mk (φ := [some 0, some 1, none]) rfl (rfl) ⟨Ren.nilS, Ren.int _ _, Ren.ptr rfl, Ren.clo _ (Rens.nil) (Rens.cons (Ren.ipt _ _) (Rens.cons (Ren.ipt _ _) (Rens.cons (Ren.ipt _ _) (Rens.nil)))), trivial⟩ ⟨.inr ⟨_, rfl, rfl, Rens.cons (Ren.lst _ _ _) (Rens.cons (Ren.int _ _) (Rens.cons (Ren.int _ _) (Rens.cons (Ren.lst _ _ _) (Rens.cons (Ren.lst _ _ _) (Rens.nil)))))⟩, .inr ⟨_, rfl, rfl, Rens.cons (Ren.nilR rfl rfl) (Rens.nil)⟩, rfl, trivial⟩) ?_)))))))))))))))))
 obtain ⟨s13, hv⟩ := hv
 obtain ⟨I1, hp, hr, hd⟩ := hv
 refine W.rng1_0 (fun c => .agg [.int .i64 c.b.n, .lst true c.b.most.length (zYy (eSl zYx true) c.b.most), .int .i64 c.s]) (zYw f n l) 2 ([] : List Int) (fun r2 => [.box 27 [.lst true f.dr.length (zYy zYx f.dr), .int .i64 f.la, .int .i64 f.li, .lst true f.sv.length (zYy zYx f.sv), .lst true f.tm.length (zYy zYx f.tm)], .box 23 [.ref true 2 r2.length], .row 3 1 (zYy zYx r2)]) I1 (l0 := [(6, .nilS), (7, .int .i64 0), (8, .ptr 1 0)]) rfl rfl (it_possible1 f n l s13) (Wks.cons (ag_ipt _ _ _ _) (Wks.cons (ag_ipt _ _ _ _) (Wks.cons (ag_ipt _ _ _ _) (Wks.refl _)))) (fun _ => rfl) ⟨rfl, rfl, rfl, trivial⟩ (by decide) rfl (by
 intro i r2 _ o ho
 simp only [List.mem_cons, List.not_mem_nil, or_false] at ho
 rcases ho with rfl | rfl | rfl <;> first | rfl | exact noF_ints _) rfl rfl hp ?_ ?_
 clear hp hd
 intro i c r2 hc hI
 have hv := hr i c r2 hc hI
 clear hr hc hI
 refine W.rL1 (cL rfl (zXs (p := 3) tt75 rfl rfl (cLn (o_stB (v := .agg _) (vs := [.int _ _, .lst _ _ _, .int _ _]) (cs2 := [.int _ _, .lst _ _ _, .int _ _]) tt75 rfl rfl rfl rfl rfl (Nat.le_of_ble_eq_true rfl) rfl (eL (zZ (W.tr [(8, .ptr _ _), (9, .ptr _ _)] [.box _ [.lst _ _ _, .int _ _, .int _ _, .lst _ _ _, .lst _ _ _], .box _ [.ref _ _ _], .row _ _ _, .box _ [.int _ _, .lst _ _ _, .int _ _]] ⟨rfl, rfl, trivial⟩ rfl (W.block (W.rL1 (cL rfl (zZx (v := .ref _ _ _) tt23 rfl rfl ⟨_, rfl⟩ (cL rfl (o_fa tt75 rfl tt73 rfl (cL rfl (zZx (v := .int _ _) tt73 rfl rfl ⟨_, rfl⟩ (cL rfl (o_bs1 (v := .int _ _) (q := 4) tt23 tt3 rfl rfl rfl rfl rfl rfl rfl rfl ?_)))))))))))))))))
 obtain ⟨s14, hv⟩ := hv
 refine cL rfl (o_apR (p := 5) (q := (r2 ++ [c.s]).length) tt23 tt3 rfl rfl (src_ref rfl rfl) rfl rfl (zYr (zZw.wd false) _) (Nat.le_trans (Nat.le_of_eq (@List.length_append _ (r2) ([c.s])).symm) s14) rfl (@List.length_append _ (r2) ([c.s])).symm (encL_app zYx r2 [c.s]) (cLn (o_stB (v := .ref _ _ _) (vs := [.ref _ _ _]) (cs2 := [.ref _ _ _]) tt23 rfl rfl rfl rfl rfl (Nat.le_of_ble_eq_true rfl) rfl (eL (zYq (rd_nrm ⟨(), (r2 ++ [c.s]), hv, St.to_mk (φ := [some 0, some 1, some 5]) rfl (rfl) trivial ⟨.inr ⟨_, rfl, rfl, Rens.cons (Ren.lst _ _ _) (Rens.cons (Ren.int _ _) (Rens.cons (Ren.int _ _) (Rens.cons (Ren.lst _ _ _) (Rens.cons (Ren.lst _ _ _) (Rens.nil)))))⟩, .inr ⟨_, rfl, rfl, Rens.cons (Ren.ref rfl (fun h => rfl)) (Rens.nil)⟩, .inr ⟨_, rfl, rfl, rfl, rfl, Rens.enc zZw false (r2 ++ [c.s])⟩, trivial⟩⟩))))))
 clear hp hr
 intro r2 hI
 have hv := hd r2 hI
 clear hd hI
 refine zYq (zZ (W.seq' (W.rL (cL rfl (zZx (v := .ref _ _ _) tt23 rfl rfl ⟨_, rfl⟩ (cL rfl (o_nilER tt23 rfl (eL (W.tr [(8, .ptr _ _), (26, .bool _)] [.box _ [.lst _ _ _, .int _ _, .int _ _, .lst _ _ _, .lst _ _ _], .box _ [.ref _ _ _], .row _ _ _] ⟨rfl, rfl, trivial⟩ rfl (W.cn rfl (fun hc => ?_) (fun hc => ?_)))))))))))
 have hv := hv.1 hc
 refine W.rL (cL rfl (zZq (v := .nilS) rfl (aI rfl rfl (eL (W.ret (zZr (rt (rt_t (v := .nilS) rfl (rt_t (v := .int _ _) rfl (rt_n (⟨_, rs_tup 5 _ (Wks.cons (rs_nil _ _ _ _ rfl) (Wks.cons (zY _ _ _ _) (Wks.refl _))), [], 100, rfl, hv⟩)))))))))))
 have hv := hv.2 hc
 refine W.skip (zZ (W.rL (cL rfl (zZx (v := .ref _ _ _) tt23 rfl rfl ⟨_, rfl⟩ (cL rfl (zZq (v := .ref _ _ _) rfl (aI rfl rfl (eL (W.tr [(6, .ref _ _ _), (7, .int _ _)] [.box _ [.lst _ _ _, .int _ _, .int _ _, .lst _ _ _, .lst _ _ _], .box _ [.ref _ _ _], .row _ _ _] ⟨rfl, rfl, trivial⟩ rfl (W.ret (rt (rt_t (v := .ref _ _ _) rfl (rt_t (v := .int _ _) rfl (rt_n (⟨_, rs_tup 5 _ (Wks.cons (rs_ref zZw 3 _ rfl rfl) (Wks.cons (zY _ _ _ _) (Wks.refl _))), r2, 0, rfl, hv⟩)))))))))))))))
theorem vcp_choices (f : Flt) (n : Int) (l : (List Con)) (h0 : f.dr.length <= 9223372036854775807) (h1 : f.sv.length <= 9223372036854775807) (h2 : f.tm.length <= 9223372036854775807) (h3 : l.length <= 1073741824) : vc_choices f n l (fun q0 q1 => q0 = (chM f n l).1 /\ q1 = (chM f n l).2) := by
  unfold vc_choices
  refine ⟨h0, h1, h2, h3, fun h => ?_, fun h => ?_⟩
  . have e : chM f n l = ([], 2) := by unfold chM; rw [if_neg h]
    show _ /\ _
    rw [e]; exact ⟨rfl, rfl⟩
  . have hb := Classical.not_not.1 h
    have hbk := bvalid_ok hb
    have e : chM f n l = if zYw f n l = [] then ([], 100) else ((zYw f n l).map (·.s), 0) := by unfold chM; rw [if_pos hb]
    have hlen : (zYw f n l).length <= 64 := by
      have h1 := List.length_filterMap_le (fun (s : Nat) => choice1 f n l (s : Int)) (List.range (2 ^ f.dr.length))
      rw [List.length_range] at h1
      have := pow_le64 hbk.fo.len.2
      unfold zYw
      omega
    refine ⟨hbk.poss, fun i r => r = ((zYw f n l).take i).map (·.s), rfl, ?_, ?_⟩
    . rintro i c _ hc rfl
      have hlt := (List.getElem?_eq_some_iff.1 hc).1
      refine ⟨by simp; omega, ?_⟩
      dsimp only
      rw [take_succ_nat hc, List.map_append]; rfl
    . rintro _ rfl
      rw [List.take_length]
      refine ⟨fun h4 => ?_, fun h4 => ?_⟩
      . have : zYw f n l = [] := by simpa using h4
        show _ /\ _
        rw [e, if_pos this]; exact ⟨rfl, rfl⟩
      . have : ¬ zYw f n l = [] := by simpa using h4
        show _ /\ _
        rw [e, if_neg this]; exact ⟨rfl, rfl⟩
theorem spec_choices (f : Flt) (n : Int) (l : (List Con)) (h0 : f.dr.length <= 9223372036854775807) (h1 : f.sv.length <= 9223372036854775807) (h2 : f.tm.length <= 9223372036854775807) (h3 : l.length <= 1073741824) : FnP Try.prog 13 [.agg ((e27 true) f), .int .i64 n, .lst true l.length (zYy e66 l)] (fun xR => xR = .tup [.lst false ((chM f n l).1).length (zYy zYx ((chM f n l).1)), .int .i64 ((chM f n l).2)]) :=
  (walk_choices (vcp_choices f n l h0 h1 h2 h3)).mono (by rintro _ ⟨_, _, rfl, rfl, rfl⟩; rfl)
def vc_brange (f : Flt) (n : Int) (l : (List Con)) (a : Int) (b : Int) (Post : Int -> Int -> Int -> Prop) : Prop :=
  ((f.dr.length <= 9223372036854775807) /\ (f.sv.length <= 9223372036854775807) /\ (f.tm.length <= 9223372036854775807) /\ (l.length <= 1073741824) /\ True) /\ ((((¬ ((zX f n l) = true)) \/ (((min a b) < 0) \/ (n <= (max a b)))) -> Post 0 0 2) /\ (¬ ((¬ ((zX f n l) = true)) \/ (((min a b) < 0) \/ (n <= (max a b)))) -> (PossOk f l) /\ ∃ (I1 : Nat -> Int -> Int -> Prop), I1 0 1152921504606846976 (-1152921504606846976) /\ (∀ (i : Nat) (c : Cho) (b3 : Int) (b4 : Int), (zYw f n l)[i]? = some c -> I1 i b3 b4 -> (0 <= b /\ b < (c.b.most.length : Int)) /\ (0 <= a /\ a < ((lat c.b.most b).length : Int)) /\ (inI (-(lat (lat c.b.most b) a))) /\ (0 <= a /\ a < (c.b.most.length : Int)) /\ (0 <= b /\ b < ((lat c.b.most a).length : Int)) /\ I1 (i + 1) (min b3 (-(lat (lat c.b.most b) a))) (max b4 (lat (lat c.b.most a) b))) /\ (∀ (b3 : Int) (b4 : Int), I1 (zYw f n l).length b3 b4 -> ((b4 < b3) -> Post 0 0 100) /\ (¬ (b4 < b3) -> Post b3 b4 0))))
theorem walk_brange {f : Flt} {n : Int} {l : (List Con)} {a : Int} {b : Int} {Post : Int -> Int -> Int -> Prop} (hv : vc_brange f n l a b Post) : FnP Try.prog 22 [.agg ((e27 true) f), .int .i64 n, .lst true l.length (zYy e66 l), .int .i64 a, .int .i64 b] (fun x => ∃ q0 q1 q2, x = .tup [.int .i64 q0, .int .i64 q1, .int .i64 q2] /\ Post q0 q1 q2) := by
 refine FnP.of_walk (T := tt) (nt := 67) ttOk ttMix ⟨⟨Try.f22, Try.func22, rfl, rfl, rfl, rfl⟩⟩ (by simp) ?_
 unfold vc_brange at hv
 change W _ _ _ ⟨67, look [(0, .agg [.lst true f.dr.length (zYy zYx f.dr), .int .i64 f.la, .int .i64 f.li, .lst true f.sv.length (zYy zYx f.sv), .lst true f.tm.length (zYy zYx f.tm)]), (1, .int .i64 n), (2, .lst true l.length (zYy e66 l)), (3, .int .i64 a), (4, .int .i64 b)], [], 0⟩ _
 refine W.rL (cL rfl (o_box (v := .agg _) (p := 0) rfl rfl rfl (cL rfl (o_box (v := .int _ _) (p := 1) rfl rfl rfl (cL rfl (o_box (v := .int _ _) (p := 2) rfl rfl rfl ?_))))))
 iterate 3 refine aI rfl rfl ?_
 refine eL (W.tr [(1, .int _ _), (2, .lst _ _ _), (5, .ptr _ _), (8, .ptr _ _), (9, .ptr _ _), (10, .int _ _), (11, .int _ _), (12, .int _ _)] [.box _ [.lst _ _ _, .int _ _, .int _ _, .lst _ _ _, .lst _ _ _], .box _ [.int _ _], .box _ [.int _ _]] ⟨rfl, rfl, rfl, rfl, rfl, rfl, rfl, rfl, trivial⟩ rfl (W.seq' ?_))
 obtain ⟨sd, hv⟩ := hv
 refine W.rLm ⟨67, look [(1, .int .i64 n), (2, .lst true l.length (zYy e66 l)), (5, .ptr 0 0), (8, .ptr 1 0), (9, .ptr 2 0), (10, .int .i64 0), (11, .int .i64 0), (12, .int .i64 0), (33, .bool (decide ((¬ ((zX f n l) = true)) \/ (((min a b) < 0) \/ (n <= (max a b))))))], [.box 27 [.lst true f.dr.length (zYy zYx f.dr), .int .i64 f.la, .int .i64 f.li, .lst true f.sv.length (zYy zYx f.sv), .lst true f.tm.length (zYy zYx f.tm)], .box 3 [.int .i64 a], .box 3 [.int .i64 b]], 0⟩ ?_ ?_
 refine cL rfl (zXv (cs := [.lst _ _ _, .int _ _, .int _ _, .lst _ _ _, .lst _ _ _]) tt27 rfl rfl ⟨_, rfl⟩ rfl (mI rfl rfl (mL rfl rfl ?_)))
 obtain ⟨s13, s14, s15, s16, sd⟩ := sd
 refine cL rfl (zZu (k := 34) (fst := []) (caps := []) (ys := [.agg _, .int _ _, .lst _ _ _]) rfl rfl (spec_bvalid f n l s13 s14 s15 s16) (Wks.cons (zXr 5 _ (Wks.cons (zZs _ _ _ _ _) (Wks.cons (zZz _ _ _ _) (Wks.cons (zZz _ _ _ _) (Wks.cons (zZs _ _ _ _ _) (Wks.cons (zZs _ _ _ _ _) (Wks.refl _))))))) (Wks.cons (zZz _ _ _ _) (Wks.cons (zZs _ _ _ _ _) (Wks.refl _)))) (cL rfl (o_notB rfl (mB rfl rfl ?_))))
 by_cases c1 : ¬ ((zX f n l) = true)
 iterate 4 refine cLs rfl rfl rfl (dT c1) ?_
 refine cL rfl (zZv (v := .bool _) rfl (dT c1) rfl (mB rfl rfl ?_))
 iterate 5 refine cLs rfl rfl rfl (rfl) ?_
 refine cL rfl (zZv (v := .bool _) rfl rfl rfl (eL (zYz ⟨rfl, rfl, rfl, rfl, rfl, rfl, rfl, rfl, (congrArg AV.bool (dOrT c1)).symm, trivial⟩ rfl)))
 refine cLg rfl rfl (dF c1) (cL rfl (zZx (v := .int _ _) tt3 rfl rfl ⟨_, rfl⟩ (cLg rfl rfl (dF c1) (cL rfl (zZx (v := .int _ _) tt3 rfl rfl ⟨_, rfl⟩ (cLg rfl rfl (dF c1) (cL rfl (o_min rfl rfl (cLg rfl rfl (dF c1) (cL rfl (zXw rfl rfl (cL rfl (zZy (v := .bool _) rfl (dF c1) rfl (mB rfl rfl ?_))))))))))))))
 by_cases c2 : (min a b) < 0
 iterate 5 refine cLs rfl rfl rfl (dT c2) ?_
 refine cL rfl (zZv (v := .bool _) rfl (dT c2) rfl (eL (zYz ⟨rfl, rfl, rfl, rfl, rfl, rfl, rfl, rfl, (congrArg AV.bool (dOrF c1 (dOrT c2))).symm, trivial⟩ rfl)))
 refine cLg rfl rfl (dF c2) (cL rfl (zZx (v := .int _ _) tt3 rfl rfl ⟨_, rfl⟩ (cLg rfl rfl (dF c2) (cL rfl (zZx (v := .int _ _) tt3 rfl rfl ⟨_, rfl⟩ (cLg rfl rfl (dF c2) (cL rfl (o_max rfl rfl (cLg rfl rfl (dF c2) (mI rfl rfl (cLg rfl rfl (dF c2) (cL rfl (o_geq rfl rfl (cL rfl (zZy (v := .bool _) rfl (dF c2) rfl (eL (zYz ⟨rfl, rfl, rfl, rfl, rfl, rfl, rfl, rfl, (congrArg AV.bool (dOrF c1 (dOrF c2 (rfl)))).symm, trivial⟩ rfl)))))))))))))))))
 refine W.cn rfl (fun hc => ?_) (fun hc => ?_)
 have hv := hv.1 hc
 refine W.rL ?_
 iterate 3 refine aI rfl rfl ?_
 refine eL (W.ret (zZr (rt ?_)))
 iterate 3 refine rt_t (v := .int _ _) rfl ?_
 refine rt_n (⟨_, rs_tup 5 _ (Wks.cons (zY _ _ _ _) (Wks.cons (zY _ _ _ _) (Wks.cons (zY _ _ _ _) (Wks.refl _)))), 0, 0, 2, rfl, hv⟩)
 have hv := hv.2 hc
 refine W.skip (zZ (W.rL (cL rfl (zXs (p := 3) tt3 rfl rfl (cL rfl (zXs (p := 4) tt3 rfl rfl ?_))))))
 iterate 2 refine cLn (o_stB (v := .int _ _) (vs := [.int _ _]) (cs2 := [.int _ _]) tt3 rfl rfl rfl rfl rfl (Nat.le_of_ble_eq_true rfl) rfl ?_)
 refine eL (W.seq' (W.rL (cL rfl (zXv (cs := [.lst _ _ _, .int _ _, .int _ _, .lst _ _ _, .lst _ _ _]) tt27 rfl rfl ⟨_, rfl⟩ rfl (mI rfl rfl (mL rfl rfl (cL rfl (o_callS1 (k := 35) (fst := []) (caps := []) (ys := [.agg _, .int _ _, .lst _ _ _]) rfl rfl (spec_possible f n l) (Wks.cons (zXr 5 _ (Wks.cons (zZs _ _ _ _ _) (Wks.cons (zZz _ _ _ _) (Wks.cons (zZz _ _ _ _) (Wks.cons (zZs _ _ _ _ _) (Wks.cons (zZs _ _ _ _ _) (Wks.refl _))))))) (Wks.cons (zZz _ _ _ _) (Wks.cons (zZs _ _ _ _ _) (Wks.refl _)))) (eL (W.tr [(8, .ptr _ _), (9, .ptr _ _), (10, .int _ _), (11, .int _ _), (12, .int _ _), (13, .ptr _ _), (14, .ptr _ _), (37, .clo _ _ _)] [.box _ [.lst _ _ _, .int _ _, .int _ _, .lst _ _ _, .lst _ _ _], .box _ [.int _ _], .box _ [.int _ _], .box _ [.int _ _], .box _ [.int _ _]] ⟨rfl, rfl, rfl, rfl, rfl, rfl, rfl, rfl, trivial⟩ rfl (W.block (W.to (st' := ⟨67, look [(8, .ptr 1 0), (9, .ptr 2 0), (10, .int .i64 0), (11, .int .i64 0), (12, .int .i64 0), (13, .ptr 3 0), (14, .ptr 4 0), (37, .clo 55 [] [.ipt true [.lst true f.dr.length (zYy zYx f.dr), .int .i64 f.la, .int .i64 f.li, .lst true f.sv.length (zYy zYx f.sv), .lst true f.tm.length (zYy zYx f.tm)], .ipt true [.int .i64 n], .ipt true [.lst true l.length (zYy e66 l)]])], [.box 27 [.lst true f.dr.length (zYy zYx f.dr), .int .i64 f.la, .int .i64 f.li, .lst true f.sv.length (zYy zYx f.sv), .lst true f.tm.length (zYy zYx f.tm)], .box 3 [.int .i64 a], .box 3 [.int .i64 b], .box 3 [.int .i64 1152921504606846976], .box 3 [.int .i64 (-1152921504606846976)]], 0⟩) (St.to_mk (φ := [some 0, some 1, some 2, some 3, some 4]) rfl (rfl) ⟨Ren.ptr rfl, Ren.ptr rfl, Ren.int _ _, Ren.int _ _, Ren.int _ _, Ren.ptr rfl, Ren.ptr rfl, Ren.clo _ (Rens.nil) (Rens.cons (Ren.ipt _ _) (Rens.cons (Ren.ipt _ _) (Rens.cons (Ren.ipt _ _) (Rens.nil)))), trivial⟩ ⟨.inr ⟨_, rfl, rfl, Rens.cons (Ren.lst _ _ _) (Rens.cons (Ren.int _ _) (Rens.cons (Ren.int _ _) (Rens.cons (Ren.lst _ _ _) (Rens.cons (Ren.lst _ _ _) (Rens.nil)))))⟩, .inr ⟨_, rfl, rfl, Rens.cons (Ren.int _ _) (Rens.nil)⟩, .inr ⟨_, rfl, rfl, Rens.cons (Ren.int _ _) (Rens.nil)⟩, .inr ⟨_, rfl, rfl, Rens.cons (Ren.int _ _) (Rens.nil)⟩, .inr ⟨_, rfl, rfl, Rens.cons (Ren.int _ _) (Rens.nil)⟩, trivial⟩) ?_))))))))))))
 obtain ⟨s43, hv⟩ := hv
 obtain ⟨I1, hp, hr, hd⟩ := hv
 refine W.rng2_0 (fun c => .agg [.int .i64 c.b.n, .lst true c.b.most.length (zYy (eSl zYx true) c.b.most), .int .i64 c.s]) (zYw f n l) 5 1152921504606846976 (-1152921504606846976) (fun b3 b4 => [.box 27 [.lst true f.dr.length (zYy zYx f.dr), .int .i64 f.la, .int .i64 f.li, .lst true f.sv.length (zYy zYx f.sv), .lst true f.tm.length (zYy zYx f.tm)], .box 3 [.int .i64 a], .box 3 [.int .i64 b], .box 3 [.int .i64 b3], .box 3 [.int .i64 b4]]) I1 (l0 := [(8, .ptr 1 0), (9, .ptr 2 0), (10, .int .i64 0), (11, .int .i64 0), (12, .int .i64 0), (13, .ptr 3 0), (14, .ptr 4 0)]) rfl rfl (it_possible1 f n l s43) (Wks.cons (ag_ipt _ _ _ _) (Wks.cons (ag_ipt _ _ _ _) (Wks.cons (ag_ipt _ _ _ _) (Wks.refl _)))) (fun _ => rfl) ⟨rfl, rfl, rfl, rfl, rfl, rfl, rfl, trivial⟩ (by decide) rfl (by
 intro i b3 b4 _ o ho
 simp only [List.mem_cons, List.not_mem_nil, or_false] at ho
 rcases ho with rfl | rfl | rfl | rfl | rfl <;> first | rfl | exact noF_ints _) rfl rfl hp ?_ ?_
 clear hp hd
 intro i c b3 b4 hc hI
 have hv := hr i c b3 b4 hc hI
 clear hr hc hI
 refine W.rL1 (cL rfl (zXs (p := 5) tt75 rfl rfl (cLn (o_stB (v := .agg _) (vs := [.int _ _, .lst _ _ _, .int _ _]) (cs2 := [.int _ _, .lst _ _ _, .int _ _]) tt75 rfl rfl rfl rfl rfl (Nat.le_of_ble_eq_true rfl) rfl (eL (zZ (W.tr [(8, .ptr _ _), (9, .ptr _ _), (13, .ptr _ _), (14, .ptr _ _), (15, .ptr _ _)] [.box _ [.lst _ _ _, .int _ _, .int _ _, .lst _ _ _, .lst _ _ _], .box _ [.int _ _], .box _ [.int _ _], .box _ [.int _ _], .box _ [.int _ _], .box _ [.int _ _, .lst _ _ _, .int _ _]] ⟨rfl, rfl, rfl, rfl, rfl, trivial⟩ rfl (W.block ?_))))))))
 obtain ⟨s44, s45, s46, s47, s48, hv⟩ := hv
 refine W.rV1 [(8, .ptr 1 0), (9, .ptr 2 0), (13, .ptr 3 0), (14, .ptr 4 0), (15, .ptr 5 0)] [.int .i64 b3, .ptr 5 0, .ptr 5 1, .lst true c.b.most.length (zYy (eSl zYx true) c.b.most), .int .i64 b, .ipt true ((zYy (eSl zYx true) c.b.most).drop (b.toNat * 1)), .lst true (lat c.b.most b).length (zYy zYx (lat c.b.most b)), .int .i64 a, .ipt true ((zYy zYx (lat c.b.most b)).drop (a.toNat * 1)), .int .i64 (lat (lat c.b.most b) a), .int .i64 (-(lat (lat c.b.most b) a)), .int .i64 (min b3 (-(lat (lat c.b.most b) a))), .int .i64 b4, .ptr 5 0, .ptr 5 1, .lst true c.b.most.length (zYy (eSl zYx true) c.b.most), .int .i64 a, .ipt true ((zYy (eSl zYx true) c.b.most).drop (a.toNat * 1)), .lst true (lat c.b.most a).length (zYy zYx (lat c.b.most a)), .int .i64 b, .ipt true ((zYy zYx (lat c.b.most a)).drop (b.toNat * 1)), .int .i64 (lat (lat c.b.most a) b), .int .i64 (max b4 (lat (lat c.b.most a) b)), .any, .any] [[], [], [(40, 1)], [(41, 2)], [], [(42, 3), (43, 4)], [(44, 5)], [], [(45, 6), (46, 7)], [(47, 8)], [(48, 9)], [(39, 0), (49, 10)], [], [], [(52, 13)], [(53, 14)], [], [(54, 15), (55, 16)], [(56, 17)], [], [(57, 18), (58, 19)], [(59, 20)], [(51, 12), (60, 21)], [(50, 11)], [(61, 22)]] [8, 9, 13, 14, 15] 23 24 [.box 27 [.lst true f.dr.length (zYy zYx f.dr), .int .i64 f.la, .int .i64 f.li, .lst true f.sv.length (zYy zYx f.sv), .lst true f.tm.length (zYy zYx f.tm)], .box 3 [.int .i64 a], .box 3 [.int .i64 b], .box 3 [.int .i64 (min b3 (-(lat (lat c.b.most b) a)))], .box 3 [.int .i64 b4], .box 75 [.int .i64 c.b.n, .lst true c.b.most.length (zYy (eSl zYx true) c.b.most), .int .i64 c.s]] [.box 27 [.lst true f.dr.length (zYy zYx f.dr), .int .i64 f.la, .int .i64 f.li, .lst true f.sv.length (zYy zYx f.sv), .lst true f.tm.length (zYy zYx f.tm)], .box 3 [.int .i64 a], .box 3 [.int .i64 b], .box 3 [.int .i64 (min b3 (-(lat (lat c.b.most b) a)))], .box 3 [.int .i64 (max b4 (lat (lat c.b.most a) b))], .box 75 [.int .i64 c.b.n, .lst true c.b.most.length (zYy (eSl zYx true) c.b.most), .int .i64 c.s]] [0, 1, 2, 3, 4, 5, 6, 7, 8, 9, 10, 11, 12, 13, 14, 15, 16, 17, 18, 19, 20, 21, 22, 23] [12, 13, 14, 15, 16, 17, 18, 19, 20, 21, 22, 24] (by decide +kernel) (by decide +kernel) rfl rfl ⟨rfl, rfl, rfl, rfl, rfl, trivial⟩ ?_ ?_ ?_
 refine vO (L := [(8, .ptr 1 0), (9, .ptr 2 0), (13, .ptr 3 0), (14, .ptr 4 0), (15, .ptr 5 0)]) rfl rfl ?_ ?_
 refine vC (zZx (v := .int _ _) tt3 rfl rfl ⟨_, rfl⟩ (⟨fun _ => rfl, rfl⟩))
 refine vO (L := [(8, .ptr 1 0), (9, .ptr 2 0), (13, .ptr 3 0), (14, .ptr 4 0), (15, .ptr 5 0)]) rfl rfl ?_ ?_
 refine vC (o_fa tt75 rfl tt53 rfl (⟨fun _ => rfl, rfl⟩))
 refine vO (L := [(8, .ptr 1 0), (9, .ptr 2 0), (13, .ptr 3 0), (14, .ptr 4 0), (15, .ptr 5 0), (40, .ptr 5 0)]) rfl rfl ?_ ?_
 refine vC (o_fa tt53 rfl tt51 rfl (⟨fun _ => rfl, rfl⟩))
 refine vO (L := [(8, .ptr 1 0), (9, .ptr 2 0), (13, .ptr 3 0), (14, .ptr 4 0), (15, .ptr 5 0), (41, .ptr 5 1)]) rfl rfl ?_ ?_
 refine vC (zZx (v := .lst _ _ _) tt51 rfl rfl ⟨_, rfl⟩ (⟨fun _ => rfl, rfl⟩))
 refine vO (L := [(8, .ptr 1 0), (9, .ptr 2 0), (13, .ptr 3 0), (14, .ptr 4 0), (15, .ptr 5 0)]) rfl rfl ?_ ?_
 refine vC (zZx (v := .int _ _) tt3 rfl rfl ⟨_, rfl⟩ (⟨fun _ => rfl, rfl⟩))
 refine vO (L := [(8, .ptr 1 0), (9, .ptr 2 0), (13, .ptr 3 0), (14, .ptr 4 0), (15, .ptr 5 0), (42, .lst true c.b.most.length (zYy (eSl zYx true) c.b.most)), (43, .int .i64 b)]) rfl rfl ?_ ?_
 refine vC (o_iaD (xs := c.b.most) tt51 tt23 rfl rfl rfl s44 (⟨fun _ => rfl, rfl⟩))
 refine vO (L := [(8, .ptr 1 0), (9, .ptr 2 0), (13, .ptr 3 0), (14, .ptr 4 0), (15, .ptr 5 0), (44, .ipt true ((zYy (eSl zYx true) c.b.most).drop (b.toNat * 1)))]) rfl rfl ?_ ?_
 refine vC (zZx (v := .lst _ _ _) tt23 rfl rfl (cell_of (ca_lst (xs := c.b.most) ((encSl zYx).wd true) s44) rfl) (⟨fun _ => rfl, rfl⟩))
 refine vO (L := [(8, .ptr 1 0), (9, .ptr 2 0), (13, .ptr 3 0), (14, .ptr 4 0), (15, .ptr 5 0)]) rfl rfl ?_ ?_
 refine vC (zZx (v := .int _ _) tt3 rfl rfl ⟨_, rfl⟩ (⟨fun _ => rfl, rfl⟩))
 refine vO (L := [(8, .ptr 1 0), (9, .ptr 2 0), (13, .ptr 3 0), (14, .ptr 4 0), (15, .ptr 5 0), (45, .lst true (lat c.b.most b).length (zYy zYx (lat c.b.most b))), (46, .int .i64 a)]) rfl rfl ?_ ?_
 refine vC (o_iaD (xs := lat c.b.most b) tt23 tt3 rfl rfl rfl s45 (⟨fun _ => rfl, rfl⟩))
 refine vO (L := [(8, .ptr 1 0), (9, .ptr 2 0), (13, .ptr 3 0), (14, .ptr 4 0), (15, .ptr 5 0), (47, .ipt true ((zYy zYx (lat c.b.most b)).drop (a.toNat * 1)))]) rfl rfl ?_ ?_
 refine vC (zZx (v := .int _ _) tt3 rfl rfl (cell_of (ca_lst (xs := lat c.b.most b) (zZw.wd true) s45) rfl) (⟨fun _ => rfl, rfl⟩))
 refine vO (L := [(8, .ptr 1 0), (9, .ptr 2 0), (13, .ptr 3 0), (14, .ptr 4 0), (15, .ptr 5 0), (48, .int .i64 (lat (lat c.b.most b) a))]) rfl rfl ?_ ?_
 refine vC (o_neg rfl s46 (⟨fun _ => rfl, rfl⟩))
 refine vO (L := [(8, .ptr 1 0), (9, .ptr 2 0), (13, .ptr 3 0), (14, .ptr 4 0), (15, .ptr 5 0), (39, .int .i64 b3), (49, .int .i64 (-(lat (lat c.b.most b) a)))]) rfl rfl ?_ ?_
 refine vC (o_min rfl rfl (⟨fun _ => rfl, rfl⟩))
 refine vO (L := [(8, .ptr 1 0), (9, .ptr 2 0), (13, .ptr 3 0), (14, .ptr 4 0), (15, .ptr 5 0)]) rfl rfl ?_ ?_
 refine vC (zZx (v := .int _ _) tt3 rfl rfl ⟨_, rfl⟩ (⟨fun _ => rfl, rfl⟩))
 refine vO (L := [(8, .ptr 1 0), (9, .ptr 2 0), (13, .ptr 3 0), (14, .ptr 4 0), (15, .ptr 5 0)]) rfl rfl ?_ ?_
 refine vC (o_fa tt75 rfl tt53 rfl (⟨fun _ => rfl, rfl⟩))
 refine vO (L := [(8, .ptr 1 0), (9, .ptr 2 0), (13, .ptr 3 0), (14, .ptr 4 0), (15, .ptr 5 0), (52, .ptr 5 0)]) rfl rfl ?_ ?_
 refine vC (o_fa tt53 rfl tt51 rfl (⟨fun _ => rfl, rfl⟩))
 refine vO (L := [(8, .ptr 1 0), (9, .ptr 2 0), (13, .ptr 3 0), (14, .ptr 4 0), (15, .ptr 5 0), (53, .ptr 5 1)]) rfl rfl ?_ ?_
 refine vC (zZx (v := .lst _ _ _) tt51 rfl rfl ⟨_, rfl⟩ (⟨fun _ => rfl, rfl⟩))
 refine vO (L := [(8, .ptr 1 0), (9, .ptr 2 0), (13, .ptr 3 0), (14, .ptr 4 0), (15, .ptr 5 0)]) rfl rfl ?_ ?_
 refine vC (zZx (v := .int _ _) tt3 rfl rfl ⟨_, rfl⟩ (⟨fun _ => rfl, rfl⟩))
 refine vO (L := [(8, .ptr 1 0), (9, .ptr 2 0), (13, .ptr 3 0), (14, .ptr 4 0), (15, .ptr 5 0), (54, .lst true c.b.most.length (zYy (eSl zYx true) c.b.most)), (55, .int .i64 a)]) rfl rfl ?_ ?_
 refine vC (o_iaD (xs := c.b.most) tt51 tt23 rfl rfl rfl s47 (⟨fun _ => rfl, rfl⟩))
 refine vO (L := [(8, .ptr 1 0), (9, .ptr 2 0), (13, .ptr 3 0), (14, .ptr 4 0), (15, .ptr 5 0), (56, .ipt true ((zYy (eSl zYx true) c.b.most).drop (a.toNat * 1)))]) rfl rfl ?_ ?_
 refine vC (zZx (v := .lst _ _ _) tt23 rfl rfl (cell_of (ca_lst (xs := c.b.most) ((encSl zYx).wd true) s47) rfl) (⟨fun _ => rfl, rfl⟩))
 refine vO (L := [(8, .ptr 1 0), (9, .ptr 2 0), (13, .ptr 3 0), (14, .ptr 4 0), (15, .ptr 5 0)]) rfl rfl ?_ ?_
 refine vC (zZx (v := .int _ _) tt3 rfl rfl ⟨_, rfl⟩ (⟨fun _ => rfl, rfl⟩))
 refine vO (L := [(8, .ptr 1 0), (9, .ptr 2 0), (13, .ptr 3 0), (14, .ptr 4 0), (15, .ptr 5 0), (57, .lst true (lat c.b.most a).length (zYy zYx (lat c.b.most a))), (58, .int .i64 b)]) rfl rfl ?_ ?_
 refine vC (o_iaD (xs := lat c.b.most a) tt23 tt3 rfl rfl rfl s48 (⟨fun _ => rfl, rfl⟩))
 refine vO (L := [(8, .ptr 1 0), (9, .ptr 2 0), (13, .ptr 3 0), (14, .ptr 4 0), (15, .ptr 5 0), (59, .ipt true ((zYy zYx (lat c.b.most a)).drop (b.toNat * 1)))]) rfl rfl ?_ ?_
 refine vC (zZx (v := .int _ _) tt3 rfl rfl (cell_of (ca_lst (xs := lat c.b.most a) (zZw.wd true) s48) rfl) (⟨fun _ => rfl, rfl⟩))
 refine vO (L := [(8, .ptr 1 0), (9, .ptr 2 0), (13, .ptr 3 0), (14, .ptr 4 0), (15, .ptr 5 0), (51, .int .i64 b4), (60, .int .i64 (lat (lat c.b.most a) b))]) rfl rfl ?_ ?_
 refine vC (o_max rfl rfl (⟨fun _ => rfl, rfl⟩))
 refine vO (L := [(8, .ptr 1 0), (9, .ptr 2 0), (13, .ptr 3 0), (14, .ptr 4 0), (15, .ptr 5 0), (50, .int .i64 (min b3 (-(lat (lat c.b.most b) a))))]) rfl rfl ?_ ?_
 refine vC (o_stB (v := .int _ _) (vs := [.int _ _]) (cs2 := [.int _ _]) tt3 rfl rfl rfl rfl rfl (Nat.le_of_ble_eq_true rfl) rfl (⟨fun _ => rfl, rfl⟩))
 exact trivial
 refine vO (L := [(8, .ptr 1 0), (9, .ptr 2 0), (13, .ptr 3 0), (14, .ptr 4 0), (15, .ptr 5 0)]) rfl rfl ?_ ?_
 refine vC (zZx (v := .int _ _) tt3 rfl rfl ⟨_, rfl⟩ (⟨fun _ => rfl, rfl⟩))
 refine vO (L := [(8, .ptr 1 0), (9, .ptr 2 0), (13, .ptr 3 0), (14, .ptr 4 0), (15, .ptr 5 0)]) rfl rfl ?_ ?_
 refine vC (o_fa tt75 rfl tt53 rfl (⟨fun _ => rfl, rfl⟩))
 refine vO (L := [(8, .ptr 1 0), (9, .ptr 2 0), (13, .ptr 3 0), (14, .ptr 4 0), (15, .ptr 5 0), (52, .ptr 5 0)]) rfl rfl ?_ ?_
 refine vC (o_fa tt53 rfl tt51 rfl (⟨fun _ => rfl, rfl⟩))
 refine vO (L := [(8, .ptr 1 0), (9, .ptr 2 0), (13, .ptr 3 0), (14, .ptr 4 0), (15, .ptr 5 0), (53, .ptr 5 1)]) rfl rfl ?_ ?_
 refine vC (zZx (v := .lst _ _ _) tt51 rfl rfl ⟨_, rfl⟩ (⟨fun _ => rfl, rfl⟩))
 refine vO (L := [(8, .ptr 1 0), (9, .ptr 2 0), (13, .ptr 3 0), (14, .ptr 4 0), (15, .ptr 5 0)]) rfl rfl ?_ ?_
 refine vC (zZx (v := .int _ _) tt3 rfl rfl ⟨_, rfl⟩ (⟨fun _ => rfl, rfl⟩))
 refine vO (L := [(8, .ptr 1 0), (9, .ptr 2 0), (13, .ptr 3 0), (14, .ptr 4 0), (15, .ptr 5 0), (54, .lst true c.b.most.length (zYy (eSl zYx true) c.b.most)), (55, .int .i64 a)]) rfl rfl ?_ ?_
 refine vC (o_iaD (xs := c.b.most) tt51 tt23 rfl rfl rfl s47 (⟨fun _ => rfl, rfl⟩))
 refine vO (L := [(8, .ptr 1 0), (9, .ptr 2 0), (13, .ptr 3 0), (14, .ptr 4 0), (15, .ptr 5 0), (56, .ipt true ((zYy (eSl zYx true) c.b.most).drop (a.toNat * 1)))]) rfl rfl ?_ ?_
 refine vC (zZx (v := .lst _ _ _) tt23 rfl rfl (cell_of (ca_lst (xs := c.b.most) ((encSl zYx).wd true) s47) rfl) (⟨fun _ => rfl, rfl⟩))
 refine vO (L := [(8, .ptr 1 0), (9, .ptr 2 0), (13, .ptr 3 0), (14, .ptr 4 0), (15, .ptr 5 0)]) rfl rfl ?_ ?_
 refine vC (zZx (v := .int _ _) tt3 rfl rfl ⟨_, rfl⟩ (⟨fun _ => rfl, rfl⟩))
 refine vO (L := [(8, .ptr 1 0), (9, .ptr 2 0), (13, .ptr 3 0), (14, .ptr 4 0), (15, .ptr 5 0), (57, .lst true (lat c.b.most a).length (zYy zYx (lat c.b.most a))), (58, .int .i64 b)]) rfl rfl ?_ ?_
 refine vC (o_iaD (xs := lat c.b.most a) tt23 tt3 rfl rfl rfl s48 (⟨fun _ => rfl, rfl⟩))
 refine vO (L := [(8, .ptr 1 0), (9, .ptr 2 0), (13, .ptr 3 0), (14, .ptr 4 0), (15, .ptr 5 0), (59, .ipt true ((zYy zYx (lat c.b.most a)).drop (b.toNat * 1)))]) rfl rfl ?_ ?_
 refine vC (zZx (v := .int _ _) tt3 rfl rfl (cell_of (ca_lst (xs := lat c.b.most a) (zZw.wd true) s48) rfl) (⟨fun _ => rfl, rfl⟩))
 refine vO (L := [(8, .ptr 1 0), (9, .ptr 2 0), (13, .ptr 3 0), (14, .ptr 4 0), (15, .ptr 5 0), (51, .int .i64 b4), (60, .int .i64 (lat (lat c.b.most a) b))]) rfl rfl ?_ ?_
 refine vC (o_max rfl rfl (⟨fun _ => rfl, rfl⟩))
 refine vO (L := [(8, .ptr 1 0), (9, .ptr 2 0), (13, .ptr 3 0), (14, .ptr 4 0), (15, .ptr 5 0), (61, .int .i64 (max b4 (lat (lat c.b.most a) b)))]) rfl rfl ?_ ?_
 refine vC (o_stB (v := .int _ _) (vs := [.int _ _]) (cs2 := [.int _ _]) tt3 rfl rfl rfl rfl rfl (Nat.le_of_ble_eq_true rfl) rfl (⟨fun _ => rfl, rfl⟩))
 exact trivial
 intro tm
 exact zYq (rd_nrm ⟨(), (min b3 (-(lat (lat c.b.most b) a))), (max b4 (lat (lat c.b.most a) b)), hv, St.to_mk (φ := [some 0, some 1, some 2, some 3, some 4]) rfl (rfl) trivial ⟨.inr ⟨_, rfl, rfl, Rens.cons (Ren.lst _ _ _) (Rens.cons (Ren.int _ _) (Rens.cons (Ren.int _ _) (Rens.cons (Ren.lst _ _ _) (Rens.cons (Ren.lst _ _ _) (Rens.nil)))))⟩, .inr ⟨_, rfl, rfl, Rens.cons (Ren.int _ _) (Rens.nil)⟩, .inr ⟨_, rfl, rfl, Rens.cons (Ren.int _ _) (Rens.nil)⟩, .inr ⟨_, rfl, rfl, Rens.cons (Ren.int _ _) (Rens.nil)⟩, .inr ⟨_, rfl, rfl, Rens.cons (Ren.int _ _) (Rens.nil)⟩, trivial⟩⟩)
 clear hp hr
 intro b3 b4 hI
 have hv := hd b3 b4 hI
 clear hd hI
 refine zYq (zZ (W.seq' (W.rL ?_)))
 iterate 2 refine cL rfl (zZx (v := .int _ _) tt3 rfl rfl ⟨_, rfl⟩ ?_)
 refine cL rfl (o_gtr rfl rfl (eL (W.cn rfl (fun hc => ?_) (fun hc => ?_))))
 have hv := hv.1 hc
 refine W.rL ?_
 iterate 3 refine aI rfl rfl ?_
 refine eL (W.ret (zZr (rt ?_)))
 iterate 3 refine rt_t (v := .int _ _) rfl ?_
 refine rt_n (⟨_, rs_tup 5 _ (Wks.cons (zY _ _ _ _) (Wks.cons (zY _ _ _ _) (Wks.cons (zY _ _ _ _) (Wks.refl _)))), 0, 0, 100, rfl, hv⟩)
 have hv := hv.2 hc
 refine W.skip (zZ (W.rD [0, 1, 2, 3, 4] (by decide +kernel) rfl ?_))
 iterate 2 refine cL rfl (zZx (v := .int _ _) tt3 rfl rfl ⟨_, rfl⟩ ?_)
 iterate 3 refine aI rfl rfl ?_
 refine eL (W.ret (rt ?_))
 iterate 3 refine rt_t (v := .int _ _) rfl ?_
 refine rt_n (⟨_, rs_tup 5 _ (Wks.cons (zY _ _ _ _) (Wks.cons (zY _ _ _ _) (Wks.cons (zY _ _ _ _) (Wks.refl _)))), b3, b4, 0, rfl, hv⟩)
theorem vcp_brange (f : Flt) (n : Int) (l : (List Con)) (a : Int) (b : Int) (h0 : f.dr.length <= 9223372036854775807) (h1 : f.sv.length <= 9223372036854775807) (h2 : f.tm.length <= 9223372036854775807) (h3 : l.length <= 1073741824) : vc_brange f n l a b (fun q0 q1 q2 => q0 = (zYv f n l a b).1 /\ q1 = (zYv f n l a b).2.1 /\ q2 = (zYv f n l a b).2.2) := by
  unfold vc_brange
  refine ⟨⟨h0, h1, h2, h3, trivial⟩, fun h => ?_, fun h => ?_⟩
  . have e : zYv f n l a b = (0, 0, 2) := by
      unfold zYv
      rw [if_neg]
      rintro ⟨k1, k2, k3⟩
      rcases h with h | h | h
      . exact h k1
      . omega
      . omega
    show _ /\ _ /\ _
    rw [e]; exact ⟨rfl, rfl, rfl⟩
  . have e0 : ∀ {p : Prop}, ¬ ¬ p -> p := fun h => Classical.not_not.1 h
    have hb := e0 fun x => h (.inl x)
    have ha : 0 <= min a b := Int.not_lt.1 fun x => h (.inr (.inl x))
    have hm : max a b < n := Int.not_le.1 fun x => h (.inr (.inr x))
    have hbk := bvalid_ok hb
    have e : zYv f n l a b = if hiM (zYw f n l) a b < loM (zYw f n l) a b then (0, 0, 100) else (loM (zYw f n l) a b, hiM (zYw f n l) a b, 0) := by
      unfold zYv; rw [if_pos ⟨hb, ha, hm⟩]
    refine ⟨hbk.poss, fun i x y => x = loM ((zYw f n l).take i) a b /\ y = hiM ((zYw f n l).take i) a b, ⟨rfl, rfl⟩, ?_, ?_⟩
    . rintro i c _ _ hc ⟨rfl, rfl⟩
      obtain ⟨s, m, ck⟩ := choices_ok (List.mem_of_getElem? hc)
      have hn := ck.n
      have hml : c.b.most.length = n.toNat := by rw [ck.b]; exact bounds_len
      have hrow : ∀ i : Int, 0 <= i -> i < n -> (lat c.b.most i).length = n.toNat := fun i h1 h2 => by
        rw [ck.b]
        exact bounds_row (by omega) (by omega)
      have hbm : bm c.b b.toNat a.toNat = mm m b.toNat a.toNat := by rw [ck.b]; exact bm_bounds (by omega) (by omega)
      have hbd := ck.cm.cl.bd b.toNat a.toNat (by omega) (by omega)
      have hB := hB0
      have hnb := hNB
      rw [bm_lat, bm_lat]
      refine ⟨by omega, by rw [hrow b (by omega) (by omega)]; omega, by rw [hbm]; unfold inI; omega, by omega, by rw [hrow a (by omega) (by omega)]; omega, ?_, ?_⟩
      . rw [take_succ_nat hc]; unfold loM; rw [List.foldl_append]; rfl
      . rw [take_succ_nat hc]; unfold hiM; rw [List.foldl_append]; rfl
    . rintro _ _ ⟨rfl, rfl⟩
      rw [List.take_length]
      refine ⟨fun h4 => ?_, fun h4 => ?_⟩
      . show _ /\ _ /\ _
        rw [e, if_pos h4]; exact ⟨rfl, rfl, rfl⟩
      . show _ /\ _ /\ _
        rw [e, if_neg h4]; exact ⟨rfl, rfl, rfl⟩
theorem spec_brange (f : Flt) (n : Int) (l : (List Con)) (a : Int) (b : Int) (h0 : f.dr.length <= 9223372036854775807) (h1 : f.sv.length <= 9223372036854775807) (h2 : f.tm.length <= 9223372036854775807) (h3 : l.length <= 1073741824) : FnP Try.prog 22 [.agg ((e27 true) f), .int .i64 n, .lst true l.length (zYy e66 l), .int .i64 a, .int .i64 b] (fun xR => xR = .tup [.int .i64 ((zYv f n l a b).1), .int .i64 ((zYv f n l a b).2.1), .int .i64 ((zYv f n l a b).2.2)]) :=
  (walk_brange (vcp_brange f n l a b h0 h1 h2 h3)).mono (by rintro _ ⟨_, _, _, rfl, rfl, rfl, rfl⟩; rfl)
def vc_liars (f : Flt) (n : Int) (l : (List Con)) (Post : Int -> Int -> Prop) : Prop :=
  (f.dr.length <= 9223372036854775807) /\ (f.sv.length <= 9223372036854775807) /\ (f.tm.length <= 9223372036854775807) /\ (l.length <= 1073741824) /\ ((¬ (chM f n l).2 = 0) -> Post 0 ((chM f n l).2)) /\ (¬ (¬ (chM f n l).2 = 0) -> (0 <= ((f.dr.length : Nat) : Int)) /\ (inI (1 * 2 ^ (min ((f.dr.length : Nat) : Int).toNat 64))) /\ (inI ((1 * 2 ^ (min ((f.dr.length : Nat) : Int).toNat 64)) - 1)) /\ ∃ (I1 : Int -> Int -> Prop) (μ1 : Int -> Int -> Nat), I1 ((1 * 2 ^ (min ((f.dr.length : Nat) : Int).toNat 64)) - 1) 0 /\ ∀ (v10 : Int) (v30 : Int), I1 v10 v30 -> ((v30 < ((((chM f n l).1).length : Nat) : Int)) -> (0 <= v30 /\ v30 < (((chM f n l).1).length : Int)) /\ (inI (v30 + 1)) /\ (I1 (bitI .andNot .i64 v10 (lat ((chM f n l).1) v30)) (v30 + 1) /\ μ1 (bitI .andNot .i64 v10 (lat ((chM f n l).1) v30)) (v30 + 1) < μ1 v10 v30)) /\ (¬ (v30 < ((((chM f n l).1).length : Nat) : Int)) -> Post v10 0))
theorem walk_liars {f : Flt} {n : Int} {l : (List Con)} {Post : Int -> Int -> Prop} (hv : vc_liars f n l Post) : FnP Try.prog 15 [.agg ((e27 true) f), .int .i64 n, .lst true l.length (zYy e66 l)] (fun x => ∃ q0 q1, x = .tup [.int .i64 q0, .int .i64 q1] /\ Post q0 q1) := by
 refine FnP.of_walk (T := tt) (nt := 39) ttOk ttMix ⟨⟨Try.f15, Try.func15, rfl, rfl, rfl, rfl⟩⟩ (by simp) ?_
 unfold vc_liars at hv
 change W _ _ _ ⟨39, look [(0, .agg [.lst true f.dr.length (zYy zYx f.dr), .int .i64 f.la, .int .i64 f.li, .lst true f.sv.length (zYy zYx f.sv), .lst true f.tm.length (zYy zYx f.tm)]), (1, .int .i64 n), (2, .lst true l.length (zYy e66 l))], [], 0⟩ _
 refine W.rL (cL rfl (o_box (v := .agg _) (p := 0) rfl rfl rfl ?_))
 iterate 2 refine aI rfl rfl ?_
 refine eL (W.tr [(1, .int _ _), (2, .lst _ _ _), (3, .ptr _ _)] [.box _ [.lst _ _ _, .int _ _, .int _ _, .lst _ _ _, .lst _ _ _]] ⟨rfl, rfl, rfl, trivial⟩ rfl (W.rL (cL rfl (zXv (cs := [.lst _ _ _, .int _ _, .int _ _, .lst _ _ _, .lst _ _ _]) tt27 rfl rfl ⟨_, rfl⟩ rfl (mI rfl rfl (mL rfl rfl ?_))))))
 obtain ⟨s1, s2, s3, s4, hv⟩ := hv
 refine cL rfl (zZu (k := 13) (fst := []) (caps := []) (ys := [.agg _, .int _ _, .lst _ _ _]) rfl rfl (spec_choices f n l s1 s2 s3 s4) (Wks.cons (zXr 5 _ (Wks.cons (zZs _ _ _ _ _) (Wks.cons (zZz _ _ _ _) (Wks.cons (zZz _ _ _ _) (Wks.cons (zZs _ _ _ _ _) (Wks.cons (zZs _ _ _ _ _) (Wks.refl _))))))) (Wks.cons (zZz _ _ _ _) (Wks.cons (zZs _ _ _ _ _) (Wks.refl _)))) (cL rfl (zZp (v := .tup _) rfl (cL rfl (o_ext (v := .lst _ _ _) rfl rfl (cL rfl (o_ext (v := .int _ _) rfl rfl (aL rfl rfl (aI rfl rfl (eL (W.tr [(3, .ptr _ _), (8, .lst _ _ _), (9, .int _ _)] [.box _ [.lst _ _ _, .int _ _, .int _ _, .lst _ _ _, .lst _ _ _]] ⟨rfl, rfl, rfl, trivial⟩ rfl (W.seq' (W.rL (mI rfl rfl (cL rfl (o_neI rfl rfl rfl (eL (W.cn rfl (fun hc => ?_) (fun hc => ?_)))))))))))))))))))
 have hv := hv.1 hc
 refine W.rL (mI rfl rfl ?_)
 iterate 2 refine aI rfl rfl ?_
 refine eL (W.ret (zZr (rt ?_)))
 iterate 2 refine rt_t (v := .int _ _) rfl ?_
 refine rt_n (⟨_, rs_tup 5 _ (Wks.cons (zY _ _ _ _) (Wks.cons (zY _ _ _ _) (Wks.refl _))), 0, ((chM f n l).2), rfl, hv⟩)
 have hv := hv.2 hc
 refine W.skip (zZ (W.rL (cL rfl (o_fa tt27 rfl tt23 rfl (cL rfl (zZx (v := .lst _ _ _) tt23 rfl rfl ⟨_, rfl⟩ (cL rfl (zXq (v := .lst _ _ _) tt23 rfl rfl ?_))))))))
 obtain ⟨s5, s6, hv⟩ := hv
 refine cL rfl (o_shl rfl rfl s5 s6 ?_)
 obtain ⟨s7, hv⟩ := hv
 refine cL rfl (o_sub rfl rfl s7 (aI rfl rfl (eL (W.seq' (W.rL (mL rfl rfl (cL rfl (zXq (v := .lst _ _ _) tt23 rfl rfl (mI rfl rfl (eL (W.block ?_)))))))))))
 obtain ⟨I1, μ1, hp, hv⟩ := hv
 refine W.loop2 (fun v10 v30 => ⟨39, look [(10, .int .i64 v10), (28, .lst false ((chM f n l).1).length (zYy zYx ((chM f n l).1))), (29, .int .i64 ((((chM f n l).1).length : Nat) : Int)), (30, .int .i64 v30)], [.dead], 0⟩) I1 μ1 ((1 * 2 ^ (min ((f.dr.length : Nat) : Int).toNat 64)) - 1) 0 (St.to_mk (φ := [none]) rfl (rfl) ⟨Ren.int _ _, Ren.lst _ _ _, Ren.int _ _, Ren.int _ _, trivial⟩ ⟨rfl, trivial⟩) hp ?_
 clear hp
 intro v10 v30 hI
 replace hv := hv v10 v30 hI
 clear hI
 refine W.rL (cL rfl (zXw rfl rfl (eL (W.seq' (W.cn rfl (fun hc => ?_) (fun hc => ?_))))))
 have hv := hv.1 hc
 refine W.skip (zZ (W.seq' (W.block (W.rL ?_))))
 obtain ⟨s18, hv⟩ := hv
 refine cL rfl (zYp tt23 tt3 rfl rfl (zZw.wd true) rfl s18 ?_)
 intro rest18
 refine cL rfl (zZx (v := .int _ _) tt3 rfl rfl ⟨_, rfl⟩ (aI rfl rfl (eL (W.rL1 ?_))))
 iterate 2 refine mI rfl rfl ?_
 refine cL rfl (o_anN rfl rfl (aI rfl rfl (eL (zYq (zZ (W.rL1 ?_))))))
 obtain ⟨s19, hv⟩ := hv
 refine cL rfl (o_add rfl rfl s19 (mI rfl rfl (eL (zZ (⟨(), (bitI .andNot .i64 v10 (lat ((chM f n l).1) v30)), (v30 + 1), hv, St.to_mk (φ := [none]) rfl (rfl) ⟨Ren.int _ _, Ren.lst _ _ _, Ren.int _ _, Ren.int _ _, trivial⟩ ⟨rfl, trivial⟩⟩)))))
 have hv := hv.2 hc
 refine W.exit (zZt (zZt (zXy (zZ (W.rL (mI rfl rfl ?_))))))
 iterate 2 refine aI rfl rfl ?_
 refine eL (W.ret (rt ?_))
 iterate 2 refine rt_t (v := .int _ _) rfl ?_
 refine rt_n (⟨_, rs_tup 5 _ (Wks.cons (zY _ _ _ _) (Wks.cons (zY _ _ _ _) (Wks.refl _))), v10, 0, rfl, hv⟩)
theorem vcp_liars (f : Flt) (n : Int) (l : (List Con)) (h0 : f.dr.length <= 9223372036854775807) (h1 : f.sv.length <= 9223372036854775807) (h2 : f.tm.length <= 9223372036854775807) (h3 : l.length <= 1073741824) : vc_liars f n l (fun q0 q1 => q0 = (liM f n l).1 /\ q1 = (liM f n l).2) := by
  unfold vc_liars
  refine ⟨h0, h1, h2, h3, fun h => ?_, fun h => ?_⟩
  . have e : liM f n l = (0, (chM f n l).2) := by unfold liM; rw [if_neg h]
    show _ /\ _
    rw [e]; exact ⟨rfl, rfl⟩
  . have hz := Classical.not_not.1 h
    have hb : zX f n l = true := by
      unfold chM at hz
      split at hz
      . assumption
      . cases hz
    have hbk := bvalid_ok hb
    have h64 := pow_le64 hbk.fo.len.2
    have e : liM f n l = ((chM f n l).1.foldl (fun o s => bitI .andNot .i64 o s) (2 ^ f.dr.length - 1), 0) := by unfold liM; rw [if_pos hz]
    rw [pow_eq hbk.fo.len.2]
    have hlen : (chM f n l).1.length <= 64 := by
      unfold chM
      rw [if_pos hb]
      split
      . simp
      . have h1 := List.length_filterMap_le (fun (s : Nat) => choice1 f n l (s : Int)) (List.range (2 ^ f.dr.length))
        rw [List.length_range] at h1
        have h2 : (zYw f n l).length <= 64 := by unfold zYw; omega
        simpa using h2
    have e2 : (2 ^ f.dr.length : Int) = ((2 ^ f.dr.length : Nat) : Int) := by simp
    rw [e2] at e
    generalize hN : 2 ^ f.dr.length = N at *
    refine ⟨by omega, by unfold inI; omega, by unfold inI; omega, fun v w => ∃ i : Nat, w = i /\ i <= (chM f n l).1.length /\ v = ((chM f n l).1.take i).foldl (fun o s => bitI .andNot .i64 o s) ((N : Int) - 1), fun _ w => (chM f n l).1.length - w.toNat, ⟨0, rfl, by omega, rfl⟩, ?_⟩
    rintro _ _ ⟨i, rfl, hle, rfl⟩
    refine ⟨fun h4 => ?_, fun h4 => ?_⟩
    . have hlt : i < (chM f n l).1.length := by omega
      rw [lat_get hlt]
      refine ⟨by omega, by unfold inI; omega, ⟨i + 1, by omega, by omega, ?_⟩, by dsimp only; omega⟩
      rw [take_succ_nat (List.getElem?_eq_getElem hlt), List.foldl_append]; rfl
    . show _ /\ _
      rw [e, List.take_of_length_le (by omega)]
      exact ⟨rfl, rfl⟩
theorem spec_liars (f : Flt) (n : Int) (l : (List Con)) (h0 : f.dr.length <= 9223372036854775807) (h1 : f.sv.length <= 9223372036854775807) (h2 : f.tm.length <= 9223372036854775807) (h3 : l.length <= 1073741824) : FnP Try.prog 15 [.agg ((e27 true) f), .int .i64 n, .lst true l.length (zYy e66 l)] (fun xR => xR = .tup [.int .i64 ((liM f n l).1), .int .i64 ((liM f n l).2)]) :=
  (walk_liars (vcp_liars f n l h0 h1 h2 h3)).mono (by rintro _ ⟨_, _, rfl, rfl, rfl⟩; rfl)
def vc_vald (b : Bd) (Post : Bool -> Prop) : Prop :=
  (((b.n < 1) \/ (((24 : Int) < b.n) \/ (¬ ((b.most.length : Nat) : Int) = b.n))) -> Post false) /\ (¬ ((b.n < 1) \/ (((24 : Int) < b.n) \/ (¬ ((b.most.length : Nat) : Int) = b.n))) -> ∃ (I1 : Int -> Prop) (μ1 : Int -> Nat), I1 0 /\ ∀ (v32 : Int), I1 v32 -> ((v32 < ((b.most.length : Nat) : Int)) -> (0 <= v32 /\ v32 < (b.most.length : Int)) /\ (((¬ (((lat b.most v32).length : Nat) : Int) = b.n) -> True) /\ (¬ (¬ (((lat b.most v32).length : Nat) : Int) = b.n) -> (0 <= v32 /\ v32 < ((lat b.most v32).length : Int)) /\ True)) /\ ((((¬ (((lat b.most v32).length : Nat) : Int) = b.n) \/ (¬ lat (lat b.most v32) v32 = 0)) -> Post false) /\ (¬ ((¬ (((lat b.most v32).length : Nat) : Int) = b.n) \/ (¬ lat (lat b.most v32) v32 = 0)) -> ∃ (I2 : Int -> Prop) (μ2 : Int -> Nat), I2 0 /\ ∀ (v51 : Int), I2 v51 -> ((v51 < (((lat b.most v32).length : Nat) : Int)) -> (0 <= v51 /\ v51 < ((lat b.most v32).length : Int)) /\ (((¬ lat (lat b.most v32) v51 = 1152921504606846976) /\ (((lat (lat b.most v32) v51) < (-36028797018963968)) \/ ((36028797018963968 : Int) < (lat (lat b.most v32) v51)))) -> Post false) /\ (¬ ((¬ lat (lat b.most v32) v51 = 1152921504606846976) /\ (((lat (lat b.most v32) v51) < (-36028797018963968)) \/ ((36028797018963968 : Int) < (lat (lat b.most v32) v51)))) -> (inI (v51 + 1)) /\ (I2 (v51 + 1) /\ μ2 (v51 + 1) < μ2 v51))) /\ (¬ (v51 < (((lat b.most v32).length : Nat) : Int)) -> (inI (v32 + 1)) /\ (I1 (v32 + 1) /\ μ1 (v32 + 1) < μ1 v32))))) /\ (¬ (v32 < ((b.most.length : Nat) : Int)) -> ∃ (I3 : Int -> Prop) (μ3 : Int -> Nat), I3 0 /\ ∀ (v70 : Int), I3 v70 -> ((v70 < ((b.most.length : Nat) : Int)) -> (0 <= v70 /\ v70 < (b.most.length : Int)) /\ ∃ (I4 : Int -> Prop) (μ4 : Int -> Nat), I4 0 /\ ∀ (v77 : Int), I4 v77 -> ((v77 < (((lat b.most v70).length : Nat) : Int)) -> ∃ J5 : Prop, (J5 -> (inI (v77 + 1)) /\ (I4 (v77 + 1) /\ μ4 (v77 + 1) < μ4 v77)) /\ ((0 <= v77 /\ v77 < ((lat b.most v70).length : Int)) /\ ((lat (lat b.most v70) v77 = 1152921504606846976) -> J5) /\ (¬ (lat (lat b.most v70) v77 = 1152921504606846976) -> (0 <= v77 /\ v77 < (b.most.length : Int)) /\ ∃ (I6 : Int -> Prop) (μ6 : Int -> Nat), I6 0 /\ ∀ (v90 : Int), I6 v90 -> ((v90 < (((lat b.most v77).length : Nat) : Int)) -> (0 <= v90 /\ v90 < ((lat b.most v77).length : Int)) /\ (0 <= v70 /\ v70 < (b.most.length : Int)) /\ (0 <= v90 /\ v90 < ((lat b.most v70).length : Int)) /\ (¬ (lat (lat b.most v70) v77) = NB -> ¬ (lat (lat b.most v77) v90) = NB -> inI ((lat (lat b.most v70) v77) + (lat (lat b.most v77) v90))) /\ (((zW (lat (lat b.most v70) v77) (lat (lat b.most v77) v90)) < (lat (lat b.most v70) v90)) -> Post false) /\ (¬ ((zW (lat (lat b.most v70) v77) (lat (lat b.most v77) v90)) < (lat (lat b.most v70) v90)) -> (inI (v90 + 1)) /\ (I6 (v90 + 1) /\ μ6 (v90 + 1) < μ6 v90))) /\ (¬ (v90 < (((lat b.most v77).length : Nat) : Int)) -> J5)))) /\ (¬ (v77 < (((lat b.most v70).length : Nat) : Int)) -> (inI (v70 + 1)) /\ (I3 (v70 + 1) /\ μ3 (v70 + 1) < μ3 v70))) /\ (¬ (v70 < ((b.most.length : Nat) : Int)) -> Post true)))
theorem walk_vald {b : Bd} {Post : Bool -> Prop} (hv : vc_vald b Post) : FnP Try.prog 47 [.agg ((e53 true) b)] (fun x => ∃ q0, x = .bool q0 /\ Post q0) := by
 refine FnP.of_walk (T := tt) (nt := 110) ttOk ttMix ⟨⟨Try.f47, Try.func47, rfl, rfl, rfl, rfl⟩⟩ (by simp) ?_
 unfold vc_vald at hv
 change W _ _ _ ⟨110, look [(0, .agg [.int .i64 b.n, .lst true b.most.length (zYy (eSl zYx true) b.most)])], [], 0⟩ _
 refine W.rL (cL rfl (o_box (v := .agg _) (p := 0) rfl rfl rfl (aB rfl rfl (eL (W.tr [(1, .ptr _ _)] [.box _ [.int _ _, .lst _ _ _]] ⟨rfl, trivial⟩ rfl (W.seq' (W.rLm ⟨110, look [(1, .ptr 0 0), (28, .bool (decide ((b.n < 1) \/ (((24 : Int) < b.n) \/ (¬ ((b.most.length : Nat) : Int) = b.n)))))], [.box 53 [.int .i64 b.n, .lst true b.most.length (zYy (eSl zYx true) b.most)]], 0⟩ ?_ ?_)))))))
 refine cL rfl (o_fa tt53 rfl tt3 rfl (cL rfl (zZx (v := .int _ _) tt3 rfl rfl ⟨_, rfl⟩ (cL rfl (zXw rfl rfl (mB rfl rfl ?_))))))
 by_cases c1 : b.n < 1
 iterate 3 refine cLs rfl rfl rfl (dT c1) ?_
 refine cL rfl (zZv (v := .bool _) rfl (dT c1) rfl (mB rfl rfl ?_))
 iterate 6 refine cLs rfl rfl rfl (rfl) ?_
 refine cL rfl (zZv (v := .bool _) rfl rfl rfl (eL (zYz ⟨rfl, (congrArg AV.bool (dOrT c1)).symm, trivial⟩ rfl)))
 refine cLg rfl rfl (dF c1) (cL rfl (o_fa tt53 rfl tt3 rfl (cLg rfl rfl (dF c1) (cL rfl (zZx (v := .int _ _) tt3 rfl rfl ⟨_, rfl⟩ (cLg rfl rfl (dF c1) (cL rfl (o_gtr rfl rfl (cL rfl (zZy (v := .bool _) rfl (dF c1) rfl (mB rfl rfl ?_)))))))))))
 by_cases c2 : (24 : Int) < b.n
 iterate 6 refine cLs rfl rfl rfl (dT c2) ?_
 refine cL rfl (zZv (v := .bool _) rfl (dT c2) rfl (eL (zYz ⟨rfl, (congrArg AV.bool (dOrF c1 (dOrT c2))).symm, trivial⟩ rfl)))
 refine cLg rfl rfl (dF c2) (cL rfl (o_fa tt53 rfl tt51 rfl (cLg rfl rfl (dF c2) (cL rfl (zZx (v := .lst _ _ _) tt51 rfl rfl ⟨_, rfl⟩ (cLg rfl rfl (dF c2) (cL rfl (zXq (v := .lst _ _ _) tt51 rfl rfl (cLg rfl rfl (dF c2) (cL rfl (o_fa tt53 rfl tt3 rfl (cLg rfl rfl (dF c2) (cL rfl (zZx (v := .int _ _) tt3 rfl rfl ⟨_, rfl⟩ (cLg rfl rfl (dF c2) (cL rfl (o_neI rfl rfl rfl (cL rfl (zZy (v := .bool _) rfl (dF c2) rfl (eL (zYz ⟨rfl, (congrArg AV.bool (dOrF c1 (dOrF c2 (rfl)))).symm, trivial⟩ rfl)))))))))))))))))))))
 refine W.cn rfl (fun hc => ?_) (fun hc => ?_)
 have hv := hv.1 hc
 refine W.rL (aB rfl rfl (eL (W.ret (zZr (rt (rt_t (v := .bool _) rfl (rt_n (⟨_, zXx _ _ _, false, rfl, hv⟩))))))))
 have hv := hv.2 hc
 refine W.skip (zZ (W.seq' (W.rL (cL rfl (o_fa tt53 rfl tt51 rfl (cL rfl (zZx (v := .lst _ _ _) tt51 rfl rfl ⟨_, rfl⟩ (cL rfl (zXq (v := .lst _ _ _) tt51 rfl rfl (mI rfl rfl (eL (W.block ?_))))))))))))
 obtain ⟨I1, μ1, hp, hv⟩ := hv
 refine W.loop1 (fun v32 => ⟨110, look [(1, .ptr 0 0), (30, .lst true b.most.length (zYy (eSl zYx true) b.most)), (31, .int .i64 ((b.most.length : Nat) : Int)), (32, .int .i64 v32)], [.box 53 [.int .i64 b.n, .lst true b.most.length (zYy (eSl zYx true) b.most)]], 0⟩) I1 μ1 0 (St.to_mk (φ := [some 0]) rfl (rfl) ⟨Ren.ptr rfl, Ren.lst _ _ _, Ren.int _ _, Ren.int _ _, trivial⟩ ⟨.inr ⟨_, rfl, rfl, Rens.cons (Ren.int _ _) (Rens.cons (Ren.lst _ _ _) (Rens.nil))⟩, trivial⟩) hp ?_
 clear hp
 intro v32 hI
 replace hv := hv v32 hI
 clear hI
 refine W.rL (cL rfl (zXw rfl rfl (eL (W.seq' (W.cn rfl (fun hc => ?_) (fun hc => ?_))))))
 have hv := hv.1 hc
 refine W.skip (zZ (W.seq' (W.block (W.rL (mI rfl rfl ?_)))))
 obtain ⟨s81, hv⟩ := hv
 refine cL rfl (zYp tt51 tt23 rfl rfl ((encSl zYx).wd true) rfl s81 ?_)
 intro rest81
 refine cL rfl (zZx (v := .lst _ _ _) tt23 rfl rfl ⟨_, rfl⟩ (aI rfl rfl (aL rfl rfl (eL (W.seq' ?_)))))
 obtain ⟨sd, hv⟩ := hv
 refine W.rLm ⟨110, look [(1, .ptr 0 0), (4, .lst true (lat b.most v32).length (zYy zYx (lat b.most v32))), (30, .lst true b.most.length (zYy (eSl zYx true) b.most)), (31, .int .i64 ((b.most.length : Nat) : Int)), (32, .int .i64 v32), (48, .bool (decide ((¬ (((lat b.most v32).length : Nat) : Int) = b.n) \/ (¬ lat (lat b.most v32) v32 = 0))))], [.box 53 [.int .i64 b.n, .lst true b.most.length (zYy (eSl zYx true) b.most)]], 0⟩ ?_ ?_
 refine mL rfl rfl (cL rfl (zXq (v := .lst _ _ _) tt23 rfl rfl (cL rfl (o_fa tt53 rfl tt3 rfl (cL rfl (zZx (v := .int _ _) tt3 rfl rfl ⟨_, rfl⟩ (cL rfl (o_neI rfl rfl rfl (mB rfl rfl ?_)))))))))
 by_cases c1 : ¬ (((lat b.most v32).length : Nat) : Int) = b.n
 iterate 5 refine cLs rfl rfl rfl (dT c1) ?_
 refine cL rfl (zZv (v := .bool _) rfl (dT c1) rfl (eL (zYz ⟨rfl, rfl, rfl, rfl, rfl, (congrArg AV.bool (dOrT c1)).symm, trivial⟩ rfl)))
 have sd := sd.2 c1
 refine cLg rfl rfl (dF c1) (mL rfl rfl (cLg rfl rfl (dF c1) (mI rfl rfl (cLg rfl rfl (dF c1) ?_))))
 obtain ⟨s85, sd⟩ := sd
 refine cL rfl (zYp tt23 tt3 rfl rfl (zZw.wd true) rfl s85 ?_)
 intro rest85
 refine cLg rfl rfl (dF c1) (cL rfl (zZx (v := .int _ _) tt3 rfl rfl ⟨_, rfl⟩ (cLg rfl rfl (dF c1) (cL rfl (o_neI rfl rfl rfl (cL rfl (zZy (v := .bool _) rfl (dF c1) rfl (eL (zYz ⟨rfl, rfl, rfl, rfl, rfl, (congrArg AV.bool (dOrF c1 (rfl))).symm, trivial⟩ rfl)))))))))
 refine W.cn rfl (fun hc => ?_) (fun hc => ?_)
 have hv := hv.1 hc
 refine W.rL (aB rfl rfl (eL (W.ret (zZr (zXz (zZr (zZr (zXz (zZr (rt (rt_t (v := .bool _) rfl (rt_n (⟨_, zXx _ _ _, false, rfl, hv⟩)))))))))))))
 have hv := hv.2 hc
 refine W.skip (zZ (W.rL (mL rfl rfl (cL rfl (zXq (v := .lst _ _ _) tt23 rfl rfl (mI rfl rfl (eL (W.block ?_))))))))
 obtain ⟨I2, μ2, hp, hv⟩ := hv
 refine W.loop1 (fun v51 => ⟨110, look [(1, .ptr 0 0), (30, .lst true b.most.length (zYy (eSl zYx true) b.most)), (31, .int .i64 ((b.most.length : Nat) : Int)), (32, .int .i64 v32), (49, .lst true (lat b.most v32).length (zYy zYx (lat b.most v32))), (50, .int .i64 (((lat b.most v32).length : Nat) : Int)), (51, .int .i64 v51)], [.box 53 [.int .i64 b.n, .lst true b.most.length (zYy (eSl zYx true) b.most)]], 0⟩) I2 μ2 0 (St.to_mk (φ := [some 0]) rfl (rfl) ⟨Ren.ptr rfl, Ren.lst _ _ _, Ren.int _ _, Ren.int _ _, Ren.lst _ _ _, Ren.int _ _, Ren.int _ _, trivial⟩ ⟨.inr ⟨_, rfl, rfl, Rens.cons (Ren.int _ _) (Rens.cons (Ren.lst _ _ _) (Rens.nil))⟩, trivial⟩) hp ?_
 clear hp
 intro v51 hI
 replace hv := hv v51 hI
 clear hI
 refine W.rL (cL rfl (zXw rfl rfl (eL (W.seq' (W.cn rfl (fun hc => ?_) (fun hc => ?_))))))
 have hv := hv.1 hc
 refine W.skip (zZ (W.seq' (W.block (W.rL ?_))))
 obtain ⟨s90, hv⟩ := hv
 refine cL rfl (zYp tt23 tt3 rfl rfl (zZw.wd true) rfl s90 ?_)
 intro rest90
 refine cL rfl (zZx (v := .int _ _) tt3 rfl rfl ⟨_, rfl⟩ (aI rfl rfl (eL (W.rLm ⟨110, look [(1, .ptr 0 0), (30, .lst true b.most.length (zYy (eSl zYx true) b.most)), (31, .int .i64 ((b.most.length : Nat) : Int)), (32, .int .i64 v32), (49, .lst true (lat b.most v32).length (zYy zYx (lat b.most v32))), (50, .int .i64 (((lat b.most v32).length : Nat) : Int)), (51, .int .i64 v51), (64, .bool (decide ((¬ lat (lat b.most v32) v51 = 1152921504606846976) /\ (((lat (lat b.most v32) v51) < (-36028797018963968)) \/ ((36028797018963968 : Int) < (lat (lat b.most v32) v51))))))], [.box 53 [.int .i64 b.n, .lst true b.most.length (zYy (eSl zYx true) b.most)]], 0⟩ ?_ ?_))))
 refine mI rfl rfl (cL rfl (o_neI rfl rfl rfl (mB rfl rfl ?_)))
 by_cases c1 : ¬ lat (lat b.most v32) v51 = 1152921504606846976
 refine cLg rfl rfl (dT c1) (mI rfl rfl (cLg rfl rfl (dT c1) (cL rfl (zXw rfl rfl (cLg rfl rfl (dT c1) (mB rfl rfl ?_))))))
 by_cases c2 : (lat (lat b.most v32) v51) < (-36028797018963968)
 iterate 2 refine cLs rfl rfl rfl (dT c2) ?_
 refine cLg rfl rfl (dT c1) (cL rfl (zZv (v := .bool _) rfl (dT c2) rfl (cL rfl (zZv (v := .bool _) rfl (dT c1) rfl (eL (zYz ⟨rfl, rfl, rfl, rfl, rfl, rfl, rfl, (congrArg AV.bool (zXp c1 (dOrT c2))).symm, trivial⟩ rfl))))))
 refine cLg rfl rfl (dF c2) (mI rfl rfl (cLg rfl rfl (dF c2) (cL rfl (o_gtr rfl rfl (cLg rfl rfl (dT c1) (cL rfl (zZy (v := .bool _) rfl (dF c2) rfl (cL rfl (zZv (v := .bool _) rfl (dT c1) rfl (eL (zYz ⟨rfl, rfl, rfl, rfl, rfl, rfl, rfl, (congrArg AV.bool (zXp c1 (dOrF c2 (rfl)))).symm, trivial⟩ rfl)))))))))))
 iterate 3 refine cLs rfl rfl rfl (dF c1) ?_
 iterate 2 refine cLu rfl rfl rfl ?_
 refine cLs rfl rfl rfl (dF c1) (cL rfl (zZy (v := .bool _) rfl (dF c1) rfl (eL (zYz ⟨rfl, rfl, rfl, rfl, rfl, rfl, rfl, (congrArg AV.bool (dAndF c1)).symm, trivial⟩ rfl))))
 refine W.cn rfl (fun hc => ?_) (fun hc => ?_)
 have hv := hv.1 hc
 refine W.rL (aB rfl rfl (eL (W.ret (zXz (zZr (zZr (zXz (zXz (zZr (zZr (zXz (zZr (rt (rt_t (v := .bool _) rfl (rt_n (⟨_, zXx _ _ _, false, rfl, hv⟩))))))))))))))))
 have hv := hv.2 hc
 refine W.skip (zYq (zZ (W.rL1 ?_)))
 obtain ⟨s91, hv⟩ := hv
 refine cL rfl (o_add rfl rfl s91 (mI rfl rfl (eL (zZ (⟨(), (v51 + 1), hv, St.to_mk (φ := [some 0]) rfl (rfl) ⟨Ren.ptr rfl, Ren.lst _ _ _, Ren.int _ _, Ren.int _ _, Ren.lst _ _ _, Ren.int _ _, Ren.int _ _, trivial⟩ ⟨.inr ⟨_, rfl, rfl, Rens.cons (Ren.int _ _) (Rens.cons (Ren.lst _ _ _) (Rens.nil))⟩, trivial⟩⟩)))))
 have hv := hv.2 hc
 refine W.exit (zZt (zZt (zXy (zYq (zZ (W.rL1 ?_))))))
 obtain ⟨s92, hv⟩ := hv
 refine cL rfl (o_add rfl rfl s92 (mI rfl rfl (eL (zZ (⟨(), (v32 + 1), hv, St.to_mk (φ := [some 0]) rfl (rfl) ⟨Ren.ptr rfl, Ren.lst _ _ _, Ren.int _ _, Ren.int _ _, trivial⟩ ⟨.inr ⟨_, rfl, rfl, Rens.cons (Ren.int _ _) (Rens.cons (Ren.lst _ _ _) (Rens.nil))⟩, trivial⟩⟩)))))
 have hv := hv.2 hc
 refine W.exit (zZt (zZt (zXy (zZ (W.seq' (W.rL (cL rfl (o_fa tt53 rfl tt51 rfl (cL rfl (zZx (v := .lst _ _ _) tt51 rfl rfl ⟨_, rfl⟩ (cL rfl (zXq (v := .lst _ _ _) tt51 rfl rfl (mI rfl rfl (eL (W.block ?_)))))))))))))))
 obtain ⟨I3, μ3, hp, hv⟩ := hv
 refine W.loop1 (fun v70 => ⟨110, look [(1, .ptr 0 0), (68, .lst true b.most.length (zYy (eSl zYx true) b.most)), (69, .int .i64 ((b.most.length : Nat) : Int)), (70, .int .i64 v70)], [.box 53 [.int .i64 b.n, .lst true b.most.length (zYy (eSl zYx true) b.most)]], 0⟩) I3 μ3 0 (St.to_mk (φ := [some 0]) rfl (rfl) ⟨Ren.ptr rfl, Ren.lst _ _ _, Ren.int _ _, Ren.int _ _, trivial⟩ ⟨.inr ⟨_, rfl, rfl, Rens.cons (Ren.int _ _) (Rens.cons (Ren.lst _ _ _) (Rens.nil))⟩, trivial⟩) hp ?_
 clear hp
 intro v70 hI
 replace hv := hv v70 hI
 clear hI
 refine W.rL (cL rfl (zXw rfl rfl (eL (W.seq' (W.cn rfl (fun hc => ?_) (fun hc => ?_))))))
 have hv := hv.1 hc
 refine W.skip (zZ (W.seq' (W.block (W.rL (mI rfl rfl ?_)))))
 obtain ⟨s677, hv⟩ := hv
 refine cL rfl (zYp tt51 tt23 rfl rfl ((encSl zYx).wd true) rfl s677 ?_)
 intro rest677
 refine cL rfl (zZx (v := .lst _ _ _) tt23 rfl rfl ⟨_, rfl⟩ (aI rfl rfl (aL rfl rfl (eL (W.rL (mL rfl rfl (cL rfl (zXq (v := .lst _ _ _) tt23 rfl rfl (mI rfl rfl (eL (W.block ?_)))))))))))
 obtain ⟨I4, μ4, hp, hv⟩ := hv
 refine W.loop1 (fun v77 => ⟨110, look [(1, .ptr 0 0), (7, .int .i64 v70), (68, .lst true b.most.length (zYy (eSl zYx true) b.most)), (69, .int .i64 ((b.most.length : Nat) : Int)), (70, .int .i64 v70), (75, .lst true (lat b.most v70).length (zYy zYx (lat b.most v70))), (76, .int .i64 (((lat b.most v70).length : Nat) : Int)), (77, .int .i64 v77)], [.box 53 [.int .i64 b.n, .lst true b.most.length (zYy (eSl zYx true) b.most)]], 0⟩) I4 μ4 0 (St.to_mk (φ := [some 0]) rfl (rfl) ⟨Ren.ptr rfl, Ren.int _ _, Ren.lst _ _ _, Ren.int _ _, Ren.int _ _, Ren.lst _ _ _, Ren.int _ _, Ren.int _ _, trivial⟩ ⟨.inr ⟨_, rfl, rfl, Rens.cons (Ren.int _ _) (Rens.cons (Ren.lst _ _ _) (Rens.nil))⟩, trivial⟩) hp ?_
 clear hp
 intro v77 hI
 replace hv := hv v77 hI
 clear hI
 refine W.rL (cL rfl (zXw rfl rfl (eL (W.seq' (W.cn rfl (fun hc => ?_) (fun hc => ?_))))))
 have hv := hv.1 hc
 refine W.skip (zZ ?_)
 obtain ⟨J5, hj, hv⟩ := hv
 refine W.mid0 (⟨110, look [(1, .ptr 0 0), (7, .int .i64 v70), (68, .lst true b.most.length (zYy (eSl zYx true) b.most)), (69, .int .i64 ((b.most.length : Nat) : Int)), (70, .int .i64 v70), (75, .lst true (lat b.most v70).length (zYy zYx (lat b.most v70))), (76, .int .i64 (((lat b.most v70).length : Nat) : Int)), (77, .int .i64 v77)], [.box 53 [.int .i64 b.n, .lst true b.most.length (zYy (eSl zYx true) b.most)]], 0⟩) J5 ?_ ?_
 intro hv
 replace hv := hj hv
 refine W.rL1 ?_
 obtain ⟨s739, hv⟩ := hv
 refine cL rfl (o_add rfl rfl s739 (mI rfl rfl (eL (zZ (⟨(), (v77 + 1), hv, St.to_mk (φ := [some 0]) rfl (rfl) ⟨Ren.ptr rfl, Ren.int _ _, Ren.lst _ _ _, Ren.int _ _, Ren.int _ _, Ren.lst _ _ _, Ren.int _ _, Ren.int _ _, trivial⟩ ⟨.inr ⟨_, rfl, rfl, Rens.cons (Ren.int _ _) (Rens.cons (Ren.lst _ _ _) (Rens.nil))⟩, trivial⟩⟩)))))
 clear hj
 refine W.block (W.rL (mI rfl rfl ?_))
 obtain ⟨s740, hv⟩ := hv
 refine cL rfl (zYp tt23 tt3 rfl rfl (zZw.wd true) rfl s740 ?_)
 intro rest740
 refine cL rfl (zZx (v := .int _ _) tt3 rfl rfl ⟨_, rfl⟩ ?_)
 iterate 2 refine aI rfl rfl ?_
 refine eL (W.seq' (W.rL (mI rfl rfl (cL rfl (o_eqI rfl rfl rfl (eL (W.cn rfl (fun hc => ?_) (fun hc => ?_))))))))
 have hv := hv.1 hc
 refine W.exit (zZt (zXy (zZ (⟨(), hv, St.to_mk (φ := [some 0]) rfl (rfl) ⟨Ren.ptr rfl, Ren.int _ _, Ren.lst _ _ _, Ren.int _ _, Ren.int _ _, Ren.lst _ _ _, Ren.int _ _, Ren.int _ _, trivial⟩ ⟨.inr ⟨_, rfl, rfl, Rens.cons (Ren.int _ _) (Rens.cons (Ren.lst _ _ _) (Rens.nil))⟩, trivial⟩⟩))))
 have hv := hv.2 hc
 refine W.skip (zZ (W.rL (cL rfl (o_fa tt53 rfl tt51 rfl (cL rfl (zZx (v := .lst _ _ _) tt51 rfl rfl ⟨_, rfl⟩ (mI rfl rfl ?_)))))))
 obtain ⟨s741, hv⟩ := hv
 refine cL rfl (zYp tt51 tt23 rfl rfl ((encSl zYx).wd true) rfl s741 ?_)
 intro rest741
 refine cL rfl (zZx (v := .lst _ _ _) tt23 rfl rfl ⟨_, rfl⟩ (cL rfl (zXq (v := .lst _ _ _) tt23 rfl rfl (mI rfl rfl (eL (W.block ?_))))))
 obtain ⟨I6, μ6, hp, hv⟩ := hv
 refine W.loop1 (fun v90 => ⟨110, look [(1, .ptr 0 0), (7, .int .i64 v70), (10, .int .i64 (lat (lat b.most v70) v77)), (68, .lst true b.most.length (zYy (eSl zYx true) b.most)), (69, .int .i64 ((b.most.length : Nat) : Int)), (70, .int .i64 v70), (75, .lst true (lat b.most v70).length (zYy zYx (lat b.most v70))), (76, .int .i64 (((lat b.most v70).length : Nat) : Int)), (77, .int .i64 v77), (88, .lst true (lat b.most v77).length (zYy zYx (lat b.most v77))), (89, .int .i64 (((lat b.most v77).length : Nat) : Int)), (90, .int .i64 v90)], [.box 53 [.int .i64 b.n, .lst true b.most.length (zYy (eSl zYx true) b.most)]], 0⟩) I6 μ6 0 (St.to_mk (φ := [some 0]) rfl (rfl) ⟨Ren.ptr rfl, Ren.int _ _, Ren.int _ _, Ren.lst _ _ _, Ren.int _ _, Ren.int _ _, Ren.lst _ _ _, Ren.int _ _, Ren.int _ _, Ren.lst _ _ _, Ren.int _ _, Ren.int _ _, trivial⟩ ⟨.inr ⟨_, rfl, rfl, Rens.cons (Ren.int _ _) (Rens.cons (Ren.lst _ _ _) (Rens.nil))⟩, trivial⟩) hp ?_
 clear hp
 intro v90 hI
 replace hv := hv v90 hI
 clear hI
 refine W.rL (cL rfl (zXw rfl rfl (eL (W.seq' (W.cn rfl (fun hc => ?_) (fun hc => ?_))))))
 have hv := hv.1 hc
 refine W.skip (zZ (W.seq' (W.block (W.rL (mI rfl rfl ?_)))))
 obtain ⟨s755, hv⟩ := hv
 refine cL rfl (zYp tt23 tt3 rfl rfl (zZw.wd true) rfl s755 ?_)
 intro rest755
 refine cL rfl (zZx (v := .int _ _) tt3 rfl rfl ⟨_, rfl⟩ ?_)
 iterate 2 refine aI rfl rfl ?_
 refine eL (W.rD [0, 1, 2, 3, 4, 5, 6, 7, 8, 9, 10, 11] (by decide +kernel) rfl (cL rfl (o_fa tt53 rfl tt51 rfl (cL rfl (zZx (v := .lst _ _ _) tt51 rfl rfl ⟨_, rfl⟩ (mI rfl rfl ?_))))))
 obtain ⟨s756, hv⟩ := hv
 refine cL rfl (zYp tt51 tt23 rfl rfl ((encSl zYx).wd true) rfl s756 ?_)
 intro rest756
 refine cL rfl (zZx (v := .lst _ _ _) tt23 rfl rfl ⟨_, rfl⟩ (mI rfl rfl ?_))
 obtain ⟨s757, hv⟩ := hv
 refine cL rfl (zYp tt23 tt3 rfl rfl (zZw.wd true) rfl s757 ?_)
 intro rest757
 refine cL rfl (zZx (v := .int _ _) tt3 rfl rfl ⟨_, rfl⟩ ?_)
 iterate 2 refine mI rfl rfl ?_
 obtain ⟨s758, hv⟩ := hv
 refine cL rfl (zZu (k := 66) (fst := []) (caps := []) (ys := [.int _ _, .int _ _]) rfl rfl (spec_plus (lat (lat b.most v70) v77) (lat (lat b.most v77) v90) s758) (Wks.cons (zZz _ _ _ _) (Wks.cons (zZz _ _ _ _) (Wks.refl _))) (cL rfl (o_gtr rfl rfl (eL (W.tr [(1, .ptr _ _), (7, .int _ _), (10, .int _ _), (68, .lst _ _ _), (69, .int _ _), (70, .int _ _), (75, .lst _ _ _), (76, .int _ _), (77, .int _ _), (88, .lst _ _ _), (89, .int _ _), (90, .int _ _), (106, .bool _)] [.box _ [.int _ _, .lst _ _ _]] ⟨rfl, rfl, rfl, rfl, rfl, rfl, rfl, rfl, rfl, rfl, rfl, rfl, rfl, trivial⟩ rfl (W.cn rfl (fun hc => ?_) (fun hc => ?_)))))))
 have hv := hv.1 hc
 refine W.rL (aB rfl rfl (eL (W.ret (zXz (zZr (zZr (zXz (zXz (zZr (zZr (zXz (zXz (zZr (zZr (zXz (zZr (rt (rt_t (v := .bool _) rfl (rt_n (⟨_, zXx _ _ _, false, rfl, hv⟩))))))))))))))))))))
 have hv := hv.2 hc
 refine W.skip (zYq (zZ (W.rL1 ?_)))
 obtain ⟨s759, hv⟩ := hv
 refine cL rfl (o_add rfl rfl s759 (mI rfl rfl (eL (zZ (⟨(), (v90 + 1), hv, St.to_mk (φ := [some 0]) rfl (rfl) ⟨Ren.ptr rfl, Ren.int _ _, Ren.int _ _, Ren.lst _ _ _, Ren.int _ _, Ren.int _ _, Ren.lst _ _ _, Ren.int _ _, Ren.int _ _, Ren.lst _ _ _, Ren.int _ _, Ren.int _ _, trivial⟩ ⟨.inr ⟨_, rfl, rfl, Rens.cons (Ren.int _ _) (Rens.cons (Ren.lst _ _ _) (Rens.nil))⟩, trivial⟩⟩)))))
 have hv := hv.2 hc
 refine W.exit (zZt (zZt (zXy (zYq (zZ (⟨(), hv, St.to_mk (φ := [some 0]) rfl (rfl) ⟨Ren.ptr rfl, Ren.int _ _, Ren.lst _ _ _, Ren.int _ _, Ren.int _ _, Ren.lst _ _ _, Ren.int _ _, Ren.int _ _, trivial⟩ ⟨.inr ⟨_, rfl, rfl, Rens.cons (Ren.int _ _) (Rens.cons (Ren.lst _ _ _) (Rens.nil))⟩, trivial⟩⟩))))))
 have hv := hv.2 hc
 refine W.exit (zZt (zZt (zXy (zYq (zZ (W.rL1 ?_))))))
 obtain ⟨s760, hv⟩ := hv
 refine cL rfl (o_add rfl rfl s760 (mI rfl rfl (eL (zZ (⟨(), (v70 + 1), hv, St.to_mk (φ := [some 0]) rfl (rfl) ⟨Ren.ptr rfl, Ren.lst _ _ _, Ren.int _ _, Ren.int _ _, trivial⟩ ⟨.inr ⟨_, rfl, rfl, Rens.cons (Ren.int _ _) (Rens.cons (Ren.lst _ _ _) (Rens.nil))⟩, trivial⟩⟩)))))
 have hv := hv.2 hc
 refine W.exit (zZt (zZt (zXy (zZ (W.rL (aB rfl rfl (eL (W.ret (rt (rt_t (v := .bool _) rfl (rt_n (⟨_, zXx _ _ _, true, rfl, hv⟩))))))))))))
theorem vcp_vald (b : Bd) (h0 : b.most.length <= 1073741824) (h1 : ∀ r ∈ b.most, r.length <= 1073741824) : vc_vald b (fun q0 => q0 = (validBM b)) := by
  unfold vc_vald
  have hnb := hNB
  have hfalse : ¬ VB b -> false = validBM b := fun h => (Bool.eq_false_iff.mpr fun e => h (validBM_iff.mp e)).symm
  refine ⟨fun h => hfalse fun v => ?_, fun h => ⟨fun v => ∃ i : Nat, v = i /\ i <= b.most.length /\ ∀ k, k < i -> (b.most.getD k []).length = b.most.length /\ bm b k k = 0 /\ ∀ j, j < b.most.length -> bm b k j = NB \/ -36028797018963968 <= bm b k j /\ bm b k j <= 36028797018963968, fun v => b.most.length - v.toNat, ⟨0, rfl, by omega, by omega⟩, ?_⟩⟩
  . have := v.n; omega
  rintro _ ⟨i, rfl, hi, hr⟩
  have hrow : (lat b.most (i : Int)).length = (b.most.getD i []).length := by rw [lat_nat]; rfl
  refine ⟨fun h1 => ⟨by omega, ⟨fun _ => trivial, fun h2 => ⟨by omega, trivial⟩⟩, fun h2 => ?_, fun h2 => ?_⟩, fun h1 => ?_⟩
  . rw [hrow, lat_lat] at h2
    refine hfalse fun v => ?_
    have h3 := v.row i (by omega)
    have h4 := v.diag i (by omega)
    have h5 := v.n
    omega
  . rw [hrow, lat_lat] at h2
    refine ⟨fun v => ∃ j : Nat, v = j /\ j <= b.most.length /\ ∀ k, k < j -> bm b i k = NB \/ -36028797018963968 <= bm b i k /\ bm b i k <= 36028797018963968, fun v => b.most.length - v.toNat, ⟨0, rfl, by omega, by omega⟩, ?_⟩
    rintro _ ⟨j, rfl, hj, hk⟩
    rw [hrow, lat_lat]
    refine ⟨fun h3 => ⟨by omega, fun h4 => ?_, fun h4 => ⟨by unfold inI; omega, ⟨j + 1, by omega, by omega, ?_⟩, by dsimp only; omega⟩⟩, fun h3 => ⟨by unfold inI; omega, ⟨i + 1, by omega, by omega, ?_⟩, by dsimp only; omega⟩⟩
    . refine hfalse fun v => ?_
      have := v.ok i j (by omega) (by omega)
      omega
    . intro k h5
      rcases Nat.lt_or_ge k j with h6 | h6
      . exact hk k h6
      . have : k = j := by omega
        subst this; omega
    . intro k h5
      rcases Nat.lt_or_ge k i with h6 | h6
      . exact hr k h6
      . have : k = i := by omega
        subst this
        exact ⟨by omega, by omega, fun j' hj' => hk j' (by omega)⟩
  have hi' : i = b.most.length := by omega
  subst hi'
  have hL : ∀ k : Nat, k < b.most.length -> (lat b.most (k : Int)).length = b.most.length := fun k hk => by rw [lat_nat]; exact (hr k hk).1
  refine ⟨fun v => ∃ i : Nat, v = i /\ i <= b.most.length /\ ∀ i', i' < i -> ∀ j k, j < b.most.length -> k < b.most.length -> bm b i' j = NB \/ bm b i' k <= zW (bm b i' j) (bm b j k), fun v => b.most.length - v.toNat, ⟨0, rfl, by omega, by omega⟩, ?_⟩
  rintro _ ⟨i, rfl, hi, ht⟩
  refine ⟨fun h1 => ⟨by omega, fun v => ∃ j : Nat, v = j /\ j <= b.most.length /\ ∀ j', j' < j -> ∀ k, k < b.most.length -> bm b i j' = NB \/ bm b i k <= zW (bm b i j') (bm b j' k), fun v => b.most.length - v.toNat, ⟨0, rfl, by omega, by omega⟩, ?_⟩, fun h1 => ?_⟩
  . rintro _ ⟨j, rfl, hj, hu⟩
    rw [hL i (by omega)]
    refine ⟨fun h2 => ⟨∀ k, k < b.most.length -> bm b i j = NB \/ bm b i k <= zW (bm b i j) (bm b j k), fun hJ => ⟨by unfold inI; omega, ⟨j + 1, by omega, by omega, ?_⟩, by dsimp only; omega⟩, by omega, fun h3 => ?_, fun h3 => ⟨by omega, ?_⟩⟩, fun h2 => ⟨by unfold inI; omega, ⟨i + 1, by omega, by omega, ?_⟩, by dsimp only; omega⟩⟩
    . intro j' h5
      rcases Nat.lt_or_ge j' j with h6 | h6
      . exact hu j' h6
      . have : j' = j := by omega
        subst this; exact hJ
    . rw [lat_lat] at h3; exact fun k _ => .inl h3
    . rw [lat_lat] at h3
      refine ⟨fun v => ∃ k : Nat, v = k /\ k <= b.most.length /\ ∀ k', k' < k -> bm b i k' <= zW (bm b i j) (bm b j k'), fun v => b.most.length - v.toNat, ⟨0, rfl, by omega, by omega⟩, ?_⟩
      rintro _ ⟨k, rfl, hk, hv⟩
      rw [hL j (by omega), lat_lat, lat_lat, lat_lat]
      refine ⟨fun h4 => ⟨by omega, by omega, by omega, fun _ _ => ?_, fun h5 => ?_, fun h5 => ⟨by unfold inI; omega, ⟨k + 1, by omega, by omega, ?_⟩, by dsimp only; omega⟩⟩, fun h4 => ?_⟩
      . have a1 := (hr i (by omega)).2.2 j (by omega)
        have a2 := (hr j (by omega)).2.2 k (by omega)
        unfold inI; omega
      . refine hfalse fun v => ?_
        have := v.tri i j k (by omega) (by omega) (by omega)
        omega
      . intro k' h6
        rcases Nat.lt_or_ge k' k with h7 | h7
        . exact hv k' h7
        . have : k' = k := by omega
          subst this; omega
      . exact fun k' hk' => .inr (hv k' (by omega))
    . intro i' h5 j' k' hj' hk'
      rcases Nat.lt_or_ge i' i with h6 | h6
      . exact ht i' h6 j' k' hj' hk'
      . have : i' = i := by omega
        subst this; exact hu j' (by omega) k' hk'
  . refine (validBM_iff.mpr ⟨by omega, fun i' hi' => (hr i' hi').1, fun i' hi' => (hr i' hi').2.1, fun i' j' hi' hj' => (hr i' hi').2.2 j' hj', fun i' j' k' hi' hj' hk' => ht i' (by omega) j' k' hj' hk'⟩).symm
theorem spec_vald (b : Bd) (h0 : b.most.length <= 1073741824) (h1 : ∀ r ∈ b.most, r.length <= 1073741824) : FnP Try.prog 47 [.agg ((e53 true) b)] (fun xR => xR = .bool (validBM b)) :=
  (walk_vald (vcp_vald b h0 h1)).mono (by rintro _ ⟨_, rfl, rfl⟩; rfl)
end Go.Lat
