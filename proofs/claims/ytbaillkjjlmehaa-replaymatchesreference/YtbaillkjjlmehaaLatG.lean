/- The law latecomerlaw24.ReplayMatchesReference returns true for every input, and each argument reads afterwards as it read before. Part 7 of 15. No condition. -/
import Derived.Test.YtbaillkjjlmehaaLatE
import Derived.Test.YtbaillkjjlmehaaLatF
import Derived.Test.YtbaillkjjlmehaaLatD
set_option linter.unusedVariables false
set_option linter.unusedSimpArgs false
set_option linter.unnecessarySimpa false
set_option maxRecDepth 100000
set_option maxHeartbeats 4000000
namespace Go.Lat
open Go.RowKit Go.Proofs
attribute [local irreducible] seqL opC
def vc_orI (l : (List Int)) (Post : Int -> Prop) : Prop :=
  ∃ (I1 : Int -> Prop) (μ1 : Int -> Nat), I1 (0 : Int) /\ ∀ (v8 : Int), I1 v8 -> ((v8 < (l.length : Int)) -> (0 <= v8 /\ v8 < (l.length : Int)) /\ ((¬ lat l v8 = (0 : Int)) -> Post (lat l v8)) /\ (¬ (¬ lat l v8 = (0 : Int)) -> (inI (v8 + (1 : Int))) /\ (I1 (v8 + (1 : Int)) /\ μ1 (v8 + (1 : Int)) < μ1 v8))) /\ (¬ (v8 < (l.length : Int)) -> Post (0 : Int))
theorem walk_orI {l : (List Int)} {Post : Int -> Prop} (hv : vc_orI l Post) : FnP Try.prog 36 [.lst true l.length (zYy zYx l)] (fun x => ∃ q0, x = .int .i64 q0 /\ Post q0) := by
 refine FnP.of_walk (T := tt) (nt := 18) ttOk ttMix ⟨⟨Try.f36, Try.func36, rfl, rfl, rfl, rfl⟩⟩ (by simp) ?_
 unfold vc_orI at hv
 change W _ _ _ ⟨18, look [(0, .lst true l.length (zYy zYx l))], [], 0⟩ _
 refine W.ty [(0, .lst _ _ _)] rfl (W.rL (aI rfl rfl (eL (W.ty [(0, .lst _ _ _)] rfl (W.rL (aI rfl rfl (eL (W.ty [(0, .lst _ _ _), (3, .int _ _)] rfl (W.seq' (W.rL (mL rfl rfl (cL rfl (zXw (v := .lst _ _ _) tt22 rfl rfl (mI rfl rfl (eL (W.ty [(3, .int _ _), (6, .lst _ _ _), (7, .int _ _), (8, .int _ _)] rfl (W.block ?_)))))))))))))))))
 obtain ⟨I1, μ1, hp, hv⟩ := hv
 refine W.loop1 (fun v8 => ⟨18, look [(3, .int .i64 (0 : Int)), (6, .lst true l.length (zYy zYx l)), (7, .int .i64 (l.length : Int)), (8, .int .i64 v8)], [], 0⟩) I1 μ1 (0 : Int) (St.to_mk (φ := []) rfl (rfl) (zT rfl rfl) trivial) hp ?_
 clear hp
 intro v8 hI
 replace hv := hv v8 hI
 clear hI
 refine W.rL (cL rfl (zYq rfl rfl (eL (W.ty [(3, .int _ _), (6, .lst _ _ _), (7, .int _ _), (8, .int _ _), (9, .bool _)] rfl (W.seq' (W.cn rfl (fun hc => ?_) (fun hc => ?_)))))))
 have hv := hv.1 hc
 refine W.skip (zZ (W.ty [(3, .int _ _), (6, .lst _ _ _), (7, .int _ _), (8, .int _ _)] rfl (W.seq' (W.block (W.rL ?_)))))
 obtain ⟨s11, hv⟩ := hv
 refine cL rfl (zYu tt22 tt3 rfl rfl (zZw.wd true) rfl s11 ?_)
 intro rest11
 refine cL rfl (zZx (v := .int _ _) tt3 rfl rfl ⟨_, rfl⟩ (aI rfl rfl (eL (W.ty [(3, .int _ _), (5, .int _ _), (6, .lst _ _ _), (7, .int _ _), (8, .int _ _)] rfl (W.rL ?_)))))
 iterate 2 refine mI rfl rfl ?_
 refine cL rfl (o_neI rfl rfl rfl (eL (W.ty [(3, .int _ _), (5, .int _ _), (6, .lst _ _ _), (7, .int _ _), (8, .int _ _), (14, .bool _)] rfl (W.cn rfl (fun hc => ?_) (fun hc => ?_)))))
 have hv := hv.1 hc
 refine W.rL (mI rfl rfl (aI rfl rfl (eL (W.ty [(2, .int _ _)] rfl (W.ret (zYt (zZr (zZr (zYt (zZr (rt (rt_t (v := .int _ _) rfl (rt_n (⟨_, zY _ _ _ _, (lat l v8), rfl, hv⟩))))))))))))))
 have hv := hv.2 hc
 refine W.skip (zYv (zZ (W.ty [(3, .int _ _), (6, .lst _ _ _), (7, .int _ _), (8, .int _ _)] rfl (W.rL1 ?_))))
 obtain ⟨s12, hv⟩ := hv
 refine cL rfl (o_add rfl rfl s12 (mI rfl rfl (eL (zZ (⟨(), (v8 + (1 : Int)), hv, St.to_mk (φ := []) rfl (rfl) (zT rfl rfl) trivial⟩)))))
 have hv := hv.2 hc
 refine W.exit (zZt (zZt (zYs (zZ (W.ty [(3, .int _ _)] rfl (W.rL (mI rfl rfl (aI rfl rfl (eL (W.ty [(2, .int _ _)] rfl (W.ret (rt (rt_t (v := .int _ _) rfl (rt_n (⟨_, zY _ _ _ _, (0 : Int), rfl, hv⟩)))))))))))))))
set_option maxHeartbeats 4000000 in
theorem vcp_orI (l : (List Int)) (h0 : l.length <= 9223372036854775807) : vc_orI l (fun q0 => q0 = (orM l)) := by
  unfold vc_orI
  refine ⟨fun v => ∃ i : Nat, v = i /\ i <= l.length /\ orM l = orM (l.drop i), fun v => l.length - v.toNat, ⟨0, rfl, by omega, rfl⟩, ?_⟩
  rintro _ ⟨i, rfl, hi, he⟩
  refine ⟨fun k1 => ⟨⟨by omega, k1⟩, fun k2 => ?_, fun k2 => ⟨by unfold inI; omega, ⟨i + 1, by omega, by omega, ?_⟩, dec_lt k1⟩⟩, fun k1 => ?_⟩
  . have h : i < l.length := by omega
    show lat l (i : Int) = orM l
    rw [he, List.drop_eq_getElem_cons h, lat_get h]
    rw [lat_get h] at k2
    show _ = if ¬ l[i] = 0 then l[i] else _
    rw [if_pos k2]
  . have h : i < l.length := by omega
    rw [he, List.drop_eq_getElem_cons h]
    rw [lat_get h] at k2
    show (if ¬ l[i] = 0 then l[i] else _) = _
    rw [if_neg k2]; rfl
  . show 0 = orM l
    rw [he, List.drop_of_length_le (by omega)]; rfl
theorem spec_orI (l : (List Int)) (h0 : l.length <= 9223372036854775807) : FnP Try.prog 36 [.lst true l.length (zYy zYx l)] (fun xR => xR = .int .i64 (orM l)) :=
  (walk_orI (vcp_orI l h0)).mono (by rintro _ ⟨_, rfl, rfl⟩; rfl)
def vc_isRem (r : Req) (x : Ext) (Post : Bool -> Prop) : Prop :=
  Post (decide ((x.pc = (-1 : Int)) /\ ((¬ x.jb = r.late) /\ ((x.ba = (0 : Int)) /\ ((x.op = (0 : Int)) /\ (x.ver = (0 : Int)))))))
theorem walk_isRem {r : Req} {x : Ext} {Post : Bool -> Prop} (hv : vc_isRem r x Post) : FnP Try.prog 34 [.agg ((e26 true) r), .agg (e58 x)] (fun x => ∃ q0, x = .bool q0 /\ Post q0) := by
 refine FnP.of_walk (T := tt) (nt := 30) ttOk ttMix ⟨⟨Try.f34, Try.func34, rfl, rfl, rfl, rfl⟩⟩ (by simp) ?_
 unfold vc_isRem at hv
 change W _ _ _ ⟨30, look [(0, .agg [.lst true r.sv.length (zYy zYx r.sv), .lst true r.jobs.length (zYy (e53 true) r.jobs), .int .i64 r.late, .int .i64 r.obj, .int .i64 r.causes, .lst true r.ex.length (zYy e58 r.ex)]), (1, .agg [.int .i64 x.jb, .int .i64 x.pc, .int .i64 x.ca, .int .i64 x.ba, .int .i64 x.op, .int .i64 x.ver])], [], 0⟩ _
 refine W.ty [(0, .agg _), (1, .agg _)] rfl (W.rL (cL rfl (o_box (v := .agg _) (p := 0) rfl rfl rfl (cL rfl (o_box (v := .agg _) (p := 1) rfl rfl rfl (aB rfl rfl (eL (W.ty [(2, .ptr _ _), (3, .ptr _ _)] rfl (W.rLm ⟨30, look [(4, .bool (decide ((x.pc = (-1 : Int)) /\ ((¬ x.jb = r.late) /\ ((x.ba = (0 : Int)) /\ ((x.op = (0 : Int)) /\ (x.ver = (0 : Int))))))))], [.box 26 [.lst true r.sv.length (zYy zYx r.sv), .lst true r.jobs.length (zYy (e53 true) r.jobs), .int .i64 r.late, .int .i64 r.obj, .int .i64 r.causes, .lst true r.ex.length (zYy e58 r.ex)], .box 58 [.int .i64 x.jb, .int .i64 x.pc, .int .i64 x.ca, .int .i64 x.ba, .int .i64 x.op, .int .i64 x.ver]], 0⟩ ?_ ?_)))))))))
 refine cL rfl (o_fa tt58 rfl tt3 rfl (cL rfl (zZx (v := .int _ _) tt3 rfl rfl ⟨_, rfl⟩ (cL rfl (o_eqI rfl rfl rfl (mB rfl rfl ?_))))))
 by_cases c1 : x.pc = (-1 : Int)
 refine cLg rfl rfl (dT c1) (cL rfl (o_fa tt58 rfl tt3 rfl (cLg rfl rfl (dT c1) (cL rfl (zZx (v := .int _ _) tt3 rfl rfl ⟨_, rfl⟩ (cLg rfl rfl (dT c1) (cL rfl (o_fa tt26 rfl tt3 rfl (cLg rfl rfl (dT c1) (cL rfl (zZx (v := .int _ _) tt3 rfl rfl ⟨_, rfl⟩ (cLg rfl rfl (dT c1) (cL rfl (o_neI rfl rfl rfl (cL rfl (zZv (v := .bool _) rfl (dT c1) rfl (mB rfl rfl ?_)))))))))))))))))
 by_cases c2 : ¬ x.jb = r.late
 refine cLg rfl rfl (dT c2) (cL rfl (o_fa tt58 rfl tt3 rfl (cLg rfl rfl (dT c2) (cL rfl (zZx (v := .int _ _) tt3 rfl rfl ⟨_, rfl⟩ (cLg rfl rfl (dT c2) (cL rfl (o_eqI rfl rfl rfl (cL rfl (zZv (v := .bool _) rfl (dT c2) rfl (mB rfl rfl ?_)))))))))))
 by_cases c3 : x.ba = (0 : Int)
 refine cLg rfl rfl (dT c3) (cL rfl (o_fa tt58 rfl tt3 rfl (cLg rfl rfl (dT c3) (cL rfl (zZx (v := .int _ _) tt3 rfl rfl ⟨_, rfl⟩ (cLg rfl rfl (dT c3) (cL rfl (o_eqI rfl rfl rfl (cL rfl (zZv (v := .bool _) rfl (dT c3) rfl (mB rfl rfl ?_)))))))))))
 by_cases c4 : x.op = (0 : Int)
 refine cLg rfl rfl (dT c4) (cL rfl (o_fa tt58 rfl tt3 rfl (cLg rfl rfl (dT c4) (cL rfl (zZx (v := .int _ _) tt3 rfl rfl ⟨_, rfl⟩ (cLg rfl rfl (dT c4) (cL rfl (o_eqI rfl rfl rfl (cL rfl (zZv (v := .bool _) rfl (dT c4) rfl (aB rfl rfl (eL (zYz ⟨(congrArg AV.bool (zXv c1 (zXv c2 (zXv c3 (zXv c4 (rfl)))))).symm, trivial⟩ rfl)))))))))))))
 iterate 3 refine cLs rfl rfl rfl (dF c4) ?_
 refine cL rfl (zZy (v := .bool _) rfl (dF c4) rfl (aB rfl rfl (eL (zYz ⟨(congrArg AV.bool (zXv c1 (zXv c2 (zXv c3 (dAndF c4))))).symm, trivial⟩ rfl))))
 iterate 3 refine cLs rfl rfl rfl (dF c3) ?_
 refine cL rfl (zZy (v := .bool _) rfl (dF c3) rfl (mB rfl rfl ?_))
 iterate 3 refine cLs rfl rfl rfl (rfl) ?_
 refine cL rfl (zZy (v := .bool _) rfl rfl rfl (aB rfl rfl (eL (zYz ⟨(congrArg AV.bool (zXv c1 (zXv c2 (dAndF c3)))).symm, trivial⟩ rfl))))
 iterate 3 refine cLs rfl rfl rfl (dF c2) ?_
 refine cL rfl (zZy (v := .bool _) rfl (dF c2) rfl (mB rfl rfl ?_))
 iterate 3 refine cLs rfl rfl rfl (rfl) ?_
 refine cL rfl (zZy (v := .bool _) rfl rfl rfl (mB rfl rfl ?_))
 iterate 3 refine cLs rfl rfl rfl (rfl) ?_
 refine cL rfl (zZy (v := .bool _) rfl rfl rfl (aB rfl rfl (eL (zYz ⟨(congrArg AV.bool (zXv c1 (dAndF c2))).symm, trivial⟩ rfl))))
 iterate 5 refine cLs rfl rfl rfl (dF c1) ?_
 refine cL rfl (zZy (v := .bool _) rfl (dF c1) rfl (mB rfl rfl ?_))
 iterate 3 refine cLs rfl rfl rfl (rfl) ?_
 refine cL rfl (zZy (v := .bool _) rfl rfl rfl (mB rfl rfl ?_))
 iterate 3 refine cLs rfl rfl rfl (rfl) ?_
 refine cL rfl (zZy (v := .bool _) rfl rfl rfl (mB rfl rfl ?_))
 iterate 3 refine cLs rfl rfl rfl (rfl) ?_
 refine cL rfl (zZy (v := .bool _) rfl rfl rfl (aB rfl rfl (eL (zYz ⟨(congrArg AV.bool (dAndF c1)).symm, trivial⟩ rfl))))
 refine W.ret (rt (rt_t (v := .bool _) rfl (rt_n (⟨_, zYr _ _ _, (decide ((x.pc = (-1 : Int)) /\ ((¬ x.jb = r.late) /\ ((x.ba = (0 : Int)) /\ ((x.op = (0 : Int)) /\ (x.ver = (0 : Int))))))), rfl, hv⟩))))
set_option maxHeartbeats 4000000 in
theorem vcp_isRem (r : Req) (x : Ext)  : vc_isRem r x (fun q0 => q0 = (isRemM r x)) := by
  rfl
theorem spec_isRem (r : Req) (x : Ext)  : FnP Try.prog 34 [.agg ((e26 true) r), .agg (e58 x)] (fun xR => xR = .bool (isRemM r x)) :=
  (walk_isRem (vcp_isRem r x)).mono (by rintro _ ⟨_, rfl, rfl⟩; rfl)
def vc_isWork (r : Req) (x : Ext) (Post : Bool -> Prop) : Prop :=
  ((0 <= x.jb /\ x.jb < (r.jobs.length : Int)) /\ (inI ((((lat r.jobs x.jb).wk).length : Int) - (1 : Int))) /\ True) /\ (Post (decide (((inM x.pc (0 : Int) ((((lat r.jobs x.jb).wk).length : Int) - (1 : Int))) = true) /\ (((inM x.ba (0 : Int) (1099511627776 : Int)) = true) /\ (((inM x.op (0 : Int) (11 : Int)) = true) /\ ((inM x.ver (0 : Int) (9 : Int)) = true))))))
theorem walk_isWork {r : Req} {x : Ext} {Post : Bool -> Prop} (hv : vc_isWork r x Post) : FnP Try.prog 35 [.agg ((e26 true) r), .agg (e58 x)] (fun x => ∃ q0, x = .bool q0 /\ Post q0) := by
 refine FnP.of_walk (T := tt) (nt := 32) ttOk ttMix ⟨⟨Try.f35, Try.func35, rfl, rfl, rfl, rfl⟩⟩ (by simp) ?_
 unfold vc_isWork at hv
 change W _ _ _ ⟨32, look [(0, .agg [.lst true r.sv.length (zYy zYx r.sv), .lst true r.jobs.length (zYy (e53 true) r.jobs), .int .i64 r.late, .int .i64 r.obj, .int .i64 r.causes, .lst true r.ex.length (zYy e58 r.ex)]), (1, .agg [.int .i64 x.jb, .int .i64 x.pc, .int .i64 x.ca, .int .i64 x.ba, .int .i64 x.op, .int .i64 x.ver])], [], 0⟩ _
 refine W.ty [(0, .agg _), (1, .agg _)] rfl (W.rL (cL rfl (o_box (v := .agg _) (p := 0) rfl rfl rfl (cL rfl (o_box (v := .agg _) (p := 1) rfl rfl rfl (aB rfl rfl (eL (W.ty [(2, .ptr _ _), (3, .ptr _ _)] rfl ?_))))))))
 obtain ⟨sd, hv⟩ := hv
 refine W.rDm ⟨32, look [(4, .bool (decide (((inM x.pc (0 : Int) ((((lat r.jobs x.jb).wk).length : Int) - (1 : Int))) = true) /\ (((inM x.ba (0 : Int) (1099511627776 : Int)) = true) /\ (((inM x.op (0 : Int) (11 : Int)) = true) /\ ((inM x.ver (0 : Int) (9 : Int)) = true))))))], [.box 26 [.lst true r.sv.length (zYy zYx r.sv), .lst true r.jobs.length (zYy (e53 true) r.jobs), .int .i64 r.late, .int .i64 r.obj, .int .i64 r.causes, .lst true r.ex.length (zYy e58 r.ex)], .box 58 [.int .i64 x.jb, .int .i64 x.pc, .int .i64 x.ca, .int .i64 x.ba, .int .i64 x.op, .int .i64 x.ver]], 0⟩ [0, 1, 2, 3, 4, 5, 6, 7, 8, 9, 10, 11, 12, 13, 14, 15, 16, 17, 18, 19, 20, 21, 22, 23, 24, 25, 26, 27] (by decide +kernel) rfl ?_ ?_
 refine cL rfl (o_fa tt58 rfl tt3 rfl (cL rfl (zZx (v := .int _ _) tt3 rfl rfl ⟨_, rfl⟩ (cL rfl (o_fa tt26 rfl tt23 rfl (cL rfl (zZx (v := .lst _ _ _) tt23 rfl rfl ⟨_, rfl⟩ (cL rfl (o_fa tt58 rfl tt3 rfl (cL rfl (zZx (v := .int _ _) tt3 rfl rfl ⟨_, rfl⟩ ?_)))))))))))
 obtain ⟨s3, sd⟩ := sd
 refine cL rfl (zYu tt23 tt53 rfl rfl (enc53.wd true) rfl s3 ?_)
 intro rest3
 refine cL rfl (o_faP tt53 rfl tt51 rfl (cL rfl (zZx (v := .lst _ _ _) tt51 rfl rfl ⟨_, rfl⟩ (cL rfl (zXw (v := .lst _ _ _) tt51 rfl rfl ?_)))))
 obtain ⟨s4, sd⟩ := sd
 refine cL rfl (o_sub rfl rfl s4 (cL rfl (zZu (k := 33) (fst := []) (caps := []) (ys := [.int _ _, .int _ _, .int _ _]) rfl rfl (spec_isIn x.pc (0 : Int) ((((lat r.jobs x.jb).wk).length : Int) - (1 : Int))) zk (mB rfl rfl ?_))))
 by_cases c1 : (inM x.pc (0 : Int) ((((lat r.jobs x.jb).wk).length : Int) - (1 : Int))) = true
 refine cLg rfl rfl (c1) (cL rfl (o_fa tt58 rfl tt3 rfl (cLg rfl rfl (c1) (cL rfl (zZx (v := .int _ _) tt3 rfl rfl ⟨_, rfl⟩ (cLg rfl rfl (c1) (cL rfl (zZu (k := 33) (fst := []) (caps := []) (ys := [.int _ _, .int _ _, .int _ _]) rfl rfl (spec_isIn x.ba (0 : Int) (1099511627776 : Int)) zk (cL rfl (zZv (v := .bool _) rfl c1 rfl (mB rfl rfl ?_)))))))))))
 by_cases c2 : (inM x.ba (0 : Int) (1099511627776 : Int)) = true
 refine cLg rfl rfl (c2) (cL rfl (o_fa tt58 rfl tt3 rfl (cLg rfl rfl (c2) (cL rfl (zZx (v := .int _ _) tt3 rfl rfl ⟨_, rfl⟩ (cLg rfl rfl (c2) (cL rfl (zZu (k := 33) (fst := []) (caps := []) (ys := [.int _ _, .int _ _, .int _ _]) rfl rfl (spec_isIn x.op (0 : Int) (11 : Int)) zk (cL rfl (zZv (v := .bool _) rfl c2 rfl (mB rfl rfl ?_)))))))))))
 by_cases c3 : (inM x.op (0 : Int) (11 : Int)) = true
 refine cLg rfl rfl (c3) (cL rfl (o_fa tt58 rfl tt3 rfl (cLg rfl rfl (c3) (cL rfl (zZx (v := .int _ _) tt3 rfl rfl ⟨_, rfl⟩ (cLg rfl rfl (c3) (cL rfl (zZu (k := 33) (fst := []) (caps := []) (ys := [.int _ _, .int _ _, .int _ _]) rfl rfl (spec_isIn x.ver (0 : Int) (9 : Int)) zk (cL rfl (zZv (v := .bool _) rfl c3 rfl (aB rfl rfl (eL (zYz ⟨(congrArg AV.bool (zXv c1 (zXv c2 (zXv c3 (dVar _))))).symm, trivial⟩ rfl)))))))))))))
 iterate 3 refine cLs rfl rfl rfl ((Bool.eq_false_iff.2 c3)) ?_
 refine cL rfl (zZy (v := .bool _) rfl (Bool.eq_false_iff.2 c3) rfl (aB rfl rfl (eL (zYz ⟨(congrArg AV.bool (zXv c1 (zXv c2 (dAndF c3)))).symm, trivial⟩ rfl))))
 iterate 3 refine cLs rfl rfl rfl ((Bool.eq_false_iff.2 c2)) ?_
 refine cL rfl (zZy (v := .bool _) rfl (Bool.eq_false_iff.2 c2) rfl (mB rfl rfl ?_))
 iterate 3 refine cLs rfl rfl rfl (rfl) ?_
 refine cL rfl (zZy (v := .bool _) rfl rfl rfl (aB rfl rfl (eL (zYz ⟨(congrArg AV.bool (zXv c1 (dAndF c2))).symm, trivial⟩ rfl))))
 iterate 3 refine cLs rfl rfl rfl ((Bool.eq_false_iff.2 c1)) ?_
 refine cL rfl (zZy (v := .bool _) rfl (Bool.eq_false_iff.2 c1) rfl (mB rfl rfl ?_))
 iterate 3 refine cLs rfl rfl rfl (rfl) ?_
 refine cL rfl (zZy (v := .bool _) rfl rfl rfl (mB rfl rfl ?_))
 iterate 3 refine cLs rfl rfl rfl (rfl) ?_
 refine cL rfl (zZy (v := .bool _) rfl rfl rfl (aB rfl rfl (eL (zYz ⟨(congrArg AV.bool (dAndF c1)).symm, trivial⟩ rfl))))
 refine W.ret (rt (rt_t (v := .bool _) rfl (rt_n (⟨_, zYr _ _ _, (decide (((inM x.pc (0 : Int) ((((lat r.jobs x.jb).wk).length : Int) - (1 : Int))) = true) /\ (((inM x.ba (0 : Int) (1099511627776 : Int)) = true) /\ (((inM x.op (0 : Int) (11 : Int)) = true) /\ ((inM x.ver (0 : Int) (9 : Int)) = true))))), rfl, hv⟩))))
set_option maxHeartbeats 4000000 in
theorem vcp_isWork (r : Req) (x : Ext) (h0 : 0 <= x.jb /\ x.jb < r.jobs.length) (h1 : (lat r.jobs x.jb).wk.length <= 9223372036854775807) : vc_isWork r x (fun q0 => q0 = (isWorkM r x)) := by
  refine ⟨⟨h0, by unfold inI; omega, trivial⟩, ?_⟩
  show decide _ = _
  unfold isWorkM inM
  simp only [decide_eq_true_eq]
theorem spec_isWork (r : Req) (x : Ext) (h0 : 0 <= x.jb /\ x.jb < r.jobs.length) (h1 : (lat r.jobs x.jb).wk.length <= 9223372036854775807) : FnP Try.prog 35 [.agg ((e26 true) r), .agg (e58 x)] (fun xR => xR = .bool (isWorkM r x)) :=
  (walk_isWork (vcp_isWork r x h0 h1)).mono (by rintro _ ⟨_, rfl, rfl⟩; rfl)
def vc_valid (r : Req) (Post : Bool -> Prop) : Prop :=
  ((r.sv.length <= 9223372036854775807) /\ (∀ j ∈ r.jobs, j.wk.length <= 9223372036854775807) /\ (r.jobs.length <= 9223372036854775807) /\ ((¬ ((validJ r.sv r.jobs) = true)) -> True) /\ (¬ (¬ ((validJ r.sv r.jobs) = true)) -> (inI ((r.jobs.length : Int) - (1 : Int))) /\ True)) /\ ((((¬ ((validJ r.sv r.jobs) = true)) \/ ((¬ ((inM r.late (0 : Int) ((r.jobs.length : Int) - (1 : Int))) = true)) \/ ((¬ ((inM r.obj (0 : Int) (4398046511104 : Int)) = true)) \/ (¬ ((inM r.causes (0 : Int) (6 : Int)) = true))))) -> Post false) /\ (¬ ((¬ ((validJ r.sv r.jobs) = true)) \/ ((¬ ((inM r.late (0 : Int) ((r.jobs.length : Int) - (1 : Int))) = true)) \/ ((¬ ((inM r.obj (0 : Int) (4398046511104 : Int)) = true)) \/ (¬ ((inM r.causes (0 : Int) (6 : Int)) = true))))) -> ∃ (I1 : Int -> Prop) (μ1 : Int -> Nat), I1 (0 : Int) /\ ∀ (v36 : Int), I1 v36 -> ((v36 < (r.ex.length : Int)) -> (0 <= v36 /\ v36 < (r.ex.length : Int)) /\ ((inI ((r.jobs.length : Int) - (1 : Int))) /\ ((¬ ((inM ((lat r.ex v36).jb) (0 : Int) ((r.jobs.length : Int) - (1 : Int))) = true)) -> True) /\ (¬ (¬ ((inM ((lat r.ex v36).jb) (0 : Int) ((r.jobs.length : Int) - (1 : Int))) = true)) -> (inI (r.causes - (1 : Int))) /\ ((¬ ((inM ((lat r.ex v36).ca) (0 : Int) (r.causes - (1 : Int))) = true)) -> True) /\ (¬ (¬ ((inM ((lat r.ex v36).ca) (0 : Int) (r.causes - (1 : Int))) = true)) -> ((¬ ((isRemM r (lat r.ex v36)) = true)) -> (0 <= (lat r.ex v36).jb /\ (lat r.ex v36).jb < r.jobs.length) /\ ((lat r.jobs (lat r.ex v36).jb).wk.length <= 9223372036854775807) /\ True) /\ (¬ (¬ ((isRemM r (lat r.ex v36)) = true)) -> True)))) /\ ((((¬ ((inM ((lat r.ex v36).jb) (0 : Int) ((r.jobs.length : Int) - (1 : Int))) = true)) \/ ((¬ ((inM ((lat r.ex v36).ca) (0 : Int) (r.causes - (1 : Int))) = true)) \/ ((¬ ((isRemM r (lat r.ex v36)) = true)) /\ (¬ ((isWorkM r (lat r.ex v36)) = true))))) -> Post false) /\ (¬ ((¬ ((inM ((lat r.ex v36).jb) (0 : Int) ((r.jobs.length : Int) - (1 : Int))) = true)) \/ ((¬ ((inM ((lat r.ex v36).ca) (0 : Int) (r.causes - (1 : Int))) = true)) \/ ((¬ ((isRemM r (lat r.ex v36)) = true)) /\ (¬ ((isWorkM r (lat r.ex v36)) = true))))) -> ((((0 : Int) < v36) -> (inI (v36 - (1 : Int))) /\ (0 <= (v36 - (1 : Int)) /\ (v36 - (1 : Int)) < (r.ex.length : Int)) /\ (inI (v36 - (1 : Int))) /\ (0 <= (v36 - (1 : Int)) /\ (v36 - (1 : Int)) < (r.ex.length : Int)) /\ ([cmpM ((lat r.ex (v36 - (1 : Int))).jb) ((lat r.ex v36).jb), cmpM ((lat r.ex (v36 - (1 : Int))).pc) ((lat r.ex v36).pc)].length <= 9223372036854775807) /\ True) /\ (¬ ((0 : Int) < v36) -> True)) /\ (((((0 : Int) < v36) /\ ((0 : Int) <= (orM [cmpM ((lat r.ex (v36 - (1 : Int))).jb) ((lat r.ex v36).jb), cmpM ((lat r.ex (v36 - (1 : Int))).pc) ((lat r.ex v36).pc)]))) -> Post false) /\ (¬ (((0 : Int) < v36) /\ ((0 : Int) <= (orM [cmpM ((lat r.ex (v36 - (1 : Int))).jb) ((lat r.ex v36).jb), cmpM ((lat r.ex (v36 - (1 : Int))).pc) ((lat r.ex v36).pc)]))) -> (inI (v36 + (1 : Int))) /\ (I1 (v36 + (1 : Int)) /\ μ1 (v36 + (1 : Int)) < μ1 v36)))))) /\ (¬ (v36 < (r.ex.length : Int)) -> Post true)))
theorem walk_valid {r : Req} {Post : Bool -> Prop} (hv : vc_valid r Post) : FnP Try.prog 13 [.agg ((e26 true) r)] (fun x => ∃ q0, x = .bool q0 /\ Post q0) := by
 refine FnP.of_walk (T := tt) (nt := 98) ttOk ttMix ⟨⟨Try.f13, Try.func13, rfl, rfl, rfl, rfl⟩⟩ (by simp) ?_
 unfold vc_valid at hv
 change W _ _ _ ⟨98, look [(0, .agg [.lst true r.sv.length (zYy zYx r.sv), .lst true r.jobs.length (zYy (e53 true) r.jobs), .int .i64 r.late, .int .i64 r.obj, .int .i64 r.causes, .lst true r.ex.length (zYy e58 r.ex)])], [], 0⟩ _
 refine W.ty [(0, .agg _)] rfl (W.rL (cL rfl (o_box (v := .agg _) (p := 0) rfl rfl rfl (aB rfl rfl (eL (W.ty [(1, .ptr _ _)] rfl (W.seq' ?_)))))))
 obtain ⟨sd, hv⟩ := hv
 refine W.rLm ⟨98, look [(1, .ptr 0 0), (32, .bool (decide ((¬ ((validJ r.sv r.jobs) = true)) \/ ((¬ ((inM r.late (0 : Int) ((r.jobs.length : Int) - (1 : Int))) = true)) \/ ((¬ ((inM r.obj (0 : Int) (4398046511104 : Int)) = true)) \/ (¬ ((inM r.causes (0 : Int) (6 : Int)) = true)))))))], [.box 26 [.lst true r.sv.length (zYy zYx r.sv), .lst true r.jobs.length (zYy (e53 true) r.jobs), .int .i64 r.late, .int .i64 r.obj, .int .i64 r.causes, .lst true r.ex.length (zYy e58 r.ex)]], 0⟩ ?_ ?_
 refine cL rfl (o_fa tt26 rfl tt22 rfl (cL rfl (zZx (v := .lst _ _ _) tt22 rfl rfl ⟨_, rfl⟩ (cL rfl (o_fa tt26 rfl tt23 rfl (cL rfl (zZx (v := .lst _ _ _) tt23 rfl rfl ⟨_, rfl⟩ ?_)))))))
 obtain ⟨s13, s14, s15, sd⟩ := sd
 refine cL rfl (zZu (k := 32) (fst := []) (caps := []) (ys := [.lst _ _ _, .lst _ _ _]) rfl rfl (spec_mvalid r.sv r.jobs s13 s14 s15) zk (cL rfl (o_notB rfl (mB rfl rfl ?_))))
 by_cases c1 : ¬ ((validJ r.sv r.jobs) = true)
 iterate 8 refine cLs rfl rfl rfl (dT c1) ?_
 refine cL rfl (zZv (v := .bool _) rfl (dT c1) rfl (mB rfl rfl ?_))
 iterate 4 refine cLs rfl rfl rfl (rfl) ?_
 refine cL rfl (zZv (v := .bool _) rfl rfl rfl (mB rfl rfl ?_))
 iterate 4 refine cLs rfl rfl rfl (rfl) ?_
 refine cL rfl (zZv (v := .bool _) rfl rfl rfl (eL (zYz ⟨rfl, (congrArg AV.bool (dOrT c1)).symm, trivial⟩ rfl)))
 have sd := sd.2 c1
 refine cLg rfl rfl (dF c1) (cL rfl (o_fa tt26 rfl tt3 rfl (cLg rfl rfl (dF c1) (cL rfl (zZx (v := .int _ _) tt3 rfl rfl ⟨_, rfl⟩ (cLg rfl rfl (dF c1) (cL rfl (o_fa tt26 rfl tt23 rfl (cLg rfl rfl (dF c1) (cL rfl (zZx (v := .lst _ _ _) tt23 rfl rfl ⟨_, rfl⟩ (cLg rfl rfl (dF c1) (cL rfl (zXw (v := .lst _ _ _) tt23 rfl rfl (cLg rfl rfl (dF c1) ?_)))))))))))))))
 obtain ⟨s16, sd⟩ := sd
 refine cL rfl (o_sub rfl rfl s16 (cLg rfl rfl (dF c1) (cL rfl (zZu (k := 33) (fst := []) (caps := []) (ys := [.int _ _, .int _ _, .int _ _]) rfl rfl (spec_isIn r.late (0 : Int) ((r.jobs.length : Int) - (1 : Int))) zk (cLg rfl rfl (dF c1) (cL rfl (o_notB rfl (cL rfl (zZy (v := .bool _) rfl (dF c1) rfl (mB rfl rfl ?_))))))))))
 by_cases c2 : ¬ ((inM r.late (0 : Int) ((r.jobs.length : Int) - (1 : Int))) = true)
 iterate 4 refine cLs rfl rfl rfl (dT c2) ?_
 refine cL rfl (zZv (v := .bool _) rfl (dT c2) rfl (mB rfl rfl ?_))
 iterate 4 refine cLs rfl rfl rfl (rfl) ?_
 refine cL rfl (zZv (v := .bool _) rfl rfl rfl (eL (zYz ⟨rfl, (congrArg AV.bool (dOrF c1 (dOrT c2))).symm, trivial⟩ rfl)))
 refine cLg rfl rfl (dF c2) (cL rfl (o_fa tt26 rfl tt3 rfl (cLg rfl rfl (dF c2) (cL rfl (zZx (v := .int _ _) tt3 rfl rfl ⟨_, rfl⟩ (cLg rfl rfl (dF c2) (cL rfl (zZu (k := 33) (fst := []) (caps := []) (ys := [.int _ _, .int _ _, .int _ _]) rfl rfl (spec_isIn r.obj (0 : Int) (4398046511104 : Int)) zk (cLg rfl rfl (dF c2) (cL rfl (o_notB rfl (cL rfl (zZy (v := .bool _) rfl (dF c2) rfl (mB rfl rfl ?_))))))))))))))
 by_cases c3 : ¬ ((inM r.obj (0 : Int) (4398046511104 : Int)) = true)
 iterate 4 refine cLs rfl rfl rfl (dT c3) ?_
 refine cL rfl (zZv (v := .bool _) rfl (dT c3) rfl (eL (zYz ⟨rfl, (congrArg AV.bool (dOrF c1 (dOrF c2 (dOrT c3)))).symm, trivial⟩ rfl)))
 refine cLg rfl rfl (dF c3) (cL rfl (o_fa tt26 rfl tt3 rfl (cLg rfl rfl (dF c3) (cL rfl (zZx (v := .int _ _) tt3 rfl rfl ⟨_, rfl⟩ (cLg rfl rfl (dF c3) (cL rfl (zZu (k := 33) (fst := []) (caps := []) (ys := [.int _ _, .int _ _, .int _ _]) rfl rfl (spec_isIn r.causes (0 : Int) (6 : Int)) zk (cLg rfl rfl (dF c3) (cL rfl (o_notB rfl (cL rfl (zZy (v := .bool _) rfl (dF c3) rfl (eL (zYz ⟨rfl, (congrArg AV.bool (dOrF c1 (dOrF c2 (dOrF c3 (rfl))))).symm, trivial⟩ rfl)))))))))))))))
 refine W.cn rfl (fun hc => ?_) (fun hc => ?_)
 have hv := hv.1 hc
 refine W.rL (aB rfl rfl (eL (W.ty [(2, .bool _)] rfl (W.ret (zZr (rt (rt_t (v := .bool _) rfl (rt_n (⟨_, zYr _ _ _, false, rfl, hv⟩)))))))))
 have hv := hv.2 hc
 refine W.skip (zZ (W.ty [(1, .ptr _ _)] rfl (W.seq' (W.rL (cL rfl (o_fa tt26 rfl tt24 rfl (cL rfl (zZx (v := .lst _ _ _) tt24 rfl rfl ⟨_, rfl⟩ (cL rfl (zXw (v := .lst _ _ _) tt24 rfl rfl (mI rfl rfl (eL (W.ty [(1, .ptr _ _), (34, .lst _ _ _), (35, .int _ _), (36, .int _ _)] rfl (W.block ?_))))))))))))))
 obtain ⟨I1, μ1, hp, hv⟩ := hv
 refine W.loop1 (fun v36 => ⟨98, look [(1, .ptr 0 0), (34, .lst true r.ex.length (zYy e58 r.ex)), (35, .int .i64 (r.ex.length : Int)), (36, .int .i64 v36)], [.box 26 [.lst true r.sv.length (zYy zYx r.sv), .lst true r.jobs.length (zYy (e53 true) r.jobs), .int .i64 r.late, .int .i64 r.obj, .int .i64 r.causes, .lst true r.ex.length (zYy e58 r.ex)]], 0⟩) I1 μ1 (0 : Int) (St.to_mk (φ := [some 0]) rfl (rfl) ⟨Ren.ptr rfl, Ren.lst _ _ _, Ren.int _ _, Ren.int _ _, trivial⟩ ⟨(zB rfl rfl), trivial⟩) hp ?_
 clear hp
 intro v36 hI
 replace hv := hv v36 hI
 clear hI
 refine W.rL (cL rfl (zYq rfl rfl (eL (W.ty [(1, .ptr _ _), (34, .lst _ _ _), (35, .int _ _), (36, .int _ _), (37, .bool _)] rfl (W.seq' (W.cn rfl (fun hc => ?_) (fun hc => ?_)))))))
 have hv := hv.1 hc
 refine W.skip (zZ (W.ty [(1, .ptr _ _), (34, .lst _ _ _), (35, .int _ _), (36, .int _ _)] rfl (W.seq' (W.block (W.rL (mI rfl rfl ?_))))))
 obtain ⟨s209, hv⟩ := hv
 refine cL rfl (zYu tt24 tt58 rfl rfl (enc58.wd true) rfl s209 ?_)
 intro rest209
 refine cL rfl (zYp (cs := [.int _ _, .int _ _, .int _ _, .int _ _, .int _ _, .int _ _]) tt58 rfl rfl ⟨_, rfl⟩ rfl (cL rfl (zXy (p := 1) tt58 rfl rfl (aI rfl rfl (cLn (o_stB (v := .agg _) (vs := [.int _ _, .int _ _, .int _ _, .int _ _, .int _ _, .int _ _]) (cs2 := [.int _ _, .int _ _, .int _ _, .int _ _, .int _ _, .int _ _]) tt58 rfl rfl rfl rfl rfl (Nat.le_of_ble_eq_true rfl) rfl (eL (W.ty [(1, .ptr _ _), (3, .int _ _), (4, .ptr _ _), (34, .lst _ _ _), (35, .int _ _), (36, .int _ _)] rfl (W.seq' ?_)))))))))
 obtain ⟨sd, hv⟩ := hv
 refine W.rLm ⟨98, look [(1, .ptr 0 0), (3, .int .i64 v36), (4, .ptr 1 0), (34, .lst true r.ex.length (zYy e58 r.ex)), (35, .int .i64 (r.ex.length : Int)), (36, .int .i64 v36), (69, .bool (decide ((¬ ((inM ((lat r.ex v36).jb) (0 : Int) ((r.jobs.length : Int) - (1 : Int))) = true)) \/ ((¬ ((inM ((lat r.ex v36).ca) (0 : Int) (r.causes - (1 : Int))) = true)) \/ ((¬ ((isRemM r (lat r.ex v36)) = true)) /\ (¬ ((isWorkM r (lat r.ex v36)) = true)))))))], [.box 26 [.lst true r.sv.length (zYy zYx r.sv), .lst true r.jobs.length (zYy (e53 true) r.jobs), .int .i64 r.late, .int .i64 r.obj, .int .i64 r.causes, .lst true r.ex.length (zYy e58 r.ex)], .box 58 [.int .i64 ((lat r.ex v36).jb), .int .i64 ((lat r.ex v36).pc), .int .i64 ((lat r.ex v36).ca), .int .i64 ((lat r.ex v36).ba), .int .i64 ((lat r.ex v36).op), .int .i64 ((lat r.ex v36).ver)]], 0⟩ ?_ ?_
 refine cL rfl (o_fa tt58 rfl tt3 rfl (cL rfl (zZx (v := .int _ _) tt3 rfl rfl ⟨_, rfl⟩ (cL rfl (o_fa tt26 rfl tt23 rfl (cL rfl (zZx (v := .lst _ _ _) tt23 rfl rfl ⟨_, rfl⟩ (cL rfl (zXw (v := .lst _ _ _) tt23 rfl rfl ?_)))))))))
 obtain ⟨s222, sd⟩ := sd
 refine cL rfl (o_sub rfl rfl s222 (cL rfl (zZu (k := 33) (fst := []) (caps := []) (ys := [.int _ _, .int _ _, .int _ _]) rfl rfl (spec_isIn ((lat r.ex v36).jb) (0 : Int) ((r.jobs.length : Int) - (1 : Int))) zk (cL rfl (o_notB rfl (mB rfl rfl ?_))))))
 by_cases c1 : ¬ ((inM ((lat r.ex v36).jb) (0 : Int) ((r.jobs.length : Int) - (1 : Int))) = true)
 iterate 7 refine cLs rfl rfl rfl (dT c1) ?_
 refine cL rfl (zZv (v := .bool _) rfl (dT c1) rfl (mB rfl rfl ?_))
 iterate 5 refine cLs rfl rfl rfl (rfl) ?_
 iterate 4 refine cLu rfl rfl rfl ?_
 refine cLs rfl rfl rfl (rfl) (cL rfl (zZv (v := .bool _) rfl rfl rfl (eL (zYz ⟨rfl, rfl, rfl, rfl, rfl, rfl, (congrArg AV.bool (dOrT c1)).symm, trivial⟩ rfl))))
 have sd := sd.2 c1
 refine cLg rfl rfl (dF c1) (cL rfl (o_fa tt58 rfl tt3 rfl (cLg rfl rfl (dF c1) (cL rfl (zZx (v := .int _ _) tt3 rfl rfl ⟨_, rfl⟩ (cLg rfl rfl (dF c1) (cL rfl (o_fa tt26 rfl tt3 rfl (cLg rfl rfl (dF c1) (cL rfl (zZx (v := .int _ _) tt3 rfl rfl ⟨_, rfl⟩ (cLg rfl rfl (dF c1) ?_))))))))))))
 obtain ⟨s223, sd⟩ := sd
 refine cL rfl (o_sub rfl rfl s223 (cLg rfl rfl (dF c1) (cL rfl (zZu (k := 33) (fst := []) (caps := []) (ys := [.int _ _, .int _ _, .int _ _]) rfl rfl (spec_isIn ((lat r.ex v36).ca) (0 : Int) (r.causes - (1 : Int))) zk (cLg rfl rfl (dF c1) (cL rfl (o_notB rfl (cL rfl (zZy (v := .bool _) rfl (dF c1) rfl (mB rfl rfl ?_))))))))))
 by_cases c2 : ¬ ((inM ((lat r.ex v36).ca) (0 : Int) (r.causes - (1 : Int))) = true)
 iterate 5 refine cLs rfl rfl rfl (dT c2) ?_
 iterate 4 refine cLu rfl rfl rfl ?_
 refine cLs rfl rfl rfl (dT c2) (cL rfl (zZv (v := .bool _) rfl (dT c2) rfl (eL (zYz ⟨rfl, rfl, rfl, rfl, rfl, rfl, (congrArg AV.bool (dOrF c1 (dOrT c2))).symm, trivial⟩ rfl))))
 have sd := sd.2 c2
 refine cLg rfl rfl (dF c2) (cL rfl (zYp (cs := [.lst _ _ _, .lst _ _ _, .int _ _, .int _ _, .int _ _, .lst _ _ _]) tt26 rfl rfl ⟨_, rfl⟩ rfl (cLg rfl rfl (dF c2) (cL rfl (zYp (cs := [.int _ _, .int _ _, .int _ _, .int _ _, .int _ _, .int _ _]) tt58 rfl rfl ⟨_, rfl⟩ rfl (cLg rfl rfl (dF c2) (cL rfl (zZu (k := 34) (fst := []) (caps := []) (ys := [.agg _, .agg _]) rfl rfl (spec_isRem r (lat r.ex v36)) zk (cLg rfl rfl (dF c2) (cL rfl (o_notB rfl (cLg rfl rfl (dF c2) (mB rfl rfl ?_)))))))))))))
 by_cases c3 : ¬ ((isRemM r (lat r.ex v36)) = true)
 have sd := sd.1 c3
 refine cLg rfl rfl (dT c3) (cL rfl (zYp (cs := [.lst _ _ _, .lst _ _ _, .int _ _, .int _ _, .int _ _, .lst _ _ _]) tt26 rfl rfl ⟨_, rfl⟩ rfl (cLg rfl rfl (dT c3) (cL rfl (zYp (cs := [.int _ _, .int _ _, .int _ _, .int _ _, .int _ _, .int _ _]) tt58 rfl rfl ⟨_, rfl⟩ rfl (cLg rfl rfl (dT c3) ?_))))))
 obtain ⟨s224, s225, sd⟩ := sd
 refine cL rfl (zZu (k := 35) (fst := []) (caps := []) (ys := [.agg _, .agg _]) rfl rfl (spec_isWork r (lat r.ex v36) s224 s225) zk (cLg rfl rfl (dT c3) (cL rfl (o_notB rfl (cLg rfl rfl (dF c2) (cL rfl (zZv (v := .bool _) rfl (dT c3) rfl (cL rfl (zZy (v := .bool _) rfl (dF c2) rfl (eL (zYz ⟨rfl, rfl, rfl, rfl, rfl, rfl, (congrArg AV.bool (dOrF c1 (dOrF c2 (zXv c3 (rfl))))).symm, trivial⟩ rfl)))))))))))
 iterate 4 refine cLs rfl rfl rfl (dF c3) ?_
 refine cLg rfl rfl (dF c2) (cL rfl (zZy (v := .bool _) rfl (dF c3) rfl (cL rfl (zZy (v := .bool _) rfl (dF c2) rfl (eL (zYz ⟨rfl, rfl, rfl, rfl, rfl, rfl, (congrArg AV.bool (dOrF c1 (dOrF c2 (dAndF c3)))).symm, trivial⟩ rfl))))))
 refine W.cn rfl (fun hc => ?_) (fun hc => ?_)
 have hv := hv.1 hc
 refine W.rL (aB rfl rfl (eL (W.ty [(2, .bool _)] rfl (W.ret (zZr (zYt (zZr (zZr (zYt (zZr (rt (rt_t (v := .bool _) rfl (rt_n (⟨_, zYr _ _ _, false, rfl, hv⟩))))))))))))))
 have hv := hv.2 hc
 refine W.skip (zZ (W.ty [(1, .ptr _ _), (3, .int _ _), (4, .ptr _ _), (34, .lst _ _ _), (35, .int _ _), (36, .int _ _)] rfl ?_))
 obtain ⟨sd, hv⟩ := hv
 refine W.rPmT ⟨98, look [(1, .ptr 0 0), (34, .lst true r.ex.length (zYy e58 r.ex)), (35, .int .i64 (r.ex.length : Int)), (36, .int .i64 v36), (96, .bool (decide (((0 : Int) < v36) /\ ((0 : Int) <= (orM [cmpM ((lat r.ex (v36 - (1 : Int))).jb) ((lat r.ex v36).jb), cmpM ((lat r.ex (v36 - (1 : Int))).pc) ((lat r.ex v36).pc)])))))], [.box 26 [.lst true r.sv.length (zYy zYx r.sv), .lst true r.jobs.length (zYy (e53 true) r.jobs), .int .i64 r.late, .int .i64 r.obj, .int .i64 r.causes, .lst true r.ex.length (zYy e58 r.ex)]], 0⟩ [0, 1, 2, 3, 4, 5, 6, 7, 8, 9, 10, 11, 13, 14, 15, 16, 17, 18, 19, 20, 21, 12, 22, 23, 24, 25, 26] (by decide +kernel) rfl ?_ ?_
 refine mI rfl rfl (cL rfl (o_gtr rfl rfl (mB rfl rfl ?_)))
 by_cases c1 : (0 : Int) < v36
 have sd := sd.1 c1
 refine cLg rfl rfl (dT c1) (cL rfl (o_fa tt26 rfl tt24 rfl (cLg rfl rfl (dT c1) (cL rfl (zZx (v := .lst _ _ _) tt24 rfl rfl ⟨_, rfl⟩ (cLg rfl rfl (dT c1) (mI rfl rfl (cLg rfl rfl (dT c1) ?_))))))))
 obtain ⟨s231, sd⟩ := sd
 refine cL rfl (o_sub rfl rfl s231 (cLg rfl rfl (dT c1) ?_))
 obtain ⟨s232, sd⟩ := sd
 refine cL rfl (zYu tt24 tt58 rfl rfl (enc58.wd true) rfl s232 ?_)
 intro rest232
 refine cLg rfl rfl (dT c1) (cL rfl (o_faP tt58 rfl tt3 rfl (cLg rfl rfl (dT c1) (cL rfl (zZx (v := .int _ _) tt3 rfl rfl ⟨_, rfl⟩ (cLg rfl rfl (dT c1) (cL rfl (o_fa tt58 rfl tt3 rfl (cLg rfl rfl (dT c1) (cL rfl (zZx (v := .int _ _) tt3 rfl rfl ⟨_, rfl⟩ (cLg rfl rfl (dT c1) (cL rfl (o_fa tt26 rfl tt24 rfl (cLg rfl rfl (dT c1) (cL rfl (zZx (v := .lst _ _ _) tt24 rfl rfl ⟨_, rfl⟩ (cLg rfl rfl (dT c1) (mI rfl rfl (cLg rfl rfl (dT c1) ?_))))))))))))))))))))
 obtain ⟨s233, sd⟩ := sd
 refine cL rfl (o_sub rfl rfl s233 (cLg rfl rfl (dT c1) ?_))
 obtain ⟨s234, sd⟩ := sd
 refine cL rfl (zYu tt24 tt58 rfl rfl (enc58.wd true) rfl s234 ?_)
 intro rest234
 refine cLg rfl rfl (dT c1) (cL rfl (o_faP tt58 rfl tt3 rfl (cLg rfl rfl (dT c1) (cL rfl (zZx (v := .int _ _) tt3 rfl rfl ⟨_, rfl⟩ (cLg rfl rfl (dT c1) (cL rfl (o_fa tt58 rfl tt3 rfl (cLg rfl rfl (dT c1) (cL rfl (zZx (v := .int _ _) tt3 rfl rfl ⟨_, rfl⟩ (cLg rfl rfl (dT c1) (cL rfl (zZu (k := 37) (fst := []) (caps := []) (ys := [.int _ _, .int _ _]) rfl rfl (spec_cmpI ((lat r.ex (v36 - (1 : Int))).jb) ((lat r.ex v36).jb)) zk (cLg rfl rfl (dT c1) (cL rfl (zZu (k := 37) (fst := []) (caps := []) (ys := [.int _ _, .int _ _]) rfl rfl (spec_cmpI ((lat r.ex (v36 - (1 : Int))).pc) ((lat r.ex v36).pc)) zk (cLg rfl rfl (dT c1) (cL rfl (o_buildS (q := 2) (qs := [(0, .int _ _), (1, .int _ _)]) (cs := [.int _ _, .int _ _]) tt22 tt3 rfl rfl rfl rfl (cLg rfl rfl (dT c1) ?_)))))))))))))))))))))
 obtain ⟨s235, sd⟩ := sd
 refine cL rfl (zZu (k := 36) (fst := []) (caps := []) (ys := [.ref _ _ _]) rfl rfl (spec_orI [cmpM ((lat r.ex (v36 - (1 : Int))).jb) ((lat r.ex v36).jb), cmpM ((lat r.ex (v36 - (1 : Int))).pc) ((lat r.ex v36).pc)] s235) (Wks.cons (ag_ref (fl := false) (xs := [cmpM ((lat r.ex (v36 - (1 : Int))).jb) ((lat r.ex v36).jb), cmpM ((lat r.ex (v36 - (1 : Int))).pc) ((lat r.ex v36).pc)]) zZw 4 _ rfl rfl) zk) (cLg rfl rfl (dT c1) (cL rfl (o_geq rfl rfl (cL rfl (zZv (v := .bool _) rfl (dT c1) rfl (eL (St.to_mk (φ := [some 0]) rfl (rfl) ⟨Ren.ptr rfl, Ren.lst _ _ _, Ren.int _ _, Ren.int _ _, Ren.boolE (zXv c1 (rfl)), trivial⟩ ⟨(zB rfl rfl), trivial⟩))))))))
 iterate 23 refine cLs rfl rfl rfl (dF c1) ?_
 refine cL rfl (zZy (v := .bool _) rfl (dF c1) rfl (eL (St.to_mk (φ := [some 0]) rfl (rfl) ⟨Ren.ptr rfl, Ren.lst _ _ _, Ren.int _ _, Ren.int _ _, Ren.boolE (dAndF c1), trivial⟩ ⟨(zB rfl rfl), trivial⟩)))
 refine W.cn rfl (fun hc => ?_) (fun hc => ?_)
 have hv := hv.1 hc
 refine W.rL (aB rfl rfl (eL (W.ty [(2, .bool _)] rfl (W.ret (zYt (zZr (zZr (zYt (zZr (rt (rt_t (v := .bool _) rfl (rt_n (⟨_, zYr _ _ _, false, rfl, hv⟩)))))))))))))
 have hv := hv.2 hc
 refine W.skip (zYv (zZ (W.ty [(1, .ptr _ _), (34, .lst _ _ _), (35, .int _ _), (36, .int _ _)] rfl (W.rL1 ?_))))
 obtain ⟨s236, hv⟩ := hv
 refine cL rfl (o_add rfl rfl s236 (mI rfl rfl (eL (zZ (⟨(), (v36 + (1 : Int)), hv, St.to_mk (φ := [some 0]) rfl (rfl) ⟨Ren.ptr rfl, Ren.lst _ _ _, Ren.int _ _, Ren.int _ _, trivial⟩ ⟨(zB rfl rfl), trivial⟩⟩)))))
 have hv := hv.2 hc
 refine W.exit (zZt (zZt (zYs (zZ (W.ty [] rfl (W.rL (aB rfl rfl (eL (W.ty [(2, .bool _)] rfl (W.ret (rt (rt_t (v := .bool _) rfl (rt_n (⟨_, zYr _ _ _, true, rfl, hv⟩))))))))))))))
set_option maxHeartbeats 4000000 in
theorem vcp_valid (r : Req) (h0 : r.sv.length <= 9223372036854775807) (h1 : ∀ j ∈ r.jobs, j.wk.length <= 9223372036854775807) (h2 : r.jobs.length <= 9223372036854775807) (h3 : r.ex.length <= 9223372036854775807) : vc_valid r (fun q0 => q0 = (validR r)) := by
  have e1 : ∀ n lo hi : Int, (inM n lo hi = true) = (lo <= n /\ n <= hi) := fun n lo hi => by unfold inM; simp
  have bad : ∀ {q : Prop}, (ValidR r -> q) -> ¬ q -> false = validR r := fun h k => by
    rcases hv : validR r with _ | _
    . rfl
    . exact absurd (h ((validR_iff r).1 hv)) k
  unfold vc_valid
  simp only [e1, Decidable.not_not]
  refine ⟨⟨h0, h1, h2, fun _ => trivial, fun _ => ⟨by unfold inI; omega, trivial⟩⟩, fun k => bad (q := validJ r.sv r.jobs = true /\ (0 <= r.late /\ r.late < r.jobs.length) /\ (0 <= r.obj /\ r.obj <= 4398046511104) /\ 0 <= r.causes /\ r.causes <= 6) (fun h => ⟨h.j, h.late, h.obj, h.causes⟩) fun h => ?_, fun k => ?_⟩
  . rcases k with k | k | k | k
    . exact k h.1
    . exact k (by omega)
    . exact k h.2.2.1
    . exact k h.2.2.2
  have kj : validJ r.sv r.jobs = true := Decidable.not_not.1 fun h => k (.inl h)
  have kl : 0 <= r.late /\ r.late <= (r.jobs.length : Int) - 1 := Decidable.not_not.1 fun h => k (.inr (.inl h))
  have ko : 0 <= r.obj /\ r.obj <= 4398046511104 := Decidable.not_not.1 fun h => k (.inr (.inr (.inl h)))
  have kc : 0 <= r.causes /\ r.causes <= 6 := Decidable.not_not.1 fun h => k (.inr (.inr (.inr h)))
  refine ⟨fun v => ∃ i : Nat, v = i /\ i <= r.ex.length /\ (∀ a : Nat, a < i -> ((0 <= (lat r.ex a).jb /\ (lat r.ex a).jb < r.jobs.length) /\ 0 <= (lat r.ex a).ca /\ (lat r.ex a).ca < r.causes) /\ (isRemM r (lat r.ex a) = true \/ isWorkM r (lat r.ex a) = true)) /\ ∀ a : Nat, a + 1 < i -> extLt (lat r.ex a) (lat r.ex ((a + 1 : Nat) : Int)) = true, fun v => r.ex.length - v.toNat, ⟨0, rfl, by omega, fun a ha => by omega, fun a ha => by omega⟩, ?_⟩
  rintro _ ⟨i, rfl, hi, hx, ho⟩
  refine ⟨fun k1 => ⟨⟨by omega, k1⟩, ⟨by unfold inI; omega, fun _ => trivial, fun k2 => ⟨by unfold inI; omega, fun _ => trivial, fun k3 => ⟨fun k4 => ⟨by omega, h1 _ (lat_mem (xs := r.jobs) (i := (lat r.ex (i : Int)).jb) ⟨by omega, by omega⟩), trivial⟩, fun _ => trivial⟩⟩⟩, fun k2 => ?_, fun k2 => ?_⟩, fun k1 => ?_⟩
  . refine bad (fun h => h.ex i (by omega)) fun h => ?_
    rcases k2 with k2 | k2 | k2
    . exact k2 (by omega)
    . exact k2 (by omega)
    . exact h.2.elim k2.1 k2.2
  . have x1 : 0 <= (lat r.ex (i : Int)).jb /\ (lat r.ex (i : Int)).jb <= (r.jobs.length : Int) - 1 := Decidable.not_not.1 fun h => k2 (.inl h)
    have x2 : 0 <= (lat r.ex (i : Int)).ca /\ (lat r.ex (i : Int)).ca <= r.causes - 1 := Decidable.not_not.1 fun h => k2 (.inr (.inl h))
    have x3 : isRemM r (lat r.ex (i : Int)) = true \/ isWorkM r (lat r.ex (i : Int)) = true := Decidable.not_not.1 fun h => k2 (.inr (.inr ⟨fun a => h (.inl a), fun a => h (.inr a)⟩))
    refine ⟨⟨fun k3 => ⟨by unfold inI; omega, ⟨by omega, by omega⟩, by unfold inI; omega, ⟨by omega, by omega⟩, by simp, trivial⟩, fun _ => trivial⟩, fun k3 => ?_, fun k3 => ⟨by unfold inI; omega, ⟨i + 1, by omega, by omega, fun a ha => ?_, fun a ha => ?_⟩, dec_lt k1⟩⟩
    . obtain ⟨q, rfl⟩ : ∃ q, i = q + 1 := ⟨i - 1, by omega⟩
      have e : (((q + 1 : Nat) : Int) - 1) = (q : Int) := by omega
      rw [e] at k3
      exact bad (fun h => h.ord q (by omega)) ((exLt_iff _ _).1 k3.2)
    . rcases Nat.lt_or_ge a i with h | h
      . exact hx a h
      . rw [show a = i by omega]
        exact ⟨⟨by omega, by omega⟩, x3⟩
    . rcases Nat.lt_or_ge (a + 1) i with h | h
      . exact ho a h
      . have ea : i = a + 1 := by omega
        subst ea
        have e : (((a + 1 : Nat) : Int) - 1) = (a : Int) := by omega
        rw [e] at k3
        exact Decidable.not_not.1 fun h => k3 ⟨by omega, (exLt_iff _ _).2 h⟩
  . have ei : i = r.ex.length := by omega
    subst ei
    exact ((validR_iff r).2 ⟨kj, ⟨kl.1, by omega⟩, ko, kc, hx, ho⟩).symm
theorem spec_valid (r : Req) (h0 : r.sv.length <= 9223372036854775807) (h1 : ∀ j ∈ r.jobs, j.wk.length <= 9223372036854775807) (h2 : r.jobs.length <= 9223372036854775807) (h3 : r.ex.length <= 9223372036854775807) : FnP Try.prog 13 [.agg ((e26 true) r)] (fun xR => xR = .bool (validR r)) :=
  (walk_valid (vcp_valid r h0 h1 h2 h3)).mono (by rintro _ ⟨_, rfl, rfl⟩; rfl)
def vc_sets  (Post : Prop) : Prop :=
  Post
theorem walk_sets {n : Int} {Post : Prop} (hv : vc_sets Post) : FnS Try.prog 42 [.int .i64 n] (fun x => x = .clo 59 [] [.ipt true [.int .i64 n]] /\ Post) := by
 refine FnS.of_walk (T := tt) (nt := 4) ttOk ttMix ⟨⟨Try.f42, Try.func42, rfl, rfl, rfl, rfl⟩⟩ (by simp) ?_
 unfold vc_sets at hv
 change W _ _ _ ⟨4, look [(0, .int .i64 n)], [], 0⟩ _
 refine W.ty [(0, .int _ _)] rfl (W.rL (cL rfl (o_box (v := .int _ _) (p := 0) rfl rfl rfl (cL rfl (zZq (v := .nilF) rfl (eL (W.ty [(1, .ptr _ _)] rfl (W.rL (cL rfl (o_mf (ps := []) (qs := [.ptr _ _]) rfl rfl (cL rfl (zZq (v := .clo _ _ _) rfl (eL (W.ty [(2, .clo _ _ _)] rfl (W.ret (rt (rt_t (v := .clo _ _ _) rfl (rt_n (⟨_, ag_clo 5 _ _ zk (Wks.cons (ag_box 4 rfl zk) zk), rfl, hv⟩)))))))))))))))))))
theorem spec_sets (n : Int)  : FnS Try.prog 42 [.int .i64 n] (fun xR => xR = .clo 59 [] [.ipt true [.int .i64 n]]) :=
  (walk_sets (n := n) (Post := True) trivial).mono (by rintro _ ⟨rfl, -⟩; rfl)
def vc_sets1 (n : Int) : Prop :=
  (0 <= n) /\ (inI ((1 : Int) * 2 ^ (min n.toNat 64))) /\ ∃ (I1 : Int -> Nat -> Prop) (μ1 : Int -> Nat -> Nat), I1 (0 : Int) 0 /\ ∀ (v6 : Int) (g : Nat), I1 v6 g -> ((v6 < ((1 : Int) * 2 ^ (min n.toNat 64))) -> ((rangeI (2 ^ n.toNat))[g]? = some v6) /\ ((inI (v6 + (1 : Int))) /\ (I1 (v6 + (1 : Int)) (g + 1) /\ μ1 (v6 + (1 : Int)) (g + 1) < μ1 v6 g)) /\ (True)) /\ (¬ (v6 < ((1 : Int) * 2 ^ (min n.toNat 64))) -> g = (rangeI (2 ^ n.toNat)).length)
theorem walk_sets1 {n : Int} (hv : vc_sets1 n) : FnIt Try.prog 59 [.ipt true [.int .i64 n]] ((rangeI (2 ^ n.toNat)).map (fun c => .int .i64 c)) := by
 refine FnIt.of_walk (T := tt) (nt := 14) ttOk ttMix ⟨⟨Try.f59, Try.func59, rfl, rfl, rfl, rfl⟩⟩ rfl (Nat.le_of_ble_eq_true rfl) ?_
 intro C hCL
 unfold vc_sets1 at hv
 change WJ C _ _ _ ⟨14, look [(1000000, .gh (0 + 1)), (0, .yl C.l), (1, .ipt true [.int .i64 n])], [], 0⟩ _
 refine WJ.tr [(0, .yl _), (1, .ipt _ _), (1000000, .gh _)] [] ⟨rfl, rfl, rfl, trivial⟩ rfl rfl (WJ.rL (cL rfl (zZx (v := .int _ _) tt3 rfl rfl ⟨_, rfl⟩ ?_)))
 obtain ⟨s1, s2, hv⟩ := hv
 refine cL rfl (o_shl rfl rfl s1 s2 (mI rfl rfl (eL ⟨rfl, ?_⟩)))
 refine WJ.tr [(0, .yl _), (5, .int _ _), (6, .int _ _), (1000000, .gh _)] [] ⟨rfl, rfl, rfl, rfl, trivial⟩ rfl rfl (WJ.block ?_)
 obtain ⟨I1, μ1, hp, hv⟩ := hv
 refine WJ.loop2 (fun v6 g => ⟨14, look [(0, .yl C.l), (5, .int .i64 ((1 : Int) * 2 ^ (min n.toNat 64))), (6, .int .i64 v6), (1000000, .gh (g + 1))], [], 0⟩) I1 μ1 (0 : Int) 0 (St.to_mk (φ := []) rfl (rfl) ⟨Ren.yl _, Ren.int _ _, Ren.int _ _, Ren.gh _, trivial⟩ trivial) rfl hp ?_
 clear hp
 intro v6 g hI
 replace hv := hv v6 g hI
 clear hI
 refine WJ.rL (cL rfl (zYq rfl rfl (eL ⟨rfl, ?_⟩)))
 refine WJ.tr [(0, .yl _), (5, .int _ _), (6, .int _ _), (7, .bool _), (1000000, .gh _)] [] ⟨rfl, rfl, rfl, rfl, rfl, trivial⟩ rfl rfl (WJ.seq' (WJ.cn rfl (fun hc => ?_) (fun hc => ?_)))
 have hv := hv.1 hc
 refine WJ.skip (zZ (WJ.tr [(0, .yl _), (5, .int _ _), (6, .int _ _), (1000000, .gh _)] [] ⟨rfl, rfl, rfl, rfl, trivial⟩ rfl rfl (WJ.seq' (WJ.block (WJ.rL (mI rfl rfl (aI rfl rfl (eL ⟨rfl, ?_⟩))))))))
 refine WJ.tr [(0, .yl _), (3, .int _ _), (5, .int _ _), (6, .int _ _), (1000000, .gh _)] [] ⟨rfl, rfl, rfl, rfl, rfl, trivial⟩ rfl rfl (WJ.rYn (j := 0) 2 rfl (cL rfl (zZp (v := .yl _) rfl (mI rfl rfl (eL (?_))))))
 obtain ⟨s10, hv⟩ := hv
 refine YSt.intro ⟨_, _, _, g, _, [(0, .yl C.l), (5, .int .i64 ((1 : Int) * 2 ^ (min n.toNat 64))), (6, .int .i64 v6)], rfl, .inl rfl, by decide, rfl, rfl, (by rw [hCL, List.getElem?_map, s10]; rfl), zZz _ _ _ _, rfl, ⟨rfl, rfl, rfl, trivial⟩, ?_, ?_⟩
 have hv := hv.1
 refine cL rfl (o_notB rfl (eL ⟨rfl, ?_⟩))
 refine WJ.tr [(0, .yl _), (5, .int _ _), (6, .int _ _), (12, .bool _), (1000000, .gh _)] [] ⟨rfl, rfl, rfl, rfl, rfl, trivial⟩ rfl rfl (WJ.cF rfl (WJ.skip (zYv (zZ (WJ.tr [(0, .yl _), (5, .int _ _), (6, .int _ _), (1000000, .gh _)] [] ⟨rfl, rfl, rfl, rfl, trivial⟩ rfl rfl (WJ.rL1 ?_))))))
 obtain ⟨s11, hv⟩ := hv
 refine cL rfl (o_add rfl rfl s11 (mI rfl rfl (eL ⟨rfl, ?_⟩)))
 exact zZ (⟨(), (v6 + (1 : Int)), (g + 1), hv, St.to_mk (φ := []) rfl (rfl) ⟨Ren.yl _, Ren.int _ _, Ren.int _ _, Ren.gh _, trivial⟩ trivial, rfl⟩)
 have hv := hv.2
 refine cL rfl (o_notB rfl (eL ⟨rfl, ?_⟩))
 refine WJ.tr [(0, .yl _), (5, .int _ _), (6, .int _ _), (12, .bool _), (1000000, .gh _)] [] ⟨rfl, rfl, rfl, rfl, rfl, trivial⟩ rfl rfl (WJ.cT rfl (WJ.ret (zYt (zZr (zZr (zYt (⟨.inr rfl, .inl rfl⟩)))))))
 have hv := hv.2 hc
 refine WJ.exit (zZt (zZt (zYs (⟨.inl rfl, .inr (by rw [List.length_map]; exact congrArg (fun k => AV.gh (k + 1)) hv)⟩))))
set_option maxHeartbeats 4000000 in
theorem vcp_sets1 (n : Int) (h0 : 0 <= n /\ n <= 6) : vc_sets1 n := by
  have hp : (2 : Int) ^ (min n.toNat 64) = ((2 ^ n.toNat : Nat) : Int) /\ (2 ^ n.toNat : Nat) <= 64 := by
    obtain ⟨c, hc⟩ : ∃ c : Nat, n = c := ⟨n.toNat, by omega⟩
    rw [hc] at h0 ⊢
    have : c <= 6 := by omega
    rw [Int.toNat_natCast, Nat.min_eq_left (by omega)]
    rcases c with _ | _ | _ | _ | _ | _ | _ | c <;> first | decide | omega
  obtain ⟨p1, p2⟩ := hp
  have hl : (rangeI (2 ^ n.toNat)).length = 2 ^ n.toNat := by simp [rangeI]
  unfold vc_sets1
  rw [p1, Int.one_mul, hl]
  refine ⟨h0.1, by unfold inI; omega, fun v g => v = g /\ g <= 2 ^ n.toNat, fun v _ => 2 ^ n.toNat - v.toNat, ⟨rfl, by omega⟩, ?_⟩
  rintro _ g ⟨rfl, hg⟩
  refine ⟨fun k => ⟨?_, ⟨by unfold inI; omega, ⟨by omega, by omega⟩, dec_lt k⟩, trivial⟩, fun k => by omega⟩
  have : g < 2 ^ n.toNat := by omega
  simp [rangeI, this]
theorem it_sets1 (n : Int) (h0 : 0 <= n /\ n <= 6) : FnIt Try.prog 59 [.ipt true [.int .i64 n]] ((rangeI (2 ^ n.toNat)).map (fun c => .int .i64 c)) :=
  walk_sets1 (vcp_sets1 n h0)
def vc_changes (r : Req) (p : Int) (Post : (List Chg) -> Prop) : Prop :=
  ∃ (I1 : Int -> List Chg -> List Chg -> Prop) (μ1 : Int -> List Chg -> List Chg -> Nat), I1 (0 : Int) [] [] /\ ∀ (v11 : Int) (r1 : List Chg) (r2 : List Chg), I1 v11 r1 r2 -> ((v11 < (r.ex.length : Int)) -> ∃ J2 : List Chg -> List Chg -> Prop, (∀ (r1_1 : List Chg) (r2_1 : List Chg), J2 r1_1 r2_1 -> (inI (v11 + (1 : Int))) /\ (I1 (v11 + (1 : Int)) r1_1 r2_1 /\ μ1 (v11 + (1 : Int)) r1_1 r2_1 < μ1 v11 r1 r2)) /\ ((0 <= v11 /\ v11 < (r.ex.length : Int)) /\ (0 <= ((lat r.ex v11).ca)) /\ ((bitI .and .i64 (p.fdiv (2 ^ (min ((lat r.ex v11).ca).toNat 64))) (1 : Int) = (1 : Int)) -> J2 r1 r2) /\ (¬ (bitI .and .i64 (p.fdiv (2 ^ (min ((lat r.ex v11).ca).toNat 64))) (1 : Int) = (1 : Int)) -> (((lat r.ex v11).pc = (-1 : Int)) -> ((r2 ++ [(Chg.rem ((lat r.ex v11).jb))]).length <= 1073741824) /\ J2 r1 (r2 ++ [(Chg.rem ((lat r.ex v11).jb))])) /\ (¬ ((lat r.ex v11).pc = (-1 : Int)) -> ((r1 ++ [(Chg.upd (lat r.ex v11))]).length <= 1073741824) /\ J2 (r1 ++ [(Chg.upd (lat r.ex v11))]) r2)))) /\ (¬ (v11 < (r.ex.length : Int)) -> ((r1 ++ r2).length <= 1073741824) /\ Post (r1 ++ r2))
theorem walk_changes {r : Req} {p : Int} {Post : (List Chg) -> Prop} (hv : vc_changes r p Post) : FnP Try.prog 61 [.agg ((e26 true) r), .int .i64 p] (fun x => ∃ q0, x = .lst false q0.length (zYy (e107 true) q0) /\ Post q0) := by
 refine FnP.of_walk (T := tt) (nt := 43) ttOk ttMix ⟨⟨Try.f61, Try.func61, rfl, rfl, rfl, rfl⟩⟩ (by simp) ?_
 unfold vc_changes at hv
 change W _ _ _ ⟨43, look [(0, .agg [.lst true r.sv.length (zYy zYx r.sv), .lst true r.jobs.length (zYy (e53 true) r.jobs), .int .i64 r.late, .int .i64 r.obj, .int .i64 r.causes, .lst true r.ex.length (zYy e58 r.ex)]), (1, .int .i64 p)], [], 0⟩ _
 refine W.ty [(0, .agg _), (1, .int _ _)] rfl (W.rL (cL rfl (o_box (v := .agg _) (p := 0) rfl rfl rfl (cL rfl (zZq (v := .nilS) rfl (eL (W.ty [(1, .int _ _), (2, .ptr _ _), (4, .nilS)] rfl (W.rL (cL rfl (zZq (v := .nilS) rfl (eL (W.ty [(1, .int _ _), (2, .ptr _ _), (4, .nilS), (5, .nilS)] rfl (W.seq' (W.rL (cL rfl (o_fa tt26 rfl tt24 rfl (cL rfl (zZx (v := .lst _ _ _) tt24 rfl rfl ⟨_, rfl⟩ (cL rfl (zXw (v := .lst _ _ _) tt24 rfl rfl (mI rfl rfl (eL (W.ty [(1, .int _ _), (4, .nilS), (5, .nilS), (9, .lst _ _ _), (10, .int _ _), (11, .int _ _)] rfl (W.block ?_))))))))))))))))))))))))
 obtain ⟨I1, μ1, hp, hv⟩ := hv
 refine W.loop3 (fun v11 r1 r2 => ⟨43, look [(1, .int .i64 p), (4, .ref true 1 r1.length), (5, .ref true 2 r2.length), (9, .lst true r.ex.length (zYy e58 r.ex)), (10, .int .i64 (r.ex.length : Int)), (11, .int .i64 v11)], [.dead, .row 107 2 (zYy (e107 false) r1), .row 107 2 (zYy (e107 false) r2)], 0⟩) I1 μ1 (0 : Int) [] [] (St.to_mk (φ := [none, none, none]) rfl (rfl) ⟨Ren.int _ _, Ren.nilR rfl rfl, Ren.nilR rfl rfl, Ren.lst _ _ _, Ren.int _ _, Ren.int _ _, trivial⟩ ⟨rfl, rfl, rfl, trivial⟩) hp ?_
 clear hp
 intro v11 r1 r2 hI
 replace hv := hv v11 r1 r2 hI
 clear hI
 refine W.rL (cL rfl (zYq rfl rfl (eL (W.ty [(1, .int _ _), (4, .ref _ _ _), (5, .ref _ _ _), (9, .lst _ _ _), (10, .int _ _), (11, .int _ _), (12, .bool _)] rfl (W.seq' (W.cn rfl (fun hc => ?_) (fun hc => ?_)))))))
 have hv := hv.1 hc
 refine W.skip (zZ (W.ty [(1, .int _ _), (4, .ref _ _ _), (5, .ref _ _ _), (9, .lst _ _ _), (10, .int _ _), (11, .int _ _)] rfl ?_))
 obtain ⟨J2, hj, hv⟩ := hv
 refine W.mid2 (fun r1_1 r2_1 => ⟨43, look [(1, .int .i64 p), (4, .ref true 1 r1_1.length), (5, .ref true 2 r2_1.length), (9, .lst true r.ex.length (zYy e58 r.ex)), (10, .int .i64 (r.ex.length : Int)), (11, .int .i64 v11)], [.dead, .row 107 2 (zYy (e107 false) r1_1), .row 107 2 (zYy (e107 false) r2_1)], 0⟩) J2 ?_ ?_
 intro r1_1 r2_1
 intro hv
 replace hv := hj r1_1 r2_1 hv
 refine W.rL1 ?_
 obtain ⟨s42, hv⟩ := hv
 refine cL rfl (o_add rfl rfl s42 (mI rfl rfl (eL (zZ (⟨(), (v11 + (1 : Int)), r1_1, r2_1, hv, St.to_mk (φ := [none, some 1, some 2]) rfl (rfl) ⟨Ren.int _ _, Ren.ref rfl (fun h => rfl), Ren.ref rfl (fun h => rfl), Ren.lst _ _ _, Ren.int _ _, Ren.int _ _, trivial⟩ ⟨rfl, zE enc107 false r1_1 rfl, zE enc107 false r2_1 rfl, trivial⟩⟩)))))
 clear hj
 refine W.block (W.rL ?_)
 obtain ⟨s43, hv⟩ := hv
 refine cL rfl (zYu tt24 tt58 rfl rfl (enc58.wd true) rfl s43 ?_)
 intro rest43
 refine cL rfl (zYp (cs := [.int _ _, .int _ _, .int _ _, .int _ _, .int _ _, .int _ _]) tt58 rfl rfl ⟨_, rfl⟩ rfl (cL rfl (zXy (p := 3) tt58 rfl rfl (cLn (o_stB (v := .agg _) (vs := [.int _ _, .int _ _, .int _ _, .int _ _, .int _ _, .int _ _]) (cs2 := [.int _ _, .int _ _, .int _ _, .int _ _, .int _ _, .int _ _]) tt58 rfl rfl rfl rfl rfl (Nat.le_of_ble_eq_true rfl) rfl (eL (W.ty [(1, .int _ _), (4, .ref _ _ _), (5, .ref _ _ _), (7, .ptr _ _), (9, .lst _ _ _), (10, .int _ _), (11, .int _ _)] rfl (W.block (W.rL (mI rfl rfl (cL rfl (o_fa tt58 rfl tt3 rfl (cL rfl (zZx (v := .int _ _) tt3 rfl rfl ⟨_, rfl⟩ ?_))))))))))))))
 obtain ⟨s44, hv⟩ := hv
 refine cL rfl (o_shr rfl rfl s44 (cL rfl (o_and rfl rfl (cL rfl (o_eqI rfl rfl rfl (aB rfl rfl (eL (W.ty [(1, .int _ _), (4, .ref _ _ _), (5, .ref _ _ _), (7, .ptr _ _), (9, .lst _ _ _), (10, .int _ _), (11, .int _ _), (22, .bool _)] rfl (W.cn rfl (fun hc => ?_) (fun hc => ?_))))))))))
 have hv := hv.1 hc
 refine W.skip (zYv (zYv (zZ (⟨(), r1, r2, hv, St.to_mk (φ := [none, some 1, some 2]) rfl (rfl) ⟨Ren.int _ _, Ren.ref rfl (fun h => rfl), Ren.ref rfl (fun h => rfl), Ren.lst _ _ _, Ren.int _ _, Ren.int _ _, trivial⟩ ⟨rfl, zE enc107 false r1 rfl, zE enc107 false r2 rfl, trivial⟩⟩))))
 have hv := hv.2 hc
 refine W.rL (cL rfl (o_fa tt58 rfl tt3 rfl (cL rfl (zZx (v := .int _ _) tt3 rfl rfl ⟨_, rfl⟩ (cL rfl (o_eqI rfl rfl rfl (aB rfl rfl (eL (W.ty [(1, .int _ _), (4, .ref _ _ _), (5, .ref _ _ _), (7, .ptr _ _), (9, .lst _ _ _), (10, .int _ _), (11, .int _ _), (29, .bool _)] rfl (W.cn rfl (fun hc => ?_) (fun hc => ?_)))))))))))
 have hv := hv.1 hc
 refine W.rL1g (cL rfl (zZp (v := .ref _ _ _) rfl (cL rfl (o_fa tt58 rfl tt3 rfl (cL rfl (zZx (v := .int _ _) tt3 rfl rfl ⟨_, rfl⟩ (cL rfl (o_build (qs := [(0, .int _ _), (1, .clo _ _ _)]) (cs := [.int _ _, .clo _ _ _]) tt107 rfl rfl rfl (cL rfl (o_bs1 (v := .agg _) (q := 4) tt103 tt107 rfl rfl rfl rfl rfl rfl rfl rfl ?_))))))))))
 obtain ⟨s45, hv⟩ := hv
 refine cL rfl (o_apR (p := 5) (q := (r2 ++ [(Chg.rem ((lat r.ex v11).jb))]).length) tt103 tt107 rfl rfl (src_ref rfl rfl) rfl rfl (zYw (enc107.wd false) _) (Nat.le_trans (Nat.le_of_eq (@List.length_append _ (r2) ([(Chg.rem ((lat r.ex v11).jb))])).symm) s45) rfl (@List.length_append _ (r2) ([(Chg.rem ((lat r.ex v11).jb))])).symm (encL_app (e107 false) r2 [(Chg.rem ((lat r.ex v11).jb))]) (cL rfl (zZq (v := .ref _ _ _) rfl (eL (go_nil (zYv (zYv (zZ (⟨(), r1, (r2 ++ [(Chg.rem ((lat r.ex v11).jb))]), hv, St.to_mk (φ := [none, some 1, some 5]) rfl (rfl) ⟨Ren.int _ _, Ren.ref rfl (fun h => rfl), Ren.ref rfl (fun h => rfl), Ren.lst _ _ _, Ren.int _ _, Ren.int _ _, trivial⟩ ⟨rfl, zE enc107 false r1 rfl, zE enc107 false (r2 ++ [(Chg.rem ((lat r.ex v11).jb))]) rfl, trivial⟩⟩)))))))))
 have hv := hv.2 hc
 refine W.sealP false 3 (l := [(1, .int .i64 p), (4, .ref true 1 r1.length), (5, .ref true 2 r2.length), (7, .ipt false [.int .i64 ((lat r.ex v11).jb), .int .i64 ((lat r.ex v11).pc), .int .i64 ((lat r.ex v11).ca), .int .i64 ((lat r.ex v11).ba), .int .i64 ((lat r.ex v11).op), .int .i64 ((lat r.ex v11).ver)]), (9, .lst true r.ex.length (zYy e58 r.ex)), (10, .int .i64 (r.ex.length : Int)), (11, .int .i64 v11), (29, .bool (decide ((lat r.ex v11).pc = (-1 : Int))))]) rfl (enc58.sl false (lat r.ex v11)) ⟨.inl rfl, .inl rfl, .inl rfl, .inr ⟨rfl, rfl⟩, .inl rfl, .inl rfl, .inl rfl, .inl rfl, trivial⟩ rfl (W.rL1g (cL rfl (zZp (v := .ref _ _ _) rfl (cL rfl (o_faP tt58 rfl tt3 rfl (cL rfl (zZx (v := .int _ _) tt3 rfl rfl ⟨_, rfl⟩ (cL rfl (o_mf (ps := []) (qs := [.ipt _ _]) rfl rfl (cL rfl (o_build (qs := [(0, .int _ _), (1, .clo _ _ _)]) (cs := [.int _ _, .clo _ _ _]) tt107 rfl rfl rfl (cL rfl (o_bs1 (v := .agg _) (q := 4) tt103 tt107 rfl rfl rfl rfl rfl rfl rfl rfl ?_)))))))))))))
 obtain ⟨s46, hv⟩ := hv
 refine cL rfl (o_apR (p := 5) (q := (r1 ++ [(Chg.upd (lat r.ex v11))]).length) tt103 tt107 rfl rfl (src_ref rfl rfl) rfl rfl (zYw (enc107.wd false) _) (Nat.le_trans (Nat.le_of_eq (@List.length_append _ (r1) ([(Chg.upd (lat r.ex v11))])).symm) s46) rfl (@List.length_append _ (r1) ([(Chg.upd (lat r.ex v11))])).symm (encL_app (e107 false) r1 [(Chg.upd (lat r.ex v11))]) (cL rfl (zZq (v := .ref _ _ _) rfl (eL (go_nil (zYv (zYv (zZ (⟨(), (r1 ++ [(Chg.upd (lat r.ex v11))]), r2, hv, St.to_mk (φ := [none, some 5, some 2]) rfl (rfl) ⟨Ren.int _ _, Ren.ref rfl (fun h => rfl), Ren.ref rfl (fun h => rfl), Ren.lst _ _ _, Ren.int _ _, Ren.int _ _, trivial⟩ ⟨rfl, zE enc107 false (r1 ++ [(Chg.upd (lat r.ex v11))]) rfl, zE enc107 false r2 rfl, trivial⟩⟩)))))))))
 have hv := hv.2 hc
 refine W.exit (zZt (zZt (zYs (zZ (W.ty [(4, .ref _ _ _), (5, .ref _ _ _)] rfl (W.rL ?_))))))
 iterate 2 refine cL rfl (zZp (v := .ref _ _ _) rfl ?_)
 obtain ⟨s47, hv⟩ := hv
 refine cL rfl (o_apR (p := 3) (q := (r1 ++ r2).length) tt103 tt107 rfl rfl (src_ref rfl (zYw (enc107.wd false) _)) (zYw (enc107.wd false) _) rfl (zYw (enc107.wd false) _) (Nat.le_trans (Nat.le_of_eq (@List.length_append _ (r1) (r2)).symm) s47) rfl (@List.length_append _ (r1) (r2)).symm (encL_app (e107 false) r1 r2) (cL rfl (zZq (v := .ref _ _ _) rfl (eL (W.ty [(4, .ref _ _ _)] rfl (W.ret (rt (rt_t (v := .ref _ _ _) rfl (rt_n (⟨_, rs_ref enc107 4 _ rfl rfl, (r1 ++ r2), rfl, hv⟩))))))))))
set_option maxHeartbeats 4000000 in
theorem vcp_changes (r : Req) (p : Int) (h0 : r.ex.length <= 1073741824) (h1 : ∀ x ∈ r.ex, 0 <= x.ca) : vc_changes r p (fun q0 => q0 = (chgM r.ex p)) := by
  have su : ∀ (l : List Ext) (x : Ext), updM (l ++ [x]) p = updM l p ++ if ¬ hasB p x.ca /\ ¬ x.pc = -1 then [.upd x] else [] := fun l x => by
    unfold updM
    rw [List.filter_append, List.map_append]
    congr 1
    by_cases h : ¬ hasB p x.ca /\ ¬ x.pc = -1
    . rw [if_pos h, List.filter_cons_of_pos (by simpa using h)]; rfl
    . rw [if_neg h, List.filter_cons_of_neg (by simpa using h)]; rfl
  have sr : ∀ (l : List Ext) (x : Ext), remM (l ++ [x]) p = remM l p ++ if ¬ hasB p x.ca /\ x.pc = -1 then [.rem x.jb] else [] := fun l x => by
    unfold remM
    rw [List.filter_append, List.map_append]
    congr 1
    by_cases h : ¬ hasB p x.ca /\ x.pc = -1
    . rw [if_pos h, List.filter_cons_of_pos (by simpa using h)]; rfl
    . rw [if_neg h, List.filter_cons_of_neg (by simpa using h)]; rfl
  have lu : ∀ l : List Ext, (updM l p).length + (remM l p).length <= l.length := fun l => by
    induction l with
    | nil => simp [updM, remM]
    | cons x l ih =>
      unfold updM remM at ih ⊢
      simp only [List.length_map] at ih ⊢
      simp only [List.filter_cons, List.length_cons]
      split <;> split <;> (try simp only [List.length_cons]) <;> try omega
      rename_i a b
      exact absurd (of_decide_eq_true b).2 (of_decide_eq_true a).2
  unfold vc_changes
  refine ⟨fun v r1 r2 => ∃ i : Nat, v = i /\ i <= r.ex.length /\ r1 = updM (r.ex.take i) p /\ r2 = remM (r.ex.take i) p, fun v _ _ => r.ex.length - v.toNat, ⟨0, rfl, by omega, rfl, rfl⟩, ?_⟩
  rintro _ _ _ ⟨i, rfl, hi, rfl, rfl⟩
  refine ⟨fun k1 => ⟨fun a b => a = updM (r.ex.take (i + 1)) p /\ b = remM (r.ex.take (i + 1)) p, ?_, ⟨by omega, h1 _ (lat_mem ⟨by omega, by omega⟩), fun k2 => ?_, fun k2 => ⟨fun k3 => ?_, fun k3 => ?_⟩⟩⟩, fun k1 => ?_⟩
  . rintro a b ⟨ha, hb⟩
    exact ⟨by unfold inI; omega, ⟨i + 1, by omega, by omega, ha, hb⟩, by show r.ex.length - ((i : Int) + 1).toNat < r.ex.length - ((i : Int)).toNat; omega⟩
  all_goals first
    | rw [take_succ_lat (by omega), su, sr]
    | skip
  . rw [if_neg (fun h => h.1 k2), if_neg (fun h => h.1 k2)]; simp
  . have k2 : ¬ hasB p (lat r.ex i).ca := k2
    rw [if_neg (fun h => h.2 k3), if_pos ⟨k2, k3⟩]
    have := lu (r.ex.take i)
    have : (r.ex.take i).length = i := by simp; omega
    refine ⟨by rw [List.length_append]; simp only [List.length_singleton]; omega, by simp, rfl⟩
  . have k2 : ¬ hasB p (lat r.ex i).ca := k2
    rw [if_pos ⟨k2, k3⟩, if_neg (fun h => k3 h.2)]
    have := lu (r.ex.take i)
    have : (r.ex.take i).length = i := by simp; omega
    refine ⟨by rw [List.length_append]; simp only [List.length_singleton]; omega, rfl, by simp⟩
  . have e : r.ex.take i = r.ex := List.take_of_length_le (by omega)
    rw [e]
    have := lu r.ex
    exact ⟨by rw [List.length_append]; omega, rfl⟩
theorem spec_changes (r : Req) (p : Int) (h0 : r.ex.length <= 1073741824) (h1 : ∀ x ∈ r.ex, 0 <= x.ca) : FnP Try.prog 61 [.agg ((e26 true) r), .int .i64 p] (fun xR => xR = .lst false (chgM r.ex p).length (zYy (e107 true) (chgM r.ex p))) :=
  (walk_changes (vcp_changes r p h0 h1)).mono (by rintro _ ⟨_, rfl, rfl⟩; rfl)
end Go.Lat
namespace Go.Lat
open Go.RowKit Go.Proofs
def reqB (r : Req) : AObj := .box 26 [.lst true r.sv.length (zYy zYx r.sv), .lst true r.jobs.length (zYy (e53 true) r.jobs), .int .i64 r.late, .int .i64 r.obj, .int .i64 r.causes, .lst true r.ex.length (zYy e58 r.ex)]
def jw0 (n : Nat) : List JW := List.replicate n ⟨0, true, []⟩
theorem up_jw (S : AObj) (js : List JW) : UpH (jwK .dead S js) (jwH js) := by
  refine ⟨by simp [jwK, jwH], jw_all (P := fun i o' => o'.live = true -> ∃ o, (jwK .dead S js)[i]? = some o /\ UpO o o') (fun h => by cases h) (fun _ => ⟨_, rfl, rfl, rfl, rfl, Ups.cellsN fun i hi => Ups.up fun x hx => ?_⟩) (fun h => by cases h) (fun k hk _ => ⟨_, objsN_getA (A := [.dead, jwR 3 js, S]) hk, rfl, rfl, rfl, Ups.up fun x hx => ?_⟩)⟩
  . simp only [jwC, List.mem_cons, List.not_mem_nil, or_false] at hx
    rcases hx with rfl | rfl
    . rfl
    . split <;> rfl
  . simp only [zYy, List.mem_flatMap, e60, List.mem_cons, List.not_mem_nil, or_false] at hx
    obtain ⟨_, _, rfl | rfl⟩ := hx <;> rfl
def eU (_ : Unit) : List AV := [.int .i64 0, .nilS]
theorem spec_with (r : Req) (p : Int) (hj : r.jobs.length <= 1073741824) (hw : ∀ j ∈ r.jobs, j.wk.length <= 1073741824) (hx : r.ex.length <= 1073741824) (hc : ∀ x ∈ r.ex, 0 <= x.ca) (hok : okAll (r.jobs.map fullJ) (chgM r.ex p)) :
    FnP Try.prog 46 [.agg (e26 true r), .int .i64 p] (fun x => x = .lst false (withM r p).length (zYy (e53 true) (withM r p))) := by
  refine FnP.of_walk (T := tt) (nt := 58) ttOk ttMix ⟨⟨Try.f46, Try.func46, rfl, rfl, rfl, rfl⟩⟩ (by simp) ?_
  change W _ _ _ ⟨58, look [(0, .agg [.lst true r.sv.length (zYy zYx r.sv), .lst true r.jobs.length (zYy (e53 true) r.jobs), .int .i64 r.late, .int .i64 r.obj, .int .i64 r.causes, .lst true r.ex.length (zYy e58 r.ex)]), (1, .int .i64 p)], [], 0⟩ _
  refine W.rL (cL rfl (o_box (v := .agg _) (p := 0) rfl rfl rfl (cL rfl (zZq (v := .nilS) rfl (eL (W.tz [(1, .int _ _), (2, .ptr _ _)] [reqB r] rfl rfl ?_))))))
  refine W.rLmT ⟨58, look [(1, .int .i64 p), (2, .ptr 0 0), (5, .ref false 1 r.jobs.length)], jwK (reqB r) .dead (jw0 r.jobs.length), 0⟩ (cL rfl (o_fa tt26 rfl tt23 rfl (cL rfl (zZx (v := .lst _ _ _) tt23 rfl rfl ⟨_, rfl⟩ (cL rfl (zXw (v := .lst _ _ _) tt23 rfl rfl (cL rfl (o_mkS (p := 1) (en := eU) (x0 := ()) tt23 tt53 rfl rfl rfl (fun _ => rfl) rfl ⟨by omega, by omega⟩ rfl (cL rfl (zZq (v := .ref _ _ _) rfl (eL ?_))))))))))) ?_
  . have hn : (jw0 r.jobs.length).length = r.jobs.length := by simp [jw0]
    refine to_jw (fun k => if k < 2 then some k else none) (fun i j k hi hj h1 h2 => ?_) ?_ ?_ ?_ ?_ ?_
    . split at h1 <;> split at h2 <;> simp_all
    . rw [hn]
      exact ⟨Ren.int _ _, Ren.ptr (idx_get (by omega)), Ren.ref (idx_get (by omega)) id, trivial⟩
    . exact .inr ⟨0, rfl, .inr ⟨reqB r, rfl, rfl, Rens.cl (by intro x hx; simp [reqB] at hx; rcases hx with rfl | rfl | rfl | rfl | rfl | rfl <;> rfl)⟩⟩
    . refine .inr ⟨1, rfl, .inr ⟨_, rfl, ?_⟩⟩
      show RenO _ (.row 53 2 (zYy eU (List.replicate (r.jobs.length : Int).toNat ()))) _
      rw [Int.toNat_natCast, cellsN_encL, List.length_replicate]
      have := ren_jwR (φ := idx (3 + (jw0 r.jobs.length).length) fun k => if k < 2 then some k else none) (js := jw0 r.jobs.length) (js' := jw0 r.jobs.length) (e := fun i => eU (lat (List.replicate r.jobs.length ()) (i : Int))) (fun _ => rfl) rfl (fun i hi => by
        rw [hn] at hi
        have e : jwC 3 (jw0 r.jobs.length) i = [.int .i64 0, .nilS] := by simp [jwC, jw0, lat_rep hi]
        rw [e]
        exact Rens.cl (by intro x hx; simp [eU] at hx; rcases hx with rfl | rfl <;> rfl))
      rw [hn] at this ⊢
      exact this
    . exact .inl ⟨rfl, rfl⟩
    . intro k hk
      rw [hn] at hk
      refine .inl ⟨by simp only [if_neg (by omega : ¬ 3 + k < 2)], ?_⟩
      simp [jwO, jw0, lat_rep hk, AObj.live, zYy]
  refine W.seq' (W.rL (cL rfl (o_fa tt26 rfl tt23 rfl (cL rfl (zZx (v := .lst _ _ _) tt23 rfl rfl ⟨_, rfl⟩ (cL rfl (zXw (v := .lst _ _ _) tt23 rfl rfl (mI rfl rfl (eL (W.block ?_))))))))))
  refine W.loop2 (fun (i : Nat) (js : List JW) => ⟨58, look [(1, .int .i64 p), (2, .ptr 0 0), (5, .ref false 1 r.jobs.length), (15, .lst true r.jobs.length (zYy (e53 true) r.jobs)), (16, .int .i64 (r.jobs.length : Int)), (17, .int .i64 (i : Int))], jwK (reqB r) .dead js, 0⟩)
    (fun i js => i <= r.jobs.length /\ js.length = r.jobs.length /\ ∀ k : Nat, k < i -> lat js (k : Int) = fullJ (lat r.jobs (k : Int))) (fun i _ => r.jobs.length - i) 0 (jw0 r.jobs.length) ?_ ⟨by omega, by simp [jw0], fun k hk => by omega⟩ ?_
  . refine to_jw (fun k => some k) (fun i j k _ _ h1 h2 => by cases h1; cases h2; rfl) ?_ (.inr ⟨0, rfl, .inr ⟨reqB r, rfl, rfl, Rens.cl (by intro x hx; simp at hx; rcases hx with rfl | rfl | rfl | rfl | rfl | rfl <;> rfl)⟩⟩) (.inr ⟨1, rfl, .inr ⟨_, rfl, ?_⟩⟩) (.inr ⟨2, rfl, .inl rfl⟩) ?_
    . exact ⟨Ren.int _ _, Ren.ptr (idx_get (by omega)), Ren.ref (idx_get (by omega)) id, Ren.lst _ _ _, Ren.int _ _, Ren.int _ _, trivial⟩
    . exact ren_jwR (wdJ _ _) rfl fun i hi => ren_jwC fun _ => idx_get (by omega)
    . exact fun k hk => .inr ⟨3 + k, rfl, .inr ⟨_, objsN_getA (A := [reqB r, jwR 3 (jw0 r.jobs.length), .dead]) hk, ren_jwO _ _⟩⟩
  rintro i js ⟨hi, hl, hjs⟩
  refine W.rL (cL rfl (zYq rfl rfl (eL (W.seq' (W.cn rfl (fun hc => ?_) (fun hc => ?_))))))
  . refine W.skip (zZ ?_)
    have hiN : i < r.jobs.length := by omega
    have hiI : (0 : Int) <= (i : Int) /\ (i : Int) < (r.jobs.length : Int) := ⟨by omega, by omega⟩
    have hmem : lat r.jobs (i : Int) ∈ r.jobs := lat_mem ⟨by omega, by omega⟩
    have hm := hw _ hmem
    refine W.seq' (W.block ?_)
    refine W.rLmT ⟨58, look [(1, .int .i64 p), (2, .ptr 0 0), (5, .ref false 1 r.jobs.length), (6, .int .i64 (i : Int)), (7, .ptr 2 0), (15, .lst true r.jobs.length (zYy (e53 true) r.jobs)), (16, .int .i64 (r.jobs.length : Int)), (17, .int .i64 (i : Int))], jwK (reqB r) (.box 53 (e53 true (lat r.jobs (i : Int)))) js, 0⟩ (mI rfl rfl (cL rfl (zYu tt23 tt53 rfl rfl (enc53.wd true) rfl hiI ?_))) ?_
    . intro rest
      refine cL rfl (zYp (cs := [.int _ _, .lst _ _ _]) tt53 rfl rfl ⟨_, rfl⟩ rfl (cL rfl (zXy (p := (jwK (reqB r) .dead js).length) tt53 rfl rfl (aI rfl rfl (cLn (o_stB (v := .agg _) (vs := [.int _ _, .lst _ _ _]) (cs2 := [.int _ _, .lst _ _ _]) tt53 rfl rfl rfl rfl (last_get _ _) (Nat.le_of_ble_eq_true rfl) rfl (eL ?_)))))))
      rw [last_set]
      have hN : (jwK (reqB r) .dead js).length = 3 + js.length := by simp [jwK, objsN_len]; omega
      refine to_jw (fun k => if k = 2 then some (3 + js.length) else some k) (fun i j k hi hj h1 h2 => ?_) ?_ (.inr ⟨0, rfl, .inr ⟨reqB r, rfl, rfl, Rens.cl (by intro x hx; simp at hx; rcases hx with rfl | rfl | rfl | rfl | rfl | rfl <;> rfl)⟩⟩) (.inr ⟨1, rfl, .inr ⟨_, rfl, ?_⟩⟩) (.inr ⟨3 + js.length, rfl, .inr ⟨.box 53 (e53 true (lat r.jobs (i : Int))), by rw [<- hN]; exact last_get _ _, rfl, Rens.cl (enc53.cl true _)⟩⟩) ?_
      . split at h1 <;> split at h2 <;> simp at h1 h2 <;> omega
      . exact ⟨Ren.int _ _, Ren.ptr (idx_get (by omega)), Ren.ref (idx_get (by omega)) id, Ren.int _ _, Ren.ptr (by rw [idx_get (by omega), if_pos rfl, hN]), Ren.lst _ _ _, Ren.int _ _, Ren.int _ _, trivial⟩
      . exact ren_jwR (wdJ _ _) rfl fun i hi => ren_jwC fun _ => by
          rw [idx_get (by omega), if_neg (by omega)]
      . intro k hk
        refine .inr ⟨3 + k, if_neg (by omega), .inr ⟨jwO js k, ?_, ren_jwO _ _⟩⟩
        rw [List.getElem?_append_left (by rw [hN]; omega)]
        exact objsN_getA (A := [reqB r, jwR 3 js, .dead]) hk
    -- the job's pieces of work: a new row
    obtain ⟨m, hme⟩ : ∃ m, m = (lat r.jobs (i : Int)).wk.length := ⟨_, rfl⟩
    obtain ⟨js', hjs'⟩ : ∃ js', js' = js.set i ⟨(lat r.jobs (i : Int)).ar, false, List.replicate m ⟨0, 0⟩⟩ := ⟨_, rfl⟩
    have hl' : js'.length = js.length := by rw [hjs', List.length_set]
    have hi' : i < js.length := by omega
    have hla : ∀ k : Nat, lat js' (k : Int) = if k = i then ⟨(lat r.jobs (i : Int)).ar, false, List.replicate m ⟨0, 0⟩⟩ else lat js (k : Int) := fun k => by rw [hjs', latN_set hi']
    have hN : (jwK (reqB r) (.box 53 (e53 true (lat r.jobs (i : Int)))) js).length = 3 + js.length := by simp [jwK, objsN_len]; omega
    refine W.rPmT ⟨58, look [(1, .int .i64 p), (2, .ptr 0 0), (5, .ref false 1 r.jobs.length), (6, .int .i64 (i : Int)), (7, .ptr 2 0), (15, .lst true r.jobs.length (zYy (e53 true) r.jobs)), (16, .int .i64 (r.jobs.length : Int)), (17, .int .i64 (i : Int))], jwK (reqB r) (.box 53 (e53 true (lat r.jobs (i : Int)))) js', 0⟩ [0, 1, 2, 3, 4, 5, 6, 7, 8, 9, 10] (by decide +kernel) rfl
      (cL rfl (zZp (v := .ref _ _ _) rfl (mI rfl rfl (cL rfl (o_fa tt53 rfl tt3 rfl (cL rfl (zZx (v := .int _ _) tt3 rfl rfl ⟨_, rfl⟩ (cL rfl (o_fa tt53 rfl tt51 rfl (cL rfl (zZx (v := .lst _ _ _) tt51 rfl rfl ⟨_, rfl⟩ (cL rfl (zXw (v := .lst _ _ _) tt51 rfl rfl (cL rfl (o_mkS (p := (jwK (reqB r) (.box 53 (e53 true (lat r.jobs (i : Int)))) js).length) (en := e60) (x0 := ⟨0, 0⟩) tt51 tt60 rfl rfl rfl (enc60.wd false) rfl ⟨by omega, by omega⟩ rfl (cL rfl (o_build (qs := [(0, .int _ _), (1, .ref _ _ _)]) (cs := [.int _ _, .ref _ _ _]) tt53 rfl rfl rfl (cL rfl (o_iaR tt23 tt53 rfl rfl hiI (cLn (o_stR (v := .agg _) (vs := [.int _ _, .ref _ _ _]) tt53 rfl rfl rfl rfl rfl (cellsN_in (k := 0) (wdJ _ _) hi' (Nat.le_refl _)) (cellsN_spl (k := 0) (wdJ _ _) hi' (Nat.le_refl _)) (eL ?_)))))))))))))))))))))) ?_
    . refine to_jw (fun k => if k = 3 + i then some (3 + js.length) else some k) (fun i j k hi hj h1 h2 => ?_) ?_ (.inr ⟨0, if_neg (by omega), .inr ⟨reqB r, rfl, rfl, Rens.cl (by intro x hx; simp at hx; rcases hx with rfl | rfl | rfl | rfl | rfl | rfl <;> rfl)⟩⟩) (.inr ⟨1, if_neg (by omega), .inr ⟨_, rfl, ?_⟩⟩) (.inr ⟨2, if_neg (by omega), .inr ⟨.box 53 (e53 true (lat r.jobs (i : Int))), rfl, rfl, Rens.cl (enc53.cl true _)⟩⟩) ?_
      . split at h1 <;> split at h2 <;> simp at h1 h2 <;> omega
      . exact ⟨Ren.int _ _, Ren.ptr (by rw [idx_get (by omega), if_neg (by omega)]), Ren.ref (by rw [idx_get (by omega), if_neg (by omega)]) id, Ren.int _ _, Ren.ptr (by rw [idx_get (by omega), if_neg (by omega)]), Ren.lst _ _ _, Ren.int _ _, Ren.int _ _, trivial⟩
      . refine ren_jwR (fun k => ?_) hl' fun k hk => ?_
        . split <;> rfl
        . by_cases e : k = i
          . subst e
            rw [if_pos (show k = ((k : Nat) : Int).toNat from rfl)]
            have e2 : jwC 3 js' k = [.int .i64 (lat r.jobs (k : Int)).ar, .ref false (3 + k) m] := by simp [jwC, hla]
            rw [e2]
            exact Rens.cons (Ren.int _ _) (Rens.cons (Ren.refL (by rw [idx_get (by omega), if_pos rfl, hN]) id (by rw [hme]; exact Int.toNat_natCast _)) Rens.nil)
          . rw [if_neg (show ¬ k = ((i : Nat) : Int).toNat from e)]
            have e2 : jwC 3 js' k = jwC 3 js k := by simp [jwC, hla, e]
            rw [e2]
            exact ren_jwC fun _ => by rw [idx_get (by omega), if_neg (by omega)]
      . intro k hk
        by_cases e : k = i
        . subst e
          refine .inr ⟨3 + js.length, if_pos rfl, .inr ⟨.row 60 2 (zYy e60 (List.replicate m ⟨0, 0⟩)), ?_, ?_⟩⟩
          . rw [List.getElem?_set_ne (by omega), <- hN, hme]
            exact last_get _ _
          . have : jwO js' k = .row 60 2 (zYy e60 (List.replicate m ⟨0, 0⟩)) := by unfold jwO; rw [hla, if_pos rfl]
            rw [this]
            exact ⟨rfl, rfl, rfl, Rens.enc enc60 false _⟩
        . refine .inr ⟨3 + k, if_neg (by omega), .inr ⟨jwO js k, ?_, ?_⟩⟩
          . rw [List.getElem?_set_ne (by omega), List.getElem?_append_left (by rw [hN]; omega)]
            exact objsN_getA (A := [reqB r, jwR 3 js, _]) (by omega)
          . have : jwO js' k = jwO js k := by unfold jwO; rw [hla, if_neg e]
            rw [this]
            exact ren_jwO _ _
    -- they are copied
    obtain ⟨js2, hjs2⟩ : ∃ js2, js2 = js'.set i (fullJ (lat r.jobs (i : Int))) := ⟨_, rfl⟩
    have hl2 : js2.length = js'.length := by rw [hjs2, List.length_set]
    have hla2 : ∀ k : Nat, lat js2 (k : Int) = if k = i then fullJ (lat r.jobs (i : Int)) else lat js' (k : Int) := fun k => by rw [hjs2, latN_set (by omega)]
    have hi2 : i < js'.length := by omega
    have hg : ∃ rest, cellsAt (jwK (reqB r) (.box 53 (e53 true (lat r.jobs (i : Int)))) js') (.ptr 1 (i * 2 + 1)) = some (.ref false (3 + i) (lat r.jobs (i : Int)).wk.length :: rest) := by
      obtain ⟨rest, hr⟩ := ca_N (h := jwK (reqB r) (.box 53 (e53 true (lat r.jobs (i : Int)))) js') (id := 1) (i := i) (k := 1) rfl (wdJ 3 js') hi2 (by omega)
      refine ⟨rest, ?_⟩
      rw [hr]
      simp [jwC, hla, hme]
    have ho : (jwK (reqB r) (.box 53 (e53 true (lat r.jobs (i : Int)))) js')[3 + i]? = some (.row 60 2 (zYy e60 (List.replicate m ⟨0, 0⟩))) := by
      have := objsN_getA (A := [reqB r, jwR 3 js', .box 53 (e53 true (lat r.jobs (i : Int)))]) (g := jwO js') hi2
      refine this.trans ?_
      unfold jwO; rw [hla, if_pos rfl]
    refine W.rD1 [0, 1, 2, 3, 4, 5, 6, 7] (by decide +kernel) rfl (cL rfl (zZp (v := .ref _ _ _) rfl (mI rfl rfl (cL rfl (o_iaR tt23 tt53 rfl rfl hiI (cL rfl (o_fa tt53 rfl tt51 rfl (cL rfl (zZx (v := .ref _ _ _) tt51 rfl rfl hg (cL rfl (o_fa tt53 rfl tt51 rfl (cL rfl (zZx (v := .lst _ _ _) tt51 rfl rfl ⟨_, rfl⟩ (cL rfl (o_cpR (en := e60) tt51 tt60 (enc60.wd false) rfl rfl ho rfl (by simp [hme]) (eL (zYv (zZ ?_))))))))))))))))))
    have hh : (jwK (reqB r) (.box 53 (e53 true (lat r.jobs (i : Int)))) js').set (3 + i) (.row 60 2 (zYy e60 (lat r.jobs (i : Int)).wk)) = jwK (reqB r) (.box 53 (e53 true (lat r.jobs (i : Int)))) js2 := by
      show ([reqB r, jwR 3 js', .box 53 (e53 true (lat r.jobs (i : Int)))] ++ objsN (jwO js') js'.length).set ([reqB r, jwR 3 js', .box 53 (e53 true (lat r.jobs (i : Int)))].length + i) _ = _
      rw [objsN_setA hi2]
      unfold jwK jwR
      rw [hl2]
      congr 1
      . congr 2
        congr 1
        refine cellsN_congr fun k hk => ?_
        by_cases e : k = i
        . subst e
          simp [jwC, hla, hla2, fullJ, hme]
        . simp [jwC, hla2, e]
      . refine objsN_congr fun k hk => ?_
        unfold jwO
        rw [hla2]
        by_cases e : k = i
        . rw [if_pos e, if_pos e]; rfl
        . rw [if_neg e, if_neg e]
    rw [hh]
    refine W.rL1 (cL rfl (o_add rfl rfl (by unfold inI; omega) (mI rfl rfl (eL (zZ ⟨(), i + 1, js2, ⟨⟨by omega, by omega, fun k hk => ?_⟩, by omega⟩, ?_⟩)))))
    . rw [hla2]
      by_cases e : k = i
      . subst e; rw [if_pos rfl]
      . rw [if_neg e, hla, if_neg e]; exact hjs k (by omega)
    . refine to_jw (fun k => some k) (fun i j k _ _ h1 h2 => by cases h1; cases h2; rfl) ?_ (.inr ⟨0, rfl, .inr ⟨reqB r, rfl, rfl, Rens.cl (by intro x hx; simp at hx; rcases hx with rfl | rfl | rfl | rfl | rfl | rfl <;> rfl)⟩⟩) (.inr ⟨1, rfl, .inr ⟨_, rfl, ?_⟩⟩) (.inr ⟨2, rfl, .inl rfl⟩) ?_
      . exact ⟨Ren.int _ _, Ren.ptr (idx_get (by omega)), Ren.ref (idx_get (by omega)) id, Ren.lst _ _ _, Ren.int _ _, Ren.int _ _, trivial⟩
      . exact ren_jwR (wdJ _ _) rfl fun i hi => ren_jwC fun _ => idx_get (by omega)
      . exact fun k hk => .inr ⟨3 + k, rfl, .inr ⟨_, objsN_getA (A := [reqB r, jwR 3 js2, _]) hk, ren_jwO _ _⟩⟩
  . have hjs0 : js = r.jobs.map fullJ := lat_ext (by simpa using hl) fun k hk => by rw [hjs k (by omega), lat_map (by omega)]
    subst hjs0
    obtain ⟨js1, hjs1⟩ : ∃ js1, js1 = r.jobs.map fullJ := ⟨_, rfl⟩
    rw [<- hjs1] at hok hl ⊢
    obtain ⟨cs, hcs⟩ : ∃ cs, cs = chgM r.ex p := ⟨_, rfl⟩
    have sc := spec_changes r p hx ‹_›
    have hcl : cs.length <= 1073741824 := by rw [hcs]; exact Nat.le_trans (chgM_len _ _) hx
    rw [<- hcs] at hok sc
    refine W.exit (zZt (zZt (zYs (zZ ?_))))
    refine W.seq' (W.rL (cL rfl (zYp (cs := [.lst _ _ _, .lst _ _ _, .int _ _, .int _ _, .int _ _, .lst _ _ _]) tt26 rfl rfl ⟨_, rfl⟩ rfl (mI rfl rfl (cL rfl (zZu (k := 61) (fst := []) (caps := []) (ys := [.agg _, .int _ _]) rfl rfl sc (Wks.cons (Wk.agg (enc26.cv 4 _ true r)) zk) (cL rfl (zXw (v := .lst _ _ _) tt103 rfl rfl (mI rfl rfl (eL (W.block ?_)))))))))))
    refine W.loop2 (fun (i : Nat) (js : List JW) => ⟨58, look [(5, .ref false 1 r.jobs.length), (43, .lst false cs.length (zYy (e107 true) cs)), (44, .int .i64 (cs.length : Int)), (45, .int .i64 (i : Int))], jwH js, 0⟩)
      (fun i js => i <= cs.length /\ js = (cs.take i).foldl applyC js1) (fun i _ => cs.length - i) 0 js1 ?_ ⟨by omega, rfl⟩ ?_
    . show St.to _ ⟨58, look _, jwK .dead .dead js1, 0⟩
      refine to_jw (fun k => some k) (fun i j k _ _ h1 h2 => by cases h1; cases h2; rfl) ?_ (.inr ⟨0, rfl, .inl rfl⟩) (.inr ⟨1, rfl, .inr ⟨_, rfl, ?_⟩⟩) (.inr ⟨2, rfl, .inl rfl⟩) ?_
      . exact ⟨Ren.ref (idx_get (by omega)) id, Ren.lst _ _ _, Ren.int _ _, Ren.int _ _, trivial⟩
      . exact ren_jwR (wdJ _ _) rfl fun i hi => ren_jwC fun _ => idx_get (by omega)
      . exact fun k hk => .inr ⟨3 + k, rfl, .inr ⟨_, objsN_getA (A := [reqB r, jwR 3 js1, _]) hk, ren_jwO _ _⟩⟩
    rintro i js ⟨hi3, hjs3⟩
    have hl3 : js.length = r.jobs.length := by rw [hjs3, foldC_len, hl]
    refine W.rL (cL rfl (zYq rfl rfl (eL (W.seq' (W.cn rfl (fun hc => ?_) (fun hc => ?_))))))
    . refine W.skip (zZ ?_)
      have hiN : i < cs.length := by omega
      have hiI : (0 : Int) <= (i : Int) /\ (i : Int) < (cs.length : Int) := ⟨by omega, by omega⟩
      have hoc := okAll_at hok hiN
      rw [<- hjs3] at hoc
      have hN : (jwH js).length = 3 + js.length := by simp [jwH, objsN_len]; omega
      refine W.seq' (W.block ?_)
      refine W.rLmT ⟨58, look [(5, .ref false 1 r.jobs.length), (9, .ptr 2 0), (43, .lst false cs.length (zYy (e107 true) cs)), (44, .int .i64 (cs.length : Int)), (45, .int .i64 (i : Int))], jwK .dead (.box 107 (e107 true (lat cs (i : Int)))) js, 0⟩ (cL rfl (zYu tt103 tt107 rfl rfl (enc107.wd true) rfl hiI ?_)) ?_
      . intro rest
        refine cL rfl (zYp (cs := e107 true (lat cs (i : Int))) tt107 rfl rfl ⟨_, rfl⟩ (enc107.wd true _) (cL rfl (zXy (p := (jwH js).length) tt107 rfl rfl (cLn (o_stB (v := .agg (e107 true (lat cs (i : Int)))) (vs := e107 true (lat cs (i : Int))) (cs2 := e107 true (lat cs (i : Int))) tt107 rfl rfl rfl (enc107.wd true _) (last_get _ _) (Nat.le_of_eq (by rw [Nat.zero_add]; exact enc107.wd true _)) (spl_all _ _ (enc107.wd true _)) (eL ?_))))))
        rw [last_set]
        refine to_jw (fun k => if k = 2 then some (3 + js.length) else some k) (fun i j k hi hj h1 h2 => ?_) ?_ (.inr ⟨0, rfl, .inl rfl⟩) (.inr ⟨1, rfl, .inr ⟨_, rfl, ?_⟩⟩) (.inr ⟨3 + js.length, rfl, .inr ⟨.box 107 (e107 true (lat cs (i : Int))), by rw [<- hN]; exact last_get _ _, rfl, Rens.cl (enc107.cl true _)⟩⟩) ?_
        . split at h1 <;> split at h2 <;> simp at h1 h2 <;> omega
        . exact ⟨Ren.ref (idx_get (by omega)) id, Ren.ptr (by rw [idx_get (by omega), if_pos rfl, hN]), Ren.lst _ _ _, Ren.int _ _, Ren.int _ _, trivial⟩
        . exact ren_jwR (wdJ _ _) rfl fun i hi => ren_jwC fun _ => by rw [idx_get (by omega), if_neg (by omega)]
        . intro k hk
          refine .inr ⟨3 + k, if_neg (by omega), .inr ⟨jwO js k, ?_, ren_jwO _ _⟩⟩
          rw [List.getElem?_append_left (by rw [hN]; omega)]
          exact objsN_getA (A := [.dead, jwR 3 js, .dead]) hk
      have hnext : (cs.take (i + 1)).foldl applyC js1 = applyC js (lat cs (i : Int)) := by rw [take_succ_lat hiN, List.foldl_append, <- hjs3]; rfl
      rcases hcc : lat cs (i : Int) with x | j
      . rw [hcc] at hoc hnext
        obtain ⟨ho1, ho2, ho3⟩ := hoc
        have ejb : ((x.jb.toNat : Nat) : Int) = x.jb := Int.toNat_of_nonneg ho1.1
        refine W.rM1 6 [0, 1, 2, 3, 4, 5, 6] (by decide +kernel) (by decide +kernel) (cM rfl rfl rfl (o_fa tt107 rfl tt105 rfl (cM rfl rfl rfl (zZx (v := .clo _ _ _) tt105 rfl rfl ⟨_, rfl⟩ (cM rfl rfl rfl (zZp (v := .ref _ _ _) rfl (cM rfl rfl rfl (o_fa tt107 rfl tt3 rfl (cM rfl rfl rfl (zZx (v := .int _ _) tt3 rfl rfl ⟨_, rfl⟩ (cM rfl rfl rfl (o_iaR tt23 tt53 rfl rfl ⟨ho1.1, by omega⟩ (cMg rfl rfl (callG_mk (k := 71) (fst := []) (caps := [.ipt true (e58 x)]) (ys := [.ptr 1 (x.jb.toNat * 2)]) rfl rfl (spec_f71 js x.jb.toNat x (by omega) (by rw [ejb]; exact ho2) (by rw [ejb]; exact ho3)) (up_jw _ _) (Ups.cons (Up.up rfl) (Ups.cons (Up.ipt _ _) Ups.nil)) ?_))))))))))))))
        rintro _ _ rfl
        refine eM (zYv (zZ ?_))
        have e4 : js.set x.jb.toNat ⟨(lat js ((x.jb.toNat : Nat) : Int)).ar, false, (lat js ((x.jb.toNat : Nat) : Int)).wk.set x.pc.toNat ⟨(lat (lat js ((x.jb.toNat : Nat) : Int)).wk x.pc).st, x.ba⟩⟩ = applyC js (.upd x) := by rw [ejb]; rfl
        rw [e4]
        refine W.rL1 (cL rfl (o_add rfl rfl (by unfold inI; omega) (mI rfl rfl (eL (zZ ⟨(), i + 1, applyC js (.upd x), ⟨⟨by omega, hnext.symm⟩, by omega⟩, ?_⟩)))))
        show St.to _ ⟨58, look _, jwK .dead .dead (applyC js (.upd x)), 0⟩
        refine to_jw (fun k => some k) (fun i j k _ _ h1 h2 => by cases h1; cases h2; rfl) ?_ (.inr ⟨0, rfl, .inl rfl⟩) (.inr ⟨1, rfl, .inr ⟨_, rfl, ?_⟩⟩) (.inr ⟨2, rfl, .inl rfl⟩) ?_
        . exact ⟨Ren.ref (idx_get (by omega)) id, Ren.lst _ _ _, Ren.int _ _, Ren.int _ _, trivial⟩
        . exact ren_jwR (wdJ _ _) rfl fun i hi => ren_jwC fun _ => idx_get (by omega)
        . exact fun k hk => .inr ⟨3 + k, rfl, .inr ⟨_, objsN_getA (A := [.dead, jwR 3 (applyC js (.upd x)), .dead]) hk, ren_jwO _ _⟩⟩
      . rw [hcc] at hoc hnext
        have ejb : ((j.toNat : Nat) : Int) = j := Int.toNat_of_nonneg hoc.1
        have hjl : j.toNat < js.length := by have := hoc.2; omega
        refine W.rM1 6 [0, 1, 2, 3, 4, 5, 6] (by decide +kernel) (by decide +kernel) (cM rfl rfl rfl (o_fa tt107 rfl tt105 rfl (cM rfl rfl rfl (zZx (v := .clo _ _ _) tt105 rfl rfl ⟨_, rfl⟩ (cM rfl rfl rfl (zZp (v := .ref _ _ _) rfl (cM rfl rfl rfl (o_fa tt107 rfl tt3 rfl (cM rfl rfl rfl (zZx (v := .int _ _) tt3 rfl rfl ⟨_, rfl⟩ (cM rfl rfl rfl (o_iaR tt23 tt53 rfl rfl ⟨hoc.1, by have := hoc.2; omega⟩ (cMg rfl rfl (callG_mk (k := 70) (fst := []) (caps := []) (ys := [.ptr 1 (j.toNat * 2)]) rfl rfl (spec_f70 js j.toNat hjl) (up_jw _ _) (Ups.cons (Up.up rfl) Ups.nil) ?_))))))))))))))
        rintro _ _ rfl
        refine eM (zYv (zZ ?_))
        have e4 : js.set j.toNat ⟨(lat js ((j.toNat : Nat) : Int)).ar, true, (lat js ((j.toNat : Nat) : Int)).wk⟩ = applyC js (.rem j) := by rw [ejb]; rfl
        rw [e4]
        refine W.rL1 (cL rfl (o_add rfl rfl (by unfold inI; omega) (mI rfl rfl (eL (zZ ⟨(), i + 1, applyC js (.rem j), ⟨⟨by omega, hnext.symm⟩, by omega⟩, ?_⟩)))))
        show St.to _ ⟨58, look _, jwK .dead .dead (applyC js (.rem j)), 0⟩
        refine to_jw (fun k => some k) (fun i j k _ _ h1 h2 => by cases h1; cases h2; rfl) ?_ (.inr ⟨0, rfl, .inl rfl⟩) (.inr ⟨1, rfl, .inr ⟨_, rfl, ?_⟩⟩) (.inr ⟨2, rfl, .inl rfl⟩) ?_
        . exact ⟨Ren.ref (idx_get (by omega)) id, Ren.lst _ _ _, Ren.int _ _, Ren.int _ _, trivial⟩
        . exact ren_jwR (wdJ _ _) rfl fun i hi => ren_jwC fun _ => idx_get (by omega)
        . exact fun k hk => .inr ⟨3 + k, rfl, .inr ⟨_, objsN_getA (A := [.dead, jwR 3 (applyC js (.rem j)), .dead]) hk, ren_jwO _ _⟩⟩
    . have hi4 : i = cs.length := by omega
      rw [hi4, List.take_length] at hjs3
      refine W.exit (zZt (zZt (zYs (zZ (W.rL (cL rfl (zZp (v := .ref _ _ _) rfl (cL rfl (zZq (v := .ref _ _ _) rfl (eL (W.ret (rt (rt_t (v := .ref _ _ _) rfl (rt_n ⟨_, rs_jw _ js hl3.symm, ?_⟩))))))))))))))
      have e5 : withM r p = js.map toJob := by unfold withM; rw [hjs3, hjs1, hcs]
      rw [e5, List.length_map, hl3]
attribute [local irreducible] seqL opC
def vc_run1 (s : Sta) (Post : Bool -> Prop) : Prop :=
  Post (decide (s.dn < s.al))
theorem walk_run1 {s : Sta} {Post : Bool -> Prop} (hv : vc_run1 s Post) : FnP Try.prog 63 [.agg (e113 s)] (fun x => ∃ q0, x = .bool q0 /\ Post q0) := by
 refine FnP.of_walk (T := tt) (nt := 8) ttOk ttMix ⟨⟨Try.f63, Try.func63, rfl, rfl, rfl, rfl⟩⟩ (by simp) ?_
 unfold vc_run1 at hv
 change W _ _ _ ⟨8, look [(0, .agg [.int .i64 s.dn, .int .i64 s.al, .int .i64 s.rd])], [], 0⟩ _
 refine W.ty [(0, .agg _)] rfl (W.rL (cL rfl (o_box (v := .agg _) (p := 0) rfl rfl rfl (aB rfl rfl (eL (W.ty [(1, .ptr _ _)] rfl (W.rL (cL rfl (o_fa tt113 rfl tt3 rfl (cL rfl (zZx (v := .int _ _) tt3 rfl rfl ⟨_, rfl⟩ (cL rfl (o_fa tt113 rfl tt3 rfl (cL rfl (zZx (v := .int _ _) tt3 rfl rfl ⟨_, rfl⟩ (cL rfl (zYq rfl rfl (aB rfl rfl (eL (W.ty [(2, .bool _)] rfl (W.ret (rt (rt_t (v := .bool _) rfl (rt_n (⟨_, zYr _ _ _, (decide (s.dn < s.al)), rfl, hv⟩)))))))))))))))))))))))))
set_option maxHeartbeats 4000000 in
theorem vcp_run1 (s : Sta)  : vc_run1 s (fun q0 => q0 = (decide (s.dn < s.al))) := by
  rfl
theorem spec_run1 (s : Sta)  : FnP Try.prog 63 [.agg (e113 s)] (fun xR => xR = .bool (decide (s.dn < s.al))) :=
  (walk_run1 (vcp_run1 s)).mono (by rintro _ ⟨_, rfl, rfl⟩; rfl)
def vc_run2 (s : Sta) (Post : Int -> Prop) : Prop :=
  Post s.rd
theorem walk_run2 {s : Sta} {Post : Int -> Prop} (hv : vc_run2 s Post) : FnP Try.prog 64 [.agg (e113 s)] (fun x => ∃ q0, x = .int .i64 q0 /\ Post q0) := by
 refine FnP.of_walk (T := tt) (nt := 5) ttOk ttMix ⟨⟨Try.f64, Try.func64, rfl, rfl, rfl, rfl⟩⟩ (by simp) ?_
 unfold vc_run2 at hv
 change W _ _ _ ⟨5, look [(0, .agg [.int .i64 s.dn, .int .i64 s.al, .int .i64 s.rd])], [], 0⟩ _
 refine W.ty [(0, .agg _)] rfl (W.rL (cL rfl (o_box (v := .agg _) (p := 0) rfl rfl rfl (aI rfl rfl (eL (W.ty [(1, .ptr _ _)] rfl (W.rL (cL rfl (o_fa tt113 rfl tt3 rfl (cL rfl (zZx (v := .int _ _) tt3 rfl rfl ⟨_, rfl⟩ (aI rfl rfl (eL (W.ty [(2, .int _ _)] rfl (W.ret (rt (rt_t (v := .int _ _) rfl (rt_n (⟨_, zY _ _ _ _, s.rd, rfl, hv⟩)))))))))))))))))))
set_option maxHeartbeats 4000000 in
theorem vcp_run2 (s : Sta)  : vc_run2 s (fun q0 => q0 = (s.rd)) := by
  rfl
theorem spec_run2 (s : Sta)  : FnP Try.prog 64 [.agg (e113 s)] (fun xR => xR = .int .i64 (s.rd)) :=
  (walk_run2 (vcp_run2 s)).mono (by rintro _ ⟨_, rfl, rfl⟩; rfl)
def vc_leastS (l : (List Sta)) (Post : Int -> Prop) : Prop :=
  ∃ (I1 : Int -> Int -> Prop) (μ1 : Int -> Int -> Nat), I1 (-1 : Int) (0 : Int) /\ ∀ (v7 : Int) (v12 : Int), I1 v7 v12 -> ((v12 < (l.length : Int)) -> ∃ J2 : Int -> Prop, (∀ (v7_1 : Int), J2 v7_1 -> (inI (v12 + (1 : Int))) /\ (I1 v7_1 (v12 + (1 : Int)) /\ μ1 v7_1 (v12 + (1 : Int)) < μ1 v7 v12)) /\ ((0 <= v12 /\ v12 < (l.length : Int)) /\ ((((lat l v12).dn < (lat l v12).al) -> ((v7 < (0 : Int)) -> True) /\ (¬ (v7 < (0 : Int)) -> (0 <= v7 /\ v7 < (l.length : Int)) /\ True)) /\ (¬ ((lat l v12).dn < (lat l v12).al) -> True)) /\ (((((lat l v12).dn < (lat l v12).al) /\ ((v7 < (0 : Int)) \/ (((lat l v12).rd) < ((lat l v7).rd)))) -> J2 v12) /\ (¬ (((lat l v12).dn < (lat l v12).al) /\ ((v7 < (0 : Int)) \/ (((lat l v12).rd) < ((lat l v7).rd)))) -> J2 v7)))) /\ (¬ (v12 < (l.length : Int)) -> Post v7)
theorem walk_leastS {l : (List Sta)} {Post : Int -> Prop} (hv : vc_leastS l Post) : FnP Try.prog 62 [.lst true l.length (zYy e113 l), .clo 63 [] [], .clo 64 [] []] (fun x => ∃ q0, x = .int .i64 q0 /\ Post q0) := by
 refine FnP.of_walk (T := tt) (nt := 39) ttOk ttMix ⟨⟨Try.f62, Try.func62, rfl, rfl, rfl, rfl⟩⟩ (by simp) ?_
 unfold vc_leastS at hv
 change W _ _ _ ⟨39, look [(0, .lst true l.length (zYy e113 l)), (1, .clo 63 [] []), (2, .clo 64 [] [])], [], 0⟩ _
 refine W.ty [(0, .lst _ _ _), (1, .clo _ _ _), (2, .clo _ _ _)] rfl (W.rL (aI rfl rfl (eL (W.ty [(0, .lst _ _ _), (1, .clo _ _ _), (2, .clo _ _ _)] rfl (W.rL (aI rfl rfl (eL (W.ty [(0, .lst _ _ _), (1, .clo _ _ _), (2, .clo _ _ _), (7, .int _ _)] rfl (W.seq' (W.rL (mL rfl rfl (cL rfl (zXw (v := .lst _ _ _) tt111 rfl rfl (mI rfl rfl (eL (W.ty [(0, .lst _ _ _), (1, .clo _ _ _), (2, .clo _ _ _), (7, .int _ _), (10, .lst _ _ _), (11, .int _ _), (12, .int _ _)] rfl (W.block ?_)))))))))))))))))
 obtain ⟨I1, μ1, hp, hv⟩ := hv
 refine W.loop2 (fun v7 v12 => ⟨39, look [(0, .lst true l.length (zYy e113 l)), (1, .clo 63 [] []), (2, .clo 64 [] []), (7, .int .i64 v7), (10, .lst true l.length (zYy e113 l)), (11, .int .i64 (l.length : Int)), (12, .int .i64 v12)], [], 0⟩) I1 μ1 (-1 : Int) (0 : Int) (St.to_mk (φ := []) rfl (rfl) ⟨Ren.lst _ _ _, Ren.clo _ (Rens.nil) (Rens.nil), Ren.clo _ (Rens.nil) (Rens.nil), Ren.int _ _, Ren.lst _ _ _, Ren.int _ _, Ren.int _ _, trivial⟩ trivial) hp ?_
 clear hp
 intro v7 v12 hI
 replace hv := hv v7 v12 hI
 clear hI
 refine W.rL (cL rfl (zYq rfl rfl (eL (W.ty [(0, .lst _ _ _), (1, .clo _ _ _), (2, .clo _ _ _), (7, .int _ _), (10, .lst _ _ _), (11, .int _ _), (12, .int _ _), (13, .bool _)] rfl (W.seq' (W.cn rfl (fun hc => ?_) (fun hc => ?_)))))))
 have hv := hv.1 hc
 refine W.skip (zZ (W.ty [(0, .lst _ _ _), (1, .clo _ _ _), (2, .clo _ _ _), (7, .int _ _), (10, .lst _ _ _), (11, .int _ _), (12, .int _ _)] rfl ?_))
 obtain ⟨J2, hj, hv⟩ := hv
 refine W.mid1 (fun v7_1 => ⟨39, look [(0, .lst true l.length (zYy e113 l)), (1, .clo 63 [] []), (2, .clo 64 [] []), (7, .int .i64 v7_1), (10, .lst true l.length (zYy e113 l)), (11, .int .i64 (l.length : Int)), (12, .int .i64 v12)], [.dead], 0⟩) J2 ?_ ?_
 intro v7_1
 intro hv
 replace hv := hj v7_1 hv
 refine W.rL1 ?_
 obtain ⟨s25, hv⟩ := hv
 refine cL rfl (o_add rfl rfl s25 (mI rfl rfl (eL (zZ (⟨(), v7_1, (v12 + (1 : Int)), hv, St.to_mk (φ := []) rfl (rfl) ⟨Ren.lst _ _ _, Ren.clo _ (Rens.nil) (Rens.nil), Ren.clo _ (Rens.nil) (Rens.nil), Ren.int _ _, Ren.lst _ _ _, Ren.int _ _, Ren.int _ _, trivial⟩ trivial⟩)))))
 clear hj
 refine W.block (W.rL (mI rfl rfl ?_))
 obtain ⟨s26, hv⟩ := hv
 refine cL rfl (zYu tt111 tt113 rfl rfl (enc113.wd true) rfl s26 ?_)
 intro rest26
 refine cL rfl (zYp (cs := [.int _ _, .int _ _, .int _ _]) tt113 rfl rfl ⟨_, rfl⟩ rfl (cL rfl (zXy (p := 0) tt113 rfl rfl (aI rfl rfl (cLn (o_stB (v := .agg _) (vs := [.int _ _, .int _ _, .int _ _]) (cs2 := [.int _ _, .int _ _, .int _ _]) tt113 rfl rfl rfl rfl rfl (Nat.le_of_ble_eq_true rfl) rfl (eL (W.ty [(0, .lst _ _ _), (1, .clo _ _ _), (2, .clo _ _ _), (7, .int _ _), (8, .int _ _), (9, .ptr _ _), (10, .lst _ _ _), (11, .int _ _), (12, .int _ _)] rfl ?_))))))))
 obtain ⟨sd, hv⟩ := hv
 refine W.rPm ⟨39, look [(0, .lst true l.length (zYy e113 l)), (1, .clo 63 [] []), (2, .clo 64 [] []), (7, .int .i64 v7), (8, .int .i64 v12), (10, .lst true l.length (zYy e113 l)), (11, .int .i64 (l.length : Int)), (12, .int .i64 v12), (35, .bool (decide (((lat l v12).dn < (lat l v12).al) /\ ((v7 < (0 : Int)) \/ (((lat l v12).rd) < ((lat l v7).rd))))))], [.box 113 [.int .i64 ((lat l v12).dn), .int .i64 ((lat l v12).al), .int .i64 ((lat l v12).rd)]], 0⟩ [0, 1, 2, 3, 4, 5, 6, 7, 8, 10, 11, 12, 13, 14, 9, 15, 16, 17, 18] (by decide +kernel) rfl ?_ ?_
 refine cL rfl (zZp (v := .clo _ _ _) rfl (cL rfl (zYp (cs := [.int _ _, .int _ _, .int _ _]) tt113 rfl rfl ⟨_, rfl⟩ rfl (cL rfl (zZu (k := 63) (fst := []) (caps := []) (ys := [.agg _]) rfl rfl (spec_run1 (lat l v12)) zk (mB rfl rfl ?_))))))
 by_cases c1 : (lat l v12).dn < (lat l v12).al
 have sd := sd.1 c1
 refine cLg rfl rfl (dT c1) (mI rfl rfl (cLg rfl rfl (dT c1) (cL rfl (zYq rfl rfl (cLg rfl rfl (dT c1) (mB rfl rfl ?_))))))
 by_cases c2 : v7 < (0 : Int)
 iterate 10 refine cLs rfl rfl rfl (dT c2) ?_
 refine cLg rfl rfl (dT c1) (cL rfl (zZv (v := .bool _) rfl (dT c2) rfl (cL rfl (zZv (v := .bool _) rfl (dT c1) rfl (eL (zYz ⟨rfl, rfl, rfl, rfl, rfl, rfl, rfl, rfl, (congrArg AV.bool (zXv c1 (dOrT c2))).symm, trivial⟩ rfl))))))
 have sd := sd.2 c2
 refine cLg rfl rfl (dF c2) (cL rfl (zZp (v := .clo _ _ _) rfl (cLg rfl rfl (dF c2) (cL rfl (zYp (cs := [.int _ _, .int _ _, .int _ _]) tt113 rfl rfl ⟨_, rfl⟩ rfl (cLg rfl rfl (dF c2) (cL rfl (zZp (v := .clo _ _ _) rfl (cLg rfl rfl (dF c2) (mL rfl rfl (cLg rfl rfl (dF c2) (mI rfl rfl (cLg rfl rfl (dF c2) ?_)))))))))))))
 obtain ⟨s28, sd⟩ := sd
 refine cL rfl (zYu tt111 tt113 rfl rfl (enc113.wd true) rfl s28 ?_)
 intro rest28
 refine cLg rfl rfl (dF c2) (cL rfl (zYp (cs := [.int _ _, .int _ _, .int _ _]) tt113 rfl rfl ⟨_, rfl⟩ rfl (cLg rfl rfl (dF c2) (cL rfl (zZu (k := 64) (fst := []) (caps := []) (ys := [.agg _]) rfl rfl (spec_run2 (lat l v12)) zk (cLg rfl rfl (dF c2) (cL rfl (zZu (k := 64) (fst := []) (caps := []) (ys := [.agg _]) rfl rfl (spec_run2 (lat l v7)) zk (cLg rfl rfl (dF c2) (cL rfl (zYq rfl rfl (cLg rfl rfl (dT c1) (cL rfl (zZy (v := .bool _) rfl (dF c2) rfl (cL rfl (zZv (v := .bool _) rfl (dT c1) rfl (eL (zYz ⟨rfl, rfl, rfl, rfl, rfl, rfl, rfl, rfl, (congrArg AV.bool (zXv c1 (dOrF c2 (rfl)))).symm, trivial⟩ rfl))))))))))))))))))
 iterate 3 refine cLs rfl rfl rfl (dF c1) ?_
 iterate 4 refine cLu rfl rfl rfl ?_
 iterate 6 refine cLu rfl rfl (by kernel_rfl) ?_
 refine cLs rfl rfl rfl (dF c1) (cL rfl (zZy (v := .bool _) rfl (dF c1) rfl (eL (zYz ⟨rfl, rfl, rfl, rfl, rfl, rfl, rfl, rfl, (congrArg AV.bool (dAndF c1)).symm, trivial⟩ rfl))))
 refine W.cn rfl (fun hc => ?_) (fun hc => ?_)
 have hv := hv.1 hc
 refine W.rL1 (mI rfl rfl (aI rfl rfl (eL (zYv (zZ (⟨(), v12, hv, St.to_mk (φ := [none]) rfl (rfl) ⟨Ren.lst _ _ _, Ren.clo _ (Rens.nil) (Rens.nil), Ren.clo _ (Rens.nil) (Rens.nil), Ren.int _ _, Ren.lst _ _ _, Ren.int _ _, Ren.int _ _, trivial⟩ ⟨rfl, trivial⟩⟩))))))
 have hv := hv.2 hc
 refine W.skip (zYv (zZ (⟨(), v7, hv, St.to_mk (φ := [none]) rfl (rfl) ⟨Ren.lst _ _ _, Ren.clo _ (Rens.nil) (Rens.nil), Ren.clo _ (Rens.nil) (Rens.nil), Ren.int _ _, Ren.lst _ _ _, Ren.int _ _, Ren.int _ _, trivial⟩ ⟨rfl, trivial⟩⟩)))
 have hv := hv.2 hc
 refine W.exit (zZt (zZt (zYs (zZ (W.ty [(7, .int _ _)] rfl (W.rL (mI rfl rfl (aI rfl rfl (eL (W.ty [(6, .int _ _)] rfl (W.ret (rt (rt_t (v := .int _ _) rfl (rt_n (⟨_, zY _ _ _ _, v7, rfl, hv⟩)))))))))))))))
set_option maxHeartbeats 4000000 in
theorem vcp_leastS (l : (List Sta)) (h0 : l.length <= 9223372036854775807) : vc_leastS l (fun q0 => q0 = (leastS l)) := by
  unfold vc_leastS
  have hb : ∀ i : Nat, leastN (fun s : Sta => decide (s.dn < s.al)) (·.rd) l i < 0 \/ (0 <= leastN (fun s : Sta => decide (s.dn < s.al)) (·.rd) l i /\ leastN (fun s : Sta => decide (s.dn < s.al)) (·.rd) l i < i) := fun i => by
    rcases leastN_spec (fun s : Sta => decide (s.dn < s.al)) (·.rd) l i with ⟨h1, _⟩ | ⟨j, h1, h2, _⟩ <;> omega
  refine ⟨fun o v => ∃ i : Nat, v = i /\ i <= l.length /\ o = leastN (fun s : Sta => decide (s.dn < s.al)) (·.rd) l i, fun _ v => l.length - v.toNat, ⟨0, rfl, by omega, rfl⟩, ?_⟩
  rintro _ _ ⟨i, rfl, hi, rfl⟩
  refine ⟨fun k1 => ⟨fun o => o = leastN (fun s : Sta => decide (s.dn < s.al)) (·.rd) l (i + 1), fun o ho => ⟨by unfold inI; omega, ⟨i + 1, by omega, by omega, ho⟩, by show l.length - ((i : Int) + 1).toNat < l.length - ((i : Int)).toNat; omega⟩, ⟨by omega, k1⟩, ⟨fun k2 => ⟨fun _ => trivial, fun k3 => ⟨?_, trivial⟩⟩, fun _ => trivial⟩, fun k2 => ?_, fun k2 => ?_⟩, fun k1 => ?_⟩
  . rcases hb i with h | h <;> omega
  . show _ = leastN _ _ l (i + 1)
    rw [leastN_succ]; unfold leastStep; rw [if_pos ⟨decide_eq_true k2.1, k2.2⟩]
  . show _ = leastN _ _ l (i + 1)
    rw [leastN_succ]; unfold leastStep; rw [if_neg (fun h => k2 ⟨of_decide_eq_true h.1, h.2⟩)]
  . show _ = leastM _ _ l
    unfold leastM
    rw [show i = l.length by omega]
theorem spec_leastS (l : (List Sta)) (h0 : l.length <= 9223372036854775807) : FnP Try.prog 62 [.lst true l.length (zYy e113 l), .clo 63 [] [], .clo 64 [] []] (fun xR => xR = .int .i64 (leastS l)) :=
  (walk_leastS (vcp_leastS l h0)).mono (by rintro _ ⟨_, rfl, rfl⟩; rfl)
def vc_run3 (n : Int) (Post : Bool -> Prop) : Prop :=
  Post true
theorem walk_run3 {n : Int} {Post : Bool -> Prop} (hv : vc_run3 n Post) : FnP Try.prog 66 [.int .i64 n] (fun x => ∃ q0, x = .bool q0 /\ Post q0) := by
 refine FnP.of_walk (T := tt) (nt := 3) ttOk ttMix ⟨⟨Try.f66, Try.func66, rfl, rfl, rfl, rfl⟩⟩ (by simp) ?_
 unfold vc_run3 at hv
 change W _ _ _ ⟨3, look [(0, .int .i64 n)], [], 0⟩ _
 refine W.ty [] rfl (W.rL (aB rfl rfl (eL (W.ty [] rfl (W.rL (aB rfl rfl (eL (W.ty [(2, .bool _)] rfl (W.ret (rt (rt_t (v := .bool _) rfl (rt_n (⟨_, zYr _ _ _, true, rfl, hv⟩)))))))))))))
set_option maxHeartbeats 4000000 in
theorem vcp_run3 (n : Int)  : vc_run3 n (fun q0 => q0 = (true)) := by
  rfl
theorem spec_run3 (n : Int)  : FnP Try.prog 66 [.int .i64 n] (fun xR => xR = .bool (true)) :=
  (walk_run3 (vcp_run3 n)).mono (by rintro _ ⟨_, rfl, rfl⟩; rfl)
def vc_run4 (n : Int) (Post : Int -> Prop) : Prop :=
  Post n
theorem walk_run4 {n : Int} {Post : Int -> Prop} (hv : vc_run4 n Post) : FnP Try.prog 67 [.int .i64 n] (fun x => ∃ q0, x = .int .i64 q0 /\ Post q0) := by
 refine FnP.of_walk (T := tt) (nt := 4) ttOk ttMix ⟨⟨Try.f67, Try.func67, rfl, rfl, rfl, rfl⟩⟩ (by simp) ?_
 unfold vc_run4 at hv
 change W _ _ _ ⟨4, look [(0, .int .i64 n)], [], 0⟩ _
 refine W.ty [(0, .int _ _)] rfl (W.rL (aI rfl rfl (eL (W.ty [(0, .int _ _)] rfl (W.rL (mI rfl rfl (aI rfl rfl (eL (W.ty [(2, .int _ _)] rfl (W.ret (rt (rt_t (v := .int _ _) rfl (rt_n (⟨_, zY _ _ _ _, n, rfl, hv⟩))))))))))))))
set_option maxHeartbeats 4000000 in
theorem vcp_run4 (n : Int)  : vc_run4 n (fun q0 => q0 = (n)) := by
  rfl
theorem spec_run4 (n : Int)  : FnP Try.prog 67 [.int .i64 n] (fun xR => xR = .int .i64 (n)) :=
  (walk_run4 (vcp_run4 n)).mono (by rintro _ ⟨_, rfl, rfl⟩; rfl)
def vc_leastI (l : (List Int)) (Post : Int -> Prop) : Prop :=
  ∃ (I1 : Int -> Int -> Prop) (μ1 : Int -> Int -> Nat), I1 (-1 : Int) (0 : Int) /\ ∀ (v7 : Int) (v12 : Int), I1 v7 v12 -> ((v12 < (l.length : Int)) -> ∃ J2 : Int -> Prop, (∀ (v7_1 : Int), J2 v7_1 -> (inI (v12 + (1 : Int))) /\ (I1 v7_1 (v12 + (1 : Int)) /\ μ1 v7_1 (v12 + (1 : Int)) < μ1 v7 v12)) /\ ((0 <= v12 /\ v12 < (l.length : Int)) /\ (((v7 < (0 : Int)) -> True) /\ (¬ (v7 < (0 : Int)) -> (0 <= v7 /\ v7 < (l.length : Int)) /\ True)) /\ ((((v7 < (0 : Int)) \/ ((lat l v12) < (lat l v7))) -> J2 v12) /\ (¬ ((v7 < (0 : Int)) \/ ((lat l v12) < (lat l v7))) -> J2 v7)))) /\ (¬ (v12 < (l.length : Int)) -> Post v7)
theorem walk_leastI {l : (List Int)} {Post : Int -> Prop} (hv : vc_leastI l Post) : FnP Try.prog 65 [.lst true l.length (zYy zYx l), .clo 66 [] [], .clo 67 [] []] (fun x => ∃ q0, x = .int .i64 q0 /\ Post q0) := by
 refine FnP.of_walk (T := tt) (nt := 39) ttOk ttMix ⟨⟨Try.f65, Try.func65, rfl, rfl, rfl, rfl⟩⟩ (by simp) ?_
 unfold vc_leastI at hv
 change W _ _ _ ⟨39, look [(0, .lst true l.length (zYy zYx l)), (1, .clo 66 [] []), (2, .clo 67 [] [])], [], 0⟩ _
 refine W.ty [(0, .lst _ _ _), (1, .clo _ _ _), (2, .clo _ _ _)] rfl (W.rL (aI rfl rfl (eL (W.ty [(0, .lst _ _ _), (1, .clo _ _ _), (2, .clo _ _ _)] rfl (W.rL (aI rfl rfl (eL (W.ty [(0, .lst _ _ _), (1, .clo _ _ _), (2, .clo _ _ _), (7, .int _ _)] rfl (W.seq' (W.rL (mL rfl rfl (cL rfl (zXw (v := .lst _ _ _) tt22 rfl rfl (mI rfl rfl (eL (W.ty [(0, .lst _ _ _), (1, .clo _ _ _), (2, .clo _ _ _), (7, .int _ _), (10, .lst _ _ _), (11, .int _ _), (12, .int _ _)] rfl (W.block ?_)))))))))))))))))
 obtain ⟨I1, μ1, hp, hv⟩ := hv
 refine W.loop2 (fun v7 v12 => ⟨39, look [(0, .lst true l.length (zYy zYx l)), (1, .clo 66 [] []), (2, .clo 67 [] []), (7, .int .i64 v7), (10, .lst true l.length (zYy zYx l)), (11, .int .i64 (l.length : Int)), (12, .int .i64 v12)], [], 0⟩) I1 μ1 (-1 : Int) (0 : Int) (St.to_mk (φ := []) rfl (rfl) ⟨Ren.lst _ _ _, Ren.clo _ (Rens.nil) (Rens.nil), Ren.clo _ (Rens.nil) (Rens.nil), Ren.int _ _, Ren.lst _ _ _, Ren.int _ _, Ren.int _ _, trivial⟩ trivial) hp ?_
 clear hp
 intro v7 v12 hI
 replace hv := hv v7 v12 hI
 clear hI
 refine W.rL (cL rfl (zYq rfl rfl (eL (W.ty [(0, .lst _ _ _), (1, .clo _ _ _), (2, .clo _ _ _), (7, .int _ _), (10, .lst _ _ _), (11, .int _ _), (12, .int _ _), (13, .bool _)] rfl (W.seq' (W.cn rfl (fun hc => ?_) (fun hc => ?_)))))))
 have hv := hv.1 hc
 refine W.skip (zZ (W.ty [(0, .lst _ _ _), (1, .clo _ _ _), (2, .clo _ _ _), (7, .int _ _), (10, .lst _ _ _), (11, .int _ _), (12, .int _ _)] rfl ?_))
 obtain ⟨J2, hj, hv⟩ := hv
 refine W.mid1 (fun v7_1 => ⟨39, look [(0, .lst true l.length (zYy zYx l)), (1, .clo 66 [] []), (2, .clo 67 [] []), (7, .int .i64 v7_1), (10, .lst true l.length (zYy zYx l)), (11, .int .i64 (l.length : Int)), (12, .int .i64 v12), (21, .int .i64 v7), (22, .bool (decide (v7 < (0 : Int)))), (23, .bool (decide (v7 < (0 : Int)))), (34, .bool (decide ((v7 < (0 : Int)) \/ ((lat l v12) < (lat l v7)))))], [], 0⟩) J2 ?_ ?_
 intro v7_1
 intro hv
 replace hv := hj v7_1 hv
 refine W.rL1 ?_
 obtain ⟨s25, hv⟩ := hv
 refine cL rfl (o_add rfl rfl s25 (mI rfl rfl (eL (zZ (⟨(), v7_1, (v12 + (1 : Int)), hv, St.to_mk (φ := []) rfl (rfl) ⟨Ren.lst _ _ _, Ren.clo _ (Rens.nil) (Rens.nil), Ren.clo _ (Rens.nil) (Rens.nil), Ren.int _ _, Ren.lst _ _ _, Ren.int _ _, Ren.int _ _, trivial⟩ trivial⟩)))))
 clear hj
 refine W.block (W.rL (mI rfl rfl ?_))
 obtain ⟨s26, hv⟩ := hv
 refine cL rfl (zYu tt22 tt3 rfl rfl (zZw.wd true) rfl s26 ?_)
 intro rest26
 refine cL rfl (zZx (v := .int _ _) tt3 rfl rfl ⟨_, rfl⟩ ?_)
 iterate 2 refine aI rfl rfl ?_
 refine eL (W.ty [(0, .lst _ _ _), (1, .clo _ _ _), (2, .clo _ _ _), (7, .int _ _), (8, .int _ _), (9, .int _ _), (10, .lst _ _ _), (11, .int _ _), (12, .int _ _)] rfl ?_)
 obtain ⟨sd, hv⟩ := hv
 refine W.rPm ⟨39, look [(0, .lst true l.length (zYy zYx l)), (1, .clo 66 [] []), (2, .clo 67 [] []), (7, .int .i64 v7), (8, .int .i64 v12), (10, .lst true l.length (zYy zYx l)), (11, .int .i64 (l.length : Int)), (12, .int .i64 v12), (21, .int .i64 v7), (22, .bool (decide (v7 < (0 : Int)))), (23, .bool (decide (v7 < (0 : Int)))), (34, .bool (decide ((v7 < (0 : Int)) \/ ((lat l v12) < (lat l v7))))), (35, .bool (decide ((v7 < (0 : Int)) \/ ((lat l v12) < (lat l v7)))))], [], 0⟩ [0, 1, 2, 3, 4, 5, 6, 7, 8, 10, 11, 12, 13, 14, 9, 15, 16, 17, 18] (by decide +kernel) rfl ?_ ?_
 refine cL rfl (zZp (v := .clo _ _ _) rfl (mI rfl rfl (cL rfl (zZu (k := 66) (fst := []) (caps := []) (ys := [.int _ _]) rfl rfl (spec_run3 (lat l v12)) zk (mB rfl rfl (cLg rfl rfl (rfl) (mI rfl rfl (cLg rfl rfl (rfl) (cL rfl (zYq rfl rfl (cLg rfl rfl (rfl) (mB rfl rfl ?_))))))))))))
 by_cases c1 : v7 < (0 : Int)
 iterate 10 refine cLs rfl rfl rfl (dT c1) ?_
 refine cLg rfl rfl (rfl) (cL rfl (zZv (v := .bool _) rfl (dT c1) rfl (cL rfl (zZv (v := .bool _) rfl rfl rfl (eL (zYz ⟨rfl, rfl, rfl, rfl, rfl, rfl, rfl, rfl, rfl, rfl, rfl, (congrArg AV.bool (dOrT c1)).symm, (congrArg AV.bool (dOrT c1)).symm, trivial⟩ rfl))))))
 have sd := sd.2 c1
 refine cLg rfl rfl (dF c1) (cL rfl (zZp (v := .clo _ _ _) rfl (cLg rfl rfl (dF c1) (mI rfl rfl (cLg rfl rfl (dF c1) (cL rfl (zZp (v := .clo _ _ _) rfl (cLg rfl rfl (dF c1) (mL rfl rfl (cLg rfl rfl (dF c1) (mI rfl rfl (cLg rfl rfl (dF c1) ?_))))))))))))
 obtain ⟨s28, sd⟩ := sd
 refine cL rfl (zYu tt22 tt3 rfl rfl (zZw.wd true) rfl s28 ?_)
 intro rest28
 refine cLg rfl rfl (dF c1) (cL rfl (zZx (v := .int _ _) tt3 rfl rfl ⟨_, rfl⟩ (cLg rfl rfl (dF c1) (cL rfl (zZu (k := 67) (fst := []) (caps := []) (ys := [.int _ _]) rfl rfl (spec_run4 (lat l v12)) zk (cLg rfl rfl (dF c1) (cL rfl (zZu (k := 67) (fst := []) (caps := []) (ys := [.int _ _]) rfl rfl (spec_run4 (lat l v7)) zk (cLg rfl rfl (dF c1) (cL rfl (zYq rfl rfl (cLg rfl rfl (rfl) (cL rfl (zZy (v := .bool _) rfl (dF c1) rfl (cL rfl (zZv (v := .bool _) rfl rfl rfl (eL (zYz ⟨rfl, rfl, rfl, rfl, rfl, rfl, rfl, rfl, rfl, rfl, rfl, (congrArg AV.bool (dOrF c1 (rfl))).symm, (congrArg AV.bool (dOrF c1 (rfl))).symm, trivial⟩ rfl))))))))))))))))))
 refine W.cn rfl (fun hc => ?_) (fun hc => ?_)
 have hv := hv.1 hc
 refine W.rL1 (mI rfl rfl (aI rfl rfl (eL (zYv (zZ (⟨(), v12, hv, St.to_mk (φ := []) rfl (rfl) ⟨Ren.lst _ _ _, Ren.clo _ (Rens.nil) (Rens.nil), Ren.clo _ (Rens.nil) (Rens.nil), Ren.int _ _, Ren.lst _ _ _, Ren.int _ _, Ren.int _ _, Ren.int _ _, Ren.bool _, Ren.bool _, Ren.bool _, trivial⟩ trivial⟩))))))
 have hv := hv.2 hc
 refine W.skip (zYv (zZ (⟨(), v7, hv, St.to_mk (φ := []) rfl (rfl) ⟨Ren.lst _ _ _, Ren.clo _ (Rens.nil) (Rens.nil), Ren.clo _ (Rens.nil) (Rens.nil), Ren.int _ _, Ren.lst _ _ _, Ren.int _ _, Ren.int _ _, Ren.int _ _, Ren.bool _, Ren.bool _, Ren.bool _, trivial⟩ trivial⟩)))
 have hv := hv.2 hc
 refine W.exit (zZt (zZt (zYs (zZ (W.ty [(7, .int _ _)] rfl (W.rL (mI rfl rfl (aI rfl rfl (eL (W.ty [(6, .int _ _)] rfl (W.ret (rt (rt_t (v := .int _ _) rfl (rt_n (⟨_, zY _ _ _ _, v7, rfl, hv⟩)))))))))))))))
set_option maxHeartbeats 4000000 in
theorem vcp_leastI (l : (List Int)) (h0 : l.length <= 9223372036854775807) : vc_leastI l (fun q0 => q0 = (leastI l)) := by
  unfold vc_leastI
  have hb : ∀ i : Nat, leastN (fun _ : Int => true) (fun n => n) l i < 0 \/ (0 <= leastN (fun _ : Int => true) (fun n => n) l i /\ leastN (fun _ : Int => true) (fun n => n) l i < i) := fun i => by
    rcases leastN_spec (fun _ : Int => true) (fun n => n) l i with ⟨h1, _⟩ | ⟨j, h1, h2, _⟩ <;> omega
  refine ⟨fun o v => ∃ i : Nat, v = i /\ i <= l.length /\ o = leastN (fun _ : Int => true) (fun n => n) l i, fun _ v => l.length - v.toNat, ⟨0, rfl, by omega, rfl⟩, ?_⟩
  rintro _ _ ⟨i, rfl, hi, rfl⟩
  refine ⟨fun k1 => ⟨fun o => o = leastN (fun _ : Int => true) (fun n => n) l (i + 1), fun o ho => ⟨by unfold inI; omega, ⟨i + 1, by omega, by omega, ho⟩, dec_lt k1⟩, ⟨by omega, k1⟩, ⟨fun _ => trivial, fun k2 => ⟨?_, trivial⟩⟩, fun k2 => ?_, fun k2 => ?_⟩, fun k1 => ?_⟩
  . rcases hb i with h | h <;> omega
  . show _ = leastN _ _ l (i + 1)
    rw [leastN_succ]; unfold leastStep; rw [if_pos ⟨rfl, k2⟩]
  . show _ = leastN _ _ l (i + 1)
    rw [leastN_succ]; unfold leastStep; rw [if_neg (fun h => k2 h.2)]
  . show _ = leastM _ _ l
    unfold leastM
    rw [show i = l.length by omega]
theorem spec_leastI (l : (List Int)) (h0 : l.length <= 9223372036854775807) : FnP Try.prog 65 [.lst true l.length (zYy zYx l), .clo 66 [] [], .clo 67 [] []] (fun xR => xR = .int .i64 (leastI l)) :=
  (walk_leastI (vcp_leastI l h0)).mono (by rintro _ ⟨_, rfl, rfl⟩; rfl)
def vc_run (sv : (List Int)) (jobs : (List Job)) (Post : List Dn -> Prop) : Prop :=
  (0 <= (sv.length : Int) /\ (sv.length : Int) <= 1073741824) /\ (0 <= (jobs.length : Int) /\ (jobs.length : Int) <= 1073741824) /\ ∃ (I1 : Int -> List Sta -> Prop) (μ1 : Int -> List Sta -> Nat), I1 (0 : Int) (List.replicate (jobs.length : Int).toNat ((Sta.mk 0 0 0) : Sta)) /\ ∀ (v23 : Int) (r2 : List Sta), I1 v23 r2 -> ((v23 < (jobs.length : Int)) -> (0 <= v23 /\ v23 < (jobs.length : Int)) /\ (0 <= v23 /\ v23 < (r2.length : Int)) /\ (inI (v23 + (1 : Int))) /\ (I1 (v23 + (1 : Int)) (r2.set v23.toNat (Sta.mk 0 (((lat jobs v23).wk).length : Int) ((lat jobs v23).ar))) /\ μ1 (v23 + (1 : Int)) (r2.set v23.toNat (Sta.mk 0 (((lat jobs v23).wk).length : Int) ((lat jobs v23).ar))) < μ1 v23 r2)) /\ (¬ (v23 < (jobs.length : Int)) -> ∃ (I2 : List Dn -> List (Vector Int 4) -> List Sta -> Prop) (μ2 : List Dn -> List (Vector Int 4) -> List Sta -> Nat), I2 [] (List.replicate (sv.length : Int).toNat (Vector.replicate 4 0 : (Vector Int 4))) r2 /\ ∀ (r0 : List Dn) (r1 : List (Vector Int 4)) (r2_1 : List Sta), I2 r0 r1 r2_1 -> (r2_1.length <= 9223372036854775807) /\ (((leastS r2_1) < (0 : Int)) -> Post r0) /\ (¬ ((leastS r2_1) < (0 : Int)) -> (0 <= (leastS r2_1) /\ (leastS r2_1) < (jobs.length : Int)) /\ (0 <= (leastS r2_1) /\ (leastS r2_1) < (r2_1.length : Int)) /\ (0 <= ((lat r2_1 (leastS r2_1)).dn) /\ ((lat r2_1 (leastS r2_1)).dn) < (((lat jobs (leastS r2_1)).wk).length : Int)) /\ (0 <= ((lat ((lat jobs (leastS r2_1)).wk) ((lat r2_1 (leastS r2_1)).dn)).st) /\ ((lat ((lat jobs (leastS r2_1)).wk) ((lat r2_1 (leastS r2_1)).dn)).st) < (r1.length : Int)) /\ (0 <= ((lat ((lat jobs (leastS r2_1)).wk) ((lat r2_1 (leastS r2_1)).dn)).st) /\ ((lat ((lat jobs (leastS r2_1)).wk) ((lat r2_1 (leastS r2_1)).dn)).st) < (sv.length : Int)) /\ (0 <= (lat sv ((lat ((lat jobs (leastS r2_1)).wk) ((lat r2_1 (leastS r2_1)).dn)).st)) /\ (lat sv ((lat ((lat jobs (leastS r2_1)).wk) ((lat r2_1 (leastS r2_1)).dn)).st)) <= ((4 : Nat) : Int)) /\ (((lat r1 ((lat ((lat jobs (leastS r2_1)).wk) ((lat r2_1 (leastS r2_1)).dn)).st)).toList.take (lat sv ((lat ((lat jobs (leastS r2_1)).wk) ((lat r2_1 (leastS r2_1)).dn)).st)).toNat).length <= 9223372036854775807) /\ (∀ y, leastI ((lat r1 ((lat ((lat jobs (leastS r2_1)).wk) ((lat r2_1 (leastS r2_1)).dn)).st)).toList.take (lat sv ((lat ((lat jobs (leastS r2_1)).wk) ((lat r2_1 (leastS r2_1)).dn)).st)).toNat) = y -> (0 <= (leastS r2_1) /\ (leastS r2_1) < (r2_1.length : Int)) /\ (0 <= ((lat ((lat jobs (leastS r2_1)).wk) ((lat r2_1 (leastS r2_1)).dn)).st) /\ ((lat ((lat jobs (leastS r2_1)).wk) ((lat r2_1 (leastS r2_1)).dn)).st) < (r1.length : Int)) /\ (0 <= y /\ y < ((4 : Nat) : Int)) /\ (0 <= (leastS r2_1) /\ (leastS r2_1) < (r2_1.length : Int)) /\ (inI ((max ((lat r2_1 (leastS r2_1)).rd) (vat (lat r1 ((lat ((lat jobs (leastS r2_1)).wk) ((lat r2_1 (leastS r2_1)).dn)).st)) y.toNat)) + ((lat ((lat jobs (leastS r2_1)).wk) ((lat r2_1 (leastS r2_1)).dn)).tm))) /\ (r0.length < 144) /\ (inI ((max ((lat r2_1 (leastS r2_1)).rd) (vat (lat r1 ((lat ((lat jobs (leastS r2_1)).wk) ((lat r2_1 (leastS r2_1)).dn)).st)) y.toNat)) + ((lat ((lat jobs (leastS r2_1)).wk) ((lat r2_1 (leastS r2_1)).dn)).tm))) /\ (0 <= ((lat ((lat jobs (leastS r2_1)).wk) ((lat r2_1 (leastS r2_1)).dn)).st) /\ ((lat ((lat jobs (leastS r2_1)).wk) ((lat r2_1 (leastS r2_1)).dn)).st) < (r1.length : Int)) /\ (0 <= y /\ y < ((4 : Nat) : Int)) /\ (0 <= (leastS r2_1) /\ (leastS r2_1) < (r2_1.length : Int)) /\ (inI (((lat r2_1 (leastS r2_1)).dn) + (1 : Int))) /\ (0 <= (leastS r2_1) /\ (leastS r2_1) < (r2_1.length : Int)) /\ (inI ((max ((lat r2_1 (leastS r2_1)).rd) (vat (lat r1 ((lat ((lat jobs (leastS r2_1)).wk) ((lat r2_1 (leastS r2_1)).dn)).st)) y.toNat)) + ((lat ((lat jobs (leastS r2_1)).wk) ((lat r2_1 (leastS r2_1)).dn)).tm))) /\ (0 <= (leastS r2_1) /\ (leastS r2_1) < (r2_1.length : Int)) /\ (I2 (r0 ++ [(Dn.mk (leastS r2_1) (Vis.mk ((lat r2_1 (leastS r2_1)).rd) (max ((lat r2_1 (leastS r2_1)).rd) (vat (lat r1 ((lat ((lat jobs (leastS r2_1)).wk) ((lat r2_1 (leastS r2_1)).dn)).st)) y.toNat)) ((max ((lat r2_1 (leastS r2_1)).rd) (vat (lat r1 ((lat ((lat jobs (leastS r2_1)).wk) ((lat r2_1 (leastS r2_1)).dn)).st)) y.toNat)) + ((lat ((lat jobs (leastS r2_1)).wk) ((lat r2_1 (leastS r2_1)).dn)).tm))))]) (r1.set ((lat ((lat jobs (leastS r2_1)).wk) ((lat r2_1 (leastS r2_1)).dn)).st).toNat (vset (lat r1 ((lat ((lat jobs (leastS r2_1)).wk) ((lat r2_1 (leastS r2_1)).dn)).st)) y.toNat ((max ((lat r2_1 (leastS r2_1)).rd) (vat (lat r1 ((lat ((lat jobs (leastS r2_1)).wk) ((lat r2_1 (leastS r2_1)).dn)).st)) y.toNat)) + ((lat ((lat jobs (leastS r2_1)).wk) ((lat r2_1 (leastS r2_1)).dn)).tm)))) ((r2_1.set (leastS r2_1).toNat (⟨(((lat r2_1 (leastS r2_1)).dn) + (1 : Int)), (lat r2_1 (leastS r2_1)).al, (lat r2_1 (leastS r2_1)).rd⟩ : Sta)).set (leastS r2_1).toNat (⟨(lat (r2_1.set (leastS r2_1).toNat (⟨(((lat r2_1 (leastS r2_1)).dn) + (1 : Int)), (lat r2_1 (leastS r2_1)).al, (lat r2_1 (leastS r2_1)).rd⟩ : Sta)) (leastS r2_1)).dn, (lat (r2_1.set (leastS r2_1).toNat (⟨(((lat r2_1 (leastS r2_1)).dn) + (1 : Int)), (lat r2_1 (leastS r2_1)).al, (lat r2_1 (leastS r2_1)).rd⟩ : Sta)) (leastS r2_1)).al, ((max ((lat r2_1 (leastS r2_1)).rd) (vat (lat r1 ((lat ((lat jobs (leastS r2_1)).wk) ((lat r2_1 (leastS r2_1)).dn)).st)) y.toNat)) + ((lat ((lat jobs (leastS r2_1)).wk) ((lat r2_1 (leastS r2_1)).dn)).tm))⟩ : Sta)) /\ μ2 (r0 ++ [(Dn.mk (leastS r2_1) (Vis.mk ((lat r2_1 (leastS r2_1)).rd) (max ((lat r2_1 (leastS r2_1)).rd) (vat (lat r1 ((lat ((lat jobs (leastS r2_1)).wk) ((lat r2_1 (leastS r2_1)).dn)).st)) y.toNat)) ((max ((lat r2_1 (leastS r2_1)).rd) (vat (lat r1 ((lat ((lat jobs (leastS r2_1)).wk) ((lat r2_1 (leastS r2_1)).dn)).st)) y.toNat)) + ((lat ((lat jobs (leastS r2_1)).wk) ((lat r2_1 (leastS r2_1)).dn)).tm))))]) (r1.set ((lat ((lat jobs (leastS r2_1)).wk) ((lat r2_1 (leastS r2_1)).dn)).st).toNat (vset (lat r1 ((lat ((lat jobs (leastS r2_1)).wk) ((lat r2_1 (leastS r2_1)).dn)).st)) y.toNat ((max ((lat r2_1 (leastS r2_1)).rd) (vat (lat r1 ((lat ((lat jobs (leastS r2_1)).wk) ((lat r2_1 (leastS r2_1)).dn)).st)) y.toNat)) + ((lat ((lat jobs (leastS r2_1)).wk) ((lat r2_1 (leastS r2_1)).dn)).tm)))) ((r2_1.set (leastS r2_1).toNat (⟨(((lat r2_1 (leastS r2_1)).dn) + (1 : Int)), (lat r2_1 (leastS r2_1)).al, (lat r2_1 (leastS r2_1)).rd⟩ : Sta)).set (leastS r2_1).toNat (⟨(lat (r2_1.set (leastS r2_1).toNat (⟨(((lat r2_1 (leastS r2_1)).dn) + (1 : Int)), (lat r2_1 (leastS r2_1)).al, (lat r2_1 (leastS r2_1)).rd⟩ : Sta)) (leastS r2_1)).dn, (lat (r2_1.set (leastS r2_1).toNat (⟨(((lat r2_1 (leastS r2_1)).dn) + (1 : Int)), (lat r2_1 (leastS r2_1)).al, (lat r2_1 (leastS r2_1)).rd⟩ : Sta)) (leastS r2_1)).al, ((max ((lat r2_1 (leastS r2_1)).rd) (vat (lat r1 ((lat ((lat jobs (leastS r2_1)).wk) ((lat r2_1 (leastS r2_1)).dn)).st)) y.toNat)) + ((lat ((lat jobs (leastS r2_1)).wk) ((lat r2_1 (leastS r2_1)).dn)).tm))⟩ : Sta)) < μ2 r0 r1 r2_1))))
theorem walk_run {sv : (List Int)} {jobs : (List Job)} {Post : List Dn -> Prop} (hv : vc_run sv jobs Post) : FnH Try.prog 48 [] [.lst true sv.length (zYy zYx sv), .lst true jobs.length (zYy (e53 true) jobs)] (fun x H => ∃ l q0, H = .chan 144 true (encC e89 q0) :: l /\ x = .chn 0 /\ Post q0) := by
 refine FnH.of_walk (T := tt) (nt := 120) ttOk ttMix ⟨⟨Try.f48, Try.func48, rfl, rfl, rfl, rfl⟩⟩ (by simp) (by simp) 0 (by simp) ?_
 unfold vc_run at hv
 change W _ _ _ ⟨120, look [(0, .lst true sv.length (zYy zYx sv)), (1, .lst true jobs.length (zYy (e53 true) jobs))], [], 0⟩ _
 refine W.ty [(0, .lst _ _ _), (1, .lst _ _ _)] rfl (W.rL (cL rfl (zZq (v := .any) rfl (eL (W.ty [(0, .lst _ _ _), (1, .lst _ _ _)] rfl (W.rL (cL rfl (o_mkC e89 (p := 0) (c := 144) tt109 tt89 rfl rfl (by decide) rfl rfl (cL rfl (zZq (v := .chn _) rfl (eL (W.ty [(0, .lst _ _ _), (1, .lst _ _ _), (5, .chn _)] rfl (W.rL (mL rfl rfl (cL rfl (zXw (v := .lst _ _ _) tt22 rfl rfl ?_))))))))))))))))
 obtain ⟨s1, hv⟩ := hv
 refine cL rfl (o_mkS (p := 1) (x0 := (Vector.replicate 4 0 : (Vector Int 4))) tt110 tt118 rfl rfl rfl (encV4.wd false) rfl s1 rfl (cL rfl (zZq (v := .ref _ _ _) rfl (eL (W.ty [(0, .lst _ _ _), (1, .lst _ _ _), (5, .chn _), (6, .ref _ _ _)] rfl (W.rL (mL rfl rfl (cL rfl (zXw (v := .lst _ _ _) tt23 rfl rfl ?_)))))))))
 obtain ⟨s2, hv⟩ := hv
 refine cL rfl (o_mkS (p := 2) (x0 := ((Sta.mk 0 0 0) : Sta)) tt111 tt113 rfl rfl rfl (enc113.wd false) rfl s2 rfl (cL rfl (zZq (v := .ref _ _ _) rfl (eL (W.ty [(0, .lst _ _ _), (1, .lst _ _ _), (5, .chn _), (6, .ref _ _ _), (7, .ref _ _ _)] rfl (W.seq' (W.rL (mL rfl rfl (cL rfl (zXw (v := .lst _ _ _) tt23 rfl rfl (mI rfl rfl (eL (W.ty [(0, .lst _ _ _), (1, .lst _ _ _), (5, .chn _), (6, .ref _ _ _), (7, .ref _ _ _), (21, .lst _ _ _), (22, .int _ _), (23, .int _ _)] rfl (W.block ?_))))))))))))))
 obtain ⟨I1, μ1, hp, hv⟩ := hv
 refine W.loop2 (fun v23 r2 => ⟨120, look [(0, .lst true sv.length (zYy zYx sv)), (1, .lst true jobs.length (zYy (e53 true) jobs)), (5, .chn 0), (6, .ref false 1 ((List.replicate (sv.length : Int).toNat (Vector.replicate 4 0 : (Vector Int 4))).length)), (7, .ref false 2 r2.length), (21, .lst true jobs.length (zYy (e53 true) jobs)), (22, .int .i64 (jobs.length : Int)), (23, .int .i64 v23)], [.chan 144 false (encC e89 []), .row 118 4 (zYy eV4 (List.replicate (sv.length : Int).toNat (Vector.replicate 4 0 : (Vector Int 4)))), .row 113 3 (zYy e113 r2)], 0⟩) I1 μ1 (0 : Int) (List.replicate (jobs.length : Int).toNat ((Sta.mk 0 0 0) : Sta)) (St.to_mk (φ := [some 0, some 1, some 2]) rfl (rfl) ⟨Ren.lst _ _ _, Ren.lst _ _ _, Ren.chn rfl, Ren.refL rfl id (by simp), Ren.refL rfl id (by simp), Ren.lst _ _ _, Ren.int _ _, Ren.int _ _, trivial⟩ ⟨.inr ⟨_, rfl, rfl, rfl, Rens.encC (fun _ => rfl) _ _⟩, zE encV4 false (List.replicate (sv.length : Int).toNat (Vector.replicate 4 0 : (Vector Int 4))) rfl, zE enc113 false (List.replicate (jobs.length : Int).toNat ((Sta.mk 0 0 0) : Sta)) rfl, trivial⟩) hp ?_
 clear hp
 intro v23 r2 hI
 replace hv := hv v23 r2 hI
 clear hI
 refine W.rL (cL rfl (zYq rfl rfl (eL (W.ty [(0, .lst _ _ _), (1, .lst _ _ _), (5, .chn _), (6, .ref _ _ _), (7, .ref _ _ _), (21, .lst _ _ _), (22, .int _ _), (23, .int _ _), (24, .bool _)] rfl (W.seq' (W.cn rfl (fun hc => ?_) (fun hc => ?_)))))))
 have hv := hv.1 hc
 refine W.skip (zZ (W.ty [(0, .lst _ _ _), (1, .lst _ _ _), (5, .chn _), (6, .ref _ _ _), (7, .ref _ _ _), (21, .lst _ _ _), (22, .int _ _), (23, .int _ _)] rfl (W.seq' (W.block (W.rL (mI rfl rfl ?_))))))
 obtain ⟨s30, hv⟩ := hv
 refine cL rfl (zYu tt23 tt53 rfl rfl (enc53.wd true) rfl s30 ?_)
 intro rest30
 refine cL rfl (zYp (cs := [.int _ _, .lst _ _ _]) tt53 rfl rfl ⟨_, rfl⟩ rfl (cL rfl (zXy (p := 3) tt53 rfl rfl (aI rfl rfl (cLn (o_stB (v := .agg _) (vs := [.int _ _, .lst _ _ _]) (cs2 := [.int _ _, .lst _ _ _]) tt53 rfl rfl rfl rfl rfl (Nat.le_of_ble_eq_true rfl) rfl (eL (W.ty [(0, .lst _ _ _), (1, .lst _ _ _), (5, .chn _), (6, .ref _ _ _), (7, .ref _ _ _), (8, .int _ _), (9, .ptr _ _), (21, .lst _ _ _), (22, .int _ _), (23, .int _ _)] rfl (W.rL1 (cL rfl (zZp (v := .ref _ _ _) rfl (mI rfl rfl (cL rfl (o_fa tt53 rfl tt51 rfl (cL rfl (zZx (v := .lst _ _ _) tt51 rfl rfl ⟨_, rfl⟩ (cL rfl (zXw (v := .lst _ _ _) tt51 rfl rfl (cL rfl (o_fa tt53 rfl tt3 rfl (cL rfl (zZx (v := .int _ _) tt3 rfl rfl ⟨_, rfl⟩ (cL rfl (o_build (qs := [(0, .int _ _), (1, .int _ _), (2, .int _ _)]) (cs := [.int _ _, .int _ _, .int _ _]) tt113 rfl rfl rfl ?_))))))))))))))))))))))))
 obtain ⟨s31, hv⟩ := hv
 refine cL rfl (o_iaR tt111 tt113 rfl rfl s31 (cLn (o_stR (v := .agg _) tt113 rfl rfl rfl rfl rfl (row_in (xs := r2) (enc113.wd false) s31 rfl) (row_set (e := e113) (enc113.wd false) _ _ (Sta.mk 0 (((lat jobs v23).wk).length : Int) ((lat jobs v23).ar)) rfl s31.1 s31.2) (eL (zYv (zZ (W.ty [(0, .lst _ _ _), (1, .lst _ _ _), (5, .chn _), (6, .ref _ _ _), (7, .ref _ _ _), (21, .lst _ _ _), (22, .int _ _), (23, .int _ _)] rfl (W.rL1 ?_))))))))
 obtain ⟨s32, hv⟩ := hv
 refine cL rfl (o_add rfl rfl s32 (mI rfl rfl (eL (zZ (⟨(), (v23 + (1 : Int)), (r2.set v23.toNat (Sta.mk 0 (((lat jobs v23).wk).length : Int) ((lat jobs v23).ar))), hv, St.to_mk (φ := [some 0, some 1, some 2]) rfl (rfl) ⟨Ren.lst _ _ _, Ren.lst _ _ _, Ren.chn rfl, Ren.refL rfl id (by simp), Ren.refL rfl id (by simp), Ren.lst _ _ _, Ren.int _ _, Ren.int _ _, trivial⟩ ⟨.inr ⟨_, rfl, rfl, rfl, Rens.encC (fun _ => rfl) _ _⟩, zE encV4 false (List.replicate (sv.length : Int).toNat (Vector.replicate 4 0 : (Vector Int 4))) rfl, zE enc113 false (r2.set v23.toNat (Sta.mk 0 (((lat jobs v23).wk).length : Int) ((lat jobs v23).ar))) rfl, trivial⟩⟩)))))
 have hv := hv.2 hc
 refine W.exit (zZt (zZt (zYs (zZ (W.ty [(0, .lst _ _ _), (1, .lst _ _ _), (5, .chn _), (6, .ref _ _ _), (7, .ref _ _ _)] rfl (W.block ?_))))))
 obtain ⟨I2, μ2, hp, hv⟩ := hv
 refine W.loop3 (fun r0 r1 r2_1 => ⟨120, look [(0, .lst true sv.length (zYy zYx sv)), (1, .lst true jobs.length (zYy (e53 true) jobs)), (5, .chn 0), (6, .ref false 1 r1.length), (7, .ref false 2 r2_1.length)], [.chan 144 false (encC e89 r0), .row 118 4 (zYy eV4 r1), .row 113 3 (zYy e113 r2_1)], 0⟩) I2 μ2 [] (List.replicate (sv.length : Int).toNat (Vector.replicate 4 0 : (Vector Int 4))) r2 (St.to_mk (φ := [some 0, some 1, some 2]) rfl (rfl) ⟨Ren.lst _ _ _, Ren.lst _ _ _, Ren.chn rfl, Ren.refL rfl id (by simp), Ren.ref rfl id, trivial⟩ ⟨.inr ⟨_, rfl, rfl, rfl, Rens.encC (fun _ => rfl) _ _⟩, zE encV4 false (List.replicate (sv.length : Int).toNat (Vector.replicate 4 0 : (Vector Int 4))) rfl, zE enc113 false r2 rfl, trivial⟩) hp ?_
 clear hp
 intro r0 r1 r2_1 hI
 replace hv := hv r0 r1 r2_1 hI
 clear hI
 refine W.block (W.rL (cL rfl (zZp (v := .ref _ _ _) rfl ?_)))
 obtain ⟨s77, hv⟩ := hv
 refine cL rfl (zZu (k := 62) (fst := []) (caps := []) (ys := [.ref _ _ _, .clo _ _ _, .clo _ _ _]) rfl rfl (spec_leastS r2_1 s77) (Wks.cons (ag_ref (fl := false) (xs := r2_1) enc113 4 _ rfl rfl) (Wks.cons (ag_clo 5 _ _ zk zk) (Wks.cons (ag_clo 5 _ _ zk zk) zk))) (aI rfl rfl (eL (W.ty [(0, .lst _ _ _), (1, .lst _ _ _), (5, .chn _), (6, .ref _ _ _), (7, .ref _ _ _), (10, .int _ _)] rfl (W.seq' (W.rL (mI rfl rfl (cL rfl (zYq rfl rfl (eL (W.ty [(0, .lst _ _ _), (1, .lst _ _ _), (5, .chn _), (6, .ref _ _ _), (7, .ref _ _ _), (10, .int _ _), (41, .bool _)] rfl (W.cn rfl (fun hc => ?_) (fun hc => ?_)))))))))))))
 have hv := hv.1 hc
 refine W.rL (cL rfl (zZp (v := .chn _) rfl (cLn (o_close rfl rfl (eL (W.ty [(5, .chn _)] rfl (W.rL (cL rfl (zZp (v := .chn _) rfl (cL rfl (zZq (v := .chn _) rfl (eL (W.ty [(4, .chn _)] rfl (W.to (st' := ⟨120, look [(4, .chn 0)], [.chan 144 true (encC e89 r0)], 0⟩) (St.to_mk (φ := [some 0]) rfl rfl ⟨Ren.chn rfl, trivial⟩ ⟨.inr ⟨_, rfl, rfl, rfl, Rens.encC (fun _ => rfl) _ _⟩, trivial⟩) ?_))))))))))))))
 refine W.ret (zZr (zYt (zZr (zYt (rt (rt_t (v := .chn _) rfl (rt_n (⟨_, r0, rfl, rfl, hv⟩))))))))
 have hv := hv.2 hc
 refine W.skip (zZ (W.ty [(0, .lst _ _ _), (1, .lst _ _ _), (5, .chn _), (6, .ref _ _ _), (7, .ref _ _ _), (10, .int _ _)] rfl (W.rD [0, 1, 2, 3, 4, 5, 6, 7, 8, 9, 10, 11, 12, 13] (by decide +kernel) rfl (mL rfl rfl (mI rfl rfl ?_)))))
 obtain ⟨s78, hv⟩ := hv
 refine cL rfl (zYu tt23 tt53 rfl rfl (enc53.wd true) rfl s78 ?_)
 intro rest78
 refine cL rfl (o_faP tt53 rfl tt51 rfl (cL rfl (zZx (v := .lst _ _ _) tt51 rfl rfl ⟨_, rfl⟩ (cL rfl (zZp (v := .ref _ _ _) rfl (mI rfl rfl ?_))))))
 obtain ⟨s79, hv⟩ := hv
 refine cL rfl (o_iaR tt111 tt113 rfl rfl s79 (cL rfl (o_fa tt113 rfl tt3 rfl (cL rfl (zZx (v := .int _ _) tt3 rfl rfl (cell_of (ca_rowF (xs := r2_1) (k := 0) rfl (enc113.wd false) s79 rfl) rfl) ?_)))))
 obtain ⟨s80, hv⟩ := hv
 refine cL rfl (zYu tt51 tt60 rfl rfl (enc60.wd true) rfl s80 ?_)
 intro rest80
 refine cL rfl (zYp (cs := [.int _ _, .int _ _]) tt60 rfl rfl ⟨_, rfl⟩ rfl (cL rfl (zXy (p := 3) tt60 rfl rfl (cLn (o_stB (v := .agg _) (vs := [.int _ _, .int _ _]) (cs2 := [.int _ _, .int _ _]) tt60 rfl rfl rfl rfl rfl (Nat.le_of_ble_eq_true rfl) rfl (eL (W.ty [(0, .lst _ _ _), (1, .lst _ _ _), (5, .chn _), (6, .ref _ _ _), (7, .ref _ _ _), (10, .int _ _), (11, .ptr _ _)] rfl (W.rD [0, 1, 2, 3, 4, 5, 6, 7, 8, 9, 10, 11] (by decide +kernel) rfl (cL rfl (zZp (v := .ref _ _ _) rfl (cL rfl (o_fa tt60 rfl tt3 rfl (cL rfl (zZx (v := .int _ _) tt3 rfl rfl ⟨_, rfl⟩ ?_))))))))))))))
 obtain ⟨s81, hv⟩ := hv
 refine cL rfl (o_iaR tt110 tt118 rfl rfl s81 (mL rfl rfl (cL rfl (o_fa tt60 rfl tt3 rfl (cL rfl (zZx (v := .int _ _) tt3 rfl rfl ⟨_, rfl⟩ ?_))))))
 obtain ⟨s82, hv⟩ := hv
 refine cL rfl (zYu tt22 tt3 rfl rfl (zZw.wd true) rfl s82 ?_)
 intro rest82
 refine cL rfl (zZx (v := .int _ _) tt3 rfl rfl ⟨_, rfl⟩ ?_)
 obtain ⟨s83, hv⟩ := hv
 refine cL rfl (o_slA (x := 0) tt118 tt3 rfl rfl rfl ⟨by omega, s83⟩ (off := ((lat ((lat jobs (leastS r2_1)).wk) ((lat r2_1 (leastS r2_1)).dn)).st).toNat * 4) (c := (lat sv ((lat ((lat jobs (leastS r2_1)).wk) ((lat r2_1 (leastS r2_1)).dn)).st)).toNat) (by simp) (by simp) ?_)
 obtain ⟨s84, hv⟩ := hv
 refine cL rfl (zZu (k := 65) (fst := []) (caps := []) (ys := [.sub _ _ _, .clo _ _ _, .clo _ _ _]) rfl rfl (spec_leastI ((lat r1 ((lat ((lat jobs (leastS r2_1)).wk) ((lat r2_1 (leastS r2_1)).dn)).st)).toList.take (lat sv ((lat ((lat jobs (leastS r2_1)).wk) ((lat r2_1 (leastS r2_1)).dn)).st)).toNat) s84) (Wks.cons (ag_subA 4 (ys := (lat r1 ((lat ((lat jobs (leastS r2_1)).wk) ((lat r2_1 (leastS r2_1)).dn)).st)).toList.take (lat sv ((lat ((lat jobs (leastS r2_1)).wk) ((lat r2_1 (leastS r2_1)).dn)).st)).toNat) rfl s81 rfl (by have := s83; simp; omega)) (Wks.cons (ag_clo 5 _ _ zk zk) (Wks.cons (ag_clo 5 _ _ zk zk) zk))) (aI rfl rfl (eL (W.ty [(0, .lst _ _ _), (1, .lst _ _ _), (5, .chn _), (6, .ref _ _ _), (7, .ref _ _ _), (10, .int _ _), (11, .ptr _ _), (12, .int _ _)] rfl ?_))))
 generalize hy : leastI ((lat r1 ((lat ((lat jobs (leastS r2_1)).wk) ((lat r2_1 (leastS r2_1)).dn)).st)).toList.take (lat sv ((lat ((lat jobs (leastS r2_1)).wk) ((lat r2_1 (leastS r2_1)).dn)).st)).toNat) = y
 replace hv := hv y hy
 clear hy
 refine W.rD [0, 1, 2, 3, 4, 5, 6, 7, 8, 9, 10, 11, 12, 13] (by decide +kernel) rfl (cL rfl (zZp (v := .ref _ _ _) rfl (mI rfl rfl ?_)))
 obtain ⟨s85, hv⟩ := hv
 refine cL rfl (o_iaR tt111 tt113 rfl rfl s85 (cL rfl (o_fa tt113 rfl tt3 rfl (cL rfl (zZx (v := .int _ _) tt3 rfl rfl (cell_of (ca_rowF (xs := r2_1) (k := 2) rfl (enc113.wd false) s85 rfl) rfl) (cL rfl (zZp (v := .ref _ _ _) rfl (cL rfl (o_fa tt60 rfl tt3 rfl (cL rfl (zZx (v := .int _ _) tt3 rfl rfl ⟨_, rfl⟩ (mI rfl rfl ?_))))))))))))
 obtain ⟨s86, hv⟩ := hv
 refine cL rfl (o_iaR tt110 tt118 rfl rfl s86 ?_)
 obtain ⟨s87, hv⟩ := hv
 refine cL rfl (o_iaA tt118 tt3 rfl rfl s87 (by rw [Nat.mul_one]) (cL rfl (zZx (v := .int _ _) tt3 rfl rfl (ca_rowV (xs := r1) rfl s86 (by have := s87; omega)) (cL rfl (o_max rfl rfl (aI rfl rfl (eL (W.ty [(0, .lst _ _ _), (1, .lst _ _ _), (5, .chn _), (6, .ref _ _ _), (7, .ref _ _ _), (10, .int _ _), (11, .ptr _ _), (12, .int _ _), (13, .int _ _)] rfl (W.sendK 14 [0, 1, 2, 3, 4, 5, 6, 7, 8, 9, 10, 11, 12, 13, 14] rfl rfl (by decide +kernel) rfl rfl (by decide +kernel) (cL rfl (zZp (v := .chn _) rfl (mI rfl rfl (cL rfl (zZp (v := .ref _ _ _) rfl (mI rfl rfl ?_)))))))))))))))
 obtain ⟨s88, hv⟩ := hv
 refine cL rfl (o_iaR tt111 tt113 rfl rfl s88 (cL rfl (o_fa tt113 rfl tt3 rfl (cL rfl (zZx (v := .int _ _) tt3 rfl rfl (cell_of (ca_rowF (xs := r2_1) (k := 2) rfl (enc113.wd false) s88 rfl) rfl) ?_)))))
 iterate 2 refine mI rfl rfl ?_
 refine cL rfl (o_fa tt60 rfl tt3 rfl (cL rfl (zZx (v := .int _ _) tt3 rfl rfl ⟨_, rfl⟩ ?_)))
 obtain ⟨s89, hv⟩ := hv
 refine cL rfl (o_add rfl rfl s89 (cL rfl (o_build (qs := [(0, .int _ _), (1, .int _ _), (2, .int _ _)]) (cs := [.int _ _, .int _ _, .int _ _]) tt87 rfl rfl rfl (cL rfl (o_build (qs := [(0, .int _ _), (1, .agg _)]) (cs := [.int _ _, .int _ _, .int _ _, .int _ _]) tt89 rfl rfl rfl (cLn (zZp (v := .bool _) rfl ?_)))))))
 obtain ⟨s90, hv⟩ := hv
 refine eL (sndE (x := (Dn.mk (leastS r2_1) (Vis.mk ((lat r2_1 (leastS r2_1)).rd) (max ((lat r2_1 (leastS r2_1)).rd) (vat (lat r1 ((lat ((lat jobs (leastS r2_1)).wk) ((lat r2_1 (leastS r2_1)).dn)).st)) y.toNat)) ((max ((lat r2_1 (leastS r2_1)).rd) (vat (lat r1 ((lat ((lat jobs (leastS r2_1)).wk) ((lat r2_1 (leastS r2_1)).dn)).st)) y.toNat)) + ((lat ((lat jobs (leastS r2_1)).wk) ((lat r2_1 (leastS r2_1)).dn)).tm))))) rfl rfl s90 rfl (W.ty [(0, .lst _ _ _), (1, .lst _ _ _), (5, .chn _), (6, .ref _ _ _), (7, .ref _ _ _), (10, .int _ _), (11, .ptr _ _), (12, .int _ _), (13, .int _ _)] rfl (W.rD [0, 1, 2, 3, 4, 5, 6, 7, 8, 9, 10] (by decide +kernel) rfl (cL rfl (zZp (v := .ref _ _ _) rfl (cL rfl (o_fa tt60 rfl tt3 rfl (cL rfl (zZx (v := .int _ _) tt3 rfl rfl ⟨_, rfl⟩ ?_)))))))))
 iterate 2 refine mI rfl rfl ?_
 refine cL rfl (o_fa tt60 rfl tt3 rfl (cL rfl (zZx (v := .int _ _) tt3 rfl rfl ⟨_, rfl⟩ ?_)))
 obtain ⟨s91, hv⟩ := hv
 refine cL rfl (o_add rfl rfl s91 ?_)
 obtain ⟨s92, hv⟩ := hv
 refine cL rfl (o_iaR tt110 tt118 rfl rfl s92 ?_)
 obtain ⟨s93, hv⟩ := hv
 refine cL rfl (o_iaA tt118 tt3 rfl rfl s93 (by rw [Nat.mul_one]) (cLn (o_stR (v := .int _ _) (vs := [.int _ _]) tt3 rfl rfl rfl rfl rfl (row_inV (xs := r1) s92 (by have := s93; omega)) (row_setV r1 s92 (by have := s93; omega) ((max ((lat r2_1 (leastS r2_1)).rd) (vat (lat r1 ((lat ((lat jobs (leastS r2_1)).wk) ((lat r2_1 (leastS r2_1)).dn)).st)) y.toNat)) + ((lat ((lat jobs (leastS r2_1)).wk) ((lat r2_1 (leastS r2_1)).dn)).tm))) (eL (W.ty [(0, .lst _ _ _), (1, .lst _ _ _), (5, .chn _), (6, .ref _ _ _), (7, .ref _ _ _), (10, .int _ _), (11, .ptr _ _), (13, .int _ _)] rfl (W.rL (cL rfl (zZp (v := .ref _ _ _) rfl (mI rfl rfl ?_)))))))))
 obtain ⟨s94, hv⟩ := hv
 refine cL rfl (o_iaR tt111 tt113 rfl rfl s94 (cL rfl (o_fa tt113 rfl tt3 rfl (cL rfl (zZx (v := .int _ _) tt3 rfl rfl (cell_of (ca_rowF (xs := r2_1) (k := 0) rfl (enc113.wd false) s94 rfl) rfl) ?_)))))
 obtain ⟨s95, hv⟩ := hv
 refine cL rfl (o_add rfl rfl s95 ?_)
 obtain ⟨s96, hv⟩ := hv
 refine cL rfl (o_iaR tt111 tt113 rfl rfl s96 (cL rfl (o_fa tt113 rfl tt3 rfl (cLn (o_stR (v := .int _ _) (vs := [.int _ _]) tt3 rfl rfl rfl rfl rfl (row_inF (xs := r2_1) (enc113.wd false) s96 rfl) (row_setF (e := e113) (enc113.wd false) _ _ 0 (⟨(((lat r2_1 (leastS r2_1)).dn) + (1 : Int)), (lat r2_1 (leastS r2_1)).al, (lat r2_1 (leastS r2_1)).rd⟩ : Sta) rfl rfl s96) (eL (W.ty [(0, .lst _ _ _), (1, .lst _ _ _), (5, .chn _), (6, .ref _ _ _), (7, .ref _ _ _), (10, .int _ _), (11, .ptr _ _), (13, .int _ _)] rfl (W.rL1 (cL rfl (zZp (v := .ref _ _ _) rfl ?_))))))))))
 iterate 2 refine mI rfl rfl ?_
 refine cL rfl (o_fa tt60 rfl tt3 rfl (cL rfl (zZx (v := .int _ _) tt3 rfl rfl ⟨_, rfl⟩ ?_)))
 obtain ⟨s97, hv⟩ := hv
 refine cL rfl (o_add rfl rfl s97 ?_)
 obtain ⟨s98, hv⟩ := hv
 refine cL rfl (o_iaR tt111 tt113 rfl rfl s98 ?_)
 have s98q : 0 <= (leastS r2_1) /\ (leastS r2_1) < (((r2_1.set (leastS r2_1).toNat (⟨(((lat r2_1 (leastS r2_1)).dn) + (1 : Int)), (lat r2_1 (leastS r2_1)).al, (lat r2_1 (leastS r2_1)).rd⟩ : Sta)).length : Nat) : Int) := by simpa using s98
 refine cL rfl (o_fa tt113 rfl tt3 rfl (cLn (o_stR (v := .int _ _) (vs := [.int _ _]) tt3 rfl rfl rfl rfl rfl (row_inF (xs := r2_1.set (leastS r2_1).toNat (⟨(((lat r2_1 (leastS r2_1)).dn) + (1 : Int)), (lat r2_1 (leastS r2_1)).al, (lat r2_1 (leastS r2_1)).rd⟩ : Sta)) (enc113.wd false) s98q rfl) (row_setF (e := e113) (enc113.wd false) _ _ 2 (⟨(lat (r2_1.set (leastS r2_1).toNat (⟨(((lat r2_1 (leastS r2_1)).dn) + (1 : Int)), (lat r2_1 (leastS r2_1)).al, (lat r2_1 (leastS r2_1)).rd⟩ : Sta)) (leastS r2_1)).dn, (lat (r2_1.set (leastS r2_1).toNat (⟨(((lat r2_1 (leastS r2_1)).dn) + (1 : Int)), (lat r2_1 (leastS r2_1)).al, (lat r2_1 (leastS r2_1)).rd⟩ : Sta)) (leastS r2_1)).al, ((max ((lat r2_1 (leastS r2_1)).rd) (vat (lat r1 ((lat ((lat jobs (leastS r2_1)).wk) ((lat r2_1 (leastS r2_1)).dn)).st)) y.toNat)) + ((lat ((lat jobs (leastS r2_1)).wk) ((lat r2_1 (leastS r2_1)).dn)).tm))⟩ : Sta) rfl rfl s98q) (eL (zYv (zZ (⟨(), (r0 ++ [(Dn.mk (leastS r2_1) (Vis.mk ((lat r2_1 (leastS r2_1)).rd) (max ((lat r2_1 (leastS r2_1)).rd) (vat (lat r1 ((lat ((lat jobs (leastS r2_1)).wk) ((lat r2_1 (leastS r2_1)).dn)).st)) y.toNat)) ((max ((lat r2_1 (leastS r2_1)).rd) (vat (lat r1 ((lat ((lat jobs (leastS r2_1)).wk) ((lat r2_1 (leastS r2_1)).dn)).st)) y.toNat)) + ((lat ((lat jobs (leastS r2_1)).wk) ((lat r2_1 (leastS r2_1)).dn)).tm))))]), (r1.set ((lat ((lat jobs (leastS r2_1)).wk) ((lat r2_1 (leastS r2_1)).dn)).st).toNat (vset (lat r1 ((lat ((lat jobs (leastS r2_1)).wk) ((lat r2_1 (leastS r2_1)).dn)).st)) y.toNat ((max ((lat r2_1 (leastS r2_1)).rd) (vat (lat r1 ((lat ((lat jobs (leastS r2_1)).wk) ((lat r2_1 (leastS r2_1)).dn)).st)) y.toNat)) + ((lat ((lat jobs (leastS r2_1)).wk) ((lat r2_1 (leastS r2_1)).dn)).tm)))), ((r2_1.set (leastS r2_1).toNat (⟨(((lat r2_1 (leastS r2_1)).dn) + (1 : Int)), (lat r2_1 (leastS r2_1)).al, (lat r2_1 (leastS r2_1)).rd⟩ : Sta)).set (leastS r2_1).toNat (⟨(lat (r2_1.set (leastS r2_1).toNat (⟨(((lat r2_1 (leastS r2_1)).dn) + (1 : Int)), (lat r2_1 (leastS r2_1)).al, (lat r2_1 (leastS r2_1)).rd⟩ : Sta)) (leastS r2_1)).dn, (lat (r2_1.set (leastS r2_1).toNat (⟨(((lat r2_1 (leastS r2_1)).dn) + (1 : Int)), (lat r2_1 (leastS r2_1)).al, (lat r2_1 (leastS r2_1)).rd⟩ : Sta)) (leastS r2_1)).al, ((max ((lat r2_1 (leastS r2_1)).rd) (vat (lat r1 ((lat ((lat jobs (leastS r2_1)).wk) ((lat r2_1 (leastS r2_1)).dn)).st)) y.toNat)) + ((lat ((lat jobs (leastS r2_1)).wk) ((lat r2_1 (leastS r2_1)).dn)).tm))⟩ : Sta)), hv, St.to_mk (φ := [some 0, some 1, some 2]) rfl (rfl) ⟨Ren.lst _ _ _, Ren.lst _ _ _, Ren.chn rfl, Ren.refL rfl id (by simp), Ren.refL rfl id (by simp), trivial⟩ ⟨.inr ⟨_, rfl, rfl, rfl, Rens.encC (fun _ => rfl) _ _⟩, zE encV4 false (r1.set ((lat ((lat jobs (leastS r2_1)).wk) ((lat r2_1 (leastS r2_1)).dn)).st).toNat (vset (lat r1 ((lat ((lat jobs (leastS r2_1)).wk) ((lat r2_1 (leastS r2_1)).dn)).st)) y.toNat ((max ((lat r2_1 (leastS r2_1)).rd) (vat (lat r1 ((lat ((lat jobs (leastS r2_1)).wk) ((lat r2_1 (leastS r2_1)).dn)).st)) y.toNat)) + ((lat ((lat jobs (leastS r2_1)).wk) ((lat r2_1 (leastS r2_1)).dn)).tm)))) rfl, .inr ⟨_, rfl, rfl, rfl, rfl, Rens.enc enc113 false ((r2_1.set (leastS r2_1).toNat (⟨(((lat r2_1 (leastS r2_1)).dn) + (1 : Int)), (lat r2_1 (leastS r2_1)).al, (lat r2_1 (leastS r2_1)).rd⟩ : Sta)).set (leastS r2_1).toNat (⟨(lat (r2_1.set (leastS r2_1).toNat (⟨(((lat r2_1 (leastS r2_1)).dn) + (1 : Int)), (lat r2_1 (leastS r2_1)).al, (lat r2_1 (leastS r2_1)).rd⟩ : Sta)) (leastS r2_1)).dn, (lat (r2_1.set (leastS r2_1).toNat (⟨(((lat r2_1 (leastS r2_1)).dn) + (1 : Int)), (lat r2_1 (leastS r2_1)).al, (lat r2_1 (leastS r2_1)).rd⟩ : Sta)) (leastS r2_1)).al, ((max ((lat r2_1 (leastS r2_1)).rd) (vat (lat r1 ((lat ((lat jobs (leastS r2_1)).wk) ((lat r2_1 (leastS r2_1)).dn)).st)) y.toNat)) + ((lat ((lat jobs (leastS r2_1)).wk) ((lat r2_1 (leastS r2_1)).dn)).tm))⟩ : Sta))⟩, trivial⟩⟩)))))))
set_option maxHeartbeats 4000000 in
theorem vcp_run (sv : (List Int)) (jobs : (List Job)) (h0 : validJ sv jobs = true) : vc_run sv jobs (fun q0 => q0 = runM sv jobs) := by
  obtain ⟨hv1, hv2, hv3⟩ := job_ok h0
  unfold vc_run
  refine ⟨⟨by omega, by omega⟩, ⟨by omega, by omega⟩, fun v r2 => ∃ i : Nat, v = i /\ i <= jobs.length /\ r2.length = jobs.length /\ ∀ a : Nat, a < i -> lat r2 a = ⟨0, (lat jobs a).wk.length, (lat jobs a).ar⟩, fun v _ => jobs.length - v.toNat, ⟨0, rfl, by omega, by simp, fun a ha => by omega⟩, ?_⟩
  rintro _ r2 ⟨i, rfl, hi, hl, hr⟩
  refine ⟨fun k1 => ⟨⟨by omega, k1⟩, ⟨by omega, by omega⟩, by unfold inI; omega, ⟨i + 1, by omega, by omega, by rw [List.length_set, hl], fun a ha => ?_⟩, dec_lt k1⟩, fun k1 => ?_⟩
  . rw [lat_set (i := (i : Int)) (j := a) ⟨by omega, by omega⟩]
    by_cases e : (a : Int) = i
    . rw [if_pos e]
      have : a = i := by omega
      subst this; rfl
    . rw [if_neg e]; exact hr a (by omega)
  have e2 : r2 = jobs.map fun j => ⟨0, j.wk.length, j.ar⟩ := by
    apply List.ext_getElem (by simpa using hl)
    intro a h1 h2
    have := hr a (by omega)
    rw [lat_get h1, lat_get (by omega)] at this
    simpa using this
  have e3 : (⟨List.replicate (sv.length : Int).toNat (Vector.replicate 4 0 : (Vector Int 4)), r2⟩ : RunS) = initM sv jobs := by rw [e2]; rfl
  refine ⟨fun r0 r1 r2 => RInv sv jobs r0.length ⟨r1, r2⟩ /\ r0 ++ runN sv jobs (leftM ⟨r1, r2⟩) ⟨r1, r2⟩ = runM sv jobs, fun _ r1 r2 => leftM ⟨r1, r2⟩, ⟨by rw [e3]; exact RInv.init h0, by rw [e3]; rfl⟩, ?_⟩
  clear e3 e2 hr hl k1 hi i r2
  rintro r0 r1 r2 ⟨hI, he⟩
  have hl2 : r2.length = jobs.length := hI.sl
  have hl1 : r1.length = sv.length := hI.fl
  refine ⟨by omega, fun k1 => ?_, fun k1 => ?_⟩
  . rw [runN_neg (s := ⟨r1, r2⟩) k1, List.append_nil] at he
    exact he
  obtain ⟨i, hi, hil, hid, -⟩ := (leastS_spec r2).resolve_left (fun h => k1 (by omega))
  have so := hI.step (i := i) hil hid
  have hw : lat (lat jobs (i : Int)).wk (lat r2 (i : Int)).dn = workM jobs ⟨r1, r2⟩ i := rfl
  have hsl : leastI ((lat r1 (workM jobs ⟨r1, r2⟩ i).st).toList.take (lat sv (workM jobs ⟨r1, r2⟩ i).st).toNat) = slotM sv ⟨r1, r2⟩ (workM jobs ⟨r1, r2⟩ i).st := rfl
  have hvs : max (lat r2 (i : Int)).rd (vat (lat r1 (workM jobs ⟨r1, r2⟩ i).st) (slotM sv ⟨r1, r2⟩ (workM jobs ⟨r1, r2⟩ i).st).toNat) = (visM sv jobs ⟨r1, r2⟩ i).st := rfl
  have hrd : (lat r2 (i : Int)).rd = (visM sv jobs ⟨r1, r2⟩ i).rd := rfl
  have hset : ∀ (A : Sta) (x : Int), ((r2.set i A).set i ⟨(lat (r2.set i A) (i : Int)).dn, (lat (r2.set i A) (i : Int)).al, x⟩ : List Sta) = r2.set i ⟨A.dn, A.al, x⟩ := fun A x => by
    have := lat_set (l := r2) (i := (i : Int)) (j := i) (x := A) ⟨by omega, by omega⟩
    rw [Int.toNat_natCast, if_pos rfl] at this
    rw [List.set_set, this]
  obtain ⟨k, k1', k2', -⟩ := so.slot
  have hlt := so.lt
  have hdn := so.dn
  have ha := hI.al i hlt
  have hst := so.st
  have htm := so.tm
  have hnb := so.nb
  have hvis := so.vis
  have hleft := hI.left
  have hinit := left_init h0
  have hless := so.less
  have h6 := (hv3 _ (lat_mem (xs := jobs) (i := (i : Int)) ⟨by omega, by omega⟩)).1.2.2
  simp only at hdn ha
  rw [hi]
  simp only [Int.toNat_natCast, hw, hsl]
  refine ⟨⟨by omega, by omega⟩, ⟨by omega, by omega⟩, ⟨by omega, by omega⟩, ⟨by omega, by omega⟩, ⟨by omega, by omega⟩, ⟨by omega, by omega⟩, by simp; omega, fun y hy => ?_⟩
  subst hy
  rw [hset, hvs]
  have hc : (r0.length : Int) <= 144 := by omega
  have hen : (visM sv jobs ⟨r1, r2⟩ i).st + (workM jobs ⟨r1, r2⟩ i).tm = (visM sv jobs ⟨r1, r2⟩ i).en := hvis.2.2.symm
  rw [hen]
  have hin : inI (visM sv jobs ⟨r1, r2⟩ i).en := by unfold inI; omega
  have hnext : (⟨r1.set (workM jobs ⟨r1, r2⟩ i).st.toNat (vset (lat r1 (workM jobs ⟨r1, r2⟩ i).st) (slotM sv ⟨r1, r2⟩ (workM jobs ⟨r1, r2⟩ i).st).toNat (visM sv jobs ⟨r1, r2⟩ i).en), r2.set i ⟨(lat r2 (i : Int)).dn + 1, (lat r2 (i : Int)).al, (visM sv jobs ⟨r1, r2⟩ i).en⟩⟩ : RunS) = nextM sv jobs ⟨r1, r2⟩ i := rfl
  refine ⟨⟨by omega, by omega⟩, ⟨by omega, by omega⟩, ⟨by omega, by omega⟩, ⟨by omega, by omega⟩, hin, by omega, hin, ⟨by omega, by omega⟩, ⟨by omega, by omega⟩, ⟨by omega, by omega⟩, by unfold inI; omega, ⟨by omega, by omega⟩, hin, ⟨by omega, by omega⟩, ⟨?_, ?_⟩, ?_⟩
  . rw [hnext, List.length_append]
    exact so.next
  . rw [hnext]
    rw [hless, runN_pos (s := ⟨r1, r2⟩) k1] at he
    simp only [hi] at he
    rw [List.append_assoc]
    exact he
  . show leftM _ < leftM _
    rw [hnext]; omega
theorem spec_run (sv : (List Int)) (jobs : (List Job)) (h0 : validJ sv jobs = true) : FnH Try.prog 48 [] [.lst true sv.length (zYy zYx sv), .lst true jobs.length (zYy (e53 true) jobs)] (fun xR H => ∃ l, H = .chan 144 true (encC e89 (runM sv jobs)) :: l /\ xR = .chn 0) :=
  (walk_run (vcp_run sv jobs h0)).mono (by rintro _ _ ⟨l, _, h1, h2, rfl⟩; exact ⟨l, h1, h2⟩)
end Go.Lat
