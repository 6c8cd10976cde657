/- The law latecomerlaw24.ReplayGrows returns true for every input, and each argument reads afterwards as it read before. Part 11 of 12. No condition. -/
import Derived.Test.YtbaillkjjlmehaaLatE
import Derived.Test.YtbaillkjjlmehaaLatF
import Derived.Test.YtbaillkjjlmehaaLatD
import Derived.Test.YtbaillkjjlmehaaLatJ
import Derived.Test.YtbaillkjjlmehaaLatH
import Derived.Test.YtbaillkjjlmehaaLatG
set_option linter.unusedVariables false
set_option linter.unusedSimpArgs false
set_option linter.unnecessarySimpa false
set_option maxRecDepth 100000
set_option maxHeartbeats 4000000
namespace Go.Lat
open Go.RowKit Go.Proofs
def vc_made (c : Cas) (lone : Bool) (Post : Req -> Prop) : Prop :=
  (c.jobs.length <= 9223372036854775807) /\ (c.ex.length <= 9223372036854775807) /\ ((inI c.sv.x0 /\ inI c.sv.x1 /\ inI c.sv.x2) /\ inI c.late /\ inI c.obj) /\ ((∀ j ∈ c.jobs, ∀ k, inI (vat j k)) /\ ∀ e ∈ c.ex, inI e.x0 /\ inI e.x1 /\ inI e.x2) /\ Post (madeM c.sv c.jobs c.ex c.late c.obj lone)
theorem walk_made {c : Cas} {lone : Bool} {Post : Req -> Prop} (hv : vc_made c lone Post) : FnP Try.prog 12 [.agg ((e31 true) c), .bool lone] (fun x => ∃ q0, x = .agg ((e26 false) q0) /\ Post q0) := by
 refine FnP.of_walk (T := tt) (nt := 17) ttOk ttMix ⟨⟨Try.f12, Try.func12, rfl, rfl, rfl, rfl⟩⟩ (by simp) ?_
 unfold vc_made at hv
 change W _ _ _ ⟨17, look [(0, .agg [.int .i64 c.sv.x0, .int .i64 c.sv.x1, .int .i64 c.sv.x2, .lst true c.jobs.length (zYy eV6 c.jobs), .lst true c.ex.length (zYy e27 c.ex), .int .i64 c.late, .int .i64 c.obj]), (1, .bool lone)], [], 0⟩ _
 refine W.rL (cL rfl (o_box (v := .agg _) (p := 0) rfl rfl rfl (cL rfl (zXy (p := 1) tt26 rfl rfl (eL (W.tr [(1, .bool _), (2, .ptr _ _), (4, .ptr _ _)] [.box _ [.int _ _, .int _ _, .int _ _, .lst _ _ _, .lst _ _ _, .int _ _, .int _ _], .box _ [.nilS, .nilS, .int _ _, .int _ _, .int _ _, .nilS]] ⟨rfl, rfl, rfl, trivial⟩ rfl (W.rL (cL rfl (o_fa tt31 rfl tt27 rfl (cL rfl (zYp (cs := [.int _ _, .int _ _, .int _ _]) tt27 rfl rfl ⟨_, rfl⟩ rfl (cL rfl (o_fa tt31 rfl tt28 rfl (cL rfl (zZx (v := .lst _ _ _) tt28 rfl rfl ⟨_, rfl⟩ (cL rfl (o_fa tt31 rfl tt29 rfl (cL rfl (zZx (v := .lst _ _ _) tt29 rfl rfl ⟨_, rfl⟩ (cL rfl (o_fa tt31 rfl tt3 rfl (cL rfl (zZx (v := .int _ _) tt3 rfl rfl ⟨_, rfl⟩ (cL rfl (o_fa tt31 rfl tt3 rfl (cL rfl (zZx (v := .int _ _) tt3 rfl rfl ⟨_, rfl⟩ (mB rfl rfl ?_))))))))))))))))))))))))))))
 obtain ⟨s1, s2, s3, s4, hv⟩ := hv
 refine cL rfl (zZu (k := 31) (fst := []) (caps := []) (ys := [.agg _, .lst _ _ _, .lst _ _ _, .int _ _, .int _ _, .bool _]) rfl rfl (spec_Made c.sv c.jobs c.ex c.late c.obj lone s1 s2 s3 s4) (Wks.cons (zXx 5 _ (Wks.cons (zZz _ _ _ _) (Wks.cons (zZz _ _ _ _) (Wks.cons (zZz _ _ _ _) (Wks.refl _))))) (Wks.cons (zZs _ _ _ _ _) (Wks.cons (zZs _ _ _ _ _) (Wks.cons (zZz _ _ _ _) (Wks.cons (zZz _ _ _ _) (Wks.cons (ag_bool _ _ _) (Wks.refl _))))))) (cLn (o_stB (v := .agg _) (vs := [.lst _ _ _, .lst _ _ _, .int _ _, .int _ _, .int _ _, .lst _ _ _]) (cs2 := [.lst _ _ _, .lst _ _ _, .int _ _, .int _ _, .int _ _, .lst _ _ _]) tt26 rfl rfl rfl rfl rfl (Nat.le_of_ble_eq_true rfl) rfl (eL (W.tr [(4, .ptr _ _)] [.box _ [.int _ _, .int _ _, .int _ _, .lst _ _ _, .lst _ _ _, .int _ _, .int _ _], .box _ [.lst _ _ _, .lst _ _ _, .int _ _, .int _ _, .int _ _, .lst _ _ _]] ⟨rfl, trivial⟩ rfl (W.ret (rt (rt_c (x := .ptr _ _) rfl (ldA (cs := [.lst _ _ _, .lst _ _ _, .int _ _, .int _ _, .int _ _, .lst _ _ _]) tt26 rfl ⟨_, rfl⟩ rfl (rt_n (⟨_, rs_agg 5 _ (Wks.cons (rs_lst _ _ _ _) (Wks.cons (rs_lst _ _ _ _) (Wks.cons (zY _ _ _ _) (Wks.cons (zY _ _ _ _) (Wks.cons (zY _ _ _ _) (Wks.cons (rs_lst _ _ _ _) (Wks.refl _))))))), (madeM c.sv c.jobs c.ex c.late c.obj lone), rfl, hv⟩)))))))))))
set_option maxHeartbeats 2000000 in
theorem vcp_made (c : Cas) (lone : Bool) (h0 : CasOk c) : vc_made c lone (fun q0 => q0 = (madeC c lone)) := by
  exact ⟨h0.jl, h0.el, h0.i, h0.v, rfl⟩
theorem spec_made (c : Cas) (lone : Bool) (h0 : CasOk c) : FnP Try.prog 12 [.agg ((e31 true) c), .bool lone] (fun xR => xR = .agg ((e26 false) (madeC c lone))) :=
  (walk_made (vcp_made c lone h0)).mono (by rintro _ ⟨_, rfl, rfl⟩; rfl)
end Go.Lat
namespace Go.Lat
open Go.RowKit Go.Proofs
def vc_grows (c : Cas) (Post : Bool -> Prop) : Prop :=
  (CasOk c) /\ ((madeC c true).sv.length <= 9223372036854775807) /\ (∀ j ∈ (madeC c true).jobs, j.wk.length <= 9223372036854775807) /\ ((madeC c true).jobs.length <= 9223372036854775807) /\ ((madeC c true).ex.length <= 9223372036854775807) /\ (((¬ (valuesM (madeC c true)).2 = 0) -> True) /\ (¬ (¬ (valuesM (madeC c true)).2 = 0) -> (0 <= ((madeC c true).causes)) /\ (inI (1 * 2 ^ (min ((madeC c true).causes).toNat 64))) /\ True)) /\ ((((¬ (valuesM (madeC c true)).2 = 0) \/ (¬ ((((valuesM (madeC c true)).1).length : Nat) : Int) = 1 * 2 ^ (min ((madeC c true).causes).toNat 64))) -> Post false) /\ (¬ ((¬ (valuesM (madeC c true)).2 = 0) \/ (¬ ((((valuesM (madeC c true)).1).length : Nat) : Int) = 1 * 2 ^ (min ((madeC c true).causes).toNat 64))) -> ∃ (I1 : Int -> Prop) (μ1 : Int -> Nat), I1 0 /\ ∀ (v7 : Int), I1 v7 -> ((v7 < ((((valuesM (madeC c true)).1).length : Nat) : Int)) -> ∃ (I2 : Int -> Prop) (μ2 : Int -> Nat), I2 0 /\ ∀ (v8 : Int), I2 v8 -> ((v8 < ((madeC c true).causes)) -> ((0 <= v8) /\ ((bitI .and .i64 (v7.fdiv (2 ^ (min v8.toNat 64))) (1 : Int) = 0) -> (0 <= v7 /\ v7 < (((valuesM (madeC c true)).1).length : Int)) /\ (0 <= v8) /\ (inI (1 * 2 ^ (min v8.toNat 64))) /\ (inI (v7 + (1 * 2 ^ (min v8.toNat 64)))) /\ (0 <= (v7 + (1 * 2 ^ (min v8.toNat 64))) /\ (v7 + (1 * 2 ^ (min v8.toNat 64))) < (((valuesM (madeC c true)).1).length : Int)) /\ True) /\ (¬ (bitI .and .i64 (v7.fdiv (2 ^ (min v8.toNat 64))) (1 : Int) = 0) -> True)) /\ ((((bitI .and .i64 (v7.fdiv (2 ^ (min v8.toNat 64))) (1 : Int) = 0) /\ ((lat ((valuesM (madeC c true)).1) (v7 + (1 * 2 ^ (min v8.toNat 64)))) < (lat ((valuesM (madeC c true)).1) v7))) -> Post false) /\ (¬ ((bitI .and .i64 (v7.fdiv (2 ^ (min v8.toNat 64))) (1 : Int) = 0) /\ ((lat ((valuesM (madeC c true)).1) (v7 + (1 * 2 ^ (min v8.toNat 64)))) < (lat ((valuesM (madeC c true)).1) v7))) -> (inI (v8 + 1)) /\ (I2 (v8 + 1) /\ μ2 (v8 + 1) < μ2 v8)))) /\ (¬ (v8 < ((madeC c true).causes)) -> (inI (v7 + 1)) /\ (I1 (v7 + 1) /\ μ1 (v7 + 1) < μ1 v7))) /\ (¬ (v7 < ((((valuesM (madeC c true)).1).length : Nat) : Int)) -> Post true)))
theorem walk_grows {c : Cas} {Post : Bool -> Prop} (hv : vc_grows c Post) : FnP Try.prog 7 [.agg ((e31 true) c)] (fun x => ∃ q0, x = .bool q0 /\ Post q0) := by
 refine FnP.of_walk (T := tt) (nt := 59) ttOk ttMix ⟨⟨Try.f7, Try.func7, rfl, rfl, rfl, rfl⟩⟩ (by simp) ?_
 unfold vc_grows at hv
 change W _ _ _ ⟨59, look [(0, .agg [.int .i64 c.sv.x0, .int .i64 c.sv.x1, .int .i64 c.sv.x2, .lst true c.jobs.length (zYy eV6 c.jobs), .lst true c.ex.length (zYy e27 c.ex), .int .i64 c.late, .int .i64 c.obj])], [], 0⟩ _
 refine W.rL (cL rfl (o_box (v := .agg _) (p := 0) rfl rfl rfl (aB rfl rfl (eL (W.tr [(1, .ptr _ _)] [.box _ [.int _ _, .int _ _, .int _ _, .lst _ _ _, .lst _ _ _, .int _ _, .int _ _]] ⟨rfl, trivial⟩ rfl (W.rL (cL rfl (zZu (k := 10) (fst := []) (caps := []) (ys := []) rfl rfl (spec_sane) (Wks.refl _) (aB rfl rfl (eL (W.rL (cL rfl (zYp (cs := [.int _ _, .int _ _, .int _ _, .lst _ _ _, .lst _ _ _, .int _ _, .int _ _]) tt31 rfl rfl ⟨_, rfl⟩ rfl ?_)))))))))))))
 obtain ⟨s1, hv⟩ := hv
 refine cL rfl (zZu (k := 12) (fst := []) (caps := []) (ys := [.agg _, .bool _]) rfl rfl (spec_made c true s1) (Wks.cons (zXx 5 _ (Wks.cons (zZz _ _ _ _) (Wks.cons (zZz _ _ _ _) (Wks.cons (zZz _ _ _ _) (Wks.cons (zZs _ _ _ _ _) (Wks.cons (zZs _ _ _ _ _) (Wks.cons (zZz _ _ _ _) (Wks.cons (zZz _ _ _ _) (Wks.refl _))))))))) (Wks.cons (ag_bool _ _ _) (Wks.refl _))) (cL rfl (zXy (p := 1) tt26 rfl rfl (cLn (o_stB (v := .agg _) (vs := [.lst _ _ _, .lst _ _ _, .int _ _, .int _ _, .int _ _, .lst _ _ _]) (cs2 := [.lst _ _ _, .lst _ _ _, .int _ _, .int _ _, .int _ _, .lst _ _ _]) tt26 rfl rfl rfl rfl rfl (Nat.le_of_ble_eq_true rfl) rfl (eL (W.tr [(3, .bool _), (4, .ptr _ _)] [.box _ [.int _ _, .int _ _, .int _ _, .lst _ _ _, .lst _ _ _, .int _ _, .int _ _], .box _ [.lst _ _ _, .lst _ _ _, .int _ _, .int _ _, .int _ _, .lst _ _ _]] ⟨rfl, rfl, trivial⟩ rfl (W.rL (cL rfl (zYp (cs := [.lst _ _ _, .lst _ _ _, .int _ _, .int _ _, .int _ _, .lst _ _ _]) tt26 rfl rfl ⟨_, rfl⟩ rfl ?_))))))))))
 obtain ⟨s2, s3, s4, s5, hv⟩ := hv
 refine cL rfl (zZu (k := 17) (fst := []) (caps := []) (ys := [.agg _]) rfl rfl (spec_values (madeC c true) s2 s3 s4 s5) (Wks.cons (zXx 5 _ (Wks.cons (zZs _ _ _ _ _) (Wks.cons (zZs _ _ _ _ _) (Wks.cons (zZz _ _ _ _) (Wks.cons (zZz _ _ _ _) (Wks.cons (zZz _ _ _ _) (Wks.cons (zZs _ _ _ _ _) (Wks.refl _)))))))) (Wks.refl _)) (cL rfl (zZp (v := .tup _) rfl (cL rfl (o_ext (v := .lst _ _ _) rfl rfl (cL rfl (o_ext (v := .int _ _) rfl rfl (aL rfl rfl (aI rfl rfl (eL (W.tr [(3, .bool _), (4, .ptr _ _), (5, .lst _ _ _), (6, .int _ _)] [.box _ [.int _ _, .int _ _, .int _ _, .lst _ _ _, .lst _ _ _, .int _ _, .int _ _], .box _ [.lst _ _ _, .lst _ _ _, .int _ _, .int _ _, .int _ _, .lst _ _ _]] ⟨rfl, rfl, rfl, rfl, trivial⟩ rfl (W.seq' ?_))))))))))))
 obtain ⟨sd, hv⟩ := hv
 refine W.rLm ⟨59, look [(3, .bool true), (4, .ptr 1 0), (5, .lst false ((valuesM (madeC c true)).1).length (zYy zYx ((valuesM (madeC c true)).1))), (26, .bool (decide ((¬ (valuesM (madeC c true)).2 = 0) \/ (¬ ((((valuesM (madeC c true)).1).length : Nat) : Int) = 1 * 2 ^ (min ((madeC c true).causes).toNat 64)))))], [.box 31 [.int .i64 c.sv.x0, .int .i64 c.sv.x1, .int .i64 c.sv.x2, .lst true c.jobs.length (zYy eV6 c.jobs), .lst true c.ex.length (zYy e27 c.ex), .int .i64 c.late, .int .i64 c.obj], .box 26 [.lst false ((madeC c true).sv).length (zYy zYx ((madeC c true).sv)), .lst false ((madeC c true).jobs).length (zYy (e53 true) ((madeC c true).jobs)), .int .i64 ((madeC c true).late), .int .i64 ((madeC c true).obj), .int .i64 ((madeC c true).causes), .lst false ((madeC c true).ex).length (zYy e58 ((madeC c true).ex))]], 0⟩ ?_ ?_
 refine mI rfl rfl (cL rfl (o_neI rfl rfl rfl (mB rfl rfl ?_)))
 by_cases c1 : ¬ (valuesM (madeC c true)).2 = 0
 iterate 6 refine cLs rfl rfl rfl (dT c1) ?_
 refine cL rfl (zZv (v := .bool _) rfl (dT c1) rfl (eL (zYz ⟨rfl, rfl, rfl, (congrArg AV.bool (dOrT c1)).symm, trivial⟩ rfl)))
 have sd := sd.2 c1
 refine cLg rfl rfl (dF c1) (mL rfl rfl (cLg rfl rfl (dF c1) (cL rfl (zXw (v := .lst _ _ _) tt22 rfl rfl (cLg rfl rfl (dF c1) (cL rfl (o_fa tt26 rfl tt3 rfl (cLg rfl rfl (dF c1) (cL rfl (zZx (v := .int _ _) tt3 rfl rfl ⟨_, rfl⟩ (cLg rfl rfl (dF c1) ?_)))))))))))
 obtain ⟨s12, s13, sd⟩ := sd
 refine cL rfl (o_shl rfl rfl s12 s13 (cLg rfl rfl (dF c1) (cL rfl (o_neI rfl rfl rfl (cL rfl (zZy (v := .bool _) rfl (dF c1) rfl (eL (zYz ⟨rfl, rfl, rfl, (congrArg AV.bool (dOrF c1 (rfl))).symm, trivial⟩ rfl))))))))
 refine W.cn rfl (fun hc => ?_) (fun hc => ?_)
 have hv := hv.1 hc
 refine W.rL (aB rfl rfl (eL (W.ret (zZr (rt (rt_t (v := .bool _) rfl (rt_n (⟨_, zYr _ _ _, false, rfl, hv⟩))))))))
 have hv := hv.2 hc
 refine W.skip (zZ (W.seq' (W.rL (aI rfl rfl (eL (W.block ?_))))))
 obtain ⟨I1, μ1, hp, hv⟩ := hv
 refine W.loop1 (fun v7 => ⟨59, look [(3, .bool true), (4, .ptr 1 0), (5, .lst false ((valuesM (madeC c true)).1).length (zYy zYx ((valuesM (madeC c true)).1))), (7, .int .i64 v7)], [.dead, .box 26 [.lst false ((madeC c true).sv).length (zYy zYx ((madeC c true).sv)), .lst false ((madeC c true).jobs).length (zYy (e53 true) ((madeC c true).jobs)), .int .i64 ((madeC c true).late), .int .i64 ((madeC c true).obj), .int .i64 ((madeC c true).causes), .lst false ((madeC c true).ex).length (zYy e58 ((madeC c true).ex))]], 0⟩) I1 μ1 0 (St.to_mk (φ := [none, some 1]) rfl (rfl) ⟨Ren.bool _, Ren.ptr rfl, Ren.lst _ _ _, Ren.int _ _, trivial⟩ ⟨rfl, .inr ⟨_, rfl, rfl, Rens.cons (Ren.lst _ _ _) (Rens.cons (Ren.lst _ _ _) (Rens.cons (Ren.int _ _) (Rens.cons (Ren.int _ _) (Rens.cons (Ren.int _ _) (Rens.cons (Ren.lst _ _ _) (Rens.nil))))))⟩, trivial⟩) hp ?_
 clear hp
 intro v7 hI
 replace hv := hv v7 hI
 clear hI
 refine W.seq' (W.rL (mI rfl rfl (mL rfl rfl (cL rfl (zXw (v := .lst _ _ _) tt22 rfl rfl (cL rfl (zYq rfl rfl (eL (W.cn rfl (fun hc => ?_) (fun hc => ?_))))))))))
 have hv := hv.1 hc
 refine W.skip (zZ (W.seq' (W.block (W.rL (aI rfl rfl (eL (W.block ?_)))))))
 obtain ⟨I2, μ2, hp, hv⟩ := hv
 refine W.loop1 (fun v8 => ⟨59, look [(3, .bool true), (4, .ptr 1 0), (5, .lst false ((valuesM (madeC c true)).1).length (zYy zYx ((valuesM (madeC c true)).1))), (7, .int .i64 v7), (8, .int .i64 v8)], [.dead, .box 26 [.lst false ((madeC c true).sv).length (zYy zYx ((madeC c true).sv)), .lst false ((madeC c true).jobs).length (zYy (e53 true) ((madeC c true).jobs)), .int .i64 ((madeC c true).late), .int .i64 ((madeC c true).obj), .int .i64 ((madeC c true).causes), .lst false ((madeC c true).ex).length (zYy e58 ((madeC c true).ex))]], 0⟩) I2 μ2 0 (St.to_mk (φ := [none, some 1]) rfl (rfl) ⟨Ren.bool _, Ren.ptr rfl, Ren.lst _ _ _, Ren.int _ _, Ren.int _ _, trivial⟩ ⟨rfl, .inr ⟨_, rfl, rfl, Rens.cons (Ren.lst _ _ _) (Rens.cons (Ren.lst _ _ _) (Rens.cons (Ren.int _ _) (Rens.cons (Ren.int _ _) (Rens.cons (Ren.int _ _) (Rens.cons (Ren.lst _ _ _) (Rens.nil))))))⟩, trivial⟩) hp ?_
 clear hp
 intro v8 hI
 replace hv := hv v8 hI
 clear hI
 refine W.seq' (W.rL (mI rfl rfl (cL rfl (o_fa tt26 rfl tt3 rfl (cL rfl (zZx (v := .int _ _) tt3 rfl rfl ⟨_, rfl⟩ (cL rfl (zYq rfl rfl (eL (W.cn rfl (fun hc => ?_) (fun hc => ?_)))))))))))
 have hv := hv.1 hc
 refine W.skip (zZ (W.seq' (W.block ?_)))
 obtain ⟨sd, hv⟩ := hv
 refine W.rDm ⟨59, look [(3, .bool true), (4, .ptr 1 0), (5, .lst false ((valuesM (madeC c true)).1).length (zYy zYx ((valuesM (madeC c true)).1))), (7, .int .i64 v7), (8, .int .i64 v8), (57, .bool (decide ((bitI .and .i64 (v7.fdiv (2 ^ (min v8.toNat 64))) (1 : Int) = 0) /\ ((lat ((valuesM (madeC c true)).1) (v7 + (1 * 2 ^ (min v8.toNat 64)))) < (lat ((valuesM (madeC c true)).1) v7)))))], [.dead, .box 26 [.lst false ((madeC c true).sv).length (zYy zYx ((madeC c true).sv)), .lst false ((madeC c true).jobs).length (zYy (e53 true) ((madeC c true).jobs)), .int .i64 ((madeC c true).late), .int .i64 ((madeC c true).obj), .int .i64 ((madeC c true).causes), .lst false ((madeC c true).ex).length (zYy e58 ((madeC c true).ex))]], 0⟩ [0, 1, 2, 3, 4, 5, 6, 7, 8, 9, 10, 11, 12, 13, 14, 15, 16, 17, 18] (by decide +kernel) rfl ?_ ?_
 iterate 2 refine mI rfl rfl ?_
 obtain ⟨s410, sd⟩ := sd
 refine cL rfl (o_shr rfl rfl s410 (cL rfl (o_and rfl rfl (cL rfl (o_eqI rfl rfl rfl (mB rfl rfl ?_))))))
 by_cases c1 : bitI .and .i64 (v7.fdiv (2 ^ (min v8.toNat 64))) (1 : Int) = 0
 have sd := sd.1 c1
 refine cLg rfl rfl (dT c1) (mL rfl rfl (cLg rfl rfl (dT c1) (mI rfl rfl (cLg rfl rfl (dT c1) ?_))))
 obtain ⟨s411, sd⟩ := sd
 refine cL rfl (zYu tt22 tt3 rfl rfl (zZw.wd true) rfl s411 ?_)
 intro rest411
 refine cLg rfl rfl (dT c1) (cL rfl (zZx (v := .int _ _) tt3 rfl rfl ⟨_, rfl⟩ (cLg rfl rfl (dT c1) (mL rfl rfl (cLg rfl rfl (dT c1) (mI rfl rfl (cLg rfl rfl (dT c1) (mI rfl rfl (cLg rfl rfl (dT c1) ?_)))))))))
 obtain ⟨s412, s413, sd⟩ := sd
 refine cL rfl (o_shl rfl rfl s412 s413 (cLg rfl rfl (dT c1) ?_))
 obtain ⟨s414, sd⟩ := sd
 refine cL rfl (o_add rfl rfl s414 (cLg rfl rfl (dT c1) ?_))
 obtain ⟨s415, sd⟩ := sd
 refine cL rfl (zYu tt22 tt3 rfl rfl (zZw.wd true) rfl s415 ?_)
 intro rest415
 refine cLg rfl rfl (dT c1) (cL rfl (zZx (v := .int _ _) tt3 rfl rfl ⟨_, rfl⟩ (cLg rfl rfl (dT c1) (cL rfl (o_gtr rfl rfl (cL rfl (zZv (v := .bool _) rfl (dT c1) rfl (eL (zYz ⟨rfl, rfl, rfl, rfl, rfl, (congrArg AV.bool (zXv c1 (rfl))).symm, trivial⟩ rfl)))))))))
 iterate 12 refine cLs rfl rfl rfl (dF c1) ?_
 refine cL rfl (zZy (v := .bool _) rfl (dF c1) rfl (eL (zYz ⟨rfl, rfl, rfl, rfl, rfl, (congrArg AV.bool (dAndF c1)).symm, trivial⟩ rfl)))
 refine W.cn rfl (fun hc => ?_) (fun hc => ?_)
 have hv := hv.1 hc
 refine W.rL (aB rfl rfl (eL (W.ret (zYt (zZr (zZr (zYt (zYt (zZr (zZr (zYt (zZr (rt (rt_t (v := .bool _) rfl (rt_n (⟨_, zYr _ _ _, false, rfl, hv⟩))))))))))))))))
 have hv := hv.2 hc
 refine W.skip (zYv (zZ (W.rL1 (mI rfl rfl ?_))))
 obtain ⟨s416, hv⟩ := hv
 refine cL rfl (o_add rfl rfl s416 (aI rfl rfl (eL (zZ (⟨(), (v8 + 1), hv, St.to_mk (φ := [none, some 1]) rfl (rfl) ⟨Ren.bool _, Ren.ptr rfl, Ren.lst _ _ _, Ren.int _ _, Ren.int _ _, trivial⟩ ⟨rfl, .inr ⟨_, rfl, rfl, Rens.cons (Ren.lst _ _ _) (Rens.cons (Ren.lst _ _ _) (Rens.cons (Ren.int _ _) (Rens.cons (Ren.int _ _) (Rens.cons (Ren.int _ _) (Rens.cons (Ren.lst _ _ _) (Rens.nil))))))⟩, trivial⟩⟩)))))
 have hv := hv.2 hc
 refine W.exit (zZt (zZt (zYs (zYv (zZ (W.rL1 (mI rfl rfl ?_)))))))
 obtain ⟨s417, hv⟩ := hv
 refine cL rfl (o_add rfl rfl s417 (aI rfl rfl (eL (zZ (⟨(), (v7 + 1), hv, St.to_mk (φ := [none, some 1]) rfl (rfl) ⟨Ren.bool _, Ren.ptr rfl, Ren.lst _ _ _, Ren.int _ _, trivial⟩ ⟨rfl, .inr ⟨_, rfl, rfl, Rens.cons (Ren.lst _ _ _) (Rens.cons (Ren.lst _ _ _) (Rens.cons (Ren.int _ _) (Rens.cons (Ren.int _ _) (Rens.cons (Ren.int _ _) (Rens.cons (Ren.lst _ _ _) (Rens.nil))))))⟩, trivial⟩⟩)))))
 have hv := hv.2 hc
 refine W.exit (zZt (zZt (zYs (zZ (W.rL (mB rfl rfl (aB rfl rfl (eL (W.ret (rt (rt_t (v := .bool _) rfl (rt_n (⟨_, zYr _ _ _, true, rfl, hv⟩)))))))))))))
set_option maxHeartbeats 2000000 in
theorem vcp_grows (c : Cas) (h0 : CasOk c) : vc_grows c (fun q0 => q0 = (true)) := by
  have hm := made_ok c true
  have hv := hm.v
  have L := hv.lens
  have V := hv.v16 hm.ca.2
  have hca := hm.ca
  refine ⟨h0, L.a, L.b, L.c, L.d, ⟨fun _ => trivial, fun _ => ⟨hm.ca.1, inI_pow hm.ca, trivial⟩⟩, fun k => ?_, fun _ => ?_⟩
  . exact (k.elim (fun a => a hv.vok) (fun a => a (hv.vlenI hm.ca.2))).elim
  refine ⟨fun v => 0 <= v /\ v <= ((valuesM (madeC c true)).1.length : Int), fun v => (valuesM (madeC c true)).1.length - v.toNat, by omega, fun s hI => ⟨fun k => ?_, fun _ => rfl⟩⟩
  have hs : 0 <= s /\ s < ((valuesM (madeC c true)).1.length : Int) := ⟨hI.1, k⟩
  refine ⟨fun v => 0 <= v /\ v <= (madeC c true).causes, fun v => (madeC c true).causes.toNat - v.toNat, by omega, fun q hQ => ⟨fun k2 => ?_, fun _ => ⟨inI_small (by omega), ⟨by omega, by omega⟩, by dsimp only; omega⟩⟩⟩
  have hq : 0 <= q /\ q < (madeC c true).causes := ⟨hQ.1, k2⟩
  have e2 := sh_pow (k := q) ⟨hq.1, by omega⟩
  have e1 := hv.vlenI hca.2
  rw [sh_pow ⟨hca.1, by omega⟩] at e1
  have p1 := pow_le16 (k := q) ⟨hq.1, by omega⟩
  rw [e2]
  have hs2 : 0 <= s /\ s < 2 ^ (madeC c true).causes.toNat := by rw [<- e1]; exact hs
  refine ⟨⟨hq.1, fun hz => ?_, fun _ => trivial⟩, fun k3 => ?_, fun _ => ⟨inI_small (by omega), ⟨by omega, by omega⟩, by dsimp only; omega⟩⟩
  . have a := set_add hca hs2 hq hz
    rw [<- e1] at a
    exact ⟨hs, hq.1, inI_small (by omega), inI_small (by omega), ⟨by omega, a.1⟩, trivial⟩
  . have a := set_add hca hs2 hq k3.1
    rw [<- e1] at a
    have b := grow_lat hm (s := s) (s' := s + 2 ^ q.toNat) fun x hx h => (a.2.1 x.ca (hv.mem hx).1.2).2 (.inl h)
    have c3 := k3.2
    rw [hv.vlat hs, hv.vlat ⟨by omega, a.1⟩] at c3
    omega
theorem spec_grows (c : Cas) (h0 : CasOk c) : FnP Try.prog 7 [.agg ((e31 true) c)] (fun xR => xR = .bool (true)) :=
  (walk_grows (vcp_grows c h0)).mono (by rintro _ ⟨_, rfl, rfl⟩; rfl)
end Go.Lat
