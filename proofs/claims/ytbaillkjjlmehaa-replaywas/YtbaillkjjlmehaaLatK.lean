/- The law latecomerlaw24.ReplayWas returns true for every input, and each argument reads afterwards as it read before. Part 11 of 12. No condition. -/
import Derived.Test.YtbaillkjjlmehaaLatE
import Derived.Test.YtbaillkjjlmehaaLatD
import Derived.Test.YtbaillkjjlmehaaLatJ
import Derived.Test.YtbaillkjjlmehaaLatH
import Derived.Test.YtbaillkjjlmehaaLatG
set_option linter.unusedVariables false
set_option linter.unusedSimpArgs false
set_option linter.unnecessarySimpa false
set_option maxRecDepth 100000
set_option maxHeartbeats 4000000
namespace Go.Lat
open Go.RowKit Go.Proofs
def vc_made (c : Cas) (lone : Bool) (Post : Req -> Prop) : Prop :=
  (c.jobs.length <= 9223372036854775807) /\ (c.ex.length <= 9223372036854775807) /\ ((inI c.sv.x0 /\ inI c.sv.x1 /\ inI c.sv.x2) /\ inI c.late /\ inI c.obj) /\ ((∀ j ∈ c.jobs, ∀ k, inI (vat j k)) /\ ∀ e ∈ c.ex, inI e.x0 /\ inI e.x1 /\ inI e.x2) /\ Post (madeM c.sv c.jobs c.ex c.late c.obj lone)
theorem walk_made {c : Cas} {lone : Bool} {Post : Req -> Prop} (hv : vc_made c lone Post) : FnP Try.prog 12 [.agg ((e31 true) c), .bool lone] (fun x => ∃ q0, x = .agg ((e26 false) q0) /\ Post q0) := by
 refine FnP.of_walk (T := tt) (nt := 17) ttOk ttMix ⟨⟨Try.f12, Try.func12, rfl, rfl, rfl, rfl⟩⟩ (by simp) ?_
 unfold vc_made at hv
 change W _ _ _ ⟨17, look [(0, .agg [.int .i64 c.sv.x0, .int .i64 c.sv.x1, .int .i64 c.sv.x2, .lst true c.jobs.length (zYy eV6 c.jobs), .lst true c.ex.length (zYy e27 c.ex), .int .i64 c.late, .int .i64 c.obj]), (1, .bool lone)], [], 0⟩ _
 refine W.rL (cL rfl (o_box (v := .agg _) (p := 0) rfl rfl rfl (cL rfl (zXy (p := 1) tt26 rfl rfl (eL (W.tr [(1, .bool _), (2, .ptr _ _), (4, .ptr _ _)] [.box _ [.int _ _, .int _ _, .int _ _, .lst _ _ _, .lst _ _ _, .int _ _, .int _ _], .box _ [.nilS, .nilS, .int _ _, .int _ _, .int _ _, .nilS]] ⟨rfl, rfl, rfl, trivial⟩ rfl (W.rL (cL rfl (o_fa tt31 rfl tt27 rfl (cL rfl (zYp (cs := [.int _ _, .int _ _, .int _ _]) tt27 rfl rfl ⟨_, rfl⟩ rfl (cL rfl (o_fa tt31 rfl tt28 rfl (cL rfl (zZx (v := .lst _ _ _) tt28 rfl rfl ⟨_, rfl⟩ (cL rfl (o_fa tt31 rfl tt29 rfl (cL rfl (zZx (v := .lst _ _ _) tt29 rfl rfl ⟨_, rfl⟩ (cL rfl (o_fa tt31 rfl tt3 rfl (cL rfl (zZx (v := .int _ _) tt3 rfl rfl ⟨_, rfl⟩ (cL rfl (o_fa tt31 rfl tt3 rfl (cL rfl (zZx (v := .int _ _) tt3 rfl rfl ⟨_, rfl⟩ (mB rfl rfl ?_))))))))))))))))))))))))))))
 obtain ⟨s1, s2, s3, s4, hv⟩ := hv
 refine cL rfl (zZu (k := 31) (fst := []) (caps := []) (ys := [.agg _, .lst _ _ _, .lst _ _ _, .int _ _, .int _ _, .bool _]) rfl rfl (spec_Made c.sv c.jobs c.ex c.late c.obj lone s1 s2 s3 s4) (Wks.cons (zXx 5 _ (Wks.cons (zZz _ _ _ _) (Wks.cons (zZz _ _ _ _) (Wks.cons (zZz _ _ _ _) (Wks.refl _))))) (Wks.cons (zZs _ _ _ _ _) (Wks.cons (zZs _ _ _ _ _) (Wks.cons (zZz _ _ _ _) (Wks.cons (zZz _ _ _ _) (Wks.cons (ag_bool _ _ _) (Wks.refl _))))))) (cLn (o_stB (v := .agg _) (vs := [.lst _ _ _, .lst _ _ _, .int _ _, .int _ _, .int _ _, .lst _ _ _]) (cs2 := [.lst _ _ _, .lst _ _ _, .int _ _, .int _ _, .int _ _, .lst _ _ _]) tt26 rfl rfl rfl rfl rfl (Nat.le_of_ble_eq_true rfl) rfl (eL (W.tr [(4, .ptr _ _)] [.box _ [.int _ _, .int _ _, .int _ _, .lst _ _ _, .lst _ _ _, .int _ _, .int _ _], .box _ [.lst _ _ _, .lst _ _ _, .int _ _, .int _ _, .int _ _, .lst _ _ _]] ⟨rfl, trivial⟩ rfl (W.ret (rt (rt_c (x := .ptr _ _) rfl (ldA (cs := [.lst _ _ _, .lst _ _ _, .int _ _, .int _ _, .int _ _, .lst _ _ _]) tt26 rfl ⟨_, rfl⟩ rfl (rt_n (⟨_, rs_agg 5 _ (Wks.cons (rs_lst _ _ _ _) (Wks.cons (rs_lst _ _ _ _) (Wks.cons (zY _ _ _ _) (Wks.cons (zY _ _ _ _) (Wks.cons (zY _ _ _ _) (Wks.cons (rs_lst _ _ _ _) (Wks.refl _))))))), (madeM c.sv c.jobs c.ex c.late c.obj lone), rfl, hv⟩)))))))))))
set_option maxHeartbeats 2000000 in
theorem vcp_made (c : Cas) (lone : Bool) (h0 : CasOk c) : vc_made c lone (fun q0 => q0 = (madeC c lone)) := by
  exact ⟨h0.jl, h0.el, h0.i, h0.v, rfl⟩
theorem spec_made (c : Cas) (lone : Bool) (h0 : CasOk c) : FnP Try.prog 12 [.agg ((e31 true) c), .bool lone] (fun xR => xR = .agg ((e26 false) (madeC c lone))) :=
  (walk_made (vcp_made c lone h0)).mono (by rintro _ ⟨_, rfl, rfl⟩; rfl)
end Go.Lat
namespace Go.Lat
open Go.RowKit Go.Proofs
def vc_was (c : Cas) (Post : Bool -> Prop) : Prop :=
  (CasOk c) /\ ((madeC c false).sv.length <= 9223372036854775807) /\ (∀ j ∈ (madeC c false).jobs, j.wk.length <= 9223372036854775807) /\ ((madeC c false).jobs.length <= 9223372036854775807) /\ ((madeC c false).ex.length <= 9223372036854775807) /\ (((¬ (valuesM (madeC c false)).2 = 0) -> True) /\ (¬ (¬ (valuesM (madeC c false)).2 = 0) -> (0 <= ((madeC c false).causes)) /\ (inI (1 * 2 ^ (min ((madeC c false).causes).toNat 64))) /\ True)) /\ ((((¬ (valuesM (madeC c false)).2 = 0) \/ (¬ ((((valuesM (madeC c false)).1).length : Nat) : Int) = 1 * 2 ^ (min ((madeC c false).causes).toNat 64))) -> Post false) /\ (¬ ((¬ (valuesM (madeC c false)).2 = 0) \/ (¬ ((((valuesM (madeC c false)).1).length : Nat) : Int) = 1 * 2 ^ (min ((madeC c false).causes).toNat 64))) -> ∃ (I1 : Int -> Prop) (μ1 : Int -> Nat), I1 0 /\ ∀ (v7 : Int), I1 v7 -> ((v7 < ((((valuesM (madeC c false)).1).length : Nat) : Int)) -> ((madeC c false).sv.length <= 9223372036854775807) /\ (∀ j ∈ (madeC c false).jobs, j.wk.length <= 9223372036854775807) /\ ((madeC c false).jobs.length <= 9223372036854775807) /\ ((madeC c false).ex.length <= 9223372036854775807) /\ (((madeC c false).sv).length <= 9223372036854775807) /\ (∀ q ∈ ((withE (madeC c false) v7).1), q.wk.length <= 9223372036854775807) /\ (((withE (madeC c false) v7).1).length <= 9223372036854775807) /\ ((madeC c false).sv.length <= 9223372036854775807) /\ (∀ j ∈ (madeC c false).jobs, j.wk.length <= 9223372036854775807) /\ ((madeC c false).jobs.length <= 9223372036854775807) /\ ((madeC c false).ex.length <= 9223372036854775807) /\ (((¬ (withE (madeC c false) v7).2 = 0) -> True) /\ (¬ (¬ (withE (madeC c false) v7).2 = 0) -> ((¬ (finishM ((madeC c false).sv) ((withE (madeC c false) v7).1) ((madeC c false).late)).2 = 0) -> True) /\ (¬ (¬ (finishM ((madeC c false).sv) ((withE (madeC c false) v7).1) ((madeC c false).late)).2 = 0) -> ((¬ (latenessM (madeC c false) v7).2 = 0) -> True) /\ (¬ (¬ (latenessM (madeC c false) v7).2 = 0) -> (0 <= v7 /\ v7 < (((valuesM (madeC c false)).1).length : Int)) /\ ((¬ (latenessM (madeC c false) v7).1 = lat ((valuesM (madeC c false)).1) v7) -> True) /\ (¬ (¬ (latenessM (madeC c false) v7).1 = lat ((valuesM (madeC c false)).1) v7) -> (0 <= ((madeC c false).late) /\ ((madeC c false).late) < (((madeC c false).jobs).length : Int)) /\ (inI (((finishM ((madeC c false).sv) ((withE (madeC c false) v7).1) ((madeC c false).late)).1) - ((lat ((madeC c false).jobs) ((madeC c false).late)).ar))) /\ (inI ((((finishM ((madeC c false).sv) ((withE (madeC c false) v7).1) ((madeC c false).late)).1) - ((lat ((madeC c false).jobs) ((madeC c false).late)).ar)) - ((madeC c false).obj))) /\ True))))) /\ ((((¬ (withE (madeC c false) v7).2 = 0) \/ ((¬ (finishM ((madeC c false).sv) ((withE (madeC c false) v7).1) ((madeC c false).late)).2 = 0) \/ ((¬ (latenessM (madeC c false) v7).2 = 0) \/ ((¬ (latenessM (madeC c false) v7).1 = lat ((valuesM (madeC c false)).1) v7) \/ (¬ (latenessM (madeC c false) v7).1 = max 0 ((((finishM ((madeC c false).sv) ((withE (madeC c false) v7).1) ((madeC c false).late)).1) - ((lat ((madeC c false).jobs) ((madeC c false).late)).ar)) - ((madeC c false).obj))))))) -> Post false) /\ (¬ ((¬ (withE (madeC c false) v7).2 = 0) \/ ((¬ (finishM ((madeC c false).sv) ((withE (madeC c false) v7).1) ((madeC c false).late)).2 = 0) \/ ((¬ (latenessM (madeC c false) v7).2 = 0) \/ ((¬ (latenessM (madeC c false) v7).1 = lat ((valuesM (madeC c false)).1) v7) \/ (¬ (latenessM (madeC c false) v7).1 = max 0 ((((finishM ((madeC c false).sv) ((withE (madeC c false) v7).1) ((madeC c false).late)).1) - ((lat ((madeC c false).jobs) ((madeC c false).late)).ar)) - ((madeC c false).obj))))))) -> (inI (v7 + 1)) /\ (I1 (v7 + 1) /\ μ1 (v7 + 1) < μ1 v7)))) /\ (¬ (v7 < ((((valuesM (madeC c false)).1).length : Nat) : Int)) -> (((madeC c false).sv).length <= 9223372036854775807) /\ (∀ q ∈ ((madeC c false).jobs), q.wk.length <= 9223372036854775807) /\ (((madeC c false).jobs).length <= 9223372036854775807) /\ ((((finishM ((madeC c false).sv) ((madeC c false).jobs) ((madeC c false).late)).2 = 0) -> (inI (((((valuesM (madeC c false)).1).length : Nat) : Int) - 1)) /\ (0 <= (((((valuesM (madeC c false)).1).length : Nat) : Int) - 1) /\ (((((valuesM (madeC c false)).1).length : Nat) : Int) - 1) < (((valuesM (madeC c false)).1).length : Int)) /\ (0 <= ((madeC c false).late) /\ ((madeC c false).late) < (((madeC c false).jobs).length : Int)) /\ (inI (((finishM ((madeC c false).sv) ((madeC c false).jobs) ((madeC c false).late)).1) - ((lat ((madeC c false).jobs) ((madeC c false).late)).ar))) /\ (inI ((((finishM ((madeC c false).sv) ((madeC c false).jobs) ((madeC c false).late)).1) - ((lat ((madeC c false).jobs) ((madeC c false).late)).ar)) - ((madeC c false).obj))) /\ True) /\ (¬ ((finishM ((madeC c false).sv) ((madeC c false).jobs) ((madeC c false).late)).2 = 0) -> True)) /\ (Post (decide (((finishM ((madeC c false).sv) ((madeC c false).jobs) ((madeC c false).late)).2 = 0) /\ (lat ((valuesM (madeC c false)).1) (((((valuesM (madeC c false)).1).length : Nat) : Int) - 1) = max 0 ((((finishM ((madeC c false).sv) ((madeC c false).jobs) ((madeC c false).late)).1) - ((lat ((madeC c false).jobs) ((madeC c false).late)).ar)) - ((madeC c false).obj)))))))))
theorem walk_was {c : Cas} {Post : Bool -> Prop} (hv : vc_was c Post) : FnP Try.prog 4 [.agg ((e31 true) c)] (fun x => ∃ q0, x = .bool q0 /\ Post q0) := by
 refine FnP.of_walk (T := tt) (nt := 133) ttOk ttMix ⟨⟨Try.f4, Try.func4, rfl, rfl, rfl, rfl⟩⟩ (by simp) ?_
 unfold vc_was at hv
 change W _ _ _ ⟨133, look [(0, .agg [.int .i64 c.sv.x0, .int .i64 c.sv.x1, .int .i64 c.sv.x2, .lst true c.jobs.length (zYy eV6 c.jobs), .lst true c.ex.length (zYy e27 c.ex), .int .i64 c.late, .int .i64 c.obj])], [], 0⟩ _
 refine W.rL (cL rfl (o_box (v := .agg _) (p := 0) rfl rfl rfl (aB rfl rfl (eL (W.tr [(1, .ptr _ _)] [.box _ [.int _ _, .int _ _, .int _ _, .lst _ _ _, .lst _ _ _, .int _ _, .int _ _]] ⟨rfl, trivial⟩ rfl (W.rL (cL rfl (zZu (k := 10) (fst := []) (caps := []) (ys := []) rfl rfl (spec_sane) (Wks.refl _) (aB rfl rfl (eL (W.rL (cL rfl (zYp (cs := [.int _ _, .int _ _, .int _ _, .lst _ _ _, .lst _ _ _, .int _ _, .int _ _]) tt31 rfl rfl ⟨_, rfl⟩ rfl ?_)))))))))))))
 obtain ⟨s1, hv⟩ := hv
 refine cL rfl (zZu (k := 12) (fst := []) (caps := []) (ys := [.agg _, .bool _]) rfl rfl (spec_made c false s1) (Wks.cons (zXx 5 _ (Wks.cons (zZz _ _ _ _) (Wks.cons (zZz _ _ _ _) (Wks.cons (zZz _ _ _ _) (Wks.cons (zZs _ _ _ _ _) (Wks.cons (zZs _ _ _ _ _) (Wks.cons (zZz _ _ _ _) (Wks.cons (zZz _ _ _ _) (Wks.refl _))))))))) (Wks.cons (ag_bool _ _ _) (Wks.refl _))) (cL rfl (zXy (p := 1) tt26 rfl rfl (cLn (o_stB (v := .agg _) (vs := [.lst _ _ _, .lst _ _ _, .int _ _, .int _ _, .int _ _, .lst _ _ _]) (cs2 := [.lst _ _ _, .lst _ _ _, .int _ _, .int _ _, .int _ _, .lst _ _ _]) tt26 rfl rfl rfl rfl rfl (Nat.le_of_ble_eq_true rfl) rfl (eL (W.tr [(3, .bool _), (4, .ptr _ _)] [.box _ [.int _ _, .int _ _, .int _ _, .lst _ _ _, .lst _ _ _, .int _ _, .int _ _], .box _ [.lst _ _ _, .lst _ _ _, .int _ _, .int _ _, .int _ _, .lst _ _ _]] ⟨rfl, rfl, trivial⟩ rfl (W.rL (cL rfl (zYp (cs := [.lst _ _ _, .lst _ _ _, .int _ _, .int _ _, .int _ _, .lst _ _ _]) tt26 rfl rfl ⟨_, rfl⟩ rfl ?_))))))))))
 obtain ⟨s2, s3, s4, s5, hv⟩ := hv
 refine cL rfl (zZu (k := 17) (fst := []) (caps := []) (ys := [.agg _]) rfl rfl (spec_values (madeC c false) s2 s3 s4 s5) (Wks.cons (zXx 5 _ (Wks.cons (zZs _ _ _ _ _) (Wks.cons (zZs _ _ _ _ _) (Wks.cons (zZz _ _ _ _) (Wks.cons (zZz _ _ _ _) (Wks.cons (zZz _ _ _ _) (Wks.cons (zZs _ _ _ _ _) (Wks.refl _)))))))) (Wks.refl _)) (cL rfl (zZp (v := .tup _) rfl (cL rfl (o_ext (v := .lst _ _ _) rfl rfl (cL rfl (o_ext (v := .int _ _) rfl rfl (aL rfl rfl (aI rfl rfl (eL (W.tr [(3, .bool _), (4, .ptr _ _), (5, .lst _ _ _), (6, .int _ _)] [.box _ [.int _ _, .int _ _, .int _ _, .lst _ _ _, .lst _ _ _, .int _ _, .int _ _], .box _ [.lst _ _ _, .lst _ _ _, .int _ _, .int _ _, .int _ _, .lst _ _ _]] ⟨rfl, rfl, rfl, rfl, trivial⟩ rfl (W.seq' ?_))))))))))))
 obtain ⟨sd, hv⟩ := hv
 refine W.rLm ⟨133, look [(3, .bool true), (4, .ptr 1 0), (5, .lst false ((valuesM (madeC c false)).1).length (zYy zYx ((valuesM (madeC c false)).1))), (33, .bool (decide ((¬ (valuesM (madeC c false)).2 = 0) \/ (¬ ((((valuesM (madeC c false)).1).length : Nat) : Int) = 1 * 2 ^ (min ((madeC c false).causes).toNat 64)))))], [.box 31 [.int .i64 c.sv.x0, .int .i64 c.sv.x1, .int .i64 c.sv.x2, .lst true c.jobs.length (zYy eV6 c.jobs), .lst true c.ex.length (zYy e27 c.ex), .int .i64 c.late, .int .i64 c.obj], .box 26 [.lst false ((madeC c false).sv).length (zYy zYx ((madeC c false).sv)), .lst false ((madeC c false).jobs).length (zYy (e53 true) ((madeC c false).jobs)), .int .i64 ((madeC c false).late), .int .i64 ((madeC c false).obj), .int .i64 ((madeC c false).causes), .lst false ((madeC c false).ex).length (zYy e58 ((madeC c false).ex))]], 0⟩ ?_ ?_
 refine mI rfl rfl (cL rfl (o_neI rfl rfl rfl (mB rfl rfl ?_)))
 by_cases c1 : ¬ (valuesM (madeC c false)).2 = 0
 iterate 6 refine cLs rfl rfl rfl (dT c1) ?_
 refine cL rfl (zZv (v := .bool _) rfl (dT c1) rfl (eL (zYz ⟨rfl, rfl, rfl, (congrArg AV.bool (dOrT c1)).symm, trivial⟩ rfl)))
 have sd := sd.2 c1
 refine cLg rfl rfl (dF c1) (mL rfl rfl (cLg rfl rfl (dF c1) (cL rfl (zXw (v := .lst _ _ _) tt22 rfl rfl (cLg rfl rfl (dF c1) (cL rfl (o_fa tt26 rfl tt3 rfl (cLg rfl rfl (dF c1) (cL rfl (zZx (v := .int _ _) tt3 rfl rfl ⟨_, rfl⟩ (cLg rfl rfl (dF c1) ?_)))))))))))
 obtain ⟨s12, s13, sd⟩ := sd
 refine cL rfl (o_shl rfl rfl s12 s13 (cLg rfl rfl (dF c1) (cL rfl (o_neI rfl rfl rfl (cL rfl (zZy (v := .bool _) rfl (dF c1) rfl (eL (zYz ⟨rfl, rfl, rfl, (congrArg AV.bool (dOrF c1 (rfl))).symm, trivial⟩ rfl))))))))
 refine W.cn rfl (fun hc => ?_) (fun hc => ?_)
 have hv := hv.1 hc
 refine W.rL (aB rfl rfl (eL (W.ret (zZr (rt (rt_t (v := .bool _) rfl (rt_n (⟨_, zYr _ _ _, false, rfl, hv⟩))))))))
 have hv := hv.2 hc
 refine W.skip (zZ (W.seq' (W.rL (aI rfl rfl (eL (W.block ?_))))))
 obtain ⟨I1, μ1, hp, hv⟩ := hv
 refine W.loop1 (fun v7 => ⟨133, look [(3, .bool true), (4, .ptr 1 0), (5, .lst false ((valuesM (madeC c false)).1).length (zYy zYx ((valuesM (madeC c false)).1))), (7, .int .i64 v7)], [.dead, .box 26 [.lst false ((madeC c false).sv).length (zYy zYx ((madeC c false).sv)), .lst false ((madeC c false).jobs).length (zYy (e53 true) ((madeC c false).jobs)), .int .i64 ((madeC c false).late), .int .i64 ((madeC c false).obj), .int .i64 ((madeC c false).causes), .lst false ((madeC c false).ex).length (zYy e58 ((madeC c false).ex))]], 0⟩) I1 μ1 0 (St.to_mk (φ := [none, some 1]) rfl (rfl) ⟨Ren.bool _, Ren.ptr rfl, Ren.lst _ _ _, Ren.int _ _, trivial⟩ ⟨rfl, .inr ⟨_, rfl, rfl, Rens.cons (Ren.lst _ _ _) (Rens.cons (Ren.lst _ _ _) (Rens.cons (Ren.int _ _) (Rens.cons (Ren.int _ _) (Rens.cons (Ren.int _ _) (Rens.cons (Ren.lst _ _ _) (Rens.nil))))))⟩, trivial⟩) hp ?_
 clear hp
 intro v7 hI
 replace hv := hv v7 hI
 clear hI
 refine W.seq' (W.rL (mI rfl rfl (mL rfl rfl (cL rfl (zXw (v := .lst _ _ _) tt22 rfl rfl (cL rfl (zYq rfl rfl (eL (W.cn rfl (fun hc => ?_) (fun hc => ?_))))))))))
 have hv := hv.1 hc
 refine W.skip (zZ (W.seq' (W.block (W.rL (cL rfl (zYp (cs := [.lst _ _ _, .lst _ _ _, .int _ _, .int _ _, .int _ _, .lst _ _ _]) tt26 rfl rfl ⟨_, rfl⟩ rfl (mI rfl rfl ?_)))))))
 obtain ⟨s150, s151, s152, s153, hv⟩ := hv
 refine cL rfl (zZu (k := 23) (fst := []) (caps := []) (ys := [.agg _, .int _ _]) rfl rfl (spec_withF (madeC c false) v7 s150 s151 s152 s153) (Wks.cons (zXx 5 _ (Wks.cons (zZs _ _ _ _ _) (Wks.cons (zZs _ _ _ _ _) (Wks.cons (zZz _ _ _ _) (Wks.cons (zZz _ _ _ _) (Wks.cons (zZz _ _ _ _) (Wks.cons (zZs _ _ _ _ _) (Wks.refl _)))))))) (Wks.cons (zZz _ _ _ _) (Wks.refl _))) (cL rfl (zZp (v := .tup _) rfl (cL rfl (o_ext (v := .lst _ _ _) rfl rfl (cL rfl (o_ext (v := .int _ _) rfl rfl (aL rfl rfl (aI rfl rfl (eL (W.tr [(3, .bool _), (4, .ptr _ _), (5, .lst _ _ _), (7, .int _ _), (8, .lst _ _ _), (9, .int _ _)] [.dead, .box _ [.lst _ _ _, .lst _ _ _, .int _ _, .int _ _, .int _ _, .lst _ _ _]] ⟨rfl, rfl, rfl, rfl, rfl, rfl, trivial⟩ rfl (W.rL (cL rfl (o_fa tt26 rfl tt22 rfl (cL rfl (zZx (v := .lst _ _ _) tt22 rfl rfl ⟨_, rfl⟩ (mL rfl rfl (cL rfl (o_fa tt26 rfl tt3 rfl (cL rfl (zZx (v := .int _ _) tt3 rfl rfl ⟨_, rfl⟩ ?_)))))))))))))))))))))
 obtain ⟨s154, s155, s156, hv⟩ := hv
 refine cL rfl (zZu (k := 26) (fst := []) (caps := []) (ys := [.lst _ _ _, .lst _ _ _, .int _ _]) rfl rfl (spec_finish ((madeC c false).sv) ((withE (madeC c false) v7).1) ((madeC c false).late) s154 s155 s156) (Wks.cons (zZs _ _ _ _ _) (Wks.cons (zZs _ _ _ _ _) (Wks.cons (zZz _ _ _ _) (Wks.refl _)))) (cL rfl (zZp (v := .tup _) rfl ?_)))
 iterate 2 refine cL rfl (o_ext (v := .int _ _) rfl rfl ?_)
 iterate 2 refine aI rfl rfl ?_
 refine eL (W.tr [(3, .bool _), (4, .ptr _ _), (5, .lst _ _ _), (7, .int _ _), (9, .int _ _), (10, .int _ _), (11, .int _ _)] [.dead, .box _ [.lst _ _ _, .lst _ _ _, .int _ _, .int _ _, .int _ _, .lst _ _ _]] ⟨rfl, rfl, rfl, rfl, rfl, rfl, rfl, trivial⟩ rfl (W.rL (cL rfl (zYp (cs := [.lst _ _ _, .lst _ _ _, .int _ _, .int _ _, .int _ _, .lst _ _ _]) tt26 rfl rfl ⟨_, rfl⟩ rfl (mI rfl rfl ?_)))))
 obtain ⟨s157, s158, s159, s160, hv⟩ := hv
 refine cL rfl (zZu (k := 21) (fst := []) (caps := []) (ys := [.agg _, .int _ _]) rfl rfl (spec_lateness (madeC c false) v7 s157 s158 s159 s160) (Wks.cons (zXx 5 _ (Wks.cons (zZs _ _ _ _ _) (Wks.cons (zZs _ _ _ _ _) (Wks.cons (zZz _ _ _ _) (Wks.cons (zZz _ _ _ _) (Wks.cons (zZz _ _ _ _) (Wks.cons (zZs _ _ _ _ _) (Wks.refl _)))))))) (Wks.cons (zZz _ _ _ _) (Wks.refl _))) (cL rfl (zZp (v := .tup _) rfl ?_)))
 iterate 2 refine cL rfl (o_ext (v := .int _ _) rfl rfl ?_)
 iterate 2 refine aI rfl rfl ?_
 refine eL (W.tr [(3, .bool _), (4, .ptr _ _), (5, .lst _ _ _), (7, .int _ _), (9, .int _ _), (10, .int _ _), (11, .int _ _), (12, .int _ _), (13, .int _ _)] [.dead, .box _ [.lst _ _ _, .lst _ _ _, .int _ _, .int _ _, .int _ _, .lst _ _ _]] ⟨rfl, rfl, rfl, rfl, rfl, rfl, rfl, rfl, rfl, trivial⟩ rfl ?_)
 obtain ⟨sd, hv⟩ := hv
 refine W.rDm ⟨133, look [(3, .bool true), (4, .ptr 1 0), (5, .lst false ((valuesM (madeC c false)).1).length (zYy zYx ((valuesM (madeC c false)).1))), (7, .int .i64 v7), (95, .bool (decide ((¬ (withE (madeC c false) v7).2 = 0) \/ ((¬ (finishM ((madeC c false).sv) ((withE (madeC c false) v7).1) ((madeC c false).late)).2 = 0) \/ ((¬ (latenessM (madeC c false) v7).2 = 0) \/ ((¬ (latenessM (madeC c false) v7).1 = lat ((valuesM (madeC c false)).1) v7) \/ (¬ (latenessM (madeC c false) v7).1 = max 0 ((((finishM ((madeC c false).sv) ((withE (madeC c false) v7).1) ((madeC c false).late)).1) - ((lat ((madeC c false).jobs) ((madeC c false).late)).ar)) - ((madeC c false).obj)))))))))], [.dead, .box 26 [.lst false ((madeC c false).sv).length (zYy zYx ((madeC c false).sv)), .lst false ((madeC c false).jobs).length (zYy (e53 true) ((madeC c false).jobs)), .int .i64 ((madeC c false).late), .int .i64 ((madeC c false).obj), .int .i64 ((madeC c false).causes), .lst false ((madeC c false).ex).length (zYy e58 ((madeC c false).ex))]], 0⟩ [0, 1, 2, 3, 4, 5, 6, 7, 8, 9, 10, 11, 12, 13, 14, 15, 16, 17, 18, 19, 20, 21, 22, 23, 24, 25, 26, 27, 28, 29, 30, 31, 32, 33, 34] (by decide +kernel) rfl ?_ ?_
 refine mI rfl rfl (cL rfl (o_neI rfl rfl rfl (mB rfl rfl ?_)))
 by_cases c1 : ¬ (withE (madeC c false) v7).2 = 0
 iterate 2 refine cLs rfl rfl rfl (dT c1) ?_
 refine cL rfl (zZv (v := .bool _) rfl (dT c1) rfl (mB rfl rfl ?_))
 iterate 2 refine cLs rfl rfl rfl (rfl) ?_
 refine cL rfl (zZv (v := .bool _) rfl rfl rfl (mB rfl rfl ?_))
 iterate 6 refine cLs rfl rfl rfl (rfl) ?_
 refine cL rfl (zZv (v := .bool _) rfl rfl rfl (mB rfl rfl ?_))
 iterate 15 refine cLs rfl rfl rfl (rfl) ?_
 refine cL rfl (zZv (v := .bool _) rfl rfl rfl (eL (zYz ⟨rfl, rfl, rfl, rfl, (congrArg AV.bool (dOrT c1)).symm, trivial⟩ rfl)))
 have sd := sd.2 c1
 refine cLg rfl rfl (dF c1) (mI rfl rfl (cLg rfl rfl (dF c1) (cL rfl (o_neI rfl rfl rfl (cL rfl (zZy (v := .bool _) rfl (dF c1) rfl (mB rfl rfl ?_)))))))
 by_cases c2 : ¬ (finishM ((madeC c false).sv) ((withE (madeC c false) v7).1) ((madeC c false).late)).2 = 0
 iterate 2 refine cLs rfl rfl rfl (dT c2) ?_
 refine cL rfl (zZv (v := .bool _) rfl (dT c2) rfl (mB rfl rfl ?_))
 iterate 6 refine cLs rfl rfl rfl (rfl) ?_
 refine cL rfl (zZv (v := .bool _) rfl rfl rfl (mB rfl rfl ?_))
 iterate 15 refine cLs rfl rfl rfl (rfl) ?_
 refine cL rfl (zZv (v := .bool _) rfl rfl rfl (eL (zYz ⟨rfl, rfl, rfl, rfl, (congrArg AV.bool (dOrF c1 (dOrT c2))).symm, trivial⟩ rfl)))
 have sd := sd.2 c2
 refine cLg rfl rfl (dF c2) (mI rfl rfl (cLg rfl rfl (dF c2) (cL rfl (o_neI rfl rfl rfl (cL rfl (zZy (v := .bool _) rfl (dF c2) rfl (mB rfl rfl ?_)))))))
 by_cases c3 : ¬ (latenessM (madeC c false) v7).2 = 0
 iterate 6 refine cLs rfl rfl rfl (dT c3) ?_
 refine cL rfl (zZv (v := .bool _) rfl (dT c3) rfl (mB rfl rfl ?_))
 iterate 15 refine cLs rfl rfl rfl (rfl) ?_
 refine cL rfl (zZv (v := .bool _) rfl rfl rfl (eL (zYz ⟨rfl, rfl, rfl, rfl, (congrArg AV.bool (dOrF c1 (dOrF c2 (dOrT c3)))).symm, trivial⟩ rfl)))
 have sd := sd.2 c3
 refine cLg rfl rfl (dF c3) (mI rfl rfl (cLg rfl rfl (dF c3) (mL rfl rfl (cLg rfl rfl (dF c3) (mI rfl rfl (cLg rfl rfl (dF c3) ?_))))))
 obtain ⟨s165, sd⟩ := sd
 refine cL rfl (zYu tt22 tt3 rfl rfl (zZw.wd true) rfl s165 ?_)
 intro rest165
 refine cLg rfl rfl (dF c3) (cL rfl (zZx (v := .int _ _) tt3 rfl rfl ⟨_, rfl⟩ (cLg rfl rfl (dF c3) (cL rfl (o_neI rfl rfl rfl (cL rfl (zZy (v := .bool _) rfl (dF c3) rfl (mB rfl rfl ?_))))))))
 by_cases c4 : ¬ (latenessM (madeC c false) v7).1 = lat ((valuesM (madeC c false)).1) v7
 iterate 15 refine cLs rfl rfl rfl (dT c4) ?_
 refine cL rfl (zZv (v := .bool _) rfl (dT c4) rfl (eL (zYz ⟨rfl, rfl, rfl, rfl, (congrArg AV.bool (dOrF c1 (dOrF c2 (dOrF c3 (dOrT c4))))).symm, trivial⟩ rfl)))
 have sd := sd.2 c4
 refine cLg rfl rfl (dF c4) (mI rfl rfl (cLg rfl rfl (dF c4) (mI rfl rfl (cLg rfl rfl (dF c4) (cL rfl (o_fa tt26 rfl tt23 rfl (cLg rfl rfl (dF c4) (cL rfl (zZx (v := .lst _ _ _) tt23 rfl rfl ⟨_, rfl⟩ (cLg rfl rfl (dF c4) (cL rfl (o_fa tt26 rfl tt3 rfl (cLg rfl rfl (dF c4) (cL rfl (zZx (v := .int _ _) tt3 rfl rfl ⟨_, rfl⟩ (cLg rfl rfl (dF c4) ?_))))))))))))))))
 obtain ⟨s166, sd⟩ := sd
 refine cL rfl (zYu tt23 tt53 rfl rfl (enc53.wd true) rfl s166 ?_)
 intro rest166
 refine cLg rfl rfl (dF c4) (cL rfl (o_faP tt53 rfl tt3 rfl (cLg rfl rfl (dF c4) (cL rfl (zZx (v := .int _ _) tt3 rfl rfl ⟨_, rfl⟩ (cLg rfl rfl (dF c4) ?_))))))
 obtain ⟨s167, sd⟩ := sd
 refine cL rfl (o_sub rfl rfl s167 (cLg rfl rfl (dF c4) (cL rfl (o_fa tt26 rfl tt3 rfl (cLg rfl rfl (dF c4) (cL rfl (zZx (v := .int _ _) tt3 rfl rfl ⟨_, rfl⟩ (cLg rfl rfl (dF c4) ?_))))))))
 obtain ⟨s168, sd⟩ := sd
 refine cL rfl (o_sub rfl rfl s168 (cLg rfl rfl (dF c4) (cL rfl (o_max rfl rfl (cLg rfl rfl (dF c4) (cL rfl (o_neI rfl rfl rfl (cL rfl (zZy (v := .bool _) rfl (dF c4) rfl (eL (zYz ⟨rfl, rfl, rfl, rfl, (congrArg AV.bool (dOrF c1 (dOrF c2 (dOrF c3 (dOrF c4 (rfl)))))).symm, trivial⟩ rfl)))))))))))
 refine W.cn rfl (fun hc => ?_) (fun hc => ?_)
 have hv := hv.1 hc
 refine W.rL (aB rfl rfl (eL (W.ret (zYt (zZr (zZr (zYt (zZr (rt (rt_t (v := .bool _) rfl (rt_n (⟨_, zYr _ _ _, false, rfl, hv⟩))))))))))))
 have hv := hv.2 hc
 refine W.skip (zYv (zZ (W.rL1 (mI rfl rfl ?_))))
 obtain ⟨s169, hv⟩ := hv
 refine cL rfl (o_add rfl rfl s169 (aI rfl rfl (eL (zZ (⟨(), (v7 + 1), hv, St.to_mk (φ := [none, some 1]) rfl (rfl) ⟨Ren.bool _, Ren.ptr rfl, Ren.lst _ _ _, Ren.int _ _, trivial⟩ ⟨rfl, .inr ⟨_, rfl, rfl, Rens.cons (Ren.lst _ _ _) (Rens.cons (Ren.lst _ _ _) (Rens.cons (Ren.int _ _) (Rens.cons (Ren.int _ _) (Rens.cons (Ren.int _ _) (Rens.cons (Ren.lst _ _ _) (Rens.nil))))))⟩, trivial⟩⟩)))))
 have hv := hv.2 hc
 refine W.exit (zZt (zZt (zYs (zZ (W.rL (cL rfl (o_fa tt26 rfl tt22 rfl (cL rfl (zZx (v := .lst _ _ _) tt22 rfl rfl ⟨_, rfl⟩ (cL rfl (o_fa tt26 rfl tt23 rfl (cL rfl (zZx (v := .lst _ _ _) tt23 rfl rfl ⟨_, rfl⟩ (cL rfl (o_fa tt26 rfl tt3 rfl (cL rfl (zZx (v := .int _ _) tt3 rfl rfl ⟨_, rfl⟩ ?_)))))))))))))))))
 obtain ⟨s170, s171, s172, hv⟩ := hv
 refine cL rfl (zZu (k := 26) (fst := []) (caps := []) (ys := [.lst _ _ _, .lst _ _ _, .int _ _]) rfl rfl (spec_finish ((madeC c false).sv) ((madeC c false).jobs) ((madeC c false).late) s170 s171 s172) (Wks.cons (zZs _ _ _ _ _) (Wks.cons (zZs _ _ _ _ _) (Wks.cons (zZz _ _ _ _) (Wks.refl _)))) (cL rfl (zZp (v := .tup _) rfl ?_)))
 iterate 2 refine cL rfl (o_ext (v := .int _ _) rfl rfl ?_)
 iterate 2 refine aI rfl rfl ?_
 refine eL (W.tr [(3, .bool _), (4, .ptr _ _), (5, .lst _ _ _), (14, .int _ _), (15, .int _ _)] [.dead, .box _ [.lst _ _ _, .lst _ _ _, .int _ _, .int _ _, .int _ _, .lst _ _ _]] ⟨rfl, rfl, rfl, rfl, rfl, trivial⟩ rfl ?_)
 obtain ⟨sd, hv⟩ := hv
 refine W.rDm ⟨133, look [(2, .bool (decide (((finishM ((madeC c false).sv) ((madeC c false).jobs) ((madeC c false).late)).2 = 0) /\ (lat ((valuesM (madeC c false)).1) (((((valuesM (madeC c false)).1).length : Nat) : Int) - 1) = max 0 ((((finishM ((madeC c false).sv) ((madeC c false).jobs) ((madeC c false).late)).1) - ((lat ((madeC c false).jobs) ((madeC c false).late)).ar)) - ((madeC c false).obj))))))], [.dead, .box 26 [.lst false ((madeC c false).sv).length (zYy zYx ((madeC c false).sv)), .lst false ((madeC c false).jobs).length (zYy (e53 true) ((madeC c false).jobs)), .int .i64 ((madeC c false).late), .int .i64 ((madeC c false).obj), .int .i64 ((madeC c false).causes), .lst false ((madeC c false).ex).length (zYy e58 ((madeC c false).ex))]], 0⟩ [0, 1, 2, 3, 4, 5, 6, 7, 8, 9, 10, 11, 12, 13, 14, 15, 16, 17, 18, 19, 20, 21, 22, 23, 24, 25, 26, 27] (by decide +kernel) rfl ?_ ?_
 iterate 2 refine mB rfl rfl ?_
 refine cLg rfl rfl (rfl) (mI rfl rfl (cLg rfl rfl (rfl) (cL rfl (o_eqI rfl rfl rfl (cL rfl (zZv (v := .bool _) rfl rfl rfl (mB rfl rfl ?_)))))))
 by_cases c1 : (finishM ((madeC c false).sv) ((madeC c false).jobs) ((madeC c false).late)).2 = 0
 have sd := sd.1 c1
 refine cLg rfl rfl (dT c1) (mL rfl rfl (cLg rfl rfl (dT c1) (mL rfl rfl (cLg rfl rfl (dT c1) (cL rfl (zXw (v := .lst _ _ _) tt22 rfl rfl (cLg rfl rfl (dT c1) ?_)))))))
 obtain ⟨s178, sd⟩ := sd
 refine cL rfl (o_sub rfl rfl s178 (cLg rfl rfl (dT c1) ?_))
 obtain ⟨s179, sd⟩ := sd
 refine cL rfl (zYu tt22 tt3 rfl rfl (zZw.wd true) rfl s179 ?_)
 intro rest179
 refine cLg rfl rfl (dT c1) (cL rfl (zZx (v := .int _ _) tt3 rfl rfl ⟨_, rfl⟩ (cLg rfl rfl (dT c1) (mI rfl rfl (cLg rfl rfl (dT c1) (cL rfl (o_fa tt26 rfl tt23 rfl (cLg rfl rfl (dT c1) (cL rfl (zZx (v := .lst _ _ _) tt23 rfl rfl ⟨_, rfl⟩ (cLg rfl rfl (dT c1) (cL rfl (o_fa tt26 rfl tt3 rfl (cLg rfl rfl (dT c1) (cL rfl (zZx (v := .int _ _) tt3 rfl rfl ⟨_, rfl⟩ (cLg rfl rfl (dT c1) ?_)))))))))))))))))
 obtain ⟨s180, sd⟩ := sd
 refine cL rfl (zYu tt23 tt53 rfl rfl (enc53.wd true) rfl s180 ?_)
 intro rest180
 refine cLg rfl rfl (dT c1) (cL rfl (o_faP tt53 rfl tt3 rfl (cLg rfl rfl (dT c1) (cL rfl (zZx (v := .int _ _) tt3 rfl rfl ⟨_, rfl⟩ (cLg rfl rfl (dT c1) ?_))))))
 obtain ⟨s181, sd⟩ := sd
 refine cL rfl (o_sub rfl rfl s181 (cLg rfl rfl (dT c1) (cL rfl (o_fa tt26 rfl tt3 rfl (cLg rfl rfl (dT c1) (cL rfl (zZx (v := .int _ _) tt3 rfl rfl ⟨_, rfl⟩ (cLg rfl rfl (dT c1) ?_))))))))
 obtain ⟨s182, sd⟩ := sd
 refine cL rfl (o_sub rfl rfl s182 (cLg rfl rfl (dT c1) (cL rfl (o_max rfl rfl (cLg rfl rfl (dT c1) (cL rfl (o_eqI rfl rfl rfl (cL rfl (zZv (v := .bool _) rfl (dT c1) rfl (aB rfl rfl (eL (zYz ⟨(congrArg AV.bool (zXv c1 (rfl))).symm, trivial⟩ rfl))))))))))))
 iterate 20 refine cLs rfl rfl rfl (dF c1) ?_
 refine cL rfl (zZy (v := .bool _) rfl (dF c1) rfl (aB rfl rfl (eL (zYz ⟨(congrArg AV.bool (dAndF c1)).symm, trivial⟩ rfl))))
 refine W.ret (rt (rt_t (v := .bool _) rfl (rt_n (⟨_, zYr _ _ _, (decide (((finishM ((madeC c false).sv) ((madeC c false).jobs) ((madeC c false).late)).2 = 0) /\ (lat ((valuesM (madeC c false)).1) (((((valuesM (madeC c false)).1).length : Nat) : Int) - 1) = max 0 ((((finishM ((madeC c false).sv) ((madeC c false).jobs) ((madeC c false).late)).1) - ((lat ((madeC c false).jobs) ((madeC c false).late)).ar)) - ((madeC c false).obj))))), rfl, hv⟩))))
set_option maxHeartbeats 2000000 in
theorem vcp_was (c : Cas) (h0 : CasOk c) : vc_was c (fun q0 => q0 = (true)) := by
  have hm := made_ok c false
  have hv := hm.v
  have L := hv.lens
  have V := hv.v16 hm.ca.2
  have hj := job_ok hv.j
  have ho := hm.obj
  have har := (hj.2.2 _ (lat_mem (xs := (madeC c false).jobs) (i := (madeC c false).late) hv.late)).1
  have hf := fun jobs => finishM_bound (madeC c false).sv jobs (madeC c false).late
  refine ⟨h0, L.a, L.b, L.c, L.d, ⟨fun _ => trivial, fun _ => ⟨hm.ca.1, inI_pow hm.ca, trivial⟩⟩, fun k => ?_, fun _ => ?_⟩
  . exact (k.elim (fun a => a hv.vok) (fun a => a (hv.vlenI hm.ca.2))).elim
  refine ⟨fun v => 0 <= v /\ v <= ((valuesM (madeC c false)).1.length : Int), fun v => (valuesM (madeC c false)).1.length - v.toNat, by omega, fun v hI => ⟨fun k => ?_, fun k => ?_⟩⟩
  . have hs : 0 <= v /\ v < ((valuesM (madeC c false)).1.length : Int) := ⟨hI.1, k⟩
    have hw := job_ok (hv.with_ok v)
    have e1 := hv.withS hs
    have e2 := hv.lateS hs
    have e3 := hv.vlat hs
    have e4 := hv.late2 v
    have b := hf (withM (madeC c false) v)
    rw [e1, e2, e3]
    dsimp only
    refine ⟨L.a, L.b, L.c, L.d, L.a, fun q hq => by have := (hw.2.2 q hq).1; omega, by have := hw.1; omega, L.a, L.b, L.c, L.d, ⟨fun _ => trivial, fun _ => ⟨fun _ => trivial, fun _ => ⟨fun _ => trivial, fun _ => ⟨hs, fun _ => trivial, fun _ => ⟨hv.late, inI_small (by omega), inI_small (by omega), trivial⟩⟩⟩⟩⟩, fun k2 => ?_, fun _ => ⟨inI_small (by omega), ⟨by omega, by omega⟩, by omega⟩⟩
    exact (k2.elim (fun a => a rfl) fun k2 => k2.elim (fun a => a e4) fun k2 => k2.elim (fun a => a rfl) fun k2 => k2.elim (fun a => a rfl) fun a => a rfl).elim
  . have b := hf (madeC c false).jobs
    have hs : 0 <= (((valuesM (madeC c false)).1.length : Nat) : Int) - 1 /\ (((valuesM (madeC c false)).1.length : Nat) : Int) - 1 < ((valuesM (madeC c false)).1.length : Int) := by omega
    refine ⟨L.a, L.b, L.c, ⟨fun _ => ⟨inI_small (by omega), hs, hv.late, inI_small (by omega), inI_small (by omega), trivial⟩, fun _ => trivial⟩, ?_⟩
    have e : withM (madeC c false) ((((valuesM (madeC c false)).1.length : Nat) : Int) - 1) = (madeC c false).jobs := by
      refine with_all hv fun x hx => ?_
      rw [hv.vlenI hm.ca.2, sh_pow ⟨hm.ca.1, by have := hm.ca.2; omega⟩]
      exact set_full hm.ca (hv.mem hx).1.2
    refine decide_eq_true ⟨by unfold finishM; rw [if_pos ⟨hv.j, hv.late.1, by have := hv.late.2; omega⟩], ?_⟩
    rw [hv.vlat hs]
    unfold latM
    rw [e]
theorem spec_was (c : Cas) (h0 : CasOk c) : FnP Try.prog 4 [.agg ((e31 true) c)] (fun xR => xR = .bool (true)) :=
  (walk_was (vcp_was c h0)).mono (by rintro _ ⟨_, rfl, rfl⟩; rfl)
end Go.Lat
