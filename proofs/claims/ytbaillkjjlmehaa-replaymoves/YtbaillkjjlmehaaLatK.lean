/- The law latecomerlaw24.ReplayMoves returns true for every input, and each argument reads afterwards as it read before. Part 11 of 12. No condition. -/
import Derived.Test.YtbaillkjjlmehaaLatE
import Derived.Test.YtbaillkjjlmehaaLatF
import Derived.Test.YtbaillkjjlmehaaLatD
import Derived.Test.YtbaillkjjlmehaaLatJ
import Derived.Test.YtbaillkjjlmehaaLatH
import Derived.Test.YtbaillkjjlmehaaLatG
set_option linter.unusedVariables false
set_option linter.unusedSimpArgs false
set_option linter.unnecessarySimpa false
set_option maxRecDepth 100000
set_option maxHeartbeats 4000000
namespace Go.Lat
open Go.RowKit Go.Proofs
def vc_made (c : Cas) (lone : Bool) (Post : Req -> Prop) : Prop :=
  (c.jobs.length <= 9223372036854775807) /\ (c.ex.length <= 9223372036854775807) /\ ((inI c.sv.x0 /\ inI c.sv.x1 /\ inI c.sv.x2) /\ inI c.late /\ inI c.obj) /\ ((∀ j ∈ c.jobs, ∀ k, inI (vat j k)) /\ ∀ e ∈ c.ex, inI e.x0 /\ inI e.x1 /\ inI e.x2) /\ Post (madeM c.sv c.jobs c.ex c.late c.obj lone)
theorem walk_made {c : Cas} {lone : Bool} {Post : Req -> Prop} (hv : vc_made c lone Post) : FnP Try.prog 12 [.agg ((e31 true) c), .bool lone] (fun x => ∃ q0, x = .agg ((e26 false) q0) /\ Post q0) := by
 refine FnP.of_walk (T := tt) (nt := 17) ttOk ttMix ⟨⟨Try.f12, Try.func12, rfl, rfl, rfl, rfl⟩⟩ (by simp) ?_
 unfold vc_made at hv
 change W _ _ _ ⟨17, look [(0, .agg [.int .i64 c.sv.x0, .int .i64 c.sv.x1, .int .i64 c.sv.x2, .lst true c.jobs.length (zYy eV6 c.jobs), .lst true c.ex.length (zYy e27 c.ex), .int .i64 c.late, .int .i64 c.obj]), (1, .bool lone)], [], 0⟩ _
 refine W.rL (cL rfl (o_box (v := .agg _) (p := 0) rfl rfl rfl (cL rfl (zXy (p := 1) tt26 rfl rfl (eL (W.tr [(1, .bool _), (2, .ptr _ _), (4, .ptr _ _)] [.box _ [.int _ _, .int _ _, .int _ _, .lst _ _ _, .lst _ _ _, .int _ _, .int _ _], .box _ [.nilS, .nilS, .int _ _, .int _ _, .int _ _, .nilS]] ⟨rfl, rfl, rfl, trivial⟩ rfl (W.rL (cL rfl (o_fa tt31 rfl tt27 rfl (cL rfl (zYp (cs := [.int _ _, .int _ _, .int _ _]) tt27 rfl rfl ⟨_, rfl⟩ rfl (cL rfl (o_fa tt31 rfl tt28 rfl (cL rfl (zZx (v := .lst _ _ _) tt28 rfl rfl ⟨_, rfl⟩ (cL rfl (o_fa tt31 rfl tt29 rfl (cL rfl (zZx (v := .lst _ _ _) tt29 rfl rfl ⟨_, rfl⟩ (cL rfl (o_fa tt31 rfl tt3 rfl (cL rfl (zZx (v := .int _ _) tt3 rfl rfl ⟨_, rfl⟩ (cL rfl (o_fa tt31 rfl tt3 rfl (cL rfl (zZx (v := .int _ _) tt3 rfl rfl ⟨_, rfl⟩ (mB rfl rfl ?_))))))))))))))))))))))))))))
 obtain ⟨s1, s2, s3, s4, hv⟩ := hv
 refine cL rfl (zZu (k := 31) (fst := []) (caps := []) (ys := [.agg _, .lst _ _ _, .lst _ _ _, .int _ _, .int _ _, .bool _]) rfl rfl (spec_Made c.sv c.jobs c.ex c.late c.obj lone s1 s2 s3 s4) (Wks.cons (zXx 5 _ (Wks.cons (zZz _ _ _ _) (Wks.cons (zZz _ _ _ _) (Wks.cons (zZz _ _ _ _) (Wks.refl _))))) (Wks.cons (zZs _ _ _ _ _) (Wks.cons (zZs _ _ _ _ _) (Wks.cons (zZz _ _ _ _) (Wks.cons (zZz _ _ _ _) (Wks.cons (ag_bool _ _ _) (Wks.refl _))))))) (cLn (o_stB (v := .agg _) (vs := [.lst _ _ _, .lst _ _ _, .int _ _, .int _ _, .int _ _, .lst _ _ _]) (cs2 := [.lst _ _ _, .lst _ _ _, .int _ _, .int _ _, .int _ _, .lst _ _ _]) tt26 rfl rfl rfl rfl rfl (Nat.le_of_ble_eq_true rfl) rfl (eL (W.tr [(4, .ptr _ _)] [.box _ [.int _ _, .int _ _, .int _ _, .lst _ _ _, .lst _ _ _, .int _ _, .int _ _], .box _ [.lst _ _ _, .lst _ _ _, .int _ _, .int _ _, .int _ _, .lst _ _ _]] ⟨rfl, trivial⟩ rfl (W.ret (rt (rt_c (x := .ptr _ _) rfl (ldA (cs := [.lst _ _ _, .lst _ _ _, .int _ _, .int _ _, .int _ _, .lst _ _ _]) tt26 rfl ⟨_, rfl⟩ rfl (rt_n (⟨_, rs_agg 5 _ (Wks.cons (rs_lst _ _ _ _) (Wks.cons (rs_lst _ _ _ _) (Wks.cons (zY _ _ _ _) (Wks.cons (zY _ _ _ _) (Wks.cons (zY _ _ _ _) (Wks.cons (rs_lst _ _ _ _) (Wks.refl _))))))), (madeM c.sv c.jobs c.ex c.late c.obj lone), rfl, hv⟩)))))))))))
set_option maxHeartbeats 2000000 in
theorem vcp_made (c : Cas) (lone : Bool) (h0 : CasOk c) : vc_made c lone (fun q0 => q0 = (madeC c lone)) := by
  exact ⟨h0.jl, h0.el, h0.i, h0.v, rfl⟩
theorem spec_made (c : Cas) (lone : Bool) (h0 : CasOk c) : FnP Try.prog 12 [.agg ((e31 true) c), .bool lone] (fun xR => xR = .agg ((e26 false) (madeC c lone))) :=
  (walk_made (vcp_made c lone h0)).mono (by rintro _ ⟨_, rfl, rfl⟩; rfl)
end Go.Lat
namespace Go.Lat
open Go.RowKit Go.Proofs
def vc_pick20 (c : Int) (n : Int) (Post : Int -> Prop) : Prop :=
  ∃ J1 : Int -> Prop, (∀ (v0 : Int), J1 v0 -> (n ≠ 0) /\ Post (v0.tmod n)) /\ (((c < 0) -> (inI (c + 1)) /\ (inI (-(c + 1))) /\ J1 (-(c + 1))) /\ (¬ (c < 0) -> J1 c))
theorem walk_pick20 {c : Int} {n : Int} {Post : Int -> Prop} (hv : vc_pick20 c n Post) : FnP Try.prog 20 [.int .i64 c, .int .i64 n] (fun x => ∃ q0, x = .int .i64 q0 /\ Post q0) := by
 refine FnP.of_walk (T := tt) (nt := 13) ttOk ttMix ⟨⟨Try.f20, Try.func20, rfl, rfl, rfl, rfl⟩⟩ (by simp) ?_
 unfold vc_pick20 at hv
 change W _ _ _ ⟨13, look [(0, .int .i64 c), (1, .int .i64 n)], [], 0⟩ _
 refine W.rL (aI rfl rfl (eL ?_))
 obtain ⟨J1, hj, hv⟩ := hv
 refine W.mid1 (fun v0 => ⟨13, look [(0, .int .i64 v0), (1, .int .i64 n)], [], 0⟩) J1 ?_ ?_
 intro v0
 intro hv
 replace hv := hj v0 hv
 refine W.rL ?_
 iterate 2 refine mI rfl rfl ?_
 obtain ⟨s3, hv⟩ := hv
 refine cL rfl (o_rem rfl rfl s3 (aI rfl rfl (eL (W.ret (rt (rt_t (v := .int _ _) rfl (rt_n (⟨_, zY _ _ _ _, (v0.tmod n), rfl, hv⟩))))))))
 clear hj
 refine W.rL (mI rfl rfl (cL rfl (zYq rfl rfl (eL (W.cn rfl (fun hc => ?_) (fun hc => ?_))))))
 have hv := hv.1 hc
 refine W.rL1 (mI rfl rfl ?_)
 obtain ⟨s4, hv⟩ := hv
 refine cL rfl (o_add rfl rfl s4 ?_)
 obtain ⟨s5, hv⟩ := hv
 refine cL rfl (o_neg rfl s5 (aI rfl rfl (eL (zZ (⟨(), (-(c + 1)), hv, St.to_mk (φ := []) rfl (rfl) ⟨Ren.int _ _, Ren.int _ _, trivial⟩ trivial⟩)))))
 have hv := hv.2 hc
 refine W.skip (zZ (⟨(), c, hv, St.to_mk (φ := []) rfl (rfl) ⟨Ren.int _ _, Ren.int _ _, trivial⟩ trivial⟩))
set_option maxHeartbeats 2000000 in
theorem vcp_pick20 (c : Int) (n : Int) (h0 : 1 <= n) (h1 : inI c) : vc_pick20 c n (fun q0 => q0 = (pickM c n)) := by
  unfold vc_pick20
  refine ⟨fun v => v = if c < 0 then -(c + 1) else c, fun v hv => ⟨by omega, by subst hv; rfl⟩, fun h => ⟨by unfold inI at *; omega, by unfold inI at *; omega, (if_pos h).symm⟩, fun h => (if_neg h).symm⟩
theorem spec_pick20 (c : Int) (n : Int) (h0 : 1 <= n) (h1 : inI c) : FnP Try.prog 20 [.int .i64 c, .int .i64 n] (fun xR => xR = .int .i64 (pickM c n)) :=
  (walk_pick20 (vcp_pick20 c n h0 h1)).mono (by rintro _ ⟨_, rfl, rfl⟩; rfl)
end Go.Lat
namespace Go.Lat
open Go.RowKit Go.Proofs
def vc_moves (c : Cas) (by_ : Int) (Post : Bool -> Prop) : Prop :=
  (CasOk c) /\ (1 <= (40 : Int)) /\ (inI by_) /\ (inI (((madeC c false).obj) + (pickM by_ 40))) /\ (((madeC c false).jobs).length <= 1073741824) /\ ∃ (I1 : Int -> List Job -> Prop) (μ1 : Int -> List Job -> Nat), I1 0 ((madeC c false).jobs) /\ ∀ (v10 : Int) (r5 : List Job), I1 v10 r5 -> ((v10 < ((r5.length : Nat) : Int)) -> (0 <= v10 /\ v10 < ((r5.length : Nat) : Int)) /\ (inI (((lat r5 v10).ar) + (pickM by_ 40))) /\ (0 <= v10 /\ v10 < ((r5.length : Nat) : Int)) /\ (inI (v10 + 1)) /\ (I1 (v10 + 1) (r5.set v10.toNat (⟨(((lat r5 v10).ar) + (pickM by_ 40)), (lat r5 v10).wk⟩ : Job)) /\ μ1 (v10 + 1) (r5.set v10.toNat (⟨(((lat r5 v10).ar) + (pickM by_ 40)), (lat r5 v10).wk⟩ : Job)) < μ1 v10 r5)) /\ (¬ (v10 < ((r5.length : Nat) : Int)) -> ((madeC c false).sv.length <= 9223372036854775807) /\ (∀ j ∈ (madeC c false).jobs, j.wk.length <= 9223372036854775807) /\ ((madeC c false).jobs.length <= 9223372036854775807) /\ ((madeC c false).ex.length <= 9223372036854775807) /\ ((Req.mk ((madeC c false).sv) ((madeC c false).jobs) ((madeC c false).late) (((madeC c false).obj) + (pickM by_ 40)) ((madeC c false).causes) ((madeC c false).ex)).sv.length <= 9223372036854775807) /\ (∀ j ∈ (Req.mk ((madeC c false).sv) ((madeC c false).jobs) ((madeC c false).late) (((madeC c false).obj) + (pickM by_ 40)) ((madeC c false).causes) ((madeC c false).ex)).jobs, j.wk.length <= 9223372036854775807) /\ ((Req.mk ((madeC c false).sv) ((madeC c false).jobs) ((madeC c false).late) (((madeC c false).obj) + (pickM by_ 40)) ((madeC c false).causes) ((madeC c false).ex)).jobs.length <= 9223372036854775807) /\ ((Req.mk ((madeC c false).sv) ((madeC c false).jobs) ((madeC c false).late) (((madeC c false).obj) + (pickM by_ 40)) ((madeC c false).causes) ((madeC c false).ex)).ex.length <= 9223372036854775807) /\ ((Req.mk ((madeC c false).sv) r5 ((madeC c false).late) ((madeC c false).obj) ((madeC c false).causes) ((madeC c false).ex)).sv.length <= 9223372036854775807) /\ (∀ j ∈ (Req.mk ((madeC c false).sv) r5 ((madeC c false).late) ((madeC c false).obj) ((madeC c false).causes) ((madeC c false).ex)).jobs, j.wk.length <= 9223372036854775807) /\ ((Req.mk ((madeC c false).sv) r5 ((madeC c false).late) ((madeC c false).obj) ((madeC c false).causes) ((madeC c false).ex)).jobs.length <= 9223372036854775807) /\ ((Req.mk ((madeC c false).sv) r5 ((madeC c false).late) ((madeC c false).obj) ((madeC c false).causes) ((madeC c false).ex)).ex.length <= 9223372036854775807) /\ (((¬ (valuesM (madeC c false)).2 = 0) -> True) /\ (¬ (¬ (valuesM (madeC c false)).2 = 0) -> ((¬ (valuesM (Req.mk ((madeC c false).sv) ((madeC c false).jobs) ((madeC c false).late) (((madeC c false).obj) + (pickM by_ 40)) ((madeC c false).causes) ((madeC c false).ex))).2 = 0) -> True) /\ (¬ (¬ (valuesM (Req.mk ((madeC c false).sv) ((madeC c false).jobs) ((madeC c false).late) (((madeC c false).obj) + (pickM by_ 40)) ((madeC c false).causes) ((madeC c false).ex))).2 = 0) -> ((¬ (valuesM (Req.mk ((madeC c false).sv) r5 ((madeC c false).late) ((madeC c false).obj) ((madeC c false).causes) ((madeC c false).ex))).2 = 0) -> True) /\ (¬ (¬ (valuesM (Req.mk ((madeC c false).sv) r5 ((madeC c false).late) ((madeC c false).obj) ((madeC c false).causes) ((madeC c false).ex))).2 = 0) -> ((¬ ((((valuesM (madeC c false)).1).length : Nat) : Int) = ((((valuesM (Req.mk ((madeC c false).sv) ((madeC c false).jobs) ((madeC c false).late) (((madeC c false).obj) + (pickM by_ 40)) ((madeC c false).causes) ((madeC c false).ex))).1).length : Nat) : Int)) -> True) /\ (¬ (¬ ((((valuesM (madeC c false)).1).length : Nat) : Int) = ((((valuesM (Req.mk ((madeC c false).sv) ((madeC c false).jobs) ((madeC c false).late) (((madeC c false).obj) + (pickM by_ 40)) ((madeC c false).causes) ((madeC c false).ex))).1).length : Nat) : Int)) -> (((valuesM (madeC c false)).1).length <= 9223372036854775807) /\ (((valuesM (Req.mk ((madeC c false).sv) r5 ((madeC c false).late) ((madeC c false).obj) ((madeC c false).causes) ((madeC c false).ex))).1).length <= 9223372036854775807) /\ True))))) /\ ((((¬ (valuesM (madeC c false)).2 = 0) \/ ((¬ (valuesM (Req.mk ((madeC c false).sv) ((madeC c false).jobs) ((madeC c false).late) (((madeC c false).obj) + (pickM by_ 40)) ((madeC c false).causes) ((madeC c false).ex))).2 = 0) \/ ((¬ (valuesM (Req.mk ((madeC c false).sv) r5 ((madeC c false).late) ((madeC c false).obj) ((madeC c false).causes) ((madeC c false).ex))).2 = 0) \/ ((¬ ((((valuesM (madeC c false)).1).length : Nat) : Int) = ((((valuesM (Req.mk ((madeC c false).sv) ((madeC c false).jobs) ((madeC c false).late) (((madeC c false).obj) + (pickM by_ 40)) ((madeC c false).causes) ((madeC c false).ex))).1).length : Nat) : Int)) \/ (¬ (((valuesM (madeC c false)).1) = ((valuesM (Req.mk ((madeC c false).sv) r5 ((madeC c false).late) ((madeC c false).obj) ((madeC c false).causes) ((madeC c false).ex))).1))))))) -> Post false) /\ (¬ ((¬ (valuesM (madeC c false)).2 = 0) \/ ((¬ (valuesM (Req.mk ((madeC c false).sv) ((madeC c false).jobs) ((madeC c false).late) (((madeC c false).obj) + (pickM by_ 40)) ((madeC c false).causes) ((madeC c false).ex))).2 = 0) \/ ((¬ (valuesM (Req.mk ((madeC c false).sv) r5 ((madeC c false).late) ((madeC c false).obj) ((madeC c false).causes) ((madeC c false).ex))).2 = 0) \/ ((¬ ((((valuesM (madeC c false)).1).length : Nat) : Int) = ((((valuesM (Req.mk ((madeC c false).sv) ((madeC c false).jobs) ((madeC c false).late) (((madeC c false).obj) + (pickM by_ 40)) ((madeC c false).causes) ((madeC c false).ex))).1).length : Nat) : Int)) \/ (¬ (((valuesM (madeC c false)).1) = ((valuesM (Req.mk ((madeC c false).sv) r5 ((madeC c false).late) ((madeC c false).obj) ((madeC c false).causes) ((madeC c false).ex))).1))))))) -> ∃ (I2 : Int -> Prop) (μ2 : Int -> Nat), I2 0 /\ ∀ (v17 : Int), I2 v17 -> ((v17 < ((((valuesM (madeC c false)).1).length : Nat) : Int)) -> (0 <= v17 /\ v17 < (((valuesM (Req.mk ((madeC c false).sv) ((madeC c false).jobs) ((madeC c false).late) (((madeC c false).obj) + (pickM by_ 40)) ((madeC c false).causes) ((madeC c false).ex))).1).length : Int)) /\ (0 <= v17 /\ v17 < (((valuesM (madeC c false)).1).length : Int)) /\ (inI ((lat ((valuesM (madeC c false)).1) v17) - (pickM by_ 40))) /\ ((¬ lat ((valuesM (Req.mk ((madeC c false).sv) ((madeC c false).jobs) ((madeC c false).late) (((madeC c false).obj) + (pickM by_ 40)) ((madeC c false).causes) ((madeC c false).ex))).1) v17 = max 0 ((lat ((valuesM (madeC c false)).1) v17) - (pickM by_ 40))) -> Post false) /\ (¬ (¬ lat ((valuesM (Req.mk ((madeC c false).sv) ((madeC c false).jobs) ((madeC c false).late) (((madeC c false).obj) + (pickM by_ 40)) ((madeC c false).causes) ((madeC c false).ex))).1) v17 = max 0 ((lat ((valuesM (madeC c false)).1) v17) - (pickM by_ 40))) -> (inI (v17 + 1)) /\ (I2 (v17 + 1) /\ μ2 (v17 + 1) < μ2 v17))) /\ (¬ (v17 < ((((valuesM (madeC c false)).1).length : Nat) : Int)) -> Post true))))
theorem walk_moves {c : Cas} {by_ : Int} {Post : Bool -> Prop} (hv : vc_moves c by_ Post) : FnP Try.prog 6 [.agg ((e31 true) c), .int .i64 by_] (fun x => ∃ q0, x = .bool q0 /\ Post q0) := by
 refine FnP.of_walk (T := tt) (nt := 112) ttOk ttMix ⟨⟨Try.f6, Try.func6, rfl, rfl, rfl, rfl⟩⟩ (by simp) ?_
 unfold vc_moves at hv
 change W _ _ _ ⟨112, look [(0, .agg [.int .i64 c.sv.x0, .int .i64 c.sv.x1, .int .i64 c.sv.x2, .lst true c.jobs.length (zYy eV6 c.jobs), .lst true c.ex.length (zYy e27 c.ex), .int .i64 c.late, .int .i64 c.obj]), (1, .int .i64 by_)], [], 0⟩ _
 refine W.rL (cL rfl (o_box (v := .agg _) (p := 0) rfl rfl rfl (aB rfl rfl (eL (W.tr [(1, .int _ _), (2, .ptr _ _)] [.box _ [.int _ _, .int _ _, .int _ _, .lst _ _ _, .lst _ _ _, .int _ _, .int _ _]] ⟨rfl, rfl, trivial⟩ rfl (W.rL (cL rfl (zZu (k := 10) (fst := []) (caps := []) (ys := []) rfl rfl (spec_sane) (Wks.refl _) (aB rfl rfl (eL (W.rL (cL rfl (zYp (cs := [.int _ _, .int _ _, .int _ _, .lst _ _ _, .lst _ _ _, .int _ _, .int _ _]) tt31 rfl rfl ⟨_, rfl⟩ rfl ?_)))))))))))))
 obtain ⟨s1, hv⟩ := hv
 refine cL rfl (zZu (k := 12) (fst := []) (caps := []) (ys := [.agg _, .bool _]) rfl rfl (spec_made c false s1) (Wks.cons (zXx 5 _ (Wks.cons (zZz _ _ _ _) (Wks.cons (zZz _ _ _ _) (Wks.cons (zZz _ _ _ _) (Wks.cons (zZs _ _ _ _ _) (Wks.cons (zZs _ _ _ _ _) (Wks.cons (zZz _ _ _ _) (Wks.cons (zZz _ _ _ _) (Wks.refl _))))))))) (Wks.cons (ag_bool _ _ _) (Wks.refl _))) (cL rfl (zXy (p := 1) tt26 rfl rfl (cLn (o_stB (v := .agg _) (vs := [.lst _ _ _, .lst _ _ _, .int _ _, .int _ _, .int _ _, .lst _ _ _]) (cs2 := [.lst _ _ _, .lst _ _ _, .int _ _, .int _ _, .int _ _, .lst _ _ _]) tt26 rfl rfl rfl rfl rfl (Nat.le_of_ble_eq_true rfl) rfl (eL (W.tr [(1, .int _ _), (5, .bool _), (6, .ptr _ _)] [.box _ [.int _ _, .int _ _, .int _ _, .lst _ _ _, .lst _ _ _, .int _ _, .int _ _], .box _ [.lst _ _ _, .lst _ _ _, .int _ _, .int _ _, .int _ _, .lst _ _ _]] ⟨rfl, rfl, rfl, trivial⟩ rfl (W.rL (mI rfl rfl ?_)))))))))
 obtain ⟨s2, s3, hv⟩ := hv
 refine cL rfl (zZu (k := 20) (fst := []) (caps := []) (ys := [.int _ _, .int _ _]) rfl rfl (spec_pick20 by_ 40 s2 s3) (Wks.cons (zZz _ _ _ _) (Wks.cons (zZz _ _ _ _) (Wks.refl _))) (aI rfl rfl (eL (W.rL (cL rfl (zYp (cs := [.lst _ _ _, .lst _ _ _, .int _ _, .int _ _, .int _ _, .lst _ _ _]) tt26 rfl rfl ⟨_, rfl⟩ rfl (cL rfl (zXy (p := 2) tt26 rfl rfl (cLn (o_stB (v := .agg _) (vs := [.lst _ _ _, .lst _ _ _, .int _ _, .int _ _, .int _ _, .lst _ _ _]) (cs2 := [.lst _ _ _, .lst _ _ _, .int _ _, .int _ _, .int _ _, .lst _ _ _]) tt26 rfl rfl rfl rfl rfl (Nat.le_of_ble_eq_true rfl) rfl (eL (W.tr [(5, .bool _), (6, .ptr _ _), (7, .int _ _), (8, .ptr _ _)] [.box _ [.int _ _, .int _ _, .int _ _, .lst _ _ _, .lst _ _ _, .int _ _, .int _ _], .box _ [.lst _ _ _, .lst _ _ _, .int _ _, .int _ _, .int _ _, .lst _ _ _], .box _ [.lst _ _ _, .lst _ _ _, .int _ _, .int _ _, .int _ _, .lst _ _ _]] ⟨rfl, rfl, rfl, rfl, trivial⟩ rfl (W.rL (cL rfl (o_fa tt26 rfl tt3 rfl (cL rfl (zZx (v := .int _ _) tt3 rfl rfl ⟨_, rfl⟩ (mI rfl rfl ?_))))))))))))))))))
 obtain ⟨s4, hv⟩ := hv
 refine cL rfl (o_add rfl rfl s4 (cL rfl (o_fa tt26 rfl tt3 rfl (cLn (o_stB (v := .int _ _) (vs := [.int _ _]) (cs2 := [.lst _ _ _, .lst _ _ _, .int _ _, .int _ _, .int _ _, .lst _ _ _]) tt3 rfl rfl rfl rfl rfl (Nat.le_of_ble_eq_true rfl) rfl (eL (W.rL (cL rfl (zYp (cs := [.lst _ _ _, .lst _ _ _, .int _ _, .int _ _, .int _ _, .lst _ _ _]) tt26 rfl rfl ⟨_, rfl⟩ rfl (cL rfl (zXy (p := 3) tt26 rfl rfl (cLn (o_stB (v := .agg _) (vs := [.lst _ _ _, .lst _ _ _, .int _ _, .int _ _, .int _ _, .lst _ _ _]) (cs2 := [.lst _ _ _, .lst _ _ _, .int _ _, .int _ _, .int _ _, .lst _ _ _]) tt26 rfl rfl rfl rfl rfl (Nat.le_of_ble_eq_true rfl) rfl (eL (W.tr [(5, .bool _), (6, .ptr _ _), (7, .int _ _), (8, .ptr _ _), (9, .ptr _ _)] [.box _ [.int _ _, .int _ _, .int _ _, .lst _ _ _, .lst _ _ _, .int _ _, .int _ _], .box _ [.lst _ _ _, .lst _ _ _, .int _ _, .int _ _, .int _ _, .lst _ _ _], .box _ [.lst _ _ _, .lst _ _ _, .int _ _, .int _ _, .int _ _, .lst _ _ _], .box _ [.lst _ _ _, .lst _ _ _, .int _ _, .int _ _, .int _ _, .lst _ _ _]] ⟨rfl, rfl, rfl, rfl, rfl, trivial⟩ rfl (W.rL (cL rfl (o_buildS (q := 4) (qs := []) (cs := []) tt23 tt53 rfl rfl rfl rfl (cL rfl (o_fa tt26 rfl tt23 rfl (cL rfl (zZx (v := .lst _ _ _) tt23 rfl rfl ⟨_, rfl⟩ ?_))))))))))))))))))))))
 obtain ⟨s5, hv⟩ := hv
 refine cL rfl (o_apR (p := 5) (q := ((madeC c false).jobs).length) tt23 tt53 rfl rfl (src_lst (enc53.wd true) _ _ rfl) (zYw (enc53.wd true) _) rfl rfl (by simpa using s5) rfl (Nat.zero_add _) (List.nil_append _) (cL rfl (o_fa tt26 rfl tt23 rfl (cLn (o_stB (v := .ref _ _ _) (vs := [.ref _ _ _]) (cs2 := [.lst _ _ _, .ref _ _ _, .int _ _, .int _ _, .int _ _, .lst _ _ _]) tt23 rfl rfl rfl rfl rfl (Nat.le_of_ble_eq_true rfl) rfl (eL (W.tr [(5, .bool _), (6, .ptr _ _), (7, .int _ _), (8, .ptr _ _), (9, .ptr _ _)] [.box _ [.int _ _, .int _ _, .int _ _, .lst _ _ _, .lst _ _ _, .int _ _, .int _ _], .box _ [.lst _ _ _, .lst _ _ _, .int _ _, .int _ _, .int _ _, .lst _ _ _], .box _ [.lst _ _ _, .lst _ _ _, .int _ _, .int _ _, .int _ _, .lst _ _ _], .box _ [.lst _ _ _, .ref _ _ _, .int _ _, .int _ _, .int _ _, .lst _ _ _], .dead, .row _ _ _] ⟨rfl, rfl, rfl, rfl, rfl, trivial⟩ rfl (W.seq' (W.rL (aI rfl rfl (eL (W.block ?_))))))))))))
 obtain ⟨I1, μ1, hp, hv⟩ := hv
 refine W.loop2 (fun v10 r5 => ⟨112, look [(5, .bool true), (6, .ptr 1 0), (7, .int .i64 (pickM by_ 40)), (8, .ptr 2 0), (9, .ptr 3 0), (10, .int .i64 v10)], [.dead, .box 26 [.lst false ((madeC c false).sv).length (zYy zYx ((madeC c false).sv)), .lst false ((madeC c false).jobs).length (zYy (e53 true) ((madeC c false).jobs)), .int .i64 ((madeC c false).late), .int .i64 ((madeC c false).obj), .int .i64 ((madeC c false).causes), .lst false ((madeC c false).ex).length (zYy e58 ((madeC c false).ex))], .box 26 [.lst false ((madeC c false).sv).length (zYy zYx ((madeC c false).sv)), .lst false ((madeC c false).jobs).length (zYy (e53 true) ((madeC c false).jobs)), .int .i64 ((madeC c false).late), .int .i64 (((madeC c false).obj) + (pickM by_ 40)), .int .i64 ((madeC c false).causes), .lst false ((madeC c false).ex).length (zYy e58 ((madeC c false).ex))], .box 26 [.lst false ((madeC c false).sv).length (zYy zYx ((madeC c false).sv)), .ref false 5 r5.length, .int .i64 ((madeC c false).late), .int .i64 ((madeC c false).obj), .int .i64 ((madeC c false).causes), .lst false ((madeC c false).ex).length (zYy e58 ((madeC c false).ex))], .dead, .row 53 2 (zYy (e53 true) r5)], 0⟩) I1 μ1 0 ((madeC c false).jobs) (St.to_mk (φ := [none, some 1, some 2, some 3, none, some 5]) rfl (rfl) ⟨Ren.bool _, Ren.ptr rfl, Ren.int _ _, Ren.ptr rfl, Ren.ptr rfl, Ren.int _ _, trivial⟩ ⟨rfl, .inr ⟨_, rfl, rfl, Rens.cons (Ren.lst _ _ _) (Rens.cons (Ren.lst _ _ _) (Rens.cons (Ren.int _ _) (Rens.cons (Ren.int _ _) (Rens.cons (Ren.int _ _) (Rens.cons (Ren.lst _ _ _) (Rens.nil))))))⟩, .inr ⟨_, rfl, rfl, Rens.cons (Ren.lst _ _ _) (Rens.cons (Ren.lst _ _ _) (Rens.cons (Ren.int _ _) (Rens.cons (Ren.int _ _) (Rens.cons (Ren.int _ _) (Rens.cons (Ren.lst _ _ _) (Rens.nil))))))⟩, .inr ⟨_, rfl, rfl, Rens.cons (Ren.lst _ _ _) (Rens.cons (Ren.ref rfl (fun h => h)) (Rens.cons (Ren.int _ _) (Rens.cons (Ren.int _ _) (Rens.cons (Ren.int _ _) (Rens.cons (Ren.lst _ _ _) (Rens.nil))))))⟩, rfl, .inr ⟨_, rfl, rfl, rfl, rfl, Rens.enc enc53 true ((madeC c false).jobs)⟩, trivial⟩) hp ?_
 clear hp
 intro v10 r5 hI
 replace hv := hv v10 r5 hI
 clear hI
 refine W.seq' (W.rL (mI rfl rfl (cL rfl (o_fa tt26 rfl tt23 rfl (cL rfl (zZx (v := .ref _ _ _) tt23 rfl rfl ⟨_, rfl⟩ (cL rfl (zXw (v := .ref _ _ _) tt23 rfl rfl (cL rfl (zYq rfl rfl (eL (W.tr [(5, .bool _), (6, .ptr _ _), (7, .int _ _), (8, .ptr _ _), (9, .ptr _ _), (10, .int _ _), (39, .bool _)] [.dead, .box _ [.lst _ _ _, .lst _ _ _, .int _ _, .int _ _, .int _ _, .lst _ _ _], .box _ [.lst _ _ _, .lst _ _ _, .int _ _, .int _ _, .int _ _, .lst _ _ _], .box _ [.lst _ _ _, .ref _ _ _, .int _ _, .int _ _, .int _ _, .lst _ _ _], .dead, .row _ _ _] ⟨rfl, rfl, rfl, rfl, rfl, rfl, rfl, trivial⟩ rfl (W.cn rfl (fun hc => ?_) (fun hc => ?_))))))))))))))
 have hv := hv.1 hc
 refine W.skip (zZ (W.seq' (W.block (W.rD1 [0, 1, 2, 3, 4, 5, 6, 7, 8, 9, 10, 11, 12, 13] (by decide +kernel) rfl (cL rfl (o_fa tt26 rfl tt23 rfl (cL rfl (zZx (v := .ref _ _ _) tt23 rfl rfl ⟨_, rfl⟩ (mI rfl rfl (cL rfl (o_fa tt26 rfl tt23 rfl (cL rfl (zZx (v := .ref _ _ _) tt23 rfl rfl ⟨_, rfl⟩ (mI rfl rfl ?_))))))))))))))
 obtain ⟨s44, hv⟩ := hv
 refine cL rfl (o_iaR tt23 tt53 rfl rfl s44 (cL rfl (o_fa tt53 rfl tt3 rfl (cL rfl (zZx (v := .int _ _) tt3 rfl rfl (cell_of (ca_rowF (xs := r5) (k := 0) rfl (enc53.wd true) s44 rfl) rfl) (mI rfl rfl ?_))))))
 obtain ⟨s45, hv⟩ := hv
 refine cL rfl (o_add rfl rfl s45 ?_)
 obtain ⟨s46, hv⟩ := hv
 refine cL rfl (o_iaR tt23 tt53 rfl rfl s46 (cL rfl (o_fa tt53 rfl tt3 rfl (cLn (o_stR (v := .int _ _) (vs := [.int _ _]) tt3 rfl rfl rfl rfl rfl (row_inF (xs := r5) (enc53.wd true) s46 rfl) (row_setF (e := (e53 true)) (enc53.wd true) _ _ 0 (⟨(((lat r5 v10).ar) + (pickM by_ 40)), (lat r5 v10).wk⟩ : Job) rfl rfl s46) (eL (zYv (zZ (W.tr [(5, .bool _), (6, .ptr _ _), (7, .int _ _), (8, .ptr _ _), (9, .ptr _ _), (10, .int _ _)] [.dead, .box _ [.lst _ _ _, .lst _ _ _, .int _ _, .int _ _, .int _ _, .lst _ _ _], .box _ [.lst _ _ _, .lst _ _ _, .int _ _, .int _ _, .int _ _, .lst _ _ _], .box _ [.lst _ _ _, .ref _ _ _, .int _ _, .int _ _, .int _ _, .lst _ _ _], .dead, .row _ _ _] ⟨rfl, rfl, rfl, rfl, rfl, rfl, trivial⟩ rfl (W.rL1 (mI rfl rfl ?_)))))))))))
 obtain ⟨s47, hv⟩ := hv
 refine cL rfl (o_add rfl rfl s47 (aI rfl rfl (eL (zZ (⟨(), (v10 + 1), (r5.set v10.toNat (⟨(((lat r5 v10).ar) + (pickM by_ 40)), (lat r5 v10).wk⟩ : Job)), hv, St.to_mk (φ := [none, some 1, some 2, some 3, none, some 5]) rfl (rfl) ⟨Ren.bool _, Ren.ptr rfl, Ren.int _ _, Ren.ptr rfl, Ren.ptr rfl, Ren.int _ _, trivial⟩ ⟨rfl, .inr ⟨_, rfl, rfl, Rens.cons (Ren.lst _ _ _) (Rens.cons (Ren.lst _ _ _) (Rens.cons (Ren.int _ _) (Rens.cons (Ren.int _ _) (Rens.cons (Ren.int _ _) (Rens.cons (Ren.lst _ _ _) (Rens.nil))))))⟩, .inr ⟨_, rfl, rfl, Rens.cons (Ren.lst _ _ _) (Rens.cons (Ren.lst _ _ _) (Rens.cons (Ren.int _ _) (Rens.cons (Ren.int _ _) (Rens.cons (Ren.int _ _) (Rens.cons (Ren.lst _ _ _) (Rens.nil))))))⟩, .inr ⟨_, rfl, rfl, Rens.cons (Ren.lst _ _ _) (Rens.cons (Ren.refL rfl (fun h => h) (by simp)) (Rens.cons (Ren.int _ _) (Rens.cons (Ren.int _ _) (Rens.cons (Ren.int _ _) (Rens.cons (Ren.lst _ _ _) (Rens.nil))))))⟩, rfl, .inr ⟨_, rfl, rfl, rfl, rfl, Rens.enc enc53 true (r5.set v10.toNat (⟨(((lat r5 v10).ar) + (pickM by_ 40)), (lat r5 v10).wk⟩ : Job))⟩, trivial⟩⟩)))))
 have hv := hv.2 hc
 refine W.exit (zZt (zZt (zYs (zZ (W.rL (cL rfl (zYp (cs := [.lst _ _ _, .lst _ _ _, .int _ _, .int _ _, .int _ _, .lst _ _ _]) tt26 rfl rfl ⟨_, rfl⟩ rfl ?_)))))))
 obtain ⟨s48, s49, s50, s51, hv⟩ := hv
 refine cL rfl (zZu (k := 17) (fst := []) (caps := []) (ys := [.agg _]) rfl rfl (spec_values (madeC c false) s48 s49 s50 s51) (Wks.cons (zXx 5 _ (Wks.cons (zZs _ _ _ _ _) (Wks.cons (zZs _ _ _ _ _) (Wks.cons (zZz _ _ _ _) (Wks.cons (zZz _ _ _ _) (Wks.cons (zZz _ _ _ _) (Wks.cons (zZs _ _ _ _ _) (Wks.refl _)))))))) (Wks.refl _)) (cL rfl (zZp (v := .tup _) rfl (cL rfl (o_ext (v := .lst _ _ _) rfl rfl (cL rfl (o_ext (v := .int _ _) rfl rfl (aL rfl rfl (aI rfl rfl (eL (W.tr [(5, .bool _), (7, .int _ _), (8, .ptr _ _), (9, .ptr _ _), (11, .lst _ _ _), (12, .int _ _)] [.dead, .box _ [.lst _ _ _, .lst _ _ _, .int _ _, .int _ _, .int _ _, .lst _ _ _], .box _ [.lst _ _ _, .lst _ _ _, .int _ _, .int _ _, .int _ _, .lst _ _ _], .box _ [.lst _ _ _, .ref _ _ _, .int _ _, .int _ _, .int _ _, .lst _ _ _], .dead, .row _ _ _] ⟨rfl, rfl, rfl, rfl, rfl, rfl, trivial⟩ rfl (W.rL (cL rfl (zYp (cs := [.lst _ _ _, .lst _ _ _, .int _ _, .int _ _, .int _ _, .lst _ _ _]) tt26 rfl rfl ⟨_, rfl⟩ rfl ?_))))))))))))))
 obtain ⟨s52, s53, s54, s55, hv⟩ := hv
 refine cL rfl (zZu (k := 17) (fst := []) (caps := []) (ys := [.agg _]) rfl rfl (spec_values (Req.mk ((madeC c false).sv) ((madeC c false).jobs) ((madeC c false).late) (((madeC c false).obj) + (pickM by_ 40)) ((madeC c false).causes) ((madeC c false).ex)) s52 s53 s54 s55) (Wks.cons (zXx 5 _ (Wks.cons (zZs _ _ _ _ _) (Wks.cons (zZs _ _ _ _ _) (Wks.cons (zZz _ _ _ _) (Wks.cons (zZz _ _ _ _) (Wks.cons (zZz _ _ _ _) (Wks.cons (zZs _ _ _ _ _) (Wks.refl _)))))))) (Wks.refl _)) (cL rfl (zZp (v := .tup _) rfl (cL rfl (o_ext (v := .lst _ _ _) rfl rfl (cL rfl (o_ext (v := .int _ _) rfl rfl (aL rfl rfl (aI rfl rfl (eL (W.tr [(5, .bool _), (7, .int _ _), (9, .ptr _ _), (11, .lst _ _ _), (12, .int _ _), (13, .lst _ _ _), (14, .int _ _)] [.dead, .box _ [.lst _ _ _, .lst _ _ _, .int _ _, .int _ _, .int _ _, .lst _ _ _], .box _ [.lst _ _ _, .lst _ _ _, .int _ _, .int _ _, .int _ _, .lst _ _ _], .box _ [.lst _ _ _, .ref _ _ _, .int _ _, .int _ _, .int _ _, .lst _ _ _], .dead, .row _ _ _] ⟨rfl, rfl, rfl, rfl, rfl, rfl, rfl, trivial⟩ rfl (W.rL (cL rfl (zYp (cs := [.lst _ _ _, .ref _ _ _, .int _ _, .int _ _, .int _ _, .lst _ _ _]) tt26 rfl rfl ⟨_, rfl⟩ rfl ?_))))))))))))))
 obtain ⟨s56, s57, s58, s59, hv⟩ := hv
 refine cL rfl (zZu (k := 17) (fst := []) (caps := []) (ys := [.agg _]) rfl rfl (spec_values (Req.mk ((madeC c false).sv) r5 ((madeC c false).late) ((madeC c false).obj) ((madeC c false).causes) ((madeC c false).ex)) s56 s57 s58 s59) (Wks.cons (zXx 5 _ (Wks.cons (zZs _ _ _ _ _) (Wks.cons (ag_ref (fl := true) (xs := r5) enc53 3 _ rfl rfl) (Wks.cons (zZz _ _ _ _) (Wks.cons (zZz _ _ _ _) (Wks.cons (zZz _ _ _ _) (Wks.cons (zZs _ _ _ _ _) (Wks.refl _)))))))) (Wks.refl _)) (cL rfl (zZp (v := .tup _) rfl (cL rfl (o_ext (v := .lst _ _ _) rfl rfl (cL rfl (o_ext (v := .int _ _) rfl rfl (aL rfl rfl (aI rfl rfl (eL (W.tr [(5, .bool _), (7, .int _ _), (11, .lst _ _ _), (12, .int _ _), (13, .lst _ _ _), (14, .int _ _), (15, .lst _ _ _), (16, .int _ _)] [.dead, .box _ [.lst _ _ _, .lst _ _ _, .int _ _, .int _ _, .int _ _, .lst _ _ _], .box _ [.lst _ _ _, .lst _ _ _, .int _ _, .int _ _, .int _ _, .lst _ _ _], .box _ [.lst _ _ _, .ref _ _ _, .int _ _, .int _ _, .int _ _, .lst _ _ _], .dead, .row _ _ _] ⟨rfl, rfl, rfl, rfl, rfl, rfl, rfl, rfl, trivial⟩ rfl (W.seq' ?_))))))))))))
 obtain ⟨sd, hv⟩ := hv
 refine W.rLm ⟨112, look [(5, .bool true), (7, .int .i64 (pickM by_ 40)), (11, .lst false ((valuesM (madeC c false)).1).length (zYy zYx ((valuesM (madeC c false)).1))), (13, .lst false ((valuesM (Req.mk ((madeC c false).sv) ((madeC c false).jobs) ((madeC c false).late) (((madeC c false).obj) + (pickM by_ 40)) ((madeC c false).causes) ((madeC c false).ex))).1).length (zYy zYx ((valuesM (Req.mk ((madeC c false).sv) ((madeC c false).jobs) ((madeC c false).late) (((madeC c false).obj) + (pickM by_ 40)) ((madeC c false).causes) ((madeC c false).ex))).1))), (92, .bool (decide ((¬ (valuesM (madeC c false)).2 = 0) \/ ((¬ (valuesM (Req.mk ((madeC c false).sv) ((madeC c false).jobs) ((madeC c false).late) (((madeC c false).obj) + (pickM by_ 40)) ((madeC c false).causes) ((madeC c false).ex))).2 = 0) \/ ((¬ (valuesM (Req.mk ((madeC c false).sv) r5 ((madeC c false).late) ((madeC c false).obj) ((madeC c false).causes) ((madeC c false).ex))).2 = 0) \/ ((¬ ((((valuesM (madeC c false)).1).length : Nat) : Int) = ((((valuesM (Req.mk ((madeC c false).sv) ((madeC c false).jobs) ((madeC c false).late) (((madeC c false).obj) + (pickM by_ 40)) ((madeC c false).causes) ((madeC c false).ex))).1).length : Nat) : Int)) \/ (¬ (((valuesM (madeC c false)).1) = ((valuesM (Req.mk ((madeC c false).sv) r5 ((madeC c false).late) ((madeC c false).obj) ((madeC c false).causes) ((madeC c false).ex))).1)))))))))], [.dead, .box 26 [.lst false ((madeC c false).sv).length (zYy zYx ((madeC c false).sv)), .lst false ((madeC c false).jobs).length (zYy (e53 true) ((madeC c false).jobs)), .int .i64 ((madeC c false).late), .int .i64 ((madeC c false).obj), .int .i64 ((madeC c false).causes), .lst false ((madeC c false).ex).length (zYy e58 ((madeC c false).ex))], .box 26 [.lst false ((madeC c false).sv).length (zYy zYx ((madeC c false).sv)), .lst false ((madeC c false).jobs).length (zYy (e53 true) ((madeC c false).jobs)), .int .i64 ((madeC c false).late), .int .i64 (((madeC c false).obj) + (pickM by_ 40)), .int .i64 ((madeC c false).causes), .lst false ((madeC c false).ex).length (zYy e58 ((madeC c false).ex))], .box 26 [.lst false ((madeC c false).sv).length (zYy zYx ((madeC c false).sv)), .ref false 5 r5.length, .int .i64 ((madeC c false).late), .int .i64 ((madeC c false).obj), .int .i64 ((madeC c false).causes), .lst false ((madeC c false).ex).length (zYy e58 ((madeC c false).ex))], .dead, .row 53 2 (zYy (e53 true) r5)], 0⟩ ?_ ?_
 refine mI rfl rfl (cL rfl (o_neI rfl rfl rfl (mB rfl rfl ?_)))
 by_cases c1 : ¬ (valuesM (madeC c false)).2 = 0
 iterate 2 refine cLs rfl rfl rfl (dT c1) ?_
 refine cL rfl (zZv (v := .bool _) rfl (dT c1) rfl (mB rfl rfl ?_))
 iterate 2 refine cLs rfl rfl rfl (rfl) ?_
 refine cL rfl (zZv (v := .bool _) rfl rfl rfl (mB rfl rfl ?_))
 iterate 5 refine cLs rfl rfl rfl (rfl) ?_
 refine cL rfl (zZv (v := .bool _) rfl rfl rfl (mB rfl rfl ?_))
 iterate 4 refine cLs rfl rfl rfl (rfl) ?_
 refine cL rfl (zZv (v := .bool _) rfl rfl rfl (eL (zYz ⟨rfl, rfl, rfl, rfl, (congrArg AV.bool (dOrT c1)).symm, trivial⟩ rfl)))
 have sd := sd.2 c1
 refine cLg rfl rfl (dF c1) (mI rfl rfl (cLg rfl rfl (dF c1) (cL rfl (o_neI rfl rfl rfl (cL rfl (zZy (v := .bool _) rfl (dF c1) rfl (mB rfl rfl ?_)))))))
 by_cases c2 : ¬ (valuesM (Req.mk ((madeC c false).sv) ((madeC c false).jobs) ((madeC c false).late) (((madeC c false).obj) + (pickM by_ 40)) ((madeC c false).causes) ((madeC c false).ex))).2 = 0
 iterate 2 refine cLs rfl rfl rfl (dT c2) ?_
 refine cL rfl (zZv (v := .bool _) rfl (dT c2) rfl (mB rfl rfl ?_))
 iterate 5 refine cLs rfl rfl rfl (rfl) ?_
 refine cL rfl (zZv (v := .bool _) rfl rfl rfl (mB rfl rfl ?_))
 iterate 4 refine cLs rfl rfl rfl (rfl) ?_
 refine cL rfl (zZv (v := .bool _) rfl rfl rfl (eL (zYz ⟨rfl, rfl, rfl, rfl, (congrArg AV.bool (dOrF c1 (dOrT c2))).symm, trivial⟩ rfl)))
 have sd := sd.2 c2
 refine cLg rfl rfl (dF c2) (mI rfl rfl (cLg rfl rfl (dF c2) (cL rfl (o_neI rfl rfl rfl (cL rfl (zZy (v := .bool _) rfl (dF c2) rfl (mB rfl rfl ?_)))))))
 by_cases c3 : ¬ (valuesM (Req.mk ((madeC c false).sv) r5 ((madeC c false).late) ((madeC c false).obj) ((madeC c false).causes) ((madeC c false).ex))).2 = 0
 iterate 5 refine cLs rfl rfl rfl (dT c3) ?_
 refine cL rfl (zZv (v := .bool _) rfl (dT c3) rfl (mB rfl rfl ?_))
 iterate 4 refine cLs rfl rfl rfl (rfl) ?_
 refine cL rfl (zZv (v := .bool _) rfl rfl rfl (eL (zYz ⟨rfl, rfl, rfl, rfl, (congrArg AV.bool (dOrF c1 (dOrF c2 (dOrT c3)))).symm, trivial⟩ rfl)))
 have sd := sd.2 c3
 refine cLg rfl rfl (dF c3) (mL rfl rfl (cLg rfl rfl (dF c3) (cL rfl (zXw (v := .lst _ _ _) tt22 rfl rfl (cLg rfl rfl (dF c3) (mL rfl rfl (cLg rfl rfl (dF c3) (cL rfl (zXw (v := .lst _ _ _) tt22 rfl rfl (cLg rfl rfl (dF c3) (cL rfl (o_neI rfl rfl rfl (cL rfl (zZy (v := .bool _) rfl (dF c3) rfl (mB rfl rfl ?_)))))))))))))))
 by_cases c4 : ¬ ((((valuesM (madeC c false)).1).length : Nat) : Int) = ((((valuesM (Req.mk ((madeC c false).sv) ((madeC c false).jobs) ((madeC c false).late) (((madeC c false).obj) + (pickM by_ 40)) ((madeC c false).causes) ((madeC c false).ex))).1).length : Nat) : Int)
 iterate 4 refine cLs rfl rfl rfl (dT c4) ?_
 refine cL rfl (zZv (v := .bool _) rfl (dT c4) rfl (eL (zYz ⟨rfl, rfl, rfl, rfl, (congrArg AV.bool (dOrF c1 (dOrF c2 (dOrF c3 (dOrT c4))))).symm, trivial⟩ rfl)))
 have sd := sd.2 c4
 refine cLg rfl rfl (dF c4) (mL rfl rfl (cLg rfl rfl (dF c4) (mL rfl rfl (cLg rfl rfl (dF c4) ?_))))
 obtain ⟨s66, s67, sd⟩ := sd
 refine cL rfl (zZu (k := 19) (fst := []) (caps := []) (ys := [.lst _ _ _, .lst _ _ _]) rfl rfl (spec_ints ((valuesM (madeC c false)).1) ((valuesM (Req.mk ((madeC c false).sv) r5 ((madeC c false).late) ((madeC c false).obj) ((madeC c false).causes) ((madeC c false).ex))).1) s66 s67) (Wks.cons (zZs _ _ _ _ _) (Wks.cons (zZs _ _ _ _ _) (Wks.refl _))) (cLg rfl rfl (dF c4) (cL rfl (o_not rfl (cL rfl (zZy (v := .bool _) rfl (dF c4) rfl (eL (zYz ⟨rfl, rfl, rfl, rfl, (congrArg AV.bool (dOrF c1 (dOrF c2 (dOrF c3 (dOrF c4 (rfl)))))).symm, trivial⟩ rfl))))))))
 refine W.cn rfl (fun hc => ?_) (fun hc => ?_)
 have hv := hv.1 hc
 refine W.rL (aB rfl rfl (eL (W.ret (zZr (rt (rt_t (v := .bool _) rfl (rt_n (⟨_, zYr _ _ _, false, rfl, hv⟩))))))))
 have hv := hv.2 hc
 refine W.skip (zZ (W.seq' (W.rL (aI rfl rfl (eL (W.block ?_))))))
 obtain ⟨I2, μ2, hp, hv⟩ := hv
 refine W.loop1 (fun v17 => ⟨112, look [(5, .bool true), (7, .int .i64 (pickM by_ 40)), (11, .lst false ((valuesM (madeC c false)).1).length (zYy zYx ((valuesM (madeC c false)).1))), (13, .lst false ((valuesM (Req.mk ((madeC c false).sv) ((madeC c false).jobs) ((madeC c false).late) (((madeC c false).obj) + (pickM by_ 40)) ((madeC c false).causes) ((madeC c false).ex))).1).length (zYy zYx ((valuesM (Req.mk ((madeC c false).sv) ((madeC c false).jobs) ((madeC c false).late) (((madeC c false).obj) + (pickM by_ 40)) ((madeC c false).causes) ((madeC c false).ex))).1))), (17, .int .i64 v17)], [.dead], 0⟩) I2 μ2 0 (St.to_mk (φ := [none]) rfl (rfl) ⟨Ren.bool _, Ren.int _ _, Ren.lst _ _ _, Ren.lst _ _ _, Ren.int _ _, trivial⟩ ⟨rfl, trivial⟩) hp ?_
 clear hp
 intro v17 hI
 replace hv := hv v17 hI
 clear hI
 refine W.seq' (W.rL (mI rfl rfl (mL rfl rfl (cL rfl (zXw (v := .lst _ _ _) tt22 rfl rfl (cL rfl (zYq rfl rfl (eL (W.cn rfl (fun hc => ?_) (fun hc => ?_))))))))))
 have hv := hv.1 hc
 refine W.skip (zZ (W.seq' (W.block (W.rD [0, 1, 2, 3, 4, 5, 6, 7, 8, 9, 10, 11] (by decide +kernel) rfl (mL rfl rfl (mI rfl rfl ?_))))))
 obtain ⟨s92, hv⟩ := hv
 refine cL rfl (zYu tt22 tt3 rfl rfl (zZw.wd true) rfl s92 ?_)
 intro rest92
 refine cL rfl (zZx (v := .int _ _) tt3 rfl rfl ⟨_, rfl⟩ (mL rfl rfl (mI rfl rfl ?_)))
 obtain ⟨s93, hv⟩ := hv
 refine cL rfl (zYu tt22 tt3 rfl rfl (zZw.wd true) rfl s93 ?_)
 intro rest93
 refine cL rfl (zZx (v := .int _ _) tt3 rfl rfl ⟨_, rfl⟩ (mI rfl rfl ?_))
 obtain ⟨s94, hv⟩ := hv
 refine cL rfl (o_sub rfl rfl s94 (cL rfl (o_max rfl rfl (cL rfl (o_neI rfl rfl rfl (eL (W.cn rfl (fun hc => ?_) (fun hc => ?_))))))))
 have hv := hv.1 hc
 refine W.rL (aB rfl rfl (eL (W.tr [(4, .bool _)] [.dead] ⟨rfl, trivial⟩ rfl (W.ret (zYt (zZr (zZr (zYt (zZr (rt (rt_t (v := .bool _) rfl (rt_n (⟨_, zYr _ _ _, false, rfl, hv⟩)))))))))))))
 have hv := hv.2 hc
 refine W.skip (zYv (zZ (W.rL1 (mI rfl rfl ?_))))
 obtain ⟨s95, hv⟩ := hv
 refine cL rfl (o_add rfl rfl s95 (aI rfl rfl (eL (zZ (⟨(), (v17 + 1), hv, St.to_mk (φ := [none]) rfl (rfl) ⟨Ren.bool _, Ren.int _ _, Ren.lst _ _ _, Ren.lst _ _ _, Ren.int _ _, trivial⟩ ⟨rfl, trivial⟩⟩)))))
 have hv := hv.2 hc
 refine W.exit (zZt (zZt (zYs (zZ (W.rL (mB rfl rfl (aB rfl rfl (eL (W.ret (rt (rt_t (v := .bool _) rfl (rt_n (⟨_, zYr _ _ _, true, rfl, hv⟩)))))))))))))
set_option maxHeartbeats 2000000 in
theorem vcp_moves (c : Cas) (by_ : Int) (h0 : CasOk c) (h1 : inI by_) : vc_moves c by_ (fun q0 => q0 = (true)) := by
  have hm := made_ok c false
  have hv := hm.v
  have L := hv.lens
  have V := hv.v16 hm.ca.2
  have hj := job_ok hv.j
  have hp := zXz (c := by_) (n := 40) (by omega)
  have ho := hm.obj
  have hjl := hm.jl
  unfold vc_moves
  generalize pickM by_ 40 = d at *
  refine ⟨h0, by omega, h1, inI_small (by omega), by omega, fun i r5 => 0 <= i /\ r5 = moved (madeC c false) d i.toNat, fun i r5 => r5.length - i.toNat, ⟨by omega, (moved_0 _ _).symm⟩, fun v r5 hI => ⟨fun k => ?_, fun k => ?_⟩⟩
  . obtain ⟨i0, rfl⟩ := hI
    have hlen := moved_len (madeC c false) d v.toNat
    have hv' : v.toNat < (madeC c false).jobs.length := by omega
    have hml := moved_lat (madeC c false) d v.toNat hv'
    rw [show ((v.toNat : Nat) : Int) = v by omega, if_neg (by omega)] at hml
    have har := hm.ar _ (lat_mem (xs := (madeC c false).jobs) (i := v) ⟨i0, by omega⟩)
    refine ⟨⟨i0, k⟩, inI_small (by rw [hml]; omega), ⟨i0, k⟩, inI_small (by omega), ⟨by omega, ?_⟩, by dsimp only; rw [List.length_set]; omega⟩
    rw [hml, show (v + 1).toNat = v.toNat + 1 by omega]
    have := moved_step (madeC c false) d hv'
    rwa [show ((v.toNat : Nat) : Int) = v by omega] at this
  . obtain ⟨i0, e5⟩ := hI
    have hlen := moved_len (madeC c false) d v.toNat
    rw [<- e5] at hlen
    have hml : ∀ q : Nat, q < (madeC c false).jobs.length -> lat r5 (q : Int) = ⟨(lat (madeC c false).jobs q).ar + d, (lat (madeC c false).jobs q).wk⟩ := fun q hq => by
      rw [e5, moved_lat _ _ _ hq, if_pos (by omega)]
    have v2 := more_ok hm hp
    have v3 := later_ok hm hp hlen hml
    have L2 := v2.lens
    have L3 := v3.lens
    have w2 := v2.vlen
    have w3 := v3.vlen
    have w1 := hv.vlen
    have e3 : (valuesM (Req.mk (madeC c false).sv r5 (madeC c false).late (madeC c false).obj (madeC c false).causes (madeC c false).ex)).1 = (valuesM (madeC c false)).1 := by
      rw [v3.vals, hv.vals]
      refine List.map_congr_left fun s _ => later_lat hm hp hlen hml v3 s
    have w4 : (valuesM (Req.mk (madeC c false).sv (madeC c false).jobs (madeC c false).late ((madeC c false).obj + d) (madeC c false).causes (madeC c false).ex)).1.length = (valuesM (madeC c false)).1.length := by rw [w1, w2]
    rw [v2.vok, v3.vok, hv.vok, e3, w4]
    refine ⟨L.a, L.b, L.c, L.d, L2.a, L2.b, L2.c, L2.d, L3.a, L3.b, L3.c, L3.d, ⟨fun _ => trivial, fun _ => ⟨fun _ => trivial, fun _ => ⟨fun _ => trivial, fun _ => ⟨fun _ => trivial, fun _ => ⟨by omega, by omega, trivial⟩⟩⟩⟩⟩, fun k2 => ?_, fun _ => ?_⟩
    . exact (k2.elim (fun a => a rfl) fun k2 => k2.elim (fun a => a rfl) fun k2 => k2.elim (fun a => a rfl) fun k2 => k2.elim (fun a => a rfl) fun a => a rfl).elim
    refine ⟨fun v => 0 <= v /\ v <= ((valuesM (madeC c false)).1.length : Int), fun v => (valuesM (madeC c false)).1.length - v.toNat, by omega, fun s hI => ⟨fun k => ?_, fun _ => rfl⟩⟩
    have hs : 0 <= s /\ s < ((valuesM (madeC c false)).1.length : Int) := ⟨hI.1, k⟩
    have b := hv.latB s
    rw [hv.vlat hs, v2.vlat (by rw [w4]; exact hs)]
    refine ⟨hs, hs, inI_small (by omega), fun k2 => absurd (more_lat (madeC c false) d hp.1 s) k2, fun _ => ⟨inI_small (by omega), ⟨by omega, by omega⟩, by dsimp only; omega⟩⟩
theorem spec_moves (c : Cas) (by_ : Int) (h0 : CasOk c) (h1 : inI by_) : FnP Try.prog 6 [.agg ((e31 true) c), .int .i64 by_] (fun xR => xR = .bool (true)) :=
  (walk_moves (vcp_moves c by_ h0 h1)).mono (by rintro _ ⟨_, rfl, rfl⟩; rfl)
end Go.Lat
