/- The law latecomerlaw24.ReplayMatchesReference returns true for every input, and each argument reads afterwards as it read before. Part 10 of 15. No condition. -/
import Derived.Test.YtbaillkjjlmehaaLatF
import Derived.Test.YtbaillkjjlmehaaLatD
import Derived.Test.YtbaillkjjlmehaaLatE
set_option linter.unusedVariables false
set_option linter.unusedSimpArgs false
set_option linter.unnecessarySimpa false
set_option maxRecDepth 100000
set_option maxHeartbeats 4000000
namespace Go.Lat
open Go.RowKit Go.Proofs
attribute [local irreducible] seqL opC
def vc_few (r : Req) (Post : Req -> Prop) : Prop :=
  (0 <= ((0 : Nat) : Int) /\ ((0 : Nat) : Int) <= (min (r.jobs.length : Int) (8 : Int)) /\ (min (r.jobs.length : Int) (8 : Int)) <= (r.jobs.length : Int)) /\ (0 <= ((0 : Nat) : Int) /\ ((0 : Nat) : Int) <= (min (r.ex.length : Int) (8 : Int)) /\ (min (r.ex.length : Int) (8 : Int)) <= (r.ex.length : Int)) /\ ∃ J1 : Req -> Prop, (∀ (b0 : Req), J1 b0 -> Post b0) /\ (((r.causes = (6 : Int)) -> J1 (Req.mk r.sv (r.jobs.take (min (r.jobs.length : Int) (8 : Int)).toNat) r.late r.obj (5 : Int) (r.ex.take (min (r.ex.length : Int) (8 : Int)).toNat))) /\ (¬ (r.causes = (6 : Int)) -> J1 (Req.mk r.sv (r.jobs.take (min (r.jobs.length : Int) (8 : Int)).toNat) r.late r.obj r.causes (r.ex.take (min (r.ex.length : Int) (8 : Int)).toNat))))
theorem walk_few {r : Req} {Post : Req -> Prop} (hv : vc_few r Post) : FnS Try.prog 11 [.agg ((e26 true) r)] (fun x => ∃ q0, x = .agg ((e26 true) q0) /\ Post q0) := by
 refine FnS.of_walk (T := tt) (nt := 24) ttOk ttMix ⟨⟨Try.f11, Try.func11, rfl, rfl, rfl, rfl⟩⟩ (by simp) ?_
 unfold vc_few at hv
 change W _ _ _ ⟨24, look [(0, .agg [.lst true r.sv.length (zYy zYx r.sv), .lst true r.jobs.length (zYy (e53 true) r.jobs), .int .i64 r.late, .int .i64 r.obj, .int .i64 r.causes, .lst true r.ex.length (zYy e58 r.ex)])], [], 0⟩ _
 refine W.ty [(0, .agg _)] rfl (W.rL (cL rfl (o_box (v := .agg _) (p := 0) rfl rfl rfl (cL rfl (zXy (p := 1) tt26 rfl rfl (eL (W.ty [(1, .ptr _ _), (2, .ptr _ _)] rfl (W.rL (cL rfl (o_fa tt26 rfl tt23 rfl (cL rfl (zZx (v := .lst _ _ _) tt23 rfl rfl ⟨_, rfl⟩ (cL rfl (o_fa tt26 rfl tt23 rfl (cL rfl (zZx (v := .lst _ _ _) tt23 rfl rfl ⟨_, rfl⟩ (cL rfl (zXw (v := .lst _ _ _) tt23 rfl rfl (cL rfl (o_min rfl rfl ?_))))))))))))))))))))
 obtain ⟨s1, hv⟩ := hv
 refine cL rfl (o_slL tt23 tt53 rfl (enc53.wd true) rfl rfl rfl s1 (ys := r.jobs.take (min (r.jobs.length : Int) (8 : Int)).toNat) (by simp) (cL rfl (o_fa tt26 rfl tt23 rfl (cLn (o_stB (v := .lst _ _ _) (vs := [.lst _ _ _]) (cs2 := [.lst _ _ _, .lst _ _ _, .int _ _, .int _ _, .int _ _, .lst _ _ _]) tt23 rfl rfl rfl rfl rfl (Nat.le_of_ble_eq_true rfl) rfl (eL (W.ty [(1, .ptr _ _), (2, .ptr _ _)] rfl (W.rL (cL rfl (o_fa tt26 rfl tt24 rfl (cL rfl (zZx (v := .lst _ _ _) tt24 rfl rfl ⟨_, rfl⟩ (cL rfl (o_fa tt26 rfl tt24 rfl (cL rfl (zZx (v := .lst _ _ _) tt24 rfl rfl ⟨_, rfl⟩ (cL rfl (zXw (v := .lst _ _ _) tt24 rfl rfl (cL rfl (o_min rfl rfl ?_))))))))))))))))))))
 obtain ⟨s2, hv⟩ := hv
 refine cL rfl (o_slL tt24 tt58 rfl (enc58.wd true) rfl rfl rfl s2 (ys := r.ex.take (min (r.ex.length : Int) (8 : Int)).toNat) (by simp) (cL rfl (o_fa tt26 rfl tt24 rfl (cLn (o_stB (v := .lst _ _ _) (vs := [.lst _ _ _]) (cs2 := [.lst _ _ _, .lst _ _ _, .int _ _, .int _ _, .int _ _, .lst _ _ _]) tt24 rfl rfl rfl rfl rfl (Nat.le_of_ble_eq_true rfl) rfl (eL (W.ty [(1, .ptr _ _), (2, .ptr _ _)] rfl ?_)))))))
 obtain ⟨J1, hj, hv⟩ := hv
 refine W.mid1 (fun b0 => ⟨24, look [(1, .ptr 0 0), (2, .ptr 1 0)], [.box 26 [.lst true b0.sv.length (zYy zYx b0.sv), .lst true b0.jobs.length (zYy (e53 true) b0.jobs), .int .i64 b0.late, .int .i64 b0.obj, .int .i64 b0.causes, .lst true b0.ex.length (zYy e58 b0.ex)], .box 26 [.nilS, .nilS, .int .i64 (0 : Int), .int .i64 (0 : Int), .int .i64 (0 : Int), .nilS]], 0⟩) J1 ?_ ?_
 intro b0
 intro hv
 replace hv := hj b0 hv
 refine W.rL (cL rfl (zYp (cs := [.lst _ _ _, .lst _ _ _, .int _ _, .int _ _, .int _ _, .lst _ _ _]) tt26 rfl rfl ⟨_, rfl⟩ rfl (cLn (o_stB (v := .agg _) (vs := [.lst _ _ _, .lst _ _ _, .int _ _, .int _ _, .int _ _, .lst _ _ _]) (cs2 := [.lst _ _ _, .lst _ _ _, .int _ _, .int _ _, .int _ _, .lst _ _ _]) tt26 rfl rfl rfl rfl rfl (Nat.le_of_ble_eq_true rfl) rfl (eL (W.ty [(2, .ptr _ _)] rfl (W.ret (rt (rt_c (x := .ptr _ _) rfl (ldA (cs := [.lst _ _ _, .lst _ _ _, .int _ _, .int _ _, .int _ _, .lst _ _ _]) tt26 rfl ⟨_, rfl⟩ rfl (rt_n (⟨_, zXx 5 _ zk, b0, rfl, hv⟩))))))))))))
 clear hj
 refine W.rL (cL rfl (o_fa tt26 rfl tt3 rfl (cL rfl (zZx (v := .int _ _) tt3 rfl rfl ⟨_, rfl⟩ (cL rfl (o_eqI rfl rfl rfl (eL (W.ty [(1, .ptr _ _), (2, .ptr _ _), (21, .bool _)] rfl (W.cn rfl (fun hc => ?_) (fun hc => ?_))))))))))
 have hv := hv.1 hc
 refine W.rL1 (cL rfl (o_fa tt26 rfl tt3 rfl (cLn (o_stB (v := .int _ _) (vs := [.int _ _]) (cs2 := [.lst _ _ _, .lst _ _ _, .int _ _, .int _ _, .int _ _, .lst _ _ _]) tt3 rfl rfl rfl rfl rfl (Nat.le_of_ble_eq_true rfl) rfl (eL (zZ (⟨(), (Req.mk r.sv (r.jobs.take (min (r.jobs.length : Int) (8 : Int)).toNat) r.late r.obj (5 : Int) (r.ex.take (min (r.ex.length : Int) (8 : Int)).toNat)), hv, St.to_mk (φ := [some 0, some 1]) rfl (rfl) ⟨Ren.ptr rfl, Ren.ptr rfl, trivial⟩ ⟨(zB rfl rfl), (zB rfl rfl), trivial⟩⟩)))))))
 have hv := hv.2 hc
 refine W.skip (zZ (⟨(), (Req.mk r.sv (r.jobs.take (min (r.jobs.length : Int) (8 : Int)).toNat) r.late r.obj r.causes (r.ex.take (min (r.ex.length : Int) (8 : Int)).toNat)), hv, St.to_mk (φ := [some 0, some 1]) rfl (rfl) ⟨Ren.ptr rfl, Ren.ptr rfl, trivial⟩ ⟨(zB rfl rfl), (zB rfl rfl), trivial⟩⟩))
set_option maxHeartbeats 4000000 in
theorem vcp_few (r : Req) (h0 : r.jobs.length <= 9223372036854775807) (h1 : r.ex.length <= 9223372036854775807) : vc_few r (fun q0 => q0 = (fewM r)) := by
  have e : ∀ n : Nat, (min ((n : Nat) : Int) 8).toNat = min n 8 := fun n => by omega
  have et : ∀ {α : Type} (l : List α), l.take (min l.length 8) = l.take 8 := fun l => by
    rw [Nat.min_comm, <- List.take_take, List.take_length]
  unfold vc_few
  simp only [e, et]
  refine ⟨⟨by omega, by omega, by omega⟩, ⟨by omega, by omega, by omega⟩, fun x => x = fewM r, fun b h => h, fun k => ?_, fun k => ?_⟩
  . unfold fewM; rw [if_pos k]
  . unfold fewM; rw [if_neg k]
theorem spec_few (r : Req) (h0 : r.jobs.length <= 9223372036854775807) (h1 : r.ex.length <= 9223372036854775807) : FnS Try.prog 11 [.agg ((e26 true) r)] (fun xR => xR = .agg ((e26 true) (fewM r))) :=
  (walk_few (vcp_few r h0 h1)).mono (by rintro _ ⟨_, rfl, rfl⟩; rfl)
def vc_pick52 (c : Int) (n : Int) (Post : Int -> Prop) : Prop :=
  ∃ J1 : Int -> Prop, (∀ (v0 : Int), J1 v0 -> (n ≠ 0) /\ Post (v0.tmod n)) /\ (((c < (0 : Int)) -> (inI (c + (1 : Int))) /\ (inI (-(c + (1 : Int)))) /\ J1 (-(c + (1 : Int)))) /\ (¬ (c < (0 : Int)) -> J1 c))
theorem walk_pick52 {c : Int} {n : Int} {Post : Int -> Prop} (hv : vc_pick52 c n Post) : FnP Try.prog 52 [.int .i64 c, .int .i64 n] (fun x => ∃ q0, x = .int .i64 q0 /\ Post q0) := by
 refine FnP.of_walk (T := tt) (nt := 13) ttOk ttMix ⟨⟨Try.f52, Try.func52, rfl, rfl, rfl, rfl⟩⟩ (by simp) ?_
 unfold vc_pick52 at hv
 change W _ _ _ ⟨13, look [(0, .int .i64 c), (1, .int .i64 n)], [], 0⟩ _
 refine W.ty [(0, .int _ _), (1, .int _ _)] rfl (W.rL (aI rfl rfl (eL (W.ty [(0, .int _ _), (1, .int _ _)] rfl ?_))))
 obtain ⟨J1, hj, hv⟩ := hv
 refine W.mid1 (fun v0 => ⟨13, look [(0, .int .i64 v0), (1, .int .i64 n)], [], 0⟩) J1 ?_ ?_
 intro v0
 intro hv
 replace hv := hj v0 hv
 refine W.rL ?_
 iterate 2 refine mI rfl rfl ?_
 obtain ⟨s3, hv⟩ := hv
 refine cL rfl (o_rem rfl rfl s3 (aI rfl rfl (eL (W.ty [(4, .int _ _)] rfl (W.ret (rt (rt_t (v := .int _ _) rfl (rt_n (⟨_, zY _ _ _ _, (v0.tmod n), rfl, hv⟩)))))))))
 clear hj
 refine W.rL (mI rfl rfl (cL rfl (zYq rfl rfl (eL (W.ty [(0, .int _ _), (1, .int _ _), (6, .bool _)] rfl (W.cn rfl (fun hc => ?_) (fun hc => ?_)))))))
 have hv := hv.1 hc
 refine W.rL1 (mI rfl rfl ?_)
 obtain ⟨s4, hv⟩ := hv
 refine cL rfl (o_add rfl rfl s4 ?_)
 obtain ⟨s5, hv⟩ := hv
 refine cL rfl (o_neg rfl s5 (aI rfl rfl (eL (zZ (⟨(), (-(c + (1 : Int))), hv, St.to_mk (φ := []) rfl (rfl) (zT rfl rfl) trivial⟩)))))
 have hv := hv.2 hc
 refine W.skip (zZ (⟨(), c, hv, St.to_mk (φ := []) rfl (rfl) (zT rfl rfl) trivial⟩))
set_option maxHeartbeats 4000000 in
theorem vcp_pick52 (c : Int) (n : Int) (h0 : 1 <= n) (h1 : inI c) : vc_pick52 c n (fun q0 => q0 = (pickM c n)) := by
  unfold vc_pick52
  refine ⟨fun v => v = if c < 0 then -(c + 1) else c, fun v hv => ⟨by omega, by subst hv; rfl⟩, fun h => ⟨by unfold inI at *; omega, by unfold inI at *; omega, (if_pos h).symm⟩, fun h => (if_neg h).symm⟩
theorem spec_pick52 (c : Int) (n : Int) (h0 : 1 <= n) (h1 : inI c) : FnP Try.prog 52 [.int .i64 c, .int .i64 n] (fun xR => xR = .int .i64 (pickM c n)) :=
  (walk_pick52 (vcp_pick52 c n h0 h1)).mono (by rintro _ ⟨_, rfl, rfl⟩; rfl)
end Go.Lat
