/- The law latecomerlaw24.ReplaySupported returns true for every input, and each argument reads afterwards as it read before. Part 12 of 19. No condition. -/
import Derived.Test.YtbaillkjjlmehaaLatF
import Derived.Test.YtbaillkjjlmehaaLatD
import Derived.Test.YtbaillkjjlmehaaLatE
import Derived.Test.YtbaillkjjlmehaaLatK
set_option linter.unusedVariables false
set_option linter.unusedSimpArgs false
set_option linter.unnecessarySimpa false
set_option maxRecDepth 100000
set_option maxHeartbeats 4000000
namespace Go.Lat
open Go.RowKit Go.Proofs
attribute [local irreducible] seqL opC
def vc_made (c : Cas) (lone : Bool) (Post : Req -> Prop) : Prop :=
  (c.jobs.length <= 9223372036854775807) /\ (c.ex.length <= 9223372036854775807) /\ ((inI c.sv.x0 /\ inI c.sv.x1 /\ inI c.sv.x2) /\ inI c.late /\ inI c.obj) /\ ((∀ j ∈ c.jobs, ∀ k, inI (vat j k)) /\ ∀ e ∈ c.ex, inI e.x0 /\ inI e.x1 /\ inI e.x2) /\ Post (madeM c.sv c.jobs c.ex c.late c.obj lone)
theorem walk_made {c : Cas} {lone : Bool} {Post : Req -> Prop} (hv : vc_made c lone Post) : FnP Try.prog 12 [.agg ((e31 true) c), .bool lone] (fun x => ∃ q0, x = .agg ((e26 false) q0) /\ Post q0) := by
 refine FnP.of_walk (T := tt) (nt := 17) ttOk ttMix ⟨⟨Try.f12, Try.func12, rfl, rfl, rfl, rfl⟩⟩ (by simp) ?_
 unfold vc_made at hv
 change W _ _ _ ⟨17, look [(0, .agg [.int .i64 c.sv.x0, .int .i64 c.sv.x1, .int .i64 c.sv.x2, .lst true c.jobs.length (zYy eV6 c.jobs), .lst true c.ex.length (zYy e27 c.ex), .int .i64 c.late, .int .i64 c.obj]), (1, .bool lone)], [], 0⟩ _
 refine W.tr [(0, .agg _), (1, .bool _)] [] ⟨rfl, rfl, trivial⟩ rfl (W.rL (cL rfl (o_box (v := .agg _) (p := 0) rfl rfl rfl (cL rfl (zXy (p := 1) tt26 rfl rfl (eL (W.tr [(1, .bool _), (2, .ptr _ _), (4, .ptr _ _)] [.box _ [.int _ _, .int _ _, .int _ _, .lst _ _ _, .lst _ _ _, .int _ _, .int _ _], .box _ [.nilS, .nilS, .int _ _, .int _ _, .int _ _, .nilS]] ⟨rfl, rfl, rfl, trivial⟩ rfl (W.rL (cL rfl (o_fa tt31 rfl tt27 rfl (cL rfl (zYp (cs := [.int _ _, .int _ _, .int _ _]) tt27 rfl rfl ⟨_, rfl⟩ rfl (cL rfl (o_fa tt31 rfl tt28 rfl (cL rfl (zZx (v := .lst _ _ _) tt28 rfl rfl ⟨_, rfl⟩ (cL rfl (o_fa tt31 rfl tt29 rfl (cL rfl (zZx (v := .lst _ _ _) tt29 rfl rfl ⟨_, rfl⟩ (cL rfl (o_fa tt31 rfl tt3 rfl (cL rfl (zZx (v := .int _ _) tt3 rfl rfl ⟨_, rfl⟩ (cL rfl (o_fa tt31 rfl tt3 rfl (cL rfl (zZx (v := .int _ _) tt3 rfl rfl ⟨_, rfl⟩ (mB rfl rfl ?_)))))))))))))))))))))))))))))
 obtain ⟨s1, s2, s3, s4, hv⟩ := hv
 refine cL rfl (zZu (k := 31) (fst := []) (caps := []) (ys := [.agg _, .lst _ _ _, .lst _ _ _, .int _ _, .int _ _, .bool _]) rfl rfl (spec_Made c.sv c.jobs c.ex c.late c.obj lone s1 s2 s3 s4) (Wks.cons (zXx 5 _ (Wks.cons (zZz _ _ _ _) (Wks.cons (zZz _ _ _ _) (Wks.cons (zZz _ _ _ _) (Wks.refl _))))) (Wks.cons (zZs _ _ _ _ _) (Wks.cons (zZs _ _ _ _ _) (Wks.cons (zZz _ _ _ _) (Wks.cons (zZz _ _ _ _) (Wks.cons (ag_bool _ _ _) (Wks.refl _))))))) (cLn (o_stB (v := .agg _) (vs := [.lst _ _ _, .lst _ _ _, .int _ _, .int _ _, .int _ _, .lst _ _ _]) (cs2 := [.lst _ _ _, .lst _ _ _, .int _ _, .int _ _, .int _ _, .lst _ _ _]) tt26 rfl rfl rfl rfl rfl (Nat.le_of_ble_eq_true rfl) rfl (eL (W.tr [(4, .ptr _ _)] [.box _ [.int _ _, .int _ _, .int _ _, .lst _ _ _, .lst _ _ _, .int _ _, .int _ _], .box _ [.lst _ _ _, .lst _ _ _, .int _ _, .int _ _, .int _ _, .lst _ _ _]] ⟨rfl, trivial⟩ rfl (W.ret (rt (rt_c (x := .ptr _ _) rfl (ldA (cs := [.lst _ _ _, .lst _ _ _, .int _ _, .int _ _, .int _ _, .lst _ _ _]) tt26 rfl ⟨_, rfl⟩ rfl (rt_n (⟨_, rs_agg 5 _ (Wks.cons (rs_lst _ _ _ _) (Wks.cons (rs_lst _ _ _ _) (Wks.cons (zY _ _ _ _) (Wks.cons (zY _ _ _ _) (Wks.cons (zY _ _ _ _) (Wks.cons (rs_lst _ _ _ _) (Wks.refl _))))))), (madeM c.sv c.jobs c.ex c.late c.obj lone), rfl, hv⟩)))))))))))
set_option maxHeartbeats 2000000 in
theorem vcp_made (c : Cas) (lone : Bool) (h0 : CasOk c) : vc_made c lone (fun q0 => q0 = (madeC c lone)) := by
  exact ⟨h0.jl, h0.el, h0.i, h0.v, rfl⟩
theorem spec_made (c : Cas) (lone : Bool) (h0 : CasOk c) : FnP Try.prog 12 [.agg ((e31 true) c), .bool lone] (fun xR => xR = .agg ((e26 false) (madeC c lone))) :=
  (walk_made (vcp_made c lone h0)).mono (by rintro _ ⟨_, rfl, rfl⟩; rfl)
def vc_pick49 (c : Int) (n : Int) (Post : Int -> Prop) : Prop :=
  ∃ J1 : Int -> Prop, (∀ (v0 : Int), J1 v0 -> (n ≠ 0) /\ Post (v0.tmod n)) /\ (((c < (0 : Int)) -> (inI (c + (1 : Int))) /\ (inI (-(c + (1 : Int)))) /\ J1 (-(c + (1 : Int)))) /\ (¬ (c < (0 : Int)) -> J1 c))
theorem walk_pick49 {c : Int} {n : Int} {Post : Int -> Prop} (hv : vc_pick49 c n Post) : FnP Try.prog 49 [.int .i64 c, .int .i64 n] (fun x => ∃ q0, x = .int .i64 q0 /\ Post q0) := by
 refine FnP.of_walk (T := tt) (nt := 13) ttOk ttMix ⟨⟨Try.f49, Try.func49, rfl, rfl, rfl, rfl⟩⟩ (by simp) ?_
 unfold vc_pick49 at hv
 change W _ _ _ ⟨13, look [(0, .int .i64 c), (1, .int .i64 n)], [], 0⟩ _
 refine W.tr [(0, .int _ _), (1, .int _ _)] [] ⟨rfl, rfl, trivial⟩ rfl (W.rL (aI rfl rfl (eL (W.tr [(0, .int _ _), (1, .int _ _)] [] ⟨rfl, rfl, trivial⟩ rfl ?_))))
 obtain ⟨J1, hj, hv⟩ := hv
 refine W.mid1 (fun v0 => ⟨13, look [(0, .int .i64 v0), (1, .int .i64 n)], [], 0⟩) J1 ?_ ?_
 intro v0
 intro hv
 replace hv := hj v0 hv
 refine W.rL ?_
 iterate 2 refine mI rfl rfl ?_
 obtain ⟨s3, hv⟩ := hv
 refine cL rfl (o_rem rfl rfl s3 (aI rfl rfl (eL (W.tr [(4, .int _ _)] [] ⟨rfl, trivial⟩ rfl (W.ret (rt (rt_t (v := .int _ _) rfl (rt_n (⟨_, zY _ _ _ _, (v0.tmod n), rfl, hv⟩)))))))))
 clear hj
 refine W.rL (mI rfl rfl (cL rfl (zYq rfl rfl (eL (W.tr [(0, .int _ _), (1, .int _ _), (6, .bool _)] [] ⟨rfl, rfl, rfl, trivial⟩ rfl (W.cn rfl (fun hc => ?_) (fun hc => ?_)))))))
 have hv := hv.1 hc
 refine W.rL1 (mI rfl rfl ?_)
 obtain ⟨s4, hv⟩ := hv
 refine cL rfl (o_add rfl rfl s4 ?_)
 obtain ⟨s5, hv⟩ := hv
 refine cL rfl (o_neg rfl s5 (aI rfl rfl (eL (zZ (⟨(), (-(c + (1 : Int))), hv, St.to_mk (φ := []) rfl (rfl) ⟨Ren.int _ _, Ren.int _ _, trivial⟩ trivial⟩)))))
 have hv := hv.2 hc
 refine W.skip (zZ (⟨(), c, hv, St.to_mk (φ := []) rfl (rfl) ⟨Ren.int _ _, Ren.int _ _, trivial⟩ trivial⟩))
set_option maxHeartbeats 2000000 in
theorem vcp_pick49 (c : Int) (n : Int) (h0 : 1 <= n) (h1 : inI c) : vc_pick49 c n (fun q0 => q0 = (pickM c n)) := by
  unfold vc_pick49
  refine ⟨fun v => v = if c < 0 then -(c + 1) else c, fun v hv => ⟨by omega, by subst hv; rfl⟩, fun h => ⟨by unfold inI at *; omega, by unfold inI at *; omega, (if_pos h).symm⟩, fun h => (if_neg h).symm⟩
theorem spec_pick49 (c : Int) (n : Int) (h0 : 1 <= n) (h1 : inI c) : FnP Try.prog 49 [.int .i64 c, .int .i64 n] (fun xR => xR = .int .i64 (pickM c n)) :=
  (walk_pick49 (vcp_pick49 c n h0 h1)).mono (by rintro _ ⟨_, rfl, rfl⟩; rfl)
end Go.Lat
