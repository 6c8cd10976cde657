/- The law latecomerlaw24.ReplayIdle returns true for every input, and each argument reads afterwards as it read before. Part 12 of 13. No condition. -/
import Derived.Test.YtbaillkjjlmehaaLatE
import Derived.Test.YtbaillkjjlmehaaLatF
import Derived.Test.YtbaillkjjlmehaaLatD
import Derived.Test.YtbaillkjjlmehaaLatK
import Derived.Test.YtbaillkjjlmehaaLatI
import Derived.Test.YtbaillkjjlmehaaLatG
set_option linter.unusedVariables false
set_option linter.unusedSimpArgs false
set_option linter.unnecessarySimpa false
set_option maxRecDepth 100000
set_option maxHeartbeats 4000000
namespace Go.Lat
open Go.RowKit Go.Proofs
def vc_made (c : Cas) (lone : Bool) (Post : Req -> Prop) : Prop :=
  (c.jobs.length <= 9223372036854775807) /\ (c.ex.length <= 9223372036854775807) /\ ((inI c.sv.x0 /\ inI c.sv.x1 /\ inI c.sv.x2) /\ inI c.late /\ inI c.obj) /\ ((∀ j ∈ c.jobs, ∀ k, inI (vat j k)) /\ ∀ e ∈ c.ex, inI e.x0 /\ inI e.x1 /\ inI e.x2) /\ Post (madeM c.sv c.jobs c.ex c.late c.obj lone)
theorem walk_made {c : Cas} {lone : Bool} {Post : Req -> Prop} (hv : vc_made c lone Post) : FnP Try.prog 12 [.agg ((e31 true) c), .bool lone] (fun x => ∃ q0, x = .agg ((e26 false) q0) /\ Post q0) := by
 refine FnP.of_walk (T := tt) (nt := 17) ttOk ttMix ⟨⟨Try.f12, Try.func12, rfl, rfl, rfl, rfl⟩⟩ (by simp) ?_
 unfold vc_made at hv
 change W _ _ _ ⟨17, look [(0, .agg [.int .i64 c.sv.x0, .int .i64 c.sv.x1, .int .i64 c.sv.x2, .lst true c.jobs.length (zYy eV6 c.jobs), .lst true c.ex.length (zYy e27 c.ex), .int .i64 c.late, .int .i64 c.obj]), (1, .bool lone)], [], 0⟩ _
 refine W.rL (cL rfl (o_box (v := .agg _) (p := 0) rfl rfl rfl (cL rfl (zXy (p := 1) tt26 rfl rfl (eL (W.tr [(1, .bool _), (2, .ptr _ _), (4, .ptr _ _)] [.box _ [.int _ _, .int _ _, .int _ _, .lst _ _ _, .lst _ _ _, .int _ _, .int _ _], .box _ [.nilS, .nilS, .int _ _, .int _ _, .int _ _, .nilS]] ⟨rfl, rfl, rfl, trivial⟩ rfl (W.rL (cL rfl (o_fa tt31 rfl tt27 rfl (cL rfl (zYp (cs := [.int _ _, .int _ _, .int _ _]) tt27 rfl rfl ⟨_, rfl⟩ rfl (cL rfl (o_fa tt31 rfl tt28 rfl (cL rfl (zZx (v := .lst _ _ _) tt28 rfl rfl ⟨_, rfl⟩ (cL rfl (o_fa tt31 rfl tt29 rfl (cL rfl (zZx (v := .lst _ _ _) tt29 rfl rfl ⟨_, rfl⟩ (cL rfl (o_fa tt31 rfl tt3 rfl (cL rfl (zZx (v := .int _ _) tt3 rfl rfl ⟨_, rfl⟩ (cL rfl (o_fa tt31 rfl tt3 rfl (cL rfl (zZx (v := .int _ _) tt3 rfl rfl ⟨_, rfl⟩ (mB rfl rfl ?_))))))))))))))))))))))))))))
 obtain ⟨s1, s2, s3, s4, hv⟩ := hv
 refine cL rfl (zZu (k := 31) (fst := []) (caps := []) (ys := [.agg _, .lst _ _ _, .lst _ _ _, .int _ _, .int _ _, .bool _]) rfl rfl (spec_Made c.sv c.jobs c.ex c.late c.obj lone s1 s2 s3 s4) (Wks.cons (zXx 5 _ (Wks.cons (zZz _ _ _ _) (Wks.cons (zZz _ _ _ _) (Wks.cons (zZz _ _ _ _) (Wks.refl _))))) (Wks.cons (zZs _ _ _ _ _) (Wks.cons (zZs _ _ _ _ _) (Wks.cons (zZz _ _ _ _) (Wks.cons (zZz _ _ _ _) (Wks.cons (ag_bool _ _ _) (Wks.refl _))))))) (cLn (o_stB (v := .agg _) (vs := [.lst _ _ _, .lst _ _ _, .int _ _, .int _ _, .int _ _, .lst _ _ _]) (cs2 := [.lst _ _ _, .lst _ _ _, .int _ _, .int _ _, .int _ _, .lst _ _ _]) tt26 rfl rfl rfl rfl rfl (Nat.le_of_ble_eq_true rfl) rfl (eL (W.tr [(4, .ptr _ _)] [.box _ [.int _ _, .int _ _, .int _ _, .lst _ _ _, .lst _ _ _, .int _ _, .int _ _], .box _ [.lst _ _ _, .lst _ _ _, .int _ _, .int _ _, .int _ _, .lst _ _ _]] ⟨rfl, trivial⟩ rfl (W.ret (rt (rt_c (x := .ptr _ _) rfl (ldA (cs := [.lst _ _ _, .lst _ _ _, .int _ _, .int _ _, .int _ _, .lst _ _ _]) tt26 rfl ⟨_, rfl⟩ rfl (rt_n (⟨_, rs_agg 5 _ (Wks.cons (rs_lst _ _ _ _) (Wks.cons (rs_lst _ _ _ _) (Wks.cons (zY _ _ _ _) (Wks.cons (zY _ _ _ _) (Wks.cons (zY _ _ _ _) (Wks.cons (rs_lst _ _ _ _) (Wks.refl _))))))), (madeM c.sv c.jobs c.ex c.late c.obj lone), rfl, hv⟩)))))))))))
set_option maxHeartbeats 2000000 in
theorem vcp_made (c : Cas) (lone : Bool) (h0 : CasOk c) : vc_made c lone (fun q0 => q0 = (madeC c lone)) := by
  exact ⟨h0.jl, h0.el, h0.i, h0.v, rfl⟩
theorem spec_made (c : Cas) (lone : Bool) (h0 : CasOk c) : FnP Try.prog 12 [.agg ((e31 true) c), .bool lone] (fun xR => xR = .agg ((e26 false) (madeC c lone))) :=
  (walk_made (vcp_made c lone h0)).mono (by rintro _ ⟨_, rfl, rfl⟩; rfl)
end Go.Lat
namespace Go.Lat
open Go.RowKit Go.Proofs
def vc_pick20 (c : Int) (n : Int) (Post : Int -> Prop) : Prop :=
  ∃ J1 : Int -> Prop, (∀ (v0 : Int), J1 v0 -> (n ≠ 0) /\ Post (v0.tmod n)) /\ (((c < 0) -> (inI (c + 1)) /\ (inI (-(c + 1))) /\ J1 (-(c + 1))) /\ (¬ (c < 0) -> J1 c))
theorem walk_pick20 {c : Int} {n : Int} {Post : Int -> Prop} (hv : vc_pick20 c n Post) : FnP Try.prog 20 [.int .i64 c, .int .i64 n] (fun x => ∃ q0, x = .int .i64 q0 /\ Post q0) := by
 refine FnP.of_walk (T := tt) (nt := 13) ttOk ttMix ⟨⟨Try.f20, Try.func20, rfl, rfl, rfl, rfl⟩⟩ (by simp) ?_
 unfold vc_pick20 at hv
 change W _ _ _ ⟨13, look [(0, .int .i64 c), (1, .int .i64 n)], [], 0⟩ _
 refine W.rL (aI rfl rfl (eL ?_))
 obtain ⟨J1, hj, hv⟩ := hv
 refine W.mid1 (fun v0 => ⟨13, look [(0, .int .i64 v0), (1, .int .i64 n)], [], 0⟩) J1 ?_ ?_
 intro v0
 intro hv
 replace hv := hj v0 hv
 refine W.rL ?_
 iterate 2 refine mI rfl rfl ?_
 obtain ⟨s3, hv⟩ := hv
 refine cL rfl (o_rem rfl rfl s3 (aI rfl rfl (eL (W.ret (rt (rt_t (v := .int _ _) rfl (rt_n (⟨_, zY _ _ _ _, (v0.tmod n), rfl, hv⟩))))))))
 clear hj
 refine W.rL (mI rfl rfl (cL rfl (zYq rfl rfl (eL (W.cn rfl (fun hc => ?_) (fun hc => ?_))))))
 have hv := hv.1 hc
 refine W.rL1 (mI rfl rfl ?_)
 obtain ⟨s4, hv⟩ := hv
 refine cL rfl (o_add rfl rfl s4 ?_)
 obtain ⟨s5, hv⟩ := hv
 refine cL rfl (o_neg rfl s5 (aI rfl rfl (eL (zZ (⟨(), (-(c + 1)), hv, St.to_mk (φ := []) rfl (rfl) ⟨Ren.int _ _, Ren.int _ _, trivial⟩ trivial⟩)))))
 have hv := hv.2 hc
 refine W.skip (zZ (⟨(), c, hv, St.to_mk (φ := []) rfl (rfl) ⟨Ren.int _ _, Ren.int _ _, trivial⟩ trivial⟩))
set_option maxHeartbeats 2000000 in
theorem vcp_pick20 (c : Int) (n : Int) (h0 : 1 <= n) (h1 : inI c) : vc_pick20 c n (fun q0 => q0 = (pickM c n)) := by
  unfold vc_pick20
  refine ⟨fun v => v = if c < 0 then -(c + 1) else c, fun v hv => ⟨by omega, by subst hv; rfl⟩, fun h => ⟨by unfold inI at *; omega, by unfold inI at *; omega, (if_pos h).symm⟩, fun h => (if_neg h).symm⟩
theorem spec_pick20 (c : Int) (n : Int) (h0 : 1 <= n) (h1 : inI c) : FnP Try.prog 20 [.int .i64 c, .int .i64 n] (fun xR => xR = .int .i64 (pickM c n)) :=
  (walk_pick20 (vcp_pick20 c n h0 h1)).mono (by rintro _ ⟨_, rfl, rfl⟩; rfl)
end Go.Lat
namespace Go.Lat
open Go.RowKit Go.Proofs
def vc_joined (r : Req) (Post : (List Bool) -> Prop) : Prop :=
  (0 <= ((r.sv.length : Nat) : Int) /\ ((r.sv.length : Nat) : Int) <= 1073741824) /\ ∃ (I1 : Int -> List Bool -> Prop) (μ1 : Int -> List Bool -> Nat), I1 0 (List.replicate ((r.sv.length : Nat) : Int).toNat (false : Bool)) /\ ∀ (v4 : Int) (r1 : List Bool), I1 v4 r1 -> (0 <= r.late /\ r.late < (r.jobs.length : Int)) /\ ((v4 < ((((lat r.jobs r.late).wk).length : Nat) : Int)) -> (0 <= r.late /\ r.late < (r.jobs.length : Int)) /\ (0 <= v4 /\ v4 < (((lat r.jobs r.late).wk).length : Int)) /\ (0 <= ((lat ((lat r.jobs r.late).wk) v4).st) /\ ((lat ((lat r.jobs r.late).wk) v4).st) < ((r1.length : Nat) : Int)) /\ (inI (v4 + 1)) /\ (I1 (v4 + 1) (r1.set ((lat ((lat r.jobs r.late).wk) v4).st).toNat true) /\ μ1 (v4 + 1) (r1.set ((lat ((lat r.jobs r.late).wk) v4).st).toNat true) < μ1 v4 r1)) /\ (¬ (v4 < ((((lat r.jobs r.late).wk).length : Nat) : Int)) -> ∃ (I2 : Int -> List Bool -> Prop) (μ2 : Int -> List Bool -> Nat), I2 0 r1 /\ ∀ (v5 : Int) (r1_1 : List Bool), I2 v5 r1_1 -> ((v5 < ((r.sv.length : Nat) : Int)) -> ∃ (I3 : Int -> List Bool -> Prop) (μ3 : Int -> List Bool -> Nat), I3 0 r1_1 /\ ∀ (v6 : Int) (r1_2 : List Bool), I3 v6 r1_2 -> ((v6 < ((r.jobs.length : Nat) : Int)) -> ∃ (I4 : Bool -> Int -> Prop) (μ4 : Bool -> Int -> Nat), I4 false 0 /\ ∀ (v7 : Bool) (v8 : Int), I4 v7 v8 -> (0 <= v6 /\ v6 < (r.jobs.length : Int)) /\ ((v8 < ((((lat r.jobs v6).wk).length : Nat) : Int)) -> (((v7 = true) -> True) /\ (¬ (v7 = true) -> (0 <= v6 /\ v6 < (r.jobs.length : Int)) /\ (0 <= v8 /\ v8 < (((lat r.jobs v6).wk).length : Int)) /\ (0 <= ((lat ((lat r.jobs v6).wk) v8).st) /\ ((lat ((lat r.jobs v6).wk) v8).st) < ((r1_2.length : Nat) : Int)) /\ True)) /\ ((inI (v8 + 1)) /\ (I4 (decide ((v7 = true) \/ ((lat r1_2 ((lat ((lat r.jobs v6).wk) v8).st)) = true))) (v8 + 1) /\ μ4 (decide ((v7 = true) \/ ((lat r1_2 ((lat ((lat r.jobs v6).wk) v8).st)) = true))) (v8 + 1) < μ4 v7 v8))) /\ (¬ (v8 < ((((lat r.jobs v6).wk).length : Nat) : Int)) -> ∃ (I5 : Int -> List Bool -> Prop) (μ5 : Int -> List Bool -> Nat), I5 0 r1_2 /\ ∀ (v9 : Int) (r1_3 : List Bool), I5 v9 r1_3 -> ((0 <= v6 /\ v6 < (r.jobs.length : Int)) /\ True) /\ ((((v9 < ((((lat r.jobs v6).wk).length : Nat) : Int)) /\ (v7 = true)) -> (0 <= v6 /\ v6 < (r.jobs.length : Int)) /\ (0 <= v9 /\ v9 < (((lat r.jobs v6).wk).length : Int)) /\ (0 <= ((lat ((lat r.jobs v6).wk) v9).st) /\ ((lat ((lat r.jobs v6).wk) v9).st) < ((r1_3.length : Nat) : Int)) /\ (inI (v9 + 1)) /\ (I5 (v9 + 1) (r1_3.set ((lat ((lat r.jobs v6).wk) v9).st).toNat true) /\ μ5 (v9 + 1) (r1_3.set ((lat ((lat r.jobs v6).wk) v9).st).toNat true) < μ5 v9 r1_3)) /\ (¬ ((v9 < ((((lat r.jobs v6).wk).length : Nat) : Int)) /\ (v7 = true)) -> (inI (v6 + 1)) /\ (I3 (v6 + 1) r1_3 /\ μ3 (v6 + 1) r1_3 < μ3 v6 r1_2))))) /\ (¬ (v6 < ((r.jobs.length : Nat) : Int)) -> (inI (v5 + 1)) /\ (I2 (v5 + 1) r1_2 /\ μ2 (v5 + 1) r1_2 < μ2 v5 r1_1))) /\ (¬ (v5 < ((r.sv.length : Nat) : Int)) -> Post r1_1))
theorem walk_joined {r : Req} {Post : (List Bool) -> Prop} (hv : vc_joined r Post) : FnP Try.prog 27 [.agg ((e26 true) r)] (fun x => ∃ q0, x = .lst false q0.length (zYy eBool q0) /\ Post q0) := by
 refine FnP.of_walk (T := tt) (nt := 107) ttOk ttMix ⟨⟨Try.f27, Try.func27, rfl, rfl, rfl, rfl⟩⟩ (by simp) ?_
 unfold vc_joined at hv
 change W _ _ _ ⟨107, look [(0, .agg [.lst true r.sv.length (zYy zYx r.sv), .lst true r.jobs.length (zYy (e53 true) r.jobs), .int .i64 r.late, .int .i64 r.obj, .int .i64 r.causes, .lst true r.ex.length (zYy e58 r.ex)])], [], 0⟩ _
 refine W.rL (cL rfl (o_box (v := .agg _) (p := 0) rfl rfl rfl (cL rfl (zZq (v := .nilS) rfl (eL (W.tr [(1, .ptr _ _)] [.box _ [.lst _ _ _, .lst _ _ _, .int _ _, .int _ _, .int _ _, .lst _ _ _]] ⟨rfl, trivial⟩ rfl (W.rL (cL rfl (o_fa tt26 rfl tt22 rfl (cL rfl (zZx (v := .lst _ _ _) tt22 rfl rfl ⟨_, rfl⟩ (cL rfl (zXw (v := .lst _ _ _) tt22 rfl rfl ?_)))))))))))))
 obtain ⟨s1, hv⟩ := hv
 refine cL rfl (o_mkS (p := 1) (x0 := (false : Bool)) tt55 tt4 rfl rfl rfl (encBool.wd false) rfl s1 rfl (cL rfl (zZq (v := .ref _ _ _) rfl (eL (W.tr [(1, .ptr _ _), (3, .ref _ _ _)] [.box _ [.lst _ _ _, .lst _ _ _, .int _ _, .int _ _, .int _ _, .lst _ _ _], .row _ _ _] ⟨rfl, rfl, trivial⟩ rfl (W.seq' (W.rL (aI rfl rfl (eL (W.block ?_))))))))))
 obtain ⟨I1, μ1, hp, hv⟩ := hv
 refine W.loop2 (fun v4 r1 => ⟨107, look [(1, .ptr 0 0), (3, .ref false 1 r1.length), (4, .int .i64 v4)], [.box 26 [.lst true r.sv.length (zYy zYx r.sv), .lst true r.jobs.length (zYy (e53 true) r.jobs), .int .i64 r.late, .int .i64 r.obj, .int .i64 r.causes, .lst true r.ex.length (zYy e58 r.ex)], .row 4 1 (zYy eBool r1)], 0⟩) I1 μ1 0 (List.replicate ((r.sv.length : Nat) : Int).toNat (false : Bool)) (St.to_mk (φ := [some 0, some 1]) rfl (rfl) ⟨Ren.ptr rfl, Ren.refL rfl (fun h => h) (by simp), Ren.int _ _, trivial⟩ ⟨.inr ⟨_, rfl, rfl, Rens.cons (Ren.lst _ _ _) (Rens.cons (Ren.lst _ _ _) (Rens.cons (Ren.int _ _) (Rens.cons (Ren.int _ _) (Rens.cons (Ren.int _ _) (Rens.cons (Ren.lst _ _ _) (Rens.nil))))))⟩, .inr ⟨_, rfl, rfl, rfl, rfl, Rens.enc encBool false (List.replicate ((r.sv.length : Nat) : Int).toNat (false : Bool))⟩, trivial⟩) hp ?_
 clear hp
 intro v4 r1 hI
 replace hv := hv v4 r1 hI
 clear hI
 refine W.seq' (W.rL (mI rfl rfl (cL rfl (o_fa tt26 rfl tt23 rfl (cL rfl (zZx (v := .lst _ _ _) tt23 rfl rfl ⟨_, rfl⟩ (cL rfl (o_fa tt26 rfl tt3 rfl (cL rfl (zZx (v := .int _ _) tt3 rfl rfl ⟨_, rfl⟩ ?_))))))))))
 obtain ⟨s48, hv⟩ := hv
 refine cL rfl (zYu tt23 tt53 rfl rfl (enc53.wd true) rfl s48 ?_)
 intro rest48
 refine cL rfl (o_faP tt53 rfl tt51 rfl (cL rfl (zZx (v := .lst _ _ _) tt51 rfl rfl ⟨_, rfl⟩ (cL rfl (zXw (v := .lst _ _ _) tt51 rfl rfl (cL rfl (zYq rfl rfl (eL (W.cn rfl (fun hc => ?_) (fun hc => ?_))))))))))
 have hv := hv.1 hc
 refine W.skip (zZ (W.seq' (W.block (W.rL1 (cL rfl (zZp (v := .ref _ _ _) rfl (cL rfl (o_fa tt26 rfl tt23 rfl (cL rfl (zZx (v := .lst _ _ _) tt23 rfl rfl ⟨_, rfl⟩ (cL rfl (o_fa tt26 rfl tt3 rfl (cL rfl (zZx (v := .int _ _) tt3 rfl rfl ⟨_, rfl⟩ ?_))))))))))))))
 obtain ⟨s52, hv⟩ := hv
 refine cL rfl (zYu tt23 tt53 rfl rfl (enc53.wd true) rfl s52 ?_)
 intro rest52
 refine cL rfl (o_faP tt53 rfl tt51 rfl (cL rfl (zZx (v := .lst _ _ _) tt51 rfl rfl ⟨_, rfl⟩ (mI rfl rfl ?_))))
 obtain ⟨s53, hv⟩ := hv
 refine cL rfl (zYu tt51 tt60 rfl rfl (enc60.wd true) rfl s53 ?_)
 intro rest53
 refine cL rfl (o_faP tt60 rfl tt3 rfl (cL rfl (zZx (v := .int _ _) tt3 rfl rfl ⟨_, rfl⟩ ?_)))
 obtain ⟨s54, hv⟩ := hv
 refine cL rfl (o_iaR tt55 tt4 rfl rfl s54 (cLn (o_stR (v := .bool _) tt4 rfl rfl rfl rfl rfl (row_in (xs := r1) (encBool.wd false) s54 rfl) (row_set (e := eBool) (encBool.wd false) _ _ true rfl s54.1 s54.2) (eL (zYv (zZ (W.tr [(1, .ptr _ _), (3, .ref _ _ _), (4, .int _ _)] [.box _ [.lst _ _ _, .lst _ _ _, .int _ _, .int _ _, .int _ _, .lst _ _ _], .row _ _ _] ⟨rfl, rfl, rfl, trivial⟩ rfl (W.rL1 (mI rfl rfl ?_)))))))))
 obtain ⟨s55, hv⟩ := hv
 refine cL rfl (o_add rfl rfl s55 (aI rfl rfl (eL (zZ (⟨(), (v4 + 1), (r1.set ((lat ((lat r.jobs r.late).wk) v4).st).toNat true), hv, St.to_mk (φ := [some 0, some 1]) rfl (rfl) ⟨Ren.ptr rfl, Ren.refL rfl (fun h => h) (by simp), Ren.int _ _, trivial⟩ ⟨.inr ⟨_, rfl, rfl, Rens.cons (Ren.lst _ _ _) (Rens.cons (Ren.lst _ _ _) (Rens.cons (Ren.int _ _) (Rens.cons (Ren.int _ _) (Rens.cons (Ren.int _ _) (Rens.cons (Ren.lst _ _ _) (Rens.nil))))))⟩, .inr ⟨_, rfl, rfl, rfl, rfl, Rens.enc encBool false (r1.set ((lat ((lat r.jobs r.late).wk) v4).st).toNat true)⟩, trivial⟩⟩)))))
 have hv := hv.2 hc
 refine W.exit (zZt (zZt (zYs (zZ (W.seq' (W.rL (aI rfl rfl (eL (W.block ?_)))))))))
 obtain ⟨I2, μ2, hp, hv⟩ := hv
 refine W.loop2 (fun v5 r1_1 => ⟨107, look [(1, .ptr 0 0), (3, .ref false 1 r1_1.length), (5, .int .i64 v5)], [.box 26 [.lst true r.sv.length (zYy zYx r.sv), .lst true r.jobs.length (zYy (e53 true) r.jobs), .int .i64 r.late, .int .i64 r.obj, .int .i64 r.causes, .lst true r.ex.length (zYy e58 r.ex)], .row 4 1 (zYy eBool r1_1)], 0⟩) I2 μ2 0 r1 (St.to_mk (φ := [some 0, some 1]) rfl (rfl) ⟨Ren.ptr rfl, Ren.ref rfl (fun h => h), Ren.int _ _, trivial⟩ ⟨.inr ⟨_, rfl, rfl, Rens.cons (Ren.lst _ _ _) (Rens.cons (Ren.lst _ _ _) (Rens.cons (Ren.int _ _) (Rens.cons (Ren.int _ _) (Rens.cons (Ren.int _ _) (Rens.cons (Ren.lst _ _ _) (Rens.nil))))))⟩, .inr ⟨_, rfl, rfl, rfl, rfl, Rens.enc encBool false r1⟩, trivial⟩) hp ?_
 clear hp
 intro v5 r1_1 hI
 replace hv := hv v5 r1_1 hI
 clear hI
 refine W.seq' (W.rL (mI rfl rfl (cL rfl (o_fa tt26 rfl tt22 rfl (cL rfl (zZx (v := .lst _ _ _) tt22 rfl rfl ⟨_, rfl⟩ (cL rfl (zXw (v := .lst _ _ _) tt22 rfl rfl (cL rfl (zYq rfl rfl (eL (W.cn rfl (fun hc => ?_) (fun hc => ?_)))))))))))))
 have hv := hv.1 hc
 refine W.skip (zZ (W.seq' (W.block (W.rL (aI rfl rfl (eL (W.block ?_)))))))
 obtain ⟨I3, μ3, hp, hv⟩ := hv
 refine W.loop2 (fun v6 r1_2 => ⟨107, look [(1, .ptr 0 0), (3, .ref false 1 r1_2.length), (5, .int .i64 v5), (6, .int .i64 v6)], [.box 26 [.lst true r.sv.length (zYy zYx r.sv), .lst true r.jobs.length (zYy (e53 true) r.jobs), .int .i64 r.late, .int .i64 r.obj, .int .i64 r.causes, .lst true r.ex.length (zYy e58 r.ex)], .row 4 1 (zYy eBool r1_2)], 0⟩) I3 μ3 0 r1_1 (St.to_mk (φ := [some 0, some 1]) rfl (rfl) ⟨Ren.ptr rfl, Ren.ref rfl (fun h => h), Ren.int _ _, Ren.int _ _, trivial⟩ ⟨.inr ⟨_, rfl, rfl, Rens.cons (Ren.lst _ _ _) (Rens.cons (Ren.lst _ _ _) (Rens.cons (Ren.int _ _) (Rens.cons (Ren.int _ _) (Rens.cons (Ren.int _ _) (Rens.cons (Ren.lst _ _ _) (Rens.nil))))))⟩, .inr ⟨_, rfl, rfl, rfl, rfl, Rens.enc encBool false r1_1⟩, trivial⟩) hp ?_
 clear hp
 intro v6 r1_2 hI
 replace hv := hv v6 r1_2 hI
 clear hI
 refine W.seq' (W.rL (mI rfl rfl (cL rfl (o_fa tt26 rfl tt23 rfl (cL rfl (zZx (v := .lst _ _ _) tt23 rfl rfl ⟨_, rfl⟩ (cL rfl (zXw (v := .lst _ _ _) tt23 rfl rfl (cL rfl (zYq rfl rfl (eL (W.cn rfl (fun hc => ?_) (fun hc => ?_)))))))))))))
 have hv := hv.1 hc
 refine W.skip (zZ (W.seq' (W.block (W.rL (aB rfl rfl (eL (W.seq' (W.rL (aI rfl rfl (eL (W.block ?_)))))))))))
 obtain ⟨I4, μ4, hp, hv⟩ := hv
 refine W.loop2 (fun v7 v8 => ⟨107, look [(1, .ptr 0 0), (3, .ref false 1 r1_2.length), (5, .int .i64 v5), (6, .int .i64 v6), (7, .bool v7), (8, .int .i64 v8)], [.box 26 [.lst true r.sv.length (zYy zYx r.sv), .lst true r.jobs.length (zYy (e53 true) r.jobs), .int .i64 r.late, .int .i64 r.obj, .int .i64 r.causes, .lst true r.ex.length (zYy e58 r.ex)], .row 4 1 (zYy eBool r1_2)], 0⟩) I4 μ4 false 0 (St.to_mk (φ := [some 0, some 1]) rfl (rfl) ⟨Ren.ptr rfl, Ren.ref rfl (fun h => h), Ren.int _ _, Ren.int _ _, Ren.bool _, Ren.int _ _, trivial⟩ ⟨.inr ⟨_, rfl, rfl, Rens.cons (Ren.lst _ _ _) (Rens.cons (Ren.lst _ _ _) (Rens.cons (Ren.int _ _) (Rens.cons (Ren.int _ _) (Rens.cons (Ren.int _ _) (Rens.cons (Ren.lst _ _ _) (Rens.nil))))))⟩, .inr ⟨_, rfl, rfl, rfl, rfl, Rens.enc encBool false r1_2⟩, trivial⟩) hp ?_
 clear hp
 intro v7 v8 hI
 replace hv := hv v7 v8 hI
 clear hI
 refine W.seq' (W.rL (mI rfl rfl (cL rfl (o_fa tt26 rfl tt23 rfl (cL rfl (zZx (v := .lst _ _ _) tt23 rfl rfl ⟨_, rfl⟩ (mI rfl rfl ?_)))))))
 obtain ⟨s6745, hv⟩ := hv
 refine cL rfl (zYu tt23 tt53 rfl rfl (enc53.wd true) rfl s6745 ?_)
 intro rest6745
 refine cL rfl (o_faP tt53 rfl tt51 rfl (cL rfl (zZx (v := .lst _ _ _) tt51 rfl rfl ⟨_, rfl⟩ (cL rfl (zXw (v := .lst _ _ _) tt51 rfl rfl (cL rfl (zYq rfl rfl (eL (W.cn rfl (fun hc => ?_) (fun hc => ?_))))))))))
 have hv := hv.1 hc
 refine W.skip (zZ (W.seq' (W.block ?_)))
 obtain ⟨sd, hv⟩ := hv
 refine W.rLm1 ⟨107, look [(1, .ptr 0 0), (3, .ref false 1 r1_2.length), (5, .int .i64 v5), (6, .int .i64 v6), (7, .bool (decide ((v7 = true) \/ ((lat r1_2 ((lat ((lat r.jobs v6).wk) v8).st)) = true)))), (8, .int .i64 v8)], [.box 26 [.lst true r.sv.length (zYy zYx r.sv), .lst true r.jobs.length (zYy (e53 true) r.jobs), .int .i64 r.late, .int .i64 r.obj, .int .i64 r.causes, .lst true r.ex.length (zYy e58 r.ex)], .row 4 1 (zYy eBool r1_2)], 0⟩ (fun s hl h => W.le hl h) ?_ ?_
 iterate 2 refine mB rfl rfl ?_
 by_cases c1 : v7 = true
 iterate 13 refine cLs rfl rfl rfl (c1) ?_
 refine cL rfl (zZv (v := .bool _) rfl c1 rfl (aB rfl rfl (eL (zYz ⟨rfl, rfl, rfl, rfl, (congrArg AV.bool (dOrT c1)).symm, rfl, trivial⟩ rfl))))
 have sd := sd.2 c1
 refine cLg rfl rfl ((Bool.eq_false_iff.2 c1)) (cL rfl (zZp (v := .ref _ _ _) rfl (cLg rfl rfl ((Bool.eq_false_iff.2 c1)) (cL rfl (o_fa tt26 rfl tt23 rfl (cLg rfl rfl ((Bool.eq_false_iff.2 c1)) (cL rfl (zZx (v := .lst _ _ _) tt23 rfl rfl ⟨_, rfl⟩ (cLg rfl rfl ((Bool.eq_false_iff.2 c1)) (mI rfl rfl (cLg rfl rfl ((Bool.eq_false_iff.2 c1)) ?_)))))))))))
 obtain ⟨s6755, sd⟩ := sd
 refine cL rfl (zYu tt23 tt53 rfl rfl (enc53.wd true) rfl s6755 ?_)
 intro rest6755
 refine cLg rfl rfl ((Bool.eq_false_iff.2 c1)) (cL rfl (o_faP tt53 rfl tt51 rfl (cLg rfl rfl ((Bool.eq_false_iff.2 c1)) (cL rfl (zZx (v := .lst _ _ _) tt51 rfl rfl ⟨_, rfl⟩ (cLg rfl rfl ((Bool.eq_false_iff.2 c1)) (mI rfl rfl (cLg rfl rfl ((Bool.eq_false_iff.2 c1)) ?_))))))))
 obtain ⟨s6756, sd⟩ := sd
 refine cL rfl (zYu tt51 tt60 rfl rfl (enc60.wd true) rfl s6756 ?_)
 intro rest6756
 refine cLg rfl rfl ((Bool.eq_false_iff.2 c1)) (cL rfl (o_faP tt60 rfl tt3 rfl (cLg rfl rfl ((Bool.eq_false_iff.2 c1)) (cL rfl (zZx (v := .int _ _) tt3 rfl rfl ⟨_, rfl⟩ (cLg rfl rfl ((Bool.eq_false_iff.2 c1)) ?_))))))
 obtain ⟨s6757, sd⟩ := sd
 refine cL rfl (o_iaR tt55 tt4 rfl rfl s6757 (cLg rfl rfl ((Bool.eq_false_iff.2 c1)) (cL rfl (zZx (v := .bool _) tt4 rfl rfl (cell_of (ca_row (xs := r1_2) rfl (encBool.wd false) s6757) rfl) (cL rfl (zZy (v := .bool _) rfl (Bool.eq_false_iff.2 c1) rfl (aB rfl rfl (eL (zYz ⟨rfl, rfl, rfl, rfl, (congrArg AV.bool (dOrF c1 (dVar _))).symm, rfl, trivial⟩ rfl)))))))))
 refine zYv (zZ (W.rL1 (mI rfl rfl ?_)))
 obtain ⟨s6758, hv⟩ := hv
 refine cL rfl (o_add rfl rfl s6758 (aI rfl rfl (eL (zZ (⟨(), (decide ((v7 = true) \/ ((lat r1_2 ((lat ((lat r.jobs v6).wk) v8).st)) = true))), (v8 + 1), hv, St.to_mk (φ := [some 0, some 1]) rfl (rfl) ⟨Ren.ptr rfl, Ren.ref rfl (fun h => h), Ren.int _ _, Ren.int _ _, Ren.bool _, Ren.int _ _, trivial⟩ ⟨.inr ⟨_, rfl, rfl, Rens.cons (Ren.lst _ _ _) (Rens.cons (Ren.lst _ _ _) (Rens.cons (Ren.int _ _) (Rens.cons (Ren.int _ _) (Rens.cons (Ren.int _ _) (Rens.cons (Ren.lst _ _ _) (Rens.nil))))))⟩, .inr ⟨_, rfl, rfl, rfl, rfl, Rens.enc encBool false r1_2⟩, trivial⟩⟩)))))
 have hv := hv.2 hc
 refine W.exit (zZt (zZt (zYs (zZ (W.rL (aI rfl rfl (eL (W.block ?_))))))))
 obtain ⟨I5, μ5, hp, hv⟩ := hv
 refine W.loop2 (fun v9 r1_3 => ⟨107, look [(1, .ptr 0 0), (3, .ref false 1 r1_3.length), (5, .int .i64 v5), (6, .int .i64 v6), (7, .bool v7), (9, .int .i64 v9)], [.box 26 [.lst true r.sv.length (zYy zYx r.sv), .lst true r.jobs.length (zYy (e53 true) r.jobs), .int .i64 r.late, .int .i64 r.obj, .int .i64 r.causes, .lst true r.ex.length (zYy e58 r.ex)], .row 4 1 (zYy eBool r1_3)], 0⟩) I5 μ5 0 r1_2 (St.to_mk (φ := [some 0, some 1]) rfl (rfl) ⟨Ren.ptr rfl, Ren.ref rfl (fun h => h), Ren.int _ _, Ren.int _ _, Ren.bool _, Ren.int _ _, trivial⟩ ⟨.inr ⟨_, rfl, rfl, Rens.cons (Ren.lst _ _ _) (Rens.cons (Ren.lst _ _ _) (Rens.cons (Ren.int _ _) (Rens.cons (Ren.int _ _) (Rens.cons (Ren.int _ _) (Rens.cons (Ren.lst _ _ _) (Rens.nil))))))⟩, .inr ⟨_, rfl, rfl, rfl, rfl, Rens.enc encBool false r1_2⟩, trivial⟩) hp ?_
 clear hp
 intro v9 r1_3 hI
 replace hv := hv v9 r1_3 hI
 clear hI
 refine W.seq' ?_
 obtain ⟨sd, hv⟩ := hv
 refine W.rLm ⟨107, look [(1, .ptr 0 0), (3, .ref false 1 r1_3.length), (5, .int .i64 v5), (6, .int .i64 v6), (7, .bool v7), (9, .int .i64 v9), (91, .bool (decide ((v9 < ((((lat r.jobs v6).wk).length : Nat) : Int)) /\ (v7 = true))))], [.box 26 [.lst true r.sv.length (zYy zYx r.sv), .lst true r.jobs.length (zYy (e53 true) r.jobs), .int .i64 r.late, .int .i64 r.obj, .int .i64 r.causes, .lst true r.ex.length (zYy e58 r.ex)], .row 4 1 (zYy eBool r1_3)], 0⟩ ?_ ?_
 refine mI rfl rfl (cL rfl (o_fa tt26 rfl tt23 rfl (cL rfl (zZx (v := .lst _ _ _) tt23 rfl rfl ⟨_, rfl⟩ (mI rfl rfl ?_)))))
 obtain ⟨s6784, sd⟩ := sd
 refine cL rfl (zYu tt23 tt53 rfl rfl (enc53.wd true) rfl s6784 ?_)
 intro rest6784
 refine cL rfl (o_faP tt53 rfl tt51 rfl (cL rfl (zZx (v := .lst _ _ _) tt51 rfl rfl ⟨_, rfl⟩ (cL rfl (zXw (v := .lst _ _ _) tt51 rfl rfl (cL rfl (zYq rfl rfl (mB rfl rfl ?_))))))))
 by_cases c1 : v9 < ((((lat r.jobs v6).wk).length : Nat) : Int)
 refine cLg rfl rfl (dT c1) (mB rfl rfl (cL rfl (zZv (v := .bool _) rfl (dT c1) rfl (eL (zYz ⟨rfl, rfl, rfl, rfl, rfl, rfl, (congrArg AV.bool (zXv c1 (dVar _))).symm, trivial⟩ rfl)))))
 refine cLs rfl rfl rfl (dF c1) (cL rfl (zZy (v := .bool _) rfl (dF c1) rfl (eL (zYz ⟨rfl, rfl, rfl, rfl, rfl, rfl, (congrArg AV.bool (dAndF c1)).symm, trivial⟩ rfl))))
 refine W.cn rfl (fun hc => ?_) (fun hc => ?_)
 have hv := hv.1 hc
 refine W.skip (zZ (W.seq' (W.block (W.rL1 (cL rfl (zZp (v := .ref _ _ _) rfl (cL rfl (o_fa tt26 rfl tt23 rfl (cL rfl (zZx (v := .lst _ _ _) tt23 rfl rfl ⟨_, rfl⟩ (mI rfl rfl ?_)))))))))))
 obtain ⟨s6788, hv⟩ := hv
 refine cL rfl (zYu tt23 tt53 rfl rfl (enc53.wd true) rfl s6788 ?_)
 intro rest6788
 refine cL rfl (o_faP tt53 rfl tt51 rfl (cL rfl (zZx (v := .lst _ _ _) tt51 rfl rfl ⟨_, rfl⟩ (mI rfl rfl ?_))))
 obtain ⟨s6789, hv⟩ := hv
 refine cL rfl (zYu tt51 tt60 rfl rfl (enc60.wd true) rfl s6789 ?_)
 intro rest6789
 refine cL rfl (o_faP tt60 rfl tt3 rfl (cL rfl (zZx (v := .int _ _) tt3 rfl rfl ⟨_, rfl⟩ ?_)))
 obtain ⟨s6790, hv⟩ := hv
 refine cL rfl (o_iaR tt55 tt4 rfl rfl s6790 (cLn (o_stR (v := .bool _) tt4 rfl rfl rfl rfl rfl (row_in (xs := r1_3) (encBool.wd false) s6790 rfl) (row_set (e := eBool) (encBool.wd false) _ _ true rfl s6790.1 s6790.2) (eL (zYv (zZ (W.tr [(1, .ptr _ _), (3, .ref _ _ _), (5, .int _ _), (6, .int _ _), (7, .bool _), (9, .int _ _)] [.box _ [.lst _ _ _, .lst _ _ _, .int _ _, .int _ _, .int _ _, .lst _ _ _], .row _ _ _] ⟨rfl, rfl, rfl, rfl, rfl, rfl, trivial⟩ rfl (W.rL1 (mI rfl rfl ?_)))))))))
 obtain ⟨s6791, hv⟩ := hv
 refine cL rfl (o_add rfl rfl s6791 (aI rfl rfl (eL (zZ (⟨(), (v9 + 1), (r1_3.set ((lat ((lat r.jobs v6).wk) v9).st).toNat true), hv, St.to_mk (φ := [some 0, some 1]) rfl (rfl) ⟨Ren.ptr rfl, Ren.refL rfl (fun h => h) (by simp), Ren.int _ _, Ren.int _ _, Ren.bool _, Ren.int _ _, trivial⟩ ⟨.inr ⟨_, rfl, rfl, Rens.cons (Ren.lst _ _ _) (Rens.cons (Ren.lst _ _ _) (Rens.cons (Ren.int _ _) (Rens.cons (Ren.int _ _) (Rens.cons (Ren.int _ _) (Rens.cons (Ren.lst _ _ _) (Rens.nil))))))⟩, .inr ⟨_, rfl, rfl, rfl, rfl, Rens.enc encBool false (r1_3.set ((lat ((lat r.jobs v6).wk) v9).st).toNat true)⟩, trivial⟩⟩)))))
 have hv := hv.2 hc
 refine W.exit (zZt (zZt (zYs (zYv (zZ (W.rL1 (mI rfl rfl ?_)))))))
 obtain ⟨s6792, hv⟩ := hv
 refine cL rfl (o_add rfl rfl s6792 (aI rfl rfl (eL (zZ (⟨(), (v6 + 1), r1_3, hv, St.to_mk (φ := [some 0, some 1]) rfl (rfl) ⟨Ren.ptr rfl, Ren.ref rfl (fun h => h), Ren.int _ _, Ren.int _ _, trivial⟩ ⟨.inr ⟨_, rfl, rfl, Rens.cons (Ren.lst _ _ _) (Rens.cons (Ren.lst _ _ _) (Rens.cons (Ren.int _ _) (Rens.cons (Ren.int _ _) (Rens.cons (Ren.int _ _) (Rens.cons (Ren.lst _ _ _) (Rens.nil))))))⟩, .inr ⟨_, rfl, rfl, rfl, rfl, Rens.enc encBool false r1_3⟩, trivial⟩⟩)))))
 have hv := hv.2 hc
 refine W.exit (zZt (zZt (zYs (zYv (zZ (W.rL1 (mI rfl rfl ?_)))))))
 obtain ⟨s6793, hv⟩ := hv
 refine cL rfl (o_add rfl rfl s6793 (aI rfl rfl (eL (zZ (⟨(), (v5 + 1), r1_2, hv, St.to_mk (φ := [some 0, some 1]) rfl (rfl) ⟨Ren.ptr rfl, Ren.ref rfl (fun h => h), Ren.int _ _, trivial⟩ ⟨.inr ⟨_, rfl, rfl, Rens.cons (Ren.lst _ _ _) (Rens.cons (Ren.lst _ _ _) (Rens.cons (Ren.int _ _) (Rens.cons (Ren.int _ _) (Rens.cons (Ren.int _ _) (Rens.cons (Ren.lst _ _ _) (Rens.nil))))))⟩, .inr ⟨_, rfl, rfl, rfl, rfl, Rens.enc encBool false r1_2⟩, trivial⟩⟩)))))
 have hv := hv.2 hc
 refine W.exit (zZt (zZt (zYs (zZ (W.rL (cL rfl (zZp (v := .ref _ _ _) rfl (cL rfl (zZq (v := .ref _ _ _) rfl (eL (W.tr [(2, .ref _ _ _)] [.box _ [.lst _ _ _, .lst _ _ _, .int _ _, .int _ _, .int _ _, .lst _ _ _], .row _ _ _] ⟨rfl, trivial⟩ rfl (W.ret (rt (rt_t (v := .ref _ _ _) rfl (rt_n (⟨_, rs_ref encBool 4 _ rfl rfl, r1_1, rfl, hv⟩))))))))))))))))
set_option maxHeartbeats 2000000 in
theorem vcp_joined (r : Req) (h0 : validR r = true) : vc_joined r (fun q0 => q0 = (joinedM r)) := by
  have hv := (validR_iff r).1 h0
  have hj := job_ok hv.j
  have hst : ∀ q : Int, 0 <= q /\ q < r.jobs.length -> ∀ i : Int, 0 <= i /\ i < (lat r.jobs q).wk.length -> 0 <= (lat (lat r.jobs q).wk i).st /\ (lat (lat r.jobs q).wk i).st < r.sv.length := fun q hq i hi => by
    have := (hj.2.2 _ (lat_mem hq)).2 _ (lat_mem hi)
    omega
  have hwl : ∀ q : Int, 0 <= q /\ q < r.jobs.length -> (lat r.jobs q).wk.length <= 6 := fun q hq => (hj.2.2 _ (lat_mem hq)).1.2.2
  have w0 := hwl _ hv.late
  refine ⟨by omega, fun v o => 0 <= v /\ o = mark (List.replicate r.sv.length false) ((lat r.jobs r.late).wk.take v.toNat), fun v _ => (lat r.jobs r.late).wk.length - v.toNat, ⟨by omega, by rw [Int.toNat_natCast]; rfl⟩, ?_⟩
  rintro v4 r1 ⟨i4, rfl⟩
  have l4 : (mark (List.replicate r.sv.length false) ((lat r.jobs r.late).wk.take v4.toNat)).length = r.sv.length := by rw [<- (mark_le _ _).len, List.length_replicate]
  refine ⟨hv.late, fun k => ?_, fun k => ?_⟩
  . have e := mark_take (o := List.replicate r.sv.length false) (wk := (lat r.jobs r.late).wk) (i := v4.toNat) (by omega)
    rw [show ((v4.toNat : Nat) : Int) = v4 by omega] at e
    have st := hst _ hv.late v4 ⟨i4, k⟩
    exact ⟨hv.late, ⟨i4, k⟩, ⟨st.1, by rw [l4]; exact st.2⟩, inI_small (by omega), ⟨by omega, by rw [show (v4 + 1).toNat = v4.toNat + 1 by omega, e]⟩, by dsimp only; omega⟩
  rw [List.take_of_length_le (by omega)]
  refine ⟨fun v o => 0 <= v /\ v <= r.sv.length /\ o = rounds r.jobs (mark (List.replicate r.sv.length false) (lat r.jobs r.late).wk) v.toNat, fun v _ => r.sv.length - v.toNat, ⟨by omega, by omega, rfl⟩, ?_⟩
  rintro v5 o5 ⟨i5, j5, e5⟩
  have l5 : o5.length = r.sv.length := by rw [e5, <- (rounds_le _ _ _).len, <- (mark_le _ _).len, List.length_replicate]
  refine ⟨fun k5 => ?_, fun k5 => ?_⟩
  . refine ⟨fun v o => 0 <= v /\ o = (r.jobs.take v.toNat).foldl joinStep o5, fun v _ => r.jobs.length - v.toNat, ⟨by omega, rfl⟩, ?_⟩
    rintro v6 o6 ⟨i6, e6⟩
    have l6 : o6.length = r.sv.length := by rw [e6, <- l5]; exact (joinRound_le _ _).len.symm
    refine ⟨fun k6 => ?_, fun k6 => ?_⟩
    . have b6 : 0 <= v6 /\ v6 < (r.jobs.length : Int) := ⟨i6, k6⟩
      have w6 := hwl v6 b6
      refine ⟨fun t v => 0 <= v /\ t = touch o6 ((lat r.jobs v6).wk.take v.toNat), fun _ v => (lat r.jobs v6).wk.length - v.toNat, ⟨by omega, rfl⟩, ?_⟩
      rintro v7 v8 ⟨i8, e7⟩
      refine ⟨b6, fun k8 => ⟨⟨fun _ => trivial, fun _ => ⟨b6, ⟨i8, k8⟩, ⟨(hst v6 b6 v8 ⟨i8, k8⟩).1, by rw [l6]; exact (hst v6 b6 v8 ⟨i8, k8⟩).2⟩, trivial⟩⟩, inI_small (by omega), ⟨by omega, ?_⟩, by dsimp only; omega⟩, fun k8 => ?_⟩
      . have e := touch_take (o := o6) (wk := (lat r.jobs v6).wk) (i := v8.toNat) (by omega)
        rw [show ((v8.toNat : Nat) : Int) = v8 by omega] at e
        rw [show (v8 + 1).toNat = v8.toNat + 1 by omega, e, <- e7]
        cases v7 <;> cases lat o6 (lat (lat r.jobs v6).wk v8).st <;> rfl
      . rw [List.take_of_length_le (by omega)] at e7
        refine ⟨fun v o => 0 <= v /\ o = (if v7 = true then mark o6 ((lat r.jobs v6).wk.take v.toNat) else o6), fun v _ => (lat r.jobs v6).wk.length - v.toNat, ⟨by omega, by split <;> rfl⟩, ?_⟩
        rintro v9 o9 ⟨i9, e9⟩
        have l9 : o9.length = r.sv.length := by
          rw [e9]
          split
          . rw [<- (mark_le _ _).len, l6]
          . exact l6
        refine ⟨⟨b6, trivial⟩, fun k9 => ⟨b6, ⟨i9, k9.1⟩, ⟨(hst v6 b6 v9 ⟨i9, k9.1⟩).1, by rw [l9]; exact (hst v6 b6 v9 ⟨i9, k9.1⟩).2⟩, inI_small (by omega), ⟨by omega, ?_⟩, by have := k9.1; dsimp only; omega⟩, fun k9 => ⟨inI_small (by omega), ⟨by omega, ?_⟩, by dsimp only; omega⟩⟩
        . have k91 := k9.1
          have e := mark_take (o := o6) (wk := (lat r.jobs v6).wk) (i := v9.toNat) (by omega)
          rw [show ((v9.toNat : Nat) : Int) = v9 by omega] at e
          rw [if_pos k9.2] at e9 ⊢
          rw [show (v9 + 1).toNat = v9.toNat + 1 by omega, e, e9]
        . have e := joinRound_take (o := o5) (jobs := r.jobs) (i := v6.toNat) (by omega)
          rw [show ((v6.toNat : Nat) : Int) = v6 by omega, <- e6] at e
          rw [show (v6 + 1).toNat = v6.toNat + 1 by omega, e, e9]
          unfold joinStep
          rw [<- e7]
          by_cases h7 : v7 = true
          . rw [if_pos h7, if_pos h7, List.take_of_length_le]
            have k10 : ¬ v9 < (((lat r.jobs v6).wk.length : Nat) : Int) := fun h => k9 ⟨h, h7⟩
            omega
          . rw [if_neg h7, if_neg h7]
    . refine ⟨inI_small (by omega), ⟨by omega, by omega, ?_⟩, by dsimp only; omega⟩
      rw [show (v5 + 1).toNat = v5.toNat + 1 by omega, rounds_succ, <- e5, e6, List.take_of_length_le (by omega)]
      rfl
  . rw [joinedM_eq, e5]
    congr 1
    omega
theorem spec_joined (r : Req) (h0 : validR r = true) : FnP Try.prog 27 [.agg ((e26 true) r)] (fun xR => xR = .lst false (joinedM r).length (zYy eBool (joinedM r))) :=
  (walk_joined (vcp_joined r h0)).mono (by rintro _ ⟨_, rfl, rfl⟩; rfl)
end Go.Lat
namespace Go.Lat
open Go.RowKit Go.Proofs
def vc_idle (c : Cas) (cause : Int) (Post : Bool -> Prop) : Prop :=
  (CasOk c) /\ (((madeC c false).causes = 0) -> Post true) /\ (¬ ((madeC c false).causes = 0) -> (1 <= ((madeC c false).causes)) /\ (inI cause) /\ (validR (madeC c false) = true) /\ ∃ (I1 : Bool -> Int -> List Int -> List Job -> Int -> Int -> Int -> List Ext -> Prop) (μ1 : Bool -> Int -> List Int -> List Job -> Int -> Int -> Int -> List Ext -> Nat), I1 true 0 ((madeC c false).sv) ((madeC c false).jobs) ((madeC c false).late) ((madeC c false).obj) ((madeC c false).causes) [] /\ ∀ (v10 : Bool) (v11 : Int) (b2sv : List Int) (b2jobs : List Job) (b2late : Int) (b2obj : Int) (b2causes : Int) (r3 : List Ext), I1 v10 v11 b2sv b2jobs b2late b2obj b2causes r3 -> ((v11 < ((((madeC c false).ex).length : Nat) : Int)) -> ∃ J2 : List Ext -> Bool -> Prop, (∀ (r6 : List Ext) (v10_1 : Bool), J2 r6 v10_1 -> (inI (v11 + 1)) /\ (I1 v10_1 (v11 + 1) b2sv b2jobs b2late b2obj b2causes r6 /\ μ1 v10_1 (v11 + 1) b2sv b2jobs b2late b2obj b2causes r6 < μ1 v10 v11 b2sv b2jobs b2late b2obj b2causes r3)) /\ ((0 <= v11 /\ v11 < (((madeC c false).ex).length : Int)) /\ ∃ J3 : Ext -> Bool -> Prop, (∀ (b4 : Ext) (v10_1 : Bool), J3 b4 v10_1 -> ((r3 ++ [b4]).length <= 1073741824) /\ J2 (r3 ++ [b4]) v10_1) /\ ((((lat ((madeC c false).ex) v11).ca = pickM cause ((madeC c false).causes)) -> ∃ (I4 : Bool -> Int -> Prop) (μ4 : Bool -> Int -> Nat), I4 (decide ((v10 = true) /\ (¬ (lat ((madeC c false).ex) v11).jb = (madeC c false).late))) 0 /\ ∀ (v10_1 : Bool) (v13 : Int), I4 v10_1 v13 -> (0 <= ((lat ((madeC c false).ex) v11).jb) /\ ((lat ((madeC c false).ex) v11).jb) < (((madeC c false).jobs).length : Int)) /\ ((v13 < ((((lat ((madeC c false).jobs) ((lat ((madeC c false).ex) v11).jb)).wk).length : Nat) : Int)) -> (((v10_1 = true) -> (0 <= ((lat ((madeC c false).ex) v11).jb) /\ ((lat ((madeC c false).ex) v11).jb) < (((madeC c false).jobs).length : Int)) /\ (0 <= v13 /\ v13 < (((lat ((madeC c false).jobs) ((lat ((madeC c false).ex) v11).jb)).wk).length : Int)) /\ (0 <= ((lat ((lat ((madeC c false).jobs) ((lat ((madeC c false).ex) v11).jb)).wk) v13).st) /\ ((lat ((lat ((madeC c false).jobs) ((lat ((madeC c false).ex) v11).jb)).wk) v13).st) < ((joinedM (madeC c false)).length : Int)) /\ True) /\ (¬ (v10_1 = true) -> True)) /\ ((inI (v13 + 1)) /\ (I4 (decide ((v10_1 = true) /\ (¬ ((lat (joinedM (madeC c false)) ((lat ((lat ((madeC c false).jobs) ((lat ((madeC c false).ex) v11).jb)).wk) v13).st)) = true)))) (v13 + 1) /\ μ4 (decide ((v10_1 = true) /\ (¬ ((lat (joinedM (madeC c false)) ((lat ((lat ((madeC c false).jobs) ((lat ((madeC c false).ex) v11).jb)).wk) v13).st)) = true)))) (v13 + 1) < μ4 v10_1 v13))) /\ (¬ (v13 < ((((lat ((madeC c false).jobs) ((lat ((madeC c false).ex) v11).jb)).wk).length : Nat) : Int)) -> (((lat ((madeC c false).ex) v11).pc = (-1)) -> J2 r3 v10_1) /\ (¬ ((lat ((madeC c false).ex) v11).pc = (-1)) -> (0 <= ((lat ((madeC c false).ex) v11).jb) /\ ((lat ((madeC c false).ex) v11).jb) < (((madeC c false).jobs).length : Int)) /\ (0 <= ((lat ((madeC c false).ex) v11).pc) /\ ((lat ((madeC c false).ex) v11).pc) < (((lat ((madeC c false).jobs) ((lat ((madeC c false).ex) v11).jb)).wk).length : Int)) /\ J3 (Ext.mk ((lat ((madeC c false).ex) v11).jb) ((lat ((madeC c false).ex) v11).pc) ((lat ((madeC c false).ex) v11).ca) ((lat ((lat ((madeC c false).jobs) ((lat ((madeC c false).ex) v11).jb)).wk) ((lat ((madeC c false).ex) v11).pc)).tm) ((lat ((madeC c false).ex) v11).op) ((lat ((madeC c false).ex) v11).ver)) v10_1))) /\ (¬ ((lat ((madeC c false).ex) v11).ca = pickM cause ((madeC c false).causes)) -> J3 (lat ((madeC c false).ex) v11) v10)))) /\ (¬ (v11 < ((((madeC c false).ex).length : Nat) : Int)) -> ((madeC c false).sv.length <= 9223372036854775807) /\ (∀ j ∈ (madeC c false).jobs, j.wk.length <= 9223372036854775807) /\ ((madeC c false).jobs.length <= 9223372036854775807) /\ ((madeC c false).ex.length <= 9223372036854775807) /\ ((Req.mk b2sv b2jobs b2late b2obj b2causes r3).sv.length <= 9223372036854775807) /\ (∀ j ∈ (Req.mk b2sv b2jobs b2late b2obj b2causes r3).jobs, j.wk.length <= 9223372036854775807) /\ ((Req.mk b2sv b2jobs b2late b2obj b2causes r3).jobs.length <= 9223372036854775807) /\ ((Req.mk b2sv b2jobs b2late b2obj b2causes r3).ex.length <= 9223372036854775807) /\ (((¬ (valuesM (madeC c false)).2 = 0) -> True) /\ (¬ (¬ (valuesM (madeC c false)).2 = 0) -> ((¬ (valuesM (Req.mk b2sv b2jobs b2late b2obj b2causes r3)).2 = 0) -> True) /\ (¬ (¬ (valuesM (Req.mk b2sv b2jobs b2late b2obj b2causes r3)).2 = 0) -> (0 <= ((madeC c false).causes)) /\ (inI (1 * 2 ^ (min ((madeC c false).causes).toNat 64))) /\ True))) /\ ((((¬ (valuesM (madeC c false)).2 = 0) \/ ((¬ (valuesM (Req.mk b2sv b2jobs b2late b2obj b2causes r3)).2 = 0) \/ ((¬ ((((valuesM (madeC c false)).1).length : Nat) : Int) = 1 * 2 ^ (min ((madeC c false).causes).toNat 64)) \/ (¬ ((((valuesM (Req.mk b2sv b2jobs b2late b2obj b2causes r3)).1).length : Nat) : Int) = ((((valuesM (madeC c false)).1).length : Nat) : Int))))) -> Post false) /\ (¬ ((¬ (valuesM (madeC c false)).2 = 0) \/ ((¬ (valuesM (Req.mk b2sv b2jobs b2late b2obj b2causes r3)).2 = 0) \/ ((¬ ((((valuesM (madeC c false)).1).length : Nat) : Int) = 1 * 2 ^ (min ((madeC c false).causes).toNat 64)) \/ (¬ ((((valuesM (Req.mk b2sv b2jobs b2late b2obj b2causes r3)).1).length : Nat) : Int) = ((((valuesM (madeC c false)).1).length : Nat) : Int))))) -> ∃ (I5 : Int -> Prop) (μ5 : Int -> Nat), I5 0 /\ ∀ (v18 : Int), I5 v18 -> ((v18 < ((((valuesM (madeC c false)).1).length : Nat) : Int)) -> ∃ J6 : Prop, (J6 -> (inI (v18 + 1)) /\ (I5 (v18 + 1) /\ μ5 (v18 + 1) < μ5 v18)) /\ ((0 <= (pickM cause ((madeC c false).causes))) /\ ((bitI .and .i64 (v18.fdiv (2 ^ (min (pickM cause ((madeC c false).causes)).toNat 64))) (1 : Int) = 1) -> J6) /\ (¬ (bitI .and .i64 (v18.fdiv (2 ^ (min (pickM cause ((madeC c false).causes)).toNat 64))) (1 : Int) = 1) -> ((0 <= v18 /\ v18 < (((valuesM (Req.mk b2sv b2jobs b2late b2obj b2causes r3)).1).length : Int)) /\ (0 <= (pickM cause ((madeC c false).causes))) /\ (inI (1 * 2 ^ (min (pickM cause ((madeC c false).causes)).toNat 64))) /\ (inI (v18 + (1 * 2 ^ (min (pickM cause ((madeC c false).causes)).toNat 64)))) /\ (0 <= (v18 + (1 * 2 ^ (min (pickM cause ((madeC c false).causes)).toNat 64))) /\ (v18 + (1 * 2 ^ (min (pickM cause ((madeC c false).causes)).toNat 64))) < (((valuesM (Req.mk b2sv b2jobs b2late b2obj b2causes r3)).1).length : Int)) /\ ((¬ lat ((valuesM (Req.mk b2sv b2jobs b2late b2obj b2causes r3)).1) v18 = lat ((valuesM (Req.mk b2sv b2jobs b2late b2obj b2causes r3)).1) (v18 + (1 * 2 ^ (min (pickM cause ((madeC c false).causes)).toNat 64)))) -> True) /\ (¬ (¬ lat ((valuesM (Req.mk b2sv b2jobs b2late b2obj b2causes r3)).1) v18 = lat ((valuesM (Req.mk b2sv b2jobs b2late b2obj b2causes r3)).1) (v18 + (1 * 2 ^ (min (pickM cause ((madeC c false).causes)).toNat 64)))) -> ((v10 = true) -> (0 <= v18 /\ v18 < (((valuesM (madeC c false)).1).length : Int)) /\ (0 <= (pickM cause ((madeC c false).causes))) /\ (inI (1 * 2 ^ (min (pickM cause ((madeC c false).causes)).toNat 64))) /\ (inI (v18 + (1 * 2 ^ (min (pickM cause ((madeC c false).causes)).toNat 64)))) /\ (0 <= (v18 + (1 * 2 ^ (min (pickM cause ((madeC c false).causes)).toNat 64))) /\ (v18 + (1 * 2 ^ (min (pickM cause ((madeC c false).causes)).toNat 64))) < (((valuesM (madeC c false)).1).length : Int)) /\ True) /\ (¬ (v10 = true) -> True))) /\ ((((¬ lat ((valuesM (Req.mk b2sv b2jobs b2late b2obj b2causes r3)).1) v18 = lat ((valuesM (Req.mk b2sv b2jobs b2late b2obj b2causes r3)).1) (v18 + (1 * 2 ^ (min (pickM cause ((madeC c false).causes)).toNat 64)))) \/ ((v10 = true) /\ (¬ lat ((valuesM (madeC c false)).1) v18 = lat ((valuesM (madeC c false)).1) (v18 + (1 * 2 ^ (min (pickM cause ((madeC c false).causes)).toNat 64)))))) -> Post false) /\ (¬ ((¬ lat ((valuesM (Req.mk b2sv b2jobs b2late b2obj b2causes r3)).1) v18 = lat ((valuesM (Req.mk b2sv b2jobs b2late b2obj b2causes r3)).1) (v18 + (1 * 2 ^ (min (pickM cause ((madeC c false).causes)).toNat 64)))) \/ ((v10 = true) /\ (¬ lat ((valuesM (madeC c false)).1) v18 = lat ((valuesM (madeC c false)).1) (v18 + (1 * 2 ^ (min (pickM cause ((madeC c false).causes)).toNat 64)))))) -> J6))))) /\ (¬ (v18 < ((((valuesM (madeC c false)).1).length : Nat) : Int)) -> Post true)))))
theorem walk_idle {c : Cas} {cause : Int} {Post : Bool -> Prop} (hv : vc_idle c cause Post) : FnP Try.prog 5 [.agg ((e31 true) c), .int .i64 cause] (fun x => ∃ q0, x = .bool q0 /\ Post q0) := by
 refine FnP.of_walk (T := tt) (nt := 182) ttOk ttMix ⟨⟨Try.f5, Try.func5, rfl, rfl, rfl, rfl⟩⟩ (by simp) ?_
 unfold vc_idle at hv
 change W _ _ _ ⟨182, look [(0, .agg [.int .i64 c.sv.x0, .int .i64 c.sv.x1, .int .i64 c.sv.x2, .lst true c.jobs.length (zYy eV6 c.jobs), .lst true c.ex.length (zYy e27 c.ex), .int .i64 c.late, .int .i64 c.obj]), (1, .int .i64 cause)], [], 0⟩ _
 refine W.rL (cL rfl (o_box (v := .agg _) (p := 0) rfl rfl rfl (aB rfl rfl (eL (W.tr [(1, .int _ _), (2, .ptr _ _)] [.box _ [.int _ _, .int _ _, .int _ _, .lst _ _ _, .lst _ _ _, .int _ _, .int _ _]] ⟨rfl, rfl, trivial⟩ rfl (W.rL (cL rfl (zZu (k := 10) (fst := []) (caps := []) (ys := []) rfl rfl (spec_sane) (Wks.refl _) (aB rfl rfl (eL (W.rL (cL rfl (zYp (cs := [.int _ _, .int _ _, .int _ _, .lst _ _ _, .lst _ _ _, .int _ _, .int _ _]) tt31 rfl rfl ⟨_, rfl⟩ rfl ?_)))))))))))))
 obtain ⟨s1, hv⟩ := hv
 refine cL rfl (zZu (k := 12) (fst := []) (caps := []) (ys := [.agg _, .bool _]) rfl rfl (spec_made c false s1) (Wks.cons (zXx 5 _ (Wks.cons (zZz _ _ _ _) (Wks.cons (zZz _ _ _ _) (Wks.cons (zZz _ _ _ _) (Wks.cons (zZs _ _ _ _ _) (Wks.cons (zZs _ _ _ _ _) (Wks.cons (zZz _ _ _ _) (Wks.cons (zZz _ _ _ _) (Wks.refl _))))))))) (Wks.cons (ag_bool _ _ _) (Wks.refl _))) (cL rfl (zXy (p := 1) tt26 rfl rfl (cLn (o_stB (v := .agg _) (vs := [.lst _ _ _, .lst _ _ _, .int _ _, .int _ _, .int _ _, .lst _ _ _]) (cs2 := [.lst _ _ _, .lst _ _ _, .int _ _, .int _ _, .int _ _, .lst _ _ _]) tt26 rfl rfl rfl rfl rfl (Nat.le_of_ble_eq_true rfl) rfl (eL (W.tr [(1, .int _ _), (5, .bool _), (6, .ptr _ _)] [.box _ [.int _ _, .int _ _, .int _ _, .lst _ _ _, .lst _ _ _, .int _ _, .int _ _], .box _ [.lst _ _ _, .lst _ _ _, .int _ _, .int _ _, .int _ _, .lst _ _ _]] ⟨rfl, rfl, rfl, trivial⟩ rfl (W.seq' (W.rL (cL rfl (o_fa tt26 rfl tt3 rfl (cL rfl (zZx (v := .int _ _) tt3 rfl rfl ⟨_, rfl⟩ (cL rfl (o_eqI rfl rfl rfl (eL (W.cn rfl (fun hc => ?_) (fun hc => ?_))))))))))))))))))
 have hv := hv.1 hc
 refine W.rL (mB rfl rfl (aB rfl rfl (eL (W.ret (zZr (rt (rt_t (v := .bool _) rfl (rt_n (⟨_, zYr _ _ _, true, rfl, hv⟩)))))))))
 have hv := hv.2 hc
 refine W.skip (zZ (W.rL (mI rfl rfl (cL rfl (o_fa tt26 rfl tt3 rfl (cL rfl (zZx (v := .int _ _) tt3 rfl rfl ⟨_, rfl⟩ ?_)))))))
 obtain ⟨s2, s3, hv⟩ := hv
 refine cL rfl (zZu (k := 20) (fst := []) (caps := []) (ys := [.int _ _, .int _ _]) rfl rfl (spec_pick20 cause ((madeC c false).causes) s2 s3) (Wks.cons (zZz _ _ _ _) (Wks.cons (zZz _ _ _ _) (Wks.refl _))) (aI rfl rfl (eL (W.rL (cL rfl (zYp (cs := [.lst _ _ _, .lst _ _ _, .int _ _, .int _ _, .int _ _, .lst _ _ _]) tt26 rfl rfl ⟨_, rfl⟩ rfl (cL rfl (zXy (p := 2) tt26 rfl rfl (cLn (o_stB (v := .agg _) (vs := [.lst _ _ _, .lst _ _ _, .int _ _, .int _ _, .int _ _, .lst _ _ _]) (cs2 := [.lst _ _ _, .lst _ _ _, .int _ _, .int _ _, .int _ _, .lst _ _ _]) tt26 rfl rfl rfl rfl rfl (Nat.le_of_ble_eq_true rfl) rfl (eL (W.tr [(5, .bool _), (6, .ptr _ _), (7, .int _ _), (8, .ptr _ _)] [.box _ [.int _ _, .int _ _, .int _ _, .lst _ _ _, .lst _ _ _, .int _ _, .int _ _], .box _ [.lst _ _ _, .lst _ _ _, .int _ _, .int _ _, .int _ _, .lst _ _ _], .box _ [.lst _ _ _, .lst _ _ _, .int _ _, .int _ _, .int _ _, .lst _ _ _]] ⟨rfl, rfl, rfl, rfl, trivial⟩ rfl (W.rL (cL rfl (o_fa tt26 rfl tt24 rfl (cLn (o_stB (v := .nilS) (vs := [.nilS]) (cs2 := [.lst _ _ _, .lst _ _ _, .int _ _, .int _ _, .int _ _, .nilS]) tt24 rfl rfl rfl rfl rfl (Nat.le_of_ble_eq_true rfl) rfl (eL (W.rL (cL rfl (zYp (cs := [.lst _ _ _, .lst _ _ _, .int _ _, .int _ _, .int _ _, .lst _ _ _]) tt26 rfl rfl ⟨_, rfl⟩ rfl ?_)))))))))))))))))))))
 obtain ⟨s4, hv⟩ := hv
 refine cL rfl (zZu (k := 27) (fst := []) (caps := []) (ys := [.agg _]) rfl rfl (spec_joined (madeC c false) s4) (Wks.cons (zXx 5 _ (Wks.cons (zZs _ _ _ _ _) (Wks.cons (zZs _ _ _ _ _) (Wks.cons (zZz _ _ _ _) (Wks.cons (zZz _ _ _ _) (Wks.cons (zZz _ _ _ _) (Wks.cons (zZs _ _ _ _ _) (Wks.refl _)))))))) (Wks.refl _)) (aL rfl rfl (eL (W.tr [(5, .bool _), (6, .ptr _ _), (7, .int _ _), (8, .ptr _ _), (9, .lst _ _ _)] [.box _ [.int _ _, .int _ _, .int _ _, .lst _ _ _, .lst _ _ _, .int _ _, .int _ _], .box _ [.lst _ _ _, .lst _ _ _, .int _ _, .int _ _, .int _ _, .lst _ _ _], .box _ [.lst _ _ _, .lst _ _ _, .int _ _, .int _ _, .int _ _, .nilS]] ⟨rfl, rfl, rfl, rfl, rfl, trivial⟩ rfl (W.rL (aB rfl rfl (eL (W.seq' (W.rL (aI rfl rfl (eL (W.block ?_))))))))))))
 obtain ⟨I1, μ1, hp, hv⟩ := hv
 refine W.loop8 (fun v10 v11 b2sv b2jobs b2late b2obj b2causes r3 => ⟨182, look [(5, .bool true), (6, .ptr 1 0), (7, .int .i64 (pickM cause ((madeC c false).causes))), (8, .ptr 2 0), (9, .lst false (joinedM (madeC c false)).length (zYy eBool (joinedM (madeC c false)))), (10, .bool v10), (11, .int .i64 v11)], [.dead, .box 26 [.lst false ((madeC c false).sv).length (zYy zYx ((madeC c false).sv)), .lst false ((madeC c false).jobs).length (zYy (e53 true) ((madeC c false).jobs)), .int .i64 ((madeC c false).late), .int .i64 ((madeC c false).obj), .int .i64 ((madeC c false).causes), .lst false ((madeC c false).ex).length (zYy e58 ((madeC c false).ex))], .box 26 [.lst false b2sv.length (zYy zYx b2sv), .lst false b2jobs.length (zYy (e53 true) b2jobs), .int .i64 b2late, .int .i64 b2obj, .int .i64 b2causes, .ref true 3 r3.length], .row 58 6 (zYy e58 r3)], 0⟩) I1 μ1 true 0 ((madeC c false).sv) ((madeC c false).jobs) ((madeC c false).late) ((madeC c false).obj) ((madeC c false).causes) [] (St.to_mk (φ := [none, some 1, some 2, none]) rfl (rfl) ⟨Ren.bool _, Ren.ptr rfl, Ren.int _ _, Ren.ptr rfl, Ren.lst _ _ _, Ren.bool _, Ren.int _ _, trivial⟩ ⟨rfl, .inr ⟨_, rfl, rfl, Rens.cons (Ren.lst _ _ _) (Rens.cons (Ren.lst _ _ _) (Rens.cons (Ren.int _ _) (Rens.cons (Ren.int _ _) (Rens.cons (Ren.int _ _) (Rens.cons (Ren.lst _ _ _) (Rens.nil))))))⟩, .inr ⟨_, rfl, rfl, Rens.cons (Ren.lst _ _ _) (Rens.cons (Ren.lst _ _ _) (Rens.cons (Ren.int _ _) (Rens.cons (Ren.int _ _) (Rens.cons (Ren.int _ _) (Rens.cons (Ren.nilR rfl rfl) (Rens.nil))))))⟩, rfl, trivial⟩) hp ?_
 clear hp
 intro v10 v11 b2sv b2jobs b2late b2obj b2causes r3 hI
 replace hv := hv v10 v11 b2sv b2jobs b2late b2obj b2causes r3 hI
 clear hI
 refine W.seq' (W.rL (mI rfl rfl (cL rfl (o_fa tt26 rfl tt24 rfl (cL rfl (zZx (v := .lst _ _ _) tt24 rfl rfl ⟨_, rfl⟩ (cL rfl (zXw (v := .lst _ _ _) tt24 rfl rfl (cL rfl (zYq rfl rfl (eL (W.cn rfl (fun hc => ?_) (fun hc => ?_)))))))))))))
 have hv := hv.1 hc
 refine W.skip (zZ ?_)
 obtain ⟨J2, hj, hv⟩ := hv
 refine W.mid2 (fun r6 v10_1 => ⟨182, look [(5, .bool true), (6, .ptr 1 0), (7, .int .i64 (pickM cause ((madeC c false).causes))), (8, .ptr 2 0), (9, .lst false (joinedM (madeC c false)).length (zYy eBool (joinedM (madeC c false)))), (10, .bool v10_1), (11, .int .i64 v11)], [.dead, .box 26 [.lst false ((madeC c false).sv).length (zYy zYx ((madeC c false).sv)), .lst false ((madeC c false).jobs).length (zYy (e53 true) ((madeC c false).jobs)), .int .i64 ((madeC c false).late), .int .i64 ((madeC c false).obj), .int .i64 ((madeC c false).causes), .lst false ((madeC c false).ex).length (zYy e58 ((madeC c false).ex))], .box 26 [.lst false b2sv.length (zYy zYx b2sv), .lst false b2jobs.length (zYy (e53 true) b2jobs), .int .i64 b2late, .int .i64 b2obj, .int .i64 b2causes, .ref true 6 r6.length], .dead, .dead, .dead, .row 58 6 (zYy e58 r6)], 0⟩) J2 ?_ ?_
 intro r6 v10_1
 intro hv
 replace hv := hj r6 v10_1 hv
 refine W.rL1 (mI rfl rfl ?_)
 obtain ⟨s1392, hv⟩ := hv
 refine cL rfl (o_add rfl rfl s1392 (aI rfl rfl (eL (zZ (⟨(), v10_1, (v11 + 1), b2sv, b2jobs, b2late, b2obj, b2causes, r6, hv, St.to_mk (φ := [none, some 1, some 2, some 6]) rfl (rfl) ⟨Ren.bool _, Ren.ptr rfl, Ren.int _ _, Ren.ptr rfl, Ren.lst _ _ _, Ren.bool _, Ren.int _ _, trivial⟩ ⟨rfl, .inr ⟨_, rfl, rfl, Rens.cons (Ren.lst _ _ _) (Rens.cons (Ren.lst _ _ _) (Rens.cons (Ren.int _ _) (Rens.cons (Ren.int _ _) (Rens.cons (Ren.int _ _) (Rens.cons (Ren.lst _ _ _) (Rens.nil))))))⟩, .inr ⟨_, rfl, rfl, Rens.cons (Ren.lst _ _ _) (Rens.cons (Ren.lst _ _ _) (Rens.cons (Ren.int _ _) (Rens.cons (Ren.int _ _) (Rens.cons (Ren.int _ _) (Rens.cons (Ren.ref rfl (fun h => rfl)) (Rens.nil))))))⟩, .inr ⟨_, rfl, rfl, rfl, rfl, Rens.enc enc58 false r6⟩, trivial⟩⟩)))))
 clear hj
 refine W.block (W.rL (cL rfl (o_fa tt26 rfl tt24 rfl (cL rfl (zZx (v := .lst _ _ _) tt24 rfl rfl ⟨_, rfl⟩ (mI rfl rfl ?_))))))
 obtain ⟨s1393, hv⟩ := hv
 refine cL rfl (zYu tt24 tt58 rfl rfl (enc58.wd true) rfl s1393 ?_)
 intro rest1393
 refine cL rfl (zYp (cs := [.int _ _, .int _ _, .int _ _, .int _ _, .int _ _, .int _ _]) tt58 rfl rfl ⟨_, rfl⟩ rfl (cL rfl (zXy (p := 4) tt58 rfl rfl (cLn (o_stB (v := .agg _) (vs := [.int _ _, .int _ _, .int _ _, .int _ _, .int _ _, .int _ _]) (cs2 := [.int _ _, .int _ _, .int _ _, .int _ _, .int _ _, .int _ _]) tt58 rfl rfl rfl rfl rfl (Nat.le_of_ble_eq_true rfl) rfl (eL (W.tr [(5, .bool _), (6, .ptr _ _), (7, .int _ _), (8, .ptr _ _), (9, .lst _ _ _), (10, .bool _), (11, .int _ _), (12, .ptr _ _)] [.dead, .box _ [.lst _ _ _, .lst _ _ _, .int _ _, .int _ _, .int _ _, .lst _ _ _], .box _ [.lst _ _ _, .lst _ _ _, .int _ _, .int _ _, .int _ _, .ref _ _ _], .row _ _ _, .box _ [.int _ _, .int _ _, .int _ _, .int _ _, .int _ _, .int _ _]] ⟨rfl, rfl, rfl, rfl, rfl, rfl, rfl, rfl, trivial⟩ rfl ?_)))))))
 obtain ⟨J3, hj, hv⟩ := hv
 refine W.mid2 (fun b4 v10_1 => ⟨182, look [(5, .bool true), (6, .ptr 1 0), (7, .int .i64 (pickM cause ((madeC c false).causes))), (8, .ptr 2 0), (9, .lst false (joinedM (madeC c false)).length (zYy eBool (joinedM (madeC c false)))), (10, .bool v10_1), (11, .int .i64 v11), (12, .ptr 4 0)], [.dead, .box 26 [.lst false ((madeC c false).sv).length (zYy zYx ((madeC c false).sv)), .lst false ((madeC c false).jobs).length (zYy (e53 true) ((madeC c false).jobs)), .int .i64 ((madeC c false).late), .int .i64 ((madeC c false).obj), .int .i64 ((madeC c false).causes), .lst false ((madeC c false).ex).length (zYy e58 ((madeC c false).ex))], .box 26 [.lst false b2sv.length (zYy zYx b2sv), .lst false b2jobs.length (zYy (e53 true) b2jobs), .int .i64 b2late, .int .i64 b2obj, .int .i64 b2causes, .ref true 3 r3.length], .row 58 6 (zYy e58 r3), .box 58 [.int .i64 b4.jb, .int .i64 b4.pc, .int .i64 b4.ca, .int .i64 b4.ba, .int .i64 b4.op, .int .i64 b4.ver]], 0⟩) J3 ?_ ?_
 intro b4 v10_1
 intro hv
 replace hv := hj b4 v10_1 hv
 refine W.rL1 (cL rfl (o_fa tt26 rfl tt24 rfl (cL rfl (zZx (v := .ref _ _ _) tt24 rfl rfl ⟨_, rfl⟩ (cL rfl (zYp (cs := [.int _ _, .int _ _, .int _ _, .int _ _, .int _ _, .int _ _]) tt58 rfl rfl ⟨_, rfl⟩ rfl (cL rfl (o_bs1 (v := .agg _) (q := 5) tt24 tt58 rfl rfl rfl rfl rfl rfl rfl rfl ?_))))))))
 obtain ⟨s1456, hv⟩ := hv
 refine cL rfl (o_apR (p := 6) (q := (r3 ++ [b4]).length) tt24 tt58 rfl rfl (src_ref rfl rfl) rfl rfl (zYw (enc58.wd false) _) (Nat.le_trans (Nat.le_of_eq (@List.length_append _ (r3) ([b4])).symm) s1456) rfl (@List.length_append _ (r3) ([b4])).symm (encL_app e58 r3 [b4]) (cL rfl (o_fa tt26 rfl tt24 rfl (cLn (o_stB (v := .ref _ _ _) (vs := [.ref _ _ _]) (cs2 := [.lst _ _ _, .lst _ _ _, .int _ _, .int _ _, .int _ _, .ref _ _ _]) tt24 rfl rfl rfl rfl rfl (Nat.le_of_ble_eq_true rfl) rfl (eL (zYv (zZ (⟨(), (r3 ++ [b4]), v10_1, hv, St.to_mk (φ := [none, some 1, some 2, none, none, none, some 6]) rfl (rfl) ⟨Ren.bool _, Ren.ptr rfl, Ren.int _ _, Ren.ptr rfl, Ren.lst _ _ _, Ren.bool _, Ren.int _ _, trivial⟩ ⟨rfl, .inr ⟨_, rfl, rfl, Rens.cons (Ren.lst _ _ _) (Rens.cons (Ren.lst _ _ _) (Rens.cons (Ren.int _ _) (Rens.cons (Ren.int _ _) (Rens.cons (Ren.int _ _) (Rens.cons (Ren.lst _ _ _) (Rens.nil))))))⟩, .inr ⟨_, rfl, rfl, Rens.cons (Ren.lst _ _ _) (Rens.cons (Ren.lst _ _ _) (Rens.cons (Ren.int _ _) (Rens.cons (Ren.int _ _) (Rens.cons (Ren.int _ _) (Rens.cons (Ren.ref rfl (fun h => rfl)) (Rens.nil))))))⟩, rfl, rfl, rfl, .inr ⟨_, rfl, rfl, rfl, rfl, Rens.enc enc58 false (r3 ++ [b4])⟩, trivial⟩⟩)))))))))
 clear hj
 refine W.rL (cL rfl (o_fa tt58 rfl tt3 rfl (cL rfl (zZx (v := .int _ _) tt3 rfl rfl ⟨_, rfl⟩ (mI rfl rfl (cL rfl (o_eqI rfl rfl rfl (eL (W.cn rfl (fun hc => ?_) (fun hc => ?_))))))))))
 have hv := hv.1 hc
 refine W.rLm ⟨182, look [(5, .bool true), (6, .ptr 1 0), (7, .int .i64 (pickM cause ((madeC c false).causes))), (8, .ptr 2 0), (9, .lst false (joinedM (madeC c false)).length (zYy eBool (joinedM (madeC c false)))), (10, .bool (decide ((v10 = true) /\ (¬ (lat ((madeC c false).ex) v11).jb = (madeC c false).late)))), (11, .int .i64 v11), (12, .ptr 4 0)], [.dead, .box 26 [.lst false ((madeC c false).sv).length (zYy zYx ((madeC c false).sv)), .lst false ((madeC c false).jobs).length (zYy (e53 true) ((madeC c false).jobs)), .int .i64 ((madeC c false).late), .int .i64 ((madeC c false).obj), .int .i64 ((madeC c false).causes), .lst false ((madeC c false).ex).length (zYy e58 ((madeC c false).ex))], .box 26 [.lst false b2sv.length (zYy zYx b2sv), .lst false b2jobs.length (zYy (e53 true) b2jobs), .int .i64 b2late, .int .i64 b2obj, .int .i64 b2causes, .ref true 3 r3.length], .row 58 6 (zYy e58 r3), .box 58 [.int .i64 ((lat ((madeC c false).ex) v11).jb), .int .i64 ((lat ((madeC c false).ex) v11).pc), .int .i64 ((lat ((madeC c false).ex) v11).ca), .int .i64 ((lat ((madeC c false).ex) v11).ba), .int .i64 ((lat ((madeC c false).ex) v11).op), .int .i64 ((lat ((madeC c false).ex) v11).ver)]], 0⟩ ?_ ?_
 iterate 2 refine mB rfl rfl ?_
 by_cases c1 : v10 = true
 refine cLg rfl rfl (c1) (cL rfl (o_fa tt58 rfl tt3 rfl (cLg rfl rfl (c1) (cL rfl (zZx (v := .int _ _) tt3 rfl rfl ⟨_, rfl⟩ (cLg rfl rfl (c1) (cL rfl (o_fa tt26 rfl tt3 rfl (cLg rfl rfl (c1) (cL rfl (zZx (v := .int _ _) tt3 rfl rfl ⟨_, rfl⟩ (cLg rfl rfl (c1) (cL rfl (o_neI rfl rfl rfl (cL rfl (zZv (v := .bool _) rfl c1 rfl (aB rfl rfl (eL (zYz ⟨rfl, rfl, rfl, rfl, rfl, (congrArg AV.bool (zXv c1 (rfl))).symm, rfl, rfl, trivial⟩ rfl)))))))))))))))))))
 iterate 5 refine cLs rfl rfl rfl ((Bool.eq_false_iff.2 c1)) ?_
 refine cL rfl (zZy (v := .bool _) rfl (Bool.eq_false_iff.2 c1) rfl (aB rfl rfl (eL (zYz ⟨rfl, rfl, rfl, rfl, rfl, (congrArg AV.bool (dAndF c1)).symm, rfl, rfl, trivial⟩ rfl))))
 refine W.seq' (W.rL (aI rfl rfl (eL (W.block ?_))))
 obtain ⟨I4, μ4, hp, hv⟩ := hv
 refine W.loop2 (fun v10_1 v13 => ⟨182, look [(5, .bool true), (6, .ptr 1 0), (7, .int .i64 (pickM cause ((madeC c false).causes))), (8, .ptr 2 0), (9, .lst false (joinedM (madeC c false)).length (zYy eBool (joinedM (madeC c false)))), (10, .bool v10_1), (11, .int .i64 v11), (12, .ptr 4 0), (13, .int .i64 v13)], [.dead, .box 26 [.lst false ((madeC c false).sv).length (zYy zYx ((madeC c false).sv)), .lst false ((madeC c false).jobs).length (zYy (e53 true) ((madeC c false).jobs)), .int .i64 ((madeC c false).late), .int .i64 ((madeC c false).obj), .int .i64 ((madeC c false).causes), .lst false ((madeC c false).ex).length (zYy e58 ((madeC c false).ex))], .box 26 [.lst false b2sv.length (zYy zYx b2sv), .lst false b2jobs.length (zYy (e53 true) b2jobs), .int .i64 b2late, .int .i64 b2obj, .int .i64 b2causes, .ref true 3 r3.length], .row 58 6 (zYy e58 r3), .box 58 [.int .i64 ((lat ((madeC c false).ex) v11).jb), .int .i64 ((lat ((madeC c false).ex) v11).pc), .int .i64 ((lat ((madeC c false).ex) v11).ca), .int .i64 ((lat ((madeC c false).ex) v11).ba), .int .i64 ((lat ((madeC c false).ex) v11).op), .int .i64 ((lat ((madeC c false).ex) v11).ver)]], 0⟩) I4 μ4 (decide ((v10 = true) /\ (¬ (lat ((madeC c false).ex) v11).jb = (madeC c false).late))) 0 (St.to_mk (φ := [none, some 1, some 2, some 3, some 4]) rfl (rfl) ⟨Ren.bool _, Ren.ptr rfl, Ren.int _ _, Ren.ptr rfl, Ren.lst _ _ _, Ren.bool _, Ren.int _ _, Ren.ptr rfl, Ren.int _ _, trivial⟩ ⟨rfl, .inr ⟨_, rfl, rfl, Rens.cons (Ren.lst _ _ _) (Rens.cons (Ren.lst _ _ _) (Rens.cons (Ren.int _ _) (Rens.cons (Ren.int _ _) (Rens.cons (Ren.int _ _) (Rens.cons (Ren.lst _ _ _) (Rens.nil))))))⟩, .inr ⟨_, rfl, rfl, Rens.cons (Ren.lst _ _ _) (Rens.cons (Ren.lst _ _ _) (Rens.cons (Ren.int _ _) (Rens.cons (Ren.int _ _) (Rens.cons (Ren.int _ _) (Rens.cons (Ren.ref rfl (fun h => rfl)) (Rens.nil))))))⟩, .inr ⟨_, rfl, rfl, rfl, rfl, Rens.enc enc58 false r3⟩, .inr ⟨_, rfl, rfl, Rens.cons (Ren.int _ _) (Rens.cons (Ren.int _ _) (Rens.cons (Ren.int _ _) (Rens.cons (Ren.int _ _) (Rens.cons (Ren.int _ _) (Rens.cons (Ren.int _ _) (Rens.nil))))))⟩, trivial⟩) hp ?_
 clear hp
 intro v10_1 v13 hI
 replace hv := hv v10_1 v13 hI
 clear hI
 refine W.seq' (W.rL (mI rfl rfl (cL rfl (o_fa tt26 rfl tt23 rfl (cL rfl (zZx (v := .lst _ _ _) tt23 rfl rfl ⟨_, rfl⟩ (cL rfl (o_fa tt58 rfl tt3 rfl (cL rfl (zZx (v := .int _ _) tt3 rfl rfl ⟨_, rfl⟩ ?_))))))))))
 obtain ⟨s1503, hv⟩ := hv
 refine cL rfl (zYu tt23 tt53 rfl rfl (enc53.wd true) rfl s1503 ?_)
 intro rest1503
 refine cL rfl (o_faP tt53 rfl tt51 rfl (cL rfl (zZx (v := .lst _ _ _) tt51 rfl rfl ⟨_, rfl⟩ (cL rfl (zXw (v := .lst _ _ _) tt51 rfl rfl (cL rfl (zYq rfl rfl (eL (W.cn rfl (fun hc => ?_) (fun hc => ?_))))))))))
 have hv := hv.1 hc
 refine W.skip (zZ (W.seq' (W.block ?_)))
 obtain ⟨sd, hv⟩ := hv
 refine W.rLm1 ⟨182, look [(5, .bool true), (6, .ptr 1 0), (7, .int .i64 (pickM cause ((madeC c false).causes))), (8, .ptr 2 0), (9, .lst false (joinedM (madeC c false)).length (zYy eBool (joinedM (madeC c false)))), (10, .bool (decide ((v10_1 = true) /\ (¬ ((lat (joinedM (madeC c false)) ((lat ((lat ((madeC c false).jobs) ((lat ((madeC c false).ex) v11).jb)).wk) v13).st)) = true))))), (11, .int .i64 v11), (12, .ptr 4 0), (13, .int .i64 v13)], [.dead, .box 26 [.lst false ((madeC c false).sv).length (zYy zYx ((madeC c false).sv)), .lst false ((madeC c false).jobs).length (zYy (e53 true) ((madeC c false).jobs)), .int .i64 ((madeC c false).late), .int .i64 ((madeC c false).obj), .int .i64 ((madeC c false).causes), .lst false ((madeC c false).ex).length (zYy e58 ((madeC c false).ex))], .box 26 [.lst false b2sv.length (zYy zYx b2sv), .lst false b2jobs.length (zYy (e53 true) b2jobs), .int .i64 b2late, .int .i64 b2obj, .int .i64 b2causes, .ref true 3 r3.length], .row 58 6 (zYy e58 r3), .box 58 [.int .i64 ((lat ((madeC c false).ex) v11).jb), .int .i64 ((lat ((madeC c false).ex) v11).pc), .int .i64 ((lat ((madeC c false).ex) v11).ca), .int .i64 ((lat ((madeC c false).ex) v11).ba), .int .i64 ((lat ((madeC c false).ex) v11).op), .int .i64 ((lat ((madeC c false).ex) v11).ver)]], 0⟩ (fun s hl h => W.le hl h) ?_ ?_
 iterate 2 refine mB rfl rfl ?_
 by_cases c1 : v10_1 = true
 have sd := sd.1 c1
 refine cLg rfl rfl (c1) (mL rfl rfl (cLg rfl rfl (c1) (cL rfl (o_fa tt26 rfl tt23 rfl (cLg rfl rfl (c1) (cL rfl (zZx (v := .lst _ _ _) tt23 rfl rfl ⟨_, rfl⟩ (cLg rfl rfl (c1) (cL rfl (o_fa tt58 rfl tt3 rfl (cLg rfl rfl (c1) (cL rfl (zZx (v := .int _ _) tt3 rfl rfl ⟨_, rfl⟩ (cLg rfl rfl (c1) ?_))))))))))))))
 obtain ⟨s1513, sd⟩ := sd
 refine cL rfl (zYu tt23 tt53 rfl rfl (enc53.wd true) rfl s1513 ?_)
 intro rest1513
 refine cLg rfl rfl (c1) (cL rfl (o_faP tt53 rfl tt51 rfl (cLg rfl rfl (c1) (cL rfl (zZx (v := .lst _ _ _) tt51 rfl rfl ⟨_, rfl⟩ (cLg rfl rfl (c1) (mI rfl rfl (cLg rfl rfl (c1) ?_))))))))
 obtain ⟨s1514, sd⟩ := sd
 refine cL rfl (zYu tt51 tt60 rfl rfl (enc60.wd true) rfl s1514 ?_)
 intro rest1514
 refine cLg rfl rfl (c1) (cL rfl (o_faP tt60 rfl tt3 rfl (cLg rfl rfl (c1) (cL rfl (zZx (v := .int _ _) tt3 rfl rfl ⟨_, rfl⟩ (cLg rfl rfl (c1) ?_))))))
 obtain ⟨s1515, sd⟩ := sd
 refine cL rfl (zYu tt55 tt4 rfl rfl (encBool.wd true) rfl s1515 ?_)
 intro rest1515
 refine cLg rfl rfl (c1) (cL rfl (zZx (v := .bool _) tt4 rfl rfl ⟨_, rfl⟩ (cLg rfl rfl (c1) (cL rfl (o_notB rfl (cL rfl (zZv (v := .bool _) rfl c1 rfl (aB rfl rfl (eL (zYz ⟨rfl, rfl, rfl, rfl, rfl, (congrArg AV.bool (zXv c1 (rfl))).symm, rfl, rfl, rfl, trivial⟩ rfl))))))))))
 iterate 15 refine cLs rfl rfl rfl ((Bool.eq_false_iff.2 c1)) ?_
 refine cL rfl (zZy (v := .bool _) rfl (Bool.eq_false_iff.2 c1) rfl (aB rfl rfl (eL (zYz ⟨rfl, rfl, rfl, rfl, rfl, (congrArg AV.bool (dAndF c1)).symm, rfl, rfl, rfl, trivial⟩ rfl))))
 refine zYv (zZ (W.rL1 (mI rfl rfl ?_)))
 obtain ⟨s1516, hv⟩ := hv
 refine cL rfl (o_add rfl rfl s1516 (aI rfl rfl (eL (zZ (⟨(), (decide ((v10_1 = true) /\ (¬ ((lat (joinedM (madeC c false)) ((lat ((lat ((madeC c false).jobs) ((lat ((madeC c false).ex) v11).jb)).wk) v13).st)) = true)))), (v13 + 1), hv, St.to_mk (φ := [none, some 1, some 2, some 3, some 4]) rfl (rfl) ⟨Ren.bool _, Ren.ptr rfl, Ren.int _ _, Ren.ptr rfl, Ren.lst _ _ _, Ren.bool _, Ren.int _ _, Ren.ptr rfl, Ren.int _ _, trivial⟩ ⟨rfl, .inr ⟨_, rfl, rfl, Rens.cons (Ren.lst _ _ _) (Rens.cons (Ren.lst _ _ _) (Rens.cons (Ren.int _ _) (Rens.cons (Ren.int _ _) (Rens.cons (Ren.int _ _) (Rens.cons (Ren.lst _ _ _) (Rens.nil))))))⟩, .inr ⟨_, rfl, rfl, Rens.cons (Ren.lst _ _ _) (Rens.cons (Ren.lst _ _ _) (Rens.cons (Ren.int _ _) (Rens.cons (Ren.int _ _) (Rens.cons (Ren.int _ _) (Rens.cons (Ren.ref rfl (fun h => rfl)) (Rens.nil))))))⟩, .inr ⟨_, rfl, rfl, rfl, rfl, Rens.enc enc58 false r3⟩, .inr ⟨_, rfl, rfl, Rens.cons (Ren.int _ _) (Rens.cons (Ren.int _ _) (Rens.cons (Ren.int _ _) (Rens.cons (Ren.int _ _) (Rens.cons (Ren.int _ _) (Rens.cons (Ren.int _ _) (Rens.nil))))))⟩, trivial⟩⟩)))))
 have hv := hv.2 hc
 refine W.exit (zZt (zZt (zYs (zZ (W.seq' (W.rL (cL rfl (o_fa tt58 rfl tt3 rfl (cL rfl (zZx (v := .int _ _) tt3 rfl rfl ⟨_, rfl⟩ (cL rfl (o_eqI rfl rfl rfl (eL (W.cn rfl (fun hc => ?_) (fun hc => ?_)))))))))))))))
 have hv := hv.1 hc
 refine W.exit (zZt (zZt (zYs (zZ (⟨(), r3, v10_1, hv, St.to_mk (φ := [none, some 1, some 2, none, none, none, some 3]) rfl (rfl) ⟨Ren.bool _, Ren.ptr rfl, Ren.int _ _, Ren.ptr rfl, Ren.lst _ _ _, Ren.bool _, Ren.int _ _, trivial⟩ ⟨rfl, .inr ⟨_, rfl, rfl, Rens.cons (Ren.lst _ _ _) (Rens.cons (Ren.lst _ _ _) (Rens.cons (Ren.int _ _) (Rens.cons (Ren.int _ _) (Rens.cons (Ren.int _ _) (Rens.cons (Ren.lst _ _ _) (Rens.nil))))))⟩, .inr ⟨_, rfl, rfl, Rens.cons (Ren.lst _ _ _) (Rens.cons (Ren.lst _ _ _) (Rens.cons (Ren.int _ _) (Rens.cons (Ren.int _ _) (Rens.cons (Ren.int _ _) (Rens.cons (Ren.ref rfl (fun h => rfl)) (Rens.nil))))))⟩, rfl, rfl, rfl, .inr ⟨_, rfl, rfl, rfl, rfl, Rens.enc enc58 false r3⟩, trivial⟩⟩)))))
 have hv := hv.2 hc
 refine W.skip (zZ (W.rD1 [0, 1, 2, 3, 4, 5, 6, 7, 8, 9, 10, 11, 12, 13] (by decide +kernel) rfl (cL rfl (o_fa tt26 rfl tt23 rfl (cL rfl (zZx (v := .lst _ _ _) tt23 rfl rfl ⟨_, rfl⟩ (cL rfl (o_fa tt58 rfl tt3 rfl (cL rfl (zZx (v := .int _ _) tt3 rfl rfl ⟨_, rfl⟩ ?_))))))))))
 obtain ⟨s1517, hv⟩ := hv
 refine cL rfl (zYu tt23 tt53 rfl rfl (enc53.wd true) rfl s1517 ?_)
 intro rest1517
 refine cL rfl (o_faP tt53 rfl tt51 rfl (cL rfl (zZx (v := .lst _ _ _) tt51 rfl rfl ⟨_, rfl⟩ (cL rfl (o_fa tt58 rfl tt3 rfl (cL rfl (zZx (v := .int _ _) tt3 rfl rfl ⟨_, rfl⟩ ?_)))))))
 obtain ⟨s1518, hv⟩ := hv
 refine cL rfl (zYu tt51 tt60 rfl rfl (enc60.wd true) rfl s1518 ?_)
 intro rest1518
 refine cL rfl (o_faP tt60 rfl tt3 rfl (cL rfl (zZx (v := .int _ _) tt3 rfl rfl ⟨_, rfl⟩ (cL rfl (o_fa tt58 rfl tt3 rfl (cLn (o_stB (v := .int _ _) (vs := [.int _ _]) (cs2 := [.int _ _, .int _ _, .int _ _, .int _ _, .int _ _, .int _ _]) tt3 rfl rfl rfl rfl rfl (Nat.le_of_ble_eq_true rfl) rfl (eL (zZ (⟨(), (Ext.mk ((lat ((madeC c false).ex) v11).jb) ((lat ((madeC c false).ex) v11).pc) ((lat ((madeC c false).ex) v11).ca) ((lat ((lat ((madeC c false).jobs) ((lat ((madeC c false).ex) v11).jb)).wk) ((lat ((madeC c false).ex) v11).pc)).tm) ((lat ((madeC c false).ex) v11).op) ((lat ((madeC c false).ex) v11).ver)), v10_1, hv, St.to_mk (φ := [none, some 1, some 2, some 3, some 4]) rfl (rfl) ⟨Ren.bool _, Ren.ptr rfl, Ren.int _ _, Ren.ptr rfl, Ren.lst _ _ _, Ren.bool _, Ren.int _ _, Ren.ptr rfl, trivial⟩ ⟨rfl, .inr ⟨_, rfl, rfl, Rens.cons (Ren.lst _ _ _) (Rens.cons (Ren.lst _ _ _) (Rens.cons (Ren.int _ _) (Rens.cons (Ren.int _ _) (Rens.cons (Ren.int _ _) (Rens.cons (Ren.lst _ _ _) (Rens.nil))))))⟩, .inr ⟨_, rfl, rfl, Rens.cons (Ren.lst _ _ _) (Rens.cons (Ren.lst _ _ _) (Rens.cons (Ren.int _ _) (Rens.cons (Ren.int _ _) (Rens.cons (Ren.int _ _) (Rens.cons (Ren.ref rfl (fun h => rfl)) (Rens.nil))))))⟩, .inr ⟨_, rfl, rfl, rfl, rfl, Rens.enc enc58 false r3⟩, .inr ⟨_, rfl, rfl, Rens.cons (Ren.int _ _) (Rens.cons (Ren.int _ _) (Rens.cons (Ren.int _ _) (Rens.cons (Ren.int _ _) (Rens.cons (Ren.int _ _) (Rens.cons (Ren.int _ _) (Rens.nil))))))⟩, trivial⟩⟩))))))))))
 have hv := hv.2 hc
 refine W.skip (zZ (⟨(), (lat ((madeC c false).ex) v11), v10, hv, St.to_mk (φ := [none, some 1, some 2, some 3, some 4]) rfl (rfl) ⟨Ren.bool _, Ren.ptr rfl, Ren.int _ _, Ren.ptr rfl, Ren.lst _ _ _, Ren.bool _, Ren.int _ _, Ren.ptr rfl, trivial⟩ ⟨rfl, .inr ⟨_, rfl, rfl, Rens.cons (Ren.lst _ _ _) (Rens.cons (Ren.lst _ _ _) (Rens.cons (Ren.int _ _) (Rens.cons (Ren.int _ _) (Rens.cons (Ren.int _ _) (Rens.cons (Ren.lst _ _ _) (Rens.nil))))))⟩, .inr ⟨_, rfl, rfl, Rens.cons (Ren.lst _ _ _) (Rens.cons (Ren.lst _ _ _) (Rens.cons (Ren.int _ _) (Rens.cons (Ren.int _ _) (Rens.cons (Ren.int _ _) (Rens.cons (Ren.ref rfl (fun h => rfl)) (Rens.nil))))))⟩, .inr ⟨_, rfl, rfl, rfl, rfl, Rens.enc enc58 false r3⟩, .inr ⟨_, rfl, rfl, Rens.cons (Ren.int _ _) (Rens.cons (Ren.int _ _) (Rens.cons (Ren.int _ _) (Rens.cons (Ren.int _ _) (Rens.cons (Ren.int _ _) (Rens.cons (Ren.int _ _) (Rens.nil))))))⟩, trivial⟩⟩))
 have hv := hv.2 hc
 refine W.exit (zZt (zZt (zYs (zZ (W.rL (cL rfl (zYp (cs := [.lst _ _ _, .lst _ _ _, .int _ _, .int _ _, .int _ _, .lst _ _ _]) tt26 rfl rfl ⟨_, rfl⟩ rfl ?_)))))))
 obtain ⟨s1519, s1520, s1521, s1522, hv⟩ := hv
 refine cL rfl (zZu (k := 17) (fst := []) (caps := []) (ys := [.agg _]) rfl rfl (spec_values (madeC c false) s1519 s1520 s1521 s1522) (Wks.cons (zXx 5 _ (Wks.cons (zZs _ _ _ _ _) (Wks.cons (zZs _ _ _ _ _) (Wks.cons (zZz _ _ _ _) (Wks.cons (zZz _ _ _ _) (Wks.cons (zZz _ _ _ _) (Wks.cons (zZs _ _ _ _ _) (Wks.refl _)))))))) (Wks.refl _)) (cL rfl (zZp (v := .tup _) rfl (cL rfl (o_ext (v := .lst _ _ _) rfl rfl (cL rfl (o_ext (v := .int _ _) rfl rfl (aL rfl rfl (aI rfl rfl (eL (W.tr [(5, .bool _), (6, .ptr _ _), (7, .int _ _), (8, .ptr _ _), (10, .bool _), (14, .lst _ _ _), (15, .int _ _)] [.dead, .box _ [.lst _ _ _, .lst _ _ _, .int _ _, .int _ _, .int _ _, .lst _ _ _], .box _ [.lst _ _ _, .lst _ _ _, .int _ _, .int _ _, .int _ _, .ref _ _ _], .row _ _ _] ⟨rfl, rfl, rfl, rfl, rfl, rfl, rfl, trivial⟩ rfl (W.rL (cL rfl (zYp (cs := [.lst _ _ _, .lst _ _ _, .int _ _, .int _ _, .int _ _, .ref _ _ _]) tt26 rfl rfl ⟨_, rfl⟩ rfl ?_))))))))))))))
 obtain ⟨s1523, s1524, s1525, s1526, hv⟩ := hv
 refine cL rfl (zZu (k := 17) (fst := []) (caps := []) (ys := [.agg _]) rfl rfl (spec_values (Req.mk b2sv b2jobs b2late b2obj b2causes r3) s1523 s1524 s1525 s1526) (Wks.cons (zXx 5 _ (Wks.cons (zZs _ _ _ _ _) (Wks.cons (zZs _ _ _ _ _) (Wks.cons (zZz _ _ _ _) (Wks.cons (zZz _ _ _ _) (Wks.cons (zZz _ _ _ _) (Wks.cons (ag_ref (fl := false) (xs := r3) enc58 3 _ rfl rfl) (Wks.refl _)))))))) (Wks.refl _)) (cL rfl (zZp (v := .tup _) rfl (cL rfl (o_ext (v := .lst _ _ _) rfl rfl (cL rfl (o_ext (v := .int _ _) rfl rfl (aL rfl rfl (aI rfl rfl (eL (W.tr [(5, .bool _), (6, .ptr _ _), (7, .int _ _), (10, .bool _), (14, .lst _ _ _), (15, .int _ _), (16, .lst _ _ _), (17, .int _ _)] [.dead, .box _ [.lst _ _ _, .lst _ _ _, .int _ _, .int _ _, .int _ _, .lst _ _ _], .box _ [.lst _ _ _, .lst _ _ _, .int _ _, .int _ _, .int _ _, .ref _ _ _], .row _ _ _] ⟨rfl, rfl, rfl, rfl, rfl, rfl, rfl, rfl, trivial⟩ rfl (W.seq' ?_))))))))))))
 obtain ⟨sd, hv⟩ := hv
 refine W.rLm ⟨182, look [(5, .bool true), (7, .int .i64 (pickM cause ((madeC c false).causes))), (10, .bool v10), (14, .lst false ((valuesM (madeC c false)).1).length (zYy zYx ((valuesM (madeC c false)).1))), (16, .lst false ((valuesM (Req.mk b2sv b2jobs b2late b2obj b2causes r3)).1).length (zYy zYx ((valuesM (Req.mk b2sv b2jobs b2late b2obj b2causes r3)).1))), (140, .bool (decide ((¬ (valuesM (madeC c false)).2 = 0) \/ ((¬ (valuesM (Req.mk b2sv b2jobs b2late b2obj b2causes r3)).2 = 0) \/ ((¬ ((((valuesM (madeC c false)).1).length : Nat) : Int) = 1 * 2 ^ (min ((madeC c false).causes).toNat 64)) \/ (¬ ((((valuesM (Req.mk b2sv b2jobs b2late b2obj b2causes r3)).1).length : Nat) : Int) = ((((valuesM (madeC c false)).1).length : Nat) : Int)))))))], [.dead, .box 26 [.lst false ((madeC c false).sv).length (zYy zYx ((madeC c false).sv)), .lst false ((madeC c false).jobs).length (zYy (e53 true) ((madeC c false).jobs)), .int .i64 ((madeC c false).late), .int .i64 ((madeC c false).obj), .int .i64 ((madeC c false).causes), .lst false ((madeC c false).ex).length (zYy e58 ((madeC c false).ex))], .box 26 [.lst false b2sv.length (zYy zYx b2sv), .lst false b2jobs.length (zYy (e53 true) b2jobs), .int .i64 b2late, .int .i64 b2obj, .int .i64 b2causes, .ref true 3 r3.length], .row 58 6 (zYy e58 r3)], 0⟩ ?_ ?_
 refine mI rfl rfl (cL rfl (o_neI rfl rfl rfl (mB rfl rfl ?_)))
 by_cases c1 : ¬ (valuesM (madeC c false)).2 = 0
 iterate 2 refine cLs rfl rfl rfl (dT c1) ?_
 refine cL rfl (zZv (v := .bool _) rfl (dT c1) rfl (mB rfl rfl ?_))
 iterate 6 refine cLs rfl rfl rfl (rfl) ?_
 refine cL rfl (zZv (v := .bool _) rfl rfl rfl (mB rfl rfl ?_))
 iterate 5 refine cLs rfl rfl rfl (rfl) ?_
 refine cL rfl (zZv (v := .bool _) rfl rfl rfl (eL (zYz ⟨rfl, rfl, rfl, rfl, rfl, (congrArg AV.bool (dOrT c1)).symm, trivial⟩ rfl)))
 have sd := sd.2 c1
 refine cLg rfl rfl (dF c1) (mI rfl rfl (cLg rfl rfl (dF c1) (cL rfl (o_neI rfl rfl rfl (cL rfl (zZy (v := .bool _) rfl (dF c1) rfl (mB rfl rfl ?_)))))))
 by_cases c2 : ¬ (valuesM (Req.mk b2sv b2jobs b2late b2obj b2causes r3)).2 = 0
 iterate 6 refine cLs rfl rfl rfl (dT c2) ?_
 refine cL rfl (zZv (v := .bool _) rfl (dT c2) rfl (mB rfl rfl ?_))
 iterate 5 refine cLs rfl rfl rfl (rfl) ?_
 refine cL rfl (zZv (v := .bool _) rfl rfl rfl (eL (zYz ⟨rfl, rfl, rfl, rfl, rfl, (congrArg AV.bool (dOrF c1 (dOrT c2))).symm, trivial⟩ rfl)))
 have sd := sd.2 c2
 refine cLg rfl rfl (dF c2) (mL rfl rfl (cLg rfl rfl (dF c2) (cL rfl (zXw (v := .lst _ _ _) tt22 rfl rfl (cLg rfl rfl (dF c2) (cL rfl (o_fa tt26 rfl tt3 rfl (cLg rfl rfl (dF c2) (cL rfl (zZx (v := .int _ _) tt3 rfl rfl ⟨_, rfl⟩ (cLg rfl rfl (dF c2) ?_)))))))))))
 obtain ⟨s1533, s1534, sd⟩ := sd
 refine cL rfl (o_shl rfl rfl s1533 s1534 (cLg rfl rfl (dF c2) (cL rfl (o_neI rfl rfl rfl (cL rfl (zZy (v := .bool _) rfl (dF c2) rfl (mB rfl rfl ?_)))))))
 by_cases c3 : ¬ ((((valuesM (madeC c false)).1).length : Nat) : Int) = 1 * 2 ^ (min ((madeC c false).causes).toNat 64)
 iterate 5 refine cLs rfl rfl rfl (dT c3) ?_
 refine cL rfl (zZv (v := .bool _) rfl (dT c3) rfl (eL (zYz ⟨rfl, rfl, rfl, rfl, rfl, (congrArg AV.bool (dOrF c1 (dOrF c2 (dOrT c3)))).symm, trivial⟩ rfl)))
 refine cLg rfl rfl (dF c3) (mL rfl rfl (cLg rfl rfl (dF c3) (cL rfl (zXw (v := .lst _ _ _) tt22 rfl rfl (cLg rfl rfl (dF c3) (mL rfl rfl (cLg rfl rfl (dF c3) (cL rfl (zXw (v := .lst _ _ _) tt22 rfl rfl (cLg rfl rfl (dF c3) (cL rfl (o_neI rfl rfl rfl (cL rfl (zZy (v := .bool _) rfl (dF c3) rfl (eL (zYz ⟨rfl, rfl, rfl, rfl, rfl, (congrArg AV.bool (dOrF c1 (dOrF c2 (dOrF c3 (rfl))))).symm, trivial⟩ rfl))))))))))))))))
 refine W.cn rfl (fun hc => ?_) (fun hc => ?_)
 have hv := hv.1 hc
 refine W.rL (aB rfl rfl (eL (W.ret (zZr (rt (rt_t (v := .bool _) rfl (rt_n (⟨_, zYr _ _ _, false, rfl, hv⟩))))))))
 have hv := hv.2 hc
 refine W.skip (zZ (W.seq' (W.rL (aI rfl rfl (eL (W.block ?_))))))
 obtain ⟨I5, μ5, hp, hv⟩ := hv
 refine W.loop1 (fun v18 => ⟨182, look [(5, .bool true), (7, .int .i64 (pickM cause ((madeC c false).causes))), (10, .bool v10), (14, .lst false ((valuesM (madeC c false)).1).length (zYy zYx ((valuesM (madeC c false)).1))), (16, .lst false ((valuesM (Req.mk b2sv b2jobs b2late b2obj b2causes r3)).1).length (zYy zYx ((valuesM (Req.mk b2sv b2jobs b2late b2obj b2causes r3)).1))), (18, .int .i64 v18)], [.dead], 0⟩) I5 μ5 0 (St.to_mk (φ := [none]) rfl (rfl) ⟨Ren.bool _, Ren.int _ _, Ren.bool _, Ren.lst _ _ _, Ren.lst _ _ _, Ren.int _ _, trivial⟩ ⟨rfl, trivial⟩) hp ?_
 clear hp
 intro v18 hI
 replace hv := hv v18 hI
 clear hI
 refine W.seq' (W.rL (mI rfl rfl (mL rfl rfl (cL rfl (zXw (v := .lst _ _ _) tt22 rfl rfl (cL rfl (zYq rfl rfl (eL (W.cn rfl (fun hc => ?_) (fun hc => ?_))))))))))
 have hv := hv.1 hc
 refine W.skip (zZ ?_)
 obtain ⟨J6, hj, hv⟩ := hv
 refine W.mid0 (⟨182, look [(5, .bool true), (7, .int .i64 (pickM cause ((madeC c false).causes))), (10, .bool v10), (14, .lst false ((valuesM (madeC c false)).1).length (zYy zYx ((valuesM (madeC c false)).1))), (16, .lst false ((valuesM (Req.mk b2sv b2jobs b2late b2obj b2causes r3)).1).length (zYy zYx ((valuesM (Req.mk b2sv b2jobs b2late b2obj b2causes r3)).1))), (18, .int .i64 v18)], [.dead], 0⟩) J6 ?_ ?_
 intro hv
 replace hv := hj hv
 refine W.rL1 (mI rfl rfl ?_)
 obtain ⟨s1692, hv⟩ := hv
 refine cL rfl (o_add rfl rfl s1692 (aI rfl rfl (eL (zZ (⟨(), (v18 + 1), hv, St.to_mk (φ := [none]) rfl (rfl) ⟨Ren.bool _, Ren.int _ _, Ren.bool _, Ren.lst _ _ _, Ren.lst _ _ _, Ren.int _ _, trivial⟩ ⟨rfl, trivial⟩⟩)))))
 clear hj
 refine W.block (W.seq' (W.rL ?_))
 iterate 2 refine mI rfl rfl ?_
 obtain ⟨s1694, hv⟩ := hv
 refine cL rfl (o_shr rfl rfl s1694 (cL rfl (o_and rfl rfl (cL rfl (o_eqI rfl rfl rfl (eL (W.cn rfl (fun hc => ?_) (fun hc => ?_))))))))
 have hv := hv.1 hc
 refine W.exit (zZt (zYs (zZ (⟨(), hv, St.to_mk (φ := [none]) rfl (rfl) ⟨Ren.bool _, Ren.int _ _, Ren.bool _, Ren.lst _ _ _, Ren.lst _ _ _, Ren.int _ _, trivial⟩ ⟨rfl, trivial⟩⟩))))
 have hv := hv.2 hc
 refine W.skip (zZ ?_)
 obtain ⟨sd, hv⟩ := hv
 refine W.rDm ⟨182, look [(5, .bool true), (7, .int .i64 (pickM cause ((madeC c false).causes))), (10, .bool v10), (14, .lst false ((valuesM (madeC c false)).1).length (zYy zYx ((valuesM (madeC c false)).1))), (16, .lst false ((valuesM (Req.mk b2sv b2jobs b2late b2obj b2causes r3)).1).length (zYy zYx ((valuesM (Req.mk b2sv b2jobs b2late b2obj b2causes r3)).1))), (18, .int .i64 v18), (180, .bool (decide ((¬ lat ((valuesM (Req.mk b2sv b2jobs b2late b2obj b2causes r3)).1) v18 = lat ((valuesM (Req.mk b2sv b2jobs b2late b2obj b2causes r3)).1) (v18 + (1 * 2 ^ (min (pickM cause ((madeC c false).causes)).toNat 64)))) \/ ((v10 = true) /\ (¬ lat ((valuesM (madeC c false)).1) v18 = lat ((valuesM (madeC c false)).1) (v18 + (1 * 2 ^ (min (pickM cause ((madeC c false).causes)).toNat 64))))))))], [.dead], 0⟩ [0, 1, 2, 3, 4, 5, 6, 7, 8, 9, 10, 11, 12, 13, 14, 15, 16, 17, 18, 19, 20, 21, 22, 23, 24, 25, 26, 27, 28] (by decide +kernel) rfl ?_ ?_
 refine mL rfl rfl (mI rfl rfl ?_)
 obtain ⟨s1705, sd⟩ := sd
 refine cL rfl (zYu tt22 tt3 rfl rfl (zZw.wd true) rfl s1705 ?_)
 intro rest1705
 refine cL rfl (zZx (v := .int _ _) tt3 rfl rfl ⟨_, rfl⟩ (mL rfl rfl ?_))
 iterate 2 refine mI rfl rfl ?_
 obtain ⟨s1706, s1707, sd⟩ := sd
 refine cL rfl (o_shl rfl rfl s1706 s1707 ?_)
 obtain ⟨s1708, sd⟩ := sd
 refine cL rfl (o_add rfl rfl s1708 ?_)
 obtain ⟨s1709, sd⟩ := sd
 refine cL rfl (zYu tt22 tt3 rfl rfl (zZw.wd true) rfl s1709 ?_)
 intro rest1709
 refine cL rfl (zZx (v := .int _ _) tt3 rfl rfl ⟨_, rfl⟩ (cL rfl (o_neI rfl rfl rfl (mB rfl rfl ?_))))
 by_cases c1 : ¬ lat ((valuesM (Req.mk b2sv b2jobs b2late b2obj b2causes r3)).1) v18 = lat ((valuesM (Req.mk b2sv b2jobs b2late b2obj b2causes r3)).1) (v18 + (1 * 2 ^ (min (pickM cause ((madeC c false).causes)).toNat 64)))
 iterate 2 refine cLs rfl rfl rfl (dT c1) ?_
 iterate 12 refine cLu rfl rfl rfl ?_
 refine cLs rfl rfl rfl (dT c1) (cL rfl (zZv (v := .bool _) rfl (dT c1) rfl (eL (zYz ⟨rfl, rfl, rfl, rfl, rfl, rfl, (congrArg AV.bool (dOrT c1)).symm, trivial⟩ rfl))))
 have sd := sd.2 c1
 refine cLg rfl rfl (dF c1) (mB rfl rfl (cLg rfl rfl (dF c1) (mB rfl rfl ?_)))
 by_cases c2 : v10 = true
 have sd := sd.1 c2
 refine cLg rfl rfl (c2) (mL rfl rfl (cLg rfl rfl (c2) (mI rfl rfl (cLg rfl rfl (c2) ?_))))
 obtain ⟨s1710, sd⟩ := sd
 refine cL rfl (zYu tt22 tt3 rfl rfl (zZw.wd true) rfl s1710 ?_)
 intro rest1710
 refine cLg rfl rfl (c2) (cL rfl (zZx (v := .int _ _) tt3 rfl rfl ⟨_, rfl⟩ (cLg rfl rfl (c2) (mL rfl rfl (cLg rfl rfl (c2) (mI rfl rfl (cLg rfl rfl (c2) (mI rfl rfl (cLg rfl rfl (c2) ?_)))))))))
 obtain ⟨s1711, s1712, sd⟩ := sd
 refine cL rfl (o_shl rfl rfl s1711 s1712 (cLg rfl rfl (c2) ?_))
 obtain ⟨s1713, sd⟩ := sd
 refine cL rfl (o_add rfl rfl s1713 (cLg rfl rfl (c2) ?_))
 obtain ⟨s1714, sd⟩ := sd
 refine cL rfl (zYu tt22 tt3 rfl rfl (zZw.wd true) rfl s1714 ?_)
 intro rest1714
 refine cLg rfl rfl (c2) (cL rfl (zZx (v := .int _ _) tt3 rfl rfl ⟨_, rfl⟩ (cLg rfl rfl (c2) (cL rfl (o_neI rfl rfl rfl (cLg rfl rfl (dF c1) (cL rfl (zZv (v := .bool _) rfl c2 rfl (cL rfl (zZy (v := .bool _) rfl (dF c1) rfl (eL (zYz ⟨rfl, rfl, rfl, rfl, rfl, rfl, (congrArg AV.bool (dOrF c1 (zXv c2 (rfl)))).symm, trivial⟩ rfl))))))))))))
 iterate 12 refine cLs rfl rfl rfl ((Bool.eq_false_iff.2 c2)) ?_
 refine cLg rfl rfl (dF c1) (cL rfl (zZy (v := .bool _) rfl (Bool.eq_false_iff.2 c2) rfl (cL rfl (zZy (v := .bool _) rfl (dF c1) rfl (eL (zYz ⟨rfl, rfl, rfl, rfl, rfl, rfl, (congrArg AV.bool (dOrF c1 (dAndF c2))).symm, trivial⟩ rfl))))))
 refine W.cn rfl (fun hc => ?_) (fun hc => ?_)
 have hv := hv.1 hc
 refine W.rL (aB rfl rfl (eL (W.ret (zYt (zZr (zZr (zYt (zZr (rt (rt_t (v := .bool _) rfl (rt_n (⟨_, zYr _ _ _, false, rfl, hv⟩))))))))))))
 have hv := hv.2 hc
 refine W.skip (zYv (zZ (⟨(), hv, St.to_mk (φ := [none]) rfl (rfl) ⟨Ren.bool _, Ren.int _ _, Ren.bool _, Ren.lst _ _ _, Ren.lst _ _ _, Ren.int _ _, trivial⟩ ⟨rfl, trivial⟩⟩)))
 have hv := hv.2 hc
 refine W.exit (zZt (zZt (zYs (zZ (W.rL (mB rfl rfl (aB rfl rfl (eL (W.ret (rt (rt_t (v := .bool _) rfl (rt_n (⟨_, zYr _ _ _, true, rfl, hv⟩)))))))))))))
set_option maxHeartbeats 2000000 in
theorem vcp_idle (c : Cas) (cause : Int) (h0 : CasOk c) (h1 : inI cause) : vc_idle c cause (fun q0 => q0 = (true)) := by
  have hm := made_ok c false
  have hv := hm.v
  have L := hv.lens
  have V := hv.v16 hm.ca.2
  have hca := hm.ca
  have hxl := hv.len
  have hJ := hv.joined
  have hjo := job_ok hv.j
  unfold vc_idle
  refine ⟨h0, fun _ => rfl, fun hc => ?_⟩
  have hn := zXz (c := cause) (n := (madeC c false).causes) (by omega)
  generalize pickM cause (madeC c false).causes = n at *
  refine ⟨by omega, h1, (validR_iff _).2 hv, fun t v sv jobs late obj causes r3 => 0 <= v /\ Req.mk sv jobs late obj causes r3 = exReq' (madeC c false) (((madeC c false).ex.take v.toNat).filterMap (idleX (madeC c false) n)) /\ (t = true -> ∀ x ∈ (madeC c false).ex.take v.toNat, FarX (madeC c false) n x),
    fun _ v _ _ _ _ _ _ => (madeC c false).ex.length - v.toNat, ⟨by omega, rfl, fun _ x hx => absurd hx List.not_mem_nil⟩, ?_⟩
  rintro t v sv3 jobs3 late3 obj3 causes3 r3 ⟨i0, i3, ifar⟩
  obtain ⟨rfl, rfl, rfl, rfl, rfl, e3⟩ := Req.mk.inj i3
  clear i3
  refine ⟨fun k => ?_, fun k => ?_⟩
  . have hx : 0 <= v /\ v < ((madeC c false).ex.length : Int) := ⟨i0, k⟩
    have hl3 : r3.length <= 168 := by
      rw [e3]
      refine Nat.le_trans (List.length_filterMap_le _ _) ?_
      rw [List.length_take]; omega
    have hv' : v.toNat < (madeC c false).ex.length := by omega
    have hts := take_succ_lat hv'
    rw [show ((v.toNat : Nat) : Int) = v by omega] at hts
    have hmem := lat_mem hx
    obtain ⟨⟨x1, x2⟩, -⟩ := hv.mem hmem
    have hpc := hm.pcs _ hmem
    have hwl := (hjo.2.2 _ (lat_mem (xs := (madeC c false).jobs) (i := (lat (madeC c false).ex v).jb) x1)).1.2.2
    refine ⟨fun r6 t' => r6 = ((madeC c false).ex.take (v.toNat + 1)).filterMap (idleX (madeC c false) n) /\ (t' = true -> ∀ x ∈ (madeC c false).ex.take (v.toNat + 1), FarX (madeC c false) n x), ?_, hx,
      fun b4 t' => idleX (madeC c false) n (lat (madeC c false).ex v) = some b4 /\ (t' = true -> ∀ x ∈ (madeC c false).ex.take (v.toNat + 1), FarX (madeC c false) n x), ?_, fun kc => ?_, fun kc => ?_⟩
    . rintro r6 t' ⟨rfl, hf⟩
      refine ⟨inI_small (by omega), ⟨by omega, ?_, ?_⟩, by dsimp only; omega⟩
      . rw [show (v + 1).toNat = v.toNat + 1 by omega]; rfl
      . rw [show (v + 1).toNat = v.toNat + 1 by omega]; exact hf
    . rintro b4 t' ⟨hb, hf⟩
      refine ⟨by rw [List.length_append, List.length_singleton]; omega, ?_, hf⟩
      rw [hts, List.filterMap_append, e3]
      simp only [exReq', List.filterMap_cons, List.filterMap_nil, hb]
    . refine ⟨fun t' i => 0 <= i /\ (t' = true -> t = true /\ ¬ (lat (madeC c false).ex v).jb = (madeC c false).late /\ ∀ w ∈ (lat (madeC c false).jobs (lat (madeC c false).ex v).jb).wk.take i.toNat, ¬ lat (joinedM (madeC c false)) w.st = true),
        fun _ i => (lat (madeC c false).jobs (lat (madeC c false).ex v).jb).wk.length - i.toNat, ⟨by omega, fun h => ⟨(of_decide_eq_true h).1, (of_decide_eq_true h).2, fun w hw => absurd hw List.not_mem_nil⟩⟩, ?_⟩
      rintro t2 i ⟨j0, jf⟩
      refine ⟨x1, fun k2 => ?_, fun k2 => ?_⟩
      . have hi : 0 <= i /\ i < (((lat (madeC c false).jobs (lat (madeC c false).ex v).jb).wk.length : Nat) : Int) := ⟨j0, k2⟩
        have st := (hjo.2.2 _ (lat_mem (xs := (madeC c false).jobs) (i := (lat (madeC c false).ex v).jb) x1)).2 _ (lat_mem hi)
        refine ⟨⟨fun _ => ⟨x1, hi, ⟨st.1, by rw [hJ.len]; omega⟩, trivial⟩, fun _ => trivial⟩, inI_small (by omega), ⟨by omega, fun h => ?_⟩, by dsimp only; omega⟩
        have h := of_decide_eq_true h
        obtain ⟨f1, f2, f3⟩ := jf h.1
        refine ⟨f1, f2, fun w hw => ?_⟩
        have ht := take_succ_lat (l := (lat (madeC c false).jobs (lat (madeC c false).ex v).jb).wk) (i := i.toNat) (by omega)
        rw [show ((i.toNat : Nat) : Int) = i by omega] at ht
        rw [show (i + 1).toNat = i.toNat + 1 by omega, ht] at hw
        rcases List.mem_append.1 hw with hw | hw
        . exact f3 w hw
        . rw [List.mem_singleton] at hw
          rw [hw]; exact h.2
      . rw [List.take_of_length_le (by omega)] at jf
        have hf : t2 = true -> ∀ x ∈ (madeC c false).ex.take (v.toNat + 1), FarX (madeC c false) n x := fun h x hx => by
          obtain ⟨f1, f2, f3⟩ := jf h
          rw [hts] at hx
          rcases List.mem_append.1 hx with hx | hx
          . exact ifar f1 x hx
          . rw [List.mem_singleton] at hx
            rw [hx]; exact fun _ => ⟨f2, f3⟩
        refine ⟨fun k3 => ⟨?_, hf⟩, fun k3 => ⟨x1, hpc.resolve_left k3, ?_, hf⟩⟩
        . rw [hts, List.filterMap_append, e3]
          have : idleX (madeC c false) n (lat (madeC c false).ex v) = none := by unfold idleX; rw [if_pos kc, if_pos k3]
          simp only [exReq', List.filterMap_cons, List.filterMap_nil, this, List.append_nil]
        . unfold idleX; rw [if_pos kc, if_neg k3]
    . refine ⟨by unfold idleX; rw [if_neg kc], fun h x hx => ?_⟩
      rw [hts] at hx
      rcases List.mem_append.1 hx with hx | hx
      . exact ifar h x hx
      . rw [List.mem_singleton] at hx
        rw [hx]; exact fun h' => absurd h' kc
  . rw [List.take_of_length_le (by omega)] at e3 ifar
    have eR : Req.mk (madeC c false).sv (madeC c false).jobs (madeC c false).late (madeC c false).obj (madeC c false).causes r3 = idleR (madeC c false) n := by rw [e3]; rfl
    have vi := idle_ok hm n
    have Li := vi.lens
    have e1 := hv.vlenI hca.2
    have wi : (valuesM (idleR (madeC c false) n)).1.length = (valuesM (madeC c false)).1.length := by rw [vi.vlen, hv.vlen]; rfl
    have ci : (idleR (madeC c false) n).causes = (madeC c false).causes := rfl
    have eR' : Req.mk (exReq' (madeC c false) (((madeC c false).ex.take v.toNat).filterMap (idleX (madeC c false) n))).sv (exReq' (madeC c false) (((madeC c false).ex.take v.toNat).filterMap (idleX (madeC c false) n))).jobs (exReq' (madeC c false) (((madeC c false).ex.take v.toNat).filterMap (idleX (madeC c false) n))).late (exReq' (madeC c false) (((madeC c false).ex.take v.toNat).filterMap (idleX (madeC c false) n))).obj (exReq' (madeC c false) (((madeC c false).ex.take v.toNat).filterMap (idleX (madeC c false) n))).causes r3 = idleR (madeC c false) n := eR
    rw [eR]
    refine ⟨L.a, L.b, L.c, L.d, Li.a, Li.b, Li.c, Li.d, ⟨fun _ => trivial, fun _ => ⟨fun _ => trivial, fun _ => ⟨hca.1, inI_pow hca, trivial⟩⟩⟩, fun k2 => ?_, fun _ => ?_⟩
    . exact (k2.elim (fun a => a hv.vok) fun k2 => k2.elim (fun a => a vi.vok) fun k2 => k2.elim (fun a => a e1) fun a => a (congrArg Nat.cast wi)).elim
    refine ⟨fun v => 0 <= v /\ v <= ((valuesM (madeC c false)).1.length : Int), fun v => (valuesM (madeC c false)).1.length - v.toNat, by omega, fun s hI => ⟨fun k => ?_, fun _ => rfl⟩⟩
    have hs : 0 <= s /\ s < ((valuesM (madeC c false)).1.length : Int) := ⟨hI.1, k⟩
    refine ⟨True, fun _ => ⟨inI_small (by omega), ⟨by omega, by omega⟩, by dsimp only; omega⟩, hn.1, fun _ => trivial, fun hb => ?_⟩
    rw [sh_pow ⟨hca.1, by omega⟩] at e1
    have hs2 : 0 <= s /\ s < 2 ^ (madeC c false).causes.toNat := by rw [<- e1]; exact hs
    have hz : bitZ s n = 0 := (bit_01 hca hs2 hn).resolve_right hb
    have a := set_add hca hs2 hn hz
    rw [<- e1] at a
    have p1 := pow_le16 (k := n) ⟨hn.1, by omega⟩
    rw [sh_pow ⟨hn.1, by omega⟩]
    have s2 : 0 <= s + 2 ^ n.toNat /\ s + 2 ^ n.toNat < ((valuesM (madeC c false)).1.length : Int) := ⟨by omega, a.1⟩
    have q1 : lat (valuesM (idleR (madeC c false) n)).1 s = lat (valuesM (idleR (madeC c false) n)).1 (s + 2 ^ n.toNat) := by
      rw [vi.vlat (by rw [wi]; exact hs), vi.vlat (by rw [wi]; exact s2)]
      exact (idle_lat hm a.2.1).symm
    refine ⟨⟨by rw [wi]; exact hs, hn.1, inI_small (by omega), inI_small (by omega), by rw [wi]; exact s2, fun _ => trivial, fun _ => ⟨fun _ => ⟨hs, hn.1, inI_small (by omega), inI_small (by omega), s2, trivial⟩, fun _ => trivial⟩⟩, fun k2 => ?_, fun _ => trivial⟩
    rcases k2 with k2 | ⟨k2, k3⟩
    . exact absurd q1 k2
    . refine absurd ?_ k3
      rw [hv.vlat hs, hv.vlat s2]
      exact far_lat hm a.2.1 (ifar k2)
theorem spec_idle (c : Cas) (cause : Int) (h0 : CasOk c) (h1 : inI cause) : FnP Try.prog 5 [.agg ((e31 true) c), .int .i64 cause] (fun xR => xR = .bool (true)) :=
  (walk_idle (vcp_idle c cause h0 h1)).mono (by rintro _ ⟨_, rfl, rfl⟩; rfl)
end Go.Lat
