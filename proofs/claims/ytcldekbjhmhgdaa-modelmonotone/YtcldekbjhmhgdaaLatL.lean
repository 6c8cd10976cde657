/- The law latecomerlaw23.ModelMonotone returns true for every input, and each argument reads afterwards as it read before. Part 12 of 13. No condition. -/
import Derived.Test.YtcldekbjhmhgdaaLatE
import Derived.Test.YtcldekbjhmhgdaaLatF
import Derived.Test.YtcldekbjhmhgdaaLatD
import Derived.Test.YtcldekbjhmhgdaaLatK
import Derived.Test.YtcldekbjhmhgdaaLatG
set_option linter.unusedVariables false
set_option linter.unusedSimpArgs false
set_option linter.unnecessarySimpa false
set_option maxRecDepth 100000
set_option maxHeartbeats 4000000
namespace Go.Lat
open Go.RowKit Go.Proofs
attribute [local irreducible] seqL opC
def vc_pick16 (c : Int) (n : Int) (Post : Int -> Prop) : Prop :=
  ∃ J1 : Int -> Prop, (∀ (v0 : Int), J1 v0 -> (n ≠ 0) /\ Post (v0.tmod n)) /\ (((c < (0 : Int)) -> (inI (c + (1 : Int))) /\ (inI (-(c + (1 : Int)))) /\ J1 (-(c + (1 : Int)))) /\ (¬ (c < (0 : Int)) -> J1 c))
theorem walk_pick16 {c : Int} {n : Int} {Post : Int -> Prop} (hv : vc_pick16 c n Post) : FnP Try.prog 16 [.int .i64 c, .int .i64 n] (fun x => ∃ q0, x = .int .i64 q0 /\ Post q0) := by
 refine FnP.of_walk (T := tt) (nt := 13) ttOk ttMix ⟨⟨Try.f16, Try.func16, rfl, rfl, rfl, rfl⟩⟩ (by simp) ?_
 unfold vc_pick16 at hv
 change W _ _ _ ⟨13, look [(0, .int .i64 c), (1, .int .i64 n)], [], 0⟩ _
 refine W.ty [(0, .int _ _), (1, .int _ _)] rfl (W.rL (aI rfl rfl (eL (W.ty [(0, .int _ _), (1, .int _ _)] rfl ?_))))
 obtain ⟨J1, hj, hv⟩ := hv
 refine W.mid1 (fun v0 => ⟨13, look [(0, .int .i64 v0), (1, .int .i64 n)], [], 0⟩) J1 ?_ ?_
 intro v0
 intro hv
 replace hv := hj v0 hv
 refine W.rL ?_
 iterate 2 refine mI rfl rfl ?_
 obtain ⟨s3, hv⟩ := hv
 refine cL rfl (o_rem rfl rfl s3 (aI rfl rfl (eL (W.ty [(4, .int _ _)] rfl (W.ret (rt (rt_t (v := .int _ _) rfl (rt_n (⟨_, zY _ _ _ _, (v0.tmod n), rfl, hv⟩)))))))))
 clear hj
 refine W.rL (mI rfl rfl (cL rfl (zYq rfl rfl (eL (W.ty [(0, .int _ _), (1, .int _ _), (6, .bool _)] rfl (W.cn rfl (fun hc => ?_) (fun hc => ?_)))))))
 have hv := hv.1 hc
 refine W.rL1 (mI rfl rfl ?_)
 obtain ⟨s4, hv⟩ := hv
 refine cL rfl (o_add rfl rfl s4 ?_)
 obtain ⟨s5, hv⟩ := hv
 refine cL rfl (o_neg rfl s5 (aI rfl rfl (eL (zZ (⟨(), (-(c + (1 : Int))), hv, St.to_mk (φ := []) rfl (rfl) (zT rfl rfl) trivial⟩)))))
 have hv := hv.2 hc
 refine W.skip (zZ (⟨(), c, hv, St.to_mk (φ := []) rfl (rfl) (zT rfl rfl) trivial⟩))
set_option maxHeartbeats 4000000 in
theorem vcp_pick16 (c : Int) (n : Int) (h0 : 1 <= n) (h1 : inI c) : vc_pick16 c n (fun q0 => q0 = (pickM c n)) := by
  unfold vc_pick16
  refine ⟨fun v => v = if c < 0 then -(c + 1) else c, fun v hv => ⟨by omega, by subst hv; rfl⟩, fun h => ⟨by unfold inI at *; omega, by unfold inI at *; omega, (if_pos h).symm⟩, fun h => (if_neg h).symm⟩
theorem spec_pick16 (c : Int) (n : Int) (h0 : 1 <= n) (h1 : inI c) : FnP Try.prog 16 [.int .i64 c, .int .i64 n] (fun xR => xR = .int .i64 (pickM c n)) :=
  (walk_pick16 (vcp_pick16 c n h0 h1)).mono (by rintro _ ⟨_, rfl, rfl⟩; rfl)
def vc_single (jobs : (List Job)) (Post : (List Job) -> Prop) : Prop :=
  ∃ (I1 : Int -> List Job -> Prop) (μ1 : Int -> List Job -> Nat), I1 (0 : Int) [] /\ ∀ (v4 : Int) (r0 : List Job), I1 v4 r0 -> ((v4 < (jobs.length : Int)) -> (0 <= v4 /\ v4 < (jobs.length : Int)) /\ ∃ J2 : List Ld -> Prop, (∀ (r2 : List Ld), J2 r2 -> ((r0 ++ [(Job.mk ((lat jobs v4).ar) r2)]).length <= 1073741824) /\ (inI (v4 + (1 : Int))) /\ (I1 (v4 + (1 : Int)) (r0 ++ [(Job.mk ((lat jobs v4).ar) r2)]) /\ μ1 (v4 + (1 : Int)) (r0 ++ [(Job.mk ((lat jobs v4).ar) r2)]) < μ1 v4 r0)) /\ ((0 <= v4 /\ v4 < (jobs.length : Int)) /\ (((0 : Int) < (((lat jobs v4).wk).length : Int)) -> (0 <= v4 /\ v4 < (jobs.length : Int)) /\ (0 <= (0 : Int) /\ (0 : Int) < (((lat jobs v4).wk).length : Int)) /\ J2 [(Ld.mk 0 ((lat ((lat jobs v4).wk) (0 : Int)).tm))]) /\ (¬ ((0 : Int) < (((lat jobs v4).wk).length : Int)) -> J2 []))) /\ (¬ (v4 < (jobs.length : Int)) -> Post r0)
theorem walk_single {jobs : (List Job)} {Post : (List Job) -> Prop} (hv : vc_single jobs Post) : FnP Try.prog 17 [.lst true jobs.length (zYy (e42 true) jobs)] (fun x => ∃ q0, x = .lst false q0.length (zYy (e42 true) q0) /\ Post q0) := by
 refine FnP.of_walk (T := tt) (nt := 41) ttOk ttMix ⟨⟨Try.f17, Try.func17, rfl, rfl, rfl, rfl⟩⟩ (by simp) ?_
 unfold vc_single at hv
 change W _ _ _ ⟨41, look [(0, .lst true jobs.length (zYy (e42 true) jobs))], [], 0⟩ _
 refine W.ty [(0, .lst _ _ _)] rfl (W.rL (cL rfl (zZq (v := .nilS) rfl (eL (W.ty [(0, .lst _ _ _)] rfl (W.rL (cL rfl (zZq (v := .nilS) rfl (eL (W.ty [(0, .lst _ _ _), (3, .nilS)] rfl (W.seq' (W.rL (aI rfl rfl (eL (W.ty [(0, .lst _ _ _), (3, .nilS), (4, .int _ _)] rfl (W.block ?_))))))))))))))))
 obtain ⟨I1, μ1, hp, hv⟩ := hv
 refine W.loop2 (fun v4 r0 => ⟨41, look [(0, .lst true jobs.length (zYy (e42 true) jobs)), (3, .ref true 0 r0.length), (4, .int .i64 v4)], [.row 42 2 (zYy (e42 false) r0)], 0⟩) I1 μ1 (0 : Int) [] (St.to_mk (φ := [none]) rfl (rfl) ⟨Ren.lst _ _ _, Ren.nilR rfl rfl, Ren.int _ _, trivial⟩ ⟨rfl, trivial⟩) hp ?_
 clear hp
 intro v4 r0 hI
 replace hv := hv v4 r0 hI
 clear hI
 refine W.seq' (W.rL (mI rfl rfl (mL rfl rfl (cL rfl (zXw (v := .lst _ _ _) tt26 rfl rfl (cL rfl (zYq rfl rfl (eL (W.ty [(0, .lst _ _ _), (3, .ref _ _ _), (4, .int _ _), (9, .bool _)] rfl (W.cn rfl (fun hc => ?_) (fun hc => ?_)))))))))))
 have hv := hv.1 hc
 refine W.skip (zZ (W.ty [(0, .lst _ _ _), (3, .ref _ _ _), (4, .int _ _)] rfl (W.seq' (W.block (W.rL (mL rfl rfl (mI rfl rfl ?_)))))))
 obtain ⟨s90, hv⟩ := hv
 refine cL rfl (zYu tt26 tt42 rfl rfl (enc42.wd true) rfl s90 ?_)
 intro rest90
 refine cL rfl (o_faP tt42 rfl tt3 rfl (cL rfl (zZx (v := .int _ _) tt3 rfl rfl ⟨_, rfl⟩ (cL rfl (o_build (qs := [(0, .int _ _)]) (cs := [.int _ _, .nilS]) tt42 rfl rfl rfl (cL rfl (zXy (p := 1) tt42 rfl rfl (cLn (o_stB (v := .agg _) (vs := [.int _ _, .nilS]) (cs2 := [.int _ _, .nilS]) tt42 rfl rfl rfl rfl rfl (Nat.le_of_ble_eq_true rfl) rfl (eL (W.ty [(0, .lst _ _ _), (3, .ref _ _ _), (4, .int _ _), (5, .ptr _ _)] rfl ?_)))))))))))
 obtain ⟨J2, hj, hv⟩ := hv
 refine W.mid1 (fun r2 => ⟨41, look [(0, .lst true jobs.length (zYy (e42 true) jobs)), (3, .ref true 0 r0.length), (4, .int .i64 v4), (5, .ptr 1 0)], [.row 42 2 (zYy (e42 false) r0), .box 42 [.int .i64 ((lat jobs v4).ar), .ref false 2 r2.length], .row 45 2 (zYy e45 r2)], 0⟩) J2 ?_ ?_
 intro r2
 intro hv
 replace hv := hj r2 hv
 refine W.sealB false 2 1 (bcs' := [.int .i64 ((lat jobs v4).ar), .lst false r2.length (zYy e45 r2)]) (l := [(0, .lst true jobs.length (zYy (e42 true) jobs)), (3, .ref true 0 r0.length), (4, .int .i64 v4), (5, .ptr 1 0)]) rfl rfl (encL_sl enc45 false r2) ⟨.inl rfl, .inl rfl, .inl rfl, .inl rfl, trivial⟩ ⟨.inl rfl, .inr ⟨_, _, rfl, (zYw (enc45.wd false) _), rfl⟩, trivial⟩ rfl (W.rL1g (cL rfl (zZp (v := .ref _ _ _) rfl (cL rfl (zYp (cs := [.int _ _, .lst _ _ _]) tt42 rfl rfl ⟨_, rfl⟩ rfl (cL rfl (o_bs1 (v := .agg _) (q := 3) tt26 tt42 rfl rfl rfl rfl rfl rfl rfl rfl ?_)))))))
 obtain ⟨s94, hv⟩ := hv
 refine cL rfl (o_apR (p := 4) (q := (r0 ++ [(Job.mk ((lat jobs v4).ar) r2)]).length) tt26 tt42 rfl rfl (src_ref rfl rfl) rfl rfl (zYw (enc42.wd false) _) (Nat.le_trans (Nat.le_of_eq (@List.length_append _ (r0) ([(Job.mk ((lat jobs v4).ar) r2)])).symm) s94) rfl (@List.length_append _ (r0) ([(Job.mk ((lat jobs v4).ar) r2)])).symm (encL_app (e42 false) r0 [(Job.mk ((lat jobs v4).ar) r2)]) (cL rfl (zZq (v := .ref _ _ _) rfl (eL (go_nil (zYv (zZ (W.ty [(0, .lst _ _ _), (3, .ref _ _ _), (4, .int _ _)] rfl (W.rL1 (mI rfl rfl ?_))))))))))
 obtain ⟨s95, hv⟩ := hv
 refine cL rfl (o_add rfl rfl s95 (aI rfl rfl (eL (zZ (⟨(), (v4 + (1 : Int)), (r0 ++ [(Job.mk ((lat jobs v4).ar) r2)]), hv, St.to_mk (φ := [some 4]) rfl (rfl) ⟨Ren.lst _ _ _, Ren.ref rfl (fun h => rfl), Ren.int _ _, trivial⟩ ⟨zE enc42 false (r0 ++ [(Job.mk ((lat jobs v4).ar) r2)]) rfl, trivial⟩⟩)))))
 clear hj
 refine W.rL (mL rfl rfl (mI rfl rfl ?_))
 obtain ⟨s96, hv⟩ := hv
 refine cL rfl (zYu tt26 tt42 rfl rfl (enc42.wd true) rfl s96 ?_)
 intro rest96
 refine cL rfl (o_faP tt42 rfl tt40 rfl (cL rfl (zZx (v := .lst _ _ _) tt40 rfl rfl ⟨_, rfl⟩ (cL rfl (zXw (v := .lst _ _ _) tt40 rfl rfl (cL rfl (o_gtr rfl rfl (eL (W.ty [(0, .lst _ _ _), (3, .ref _ _ _), (4, .int _ _), (5, .ptr _ _), (24, .bool _)] rfl (W.cn rfl (fun hc => ?_) (fun hc => ?_)))))))))))
 have hv := hv.1 hc
 refine W.rL1 (mL rfl rfl (mI rfl rfl ?_))
 obtain ⟨s97, hv⟩ := hv
 refine cL rfl (zYu tt26 tt42 rfl rfl (enc42.wd true) rfl s97 ?_)
 intro rest97
 refine cL rfl (o_faP tt42 rfl tt40 rfl (cL rfl (zZx (v := .lst _ _ _) tt40 rfl rfl ⟨_, rfl⟩ ?_)))
 obtain ⟨s98, hv⟩ := hv
 refine cL rfl (zYu tt40 tt45 rfl rfl (enc45.wd true) rfl s98 ?_)
 intro rest98
 refine cL rfl (o_faP tt45 rfl tt3 rfl (cL rfl (zZx (v := .int _ _) tt3 rfl rfl ⟨_, rfl⟩ (cL rfl (o_build (qs := [(1, .int _ _)]) (cs := [.int _ _, .int _ _]) tt45 rfl rfl rfl (cL rfl (o_bs1 (v := .agg _) (q := 2) tt40 tt45 rfl rfl rfl rfl rfl rfl rfl rfl (cL rfl (o_fa tt42 rfl tt40 rfl (cLn (o_stB (v := .ref _ _ _) (vs := [.ref _ _ _]) (cs2 := [.int _ _, .ref _ _ _]) tt40 rfl rfl rfl rfl rfl (Nat.le_of_ble_eq_true rfl) rfl (eL (zZ (⟨(), [(Ld.mk 0 ((lat ((lat jobs v4).wk) (0 : Int)).tm))], hv, St.to_mk (φ := [some 0, some 1, some 2]) rfl (rfl) ⟨Ren.lst _ _ _, Ren.ref rfl (fun h => rfl), Ren.int _ _, Ren.ptr rfl, trivial⟩ ⟨zE enc42 false r0 rfl, .inr ⟨_, rfl, rfl, Rens.cons (Ren.int _ _) (Rens.cons (Ren.ref rfl id) (Rens.nil))⟩, zE enc45 false [(Ld.mk 0 ((lat ((lat jobs v4).wk) (0 : Int)).tm))] rfl, trivial⟩⟩))))))))))))))
 have hv := hv.2 hc
 refine W.skip (zZ (⟨(), [], hv, St.to_mk (φ := [some 0, some 1, none]) rfl (rfl) ⟨Ren.lst _ _ _, Ren.ref rfl (fun h => rfl), Ren.int _ _, Ren.ptr rfl, trivial⟩ ⟨zE enc42 false r0 rfl, .inr ⟨_, rfl, rfl, Rens.cons (Ren.int _ _) (Rens.cons (Ren.nilR rfl rfl) (Rens.nil))⟩, rfl, trivial⟩⟩))
 have hv := hv.2 hc
 refine W.exit (zZt (zZt (zYs (zZ (W.ty [(3, .ref _ _ _)] rfl (W.rL (cL rfl (zZp (v := .ref _ _ _) rfl (cL rfl (zZq (v := .ref _ _ _) rfl (eL (W.ty [(2, .ref _ _ _)] rfl (W.ret (rt (rt_t (v := .ref _ _ _) rfl (rt_n (⟨_, rs_ref enc42 4 _ rfl rfl, r0, rfl, hv⟩)))))))))))))))))
set_option maxHeartbeats 4000000 in
theorem vcp_single (jobs : (List Job)) (h0 : jobs.length <= 1073741824) : vc_single jobs (fun q0 => q0 = (singleM jobs)) := by
  unfold vc_single
  refine ⟨fun v l => ∃ i : Nat, v = i /\ i <= jobs.length /\ l = (jobs.take i).map singleJ, fun v _ => jobs.length - v.toNat, ⟨0, rfl, by omega, rfl⟩, ?_⟩
  rintro _ _ ⟨i, rfl, hi, rfl⟩
  refine ⟨fun k1 => ⟨⟨by omega, k1⟩, fun w => w = (singleJ (lat jobs (i : Int))).wk, fun w hw => ?_, ⟨by omega, k1⟩, fun k2 => ⟨⟨by omega, k1⟩, ⟨by omega, k2⟩, ?_⟩, fun k2 => ?_⟩, fun k1 => ?_⟩
  . subst hw
    have ej : Job.mk (lat jobs (i : Int)).ar (singleJ (lat jobs (i : Int))).wk = singleJ (lat jobs (i : Int)) := rfl
    rw [ej]
    refine ⟨by simp; omega, by unfold inI; omega, ⟨i + 1, by omega, by omega, ?_⟩, dec_lt k1⟩
    rw [take_succ_lat (by omega), List.map_append]; rfl
  . unfold singleJ; rw [if_pos (by omega)]
  . unfold singleJ; rw [if_neg (by omega)]
  . unfold singleM
    rw [List.take_of_length_le (by omega)]
theorem spec_single (jobs : (List Job)) (h0 : jobs.length <= 1073741824) : FnP Try.prog 17 [.lst true jobs.length (zYy (e42 true) jobs)] (fun xR => xR = .lst false (singleM jobs).length (zYy (e42 true) (singleM jobs))) :=
  (walk_single (vcp_single jobs h0)).mono (by rintro _ ⟨_, rfl, rfl⟩; rfl)
def vc_pick35 (c : Int) (n : Int) (Post : Int -> Prop) : Prop :=
  ∃ J1 : Int -> Prop, (∀ (v0 : Int), J1 v0 -> (n ≠ 0) /\ Post (v0.tmod n)) /\ (((c < (0 : Int)) -> (inI (c + (1 : Int))) /\ (inI (-(c + (1 : Int)))) /\ J1 (-(c + (1 : Int)))) /\ (¬ (c < (0 : Int)) -> J1 c))
theorem walk_pick35 {c : Int} {n : Int} {Post : Int -> Prop} (hv : vc_pick35 c n Post) : FnP Try.prog 35 [.int .i64 c, .int .i64 n] (fun x => ∃ q0, x = .int .i64 q0 /\ Post q0) := by
 refine FnP.of_walk (T := tt) (nt := 13) ttOk ttMix ⟨⟨Try.f35, Try.func35, rfl, rfl, rfl, rfl⟩⟩ (by simp) ?_
 unfold vc_pick35 at hv
 change W _ _ _ ⟨13, look [(0, .int .i64 c), (1, .int .i64 n)], [], 0⟩ _
 refine W.ty [(0, .int _ _), (1, .int _ _)] rfl (W.rL (aI rfl rfl (eL (W.ty [(0, .int _ _), (1, .int _ _)] rfl ?_))))
 obtain ⟨J1, hj, hv⟩ := hv
 refine W.mid1 (fun v0 => ⟨13, look [(0, .int .i64 v0), (1, .int .i64 n)], [], 0⟩) J1 ?_ ?_
 intro v0
 intro hv
 replace hv := hj v0 hv
 refine W.rL ?_
 iterate 2 refine mI rfl rfl ?_
 obtain ⟨s3, hv⟩ := hv
 refine cL rfl (o_rem rfl rfl s3 (aI rfl rfl (eL (W.ty [(4, .int _ _)] rfl (W.ret (rt (rt_t (v := .int _ _) rfl (rt_n (⟨_, zY _ _ _ _, (v0.tmod n), rfl, hv⟩)))))))))
 clear hj
 refine W.rL (mI rfl rfl (cL rfl (zYq rfl rfl (eL (W.ty [(0, .int _ _), (1, .int _ _), (6, .bool _)] rfl (W.cn rfl (fun hc => ?_) (fun hc => ?_)))))))
 have hv := hv.1 hc
 refine W.rL1 (mI rfl rfl ?_)
 obtain ⟨s4, hv⟩ := hv
 refine cL rfl (o_add rfl rfl s4 ?_)
 obtain ⟨s5, hv⟩ := hv
 refine cL rfl (o_neg rfl s5 (aI rfl rfl (eL (zZ (⟨(), (-(c + (1 : Int))), hv, St.to_mk (φ := []) rfl (rfl) (zT rfl rfl) trivial⟩)))))
 have hv := hv.2 hc
 refine W.skip (zZ (⟨(), c, hv, St.to_mk (φ := []) rfl (rfl) (zT rfl rfl) trivial⟩))
set_option maxHeartbeats 4000000 in
theorem vcp_pick35 (c : Int) (n : Int) (h0 : 1 <= n) (h1 : inI c) : vc_pick35 c n (fun q0 => q0 = (pickM c n)) := by
  unfold vc_pick35
  refine ⟨fun v => v = if c < 0 then -(c + 1) else c, fun v hv => ⟨by omega, by subst hv; rfl⟩, fun h => ⟨by unfold inI at *; omega, by unfold inI at *; omega, (if_pos h).symm⟩, fun h => (if_neg h).symm⟩
theorem spec_pick35 (c : Int) (n : Int) (h0 : 1 <= n) (h1 : inI c) : FnP Try.prog 35 [.int .i64 c, .int .i64 n] (fun xR => xR = .int .i64 (pickM c n)) :=
  (walk_pick35 (vcp_pick35 c n h0 h1)).mono (by rintro _ ⟨_, rfl, rfl⟩; rfl)
def vc_jobs (n : Int) (x : (List (Vector Int 4))) (Post : (List Job) -> Prop) : Prop :=
  ∃ (I1 : Int -> List Job -> Prop) (μ1 : Int -> List Job -> Nat), I1 (0 : Int) [] /\ ∀ (v6 : Int) (r0 : List Job), I1 v6 r0 -> (((v6 < (x.length : Int)) /\ (v6 < (12 : Int))) -> (0 <= v6 /\ v6 < (x.length : Int)) /\ (0 <= (0 : Int) /\ (0 : Int) < ((4 : Nat) : Int)) /\ (1 <= (40 : Int)) /\ (inI (vat (lat x v6) (0 : Int).toNat)) /\ ∃ (I2 : Int -> Int -> List Ld -> Prop) (μ2 : Int -> Int -> List Ld -> Nat), I2 (0 : Int) (pickM (vat (lat x v6) (0 : Int).toNat) (40 : Int)) [] /\ ∀ (v8 : Int) (b1ar : Int) (r2 : List Ld), I2 v8 b1ar r2 -> (0 <= v6 /\ v6 < (x.length : Int)) /\ (0 <= (1 : Int) /\ (1 : Int) < ((4 : Nat) : Int)) /\ (1 <= (4 : Int)) /\ (inI (vat (lat x v6) (1 : Int).toNat)) /\ ((v8 < (pickM (vat (lat x v6) (1 : Int).toNat) (4 : Int))) -> (0 <= v6 /\ v6 < (x.length : Int)) /\ (0 <= (2 : Int) /\ (2 : Int) < ((4 : Nat) : Int)) /\ (inI ((1 : Int) + v8)) /\ (((1 : Int) + v8) ≠ 0) /\ (inI ((vat (lat x v6) (2 : Int).toNat).tdiv ((1 : Int) + v8))) /\ (0 <= v6 /\ v6 < (x.length : Int)) /\ (0 <= (3 : Int) /\ (3 : Int) < ((4 : Nat) : Int)) /\ (inI ((3 : Int) * v8)) /\ (inI ((1 : Int) + ((3 : Int) * v8))) /\ (((1 : Int) + ((3 : Int) * v8)) ≠ 0) /\ (inI ((vat (lat x v6) (3 : Int).toNat).tdiv ((1 : Int) + ((3 : Int) * v8)))) /\ (1 <= n) /\ (inI ((vat (lat x v6) (2 : Int).toNat).tdiv ((1 : Int) + v8))) /\ (1 <= (13 : Int)) /\ (inI ((vat (lat x v6) (3 : Int).toNat).tdiv ((1 : Int) + ((3 : Int) * v8)))) /\ ((r2 ++ [(Ld.mk (pickM ((vat (lat x v6) (2 : Int).toNat).tdiv ((1 : Int) + v8)) n) (pickM ((vat (lat x v6) (3 : Int).toNat).tdiv ((1 : Int) + ((3 : Int) * v8))) (13 : Int)))]).length <= 1073741824) /\ (inI (v8 + (1 : Int))) /\ (I2 (v8 + (1 : Int)) b1ar (r2 ++ [(Ld.mk (pickM ((vat (lat x v6) (2 : Int).toNat).tdiv ((1 : Int) + v8)) n) (pickM ((vat (lat x v6) (3 : Int).toNat).tdiv ((1 : Int) + ((3 : Int) * v8))) (13 : Int)))]) /\ μ2 (v8 + (1 : Int)) b1ar (r2 ++ [(Ld.mk (pickM ((vat (lat x v6) (2 : Int).toNat).tdiv ((1 : Int) + v8)) n) (pickM ((vat (lat x v6) (3 : Int).toNat).tdiv ((1 : Int) + ((3 : Int) * v8))) (13 : Int)))]) < μ2 v8 b1ar r2)) /\ (¬ (v8 < (pickM (vat (lat x v6) (1 : Int).toNat) (4 : Int))) -> ((r0 ++ [(Job.mk b1ar r2)]).length <= 1073741824) /\ (inI (v6 + (1 : Int))) /\ (I1 (v6 + (1 : Int)) (r0 ++ [(Job.mk b1ar r2)]) /\ μ1 (v6 + (1 : Int)) (r0 ++ [(Job.mk b1ar r2)]) < μ1 v6 r0))) /\ (¬ ((v6 < (x.length : Int)) /\ (v6 < (12 : Int))) -> Post r0)
theorem walk_jobs {n : Int} {x : (List (Vector Int 4))} {Post : (List Job) -> Prop} (hv : vc_jobs n x Post) : FnP Try.prog 11 [.int .i64 n, .lst true x.length (zYy eV4 x)] (fun x => ∃ q0, x = .lst false q0.length (zYy (e42 true) q0) /\ Post q0) := by
 refine FnP.of_walk (T := tt) (nt := 67) ttOk ttMix ⟨⟨Try.f11, Try.func11, rfl, rfl, rfl, rfl⟩⟩ (by simp) ?_
 unfold vc_jobs at hv
 change W _ _ _ ⟨67, look [(0, .int .i64 n), (1, .lst true x.length (zYy eV4 x))], [], 0⟩ _
 refine W.ty [(0, .int _ _), (1, .lst _ _ _)] rfl (W.rL (cL rfl (zZq (v := .nilS) rfl (eL (W.ty [(0, .int _ _), (1, .lst _ _ _)] rfl (W.rL (cL rfl (zZq (v := .nilS) rfl (eL (W.ty [(0, .int _ _), (1, .lst _ _ _), (5, .nilS)] rfl (W.seq' (W.rL (aI rfl rfl (eL (W.ty [(0, .int _ _), (1, .lst _ _ _), (5, .nilS), (6, .int _ _)] rfl (W.block ?_))))))))))))))))
 obtain ⟨I1, μ1, hp, hv⟩ := hv
 refine W.loop2 (fun v6 r0 => ⟨67, look [(0, .int .i64 n), (1, .lst true x.length (zYy eV4 x)), (5, .ref true 0 r0.length), (6, .int .i64 v6)], [.row 42 2 (zYy (e42 false) r0)], 0⟩) I1 μ1 (0 : Int) [] (St.to_mk (φ := [none]) rfl (rfl) ⟨Ren.int _ _, Ren.lst _ _ _, Ren.nilR rfl rfl, Ren.int _ _, trivial⟩ ⟨rfl, trivial⟩) hp ?_
 clear hp
 intro v6 r0 hI
 replace hv := hv v6 r0 hI
 clear hI
 refine W.seq' (W.rLm ⟨67, look [(0, .int .i64 n), (1, .lst true x.length (zYy eV4 x)), (5, .ref true 0 r0.length), (6, .int .i64 v6), (16, .bool (decide ((v6 < (x.length : Int)) /\ (v6 < (12 : Int)))))], [.row 42 2 (zYy (e42 false) r0)], 0⟩ ?_ ?_)
 refine mI rfl rfl (mL rfl rfl (cL rfl (zXw (v := .lst _ _ _) tt22 rfl rfl (cL rfl (zYq rfl rfl (mB rfl rfl ?_))))))
 by_cases c1 : v6 < (x.length : Int)
 refine cLg rfl rfl (dT c1) (mI rfl rfl (cLg rfl rfl (dT c1) (cL rfl (zYq rfl rfl (cL rfl (zZv (v := .bool _) rfl (dT c1) rfl (eL (zYz ⟨rfl, rfl, rfl, rfl, (congrArg AV.bool (zXv c1 (rfl))).symm, trivial⟩ rfl))))))))
 iterate 2 refine cLs rfl rfl rfl (dF c1) ?_
 refine cL rfl (zZy (v := .bool _) rfl (dF c1) rfl (eL (zYz ⟨rfl, rfl, rfl, rfl, (congrArg AV.bool (dAndF c1)).symm, trivial⟩ rfl)))
 refine W.cn rfl (fun hc => ?_) (fun hc => ?_)
 have hv := hv.1 hc
 refine W.skip (zZ (W.ty [(0, .int _ _), (1, .lst _ _ _), (5, .ref _ _ _), (6, .int _ _)] rfl (W.seq' (W.block (W.rL (mL rfl rfl (mI rfl rfl ?_)))))))
 obtain ⟨s2763, hv⟩ := hv
 refine cL rfl (zYu tt22 tt73 rfl rfl (encV4.wd true) rfl s2763 ?_)
 intro rest2763
 obtain ⟨s2764, hv⟩ := hv
 refine cL rfl (o_iaPV tt73 tt3 rfl rfl s2764 ?_)
 intro rest2764
 refine cL rfl (zZx (v := .int _ _) tt3 rfl rfl ⟨_, rfl⟩ ?_)
 obtain ⟨s2765, s2766, hv⟩ := hv
 refine cL rfl (zZu (k := 35) (fst := []) (caps := []) (ys := [.int _ _, .int _ _]) rfl rfl (spec_pick35 (vat (lat x v6) (0 : Int).toNat) (40 : Int) s2765 s2766) zk (cL rfl (o_build (qs := [(0, .int _ _)]) (cs := [.int _ _, .nilS]) tt42 rfl rfl rfl (cL rfl (zXy (p := 1) tt42 rfl rfl (cLn (o_stB (v := .agg _) (vs := [.int _ _, .nilS]) (cs2 := [.int _ _, .nilS]) tt42 rfl rfl rfl rfl rfl (Nat.le_of_ble_eq_true rfl) rfl (eL (W.ty [(0, .int _ _), (1, .lst _ _ _), (5, .ref _ _ _), (6, .int _ _), (7, .ptr _ _)] rfl (W.seq' (W.rL (aI rfl rfl (eL (W.ty [(0, .int _ _), (1, .lst _ _ _), (5, .ref _ _ _), (6, .int _ _), (7, .ptr _ _), (8, .int _ _)] rfl (W.block ?_)))))))))))))))
 obtain ⟨I2, μ2, hp, hv⟩ := hv
 refine W.loop3 (fun v8 b1ar r2 => ⟨67, look [(0, .int .i64 n), (1, .lst true x.length (zYy eV4 x)), (5, .ref true 0 r0.length), (6, .int .i64 v6), (7, .ptr 1 0), (8, .int .i64 v8)], [.row 42 2 (zYy (e42 false) r0), .box 42 [.int .i64 b1ar, .ref true 2 r2.length], .row 45 2 (zYy e45 r2)], 0⟩) I2 μ2 (0 : Int) (pickM (vat (lat x v6) (0 : Int).toNat) (40 : Int)) [] (St.to_mk (φ := [some 0, some 1, none]) rfl (rfl) ⟨Ren.int _ _, Ren.lst _ _ _, Ren.ref rfl (fun h => rfl), Ren.int _ _, Ren.ptr rfl, Ren.int _ _, trivial⟩ ⟨zE enc42 false r0 rfl, .inr ⟨_, rfl, rfl, Rens.cons (Ren.int _ _) (Rens.cons (Ren.nilR rfl rfl) (Rens.nil))⟩, rfl, trivial⟩) hp ?_
 clear hp
 intro v8 b1ar r2 hI
 replace hv := hv v8 b1ar r2 hI
 clear hI
 refine W.seq' (W.rL (mI rfl rfl (mL rfl rfl (mI rfl rfl ?_))))
 obtain ⟨s2976, hv⟩ := hv
 refine cL rfl (zYu tt22 tt73 rfl rfl (encV4.wd true) rfl s2976 ?_)
 intro rest2976
 obtain ⟨s2977, hv⟩ := hv
 refine cL rfl (o_iaPV tt73 tt3 rfl rfl s2977 ?_)
 intro rest2977
 refine cL rfl (zZx (v := .int _ _) tt3 rfl rfl ⟨_, rfl⟩ ?_)
 obtain ⟨s2978, s2979, hv⟩ := hv
 refine cL rfl (zZu (k := 35) (fst := []) (caps := []) (ys := [.int _ _, .int _ _]) rfl rfl (spec_pick35 (vat (lat x v6) (1 : Int).toNat) (4 : Int) s2978 s2979) zk (cL rfl (zYq rfl rfl (eL (W.ty [(0, .int _ _), (1, .lst _ _ _), (5, .ref _ _ _), (6, .int _ _), (7, .ptr _ _), (8, .int _ _), (33, .bool _)] rfl (W.cn rfl (fun hc => ?_) (fun hc => ?_)))))))
 have hv := hv.1 hc
 refine W.skip (zZ (W.ty [(0, .int _ _), (1, .lst _ _ _), (5, .ref _ _ _), (6, .int _ _), (7, .ptr _ _), (8, .int _ _)] rfl (W.seq' (W.block (W.rP1 [0, 1, 2, 3, 4, 5, 6, 7, 8, 9, 10, 12, 13, 14, 15, 16, 17, 18, 19, 20, 11, 21, 22, 23, 24, 25, 26] (by decide +kernel) rfl (cL rfl (o_fa tt42 rfl tt40 rfl (cL rfl (zZx (v := .ref _ _ _) tt40 rfl rfl ⟨_, rfl⟩ (mL rfl rfl (mI rfl rfl ?_)))))))))))
 obtain ⟨s2996, hv⟩ := hv
 refine cL rfl (zYu tt22 tt73 rfl rfl (encV4.wd true) rfl s2996 ?_)
 intro rest2996
 obtain ⟨s2997, hv⟩ := hv
 refine cL rfl (o_iaPV tt73 tt3 rfl rfl s2997 ?_)
 intro rest2997
 refine cL rfl (zZx (v := .int _ _) tt3 rfl rfl ⟨_, rfl⟩ (mI rfl rfl ?_))
 obtain ⟨s2998, hv⟩ := hv
 refine cL rfl (o_add rfl rfl s2998 ?_)
 obtain ⟨s2999, s3000, hv⟩ := hv
 refine cL rfl (o_quo rfl rfl s2999 s3000 (mI rfl rfl (mL rfl rfl (mI rfl rfl ?_))))
 obtain ⟨s3001, hv⟩ := hv
 refine cL rfl (zYu tt22 tt73 rfl rfl (encV4.wd true) rfl s3001 ?_)
 intro rest3001
 obtain ⟨s3002, hv⟩ := hv
 refine cL rfl (o_iaPV tt73 tt3 rfl rfl s3002 ?_)
 intro rest3002
 refine cL rfl (zZx (v := .int _ _) tt3 rfl rfl ⟨_, rfl⟩ (mI rfl rfl ?_))
 obtain ⟨s3003, hv⟩ := hv
 refine cL rfl (o_mul rfl rfl s3003 ?_)
 obtain ⟨s3004, hv⟩ := hv
 refine cL rfl (o_add rfl rfl s3004 ?_)
 obtain ⟨s3005, s3006, hv⟩ := hv
 refine cL rfl (o_quo rfl rfl s3005 s3006 ?_)
 obtain ⟨s3007, s3008, hv⟩ := hv
 refine cL rfl (zZu (k := 35) (fst := []) (caps := []) (ys := [.int _ _, .int _ _]) rfl rfl (spec_pick35 ((vat (lat x v6) (2 : Int).toNat).tdiv ((1 : Int) + v8)) n s3007 s3008) zk ?_)
 obtain ⟨s3009, s3010, hv⟩ := hv
 refine cL rfl (zZu (k := 35) (fst := []) (caps := []) (ys := [.int _ _, .int _ _]) rfl rfl (spec_pick35 ((vat (lat x v6) (3 : Int).toNat).tdiv ((1 : Int) + ((3 : Int) * v8))) (13 : Int) s3009 s3010) zk (cL rfl (o_build (qs := [(0, .int _ _), (1, .int _ _)]) (cs := [.int _ _, .int _ _]) tt45 rfl rfl rfl (cL rfl (o_bs1 (v := .agg _) (q := 3) tt40 tt45 rfl rfl rfl rfl rfl rfl rfl rfl ?_)))))
 obtain ⟨s3011, hv⟩ := hv
 refine cL rfl (o_apR (p := 4) (q := (r2 ++ [(Ld.mk (pickM ((vat (lat x v6) (2 : Int).toNat).tdiv ((1 : Int) + v8)) n) (pickM ((vat (lat x v6) (3 : Int).toNat).tdiv ((1 : Int) + ((3 : Int) * v8))) (13 : Int)))]).length) tt40 tt45 rfl rfl (src_ref rfl rfl) rfl rfl (zYw (enc45.wd false) _) (Nat.le_trans (Nat.le_of_eq (@List.length_append _ (r2) ([(Ld.mk (pickM ((vat (lat x v6) (2 : Int).toNat).tdiv ((1 : Int) + v8)) n) (pickM ((vat (lat x v6) (3 : Int).toNat).tdiv ((1 : Int) + ((3 : Int) * v8))) (13 : Int)))])).symm) s3011) rfl (@List.length_append _ (r2) ([(Ld.mk (pickM ((vat (lat x v6) (2 : Int).toNat).tdiv ((1 : Int) + v8)) n) (pickM ((vat (lat x v6) (3 : Int).toNat).tdiv ((1 : Int) + ((3 : Int) * v8))) (13 : Int)))])).symm (encL_app e45 r2 [(Ld.mk (pickM ((vat (lat x v6) (2 : Int).toNat).tdiv ((1 : Int) + v8)) n) (pickM ((vat (lat x v6) (3 : Int).toNat).tdiv ((1 : Int) + ((3 : Int) * v8))) (13 : Int)))]) (cL rfl (o_fa tt42 rfl tt40 rfl (cLn (o_stB (v := .ref _ _ _) (vs := [.ref _ _ _]) (cs2 := [.int _ _, .ref _ _ _]) tt40 rfl rfl rfl rfl rfl (Nat.le_of_ble_eq_true rfl) rfl (eL (zYv (zZ (W.ty [(0, .int _ _), (1, .lst _ _ _), (5, .ref _ _ _), (6, .int _ _), (7, .ptr _ _), (8, .int _ _)] rfl (W.rL1 (mI rfl rfl ?_)))))))))))
 obtain ⟨s3012, hv⟩ := hv
 refine cL rfl (o_add rfl rfl s3012 (aI rfl rfl (eL (zZ (⟨(), (v8 + (1 : Int)), b1ar, (r2 ++ [(Ld.mk (pickM ((vat (lat x v6) (2 : Int).toNat).tdiv ((1 : Int) + v8)) n) (pickM ((vat (lat x v6) (3 : Int).toNat).tdiv ((1 : Int) + ((3 : Int) * v8))) (13 : Int)))]), hv, St.to_mk (φ := [some 0, some 1, some 4]) rfl (rfl) ⟨Ren.int _ _, Ren.lst _ _ _, Ren.ref rfl (fun h => rfl), Ren.int _ _, Ren.ptr rfl, Ren.int _ _, trivial⟩ ⟨zE enc42 false r0 rfl, .inr ⟨_, rfl, rfl, Rens.cons (Ren.int _ _) (Rens.cons (Ren.ref rfl (fun h => rfl)) (Rens.nil))⟩, zE enc45 false (r2 ++ [(Ld.mk (pickM ((vat (lat x v6) (2 : Int).toNat).tdiv ((1 : Int) + v8)) n) (pickM ((vat (lat x v6) (3 : Int).toNat).tdiv ((1 : Int) + ((3 : Int) * v8))) (13 : Int)))]) rfl, trivial⟩⟩)))))
 have hv := hv.2 hc
 refine W.exit (zZt (zZt (zYs (zZ (W.ty [(0, .int _ _), (1, .lst _ _ _), (5, .ref _ _ _), (6, .int _ _), (7, .ptr _ _)] rfl (W.sealB false 2 1 (bcs' := [.int .i64 b1ar, .lst false r2.length (zYy e45 r2)]) (l := [(0, .int .i64 n), (1, .lst true x.length (zYy eV4 x)), (5, .ref true 0 r0.length), (6, .int .i64 v6), (7, .ptr 1 0)]) rfl rfl (encL_sl enc45 false r2) ⟨.inl rfl, .inl rfl, .inl rfl, .inl rfl, .inl rfl, trivial⟩ ⟨.inl rfl, .inr ⟨_, _, rfl, (zYw (enc45.wd false) _), rfl⟩, trivial⟩ rfl (W.rL1g (cL rfl (zZp (v := .ref _ _ _) rfl (cL rfl (zYp (cs := [.int _ _, .lst _ _ _]) tt42 rfl rfl ⟨_, rfl⟩ rfl (cL rfl (o_bs1 (v := .agg _) (q := 3) tt26 tt42 rfl rfl rfl rfl rfl rfl rfl rfl ?_)))))))))))))
 obtain ⟨s3013, hv⟩ := hv
 refine cL rfl (o_apR (p := 4) (q := (r0 ++ [(Job.mk b1ar r2)]).length) tt26 tt42 rfl rfl (src_ref rfl rfl) rfl rfl (zYw (enc42.wd false) _) (Nat.le_trans (Nat.le_of_eq (@List.length_append _ (r0) ([(Job.mk b1ar r2)])).symm) s3013) rfl (@List.length_append _ (r0) ([(Job.mk b1ar r2)])).symm (encL_app (e42 false) r0 [(Job.mk b1ar r2)]) (cL rfl (zZq (v := .ref _ _ _) rfl (eL (go_nil (zYv (zZ (W.ty [(0, .int _ _), (1, .lst _ _ _), (5, .ref _ _ _), (6, .int _ _)] rfl (W.rL1 (mI rfl rfl ?_))))))))))
 obtain ⟨s3014, hv⟩ := hv
 refine cL rfl (o_add rfl rfl s3014 (aI rfl rfl (eL (zZ (⟨(), (v6 + (1 : Int)), (r0 ++ [(Job.mk b1ar r2)]), hv, St.to_mk (φ := [some 4]) rfl (rfl) ⟨Ren.int _ _, Ren.lst _ _ _, Ren.ref rfl (fun h => rfl), Ren.int _ _, trivial⟩ ⟨zE enc42 false (r0 ++ [(Job.mk b1ar r2)]) rfl, trivial⟩⟩)))))
 have hv := hv.2 hc
 refine W.exit (zZt (zZt (zYs (zZ (W.ty [(5, .ref _ _ _)] rfl (W.rL (cL rfl (zZp (v := .ref _ _ _) rfl (cL rfl (zZq (v := .ref _ _ _) rfl (eL (W.ty [(4, .ref _ _ _)] rfl (W.ret (rt (rt_t (v := .ref _ _ _) rfl (rt_n (⟨_, rs_ref enc42 4 _ rfl rfl, r0, rfl, hv⟩)))))))))))))))))
set_option maxHeartbeats 4000000 in
theorem vcp_jobs (n : Int) (x : (List (Vector Int 4))) (h0 : 1 <= n /\ n <= 1000000) (h1 : x.length <= 9223372036854775807) (h2 : ∀ y ∈ x, ∀ k, inI (vat y k)) : vc_jobs n x (fun q0 => q0 = (jobsM23 n x)) := by
  unfold vc_jobs
  simp only [show (0 : Int).toNat = 0 from rfl, show (1 : Int).toNat = 1 from rfl, show (2 : Int).toNat = 2 from rfl, show (3 : Int).toNat = 3 from rfl]
  refine ⟨fun v l => ∃ i : Nat, v = i /\ i <= x.length /\ i <= 12 /\ l = (x.take i).map (jobM23 n), fun v _ => 12 - v.toNat, ⟨0, rfl, by omega, by omega, rfl⟩, ?_⟩
  rintro _ _ ⟨i, rfl, hi, h12, rfl⟩
  refine ⟨fun k1 => ?_, fun k1 => ?_⟩
  . have hm := h2 _ (lat_mem (xs := x) (i := (i : Int)) ⟨by omega, by omega⟩)
    have p1 := zXz (c := vat (lat x (i : Int)) 1) (n := 4) (by omega)
    have ix : 0 <= (i : Int) /\ (i : Int) < (x.length : Int) := ⟨by omega, by omega⟩
    refine ⟨ix, ⟨by omega, by omega⟩, by omega, hm 0, fun v a l => ∃ k : Nat, v = k /\ (k : Int) <= pickM (vat (lat x (i : Int)) 1) 4 /\ a = pickM (vat (lat x (i : Int)) 0) 40 /\ l = (List.range k).map fun k : Nat => ⟨pickM ((vat (lat x (i : Int)) 2).tdiv (1 + k)) n, pickM ((vat (lat x (i : Int)) 3).tdiv (1 + 3 * k)) 13⟩, fun v _ _ => 4 - v.toNat, ⟨0, rfl, by omega, rfl, rfl⟩, ?_⟩
    rintro _ _ _ ⟨k, rfl, hk, rfl, rfl⟩
    refine ⟨ix, ⟨by omega, by omega⟩, by omega, hm 1, fun k2 => ?_, fun k2 => ?_⟩
    . have t2 := inI_td (x := vat (lat x (i : Int)) 2) (k := 1 + k) (by omega) (hm 2)
      have t3 := inI_td (x := vat (lat x (i : Int)) 3) (k := 1 + 3 * k) (by omega) (hm 3)
      refine ⟨ix, ⟨by omega, by omega⟩, by unfold inI; omega, by omega, t2, ix, ⟨by omega, by omega⟩, by unfold inI; omega, by unfold inI; omega, by omega, t3, by omega, t2, by omega, t3, by simp; omega, by unfold inI; omega, ⟨k + 1, by omega, by omega, rfl, ?_⟩, by show 4 - ((k : Int) + 1).toNat < 4 - (k : Int).toNat; omega⟩
      rw [map_range_succ]
    . have ej : Job.mk (pickM (vat (lat x (i : Int)) 0) 40) ((List.range k).map fun k : Nat => ⟨pickM ((vat (lat x (i : Int)) 2).tdiv (1 + k)) n, pickM ((vat (lat x (i : Int)) 3).tdiv (1 + 3 * k)) 13⟩) = jobM23 n (lat x (i : Int)) := by
        unfold jobM23
        rw [show (pickM (vat (lat x (i : Int)) 1) 4).toNat = k by omega]
      rw [ej]
      refine ⟨by simp; omega, by unfold inI; omega, ⟨i + 1, by omega, by omega, by omega, ?_⟩, by show 12 - ((i : Int) + 1).toNat < 12 - (i : Int).toNat; omega⟩
      rw [take_succ_lat (by omega), List.map_append]; rfl
  . unfold jobsM23
    rcases Nat.lt_or_ge i 12 with h | h
    . show _ = (x.take 12).map (jobM23 n)
      rw [List.take_of_length_le (l := x) (i := i) (by omega), List.take_of_length_le (l := x) (i := 12) (by omega)]
    . rw [show i = 12 by omega]
theorem spec_jobs (n : Int) (x : (List (Vector Int 4))) (h0 : 1 <= n /\ n <= 1000000) (h1 : x.length <= 9223372036854775807) (h2 : ∀ y ∈ x, ∀ k, inI (vat y k)) : FnP Try.prog 11 [.int .i64 n, .lst true x.length (zYy eV4 x)] (fun xR => xR = .lst false (jobsM23 n x).length (zYy (e42 true) (jobsM23 n x))) :=
  (walk_jobs (vcp_jobs n x h0 h1 h2)).mono (by rintro _ ⟨_, rfl, rfl⟩; rfl)
def vc_lawmono (n : Int) (x : (List (Vector Int 4))) (wh : Int) (more : Int) (arr : Int) (tm : Int) (Post : Bool -> Prop) : Prop :=
  (1 <= (3 : Int)) /\ (inI n) /\ (inI ((1 : Int) + (pickM n (3 : Int)))) /\ (1 <= (1 : Int) /\ (1 : Int) <= 1000000) /\ (x.length <= 9223372036854775807) /\ (∀ y ∈ x, ∀ k, inI (vat y k)) /\ ((jobsM23 (1 : Int) x).length <= 1073741824) /\ ((singleM (jobsM23 (1 : Int) x)).length <= 1073741824) /\ ((singleM (jobsM23 (1 : Int) x)).length <= 1073741824) /\ (1 <= (40 : Int)) /\ (inI arr) /\ (1 <= (20 : Int)) /\ (inI tm) /\ (((singleM (jobsM23 (1 : Int) x)) ++ [(Job.mk (pickM arr (40 : Int)) [(Ld.mk 0 (pickM tm (20 : Int)))])]).length <= 1073741824) /\ ∃ J1 : List Job -> Int -> Prop, (∀ (r2 : List Job) (v18 : Int), J1 r2 v18 -> ∃ (I2 : Int -> Prop) (μ2 : Int -> Nat), I2 (0 : Int) /\ ∀ (v19 : Int), I2 v19 -> ((v19 < ((singleM (jobsM23 (1 : Int) x)).length : Int)) -> ([((1 : Int) + (pickM n (3 : Int)))].length <= 9223372036854775807) /\ (∀ q ∈ (singleM (jobsM23 (1 : Int) x)), q.wk.length <= 9223372036854775807) /\ ((singleM (jobsM23 (1 : Int) x)).length <= 9223372036854775807) /\ ([((1 : Int) + (pickM n (3 : Int)))].length <= 9223372036854775807) /\ (∀ q ∈ r2, q.wk.length <= 9223372036854775807) /\ (r2.length <= 9223372036854775807) /\ ([((1 : Int) + (pickM n (3 : Int)))].length <= 9223372036854775807) /\ (∀ q ∈ ((singleM (jobsM23 (1 : Int) x)) ++ [(Job.mk (pickM arr (40 : Int)) [(Ld.mk 0 (pickM tm (20 : Int)))])]), q.wk.length <= 9223372036854775807) /\ (((singleM (jobsM23 (1 : Int) x)) ++ [(Job.mk (pickM arr (40 : Int)) [(Ld.mk 0 (pickM tm (20 : Int)))])]).length <= 9223372036854775807) /\ (((¬ (finishM [((1 : Int) + (pickM n (3 : Int)))] (singleM (jobsM23 (1 : Int) x)) v19).2 = (0 : Int)) \/ ((¬ (finishM [((1 : Int) + (pickM n (3 : Int)))] r2 v19).2 = (0 : Int)) \/ ((¬ (finishM [((1 : Int) + (pickM n (3 : Int)))] ((singleM (jobsM23 (1 : Int) x)) ++ [(Job.mk (pickM arr (40 : Int)) [(Ld.mk 0 (pickM tm (20 : Int)))])]) v19).2 = (0 : Int)) \/ ((((finishM [((1 : Int) + (pickM n (3 : Int)))] r2 v19).1) < ((finishM [((1 : Int) + (pickM n (3 : Int)))] (singleM (jobsM23 (1 : Int) x)) v19).1)) \/ (((finishM [((1 : Int) + (pickM n (3 : Int)))] ((singleM (jobsM23 (1 : Int) x)) ++ [(Job.mk (pickM arr (40 : Int)) [(Ld.mk 0 (pickM tm (20 : Int)))])]) v19).1) < ((finishM [((1 : Int) + (pickM n (3 : Int)))] (singleM (jobsM23 (1 : Int) x)) v19).1)))))) -> Post false) /\ (¬ ((¬ (finishM [((1 : Int) + (pickM n (3 : Int)))] (singleM (jobsM23 (1 : Int) x)) v19).2 = (0 : Int)) \/ ((¬ (finishM [((1 : Int) + (pickM n (3 : Int)))] r2 v19).2 = (0 : Int)) \/ ((¬ (finishM [((1 : Int) + (pickM n (3 : Int)))] ((singleM (jobsM23 (1 : Int) x)) ++ [(Job.mk (pickM arr (40 : Int)) [(Ld.mk 0 (pickM tm (20 : Int)))])]) v19).2 = (0 : Int)) \/ ((((finishM [((1 : Int) + (pickM n (3 : Int)))] r2 v19).1) < ((finishM [((1 : Int) + (pickM n (3 : Int)))] (singleM (jobsM23 (1 : Int) x)) v19).1)) \/ (((finishM [((1 : Int) + (pickM n (3 : Int)))] ((singleM (jobsM23 (1 : Int) x)) ++ [(Job.mk (pickM arr (40 : Int)) [(Ld.mk 0 (pickM tm (20 : Int)))])]) v19).1) < ((finishM [((1 : Int) + (pickM n (3 : Int)))] (singleM (jobsM23 (1 : Int) x)) v19).1)))))) -> ((0 <= v19 /\ v19 < ((singleM (jobsM23 (1 : Int) x)).length : Int)) /\ (0 <= v18 /\ v18 < ((singleM (jobsM23 (1 : Int) x)).length : Int)) /\ ((((lat (singleM (jobsM23 (1 : Int) x)) v19).ar) < ((lat (singleM (jobsM23 (1 : Int) x)) v18).ar)) -> ((¬ (finishM [((1 : Int) + (pickM n (3 : Int)))] r2 v19).1 = (finishM [((1 : Int) + (pickM n (3 : Int)))] (singleM (jobsM23 (1 : Int) x)) v19).1) -> True) /\ (¬ (¬ (finishM [((1 : Int) + (pickM n (3 : Int)))] r2 v19).1 = (finishM [((1 : Int) + (pickM n (3 : Int)))] (singleM (jobsM23 (1 : Int) x)) v19).1) -> (0 <= v19 /\ v19 < ((singleM (jobsM23 (1 : Int) x)).length : Int)) /\ (1 <= (40 : Int)) /\ (inI arr) /\ True)) /\ (¬ (((lat (singleM (jobsM23 (1 : Int) x)) v19).ar) < ((lat (singleM (jobsM23 (1 : Int) x)) v18).ar)) -> (0 <= v19 /\ v19 < ((singleM (jobsM23 (1 : Int) x)).length : Int)) /\ (1 <= (40 : Int)) /\ (inI arr) /\ True)) /\ ((((((lat (singleM (jobsM23 (1 : Int) x)) v19).ar) < ((lat (singleM (jobsM23 (1 : Int) x)) v18).ar)) /\ ((¬ (finishM [((1 : Int) + (pickM n (3 : Int)))] r2 v19).1 = (finishM [((1 : Int) + (pickM n (3 : Int)))] (singleM (jobsM23 (1 : Int) x)) v19).1) \/ ((((lat (singleM (jobsM23 (1 : Int) x)) v19).ar) < (pickM arr (40 : Int))) /\ (¬ (finishM [((1 : Int) + (pickM n (3 : Int)))] ((singleM (jobsM23 (1 : Int) x)) ++ [(Job.mk (pickM arr (40 : Int)) [(Ld.mk 0 (pickM tm (20 : Int)))])]) v19).1 = (finishM [((1 : Int) + (pickM n (3 : Int)))] (singleM (jobsM23 (1 : Int) x)) v19).1))) \/ ¬ (((lat (singleM (jobsM23 (1 : Int) x)) v19).ar) < ((lat (singleM (jobsM23 (1 : Int) x)) v18).ar)) /\ ((((lat (singleM (jobsM23 (1 : Int) x)) v19).ar) < (pickM arr (40 : Int))) /\ (¬ (finishM [((1 : Int) + (pickM n (3 : Int)))] ((singleM (jobsM23 (1 : Int) x)) ++ [(Job.mk (pickM arr (40 : Int)) [(Ld.mk 0 (pickM tm (20 : Int)))])]) v19).1 = (finishM [((1 : Int) + (pickM n (3 : Int)))] (singleM (jobsM23 (1 : Int) x)) v19).1))) -> Post false) /\ (¬ ((((lat (singleM (jobsM23 (1 : Int) x)) v19).ar) < ((lat (singleM (jobsM23 (1 : Int) x)) v18).ar)) /\ ((¬ (finishM [((1 : Int) + (pickM n (3 : Int)))] r2 v19).1 = (finishM [((1 : Int) + (pickM n (3 : Int)))] (singleM (jobsM23 (1 : Int) x)) v19).1) \/ ((((lat (singleM (jobsM23 (1 : Int) x)) v19).ar) < (pickM arr (40 : Int))) /\ (¬ (finishM [((1 : Int) + (pickM n (3 : Int)))] ((singleM (jobsM23 (1 : Int) x)) ++ [(Job.mk (pickM arr (40 : Int)) [(Ld.mk 0 (pickM tm (20 : Int)))])]) v19).1 = (finishM [((1 : Int) + (pickM n (3 : Int)))] (singleM (jobsM23 (1 : Int) x)) v19).1))) \/ ¬ (((lat (singleM (jobsM23 (1 : Int) x)) v19).ar) < ((lat (singleM (jobsM23 (1 : Int) x)) v18).ar)) /\ ((((lat (singleM (jobsM23 (1 : Int) x)) v19).ar) < (pickM arr (40 : Int))) /\ (¬ (finishM [((1 : Int) + (pickM n (3 : Int)))] ((singleM (jobsM23 (1 : Int) x)) ++ [(Job.mk (pickM arr (40 : Int)) [(Ld.mk 0 (pickM tm (20 : Int)))])]) v19).1 = (finishM [((1 : Int) + (pickM n (3 : Int)))] (singleM (jobsM23 (1 : Int) x)) v19).1))) -> (inI (v19 + (1 : Int))) /\ (I2 (v19 + (1 : Int)) /\ μ2 (v19 + (1 : Int)) < μ2 v19))))) /\ (¬ (v19 < ((singleM (jobsM23 (1 : Int) x)).length : Int)) -> Post true)) /\ ((((0 : Int) < ((singleM (jobsM23 (1 : Int) x)).length : Int)) -> (1 <= ((singleM (jobsM23 (1 : Int) x)).length : Int)) /\ (inI wh) /\ (0 <= (pickM wh ((singleM (jobsM23 (1 : Int) x)).length : Int)) /\ (pickM wh ((singleM (jobsM23 (1 : Int) x)).length : Int)) < ((singleM (jobsM23 (1 : Int) x)).length : Int)) /\ (((0 : Int) < ((((lat (singleM (jobsM23 (1 : Int) x)) (pickM wh ((singleM (jobsM23 (1 : Int) x)).length : Int))).wk).length : Nat) : Int)) -> (0 <= (pickM wh ((singleM (jobsM23 (1 : Int) x)).length : Int)) /\ (pickM wh ((singleM (jobsM23 (1 : Int) x)).length : Int)) < ((singleM (jobsM23 (1 : Int) x)).length : Int)) /\ (0 <= (0 : Int) /\ (0 : Int) < (((lat (singleM (jobsM23 (1 : Int) x)) (pickM wh ((singleM (jobsM23 (1 : Int) x)).length : Int))).wk).length : Int)) /\ (1 <= (30 : Int)) /\ (inI more) /\ (inI (((lat ((lat (singleM (jobsM23 (1 : Int) x)) (pickM wh ((singleM (jobsM23 (1 : Int) x)).length : Int))).wk) (0 : Int)).tm) + (pickM more (30 : Int)))) /\ (0 <= (pickM wh ((singleM (jobsM23 (1 : Int) x)).length : Int)) /\ (pickM wh ((singleM (jobsM23 (1 : Int) x)).length : Int)) < ((singleM (jobsM23 (1 : Int) x)).length : Int)) /\ J1 ((singleM (jobsM23 (1 : Int) x)).set (pickM wh ((singleM (jobsM23 (1 : Int) x)).length : Int)).toNat (⟨(lat (singleM (jobsM23 (1 : Int) x)) (pickM wh ((singleM (jobsM23 (1 : Int) x)).length : Int))).ar, [(Ld.mk 0 (((lat ((lat (singleM (jobsM23 (1 : Int) x)) (pickM wh ((singleM (jobsM23 (1 : Int) x)).length : Int))).wk) (0 : Int)).tm) + (pickM more (30 : Int))))]⟩ : Job)) (pickM wh ((singleM (jobsM23 (1 : Int) x)).length : Int))) /\ (¬ ((0 : Int) < ((((lat (singleM (jobsM23 (1 : Int) x)) (pickM wh ((singleM (jobsM23 (1 : Int) x)).length : Int))).wk).length : Nat) : Int)) -> J1 (singleM (jobsM23 (1 : Int) x)) (pickM wh ((singleM (jobsM23 (1 : Int) x)).length : Int)))) /\ (¬ ((0 : Int) < ((singleM (jobsM23 (1 : Int) x)).length : Int)) -> J1 (singleM (jobsM23 (1 : Int) x)) (-1 : Int)))
theorem walk_lawmono {n : Int} {x : (List (Vector Int 4))} {wh : Int} {more : Int} {arr : Int} {tm : Int} {Post : Bool -> Prop} (hv : vc_lawmono n x wh more arr tm Post) : FnP Try.prog 5 [.int .i64 n, .lst true x.length (zYy eV4 x), .int .i64 wh, .int .i64 more, .int .i64 arr, .int .i64 tm] (fun x => ∃ q0, x = .bool q0 /\ Post q0) := by
 refine FnP.of_walk (T := tt) (nt := 159) ttOk ttMix ⟨⟨Try.f5, Try.func5, rfl, rfl, rfl, rfl⟩⟩ (by simp) ?_
 unfold vc_lawmono at hv
 change W _ _ _ ⟨159, look [(0, .int .i64 n), (1, .lst true x.length (zYy eV4 x)), (2, .int .i64 wh), (3, .int .i64 more), (4, .int .i64 arr), (5, .int .i64 tm)], [], 0⟩ _
 refine W.ty [(0, .int _ _), (1, .lst _ _ _), (2, .int _ _), (3, .int _ _), (4, .int _ _), (5, .int _ _)] rfl (W.rL (aB rfl rfl (eL (W.ty [(0, .int _ _), (1, .lst _ _ _), (2, .int _ _), (3, .int _ _), (4, .int _ _), (5, .int _ _)] rfl (W.rL (cL rfl (zZu (k := 9) (fst := []) (caps := []) (ys := []) rfl rfl (spec_sane) zk (aB rfl rfl (eL (W.ty [(0, .int _ _), (1, .lst _ _ _), (2, .int _ _), (3, .int _ _), (4, .int _ _), (5, .int _ _), (13, .bool _)] rfl (W.rL (mI rfl rfl ?_))))))))))))
 obtain ⟨s1, s2, hv⟩ := hv
 refine cL rfl (zZu (k := 16) (fst := []) (caps := []) (ys := [.int _ _, .int _ _]) rfl rfl (spec_pick16 n (3 : Int) s1 s2) zk ?_)
 obtain ⟨s3, hv⟩ := hv
 refine cL rfl (o_add rfl rfl s3 (cL rfl (o_bs1 (v := .int _ _) (q := 0) tt24 tt3 rfl rfl rfl rfl rfl rfl rfl rfl (cL rfl (zZq (v := .ref _ _ _) rfl (eL (W.ty [(1, .lst _ _ _), (2, .int _ _), (3, .int _ _), (4, .int _ _), (5, .int _ _), (13, .bool _), (14, .ref _ _ _)] rfl (W.rL (mL rfl rfl ?_)))))))))
 obtain ⟨s4, s5, s6, hv⟩ := hv
 refine cL rfl (zZu (k := 11) (fst := []) (caps := []) (ys := [.int _ _, .lst _ _ _]) rfl rfl (spec_jobs (1 : Int) x s4 s5 s6) zk ?_)
 obtain ⟨s7, hv⟩ := hv
 refine cL rfl (zZu (k := 17) (fst := []) (caps := []) (ys := [.lst _ _ _]) rfl rfl (spec_single (jobsM23 (1 : Int) x) s7) zk (aL rfl rfl (eL (W.ty [(2, .int _ _), (3, .int _ _), (4, .int _ _), (5, .int _ _), (13, .bool _), (14, .ref _ _ _), (15, .lst _ _ _)] rfl (W.rL (cL rfl (o_buildS (q := 1) (qs := []) (cs := []) tt26 tt42 rfl rfl rfl rfl (mL rfl rfl ?_))))))))
 obtain ⟨s8, hv⟩ := hv
 refine cL rfl (o_apR (p := 2) (q := (singleM (jobsM23 (1 : Int) x)).length) tt26 tt42 rfl rfl (src_lst (enc42.wd true) _ _ rfl) (zYw (enc42.wd true) _) rfl rfl (by simpa using s8) rfl (Nat.zero_add _) (List.nil_append _) (cL rfl (zZq (v := .ref _ _ _) rfl (eL (W.ty [(2, .int _ _), (3, .int _ _), (4, .int _ _), (5, .int _ _), (13, .bool _), (14, .ref _ _ _), (15, .lst _ _ _), (16, .ref _ _ _)] rfl (W.rL (cL rfl (o_buildS (q := 3) (qs := []) (cs := []) tt26 tt42 rfl rfl rfl rfl (mL rfl rfl ?_)))))))))
 obtain ⟨s9, hv⟩ := hv
 refine cL rfl (o_apR (p := 4) (q := (singleM (jobsM23 (1 : Int) x)).length) tt26 tt42 rfl rfl (src_lst (enc42.wd true) _ _ rfl) (zYw (enc42.wd true) _) rfl rfl (by simpa using s9) rfl (Nat.zero_add _) (List.nil_append _) (mI rfl rfl ?_))
 obtain ⟨s10, s11, hv⟩ := hv
 refine cL rfl (zZu (k := 16) (fst := []) (caps := []) (ys := [.int _ _, .int _ _]) rfl rfl (spec_pick16 arr (40 : Int) s10 s11) zk (mI rfl rfl ?_))
 obtain ⟨s12, s13, hv⟩ := hv
 refine cL rfl (zZu (k := 16) (fst := []) (caps := []) (ys := [.int _ _, .int _ _]) rfl rfl (spec_pick16 tm (20 : Int) s12 s13) zk (cL rfl (o_build (qs := [(1, .int _ _)]) (cs := [.int _ _, .int _ _]) tt45 rfl rfl rfl (cL rfl (o_bs1 (v := .agg _) (q := 5) tt40 tt45 rfl rfl rfl rfl rfl rfl rfl rfl (cL rfl (o_build (qs := [(0, .int _ _), (1, .ref _ _ _)]) (cs := [.int _ _, .ref _ _ _]) tt42 rfl rfl rfl (cL rfl (o_bs1 (v := .agg _) (q := 6) tt26 tt42 rfl rfl rfl rfl rfl rfl rfl rfl ?_)))))))))
 obtain ⟨s14, hv⟩ := hv
 refine cL rfl (o_apR (p := 7) (q := ((singleM (jobsM23 (1 : Int) x)) ++ [(Job.mk (pickM arr (40 : Int)) [(Ld.mk 0 (pickM tm (20 : Int)))])]).length) tt26 tt42 rfl rfl (src_ref rfl rfl) rfl rfl (zYw (enc42.wd true) _) (Nat.le_trans (Nat.le_of_eq (@List.length_append _ (singleM (jobsM23 (1 : Int) x)) ([(Job.mk (pickM arr (40 : Int)) [(Ld.mk 0 (pickM tm (20 : Int)))])])).symm) s14) rfl (@List.length_append _ (singleM (jobsM23 (1 : Int) x)) ([(Job.mk (pickM arr (40 : Int)) [(Ld.mk 0 (pickM tm (20 : Int)))])])).symm rfl (cL rfl (zZq (v := .ref _ _ _) rfl (eL (W.ty [(2, .int _ _), (3, .int _ _), (4, .int _ _), (13, .bool _), (14, .ref _ _ _), (15, .lst _ _ _), (16, .ref _ _ _), (17, .ref _ _ _)] rfl (W.sealX true 5 7 (bcs' := zYy (e42 true) (singleM (jobsM23 (1 : Int) x)) ++ ([.int .i64 (pickM arr (40 : Int)), .lst true [(Ld.mk 0 (pickM tm (20 : Int)))].length (zYy e45 [(Ld.mk 0 (pickM tm (20 : Int)))])] : List AV)) (fin := zYy (e42 true) ((singleM (jobsM23 (1 : Int) x)) ++ [(Job.mk (pickM arr (40 : Int)) [(Ld.mk 0 (pickM tm (20 : Int)))])])) (l := [(2, .int .i64 wh), (3, .int .i64 more), (4, .int .i64 arr), (13, .bool true), (14, .ref false 0 1), (15, .lst false (singleM (jobsM23 (1 : Int) x)).length (zYy (e42 true) (singleM (jobsM23 (1 : Int) x)))), (16, .ref false 2 ((singleM (jobsM23 (1 : Int) x)).length)), (17, .ref false 7 (((singleM (jobsM23 (1 : Int) x)) ++ [(Job.mk (pickM arr (40 : Int)) [(Ld.mk 0 (pickM tm (20 : Int)))])]).length))]) rfl rfl (encL_sl enc45 true [(Ld.mk 0 (pickM tm (20 : Int)))]) ⟨.inl rfl, .inl rfl, .inl rfl, .inl rfl, .inl rfl, .inl rfl, .inl rfl, .inl rfl, trivial⟩ (sealC_app (sealC_rfl _) ⟨.inl rfl, .inr ⟨_, _, rfl, rfl, rfl⟩, trivial⟩) (encL_snoc rfl) rfl rfl (W.rL (aI rfl rfl (eL (W.ty [(2, .int _ _), (3, .int _ _), (4, .int _ _), (13, .bool _), (14, .ref _ _ _), (15, .lst _ _ _), (16, .ref _ _ _), (17, .ref _ _ _), (18, .int _ _)] rfl ?_))))))))))
 obtain ⟨J1, hj, hv⟩ := hv
 refine W.mid2 (fun r2 v18 => ⟨159, look [(4, .int .i64 arr), (13, .bool true), (14, .ref false 0 ([((1 : Int) + (pickM n (3 : Int)))].length)), (15, .lst false (singleM (jobsM23 (1 : Int) x)).length (zYy (e42 true) (singleM (jobsM23 (1 : Int) x)))), (16, .ref false 2 r2.length), (17, .ref false 7 (((singleM (jobsM23 (1 : Int) x)) ++ [(Job.mk (pickM arr (40 : Int)) [(Ld.mk 0 (pickM tm (20 : Int)))])]).length)), (18, .int .i64 v18)], [.row 3 1 (zYy zYx [((1 : Int) + (pickM n (3 : Int)))]), .dead, .row 42 2 (zYy (e42 true) r2), .dead, .dead, .dead, .dead, .row 42 2 (zYy (e42 true) ((singleM (jobsM23 (1 : Int) x)) ++ [(Job.mk (pickM arr (40 : Int)) [(Ld.mk 0 (pickM tm (20 : Int)))])]))], 0⟩) J1 ?_ ?_
 intro r2 v18
 intro hv
 replace hv := hj r2 v18 hv
 refine W.seq' (W.rL (aI rfl rfl (eL (W.ty [(4, .int _ _), (13, .bool _), (14, .ref _ _ _), (15, .lst _ _ _), (16, .ref _ _ _), (17, .ref _ _ _), (18, .int _ _), (19, .int _ _)] rfl (W.block ?_)))))
 obtain ⟨I2, μ2, hp, hv⟩ := hv
 refine W.loop1 (fun v19 => ⟨159, look [(4, .int .i64 arr), (13, .bool true), (14, .ref false 0 ([((1 : Int) + (pickM n (3 : Int)))].length)), (15, .lst false (singleM (jobsM23 (1 : Int) x)).length (zYy (e42 true) (singleM (jobsM23 (1 : Int) x)))), (16, .ref false 2 r2.length), (17, .ref false 7 (((singleM (jobsM23 (1 : Int) x)) ++ [(Job.mk (pickM arr (40 : Int)) [(Ld.mk 0 (pickM tm (20 : Int)))])]).length)), (18, .int .i64 v18), (19, .int .i64 v19)], [.row 3 1 (zYy zYx [((1 : Int) + (pickM n (3 : Int)))]), .dead, .row 42 2 (zYy (e42 true) r2), .dead, .dead, .dead, .dead, .row 42 2 (zYy (e42 true) ((singleM (jobsM23 (1 : Int) x)) ++ [(Job.mk (pickM arr (40 : Int)) [(Ld.mk 0 (pickM tm (20 : Int)))])]))], 0⟩) I2 μ2 (0 : Int) (St.to_mk (φ := [some 0, none, some 2, none, none, none, none, some 7]) rfl (rfl) ⟨Ren.int _ _, Ren.bool _, Ren.ref rfl id, Ren.lst _ _ _, Ren.ref rfl id, Ren.ref rfl id, Ren.int _ _, Ren.int _ _, trivial⟩ ⟨zE zZw false [((1 : Int) + (pickM n (3 : Int)))] rfl, rfl, zE enc42 true r2 rfl, rfl, rfl, rfl, rfl, zE enc42 true ((singleM (jobsM23 (1 : Int) x)) ++ [(Job.mk (pickM arr (40 : Int)) [(Ld.mk 0 (pickM tm (20 : Int)))])]) rfl, trivial⟩) hp ?_
 clear hp
 intro v19 hI
 replace hv := hv v19 hI
 clear hI
 refine W.seq' (W.rL (mI rfl rfl (mL rfl rfl (cL rfl (zXw (v := .lst _ _ _) tt26 rfl rfl (cL rfl (zYq rfl rfl (eL (W.ty [(4, .int _ _), (13, .bool _), (14, .ref _ _ _), (15, .lst _ _ _), (16, .ref _ _ _), (17, .ref _ _ _), (18, .int _ _), (19, .int _ _), (83, .bool _)] rfl (W.cn rfl (fun hc => ?_) (fun hc => ?_)))))))))))
 have hv := hv.1 hc
 refine W.skip (zZ (W.ty [(4, .int _ _), (13, .bool _), (14, .ref _ _ _), (15, .lst _ _ _), (16, .ref _ _ _), (17, .ref _ _ _), (18, .int _ _), (19, .int _ _)] rfl (W.seq' (W.block (W.rL (cL rfl (zZp (v := .ref _ _ _) rfl (mL rfl rfl (mI rfl rfl ?_)))))))))
 obtain ⟨s202, s203, s204, hv⟩ := hv
 refine cL rfl (zZu (k := 14) (fst := []) (caps := []) (ys := [.ref _ _ _, .lst _ _ _, .int _ _]) rfl rfl (spec_finish [((1 : Int) + (pickM n (3 : Int)))] (singleM (jobsM23 (1 : Int) x)) v19 s202 s203 s204) (Wks.cons (ag_ref (fl := false) (xs := [((1 : Int) + (pickM n (3 : Int)))]) zZw 4 _ rfl rfl) zk) (cL rfl (zZp (v := .tup _) rfl ?_)))
 iterate 2 refine cL rfl (o_ext (v := .int _ _) rfl rfl ?_)
 iterate 2 refine aI rfl rfl ?_
 refine eL (W.ty [(4, .int _ _), (13, .bool _), (14, .ref _ _ _), (15, .lst _ _ _), (16, .ref _ _ _), (17, .ref _ _ _), (18, .int _ _), (19, .int _ _), (20, .int _ _), (21, .int _ _)] rfl (W.rL ?_))
 iterate 2 refine cL rfl (zZp (v := .ref _ _ _) rfl ?_)
 refine mI rfl rfl ?_
 obtain ⟨s205, s206, s207, hv⟩ := hv
 refine cL rfl (zZu (k := 14) (fst := []) (caps := []) (ys := [.ref _ _ _, .ref _ _ _, .int _ _]) rfl rfl (spec_finish [((1 : Int) + (pickM n (3 : Int)))] r2 v19 s205 s206 s207) (Wks.cons (ag_ref (fl := false) (xs := [((1 : Int) + (pickM n (3 : Int)))]) zZw 4 _ rfl rfl) (Wks.cons (ag_ref (fl := true) (xs := r2) enc42 4 _ rfl rfl) zk)) (cL rfl (zZp (v := .tup _) rfl ?_)))
 iterate 2 refine cL rfl (o_ext (v := .int _ _) rfl rfl ?_)
 iterate 2 refine aI rfl rfl ?_
 refine eL (W.ty [(4, .int _ _), (13, .bool _), (14, .ref _ _ _), (15, .lst _ _ _), (16, .ref _ _ _), (17, .ref _ _ _), (18, .int _ _), (19, .int _ _), (20, .int _ _), (21, .int _ _), (22, .int _ _), (23, .int _ _)] rfl (W.rL ?_))
 iterate 2 refine cL rfl (zZp (v := .ref _ _ _) rfl ?_)
 refine mI rfl rfl ?_
 obtain ⟨s208, s209, s210, hv⟩ := hv
 refine cL rfl (zZu (k := 14) (fst := []) (caps := []) (ys := [.ref _ _ _, .ref _ _ _, .int _ _]) rfl rfl (spec_finish [((1 : Int) + (pickM n (3 : Int)))] ((singleM (jobsM23 (1 : Int) x)) ++ [(Job.mk (pickM arr (40 : Int)) [(Ld.mk 0 (pickM tm (20 : Int)))])]) v19 s208 s209 s210) (Wks.cons (ag_ref (fl := false) (xs := [((1 : Int) + (pickM n (3 : Int)))]) zZw 4 _ rfl rfl) (Wks.cons (ag_ref (fl := true) (xs := (singleM (jobsM23 (1 : Int) x)) ++ [(Job.mk (pickM arr (40 : Int)) [(Ld.mk 0 (pickM tm (20 : Int)))])]) enc42 4 _ rfl rfl) zk)) (cL rfl (zZp (v := .tup _) rfl ?_)))
 iterate 2 refine cL rfl (o_ext (v := .int _ _) rfl rfl ?_)
 iterate 2 refine aI rfl rfl ?_
 refine eL (W.ty [(4, .int _ _), (13, .bool _), (14, .ref _ _ _), (15, .lst _ _ _), (16, .ref _ _ _), (17, .ref _ _ _), (18, .int _ _), (19, .int _ _), (20, .int _ _), (21, .int _ _), (22, .int _ _), (23, .int _ _), (24, .int _ _), (25, .int _ _)] rfl (W.seq' (W.rLm ⟨159, look [(4, .int .i64 arr), (13, .bool true), (14, .ref false 0 ([((1 : Int) + (pickM n (3 : Int)))].length)), (15, .lst false (singleM (jobsM23 (1 : Int) x)).length (zYy (e42 true) (singleM (jobsM23 (1 : Int) x)))), (16, .ref false 2 r2.length), (17, .ref false 7 (((singleM (jobsM23 (1 : Int) x)) ++ [(Job.mk (pickM arr (40 : Int)) [(Ld.mk 0 (pickM tm (20 : Int)))])]).length)), (18, .int .i64 v18), (19, .int .i64 v19), (20, .int .i64 ((finishM [((1 : Int) + (pickM n (3 : Int)))] (singleM (jobsM23 (1 : Int) x)) v19).1)), (22, .int .i64 ((finishM [((1 : Int) + (pickM n (3 : Int)))] r2 v19).1)), (24, .int .i64 ((finishM [((1 : Int) + (pickM n (3 : Int)))] ((singleM (jobsM23 (1 : Int) x)) ++ [(Job.mk (pickM arr (40 : Int)) [(Ld.mk 0 (pickM tm (20 : Int)))])]) v19).1)), (126, .bool (decide ((¬ (finishM [((1 : Int) + (pickM n (3 : Int)))] (singleM (jobsM23 (1 : Int) x)) v19).2 = (0 : Int)) \/ ((¬ (finishM [((1 : Int) + (pickM n (3 : Int)))] r2 v19).2 = (0 : Int)) \/ ((¬ (finishM [((1 : Int) + (pickM n (3 : Int)))] ((singleM (jobsM23 (1 : Int) x)) ++ [(Job.mk (pickM arr (40 : Int)) [(Ld.mk 0 (pickM tm (20 : Int)))])]) v19).2 = (0 : Int)) \/ ((((finishM [((1 : Int) + (pickM n (3 : Int)))] r2 v19).1) < ((finishM [((1 : Int) + (pickM n (3 : Int)))] (singleM (jobsM23 (1 : Int) x)) v19).1)) \/ (((finishM [((1 : Int) + (pickM n (3 : Int)))] ((singleM (jobsM23 (1 : Int) x)) ++ [(Job.mk (pickM arr (40 : Int)) [(Ld.mk 0 (pickM tm (20 : Int)))])]) v19).1) < ((finishM [((1 : Int) + (pickM n (3 : Int)))] (singleM (jobsM23 (1 : Int) x)) v19).1))))))))], [.row 3 1 (zYy zYx [((1 : Int) + (pickM n (3 : Int)))]), .dead, .row 42 2 (zYy (e42 true) r2), .dead, .dead, .dead, .dead, .row 42 2 (zYy (e42 true) ((singleM (jobsM23 (1 : Int) x)) ++ [(Job.mk (pickM arr (40 : Int)) [(Ld.mk 0 (pickM tm (20 : Int)))])]))], 0⟩ ?_ ?_)))
 refine mI rfl rfl (cL rfl (o_neI rfl rfl rfl (mB rfl rfl ?_)))
 by_cases c1 : ¬ (finishM [((1 : Int) + (pickM n (3 : Int)))] (singleM (jobsM23 (1 : Int) x)) v19).2 = (0 : Int)
 iterate 2 refine cLs rfl rfl rfl (dT c1) ?_
 refine cL rfl (zZv (v := .bool _) rfl (dT c1) rfl (mB rfl rfl ?_))
 iterate 2 refine cLs rfl rfl rfl (rfl) ?_
 refine cL rfl (zZv (v := .bool _) rfl rfl rfl (mB rfl rfl ?_))
 iterate 3 refine cLs rfl rfl rfl (rfl) ?_
 refine cL rfl (zZv (v := .bool _) rfl rfl rfl (mB rfl rfl ?_))
 iterate 3 refine cLs rfl rfl rfl (rfl) ?_
 refine cL rfl (zZv (v := .bool _) rfl rfl rfl (eL (zYz ⟨rfl, rfl, rfl, rfl, rfl, rfl, rfl, rfl, rfl, rfl, rfl, (congrArg AV.bool (dOrT c1)).symm, trivial⟩ rfl)))
 refine cLg rfl rfl (dF c1) (mI rfl rfl (cLg rfl rfl (dF c1) (cL rfl (o_neI rfl rfl rfl (cL rfl (zZy (v := .bool _) rfl (dF c1) rfl (mB rfl rfl ?_)))))))
 by_cases c2 : ¬ (finishM [((1 : Int) + (pickM n (3 : Int)))] r2 v19).2 = (0 : Int)
 iterate 2 refine cLs rfl rfl rfl (dT c2) ?_
 refine cL rfl (zZv (v := .bool _) rfl (dT c2) rfl (mB rfl rfl ?_))
 iterate 3 refine cLs rfl rfl rfl (rfl) ?_
 refine cL rfl (zZv (v := .bool _) rfl rfl rfl (mB rfl rfl ?_))
 iterate 3 refine cLs rfl rfl rfl (rfl) ?_
 refine cL rfl (zZv (v := .bool _) rfl rfl rfl (eL (zYz ⟨rfl, rfl, rfl, rfl, rfl, rfl, rfl, rfl, rfl, rfl, rfl, (congrArg AV.bool (dOrF c1 (dOrT c2))).symm, trivial⟩ rfl)))
 refine cLg rfl rfl (dF c2) (mI rfl rfl (cLg rfl rfl (dF c2) (cL rfl (o_neI rfl rfl rfl (cL rfl (zZy (v := .bool _) rfl (dF c2) rfl (mB rfl rfl ?_)))))))
 by_cases c3 : ¬ (finishM [((1 : Int) + (pickM n (3 : Int)))] ((singleM (jobsM23 (1 : Int) x)) ++ [(Job.mk (pickM arr (40 : Int)) [(Ld.mk 0 (pickM tm (20 : Int)))])]) v19).2 = (0 : Int)
 iterate 3 refine cLs rfl rfl rfl (dT c3) ?_
 refine cL rfl (zZv (v := .bool _) rfl (dT c3) rfl (mB rfl rfl ?_))
 iterate 3 refine cLs rfl rfl rfl (rfl) ?_
 refine cL rfl (zZv (v := .bool _) rfl rfl rfl (eL (zYz ⟨rfl, rfl, rfl, rfl, rfl, rfl, rfl, rfl, rfl, rfl, rfl, (congrArg AV.bool (dOrF c1 (dOrF c2 (dOrT c3)))).symm, trivial⟩ rfl)))
 refine cLg rfl rfl (dF c3) (mI rfl rfl (cLg rfl rfl (dF c3) (mI rfl rfl (cLg rfl rfl (dF c3) (cL rfl (zYq rfl rfl (cL rfl (zZy (v := .bool _) rfl (dF c3) rfl (mB rfl rfl ?_)))))))))
 by_cases c4 : ((finishM [((1 : Int) + (pickM n (3 : Int)))] r2 v19).1) < ((finishM [((1 : Int) + (pickM n (3 : Int)))] (singleM (jobsM23 (1 : Int) x)) v19).1)
 iterate 3 refine cLs rfl rfl rfl (dT c4) ?_
 refine cL rfl (zZv (v := .bool _) rfl (dT c4) rfl (eL (zYz ⟨rfl, rfl, rfl, rfl, rfl, rfl, rfl, rfl, rfl, rfl, rfl, (congrArg AV.bool (dOrF c1 (dOrF c2 (dOrF c3 (dOrT c4))))).symm, trivial⟩ rfl)))
 refine cLg rfl rfl (dF c4) (mI rfl rfl (cLg rfl rfl (dF c4) (mI rfl rfl (cLg rfl rfl (dF c4) (cL rfl (zYq rfl rfl (cL rfl (zZy (v := .bool _) rfl (dF c4) rfl (eL (zYz ⟨rfl, rfl, rfl, rfl, rfl, rfl, rfl, rfl, rfl, rfl, rfl, (congrArg AV.bool (dOrF c1 (dOrF c2 (dOrF c3 (dOrF c4 (rfl)))))).symm, trivial⟩ rfl))))))))))
 refine W.cn rfl (fun hc => ?_) (fun hc => ?_)
 have hv := hv.1 hc
 refine W.rL (aB rfl rfl (eL (W.ty [(12, .bool _)] rfl (W.ret (zZr (zYt (zZr (zZr (zYt (zZr (rt (rt_t (v := .bool _) rfl (rt_n (⟨_, zYr _ _ _, false, rfl, hv⟩))))))))))))))
 have hv := hv.2 hc
 refine W.skip (zZ (W.ty [(4, .int _ _), (13, .bool _), (14, .ref _ _ _), (15, .lst _ _ _), (16, .ref _ _ _), (17, .ref _ _ _), (18, .int _ _), (19, .int _ _), (20, .int _ _), (22, .int _ _), (24, .int _ _)] rfl ?_))
 obtain ⟨sd, hv⟩ := hv
 refine W.rDm ⟨159, look [(4, .int .i64 arr), (13, .bool true), (14, .ref false 0 ([((1 : Int) + (pickM n (3 : Int)))].length)), (15, .lst false (singleM (jobsM23 (1 : Int) x)).length (zYy (e42 true) (singleM (jobsM23 (1 : Int) x)))), (16, .ref false 2 r2.length), (17, .ref false 7 (((singleM (jobsM23 (1 : Int) x)) ++ [(Job.mk (pickM arr (40 : Int)) [(Ld.mk 0 (pickM tm (20 : Int)))])]).length)), (18, .int .i64 v18), (19, .int .i64 v19), (157, .bool (decide ((((lat (singleM (jobsM23 (1 : Int) x)) v19).ar) < ((lat (singleM (jobsM23 (1 : Int) x)) v18).ar)) /\ ((¬ (finishM [((1 : Int) + (pickM n (3 : Int)))] r2 v19).1 = (finishM [((1 : Int) + (pickM n (3 : Int)))] (singleM (jobsM23 (1 : Int) x)) v19).1) \/ ((((lat (singleM (jobsM23 (1 : Int) x)) v19).ar) < (pickM arr (40 : Int))) /\ (¬ (finishM [((1 : Int) + (pickM n (3 : Int)))] ((singleM (jobsM23 (1 : Int) x)) ++ [(Job.mk (pickM arr (40 : Int)) [(Ld.mk 0 (pickM tm (20 : Int)))])]) v19).1 = (finishM [((1 : Int) + (pickM n (3 : Int)))] (singleM (jobsM23 (1 : Int) x)) v19).1))) \/ ¬ (((lat (singleM (jobsM23 (1 : Int) x)) v19).ar) < ((lat (singleM (jobsM23 (1 : Int) x)) v18).ar)) /\ ((((lat (singleM (jobsM23 (1 : Int) x)) v19).ar) < (pickM arr (40 : Int))) /\ (¬ (finishM [((1 : Int) + (pickM n (3 : Int)))] ((singleM (jobsM23 (1 : Int) x)) ++ [(Job.mk (pickM arr (40 : Int)) [(Ld.mk 0 (pickM tm (20 : Int)))])]) v19).1 = (finishM [((1 : Int) + (pickM n (3 : Int)))] (singleM (jobsM23 (1 : Int) x)) v19).1)))))], [.row 3 1 (zYy zYx [((1 : Int) + (pickM n (3 : Int)))]), .dead, .row 42 2 (zYy (e42 true) r2), .dead, .dead, .dead, .dead, .row 42 2 (zYy (e42 true) ((singleM (jobsM23 (1 : Int) x)) ++ [(Job.mk (pickM arr (40 : Int)) [(Ld.mk 0 (pickM tm (20 : Int)))])]))], 0⟩ [0, 1, 2, 3, 4, 5, 6, 7, 8, 9, 10, 11, 12, 13, 14, 15, 16, 17, 18, 19, 20, 21, 22, 23, 24, 25, 26, 27, 28, 29, 30] (by decide +kernel) rfl ?_ ?_
 refine mL rfl rfl (mI rfl rfl ?_)
 obtain ⟨s219, sd⟩ := sd
 refine cL rfl (zYu tt26 tt42 rfl rfl (enc42.wd true) rfl s219 ?_)
 intro rest219
 refine cL rfl (o_faP tt42 rfl tt3 rfl (cL rfl (zZx (v := .int _ _) tt3 rfl rfl ⟨_, rfl⟩ (mL rfl rfl (mI rfl rfl ?_)))))
 obtain ⟨s220, sd⟩ := sd
 refine cL rfl (zYu tt26 tt42 rfl rfl (enc42.wd true) rfl s220 ?_)
 intro rest220
 refine cL rfl (o_faP tt42 rfl tt3 rfl (cL rfl (zZx (v := .int _ _) tt3 rfl rfl ⟨_, rfl⟩ (cL rfl (zYq rfl rfl (mB rfl rfl ?_))))))
 by_cases c1 : ((lat (singleM (jobsM23 (1 : Int) x)) v19).ar) < ((lat (singleM (jobsM23 (1 : Int) x)) v18).ar)
 have sd := sd.1 c1
 refine cLg rfl rfl (dT c1) (mI rfl rfl (cLg rfl rfl (dT c1) (mI rfl rfl (cLg rfl rfl (dT c1) (cL rfl (o_neI rfl rfl rfl (cL rfl (zZv (v := .bool _) rfl (dT c1) rfl (mB rfl rfl ?_)))))))))
 by_cases c2 : ¬ (finishM [((1 : Int) + (pickM n (3 : Int)))] r2 v19).1 = (finishM [((1 : Int) + (pickM n (3 : Int)))] (singleM (jobsM23 (1 : Int) x)) v19).1
 iterate 9 refine cLs rfl rfl rfl (dT c2) ?_
 iterate 3 refine cLu rfl rfl rfl ?_
 refine cLs rfl rfl rfl (dT c2) (cL rfl (zZv (v := .bool _) rfl (dT c2) rfl (eL (zYz ⟨rfl, rfl, rfl, rfl, rfl, rfl, rfl, rfl, (congrArg AV.bool (dIteT c1 (dOrT c2))).symm, trivial⟩ rfl))))
 have sd := sd.2 c2
 refine cLg rfl rfl (dF c2) (mL rfl rfl (cLg rfl rfl (dF c2) (mI rfl rfl (cLg rfl rfl (dF c2) ?_))))
 obtain ⟨s221, sd⟩ := sd
 refine cL rfl (zYu tt26 tt42 rfl rfl (enc42.wd true) rfl s221 ?_)
 intro rest221
 refine cLg rfl rfl (dF c2) (cL rfl (o_faP tt42 rfl tt3 rfl (cLg rfl rfl (dF c2) (cL rfl (zZx (v := .int _ _) tt3 rfl rfl ⟨_, rfl⟩ (cLg rfl rfl (dF c2) (mI rfl rfl (cLg rfl rfl (dF c2) ?_))))))))
 obtain ⟨s222, s223, sd⟩ := sd
 refine cL rfl (zZu (k := 16) (fst := []) (caps := []) (ys := [.int _ _, .int _ _]) rfl rfl (spec_pick16 arr (40 : Int) s222 s223) zk (cLg rfl rfl (dF c2) (cL rfl (zYq rfl rfl (cLg rfl rfl (dF c2) (mB rfl rfl ?_))))))
 by_cases c3 : ((lat (singleM (jobsM23 (1 : Int) x)) v19).ar) < (pickM arr (40 : Int))
 refine cLg rfl rfl (dT c3) (mI rfl rfl (cLg rfl rfl (dT c3) (mI rfl rfl (cLg rfl rfl (dT c3) (cL rfl (o_neI rfl rfl rfl (cLg rfl rfl (dF c2) (cL rfl (zZv (v := .bool _) rfl (dT c3) rfl (cL rfl (zZy (v := .bool _) rfl (dF c2) rfl (eL (zYz ⟨rfl, rfl, rfl, rfl, rfl, rfl, rfl, rfl, (congrArg AV.bool (dIteT c1 (dOrF c2 (zXv c3 (rfl))))).symm, trivial⟩ rfl)))))))))))))
 iterate 3 refine cLs rfl rfl rfl (dF c3) ?_
 refine cLg rfl rfl (dF c2) (cL rfl (zZy (v := .bool _) rfl (dF c3) rfl (cL rfl (zZy (v := .bool _) rfl (dF c2) rfl (eL (zYz ⟨rfl, rfl, rfl, rfl, rfl, rfl, rfl, rfl, (congrArg AV.bool (dIteT c1 (dOrF c2 (dAndF c3)))).symm, trivial⟩ rfl))))))
 have sd := sd.2 c1
 iterate 3 refine cLs rfl rfl rfl (dF c1) ?_
 refine cL rfl (zZy (v := .bool _) rfl (dF c1) rfl (mB rfl rfl (cLg rfl rfl (rfl) (mL rfl rfl (cLg rfl rfl (rfl) (mI rfl rfl (cLg rfl rfl (rfl) ?_)))))))
 obtain ⟨s224, sd⟩ := sd
 refine cL rfl (zYu tt26 tt42 rfl rfl (enc42.wd true) rfl s224 ?_)
 intro rest224
 refine cLg rfl rfl (rfl) (cL rfl (o_faP tt42 rfl tt3 rfl (cLg rfl rfl (rfl) (cL rfl (zZx (v := .int _ _) tt3 rfl rfl ⟨_, rfl⟩ (cLg rfl rfl (rfl) (mI rfl rfl (cLg rfl rfl (rfl) ?_))))))))
 obtain ⟨s225, s226, sd⟩ := sd
 refine cL rfl (zZu (k := 16) (fst := []) (caps := []) (ys := [.int _ _, .int _ _]) rfl rfl (spec_pick16 arr (40 : Int) s225 s226) zk (cLg rfl rfl (rfl) (cL rfl (zYq rfl rfl (cLg rfl rfl (rfl) (mB rfl rfl ?_))))))
 by_cases c4 : ((lat (singleM (jobsM23 (1 : Int) x)) v19).ar) < (pickM arr (40 : Int))
 refine cLg rfl rfl (dT c4) (mI rfl rfl (cLg rfl rfl (dT c4) (mI rfl rfl (cLg rfl rfl (dT c4) (cL rfl (o_neI rfl rfl rfl (cLg rfl rfl (rfl) (cL rfl (zZv (v := .bool _) rfl (dT c4) rfl (cL rfl (zZy (v := .bool _) rfl rfl rfl (eL (zYz ⟨rfl, rfl, rfl, rfl, rfl, rfl, rfl, rfl, (congrArg AV.bool (dIteF c1 (zXv c4 (rfl)))).symm, trivial⟩ rfl)))))))))))))
 iterate 3 refine cLs rfl rfl rfl (dF c4) ?_
 refine cLg rfl rfl (rfl) (cL rfl (zZy (v := .bool _) rfl (dF c4) rfl (cL rfl (zZy (v := .bool _) rfl rfl rfl (eL (zYz ⟨rfl, rfl, rfl, rfl, rfl, rfl, rfl, rfl, (congrArg AV.bool (dIteF c1 (dAndF c4))).symm, trivial⟩ rfl))))))
 refine W.cn rfl (fun hc => ?_) (fun hc => ?_)
 have hv := hv.1 hc
 refine W.rL (aB rfl rfl (eL (W.ty [(12, .bool _)] rfl (W.ret (zYt (zZr (zZr (zYt (zZr (rt (rt_t (v := .bool _) rfl (rt_n (⟨_, zYr _ _ _, false, rfl, hv⟩)))))))))))))
 have hv := hv.2 hc
 refine W.skip (zYv (zZ (W.ty [(4, .int _ _), (13, .bool _), (14, .ref _ _ _), (15, .lst _ _ _), (16, .ref _ _ _), (17, .ref _ _ _), (18, .int _ _), (19, .int _ _)] rfl (W.rL1 (mI rfl rfl ?_)))))
 obtain ⟨s227, hv⟩ := hv
 refine cL rfl (o_add rfl rfl s227 (aI rfl rfl (eL (zZ (⟨(), (v19 + (1 : Int)), hv, St.to_mk (φ := [some 0, none, some 2, none, none, none, none, some 7]) rfl (rfl) ⟨Ren.int _ _, Ren.bool _, Ren.ref rfl id, Ren.lst _ _ _, Ren.ref rfl id, Ren.ref rfl id, Ren.int _ _, Ren.int _ _, trivial⟩ ⟨zE zZw false [((1 : Int) + (pickM n (3 : Int)))] rfl, rfl, zE enc42 true r2 rfl, rfl, rfl, rfl, rfl, zE enc42 true ((singleM (jobsM23 (1 : Int) x)) ++ [(Job.mk (pickM arr (40 : Int)) [(Ld.mk 0 (pickM tm (20 : Int)))])]) rfl, trivial⟩⟩)))))
 have hv := hv.2 hc
 refine W.exit (zZt (zZt (zYs (zZ (W.ty [(13, .bool _)] rfl (W.rL (mB rfl rfl (aB rfl rfl (eL (W.ty [(12, .bool _)] rfl (W.ret (rt (rt_t (v := .bool _) rfl (rt_n (⟨_, zYr _ _ _, true, rfl, hv⟩)))))))))))))))
 clear hj
 refine W.rL (mL rfl rfl (cL rfl (zXw (v := .lst _ _ _) tt26 rfl rfl (cL rfl (o_gtr rfl rfl (eL (W.ty [(2, .int _ _), (3, .int _ _), (4, .int _ _), (13, .bool _), (14, .ref _ _ _), (15, .lst _ _ _), (16, .ref _ _ _), (17, .ref _ _ _), (18, .int _ _), (51, .bool _)] rfl (W.cn rfl (fun hc => ?_) (fun hc => ?_)))))))))
 have hv := hv.1 hc
 refine W.rL (mI rfl rfl (mL rfl rfl (cL rfl (zXw (v := .lst _ _ _) tt26 rfl rfl ?_))))
 obtain ⟨s228, s229, hv⟩ := hv
 refine cL rfl (zZu (k := 16) (fst := []) (caps := []) (ys := [.int _ _, .int _ _]) rfl rfl (spec_pick16 wh ((singleM (jobsM23 (1 : Int) x)).length : Int) s228 s229) zk (aI rfl rfl (eL (W.ty [(3, .int _ _), (4, .int _ _), (13, .bool _), (14, .ref _ _ _), (15, .lst _ _ _), (16, .ref _ _ _), (17, .ref _ _ _), (18, .int _ _)] rfl (W.rL (mL rfl rfl (mI rfl rfl ?_)))))))
 obtain ⟨s230, hv⟩ := hv
 refine cL rfl (zYu tt26 tt42 rfl rfl (enc42.wd true) rfl s230 ?_)
 intro rest230
 refine cL rfl (o_faP tt42 rfl tt40 rfl (cL rfl (zZx (v := .lst _ _ _) tt40 rfl rfl ⟨_, rfl⟩ (cL rfl (zXw (v := .lst _ _ _) tt40 rfl rfl (cL rfl (o_gtr rfl rfl (eL (W.ty [(3, .int _ _), (4, .int _ _), (13, .bool _), (14, .ref _ _ _), (15, .lst _ _ _), (16, .ref _ _ _), (17, .ref _ _ _), (18, .int _ _), (62, .bool _)] rfl (W.cn rfl (fun hc => ?_) (fun hc => ?_)))))))))))
 have hv := hv.1 hc
 refine W.rP1g [0, 1, 2, 3, 4, 5, 6, 7, 8, 9, 10, 11, 12, 13, 14, 15, 16, 17] (by decide +kernel) rfl (cL rfl (zZp (v := .ref _ _ _) rfl (mI rfl rfl (mL rfl rfl (mI rfl rfl ?_)))))
 obtain ⟨s231, hv⟩ := hv
 refine cL rfl (zYu tt26 tt42 rfl rfl (enc42.wd true) rfl s231 ?_)
 intro rest231
 refine cL rfl (o_faP tt42 rfl tt40 rfl (cL rfl (zZx (v := .lst _ _ _) tt40 rfl rfl ⟨_, rfl⟩ ?_)))
 obtain ⟨s232, hv⟩ := hv
 refine cL rfl (zYu tt40 tt45 rfl rfl (enc45.wd true) rfl s232 ?_)
 intro rest232
 refine cL rfl (o_faP tt45 rfl tt3 rfl (cL rfl (zZx (v := .int _ _) tt3 rfl rfl ⟨_, rfl⟩ (mI rfl rfl ?_))))
 obtain ⟨s233, s234, hv⟩ := hv
 refine cL rfl (zZu (k := 16) (fst := []) (caps := []) (ys := [.int _ _, .int _ _]) rfl rfl (spec_pick16 more (30 : Int) s233 s234) zk ?_)
 obtain ⟨s235, hv⟩ := hv
 refine cL rfl (o_add rfl rfl s235 (cL rfl (o_build (qs := [(1, .int _ _)]) (cs := [.int _ _, .int _ _]) tt45 rfl rfl rfl (cL rfl (o_bs1 (v := .agg _) (q := 8) tt40 tt45 rfl rfl rfl rfl rfl rfl rfl rfl ?_)))))
 obtain ⟨s236, hv⟩ := hv
 refine cL rfl (o_iaR tt26 tt42 rfl rfl s236 (cL rfl (o_fa tt42 rfl tt40 rfl (cLn (o_stR (v := .ref _ _ _) (vs := [.ref _ _ _]) tt40 rfl rfl rfl rfl rfl (row_inF (xs := singleM (jobsM23 (1 : Int) x)) (enc42.wd true) s236 rfl) rfl (eL (⟨rfl, ?_⟩)))))))
 refine go_sealX true 8 2 (bcs' := Lat.spl (zYy (e42 true) (singleM (jobsM23 (1 : Int) x))) ((pickM wh ((singleM (jobsM23 (1 : Int) x)).length : Int)).toNat * 2 + 1) ([.lst true [(Ld.mk 0 (((lat ((lat (singleM (jobsM23 (1 : Int) x)) (pickM wh ((singleM (jobsM23 (1 : Int) x)).length : Int))).wk) (0 : Int)).tm) + (pickM more (30 : Int))))].length (zYy e45 [(Ld.mk 0 (((lat ((lat (singleM (jobsM23 (1 : Int) x)) (pickM wh ((singleM (jobsM23 (1 : Int) x)).length : Int))).wk) (0 : Int)).tm) + (pickM more (30 : Int))))])] : List AV)) (fin := zYy (e42 true) ((singleM (jobsM23 (1 : Int) x)).set (pickM wh ((singleM (jobsM23 (1 : Int) x)).length : Int)).toNat (⟨(lat (singleM (jobsM23 (1 : Int) x)) (pickM wh ((singleM (jobsM23 (1 : Int) x)).length : Int))).ar, [(Ld.mk 0 (((lat ((lat (singleM (jobsM23 (1 : Int) x)) (pickM wh ((singleM (jobsM23 (1 : Int) x)).length : Int))).wk) (0 : Int)).tm) + (pickM more (30 : Int))))]⟩ : Job))) (l := [(4, .int .i64 arr), (13, .bool true), (14, .ref false 0 1), (15, .lst false (singleM (jobsM23 (1 : Int) x)).length (zYy (e42 true) (singleM (jobsM23 (1 : Int) x)))), (16, .ref false 2 ((singleM (jobsM23 (1 : Int) x)).length)), (17, .ref false 7 (((singleM (jobsM23 (1 : Int) x)) ++ [(Job.mk (pickM arr (40 : Int)) [(Ld.mk 0 (pickM tm (20 : Int)))])]).length)), (18, .int .i64 (pickM wh ((singleM (jobsM23 (1 : Int) x)).length : Int)))]) rfl rfl (encL_sl enc45 true [(Ld.mk 0 (((lat ((lat (singleM (jobsM23 (1 : Int) x)) (pickM wh ((singleM (jobsM23 (1 : Int) x)).length : Int))).wk) (0 : Int)).tm) + (pickM more (30 : Int))))]) ⟨.inl rfl, .inl rfl, .inl rfl, .inl rfl, .inl rfl, .inl rfl, .inl rfl, trivial⟩ (sealC_spl _ _ ⟨.inr ⟨_, _, rfl, rfl, rfl⟩, trivial⟩ (row_inF (xs := singleM (jobsM23 (1 : Int) x)) (enc42.wd true) s236 (vs := [.any]) rfl)) (row_setF (e := (e42 true)) (enc42.wd true) _ _ 1 (⟨(lat (singleM (jobsM23 (1 : Int) x)) (pickM wh ((singleM (jobsM23 (1 : Int) x)).length : Int))).ar, [(Ld.mk 0 (((lat ((lat (singleM (jobsM23 (1 : Int) x)) (pickM wh ((singleM (jobsM23 (1 : Int) x)).length : Int))).wk) (0 : Int)).tm) + (pickM more (30 : Int))))]⟩ : Job) rfl rfl s236) rfl rfl (go_nil (zZ (⟨(), ((singleM (jobsM23 (1 : Int) x)).set (pickM wh ((singleM (jobsM23 (1 : Int) x)).length : Int)).toNat (⟨(lat (singleM (jobsM23 (1 : Int) x)) (pickM wh ((singleM (jobsM23 (1 : Int) x)).length : Int))).ar, [(Ld.mk 0 (((lat ((lat (singleM (jobsM23 (1 : Int) x)) (pickM wh ((singleM (jobsM23 (1 : Int) x)).length : Int))).wk) (0 : Int)).tm) + (pickM more (30 : Int))))]⟩ : Job)), (pickM wh ((singleM (jobsM23 (1 : Int) x)).length : Int)), hv, St.to_mk (φ := [some 0, none, some 2, none, none, none, none, some 7]) rfl (rfl) ⟨Ren.int _ _, Ren.bool _, Ren.ref rfl id, Ren.lst _ _ _, Ren.refL rfl id (by simp), Ren.ref rfl id, Ren.int _ _, trivial⟩ ⟨zE zZw false [((1 : Int) + (pickM n (3 : Int)))] rfl, rfl, .inr ⟨_, rfl, rfl, rfl, rfl, Rens.enc enc42 true ((singleM (jobsM23 (1 : Int) x)).set (pickM wh ((singleM (jobsM23 (1 : Int) x)).length : Int)).toNat (⟨(lat (singleM (jobsM23 (1 : Int) x)) (pickM wh ((singleM (jobsM23 (1 : Int) x)).length : Int))).ar, [(Ld.mk 0 (((lat ((lat (singleM (jobsM23 (1 : Int) x)) (pickM wh ((singleM (jobsM23 (1 : Int) x)).length : Int))).wk) (0 : Int)).tm) + (pickM more (30 : Int))))]⟩ : Job))⟩, rfl, rfl, rfl, rfl, zE enc42 true ((singleM (jobsM23 (1 : Int) x)) ++ [(Job.mk (pickM arr (40 : Int)) [(Ld.mk 0 (pickM tm (20 : Int)))])]) rfl, trivial⟩⟩)))
 have hv := hv.2 hc
 refine W.skip (zZ (⟨(), (singleM (jobsM23 (1 : Int) x)), (pickM wh ((singleM (jobsM23 (1 : Int) x)).length : Int)), hv, St.to_mk (φ := [some 0, none, some 2, none, none, none, none, some 7]) rfl (rfl) ⟨Ren.int _ _, Ren.bool _, Ren.ref rfl id, Ren.lst _ _ _, Ren.ref rfl id, Ren.ref rfl id, Ren.int _ _, trivial⟩ ⟨zE zZw false [((1 : Int) + (pickM n (3 : Int)))] rfl, rfl, zE enc42 true (singleM (jobsM23 (1 : Int) x)) rfl, rfl, rfl, rfl, rfl, zE enc42 true ((singleM (jobsM23 (1 : Int) x)) ++ [(Job.mk (pickM arr (40 : Int)) [(Ld.mk 0 (pickM tm (20 : Int)))])]) rfl, trivial⟩⟩))
 have hv := hv.2 hc
 refine W.skip (zZ (⟨(), (singleM (jobsM23 (1 : Int) x)), (-1 : Int), hv, St.to_mk (φ := [some 0, none, some 2, none, none, none, none, some 7]) rfl (rfl) ⟨Ren.int _ _, Ren.bool _, Ren.ref rfl id, Ren.lst _ _ _, Ren.ref rfl id, Ren.ref rfl id, Ren.int _ _, trivial⟩ ⟨zE zZw false [((1 : Int) + (pickM n (3 : Int)))] rfl, rfl, zE enc42 true (singleM (jobsM23 (1 : Int) x)) rfl, rfl, rfl, rfl, rfl, zE enc42 true ((singleM (jobsM23 (1 : Int) x)) ++ [(Job.mk (pickM arr (40 : Int)) [(Ld.mk 0 (pickM tm (20 : Int)))])]) rfl, trivial⟩⟩))
set_option maxHeartbeats 4000000 in
theorem vcp_lawmono (n : Int) (x : (List (Vector Int 4))) (wh : Int) (more : Int) (arr : Int) (tm : Int) (h0 : inI n) (h1 : x.length <= 9223372036854775807 /\ ∀ z ∈ x, ∀ k, inI (vat z k)) (h2 : inI wh) (h3 : inI more) (h4 : inI arr) (h5 : inI tm) : vc_lawmono n x wh more arr tm (fun q0 => q0 = (true)) := by
  obtain ⟨hs1, hs12⟩ := single_one x
  have hstm := single_tm x
  have hjm := made_jobs (m := 1) (by omega) x
  have hp3 := zXz (c := n) (n := 3) (by omega)
  have hpa := zXz (c := arr) (n := 40) (by omega)
  have hpt := zXz (c := tm) (n := 20) (by omega)
  have hpm := zXz (c := more) (n := 30) (by omega)
  have hs : 1 <= 1 + pickM n 3 /\ 1 + pickM n 3 <= 3 := by omega
  have hsl : ([1 + pickM n 3] : List Int).length <= 9223372036854775807 := by simp
  obtain ⟨hF, hfur⟩ := fin_further hs hs1 hs12 (a := pickM arr 40) (t := pickM tm 20) (by omega) (by omega)
  have hFl : (singleM (jobsM23 1 x) ++ [(Job.mk (pickM arr 40) [Ld.mk 0 (pickM tm 20)])]).length <= 13 := hF.len
  have wl : ∀ {js : List Job}, One1 js -> ∀ q ∈ js, q.wk.length <= 9223372036854775807 := fun h q hq => by have := h.one q hq; omega
  have vJ := hs1.valid hs
  have vF := hF.valid hs
  unfold vc_lawmono
  generalize singleM (jobsM23 1 x) = J at *
  refine ⟨by omega, h0, by unfold inI; omega, by omega, h1.1, h1.2, by omega, by omega, by omega, by omega, h4, by omega, h5, by omega, fun G k => One1 G /\ G.length = J.length /\ ((J.length = 0) \/ ((0 <= k /\ k < (J.length : Int)) /\ ∀ i : Nat, i < J.length -> (finishM [1 + pickM n 3] J (i : Int)).1 <= (finishM [1 + pickM n 3] G (i : Int)).1 /\ ((lat J (i : Int)).ar < (lat J k).ar -> (finishM [1 + pickM n 3] G (i : Int)).1 = (finishM [1 + pickM n 3] J (i : Int)).1))), ?_, ?_⟩
  . rintro G k ⟨hG, hGl, hk⟩
    have vG := hG.valid hs
    refine ⟨fun v => ∃ i : Nat, v = i /\ i <= J.length, fun v => J.length - v.toNat, ⟨0, rfl, by omega⟩, ?_⟩
    rintro _ ⟨i, rfl, hi⟩
    refine ⟨fun k1 => ?_, fun _ => rfl⟩
    have hi' : i < J.length := by omega
    have ix : 0 <= (i : Int) /\ (i : Int) < (J.length : Int) := ⟨by omega, k1⟩
    obtain ⟨hk0, hk⟩ := hk.resolve_left (by omega)
    obtain ⟨l1, l2⟩ := hk i hi'
    obtain ⟨f1, f2⟩ := hfur i hi'
    have o1 := fin_ok vJ hi'
    have o2 := fin_ok vG (i := i) (by omega)
    have o3 := fin_ok vF (i := i) (by simp; omega)
    refine ⟨hsl, wl hs1, by omega, hsl, wl hG, by omega, hsl, wl hF, by omega, fun k2 => ?_, fun _ => ⟨⟨ix, hk0, fun _ => ⟨fun _ => trivial, fun _ => ⟨ix, by omega, h4, trivial⟩⟩, fun _ => ⟨ix, by omega, h4, trivial⟩⟩, fun k2 => ?_, fun _ => ⟨by unfold inI; omega, ⟨i + 1, by omega, by omega⟩, dec_lt k1⟩⟩⟩
    . rcases k2 with k2 | k2 | k2 | k2 | k2
      . exact absurd o1 k2
      . exact absurd o2 k2
      . exact absurd o3 k2
      . omega
      . omega
    . rcases k2 with ⟨k2, k3 | ⟨k3, k4⟩⟩ | ⟨k2, k3, k4⟩
      . exact absurd (l2 k2) k3
      . exact absurd (f2 k3) k4
      . exact absurd (f2 k3) k4
  . refine ⟨fun k1 => ?_, fun k1 => ⟨hs1, rfl, .inl (by omega)⟩⟩
    have hpk := zXz (c := wh) (n := (J.length : Int)) (by omega)
    obtain ⟨k, hk⟩ : ∃ k : Nat, pickM wh (J.length : Int) = k := ⟨(pickM wh (J.length : Int)).toNat, by omega⟩
    rw [hk] at hpk ⊢
    have hkl : k < J.length := by omega
    have hm := lat_mem (xs := J) (i := (k : Int)) ⟨by omega, by omega⟩
    refine ⟨by omega, h2, hpk, fun k2 => ?_, fun _ => ⟨hs1, rfl, .inr ⟨hpk, fun i _ => ⟨Int.le_refl _, fun _ => rfl⟩⟩⟩⟩
    have hm2 := lat_mem (xs := (lat J (k : Int)).wk) (i := 0) ⟨by omega, k2⟩
    have ht := hstm _ hm _ hm2
    have ht0 := hs1.wk _ hm _ hm2
    obtain ⟨g1, g2⟩ := fin_longer hs hs1 hkl (by omega) (m := pickM more 30) (by omega) (by omega)
    refine ⟨hpk, ⟨by omega, k2⟩, by omega, h3, by unfold inI; omega, hpk, ?_⟩
    rw [Int.toNat_natCast]
    exact ⟨g1, by simp, .inr ⟨hpk, g2⟩⟩
theorem spec_lawmono (n : Int) (x : (List (Vector Int 4))) (wh : Int) (more : Int) (arr : Int) (tm : Int) (h0 : inI n) (h1 : x.length <= 9223372036854775807 /\ ∀ z ∈ x, ∀ k, inI (vat z k)) (h2 : inI wh) (h3 : inI more) (h4 : inI arr) (h5 : inI tm) : FnP Try.prog 5 [.int .i64 n, .lst true x.length (zYy eV4 x), .int .i64 wh, .int .i64 more, .int .i64 arr, .int .i64 tm] (fun xR => xR = .bool (true)) :=
  (walk_lawmono (vcp_lawmono n x wh more arr tm h0 h1 h2 h3 h4 h5)).mono (by rintro _ ⟨_, rfl, rfl⟩; rfl)
end Go.Lat
