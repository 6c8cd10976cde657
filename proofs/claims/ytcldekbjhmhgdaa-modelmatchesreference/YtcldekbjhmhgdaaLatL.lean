/- The law latecomerlaw23.ModelMatchesReference returns true for every input, and each argument reads afterwards as it read before. Part 12 of 15. No condition. -/
import Derived.Test.YtcldekbjhmhgdaaLatE
import Derived.Test.YtcldekbjhmhgdaaLatF
import Derived.Test.YtcldekbjhmhgdaaLatD
set_option linter.unusedVariables false
set_option linter.unusedSimpArgs false
set_option linter.unnecessarySimpa false
set_option maxRecDepth 100000
set_option maxHeartbeats 4000000
namespace Go.Lat
open Go.RowKit Go.Proofs
attribute [local irreducible] seqL opC
def vc_few (sv : (List Int)) (jobs : (List Job)) (Post : (List Int) -> (List Job) -> Prop) : Prop :=
  ∃ (I1 : Int -> List Job -> Prop) (μ1 : Int -> List Job -> Nat), I1 (0 : Int) [] /\ ∀ (v7 : Int) (r0 : List Job), I1 v7 r0 -> (((v7 < (jobs.length : Int)) /\ (v7 < (26 : Int))) -> (0 <= v7 /\ v7 < (jobs.length : Int)) /\ (0 <= v7 /\ v7 < (jobs.length : Int)) /\ (0 <= v7 /\ v7 < (jobs.length : Int)) /\ (0 <= ((0 : Nat) : Int) /\ ((0 : Nat) : Int) <= (min (((lat jobs v7).wk).length : Int) (7 : Int)) /\ (min (((lat jobs v7).wk).length : Int) (7 : Int)) <= (((lat jobs v7).wk).length : Int)) /\ ((r0 ++ [(Job.mk ((lat jobs v7).ar) (((lat jobs v7).wk).take (min (((lat jobs v7).wk).length : Int) (7 : Int)).toNat))]).length <= 1073741824) /\ (inI (v7 + (1 : Int))) /\ (I1 (v7 + (1 : Int)) (r0 ++ [(Job.mk ((lat jobs v7).ar) (((lat jobs v7).wk).take (min (((lat jobs v7).wk).length : Int) (7 : Int)).toNat))]) /\ μ1 (v7 + (1 : Int)) (r0 ++ [(Job.mk ((lat jobs v7).ar) (((lat jobs v7).wk).take (min (((lat jobs v7).wk).length : Int) (7 : Int)).toNat))]) < μ1 v7 r0)) /\ (¬ ((v7 < (jobs.length : Int)) /\ (v7 < (26 : Int))) -> (0 <= ((0 : Nat) : Int) /\ ((0 : Nat) : Int) <= (min (sv.length : Int) (7 : Int)) /\ (min (sv.length : Int) (7 : Int)) <= (sv.length : Int)) /\ Post (sv.take (min (sv.length : Int) (7 : Int)).toNat) r0)
theorem walk_few {sv : (List Int)} {jobs : (List Job)} {Post : (List Int) -> (List Job) -> Prop} (hv : vc_few sv jobs Post) : FnS Try.prog 19 [.lst true sv.length (zYy zYx sv), .lst true jobs.length (zYy (e42 true) jobs)] (fun x => ∃ q0 q1, x = .tup [.lst true q0.length (zYy zYx q0), .lst true q1.length (zYy (e42 true) q1)] /\ Post q0 q1) := by
 refine FnS.of_walk (T := tt) (nt := 46) ttOk ttMix ⟨⟨Try.f19, Try.func19, rfl, rfl, rfl, rfl⟩⟩ (by simp) ?_
 unfold vc_few at hv
 change W _ _ _ ⟨46, look [(0, .lst true sv.length (zYy zYx sv)), (1, .lst true jobs.length (zYy (e42 true) jobs))], [], 0⟩ _
 refine W.ty [(0, .lst _ _ _), (1, .lst _ _ _)] rfl (W.rL ?_)
 iterate 2 refine cL rfl (zZq (v := .nilS) rfl ?_)
 refine eL (W.ty [(0, .lst _ _ _), (1, .lst _ _ _)] rfl (W.rL (cL rfl (zZq (v := .nilS) rfl (eL (W.ty [(0, .lst _ _ _), (1, .lst _ _ _), (6, .nilS)] rfl (W.seq' (W.rL (aI rfl rfl (eL (W.ty [(0, .lst _ _ _), (1, .lst _ _ _), (6, .nilS), (7, .int _ _)] rfl (W.block ?_))))))))))))
 obtain ⟨I1, μ1, hp, hv⟩ := hv
 refine W.loop2 (fun v7 r0 => ⟨46, look [(0, .lst true sv.length (zYy zYx sv)), (1, .lst true jobs.length (zYy (e42 true) jobs)), (6, .ref true 0 r0.length), (7, .int .i64 v7)], [.row 42 2 (zYy (e42 true) r0)], 0⟩) I1 μ1 (0 : Int) [] (St.to_mk (φ := [none]) rfl (rfl) ⟨Ren.lst _ _ _, Ren.lst _ _ _, Ren.nilR rfl rfl, Ren.int _ _, trivial⟩ ⟨rfl, trivial⟩) hp ?_
 clear hp
 intro v7 r0 hI
 replace hv := hv v7 r0 hI
 clear hI
 refine W.seq' (W.rLm ⟨46, look [(0, .lst true sv.length (zYy zYx sv)), (1, .lst true jobs.length (zYy (e42 true) jobs)), (6, .ref true 0 r0.length), (7, .int .i64 v7), (15, .bool (decide ((v7 < (jobs.length : Int)) /\ (v7 < (26 : Int)))))], [.row 42 2 (zYy (e42 true) r0)], 0⟩ ?_ ?_)
 refine mI rfl rfl (mL rfl rfl (cL rfl (zXw (v := .lst _ _ _) tt26 rfl rfl (cL rfl (zYq rfl rfl (mB rfl rfl ?_))))))
 by_cases c1 : v7 < (jobs.length : Int)
 refine cLg rfl rfl (dT c1) (mI rfl rfl (cLg rfl rfl (dT c1) (cL rfl (zYq rfl rfl (cL rfl (zZv (v := .bool _) rfl (dT c1) rfl (eL (zYz ⟨rfl, rfl, rfl, rfl, (congrArg AV.bool (zXv c1 (rfl))).symm, trivial⟩ rfl))))))))
 iterate 2 refine cLs rfl rfl rfl (dF c1) ?_
 refine cL rfl (zZy (v := .bool _) rfl (dF c1) rfl (eL (zYz ⟨rfl, rfl, rfl, rfl, (congrArg AV.bool (dAndF c1)).symm, trivial⟩ rfl)))
 refine W.cn rfl (fun hc => ?_) (fun hc => ?_)
 have hv := hv.1 hc
 refine W.skip (zZ (W.ty [(0, .lst _ _ _), (1, .lst _ _ _), (6, .ref _ _ _), (7, .int _ _)] rfl (W.seq' (W.block (W.rP1g [0, 1, 2, 3, 4, 5, 6, 7, 8, 9, 10, 11, 12, 13, 14, 15, 16, 17, 18, 19, 20, 21, 22] (by decide +kernel) rfl (cL rfl (zZp (v := .ref _ _ _) rfl (mL rfl rfl (mI rfl rfl ?_)))))))))
 obtain ⟨s57, hv⟩ := hv
 refine cL rfl (zYu tt26 tt42 rfl rfl (enc42.wd true) rfl s57 ?_)
 intro rest57
 refine cL rfl (o_faP tt42 rfl tt3 rfl (cL rfl (zZx (v := .int _ _) tt3 rfl rfl ⟨_, rfl⟩ (mL rfl rfl (mI rfl rfl ?_)))))
 obtain ⟨s58, hv⟩ := hv
 refine cL rfl (zYu tt26 tt42 rfl rfl (enc42.wd true) rfl s58 ?_)
 intro rest58
 refine cL rfl (o_faP tt42 rfl tt40 rfl (cL rfl (zZx (v := .lst _ _ _) tt40 rfl rfl ⟨_, rfl⟩ (mL rfl rfl (mI rfl rfl ?_)))))
 obtain ⟨s59, hv⟩ := hv
 refine cL rfl (zYu tt26 tt42 rfl rfl (enc42.wd true) rfl s59 ?_)
 intro rest59
 refine cL rfl (o_faP tt42 rfl tt40 rfl (cL rfl (zZx (v := .lst _ _ _) tt40 rfl rfl ⟨_, rfl⟩ (cL rfl (zXw (v := .lst _ _ _) tt40 rfl rfl (cL rfl (o_min rfl rfl ?_)))))))
 obtain ⟨s60, hv⟩ := hv
 refine cL rfl (o_slL tt40 tt45 rfl (enc45.wd true) rfl rfl rfl s60 (ys := ((lat jobs v7).wk).take (min (((lat jobs v7).wk).length : Int) (7 : Int)).toNat) (by simp) (cL rfl (o_build (qs := [(0, .int _ _), (1, .lst _ _ _)]) (cs := [.int _ _, .lst _ _ _]) tt42 rfl rfl rfl (cL rfl (o_bs1 (v := .agg _) (q := 1) tt26 tt42 rfl rfl rfl rfl rfl rfl rfl rfl ?_)))))
 obtain ⟨s61, hv⟩ := hv
 refine cL rfl (o_apR (p := 2) (q := (r0 ++ [(Job.mk ((lat jobs v7).ar) (((lat jobs v7).wk).take (min (((lat jobs v7).wk).length : Int) (7 : Int)).toNat))]).length) tt26 tt42 rfl rfl (src_ref rfl rfl) rfl rfl (zYw (enc42.wd true) _) (Nat.le_trans (Nat.le_of_eq (@List.length_append _ (r0) ([(Job.mk ((lat jobs v7).ar) (((lat jobs v7).wk).take (min (((lat jobs v7).wk).length : Int) (7 : Int)).toNat))])).symm) s61) rfl (@List.length_append _ (r0) ([(Job.mk ((lat jobs v7).ar) (((lat jobs v7).wk).take (min (((lat jobs v7).wk).length : Int) (7 : Int)).toNat))])).symm (encL_app (e42 true) r0 [(Job.mk ((lat jobs v7).ar) (((lat jobs v7).wk).take (min (((lat jobs v7).wk).length : Int) (7 : Int)).toNat))]) (cL rfl (zZq (v := .ref _ _ _) rfl (eL (⟨rfl, ?_⟩)))))
 refine go_nil (zYv (zZ (W.ty [(0, .lst _ _ _), (1, .lst _ _ _), (6, .ref _ _ _), (7, .int _ _)] rfl (W.rL1 (mI rfl rfl ?_)))))
 obtain ⟨s62, hv⟩ := hv
 refine cL rfl (o_add rfl rfl s62 (aI rfl rfl (eL (zZ (⟨(), (v7 + (1 : Int)), (r0 ++ [(Job.mk ((lat jobs v7).ar) (((lat jobs v7).wk).take (min (((lat jobs v7).wk).length : Int) (7 : Int)).toNat))]), hv, St.to_mk (φ := [some 2]) rfl (rfl) ⟨Ren.lst _ _ _, Ren.lst _ _ _, Ren.refL rfl (fun h => rfl) (by simp only [List.length_append, List.length_take] <;> omega), Ren.int _ _, trivial⟩ ⟨zE enc42 true (r0 ++ [(Job.mk ((lat jobs v7).ar) (((lat jobs v7).wk).take (min (((lat jobs v7).wk).length : Int) (7 : Int)).toNat))]) rfl, trivial⟩⟩)))))
 have hv := hv.2 hc
 refine W.exit (zZt (zZt (zYs (zZ (W.ty [(0, .lst _ _ _), (6, .ref _ _ _)] rfl (W.rL ?_))))))
 iterate 2 refine mL rfl rfl ?_
 refine cL rfl (zXw (v := .lst _ _ _) tt24 rfl rfl (cL rfl (o_min rfl rfl ?_)))
 obtain ⟨s63, hv⟩ := hv
 refine cL rfl (o_slL tt24 tt3 rfl (zZw.wd true) rfl rfl rfl s63 (ys := sv.take (min (sv.length : Int) (7 : Int)).toNat) (by simp) (cL rfl (zZp (v := .ref _ _ _) rfl (aL rfl rfl (cL rfl (zZq (v := .ref _ _ _) rfl (eL (W.ty [(4, .lst _ _ _), (5, .ref _ _ _)] rfl (W.ret (rt (rt_t (v := .lst _ _ _) rfl (rt_t (v := .ref _ _ _) rfl (rt_n (⟨_, gs_tup 5 _ (Wks.cons (zZs _ _ _ _ _) (Wks.cons (ag_ref (fl := true) (xs := r0) enc42 3 _ rfl rfl) zk)), (sv.take (min (sv.length : Int) (7 : Int)).toNat), r0, rfl, hv⟩))))))))))))))
set_option maxHeartbeats 4000000 in
theorem vcp_few (sv : (List Int)) (jobs : (List Job)) (h0 : sv.length <= 9223372036854775807) (h1 : ∀ j ∈ jobs, j.wk.length <= 9223372036854775807) (h2 : jobs.length <= 9223372036854775807) : vc_few sv jobs (fun q0 q1 => q0 = (fewM sv jobs).1 /\ q1 = (fewM sv jobs).2) := by
  have e : ∀ n : Nat, (min ((n : Nat) : Int) 7).toNat = min n 7 := fun n => by omega
  have et : ∀ {α : Type} (l : List α), l.take (min l.length 7) = l.take 7 := fun l => by
    rw [Nat.min_comm, <- List.take_take, List.take_length]
  unfold vc_few
  simp only [e, et]
  refine ⟨fun v l => ∃ i : Nat, v = i /\ i <= jobs.length /\ i <= 26 /\ l = (jobs.take i).map fun j => ⟨j.ar, j.wk.take 7⟩, fun v _ => 26 - v.toNat, ⟨0, rfl, by omega, by omega, rfl⟩, ?_⟩
  rintro _ _ ⟨i, rfl, hi, h26, rfl⟩
  refine ⟨fun k1 => ?_, fun k1 => ?_⟩
  . have ix : 0 <= (i : Int) /\ (i : Int) < (jobs.length : Int) := ⟨by omega, by omega⟩
    refine ⟨ix, ix, ix, ⟨by omega, by omega, by omega⟩, by simp; omega, by unfold inI; omega, ⟨i + 1, by omega, by omega, by omega, ?_⟩, by show 26 - ((i : Int) + 1).toNat < 26 - (i : Int).toNat; omega⟩
    rw [take_succ_lat (l := jobs) (i := i) (by omega), List.map_append]; rfl
  . refine ⟨⟨by omega, by omega, by omega⟩, rfl, ?_⟩
    show _ = (jobs.take 26).map _
    rcases Nat.lt_or_ge i 26 with h | h
    . rw [List.take_of_length_le (l := jobs) (i := i) (by omega), List.take_of_length_le (l := jobs) (i := 26) (by omega)]
    . rw [show i = 26 by omega]
theorem spec_few (sv : (List Int)) (jobs : (List Job)) (h0 : sv.length <= 9223372036854775807) (h1 : ∀ j ∈ jobs, j.wk.length <= 9223372036854775807) (h2 : jobs.length <= 9223372036854775807) : FnS Try.prog 19 [.lst true sv.length (zYy zYx sv), .lst true jobs.length (zYy (e42 true) jobs)] (fun xR => xR = .tup [.lst true ((fewM sv jobs).1).length (zYy zYx ((fewM sv jobs).1)), .lst true ((fewM sv jobs).2).length (zYy (e42 true) ((fewM sv jobs).2))]) :=
  (walk_few (vcp_few sv jobs h0 h1 h2)).mono (by rintro _ ⟨_, _, rfl, rfl, rfl⟩; rfl)
def vc_pick35 (c : Int) (n : Int) (Post : Int -> Prop) : Prop :=
  ∃ J1 : Int -> Prop, (∀ (v0 : Int), J1 v0 -> (n ≠ 0) /\ Post (v0.tmod n)) /\ (((c < (0 : Int)) -> (inI (c + (1 : Int))) /\ (inI (-(c + (1 : Int)))) /\ J1 (-(c + (1 : Int)))) /\ (¬ (c < (0 : Int)) -> J1 c))
theorem walk_pick35 {c : Int} {n : Int} {Post : Int -> Prop} (hv : vc_pick35 c n Post) : FnP Try.prog 35 [.int .i64 c, .int .i64 n] (fun x => ∃ q0, x = .int .i64 q0 /\ Post q0) := by
 refine FnP.of_walk (T := tt) (nt := 13) ttOk ttMix ⟨⟨Try.f35, Try.func35, rfl, rfl, rfl, rfl⟩⟩ (by simp) ?_
 unfold vc_pick35 at hv
 change W _ _ _ ⟨13, look [(0, .int .i64 c), (1, .int .i64 n)], [], 0⟩ _
 refine W.ty [(0, .int _ _), (1, .int _ _)] rfl (W.rL (aI rfl rfl (eL (W.ty [(0, .int _ _), (1, .int _ _)] rfl ?_))))
 obtain ⟨J1, hj, hv⟩ := hv
 refine W.mid1 (fun v0 => ⟨13, look [(0, .int .i64 v0), (1, .int .i64 n)], [], 0⟩) J1 ?_ ?_
 intro v0
 intro hv
 replace hv := hj v0 hv
 refine W.rL ?_
 iterate 2 refine mI rfl rfl ?_
 obtain ⟨s3, hv⟩ := hv
 refine cL rfl (o_rem rfl rfl s3 (aI rfl rfl (eL (W.ty [(4, .int _ _)] rfl (W.ret (rt (rt_t (v := .int _ _) rfl (rt_n (⟨_, zY _ _ _ _, (v0.tmod n), rfl, hv⟩)))))))))
 clear hj
 refine W.rL (mI rfl rfl (cL rfl (zYq rfl rfl (eL (W.ty [(0, .int _ _), (1, .int _ _), (6, .bool _)] rfl (W.cn rfl (fun hc => ?_) (fun hc => ?_)))))))
 have hv := hv.1 hc
 refine W.rL1 (mI rfl rfl ?_)
 obtain ⟨s4, hv⟩ := hv
 refine cL rfl (o_add rfl rfl s4 ?_)
 obtain ⟨s5, hv⟩ := hv
 refine cL rfl (o_neg rfl s5 (aI rfl rfl (eL (zZ (⟨(), (-(c + (1 : Int))), hv, St.to_mk (φ := []) rfl (rfl) (zT rfl rfl) trivial⟩)))))
 have hv := hv.2 hc
 refine W.skip (zZ (⟨(), c, hv, St.to_mk (φ := []) rfl (rfl) (zT rfl rfl) trivial⟩))
set_option maxHeartbeats 4000000 in
theorem vcp_pick35 (c : Int) (n : Int) (h0 : 1 <= n) (h1 : inI c) : vc_pick35 c n (fun q0 => q0 = (pickM c n)) := by
  unfold vc_pick35
  refine ⟨fun v => v = if c < 0 then -(c + 1) else c, fun v hv => ⟨by omega, by subst hv; rfl⟩, fun h => ⟨by unfold inI at *; omega, by unfold inI at *; omega, (if_pos h).symm⟩, fun h => (if_neg h).symm⟩
theorem spec_pick35 (c : Int) (n : Int) (h0 : 1 <= n) (h1 : inI c) : FnP Try.prog 35 [.int .i64 c, .int .i64 n] (fun xR => xR = .int .i64 (pickM c n)) :=
  (walk_pick35 (vcp_pick35 c n h0 h1)).mono (by rintro _ ⟨_, rfl, rfl⟩; rfl)
def vc_servers (n : Int) (Post : (List Int) -> Prop) : Prop :=
  ∃ (I1 : Int -> List Int -> Prop) (μ1 : Int -> List Int -> Nat), I1 (0 : Int) [] /\ ∀ (v4 : Int) (r0 : List Int), I1 v4 r0 -> (1 <= (3 : Int)) /\ (inI n) /\ (inI ((1 : Int) + (pickM n (3 : Int)))) /\ ((v4 < ((1 : Int) + (pickM n (3 : Int)))) -> (inI ((3 : Int) + v4)) /\ (((3 : Int) + v4) ≠ 0) /\ (inI (n.tdiv ((3 : Int) + v4))) /\ (1 <= (3 : Int)) /\ (inI (n.tdiv ((3 : Int) + v4))) /\ (inI ((1 : Int) + (pickM (n.tdiv ((3 : Int) + v4)) (3 : Int)))) /\ ((r0 ++ [((1 : Int) + (pickM (n.tdiv ((3 : Int) + v4)) (3 : Int)))]).length <= 1073741824) /\ (inI (v4 + (1 : Int))) /\ (I1 (v4 + (1 : Int)) (r0 ++ [((1 : Int) + (pickM (n.tdiv ((3 : Int) + v4)) (3 : Int)))]) /\ μ1 (v4 + (1 : Int)) (r0 ++ [((1 : Int) + (pickM (n.tdiv ((3 : Int) + v4)) (3 : Int)))]) < μ1 v4 r0)) /\ (¬ (v4 < ((1 : Int) + (pickM n (3 : Int)))) -> Post r0)
theorem walk_servers {n : Int} {Post : (List Int) -> Prop} (hv : vc_servers n Post) : FnP Try.prog 10 [.int .i64 n] (fun x => ∃ q0, x = .lst false q0.length (zYy zYx q0) /\ Post q0) := by
 refine FnP.of_walk (T := tt) (nt := 22) ttOk ttMix ⟨⟨Try.f10, Try.func10, rfl, rfl, rfl, rfl⟩⟩ (by simp) ?_
 unfold vc_servers at hv
 change W _ _ _ ⟨22, look [(0, .int .i64 n)], [], 0⟩ _
 refine W.ty [(0, .int _ _)] rfl (W.rL (cL rfl (zZq (v := .nilS) rfl (eL (W.ty [(0, .int _ _)] rfl (W.rL (cL rfl (zZq (v := .nilS) rfl (eL (W.ty [(0, .int _ _), (3, .nilS)] rfl (W.seq' (W.rL (aI rfl rfl (eL (W.ty [(0, .int _ _), (3, .nilS), (4, .int _ _)] rfl (W.block ?_))))))))))))))))
 obtain ⟨I1, μ1, hp, hv⟩ := hv
 refine W.loop2 (fun v4 r0 => ⟨22, look [(0, .int .i64 n), (3, .ref true 0 r0.length), (4, .int .i64 v4)], [.row 3 1 (zYy zYx r0)], 0⟩) I1 μ1 (0 : Int) [] (St.to_mk (φ := [none]) rfl (rfl) ⟨Ren.int _ _, Ren.nilR rfl rfl, Ren.int _ _, trivial⟩ ⟨rfl, trivial⟩) hp ?_
 clear hp
 intro v4 r0 hI
 replace hv := hv v4 r0 hI
 clear hI
 refine W.seq' (W.rL ?_)
 iterate 2 refine mI rfl rfl ?_
 obtain ⟨s109, s110, hv⟩ := hv
 refine cL rfl (zZu (k := 35) (fst := []) (caps := []) (ys := [.int _ _, .int _ _]) rfl rfl (spec_pick35 n (3 : Int) s109 s110) zk ?_)
 obtain ⟨s111, hv⟩ := hv
 refine cL rfl (o_add rfl rfl s111 (cL rfl (zYq rfl rfl (eL (W.ty [(0, .int _ _), (3, .ref _ _ _), (4, .int _ _), (9, .bool _)] rfl (W.cn rfl (fun hc => ?_) (fun hc => ?_)))))))
 have hv := hv.1 hc
 refine W.skip (zZ (W.ty [(0, .int _ _), (3, .ref _ _ _), (4, .int _ _)] rfl (W.seq' (W.block (W.rL1 (cL rfl (zZp (v := .ref _ _ _) rfl ?_)))))))
 iterate 2 refine mI rfl rfl ?_
 obtain ⟨s119, hv⟩ := hv
 refine cL rfl (o_add rfl rfl s119 ?_)
 obtain ⟨s120, s121, hv⟩ := hv
 refine cL rfl (o_quo rfl rfl s120 s121 ?_)
 obtain ⟨s122, s123, hv⟩ := hv
 refine cL rfl (zZu (k := 35) (fst := []) (caps := []) (ys := [.int _ _, .int _ _]) rfl rfl (spec_pick35 (n.tdiv ((3 : Int) + v4)) (3 : Int) s122 s123) zk ?_)
 obtain ⟨s124, hv⟩ := hv
 refine cL rfl (o_add rfl rfl s124 (cL rfl (o_bs1 (v := .int _ _) (q := 1) tt24 tt3 rfl rfl rfl rfl rfl rfl rfl rfl ?_)))
 obtain ⟨s125, hv⟩ := hv
 refine cL rfl (o_apR (p := 2) (q := (r0 ++ [((1 : Int) + (pickM (n.tdiv ((3 : Int) + v4)) (3 : Int)))]).length) tt24 tt3 rfl rfl (src_ref rfl rfl) rfl rfl (zYw (zZw.wd false) _) (Nat.le_trans (Nat.le_of_eq (@List.length_append _ (r0) ([((1 : Int) + (pickM (n.tdiv ((3 : Int) + v4)) (3 : Int)))])).symm) s125) rfl (@List.length_append _ (r0) ([((1 : Int) + (pickM (n.tdiv ((3 : Int) + v4)) (3 : Int)))])).symm (encL_app zYx r0 [((1 : Int) + (pickM (n.tdiv ((3 : Int) + v4)) (3 : Int)))]) (cL rfl (zZq (v := .ref _ _ _) rfl (eL (zYv (zZ (W.ty [(0, .int _ _), (3, .ref _ _ _), (4, .int _ _)] rfl (W.rL1 (mI rfl rfl ?_)))))))))
 obtain ⟨s126, hv⟩ := hv
 refine cL rfl (o_add rfl rfl s126 (aI rfl rfl (eL (zZ (⟨(), (v4 + (1 : Int)), (r0 ++ [((1 : Int) + (pickM (n.tdiv ((3 : Int) + v4)) (3 : Int)))]), hv, St.to_mk (φ := [some 2]) rfl (rfl) ⟨Ren.int _ _, Ren.ref rfl (fun h => rfl), Ren.int _ _, trivial⟩ ⟨zE zZw false (r0 ++ [((1 : Int) + (pickM (n.tdiv ((3 : Int) + v4)) (3 : Int)))]) rfl, trivial⟩⟩)))))
 have hv := hv.2 hc
 refine W.exit (zZt (zZt (zYs (zZ (W.ty [(3, .ref _ _ _)] rfl (W.rL (cL rfl (zZp (v := .ref _ _ _) rfl (cL rfl (zZq (v := .ref _ _ _) rfl (eL (W.ty [(2, .ref _ _ _)] rfl (W.ret (rt (rt_t (v := .ref _ _ _) rfl (rt_n (⟨_, rs_ref zZw 4 _ rfl rfl, r0, rfl, hv⟩)))))))))))))))))
set_option maxHeartbeats 4000000 in
theorem vcp_servers (n : Int) (h0 : inI n) : vc_servers n (fun q0 => q0 = (serversM n)) := by
  unfold vc_servers
  have hp := zXz (c := n) (n := 3) (by omega)
  refine ⟨fun v l => ∃ i : Nat, v = i /\ (i : Int) <= 1 + pickM n 3 /\ l = (List.range i).map fun i : Nat => 1 + pickM (n.tdiv (3 + i)) 3, fun v _ => (1 + pickM n 3).toNat - v.toNat, ⟨0, rfl, by omega, rfl⟩, ?_⟩
  rintro _ _ ⟨i, rfl, hi, rfl⟩
  refine ⟨by omega, h0, by unfold inI; omega, fun k1 => ?_, fun k1 => ?_⟩
  . have ht := inI_td (x := n) (k := 3 + i) (by omega) h0
    have hq := zXz (c := n.tdiv (3 + i)) (n := 3) (by omega)
    refine ⟨by unfold inI; omega, by omega, ht, by omega, ht, by unfold inI; omega, by simp; omega, by unfold inI; omega, ⟨i + 1, by omega, by omega, ?_⟩, by show (1 + pickM n 3).toNat - ((i : Int) + 1).toNat < (1 + pickM n 3).toNat - (i : Int).toNat; omega⟩
    rw [map_range_succ]
  . unfold serversM
    rw [show (1 + pickM n 3).toNat = i by omega]
theorem spec_servers (n : Int) (h0 : inI n) : FnP Try.prog 10 [.int .i64 n] (fun xR => xR = .lst false (serversM n).length (zYy zYx (serversM n))) :=
  (walk_servers (vcp_servers n h0)).mono (by rintro _ ⟨_, rfl, rfl⟩; rfl)
def vc_jobs (n : Int) (x : (List (Vector Int 4))) (Post : (List Job) -> Prop) : Prop :=
  ∃ (I1 : Int -> List Job -> Prop) (μ1 : Int -> List Job -> Nat), I1 (0 : Int) [] /\ ∀ (v6 : Int) (r0 : List Job), I1 v6 r0 -> (((v6 < (x.length : Int)) /\ (v6 < (12 : Int))) -> (0 <= v6 /\ v6 < (x.length : Int)) /\ (0 <= (0 : Int) /\ (0 : Int) < ((4 : Nat) : Int)) /\ (1 <= (40 : Int)) /\ (inI (vat (lat x v6) (0 : Int).toNat)) /\ ∃ (I2 : Int -> Int -> List Ld -> Prop) (μ2 : Int -> Int -> List Ld -> Nat), I2 (0 : Int) (pickM (vat (lat x v6) (0 : Int).toNat) (40 : Int)) [] /\ ∀ (v8 : Int) (b1ar : Int) (r2 : List Ld), I2 v8 b1ar r2 -> (0 <= v6 /\ v6 < (x.length : Int)) /\ (0 <= (1 : Int) /\ (1 : Int) < ((4 : Nat) : Int)) /\ (1 <= (4 : Int)) /\ (inI (vat (lat x v6) (1 : Int).toNat)) /\ ((v8 < (pickM (vat (lat x v6) (1 : Int).toNat) (4 : Int))) -> (0 <= v6 /\ v6 < (x.length : Int)) /\ (0 <= (2 : Int) /\ (2 : Int) < ((4 : Nat) : Int)) /\ (inI ((1 : Int) + v8)) /\ (((1 : Int) + v8) ≠ 0) /\ (inI ((vat (lat x v6) (2 : Int).toNat).tdiv ((1 : Int) + v8))) /\ (0 <= v6 /\ v6 < (x.length : Int)) /\ (0 <= (3 : Int) /\ (3 : Int) < ((4 : Nat) : Int)) /\ (inI ((3 : Int) * v8)) /\ (inI ((1 : Int) + ((3 : Int) * v8))) /\ (((1 : Int) + ((3 : Int) * v8)) ≠ 0) /\ (inI ((vat (lat x v6) (3 : Int).toNat).tdiv ((1 : Int) + ((3 : Int) * v8)))) /\ (1 <= n) /\ (inI ((vat (lat x v6) (2 : Int).toNat).tdiv ((1 : Int) + v8))) /\ (1 <= (13 : Int)) /\ (inI ((vat (lat x v6) (3 : Int).toNat).tdiv ((1 : Int) + ((3 : Int) * v8)))) /\ ((r2 ++ [(Ld.mk (pickM ((vat (lat x v6) (2 : Int).toNat).tdiv ((1 : Int) + v8)) n) (pickM ((vat (lat x v6) (3 : Int).toNat).tdiv ((1 : Int) + ((3 : Int) * v8))) (13 : Int)))]).length <= 1073741824) /\ (inI (v8 + (1 : Int))) /\ (I2 (v8 + (1 : Int)) b1ar (r2 ++ [(Ld.mk (pickM ((vat (lat x v6) (2 : Int).toNat).tdiv ((1 : Int) + v8)) n) (pickM ((vat (lat x v6) (3 : Int).toNat).tdiv ((1 : Int) + ((3 : Int) * v8))) (13 : Int)))]) /\ μ2 (v8 + (1 : Int)) b1ar (r2 ++ [(Ld.mk (pickM ((vat (lat x v6) (2 : Int).toNat).tdiv ((1 : Int) + v8)) n) (pickM ((vat (lat x v6) (3 : Int).toNat).tdiv ((1 : Int) + ((3 : Int) * v8))) (13 : Int)))]) < μ2 v8 b1ar r2)) /\ (¬ (v8 < (pickM (vat (lat x v6) (1 : Int).toNat) (4 : Int))) -> ((r0 ++ [(Job.mk b1ar r2)]).length <= 1073741824) /\ (inI (v6 + (1 : Int))) /\ (I1 (v6 + (1 : Int)) (r0 ++ [(Job.mk b1ar r2)]) /\ μ1 (v6 + (1 : Int)) (r0 ++ [(Job.mk b1ar r2)]) < μ1 v6 r0))) /\ (¬ ((v6 < (x.length : Int)) /\ (v6 < (12 : Int))) -> Post r0)
theorem walk_jobs {n : Int} {x : (List (Vector Int 4))} {Post : (List Job) -> Prop} (hv : vc_jobs n x Post) : FnP Try.prog 11 [.int .i64 n, .lst true x.length (zYy eV4 x)] (fun x => ∃ q0, x = .lst false q0.length (zYy (e42 true) q0) /\ Post q0) := by
 refine FnP.of_walk (T := tt) (nt := 67) ttOk ttMix ⟨⟨Try.f11, Try.func11, rfl, rfl, rfl, rfl⟩⟩ (by simp) ?_
 unfold vc_jobs at hv
 change W _ _ _ ⟨67, look [(0, .int .i64 n), (1, .lst true x.length (zYy eV4 x))], [], 0⟩ _
 refine W.ty [(0, .int _ _), (1, .lst _ _ _)] rfl (W.rL (cL rfl (zZq (v := .nilS) rfl (eL (W.ty [(0, .int _ _), (1, .lst _ _ _)] rfl (W.rL (cL rfl (zZq (v := .nilS) rfl (eL (W.ty [(0, .int _ _), (1, .lst _ _ _), (5, .nilS)] rfl (W.seq' (W.rL (aI rfl rfl (eL (W.ty [(0, .int _ _), (1, .lst _ _ _), (5, .nilS), (6, .int _ _)] rfl (W.block ?_))))))))))))))))
 obtain ⟨I1, μ1, hp, hv⟩ := hv
 refine W.loop2 (fun v6 r0 => ⟨67, look [(0, .int .i64 n), (1, .lst true x.length (zYy eV4 x)), (5, .ref true 0 r0.length), (6, .int .i64 v6)], [.row 42 2 (zYy (e42 false) r0)], 0⟩) I1 μ1 (0 : Int) [] (St.to_mk (φ := [none]) rfl (rfl) ⟨Ren.int _ _, Ren.lst _ _ _, Ren.nilR rfl rfl, Ren.int _ _, trivial⟩ ⟨rfl, trivial⟩) hp ?_
 clear hp
 intro v6 r0 hI
 replace hv := hv v6 r0 hI
 clear hI
 refine W.seq' (W.rLm ⟨67, look [(0, .int .i64 n), (1, .lst true x.length (zYy eV4 x)), (5, .ref true 0 r0.length), (6, .int .i64 v6), (16, .bool (decide ((v6 < (x.length : Int)) /\ (v6 < (12 : Int)))))], [.row 42 2 (zYy (e42 false) r0)], 0⟩ ?_ ?_)
 refine mI rfl rfl (mL rfl rfl (cL rfl (zXw (v := .lst _ _ _) tt22 rfl rfl (cL rfl (zYq rfl rfl (mB rfl rfl ?_))))))
 by_cases c1 : v6 < (x.length : Int)
 refine cLg rfl rfl (dT c1) (mI rfl rfl (cLg rfl rfl (dT c1) (cL rfl (zYq rfl rfl (cL rfl (zZv (v := .bool _) rfl (dT c1) rfl (eL (zYz ⟨rfl, rfl, rfl, rfl, (congrArg AV.bool (zXv c1 (rfl))).symm, trivial⟩ rfl))))))))
 iterate 2 refine cLs rfl rfl rfl (dF c1) ?_
 refine cL rfl (zZy (v := .bool _) rfl (dF c1) rfl (eL (zYz ⟨rfl, rfl, rfl, rfl, (congrArg AV.bool (dAndF c1)).symm, trivial⟩ rfl)))
 refine W.cn rfl (fun hc => ?_) (fun hc => ?_)
 have hv := hv.1 hc
 refine W.skip (zZ (W.ty [(0, .int _ _), (1, .lst _ _ _), (5, .ref _ _ _), (6, .int _ _)] rfl (W.seq' (W.block (W.rL (mL rfl rfl (mI rfl rfl ?_)))))))
 obtain ⟨s2763, hv⟩ := hv
 refine cL rfl (zYu tt22 tt73 rfl rfl (encV4.wd true) rfl s2763 ?_)
 intro rest2763
 obtain ⟨s2764, hv⟩ := hv
 refine cL rfl (o_iaPV tt73 tt3 rfl rfl s2764 ?_)
 intro rest2764
 refine cL rfl (zZx (v := .int _ _) tt3 rfl rfl ⟨_, rfl⟩ ?_)
 obtain ⟨s2765, s2766, hv⟩ := hv
 refine cL rfl (zZu (k := 35) (fst := []) (caps := []) (ys := [.int _ _, .int _ _]) rfl rfl (spec_pick35 (vat (lat x v6) (0 : Int).toNat) (40 : Int) s2765 s2766) zk (cL rfl (o_build (qs := [(0, .int _ _)]) (cs := [.int _ _, .nilS]) tt42 rfl rfl rfl (cL rfl (zXy (p := 1) tt42 rfl rfl (cLn (o_stB (v := .agg _) (vs := [.int _ _, .nilS]) (cs2 := [.int _ _, .nilS]) tt42 rfl rfl rfl rfl rfl (Nat.le_of_ble_eq_true rfl) rfl (eL (W.ty [(0, .int _ _), (1, .lst _ _ _), (5, .ref _ _ _), (6, .int _ _), (7, .ptr _ _)] rfl (W.seq' (W.rL (aI rfl rfl (eL (W.ty [(0, .int _ _), (1, .lst _ _ _), (5, .ref _ _ _), (6, .int _ _), (7, .ptr _ _), (8, .int _ _)] rfl (W.block ?_)))))))))))))))
 obtain ⟨I2, μ2, hp, hv⟩ := hv
 refine W.loop3 (fun v8 b1ar r2 => ⟨67, look [(0, .int .i64 n), (1, .lst true x.length (zYy eV4 x)), (5, .ref true 0 r0.length), (6, .int .i64 v6), (7, .ptr 1 0), (8, .int .i64 v8)], [.row 42 2 (zYy (e42 false) r0), .box 42 [.int .i64 b1ar, .ref true 2 r2.length], .row 45 2 (zYy e45 r2)], 0⟩) I2 μ2 (0 : Int) (pickM (vat (lat x v6) (0 : Int).toNat) (40 : Int)) [] (St.to_mk (φ := [some 0, some 1, none]) rfl (rfl) ⟨Ren.int _ _, Ren.lst _ _ _, Ren.ref rfl (fun h => rfl), Ren.int _ _, Ren.ptr rfl, Ren.int _ _, trivial⟩ ⟨zE enc42 false r0 rfl, .inr ⟨_, rfl, rfl, Rens.cons (Ren.int _ _) (Rens.cons (Ren.nilR rfl rfl) (Rens.nil))⟩, rfl, trivial⟩) hp ?_
 clear hp
 intro v8 b1ar r2 hI
 replace hv := hv v8 b1ar r2 hI
 clear hI
 refine W.seq' (W.rL (mI rfl rfl (mL rfl rfl (mI rfl rfl ?_))))
 obtain ⟨s2976, hv⟩ := hv
 refine cL rfl (zYu tt22 tt73 rfl rfl (encV4.wd true) rfl s2976 ?_)
 intro rest2976
 obtain ⟨s2977, hv⟩ := hv
 refine cL rfl (o_iaPV tt73 tt3 rfl rfl s2977 ?_)
 intro rest2977
 refine cL rfl (zZx (v := .int _ _) tt3 rfl rfl ⟨_, rfl⟩ ?_)
 obtain ⟨s2978, s2979, hv⟩ := hv
 refine cL rfl (zZu (k := 35) (fst := []) (caps := []) (ys := [.int _ _, .int _ _]) rfl rfl (spec_pick35 (vat (lat x v6) (1 : Int).toNat) (4 : Int) s2978 s2979) zk (cL rfl (zYq rfl rfl (eL (W.ty [(0, .int _ _), (1, .lst _ _ _), (5, .ref _ _ _), (6, .int _ _), (7, .ptr _ _), (8, .int _ _), (33, .bool _)] rfl (W.cn rfl (fun hc => ?_) (fun hc => ?_)))))))
 have hv := hv.1 hc
 refine W.skip (zZ (W.ty [(0, .int _ _), (1, .lst _ _ _), (5, .ref _ _ _), (6, .int _ _), (7, .ptr _ _), (8, .int _ _)] rfl (W.seq' (W.block (W.rP1 [0, 1, 2, 3, 4, 5, 6, 7, 8, 9, 10, 12, 13, 14, 15, 16, 17, 18, 19, 20, 11, 21, 22, 23, 24, 25, 26] (by decide +kernel) rfl (cL rfl (o_fa tt42 rfl tt40 rfl (cL rfl (zZx (v := .ref _ _ _) tt40 rfl rfl ⟨_, rfl⟩ (mL rfl rfl (mI rfl rfl ?_)))))))))))
 obtain ⟨s2996, hv⟩ := hv
 refine cL rfl (zYu tt22 tt73 rfl rfl (encV4.wd true) rfl s2996 ?_)
 intro rest2996
 obtain ⟨s2997, hv⟩ := hv
 refine cL rfl (o_iaPV tt73 tt3 rfl rfl s2997 ?_)
 intro rest2997
 refine cL rfl (zZx (v := .int _ _) tt3 rfl rfl ⟨_, rfl⟩ (mI rfl rfl ?_))
 obtain ⟨s2998, hv⟩ := hv
 refine cL rfl (o_add rfl rfl s2998 ?_)
 obtain ⟨s2999, s3000, hv⟩ := hv
 refine cL rfl (o_quo rfl rfl s2999 s3000 (mI rfl rfl (mL rfl rfl (mI rfl rfl ?_))))
 obtain ⟨s3001, hv⟩ := hv
 refine cL rfl (zYu tt22 tt73 rfl rfl (encV4.wd true) rfl s3001 ?_)
 intro rest3001
 obtain ⟨s3002, hv⟩ := hv
 refine cL rfl (o_iaPV tt73 tt3 rfl rfl s3002 ?_)
 intro rest3002
 refine cL rfl (zZx (v := .int _ _) tt3 rfl rfl ⟨_, rfl⟩ (mI rfl rfl ?_))
 obtain ⟨s3003, hv⟩ := hv
 refine cL rfl (o_mul rfl rfl s3003 ?_)
 obtain ⟨s3004, hv⟩ := hv
 refine cL rfl (o_add rfl rfl s3004 ?_)
 obtain ⟨s3005, s3006, hv⟩ := hv
 refine cL rfl (o_quo rfl rfl s3005 s3006 ?_)
 obtain ⟨s3007, s3008, hv⟩ := hv
 refine cL rfl (zZu (k := 35) (fst := []) (caps := []) (ys := [.int _ _, .int _ _]) rfl rfl (spec_pick35 ((vat (lat x v6) (2 : Int).toNat).tdiv ((1 : Int) + v8)) n s3007 s3008) zk ?_)
 obtain ⟨s3009, s3010, hv⟩ := hv
 refine cL rfl (zZu (k := 35) (fst := []) (caps := []) (ys := [.int _ _, .int _ _]) rfl rfl (spec_pick35 ((vat (lat x v6) (3 : Int).toNat).tdiv ((1 : Int) + ((3 : Int) * v8))) (13 : Int) s3009 s3010) zk (cL rfl (o_build (qs := [(0, .int _ _), (1, .int _ _)]) (cs := [.int _ _, .int _ _]) tt45 rfl rfl rfl (cL rfl (o_bs1 (v := .agg _) (q := 3) tt40 tt45 rfl rfl rfl rfl rfl rfl rfl rfl ?_)))))
 obtain ⟨s3011, hv⟩ := hv
 refine cL rfl (o_apR (p := 4) (q := (r2 ++ [(Ld.mk (pickM ((vat (lat x v6) (2 : Int).toNat).tdiv ((1 : Int) + v8)) n) (pickM ((vat (lat x v6) (3 : Int).toNat).tdiv ((1 : Int) + ((3 : Int) * v8))) (13 : Int)))]).length) tt40 tt45 rfl rfl (src_ref rfl rfl) rfl rfl (zYw (enc45.wd false) _) (Nat.le_trans (Nat.le_of_eq (@List.length_append _ (r2) ([(Ld.mk (pickM ((vat (lat x v6) (2 : Int).toNat).tdiv ((1 : Int) + v8)) n) (pickM ((vat (lat x v6) (3 : Int).toNat).tdiv ((1 : Int) + ((3 : Int) * v8))) (13 : Int)))])).symm) s3011) rfl (@List.length_append _ (r2) ([(Ld.mk (pickM ((vat (lat x v6) (2 : Int).toNat).tdiv ((1 : Int) + v8)) n) (pickM ((vat (lat x v6) (3 : Int).toNat).tdiv ((1 : Int) + ((3 : Int) * v8))) (13 : Int)))])).symm (encL_app e45 r2 [(Ld.mk (pickM ((vat (lat x v6) (2 : Int).toNat).tdiv ((1 : Int) + v8)) n) (pickM ((vat (lat x v6) (3 : Int).toNat).tdiv ((1 : Int) + ((3 : Int) * v8))) (13 : Int)))]) (cL rfl (o_fa tt42 rfl tt40 rfl (cLn (o_stB (v := .ref _ _ _) (vs := [.ref _ _ _]) (cs2 := [.int _ _, .ref _ _ _]) tt40 rfl rfl rfl rfl rfl (Nat.le_of_ble_eq_true rfl) rfl (eL (zYv (zZ (W.ty [(0, .int _ _), (1, .lst _ _ _), (5, .ref _ _ _), (6, .int _ _), (7, .ptr _ _), (8, .int _ _)] rfl (W.rL1 (mI rfl rfl ?_)))))))))))
 obtain ⟨s3012, hv⟩ := hv
 refine cL rfl (o_add rfl rfl s3012 (aI rfl rfl (eL (zZ (⟨(), (v8 + (1 : Int)), b1ar, (r2 ++ [(Ld.mk (pickM ((vat (lat x v6) (2 : Int).toNat).tdiv ((1 : Int) + v8)) n) (pickM ((vat (lat x v6) (3 : Int).toNat).tdiv ((1 : Int) + ((3 : Int) * v8))) (13 : Int)))]), hv, St.to_mk (φ := [some 0, some 1, some 4]) rfl (rfl) ⟨Ren.int _ _, Ren.lst _ _ _, Ren.ref rfl (fun h => rfl), Ren.int _ _, Ren.ptr rfl, Ren.int _ _, trivial⟩ ⟨zE enc42 false r0 rfl, .inr ⟨_, rfl, rfl, Rens.cons (Ren.int _ _) (Rens.cons (Ren.ref rfl (fun h => rfl)) (Rens.nil))⟩, zE enc45 false (r2 ++ [(Ld.mk (pickM ((vat (lat x v6) (2 : Int).toNat).tdiv ((1 : Int) + v8)) n) (pickM ((vat (lat x v6) (3 : Int).toNat).tdiv ((1 : Int) + ((3 : Int) * v8))) (13 : Int)))]) rfl, trivial⟩⟩)))))
 have hv := hv.2 hc
 refine W.exit (zZt (zZt (zYs (zZ (W.ty [(0, .int _ _), (1, .lst _ _ _), (5, .ref _ _ _), (6, .int _ _), (7, .ptr _ _)] rfl (W.sealB false 2 1 (bcs' := [.int .i64 b1ar, .lst false r2.length (zYy e45 r2)]) (l := [(0, .int .i64 n), (1, .lst true x.length (zYy eV4 x)), (5, .ref true 0 r0.length), (6, .int .i64 v6), (7, .ptr 1 0)]) rfl rfl (encL_sl enc45 false r2) ⟨.inl rfl, .inl rfl, .inl rfl, .inl rfl, .inl rfl, trivial⟩ ⟨.inl rfl, .inr ⟨_, _, rfl, (zYw (enc45.wd false) _), rfl⟩, trivial⟩ rfl (W.rL1g (cL rfl (zZp (v := .ref _ _ _) rfl (cL rfl (zYp (cs := [.int _ _, .lst _ _ _]) tt42 rfl rfl ⟨_, rfl⟩ rfl (cL rfl (o_bs1 (v := .agg _) (q := 3) tt26 tt42 rfl rfl rfl rfl rfl rfl rfl rfl ?_)))))))))))))
 obtain ⟨s3013, hv⟩ := hv
 refine cL rfl (o_apR (p := 4) (q := (r0 ++ [(Job.mk b1ar r2)]).length) tt26 tt42 rfl rfl (src_ref rfl rfl) rfl rfl (zYw (enc42.wd false) _) (Nat.le_trans (Nat.le_of_eq (@List.length_append _ (r0) ([(Job.mk b1ar r2)])).symm) s3013) rfl (@List.length_append _ (r0) ([(Job.mk b1ar r2)])).symm (encL_app (e42 false) r0 [(Job.mk b1ar r2)]) (cL rfl (zZq (v := .ref _ _ _) rfl (eL (go_nil (zYv (zZ (W.ty [(0, .int _ _), (1, .lst _ _ _), (5, .ref _ _ _), (6, .int _ _)] rfl (W.rL1 (mI rfl rfl ?_))))))))))
 obtain ⟨s3014, hv⟩ := hv
 refine cL rfl (o_add rfl rfl s3014 (aI rfl rfl (eL (zZ (⟨(), (v6 + (1 : Int)), (r0 ++ [(Job.mk b1ar r2)]), hv, St.to_mk (φ := [some 4]) rfl (rfl) ⟨Ren.int _ _, Ren.lst _ _ _, Ren.ref rfl (fun h => rfl), Ren.int _ _, trivial⟩ ⟨zE enc42 false (r0 ++ [(Job.mk b1ar r2)]) rfl, trivial⟩⟩)))))
 have hv := hv.2 hc
 refine W.exit (zZt (zZt (zYs (zZ (W.ty [(5, .ref _ _ _)] rfl (W.rL (cL rfl (zZp (v := .ref _ _ _) rfl (cL rfl (zZq (v := .ref _ _ _) rfl (eL (W.ty [(4, .ref _ _ _)] rfl (W.ret (rt (rt_t (v := .ref _ _ _) rfl (rt_n (⟨_, rs_ref enc42 4 _ rfl rfl, r0, rfl, hv⟩)))))))))))))))))
set_option maxHeartbeats 4000000 in
theorem vcp_jobs (n : Int) (x : (List (Vector Int 4))) (h0 : 1 <= n /\ n <= 1000000) (h1 : x.length <= 9223372036854775807) (h2 : ∀ y ∈ x, ∀ k, inI (vat y k)) : vc_jobs n x (fun q0 => q0 = (jobsM23 n x)) := by
  unfold vc_jobs
  simp only [show (0 : Int).toNat = 0 from rfl, show (1 : Int).toNat = 1 from rfl, show (2 : Int).toNat = 2 from rfl, show (3 : Int).toNat = 3 from rfl]
  refine ⟨fun v l => ∃ i : Nat, v = i /\ i <= x.length /\ i <= 12 /\ l = (x.take i).map (jobM23 n), fun v _ => 12 - v.toNat, ⟨0, rfl, by omega, by omega, rfl⟩, ?_⟩
  rintro _ _ ⟨i, rfl, hi, h12, rfl⟩
  refine ⟨fun k1 => ?_, fun k1 => ?_⟩
  . have hm := h2 _ (lat_mem (xs := x) (i := (i : Int)) ⟨by omega, by omega⟩)
    have p1 := zXz (c := vat (lat x (i : Int)) 1) (n := 4) (by omega)
    have ix : 0 <= (i : Int) /\ (i : Int) < (x.length : Int) := ⟨by omega, by omega⟩
    refine ⟨ix, ⟨by omega, by omega⟩, by omega, hm 0, fun v a l => ∃ k : Nat, v = k /\ (k : Int) <= pickM (vat (lat x (i : Int)) 1) 4 /\ a = pickM (vat (lat x (i : Int)) 0) 40 /\ l = (List.range k).map fun k : Nat => ⟨pickM ((vat (lat x (i : Int)) 2).tdiv (1 + k)) n, pickM ((vat (lat x (i : Int)) 3).tdiv (1 + 3 * k)) 13⟩, fun v _ _ => 4 - v.toNat, ⟨0, rfl, by omega, rfl, rfl⟩, ?_⟩
    rintro _ _ _ ⟨k, rfl, hk, rfl, rfl⟩
    refine ⟨ix, ⟨by omega, by omega⟩, by omega, hm 1, fun k2 => ?_, fun k2 => ?_⟩
    . have t2 := inI_td (x := vat (lat x (i : Int)) 2) (k := 1 + k) (by omega) (hm 2)
      have t3 := inI_td (x := vat (lat x (i : Int)) 3) (k := 1 + 3 * k) (by omega) (hm 3)
      refine ⟨ix, ⟨by omega, by omega⟩, by unfold inI; omega, by omega, t2, ix, ⟨by omega, by omega⟩, by unfold inI; omega, by unfold inI; omega, by omega, t3, by omega, t2, by omega, t3, by simp; omega, by unfold inI; omega, ⟨k + 1, by omega, by omega, rfl, ?_⟩, by show 4 - ((k : Int) + 1).toNat < 4 - (k : Int).toNat; omega⟩
      rw [map_range_succ]
    . have ej : Job.mk (pickM (vat (lat x (i : Int)) 0) 40) ((List.range k).map fun k : Nat => ⟨pickM ((vat (lat x (i : Int)) 2).tdiv (1 + k)) n, pickM ((vat (lat x (i : Int)) 3).tdiv (1 + 3 * k)) 13⟩) = jobM23 n (lat x (i : Int)) := by
        unfold jobM23
        rw [show (pickM (vat (lat x (i : Int)) 1) 4).toNat = k by omega]
      rw [ej]
      refine ⟨by simp; omega, by unfold inI; omega, ⟨i + 1, by omega, by omega, by omega, ?_⟩, by show 12 - ((i : Int) + 1).toNat < 12 - (i : Int).toNat; omega⟩
      rw [take_succ_lat (by omega), List.map_append]; rfl
  . unfold jobsM23
    rcases Nat.lt_or_ge i 12 with h | h
    . show _ = (x.take 12).map (jobM23 n)
      rw [List.take_of_length_le (l := x) (i := i) (by omega), List.take_of_length_le (l := x) (i := 12) (by omega)]
    . rw [show i = 12 by omega]
theorem spec_jobs (n : Int) (x : (List (Vector Int 4))) (h0 : 1 <= n /\ n <= 1000000) (h1 : x.length <= 9223372036854775807) (h2 : ∀ y ∈ x, ∀ k, inI (vat y k)) : FnP Try.prog 11 [.int .i64 n, .lst true x.length (zYy eV4 x)] (fun xR => xR = .lst false (jobsM23 n x).length (zYy (e42 true) (jobsM23 n x))) :=
  (walk_jobs (vcp_jobs n x h0 h1 h2)).mono (by rintro _ ⟨_, rfl, rfl⟩; rfl)
def vc_in38 (n : Int) (lo : Int) (hi : Int) (Post : Bool -> Prop) : Prop :=
  Post (decide ((lo <= n) /\ (n <= hi)))
theorem walk_in38 {n : Int} {lo : Int} {hi : Int} {Post : Bool -> Prop} (hv : vc_in38 n lo hi Post) : FnP Try.prog 38 [.int .i64 n, .int .i64 lo, .int .i64 hi] (fun x => ∃ q0, x = .bool q0 /\ Post q0) := by
 refine FnP.of_walk (T := tt) (nt := 15) ttOk ttMix ⟨⟨Try.f38, Try.func38, rfl, rfl, rfl, rfl⟩⟩ (by simp) ?_
 unfold vc_in38 at hv
 change W _ _ _ ⟨15, look [(0, .int .i64 n), (1, .int .i64 lo), (2, .int .i64 hi)], [], 0⟩ _
 refine W.ty [(0, .int _ _), (1, .int _ _), (2, .int _ _)] rfl (W.rL (aB rfl rfl (eL (W.ty [(0, .int _ _), (1, .int _ _), (2, .int _ _)] rfl (W.rLm ⟨15, look [(6, .bool (decide ((lo <= n) /\ (n <= hi))))], [], 0⟩ ?_ ?_)))))
 iterate 2 refine mI rfl rfl ?_
 refine cL rfl (o_geq rfl rfl (mB rfl rfl ?_))
 by_cases c1 : lo <= n
 refine cLg rfl rfl (dT c1) (mI rfl rfl (cLg rfl rfl (dT c1) (mI rfl rfl (cLg rfl rfl (dT c1) (cL rfl (o_leq rfl rfl (cL rfl (zZv (v := .bool _) rfl (dT c1) rfl (aB rfl rfl (eL (zYz ⟨(congrArg AV.bool (zXv c1 (rfl))).symm, trivial⟩ rfl)))))))))))
 iterate 3 refine cLs rfl rfl rfl (dF c1) ?_
 refine cL rfl (zZy (v := .bool _) rfl (dF c1) rfl (aB rfl rfl (eL (zYz ⟨(congrArg AV.bool (dAndF c1)).symm, trivial⟩ rfl))))
 refine W.ret (rt (rt_t (v := .bool _) rfl (rt_n (⟨_, zYr _ _ _, (decide ((lo <= n) /\ (n <= hi))), rfl, hv⟩))))
set_option maxHeartbeats 4000000 in
theorem vcp_in38 (n : Int) (lo : Int) (hi : Int)  : vc_in38 n lo hi (fun q0 => q0 = (inM n lo hi)) := by
  unfold vc_in38
  unfold inM
  rfl
theorem spec_in38 (n : Int) (lo : Int) (hi : Int)  : FnP Try.prog 38 [.int .i64 n, .int .i64 lo, .int .i64 hi] (fun xR => xR = .bool (inM n lo hi)) :=
  (walk_in38 (vcp_in38 n lo hi)).mono (by rintro _ ⟨_, rfl, rfl⟩; rfl)
def vc_rmvalid (sv : (List Int)) (jobs : (List Job)) (Post : Bool -> Prop) : Prop :=
  (((¬ ((inM (sv.length : Int) (1 : Int) (6 : Int)) = true)) \/ ((24 : Int) < (jobs.length : Int))) -> Post false) /\ (¬ ((¬ ((inM (sv.length : Int) (1 : Int) (6 : Int)) = true)) \/ ((24 : Int) < (jobs.length : Int))) -> ∃ (I1 : Int -> Prop) (μ1 : Int -> Nat), I1 (0 : Int) /\ ∀ (v5 : Int), I1 v5 -> ((v5 < (sv.length : Int)) -> (0 <= v5 /\ v5 < (sv.length : Int)) /\ ((¬ ((inM (lat sv v5) (1 : Int) (4 : Int)) = true)) -> Post false) /\ (¬ (¬ ((inM (lat sv v5) (1 : Int) (4 : Int)) = true)) -> (inI (v5 + (1 : Int))) /\ (I1 (v5 + (1 : Int)) /\ μ1 (v5 + (1 : Int)) < μ1 v5))) /\ (¬ (v5 < (sv.length : Int)) -> ∃ (I2 : Int -> Prop) (μ2 : Int -> Nat), I2 (0 : Int) /\ ∀ (v6 : Int), I2 v6 -> ((v6 < (jobs.length : Int)) -> ((0 <= v6 /\ v6 < (jobs.length : Int)) /\ ((¬ ((inM ((lat jobs v6).ar) (0 : Int) (4398046511104 : Int)) = true)) -> True) /\ (¬ (¬ ((inM ((lat jobs v6).ar) (0 : Int) (4398046511104 : Int)) = true)) -> (0 <= v6 /\ v6 < (jobs.length : Int)) /\ True)) /\ ((((¬ ((inM ((lat jobs v6).ar) (0 : Int) (4398046511104 : Int)) = true)) \/ ((6 : Int) < (((lat jobs v6).wk).length : Int))) -> Post false) /\ (¬ ((¬ ((inM ((lat jobs v6).ar) (0 : Int) (4398046511104 : Int)) = true)) \/ ((6 : Int) < (((lat jobs v6).wk).length : Int))) -> ∃ (I3 : Int -> Prop) (μ3 : Int -> Nat), I3 (0 : Int) /\ ∀ (v7 : Int), I3 v7 -> (0 <= v6 /\ v6 < (jobs.length : Int)) /\ ((v7 < (((lat jobs v6).wk).length : Int)) -> ((0 <= v6 /\ v6 < (jobs.length : Int)) /\ (0 <= v7 /\ v7 < (((lat jobs v6).wk).length : Int)) /\ (inI ((sv.length : Int) - (1 : Int))) /\ ((¬ ((inM ((lat ((lat jobs v6).wk) v7).st) (0 : Int) ((sv.length : Int) - (1 : Int))) = true)) -> True) /\ (¬ (¬ ((inM ((lat ((lat jobs v6).wk) v7).st) (0 : Int) ((sv.length : Int) - (1 : Int))) = true)) -> (0 <= v6 /\ v6 < (jobs.length : Int)) /\ (0 <= v7 /\ v7 < (((lat jobs v6).wk).length : Int)) /\ True)) /\ ((((¬ ((inM ((lat ((lat jobs v6).wk) v7).st) (0 : Int) ((sv.length : Int) - (1 : Int))) = true)) \/ (¬ ((inM ((lat ((lat jobs v6).wk) v7).tm) (0 : Int) (1099511627776 : Int)) = true))) -> Post false) /\ (¬ ((¬ ((inM ((lat ((lat jobs v6).wk) v7).st) (0 : Int) ((sv.length : Int) - (1 : Int))) = true)) \/ (¬ ((inM ((lat ((lat jobs v6).wk) v7).tm) (0 : Int) (1099511627776 : Int)) = true))) -> (inI (v7 + (1 : Int))) /\ (I3 (v7 + (1 : Int)) /\ μ3 (v7 + (1 : Int)) < μ3 v7)))) /\ (¬ (v7 < (((lat jobs v6).wk).length : Int)) -> (inI (v6 + (1 : Int))) /\ (I2 (v6 + (1 : Int)) /\ μ2 (v6 + (1 : Int)) < μ2 v6))))) /\ (¬ (v6 < (jobs.length : Int)) -> Post true)))
theorem walk_rmvalid {sv : (List Int)} {jobs : (List Job)} {Post : Bool -> Prop} (hv : vc_rmvalid sv jobs Post) : FnP Try.prog 24 [.lst true sv.length (zYy zYx sv), .lst true jobs.length (zYy (e42 true) jobs)] (fun x => ∃ q0, x = .bool q0 /\ Post q0) := by
 refine FnP.of_walk (T := tt) (nt := 88) ttOk ttMix ⟨⟨Try.f24, Try.func24, rfl, rfl, rfl, rfl⟩⟩ (by simp) ?_
 unfold vc_rmvalid at hv
 change W _ _ _ ⟨88, look [(0, .lst true sv.length (zYy zYx sv)), (1, .lst true jobs.length (zYy (e42 true) jobs))], [], 0⟩ _
 refine W.ty [(0, .lst _ _ _), (1, .lst _ _ _)] rfl (W.rL (aB rfl rfl (eL (W.ty [(0, .lst _ _ _), (1, .lst _ _ _)] rfl (W.seq' (W.rLm ⟨88, look [(0, .lst true sv.length (zYy zYx sv)), (1, .lst true jobs.length (zYy (e42 true) jobs)), (16, .bool (decide ((¬ ((inM (sv.length : Int) (1 : Int) (6 : Int)) = true)) \/ ((24 : Int) < (jobs.length : Int)))))], [], 0⟩ ?_ ?_))))))
 refine mL rfl rfl (cL rfl (zXw (v := .lst _ _ _) tt24 rfl rfl (cL rfl (zZu (k := 38) (fst := []) (caps := []) (ys := [.int _ _, .int _ _, .int _ _]) rfl rfl (spec_in38 (sv.length : Int) (1 : Int) (6 : Int)) zk (cL rfl (o_notB rfl (mB rfl rfl ?_)))))))
 by_cases c1 : ¬ ((inM (sv.length : Int) (1 : Int) (6 : Int)) = true)
 iterate 3 refine cLs rfl rfl rfl (dT c1) ?_
 refine cL rfl (zZv (v := .bool _) rfl (dT c1) rfl (eL (zYz ⟨rfl, rfl, (congrArg AV.bool (dOrT c1)).symm, trivial⟩ rfl)))
 refine cLg rfl rfl (dF c1) (mL rfl rfl (cLg rfl rfl (dF c1) (cL rfl (zXw (v := .lst _ _ _) tt26 rfl rfl (cLg rfl rfl (dF c1) (cL rfl (o_gtr rfl rfl (cL rfl (zZy (v := .bool _) rfl (dF c1) rfl (eL (zYz ⟨rfl, rfl, (congrArg AV.bool (dOrF c1 (rfl))).symm, trivial⟩ rfl)))))))))))
 refine W.cn rfl (fun hc => ?_) (fun hc => ?_)
 have hv := hv.1 hc
 refine W.rL (aB rfl rfl (eL (W.ty [(4, .bool _)] rfl (W.ret (zZr (rt (rt_t (v := .bool _) rfl (rt_n (⟨_, zYr _ _ _, false, rfl, hv⟩)))))))))
 have hv := hv.2 hc
 refine W.skip (zZ (W.ty [(0, .lst _ _ _), (1, .lst _ _ _)] rfl (W.seq' (W.rL (aI rfl rfl (eL (W.ty [(0, .lst _ _ _), (1, .lst _ _ _), (5, .int _ _)] rfl (W.block ?_))))))))
 obtain ⟨I1, μ1, hp, hv⟩ := hv
 refine W.loop1 (fun v5 => ⟨88, look [(0, .lst true sv.length (zYy zYx sv)), (1, .lst true jobs.length (zYy (e42 true) jobs)), (5, .int .i64 v5)], [], 0⟩) I1 μ1 (0 : Int) (St.to_mk (φ := []) rfl (rfl) (zT rfl rfl) trivial) hp ?_
 clear hp
 intro v5 hI
 replace hv := hv v5 hI
 clear hI
 refine W.seq' (W.rL (mI rfl rfl (mL rfl rfl (cL rfl (zXw (v := .lst _ _ _) tt24 rfl rfl (cL rfl (zYq rfl rfl (eL (W.ty [(0, .lst _ _ _), (1, .lst _ _ _), (5, .int _ _), (20, .bool _)] rfl (W.cn rfl (fun hc => ?_) (fun hc => ?_)))))))))))
 have hv := hv.1 hc
 refine W.skip (zZ (W.ty [(0, .lst _ _ _), (1, .lst _ _ _), (5, .int _ _)] rfl (W.seq' (W.block (W.rL (mL rfl rfl (mI rfl rfl ?_)))))))
 obtain ⟨s11, hv⟩ := hv
 refine cL rfl (zYu tt24 tt3 rfl rfl (zZw.wd true) rfl s11 ?_)
 intro rest11
 refine cL rfl (zZx (v := .int _ _) tt3 rfl rfl ⟨_, rfl⟩ (cL rfl (zZu (k := 38) (fst := []) (caps := []) (ys := [.int _ _, .int _ _, .int _ _]) rfl rfl (spec_in38 (lat sv v5) (1 : Int) (4 : Int)) zk (cL rfl (o_notB rfl (eL (W.ty [(0, .lst _ _ _), (1, .lst _ _ _), (5, .int _ _), (28, .bool _)] rfl (W.cn rfl (fun hc => ?_) (fun hc => ?_)))))))))
 have hv := hv.1 hc
 refine W.rL (aB rfl rfl (eL (W.ty [(4, .bool _)] rfl (W.ret (zYt (zZr (zZr (zYt (zZr (rt (rt_t (v := .bool _) rfl (rt_n (⟨_, zYr _ _ _, false, rfl, hv⟩)))))))))))))
 have hv := hv.2 hc
 refine W.skip (zYv (zZ (W.ty [(0, .lst _ _ _), (1, .lst _ _ _), (5, .int _ _)] rfl (W.rL1 (mI rfl rfl ?_)))))
 obtain ⟨s12, hv⟩ := hv
 refine cL rfl (o_add rfl rfl s12 (aI rfl rfl (eL (zZ (⟨(), (v5 + (1 : Int)), hv, St.to_mk (φ := []) rfl (rfl) (zT rfl rfl) trivial⟩)))))
 have hv := hv.2 hc
 refine W.exit (zZt (zZt (zYs (zZ (W.ty [(0, .lst _ _ _), (1, .lst _ _ _)] rfl (W.seq' (W.rL (aI rfl rfl (eL (W.ty [(0, .lst _ _ _), (1, .lst _ _ _), (6, .int _ _)] rfl (W.block ?_)))))))))))
 obtain ⟨I2, μ2, hp, hv⟩ := hv
 refine W.loop1 (fun v6 => ⟨88, look [(0, .lst true sv.length (zYy zYx sv)), (1, .lst true jobs.length (zYy (e42 true) jobs)), (6, .int .i64 v6)], [], 0⟩) I2 μ2 (0 : Int) (St.to_mk (φ := []) rfl (rfl) (zT rfl rfl) trivial) hp ?_
 clear hp
 intro v6 hI
 replace hv := hv v6 hI
 clear hI
 refine W.seq' (W.rL (mI rfl rfl (mL rfl rfl (cL rfl (zXw (v := .lst _ _ _) tt26 rfl rfl (cL rfl (zYq rfl rfl (eL (W.ty [(0, .lst _ _ _), (1, .lst _ _ _), (6, .int _ _), (32, .bool _)] rfl (W.cn rfl (fun hc => ?_) (fun hc => ?_)))))))))))
 have hv := hv.1 hc
 refine W.skip (zZ (W.ty [(0, .lst _ _ _), (1, .lst _ _ _), (6, .int _ _)] rfl (W.seq' (W.block (W.seq' ?_)))))
 obtain ⟨sd, hv⟩ := hv
 refine W.rLm ⟨88, look [(0, .lst true sv.length (zYy zYx sv)), (1, .lst true jobs.length (zYy (e42 true) jobs)), (6, .int .i64 v6), (50, .bool (decide ((¬ ((inM ((lat jobs v6).ar) (0 : Int) (4398046511104 : Int)) = true)) \/ ((6 : Int) < (((lat jobs v6).wk).length : Int)))))], [], 0⟩ ?_ ?_
 refine mL rfl rfl (mI rfl rfl ?_)
 obtain ⟨s400, sd⟩ := sd
 refine cL rfl (zYu tt26 tt42 rfl rfl (enc42.wd true) rfl s400 ?_)
 intro rest400
 refine cL rfl (o_faP tt42 rfl tt3 rfl (cL rfl (zZx (v := .int _ _) tt3 rfl rfl ⟨_, rfl⟩ (cL rfl (zZu (k := 38) (fst := []) (caps := []) (ys := [.int _ _, .int _ _, .int _ _]) rfl rfl (spec_in38 ((lat jobs v6).ar) (0 : Int) (4398046511104 : Int)) zk (cL rfl (o_notB rfl (mB rfl rfl ?_))))))))
 by_cases c1 : ¬ ((inM ((lat jobs v6).ar) (0 : Int) (4398046511104 : Int)) = true)
 iterate 7 refine cLs rfl rfl rfl (dT c1) ?_
 refine cL rfl (zZv (v := .bool _) rfl (dT c1) rfl (eL (zYz ⟨rfl, rfl, rfl, (congrArg AV.bool (dOrT c1)).symm, trivial⟩ rfl)))
 have sd := sd.2 c1
 refine cLg rfl rfl (dF c1) (mL rfl rfl (cLg rfl rfl (dF c1) (mI rfl rfl (cLg rfl rfl (dF c1) ?_))))
 obtain ⟨s401, sd⟩ := sd
 refine cL rfl (zYu tt26 tt42 rfl rfl (enc42.wd true) rfl s401 ?_)
 intro rest401
 refine cLg rfl rfl (dF c1) (cL rfl (o_faP tt42 rfl tt40 rfl (cLg rfl rfl (dF c1) (cL rfl (zZx (v := .lst _ _ _) tt40 rfl rfl ⟨_, rfl⟩ (cLg rfl rfl (dF c1) (cL rfl (zXw (v := .lst _ _ _) tt40 rfl rfl (cLg rfl rfl (dF c1) (cL rfl (o_gtr rfl rfl (cL rfl (zZy (v := .bool _) rfl (dF c1) rfl (eL (zYz ⟨rfl, rfl, rfl, (congrArg AV.bool (dOrF c1 (rfl))).symm, trivial⟩ rfl)))))))))))))))
 refine W.cn rfl (fun hc => ?_) (fun hc => ?_)
 have hv := hv.1 hc
 refine W.rL (aB rfl rfl (eL (W.ty [(4, .bool _)] rfl (W.ret (zZr (zYt (zZr (zZr (zYt (zZr (rt (rt_t (v := .bool _) rfl (rt_n (⟨_, zYr _ _ _, false, rfl, hv⟩))))))))))))))
 have hv := hv.2 hc
 refine W.skip (zZ (W.ty [(0, .lst _ _ _), (1, .lst _ _ _), (6, .int _ _)] rfl (W.rL (aI rfl rfl (eL (W.ty [(0, .lst _ _ _), (1, .lst _ _ _), (6, .int _ _), (7, .int _ _)] rfl (W.block ?_)))))))
 obtain ⟨I3, μ3, hp, hv⟩ := hv
 refine W.loop1 (fun v7 => ⟨88, look [(0, .lst true sv.length (zYy zYx sv)), (1, .lst true jobs.length (zYy (e42 true) jobs)), (6, .int .i64 v6), (7, .int .i64 v7)], [], 0⟩) I3 μ3 (0 : Int) (St.to_mk (φ := []) rfl (rfl) (zT rfl rfl) trivial) hp ?_
 clear hp
 intro v7 hI
 replace hv := hv v7 hI
 clear hI
 refine W.seq' (W.rL (mI rfl rfl (mL rfl rfl (mI rfl rfl ?_))))
 obtain ⟨s426, hv⟩ := hv
 refine cL rfl (zYu tt26 tt42 rfl rfl (enc42.wd true) rfl s426 ?_)
 intro rest426
 refine cL rfl (o_faP tt42 rfl tt40 rfl (cL rfl (zZx (v := .lst _ _ _) tt40 rfl rfl ⟨_, rfl⟩ (cL rfl (zXw (v := .lst _ _ _) tt40 rfl rfl (cL rfl (zYq rfl rfl (eL (W.ty [(0, .lst _ _ _), (1, .lst _ _ _), (6, .int _ _), (7, .int _ _), (58, .bool _)] rfl (W.cn rfl (fun hc => ?_) (fun hc => ?_)))))))))))
 have hv := hv.1 hc
 refine W.skip (zZ (W.ty [(0, .lst _ _ _), (1, .lst _ _ _), (6, .int _ _), (7, .int _ _)] rfl (W.seq' (W.block ?_))))
 obtain ⟨sd, hv⟩ := hv
 refine W.rLm ⟨88, look [(0, .lst true sv.length (zYy zYx sv)), (1, .lst true jobs.length (zYy (e42 true) jobs)), (6, .int .i64 v6), (7, .int .i64 v7), (87, .bool (decide ((¬ ((inM ((lat ((lat jobs v6).wk) v7).st) (0 : Int) ((sv.length : Int) - (1 : Int))) = true)) \/ (¬ ((inM ((lat ((lat jobs v6).wk) v7).tm) (0 : Int) (1099511627776 : Int)) = true)))))], [], 0⟩ ?_ ?_
 refine mL rfl rfl (mI rfl rfl ?_)
 obtain ⟨s442, sd⟩ := sd
 refine cL rfl (zYu tt26 tt42 rfl rfl (enc42.wd true) rfl s442 ?_)
 intro rest442
 refine cL rfl (o_faP tt42 rfl tt40 rfl (cL rfl (zZx (v := .lst _ _ _) tt40 rfl rfl ⟨_, rfl⟩ (mI rfl rfl ?_))))
 obtain ⟨s443, sd⟩ := sd
 refine cL rfl (zYu tt40 tt45 rfl rfl (enc45.wd true) rfl s443 ?_)
 intro rest443
 refine cL rfl (o_faP tt45 rfl tt3 rfl (cL rfl (zZx (v := .int _ _) tt3 rfl rfl ⟨_, rfl⟩ (mL rfl rfl (cL rfl (zXw (v := .lst _ _ _) tt24 rfl rfl ?_))))))
 obtain ⟨s444, sd⟩ := sd
 refine cL rfl (o_sub rfl rfl s444 (cL rfl (zZu (k := 38) (fst := []) (caps := []) (ys := [.int _ _, .int _ _, .int _ _]) rfl rfl (spec_in38 ((lat ((lat jobs v6).wk) v7).st) (0 : Int) ((sv.length : Int) - (1 : Int))) zk (cL rfl (o_notB rfl (mB rfl rfl ?_))))))
 by_cases c1 : ¬ ((inM ((lat ((lat jobs v6).wk) v7).st) (0 : Int) ((sv.length : Int) - (1 : Int))) = true)
 iterate 11 refine cLs rfl rfl rfl (dT c1) ?_
 refine cL rfl (zZv (v := .bool _) rfl (dT c1) rfl (eL (zYz ⟨rfl, rfl, rfl, rfl, (congrArg AV.bool (dOrT c1)).symm, trivial⟩ rfl)))
 have sd := sd.2 c1
 refine cLg rfl rfl (dF c1) (mL rfl rfl (cLg rfl rfl (dF c1) (mI rfl rfl (cLg rfl rfl (dF c1) ?_))))
 obtain ⟨s445, sd⟩ := sd
 refine cL rfl (zYu tt26 tt42 rfl rfl (enc42.wd true) rfl s445 ?_)
 intro rest445
 refine cLg rfl rfl (dF c1) (cL rfl (o_faP tt42 rfl tt40 rfl (cLg rfl rfl (dF c1) (cL rfl (zZx (v := .lst _ _ _) tt40 rfl rfl ⟨_, rfl⟩ (cLg rfl rfl (dF c1) (mI rfl rfl (cLg rfl rfl (dF c1) ?_))))))))
 obtain ⟨s446, sd⟩ := sd
 refine cL rfl (zYu tt40 tt45 rfl rfl (enc45.wd true) rfl s446 ?_)
 intro rest446
 refine cLg rfl rfl (dF c1) (cL rfl (o_faP tt45 rfl tt3 rfl (cLg rfl rfl (dF c1) (cL rfl (zZx (v := .int _ _) tt3 rfl rfl ⟨_, rfl⟩ (cLg rfl rfl (dF c1) (cL rfl (zZu (k := 38) (fst := []) (caps := []) (ys := [.int _ _, .int _ _, .int _ _]) rfl rfl (spec_in38 ((lat ((lat jobs v6).wk) v7).tm) (0 : Int) (1099511627776 : Int)) zk (cLg rfl rfl (dF c1) (cL rfl (o_notB rfl (cL rfl (zZy (v := .bool _) rfl (dF c1) rfl (eL (zYz ⟨rfl, rfl, rfl, rfl, (congrArg AV.bool (dOrF c1 (rfl))).symm, trivial⟩ rfl)))))))))))))))
 refine W.cn rfl (fun hc => ?_) (fun hc => ?_)
 have hv := hv.1 hc
 refine W.rL (aB rfl rfl (eL (W.ty [(4, .bool _)] rfl (W.ret (zYt (zZr (zZr (zYt (zYt (zZr (zZr (zYt (zZr (rt (rt_t (v := .bool _) rfl (rt_n (⟨_, zYr _ _ _, false, rfl, hv⟩)))))))))))))))))
 have hv := hv.2 hc
 refine W.skip (zYv (zZ (W.ty [(0, .lst _ _ _), (1, .lst _ _ _), (6, .int _ _), (7, .int _ _)] rfl (W.rL1 (mI rfl rfl ?_)))))
 obtain ⟨s447, hv⟩ := hv
 refine cL rfl (o_add rfl rfl s447 (aI rfl rfl (eL (zZ (⟨(), (v7 + (1 : Int)), hv, St.to_mk (φ := []) rfl (rfl) (zT rfl rfl) trivial⟩)))))
 have hv := hv.2 hc
 refine W.exit (zZt (zZt (zYs (zYv (zZ (W.ty [(0, .lst _ _ _), (1, .lst _ _ _), (6, .int _ _)] rfl (W.rL1 (mI rfl rfl ?_))))))))
 obtain ⟨s448, hv⟩ := hv
 refine cL rfl (o_add rfl rfl s448 (aI rfl rfl (eL (zZ (⟨(), (v6 + (1 : Int)), hv, St.to_mk (φ := []) rfl (rfl) (zT rfl rfl) trivial⟩)))))
 have hv := hv.2 hc
 refine W.exit (zZt (zZt (zYs (zZ (W.ty [] rfl (W.rL (aB rfl rfl (eL (W.ty [(4, .bool _)] rfl (W.ret (rt (rt_t (v := .bool _) rfl (rt_n (⟨_, zYr _ _ _, true, rfl, hv⟩))))))))))))))
set_option maxHeartbeats 4000000 in
theorem vcp_rmvalid (sv : (List Int)) (jobs : (List Job)) (h0 : sv.length <= 9223372036854775807) (h1 : ∀ j ∈ jobs, j.wk.length <= 9223372036854775807) (h2 : jobs.length <= 9223372036854775807) : vc_rmvalid sv jobs (fun q0 => q0 = (validJ sv jobs)) := by
  unfold vc_rmvalid
  have e1 : ∀ n lo hi : Int, (inM n lo hi = true) = (lo <= n /\ n <= hi) := fun n lo hi => by unfold inM; simp
  simp only [e1]
  have bad : ∀ {q : Prop}, (validJ sv jobs = true -> q) -> ¬ q -> false = validJ sv jobs := fun h k => by
    rcases hv : validJ sv jobs with _ | _
    . rfl
    . exact absurd (h hv) k
  refine ⟨fun k => bad (fun h => (job_ok h).1) (by omega), fun k => ?_⟩
  refine ⟨fun v => ∃ i : Nat, v = i /\ i <= sv.length /\ ∀ a : Nat, a < i -> 1 <= lat sv a /\ lat sv a <= 4, fun v => sv.length - v.toNat, ⟨0, rfl, by omega, fun a ha => by omega⟩, ?_⟩
  rintro _ ⟨i, rfl, hi, hs⟩
  refine ⟨fun k1 => ⟨⟨by omega, k1⟩, fun k2 => bad (fun h => (job_ok h).2.1 _ (lat_mem (xs := sv) (i := (i : Int)) ⟨by omega, k1⟩)) k2, fun k2 => ⟨by unfold inI; omega, ⟨i + 1, by omega, by omega, fun a ha => ?_⟩, dec_lt k1⟩⟩, fun k1 => ?_⟩
  . rcases Nat.lt_or_ge a i with h | h
    . exact hs a h
    . rw [show a = i by omega]; exact Decidable.not_not.1 k2
  have hsv : ∀ n ∈ sv, 1 <= n /\ n <= 4 := fun n hn => by
    obtain ⟨a, ha, rfl⟩ := List.mem_iff_getElem.1 hn
    have := hs a (by omega)
    rwa [lat_get ha] at this
  refine ⟨fun v => ∃ i : Nat, v = i /\ i <= jobs.length /\ ∀ a : Nat, a < i -> jobOk sv.length (lat jobs a) = true, fun v => jobs.length - v.toNat, ⟨0, rfl, by omega, fun a ha => by omega⟩, ?_⟩
  rintro _ ⟨j, rfl, hj, hjs⟩
  refine ⟨fun k2 => ⟨⟨⟨by omega, k2⟩, fun _ => trivial, fun _ => ⟨⟨by omega, k2⟩, trivial⟩⟩, fun k3 => bad (fun h => ((job_ok h).2.2 _ (lat_mem (xs := jobs) (i := (j : Int)) ⟨by omega, k2⟩)).1) (by omega), fun k3 => ?_⟩, fun k2 => ?_⟩
  . have hmem : lat jobs (j : Int) ∈ jobs := lat_mem ⟨by omega, k2⟩
    refine ⟨fun v => ∃ i : Nat, v = i /\ i <= (lat jobs (j : Int)).wk.length /\ ∀ a : Nat, a < i -> 0 <= (lat (lat jobs (j : Int)).wk a).st /\ (lat (lat jobs (j : Int)).wk a).st <= (sv.length : Int) - 1 /\ 0 <= (lat (lat jobs (j : Int)).wk a).tm /\ (lat (lat jobs (j : Int)).wk a).tm <= 1099511627776, fun v => (lat jobs (j : Int)).wk.length - v.toNat, ⟨0, rfl, by omega, fun a ha => by omega⟩, ?_⟩
    rintro _ ⟨q, rfl, hq, hqs⟩
    refine ⟨⟨by omega, k2⟩, fun k4 => ⟨⟨⟨by omega, k2⟩, ⟨by omega, k4⟩, by unfold inI; omega, fun _ => trivial, fun _ => ⟨⟨by omega, k2⟩, ⟨by omega, k4⟩, trivial⟩⟩, fun k5 => bad (fun h => ((job_ok h).2.2 _ hmem).2 _ (lat_mem (xs := (lat jobs (j : Int)).wk) (i := (q : Int)) ⟨by omega, k4⟩)) (by omega), fun k5 => ⟨by unfold inI; have := h1 _ hmem; omega, ⟨q + 1, by omega, by omega, fun a ha => ?_⟩, dec_lt k4⟩⟩, fun k4 => ⟨by unfold inI; omega, ⟨j + 1, by omega, by omega, fun a ha => ?_⟩, dec_lt k2⟩⟩
    . rcases Nat.lt_or_ge a q with h | h
      . exact hqs a h
      . rw [show a = q by omega]; omega
    . rcases Nat.lt_or_ge a j with h | h
      . exact hjs a h
      . rw [show a = j by omega]
        unfold jobOk
        rw [Bool.and_eq_true, decide_eq_true_eq, List.all_eq_true]
        refine ⟨by omega, fun w hw => ?_⟩
        obtain ⟨b, hb, rfl⟩ := List.mem_iff_getElem.1 hw
        have := hqs b (by omega)
        rw [lat_get hb] at this
        exact decide_eq_true this
  . show true = validJ sv jobs
    unfold validJ
    symm
    rw [Bool.and_eq_true, Bool.and_eq_true, decide_eq_true_eq, List.all_eq_true, List.all_eq_true]
    refine ⟨⟨by omega, fun n hn => decide_eq_true (hsv n hn)⟩, fun x hx => ?_⟩
    obtain ⟨b, hb, rfl⟩ := List.mem_iff_getElem.1 hx
    have := hjs b (by omega)
    rwa [lat_get hb] at this
theorem spec_rmvalid (sv : (List Int)) (jobs : (List Job)) (h0 : sv.length <= 9223372036854775807) (h1 : ∀ j ∈ jobs, j.wk.length <= 9223372036854775807) (h2 : jobs.length <= 9223372036854775807) : FnP Try.prog 24 [.lst true sv.length (zYy zYx sv), .lst true jobs.length (zYy (e42 true) jobs)] (fun xR => xR = .bool (validJ sv jobs)) :=
  (walk_rmvalid (vcp_rmvalid sv jobs h0 h1 h2)).mono (by rintro _ ⟨_, rfl, rfl⟩; rfl)
def vc_rrun (sv : (List Int)) (jobs : (List Job)) (Post : (List (List Vis)) -> Int -> Prop) : Prop :=
  (sv.length <= 9223372036854775807) /\ (∀ j ∈ jobs, j.wk.length <= 9223372036854775807) /\ (jobs.length <= 9223372036854775807) /\ ((¬ ((validJ sv jobs) = true)) -> Post [] (230 : Int)) /\ (¬ (¬ ((validJ sv jobs) = true)) -> (0 <= (jobs.length : Int) /\ (jobs.length : Int) <= 1073741824) /\ (0 <= (sv.length : Int) /\ (sv.length : Int) <= 1073741824) /\ (0 <= (jobs.length : Int) /\ (jobs.length : Int) <= 1073741824) /\ ∃ (I1 : Int -> List Int -> Prop) (μ1 : Int -> List Int -> Nat), I1 (0 : Int) (List.replicate (jobs.length : Int).toNat ((0 : Int) : Int)) /\ ∀ (v9 : Int) (r2 : List Int), I1 v9 r2 -> ((v9 < (jobs.length : Int)) -> (0 <= v9 /\ v9 < (jobs.length : Int)) /\ (0 <= v9 /\ v9 < (r2.length : Int)) /\ (inI (v9 + (1 : Int))) /\ (I1 (v9 + (1 : Int)) (r2.set v9.toNat ((lat jobs v9).ar)) /\ μ1 (v9 + (1 : Int)) (r2.set v9.toNat ((lat jobs v9).ar)) < μ1 v9 r2)) /\ (¬ (v9 < (jobs.length : Int)) -> ∃ (I2 : List (List Vis) -> List (Vector Int 4) -> List Int -> Prop) (μ2 : List (List Vis) -> List (Vector Int 4) -> List Int -> Nat), I2 (List.replicate (jobs.length : Int).toNat ([] : (List Vis))) (List.replicate (sv.length : Int).toNat (Vector.replicate 4 0 : (Vector Int 4))) r2 /\ ∀ (r0 : List (List Vis)) (r1 : List (Vector Int 4)) (r2_1 : List Int), I2 r0 r1 r2_1 -> ∃ (I3 : Int -> Int -> Prop) (μ3 : Int -> Int -> Nat), I3 (-1 : Int) (0 : Int) /\ ∀ (v10 : Int) (v11 : Int), I3 v10 v11 -> ((v11 < (jobs.length : Int)) -> ∃ J4 : Int -> Prop, (∀ (v10_1 : Int), J4 v10_1 -> (inI (v11 + (1 : Int))) /\ (I3 v10_1 (v11 + (1 : Int)) /\ μ3 v10_1 (v11 + (1 : Int)) < μ3 v10 v11)) /\ (((0 <= v11 /\ v11 < (r0.length : Int)) /\ (0 <= v11 /\ v11 < (jobs.length : Int)) /\ ((((lat r0 v11).length : Int) < (((lat jobs v11).wk).length : Int)) -> ((v10 < (0 : Int)) -> True) /\ (¬ (v10 < (0 : Int)) -> (0 <= v11 /\ v11 < (r2_1.length : Int)) /\ (0 <= v10 /\ v10 < (r2_1.length : Int)) /\ True)) /\ (¬ (((lat r0 v11).length : Int) < (((lat jobs v11).wk).length : Int)) -> True)) /\ ((((((lat r0 v11).length : Int) < (((lat jobs v11).wk).length : Int)) /\ ((v10 < (0 : Int)) \/ ((lat r2_1 v11) < (lat r2_1 v10)))) -> J4 v11) /\ (¬ ((((lat r0 v11).length : Int) < (((lat jobs v11).wk).length : Int)) /\ ((v10 < (0 : Int)) \/ ((lat r2_1 v11) < (lat r2_1 v10)))) -> J4 v10)))) /\ (¬ (v11 < (jobs.length : Int)) -> ((v10 < (0 : Int)) -> Post r0 (0 : Int)) /\ (¬ (v10 < (0 : Int)) -> (0 <= v10 /\ v10 < (jobs.length : Int)) /\ (0 <= v10 /\ v10 < (r0.length : Int)) /\ (0 <= ((lat r0 v10).length : Int) /\ ((lat r0 v10).length : Int) < (((lat jobs v10).wk).length : Int)) /\ ∃ (I5 : Int -> Int -> Prop) (μ5 : Int -> Int -> Nat), I5 (0 : Int) (1 : Int) /\ ∀ (v13 : Int) (v14 : Int), I5 v13 v14 -> (0 <= ((lat ((lat jobs v10).wk) ((lat r0 v10).length : Int)).st) /\ ((lat ((lat jobs v10).wk) ((lat r0 v10).length : Int)).st) < (sv.length : Int)) /\ ((v14 < (lat sv ((lat ((lat jobs v10).wk) ((lat r0 v10).length : Int)).st))) -> ∃ J6 : Int -> Prop, (∀ (v13_1 : Int), J6 v13_1 -> (inI (v14 + (1 : Int))) /\ (I5 v13_1 (v14 + (1 : Int)) /\ μ5 v13_1 (v14 + (1 : Int)) < μ5 v13 v14)) /\ ((0 <= ((lat ((lat jobs v10).wk) ((lat r0 v10).length : Int)).st) /\ ((lat ((lat jobs v10).wk) ((lat r0 v10).length : Int)).st) < (r1.length : Int)) /\ (0 <= v14 /\ v14 < ((4 : Nat) : Int)) /\ (0 <= ((lat ((lat jobs v10).wk) ((lat r0 v10).length : Int)).st) /\ ((lat ((lat jobs v10).wk) ((lat r0 v10).length : Int)).st) < (r1.length : Int)) /\ (0 <= v13 /\ v13 < ((4 : Nat) : Int)) /\ (((vat (lat r1 ((lat ((lat jobs v10).wk) ((lat r0 v10).length : Int)).st)) v14.toNat) < (vat (lat r1 ((lat ((lat jobs v10).wk) ((lat r0 v10).length : Int)).st)) v13.toNat)) -> J6 v14) /\ (¬ ((vat (lat r1 ((lat ((lat jobs v10).wk) ((lat r0 v10).length : Int)).st)) v14.toNat) < (vat (lat r1 ((lat ((lat jobs v10).wk) ((lat r0 v10).length : Int)).st)) v13.toNat)) -> J6 v13))) /\ (¬ (v14 < (lat sv ((lat ((lat jobs v10).wk) ((lat r0 v10).length : Int)).st))) -> (0 <= v10 /\ v10 < (r2_1.length : Int)) /\ (0 <= ((lat ((lat jobs v10).wk) ((lat r0 v10).length : Int)).st) /\ ((lat ((lat jobs v10).wk) ((lat r0 v10).length : Int)).st) < (r1.length : Int)) /\ (0 <= v13 /\ v13 < ((4 : Nat) : Int)) /\ (inI ((max (lat r2_1 v10) (vat (lat r1 ((lat ((lat jobs v10).wk) ((lat r0 v10).length : Int)).st)) v13.toNat)) + ((lat ((lat jobs v10).wk) ((lat r0 v10).length : Int)).tm))) /\ (0 <= ((lat ((lat jobs v10).wk) ((lat r0 v10).length : Int)).st) /\ ((lat ((lat jobs v10).wk) ((lat r0 v10).length : Int)).st) < (r1.length : Int)) /\ (0 <= v13 /\ v13 < ((4 : Nat) : Int)) /\ (0 <= v10 /\ v10 < (r2_1.length : Int)) /\ (0 <= v10 /\ v10 < (r0.length : Int)) /\ (((lat r0 v10) ++ [(Vis.mk (lat r2_1 v10) (max (lat r2_1 v10) (vat (lat r1 ((lat ((lat jobs v10).wk) ((lat r0 v10).length : Int)).st)) v13.toNat)) ((max (lat r2_1 v10) (vat (lat r1 ((lat ((lat jobs v10).wk) ((lat r0 v10).length : Int)).st)) v13.toNat)) + ((lat ((lat jobs v10).wk) ((lat r0 v10).length : Int)).tm)))]).length <= 1073741824) /\ (I2 (r0.set v10.toNat ((lat r0 v10) ++ [(Vis.mk (lat r2_1 v10) (max (lat r2_1 v10) (vat (lat r1 ((lat ((lat jobs v10).wk) ((lat r0 v10).length : Int)).st)) v13.toNat)) ((max (lat r2_1 v10) (vat (lat r1 ((lat ((lat jobs v10).wk) ((lat r0 v10).length : Int)).st)) v13.toNat)) + ((lat ((lat jobs v10).wk) ((lat r0 v10).length : Int)).tm)))])) (r1.set ((lat ((lat jobs v10).wk) ((lat r0 v10).length : Int)).st).toNat (vset (lat r1 ((lat ((lat jobs v10).wk) ((lat r0 v10).length : Int)).st)) v13.toNat ((max (lat r2_1 v10) (vat (lat r1 ((lat ((lat jobs v10).wk) ((lat r0 v10).length : Int)).st)) v13.toNat)) + ((lat ((lat jobs v10).wk) ((lat r0 v10).length : Int)).tm)))) (r2_1.set v10.toNat ((max (lat r2_1 v10) (vat (lat r1 ((lat ((lat jobs v10).wk) ((lat r0 v10).length : Int)).st)) v13.toNat)) + ((lat ((lat jobs v10).wk) ((lat r0 v10).length : Int)).tm))) /\ μ2 (r0.set v10.toNat ((lat r0 v10) ++ [(Vis.mk (lat r2_1 v10) (max (lat r2_1 v10) (vat (lat r1 ((lat ((lat jobs v10).wk) ((lat r0 v10).length : Int)).st)) v13.toNat)) ((max (lat r2_1 v10) (vat (lat r1 ((lat ((lat jobs v10).wk) ((lat r0 v10).length : Int)).st)) v13.toNat)) + ((lat ((lat jobs v10).wk) ((lat r0 v10).length : Int)).tm)))])) (r1.set ((lat ((lat jobs v10).wk) ((lat r0 v10).length : Int)).st).toNat (vset (lat r1 ((lat ((lat jobs v10).wk) ((lat r0 v10).length : Int)).st)) v13.toNat ((max (lat r2_1 v10) (vat (lat r1 ((lat ((lat jobs v10).wk) ((lat r0 v10).length : Int)).st)) v13.toNat)) + ((lat ((lat jobs v10).wk) ((lat r0 v10).length : Int)).tm)))) (r2_1.set v10.toNat ((max (lat r2_1 v10) (vat (lat r1 ((lat ((lat jobs v10).wk) ((lat r0 v10).length : Int)).st)) v13.toNat)) + ((lat ((lat jobs v10).wk) ((lat r0 v10).length : Int)).tm))) < μ2 r0 r1 r2_1))))))
theorem walk_rrun {sv : (List Int)} {jobs : (List Job)} {Post : (List (List Vis)) -> Int -> Prop} (hv : vc_rrun sv jobs Post) : FnP Try.prog 20 [.lst true sv.length (zYy zYx sv), .lst true jobs.length (zYy (e42 true) jobs)] (fun x => ∃ q0 q1, x = .tup [.lst false q0.length (zYy (eSl e36 true) q0), .int .i64 q1] /\ Post q0 q1) := by
 refine FnP.of_walk (T := tt) (nt := 163) ttOk ttMix ⟨⟨Try.f20, Try.func20, rfl, rfl, rfl, rfl⟩⟩ (by simp) ?_
 unfold vc_rrun at hv
 change W _ _ _ ⟨163, look [(0, .lst true sv.length (zYy zYx sv)), (1, .lst true jobs.length (zYy (e42 true) jobs))], [], 0⟩ _
 refine W.ty [(0, .lst _ _ _), (1, .lst _ _ _)] rfl (W.rL (cL rfl (zZq (v := .nilS) rfl (aI rfl rfl (eL (W.ty [(0, .lst _ _ _), (1, .lst _ _ _)] rfl (W.seq' (W.rL ?_))))))))
 iterate 2 refine mL rfl rfl ?_
 obtain ⟨s4, s5, s6, hv⟩ := hv
 refine cL rfl (zZu (k := 24) (fst := []) (caps := []) (ys := [.lst _ _ _, .lst _ _ _]) rfl rfl (spec_rmvalid sv jobs s4 s5 s6) zk (cL rfl (o_notB rfl (eL (W.ty [(0, .lst _ _ _), (1, .lst _ _ _), (19, .bool _)] rfl (W.cn rfl (fun hc => ?_) (fun hc => ?_)))))))
 have hv := hv.1 hc
 refine W.rL (cL rfl (zZq (v := .nilS) rfl (aI rfl rfl (eL (W.ty [(4, .nilS), (5, .int _ _)] rfl (W.ret (zZr (rt (rt_t (v := .nilS) rfl (rt_t (v := .int _ _) rfl (rt_n (⟨_, rs_tup 5 _ (Wks.cons (rs_nil _ _ _ _ rfl) (Wks.cons (zY _ _ _ _) zk)), [], (230 : Int), rfl, hv⟩))))))))))))
 have hv := hv.2 hc
 refine W.skip (zZ (W.ty [(0, .lst _ _ _), (1, .lst _ _ _)] rfl ?_))
 obtain ⟨s7, hv⟩ := hv
 refine W.rLmT ⟨163, look [(0, .lst true sv.length (zYy zYx sv)), (1, .lst true jobs.length (zYy (e42 true) jobs)), (6, .ref false 0 ((List.replicate (jobs.length : Int).toNat ([] : (List Vis))).length))], [nstR 43 1 (List.replicate (jobs.length : Int).toNat ([] : (List Vis)))] ++ nstT 36 3 e36 (List.replicate (jobs.length : Int).toNat ([] : (List Vis))), 0⟩ ?_ ?_
 refine mL rfl rfl (cL rfl (zXw (v := .lst _ _ _) tt26 rfl rfl (cL rfl (o_mkS (p := 0) (en := eU1) (x0 := ()) tt28 tt43 rfl rfl rfl (fun _ => rfl) rfl s7 rfl ?_))))
 refine cL rfl (zZq (v := .ref _ _ _) rfl (eL (to_nstM (t := 36) (sz := 3) (en := e36) (n := (jobs.length : Int).toNat) [some (.inl 0)] (a := 1) rfl rfl ⟨Ren.lst _ _ _, Ren.lst _ _ _, Ren.refL (gM_inl rfl) id (by simp), trivial⟩ ⟨.inr ⟨_, rfl, (ren_nstM rfl rfl)⟩, trivial⟩)))
 obtain ⟨s8, hv⟩ := hv
 refine W.rLmT ⟨163, look [(0, .lst true sv.length (zYy zYx sv)), (1, .lst true jobs.length (zYy (e42 true) jobs)), (6, .ref false 0 ((List.replicate (jobs.length : Int).toNat ([] : (List Vis))).length)), (7, .ref false 1 ((List.replicate (sv.length : Int).toNat (Vector.replicate 4 0 : (Vector Int 4))).length))], [nstR 43 2 (List.replicate (jobs.length : Int).toNat ([] : (List Vis))), .row 73 4 (zYy eV4 (List.replicate (sv.length : Int).toNat (Vector.replicate 4 0 : (Vector Int 4))))] ++ nstT 36 3 e36 (List.replicate (jobs.length : Int).toNat ([] : (List Vis))), 0⟩ ?_ ?_
 refine mL rfl rfl (cL rfl (zXw (v := .lst _ _ _) tt24 rfl rfl (cL rfl (o_mkS (p := (1 + (List.replicate (jobs.length : Int).toNat ([] : (List Vis))).length)) (x0 := (Vector.replicate 4 0 : (Vector Int 4))) tt22 tt73 rfl rfl rfl (encV4.wd false) rfl s8 (nst_len rfl) (cL rfl (zZq (v := .ref _ _ _) rfl (eL (to_nst enc36 rfl [some (.inl 0), some (.inr 0)] (a := 1) (n := (List.replicate (jobs.length : Int).toNat ([] : (List Vis))).length) rfl rfl rfl ⟨Ren.lst _ _ _, Ren.lst _ _ _, Ren.ref (gS_inl rfl) id, Ren.refL (gS_in0 rfl) id (by simp), trivial⟩ ⟨.inr ⟨_, rfl, (ren_nstR rfl rfl)⟩, .inr ⟨_, rfl, ⟨rfl, rfl, rfl, Rens.enc encV4 false (List.replicate (sv.length : Int).toNat (Vector.replicate 4 0 : (Vector Int 4)))⟩⟩, trivial⟩))))))))
 obtain ⟨s9, hv⟩ := hv
 refine W.rLmT ⟨163, look [(0, .lst true sv.length (zYy zYx sv)), (1, .lst true jobs.length (zYy (e42 true) jobs)), (6, .ref false 0 ((List.replicate (jobs.length : Int).toNat ([] : (List Vis))).length)), (7, .ref false 1 ((List.replicate (sv.length : Int).toNat (Vector.replicate 4 0 : (Vector Int 4))).length)), (8, .ref false 2 ((List.replicate (jobs.length : Int).toNat ((0 : Int) : Int)).length))], [nstR 43 3 (List.replicate (jobs.length : Int).toNat ([] : (List Vis))), .row 73 4 (zYy eV4 (List.replicate (sv.length : Int).toNat (Vector.replicate 4 0 : (Vector Int 4)))), .row 3 1 (zYy zYx (List.replicate (jobs.length : Int).toNat ((0 : Int) : Int)))] ++ nstT 36 3 e36 (List.replicate (jobs.length : Int).toNat ([] : (List Vis))), 0⟩ ?_ ?_
 refine mL rfl rfl (cL rfl (zXw (v := .lst _ _ _) tt26 rfl rfl (cL rfl (o_mkS (p := (2 + (List.replicate (jobs.length : Int).toNat ([] : (List Vis))).length)) (x0 := ((0 : Int) : Int)) tt24 tt3 rfl rfl rfl (zZw.wd false) rfl s9 (nst_len rfl) (cL rfl (zZq (v := .ref _ _ _) rfl (eL (to_nst enc36 rfl [some (.inl 0), some (.inl 1), some (.inr 0)] (a := 2) (n := (List.replicate (jobs.length : Int).toNat ([] : (List Vis))).length) rfl rfl rfl ⟨Ren.lst _ _ _, Ren.lst _ _ _, Ren.ref (gS_inl rfl) id, Ren.ref (gS_inl rfl) id, Ren.refL (gS_in0 rfl) id (by simp), trivial⟩ ⟨.inr ⟨_, rfl, (ren_nstR rfl rfl)⟩, .inr ⟨_, rfl, ⟨rfl, rfl, rfl, Rens.enc encV4 false (List.replicate (sv.length : Int).toNat (Vector.replicate 4 0 : (Vector Int 4)))⟩⟩, .inr ⟨_, rfl, ⟨rfl, rfl, rfl, Rens.enc zZw false (List.replicate (jobs.length : Int).toNat ((0 : Int) : Int))⟩⟩, trivial⟩))))))))
 refine W.seq' (W.rL (aI rfl rfl (eL (W.tz [(0, .lst _ _ _), (1, .lst _ _ _), (6, .ref _ _ _), (7, .ref _ _ _), (8, .ref _ _ _), (9, .int _ _)] ([nstR _ _ _, .row _ _ _, .row _ _ _] ++ nstT _ _ _ _) rfl rfl (W.block ?_)))))
 obtain ⟨I1, μ1, hp, hv⟩ := hv
 refine W.loop2 (fun v9 r2 => ⟨163, look [(0, .lst true sv.length (zYy zYx sv)), (1, .lst true jobs.length (zYy (e42 true) jobs)), (6, .ref false 0 ((List.replicate (jobs.length : Int).toNat ([] : (List Vis))).length)), (7, .ref false 1 ((List.replicate (sv.length : Int).toNat (Vector.replicate 4 0 : (Vector Int 4))).length)), (8, .ref false 2 r2.length), (9, .int .i64 v9)], [nstR 43 3 (List.replicate (jobs.length : Int).toNat ([] : (List Vis))), .row 73 4 (zYy eV4 (List.replicate (sv.length : Int).toNat (Vector.replicate 4 0 : (Vector Int 4)))), .row 3 1 (zYy zYx r2)] ++ nstT 36 3 e36 (List.replicate (jobs.length : Int).toNat ([] : (List Vis))), 0⟩) I1 μ1 (0 : Int) (List.replicate (jobs.length : Int).toNat ((0 : Int) : Int)) (to_nst0 enc36 rfl [some (.inl 0), some (.inl 1), some (.inl 2)] (a := 3) (n := (List.replicate (jobs.length : Int).toNat ([] : (List Vis))).length) rfl rfl rfl ⟨Ren.lst _ _ _, Ren.lst _ _ _, Ren.refL (gS_inl rfl) id (by simp), Ren.refL (gS_inl rfl) id (by simp), Ren.refL (gS_inl rfl) id (by simp), Ren.int _ _, trivial⟩ ⟨.inr ⟨_, rfl, (ren_nstR rfl rfl)⟩, zE encV4 false (List.replicate (sv.length : Int).toNat (Vector.replicate 4 0 : (Vector Int 4))) rfl, zE zZw false (List.replicate (jobs.length : Int).toNat ((0 : Int) : Int)) rfl, trivial⟩) hp ?_
 clear hp
 intro v9 r2 hI
 replace hv := hv v9 r2 hI
 clear hI
 refine W.seq' (W.rL (mI rfl rfl (mL rfl rfl (cL rfl (zXw (v := .lst _ _ _) tt26 rfl rfl (cL rfl (zYq rfl rfl (eL (W.tz [(0, .lst _ _ _), (1, .lst _ _ _), (6, .ref _ _ _), (7, .ref _ _ _), (8, .ref _ _ _), (9, .int _ _), (32, .bool _)] ([nstR _ _ _, .row _ _ _, .row _ _ _] ++ nstT _ _ _ _) rfl rfl (W.cn rfl (fun hc => ?_) (fun hc => ?_)))))))))))
 have hv := hv.1 hc
 refine W.skip (zZ (W.tz [(0, .lst _ _ _), (1, .lst _ _ _), (6, .ref _ _ _), (7, .ref _ _ _), (8, .ref _ _ _), (9, .int _ _)] ([nstR _ _ _, .row _ _ _, .row _ _ _] ++ nstT _ _ _ _) rfl rfl (W.seq' (W.block (W.rL1 (cL rfl (zZp (v := .ref _ _ _) rfl (mI rfl rfl (mL rfl rfl (mI rfl rfl ?_))))))))))
 obtain ⟨s37, hv⟩ := hv
 refine cL rfl (zYu tt26 tt42 rfl rfl (enc42.wd true) rfl s37 ?_)
 intro rest37
 refine cL rfl (o_faP tt42 rfl tt3 rfl (cL rfl (zZx (v := .int _ _) tt3 rfl rfl ⟨_, rfl⟩ ?_)))
 obtain ⟨s38, hv⟩ := hv
 refine cL rfl (o_iaR tt24 tt3 rfl rfl s38 (cLn (o_stR (v := .int _ _) tt3 rfl rfl rfl rfl rfl (row_in (xs := r2) (zZw.wd false) s38 rfl) (row_set (e := zYx) (zZw.wd false) _ _ ((lat jobs v9).ar) rfl s38.1 s38.2) (eL (zYv (zZ (W.tz [(0, .lst _ _ _), (1, .lst _ _ _), (6, .ref _ _ _), (7, .ref _ _ _), (8, .ref _ _ _), (9, .int _ _)] ([nstR _ _ _, .row _ _ _, .row _ _ _] ++ nstT _ _ _ _) rfl rfl (W.rL1 (mI rfl rfl ?_)))))))))
 obtain ⟨s39, hv⟩ := hv
 refine cL rfl (o_add rfl rfl s39 (aI rfl rfl (eL (zZ (⟨(), (v9 + (1 : Int)), (r2.set v9.toNat ((lat jobs v9).ar)), hv, to_nst0 enc36 rfl [some (.inl 0), some (.inl 1), some (.inl 2)] (a := 3) (n := (List.replicate (jobs.length : Int).toNat ([] : (List Vis))).length) rfl rfl rfl ⟨Ren.lst _ _ _, Ren.lst _ _ _, Ren.refL (gS_inl rfl) id (by simp), Ren.refL (gS_inl rfl) id (by simp), Ren.refL (gS_inl rfl) id (by simp), Ren.int _ _, trivial⟩ ⟨.inr ⟨_, rfl, (ren_nstR rfl rfl)⟩, zE encV4 false (List.replicate (sv.length : Int).toNat (Vector.replicate 4 0 : (Vector Int 4))) rfl, zE zZw false (r2.set v9.toNat ((lat jobs v9).ar)) rfl, trivial⟩⟩)))))
 have hv := hv.2 hc
 refine W.exit (zZt (zZt (zYs (zZ (W.tz [(0, .lst _ _ _), (1, .lst _ _ _), (6, .ref _ _ _), (7, .ref _ _ _), (8, .ref _ _ _)] ([nstR _ _ _, .row _ _ _, .row _ _ _] ++ nstT _ _ _ _) rfl rfl (W.block ?_))))))
 obtain ⟨I2, μ2, hp, hv⟩ := hv
 refine W.loop3 (fun r0 r1 r2_1 => ⟨163, look [(0, .lst true sv.length (zYy zYx sv)), (1, .lst true jobs.length (zYy (e42 true) jobs)), (6, .ref false 0 r0.length), (7, .ref false 1 r1.length), (8, .ref false 2 r2_1.length)], [nstR 43 3 r0, .row 73 4 (zYy eV4 r1), .row 3 1 (zYy zYx r2_1)] ++ nstT 36 3 e36 r0, 0⟩) I2 μ2 (List.replicate (jobs.length : Int).toNat ([] : (List Vis))) (List.replicate (sv.length : Int).toNat (Vector.replicate 4 0 : (Vector Int 4))) r2 (to_nst0 enc36 rfl [some (.inl 0), some (.inl 1), some (.inl 2)] (a := 3) (n := (List.replicate (jobs.length : Int).toNat ([] : (List Vis))).length) rfl rfl rfl ⟨Ren.lst _ _ _, Ren.lst _ _ _, Ren.refL (gS_inl rfl) id (by simp), Ren.refL (gS_inl rfl) id (by simp), Ren.ref (gS_inl rfl) id, trivial⟩ ⟨.inr ⟨_, rfl, (ren_nstR rfl rfl)⟩, zE encV4 false (List.replicate (sv.length : Int).toNat (Vector.replicate 4 0 : (Vector Int 4))) rfl, zE zZw false r2 rfl, trivial⟩) hp ?_
 clear hp
 intro r0 r1 r2_1 hI
 replace hv := hv r0 r1 r2_1 hI
 clear hI
 refine W.block (W.rL (aI rfl rfl (eL (W.tz [(0, .lst _ _ _), (1, .lst _ _ _), (6, .ref _ _ _), (7, .ref _ _ _), (8, .ref _ _ _), (10, .int _ _)] ([nstR _ _ _, .row _ _ _, .row _ _ _] ++ nstT _ _ _ _) rfl rfl (W.seq' (W.rL (aI rfl rfl (eL (W.tz [(0, .lst _ _ _), (1, .lst _ _ _), (6, .ref _ _ _), (7, .ref _ _ _), (8, .ref _ _ _), (10, .int _ _), (11, .int _ _)] ([nstR _ _ _, .row _ _ _, .row _ _ _] ++ nstT _ _ _ _) rfl rfl (W.block ?_))))))))))
 obtain ⟨I3, μ3, hp, hv⟩ := hv
 refine W.loop2 (fun v10 v11 => ⟨163, look [(0, .lst true sv.length (zYy zYx sv)), (1, .lst true jobs.length (zYy (e42 true) jobs)), (6, .ref false 0 r0.length), (7, .ref false 1 r1.length), (8, .ref false 2 r2_1.length), (10, .int .i64 v10), (11, .int .i64 v11)], [nstR 43 3 r0, .row 73 4 (zYy eV4 r1), .row 3 1 (zYy zYx r2_1)] ++ nstT 36 3 e36 r0, 0⟩) I3 μ3 (-1 : Int) (0 : Int) (to_nst0 enc36 rfl [some (.inl 0), some (.inl 1), some (.inl 2)] (a := 3) (n := r0.length) rfl rfl rfl ⟨Ren.lst _ _ _, Ren.lst _ _ _, Ren.ref (gS_inl rfl) id, Ren.ref (gS_inl rfl) id, Ren.ref (gS_inl rfl) id, Ren.int _ _, Ren.int _ _, trivial⟩ ⟨.inr ⟨_, rfl, (ren_nstR rfl rfl)⟩, zE encV4 false r1 rfl, zE zZw false r2_1 rfl, trivial⟩) hp ?_
 clear hp
 intro v10 v11 hI
 replace hv := hv v10 v11 hI
 clear hI
 refine W.seq' (W.rL (mI rfl rfl (mL rfl rfl (cL rfl (zXw (v := .lst _ _ _) tt26 rfl rfl (cL rfl (zYq rfl rfl (eL (W.tz [(0, .lst _ _ _), (1, .lst _ _ _), (6, .ref _ _ _), (7, .ref _ _ _), (8, .ref _ _ _), (10, .int _ _), (11, .int _ _), (46, .bool _)] ([nstR _ _ _, .row _ _ _, .row _ _ _] ++ nstT _ _ _ _) rfl rfl (W.cn rfl (fun hc => ?_) (fun hc => ?_)))))))))))
 have hv := hv.1 hc
 refine W.skip (zZ (W.tz [(0, .lst _ _ _), (1, .lst _ _ _), (6, .ref _ _ _), (7, .ref _ _ _), (8, .ref _ _ _), (10, .int _ _), (11, .int _ _)] ([nstR _ _ _, .row _ _ _, .row _ _ _] ++ nstT _ _ _ _) rfl rfl ?_))
 obtain ⟨J4, hj, hv⟩ := hv
 refine W.mid1 (fun v10_1 => ⟨163, look [(0, .lst true sv.length (zYy zYx sv)), (1, .lst true jobs.length (zYy (e42 true) jobs)), (6, .ref false 0 r0.length), (7, .ref false 1 r1.length), (8, .ref false 2 r2_1.length), (10, .int .i64 v10_1), (11, .int .i64 v11)], [nstR 43 3 r0, .row 73 4 (zYy eV4 r1), .row 3 1 (zYy zYx r2_1)] ++ nstT 36 3 e36 r0, 0⟩) J4 ?_ ?_
 intro v10_1
 intro hv
 replace hv := hj v10_1 hv
 refine W.rL1 (mI rfl rfl ?_)
 obtain ⟨s347, hv⟩ := hv
 refine cL rfl (o_add rfl rfl s347 (aI rfl rfl (eL (zZ (⟨(), v10_1, (v11 + (1 : Int)), hv, to_nst0 enc36 rfl [some (.inl 0), some (.inl 1), some (.inl 2)] (a := 3) (n := r0.length) rfl rfl rfl ⟨Ren.lst _ _ _, Ren.lst _ _ _, Ren.ref (gS_inl rfl) id, Ren.ref (gS_inl rfl) id, Ren.ref (gS_inl rfl) id, Ren.int _ _, Ren.int _ _, trivial⟩ ⟨.inr ⟨_, rfl, (ren_nstR rfl rfl)⟩, zE encV4 false r1 rfl, zE zZw false r2_1 rfl, trivial⟩⟩)))))
 clear hj
 refine W.block ?_
 obtain ⟨sd, hv⟩ := hv
 refine W.rDm ⟨163, look [(0, .lst true sv.length (zYy zYx sv)), (1, .lst true jobs.length (zYy (e42 true) jobs)), (6, .ref false 0 r0.length), (7, .ref false 1 r1.length), (8, .ref false 2 r2_1.length), (10, .int .i64 v10), (11, .int .i64 v11), (75, .bool (decide ((((lat r0 v11).length : Int) < (((lat jobs v11).wk).length : Int)) /\ ((v10 < (0 : Int)) \/ ((lat r2_1 v11) < (lat r2_1 v10))))))], [nstR 43 3 r0, .row 73 4 (zYy eV4 r1), .row 3 1 (zYy zYx r2_1)] ++ nstT 36 3 e36 r0, 0⟩ [0, 1, 2, 3, 4, 5, 6, 7, 8, 9, 10, 11, 12, 13, 14, 15, 16, 17, 18, 19, 20, 21, 22, 23, 24, 25, 26] (by decide +kernel) rfl ?_ ?_
 refine cL rfl (zZp (v := .ref _ _ _) rfl (mI rfl rfl ?_))
 obtain ⟨s352, sd⟩ := sd
 refine cL rfl (o_iaR tt28 tt43 rfl rfl s352 (cL rfl (zZx (v := .ref _ _ _) tt43 rfl rfl (nst_ca (A := []) (vs := r0) (i := v11) rfl s352) (cL rfl (zXw (v := .ref _ _ _) tt43 rfl rfl (mL rfl rfl (mI rfl rfl ?_)))))))
 obtain ⟨s353, sd⟩ := sd
 refine cL rfl (zYu tt26 tt42 rfl rfl (enc42.wd true) rfl s353 ?_)
 intro rest353
 refine cL rfl (o_faP tt42 rfl tt40 rfl (cL rfl (zZx (v := .lst _ _ _) tt40 rfl rfl ⟨_, rfl⟩ (cL rfl (zXw (v := .lst _ _ _) tt40 rfl rfl (cL rfl (zYq rfl rfl (mB rfl rfl ?_))))))))
 by_cases c1 : ((lat r0 v11).length : Int) < (((lat jobs v11).wk).length : Int)
 have sd := sd.1 c1
 refine cLg rfl rfl (dT c1) (mI rfl rfl (cLg rfl rfl (dT c1) (cL rfl (zYq rfl rfl (cLg rfl rfl (dT c1) (mB rfl rfl ?_))))))
 by_cases c2 : v10 < (0 : Int)
 iterate 9 refine cLs rfl rfl rfl (dT c2) ?_
 refine cLg rfl rfl (dT c1) (cL rfl (zZv (v := .bool _) rfl (dT c2) rfl (cL rfl (zZv (v := .bool _) rfl (dT c1) rfl (eL (zYz ⟨rfl, rfl, rfl, rfl, rfl, rfl, rfl, (congrArg AV.bool (zXv c1 (dOrT c2))).symm, trivial⟩ rfl))))))
 have sd := sd.2 c2
 refine cLg rfl rfl (dF c2) (cL rfl (zZp (v := .ref _ _ _) rfl (cLg rfl rfl (dF c2) (mI rfl rfl (cLg rfl rfl (dF c2) ?_)))))
 obtain ⟨s354, sd⟩ := sd
 refine cL rfl (o_iaR tt24 tt3 rfl rfl s354 (cLg rfl rfl (dF c2) (cL rfl (zZx (v := .int _ _) tt3 rfl rfl (cell_of (ca_row (xs := r2_1) rfl (zZw.wd false) s354) rfl) (cLg rfl rfl (dF c2) (cL rfl (zZp (v := .ref _ _ _) rfl (cLg rfl rfl (dF c2) (mI rfl rfl (cLg rfl rfl (dF c2) ?_))))))))))
 obtain ⟨s355, sd⟩ := sd
 refine cL rfl (o_iaR tt24 tt3 rfl rfl s355 (cLg rfl rfl (dF c2) (cL rfl (zZx (v := .int _ _) tt3 rfl rfl (cell_of (ca_row (xs := r2_1) rfl (zZw.wd false) s355) rfl) (cLg rfl rfl (dF c2) (cL rfl (zYq rfl rfl (cLg rfl rfl (dT c1) (cL rfl (zZy (v := .bool _) rfl (dF c2) rfl (cL rfl (zZv (v := .bool _) rfl (dT c1) rfl (eL (zYz ⟨rfl, rfl, rfl, rfl, rfl, rfl, rfl, (congrArg AV.bool (zXv c1 (dOrF c2 (rfl)))).symm, trivial⟩ rfl))))))))))))))
 iterate 3 refine cLs rfl rfl rfl (dF c1) ?_
 iterate 4 refine cLu rfl rfl rfl ?_
 iterate 5 refine cLu rfl rfl (by kernel_rfl) ?_
 refine cLs rfl rfl rfl (dF c1) (cL rfl (zZy (v := .bool _) rfl (dF c1) rfl (eL (zYz ⟨rfl, rfl, rfl, rfl, rfl, rfl, rfl, (congrArg AV.bool (dAndF c1)).symm, trivial⟩ rfl))))
 refine W.cn rfl (fun hc => ?_) (fun hc => ?_)
 have hv := hv.1 hc
 refine W.rL1 (mI rfl rfl (aI rfl rfl (eL (zYv (zZ (⟨(), v11, hv, to_nst0 enc36 rfl [some (.inl 0), some (.inl 1), some (.inl 2)] (a := 3) (n := r0.length) rfl rfl rfl ⟨Ren.lst _ _ _, Ren.lst _ _ _, Ren.ref (gS_inl rfl) id, Ren.ref (gS_inl rfl) id, Ren.ref (gS_inl rfl) id, Ren.int _ _, Ren.int _ _, trivial⟩ ⟨.inr ⟨_, rfl, (ren_nstR rfl rfl)⟩, zE encV4 false r1 rfl, zE zZw false r2_1 rfl, trivial⟩⟩))))))
 have hv := hv.2 hc
 refine W.skip (zYv (zZ (⟨(), v10, hv, to_nst0 enc36 rfl [some (.inl 0), some (.inl 1), some (.inl 2)] (a := 3) (n := r0.length) rfl rfl rfl ⟨Ren.lst _ _ _, Ren.lst _ _ _, Ren.ref (gS_inl rfl) id, Ren.ref (gS_inl rfl) id, Ren.ref (gS_inl rfl) id, Ren.int _ _, Ren.int _ _, trivial⟩ ⟨.inr ⟨_, rfl, (ren_nstR rfl rfl)⟩, zE encV4 false r1 rfl, zE zZw false r2_1 rfl, trivial⟩⟩)))
 have hv := hv.2 hc
 refine W.exit (zZt (zZt (zYs (zZ (W.tz [(0, .lst _ _ _), (1, .lst _ _ _), (6, .ref _ _ _), (7, .ref _ _ _), (8, .ref _ _ _), (10, .int _ _)] ([nstR _ _ _, .row _ _ _, .row _ _ _] ++ nstT _ _ _ _) rfl rfl (W.seq' (W.rL (mI rfl rfl (cL rfl (zYq rfl rfl (eL (W.tz [(0, .lst _ _ _), (1, .lst _ _ _), (6, .ref _ _ _), (7, .ref _ _ _), (8, .ref _ _ _), (10, .int _ _), (78, .bool _)] ([nstR _ _ _, .row _ _ _, .row _ _ _] ++ nstT _ _ _ _) rfl rfl (W.cn rfl (fun hc => ?_) (fun hc => ?_))))))))))))))
 have hv := hv.1 hc
 refine W.rL (cL rfl (zZp (v := .ref _ _ _) rfl (cL rfl (zZq (v := .ref _ _ _) rfl (aI rfl rfl (eL (W.tz [(4, .ref _ _ _), (5, .int _ _)] ([nstR _ _ _, .row _ _ _, .row _ _ _] ++ nstT _ _ _ _) rfl rfl (W.ret (zZr (zYt (zZr (zYt (rt (rt_t (v := .ref _ _ _) rfl (rt_t (v := .int _ _) rfl (rt_n (⟨_, rs_tup 5 _ (Wks.cons (rs_nst 2 enc36 false rfl rfl rfl) (Wks.cons (zY _ _ _ _) zk)), r0, (0 : Int), rfl, hv⟩)))))))))))))))))
 have hv := hv.2 hc
 refine W.skip (zZ (W.tz [(0, .lst _ _ _), (1, .lst _ _ _), (6, .ref _ _ _), (7, .ref _ _ _), (8, .ref _ _ _), (10, .int _ _)] ([nstR _ _ _, .row _ _ _, .row _ _ _] ++ nstT _ _ _ _) rfl rfl ?_))
 obtain ⟨s356, s357, s358, hv⟩ := hv
 refine W.rPmT ⟨163, look [(0, .lst true sv.length (zYy zYx sv)), (1, .lst true jobs.length (zYy (e42 true) jobs)), (6, .ref false 0 r0.length), (7, .ref false 1 r1.length), (8, .ref false 2 r2_1.length), (10, .int .i64 v10), (12, .ptr 3 0)], [nstR 43 4 r0, .row 73 4 (zYy eV4 r1), .row 3 1 (zYy zYx r2_1), .box 45 [.int .i64 ((lat ((lat jobs v10).wk) ((lat r0 v10).length : Int)).st), .int .i64 ((lat ((lat jobs v10).wk) ((lat r0 v10).length : Int)).tm)]] ++ nstT 36 3 e36 r0, 0⟩ [0, 1, 2, 3, 4, 5, 6, 7, 8, 9, 10, 11, 12, 13] (by decide +kernel) rfl ?_ ?_
 refine mL rfl rfl (mI rfl rfl (cL rfl (zYu tt26 tt42 rfl rfl (enc42.wd true) rfl s356 ?_)))
 intro rest358
 refine cL rfl (o_faP tt42 rfl tt40 rfl (cL rfl (zZx (v := .lst _ _ _) tt40 rfl rfl ⟨_, rfl⟩ (cL rfl (zZp (v := .ref _ _ _) rfl (mI rfl rfl (cL rfl (o_iaR tt28 tt43 rfl rfl s357 (cL rfl (zZx (v := .ref _ _ _) tt43 rfl rfl (nst_ca (A := []) (vs := r0) (i := v10) rfl s357) (cL rfl (zXw (v := .ref _ _ _) tt43 rfl rfl (cL rfl (zYu tt40 tt45 rfl rfl (enc45.wd true) rfl s358 ?_))))))))))))))
 intro rest358
 refine cL rfl (zYp (cs := [.int _ _, .int _ _]) tt45 rfl rfl ⟨_, rfl⟩ rfl (cL rfl (zXy (p := (3 + r0.length)) tt45 (nst_len rfl) rfl (cLn (o_stB (v := .agg _) (vs := [.int _ _, .int _ _]) (cs2 := [.int _ _, .int _ _]) tt45 rfl rfl rfl rfl (nst_new rfl) (Nat.le_of_ble_eq_true rfl) rfl (eL (to_nstS enc36 rfl [some (.inl 0), some (.inl 1), some (.inl 2), some (.inr 0)] (a := 3) (n := r0.length) rfl rfl rfl ⟨Ren.lst _ _ _, Ren.lst _ _ _, Ren.ref (gS_inl rfl) id, Ren.ref (gS_inl rfl) id, Ren.ref (gS_inl rfl) id, Ren.int _ _, Ren.ptr (gS_in0 rfl), trivial⟩ ⟨.inr ⟨_, rfl, (ren_nstR rfl rfl)⟩, .inr ⟨_, rfl, ⟨rfl, rfl, rfl, Rens.enc encV4 false r1⟩⟩, .inr ⟨_, rfl, ⟨rfl, rfl, rfl, Rens.enc zZw false r2_1⟩⟩, .inr ⟨_, rfl, ⟨rfl, zR rfl⟩⟩, trivial⟩)))))))
 refine W.rL (aI rfl rfl (eL (W.tz [(0, .lst _ _ _), (1, .lst _ _ _), (6, .ref _ _ _), (7, .ref _ _ _), (8, .ref _ _ _), (10, .int _ _), (12, .ptr _ _), (13, .int _ _)] ([nstR _ _ _, .row _ _ _, .row _ _ _, .box _ [.int _ _, .int _ _]] ++ nstT _ _ _ _) rfl rfl (W.seq' (W.rL (aI rfl rfl (eL (W.tz [(0, .lst _ _ _), (1, .lst _ _ _), (6, .ref _ _ _), (7, .ref _ _ _), (8, .ref _ _ _), (10, .int _ _), (12, .ptr _ _), (13, .int _ _), (14, .int _ _)] ([nstR _ _ _, .row _ _ _, .row _ _ _, .box _ [.int _ _, .int _ _]] ++ nstT _ _ _ _) rfl rfl (W.block ?_)))))))))
 obtain ⟨I5, μ5, hp, hv⟩ := hv
 refine W.loop2 (fun v13 v14 => ⟨163, look [(0, .lst true sv.length (zYy zYx sv)), (1, .lst true jobs.length (zYy (e42 true) jobs)), (6, .ref false 0 r0.length), (7, .ref false 1 r1.length), (8, .ref false 2 r2_1.length), (10, .int .i64 v10), (12, .ptr 3 0), (13, .int .i64 v13), (14, .int .i64 v14)], [nstR 43 4 r0, .row 73 4 (zYy eV4 r1), .row 3 1 (zYy zYx r2_1), .box 45 [.int .i64 ((lat ((lat jobs v10).wk) ((lat r0 v10).length : Int)).st), .int .i64 ((lat ((lat jobs v10).wk) ((lat r0 v10).length : Int)).tm)]] ++ nstT 36 3 e36 r0, 0⟩) I5 μ5 (0 : Int) (1 : Int) (to_nst0 enc36 rfl [some (.inl 0), some (.inl 1), some (.inl 2), some (.inl 3)] (a := 4) (n := r0.length) rfl rfl rfl ⟨Ren.lst _ _ _, Ren.lst _ _ _, Ren.ref (gS_inl rfl) id, Ren.ref (gS_inl rfl) id, Ren.ref (gS_inl rfl) id, Ren.int _ _, Ren.ptr (gS_inl rfl), Ren.int _ _, Ren.int _ _, trivial⟩ ⟨.inr ⟨_, rfl, (ren_nstR rfl rfl)⟩, zE encV4 false r1 rfl, zE zZw false r2_1 rfl, (zB rfl rfl), trivial⟩) hp ?_
 clear hp
 intro v13 v14 hI
 replace hv := hv v13 v14 hI
 clear hI
 refine W.seq' (W.rL (mI rfl rfl (mL rfl rfl (cL rfl (o_fa tt45 rfl tt3 rfl (cL rfl (zZx (v := .int _ _) tt3 rfl rfl ⟨_, rfl⟩ ?_)))))))
 obtain ⟨s393, hv⟩ := hv
 refine cL rfl (zYu tt24 tt3 rfl rfl (zZw.wd true) rfl s393 ?_)
 intro rest393
 refine cL rfl (zZx (v := .int _ _) tt3 rfl rfl ⟨_, rfl⟩ (cL rfl (zYq rfl rfl (eL (W.tz [(0, .lst _ _ _), (1, .lst _ _ _), (6, .ref _ _ _), (7, .ref _ _ _), (8, .ref _ _ _), (10, .int _ _), (12, .ptr _ _), (13, .int _ _), (14, .int _ _), (98, .bool _)] ([nstR _ _ _, .row _ _ _, .row _ _ _, .box _ [.int _ _, .int _ _]] ++ nstT _ _ _ _) rfl rfl (W.cn rfl (fun hc => ?_) (fun hc => ?_)))))))
 have hv := hv.1 hc
 refine W.skip (zZ (W.tz [(0, .lst _ _ _), (1, .lst _ _ _), (6, .ref _ _ _), (7, .ref _ _ _), (8, .ref _ _ _), (10, .int _ _), (12, .ptr _ _), (13, .int _ _), (14, .int _ _)] ([nstR _ _ _, .row _ _ _, .row _ _ _, .box _ [.int _ _, .int _ _]] ++ nstT _ _ _ _) rfl rfl ?_))
 obtain ⟨J6, hj, hv⟩ := hv
 refine W.mid1 (fun v13_1 => ⟨163, look [(0, .lst true sv.length (zYy zYx sv)), (1, .lst true jobs.length (zYy (e42 true) jobs)), (6, .ref false 0 r0.length), (7, .ref false 1 r1.length), (8, .ref false 2 r2_1.length), (10, .int .i64 v10), (12, .ptr 3 0), (13, .int .i64 v13_1), (14, .int .i64 v14)], [nstR 43 4 r0, .row 73 4 (zYy eV4 r1), .row 3 1 (zYy zYx r2_1), .box 45 [.int .i64 ((lat ((lat jobs v10).wk) ((lat r0 v10).length : Int)).st), .int .i64 ((lat ((lat jobs v10).wk) ((lat r0 v10).length : Int)).tm)]] ++ nstT 36 3 e36 r0, 0⟩) J6 ?_ ?_
 intro v13_1
 intro hv
 replace hv := hj v13_1 hv
 refine W.rL1 (mI rfl rfl ?_)
 obtain ⟨s398, hv⟩ := hv
 refine cL rfl (o_add rfl rfl s398 (aI rfl rfl (eL (zZ (⟨(), v13_1, (v14 + (1 : Int)), hv, to_nst0 enc36 rfl [some (.inl 0), some (.inl 1), some (.inl 2), some (.inl 3)] (a := 4) (n := r0.length) rfl rfl rfl ⟨Ren.lst _ _ _, Ren.lst _ _ _, Ren.ref (gS_inl rfl) id, Ren.ref (gS_inl rfl) id, Ren.ref (gS_inl rfl) id, Ren.int _ _, Ren.ptr (gS_inl rfl), Ren.int _ _, Ren.int _ _, trivial⟩ ⟨.inr ⟨_, rfl, (ren_nstR rfl rfl)⟩, zE encV4 false r1 rfl, zE zZw false r2_1 rfl, (zB rfl rfl), trivial⟩⟩)))))
 clear hj
 refine W.block (W.rD [0, 1, 2, 3, 4, 5, 6, 7, 8, 9, 10, 11, 12, 13, 14] (by decide +kernel) rfl (cL rfl (zZp (v := .ref _ _ _) rfl (cL rfl (o_fa tt45 rfl tt3 rfl (cL rfl (zZx (v := .int _ _) tt3 rfl rfl ⟨_, rfl⟩ (mI rfl rfl ?_))))))))
 obtain ⟨s399, hv⟩ := hv
 refine cL rfl (o_iaR tt22 tt73 rfl rfl s399 ?_)
 obtain ⟨s400, hv⟩ := hv
 refine cL rfl (o_iaA tt73 tt3 rfl rfl s400 (by rw [Nat.mul_one]) (cL rfl (zZx (v := .int _ _) tt3 rfl rfl (ca_rowV (xs := r1) rfl s399 (by have := s400; omega)) (cL rfl (zZp (v := .ref _ _ _) rfl (cL rfl (o_fa tt45 rfl tt3 rfl (cL rfl (zZx (v := .int _ _) tt3 rfl rfl ⟨_, rfl⟩ (mI rfl rfl ?_))))))))))
 obtain ⟨s401, hv⟩ := hv
 refine cL rfl (o_iaR tt22 tt73 rfl rfl s401 ?_)
 obtain ⟨s402, hv⟩ := hv
 refine cL rfl (o_iaA tt73 tt3 rfl rfl s402 (by rw [Nat.mul_one]) (cL rfl (zZx (v := .int _ _) tt3 rfl rfl (ca_rowV (xs := r1) rfl s401 (by have := s402; omega)) (cL rfl (zYq rfl rfl (eL (W.tz [(0, .lst _ _ _), (1, .lst _ _ _), (6, .ref _ _ _), (7, .ref _ _ _), (8, .ref _ _ _), (10, .int _ _), (12, .ptr _ _), (13, .int _ _), (14, .int _ _), (115, .bool _)] ([nstR _ _ _, .row _ _ _, .row _ _ _, .box _ [.int _ _, .int _ _]] ++ nstT _ _ _ _) rfl rfl (W.cn rfl (fun hc => ?_) (fun hc => ?_)))))))))
 have hv := hv.1 hc
 refine W.rL1 (mI rfl rfl (aI rfl rfl (eL (zYv (zZ (⟨(), v14, hv, to_nst0 enc36 rfl [some (.inl 0), some (.inl 1), some (.inl 2), some (.inl 3)] (a := 4) (n := r0.length) rfl rfl rfl ⟨Ren.lst _ _ _, Ren.lst _ _ _, Ren.ref (gS_inl rfl) id, Ren.ref (gS_inl rfl) id, Ren.ref (gS_inl rfl) id, Ren.int _ _, Ren.ptr (gS_inl rfl), Ren.int _ _, Ren.int _ _, trivial⟩ ⟨.inr ⟨_, rfl, (ren_nstR rfl rfl)⟩, zE encV4 false r1 rfl, zE zZw false r2_1 rfl, (zB rfl rfl), trivial⟩⟩))))))
 have hv := hv.2 hc
 refine W.skip (zYv (zZ (⟨(), v13, hv, to_nst0 enc36 rfl [some (.inl 0), some (.inl 1), some (.inl 2), some (.inl 3)] (a := 4) (n := r0.length) rfl rfl rfl ⟨Ren.lst _ _ _, Ren.lst _ _ _, Ren.ref (gS_inl rfl) id, Ren.ref (gS_inl rfl) id, Ren.ref (gS_inl rfl) id, Ren.int _ _, Ren.ptr (gS_inl rfl), Ren.int _ _, Ren.int _ _, trivial⟩ ⟨.inr ⟨_, rfl, (ren_nstR rfl rfl)⟩, zE encV4 false r1 rfl, zE zZw false r2_1 rfl, (zB rfl rfl), trivial⟩⟩)))
 have hv := hv.2 hc
 refine W.exit (zZt (zZt (zYs (zZ (W.tz [(0, .lst _ _ _), (1, .lst _ _ _), (6, .ref _ _ _), (7, .ref _ _ _), (8, .ref _ _ _), (10, .int _ _), (12, .ptr _ _), (13, .int _ _)] ([nstR _ _ _, .row _ _ _, .row _ _ _, .box _ [.int _ _, .int _ _]] ++ nstT _ _ _ _) rfl rfl ?_)))))
 obtain ⟨s403, s404, s405, hv⟩ := hv
 refine W.rPmT ⟨163, look [(0, .lst true sv.length (zYy zYx sv)), (1, .lst true jobs.length (zYy (e42 true) jobs)), (6, .ref false 0 r0.length), (7, .ref false 1 r1.length), (8, .ref false 2 r2_1.length), (10, .int .i64 v10), (12, .ptr 3 0), (13, .int .i64 v13), (15, .ptr 4 0)], [nstR 43 5 r0, .row 73 4 (zYy eV4 r1), .row 3 1 (zYy zYx r2_1), .box 45 [.int .i64 ((lat ((lat jobs v10).wk) ((lat r0 v10).length : Int)).st), .int .i64 ((lat ((lat jobs v10).wk) ((lat r0 v10).length : Int)).tm)], .box 36 [.int .i64 (lat r2_1 v10), .int .i64 (max (lat r2_1 v10) (vat (lat r1 ((lat ((lat jobs v10).wk) ((lat r0 v10).length : Int)).st)) v13.toNat)), .int .i64 (0 : Int)]] ++ nstT 36 3 e36 r0, 0⟩ [0, 1, 2, 3, 4, 5, 6, 7, 8, 9, 10, 11, 12, 13, 14, 15, 16, 17, 18] (by decide +kernel) rfl ?_ ?_
 refine cL rfl (zZp (v := .ref _ _ _) rfl (mI rfl rfl (cL rfl (o_iaR tt24 tt3 rfl rfl s403 (cL rfl (zZx (v := .int _ _) tt3 rfl rfl (cell_of (ca_row (xs := r2_1) rfl (zZw.wd false) s403) rfl) (cL rfl (zZp (v := .ref _ _ _) rfl (mI rfl rfl (cL rfl (o_iaR tt24 tt3 rfl rfl s403 (cL rfl (zZx (v := .int _ _) tt3 rfl rfl (cell_of (ca_row (xs := r2_1) rfl (zZw.wd false) s403) rfl) (cL rfl (zZp (v := .ref _ _ _) rfl (cL rfl (o_fa tt45 rfl tt3 rfl (cL rfl (zZx (v := .int _ _) tt3 rfl rfl ⟨_, rfl⟩ (mI rfl rfl (cL rfl (o_iaR tt22 tt73 rfl rfl s404 (cL rfl (o_iaA tt73 tt3 rfl rfl s405 (by rw [Nat.mul_one]) (cL rfl (zZx (v := .int _ _) tt3 rfl rfl (ca_rowV (xs := r1) rfl s404 (by have := s405; omega)) (cL rfl (o_max rfl rfl (cL rfl (o_build (qs := [(0, .int _ _), (1, .int _ _)]) (cs := [.int _ _, .int _ _, .int _ _]) tt36 rfl rfl rfl (cL rfl (zXy (p := (4 + r0.length)) tt36 (nst_len rfl) rfl (cLn (o_stB (v := .agg _) (vs := [.int _ _, .int _ _, .int _ _]) (cs2 := [.int _ _, .int _ _, .int _ _]) tt36 rfl rfl rfl rfl (nst_new rfl) (Nat.le_of_ble_eq_true rfl) rfl (eL (to_nstS enc36 rfl [some (.inl 0), some (.inl 1), some (.inl 2), some (.inl 3), some (.inr 0)] (a := 4) (n := r0.length) rfl rfl rfl ⟨Ren.lst _ _ _, Ren.lst _ _ _, Ren.ref (gS_inl rfl) id, Ren.ref (gS_inl rfl) id, Ren.ref (gS_inl rfl) id, Ren.int _ _, Ren.ptr (gS_inl rfl), Ren.int _ _, Ren.ptr (gS_in0 rfl), trivial⟩ ⟨.inr ⟨_, rfl, (ren_nstR rfl rfl)⟩, .inr ⟨_, rfl, ⟨rfl, rfl, rfl, Rens.enc encV4 false r1⟩⟩, .inr ⟨_, rfl, ⟨rfl, rfl, rfl, Rens.enc zZw false r2_1⟩⟩, .inr ⟨_, rfl, ⟨rfl, zR rfl⟩⟩, .inr ⟨_, rfl, ⟨rfl, zR rfl⟩⟩, trivial⟩))))))))))))))))))))))))))))))))))))
 refine W.rL (cL rfl (o_fa tt36 rfl tt3 rfl (cL rfl (zZx (v := .int _ _) tt3 rfl rfl ⟨_, rfl⟩ (cL rfl (o_fa tt45 rfl tt3 rfl (cL rfl (zZx (v := .int _ _) tt3 rfl rfl ⟨_, rfl⟩ ?_))))))))
 obtain ⟨s406, hv⟩ := hv
 refine cL rfl (o_add rfl rfl s406 (cL rfl (o_fa tt36 rfl tt3 rfl (cLn (o_stB (v := .int _ _) (vs := [.int _ _]) (cs2 := [.int _ _, .int _ _, .int _ _]) tt3 rfl rfl rfl rfl rfl (Nat.le_of_ble_eq_true rfl) rfl (eL (W.tz [(0, .lst _ _ _), (1, .lst _ _ _), (6, .ref _ _ _), (7, .ref _ _ _), (8, .ref _ _ _), (10, .int _ _), (12, .ptr _ _), (13, .int _ _), (15, .ptr _ _)] ([nstR _ _ _, .row _ _ _, .row _ _ _, .box _ [.int _ _, .int _ _], .box _ [.int _ _, .int _ _, .int _ _]] ++ nstT _ _ _ _) rfl rfl (W.rD [0, 1, 2, 3, 4, 5, 6, 7, 8] (by decide +kernel) rfl (cL rfl (zZp (v := .ref _ _ _) rfl (cL rfl (o_fa tt45 rfl tt3 rfl (cL rfl (zZx (v := .int _ _) tt3 rfl rfl ⟨_, rfl⟩ (mI rfl rfl (cL rfl (o_fa tt36 rfl tt3 rfl (cL rfl (zZx (v := .int _ _) tt3 rfl rfl ⟨_, rfl⟩ ?_)))))))))))))))))))
 obtain ⟨s407, hv⟩ := hv
 refine cL rfl (o_iaR tt22 tt73 rfl rfl s407 ?_)
 obtain ⟨s408, hv⟩ := hv
 refine cL rfl (o_iaA tt73 tt3 rfl rfl s408 (by rw [Nat.mul_one]) (cLn (o_stR (v := .int _ _) (vs := [.int _ _]) tt3 rfl rfl rfl rfl rfl (row_inV (xs := r1) s407 (by have := s408; omega)) (row_setV r1 s407 (by have := s408; omega) ((max (lat r2_1 v10) (vat (lat r1 ((lat ((lat jobs v10).wk) ((lat r0 v10).length : Int)).st)) v13.toNat)) + ((lat ((lat jobs v10).wk) ((lat r0 v10).length : Int)).tm))) (eL (W.tz [(0, .lst _ _ _), (1, .lst _ _ _), (6, .ref _ _ _), (7, .ref _ _ _), (8, .ref _ _ _), (10, .int _ _), (15, .ptr _ _)] ([nstR _ _ _, .row _ _ _, .row _ _ _, .box _ [.int _ _, .int _ _], .box _ [.int _ _, .int _ _, .int _ _]] ++ nstT _ _ _ _) rfl rfl (W.rL (cL rfl (zZp (v := .ref _ _ _) rfl (mI rfl rfl (cL rfl (o_fa tt36 rfl tt3 rfl (cL rfl (zZx (v := .int _ _) tt3 rfl rfl ⟨_, rfl⟩ ?_)))))))))))))
 obtain ⟨s409, hv⟩ := hv
 refine cL rfl (o_iaR tt24 tt3 rfl rfl s409 (cLn (o_stR (v := .int _ _) tt3 rfl rfl rfl rfl rfl (row_in (xs := r2_1) (zZw.wd false) s409 rfl) (row_set (e := zYx) (zZw.wd false) _ _ ((max (lat r2_1 v10) (vat (lat r1 ((lat ((lat jobs v10).wk) ((lat r0 v10).length : Int)).st)) v13.toNat)) + ((lat ((lat jobs v10).wk) ((lat r0 v10).length : Int)).tm)) rfl s409.1 s409.2) (eL (W.tz [(0, .lst _ _ _), (1, .lst _ _ _), (6, .ref _ _ _), (7, .ref _ _ _), (8, .ref _ _ _), (10, .int _ _), (15, .ptr _ _)] ([nstR _ _ _, .row _ _ _, .row _ _ _, .box _ [.int _ _, .int _ _], .box _ [.int _ _, .int _ _, .int _ _]] ++ nstT _ _ _ _) rfl rfl ?_)))))
 obtain ⟨s410, s411, hv⟩ := hv
 refine W.rPmT1 ⟨163, look [(0, .lst true sv.length (zYy zYx sv)), (1, .lst true jobs.length (zYy (e42 true) jobs)), (6, .ref false 0 ((r0.set v10.toNat ((lat r0 v10) ++ [(Vis.mk (lat r2_1 v10) (max (lat r2_1 v10) (vat (lat r1 ((lat ((lat jobs v10).wk) ((lat r0 v10).length : Int)).st)) v13.toNat)) ((max (lat r2_1 v10) (vat (lat r1 ((lat ((lat jobs v10).wk) ((lat r0 v10).length : Int)).st)) v13.toNat)) + ((lat ((lat jobs v10).wk) ((lat r0 v10).length : Int)).tm)))])).length)), (7, .ref false 1 ((r1.set ((lat ((lat jobs v10).wk) ((lat r0 v10).length : Int)).st).toNat (vset (lat r1 ((lat ((lat jobs v10).wk) ((lat r0 v10).length : Int)).st)) v13.toNat ((max (lat r2_1 v10) (vat (lat r1 ((lat ((lat jobs v10).wk) ((lat r0 v10).length : Int)).st)) v13.toNat)) + ((lat ((lat jobs v10).wk) ((lat r0 v10).length : Int)).tm)))).length)), (8, .ref false 2 ((r2_1.set v10.toNat ((max (lat r2_1 v10) (vat (lat r1 ((lat ((lat jobs v10).wk) ((lat r0 v10).length : Int)).st)) v13.toNat)) + ((lat ((lat jobs v10).wk) ((lat r0 v10).length : Int)).tm))).length))], [nstR 43 5 (r0.set v10.toNat ((lat r0 v10) ++ [(Vis.mk (lat r2_1 v10) (max (lat r2_1 v10) (vat (lat r1 ((lat ((lat jobs v10).wk) ((lat r0 v10).length : Int)).st)) v13.toNat)) ((max (lat r2_1 v10) (vat (lat r1 ((lat ((lat jobs v10).wk) ((lat r0 v10).length : Int)).st)) v13.toNat)) + ((lat ((lat jobs v10).wk) ((lat r0 v10).length : Int)).tm)))])), .row 73 4 (zYy eV4 (r1.set ((lat ((lat jobs v10).wk) ((lat r0 v10).length : Int)).st).toNat (vset (lat r1 ((lat ((lat jobs v10).wk) ((lat r0 v10).length : Int)).st)) v13.toNat ((max (lat r2_1 v10) (vat (lat r1 ((lat ((lat jobs v10).wk) ((lat r0 v10).length : Int)).st)) v13.toNat)) + ((lat ((lat jobs v10).wk) ((lat r0 v10).length : Int)).tm))))), .row 3 1 (zYy zYx (r2_1.set v10.toNat ((max (lat r2_1 v10) (vat (lat r1 ((lat ((lat jobs v10).wk) ((lat r0 v10).length : Int)).st)) v13.toNat)) + ((lat ((lat jobs v10).wk) ((lat r0 v10).length : Int)).tm)))), .dead, .dead] ++ nstT 36 3 e36 (r0.set v10.toNat ((lat r0 v10) ++ [(Vis.mk (lat r2_1 v10) (max (lat r2_1 v10) (vat (lat r1 ((lat ((lat jobs v10).wk) ((lat r0 v10).length : Int)).st)) v13.toNat)) ((max (lat r2_1 v10) (vat (lat r1 ((lat ((lat jobs v10).wk) ((lat r0 v10).length : Int)).st)) v13.toNat)) + ((lat ((lat jobs v10).wk) ((lat r0 v10).length : Int)).tm)))])), 0⟩ [0, 1, 2, 3, 4, 5, 6, 7, 8, 9, 10] (by decide +kernel) rfl ?_ ?_
 refine cL rfl (zZp (v := .ref _ _ _) rfl (mI rfl rfl (cL rfl (zZp (v := .ref _ _ _) rfl (mI rfl rfl (cL rfl (o_iaR tt28 tt43 rfl rfl s410 (cL rfl (zZx (v := .ref _ _ _) tt43 rfl rfl (nst_ca (A := []) (vs := r0) (i := v10) rfl s410) (cL rfl (zYp (cs := [.int _ _, .int _ _, .int _ _]) tt36 rfl rfl ⟨_, rfl⟩ rfl (cL rfl (o_bs1 (v := .agg _) (q := (5 + r0.length)) tt43 tt36 rfl rfl rfl rfl rfl (nst_len rfl) rfl rfl (cL rfl (o_apR (p := 5 + r0.length + 1) (q := (lat r0 v10).length + 1) tt43 tt36 rfl rfl (src_ref (nst_new rfl) rfl) rfl (nst_row rfl rfl s410) (zYw (enc36.wd false) _) (by have := s411; simp at this; omega) (nst_len1 rfl) rfl (encL_app e36 (lat r0 v10) [(Vis.mk (lat r2_1 v10) (max (lat r2_1 v10) (vat (lat r1 ((lat ((lat jobs v10).wk) ((lat r0 v10).length : Int)).st)) v13.toNat)) ((max (lat r2_1 v10) (vat (lat r1 ((lat ((lat jobs v10).wk) ((lat r0 v10).length : Int)).st)) v13.toNat)) + ((lat ((lat jobs v10).wk) ((lat r0 v10).length : Int)).tm)))]) (cL rfl (o_iaR tt28 tt43 rfl rfl s410 (cLn (o_stR (v := .ref _ _ _) (vs := [.ref _ _ _]) tt43 rfl rfl rfl rfl (nst_low rfl rfl) (cellsN_in (k := 0) (nst_wd _ _) (show v10.toNat < r0.length by have := s410; omega) (Nat.le_refl _)) (cellsN_spl (k := 0) (nst_wd _ _) (show v10.toNat < r0.length by have := s410; omega) (Nat.le_refl _)) (eL (⟨rfl, ?_⟩)))))))))))))))))))))
 exact to_nstA enc36 rfl (a := 5) (n := r0.length) rfl rfl (show v10.toNat < r0.length by have := s410; omega) rfl (by simp) rfl ⟨Ren.lst _ _ _, Ren.lst _ _ _, Ren.refL (gA_lt rfl) id (by simp), Ren.refL (gA_lt rfl) id (by simp), Ren.refL (gA_lt rfl) id (by simp), trivial⟩ ⟨.inr (ren_nstA rfl (show v10.toNat < r0.length by have := s410; omega) rfl (by simp)), .inr ⟨rfl, rfl, rfl, Rens.enc encV4 false (r1.set ((lat ((lat jobs v10).wk) ((lat r0 v10).length : Int)).st).toNat (vset (lat r1 ((lat ((lat jobs v10).wk) ((lat r0 v10).length : Int)).st)) v13.toNat ((max (lat r2_1 v10) (vat (lat r1 ((lat ((lat jobs v10).wk) ((lat r0 v10).length : Int)).st)) v13.toNat)) + ((lat ((lat jobs v10).wk) ((lat r0 v10).length : Int)).tm))))⟩, .inr ⟨rfl, rfl, rfl, Rens.enc zZw false (r2_1.set v10.toNat ((max (lat r2_1 v10) (vat (lat r1 ((lat ((lat jobs v10).wk) ((lat r0 v10).length : Int)).st)) v13.toNat)) + ((lat ((lat jobs v10).wk) ((lat r0 v10).length : Int)).tm)))⟩, .inl rfl, .inl rfl, trivial⟩
 exact zYv (zZ (⟨(), (r0.set v10.toNat ((lat r0 v10) ++ [(Vis.mk (lat r2_1 v10) (max (lat r2_1 v10) (vat (lat r1 ((lat ((lat jobs v10).wk) ((lat r0 v10).length : Int)).st)) v13.toNat)) ((max (lat r2_1 v10) (vat (lat r1 ((lat ((lat jobs v10).wk) ((lat r0 v10).length : Int)).st)) v13.toNat)) + ((lat ((lat jobs v10).wk) ((lat r0 v10).length : Int)).tm)))])), (r1.set ((lat ((lat jobs v10).wk) ((lat r0 v10).length : Int)).st).toNat (vset (lat r1 ((lat ((lat jobs v10).wk) ((lat r0 v10).length : Int)).st)) v13.toNat ((max (lat r2_1 v10) (vat (lat r1 ((lat ((lat jobs v10).wk) ((lat r0 v10).length : Int)).st)) v13.toNat)) + ((lat ((lat jobs v10).wk) ((lat r0 v10).length : Int)).tm)))), (r2_1.set v10.toNat ((max (lat r2_1 v10) (vat (lat r1 ((lat ((lat jobs v10).wk) ((lat r0 v10).length : Int)).st)) v13.toNat)) + ((lat ((lat jobs v10).wk) ((lat r0 v10).length : Int)).tm))), hv, to_nst0 enc36 rfl [some (.inl 0), some (.inl 1), some (.inl 2)] (a := 5) (n := (r0.set v10.toNat ((lat r0 v10) ++ [(Vis.mk (lat r2_1 v10) (max (lat r2_1 v10) (vat (lat r1 ((lat ((lat jobs v10).wk) ((lat r0 v10).length : Int)).st)) v13.toNat)) ((max (lat r2_1 v10) (vat (lat r1 ((lat ((lat jobs v10).wk) ((lat r0 v10).length : Int)).st)) v13.toNat)) + ((lat ((lat jobs v10).wk) ((lat r0 v10).length : Int)).tm)))])).length) rfl rfl rfl ⟨Ren.lst _ _ _, Ren.lst _ _ _, Ren.refL (gS_inl rfl) id (by simp), Ren.refL (gS_inl rfl) id (by simp), Ren.refL (gS_inl rfl) id (by simp), trivial⟩ ⟨.inr ⟨_, rfl, (ren_nstR rfl rfl)⟩, zE encV4 false (r1.set ((lat ((lat jobs v10).wk) ((lat r0 v10).length : Int)).st).toNat (vset (lat r1 ((lat ((lat jobs v10).wk) ((lat r0 v10).length : Int)).st)) v13.toNat ((max (lat r2_1 v10) (vat (lat r1 ((lat ((lat jobs v10).wk) ((lat r0 v10).length : Int)).st)) v13.toNat)) + ((lat ((lat jobs v10).wk) ((lat r0 v10).length : Int)).tm)))) rfl, zE zZw false (r2_1.set v10.toNat ((max (lat r2_1 v10) (vat (lat r1 ((lat ((lat jobs v10).wk) ((lat r0 v10).length : Int)).st)) v13.toNat)) + ((lat ((lat jobs v10).wk) ((lat r0 v10).length : Int)).tm))) rfl, trivial⟩⟩))
set_option maxHeartbeats 4000000 in
theorem vcp_rrun (sv : (List Int)) (jobs : (List Job)) (h0 : sv.length <= 9223372036854775807) (h1 : ∀ j ∈ jobs, j.wk.length <= 9223372036854775807) (h2 : jobs.length <= 9223372036854775807) : vc_rrun sv jobs (fun q0 q1 => q0 = (runR sv jobs).1 /\ q1 = (runR sv jobs).2) := by
  unfold vc_rrun
  refine ⟨h0, h1, h2, fun k => by unfold runR; rw [if_neg k]; exact ⟨rfl, rfl⟩, fun k => ?_⟩
  have hV : validJ sv jobs = true := Decidable.not_not.1 k
  obtain ⟨hv1, hv2, hv3⟩ := job_ok hV
  refine ⟨⟨by omega, by omega⟩, ⟨by omega, by omega⟩, ⟨by omega, by omega⟩, fun v r2 => ∃ i : Nat, v = i /\ i <= jobs.length /\ r2.length = jobs.length /\ ∀ a : Nat, a < i -> lat r2 a = (lat jobs a).ar, fun v _ => jobs.length - v.toNat, ⟨0, rfl, by omega, by simp, fun a ha => by omega⟩, ?_⟩
  rintro _ r2 ⟨i, rfl, hi, hl, hr⟩
  refine ⟨fun k1 => ⟨⟨by omega, k1⟩, ⟨by omega, by omega⟩, by unfold inI; omega, ⟨i + 1, by omega, by omega, by rw [List.length_set, hl], fun a ha => ?_⟩, dec_lt k1⟩, fun k1 => ?_⟩
  . rw [lat_set (i := (i : Int)) (j := a) ⟨by omega, by omega⟩]
    by_cases e : (a : Int) = i
    . rw [if_pos e]
      have : a = i := by omega
      subst this; rfl
    . rw [if_neg e]; exact hr a (by omega)
  have e2 : r2 = jobs.map (·.ar) := by
    apply List.ext_getElem (by simpa using hl)
    intro a h1 h2
    have := hr a (by omega)
    rw [lat_get h1, lat_get (by omega)] at this
    simpa using this
  have e3 : stR jobs (List.replicate jobs.length []) (List.replicate sv.length (Vector.replicate 4 0)) r2 = initM sv jobs := stR_init e2
  simp only [Int.toNat_natCast]
  refine ⟨fun r0 r1 r2 => ∃ D c, RInv sv jobs c (stR jobs r0 r1 r2) /\ r0 = rowsM jobs.length D /\ r2.length = jobs.length /\ D ++ runN sv jobs (leftM (stR jobs r0 r1 r2)) (stR jobs r0 r1 r2) = runM sv jobs, fun r0 r1 r2 => leftM (stR jobs r0 r1 r2), ⟨[], 0, by rw [e3]; exact RInv.init hV, (rowsM_nil _).symm, hl, by rw [e3]; rfl⟩, ?_⟩
  clear e3 e2 hr hl k1 hi i r2
  rintro r0 r1 r2 ⟨D, c, hI, hD, hl2, he⟩
  have hl0 : r0.length = jobs.length := by rw [hD, rowsM_len]
  have hl1 : r1.length = sv.length := hI.fl
  refine ⟨fun o v => ∃ i : Nat, v = i /\ i <= jobs.length /\ o = scanR jobs r0 r1 r2 i, fun _ v => jobs.length - v.toNat, ⟨0, rfl, by omega, rfl⟩, ?_⟩
  rintro _ _ ⟨i, rfl, hi, rfl⟩
  refine ⟨fun k1 => ⟨fun o => o = scanR jobs r0 r1 r2 (i + 1), fun o ho => ⟨by unfold inI; omega, ⟨i + 1, by omega, by omega, ho⟩, dec_lt k1⟩, ⟨⟨by omega, by omega⟩, ⟨by omega, k1⟩, fun k2 => ⟨fun _ => trivial, fun k3 => ⟨⟨by omega, by omega⟩, ?_, trivial⟩⟩, fun _ => trivial⟩, fun k2 => ?_, fun k2 => ?_⟩, fun k1 => ⟨fun k2 => ?_, fun k2 => ?_⟩⟩
  . rcases scanR_b jobs r0 r1 r2 i with hb | ⟨q, hb, hq⟩ <;> omega
  . rw [scanR_succ (by omega), if_pos k2]
  . rw [scanR_succ (by omega), if_neg k2]
  . rw [show i = jobs.length by omega, scanR_all] at k2
    rw [runN_neg k2, List.append_nil] at he
    subst he
    unfold runR
    rw [if_pos hV]
    exact ⟨hD, rfl⟩
  rw [show i = jobs.length by omega, scanR_all] at k2 ⊢
  clear k1 hi i
  obtain ⟨i, hi, hil, hid, -⟩ := (leastS_spec (stR jobs r0 r1 r2).ss).resolve_left (fun h => k2 (by omega))
  have so := hI.step (i := i) hil hid
  have hlt := so.lt
  have hS := stR_lat r0 r1 r2 hlt
  have hw : lat (lat jobs (i : Int)).wk ((lat r0 (i : Int)).length : Int) = workM jobs (stR jobs r0 r1 r2) i := by unfold workM; rw [hS]
  have hdn : ((lat r0 (i : Int)).length : Int) < (lat jobs (i : Int)).wk.length := by have := so.dn; rw [hS] at this; exact this
  have h6 := (hv3 _ (lat_mem (xs := jobs) (i := (i : Int)) ⟨by omega, by omega⟩)).1.2.2
  have hst := so.st
  have htm := so.tm
  have hnb := so.nb
  have hvis := so.vis
  have hleft := hI.left
  have hinit := left_init hV
  have hless := so.less
  have hnx := so.next
  rw [hi, hw]
  have hv : ∀ k : Int, k = slotM sv (stR jobs r0 r1 r2) (workM jobs (stR jobs r0 r1 r2) i).st -> Vis.mk (lat r2 (i : Int)) (max (lat r2 (i : Int)) (vat (lat r1 (workM jobs (stR jobs r0 r1 r2) i).st) k.toNat)) (max (lat r2 (i : Int)) (vat (lat r1 (workM jobs (stR jobs r0 r1 r2) i).st) k.toNat) + (workM jobs (stR jobs r0 r1 r2) i).tm) = visM sv jobs (stR jobs r0 r1 r2) i := fun k hk => by
    unfold visM; simp only; rw [hS, hk]; rfl
  have hslot : slotM sv (stR jobs r0 r1 r2) (workM jobs (stR jobs r0 r1 r2) i).st = scanV (lat r1 (workM jobs (stR jobs r0 r1 r2) i).st) (lat sv (workM jobs (stR jobs r0 r1 r2) i).st) (lat sv (workM jobs (stR jobs r0 r1 r2) i).st).toNat := (scanV_all ⟨by omega, by omega⟩).symm
  have hnext := stR_next (sv := sv) (r1 := r1) hlt hl0 hl2
  generalize hW : workM jobs (stR jobs r0 r1 r2) i = w at *
  generalize hN : lat sv w.st = n at *
  generalize hM : lat r1 w.st = M at *
  refine ⟨⟨by omega, by omega⟩, ⟨by omega, by omega⟩, ⟨by omega, hdn⟩, fun o v => ∃ q : Nat, v = q /\ 1 <= q /\ (q : Int) <= n /\ o = scanV M n q, fun _ v => n.toNat - v.toNat, ⟨1, rfl, by omega, by omega, (scanV_one M n).symm⟩, ?_⟩
  rintro _ _ ⟨q, rfl, hq1, hqn, rfl⟩
  obtain ⟨s, hs, hsq⟩ := scanV_b M n hq1
  refine ⟨by omega, fun k3 => ⟨fun o => o = scanV M n (q + 1), fun o ho => ⟨by unfold inI; omega, ⟨q + 1, by omega, by omega, by omega, ho⟩, by show n.toNat - ((q : Int) + 1).toNat < n.toNat - (q : Int).toNat; omega⟩, ⟨by omega, by omega⟩, ⟨by omega, by omega⟩, ⟨by omega, by omega⟩, ⟨by omega, by omega⟩, fun k4 => ?_, fun k4 => ?_⟩, fun k3 => ?_⟩
  . rw [scanV_succ hq1 k3 (by omega), if_pos (by simpa using k4)]
  . rw [scanV_succ hq1 k3 (by omega), if_neg (by simpa using k4)]
  have hqe : q = n.toNat := by omega
  have hv1 := hv (scanV M n q) (by rw [hslot, hqe])
  rw [<- hqe] at hslot
  rw [<- hslot] at hv1 ⊢
  have e1 : max (lat r2 (i : Int)) (vat M (slotM sv (stR jobs r0 r1 r2) w.st).toNat) + w.tm = (visM sv jobs (stR jobs r0 r1 r2) i).en := by rw [<- hv1]
  rw [hv1, e1]
  generalize hVV : visM sv jobs (stR jobs r0 r1 r2) i = V at *
  have hin : inI V.en := by unfold inI; omega
  refine ⟨⟨by omega, by omega⟩, ⟨by omega, by omega⟩, ⟨by omega, by omega⟩, hin, ⟨by omega, by omega⟩, ⟨by omega, by omega⟩, ⟨by omega, by omega⟩, ⟨by omega, by omega⟩, by simp; omega, ?_, ?_⟩
  . simp only [Int.toNat_natCast]
    rw [<- hnext]
    refine ⟨D ++ [⟨(i : Int), V⟩], c + 1, hnx, ?_, by rw [List.length_set]; exact hl2, ?_⟩
    . rw [rowsM_snoc D hlt rfl, <- hD]
    . rw [hless, runN_pos k2, hi, hVV] at he
      rw [List.append_assoc]
      exact he
  . simp only [Int.toNat_natCast]
    rw [<- hnext]; omega
theorem spec_rrun (sv : (List Int)) (jobs : (List Job)) (h0 : sv.length <= 9223372036854775807) (h1 : ∀ j ∈ jobs, j.wk.length <= 9223372036854775807) (h2 : jobs.length <= 9223372036854775807) : FnP Try.prog 20 [.lst true sv.length (zYy zYx sv), .lst true jobs.length (zYy (e42 true) jobs)] (fun xR => xR = .tup [.lst false ((runR sv jobs).1).length (zYy (eSl e36 true) ((runR sv jobs).1)), .int .i64 ((runR sv jobs).2)]) :=
  (walk_rrun (vcp_rrun sv jobs h0 h1 h2)).mono (by rintro _ ⟨_, _, rfl, rfl, rfl⟩; rfl)
def vc_rfin (sv : (List Int)) (jobs : (List Job)) (j : Int) (Post : Int -> Int -> Prop) : Prop :=
  (sv.length <= 9223372036854775807) /\ (∀ j ∈ jobs, j.wk.length <= 9223372036854775807) /\ (jobs.length <= 9223372036854775807) /\ (((¬ (runR sv jobs).2 = (0 : Int)) \/ ((j < (0 : Int)) \/ ((jobs.length : Int) <= j))) -> Post (0 : Int) (230 : Int)) /\ (¬ ((¬ (runR sv jobs).2 = (0 : Int)) \/ ((j < (0 : Int)) \/ ((jobs.length : Int) <= j))) -> (0 <= j /\ j < (((runR sv jobs).1).length : Int)) /\ ((((lat ((runR sv jobs).1) j).length : Int) = (0 : Int)) -> (0 <= j /\ j < (jobs.length : Int)) /\ Post ((lat jobs j).ar) (0 : Int)) /\ (¬ (((lat ((runR sv jobs).1) j).length : Int) = (0 : Int)) -> (0 <= j /\ j < (((runR sv jobs).1).length : Int)) /\ (0 <= j /\ j < (((runR sv jobs).1).length : Int)) /\ (inI (((lat ((runR sv jobs).1) j).length : Int) - (1 : Int))) /\ (0 <= (((lat ((runR sv jobs).1) j).length : Int) - (1 : Int)) /\ (((lat ((runR sv jobs).1) j).length : Int) - (1 : Int)) < ((lat ((runR sv jobs).1) j).length : Int)) /\ Post ((lat (lat ((runR sv jobs).1) j) (((lat ((runR sv jobs).1) j).length : Int) - (1 : Int))).en) (0 : Int)))
theorem walk_rfin {sv : (List Int)} {jobs : (List Job)} {j : Int} {Post : Int -> Int -> Prop} (hv : vc_rfin sv jobs j Post) : FnP Try.prog 21 [.lst true sv.length (zYy zYx sv), .lst true jobs.length (zYy (e42 true) jobs), .int .i64 j] (fun x => ∃ q0 q1, x = .tup [.int .i64 q0, .int .i64 q1] /\ Post q0 q1) := by
 refine FnP.of_walk (T := tt) (nt := 52) ttOk ttMix ⟨⟨Try.f21, Try.func21, rfl, rfl, rfl, rfl⟩⟩ (by simp) ?_
 unfold vc_rfin at hv
 change W _ _ _ ⟨52, look [(0, .lst true sv.length (zYy zYx sv)), (1, .lst true jobs.length (zYy (e42 true) jobs)), (2, .int .i64 j)], [], 0⟩ _
 refine W.ty [(0, .lst _ _ _), (1, .lst _ _ _), (2, .int _ _)] rfl (W.rL ?_)
 iterate 2 refine aI rfl rfl ?_
 refine eL (W.ty [(0, .lst _ _ _), (1, .lst _ _ _), (2, .int _ _)] rfl (W.rL ?_))
 iterate 2 refine mL rfl rfl ?_
 obtain ⟨s1, s2, s3, hv⟩ := hv
 refine cL rfl (zZu (k := 20) (fst := []) (caps := []) (ys := [.lst _ _ _, .lst _ _ _]) rfl rfl (spec_rrun sv jobs s1 s2 s3) zk (cL rfl (zZp (v := .tup _) rfl (cL rfl (o_ext (v := .lst _ _ _) rfl rfl (cL rfl (o_ext (v := .int _ _) rfl rfl (aL rfl rfl (aI rfl rfl (eL (W.ty [(1, .lst _ _ _), (2, .int _ _), (8, .lst _ _ _), (9, .int _ _)] rfl (W.seq' (W.rLm ⟨52, look [(1, .lst true jobs.length (zYy (e42 true) jobs)), (2, .int .i64 j), (8, .lst false ((runR sv jobs).1).length (zYy (eSl e36 true) ((runR sv jobs).1))), (27, .bool (decide ((¬ (runR sv jobs).2 = (0 : Int)) \/ ((j < (0 : Int)) \/ ((jobs.length : Int) <= j)))))], [], 0⟩ ?_ ?_)))))))))))))
 refine mI rfl rfl (cL rfl (o_neI rfl rfl rfl (mB rfl rfl ?_)))
 by_cases c1 : ¬ (runR sv jobs).2 = (0 : Int)
 iterate 2 refine cLs rfl rfl rfl (dT c1) ?_
 refine cL rfl (zZv (v := .bool _) rfl (dT c1) rfl (mB rfl rfl ?_))
 iterate 4 refine cLs rfl rfl rfl (rfl) ?_
 refine cL rfl (zZv (v := .bool _) rfl rfl rfl (eL (zYz ⟨rfl, rfl, rfl, (congrArg AV.bool (dOrT c1)).symm, trivial⟩ rfl)))
 refine cLg rfl rfl (dF c1) (mI rfl rfl (cLg rfl rfl (dF c1) (cL rfl (zYq rfl rfl (cL rfl (zZy (v := .bool _) rfl (dF c1) rfl (mB rfl rfl ?_)))))))
 by_cases c2 : j < (0 : Int)
 iterate 4 refine cLs rfl rfl rfl (dT c2) ?_
 refine cL rfl (zZv (v := .bool _) rfl (dT c2) rfl (eL (zYz ⟨rfl, rfl, rfl, (congrArg AV.bool (dOrF c1 (dOrT c2))).symm, trivial⟩ rfl)))
 refine cLg rfl rfl (dF c2) (mI rfl rfl (cLg rfl rfl (dF c2) (mL rfl rfl (cLg rfl rfl (dF c2) (cL rfl (zXw (v := .lst _ _ _) tt26 rfl rfl (cLg rfl rfl (dF c2) (cL rfl (o_geq rfl rfl (cL rfl (zZy (v := .bool _) rfl (dF c2) rfl (eL (zYz ⟨rfl, rfl, rfl, (congrArg AV.bool (dOrF c1 (dOrF c2 (rfl)))).symm, trivial⟩ rfl)))))))))))))
 refine W.cn rfl (fun hc => ?_) (fun hc => ?_)
 have hv := hv.1 hc
 refine W.rL ?_
 iterate 2 refine aI rfl rfl ?_
 refine eL (W.ty [(6, .int _ _), (7, .int _ _)] rfl (W.ret (zZr (rt ?_))))
 iterate 2 refine rt_t (v := .int _ _) rfl ?_
 refine rt_n (⟨_, rs_tup 5 _ (Wks.cons (zY _ _ _ _) (Wks.cons (zY _ _ _ _) zk)), (0 : Int), (230 : Int), rfl, hv⟩)
 have hv := hv.2 hc
 refine W.skip (zZ (W.ty [(1, .lst _ _ _), (2, .int _ _), (8, .lst _ _ _)] rfl (W.seq' (W.rL (mL rfl rfl (mI rfl rfl ?_))))))
 obtain ⟨s6, hv⟩ := hv
 refine cL rfl (zYu tt28 tt43 rfl rfl ((encSl e36).wd true) rfl s6 ?_)
 intro rest6
 refine cL rfl (zZx (v := .lst _ _ _) tt43 rfl rfl ⟨_, rfl⟩ (cL rfl (zXw (v := .lst _ _ _) tt43 rfl rfl (cL rfl (o_eqI rfl rfl rfl (eL (W.ty [(1, .lst _ _ _), (2, .int _ _), (8, .lst _ _ _), (33, .bool _)] rfl (W.cn rfl (fun hc => ?_) (fun hc => ?_)))))))))
 have hv := hv.1 hc
 refine W.rL (mL rfl rfl (mI rfl rfl ?_))
 obtain ⟨s7, hv⟩ := hv
 refine cL rfl (zYu tt26 tt42 rfl rfl (enc42.wd true) rfl s7 ?_)
 intro rest7
 refine cL rfl (o_faP tt42 rfl tt3 rfl (cL rfl (zZx (v := .int _ _) tt3 rfl rfl ⟨_, rfl⟩ ?_)))
 iterate 2 refine aI rfl rfl ?_
 refine eL (W.ty [(6, .int _ _), (7, .int _ _)] rfl (W.ret (zZr (rt ?_))))
 iterate 2 refine rt_t (v := .int _ _) rfl ?_
 refine rt_n (⟨_, rs_tup 5 _ (Wks.cons (zY _ _ _ _) (Wks.cons (zY _ _ _ _) zk)), ((lat jobs j).ar), (0 : Int), rfl, hv⟩)
 have hv := hv.2 hc
 refine W.skip (zZ (W.ty [(2, .int _ _), (8, .lst _ _ _)] rfl (W.rD [0, 1, 2, 3, 4, 5, 6, 7, 8, 9, 10, 11, 12, 13, 14] (by decide +kernel) rfl (mL rfl rfl (mI rfl rfl ?_)))))
 obtain ⟨s8, hv⟩ := hv
 refine cL rfl (zYu tt28 tt43 rfl rfl ((encSl e36).wd true) rfl s8 ?_)
 intro rest8
 refine cL rfl (zZx (v := .lst _ _ _) tt43 rfl rfl ⟨_, rfl⟩ (mL rfl rfl (mI rfl rfl ?_)))
 obtain ⟨s9, hv⟩ := hv
 refine cL rfl (zYu tt28 tt43 rfl rfl ((encSl e36).wd true) rfl s9 ?_)
 intro rest9
 refine cL rfl (zZx (v := .lst _ _ _) tt43 rfl rfl ⟨_, rfl⟩ (cL rfl (zXw (v := .lst _ _ _) tt43 rfl rfl ?_)))
 obtain ⟨s10, hv⟩ := hv
 refine cL rfl (o_sub rfl rfl s10 ?_)
 obtain ⟨s11, hv⟩ := hv
 refine cL rfl (zYu tt43 tt36 rfl rfl (enc36.wd true) rfl s11 ?_)
 intro rest11
 refine cL rfl (o_faP tt36 rfl tt3 rfl (cL rfl (zZx (v := .int _ _) tt3 rfl rfl ⟨_, rfl⟩ ?_)))
 iterate 2 refine aI rfl rfl ?_
 refine eL (W.ty [(6, .int _ _), (7, .int _ _)] rfl (W.ret (rt ?_)))
 iterate 2 refine rt_t (v := .int _ _) rfl ?_
 refine rt_n (⟨_, rs_tup 5 _ (Wks.cons (zY _ _ _ _) (Wks.cons (zY _ _ _ _) zk)), ((lat (lat ((runR sv jobs).1) j) (((lat ((runR sv jobs).1) j).length : Int) - (1 : Int))).en), (0 : Int), rfl, hv⟩)
set_option maxHeartbeats 4000000 in
theorem vcp_rfin (sv : (List Int)) (jobs : (List Job)) (j : Int) (h0 : sv.length <= 9223372036854775807) (h1 : ∀ q ∈ jobs, q.wk.length <= 9223372036854775807) (h2 : jobs.length <= 9223372036854775807) : vc_rfin sv jobs j (fun q0 q1 => q0 = (finishM sv jobs j).1 /\ q1 = (finishM sv jobs j).2) := by
  unfold vc_rfin
  refine ⟨h0, h1, h2, fun k => ?_, fun k => ?_⟩
  . have : ¬ (validJ sv jobs = true /\ 0 <= j /\ j <= (jobs.length : Int) - 1) := fun h => by
      unfold runR at k
      rw [if_pos h.1] at k
      rcases k with k | k
      . exact k rfl
      . omega
    unfold finishM
    rw [if_neg this]
    exact ⟨rfl, rfl⟩
  have hv : validJ sv jobs = true := Decidable.not_not.1 fun h => k (.inl (by unfold runR; rw [if_neg h]; decide))
  obtain ⟨i, rfl⟩ : ∃ i : Nat, j = i := ⟨j.toNat, by omega⟩
  have hi : i < jobs.length := by omega
  have e0 : (runR sv jobs).1 = rowsM jobs.length (runM sv jobs) := by unfold runR; rw [if_pos hv]
  have hl := runM_len hv
  have hr : (lat (rowsM jobs.length (runM sv jobs)) (i : Int)).length <= 144 := by
    rw [rowsM_lat _ hi, List.length_map]
    exact Nat.le_trans (List.length_filter_le _ _) hl
  have he := endM_rows (n := jobs.length) (l := runM sv jobs) hi (lat jobs (i : Int)).ar
  have hF : finishM sv jobs (i : Int) = (endM (runM sv jobs) (i : Int) (lat jobs (i : Int)).ar, 0) := by unfold finishM; rw [if_pos ⟨hv, by omega, by omega⟩]
  rw [e0, hF, rowsM_len]
  refine ⟨⟨by omega, by omega⟩, fun k2 => ⟨⟨by omega, by omega⟩, ?_, rfl⟩, fun k2 => ⟨⟨by omega, by omega⟩, ⟨by omega, by omega⟩, by unfold inI; omega, ⟨by omega, by omega⟩, ?_, rfl⟩⟩
  . show _ = endM _ _ _
    rw [he, if_pos k2]
  . show _ = endM _ _ _
    rw [he, if_neg k2]
theorem spec_rfin (sv : (List Int)) (jobs : (List Job)) (j : Int) (h0 : sv.length <= 9223372036854775807) (h1 : ∀ q ∈ jobs, q.wk.length <= 9223372036854775807) (h2 : jobs.length <= 9223372036854775807) : FnP Try.prog 21 [.lst true sv.length (zYy zYx sv), .lst true jobs.length (zYy (e42 true) jobs), .int .i64 j] (fun xR => xR = .tup [.int .i64 ((finishM sv jobs j).1), .int .i64 ((finishM sv jobs j).2)]) :=
  (walk_rfin (vcp_rfin sv jobs j h0 h1 h2)).mono (by rintro _ ⟨_, _, rfl, rfl, rfl⟩; rfl)
def vc_rbusy (sv : (List Int)) (jobs : (List Job)) (s : Int) (fr : Int) (to : Int) (Post : Int -> Int -> Prop) : Prop :=
  (sv.length <= 9223372036854775807) /\ (∀ j ∈ jobs, j.wk.length <= 9223372036854775807) /\ (jobs.length <= 9223372036854775807) /\ (((¬ (runR sv jobs).2 = (0 : Int)) \/ ((s < (0 : Int)) \/ (((sv.length : Int) <= s) \/ ((fr < (0 : Int)) \/ ((to < fr) \/ ((1125899906842624 : Int) < to)))))) -> Post (0 : Int) (230 : Int)) /\ (¬ ((¬ (runR sv jobs).2 = (0 : Int)) \/ ((s < (0 : Int)) \/ (((sv.length : Int) <= s) \/ ((fr < (0 : Int)) \/ ((to < fr) \/ ((1125899906842624 : Int) < to)))))) -> ∃ (I1 : Int -> Int -> Prop) (μ1 : Int -> Int -> Nat), I1 (0 : Int) (0 : Int) /\ ∀ (v14 : Int) (v15 : Int), I1 v14 v15 -> ((v15 < (((runR sv jobs).1).length : Int)) -> ∃ (I2 : Int -> Int -> Prop) (μ2 : Int -> Int -> Nat), I2 v14 (0 : Int) /\ ∀ (v14_1 : Int) (v16 : Int), I2 v14_1 v16 -> (0 <= v15 /\ v15 < (((runR sv jobs).1).length : Int)) /\ ((v16 < ((lat ((runR sv jobs).1) v15).length : Int)) -> ∃ J3 : Int -> Prop, (∀ (v14_2 : Int), J3 v14_2 -> (inI (v16 + (1 : Int))) /\ (I2 v14_2 (v16 + (1 : Int)) /\ μ2 v14_2 (v16 + (1 : Int)) < μ2 v14_1 v16)) /\ ((0 <= v15 /\ v15 < (((runR sv jobs).1).length : Int)) /\ (0 <= v16 /\ v16 < ((lat ((runR sv jobs).1) v15).length : Int)) /\ (0 <= v15 /\ v15 < (((runR sv jobs).1).length : Int)) /\ (0 <= v16 /\ v16 < ((lat ((runR sv jobs).1) v15).length : Int)) /\ (inI ((min ((lat (lat ((runR sv jobs).1) v15) v16).en) to) - (max ((lat (lat ((runR sv jobs).1) v15) v16).st) fr))) /\ ((0 <= v15 /\ v15 < (jobs.length : Int)) /\ (0 <= v16 /\ v16 < (((lat jobs v15).wk).length : Int)) /\ True) /\ (((((lat ((lat jobs v15).wk) v16).st = s) /\ ((0 : Int) < ((min ((lat (lat ((runR sv jobs).1) v15) v16).en) to) - (max ((lat (lat ((runR sv jobs).1) v15) v16).st) fr)))) -> (inI (v14_1 + ((min ((lat (lat ((runR sv jobs).1) v15) v16).en) to) - (max ((lat (lat ((runR sv jobs).1) v15) v16).st) fr)))) /\ J3 (v14_1 + ((min ((lat (lat ((runR sv jobs).1) v15) v16).en) to) - (max ((lat (lat ((runR sv jobs).1) v15) v16).st) fr)))) /\ (¬ (((lat ((lat jobs v15).wk) v16).st = s) /\ ((0 : Int) < ((min ((lat (lat ((runR sv jobs).1) v15) v16).en) to) - (max ((lat (lat ((runR sv jobs).1) v15) v16).st) fr)))) -> J3 v14_1)))) /\ (¬ (v16 < ((lat ((runR sv jobs).1) v15).length : Int)) -> (inI (v15 + (1 : Int))) /\ (I1 v14_1 (v15 + (1 : Int)) /\ μ1 v14_1 (v15 + (1 : Int)) < μ1 v14 v15))) /\ (¬ (v15 < (((runR sv jobs).1).length : Int)) -> Post v14 (0 : Int)))
theorem walk_rbusy {sv : (List Int)} {jobs : (List Job)} {s : Int} {fr : Int} {to : Int} {Post : Int -> Int -> Prop} (hv : vc_rbusy sv jobs s fr to Post) : FnP Try.prog 22 [.lst true sv.length (zYy zYx sv), .lst true jobs.length (zYy (e42 true) jobs), .int .i64 s, .int .i64 fr, .int .i64 to] (fun x => ∃ q0 q1, x = .tup [.int .i64 q0, .int .i64 q1] /\ Post q0 q1) := by
 refine FnP.of_walk (T := tt) (nt := 104) ttOk ttMix ⟨⟨Try.f22, Try.func22, rfl, rfl, rfl, rfl⟩⟩ (by simp) ?_
 unfold vc_rbusy at hv
 change W _ _ _ ⟨104, look [(0, .lst true sv.length (zYy zYx sv)), (1, .lst true jobs.length (zYy (e42 true) jobs)), (2, .int .i64 s), (3, .int .i64 fr), (4, .int .i64 to)], [], 0⟩ _
 refine W.ty [(0, .lst _ _ _), (1, .lst _ _ _), (2, .int _ _), (3, .int _ _), (4, .int _ _)] rfl (W.rL ?_)
 iterate 2 refine aI rfl rfl ?_
 refine eL (W.ty [(0, .lst _ _ _), (1, .lst _ _ _), (2, .int _ _), (3, .int _ _), (4, .int _ _)] rfl (W.rL ?_))
 iterate 2 refine mL rfl rfl ?_
 obtain ⟨s1, s2, s3, hv⟩ := hv
 refine cL rfl (zZu (k := 20) (fst := []) (caps := []) (ys := [.lst _ _ _, .lst _ _ _]) rfl rfl (spec_rrun sv jobs s1 s2 s3) zk (cL rfl (zZp (v := .tup _) rfl (cL rfl (o_ext (v := .lst _ _ _) rfl rfl (cL rfl (o_ext (v := .int _ _) rfl rfl (aL rfl rfl (aI rfl rfl (eL (W.ty [(0, .lst _ _ _), (1, .lst _ _ _), (2, .int _ _), (3, .int _ _), (4, .int _ _), (12, .lst _ _ _), (13, .int _ _)] rfl (W.seq' (W.rLm ⟨104, look [(1, .lst true jobs.length (zYy (e42 true) jobs)), (2, .int .i64 s), (3, .int .i64 fr), (4, .int .i64 to), (12, .lst false ((runR sv jobs).1).length (zYy (eSl e36 true) ((runR sv jobs).1))), (48, .bool (decide ((¬ (runR sv jobs).2 = (0 : Int)) \/ ((s < (0 : Int)) \/ (((sv.length : Int) <= s) \/ ((fr < (0 : Int)) \/ ((to < fr) \/ ((1125899906842624 : Int) < to))))))))], [], 0⟩ ?_ ?_)))))))))))))
 refine mI rfl rfl (cL rfl (o_neI rfl rfl rfl (mB rfl rfl ?_)))
 by_cases c1 : ¬ (runR sv jobs).2 = (0 : Int)
 iterate 2 refine cLs rfl rfl rfl (dT c1) ?_
 refine cL rfl (zZv (v := .bool _) rfl (dT c1) rfl (mB rfl rfl ?_))
 iterate 4 refine cLs rfl rfl rfl (rfl) ?_
 refine cL rfl (zZv (v := .bool _) rfl rfl rfl (mB rfl rfl ?_))
 iterate 2 refine cLs rfl rfl rfl (rfl) ?_
 refine cL rfl (zZv (v := .bool _) rfl rfl rfl (mB rfl rfl ?_))
 iterate 3 refine cLs rfl rfl rfl (rfl) ?_
 refine cL rfl (zZv (v := .bool _) rfl rfl rfl (mB rfl rfl ?_))
 iterate 2 refine cLs rfl rfl rfl (rfl) ?_
 refine cL rfl (zZv (v := .bool _) rfl rfl rfl (eL (zYz ⟨rfl, rfl, rfl, rfl, rfl, (congrArg AV.bool (dOrT c1)).symm, trivial⟩ rfl)))
 refine cLg rfl rfl (dF c1) (mI rfl rfl (cLg rfl rfl (dF c1) (cL rfl (zYq rfl rfl (cL rfl (zZy (v := .bool _) rfl (dF c1) rfl (mB rfl rfl ?_)))))))
 by_cases c2 : s < (0 : Int)
 iterate 4 refine cLs rfl rfl rfl (dT c2) ?_
 refine cL rfl (zZv (v := .bool _) rfl (dT c2) rfl (mB rfl rfl ?_))
 iterate 2 refine cLs rfl rfl rfl (rfl) ?_
 refine cL rfl (zZv (v := .bool _) rfl rfl rfl (mB rfl rfl ?_))
 iterate 3 refine cLs rfl rfl rfl (rfl) ?_
 refine cL rfl (zZv (v := .bool _) rfl rfl rfl (mB rfl rfl ?_))
 iterate 2 refine cLs rfl rfl rfl (rfl) ?_
 refine cL rfl (zZv (v := .bool _) rfl rfl rfl (eL (zYz ⟨rfl, rfl, rfl, rfl, rfl, (congrArg AV.bool (dOrF c1 (dOrT c2))).symm, trivial⟩ rfl)))
 refine cLg rfl rfl (dF c2) (mI rfl rfl (cLg rfl rfl (dF c2) (mL rfl rfl (cLg rfl rfl (dF c2) (cL rfl (zXw (v := .lst _ _ _) tt24 rfl rfl (cLg rfl rfl (dF c2) (cL rfl (o_geq rfl rfl (cL rfl (zZy (v := .bool _) rfl (dF c2) rfl (mB rfl rfl ?_))))))))))))
 by_cases c3 : (sv.length : Int) <= s
 iterate 2 refine cLs rfl rfl rfl (dT c3) ?_
 refine cL rfl (zZv (v := .bool _) rfl (dT c3) rfl (mB rfl rfl ?_))
 iterate 3 refine cLs rfl rfl rfl (rfl) ?_
 refine cL rfl (zZv (v := .bool _) rfl rfl rfl (mB rfl rfl ?_))
 iterate 2 refine cLs rfl rfl rfl (rfl) ?_
 refine cL rfl (zZv (v := .bool _) rfl rfl rfl (eL (zYz ⟨rfl, rfl, rfl, rfl, rfl, (congrArg AV.bool (dOrF c1 (dOrF c2 (dOrT c3)))).symm, trivial⟩ rfl)))
 refine cLg rfl rfl (dF c3) (mI rfl rfl (cLg rfl rfl (dF c3) (cL rfl (zYq rfl rfl (cL rfl (zZy (v := .bool _) rfl (dF c3) rfl (mB rfl rfl ?_)))))))
 by_cases c4 : fr < (0 : Int)
 iterate 3 refine cLs rfl rfl rfl (dT c4) ?_
 refine cL rfl (zZv (v := .bool _) rfl (dT c4) rfl (mB rfl rfl ?_))
 iterate 2 refine cLs rfl rfl rfl (rfl) ?_
 refine cL rfl (zZv (v := .bool _) rfl rfl rfl (eL (zYz ⟨rfl, rfl, rfl, rfl, rfl, (congrArg AV.bool (dOrF c1 (dOrF c2 (dOrF c3 (dOrT c4))))).symm, trivial⟩ rfl)))
 refine cLg rfl rfl (dF c4) (mI rfl rfl (cLg rfl rfl (dF c4) (mI rfl rfl (cLg rfl rfl (dF c4) (cL rfl (o_gtr rfl rfl (cL rfl (zZy (v := .bool _) rfl (dF c4) rfl (mB rfl rfl ?_)))))))))
 by_cases c5 : to < fr
 iterate 2 refine cLs rfl rfl rfl (dT c5) ?_
 refine cL rfl (zZv (v := .bool _) rfl (dT c5) rfl (eL (zYz ⟨rfl, rfl, rfl, rfl, rfl, (congrArg AV.bool (dOrF c1 (dOrF c2 (dOrF c3 (dOrF c4 (dOrT c5)))))).symm, trivial⟩ rfl)))
 refine cLg rfl rfl (dF c5) (mI rfl rfl (cLg rfl rfl (dF c5) (cL rfl (o_gtr rfl rfl (cL rfl (zZy (v := .bool _) rfl (dF c5) rfl (eL (zYz ⟨rfl, rfl, rfl, rfl, rfl, (congrArg AV.bool (dOrF c1 (dOrF c2 (dOrF c3 (dOrF c4 (dOrF c5 (rfl))))))).symm, trivial⟩ rfl))))))))
 refine W.cn rfl (fun hc => ?_) (fun hc => ?_)
 have hv := hv.1 hc
 refine W.rL ?_
 iterate 2 refine aI rfl rfl ?_
 refine eL (W.ty [(10, .int _ _), (11, .int _ _)] rfl (W.ret (zZr (rt ?_))))
 iterate 2 refine rt_t (v := .int _ _) rfl ?_
 refine rt_n (⟨_, rs_tup 5 _ (Wks.cons (zY _ _ _ _) (Wks.cons (zY _ _ _ _) zk)), (0 : Int), (230 : Int), rfl, hv⟩)
 have hv := hv.2 hc
 refine W.skip (zZ (W.ty [(1, .lst _ _ _), (2, .int _ _), (3, .int _ _), (4, .int _ _), (12, .lst _ _ _)] rfl (W.rL (aI rfl rfl (eL (W.ty [(1, .lst _ _ _), (2, .int _ _), (3, .int _ _), (4, .int _ _), (12, .lst _ _ _), (14, .int _ _)] rfl (W.seq' (W.rL (aI rfl rfl (eL (W.ty [(1, .lst _ _ _), (2, .int _ _), (3, .int _ _), (4, .int _ _), (12, .lst _ _ _), (14, .int _ _), (15, .int _ _)] rfl (W.block ?_))))))))))))
 obtain ⟨I1, μ1, hp, hv⟩ := hv
 refine W.loop2 (fun v14 v15 => ⟨104, look [(1, .lst true jobs.length (zYy (e42 true) jobs)), (2, .int .i64 s), (3, .int .i64 fr), (4, .int .i64 to), (12, .lst false ((runR sv jobs).1).length (zYy (eSl e36 true) ((runR sv jobs).1))), (14, .int .i64 v14), (15, .int .i64 v15)], [], 0⟩) I1 μ1 (0 : Int) (0 : Int) (St.to_mk (φ := []) rfl (rfl) (zT rfl rfl) trivial) hp ?_
 clear hp
 intro v14 v15 hI
 replace hv := hv v14 v15 hI
 clear hI
 refine W.seq' (W.rL (mI rfl rfl (mL rfl rfl (cL rfl (zXw (v := .lst _ _ _) tt28 rfl rfl (cL rfl (zYq rfl rfl (eL (W.ty [(1, .lst _ _ _), (2, .int _ _), (3, .int _ _), (4, .int _ _), (12, .lst _ _ _), (14, .int _ _), (15, .int _ _), (52, .bool _)] rfl (W.cn rfl (fun hc => ?_) (fun hc => ?_)))))))))))
 have hv := hv.1 hc
 refine W.skip (zZ (W.ty [(1, .lst _ _ _), (2, .int _ _), (3, .int _ _), (4, .int _ _), (12, .lst _ _ _), (14, .int _ _), (15, .int _ _)] rfl (W.seq' (W.block (W.rL (aI rfl rfl (eL (W.ty [(1, .lst _ _ _), (2, .int _ _), (3, .int _ _), (4, .int _ _), (12, .lst _ _ _), (14, .int _ _), (15, .int _ _), (16, .int _ _)] rfl (W.block ?_)))))))))
 obtain ⟨I2, μ2, hp, hv⟩ := hv
 refine W.loop2 (fun v14_1 v16 => ⟨104, look [(1, .lst true jobs.length (zYy (e42 true) jobs)), (2, .int .i64 s), (3, .int .i64 fr), (4, .int .i64 to), (12, .lst false ((runR sv jobs).1).length (zYy (eSl e36 true) ((runR sv jobs).1))), (14, .int .i64 v14_1), (15, .int .i64 v15), (16, .int .i64 v16)], [], 0⟩) I2 μ2 v14 (0 : Int) (St.to_mk (φ := []) rfl (rfl) (zT rfl rfl) trivial) hp ?_
 clear hp
 intro v14_1 v16 hI
 replace hv := hv v14_1 v16 hI
 clear hI
 refine W.seq' (W.rL (mI rfl rfl (mL rfl rfl (mI rfl rfl ?_))))
 obtain ⟨s353, hv⟩ := hv
 refine cL rfl (zYu tt28 tt43 rfl rfl ((encSl e36).wd true) rfl s353 ?_)
 intro rest353
 refine cL rfl (zZx (v := .lst _ _ _) tt43 rfl rfl ⟨_, rfl⟩ (cL rfl (zXw (v := .lst _ _ _) tt43 rfl rfl (cL rfl (zYq rfl rfl (eL (W.ty [(1, .lst _ _ _), (2, .int _ _), (3, .int _ _), (4, .int _ _), (12, .lst _ _ _), (14, .int _ _), (15, .int _ _), (16, .int _ _), (61, .bool _)] rfl (W.cn rfl (fun hc => ?_) (fun hc => ?_)))))))))
 have hv := hv.1 hc
 refine W.skip (zZ (W.ty [(1, .lst _ _ _), (2, .int _ _), (3, .int _ _), (4, .int _ _), (12, .lst _ _ _), (14, .int _ _), (15, .int _ _), (16, .int _ _)] rfl ?_))
 obtain ⟨J3, hj, hv⟩ := hv
 refine W.mid1 (fun v14_2 => ⟨104, look [(1, .lst true jobs.length (zYy (e42 true) jobs)), (2, .int .i64 s), (3, .int .i64 fr), (4, .int .i64 to), (12, .lst false ((runR sv jobs).1).length (zYy (eSl e36 true) ((runR sv jobs).1))), (14, .int .i64 v14_2), (15, .int .i64 v15), (16, .int .i64 v16)], [], 0⟩) J3 ?_ ?_
 intro v14_2
 intro hv
 replace hv := hj v14_2 hv
 refine W.rL1 (mI rfl rfl ?_)
 obtain ⟨s364, hv⟩ := hv
 refine cL rfl (o_add rfl rfl s364 (aI rfl rfl (eL (zZ (⟨(), v14_2, (v16 + (1 : Int)), hv, St.to_mk (φ := []) rfl (rfl) (zT rfl rfl) trivial⟩)))))
 clear hj
 refine W.block (W.rD [0, 1, 2, 3, 4, 5, 6, 7, 8, 9, 10, 11, 12, 13, 14, 15, 16, 17, 18, 19, 20, 21] (by decide +kernel) rfl (mL rfl rfl (mI rfl rfl ?_)))
 obtain ⟨s365, hv⟩ := hv
 refine cL rfl (zYu tt28 tt43 rfl rfl ((encSl e36).wd true) rfl s365 ?_)
 intro rest365
 refine cL rfl (zZx (v := .lst _ _ _) tt43 rfl rfl ⟨_, rfl⟩ (mI rfl rfl ?_))
 obtain ⟨s366, hv⟩ := hv
 refine cL rfl (zYu tt43 tt36 rfl rfl (enc36.wd true) rfl s366 ?_)
 intro rest366
 refine cL rfl (o_faP tt36 rfl tt3 rfl (cL rfl (zZx (v := .int _ _) tt3 rfl rfl ⟨_, rfl⟩ (mI rfl rfl (cL rfl (o_min rfl rfl (mL rfl rfl (mI rfl rfl ?_))))))))
 obtain ⟨s367, hv⟩ := hv
 refine cL rfl (zYu tt28 tt43 rfl rfl ((encSl e36).wd true) rfl s367 ?_)
 intro rest367
 refine cL rfl (zZx (v := .lst _ _ _) tt43 rfl rfl ⟨_, rfl⟩ (mI rfl rfl ?_))
 obtain ⟨s368, hv⟩ := hv
 refine cL rfl (zYu tt43 tt36 rfl rfl (enc36.wd true) rfl s368 ?_)
 intro rest368
 refine cL rfl (o_faP tt36 rfl tt3 rfl (cL rfl (zZx (v := .int _ _) tt3 rfl rfl ⟨_, rfl⟩ (mI rfl rfl (cL rfl (o_max rfl rfl ?_))))))
 obtain ⟨s369, hv⟩ := hv
 refine cL rfl (o_sub rfl rfl s369 (aI rfl rfl (eL (W.ty [(1, .lst _ _ _), (2, .int _ _), (3, .int _ _), (4, .int _ _), (12, .lst _ _ _), (14, .int _ _), (15, .int _ _), (16, .int _ _), (17, .int _ _)] rfl ?_))))
 obtain ⟨sd, hv⟩ := hv
 refine W.rLm ⟨104, look [(1, .lst true jobs.length (zYy (e42 true) jobs)), (2, .int .i64 s), (3, .int .i64 fr), (4, .int .i64 to), (12, .lst false ((runR sv jobs).1).length (zYy (eSl e36 true) ((runR sv jobs).1))), (14, .int .i64 v14_1), (15, .int .i64 v15), (16, .int .i64 v16), (17, .int .i64 ((min ((lat (lat ((runR sv jobs).1) v15) v16).en) to) - (max ((lat (lat ((runR sv jobs).1) v15) v16).st) fr))), (99, .bool (decide (((lat ((lat jobs v15).wk) v16).st = s) /\ ((0 : Int) < ((min ((lat (lat ((runR sv jobs).1) v15) v16).en) to) - (max ((lat (lat ((runR sv jobs).1) v15) v16).st) fr))))))], [], 0⟩ ?_ ?_
 refine mL rfl rfl (mI rfl rfl ?_)
 obtain ⟨s372, sd⟩ := sd
 refine cL rfl (zYu tt26 tt42 rfl rfl (enc42.wd true) rfl s372 ?_)
 intro rest372
 refine cL rfl (o_faP tt42 rfl tt40 rfl (cL rfl (zZx (v := .lst _ _ _) tt40 rfl rfl ⟨_, rfl⟩ (mI rfl rfl ?_))))
 obtain ⟨s373, sd⟩ := sd
 refine cL rfl (zYu tt40 tt45 rfl rfl (enc45.wd true) rfl s373 ?_)
 intro rest373
 refine cL rfl (o_faP tt45 rfl tt3 rfl (cL rfl (zZx (v := .int _ _) tt3 rfl rfl ⟨_, rfl⟩ (mI rfl rfl (cL rfl (o_eqI rfl rfl rfl (mB rfl rfl ?_)))))))
 by_cases c1 : (lat ((lat jobs v15).wk) v16).st = s
 refine cLg rfl rfl (dT c1) (mI rfl rfl (cLg rfl rfl (dT c1) (cL rfl (o_gtr rfl rfl (cL rfl (zZv (v := .bool _) rfl (dT c1) rfl (eL (zYz ⟨rfl, rfl, rfl, rfl, rfl, rfl, rfl, rfl, rfl, (congrArg AV.bool (zXv c1 (rfl))).symm, trivial⟩ rfl))))))))
 iterate 2 refine cLs rfl rfl rfl (dF c1) ?_
 refine cL rfl (zZy (v := .bool _) rfl (dF c1) rfl (eL (zYz ⟨rfl, rfl, rfl, rfl, rfl, rfl, rfl, rfl, rfl, (congrArg AV.bool (dAndF c1)).symm, trivial⟩ rfl)))
 refine W.cn rfl (fun hc => ?_) (fun hc => ?_)
 have hv := hv.1 hc
 refine W.rL1 ?_
 iterate 2 refine mI rfl rfl ?_
 obtain ⟨s374, hv⟩ := hv
 refine cL rfl (o_add rfl rfl s374 (aI rfl rfl (eL (zYv (zZ (⟨(), (v14_1 + ((min ((lat (lat ((runR sv jobs).1) v15) v16).en) to) - (max ((lat (lat ((runR sv jobs).1) v15) v16).st) fr))), hv, St.to_mk (φ := []) rfl (rfl) (zT rfl rfl) trivial⟩))))))
 have hv := hv.2 hc
 refine W.skip (zYv (zZ (⟨(), v14_1, hv, St.to_mk (φ := []) rfl (rfl) (zT rfl rfl) trivial⟩)))
 have hv := hv.2 hc
 refine W.exit (zZt (zZt (zYs (zYv (zZ (W.ty [(1, .lst _ _ _), (2, .int _ _), (3, .int _ _), (4, .int _ _), (12, .lst _ _ _), (14, .int _ _), (15, .int _ _)] rfl (W.rL1 (mI rfl rfl ?_))))))))
 obtain ⟨s375, hv⟩ := hv
 refine cL rfl (o_add rfl rfl s375 (aI rfl rfl (eL (zZ (⟨(), v14_1, (v15 + (1 : Int)), hv, St.to_mk (φ := []) rfl (rfl) (zT rfl rfl) trivial⟩)))))
 have hv := hv.2 hc
 refine W.exit (zZt (zZt (zYs (zZ (W.ty [(14, .int _ _)] rfl (W.rL (mI rfl rfl ?_)))))))
 iterate 2 refine aI rfl rfl ?_
 refine eL (W.ty [(10, .int _ _), (11, .int _ _)] rfl (W.ret (rt ?_)))
 iterate 2 refine rt_t (v := .int _ _) rfl ?_
 refine rt_n (⟨_, rs_tup 5 _ (Wks.cons (zY _ _ _ _) (Wks.cons (zY _ _ _ _) zk)), v14, (0 : Int), rfl, hv⟩)
set_option maxHeartbeats 4000000 in
theorem vcp_rbusy (sv : (List Int)) (jobs : (List Job)) (s : Int) (fr : Int) (to : Int) (h0 : sv.length <= 9223372036854775807) (h1 : ∀ j ∈ jobs, j.wk.length <= 9223372036854775807) (h2 : jobs.length <= 9223372036854775807) : vc_rbusy sv jobs s fr to (fun q0 q1 => q0 = (busyM sv jobs s fr to).1 /\ q1 = (busyM sv jobs s fr to).2) := by
  unfold vc_rbusy
  refine ⟨h0, h1, h2, fun k => ?_, fun k => ?_⟩
  . unfold busyM
    rw [if_neg]
    . exact ⟨rfl, rfl⟩
    . rintro ⟨hv, h⟩
      unfold runR at k
      rw [if_pos hv] at k
      rcases k with k | k
      . exact k rfl
      . omega
  have kv : validJ sv jobs = true := Decidable.not_not.1 fun h => k (.inl (by unfold runR; rw [if_neg h]; decide))
  have hb : (0 <= s /\ s <= (sv.length : Int) - 1) /\ (0 <= fr /\ fr <= to) /\ to <= 1125899906842624 := by omega
  have hj := job_ok kv
  have e0 : (runR sv jobs).1 = rowsM jobs.length (runM sv jobs) := by unfold runR; rw [if_pos kv]
  have hF : busyM sv jobs s fr to = (busyL jobs (rowsM jobs.length (runM sv jobs)) s fr to, 0) := by unfold busyM; rw [if_pos ⟨kv, hb⟩, e0]
  rw [e0, hF, rowsM_len]
  generalize hR : rowsM jobs.length (runM sv jobs) = L
  refine ⟨fun v a => ∃ i : Nat, a = i /\ i <= jobs.length /\ v = ((List.range i).map fun i : Nat => busyJ (lat jobs (i : Int)) (lat L (i : Int)) s fr to).sum /\ 0 <= v /\ v <= i * 6597069766656, fun _ a => jobs.length - a.toNat, ⟨0, rfl, by omega, rfl, by omega, by omega⟩, ?_⟩
  rintro v _ ⟨i, rfl, hi, hv, hv0, hv1⟩
  refine ⟨fun k1 => ?_, fun k1 => ?_⟩
  . have hi' : i < jobs.length := by omega
    have h6 := (hj.2.2 _ (lat_mem (xs := jobs) (i := (i : Int)) ⟨by omega, k1⟩)).1.2.2
    have hrl := run_len kv hi'
    rw [hR] at hrl
    refine ⟨fun u a => ∃ q : Nat, a = q /\ q <= (lat L (i : Int)).length /\ u = v + ((List.range q).map fun k : Nat => if (lat (lat jobs (i : Int)).wk (k : Int)).st = s then partV (lat (lat L (i : Int)) (k : Int)) fr to else 0).sum /\ v <= u /\ u <= v + q * 1099511627776, fun _ a => (lat L (i : Int)).length - a.toNat, ⟨0, rfl, by omega, by simp, by omega, by omega⟩, ?_⟩
    rintro u _ ⟨q, rfl, hq, hu, hu0, hu1⟩
    refine ⟨⟨by omega, k1⟩, fun k3 => ?_, fun k3 => ?_⟩
    . obtain ⟨b1, b2, b3, b4, b5⟩ := run_vis kv hi' (k := q) (by omega)
      rw [hR] at b2 b3 b5
      have hpart : 0 <= partV (lat (lat L (i : Int)) (q : Int)) fr to /\ partV (lat (lat L (i : Int)) (q : Int)) fr to <= 1099511627776 := by unfold partV; omega
      have hdef : partV (lat (lat L (i : Int)) (q : Int)) fr to = max 0 (min (lat (lat L (i : Int)) (q : Int)).en to - max (lat (lat L (i : Int)) (q : Int)).st fr) := rfl
      have ix : 0 <= (i : Int) /\ (i : Int) < (jobs.length : Int) := ⟨by omega, k1⟩
      have iq : 0 <= (q : Int) /\ (q : Int) < ((lat L (i : Int)).length : Int) := ⟨by omega, k3⟩
      refine ⟨fun w => w = u + (if (lat (lat jobs (i : Int)).wk (q : Int)).st = s then partV (lat (lat L (i : Int)) (q : Int)) fr to else 0), fun w hw => ⟨by unfold inI; omega, ⟨q + 1, by omega, by omega, ?_, ?_, ?_⟩, dec_lt k3⟩, ix, iq, ix, iq, by unfold inI; omega, ⟨ix, ⟨by omega, by omega⟩, trivial⟩, fun k4 => ⟨by unfold inI; omega, ?_⟩, fun k4 => ?_⟩
      . rw [map_range_succ, List.sum_append, hw, hu]
        simp only [List.sum_cons, List.sum_nil, Int.add_zero]
        omega
      . rw [hw]; split <;> omega
      . rw [hw]; split <;> omega
      . rw [if_pos k4.1, hdef]; omega
      . by_cases e : (lat (lat jobs (i : Int)).wk (q : Int)).st = s
        . rw [if_pos e, hdef]; omega
        . rw [if_neg e]; omega
    . refine ⟨by unfold inI; omega, ⟨i + 1, by omega, by omega, ?_, by omega, by omega⟩, dec_lt k1⟩
      rw [map_range_succ, List.sum_append, hu, hv, show q = (lat L (i : Int)).length by omega]
      simp only [List.sum_cons, List.sum_nil, Int.add_zero]
      rfl
  . refine ⟨?_, rfl⟩
    show v = busyL jobs L s fr to
    unfold busyL
    rw [hv, show i = jobs.length by omega]
theorem spec_rbusy (sv : (List Int)) (jobs : (List Job)) (s : Int) (fr : Int) (to : Int) (h0 : sv.length <= 9223372036854775807) (h1 : ∀ j ∈ jobs, j.wk.length <= 9223372036854775807) (h2 : jobs.length <= 9223372036854775807) : FnP Try.prog 22 [.lst true sv.length (zYy zYx sv), .lst true jobs.length (zYy (e42 true) jobs), .int .i64 s, .int .i64 fr, .int .i64 to] (fun xR => xR = .tup [.int .i64 ((busyM sv jobs s fr to).1), .int .i64 ((busyM sv jobs s fr to).2)]) :=
  (walk_rbusy (vcp_rbusy sv jobs s fr to h0 h1 h2)).mono (by rintro _ ⟨_, _, rfl, rfl, rfl⟩; rfl)
def vc_pick16 (c : Int) (n : Int) (Post : Int -> Prop) : Prop :=
  ∃ J1 : Int -> Prop, (∀ (v0 : Int), J1 v0 -> (n ≠ 0) /\ Post (v0.tmod n)) /\ (((c < (0 : Int)) -> (inI (c + (1 : Int))) /\ (inI (-(c + (1 : Int)))) /\ J1 (-(c + (1 : Int)))) /\ (¬ (c < (0 : Int)) -> J1 c))
theorem walk_pick16 {c : Int} {n : Int} {Post : Int -> Prop} (hv : vc_pick16 c n Post) : FnP Try.prog 16 [.int .i64 c, .int .i64 n] (fun x => ∃ q0, x = .int .i64 q0 /\ Post q0) := by
 refine FnP.of_walk (T := tt) (nt := 13) ttOk ttMix ⟨⟨Try.f16, Try.func16, rfl, rfl, rfl, rfl⟩⟩ (by simp) ?_
 unfold vc_pick16 at hv
 change W _ _ _ ⟨13, look [(0, .int .i64 c), (1, .int .i64 n)], [], 0⟩ _
 refine W.ty [(0, .int _ _), (1, .int _ _)] rfl (W.rL (aI rfl rfl (eL (W.ty [(0, .int _ _), (1, .int _ _)] rfl ?_))))
 obtain ⟨J1, hj, hv⟩ := hv
 refine W.mid1 (fun v0 => ⟨13, look [(0, .int .i64 v0), (1, .int .i64 n)], [], 0⟩) J1 ?_ ?_
 intro v0
 intro hv
 replace hv := hj v0 hv
 refine W.rL ?_
 iterate 2 refine mI rfl rfl ?_
 obtain ⟨s3, hv⟩ := hv
 refine cL rfl (o_rem rfl rfl s3 (aI rfl rfl (eL (W.ty [(4, .int _ _)] rfl (W.ret (rt (rt_t (v := .int _ _) rfl (rt_n (⟨_, zY _ _ _ _, (v0.tmod n), rfl, hv⟩)))))))))
 clear hj
 refine W.rL (mI rfl rfl (cL rfl (zYq rfl rfl (eL (W.ty [(0, .int _ _), (1, .int _ _), (6, .bool _)] rfl (W.cn rfl (fun hc => ?_) (fun hc => ?_)))))))
 have hv := hv.1 hc
 refine W.rL1 (mI rfl rfl ?_)
 obtain ⟨s4, hv⟩ := hv
 refine cL rfl (o_add rfl rfl s4 ?_)
 obtain ⟨s5, hv⟩ := hv
 refine cL rfl (o_neg rfl s5 (aI rfl rfl (eL (zZ (⟨(), (-(c + (1 : Int))), hv, St.to_mk (φ := []) rfl (rfl) (zT rfl rfl) trivial⟩)))))
 have hv := hv.2 hc
 refine W.skip (zZ (⟨(), c, hv, St.to_mk (φ := []) rfl (rfl) (zT rfl rfl) trivial⟩))
set_option maxHeartbeats 4000000 in
theorem vcp_pick16 (c : Int) (n : Int) (h0 : 1 <= n) (h1 : inI c) : vc_pick16 c n (fun q0 => q0 = (pickM c n)) := by
  unfold vc_pick16
  refine ⟨fun v => v = if c < 0 then -(c + 1) else c, fun v hv => ⟨by omega, by subst hv; rfl⟩, fun h => ⟨by unfold inI at *; omega, by unfold inI at *; omega, (if_pos h).symm⟩, fun h => (if_neg h).symm⟩
theorem spec_pick16 (c : Int) (n : Int) (h0 : 1 <= n) (h1 : inI c) : FnP Try.prog 16 [.int .i64 c, .int .i64 n] (fun xR => xR = .int .i64 (pickM c n)) :=
  (walk_pick16 (vcp_pick16 c n h0 h1)).mono (by rintro _ ⟨_, rfl, rfl⟩; rfl)
def vc_pick39 (c : Int) (n : Int) (Post : Int -> Prop) : Prop :=
  ∃ J1 : Int -> Prop, (∀ (v0 : Int), J1 v0 -> (n ≠ 0) /\ Post (v0.tmod n)) /\ (((c < (0 : Int)) -> (inI (c + (1 : Int))) /\ (inI (-(c + (1 : Int)))) /\ J1 (-(c + (1 : Int)))) /\ (¬ (c < (0 : Int)) -> J1 c))
theorem walk_pick39 {c : Int} {n : Int} {Post : Int -> Prop} (hv : vc_pick39 c n Post) : FnP Try.prog 39 [.int .i64 c, .int .i64 n] (fun x => ∃ q0, x = .int .i64 q0 /\ Post q0) := by
 refine FnP.of_walk (T := tt) (nt := 13) ttOk ttMix ⟨⟨Try.f39, Try.func39, rfl, rfl, rfl, rfl⟩⟩ (by simp) ?_
 unfold vc_pick39 at hv
 change W _ _ _ ⟨13, look [(0, .int .i64 c), (1, .int .i64 n)], [], 0⟩ _
 refine W.ty [(0, .int _ _), (1, .int _ _)] rfl (W.rL (aI rfl rfl (eL (W.ty [(0, .int _ _), (1, .int _ _)] rfl ?_))))
 obtain ⟨J1, hj, hv⟩ := hv
 refine W.mid1 (fun v0 => ⟨13, look [(0, .int .i64 v0), (1, .int .i64 n)], [], 0⟩) J1 ?_ ?_
 intro v0
 intro hv
 replace hv := hj v0 hv
 refine W.rL ?_
 iterate 2 refine mI rfl rfl ?_
 obtain ⟨s3, hv⟩ := hv
 refine cL rfl (o_rem rfl rfl s3 (aI rfl rfl (eL (W.ty [(4, .int _ _)] rfl (W.ret (rt (rt_t (v := .int _ _) rfl (rt_n (⟨_, zY _ _ _ _, (v0.tmod n), rfl, hv⟩)))))))))
 clear hj
 refine W.rL (mI rfl rfl (cL rfl (zYq rfl rfl (eL (W.ty [(0, .int _ _), (1, .int _ _), (6, .bool _)] rfl (W.cn rfl (fun hc => ?_) (fun hc => ?_)))))))
 have hv := hv.1 hc
 refine W.rL1 (mI rfl rfl ?_)
 obtain ⟨s4, hv⟩ := hv
 refine cL rfl (o_add rfl rfl s4 ?_)
 obtain ⟨s5, hv⟩ := hv
 refine cL rfl (o_neg rfl s5 (aI rfl rfl (eL (zZ (⟨(), (-(c + (1 : Int))), hv, St.to_mk (φ := []) rfl (rfl) (zT rfl rfl) trivial⟩)))))
 have hv := hv.2 hc
 refine W.skip (zZ (⟨(), c, hv, St.to_mk (φ := []) rfl (rfl) (zT rfl rfl) trivial⟩))
set_option maxHeartbeats 4000000 in
theorem vcp_pick39 (c : Int) (n : Int) (h0 : 1 <= n) (h1 : inI c) : vc_pick39 c n (fun q0 => q0 = (pickM c n)) := by
  unfold vc_pick39
  refine ⟨fun v => v = if c < 0 then -(c + 1) else c, fun v hv => ⟨by omega, by subst hv; rfl⟩, fun h => ⟨by unfold inI at *; omega, by unfold inI at *; omega, (if_pos h).symm⟩, fun h => (if_neg h).symm⟩
theorem spec_pick39 (c : Int) (n : Int) (h0 : 1 <= n) (h1 : inI c) : FnP Try.prog 39 [.int .i64 c, .int .i64 n] (fun xR => xR = .int .i64 (pickM c n)) :=
  (walk_pick39 (vcp_pick39 c n h0 h1)).mono (by rintro _ ⟨_, rfl, rfl⟩; rfl)
end Go.Lat
