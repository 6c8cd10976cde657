/- The law latecomerlaw24.ReplayMatchesReference returns true for every input, and each argument reads afterwards as it read before. Part 8 of 15. No condition. -/
import Derived.Test.YtbaillkjjlmehaaLatE
import Derived.Test.YtbaillkjjlmehaaLatF
import Derived.Test.YtbaillkjjlmehaaLatD
import Derived.Test.YtbaillkjjlmehaaLatG
set_option linter.unusedVariables false
set_option linter.unusedSimpArgs false
set_option linter.unnecessarySimpa false
set_option maxRecDepth 100000
set_option maxHeartbeats 4000000
namespace Go.Lat
open Go.RowKit Go.Proofs
attribute [local irreducible] seqL opC
def vc_finish (sv : (List Int)) (jobs : (List Job)) (j : Int) (Post : Int -> Int -> Prop) : Prop :=
  ((sv.length <= 9223372036854775807) /\ (∀ j ∈ jobs, j.wk.length <= 9223372036854775807) /\ (jobs.length <= 9223372036854775807) /\ ((¬ ((validJ sv jobs) = true)) -> True) /\ (¬ (¬ ((validJ sv jobs) = true)) -> (inI ((jobs.length : Int) - (1 : Int))) /\ True)) /\ ((((¬ ((validJ sv jobs) = true)) \/ (¬ ((inM j (0 : Int) ((jobs.length : Int) - (1 : Int))) = true))) -> Post (0 : Int) (230 : Int)) /\ (¬ ((¬ ((validJ sv jobs) = true)) \/ (¬ ((inM j (0 : Int) ((jobs.length : Int) - (1 : Int))) = true))) -> (0 <= j /\ j < (jobs.length : Int)) /\ (validJ sv jobs = true) /\ ∃ (I1 : Int -> List Dn -> Prop) (μ1 : Int -> List Dn -> Nat), I1 ((lat jobs j).ar) (runM sv jobs) /\ ∀ (v8 : Int) (r0 : List Dn), I1 v8 r0 -> (∀ (y : Dn) (ys : List Dn), r0 = y :: ys -> ((y.j = j) -> (I1 y.v.en ys /\ μ1 y.v.en ys < μ1 v8 r0)) /\ (¬ (y.j = j) -> (I1 v8 ys /\ μ1 v8 ys < μ1 v8 r0))) /\ (r0 = [] -> Post v8 (0 : Int))))
theorem walk_finish {sv : (List Int)} {jobs : (List Job)} {j : Int} {Post : Int -> Int -> Prop} (hv : vc_finish sv jobs j Post) : FnP Try.prog 26 [.lst true sv.length (zYy zYx sv), .lst true jobs.length (zYy (e53 true) jobs), .int .i64 j] (fun x => ∃ q0 q1, x = .tup [.int .i64 q0, .int .i64 q1] /\ Post q0 q1) := by
 refine FnP.of_walk (T := tt) (nt := 41) ttOk ttMix ⟨⟨Try.f26, Try.func26, rfl, rfl, rfl, rfl⟩⟩ (by simp) ?_
 unfold vc_finish at hv
 change W _ _ _ ⟨41, look [(0, .lst true sv.length (zYy zYx sv)), (1, .lst true jobs.length (zYy (e53 true) jobs)), (2, .int .i64 j)], [], 0⟩ _
 refine W.ty [(0, .lst _ _ _), (1, .lst _ _ _), (2, .int _ _)] rfl (W.rL ?_)
 iterate 2 refine aI rfl rfl ?_
 refine eL (W.ty [(0, .lst _ _ _), (1, .lst _ _ _), (2, .int _ _)] rfl (W.seq' ?_))
 obtain ⟨sd, hv⟩ := hv
 refine W.rLm ⟨41, look [(0, .lst true sv.length (zYy zYx sv)), (1, .lst true jobs.length (zYy (e53 true) jobs)), (2, .int .i64 j), (21, .bool (decide ((¬ ((validJ sv jobs) = true)) \/ (¬ ((inM j (0 : Int) ((jobs.length : Int) - (1 : Int))) = true)))))], [], 0⟩ ?_ ?_
 iterate 2 refine mL rfl rfl ?_
 obtain ⟨s13, s14, s15, sd⟩ := sd
 refine cL rfl (zZu (k := 32) (fst := []) (caps := []) (ys := [.lst _ _ _, .lst _ _ _]) rfl rfl (spec_mvalid sv jobs s13 s14 s15) zk (cL rfl (o_notB rfl (mB rfl rfl ?_))))
 by_cases c1 : ¬ ((validJ sv jobs) = true)
 iterate 6 refine cLs rfl rfl rfl (dT c1) ?_
 refine cL rfl (zZv (v := .bool _) rfl (dT c1) rfl (eL (zYz ⟨rfl, rfl, rfl, (congrArg AV.bool (dOrT c1)).symm, trivial⟩ rfl)))
 have sd := sd.2 c1
 refine cLg rfl rfl (dF c1) (mI rfl rfl (cLg rfl rfl (dF c1) (mL rfl rfl (cLg rfl rfl (dF c1) (cL rfl (zXw (v := .lst _ _ _) tt23 rfl rfl (cLg rfl rfl (dF c1) ?_)))))))
 obtain ⟨s16, sd⟩ := sd
 refine cL rfl (o_sub rfl rfl s16 (cLg rfl rfl (dF c1) (cL rfl (zZu (k := 47) (fst := []) (caps := []) (ys := [.int _ _, .int _ _, .int _ _]) rfl rfl (spec_inr j (0 : Int) ((jobs.length : Int) - (1 : Int))) zk (cLg rfl rfl (dF c1) (cL rfl (o_notB rfl (cL rfl (zZy (v := .bool _) rfl (dF c1) rfl (eL (zYz ⟨rfl, rfl, rfl, (congrArg AV.bool (dOrF c1 (rfl))).symm, trivial⟩ rfl)))))))))))
 refine W.cn rfl (fun hc => ?_) (fun hc => ?_)
 have hv := hv.1 hc
 refine W.rL ?_
 iterate 2 refine aI rfl rfl ?_
 refine eL (W.ty [(6, .int _ _), (7, .int _ _)] rfl (W.ret (zZr (rt ?_))))
 iterate 2 refine rt_t (v := .int _ _) rfl ?_
 refine rt_n (⟨_, rs_tup 5 _ (Wks.cons (zY _ _ _ _) (Wks.cons (zY _ _ _ _) zk)), (0 : Int), (230 : Int), rfl, hv⟩)
 have hv := hv.2 hc
 refine W.skip (zZ (W.ty [(0, .lst _ _ _), (1, .lst _ _ _), (2, .int _ _)] rfl (W.rL (mL rfl rfl (mI rfl rfl ?_)))))
 obtain ⟨s17, hv⟩ := hv
 refine cL rfl (zYu tt23 tt53 rfl rfl (enc53.wd true) rfl s17 ?_)
 intro rest17
 refine cL rfl (o_faP tt53 rfl tt3 rfl (cL rfl (zZx (v := .int _ _) tt3 rfl rfl ⟨_, rfl⟩ (aI rfl rfl (eL (W.ty [(0, .lst _ _ _), (1, .lst _ _ _), (2, .int _ _), (8, .int _ _)] rfl (W.seq' (W.rH ?_))))))))
 iterate 2 refine cH rfl (zZp (v := .lst _ _ _) rfl ?_)
 obtain ⟨s19, hv⟩ := hv
 refine cHc rfl (callH_C1 (xs := _) (spec_run sv jobs s19) zk (flatC_enc (fun _ => rfl) _ _ _) rfl ?_)
 refine eH (W.ty [(2, .int _ _), (8, .int _ _), (29, .chn _)] rfl (W.block ?_))
 obtain ⟨I1, μ1, hp, hv⟩ := hv
 refine W.loop2 (fun v8 r0 => ⟨41, look [(2, .int .i64 j), (8, .int .i64 v8), (29, .chn 0)], [.chan 144 true (encC e89 r0)], 0⟩) I1 μ1 ((lat jobs j).ar) (runM sv jobs) (St.to_mk (φ := [some 0]) rfl (rfl) ⟨Ren.int _ _, Ren.int _ _, Ren.chn rfl, trivial⟩ ⟨.inr ⟨_, rfl, rfl, rfl, Rens.encC (fun _ => rfl) _ _⟩, trivial⟩) hp ?_
 clear hp
 intro v8 r0 hI
 replace hv := hv v8 r0 hI
 clear hI
 refine W.rcv (e := e89) (xs := r0) tt84 tt89 rfl rfl rfl rfl ?_ ?_
 intro y ys hc
 have hv := hv.1 y ys hc
 refine cL rfl (o_ext (v := .bool _) rfl rfl (eL (W.ty [(2, .int _ _), (8, .int _ _), (29, .chn _), (30, .tup _), (31, .bool _)] rfl (W.seq' (W.cT rfl (W.skip (zZ (W.ty [(2, .int _ _), (8, .int _ _), (29, .chn _), (30, .tup _)] rfl (W.block (W.rL (cL rfl (o_ext (v := .agg _) rfl rfl (cL rfl (zXy (p := 1) tt89 rfl rfl (cLn (o_stB (v := .agg _) (vs := [.int _ _, .int _ _, .int _ _, .int _ _]) (cs2 := [.int _ _, .int _ _, .int _ _, .int _ _]) tt89 rfl rfl rfl rfl rfl (Nat.le_of_ble_eq_true rfl) rfl (eL (W.ty [(2, .int _ _), (8, .int _ _), (9, .ptr _ _), (29, .chn _)] rfl (W.rL (cL rfl (o_fa tt89 rfl tt3 rfl (cL rfl (zZx (v := .int _ _) tt3 rfl rfl ⟨_, rfl⟩ (mI rfl rfl (cL rfl (o_eqI rfl rfl rfl (eL (W.ty [(2, .int _ _), (8, .int _ _), (9, .ptr _ _), (29, .chn _), (36, .bool _)] rfl (W.cn rfl (fun hc => ?_) (fun hc => ?_))))))))))))))))))))))))))))))
 have hv := hv.1 hc
 refine W.rL1 (cL rfl (o_fa tt89 rfl tt87 rfl (cL rfl (o_fa tt87 rfl tt3 rfl (cL rfl (zZx (v := .int _ _) tt3 rfl rfl ⟨_, rfl⟩ (aI rfl rfl (eL (zYv (zZ (⟨(), y.v.en, ys, hv, St.to_mk (φ := [some 0]) rfl (rfl) ⟨Ren.int _ _, Ren.int _ _, Ren.chn rfl, trivial⟩ ⟨.inr ⟨_, rfl, rfl, rfl, Rens.encC (fun _ => rfl) _ _⟩, trivial⟩⟩)))))))))))
 have hv := hv.2 hc
 refine W.skip (zYv (zZ (⟨(), v8, ys, hv, St.to_mk (φ := [some 0]) rfl (rfl) ⟨Ren.int _ _, Ren.int _ _, Ren.chn rfl, trivial⟩ ⟨.inr ⟨_, rfl, rfl, rfl, Rens.encC (fun _ => rfl) _ _⟩, trivial⟩⟩)))
 intro hc
 have hv := hv.2 hc
 refine cL rfl (o_ext (v := .bool _) rfl rfl (eL (W.ty [(2, .int _ _), (8, .int _ _), (29, .chn _), (30, .tup _), (31, .bool _)] rfl (W.seq' (W.cF rfl (W.exit (zZt (zZt (zYs (zZ (W.ty [(8, .int _ _)] rfl (W.rL (mI rfl rfl ?_)))))))))))))
 iterate 2 refine aI rfl rfl ?_
 refine eL (W.ty [(6, .int _ _), (7, .int _ _)] rfl (W.ret (rt ?_)))
 iterate 2 refine rt_t (v := .int _ _) rfl ?_
 refine rt_n (⟨_, rs_tup 5 _ (Wks.cons (zY _ _ _ _) (Wks.cons (zY _ _ _ _) zk)), v8, (0 : Int), rfl, hv⟩)
set_option maxHeartbeats 4000000 in
theorem vcp_finish (sv : (List Int)) (jobs : (List Job)) (j : Int) (h0 : sv.length <= 9223372036854775807) (h1 : ∀ q ∈ jobs, q.wk.length <= 9223372036854775807) (h2 : jobs.length <= 9223372036854775807) : vc_finish sv jobs j (fun q0 q1 => q0 = (finishM sv jobs j).1 /\ q1 = (finishM sv jobs j).2) := by
  have e1 : ∀ n lo hi : Int, (inM n lo hi = true) = (lo <= n /\ n <= hi) := fun n lo hi => by unfold inM; simp
  unfold vc_finish
  simp only [e1]
  refine ⟨⟨h0, h1, h2, fun _ => trivial, fun _ => ⟨by unfold inI; omega, trivial⟩⟩, fun k => ?_, fun k => ?_⟩
  . have : ¬ (validJ sv jobs = true /\ 0 <= j /\ j <= (jobs.length : Int) - 1) := fun h => k.elim (fun k => k h.1) (fun k => k h.2)
    unfold finishM
    rw [if_neg this]
    exact ⟨rfl, rfl⟩
  . have hv : validJ sv jobs = true := Decidable.not_not.1 fun h => k (.inl h)
    have hj : 0 <= j /\ j <= (jobs.length : Int) - 1 := Decidable.not_not.1 fun h => k (.inr h)
    refine ⟨⟨hj.1, by omega⟩, hv, fun o l => endM l j o = endM (runM sv jobs) j (lat jobs j).ar, fun _ l => l.length, rfl, ?_⟩
    rintro o l he
    refine ⟨?_, ?_⟩
    . rintro y ys rfl
      refine ⟨fun k2 => ⟨?_, by simp⟩, fun k2 => ⟨?_, by simp⟩⟩
      . rw [<- he]; unfold endM; rw [List.foldl_cons, if_pos k2]
      . rw [<- he]; unfold endM; rw [List.foldl_cons, if_neg k2]
    . rintro rfl
      unfold finishM
      rw [if_pos ⟨hv, hj⟩]
      exact ⟨he, rfl⟩
theorem spec_finish (sv : (List Int)) (jobs : (List Job)) (j : Int) (h0 : sv.length <= 9223372036854775807) (h1 : ∀ q ∈ jobs, q.wk.length <= 9223372036854775807) (h2 : jobs.length <= 9223372036854775807) : FnP Try.prog 26 [.lst true sv.length (zYy zYx sv), .lst true jobs.length (zYy (e53 true) jobs), .int .i64 j] (fun xR => xR = .tup [.int .i64 ((finishM sv jobs j).1), .int .i64 ((finishM sv jobs j).2)]) :=
  (walk_finish (vcp_finish sv jobs j h0 h1 h2)).mono (by rintro _ ⟨_, _, rfl, rfl, rfl⟩; rfl)
def vc_late (r : Req) (p : Int) (Post : Int -> Int -> Prop) : Prop :=
  (r.jobs.length <= 1073741824) /\ (∀ j ∈ r.jobs, j.wk.length <= 1073741824) /\ (r.ex.length <= 1073741824) /\ (∀ x ∈ r.ex, 0 <= x.ca) /\ (okAll (r.jobs.map fullJ) (chgM r.ex p)) /\ (r.sv.length <= 9223372036854775807) /\ (∀ q ∈ (withM r p), q.wk.length <= 9223372036854775807) /\ ((withM r p).length <= 9223372036854775807) /\ ((¬ (finishM r.sv (withM r p) r.late).2 = (0 : Int)) -> Post (0 : Int) (240 : Int)) /\ (¬ (¬ (finishM r.sv (withM r p) r.late).2 = (0 : Int)) -> (0 <= r.late /\ r.late < (r.jobs.length : Int)) /\ (inI (((finishM r.sv (withM r p) r.late).1) - ((lat r.jobs r.late).ar))) /\ (inI ((((finishM r.sv (withM r p) r.late).1) - ((lat r.jobs r.late).ar)) - r.obj)) /\ Post (max (0 : Int) ((((finishM r.sv (withM r p) r.late).1) - ((lat r.jobs r.late).ar)) - r.obj)) (0 : Int))
theorem walk_late {r : Req} {p : Int} {Post : Int -> Int -> Prop} (hv : vc_late r p Post) : FnP Try.prog 43 [.agg ((e26 true) r), .int .i64 p] (fun x => ∃ q0 q1, x = .tup [.int .i64 q0, .int .i64 q1] /\ Post q0 q1) := by
 refine FnP.of_walk (T := tt) (nt := 34) ttOk ttMix ⟨⟨Try.f43, Try.func43, rfl, rfl, rfl, rfl⟩⟩ (by simp) ?_
 unfold vc_late at hv
 change W _ _ _ ⟨34, look [(0, .agg [.lst true r.sv.length (zYy zYx r.sv), .lst true r.jobs.length (zYy (e53 true) r.jobs), .int .i64 r.late, .int .i64 r.obj, .int .i64 r.causes, .lst true r.ex.length (zYy e58 r.ex)]), (1, .int .i64 p)], [], 0⟩ _
 refine W.ty [(0, .agg _), (1, .int _ _)] rfl (W.rL (cL rfl (o_box (v := .agg _) (p := 0) rfl rfl rfl ?_)))
 iterate 2 refine aI rfl rfl ?_
 refine eL (W.ty [(1, .int _ _), (2, .ptr _ _)] rfl (W.rP [0, 1, 2, 3, 5, 6, 4, 7, 8, 9, 10, 11, 12] (by decide +kernel) rfl (cL rfl (o_fa tt26 rfl tt22 rfl (cL rfl (zZx (v := .lst _ _ _) tt22 rfl rfl ⟨_, rfl⟩ (cL rfl (zYp (cs := [.lst _ _ _, .lst _ _ _, .int _ _, .int _ _, .int _ _, .lst _ _ _]) tt26 rfl rfl ⟨_, rfl⟩ rfl (mI rfl rfl (cL rfl (o_fa tt26 rfl tt3 rfl (cL rfl (zZx (v := .int _ _) tt3 rfl rfl ⟨_, rfl⟩ ?_)))))))))))))
 obtain ⟨s1, s2, s3, s4, s5, hv⟩ := hv
 refine cL rfl (zZu (k := 46) (fst := []) (caps := []) (ys := [.agg _, .int _ _]) rfl rfl (spec_with r p s1 s2 s3 s4 s5) zk ?_)
 obtain ⟨s6, s7, s8, hv⟩ := hv
 refine cL rfl (zZu (k := 26) (fst := []) (caps := []) (ys := [.lst _ _ _, .lst _ _ _, .int _ _]) rfl rfl (spec_finish r.sv (withM r p) r.late s6 s7 s8) zk (cL rfl (zZp (v := .tup _) rfl ?_)))
 iterate 2 refine cL rfl (o_ext (v := .int _ _) rfl rfl ?_)
 iterate 2 refine aI rfl rfl ?_
 refine eL (W.ty [(2, .ptr _ _), (6, .int _ _), (7, .int _ _)] rfl (W.seq' (W.rL (mI rfl rfl (cL rfl (o_neI rfl rfl rfl (eL (W.ty [(2, .ptr _ _), (6, .int _ _), (20, .bool _)] rfl (W.cn rfl (fun hc => ?_) (fun hc => ?_))))))))))
 have hv := hv.1 hc
 refine W.rL ?_
 iterate 2 refine aI rfl rfl ?_
 refine eL (W.ty [(4, .int _ _), (5, .int _ _)] rfl (W.ret (zZr (rt ?_))))
 iterate 2 refine rt_t (v := .int _ _) rfl ?_
 refine rt_n (⟨_, rs_tup 5 _ (Wks.cons (zY _ _ _ _) (Wks.cons (zY _ _ _ _) zk)), (0 : Int), (240 : Int), rfl, hv⟩)
 have hv := hv.2 hc
 refine W.skip (zZ (W.ty [(2, .ptr _ _), (6, .int _ _)] rfl (W.rD [0, 1, 2, 3, 4, 5, 6, 7, 8, 9, 10, 11, 12, 13, 14] (by decide +kernel) rfl (mI rfl rfl (cL rfl (o_fa tt26 rfl tt23 rfl (cL rfl (zZx (v := .lst _ _ _) tt23 rfl rfl ⟨_, rfl⟩ (cL rfl (o_fa tt26 rfl tt3 rfl (cL rfl (zZx (v := .int _ _) tt3 rfl rfl ⟨_, rfl⟩ ?_))))))))))))
 obtain ⟨s9, hv⟩ := hv
 refine cL rfl (zYu tt23 tt53 rfl rfl (enc53.wd true) rfl s9 ?_)
 intro rest9
 refine cL rfl (o_faP tt53 rfl tt3 rfl (cL rfl (zZx (v := .int _ _) tt3 rfl rfl ⟨_, rfl⟩ ?_)))
 obtain ⟨s10, hv⟩ := hv
 refine cL rfl (o_sub rfl rfl s10 (cL rfl (o_fa tt26 rfl tt3 rfl (cL rfl (zZx (v := .int _ _) tt3 rfl rfl ⟨_, rfl⟩ ?_)))))
 obtain ⟨s11, hv⟩ := hv
 refine cL rfl (o_sub rfl rfl s11 (cL rfl (o_max rfl rfl ?_)))
 iterate 2 refine aI rfl rfl ?_
 refine eL (W.ty [(4, .int _ _), (5, .int _ _)] rfl (W.ret (rt ?_)))
 iterate 2 refine rt_t (v := .int _ _) rfl ?_
 refine rt_n (⟨_, rs_tup 5 _ (Wks.cons (zY _ _ _ _) (Wks.cons (zY _ _ _ _) zk)), (max (0 : Int) ((((finishM r.sv (withM r p) r.late).1) - ((lat r.jobs r.late).ar)) - r.obj)), (0 : Int), rfl, hv⟩)
set_option maxHeartbeats 4000000 in
theorem vcp_late (r : Req) (p : Int) (h0 : validR r = true) : vc_late r p (fun q0 q1 => q0 = (lateM r p).1 /\ q1 = (lateM r p).2) := by
  have hv := (validR_iff r).1 h0
  have hj := job_ok hv.j
  have hw := job_ok (hv.with_ok p)
  have hx := hv.len
  have hb := finishM_bound r.sv (withM r p) r.late
  have ha := (hj.2.2 _ (lat_mem (xs := r.jobs) (i := r.late) hv.late)).1
  have ho := hv.obj
  refine ⟨by omega, fun j h => ?_, by omega, fun x h => (hv.mem h).1.2.1, hv.ok p, by omega, fun q h => ?_, by rw [withM_len]; omega, fun k => absurd (hv.late2 p) k, fun k => ⟨hv.late, by unfold inI; omega, by unfold inI; omega, ?_⟩⟩
  . have := (hj.2.2 _ h).1; omega
  . have := (hw.2.2 _ h).1; omega
  . unfold lateM latenessM'
    rw [if_neg k]
    exact ⟨rfl, rfl⟩
theorem spec_late (r : Req) (p : Int) (h0 : validR r = true) : FnP Try.prog 43 [.agg ((e26 true) r), .int .i64 p] (fun xR => xR = .tup [.int .i64 ((lateM r p).1), .int .i64 ((lateM r p).2)]) :=
  (walk_late (vcp_late r p h0)).mono (by rintro _ ⟨_, _, rfl, rfl, rfl⟩; rfl)
def vc_values (r : Req) (Post : (List Int) -> Int -> Prop) : Prop :=
  (r.sv.length <= 9223372036854775807) /\ (∀ j ∈ r.jobs, j.wk.length <= 9223372036854775807) /\ (r.jobs.length <= 9223372036854775807) /\ (r.ex.length <= 9223372036854775807) /\ ((¬ ((validR r) = true)) -> Post [] (240 : Int)) /\ (¬ (¬ ((validR r) = true)) -> (0 <= r.causes /\ r.causes <= 6) /\ ∃ (I1 : Nat -> List Int -> Prop) (Z1 : Int -> List Int -> Prop), I1 0 ([] : List Int) /\ (∀ (i : Nat) (c : Int) (r4 : List Int), (rangeI (2 ^ r.causes.toNat))[i]? = some c -> I1 i r4 -> (validR r = true) /\ ((¬ (lateM r c).2 = (0 : Int)) -> Z1 ((lateM r c).2) r4) /\ (¬ (¬ (lateM r c).2 = (0 : Int)) -> ((r4 ++ [(lateM r c).1]).length <= 1073741824) /\ I1 (i + 1) (r4 ++ [(lateM r c).1]))) /\ (∀ (r4 : List Int), I1 (rangeI (2 ^ r.causes.toNat)).length r4 -> Post r4 (0 : Int)) /\ (∀ (z2 : Int) (z4 : List Int), Z1 z2 z4 -> Post [] z2))
theorem walk_values {r : Req} {Post : (List Int) -> Int -> Prop} (hv : vc_values r Post) : FnP Try.prog 17 [.agg ((e26 true) r)] (fun x => ∃ q0 q1, x = .tup [.lst false q0.length (zYy zYx q0), .int .i64 q1] /\ Post q0 q1) := by
 refine FnP.of_walk (T := tt) (nt := 29) ttOk ttMix ⟨⟨Try.f17, Try.func17, rfl, rfl, rfl, rfl⟩⟩ (by simp) ?_
 unfold vc_values at hv
 change W _ _ _ ⟨29, look [(0, .agg [.lst true r.sv.length (zYy zYx r.sv), .lst true r.jobs.length (zYy (e53 true) r.jobs), .int .i64 r.late, .int .i64 r.obj, .int .i64 r.causes, .lst true r.ex.length (zYy e58 r.ex)])], [], 0⟩ _
 refine W.ty [(0, .agg _)] rfl (W.rL (cL rfl (o_box (v := .agg _) (p := 0) rfl rfl rfl (cL rfl (zXy (p := 1) tt22 rfl rfl (cL rfl (zXy (p := 2) tt39 rfl rfl (eL (W.ty [(1, .ptr _ _), (2, .ptr _ _), (3, .ptr _ _)] rfl (W.seq' (W.rL (cL rfl (zYp (cs := [.lst _ _ _, .lst _ _ _, .int _ _, .int _ _, .int _ _, .lst _ _ _]) tt26 rfl rfl ⟨_, rfl⟩ rfl ?_)))))))))))))
 obtain ⟨s5, s6, s7, s8, hv⟩ := hv
 refine cL rfl (zZu (k := 13) (fst := []) (caps := []) (ys := [.agg _]) rfl rfl (spec_valid r s5 s6 s7 s8) zk (cL rfl (o_notB rfl (eL (W.ty [(1, .ptr _ _), (2, .ptr _ _), (3, .ptr _ _), (10, .bool _)] rfl (W.cn rfl (fun hc => ?_) (fun hc => ?_)))))))
 have hv := hv.1 hc
 refine W.rL (cLn (o_stB (v := .nilS) (vs := [.nilS]) (cs2 := [.nilS]) tt22 rfl rfl rfl rfl rfl (Nat.le_of_ble_eq_true rfl) rfl (cLn (o_stB (v := .int _ _) (vs := [.int _ _]) (cs2 := [.int _ _]) tt39 rfl rfl rfl rfl rfl (Nat.le_of_ble_eq_true rfl) rfl (eL (W.ty [(2, .ptr _ _), (3, .ptr _ _)] rfl (W.ret (zZr (rt (rt_c (x := .ptr _ _) rfl (ldS (v := .nilS) tt22 rfl ⟨_, rfl⟩ (rt_c (x := .ptr _ _) rfl (ldS (v := .int _ _) tt39 rfl ⟨_, rfl⟩ (rt_n (⟨_, rs_tup 5 _ (Wks.cons (rs_nil _ _ _ _ rfl) (Wks.cons (zY _ _ _ _) zk)), [], (240 : Int), rfl, hv⟩)))))))))))))))
 have hv := hv.2 hc
 refine W.skip (zZ (W.ty [(1, .ptr _ _), (2, .ptr _ _), (3, .ptr _ _)] rfl (W.rL (cL rfl (zXy (p := 3) tt22 rfl rfl (eL (W.ty [(1, .ptr _ _), (2, .ptr _ _), (3, .ptr _ _), (4, .ptr _ _)] rfl (W.seq' (W.rL (cL rfl (o_fa tt26 rfl tt3 rfl (cL rfl (zZx (v := .int _ _) tt3 rfl rfl ⟨_, rfl⟩ (cL rfl (o_callS1 (k := 42) (fst := []) (caps := []) (ys := [.int _ _]) rfl rfl (spec_sets r.causes) zk (eL (W.ty [(1, .ptr _ _), (2, .ptr _ _), (3, .ptr _ _), (4, .ptr _ _), (13, .clo _ _ _)] rfl (W.block (W.to (st' := ⟨29, look [(1, .ptr 0 0), (2, .ptr 1 0), (3, .ptr 2 0), (4, .ptr 3 0), (13, .clo 59 [] [.ipt true [.int .i64 r.causes]])], [.box 26 [.lst true r.sv.length (zYy zYx r.sv), .lst true r.jobs.length (zYy (e53 true) r.jobs), .int .i64 r.late, .int .i64 r.obj, .int .i64 r.causes, .lst true r.ex.length (zYy e58 r.ex)], .box 22 [.nilS], .box 39 [.int .i64 (0 : Int)], .box 22 [.ref true 4 ([] : List Int).length], .row 3 1 (zYy zYx ([] : List Int))], 0⟩) (St.to_mk (φ := [some 0, some 1, some 2, some 3, none]) rfl (rfl) ⟨Ren.ptr rfl, Ren.ptr rfl, Ren.ptr rfl, Ren.ptr rfl, Ren.clo _ (Rens.nil) (zR rfl), trivial⟩ ⟨(zB rfl rfl), (zB rfl rfl), (zB rfl rfl), .inr ⟨_, rfl, rfl, Rens.cons (Ren.nilR rfl rfl) (Rens.nil)⟩, rfl, trivial⟩) ?_)))))))))))))))))))
 obtain ⟨s18, hv⟩ := hv
 obtain ⟨I1, Z1, hp, hr, hd, hx⟩ := hv
 refine W.rng1_2 (fun c => .int .i64 c) (rangeI (2 ^ r.causes.toNat)) 4 ([] : List Int) (fun r4 => [.box 26 [.lst true r.sv.length (zYy zYx r.sv), .lst true r.jobs.length (zYy (e53 true) r.jobs), .int .i64 r.late, .int .i64 r.obj, .int .i64 r.causes, .lst true r.ex.length (zYy e58 r.ex)], .box 22 [.nilS], .box 39 [.int .i64 (0 : Int)], .box 22 [.ref true 4 r4.length], .row 3 1 (zYy zYx r4)]) I1 (fun z2 z4 => [.box 26 [.lst true r.sv.length (zYy zYx r.sv), .lst true r.jobs.length (zYy (e53 true) r.jobs), .int .i64 r.late, .int .i64 r.obj, .int .i64 r.causes, .lst true r.ex.length (zYy e58 r.ex)], .box 22 [.nilS], .box 39 [.int .i64 z2], .box 22 [.ref true 4 z4.length], .row 3 1 (zYy zYx z4)]) Z1 (l0 := [(1, .ptr 0 0), (2, .ptr 1 0), (3, .ptr 2 0), (4, .ptr 3 0)]) rfl rfl (it_sets1 r.causes s18) (Wks.cons (ag_ipt _ _ _ _) zk) (fun _ => rfl) ⟨rfl, rfl, rfl, rfl, trivial⟩ (by decide) rfl (by
 intro i r4 _ o ho
 simp only [List.mem_cons, List.not_mem_nil, or_false] at ho
 rcases ho with rfl | rfl | rfl | rfl | rfl <;> first | rfl | exact noF_ints _) rfl rfl hp ?_ ?_ ?_
 clear hp hd hx
 intro i c r4 hc hI
 have hv := hr i c r4 hc hI
 clear hr hc hI
 refine W.rL1 (aI rfl rfl (eL (zZ (W.ty [(1, .ptr _ _), (2, .ptr _ _), (3, .ptr _ _), (4, .ptr _ _), (5, .int _ _)] rfl (W.block (W.rL (cL rfl (zYp (cs := [.lst _ _ _, .lst _ _ _, .int _ _, .int _ _, .int _ _, .lst _ _ _]) tt26 rfl rfl ⟨_, rfl⟩ rfl (mI rfl rfl ?_)))))))))
 obtain ⟨s19, hv⟩ := hv
 refine cL rfl (zZu (k := 43) (fst := []) (caps := []) (ys := [.agg _, .int _ _]) rfl rfl (spec_late r c s19) zk (cL rfl (zZp (v := .tup _) rfl ?_)))
 iterate 2 refine cL rfl (o_ext (v := .int _ _) rfl rfl ?_)
 iterate 2 refine aI rfl rfl ?_
 refine eL (W.ty [(2, .ptr _ _), (3, .ptr _ _), (4, .ptr _ _), (6, .int _ _), (7, .int _ _)] rfl (W.seq' (W.rL (mI rfl rfl (cL rfl (o_neI rfl rfl rfl (eL (W.ty [(2, .ptr _ _), (3, .ptr _ _), (4, .ptr _ _), (6, .int _ _), (7, .int _ _), (22, .bool _)] rfl (W.cn rfl (fun hc => ?_) (fun hc => ?_))))))))))
 have hv := hv.1 hc
 refine W.rL (mI rfl rfl (cLn (o_stB (v := .nilS) (vs := [.nilS]) (cs2 := [.nilS]) tt22 rfl rfl rfl rfl rfl (Nat.le_of_ble_eq_true rfl) rfl (cLn (o_stB (v := .int _ _) (vs := [.int _ _]) (cs2 := [.int _ _]) tt39 rfl rfl rfl rfl rfl (Nat.le_of_ble_eq_true rfl) rfl (eL (W.ty [(2, .ptr _ _), (3, .ptr _ _)] rfl (W.ret (zZr (zYt (rd_ret ⟨(), ((lateM r c).2), r4, hv, St.to_mk (φ := [some 0, some 1, some 2, some 3, some 4]) rfl (rfl) trivial ⟨(zB rfl rfl), (zB rfl rfl), (zB rfl rfl), .inr ⟨_, rfl, rfl, Rens.cons (Ren.ref rfl (fun h => rfl)) (Rens.nil)⟩, zE zZw false r4 rfl, trivial⟩⟩)))))))))))
 have hv := hv.2 hc
 refine W.skip (zZ (W.ty [(4, .ptr _ _), (6, .int _ _)] rfl (W.rL1 (cL rfl (zZx (v := .ref _ _ _) tt22 rfl rfl ⟨_, rfl⟩ (mI rfl rfl (cL rfl (o_bs1 (v := .int _ _) (q := 5) tt22 tt3 rfl rfl rfl rfl rfl rfl rfl rfl ?_))))))))
 obtain ⟨s20, hv⟩ := hv
 refine cL rfl (o_apR (p := 6) (q := (r4 ++ [(lateM r c).1]).length) tt22 tt3 rfl rfl (src_ref rfl rfl) rfl rfl (zYw (zZw.wd false) _) (Nat.le_trans (Nat.le_of_eq (@List.length_append _ (r4) ([(lateM r c).1])).symm) s20) rfl (@List.length_append _ (r4) ([(lateM r c).1])).symm (encL_app zYx r4 [(lateM r c).1]) (cLn (o_stB (v := .ref _ _ _) (vs := [.ref _ _ _]) (cs2 := [.ref _ _ _]) tt22 rfl rfl rfl rfl rfl (Nat.le_of_ble_eq_true rfl) rfl (eL (zYv (rd_nrm ⟨(), (r4 ++ [(lateM r c).1]), hv, St.to_mk (φ := [some 0, some 1, some 2, some 3, some 6]) rfl (rfl) trivial ⟨(zB rfl rfl), (zB rfl rfl), (zB rfl rfl), .inr ⟨_, rfl, rfl, Rens.cons (Ren.ref rfl (fun h => rfl)) (Rens.nil)⟩, zE zZw false (r4 ++ [(lateM r c).1]) rfl, trivial⟩⟩))))))
 clear hp hr hx
 intro r4 hI
 have hv := hd r4 hI
 clear hd hI
 refine zYv (zZ (W.ty [(2, .ptr _ _), (3, .ptr _ _), (4, .ptr _ _)] rfl (W.rL (cL rfl (zZx (v := .ref _ _ _) tt22 rfl rfl ⟨_, rfl⟩ (cLn (o_stB (v := .ref _ _ _) (vs := [.ref _ _ _]) (cs2 := [.ref _ _ _]) tt22 rfl rfl rfl rfl rfl (Nat.le_of_ble_eq_true rfl) rfl (cLn (o_stB (v := .int _ _) (vs := [.int _ _]) (cs2 := [.int _ _]) tt39 rfl rfl rfl rfl rfl (Nat.le_of_ble_eq_true rfl) rfl (eL (W.ty [(2, .ptr _ _), (3, .ptr _ _)] rfl (W.ret (rt (rt_c (x := .ptr _ _) rfl (ldS (v := .ref _ _ _) tt22 rfl ⟨_, rfl⟩ (rt_c (x := .ptr _ _) rfl (ldS (v := .int _ _) tt39 rfl ⟨_, rfl⟩ (rt_n (⟨_, rs_tup 5 _ (Wks.cons (rs_ref zZw 3 _ rfl rfl) (Wks.cons (zY _ _ _ _) zk)), r4, (0 : Int), rfl, hv⟩)))))))))))))))))))
 clear hp hr hd
 intro z2 z4 hI
 have hv := hx z2 z4 hI
 clear hx hI
 refine zYt (zZr (rt (rt_c (x := .ptr _ _) rfl (ldS (v := .nilS) tt22 rfl ⟨_, rfl⟩ (rt_c (x := .ptr _ _) rfl (ldS (v := .int _ _) tt39 rfl ⟨_, rfl⟩ (rt_n (⟨_, rs_tup 5 _ (Wks.cons (rs_nil _ _ _ _ rfl) (Wks.cons (zY _ _ _ _) zk)), [], z2, rfl, hv⟩))))))))
set_option maxHeartbeats 4000000 in
theorem vcp_values (r : Req) (h0 : r.sv.length <= 9223372036854775807) (h1 : ∀ j ∈ r.jobs, j.wk.length <= 9223372036854775807) (h2 : r.jobs.length <= 9223372036854775807) (h3 : r.ex.length <= 9223372036854775807) : vc_values r (fun q0 q1 => q0 = (valuesM r).1 /\ q1 = (valuesM r).2) := by
  refine ⟨h0, h1, h2, h3, fun k => ?_, fun k => ?_⟩
  . unfold valuesM; rw [if_neg k]; exact ⟨rfl, rfl⟩
  . have k := Decidable.not_not.1 k
    have hv := (validR_iff r).1 k
    have hz : ∀ s, (lateM r s).2 = 0 := fun s => by unfold lateM latenessM'; rw [if_neg (fun h => h (hv.late2 s))]
    have hn : (rangeI (2 ^ r.causes.toNat)).find? (fun s => decide (¬ (lateM r s).2 = 0)) = none := by
      rw [List.find?_eq_none]
      intro s _
      simp [hz s]
    have hl : (rangeI (2 ^ r.causes.toNat)).length = 2 ^ r.causes.toNat := by simp [rangeI]
    have hp : 2 ^ r.causes.toNat <= 64 := by
      have := hv.causes
      obtain ⟨c, hc⟩ : ∃ c : Nat, r.causes = c := ⟨r.causes.toNat, by omega⟩
      rw [hc] at this ⊢
      have : c <= 6 := by omega
      rw [Int.toNat_natCast]
      rcases c with _ | _ | _ | _ | _ | _ | _ | c <;> first | decide | omega
    refine ⟨hv.causes, fun i l => l = ((rangeI (2 ^ r.causes.toNat)).take i).map fun s => (lateM r s).1, fun _ _ => False, rfl, fun i c l hc hI => ⟨k, fun e => absurd (hz c) e, fun _ => ?_⟩, fun l hI => ?_, fun _ _ h => h.elim⟩
    . have hi := (List.getElem?_eq_some_iff.1 hc).1
      have e : (rangeI (2 ^ r.causes.toNat)).take (i + 1) = (rangeI (2 ^ r.causes.toNat)).take i ++ [c] := by
        rw [List.take_add_one, hc]; rfl
      subst hI
      refine ⟨by simp; omega, ?_⟩
      show _ = ((rangeI (2 ^ r.causes.toNat)).take (i + 1)).map fun s => (lateM r s).1
      rw [e, List.map_append]; rfl
    . subst hI
      unfold valuesM
      rw [if_pos k, hn, List.take_length]
      exact ⟨rfl, rfl⟩
theorem spec_values (r : Req) (h0 : r.sv.length <= 9223372036854775807) (h1 : ∀ j ∈ r.jobs, j.wk.length <= 9223372036854775807) (h2 : r.jobs.length <= 9223372036854775807) (h3 : r.ex.length <= 9223372036854775807) : FnP Try.prog 17 [.agg ((e26 true) r)] (fun xR => xR = .tup [.lst false ((valuesM r).1).length (zYy zYx ((valuesM r).1)), .int .i64 ((valuesM r).2)]) :=
  (walk_values (vcp_values r h0 h1 h2 h3)).mono (by rintro _ ⟨_, _, rfl, rfl, rfl⟩; rfl)
def vc_isSet (r : Req) (p : Int) (Post : Bool -> Prop) : Prop :=
  ((r.sv.length <= 9223372036854775807) /\ (∀ j ∈ r.jobs, j.wk.length <= 9223372036854775807) /\ (r.jobs.length <= 9223372036854775807) /\ (r.ex.length <= 9223372036854775807) /\ (((validR r) = true) -> (0 <= r.causes) /\ (inI ((1 : Int) * 2 ^ (min r.causes.toNat 64))) /\ (inI (((1 : Int) * 2 ^ (min r.causes.toNat 64)) - (1 : Int))) /\ True) /\ (¬ ((validR r) = true) -> True)) /\ (Post (decide (((validR r) = true) /\ ((inM p (0 : Int) (((1 : Int) * 2 ^ (min r.causes.toNat 64)) - (1 : Int))) = true))))
theorem walk_isSet {r : Req} {p : Int} {Post : Bool -> Prop} (hv : vc_isSet r p Post) : FnP Try.prog 44 [.agg ((e26 true) r), .int .i64 p] (fun x => ∃ q0, x = .bool q0 /\ Post q0) := by
 refine FnP.of_walk (T := tt) (nt := 15) ttOk ttMix ⟨⟨Try.f44, Try.func44, rfl, rfl, rfl, rfl⟩⟩ (by simp) ?_
 unfold vc_isSet at hv
 change W _ _ _ ⟨15, look [(0, .agg [.lst true r.sv.length (zYy zYx r.sv), .lst true r.jobs.length (zYy (e53 true) r.jobs), .int .i64 r.late, .int .i64 r.obj, .int .i64 r.causes, .lst true r.ex.length (zYy e58 r.ex)]), (1, .int .i64 p)], [], 0⟩ _
 refine W.ty [(0, .agg _), (1, .int _ _)] rfl (W.rL (cL rfl (o_box (v := .agg _) (p := 0) rfl rfl rfl (aB rfl rfl (eL (W.ty [(1, .int _ _), (2, .ptr _ _)] rfl ?_))))))
 obtain ⟨sd, hv⟩ := hv
 refine W.rLm ⟨15, look [(4, .bool (decide (((validR r) = true) /\ ((inM p (0 : Int) (((1 : Int) * 2 ^ (min r.causes.toNat 64)) - (1 : Int))) = true))))], [.box 26 [.lst true r.sv.length (zYy zYx r.sv), .lst true r.jobs.length (zYy (e53 true) r.jobs), .int .i64 r.late, .int .i64 r.obj, .int .i64 r.causes, .lst true r.ex.length (zYy e58 r.ex)]], 0⟩ ?_ ?_
 refine cL rfl (zYp (cs := [.lst _ _ _, .lst _ _ _, .int _ _, .int _ _, .int _ _, .lst _ _ _]) tt26 rfl rfl ⟨_, rfl⟩ rfl ?_)
 obtain ⟨s8, s9, s10, s11, sd⟩ := sd
 refine cL rfl (zZu (k := 13) (fst := []) (caps := []) (ys := [.agg _]) rfl rfl (spec_valid r s8 s9 s10 s11) zk (mB rfl rfl ?_))
 by_cases c1 : (validR r) = true
 have sd := sd.1 c1
 refine cLg rfl rfl (c1) (mI rfl rfl (cLg rfl rfl (c1) (cL rfl (o_fa tt26 rfl tt3 rfl (cLg rfl rfl (c1) (cL rfl (zZx (v := .int _ _) tt3 rfl rfl ⟨_, rfl⟩ (cLg rfl rfl (c1) ?_))))))))
 obtain ⟨s12, s13, sd⟩ := sd
 refine cL rfl (o_shl rfl rfl s12 s13 (cLg rfl rfl (c1) ?_))
 obtain ⟨s14, sd⟩ := sd
 refine cL rfl (o_sub rfl rfl s14 (cLg rfl rfl (c1) (cL rfl (zZu (k := 33) (fst := []) (caps := []) (ys := [.int _ _, .int _ _, .int _ _]) rfl rfl (spec_isIn p (0 : Int) (((1 : Int) * 2 ^ (min r.causes.toNat 64)) - (1 : Int))) zk (cL rfl (zZv (v := .bool _) rfl c1 rfl (aB rfl rfl (eL (zYz ⟨(congrArg AV.bool (zXv c1 (dVar _))).symm, trivial⟩ rfl)))))))))
 iterate 6 refine cLs rfl rfl rfl ((Bool.eq_false_iff.2 c1)) ?_
 refine cL rfl (zZy (v := .bool _) rfl (Bool.eq_false_iff.2 c1) rfl (aB rfl rfl (eL (zYz ⟨(congrArg AV.bool (dAndF c1)).symm, trivial⟩ rfl))))
 refine W.ret (rt (rt_t (v := .bool _) rfl (rt_n (⟨_, zYr _ _ _, (decide (((validR r) = true) /\ ((inM p (0 : Int) (((1 : Int) * 2 ^ (min r.causes.toNat 64)) - (1 : Int))) = true))), rfl, hv⟩))))
set_option maxHeartbeats 4000000 in
theorem vcp_isSet (r : Req) (p : Int) (h0 : r.sv.length <= 9223372036854775807) (h1 : ∀ j ∈ r.jobs, j.wk.length <= 9223372036854775807) (h2 : r.jobs.length <= 9223372036854775807) (h3 : r.ex.length <= 9223372036854775807) : vc_isSet r p (fun q0 => q0 = (isSetM r p)) := by
  have e1 : ∀ n lo hi : Int, (inM n lo hi = true) = (lo <= n /\ n <= hi) := fun n lo hi => by unfold inM; simp
  have hp : validR r = true -> (2 : Int) ^ (min r.causes.toNat 64) = 2 ^ r.causes.toNat /\ (1 : Int) <= 2 ^ r.causes.toNat /\ (2 : Int) ^ r.causes.toNat <= 64 := fun h => by
    have := ((validR_iff r).1 h).causes
    obtain ⟨c, hc⟩ : ∃ c : Nat, r.causes = c := ⟨r.causes.toNat, by omega⟩
    rw [hc] at this ⊢
    have : c <= 6 := by omega
    rw [Int.toNat_natCast, Nat.min_eq_left (by omega)]
    rcases c with _ | _ | _ | _ | _ | _ | _ | c <;> first | decide | omega
  refine ⟨⟨h0, h1, h2, h3, fun k => ?_, fun _ => trivial⟩, ?_⟩
  . have := ((validR_iff r).1 k).causes
    obtain ⟨p1, p2, p3⟩ := hp k
    rw [p1]
    exact ⟨this.1, by unfold inI; omega, by unfold inI; omega, trivial⟩
  . show decide _ = isSetM r p
    unfold isSetM
    simp only [e1]
    rcases hv : validR r with _ | _
    . simp
    . obtain ⟨p1, p2, p3⟩ := hp hv
      rw [p1, Int.one_mul]
      simp
theorem spec_isSet (r : Req) (p : Int) (h0 : r.sv.length <= 9223372036854775807) (h1 : ∀ j ∈ r.jobs, j.wk.length <= 9223372036854775807) (h2 : r.jobs.length <= 9223372036854775807) (h3 : r.ex.length <= 9223372036854775807) : FnP Try.prog 44 [.agg ((e26 true) r), .int .i64 p] (fun xR => xR = .bool (isSetM r p)) :=
  (walk_isSet (vcp_isSet r p h0 h1 h2 h3)).mono (by rintro _ ⟨_, rfl, rfl⟩; rfl)
def vc_lateness (r : Req) (p : Int) (Post : Int -> Int -> Prop) : Prop :=
  (r.sv.length <= 9223372036854775807) /\ (∀ j ∈ r.jobs, j.wk.length <= 9223372036854775807) /\ (r.jobs.length <= 9223372036854775807) /\ (r.ex.length <= 9223372036854775807) /\ ((¬ ((isSetM r p) = true)) -> Post (0 : Int) (240 : Int)) /\ (¬ (¬ ((isSetM r p) = true)) -> (validR r = true) /\ Post ((lateM r p).1) ((lateM r p).2))
theorem walk_lateness {r : Req} {p : Int} {Post : Int -> Int -> Prop} (hv : vc_lateness r p Post) : FnP Try.prog 21 [.agg ((e26 true) r), .int .i64 p] (fun x => ∃ q0 q1, x = .tup [.int .i64 q0, .int .i64 q1] /\ Post q0 q1) := by
 refine FnP.of_walk (T := tt) (nt := 15) ttOk ttMix ⟨⟨Try.f21, Try.func21, rfl, rfl, rfl, rfl⟩⟩ (by simp) ?_
 unfold vc_lateness at hv
 change W _ _ _ ⟨15, look [(0, .agg [.lst true r.sv.length (zYy zYx r.sv), .lst true r.jobs.length (zYy (e53 true) r.jobs), .int .i64 r.late, .int .i64 r.obj, .int .i64 r.causes, .lst true r.ex.length (zYy e58 r.ex)]), (1, .int .i64 p)], [], 0⟩ _
 refine W.ty [(0, .agg _), (1, .int _ _)] rfl (W.rL (cL rfl (o_box (v := .agg _) (p := 0) rfl rfl rfl ?_)))
 iterate 2 refine aI rfl rfl ?_
 refine eL (W.ty [(1, .int _ _), (2, .ptr _ _)] rfl (W.seq' (W.rL (cL rfl (zYp (cs := [.lst _ _ _, .lst _ _ _, .int _ _, .int _ _, .int _ _, .lst _ _ _]) tt26 rfl rfl ⟨_, rfl⟩ rfl (mI rfl rfl ?_))))))
 obtain ⟨s5, s6, s7, s8, hv⟩ := hv
 refine cL rfl (zZu (k := 44) (fst := []) (caps := []) (ys := [.agg _, .int _ _]) rfl rfl (spec_isSet r p s5 s6 s7 s8) zk (cL rfl (o_notB rfl (eL (W.ty [(1, .int _ _), (2, .ptr _ _), (9, .bool _)] rfl (W.cn rfl (fun hc => ?_) (fun hc => ?_)))))))
 have hv := hv.1 hc
 refine W.rL ?_
 iterate 2 refine aI rfl rfl ?_
 refine eL (W.ty [(4, .int _ _), (5, .int _ _)] rfl (W.ret (zZr (rt ?_))))
 iterate 2 refine rt_t (v := .int _ _) rfl ?_
 refine rt_n (⟨_, rs_tup 5 _ (Wks.cons (zY _ _ _ _) (Wks.cons (zY _ _ _ _) zk)), (0 : Int), (240 : Int), rfl, hv⟩)
 have hv := hv.2 hc
 refine W.skip (zZ (W.ty [(1, .int _ _), (2, .ptr _ _)] rfl (W.rL (cL rfl (zYp (cs := [.lst _ _ _, .lst _ _ _, .int _ _, .int _ _, .int _ _, .lst _ _ _]) tt26 rfl rfl ⟨_, rfl⟩ rfl (mI rfl rfl ?_))))))
 obtain ⟨s9, hv⟩ := hv
 refine cL rfl (zZu (k := 43) (fst := []) (caps := []) (ys := [.agg _, .int _ _]) rfl rfl (spec_late r p s9) zk ?_)
 iterate 2 refine cL rfl (o_ext (v := .int _ _) rfl rfl ?_)
 iterate 2 refine aI rfl rfl ?_
 refine eL (W.ty [(4, .int _ _), (5, .int _ _)] rfl (W.ret (rt ?_)))
 iterate 2 refine rt_t (v := .int _ _) rfl ?_
 refine rt_n (⟨_, rs_tup 5 _ (Wks.cons (zY _ _ _ _) (Wks.cons (zY _ _ _ _) zk)), ((lateM r p).1), ((lateM r p).2), rfl, hv⟩)
set_option maxHeartbeats 4000000 in
theorem vcp_lateness (r : Req) (p : Int) (h0 : r.sv.length <= 9223372036854775807) (h1 : ∀ j ∈ r.jobs, j.wk.length <= 9223372036854775807) (h2 : r.jobs.length <= 9223372036854775807) (h3 : r.ex.length <= 9223372036854775807) : vc_lateness r p (fun q0 q1 => q0 = (latenessM r p).1 /\ q1 = (latenessM r p).2) := by
  refine ⟨h0, h1, h2, h3, fun k => ?_, fun k => ⟨?_, ?_⟩⟩
  . unfold latenessM; rw [if_neg k]; exact ⟨rfl, rfl⟩
  . have k := Decidable.not_not.1 k
    unfold isSetM at k
    rw [Bool.and_eq_true] at k
    exact k.1
  . unfold latenessM; rw [if_pos (Decidable.not_not.1 k)]; exact ⟨rfl, rfl⟩
theorem spec_lateness (r : Req) (p : Int) (h0 : r.sv.length <= 9223372036854775807) (h1 : ∀ j ∈ r.jobs, j.wk.length <= 9223372036854775807) (h2 : r.jobs.length <= 9223372036854775807) (h3 : r.ex.length <= 9223372036854775807) : FnP Try.prog 21 [.agg ((e26 true) r), .int .i64 p] (fun xR => xR = .tup [.int .i64 ((latenessM r p).1), .int .i64 ((latenessM r p).2)]) :=
  (walk_lateness (vcp_lateness r p h0 h1 h2 h3)).mono (by rintro _ ⟨_, _, rfl, rfl, rfl⟩; rfl)
def vc_withF (r : Req) (p : Int) (Post : (List Job) -> Int -> Prop) : Prop :=
  (r.sv.length <= 9223372036854775807) /\ (∀ j ∈ r.jobs, j.wk.length <= 9223372036854775807) /\ (r.jobs.length <= 9223372036854775807) /\ (r.ex.length <= 9223372036854775807) /\ ((¬ ((isSetM r p) = true)) -> Post [] (240 : Int)) /\ (¬ (¬ ((isSetM r p) = true)) -> (r.jobs.length <= 1073741824) /\ (∀ j ∈ r.jobs, j.wk.length <= 1073741824) /\ (r.ex.length <= 1073741824) /\ (∀ x ∈ r.ex, 0 <= x.ca) /\ (okAll (r.jobs.map fullJ) (chgM r.ex p)) /\ Post (withM r p) (0 : Int))
theorem walk_withF {r : Req} {p : Int} {Post : (List Job) -> Int -> Prop} (hv : vc_withF r p Post) : FnP Try.prog 23 [.agg ((e26 true) r), .int .i64 p] (fun x => ∃ q0 q1, x = .tup [.lst false q0.length (zYy (e53 true) q0), .int .i64 q1] /\ Post q0 q1) := by
 refine FnP.of_walk (T := tt) (nt := 13) ttOk ttMix ⟨⟨Try.f23, Try.func23, rfl, rfl, rfl, rfl⟩⟩ (by simp) ?_
 unfold vc_withF at hv
 change W _ _ _ ⟨13, look [(0, .agg [.lst true r.sv.length (zYy zYx r.sv), .lst true r.jobs.length (zYy (e53 true) r.jobs), .int .i64 r.late, .int .i64 r.obj, .int .i64 r.causes, .lst true r.ex.length (zYy e58 r.ex)]), (1, .int .i64 p)], [], 0⟩ _
 refine W.ty [(0, .agg _), (1, .int _ _)] rfl (W.rL (cL rfl (o_box (v := .agg _) (p := 0) rfl rfl rfl (cL rfl (zZq (v := .nilS) rfl (aI rfl rfl (eL (W.ty [(1, .int _ _), (2, .ptr _ _)] rfl (W.seq' (W.rL (cL rfl (zYp (cs := [.lst _ _ _, .lst _ _ _, .int _ _, .int _ _, .int _ _, .lst _ _ _]) tt26 rfl rfl ⟨_, rfl⟩ rfl (mI rfl rfl ?_)))))))))))))
 obtain ⟨s5, s6, s7, s8, hv⟩ := hv
 refine cL rfl (zZu (k := 44) (fst := []) (caps := []) (ys := [.agg _, .int _ _]) rfl rfl (spec_isSet r p s5 s6 s7 s8) zk (cL rfl (o_notB rfl (eL (W.ty [(1, .int _ _), (2, .ptr _ _), (9, .bool _)] rfl (W.cn rfl (fun hc => ?_) (fun hc => ?_)))))))
 have hv := hv.1 hc
 refine W.rL (cL rfl (zZq (v := .nilS) rfl (aI rfl rfl (eL (W.ty [(4, .nilS), (5, .int _ _)] rfl (W.ret (zZr (rt (rt_t (v := .nilS) rfl (rt_t (v := .int _ _) rfl (rt_n (⟨_, rs_tup 5 _ (Wks.cons (rs_nil _ _ _ _ rfl) (Wks.cons (zY _ _ _ _) zk)), [], (240 : Int), rfl, hv⟩))))))))))))
 have hv := hv.2 hc
 refine W.skip (zZ (W.ty [(1, .int _ _), (2, .ptr _ _)] rfl (W.rL (cL rfl (zYp (cs := [.lst _ _ _, .lst _ _ _, .int _ _, .int _ _, .int _ _, .lst _ _ _]) tt26 rfl rfl ⟨_, rfl⟩ rfl (mI rfl rfl ?_))))))
 obtain ⟨s9, s10, s11, s12, s13, hv⟩ := hv
 refine cL rfl (zZu (k := 46) (fst := []) (caps := []) (ys := [.agg _, .int _ _]) rfl rfl (spec_with r p s9 s10 s11 s12 s13) zk (aL rfl rfl (aI rfl rfl (eL (W.ty [(4, .lst _ _ _), (5, .int _ _)] rfl (W.ret (rt (rt_t (v := .lst _ _ _) rfl (rt_t (v := .int _ _) rfl (rt_n (⟨_, rs_tup 5 _ (Wks.cons (rs_lst _ _ _ _) (Wks.cons (zY _ _ _ _) zk)), (withM r p), (0 : Int), rfl, hv⟩)))))))))))
set_option maxHeartbeats 4000000 in
theorem vcp_withF (r : Req) (p : Int) (h0 : r.sv.length <= 9223372036854775807) (h1 : ∀ j ∈ r.jobs, j.wk.length <= 9223372036854775807) (h2 : r.jobs.length <= 9223372036854775807) (h3 : r.ex.length <= 9223372036854775807) : vc_withF r p (fun q0 q1 => q0 = (withE r p).1 /\ q1 = (withE r p).2) := by
  refine ⟨h0, h1, h2, h3, fun k => ?_, fun k => ?_⟩
  . unfold withE; rw [if_neg k]; exact ⟨rfl, rfl⟩
  . have k := Decidable.not_not.1 k
    have k' := k
    unfold isSetM at k'
    rw [Bool.and_eq_true] at k'
    have hv := (validR_iff r).1 k'.1
    have hj := job_ok hv.j
    have hx := hv.len
    refine ⟨by omega, fun j h => ?_, by omega, fun x h => (hv.mem h).1.2.1, hv.ok p, ?_⟩
    . have := (hj.2.2 _ h).1; omega
    . unfold withE; rw [if_pos k]; exact ⟨rfl, rfl⟩
theorem spec_withF (r : Req) (p : Int) (h0 : r.sv.length <= 9223372036854775807) (h1 : ∀ j ∈ r.jobs, j.wk.length <= 9223372036854775807) (h2 : r.jobs.length <= 9223372036854775807) (h3 : r.ex.length <= 9223372036854775807) : FnP Try.prog 23 [.agg ((e26 true) r), .int .i64 p] (fun xR => xR = .tup [.lst false ((withE r p).1).length (zYy (e53 true) ((withE r p).1)), .int .i64 ((withE r p).2)]) :=
  (walk_withF (vcp_withF r p h0 h1 h2 h3)).mono (by rintro _ ⟨_, _, rfl, rfl, rfl⟩; rfl)
def vc_ints (a : (List Int)) (b : (List Int)) (Post : Bool -> Prop) : Prop :=
  ((¬ (a.length : Int) = (b.length : Int)) -> Post false) /\ (¬ (¬ (a.length : Int) = (b.length : Int)) -> ∃ (I1 : Int -> Prop) (μ1 : Int -> Nat), I1 (0 : Int) /\ ∀ (v5 : Int), I1 v5 -> ((v5 < (a.length : Int)) -> (0 <= v5 /\ v5 < (a.length : Int)) /\ (0 <= v5 /\ v5 < (b.length : Int)) /\ ((¬ lat a v5 = lat b v5) -> Post false) /\ (¬ (¬ lat a v5 = lat b v5) -> (inI (v5 + (1 : Int))) /\ (I1 (v5 + (1 : Int)) /\ μ1 (v5 + (1 : Int)) < μ1 v5))) /\ (¬ (v5 < (a.length : Int)) -> Post true))
theorem walk_ints {a : (List Int)} {b : (List Int)} {Post : Bool -> Prop} (hv : vc_ints a b Post) : FnP Try.prog 19 [.lst true a.length (zYy zYx a), .lst true b.length (zYy zYx b)] (fun x => ∃ q0, x = .bool q0 /\ Post q0) := by
 refine FnP.of_walk (T := tt) (nt := 26) ttOk ttMix ⟨⟨Try.f19, Try.func19, rfl, rfl, rfl, rfl⟩⟩ (by simp) ?_
 unfold vc_ints at hv
 change W _ _ _ ⟨26, look [(0, .lst true a.length (zYy zYx a)), (1, .lst true b.length (zYy zYx b))], [], 0⟩ _
 refine W.ty [(0, .lst _ _ _), (1, .lst _ _ _)] rfl (W.rL (aB rfl rfl (eL (W.ty [(0, .lst _ _ _), (1, .lst _ _ _)] rfl (W.seq' (W.rL (mL rfl rfl (cL rfl (zXw (v := .lst _ _ _) tt22 rfl rfl (mL rfl rfl (cL rfl (zXw (v := .lst _ _ _) tt22 rfl rfl (cL rfl (o_neI rfl rfl rfl (eL (W.ty [(0, .lst _ _ _), (1, .lst _ _ _), (10, .bool _)] rfl (W.cn rfl (fun hc => ?_) (fun hc => ?_))))))))))))))))))
 have hv := hv.1 hc
 refine W.rL (aB rfl rfl (eL (W.ty [(4, .bool _)] rfl (W.ret (zZr (rt (rt_t (v := .bool _) rfl (rt_n (⟨_, zYr _ _ _, false, rfl, hv⟩)))))))))
 have hv := hv.2 hc
 refine W.skip (zZ (W.ty [(0, .lst _ _ _), (1, .lst _ _ _)] rfl (W.seq' (W.rL (aI rfl rfl (eL (W.ty [(0, .lst _ _ _), (1, .lst _ _ _), (5, .int _ _)] rfl (W.block ?_))))))))
 obtain ⟨I1, μ1, hp, hv⟩ := hv
 refine W.loop1 (fun v5 => ⟨26, look [(0, .lst true a.length (zYy zYx a)), (1, .lst true b.length (zYy zYx b)), (5, .int .i64 v5)], [], 0⟩) I1 μ1 (0 : Int) (St.to_mk (φ := []) rfl (rfl) (zT rfl rfl) trivial) hp ?_
 clear hp
 intro v5 hI
 replace hv := hv v5 hI
 clear hI
 refine W.seq' (W.rL (mI rfl rfl (mL rfl rfl (cL rfl (zXw (v := .lst _ _ _) tt22 rfl rfl (cL rfl (zYq rfl rfl (eL (W.ty [(0, .lst _ _ _), (1, .lst _ _ _), (5, .int _ _), (14, .bool _)] rfl (W.cn rfl (fun hc => ?_) (fun hc => ?_)))))))))))
 have hv := hv.1 hc
 refine W.skip (zZ (W.ty [(0, .lst _ _ _), (1, .lst _ _ _), (5, .int _ _)] rfl (W.seq' (W.block (W.rD [0, 1, 2, 3, 4, 5, 6, 7, 8] (by decide +kernel) rfl (mL rfl rfl (mI rfl rfl ?_)))))))
 obtain ⟨s18, hv⟩ := hv
 refine cL rfl (zYu tt22 tt3 rfl rfl (zZw.wd true) rfl s18 ?_)
 intro rest18
 refine cL rfl (zZx (v := .int _ _) tt3 rfl rfl ⟨_, rfl⟩ (mL rfl rfl (mI rfl rfl ?_)))
 obtain ⟨s19, hv⟩ := hv
 refine cL rfl (zYu tt22 tt3 rfl rfl (zZw.wd true) rfl s19 ?_)
 intro rest19
 refine cL rfl (zZx (v := .int _ _) tt3 rfl rfl ⟨_, rfl⟩ (cL rfl (o_neI rfl rfl rfl (eL (W.ty [(0, .lst _ _ _), (1, .lst _ _ _), (5, .int _ _), (25, .bool _)] rfl (W.cn rfl (fun hc => ?_) (fun hc => ?_)))))))
 have hv := hv.1 hc
 refine W.rL (aB rfl rfl (eL (W.ty [(4, .bool _)] rfl (W.ret (zYt (zZr (zZr (zYt (zZr (rt (rt_t (v := .bool _) rfl (rt_n (⟨_, zYr _ _ _, false, rfl, hv⟩)))))))))))))
 have hv := hv.2 hc
 refine W.skip (zYv (zZ (W.ty [(0, .lst _ _ _), (1, .lst _ _ _), (5, .int _ _)] rfl (W.rL1 (mI rfl rfl ?_)))))
 obtain ⟨s20, hv⟩ := hv
 refine cL rfl (o_add rfl rfl s20 (aI rfl rfl (eL (zZ (⟨(), (v5 + (1 : Int)), hv, St.to_mk (φ := []) rfl (rfl) (zT rfl rfl) trivial⟩)))))
 have hv := hv.2 hc
 refine W.exit (zZt (zZt (zYs (zZ (W.ty [] rfl (W.rL (aB rfl rfl (eL (W.ty [(4, .bool _)] rfl (W.ret (rt (rt_t (v := .bool _) rfl (rt_n (⟨_, zYr _ _ _, true, rfl, hv⟩))))))))))))))
set_option maxHeartbeats 4000000 in
theorem vcp_ints (a : (List Int)) (b : (List Int)) (h0 : a.length <= 9223372036854775807) (h1 : b.length <= 9223372036854775807) : vc_ints a b (fun q0 => q0 = (decide (a = b))) := by
  have bad : ∀ {q : Prop}, (a = b -> q) -> ¬ q -> false = decide (a = b) := fun h k => (decide_eq_false fun e => k (h e)).symm
  refine ⟨fun k => bad (fun e => by rw [e]) k, fun k => ?_⟩
  have k : a.length = b.length := by omega
  refine ⟨fun v => ∃ i : Nat, v = i /\ i <= a.length /\ ∀ q : Nat, q < i -> lat a q = lat b q, fun v => a.length - v.toNat, ⟨0, rfl, by omega, fun q hq => by omega⟩, ?_⟩
  rintro _ ⟨i, rfl, hi, hq⟩
  refine ⟨fun k1 => ⟨⟨by omega, k1⟩, ⟨by omega, by omega⟩, fun k2 => bad (fun e => by rw [e]) k2, fun k2 => ⟨by unfold inI; omega, ⟨i + 1, by omega, by omega, fun q hqi => ?_⟩, dec_lt k1⟩⟩, fun k1 => ?_⟩
  . rcases Nat.lt_or_ge q i with h | h
    . exact hq q h
    . rw [show q = i by omega]; exact Decidable.not_not.1 k2
  . refine (decide_eq_true ?_).symm
    apply List.ext_getElem k
    intro q h1' h2'
    have := hq q (by omega)
    rwa [lat_get h1', lat_get h2'] at this
theorem spec_ints (a : (List Int)) (b : (List Int)) (h0 : a.length <= 9223372036854775807) (h1 : b.length <= 9223372036854775807) : FnP Try.prog 19 [.lst true a.length (zYy zYx a), .lst true b.length (zYy zYx b)] (fun xR => xR = .bool (decide (a = b))) :=
  (walk_ints (vcp_ints a b h0 h1)).mono (by rintro _ ⟨_, rfl, rfl⟩; rfl)
def vc_cmpR (a : Rg) (b : Rg) (Post : Int -> Prop) : Prop :=
  ([cmpM a.op b.op, cmpM a.ver b.ver].length <= 9223372036854775807) /\ Post (orM [cmpM a.op b.op, cmpM a.ver b.ver])
theorem walk_cmpR {a : Rg} {b : Rg} {Post : Int -> Prop} (hv : vc_cmpR a b Post) : FnP Try.prog 56 [.agg (e73 a), .agg (e73 b)] (fun x => ∃ q0, x = .int .i64 q0 /\ Post q0) := by
 refine FnP.of_walk (T := tt) (nt := 17) ttOk ttMix ⟨⟨Try.f56, Try.func56, rfl, rfl, rfl, rfl⟩⟩ (by simp) ?_
 unfold vc_cmpR at hv
 change W _ _ _ ⟨17, look [(0, .agg [.int .i64 a.op, .int .i64 a.ver, .int .i64 a.nu, .int .i64 a.le, .int .i64 a.mo]), (1, .agg [.int .i64 b.op, .int .i64 b.ver, .int .i64 b.nu, .int .i64 b.le, .int .i64 b.mo])], [], 0⟩ _
 refine W.ty [(0, .agg _), (1, .agg _)] rfl (W.rL (cL rfl (o_box (v := .agg _) (p := 0) rfl rfl rfl (cL rfl (o_box (v := .agg _) (p := 1) rfl rfl rfl (aI rfl rfl (eL (W.ty [(2, .ptr _ _), (3, .ptr _ _)] rfl (W.rP [0, 1, 2, 3, 5, 6, 7, 8, 4, 9, 10, 11, 12] (by decide +kernel) rfl (cL rfl (o_fa tt73 rfl tt3 rfl (cL rfl (zZx (v := .int _ _) tt3 rfl rfl ⟨_, rfl⟩ (cL rfl (o_fa tt73 rfl tt3 rfl (cL rfl (zZx (v := .int _ _) tt3 rfl rfl ⟨_, rfl⟩ (cL rfl (o_fa tt73 rfl tt3 rfl (cL rfl (zZx (v := .int _ _) tt3 rfl rfl ⟨_, rfl⟩ (cL rfl (o_fa tt73 rfl tt3 rfl (cL rfl (zZx (v := .int _ _) tt3 rfl rfl ⟨_, rfl⟩ (cL rfl (zZu (k := 37) (fst := []) (caps := []) (ys := [.int _ _, .int _ _]) rfl rfl (spec_cmpI a.op b.op) zk (cL rfl (zZu (k := 37) (fst := []) (caps := []) (ys := [.int _ _, .int _ _]) rfl rfl (spec_cmpI a.ver b.ver) zk (cL rfl (o_buildS (q := 2) (qs := [(0, .int _ _), (1, .int _ _)]) (cs := [.int _ _, .int _ _]) tt22 tt3 rfl rfl rfl rfl ?_)))))))))))))))))))))))))))))))
 obtain ⟨s1, hv⟩ := hv
 refine cL rfl (zZu (k := 36) (fst := []) (caps := []) (ys := [.ref _ _ _]) rfl rfl (spec_orI [cmpM a.op b.op, cmpM a.ver b.ver] s1) (Wks.cons (ag_ref (fl := false) (xs := [cmpM a.op b.op, cmpM a.ver b.ver]) zZw 4 _ rfl rfl) zk) (aI rfl rfl (eL (W.ty [(4, .int _ _)] rfl (W.ret (rt (rt_t (v := .int _ _) rfl (rt_n (⟨_, zY _ _ _ _, (orM [cmpM a.op b.op, cmpM a.ver b.ver]), rfl, hv⟩)))))))))
set_option maxHeartbeats 4000000 in
theorem vcp_cmpR (a : Rg) (b : Rg)  : vc_cmpR a b (fun q0 => q0 = (cmpR a b)) := by
  exact ⟨by simp, rfl⟩
theorem spec_cmpR (a : Rg) (b : Rg)  : FnP Try.prog 56 [.agg (e73 a), .agg (e73 b)] (fun xR => xR = .int .i64 (cmpR a b)) :=
  (walk_cmpR (vcp_cmpR a b)).mono (by rintro _ ⟨_, rfl, rfl⟩; rfl)
def vc_bsR (l : (List Rg)) (x : Rg) (Post : Int -> Bool -> Prop) : Prop :=
  ∃ (I1 : Int -> Int -> Prop) (μ1 : Int -> Int -> Nat), I1 (0 : Int) (l.length : Int) /\ ∀ (v9 : Int) (v10 : Int), I1 v9 v10 -> ((v9 < v10) -> (inI (v9 + v10)) /\ (0 <= (IntKind.i64.wrap ((IntKind.u64.wrap (v9 + v10)).fdiv (2 ^ (min (1 : Int).toNat 64)))) /\ (IntKind.i64.wrap ((IntKind.u64.wrap (v9 + v10)).fdiv (2 ^ (min (1 : Int).toNat 64)))) < (l.length : Int)) /\ (((cmpR (lat l (IntKind.i64.wrap ((IntKind.u64.wrap (v9 + v10)).fdiv (2 ^ (min (1 : Int).toNat 64))))) x) < (0 : Int)) -> (inI ((IntKind.i64.wrap ((IntKind.u64.wrap (v9 + v10)).fdiv (2 ^ (min (1 : Int).toNat 64)))) + (1 : Int))) /\ (I1 ((IntKind.i64.wrap ((IntKind.u64.wrap (v9 + v10)).fdiv (2 ^ (min (1 : Int).toNat 64)))) + (1 : Int)) v10 /\ μ1 ((IntKind.i64.wrap ((IntKind.u64.wrap (v9 + v10)).fdiv (2 ^ (min (1 : Int).toNat 64)))) + (1 : Int)) v10 < μ1 v9 v10)) /\ (¬ ((cmpR (lat l (IntKind.i64.wrap ((IntKind.u64.wrap (v9 + v10)).fdiv (2 ^ (min (1 : Int).toNat 64))))) x) < (0 : Int)) -> (I1 v9 (IntKind.i64.wrap ((IntKind.u64.wrap (v9 + v10)).fdiv (2 ^ (min (1 : Int).toNat 64)))) /\ μ1 v9 (IntKind.i64.wrap ((IntKind.u64.wrap (v9 + v10)).fdiv (2 ^ (min (1 : Int).toNat 64)))) < μ1 v9 v10))) /\ (¬ (v9 < v10) -> (((v9 < (l.length : Int)) -> (0 <= v9 /\ v9 < (l.length : Int)) /\ True) /\ (¬ (v9 < (l.length : Int)) -> True)) /\ (Post v9 (decide ((v9 < (l.length : Int)) /\ (cmpR (lat l v9) x = (0 : Int))))))
theorem walk_bsR {l : (List Rg)} {x : Rg} {Post : Int -> Bool -> Prop} (hv : vc_bsR l x Post) : FnP Try.prog 55 [.lst true l.length (zYy e73 l), .agg (e73 x), .clo 56 [] []] (fun x => ∃ q0 q1, x = .tup [.int .i64 q0, .bool q1] /\ Post q0 q1) := by
 refine FnP.of_walk (T := tt) (nt := 49) ttOk ttMix ⟨⟨Try.f55, Try.func55, rfl, rfl, rfl, rfl⟩⟩ (by simp) ?_
 unfold vc_bsR at hv
 change W _ _ _ ⟨49, look [(0, .lst true l.length (zYy e73 l)), (1, .agg [.int .i64 x.op, .int .i64 x.ver, .int .i64 x.nu, .int .i64 x.le, .int .i64 x.mo]), (2, .clo 56 [] [])], [], 0⟩ _
 refine W.ty [(0, .lst _ _ _), (1, .agg _), (2, .clo _ _ _)] rfl (W.rL (cL rfl (o_box (v := .agg _) (p := 0) rfl rfl rfl (aI rfl rfl (aB rfl rfl (eL (W.ty [(0, .lst _ _ _), (2, .clo _ _ _), (4, .ptr _ _)] rfl (W.rL (mL rfl rfl (cL rfl (zXw (v := .lst _ _ _) tt32 rfl rfl (aI rfl rfl (eL (W.ty [(0, .lst _ _ _), (2, .clo _ _ _), (4, .ptr _ _), (8, .int _ _)] rfl (W.rL (mI rfl rfl ?_))))))))))))))))
 iterate 2 refine aI rfl rfl ?_
 refine eL (W.ty [(0, .lst _ _ _), (2, .clo _ _ _), (4, .ptr _ _), (8, .int _ _), (9, .int _ _), (10, .int _ _)] rfl (W.seq' (W.block ?_)))
 obtain ⟨I1, μ1, hp, hv⟩ := hv
 refine W.loop2 (fun v9 v10 => ⟨49, look [(0, .lst true l.length (zYy e73 l)), (2, .clo 56 [] []), (4, .ptr 0 0), (8, .int .i64 (l.length : Int)), (9, .int .i64 v9), (10, .int .i64 v10)], [.box 73 [.int .i64 x.op, .int .i64 x.ver, .int .i64 x.nu, .int .i64 x.le, .int .i64 x.mo]], 0⟩) I1 μ1 (0 : Int) (l.length : Int) (St.to_mk (φ := [some 0]) rfl (rfl) ⟨Ren.lst _ _ _, Ren.clo _ (Rens.nil) (Rens.nil), Ren.ptr rfl, Ren.int _ _, Ren.int _ _, Ren.int _ _, trivial⟩ ⟨(zB rfl rfl), trivial⟩) hp ?_
 clear hp
 intro v9 v10 hI
 replace hv := hv v9 v10 hI
 clear hI
 refine W.seq' (W.rL ?_)
 iterate 2 refine mI rfl rfl ?_
 refine cL rfl (zYq rfl rfl (eL (W.ty [(0, .lst _ _ _), (2, .clo _ _ _), (4, .ptr _ _), (8, .int _ _), (9, .int _ _), (10, .int _ _), (17, .bool _)] rfl (W.cn rfl (fun hc => ?_) (fun hc => ?_)))))
 have hv := hv.1 hc
 refine W.skip (zZ (W.ty [(0, .lst _ _ _), (2, .clo _ _ _), (4, .ptr _ _), (8, .int _ _), (9, .int _ _), (10, .int _ _)] rfl (W.block (W.rL ?_))))
 iterate 2 refine mI rfl rfl ?_
 obtain ⟨s10, hv⟩ := hv
 refine cL rfl (o_add rfl rfl s10 (cL rfl (o_conv tt3 tt121 rfl rfl (cL rfl (o_shr rfl rfl (by decide) (cL rfl (o_conv tt121 tt3 rfl rfl (aI rfl rfl (eL (W.ty [(0, .lst _ _ _), (2, .clo _ _ _), (4, .ptr _ _), (8, .int _ _), (9, .int _ _), (10, .int _ _), (11, .int _ _)] rfl (W.rD [0, 1, 2, 3, 4, 5, 6, 7] (by decide +kernel) rfl (cL rfl (zZp (v := .clo _ _ _) rfl (mL rfl rfl (mI rfl rfl ?_)))))))))))))))
 obtain ⟨s11, hv⟩ := hv
 refine cL rfl (zYu tt32 tt73 rfl rfl (enc73.wd true) rfl s11 ?_)
 intro rest11
 iterate 2 refine cL rfl (zYp (cs := [.int _ _, .int _ _, .int _ _, .int _ _, .int _ _]) tt73 rfl rfl ⟨_, rfl⟩ rfl ?_)
 refine cL rfl (zZu (k := 56) (fst := []) (caps := []) (ys := [.agg _, .agg _]) rfl rfl (spec_cmpR (lat l (IntKind.i64.wrap ((IntKind.u64.wrap (v9 + v10)).fdiv (2 ^ (min (1 : Int).toNat 64))))) x) zk (cL rfl (zYq rfl rfl (eL (W.ty [(0, .lst _ _ _), (2, .clo _ _ _), (4, .ptr _ _), (8, .int _ _), (9, .int _ _), (10, .int _ _), (11, .int _ _), (31, .bool _)] rfl (W.cn rfl (fun hc => ?_) (fun hc => ?_)))))))
 have hv := hv.1 hc
 refine W.rL1 (mI rfl rfl ?_)
 obtain ⟨s12, hv⟩ := hv
 refine cL rfl (o_add rfl rfl s12 (aI rfl rfl (eL (zYv (zZ (⟨(), ((IntKind.i64.wrap ((IntKind.u64.wrap (v9 + v10)).fdiv (2 ^ (min (1 : Int).toNat 64)))) + (1 : Int)), v10, hv, St.to_mk (φ := [some 0]) rfl (rfl) ⟨Ren.lst _ _ _, Ren.clo _ (Rens.nil) (Rens.nil), Ren.ptr rfl, Ren.int _ _, Ren.int _ _, Ren.int _ _, trivial⟩ ⟨(zB rfl rfl), trivial⟩⟩))))))
 have hv := hv.2 hc
 refine W.rL1 (mI rfl rfl (aI rfl rfl (eL (zYv (zZ (⟨(), v9, (IntKind.i64.wrap ((IntKind.u64.wrap (v9 + v10)).fdiv (2 ^ (min (1 : Int).toNat 64)))), hv, St.to_mk (φ := [some 0]) rfl (rfl) ⟨Ren.lst _ _ _, Ren.clo _ (Rens.nil) (Rens.nil), Ren.ptr rfl, Ren.int _ _, Ren.int _ _, Ren.int _ _, trivial⟩ ⟨(zB rfl rfl), trivial⟩⟩))))))
 have hv := hv.2 hc
 refine W.exit (zZt (zZt (zYs (zZ (W.ty [(0, .lst _ _ _), (2, .clo _ _ _), (4, .ptr _ _), (8, .int _ _), (9, .int _ _)] rfl ?_)))))
 obtain ⟨sd, hv⟩ := hv
 refine W.rDm ⟨49, look [(6, .int .i64 v9), (7, .bool (decide ((v9 < (l.length : Int)) /\ (cmpR (lat l v9) x = (0 : Int)))))], [.box 73 [.int .i64 x.op, .int .i64 x.ver, .int .i64 x.nu, .int .i64 x.le, .int .i64 x.mo]], 0⟩ [0, 1, 2, 3, 4, 5, 6, 7, 8, 9, 10, 11, 12, 13, 14, 15] (by decide +kernel) rfl ?_ ?_
 iterate 3 refine mI rfl rfl ?_
 refine cL rfl (zYq rfl rfl (mB rfl rfl ?_))
 by_cases c1 : v9 < (l.length : Int)
 have sd := sd.1 c1
 refine cLg rfl rfl (dT c1) (cL rfl (zZp (v := .clo _ _ _) rfl (cLg rfl rfl (dT c1) (mL rfl rfl (cLg rfl rfl (dT c1) (mI rfl rfl (cLg rfl rfl (dT c1) ?_)))))))
 obtain ⟨s14, sd⟩ := sd
 refine cL rfl (zYu tt32 tt73 rfl rfl (enc73.wd true) rfl s14 ?_)
 intro rest14
 refine cLg rfl rfl (dT c1) (cL rfl (zYp (cs := [.int _ _, .int _ _, .int _ _, .int _ _, .int _ _]) tt73 rfl rfl ⟨_, rfl⟩ rfl (cLg rfl rfl (dT c1) (cL rfl (zYp (cs := [.int _ _, .int _ _, .int _ _, .int _ _, .int _ _]) tt73 rfl rfl ⟨_, rfl⟩ rfl (cLg rfl rfl (dT c1) (cL rfl (zZu (k := 56) (fst := []) (caps := []) (ys := [.agg _, .agg _]) rfl rfl (spec_cmpR (lat l v9) x) zk (cLg rfl rfl (dT c1) (cL rfl (o_eqI rfl rfl rfl (cL rfl (zZv (v := .bool _) rfl (dT c1) rfl (aI rfl rfl (aB rfl rfl (eL (zYz ⟨rfl, (congrArg AV.bool (zXv c1 (rfl))).symm, trivial⟩ rfl)))))))))))))))))
 iterate 8 refine cLs rfl rfl rfl (dF c1) ?_
 refine cL rfl (zZy (v := .bool _) rfl (dF c1) rfl (aI rfl rfl (aB rfl rfl (eL (zYz ⟨rfl, (congrArg AV.bool (dAndF c1)).symm, trivial⟩ rfl)))))
 refine W.ret (rt (rt_t (v := .int _ _) rfl (rt_t (v := .bool _) rfl (rt_n (⟨_, rs_tup 5 _ (Wks.cons (zY _ _ _ _) (Wks.cons (zYr _ _ _) zk)), v9, (decide ((v9 < (l.length : Int)) /\ (cmpR (lat l v9) x = (0 : Int)))), rfl, hv⟩)))))
set_option maxHeartbeats 4000000 in
theorem vcp_bsR (l : (List Rg)) (x : Rg) (h0 : l.length <= 1073741824) : vc_bsR l x (fun q0 q1 => q0 = (bsM l x).1 /\ q1 = (bsM l x).2) := by
  unfold vc_bsR
  refine ⟨fun i j => (0 <= i /\ i <= j /\ j <= (l.length : Int)) /\ ∀ n : Nat, j - i < n -> bsGo l x n i j = bsI l x, fun i j => (j - i).toNat, ⟨⟨by omega, by omega, by omega⟩, fun n hn => bsGo_fuel _ _ _ _ _ _ (by omega) hn (by omega)⟩, ?_⟩
  rintro i j ⟨⟨b1, b2, b3⟩, hI⟩
  refine ⟨fun k => ?_, fun k => ⟨⟨fun k2 => ⟨⟨b1, k2⟩, trivial⟩, fun _ => trivial⟩, ?_⟩⟩
  . rw [half_wrap ⟨by omega, by omega⟩]
    have ht : (i + j).tdiv 2 = (i + j) / 2 := Int.tdiv_eq_ediv_of_nonneg (by omega)
    have step : ∀ n : Nat, bsGo l x (n + 1) i j = if cmpR (lat l ((i + j).tdiv 2)) x < 0 then bsGo l x n ((i + j).tdiv 2 + 1) j else bsGo l x n i ((i + j).tdiv 2) := fun n => by
      conv => lhs; unfold bsGo
      rw [if_pos k]
    refine ⟨by unfold inI; omega, ⟨by omega, by omega⟩, fun c => ⟨by unfold inI; omega, ⟨⟨by omega, by omega, b3⟩, fun n hn => ?_⟩, by show (j - _).toNat < (j - i).toNat; omega⟩, fun c => ⟨⟨⟨b1, by omega, by omega⟩, fun n hn => ?_⟩, by show (_ - i).toNat < (j - i).toNat; omega⟩⟩
    . have := hI ((j - i).toNat + n + 1) (by omega)
      rw [step, if_pos c] at this
      rw [<- this]
      exact bsGo_fuel _ _ _ _ _ _ (by omega) hn (by omega)
    . have := hI ((j - i).toNat + n + 1) (by omega)
      rw [step, if_neg c] at this
      rw [<- this]
      exact bsGo_fuel _ _ _ _ _ _ (by omega) hn (by omega)
  . have := hI 1 (by omega)
    have e : bsGo l x 1 i j = i := by unfold bsGo; rw [if_neg k]
    rw [e] at this
    subst this
    exact ⟨rfl, rfl⟩
theorem spec_bsR (l : (List Rg)) (x : Rg) (h0 : l.length <= 1073741824) : FnP Try.prog 55 [.lst true l.length (zYy e73 l), .agg (e73 x), .clo 56 [] []] (fun xR => xR = .tup [.int .i64 ((bsM l x).1), .bool ((bsM l x).2)]) :=
  (walk_bsR (vcp_bsR l x h0)).mono (by rintro _ ⟨_, _, rfl, rfl, rfl⟩; rfl)
def vc_vranges (l : (List Rg)) (Post : Bool -> Prop) : Prop :=
  ∃ (I1 : Int -> Prop) (μ1 : Int -> Nat), I1 (0 : Int) /\ ∀ (v7 : Int), I1 v7 -> ((v7 < (l.length : Int)) -> (0 <= v7 /\ v7 < (l.length : Int)) /\ (((¬ ((inM ((lat l v7).op) (0 : Int) (11 : Int)) = true)) -> True) /\ (¬ (¬ ((inM ((lat l v7).op) (0 : Int) (11 : Int)) = true)) -> ((¬ ((inM ((lat l v7).ver) (0 : Int) (9 : Int)) = true)) -> True) /\ (¬ (¬ ((inM ((lat l v7).ver) (0 : Int) (9 : Int)) = true)) -> ((¬ ((inM ((lat l v7).nu) (1 : Int) (1000000 : Int)) = true)) -> True) /\ (¬ (¬ ((inM ((lat l v7).nu) (1 : Int) (1000000 : Int)) = true)) -> ((¬ ((inM ((lat l v7).le) (0 : Int) ((lat l v7).mo)) = true)) -> True) /\ (¬ (¬ ((inM ((lat l v7).le) (0 : Int) ((lat l v7).mo)) = true)) -> (((4398046511104 : Int) < ((lat l v7).mo)) -> True) /\ (¬ ((4398046511104 : Int) < ((lat l v7).mo)) -> (((0 : Int) < v7) -> (inI (v7 - (1 : Int))) /\ (0 <= (v7 - (1 : Int)) /\ (v7 - (1 : Int)) < (l.length : Int)) /\ True) /\ (¬ ((0 : Int) < v7) -> True))))))) /\ ((((¬ ((inM ((lat l v7).op) (0 : Int) (11 : Int)) = true)) \/ ((¬ ((inM ((lat l v7).ver) (0 : Int) (9 : Int)) = true)) \/ ((¬ ((inM ((lat l v7).nu) (1 : Int) (1000000 : Int)) = true)) \/ ((¬ ((inM ((lat l v7).le) (0 : Int) ((lat l v7).mo)) = true)) \/ (((4398046511104 : Int) < ((lat l v7).mo)) \/ (((0 : Int) < v7) /\ ((0 : Int) <= (cmpR (lat l (v7 - (1 : Int))) (lat l v7))))))))) -> Post false) /\ (¬ ((¬ ((inM ((lat l v7).op) (0 : Int) (11 : Int)) = true)) \/ ((¬ ((inM ((lat l v7).ver) (0 : Int) (9 : Int)) = true)) \/ ((¬ ((inM ((lat l v7).nu) (1 : Int) (1000000 : Int)) = true)) \/ ((¬ ((inM ((lat l v7).le) (0 : Int) ((lat l v7).mo)) = true)) \/ (((4398046511104 : Int) < ((lat l v7).mo)) \/ (((0 : Int) < v7) /\ ((0 : Int) <= (cmpR (lat l (v7 - (1 : Int))) (lat l v7))))))))) -> (inI (v7 + (1 : Int))) /\ (I1 (v7 + (1 : Int)) /\ μ1 (v7 + (1 : Int)) < μ1 v7)))) /\ (¬ (v7 < (l.length : Int)) -> Post true)
theorem walk_vranges {l : (List Rg)} {Post : Bool -> Prop} (hv : vc_vranges l Post) : FnP Try.prog 57 [.lst true l.length (zYy e73 l)] (fun x => ∃ q0, x = .bool q0 /\ Post q0) := by
 refine FnP.of_walk (T := tt) (nt := 56) ttOk ttMix ⟨⟨Try.f57, Try.func57, rfl, rfl, rfl, rfl⟩⟩ (by simp) ?_
 unfold vc_vranges at hv
 change W _ _ _ ⟨56, look [(0, .lst true l.length (zYy e73 l))], [], 0⟩ _
 refine W.ty [(0, .lst _ _ _)] rfl (W.rL (aB rfl rfl (eL (W.ty [(0, .lst _ _ _)] rfl (W.seq' (W.rL (mL rfl rfl (cL rfl (zXw (v := .lst _ _ _) tt32 rfl rfl (mI rfl rfl (eL (W.ty [(0, .lst _ _ _), (5, .lst _ _ _), (6, .int _ _), (7, .int _ _)] rfl (W.block ?_)))))))))))))
 obtain ⟨I1, μ1, hp, hv⟩ := hv
 refine W.loop1 (fun v7 => ⟨56, look [(0, .lst true l.length (zYy e73 l)), (5, .lst true l.length (zYy e73 l)), (6, .int .i64 (l.length : Int)), (7, .int .i64 v7)], [], 0⟩) I1 μ1 (0 : Int) (St.to_mk (φ := []) rfl (rfl) (zT rfl rfl) trivial) hp ?_
 clear hp
 intro v7 hI
 replace hv := hv v7 hI
 clear hI
 refine W.rL (cL rfl (zYq rfl rfl (eL (W.ty [(0, .lst _ _ _), (5, .lst _ _ _), (6, .int _ _), (7, .int _ _), (8, .bool _)] rfl (W.seq' (W.cn rfl (fun hc => ?_) (fun hc => ?_)))))))
 have hv := hv.1 hc
 refine W.skip (zZ (W.ty [(0, .lst _ _ _), (5, .lst _ _ _), (6, .int _ _), (7, .int _ _)] rfl (W.seq' (W.block (W.rL (mI rfl rfl ?_))))))
 obtain ⟨s39, hv⟩ := hv
 refine cL rfl (zYu tt32 tt73 rfl rfl (enc73.wd true) rfl s39 ?_)
 intro rest39
 refine cL rfl (zYp (cs := [.int _ _, .int _ _, .int _ _, .int _ _, .int _ _]) tt73 rfl rfl ⟨_, rfl⟩ rfl (cL rfl (zXy (p := 0) tt73 rfl rfl (aI rfl rfl (cLn (o_stB (v := .agg _) (vs := [.int _ _, .int _ _, .int _ _, .int _ _, .int _ _]) (cs2 := [.int _ _, .int _ _, .int _ _, .int _ _, .int _ _]) tt73 rfl rfl rfl rfl rfl (Nat.le_of_ble_eq_true rfl) rfl (eL (W.ty [(0, .lst _ _ _), (3, .int _ _), (4, .ptr _ _), (5, .lst _ _ _), (6, .int _ _), (7, .int _ _)] rfl ?_))))))))
 obtain ⟨sd, hv⟩ := hv
 refine W.rDm ⟨56, look [(0, .lst true l.length (zYy e73 l)), (5, .lst true l.length (zYy e73 l)), (6, .int .i64 (l.length : Int)), (7, .int .i64 v7), (54, .bool (decide ((¬ ((inM ((lat l v7).op) (0 : Int) (11 : Int)) = true)) \/ ((¬ ((inM ((lat l v7).ver) (0 : Int) (9 : Int)) = true)) \/ ((¬ ((inM ((lat l v7).nu) (1 : Int) (1000000 : Int)) = true)) \/ ((¬ ((inM ((lat l v7).le) (0 : Int) ((lat l v7).mo)) = true)) \/ (((4398046511104 : Int) < ((lat l v7).mo)) \/ (((0 : Int) < v7) /\ ((0 : Int) <= (cmpR (lat l (v7 - (1 : Int))) (lat l v7)))))))))))], [.box 73 [.int .i64 ((lat l v7).op), .int .i64 ((lat l v7).ver), .int .i64 ((lat l v7).nu), .int .i64 ((lat l v7).le), .int .i64 ((lat l v7).mo)]], 0⟩ [0, 1, 2, 3, 4, 5, 6, 7, 8, 9, 10, 11, 12, 13, 14, 15, 16, 17, 18, 19, 20, 21, 22, 23, 24, 25, 26, 27, 28, 29, 30, 31, 32, 33, 34, 35, 36, 37, 38, 39, 40, 41, 42] (by decide +kernel) rfl ?_ ?_
 refine cL rfl (o_fa tt73 rfl tt3 rfl (cL rfl (zZx (v := .int _ _) tt3 rfl rfl ⟨_, rfl⟩ (cL rfl (zZu (k := 47) (fst := []) (caps := []) (ys := [.int _ _, .int _ _, .int _ _]) rfl rfl (spec_inr ((lat l v7).op) (0 : Int) (11 : Int)) zk (cL rfl (o_notB rfl (mB rfl rfl ?_))))))))
 by_cases c1 : ¬ ((inM ((lat l v7).op) (0 : Int) (11 : Int)) = true)
 iterate 4 refine cLs rfl rfl rfl (dT c1) ?_
 refine cL rfl (zZv (v := .bool _) rfl (dT c1) rfl (mB rfl rfl ?_))
 iterate 4 refine cLs rfl rfl rfl (rfl) ?_
 refine cL rfl (zZv (v := .bool _) rfl rfl rfl (mB rfl rfl ?_))
 iterate 6 refine cLs rfl rfl rfl (rfl) ?_
 refine cL rfl (zZv (v := .bool _) rfl rfl rfl (mB rfl rfl ?_))
 iterate 3 refine cLs rfl rfl rfl (rfl) ?_
 refine cL rfl (zZv (v := .bool _) rfl rfl rfl (mB rfl rfl ?_))
 iterate 3 refine cLs rfl rfl rfl (rfl) ?_
 iterate 4 refine cLu rfl rfl rfl ?_
 iterate 4 refine cLu rfl rfl (by kernel_rfl) ?_
 refine cLs rfl rfl rfl (rfl) (cL rfl (zZv (v := .bool _) rfl rfl rfl (eL (zYz ⟨rfl, rfl, rfl, rfl, (congrArg AV.bool (dOrT c1)).symm, trivial⟩ rfl))))
 have sd := sd.2 c1
 refine cLg rfl rfl (dF c1) (cL rfl (o_fa tt73 rfl tt3 rfl (cLg rfl rfl (dF c1) (cL rfl (zZx (v := .int _ _) tt3 rfl rfl ⟨_, rfl⟩ (cLg rfl rfl (dF c1) (cL rfl (zZu (k := 47) (fst := []) (caps := []) (ys := [.int _ _, .int _ _, .int _ _]) rfl rfl (spec_inr ((lat l v7).ver) (0 : Int) (9 : Int)) zk (cLg rfl rfl (dF c1) (cL rfl (o_notB rfl (cL rfl (zZy (v := .bool _) rfl (dF c1) rfl (mB rfl rfl ?_))))))))))))))
 by_cases c2 : ¬ ((inM ((lat l v7).ver) (0 : Int) (9 : Int)) = true)
 iterate 4 refine cLs rfl rfl rfl (dT c2) ?_
 refine cL rfl (zZv (v := .bool _) rfl (dT c2) rfl (mB rfl rfl ?_))
 iterate 6 refine cLs rfl rfl rfl (rfl) ?_
 refine cL rfl (zZv (v := .bool _) rfl rfl rfl (mB rfl rfl ?_))
 iterate 3 refine cLs rfl rfl rfl (rfl) ?_
 refine cL rfl (zZv (v := .bool _) rfl rfl rfl (mB rfl rfl ?_))
 iterate 3 refine cLs rfl rfl rfl (rfl) ?_
 iterate 4 refine cLu rfl rfl rfl ?_
 iterate 4 refine cLu rfl rfl (by kernel_rfl) ?_
 refine cLs rfl rfl rfl (rfl) (cL rfl (zZv (v := .bool _) rfl rfl rfl (eL (zYz ⟨rfl, rfl, rfl, rfl, (congrArg AV.bool (dOrF c1 (dOrT c2))).symm, trivial⟩ rfl))))
 have sd := sd.2 c2
 refine cLg rfl rfl (dF c2) (cL rfl (o_fa tt73 rfl tt3 rfl (cLg rfl rfl (dF c2) (cL rfl (zZx (v := .int _ _) tt3 rfl rfl ⟨_, rfl⟩ (cLg rfl rfl (dF c2) (cL rfl (zZu (k := 47) (fst := []) (caps := []) (ys := [.int _ _, .int _ _, .int _ _]) rfl rfl (spec_inr ((lat l v7).nu) (1 : Int) (1000000 : Int)) zk (cLg rfl rfl (dF c2) (cL rfl (o_notB rfl (cL rfl (zZy (v := .bool _) rfl (dF c2) rfl (mB rfl rfl ?_))))))))))))))
 by_cases c3 : ¬ ((inM ((lat l v7).nu) (1 : Int) (1000000 : Int)) = true)
 iterate 6 refine cLs rfl rfl rfl (dT c3) ?_
 refine cL rfl (zZv (v := .bool _) rfl (dT c3) rfl (mB rfl rfl ?_))
 iterate 3 refine cLs rfl rfl rfl (rfl) ?_
 refine cL rfl (zZv (v := .bool _) rfl rfl rfl (mB rfl rfl ?_))
 iterate 3 refine cLs rfl rfl rfl (rfl) ?_
 iterate 4 refine cLu rfl rfl rfl ?_
 iterate 4 refine cLu rfl rfl (by kernel_rfl) ?_
 refine cLs rfl rfl rfl (rfl) (cL rfl (zZv (v := .bool _) rfl rfl rfl (eL (zYz ⟨rfl, rfl, rfl, rfl, (congrArg AV.bool (dOrF c1 (dOrF c2 (dOrT c3)))).symm, trivial⟩ rfl))))
 have sd := sd.2 c3
 refine cLg rfl rfl (dF c3) (cL rfl (o_fa tt73 rfl tt3 rfl (cLg rfl rfl (dF c3) (cL rfl (zZx (v := .int _ _) tt3 rfl rfl ⟨_, rfl⟩ (cLg rfl rfl (dF c3) (cL rfl (o_fa tt73 rfl tt3 rfl (cLg rfl rfl (dF c3) (cL rfl (zZx (v := .int _ _) tt3 rfl rfl ⟨_, rfl⟩ (cLg rfl rfl (dF c3) (cL rfl (zZu (k := 47) (fst := []) (caps := []) (ys := [.int _ _, .int _ _, .int _ _]) rfl rfl (spec_inr ((lat l v7).le) (0 : Int) ((lat l v7).mo)) zk (cLg rfl rfl (dF c3) (cL rfl (o_notB rfl (cL rfl (zZy (v := .bool _) rfl (dF c3) rfl (mB rfl rfl ?_))))))))))))))))))))
 by_cases c4 : ¬ ((inM ((lat l v7).le) (0 : Int) ((lat l v7).mo)) = true)
 iterate 3 refine cLs rfl rfl rfl (dT c4) ?_
 refine cL rfl (zZv (v := .bool _) rfl (dT c4) rfl (mB rfl rfl ?_))
 iterate 3 refine cLs rfl rfl rfl (rfl) ?_
 iterate 4 refine cLu rfl rfl rfl ?_
 iterate 4 refine cLu rfl rfl (by kernel_rfl) ?_
 refine cLs rfl rfl rfl (rfl) (cL rfl (zZv (v := .bool _) rfl rfl rfl (eL (zYz ⟨rfl, rfl, rfl, rfl, (congrArg AV.bool (dOrF c1 (dOrF c2 (dOrF c3 (dOrT c4))))).symm, trivial⟩ rfl))))
 have sd := sd.2 c4
 refine cLg rfl rfl (dF c4) (cL rfl (o_fa tt73 rfl tt3 rfl (cLg rfl rfl (dF c4) (cL rfl (zZx (v := .int _ _) tt3 rfl rfl ⟨_, rfl⟩ (cLg rfl rfl (dF c4) (cL rfl (o_gtr rfl rfl (cL rfl (zZy (v := .bool _) rfl (dF c4) rfl (mB rfl rfl ?_)))))))))))
 by_cases c5 : (4398046511104 : Int) < ((lat l v7).mo)
 iterate 3 refine cLs rfl rfl rfl (dT c5) ?_
 iterate 4 refine cLu rfl rfl rfl ?_
 iterate 4 refine cLu rfl rfl (by kernel_rfl) ?_
 refine cLs rfl rfl rfl (dT c5) (cL rfl (zZv (v := .bool _) rfl (dT c5) rfl (eL (zYz ⟨rfl, rfl, rfl, rfl, (congrArg AV.bool (dOrF c1 (dOrF c2 (dOrF c3 (dOrF c4 (dOrT c5)))))).symm, trivial⟩ rfl))))
 have sd := sd.2 c5
 refine cLg rfl rfl (dF c5) (mI rfl rfl (cLg rfl rfl (dF c5) (cL rfl (o_gtr rfl rfl (cLg rfl rfl (dF c5) (mB rfl rfl ?_))))))
 by_cases c6 : (0 : Int) < v7
 have sd := sd.1 c6
 refine cLg rfl rfl (dT c6) (mL rfl rfl (cLg rfl rfl (dT c6) (mI rfl rfl (cLg rfl rfl (dT c6) ?_))))
 obtain ⟨s42, sd⟩ := sd
 refine cL rfl (o_sub rfl rfl s42 (cLg rfl rfl (dT c6) ?_))
 obtain ⟨s43, sd⟩ := sd
 refine cL rfl (zYu tt32 tt73 rfl rfl (enc73.wd true) rfl s43 ?_)
 intro rest43
 refine cLg rfl rfl (dT c6) (cL rfl (zYp (cs := [.int _ _, .int _ _, .int _ _, .int _ _, .int _ _]) tt73 rfl rfl ⟨_, rfl⟩ rfl (cLg rfl rfl (dT c6) (cL rfl (zYp (cs := [.int _ _, .int _ _, .int _ _, .int _ _, .int _ _]) tt73 rfl rfl ⟨_, rfl⟩ rfl (cLg rfl rfl (dT c6) (cL rfl (zZu (k := 56) (fst := []) (caps := []) (ys := [.agg _, .agg _]) rfl rfl (spec_cmpR (lat l (v7 - (1 : Int))) (lat l v7)) zk (cLg rfl rfl (dT c6) (cL rfl (o_geq rfl rfl (cLg rfl rfl (dF c5) (cL rfl (zZv (v := .bool _) rfl (dT c6) rfl (cL rfl (zZy (v := .bool _) rfl (dF c5) rfl (eL (zYz ⟨rfl, rfl, rfl, rfl, (congrArg AV.bool (dOrF c1 (dOrF c2 (dOrF c3 (dOrF c4 (dOrF c5 (zXv c6 (rfl)))))))).symm, trivial⟩ rfl))))))))))))))))))
 iterate 8 refine cLs rfl rfl rfl (dF c6) ?_
 refine cLg rfl rfl (dF c5) (cL rfl (zZy (v := .bool _) rfl (dF c6) rfl (cL rfl (zZy (v := .bool _) rfl (dF c5) rfl (eL (zYz ⟨rfl, rfl, rfl, rfl, (congrArg AV.bool (dOrF c1 (dOrF c2 (dOrF c3 (dOrF c4 (dOrF c5 (dAndF c6))))))).symm, trivial⟩ rfl))))))
 refine W.cn rfl (fun hc => ?_) (fun hc => ?_)
 have hv := hv.1 hc
 refine W.rL (aB rfl rfl (eL (W.ty [(2, .bool _)] rfl (W.ret (zYt (zZr (zZr (zYt (zZr (rt (rt_t (v := .bool _) rfl (rt_n (⟨_, zYr _ _ _, false, rfl, hv⟩)))))))))))))
 have hv := hv.2 hc
 refine W.skip (zYv (zZ (W.ty [(0, .lst _ _ _), (5, .lst _ _ _), (6, .int _ _), (7, .int _ _)] rfl (W.rL1 ?_))))
 obtain ⟨s44, hv⟩ := hv
 refine cL rfl (o_add rfl rfl s44 (mI rfl rfl (eL (zZ (⟨(), (v7 + (1 : Int)), hv, St.to_mk (φ := []) rfl (rfl) (zT rfl rfl) trivial⟩)))))
 have hv := hv.2 hc
 refine W.exit (zZt (zZt (zYs (zZ (W.ty [] rfl (W.rL (aB rfl rfl (eL (W.ty [(2, .bool _)] rfl (W.ret (rt (rt_t (v := .bool _) rfl (rt_n (⟨_, zYr _ _ _, true, rfl, hv⟩))))))))))))))
set_option maxHeartbeats 4000000 in
theorem vcp_vranges (l : (List Rg)) (h0 : l.length <= 9223372036854775807) : vc_vranges l (fun q0 => q0 = (validRgs l)) := by
  have e1 : ∀ n lo hi : Int, (inM n lo hi = true) = (lo <= n /\ n <= hi) := fun n lo hi => by unfold inM; simp
  have bad : ∀ {q : Prop}, (RgsOk l -> q) -> ¬ q -> false = validRgs l := fun h k => by
    rcases hv : validRgs l with _ | _
    . rfl
    . exact absurd (h ((validRgs_iff l).1 hv)) k
  unfold vc_vranges
  simp only [e1, Decidable.not_not]
  refine ⟨fun v => ∃ i : Nat, v = i /\ i <= l.length /\ (∀ a : Nat, a < i -> (0 <= (lat l a).op /\ (lat l a).op <= 11) /\ (0 <= (lat l a).ver /\ (lat l a).ver <= 9) /\ (1 <= (lat l a).nu /\ (lat l a).nu <= 1000000) /\ (0 <= (lat l a).le /\ (lat l a).le <= (lat l a).mo) /\ (lat l a).mo <= 4398046511104) /\ ∀ a : Nat, a + 1 < i -> cmpR (lat l a) (lat l ((a + 1 : Nat) : Int)) < 0, fun v => l.length - v.toNat, ⟨0, rfl, by omega, fun a ha => by omega, fun a ha => by omega⟩, ?_⟩
  rintro _ ⟨i, rfl, hi, hx, ho⟩
  refine ⟨fun k1 => ⟨⟨by omega, k1⟩, ⟨fun _ => trivial, fun _ => ⟨fun _ => trivial, fun _ => ⟨fun _ => trivial, fun _ => ⟨fun _ => trivial, fun _ => ⟨fun _ => trivial, fun _ => ⟨fun k => ⟨by unfold inI; omega, ⟨by omega, by omega⟩, trivial⟩, fun _ => trivial⟩⟩⟩⟩⟩⟩, fun k2 => ?_, fun k2 => ?_⟩, fun k1 => ?_⟩
  . by_cases hc : 0 < (i : Int) /\ 0 <= cmpR (lat l ((i : Int) - 1)) (lat l (i : Int))
    . obtain ⟨q, rfl⟩ : ∃ q, i = q + 1 := ⟨i - 1, by omega⟩
      rw [show (((q + 1 : Nat) : Int) - 1) = (q : Int) by omega] at hc
      exact bad (fun h => h.ord q (by omega)) (by omega)
    . exact bad (fun h => h.ok i (by omega)) (by omega)
  . have hk : ((0 <= (lat l (i : Int)).op /\ (lat l (i : Int)).op <= 11) /\ (0 <= (lat l (i : Int)).ver /\ (lat l (i : Int)).ver <= 9) /\ (1 <= (lat l (i : Int)).nu /\ (lat l (i : Int)).nu <= 1000000) /\ (0 <= (lat l (i : Int)).le /\ (lat l (i : Int)).le <= (lat l (i : Int)).mo) /\ (lat l (i : Int)).mo <= 4398046511104) /\ ¬ (0 < (i : Int) /\ 0 <= cmpR (lat l ((i : Int) - 1)) (lat l (i : Int))) := by omega
    refine ⟨by unfold inI; omega, ⟨i + 1, by omega, by omega, fun a ha => ?_, fun a ha => ?_⟩, dec_lt k1⟩
    . rcases Nat.lt_or_ge a i with h | h
      . exact hx a h
      . rw [show a = i by omega]; exact hk.1
    . rcases Nat.lt_or_ge (a + 1) i with h | h
      . exact ho a h
      . have ea : i = a + 1 := by omega
        subst ea
        have h2 := hk.2
        rw [show (((a + 1 : Nat) : Int) - 1) = (a : Int) by omega] at h2
        omega
  . have ei : i = l.length := by omega
    subst ei
    exact ((validRgs_iff l).2 ⟨hx, ho⟩).symm
theorem spec_vranges (l : (List Rg)) (h0 : l.length <= 9223372036854775807) : FnP Try.prog 57 [.lst true l.length (zYy e73 l)] (fun xR => xR = .bool (validRgs l)) :=
  (walk_vranges (vcp_vranges l h0)).mono (by rintro _ ⟨_, rfl, rfl⟩; rfl)
def vc_allows (l : (List Rg)) (op : Int) (ver : Int) (t : Int) (Post : Bool -> Prop) : Prop :=
  (l.length <= 1073741824) /\ ((l.length <= 9223372036854775807) /\ (((validRgs l) = true) -> ((((bsM l (Rg.mk op ver (0 : Int) (0 : Int) (0 : Int))).2) = true) -> (0 <= ((bsM l (Rg.mk op ver (0 : Int) (0 : Int) (0 : Int))).1) /\ ((bsM l (Rg.mk op ver (0 : Int) (0 : Int) (0 : Int))).1) < (l.length : Int)) /\ (((3 : Int) <= ((lat l ((bsM l (Rg.mk op ver (0 : Int) (0 : Int) (0 : Int))).1)).nu)) -> (0 <= ((bsM l (Rg.mk op ver (0 : Int) (0 : Int) (0 : Int))).1) /\ ((bsM l (Rg.mk op ver (0 : Int) (0 : Int) (0 : Int))).1) < (l.length : Int)) /\ (0 <= ((bsM l (Rg.mk op ver (0 : Int) (0 : Int) (0 : Int))).1) /\ ((bsM l (Rg.mk op ver (0 : Int) (0 : Int) (0 : Int))).1) < (l.length : Int)) /\ True) /\ (¬ ((3 : Int) <= ((lat l ((bsM l (Rg.mk op ver (0 : Int) (0 : Int) (0 : Int))).1)).nu)) -> True)) /\ (¬ (((bsM l (Rg.mk op ver (0 : Int) (0 : Int) (0 : Int))).2) = true) -> True)) /\ (¬ ((validRgs l) = true) -> True)) /\ (Post (decide (((validRgs l) = true) /\ ((((bsM l (Rg.mk op ver (0 : Int) (0 : Int) (0 : Int))).2) = true) /\ (((3 : Int) <= ((lat l ((bsM l (Rg.mk op ver (0 : Int) (0 : Int) (0 : Int))).1)).nu)) /\ ((inM t ((lat l ((bsM l (Rg.mk op ver (0 : Int) (0 : Int) (0 : Int))).1)).le) ((lat l ((bsM l (Rg.mk op ver (0 : Int) (0 : Int) (0 : Int))).1)).mo)) = true))))))
theorem walk_allows {l : (List Rg)} {op : Int} {ver : Int} {t : Int} {Post : Bool -> Prop} (hv : vc_allows l op ver t Post) : FnP Try.prog 40 [.lst true l.length (zYy e73 l), .int .i64 op, .int .i64 ver, .int .i64 t] (fun x => ∃ q0, x = .bool q0 /\ Post q0) := by
 refine FnP.of_walk (T := tt) (nt := 46) ttOk ttMix ⟨⟨Try.f40, Try.func40, rfl, rfl, rfl, rfl⟩⟩ (by simp) ?_
 unfold vc_allows at hv
 change W _ _ _ ⟨46, look [(0, .lst true l.length (zYy e73 l)), (1, .int .i64 op), (2, .int .i64 ver), (3, .int .i64 t)], [], 0⟩ _
 refine W.ty [(0, .lst _ _ _), (1, .int _ _), (2, .int _ _), (3, .int _ _)] rfl (W.rL (aB rfl rfl (eL (W.ty [(0, .lst _ _ _), (1, .int _ _), (2, .int _ _), (3, .int _ _)] rfl (W.rL (mL rfl rfl ?_))))))
 iterate 2 refine mI rfl rfl ?_
 refine cL rfl (o_build (qs := [(0, .int _ _), (1, .int _ _)]) (cs := [.int _ _, .int _ _, .int _ _, .int _ _, .int _ _]) tt73 rfl rfl rfl ?_)
 obtain ⟨s1, hv⟩ := hv
 refine cL rfl (zZu (k := 55) (fst := []) (caps := []) (ys := [.lst _ _ _, .agg _, .clo _ _ _]) rfl rfl (spec_bsR l (Rg.mk op ver (0 : Int) (0 : Int) (0 : Int)) s1) (Wks.cons (zZs _ _ _ _ _) (Wks.cons (zXx 5 _ zk) (Wks.cons (ag_clo 5 _ _ zk zk) zk))) (cL rfl (zZp (v := .tup _) rfl (cL rfl (o_ext (v := .int _ _) rfl rfl (cL rfl (o_ext (v := .bool _) rfl rfl (aI rfl rfl (aB rfl rfl (eL (W.ty [(0, .lst _ _ _), (3, .int _ _), (9, .int _ _), (10, .bool _)] rfl ?_)))))))))))
 obtain ⟨sd, hv⟩ := hv
 refine W.rDm ⟨46, look [(8, .bool (decide (((validRgs l) = true) /\ ((((bsM l (Rg.mk op ver (0 : Int) (0 : Int) (0 : Int))).2) = true) /\ (((3 : Int) <= ((lat l ((bsM l (Rg.mk op ver (0 : Int) (0 : Int) (0 : Int))).1)).nu)) /\ ((inM t ((lat l ((bsM l (Rg.mk op ver (0 : Int) (0 : Int) (0 : Int))).1)).le) ((lat l ((bsM l (Rg.mk op ver (0 : Int) (0 : Int) (0 : Int))).1)).mo)) = true))))))], [], 0⟩ [0, 1, 2, 3, 4, 5, 6, 7, 8, 9, 10, 11, 12, 13, 14, 15, 16, 17, 18, 19, 20, 21, 22, 23, 24, 25, 26, 27] (by decide +kernel) rfl ?_ ?_
 refine mL rfl rfl ?_
 obtain ⟨s6, sd⟩ := sd
 refine cL rfl (zZu (k := 57) (fst := []) (caps := []) (ys := [.lst _ _ _]) rfl rfl (spec_vranges l s6) zk (mB rfl rfl ?_))
 by_cases c1 : (validRgs l) = true
 have sd := sd.1 c1
 refine cLg rfl rfl (c1) (mB rfl rfl (cL rfl (zZv (v := .bool _) rfl c1 rfl (mB rfl rfl ?_))))
 by_cases c2 : ((bsM l (Rg.mk op ver (0 : Int) (0 : Int) (0 : Int))).2) = true
 have sd := sd.1 c2
 refine cLg rfl rfl (c2) (mL rfl rfl (cLg rfl rfl (c2) (mI rfl rfl (cLg rfl rfl (c2) ?_))))
 obtain ⟨s7, sd⟩ := sd
 refine cL rfl (zYu tt32 tt73 rfl rfl (enc73.wd true) rfl s7 ?_)
 intro rest7
 refine cLg rfl rfl (c2) (cL rfl (o_faP tt73 rfl tt3 rfl (cLg rfl rfl (c2) (cL rfl (zZx (v := .int _ _) tt3 rfl rfl ⟨_, rfl⟩ (cLg rfl rfl (c2) (cL rfl (o_geq rfl rfl (cL rfl (zZv (v := .bool _) rfl c2 rfl (mB rfl rfl ?_)))))))))))
 by_cases c3 : (3 : Int) <= ((lat l ((bsM l (Rg.mk op ver (0 : Int) (0 : Int) (0 : Int))).1)).nu)
 have sd := sd.1 c3
 refine cLg rfl rfl (dT c3) (mI rfl rfl (cLg rfl rfl (dT c3) (mL rfl rfl (cLg rfl rfl (dT c3) (mI rfl rfl (cLg rfl rfl (dT c3) ?_))))))
 obtain ⟨s8, sd⟩ := sd
 refine cL rfl (zYu tt32 tt73 rfl rfl (enc73.wd true) rfl s8 ?_)
 intro rest8
 refine cLg rfl rfl (dT c3) (cL rfl (o_faP tt73 rfl tt3 rfl (cLg rfl rfl (dT c3) (cL rfl (zZx (v := .int _ _) tt3 rfl rfl ⟨_, rfl⟩ (cLg rfl rfl (dT c3) (mL rfl rfl (cLg rfl rfl (dT c3) (mI rfl rfl (cLg rfl rfl (dT c3) ?_))))))))))
 obtain ⟨s9, sd⟩ := sd
 refine cL rfl (zYu tt32 tt73 rfl rfl (enc73.wd true) rfl s9 ?_)
 intro rest9
 refine cLg rfl rfl (dT c3) (cL rfl (o_faP tt73 rfl tt3 rfl (cLg rfl rfl (dT c3) (cL rfl (zZx (v := .int _ _) tt3 rfl rfl ⟨_, rfl⟩ (cLg rfl rfl (dT c3) (cL rfl (zZu (k := 47) (fst := []) (caps := []) (ys := [.int _ _, .int _ _, .int _ _]) rfl rfl (spec_inr t ((lat l ((bsM l (Rg.mk op ver (0 : Int) (0 : Int) (0 : Int))).1)).le) ((lat l ((bsM l (Rg.mk op ver (0 : Int) (0 : Int) (0 : Int))).1)).mo)) zk (cL rfl (zZv (v := .bool _) rfl (dT c3) rfl (aB rfl rfl (eL (zYz ⟨(congrArg AV.bool (zXv c1 (zXv c2 (zXv c3 (dVar _))))).symm, trivial⟩ rfl)))))))))))))
 iterate 12 refine cLs rfl rfl rfl (dF c3) ?_
 refine cL rfl (zZy (v := .bool _) rfl (dF c3) rfl (aB rfl rfl (eL (zYz ⟨(congrArg AV.bool (zXv c1 (zXv c2 (dAndF c3)))).symm, trivial⟩ rfl))))
 iterate 6 refine cLs rfl rfl rfl ((Bool.eq_false_iff.2 c2)) ?_
 refine cL rfl (zZy (v := .bool _) rfl (Bool.eq_false_iff.2 c2) rfl (mB rfl rfl ?_))
 iterate 12 refine cLs rfl rfl rfl (rfl) ?_
 refine cL rfl (zZy (v := .bool _) rfl rfl rfl (aB rfl rfl (eL (zYz ⟨(congrArg AV.bool (zXv c1 (dAndF c2))).symm, trivial⟩ rfl))))
 refine cLs rfl rfl rfl ((Bool.eq_false_iff.2 c1)) (cL rfl (zZy (v := .bool _) rfl (Bool.eq_false_iff.2 c1) rfl (mB rfl rfl ?_)))
 iterate 6 refine cLs rfl rfl rfl (rfl) ?_
 refine cL rfl (zZy (v := .bool _) rfl rfl rfl (mB rfl rfl ?_))
 iterate 12 refine cLs rfl rfl rfl (rfl) ?_
 refine cL rfl (zZy (v := .bool _) rfl rfl rfl (aB rfl rfl (eL (zYz ⟨(congrArg AV.bool (dAndF c1)).symm, trivial⟩ rfl))))
 refine W.ret (rt (rt_t (v := .bool _) rfl (rt_n (⟨_, zYr _ _ _, (decide (((validRgs l) = true) /\ ((((bsM l (Rg.mk op ver (0 : Int) (0 : Int) (0 : Int))).2) = true) /\ (((3 : Int) <= ((lat l ((bsM l (Rg.mk op ver (0 : Int) (0 : Int) (0 : Int))).1)).nu)) /\ ((inM t ((lat l ((bsM l (Rg.mk op ver (0 : Int) (0 : Int) (0 : Int))).1)).le) ((lat l ((bsM l (Rg.mk op ver (0 : Int) (0 : Int) (0 : Int))).1)).mo)) = true))))), rfl, hv⟩))))
set_option maxHeartbeats 4000000 in
theorem vcp_allows (l : (List Rg)) (op : Int) (ver : Int) (t : Int) (h0 : l.length <= 1073741824) : vc_allows l op ver t (fun q0 => q0 = (allowsM l op ver t)) := by
  have e1 : ∀ n lo hi : Int, (inM n lo hi = true) = (lo <= n /\ n <= hi) := fun n lo hi => by unfold inM; simp
  have hb : (bsM l ⟨op, ver, 0, 0, 0⟩).2 = true -> 0 <= (bsM l ⟨op, ver, 0, 0, 0⟩).1 /\ (bsM l ⟨op, ver, 0, 0, 0⟩).1 < (l.length : Int) := fun h => ⟨bsI_nonneg _ _, (of_decide_eq_true h).1⟩
  refine ⟨h0, ⟨by omega, fun _ => ⟨fun k => ⟨hb k, fun _ => ⟨hb k, hb k, trivial⟩, fun _ => trivial⟩, fun _ => trivial⟩, fun _ => trivial⟩, ?_⟩
  show decide _ = allowsM l op ver t
  unfold allowsM
  simp only [e1]
  rfl
theorem spec_allows (l : (List Rg)) (op : Int) (ver : Int) (t : Int) (h0 : l.length <= 1073741824) : FnP Try.prog 40 [.lst true l.length (zYy e73 l), .int .i64 op, .int .i64 ver, .int .i64 t] (fun xR => xR = .bool (allowsM l op ver t)) :=
  (walk_allows (vcp_allows l op ver t h0)).mono (by rintro _ ⟨_, rfl, rfl⟩; rfl)
def vc_supported (r : Req) (l : (List Rg)) (Post : Bool -> Prop) : Prop :=
  (r.sv.length <= 9223372036854775807) /\ (∀ j ∈ r.jobs, j.wk.length <= 9223372036854775807) /\ (r.jobs.length <= 9223372036854775807) /\ (r.ex.length <= 9223372036854775807) /\ ((¬ ((validR r) = true)) -> Post false) /\ (¬ (¬ ((validR r) = true)) -> ∃ (I1 : Int -> Prop) (μ1 : Int -> Nat), I1 (0 : Int) /\ ∀ (v13 : Int), I1 v13 -> ((v13 < (r.ex.length : Int)) -> (0 <= v13 /\ v13 < (r.ex.length : Int)) /\ (((¬ (lat r.ex v13).pc = (-1 : Int)) -> (l.length <= 1073741824) /\ True) /\ (¬ (¬ (lat r.ex v13).pc = (-1 : Int)) -> True)) /\ ((((¬ (lat r.ex v13).pc = (-1 : Int)) /\ (¬ ((allowsM l ((lat r.ex v13).op) ((lat r.ex v13).ver) ((lat r.ex v13).ba)) = true))) -> Post false) /\ (¬ ((¬ (lat r.ex v13).pc = (-1 : Int)) /\ (¬ ((allowsM l ((lat r.ex v13).op) ((lat r.ex v13).ver) ((lat r.ex v13).ba)) = true))) -> (inI (v13 + (1 : Int))) /\ (I1 (v13 + (1 : Int)) /\ μ1 (v13 + (1 : Int)) < μ1 v13)))) /\ (¬ (v13 < (r.ex.length : Int)) -> Post true))
theorem walk_supported {r : Req} {l : (List Rg)} {Post : Bool -> Prop} (hv : vc_supported r l Post) : FnP Try.prog 15 [.agg ((e26 true) r), .lst true l.length (zYy e73 l)] (fun x => ∃ q0, x = .bool q0 /\ Post q0) := by
 refine FnP.of_walk (T := tt) (nt := 32) ttOk ttMix ⟨⟨Try.f15, Try.func15, rfl, rfl, rfl, rfl⟩⟩ (by simp) ?_
 unfold vc_supported at hv
 change W _ _ _ ⟨32, look [(0, .agg [.lst true r.sv.length (zYy zYx r.sv), .lst true r.jobs.length (zYy (e53 true) r.jobs), .int .i64 r.late, .int .i64 r.obj, .int .i64 r.causes, .lst true r.ex.length (zYy e58 r.ex)]), (1, .lst true l.length (zYy e73 l))], [], 0⟩ _
 refine W.ty [(0, .agg _), (1, .lst _ _ _)] rfl (W.rL (cL rfl (o_box (v := .agg _) (p := 0) rfl rfl rfl (aB rfl rfl (eL (W.ty [(1, .lst _ _ _), (2, .ptr _ _)] rfl (W.seq' (W.rL (cL rfl (zYp (cs := [.lst _ _ _, .lst _ _ _, .int _ _, .int _ _, .int _ _, .lst _ _ _]) tt26 rfl rfl ⟨_, rfl⟩ rfl ?_))))))))))
 obtain ⟨s5, s6, s7, s8, hv⟩ := hv
 refine cL rfl (zZu (k := 13) (fst := []) (caps := []) (ys := [.agg _]) rfl rfl (spec_valid r s5 s6 s7 s8) zk (cL rfl (o_notB rfl (eL (W.ty [(1, .lst _ _ _), (2, .ptr _ _), (9, .bool _)] rfl (W.cn rfl (fun hc => ?_) (fun hc => ?_)))))))
 have hv := hv.1 hc
 refine W.rL (aB rfl rfl (eL (W.ty [(4, .bool _)] rfl (W.ret (zZr (rt (rt_t (v := .bool _) rfl (rt_n (⟨_, zYr _ _ _, false, rfl, hv⟩)))))))))
 have hv := hv.2 hc
 refine W.skip (zZ (W.ty [(1, .lst _ _ _), (2, .ptr _ _)] rfl (W.seq' (W.rL (cL rfl (o_fa tt26 rfl tt24 rfl (cL rfl (zZx (v := .lst _ _ _) tt24 rfl rfl ⟨_, rfl⟩ (cL rfl (zXw (v := .lst _ _ _) tt24 rfl rfl (mI rfl rfl (eL (W.ty [(1, .lst _ _ _), (11, .lst _ _ _), (12, .int _ _), (13, .int _ _)] rfl (W.block ?_))))))))))))))
 obtain ⟨I1, μ1, hp, hv⟩ := hv
 refine W.loop1 (fun v13 => ⟨32, look [(1, .lst true l.length (zYy e73 l)), (11, .lst true r.ex.length (zYy e58 r.ex)), (12, .int .i64 (r.ex.length : Int)), (13, .int .i64 v13)], [.dead], 0⟩) I1 μ1 (0 : Int) (St.to_mk (φ := [none]) rfl (rfl) (zT rfl rfl) ⟨rfl, trivial⟩) hp ?_
 clear hp
 intro v13 hI
 replace hv := hv v13 hI
 clear hI
 refine W.rL (cL rfl (zYq rfl rfl (eL (W.ty [(1, .lst _ _ _), (11, .lst _ _ _), (12, .int _ _), (13, .int _ _), (14, .bool _)] rfl (W.seq' (W.cn rfl (fun hc => ?_) (fun hc => ?_)))))))
 have hv := hv.1 hc
 refine W.skip (zZ (W.ty [(1, .lst _ _ _), (11, .lst _ _ _), (12, .int _ _), (13, .int _ _)] rfl (W.seq' (W.block (W.rL ?_)))))
 obtain ⟨s33, hv⟩ := hv
 refine cL rfl (zYu tt24 tt58 rfl rfl (enc58.wd true) rfl s33 ?_)
 intro rest33
 refine cL rfl (zYp (cs := [.int _ _, .int _ _, .int _ _, .int _ _, .int _ _, .int _ _]) tt58 rfl rfl ⟨_, rfl⟩ rfl (cL rfl (zXy (p := 1) tt58 rfl rfl (cLn (o_stB (v := .agg _) (vs := [.int _ _, .int _ _, .int _ _, .int _ _, .int _ _, .int _ _]) (cs2 := [.int _ _, .int _ _, .int _ _, .int _ _, .int _ _, .int _ _]) tt58 rfl rfl rfl rfl rfl (Nat.le_of_ble_eq_true rfl) rfl (eL (W.ty [(1, .lst _ _ _), (6, .ptr _ _), (11, .lst _ _ _), (12, .int _ _), (13, .int _ _)] rfl ?_)))))))
 obtain ⟨sd, hv⟩ := hv
 refine W.rLm ⟨32, look [(1, .lst true l.length (zYy e73 l)), (11, .lst true r.ex.length (zYy e58 r.ex)), (12, .int .i64 (r.ex.length : Int)), (13, .int .i64 v13), (30, .bool (decide ((¬ (lat r.ex v13).pc = (-1 : Int)) /\ (¬ ((allowsM l ((lat r.ex v13).op) ((lat r.ex v13).ver) ((lat r.ex v13).ba)) = true)))))], [.dead, .box 58 [.int .i64 ((lat r.ex v13).jb), .int .i64 ((lat r.ex v13).pc), .int .i64 ((lat r.ex v13).ca), .int .i64 ((lat r.ex v13).ba), .int .i64 ((lat r.ex v13).op), .int .i64 ((lat r.ex v13).ver)]], 0⟩ ?_ ?_
 refine cL rfl (o_fa tt58 rfl tt3 rfl (cL rfl (zZx (v := .int _ _) tt3 rfl rfl ⟨_, rfl⟩ (cL rfl (o_neI rfl rfl rfl (mB rfl rfl ?_))))))
 by_cases c1 : ¬ (lat r.ex v13).pc = (-1 : Int)
 have sd := sd.1 c1
 refine cLg rfl rfl (dT c1) (mL rfl rfl (cLg rfl rfl (dT c1) (cL rfl (o_fa tt58 rfl tt3 rfl (cLg rfl rfl (dT c1) (cL rfl (zZx (v := .int _ _) tt3 rfl rfl ⟨_, rfl⟩ (cLg rfl rfl (dT c1) (cL rfl (o_fa tt58 rfl tt3 rfl (cLg rfl rfl (dT c1) (cL rfl (zZx (v := .int _ _) tt3 rfl rfl ⟨_, rfl⟩ (cLg rfl rfl (dT c1) (cL rfl (o_fa tt58 rfl tt3 rfl (cLg rfl rfl (dT c1) (cL rfl (zZx (v := .int _ _) tt3 rfl rfl ⟨_, rfl⟩ (cLg rfl rfl (dT c1) ?_))))))))))))))))))))
 obtain ⟨s35, sd⟩ := sd
 refine cL rfl (zZu (k := 40) (fst := []) (caps := []) (ys := [.lst _ _ _, .int _ _, .int _ _, .int _ _]) rfl rfl (spec_allows l ((lat r.ex v13).op) ((lat r.ex v13).ver) ((lat r.ex v13).ba) s35) zk (cLg rfl rfl (dT c1) (cL rfl (o_notB rfl (cL rfl (zZv (v := .bool _) rfl (dT c1) rfl (eL (zYz ⟨rfl, rfl, rfl, rfl, (congrArg AV.bool (zXv c1 (rfl))).symm, trivial⟩ rfl))))))))
 iterate 9 refine cLs rfl rfl rfl (dF c1) ?_
 refine cL rfl (zZy (v := .bool _) rfl (dF c1) rfl (eL (zYz ⟨rfl, rfl, rfl, rfl, (congrArg AV.bool (dAndF c1)).symm, trivial⟩ rfl)))
 refine W.cn rfl (fun hc => ?_) (fun hc => ?_)
 have hv := hv.1 hc
 refine W.rL (aB rfl rfl (eL (W.ty [(4, .bool _)] rfl (W.ret (zYt (zZr (zZr (zYt (zZr (rt (rt_t (v := .bool _) rfl (rt_n (⟨_, zYr _ _ _, false, rfl, hv⟩)))))))))))))
 have hv := hv.2 hc
 refine W.skip (zYv (zZ (W.ty [(1, .lst _ _ _), (11, .lst _ _ _), (12, .int _ _), (13, .int _ _)] rfl (W.rL1 ?_))))
 obtain ⟨s36, hv⟩ := hv
 refine cL rfl (o_add rfl rfl s36 (mI rfl rfl (eL (zZ (⟨(), (v13 + (1 : Int)), hv, St.to_mk (φ := [none]) rfl (rfl) (zT rfl rfl) ⟨rfl, trivial⟩⟩)))))
 have hv := hv.2 hc
 refine W.exit (zZt (zZt (zYs (zZ (W.ty [] rfl (W.rL (aB rfl rfl (eL (W.ty [(4, .bool _)] rfl (W.ret (rt (rt_t (v := .bool _) rfl (rt_n (⟨_, zYr _ _ _, true, rfl, hv⟩))))))))))))))
set_option maxHeartbeats 4000000 in
theorem vcp_supported (r : Req) (l : (List Rg)) (h0 : r.sv.length <= 9223372036854775807) (h1 : ∀ j ∈ r.jobs, j.wk.length <= 9223372036854775807) (h2 : r.jobs.length <= 9223372036854775807) (h3 : r.ex.length <= 9223372036854775807) (h4 : l.length <= 1073741824) : vc_supported r l (fun q0 => q0 = (supM r l)) := by
  refine ⟨h0, h1, h2, h3, fun k => ?_, fun k => ?_⟩
  . show false = supM r l
    unfold supM
    rw [Bool.eq_false_iff.2 k]; rfl
  have k := Decidable.not_not.1 k
  have bad : ∀ {q : Prop}, ((∀ x ∈ r.ex, x.pc = -1 \/ allowsM l x.op x.ver x.ba = true) -> q) -> ¬ q -> false = supM r l := fun h kk => by
    rcases hv : supM r l with _ | _
    . rfl
    . unfold supM at hv
      rw [Bool.and_eq_true, List.all_eq_true] at hv
      refine absurd (h fun x hx => ?_) kk
      have := hv.2 x hx
      rwa [Bool.or_eq_true, decide_eq_true_eq] at this
  refine ⟨fun v => ∃ i : Nat, v = i /\ i <= r.ex.length /\ ∀ a : Nat, a < i -> (lat r.ex a).pc = -1 \/ allowsM l (lat r.ex a).op (lat r.ex a).ver (lat r.ex a).ba = true, fun v => r.ex.length - v.toNat, ⟨0, rfl, by omega, fun a ha => by omega⟩, ?_⟩
  rintro _ ⟨i, rfl, hi, hx⟩
  refine ⟨fun k1 => ⟨⟨by omega, k1⟩, ⟨fun _ => ⟨h4, trivial⟩, fun _ => trivial⟩, fun k2 => bad (fun h => h _ (lat_mem (xs := r.ex) (i := (i : Int)) ⟨by omega, k1⟩)) (fun h => h.elim k2.1 k2.2), fun k2 => ⟨by unfold inI; omega, ⟨i + 1, by omega, by omega, fun a ha => ?_⟩, dec_lt k1⟩⟩, fun k1 => ?_⟩
  . rcases Nat.lt_or_ge a i with h | h
    . exact hx a h
    . rw [show a = i by omega]
      by_cases e : (lat r.ex (i : Int)).pc = -1
      . exact .inl e
      . exact .inr (Decidable.not_not.1 fun h => k2 ⟨e, h⟩)
  . show true = supM r l
    unfold supM
    rw [k, Bool.true_and]
    symm
    rw [List.all_eq_true]
    intro x hxm
    obtain ⟨b, hb, rfl⟩ := List.mem_iff_getElem.1 hxm
    have := hx b (by omega)
    rw [lat_get hb] at this
    rw [Bool.or_eq_true, decide_eq_true_eq]
    exact this
theorem spec_supported (r : Req) (l : (List Rg)) (h0 : r.sv.length <= 9223372036854775807) (h1 : ∀ j ∈ r.jobs, j.wk.length <= 9223372036854775807) (h2 : r.jobs.length <= 9223372036854775807) (h3 : r.ex.length <= 9223372036854775807) (h4 : l.length <= 1073741824) : FnP Try.prog 15 [.agg ((e26 true) r), .lst true l.length (zYy e73 l)] (fun xR => xR = .bool (supM r l)) :=
  (walk_supported (vcp_supported r l h0 h1 h2 h3 h4)).mono (by rintro _ ⟨_, rfl, rfl⟩; rfl)
end Go.Lat
