/- The law latecomerlaw23.ModelApart returns true for every input, and each argument reads afterwards as it read before. Part 10 of 14. No condition. -/
import Derived.Test.YtcldekbjhmhgdaaLatE
import Derived.Test.YtcldekbjhmhgdaaLatF
import Derived.Test.YtcldekbjhmhgdaaLatD
import Derived.Test.YtcldekbjhmhgdaaLatG
import Derived.Test.YtcldekbjhmhgdaaLatI
set_option linter.unusedVariables false
set_option linter.unusedSimpArgs false
set_option linter.unnecessarySimpa false
set_option maxRecDepth 100000
set_option maxHeartbeats 4000000
namespace Go.Lat
open Go.RowKit Go.Proofs
attribute [local irreducible] seqL opC
def vc_fit (l : (List Fct)) (Post : (List Rg) -> Int -> Prop) : Prop :=
  ∃ (I1 : Int -> List Rg -> Prop) (μ1 : Int -> List Rg -> Nat), I1 (0 : Int) [] /\ ∀ (v9 : Int) (r0 : List Rg), I1 v9 r0 -> ((v9 < (l.length : Int)) -> (0 <= v9 /\ v9 < (l.length : Int)) /\ ((((400 : Int) < (l.length : Int)) \/ (¬ ((factOk (lat l v9)) = true))) -> Post [] (230 : Int)) /\ (¬ (((400 : Int) < (l.length : Int)) \/ (¬ ((factOk (lat l v9)) = true))) -> ((r0 ++ [(Rg.mk ((lat l v9).op) ((lat l v9).ver) (1 : Int) ((lat l v9).lo) ((lat l v9).hi))]).length <= 1073741824) /\ (inI (v9 + (1 : Int))) /\ (I1 (v9 + (1 : Int)) (r0 ++ [(Rg.mk ((lat l v9).op) ((lat l v9).ver) (1 : Int) ((lat l v9).lo) ((lat l v9).hi))]) /\ μ1 (v9 + (1 : Int)) (r0 ++ [(Rg.mk ((lat l v9).op) ((lat l v9).ver) (1 : Int) ((lat l v9).lo) ((lat l v9).hi))]) < μ1 v9 r0))) /\ (¬ (v9 < (l.length : Int)) -> (r0.length <= 1073741823) /\ (∀ x ∈ r0, 0 <= x.nu /\ x.nu <= 1000000) /\ Post (joinM r0) (0 : Int))
theorem walk_fit {l : (List Fct)} {Post : (List Rg) -> Int -> Prop} (hv : vc_fit l Post) : FnP Try.prog 26 [.lst true l.length (zYy e69 l)] (fun x => ∃ q0 q1, x = .tup [.lst false q0.length (zYy e72 q0), .int .i64 q1] /\ Post q0 q1) := by
 refine FnP.of_walk (T := tt) (nt := 36) ttOk ttMix ⟨⟨Try.f26, Try.func26, rfl, rfl, rfl, rfl⟩⟩ (by simp) ?_
 unfold vc_fit at hv
 change W _ _ _ ⟨36, look [(0, .lst true l.length (zYy e69 l))], [], 0⟩ _
 refine W.ty [(0, .lst _ _ _)] rfl (W.rL (cL rfl (zZq (v := .nilS) rfl (aI rfl rfl (eL (W.ty [(0, .lst _ _ _)] rfl (W.rL (cL rfl (zZq (v := .nilS) rfl (eL (W.ty [(0, .lst _ _ _), (4, .nilS)] rfl (W.seq' (W.rL (mL rfl rfl (cL rfl (zXw (v := .lst _ _ _) tt58 rfl rfl (mI rfl rfl (eL (W.ty [(0, .lst _ _ _), (4, .nilS), (7, .lst _ _ _), (8, .int _ _), (9, .int _ _)] rfl (W.block ?_))))))))))))))))))))
 obtain ⟨I1, μ1, hp, hv⟩ := hv
 refine W.loop2 (fun v9 r0 => ⟨36, look [(0, .lst true l.length (zYy e69 l)), (4, .ref true 0 r0.length), (7, .lst true l.length (zYy e69 l)), (8, .int .i64 (l.length : Int)), (9, .int .i64 v9)], [.row 72 5 (zYy e72 r0)], 0⟩) I1 μ1 (0 : Int) [] (St.to_mk (φ := [none]) rfl (rfl) ⟨Ren.lst _ _ _, Ren.nilR rfl rfl, Ren.lst _ _ _, Ren.int _ _, Ren.int _ _, trivial⟩ ⟨rfl, trivial⟩) hp ?_
 clear hp
 intro v9 r0 hI
 replace hv := hv v9 r0 hI
 clear hI
 refine W.rL (cL rfl (zYq rfl rfl (eL (W.ty [(0, .lst _ _ _), (4, .ref _ _ _), (7, .lst _ _ _), (8, .int _ _), (9, .int _ _), (10, .bool _)] rfl (W.seq' (W.cn rfl (fun hc => ?_) (fun hc => ?_)))))))
 have hv := hv.1 hc
 refine W.skip (zZ (W.ty [(0, .lst _ _ _), (4, .ref _ _ _), (7, .lst _ _ _), (8, .int _ _), (9, .int _ _)] rfl (W.seq' (W.block (W.rL ?_)))))
 obtain ⟨s24, hv⟩ := hv
 refine cL rfl (zYu tt58 tt69 rfl rfl (enc69.wd true) rfl s24 ?_)
 intro rest24
 refine cL rfl (zYp (cs := [.int _ _, .int _ _, .int _ _, .int _ _, .int _ _, .int _ _, .int _ _, .int _ _, .int _ _, .int _ _]) tt69 rfl rfl ⟨_, rfl⟩ rfl (cL rfl (zXy (p := 1) tt69 rfl rfl (cLn (o_stB (v := .agg _) (vs := [.int _ _, .int _ _, .int _ _, .int _ _, .int _ _, .int _ _, .int _ _, .int _ _, .int _ _, .int _ _]) (cs2 := [.int _ _, .int _ _, .int _ _, .int _ _, .int _ _, .int _ _, .int _ _, .int _ _, .int _ _, .int _ _]) tt69 rfl rfl rfl rfl rfl (Nat.le_of_ble_eq_true rfl) rfl (eL (W.ty [(0, .lst _ _ _), (4, .ref _ _ _), (6, .ptr _ _), (7, .lst _ _ _), (8, .int _ _), (9, .int _ _)] rfl (W.seq' (W.rLm ⟨36, look [(0, .lst true l.length (zYy e69 l)), (4, .ref true 0 r0.length), (6, .ptr 1 0), (7, .lst true l.length (zYy e69 l)), (8, .int .i64 (l.length : Int)), (9, .int .i64 v9), (20, .bool (decide (((400 : Int) < (l.length : Int)) \/ (¬ ((factOk (lat l v9)) = true)))))], [.row 72 5 (zYy e72 r0), .box 69 [.int .i64 ((lat l v9).tr), .int .i64 ((lat l v9).sp), .int .i64 ((lat l v9).se), .int .i64 ((lat l v9).ver), .int .i64 ((lat l v9).op), .int .i64 ((lat l v9).pe), .int .i64 ((lat l v9).da), .int .i64 ((lat l v9).lo), .int .i64 ((lat l v9).hi), .int .i64 ((lat l v9).by_)]], 0⟩ ?_ ?_)))))))))
 refine mL rfl rfl (cL rfl (zXw (v := .lst _ _ _) tt58 rfl rfl (cL rfl (o_gtr rfl rfl (mB rfl rfl ?_)))))
 by_cases c1 : (400 : Int) < (l.length : Int)
 iterate 3 refine cLs rfl rfl rfl (dT c1) ?_
 refine cL rfl (zZv (v := .bool _) rfl (dT c1) rfl (eL (zYz ⟨rfl, rfl, rfl, rfl, rfl, rfl, (congrArg AV.bool (dOrT c1)).symm, trivial⟩ rfl)))
 refine cLg rfl rfl (dF c1) (cL rfl (zYp (cs := [.int _ _, .int _ _, .int _ _, .int _ _, .int _ _, .int _ _, .int _ _, .int _ _, .int _ _, .int _ _]) tt69 rfl rfl ⟨_, rfl⟩ rfl (cLg rfl rfl (dF c1) (cL rfl (zZu (k := 40) (fst := []) (caps := []) (ys := [.agg _]) rfl rfl (spec_vfact (lat l v9)) zk (cLg rfl rfl (dF c1) (cL rfl (o_notB rfl (cL rfl (zZy (v := .bool _) rfl (dF c1) rfl (eL (zYz ⟨rfl, rfl, rfl, rfl, rfl, rfl, (congrArg AV.bool (dOrF c1 (rfl))).symm, trivial⟩ rfl))))))))))))
 refine W.cn rfl (fun hc => ?_) (fun hc => ?_)
 have hv := hv.1 hc
 refine W.rL (cL rfl (zZq (v := .nilS) rfl (aI rfl rfl (eL (W.ty [(2, .nilS), (3, .int _ _)] rfl (W.ret (zZr (zYt (zZr (zZr (zYt (zZr (rt (rt_t (v := .nilS) rfl (rt_t (v := .int _ _) rfl (rt_n (⟨_, rs_tup 5 _ (Wks.cons (rs_nil _ _ _ _ rfl) (Wks.cons (zY _ _ _ _) zk)), [], (230 : Int), rfl, hv⟩)))))))))))))))))
 have hv := hv.2 hc
 refine W.skip (zZ (W.ty [(0, .lst _ _ _), (4, .ref _ _ _), (6, .ptr _ _), (7, .lst _ _ _), (8, .int _ _), (9, .int _ _)] rfl (W.rL1 (cL rfl (zZp (v := .ref _ _ _) rfl (cL rfl (o_fa tt69 rfl tt3 rfl (cL rfl (zZx (v := .int _ _) tt3 rfl rfl ⟨_, rfl⟩ (cL rfl (o_fa tt69 rfl tt3 rfl (cL rfl (zZx (v := .int _ _) tt3 rfl rfl ⟨_, rfl⟩ (cL rfl (o_fa tt69 rfl tt3 rfl (cL rfl (zZx (v := .int _ _) tt3 rfl rfl ⟨_, rfl⟩ (cL rfl (o_fa tt69 rfl tt3 rfl (cL rfl (zZx (v := .int _ _) tt3 rfl rfl ⟨_, rfl⟩ (cL rfl (o_build (qs := [(0, .int _ _), (1, .int _ _), (2, .int _ _), (3, .int _ _), (4, .int _ _)]) (cs := [.int _ _, .int _ _, .int _ _, .int _ _, .int _ _]) tt72 rfl rfl rfl (cL rfl (o_bs1 (v := .agg _) (q := 2) tt54 tt72 rfl rfl rfl rfl rfl rfl rfl rfl ?_)))))))))))))))))))))))))
 obtain ⟨s25, hv⟩ := hv
 refine cL rfl (o_apR (p := 3) (q := (r0 ++ [(Rg.mk ((lat l v9).op) ((lat l v9).ver) (1 : Int) ((lat l v9).lo) ((lat l v9).hi))]).length) tt54 tt72 rfl rfl (src_ref rfl rfl) rfl rfl (zYw (enc72.wd false) _) (Nat.le_trans (Nat.le_of_eq (@List.length_append _ (r0) ([(Rg.mk ((lat l v9).op) ((lat l v9).ver) (1 : Int) ((lat l v9).lo) ((lat l v9).hi))])).symm) s25) rfl (@List.length_append _ (r0) ([(Rg.mk ((lat l v9).op) ((lat l v9).ver) (1 : Int) ((lat l v9).lo) ((lat l v9).hi))])).symm (encL_app e72 r0 [(Rg.mk ((lat l v9).op) ((lat l v9).ver) (1 : Int) ((lat l v9).lo) ((lat l v9).hi))]) (cL rfl (zZq (v := .ref _ _ _) rfl (eL (zYv (zZ (W.ty [(0, .lst _ _ _), (4, .ref _ _ _), (7, .lst _ _ _), (8, .int _ _), (9, .int _ _)] rfl (W.rL1 ?_))))))))
 obtain ⟨s26, hv⟩ := hv
 refine cL rfl (o_add rfl rfl s26 (mI rfl rfl (eL (zZ (⟨(), (v9 + (1 : Int)), (r0 ++ [(Rg.mk ((lat l v9).op) ((lat l v9).ver) (1 : Int) ((lat l v9).lo) ((lat l v9).hi))]), hv, St.to_mk (φ := [some 3]) rfl (rfl) ⟨Ren.lst _ _ _, Ren.ref rfl (fun h => rfl), Ren.lst _ _ _, Ren.int _ _, Ren.int _ _, trivial⟩ ⟨zE enc72 false (r0 ++ [(Rg.mk ((lat l v9).op) ((lat l v9).ver) (1 : Int) ((lat l v9).lo) ((lat l v9).hi))]) rfl, trivial⟩⟩)))))
 have hv := hv.2 hc
 refine W.exit (zZt (zZt (zYs (zZ (W.ty [(4, .ref _ _ _)] rfl (W.rL (cL rfl (zZp (v := .ref _ _ _) rfl ?_))))))))
 obtain ⟨s27, s28, hv⟩ := hv
 refine cL rfl (zZu (k := 41) (fst := []) (caps := []) (ys := [.ref _ _ _]) rfl rfl (spec_join r0 s27 s28) (Wks.cons (ag_ref (fl := false) (xs := r0) enc72 4 _ rfl rfl) zk) (aL rfl rfl (aI rfl rfl (eL (W.ty [(2, .lst _ _ _), (3, .int _ _)] rfl (W.ret (rt (rt_t (v := .lst _ _ _) rfl (rt_t (v := .int _ _) rfl (rt_n (⟨_, rs_tup 5 _ (Wks.cons (rs_lst _ _ _ _) (Wks.cons (zY _ _ _ _) zk)), (joinM r0), (0 : Int), rfl, hv⟩)))))))))))
set_option maxHeartbeats 4000000 in
theorem vcp_fit (l : (List Fct)) (h0 : l.length <= 1073741823) : vc_fit l (fun q0 q1 => q0 = (fitM l).1 /\ q1 = (fitM l).2) := by
  unfold vc_fit
  refine ⟨fun v r => ∃ i : Nat, v = i /\ i <= l.length /\ r = (l.take i).map fRg /\ (0 < i -> l.length <= 400) /\ ∀ j : Nat, j < i -> factOk (lat l (j : Int)) = true, fun v _ => l.length - v.toNat, ⟨0, rfl, by omega, rfl, fun h => absurd h (by omega), fun j hj => by omega⟩, ?_⟩
  rintro _ _ ⟨i, rfl, hi, rfl, h400, hok⟩
  refine ⟨fun k1 => ⟨⟨by omega, k1⟩, fun k2 => ?_, fun k2 => ?_⟩, fun k1 => ?_⟩
  . have := fitM_bad (l := l) (i := i) (by omega) (by rcases k2 with k2 | k2; exact .inl (by omega); exact .inr k2)
    rw [this]; exact ⟨rfl, rfl⟩
  . have k3 : l.length <= 400 := by
      rcases Nat.lt_or_ge 400 l.length with h | h
      . exact absurd (.inl (by omega)) k2
      . exact h
    have k4 : factOk (lat l (i : Int)) = true := Decidable.not_not.1 fun h => k2 (.inr h)
    have e : (l.take i).map fRg ++ [fRg (lat l (i : Int))] = (l.take (i + 1)).map fRg := by rw [take_succ_lat (by omega), List.map_append]; rfl
    refine ⟨by simp; omega, by unfold inI; omega, ⟨i + 1, by omega, by omega, e, fun _ => k3, fun j hj => ?_⟩, dec_lt k1⟩
    rcases Nat.lt_or_ge j i with h | h
    . exact hok j h
    . rw [show j = i by omega]; exact k4
  . have hil : i = l.length := by omega
    subst hil
    rw [List.take_length]
    have e : fitM l = (joinM (l.map fRg), 0) := by
      unfold fitM
      rw [if_neg]
      rintro (h | h)
      . have := h400 (by omega); omega
      . refine h ?_
        rw [List.all_eq_true]
        intro f hf
        obtain ⟨j, hj, rfl⟩ := List.mem_iff_getElem.1 hf
        have := hok j hj
        rwa [lat_get hj] at this
    rw [e]
    refine ⟨by simpa using h0, fun x hx => ?_, rfl, rfl⟩
    obtain ⟨f, _, rfl⟩ := List.mem_map.1 hx
    exact ⟨by show (0 : Int) <= 1; omega, by show (1 : Int) <= 1000000; omega⟩
theorem spec_fit (l : (List Fct)) (h0 : l.length <= 1073741823) : FnP Try.prog 26 [.lst true l.length (zYy e69 l)] (fun xR => xR = .tup [.lst false ((fitM l).1).length (zYy e72 ((fitM l).1)), .int .i64 ((fitM l).2)]) :=
  (walk_fit (vcp_fit l h0)).mono (by rintro _ ⟨_, _, rfl, rfl, rfl⟩; rfl)
def vc_sameV (a : (List (List Vis))) (b : (List (List Vis))) (Post : Bool -> Prop) : Prop :=
  ((¬ (a.length : Int) = (b.length : Int)) -> Post false) /\ (¬ (¬ (a.length : Int) = (b.length : Int)) -> ∃ (I1 : Int -> Prop) (μ1 : Int -> Nat), I1 (0 : Int) /\ ∀ (v5 : Int), I1 v5 -> ((v5 < (a.length : Int)) -> (0 <= v5 /\ v5 < (a.length : Int)) /\ (0 <= v5 /\ v5 < (b.length : Int)) /\ ((¬ ((lat a v5).length : Int) = ((lat b v5).length : Int)) -> Post false) /\ (¬ (¬ ((lat a v5).length : Int) = ((lat b v5).length : Int)) -> ∃ (I2 : Int -> Prop) (μ2 : Int -> Nat), I2 (0 : Int) /\ ∀ (v6 : Int), I2 v6 -> (0 <= v5 /\ v5 < (a.length : Int)) /\ ((v6 < ((lat a v5).length : Int)) -> (0 <= v5 /\ v5 < (a.length : Int)) /\ (0 <= v6 /\ v6 < ((lat a v5).length : Int)) /\ (0 <= v5 /\ v5 < (b.length : Int)) /\ (0 <= v6 /\ v6 < ((lat b v5).length : Int)) /\ ((¬ (lat (lat a v5) v6) = (lat (lat b v5) v6)) -> Post false) /\ (¬ (¬ (lat (lat a v5) v6) = (lat (lat b v5) v6)) -> (inI (v6 + (1 : Int))) /\ (I2 (v6 + (1 : Int)) /\ μ2 (v6 + (1 : Int)) < μ2 v6))) /\ (¬ (v6 < ((lat a v5).length : Int)) -> (inI (v5 + (1 : Int))) /\ (I1 (v5 + (1 : Int)) /\ μ1 (v5 + (1 : Int)) < μ1 v5)))) /\ (¬ (v5 < (a.length : Int)) -> Post true))
theorem walk_sameV {a : (List (List Vis))} {b : (List (List Vis))} {Post : Bool -> Prop} (hv : vc_sameV a b Post) : FnP Try.prog 18 [.lst true a.length (zYy (eSl e36 true) a), .lst true b.length (zYy (eSl e36 true) b)] (fun x => ∃ q0, x = .bool q0 /\ Post q0) := by
 refine FnP.of_walk (T := tt) (nt := 53) ttOk ttMix ⟨⟨Try.f18, Try.func18, rfl, rfl, rfl, rfl⟩⟩ (by simp) ?_
 unfold vc_sameV at hv
 change W _ _ _ ⟨53, look [(0, .lst true a.length (zYy (eSl e36 true) a)), (1, .lst true b.length (zYy (eSl e36 true) b))], [], 0⟩ _
 refine W.ty [(0, .lst _ _ _), (1, .lst _ _ _)] rfl (W.rL (aB rfl rfl (eL (W.ty [(0, .lst _ _ _), (1, .lst _ _ _)] rfl (W.seq' (W.rL (mL rfl rfl (cL rfl (zXw (v := .lst _ _ _) tt28 rfl rfl (mL rfl rfl (cL rfl (zXw (v := .lst _ _ _) tt28 rfl rfl (cL rfl (o_neI rfl rfl rfl (eL (W.ty [(0, .lst _ _ _), (1, .lst _ _ _), (11, .bool _)] rfl (W.cn rfl (fun hc => ?_) (fun hc => ?_))))))))))))))))))
 have hv := hv.1 hc
 refine W.rL (aB rfl rfl (eL (W.ty [(4, .bool _)] rfl (W.ret (zZr (rt (rt_t (v := .bool _) rfl (rt_n (⟨_, zYr _ _ _, false, rfl, hv⟩)))))))))
 have hv := hv.2 hc
 refine W.skip (zZ (W.ty [(0, .lst _ _ _), (1, .lst _ _ _)] rfl (W.seq' (W.rL (aI rfl rfl (eL (W.ty [(0, .lst _ _ _), (1, .lst _ _ _), (5, .int _ _)] rfl (W.block ?_))))))))
 obtain ⟨I1, μ1, hp, hv⟩ := hv
 refine W.loop1 (fun v5 => ⟨53, look [(0, .lst true a.length (zYy (eSl e36 true) a)), (1, .lst true b.length (zYy (eSl e36 true) b)), (5, .int .i64 v5)], [], 0⟩) I1 μ1 (0 : Int) (St.to_mk (φ := []) rfl (rfl) (zT rfl rfl) trivial) hp ?_
 clear hp
 intro v5 hI
 replace hv := hv v5 hI
 clear hI
 refine W.seq' (W.rL (mI rfl rfl (mL rfl rfl (cL rfl (zXw (v := .lst _ _ _) tt28 rfl rfl (cL rfl (zYq rfl rfl (eL (W.ty [(0, .lst _ _ _), (1, .lst _ _ _), (5, .int _ _), (15, .bool _)] rfl (W.cn rfl (fun hc => ?_) (fun hc => ?_)))))))))))
 have hv := hv.1 hc
 refine W.skip (zZ (W.ty [(0, .lst _ _ _), (1, .lst _ _ _), (5, .int _ _)] rfl (W.seq' (W.block (W.seq' (W.rD [0, 1, 2, 3, 4, 5, 6, 7, 8, 9, 10] (by decide +kernel) rfl (mL rfl rfl (mI rfl rfl ?_))))))))
 obtain ⟨s188, hv⟩ := hv
 refine cL rfl (zYu tt28 tt43 rfl rfl ((encSl e36).wd true) rfl s188 ?_)
 intro rest188
 refine cL rfl (zZx (v := .lst _ _ _) tt43 rfl rfl ⟨_, rfl⟩ (cL rfl (zXw (v := .lst _ _ _) tt43 rfl rfl (mL rfl rfl (mI rfl rfl ?_)))))
 obtain ⟨s189, hv⟩ := hv
 refine cL rfl (zYu tt28 tt43 rfl rfl ((encSl e36).wd true) rfl s189 ?_)
 intro rest189
 refine cL rfl (zZx (v := .lst _ _ _) tt43 rfl rfl ⟨_, rfl⟩ (cL rfl (zXw (v := .lst _ _ _) tt43 rfl rfl (cL rfl (o_neI rfl rfl rfl (eL (W.ty [(0, .lst _ _ _), (1, .lst _ _ _), (5, .int _ _), (28, .bool _)] rfl (W.cn rfl (fun hc => ?_) (fun hc => ?_)))))))))
 have hv := hv.1 hc
 refine W.rL (aB rfl rfl (eL (W.ty [(4, .bool _)] rfl (W.ret (zZr (zYt (zZr (zZr (zYt (zZr (rt (rt_t (v := .bool _) rfl (rt_n (⟨_, zYr _ _ _, false, rfl, hv⟩))))))))))))))
 have hv := hv.2 hc
 refine W.skip (zZ (W.ty [(0, .lst _ _ _), (1, .lst _ _ _), (5, .int _ _)] rfl (W.rL (aI rfl rfl (eL (W.ty [(0, .lst _ _ _), (1, .lst _ _ _), (5, .int _ _), (6, .int _ _)] rfl (W.block ?_)))))))
 obtain ⟨I2, μ2, hp, hv⟩ := hv
 refine W.loop1 (fun v6 => ⟨53, look [(0, .lst true a.length (zYy (eSl e36 true) a)), (1, .lst true b.length (zYy (eSl e36 true) b)), (5, .int .i64 v5), (6, .int .i64 v6)], [], 0⟩) I2 μ2 (0 : Int) (St.to_mk (φ := []) rfl (rfl) (zT rfl rfl) trivial) hp ?_
 clear hp
 intro v6 hI
 replace hv := hv v6 hI
 clear hI
 refine W.seq' (W.rL (mI rfl rfl (mL rfl rfl (mI rfl rfl ?_))))
 obtain ⟨s202, hv⟩ := hv
 refine cL rfl (zYu tt28 tt43 rfl rfl ((encSl e36).wd true) rfl s202 ?_)
 intro rest202
 refine cL rfl (zZx (v := .lst _ _ _) tt43 rfl rfl ⟨_, rfl⟩ (cL rfl (zXw (v := .lst _ _ _) tt43 rfl rfl (cL rfl (zYq rfl rfl (eL (W.ty [(0, .lst _ _ _), (1, .lst _ _ _), (5, .int _ _), (6, .int _ _), (35, .bool _)] rfl (W.cn rfl (fun hc => ?_) (fun hc => ?_)))))))))
 have hv := hv.1 hc
 refine W.skip (zZ (W.ty [(0, .lst _ _ _), (1, .lst _ _ _), (5, .int _ _), (6, .int _ _)] rfl (W.seq' (W.block (W.rD [0, 1, 2, 3, 4, 5, 6, 7, 8, 9, 10, 11, 12, 13, 14] (by decide +kernel) rfl (mL rfl rfl (mI rfl rfl ?_)))))))
 obtain ⟨s207, hv⟩ := hv
 refine cL rfl (zYu tt28 tt43 rfl rfl ((encSl e36).wd true) rfl s207 ?_)
 intro rest207
 refine cL rfl (zZx (v := .lst _ _ _) tt43 rfl rfl ⟨_, rfl⟩ (mI rfl rfl ?_))
 obtain ⟨s208, hv⟩ := hv
 refine cL rfl (zYu tt43 tt36 rfl rfl (enc36.wd true) rfl s208 ?_)
 intro rest208
 refine cL rfl (zYp (cs := [.int _ _, .int _ _, .int _ _]) tt36 rfl rfl ⟨_, rfl⟩ rfl (mL rfl rfl (mI rfl rfl ?_)))
 obtain ⟨s209, hv⟩ := hv
 refine cL rfl (zYu tt28 tt43 rfl rfl ((encSl e36).wd true) rfl s209 ?_)
 intro rest209
 refine cL rfl (zZx (v := .lst _ _ _) tt43 rfl rfl ⟨_, rfl⟩ (mI rfl rfl ?_))
 obtain ⟨s210, hv⟩ := hv
 refine cL rfl (zYu tt43 tt36 rfl rfl (enc36.wd true) rfl s210 ?_)
 intro rest210
 refine cL rfl (zYp (cs := [.int _ _, .int _ _, .int _ _]) tt36 rfl rfl ⟨_, rfl⟩ rfl (cL rfl (o_neS [(lat (lat a v5) v6).rd, (lat (lat a v5) v6).st, (lat (lat a v5) v6).en] [(lat (lat b v5) v6).rd, (lat (lat b v5) v6).st, (lat (lat b v5) v6).en] tt36 eqf36 rfl rfl rfl rfl rfl rfl (eq36 (lat (lat a v5) v6) (lat (lat b v5) v6)) (eL (W.ty [(0, .lst _ _ _), (1, .lst _ _ _), (5, .int _ _), (6, .int _ _), (52, .bool _)] rfl (W.cn rfl (fun hc => ?_) (fun hc => ?_)))))))
 have hv := hv.1 hc
 refine W.rL (aB rfl rfl (eL (W.ty [(4, .bool _)] rfl (W.ret (zYt (zZr (zZr (zYt (zYt (zZr (zZr (zYt (zZr (rt (rt_t (v := .bool _) rfl (rt_n (⟨_, zYr _ _ _, false, rfl, hv⟩)))))))))))))))))
 have hv := hv.2 hc
 refine W.skip (zYv (zZ (W.ty [(0, .lst _ _ _), (1, .lst _ _ _), (5, .int _ _), (6, .int _ _)] rfl (W.rL1 (mI rfl rfl ?_)))))
 obtain ⟨s211, hv⟩ := hv
 refine cL rfl (o_add rfl rfl s211 (aI rfl rfl (eL (zZ (⟨(), (v6 + (1 : Int)), hv, St.to_mk (φ := []) rfl (rfl) (zT rfl rfl) trivial⟩)))))
 have hv := hv.2 hc
 refine W.exit (zZt (zZt (zYs (zYv (zZ (W.ty [(0, .lst _ _ _), (1, .lst _ _ _), (5, .int _ _)] rfl (W.rL1 (mI rfl rfl ?_))))))))
 obtain ⟨s212, hv⟩ := hv
 refine cL rfl (o_add rfl rfl s212 (aI rfl rfl (eL (zZ (⟨(), (v5 + (1 : Int)), hv, St.to_mk (φ := []) rfl (rfl) (zT rfl rfl) trivial⟩)))))
 have hv := hv.2 hc
 refine W.exit (zZt (zZt (zYs (zZ (W.ty [] rfl (W.rL (aB rfl rfl (eL (W.ty [(4, .bool _)] rfl (W.ret (rt (rt_t (v := .bool _) rfl (rt_n (⟨_, zYr _ _ _, true, rfl, hv⟩))))))))))))))
set_option maxHeartbeats 4000000 in
theorem vcp_sameV (a : (List (List Vis))) (b : (List (List Vis))) (h0 : a.length <= 9223372036854775807) (h1 : b.length <= 9223372036854775807) (h2 : ∀ j ∈ a, j.length <= 9223372036854775807) (h3 : ∀ j ∈ b, j.length <= 9223372036854775807) : vc_sameV a b (fun q0 => q0 = (decide (a = b))) := by
  have bad : ∀ {q : Prop}, (a = b -> q) -> ¬ q -> false = decide (a = b) := fun h k => (decide_eq_false fun e => k (h e)).symm
  unfold vc_sameV
  refine ⟨fun k => bad (fun h => by rw [h]) k, fun k => ?_⟩
  have hl : a.length = b.length := by have := Decidable.not_not.1 k; omega
  refine ⟨fun v => ∃ i : Nat, v = i /\ i <= a.length /\ ∀ q : Nat, q < i -> lat a (q : Int) = lat b (q : Int), fun v => a.length - v.toNat, ⟨0, rfl, by omega, fun a ha => by omega⟩, ?_⟩
  rintro _ ⟨i, rfl, hi, hx⟩
  refine ⟨fun k1 => ⟨⟨by omega, k1⟩, ⟨by omega, by omega⟩, fun k2 => bad (q := (lat a (i : Int)).length = (lat b (i : Int)).length) (fun h => by rw [h]) (by omega), fun k2 => ?_⟩, fun k1 => ?_⟩
  . have ha := h2 _ (lat_mem (xs := a) (i := (i : Int)) ⟨by omega, k1⟩)
    have hwl : (lat a (i : Int)).length = (lat b (i : Int)).length := by omega
    refine ⟨fun v => ∃ p : Nat, v = p /\ p <= (lat a (i : Int)).length /\ ∀ q : Nat, q < p -> lat (lat a (i : Int)) (q : Int) = lat (lat b (i : Int)) (q : Int), fun v => (lat a (i : Int)).length - v.toNat, ⟨0, rfl, by omega, fun a ha => by omega⟩, ?_⟩
    rintro _ ⟨p, rfl, hp, hy⟩
    refine ⟨⟨by omega, k1⟩, fun k3 => ⟨⟨by omega, k1⟩, ⟨by omega, k3⟩, ⟨by omega, by omega⟩, ⟨by omega, by omega⟩, fun k4 => bad (fun h => by rw [h]) k4, fun k4 => ⟨by unfold inI; omega, ⟨p + 1, by omega, by omega, fun q hq => ?_⟩, dec_lt k3⟩⟩, fun k3 => ⟨by unfold inI; omega, ⟨i + 1, by omega, by omega, fun q hq => ?_⟩, dec_lt k1⟩⟩
    . rcases Nat.lt_or_ge q p with h | h
      . exact hy q h
      . rw [show q = p by omega]; exact Decidable.not_not.1 k4
    . rcases Nat.lt_or_ge q i with h | h
      . exact hx q h
      . rw [show q = i by omega]
        apply List.ext_getElem hwl
        intro m m1 m2
        have := hy m (by omega)
        rwa [lat_get m1, lat_get m2] at this
  . show true = decide (a = b)
    symm
    rw [decide_eq_true_eq]
    apply List.ext_getElem hl
    intro m m1 m2
    have := hx m (by omega)
    rwa [lat_get m1, lat_get m2] at this
theorem spec_sameV (a : (List (List Vis))) (b : (List (List Vis))) (h0 : a.length <= 9223372036854775807) (h1 : b.length <= 9223372036854775807) (h2 : ∀ j ∈ a, j.length <= 9223372036854775807) (h3 : ∀ j ∈ b, j.length <= 9223372036854775807) : FnP Try.prog 18 [.lst true a.length (zYy (eSl e36 true) a), .lst true b.length (zYy (eSl e36 true) b)] (fun xR => xR = .bool (decide (a = b))) :=
  (walk_sameV (vcp_sameV a b h0 h1 h2 h3)).mono (by rintro _ ⟨_, rfl, rfl⟩; rfl)
def vc_vranges (l : (List Rg)) (Post : Bool -> Prop) : Prop :=
  ∃ (I1 : Int -> Prop) (μ1 : Int -> Nat), I1 (0 : Int) /\ ∀ (v7 : Int), I1 v7 -> ((v7 < (l.length : Int)) -> (0 <= v7 /\ v7 < (l.length : Int)) /\ (((¬ ((inM ((lat l v7).op) (0 : Int) (11 : Int)) = true)) -> True) /\ (¬ (¬ ((inM ((lat l v7).op) (0 : Int) (11 : Int)) = true)) -> ((¬ ((inM ((lat l v7).ver) (0 : Int) (9 : Int)) = true)) -> True) /\ (¬ (¬ ((inM ((lat l v7).ver) (0 : Int) (9 : Int)) = true)) -> ((¬ ((inM ((lat l v7).nu) (1 : Int) (1000000 : Int)) = true)) -> True) /\ (¬ (¬ ((inM ((lat l v7).nu) (1 : Int) (1000000 : Int)) = true)) -> ((¬ ((inM ((lat l v7).le) (0 : Int) ((lat l v7).mo)) = true)) -> True) /\ (¬ (¬ ((inM ((lat l v7).le) (0 : Int) ((lat l v7).mo)) = true)) -> (((4398046511104 : Int) < ((lat l v7).mo)) -> True) /\ (¬ ((4398046511104 : Int) < ((lat l v7).mo)) -> (((0 : Int) < v7) -> (inI (v7 - (1 : Int))) /\ (0 <= (v7 - (1 : Int)) /\ (v7 - (1 : Int)) < (l.length : Int)) /\ True) /\ (¬ ((0 : Int) < v7) -> True))))))) /\ ((((¬ ((inM ((lat l v7).op) (0 : Int) (11 : Int)) = true)) \/ ((¬ ((inM ((lat l v7).ver) (0 : Int) (9 : Int)) = true)) \/ ((¬ ((inM ((lat l v7).nu) (1 : Int) (1000000 : Int)) = true)) \/ ((¬ ((inM ((lat l v7).le) (0 : Int) ((lat l v7).mo)) = true)) \/ (((4398046511104 : Int) < ((lat l v7).mo)) \/ (((0 : Int) < v7) /\ ((0 : Int) <= (cmpR (lat l (v7 - (1 : Int))) (lat l v7))))))))) -> Post false) /\ (¬ ((¬ ((inM ((lat l v7).op) (0 : Int) (11 : Int)) = true)) \/ ((¬ ((inM ((lat l v7).ver) (0 : Int) (9 : Int)) = true)) \/ ((¬ ((inM ((lat l v7).nu) (1 : Int) (1000000 : Int)) = true)) \/ ((¬ ((inM ((lat l v7).le) (0 : Int) ((lat l v7).mo)) = true)) \/ (((4398046511104 : Int) < ((lat l v7).mo)) \/ (((0 : Int) < v7) /\ ((0 : Int) <= (cmpR (lat l (v7 - (1 : Int))) (lat l v7))))))))) -> (inI (v7 + (1 : Int))) /\ (I1 (v7 + (1 : Int)) /\ μ1 (v7 + (1 : Int)) < μ1 v7)))) /\ (¬ (v7 < (l.length : Int)) -> Post true)
theorem walk_vranges {l : (List Rg)} {Post : Bool -> Prop} (hv : vc_vranges l Post) : FnP Try.prog 31 [.lst true l.length (zYy e72 l)] (fun x => ∃ q0, x = .bool q0 /\ Post q0) := by
 refine FnP.of_walk (T := tt) (nt := 56) ttOk ttMix ⟨⟨Try.f31, Try.func31, rfl, rfl, rfl, rfl⟩⟩ (by simp) ?_
 unfold vc_vranges at hv
 change W _ _ _ ⟨56, look [(0, .lst true l.length (zYy e72 l))], [], 0⟩ _
 refine W.ty [(0, .lst _ _ _)] rfl (W.rL (aB rfl rfl (eL (W.ty [(0, .lst _ _ _)] rfl (W.seq' (W.rL (mL rfl rfl (cL rfl (zXw (v := .lst _ _ _) tt54 rfl rfl (mI rfl rfl (eL (W.ty [(0, .lst _ _ _), (5, .lst _ _ _), (6, .int _ _), (7, .int _ _)] rfl (W.block ?_)))))))))))))
 obtain ⟨I1, μ1, hp, hv⟩ := hv
 refine W.loop1 (fun v7 => ⟨56, look [(0, .lst true l.length (zYy e72 l)), (5, .lst true l.length (zYy e72 l)), (6, .int .i64 (l.length : Int)), (7, .int .i64 v7)], [], 0⟩) I1 μ1 (0 : Int) (St.to_mk (φ := []) rfl (rfl) (zT rfl rfl) trivial) hp ?_
 clear hp
 intro v7 hI
 replace hv := hv v7 hI
 clear hI
 refine W.rL (cL rfl (zYq rfl rfl (eL (W.ty [(0, .lst _ _ _), (5, .lst _ _ _), (6, .int _ _), (7, .int _ _), (8, .bool _)] rfl (W.seq' (W.cn rfl (fun hc => ?_) (fun hc => ?_)))))))
 have hv := hv.1 hc
 refine W.skip (zZ (W.ty [(0, .lst _ _ _), (5, .lst _ _ _), (6, .int _ _), (7, .int _ _)] rfl (W.seq' (W.block (W.rL (mI rfl rfl ?_))))))
 obtain ⟨s39, hv⟩ := hv
 refine cL rfl (zYu tt54 tt72 rfl rfl (enc72.wd true) rfl s39 ?_)
 intro rest39
 refine cL rfl (zYp (cs := [.int _ _, .int _ _, .int _ _, .int _ _, .int _ _]) tt72 rfl rfl ⟨_, rfl⟩ rfl (cL rfl (zXy (p := 0) tt72 rfl rfl (aI rfl rfl (cLn (o_stB (v := .agg _) (vs := [.int _ _, .int _ _, .int _ _, .int _ _, .int _ _]) (cs2 := [.int _ _, .int _ _, .int _ _, .int _ _, .int _ _]) tt72 rfl rfl rfl rfl rfl (Nat.le_of_ble_eq_true rfl) rfl (eL (W.ty [(0, .lst _ _ _), (3, .int _ _), (4, .ptr _ _), (5, .lst _ _ _), (6, .int _ _), (7, .int _ _)] rfl ?_))))))))
 obtain ⟨sd, hv⟩ := hv
 refine W.rDm ⟨56, look [(0, .lst true l.length (zYy e72 l)), (5, .lst true l.length (zYy e72 l)), (6, .int .i64 (l.length : Int)), (7, .int .i64 v7), (54, .bool (decide ((¬ ((inM ((lat l v7).op) (0 : Int) (11 : Int)) = true)) \/ ((¬ ((inM ((lat l v7).ver) (0 : Int) (9 : Int)) = true)) \/ ((¬ ((inM ((lat l v7).nu) (1 : Int) (1000000 : Int)) = true)) \/ ((¬ ((inM ((lat l v7).le) (0 : Int) ((lat l v7).mo)) = true)) \/ (((4398046511104 : Int) < ((lat l v7).mo)) \/ (((0 : Int) < v7) /\ ((0 : Int) <= (cmpR (lat l (v7 - (1 : Int))) (lat l v7)))))))))))], [.box 72 [.int .i64 ((lat l v7).op), .int .i64 ((lat l v7).ver), .int .i64 ((lat l v7).nu), .int .i64 ((lat l v7).le), .int .i64 ((lat l v7).mo)]], 0⟩ [0, 1, 2, 3, 4, 5, 6, 7, 8, 9, 10, 11, 12, 13, 14, 15, 16, 17, 18, 19, 20, 21, 22, 23, 24, 25, 26, 27, 28, 29, 30, 31, 32, 33, 34, 35, 36, 37, 38, 39, 40, 41, 42] (by decide +kernel) rfl ?_ ?_
 refine cL rfl (o_fa tt72 rfl tt3 rfl (cL rfl (zZx (v := .int _ _) tt3 rfl rfl ⟨_, rfl⟩ (cL rfl (zZu (k := 37) (fst := []) (caps := []) (ys := [.int _ _, .int _ _, .int _ _]) rfl rfl (spec_inr ((lat l v7).op) (0 : Int) (11 : Int)) zk (cL rfl (o_notB rfl (mB rfl rfl ?_))))))))
 by_cases c1 : ¬ ((inM ((lat l v7).op) (0 : Int) (11 : Int)) = true)
 iterate 4 refine cLs rfl rfl rfl (dT c1) ?_
 refine cL rfl (zZv (v := .bool _) rfl (dT c1) rfl (mB rfl rfl ?_))
 iterate 4 refine cLs rfl rfl rfl (rfl) ?_
 refine cL rfl (zZv (v := .bool _) rfl rfl rfl (mB rfl rfl ?_))
 iterate 6 refine cLs rfl rfl rfl (rfl) ?_
 refine cL rfl (zZv (v := .bool _) rfl rfl rfl (mB rfl rfl ?_))
 iterate 3 refine cLs rfl rfl rfl (rfl) ?_
 refine cL rfl (zZv (v := .bool _) rfl rfl rfl (mB rfl rfl ?_))
 iterate 3 refine cLs rfl rfl rfl (rfl) ?_
 iterate 4 refine cLu rfl rfl rfl ?_
 iterate 4 refine cLu rfl rfl (by kernel_rfl) ?_
 refine cLs rfl rfl rfl (rfl) (cL rfl (zZv (v := .bool _) rfl rfl rfl (eL (zYz ⟨rfl, rfl, rfl, rfl, (congrArg AV.bool (dOrT c1)).symm, trivial⟩ rfl))))
 have sd := sd.2 c1
 refine cLg rfl rfl (dF c1) (cL rfl (o_fa tt72 rfl tt3 rfl (cLg rfl rfl (dF c1) (cL rfl (zZx (v := .int _ _) tt3 rfl rfl ⟨_, rfl⟩ (cLg rfl rfl (dF c1) (cL rfl (zZu (k := 37) (fst := []) (caps := []) (ys := [.int _ _, .int _ _, .int _ _]) rfl rfl (spec_inr ((lat l v7).ver) (0 : Int) (9 : Int)) zk (cLg rfl rfl (dF c1) (cL rfl (o_notB rfl (cL rfl (zZy (v := .bool _) rfl (dF c1) rfl (mB rfl rfl ?_))))))))))))))
 by_cases c2 : ¬ ((inM ((lat l v7).ver) (0 : Int) (9 : Int)) = true)
 iterate 4 refine cLs rfl rfl rfl (dT c2) ?_
 refine cL rfl (zZv (v := .bool _) rfl (dT c2) rfl (mB rfl rfl ?_))
 iterate 6 refine cLs rfl rfl rfl (rfl) ?_
 refine cL rfl (zZv (v := .bool _) rfl rfl rfl (mB rfl rfl ?_))
 iterate 3 refine cLs rfl rfl rfl (rfl) ?_
 refine cL rfl (zZv (v := .bool _) rfl rfl rfl (mB rfl rfl ?_))
 iterate 3 refine cLs rfl rfl rfl (rfl) ?_
 iterate 4 refine cLu rfl rfl rfl ?_
 iterate 4 refine cLu rfl rfl (by kernel_rfl) ?_
 refine cLs rfl rfl rfl (rfl) (cL rfl (zZv (v := .bool _) rfl rfl rfl (eL (zYz ⟨rfl, rfl, rfl, rfl, (congrArg AV.bool (dOrF c1 (dOrT c2))).symm, trivial⟩ rfl))))
 have sd := sd.2 c2
 refine cLg rfl rfl (dF c2) (cL rfl (o_fa tt72 rfl tt3 rfl (cLg rfl rfl (dF c2) (cL rfl (zZx (v := .int _ _) tt3 rfl rfl ⟨_, rfl⟩ (cLg rfl rfl (dF c2) (cL rfl (zZu (k := 37) (fst := []) (caps := []) (ys := [.int _ _, .int _ _, .int _ _]) rfl rfl (spec_inr ((lat l v7).nu) (1 : Int) (1000000 : Int)) zk (cLg rfl rfl (dF c2) (cL rfl (o_notB rfl (cL rfl (zZy (v := .bool _) rfl (dF c2) rfl (mB rfl rfl ?_))))))))))))))
 by_cases c3 : ¬ ((inM ((lat l v7).nu) (1 : Int) (1000000 : Int)) = true)
 iterate 6 refine cLs rfl rfl rfl (dT c3) ?_
 refine cL rfl (zZv (v := .bool _) rfl (dT c3) rfl (mB rfl rfl ?_))
 iterate 3 refine cLs rfl rfl rfl (rfl) ?_
 refine cL rfl (zZv (v := .bool _) rfl rfl rfl (mB rfl rfl ?_))
 iterate 3 refine cLs rfl rfl rfl (rfl) ?_
 iterate 4 refine cLu rfl rfl rfl ?_
 iterate 4 refine cLu rfl rfl (by kernel_rfl) ?_
 refine cLs rfl rfl rfl (rfl) (cL rfl (zZv (v := .bool _) rfl rfl rfl (eL (zYz ⟨rfl, rfl, rfl, rfl, (congrArg AV.bool (dOrF c1 (dOrF c2 (dOrT c3)))).symm, trivial⟩ rfl))))
 have sd := sd.2 c3
 refine cLg rfl rfl (dF c3) (cL rfl (o_fa tt72 rfl tt3 rfl (cLg rfl rfl (dF c3) (cL rfl (zZx (v := .int _ _) tt3 rfl rfl ⟨_, rfl⟩ (cLg rfl rfl (dF c3) (cL rfl (o_fa tt72 rfl tt3 rfl (cLg rfl rfl (dF c3) (cL rfl (zZx (v := .int _ _) tt3 rfl rfl ⟨_, rfl⟩ (cLg rfl rfl (dF c3) (cL rfl (zZu (k := 37) (fst := []) (caps := []) (ys := [.int _ _, .int _ _, .int _ _]) rfl rfl (spec_inr ((lat l v7).le) (0 : Int) ((lat l v7).mo)) zk (cLg rfl rfl (dF c3) (cL rfl (o_notB rfl (cL rfl (zZy (v := .bool _) rfl (dF c3) rfl (mB rfl rfl ?_))))))))))))))))))))
 by_cases c4 : ¬ ((inM ((lat l v7).le) (0 : Int) ((lat l v7).mo)) = true)
 iterate 3 refine cLs rfl rfl rfl (dT c4) ?_
 refine cL rfl (zZv (v := .bool _) rfl (dT c4) rfl (mB rfl rfl ?_))
 iterate 3 refine cLs rfl rfl rfl (rfl) ?_
 iterate 4 refine cLu rfl rfl rfl ?_
 iterate 4 refine cLu rfl rfl (by kernel_rfl) ?_
 refine cLs rfl rfl rfl (rfl) (cL rfl (zZv (v := .bool _) rfl rfl rfl (eL (zYz ⟨rfl, rfl, rfl, rfl, (congrArg AV.bool (dOrF c1 (dOrF c2 (dOrF c3 (dOrT c4))))).symm, trivial⟩ rfl))))
 have sd := sd.2 c4
 refine cLg rfl rfl (dF c4) (cL rfl (o_fa tt72 rfl tt3 rfl (cLg rfl rfl (dF c4) (cL rfl (zZx (v := .int _ _) tt3 rfl rfl ⟨_, rfl⟩ (cLg rfl rfl (dF c4) (cL rfl (o_gtr rfl rfl (cL rfl (zZy (v := .bool _) rfl (dF c4) rfl (mB rfl rfl ?_)))))))))))
 by_cases c5 : (4398046511104 : Int) < ((lat l v7).mo)
 iterate 3 refine cLs rfl rfl rfl (dT c5) ?_
 iterate 4 refine cLu rfl rfl rfl ?_
 iterate 4 refine cLu rfl rfl (by kernel_rfl) ?_
 refine cLs rfl rfl rfl (dT c5) (cL rfl (zZv (v := .bool _) rfl (dT c5) rfl (eL (zYz ⟨rfl, rfl, rfl, rfl, (congrArg AV.bool (dOrF c1 (dOrF c2 (dOrF c3 (dOrF c4 (dOrT c5)))))).symm, trivial⟩ rfl))))
 have sd := sd.2 c5
 refine cLg rfl rfl (dF c5) (mI rfl rfl (cLg rfl rfl (dF c5) (cL rfl (o_gtr rfl rfl (cLg rfl rfl (dF c5) (mB rfl rfl ?_))))))
 by_cases c6 : (0 : Int) < v7
 have sd := sd.1 c6
 refine cLg rfl rfl (dT c6) (mL rfl rfl (cLg rfl rfl (dT c6) (mI rfl rfl (cLg rfl rfl (dT c6) ?_))))
 obtain ⟨s42, sd⟩ := sd
 refine cL rfl (o_sub rfl rfl s42 (cLg rfl rfl (dT c6) ?_))
 obtain ⟨s43, sd⟩ := sd
 refine cL rfl (zYu tt54 tt72 rfl rfl (enc72.wd true) rfl s43 ?_)
 intro rest43
 refine cLg rfl rfl (dT c6) (cL rfl (zYp (cs := [.int _ _, .int _ _, .int _ _, .int _ _, .int _ _]) tt72 rfl rfl ⟨_, rfl⟩ rfl (cLg rfl rfl (dT c6) (cL rfl (zYp (cs := [.int _ _, .int _ _, .int _ _, .int _ _, .int _ _]) tt72 rfl rfl ⟨_, rfl⟩ rfl (cLg rfl rfl (dT c6) (cL rfl (zZu (k := 45) (fst := []) (caps := []) (ys := [.agg _, .agg _]) rfl rfl (spec_cmpR (lat l (v7 - (1 : Int))) (lat l v7)) zk (cLg rfl rfl (dT c6) (cL rfl (o_geq rfl rfl (cLg rfl rfl (dF c5) (cL rfl (zZv (v := .bool _) rfl (dT c6) rfl (cL rfl (zZy (v := .bool _) rfl (dF c5) rfl (eL (zYz ⟨rfl, rfl, rfl, rfl, (congrArg AV.bool (dOrF c1 (dOrF c2 (dOrF c3 (dOrF c4 (dOrF c5 (zXv c6 (rfl)))))))).symm, trivial⟩ rfl))))))))))))))))))
 iterate 8 refine cLs rfl rfl rfl (dF c6) ?_
 refine cLg rfl rfl (dF c5) (cL rfl (zZy (v := .bool _) rfl (dF c6) rfl (cL rfl (zZy (v := .bool _) rfl (dF c5) rfl (eL (zYz ⟨rfl, rfl, rfl, rfl, (congrArg AV.bool (dOrF c1 (dOrF c2 (dOrF c3 (dOrF c4 (dOrF c5 (dAndF c6))))))).symm, trivial⟩ rfl))))))
 refine W.cn rfl (fun hc => ?_) (fun hc => ?_)
 have hv := hv.1 hc
 refine W.rL (aB rfl rfl (eL (W.ty [(2, .bool _)] rfl (W.ret (zYt (zZr (zZr (zYt (zZr (rt (rt_t (v := .bool _) rfl (rt_n (⟨_, zYr _ _ _, false, rfl, hv⟩)))))))))))))
 have hv := hv.2 hc
 refine W.skip (zYv (zZ (W.ty [(0, .lst _ _ _), (5, .lst _ _ _), (6, .int _ _), (7, .int _ _)] rfl (W.rL1 ?_))))
 obtain ⟨s44, hv⟩ := hv
 refine cL rfl (o_add rfl rfl s44 (mI rfl rfl (eL (zZ (⟨(), (v7 + (1 : Int)), hv, St.to_mk (φ := []) rfl (rfl) (zT rfl rfl) trivial⟩)))))
 have hv := hv.2 hc
 refine W.exit (zZt (zZt (zYs (zZ (W.ty [] rfl (W.rL (aB rfl rfl (eL (W.ty [(2, .bool _)] rfl (W.ret (rt (rt_t (v := .bool _) rfl (rt_n (⟨_, zYr _ _ _, true, rfl, hv⟩))))))))))))))
set_option maxHeartbeats 4000000 in
theorem vcp_vranges (l : (List Rg)) (h0 : l.length <= 9223372036854775807) : vc_vranges l (fun q0 => q0 = (validRgs l)) := by
  have e1 : ∀ n lo hi : Int, (inM n lo hi = true) = (lo <= n /\ n <= hi) := fun n lo hi => by unfold inM; simp
  have bad : ∀ {q : Prop}, (RgsOk l -> q) -> ¬ q -> false = validRgs l := fun h k => by
    rcases hv : validRgs l with _ | _
    . rfl
    . exact absurd (h ((validRgs_iff l).1 hv)) k
  unfold vc_vranges
  simp only [e1, Decidable.not_not]
  refine ⟨fun v => ∃ i : Nat, v = i /\ i <= l.length /\ (∀ a : Nat, a < i -> (0 <= (lat l a).op /\ (lat l a).op <= 11) /\ (0 <= (lat l a).ver /\ (lat l a).ver <= 9) /\ (1 <= (lat l a).nu /\ (lat l a).nu <= 1000000) /\ (0 <= (lat l a).le /\ (lat l a).le <= (lat l a).mo) /\ (lat l a).mo <= 4398046511104) /\ ∀ a : Nat, a + 1 < i -> cmpR (lat l a) (lat l ((a + 1 : Nat) : Int)) < 0, fun v => l.length - v.toNat, ⟨0, rfl, by omega, fun a ha => by omega, fun a ha => by omega⟩, ?_⟩
  rintro _ ⟨i, rfl, hi, hx, ho⟩
  refine ⟨fun k1 => ⟨⟨by omega, k1⟩, ⟨fun _ => trivial, fun _ => ⟨fun _ => trivial, fun _ => ⟨fun _ => trivial, fun _ => ⟨fun _ => trivial, fun _ => ⟨fun _ => trivial, fun _ => ⟨fun k => ⟨by unfold inI; omega, ⟨by omega, by omega⟩, trivial⟩, fun _ => trivial⟩⟩⟩⟩⟩⟩, fun k2 => ?_, fun k2 => ?_⟩, fun k1 => ?_⟩
  . by_cases hc : 0 < (i : Int) /\ 0 <= cmpR (lat l ((i : Int) - 1)) (lat l (i : Int))
    . obtain ⟨q, rfl⟩ : ∃ q, i = q + 1 := ⟨i - 1, by omega⟩
      rw [show (((q + 1 : Nat) : Int) - 1) = (q : Int) by omega] at hc
      exact bad (fun h => h.ord q (by omega)) (by omega)
    . exact bad (fun h => h.ok i (by omega)) (by omega)
  . have hk : ((0 <= (lat l (i : Int)).op /\ (lat l (i : Int)).op <= 11) /\ (0 <= (lat l (i : Int)).ver /\ (lat l (i : Int)).ver <= 9) /\ (1 <= (lat l (i : Int)).nu /\ (lat l (i : Int)).nu <= 1000000) /\ (0 <= (lat l (i : Int)).le /\ (lat l (i : Int)).le <= (lat l (i : Int)).mo) /\ (lat l (i : Int)).mo <= 4398046511104) /\ ¬ (0 < (i : Int) /\ 0 <= cmpR (lat l ((i : Int) - 1)) (lat l (i : Int))) := by omega
    refine ⟨by unfold inI; omega, ⟨i + 1, by omega, by omega, fun a ha => ?_, fun a ha => ?_⟩, dec_lt k1⟩
    . rcases Nat.lt_or_ge a i with h | h
      . exact hx a h
      . rw [show a = i by omega]; exact hk.1
    . rcases Nat.lt_or_ge (a + 1) i with h | h
      . exact ho a h
      . have ea : i = a + 1 := by omega
        subst ea
        have h2 := hk.2
        rw [show (((a + 1 : Nat) : Int) - 1) = (a : Int) by omega] at h2
        omega
  . have ei : i = l.length := by omega
    subst ei
    exact ((validRgs_iff l).2 ⟨hx, ho⟩).symm
theorem spec_vranges (l : (List Rg)) (h0 : l.length <= 9223372036854775807) : FnP Try.prog 31 [.lst true l.length (zYy e72 l)] (fun xR => xR = .bool (validRgs l)) :=
  (walk_vranges (vcp_vranges l h0)).mono (by rintro _ ⟨_, rfl, rfl⟩; rfl)
def vc_allows (l : (List Rg)) (op : Int) (ver : Int) (t : Int) (Post : Bool -> Prop) : Prop :=
  (l.length <= 1073741824) /\ ((l.length <= 9223372036854775807) /\ (((validRgs l) = true) -> ((((bsM l (Rg.mk op ver (0 : Int) (0 : Int) (0 : Int))).2) = true) -> (0 <= ((bsM l (Rg.mk op ver (0 : Int) (0 : Int) (0 : Int))).1) /\ ((bsM l (Rg.mk op ver (0 : Int) (0 : Int) (0 : Int))).1) < (l.length : Int)) /\ (((3 : Int) <= ((lat l ((bsM l (Rg.mk op ver (0 : Int) (0 : Int) (0 : Int))).1)).nu)) -> (0 <= ((bsM l (Rg.mk op ver (0 : Int) (0 : Int) (0 : Int))).1) /\ ((bsM l (Rg.mk op ver (0 : Int) (0 : Int) (0 : Int))).1) < (l.length : Int)) /\ (0 <= ((bsM l (Rg.mk op ver (0 : Int) (0 : Int) (0 : Int))).1) /\ ((bsM l (Rg.mk op ver (0 : Int) (0 : Int) (0 : Int))).1) < (l.length : Int)) /\ True) /\ (¬ ((3 : Int) <= ((lat l ((bsM l (Rg.mk op ver (0 : Int) (0 : Int) (0 : Int))).1)).nu)) -> True)) /\ (¬ (((bsM l (Rg.mk op ver (0 : Int) (0 : Int) (0 : Int))).2) = true) -> True)) /\ (¬ ((validRgs l) = true) -> True)) /\ (Post (decide (((validRgs l) = true) /\ ((((bsM l (Rg.mk op ver (0 : Int) (0 : Int) (0 : Int))).2) = true) /\ (((3 : Int) <= ((lat l ((bsM l (Rg.mk op ver (0 : Int) (0 : Int) (0 : Int))).1)).nu)) /\ ((inM t ((lat l ((bsM l (Rg.mk op ver (0 : Int) (0 : Int) (0 : Int))).1)).le) ((lat l ((bsM l (Rg.mk op ver (0 : Int) (0 : Int) (0 : Int))).1)).mo)) = true))))))
theorem walk_allows {l : (List Rg)} {op : Int} {ver : Int} {t : Int} {Post : Bool -> Prop} (hv : vc_allows l op ver t Post) : FnP Try.prog 33 [.lst true l.length (zYy e72 l), .int .i64 op, .int .i64 ver, .int .i64 t] (fun x => ∃ q0, x = .bool q0 /\ Post q0) := by
 refine FnP.of_walk (T := tt) (nt := 46) ttOk ttMix ⟨⟨Try.f33, Try.func33, rfl, rfl, rfl, rfl⟩⟩ (by simp) ?_
 unfold vc_allows at hv
 change W _ _ _ ⟨46, look [(0, .lst true l.length (zYy e72 l)), (1, .int .i64 op), (2, .int .i64 ver), (3, .int .i64 t)], [], 0⟩ _
 refine W.ty [(0, .lst _ _ _), (1, .int _ _), (2, .int _ _), (3, .int _ _)] rfl (W.rL (aB rfl rfl (eL (W.ty [(0, .lst _ _ _), (1, .int _ _), (2, .int _ _), (3, .int _ _)] rfl (W.rL (mL rfl rfl ?_))))))
 iterate 2 refine mI rfl rfl ?_
 refine cL rfl (o_build (qs := [(0, .int _ _), (1, .int _ _)]) (cs := [.int _ _, .int _ _, .int _ _, .int _ _, .int _ _]) tt72 rfl rfl rfl ?_)
 obtain ⟨s1, hv⟩ := hv
 refine cL rfl (zZu (k := 46) (fst := []) (caps := []) (ys := [.lst _ _ _, .agg _, .clo _ _ _]) rfl rfl (spec_bsR l (Rg.mk op ver (0 : Int) (0 : Int) (0 : Int)) s1) (Wks.cons (zZs _ _ _ _ _) (Wks.cons (zXx 5 _ zk) (Wks.cons (ag_clo 5 _ _ zk zk) zk))) (cL rfl (zZp (v := .tup _) rfl (cL rfl (o_ext (v := .int _ _) rfl rfl (cL rfl (o_ext (v := .bool _) rfl rfl (aI rfl rfl (aB rfl rfl (eL (W.ty [(0, .lst _ _ _), (3, .int _ _), (9, .int _ _), (10, .bool _)] rfl ?_)))))))))))
 obtain ⟨sd, hv⟩ := hv
 refine W.rDm ⟨46, look [(8, .bool (decide (((validRgs l) = true) /\ ((((bsM l (Rg.mk op ver (0 : Int) (0 : Int) (0 : Int))).2) = true) /\ (((3 : Int) <= ((lat l ((bsM l (Rg.mk op ver (0 : Int) (0 : Int) (0 : Int))).1)).nu)) /\ ((inM t ((lat l ((bsM l (Rg.mk op ver (0 : Int) (0 : Int) (0 : Int))).1)).le) ((lat l ((bsM l (Rg.mk op ver (0 : Int) (0 : Int) (0 : Int))).1)).mo)) = true))))))], [], 0⟩ [0, 1, 2, 3, 4, 5, 6, 7, 8, 9, 10, 11, 12, 13, 14, 15, 16, 17, 18, 19, 20, 21, 22, 23, 24, 25, 26, 27] (by decide +kernel) rfl ?_ ?_
 refine mL rfl rfl ?_
 obtain ⟨s6, sd⟩ := sd
 refine cL rfl (zZu (k := 31) (fst := []) (caps := []) (ys := [.lst _ _ _]) rfl rfl (spec_vranges l s6) zk (mB rfl rfl ?_))
 by_cases c1 : (validRgs l) = true
 have sd := sd.1 c1
 refine cLg rfl rfl (c1) (mB rfl rfl (cL rfl (zZv (v := .bool _) rfl c1 rfl (mB rfl rfl ?_))))
 by_cases c2 : ((bsM l (Rg.mk op ver (0 : Int) (0 : Int) (0 : Int))).2) = true
 have sd := sd.1 c2
 refine cLg rfl rfl (c2) (mL rfl rfl (cLg rfl rfl (c2) (mI rfl rfl (cLg rfl rfl (c2) ?_))))
 obtain ⟨s7, sd⟩ := sd
 refine cL rfl (zYu tt54 tt72 rfl rfl (enc72.wd true) rfl s7 ?_)
 intro rest7
 refine cLg rfl rfl (c2) (cL rfl (o_faP tt72 rfl tt3 rfl (cLg rfl rfl (c2) (cL rfl (zZx (v := .int _ _) tt3 rfl rfl ⟨_, rfl⟩ (cLg rfl rfl (c2) (cL rfl (o_geq rfl rfl (cL rfl (zZv (v := .bool _) rfl c2 rfl (mB rfl rfl ?_)))))))))))
 by_cases c3 : (3 : Int) <= ((lat l ((bsM l (Rg.mk op ver (0 : Int) (0 : Int) (0 : Int))).1)).nu)
 have sd := sd.1 c3
 refine cLg rfl rfl (dT c3) (mI rfl rfl (cLg rfl rfl (dT c3) (mL rfl rfl (cLg rfl rfl (dT c3) (mI rfl rfl (cLg rfl rfl (dT c3) ?_))))))
 obtain ⟨s8, sd⟩ := sd
 refine cL rfl (zYu tt54 tt72 rfl rfl (enc72.wd true) rfl s8 ?_)
 intro rest8
 refine cLg rfl rfl (dT c3) (cL rfl (o_faP tt72 rfl tt3 rfl (cLg rfl rfl (dT c3) (cL rfl (zZx (v := .int _ _) tt3 rfl rfl ⟨_, rfl⟩ (cLg rfl rfl (dT c3) (mL rfl rfl (cLg rfl rfl (dT c3) (mI rfl rfl (cLg rfl rfl (dT c3) ?_))))))))))
 obtain ⟨s9, sd⟩ := sd
 refine cL rfl (zYu tt54 tt72 rfl rfl (enc72.wd true) rfl s9 ?_)
 intro rest9
 refine cLg rfl rfl (dT c3) (cL rfl (o_faP tt72 rfl tt3 rfl (cLg rfl rfl (dT c3) (cL rfl (zZx (v := .int _ _) tt3 rfl rfl ⟨_, rfl⟩ (cLg rfl rfl (dT c3) (cL rfl (zZu (k := 37) (fst := []) (caps := []) (ys := [.int _ _, .int _ _, .int _ _]) rfl rfl (spec_inr t ((lat l ((bsM l (Rg.mk op ver (0 : Int) (0 : Int) (0 : Int))).1)).le) ((lat l ((bsM l (Rg.mk op ver (0 : Int) (0 : Int) (0 : Int))).1)).mo)) zk (cL rfl (zZv (v := .bool _) rfl (dT c3) rfl (aB rfl rfl (eL (zYz ⟨(congrArg AV.bool (zXv c1 (zXv c2 (zXv c3 (dVar _))))).symm, trivial⟩ rfl)))))))))))))
 iterate 12 refine cLs rfl rfl rfl (dF c3) ?_
 refine cL rfl (zZy (v := .bool _) rfl (dF c3) rfl (aB rfl rfl (eL (zYz ⟨(congrArg AV.bool (zXv c1 (zXv c2 (dAndF c3)))).symm, trivial⟩ rfl))))
 iterate 6 refine cLs rfl rfl rfl ((Bool.eq_false_iff.2 c2)) ?_
 refine cL rfl (zZy (v := .bool _) rfl (Bool.eq_false_iff.2 c2) rfl (mB rfl rfl ?_))
 iterate 12 refine cLs rfl rfl rfl (rfl) ?_
 refine cL rfl (zZy (v := .bool _) rfl rfl rfl (aB rfl rfl (eL (zYz ⟨(congrArg AV.bool (zXv c1 (dAndF c2))).symm, trivial⟩ rfl))))
 refine cLs rfl rfl rfl ((Bool.eq_false_iff.2 c1)) (cL rfl (zZy (v := .bool _) rfl (Bool.eq_false_iff.2 c1) rfl (mB rfl rfl ?_)))
 iterate 6 refine cLs rfl rfl rfl (rfl) ?_
 refine cL rfl (zZy (v := .bool _) rfl rfl rfl (mB rfl rfl ?_))
 iterate 12 refine cLs rfl rfl rfl (rfl) ?_
 refine cL rfl (zZy (v := .bool _) rfl rfl rfl (aB rfl rfl (eL (zYz ⟨(congrArg AV.bool (dAndF c1)).symm, trivial⟩ rfl))))
 refine W.ret (rt (rt_t (v := .bool _) rfl (rt_n (⟨_, zYr _ _ _, (decide (((validRgs l) = true) /\ ((((bsM l (Rg.mk op ver (0 : Int) (0 : Int) (0 : Int))).2) = true) /\ (((3 : Int) <= ((lat l ((bsM l (Rg.mk op ver (0 : Int) (0 : Int) (0 : Int))).1)).nu)) /\ ((inM t ((lat l ((bsM l (Rg.mk op ver (0 : Int) (0 : Int) (0 : Int))).1)).le) ((lat l ((bsM l (Rg.mk op ver (0 : Int) (0 : Int) (0 : Int))).1)).mo)) = true))))), rfl, hv⟩))))
set_option maxHeartbeats 4000000 in
theorem vcp_allows (l : (List Rg)) (op : Int) (ver : Int) (t : Int) (h0 : l.length <= 1073741824) : vc_allows l op ver t (fun q0 => q0 = (allowsM l op ver t)) := by
  have e1 : ∀ n lo hi : Int, (inM n lo hi = true) = (lo <= n /\ n <= hi) := fun n lo hi => by unfold inM; simp
  have hb : (bsM l ⟨op, ver, 0, 0, 0⟩).2 = true -> 0 <= (bsM l ⟨op, ver, 0, 0, 0⟩).1 /\ (bsM l ⟨op, ver, 0, 0, 0⟩).1 < (l.length : Int) := fun h => ⟨bsI_nonneg _ _, (of_decide_eq_true h).1⟩
  refine ⟨h0, ⟨by omega, fun _ => ⟨fun k => ⟨hb k, fun _ => ⟨hb k, hb k, trivial⟩, fun _ => trivial⟩, fun _ => trivial⟩, fun _ => trivial⟩, ?_⟩
  show decide _ = allowsM l op ver t
  unfold allowsM
  simp only [e1]
  rfl
theorem spec_allows (l : (List Rg)) (op : Int) (ver : Int) (t : Int) (h0 : l.length <= 1073741824) : FnP Try.prog 33 [.lst true l.length (zYy e72 l), .int .i64 op, .int .i64 ver, .int .i64 t] (fun xR => xR = .bool (allowsM l op ver t)) :=
  (walk_allows (vcp_allows l op ver t h0)).mono (by rintro _ ⟨_, rfl, rfl⟩; rfl)
end Go.Lat
