/- The law latecomerlaw10.BeliefMatchesReference returns true for every input, and each argument reads afterwards as it read before. Part 12 of 14. No condition. -/
import Derived.Test.YtoaaemmchnfilaaLatE
import Derived.Test.YtoaaemmchnfilaaLatK
set_option linter.unusedVariables false
set_option linter.unusedSimpArgs false
set_option linter.unnecessarySimpa false
set_option maxRecDepth 100000
set_option maxHeartbeats 4000000
namespace Go.Lat
open Go.RowKit Go.Proofs
attribute [local irreducible] zWy zWz pointM addBM cycleM holdsM validBM sameM madeM pickM zW validM possM firstM tableM longerM zYs ofM addM freeM
def vc_rpoint (b : Bd) (f : Int) (t : Int) (v : Int) (Post : (List Int) -> Int -> Prop) : Prop :=
  (b.most.length <= 1073741824) /\ (∀ r ∈ b.most, r.length <= 1073741824) /\ (((¬ (zWz b f t).2.2 = 0) \/ ((v < ((zWz b f t).1)) \/ ((((zWz b f t).2.1) < v) \/ ((v < (-36028797018963968)) \/ ((36028797018963968 : Int) < v))))) -> Post [] 2) /\ (¬ ((¬ (zWz b f t).2.2 = 0) \/ ((v < ((zWz b f t).1)) \/ ((((zWz b f t).2.1) < v) \/ ((v < (-36028797018963968)) \/ ((36028797018963968 : Int) < v))))) -> ∃ J1 : Bd -> Prop, (∀ (b1 : Bd), J1 b1 -> ∃ (I2 : Int -> List Int -> Prop) (μ2 : Int -> List Int -> Nat), I2 0 [] /\ ∀ (v19 : Int) (r2 : List Int), I2 v19 r2 -> ((v19 < b1.n) -> (0 <= f /\ f < (b1.most.length : Int)) /\ (0 <= v19 /\ v19 < ((lat b1.most f).length : Int)) /\ ∃ J3 : Int -> Prop, (∀ (v20 : Int), J3 v20 -> ((r2 ++ [v20]).length <= 1073741824) /\ (inI (v19 + 1)) /\ (I2 (v19 + 1) (r2 ++ [v20]) /\ μ2 (v19 + 1) (r2 ++ [v20]) < μ2 v19 r2)) /\ (((lat (lat b1.most f) v19 = 1152921504606846976) -> ∃ (I4 : Int -> Int -> Prop) (μ4 : Int -> Int -> Nat), I4 0 0 /\ ∀ (v21 : Int) (v22 : Int), I4 v21 v22 -> ((v22 < b1.n) -> ∃ J5 : Int -> Prop, (∀ (v21_1 : Int), J5 v21_1 -> (inI (v22 + 1)) /\ (I4 v21_1 (v22 + 1) /\ μ4 v21_1 (v22 + 1) < μ4 v21 v22)) /\ (((0 <= f /\ f < (b1.most.length : Int)) /\ (0 <= v22 /\ v22 < ((lat b1.most f).length : Int)) /\ ((lat (lat b1.most f) v22 = 1152921504606846976) -> (0 <= v22 /\ v22 < (b1.most.length : Int)) /\ (0 <= v19 /\ v19 < ((lat b1.most v22).length : Int)) /\ True) /\ (¬ (lat (lat b1.most f) v22 = 1152921504606846976) -> True)) /\ ((((lat (lat b1.most f) v22 = 1152921504606846976) /\ (¬ lat (lat b1.most v22) v19 = 1152921504606846976)) -> (0 <= v22 /\ v22 < (b1.most.length : Int)) /\ (0 <= v19 /\ v19 < ((lat b1.most v22).length : Int)) /\ J5 (min v21 (lat (lat b1.most v22) v19))) /\ (¬ ((lat (lat b1.most f) v22 = 1152921504606846976) /\ (¬ lat (lat b1.most v22) v19 = 1152921504606846976)) -> J5 v21)))) /\ (¬ (v22 < b1.n) -> (inI (576460752303423488 + v21)) /\ J3 (576460752303423488 + v21))) /\ (¬ (lat (lat b1.most f) v19 = 1152921504606846976) -> J3 (lat (lat b1.most f) v19)))) /\ (¬ (v19 < b1.n) -> Post r2 0)) /\ (((¬ f = t) -> (WithOk b f t v) /\ ((¬ (((withM b f t v).2) = true)) -> Post [] 2) /\ (¬ (¬ (((withM b f t v).2) = true)) -> (inI (-v)) /\ (WithOk ((withM b f t v).1) t f (-v)) /\ ((¬ (((withM ((withM b f t v).1) t f (-v)).2) = true)) -> Post [] 2) /\ (¬ (¬ (((withM ((withM b f t v).1) t f (-v)).2) = true)) -> J1 ((withM ((withM b f t v).1) t f (-v)).1)))) /\ (¬ (¬ f = t) -> J1 b)))
theorem walk_rpoint {b : Bd} {f : Int} {t : Int} {v : Int} {Post : (List Int) -> Int -> Prop} (hv : vc_rpoint b f t v Post) : FnP Try.prog 41 [.agg ((e53 true) b), .int .i64 f, .int .i64 t, .int .i64 v] (fun x => ∃ q0 q1, x = .tup [.lst false q0.length (zYy zYx q0), .int .i64 q1] /\ Post q0 q1) := by
 refine FnP.of_walk (T := tt) (nt := 136) ttOk ttMix ⟨⟨Try.f41, Try.func41, rfl, rfl, rfl, rfl⟩⟩ (by simp) ?_
 unfold vc_rpoint at hv
 change W _ _ _ ⟨136, look [(0, .agg [.int .i64 b.n, .lst true b.most.length (zYy (eSl zYx true) b.most)]), (1, .int .i64 f), (2, .int .i64 t), (3, .int .i64 v)], [], 0⟩ _
 refine W.rL (cL rfl (o_box (v := .agg _) (p := 0) rfl rfl rfl (cL rfl (zZq (v := .nilS) rfl (aI rfl rfl (eL (W.tr [(1, .int _ _), (2, .int _ _), (3, .int _ _), (4, .ptr _ _)] [.box _ [.int _ _, .lst _ _ _]] ⟨rfl, rfl, rfl, rfl, trivial⟩ rfl (W.rL (cL rfl (zXv (cs := [.int _ _, .lst _ _ _]) tt53 rfl rfl ⟨_, rfl⟩ rfl ?_))))))))))
 iterate 2 refine mI rfl rfl ?_
 obtain ⟨s1, s2, hv⟩ := hv
 refine cL rfl (zZu (k := 62) (fst := []) (caps := []) (ys := [.agg _, .int _ _, .int _ _]) rfl rfl (spec_rrange b f t s1 s2) (Wks.cons (zXr 5 _ (Wks.cons (zZz _ _ _ _) (Wks.cons (zZs _ _ _ _ _) (Wks.refl _)))) (Wks.cons (zZz _ _ _ _) (Wks.cons (zZz _ _ _ _) (Wks.refl _)))) (cL rfl (zZp (v := .tup _) rfl ?_)))
 iterate 3 refine cL rfl (o_ext (v := .int _ _) rfl rfl ?_)
 iterate 3 refine aI rfl rfl ?_
 refine eL (W.tr [(1, .int _ _), (2, .int _ _), (3, .int _ _), (4, .ptr _ _), (10, .int _ _), (11, .int _ _), (12, .int _ _)] [.box _ [.int _ _, .lst _ _ _]] ⟨rfl, rfl, rfl, rfl, rfl, rfl, rfl, trivial⟩ rfl (W.seq' (W.rLm ⟨136, look [(1, .int .i64 f), (2, .int .i64 t), (3, .int .i64 v), (4, .ptr 0 0), (50, .bool (decide ((¬ (zWz b f t).2.2 = 0) \/ ((v < ((zWz b f t).1)) \/ ((((zWz b f t).2.1) < v) \/ ((v < (-36028797018963968)) \/ ((36028797018963968 : Int) < v)))))))], [.box 53 [.int .i64 b.n, .lst true b.most.length (zYy (eSl zYx true) b.most)]], 0⟩ ?_ ?_)))
 refine mI rfl rfl (cL rfl (o_neI rfl rfl rfl (mB rfl rfl ?_)))
 by_cases c1 : ¬ (zWz b f t).2.2 = 0
 iterate 3 refine cLs rfl rfl rfl (dT c1) ?_
 refine cL rfl (zZv (v := .bool _) rfl (dT c1) rfl (mB rfl rfl ?_))
 iterate 3 refine cLs rfl rfl rfl (rfl) ?_
 refine cL rfl (zZv (v := .bool _) rfl rfl rfl (mB rfl rfl ?_))
 iterate 2 refine cLs rfl rfl rfl (rfl) ?_
 refine cL rfl (zZv (v := .bool _) rfl rfl rfl (mB rfl rfl ?_))
 iterate 2 refine cLs rfl rfl rfl (rfl) ?_
 refine cL rfl (zZv (v := .bool _) rfl rfl rfl (eL (zYz ⟨rfl, rfl, rfl, rfl, (congrArg AV.bool (dOrT c1)).symm, trivial⟩ rfl)))
 refine cLg rfl rfl (dF c1) (mI rfl rfl (cLg rfl rfl (dF c1) (mI rfl rfl (cLg rfl rfl (dF c1) (cL rfl (zXw rfl rfl (cL rfl (zZy (v := .bool _) rfl (dF c1) rfl (mB rfl rfl ?_)))))))))
 by_cases c2 : v < ((zWz b f t).1)
 iterate 3 refine cLs rfl rfl rfl (dT c2) ?_
 refine cL rfl (zZv (v := .bool _) rfl (dT c2) rfl (mB rfl rfl ?_))
 iterate 2 refine cLs rfl rfl rfl (rfl) ?_
 refine cL rfl (zZv (v := .bool _) rfl rfl rfl (mB rfl rfl ?_))
 iterate 2 refine cLs rfl rfl rfl (rfl) ?_
 refine cL rfl (zZv (v := .bool _) rfl rfl rfl (eL (zYz ⟨rfl, rfl, rfl, rfl, (congrArg AV.bool (dOrF c1 (dOrT c2))).symm, trivial⟩ rfl)))
 refine cLg rfl rfl (dF c2) (mI rfl rfl (cLg rfl rfl (dF c2) (mI rfl rfl (cLg rfl rfl (dF c2) (cL rfl (o_gtr rfl rfl (cL rfl (zZy (v := .bool _) rfl (dF c2) rfl (mB rfl rfl ?_)))))))))
 by_cases c3 : ((zWz b f t).2.1) < v
 iterate 2 refine cLs rfl rfl rfl (dT c3) ?_
 refine cL rfl (zZv (v := .bool _) rfl (dT c3) rfl (mB rfl rfl ?_))
 iterate 2 refine cLs rfl rfl rfl (rfl) ?_
 refine cL rfl (zZv (v := .bool _) rfl rfl rfl (eL (zYz ⟨rfl, rfl, rfl, rfl, (congrArg AV.bool (dOrF c1 (dOrF c2 (dOrT c3)))).symm, trivial⟩ rfl)))
 refine cLg rfl rfl (dF c3) (mI rfl rfl (cLg rfl rfl (dF c3) (cL rfl (zXw rfl rfl (cL rfl (zZy (v := .bool _) rfl (dF c3) rfl (mB rfl rfl ?_)))))))
 by_cases c4 : v < (-36028797018963968)
 iterate 2 refine cLs rfl rfl rfl (dT c4) ?_
 refine cL rfl (zZv (v := .bool _) rfl (dT c4) rfl (eL (zYz ⟨rfl, rfl, rfl, rfl, (congrArg AV.bool (dOrF c1 (dOrF c2 (dOrF c3 (dOrT c4))))).symm, trivial⟩ rfl)))
 refine cLg rfl rfl (dF c4) (mI rfl rfl (cLg rfl rfl (dF c4) (cL rfl (o_gtr rfl rfl (cL rfl (zZy (v := .bool _) rfl (dF c4) rfl (eL (zYz ⟨rfl, rfl, rfl, rfl, (congrArg AV.bool (dOrF c1 (dOrF c2 (dOrF c3 (dOrF c4 (rfl)))))).symm, trivial⟩ rfl))))))))
 refine W.cn rfl (fun hc => ?_) (fun hc => ?_)
 have hv := hv.1 hc
 refine W.rL (cL rfl (zZq (v := .nilS) rfl (aI rfl rfl (eL (W.ret (zZr (rt (rt_t (v := .nilS) rfl (rt_t (v := .int _ _) rfl (rt_n (⟨_, rs_tup 5 _ (Wks.cons (rs_nil _ _ _ _ rfl) (Wks.cons (zY _ _ _ _) (Wks.refl _))), [], 2, rfl, hv⟩)))))))))))
 have hv := hv.2 hc
 refine W.skip (zZ (W.rL (cL rfl (zXv (cs := [.int _ _, .lst _ _ _]) tt53 rfl rfl ⟨_, rfl⟩ rfl (cL rfl (zXs (p := 1) tt53 rfl rfl (cLn (o_stB (v := .agg _) (vs := [.int _ _, .lst _ _ _]) (cs2 := [.int _ _, .lst _ _ _]) tt53 rfl rfl rfl rfl rfl (Nat.le_of_ble_eq_true rfl) rfl (eL (W.tr [(1, .int _ _), (2, .int _ _), (3, .int _ _), (4, .ptr _ _), (13, .ptr _ _)] [.box _ [.int _ _, .lst _ _ _], .box _ [.int _ _, .lst _ _ _]] ⟨rfl, rfl, rfl, rfl, rfl, trivial⟩ rfl ?_))))))))))
 obtain ⟨J1, hj, hv⟩ := hv
 refine W.mid1 (fun b1 => ⟨136, look [(1, .int .i64 f), (13, .ptr 1 0)], [.dead, .box 53 [.int .i64 b1.n, .lst true b1.most.length (zYy (eSl zYx true) b1.most)]], 0⟩) J1 ?_ ?_
 intro b1
 intro hv
 replace hv := hj b1 hv
 refine W.rL (cL rfl (zZq (v := .nilS) rfl (eL (W.seq' (W.rL (aI rfl rfl (eL (W.block ?_))))))))
 obtain ⟨I2, μ2, hp, hv⟩ := hv
 refine W.loop2 (fun v19 r2 => ⟨136, look [(1, .int .i64 f), (13, .ptr 1 0), (18, .ref true 2 r2.length), (19, .int .i64 v19)], [.dead, .box 53 [.int .i64 b1.n, .lst true b1.most.length (zYy (eSl zYx true) b1.most)], .row 3 1 (zYy zYx r2)], 0⟩) I2 μ2 0 [] (St.to_mk (φ := [none, some 1, none]) rfl (rfl) ⟨Ren.int _ _, Ren.ptr rfl, Ren.nilR rfl rfl, Ren.int _ _, trivial⟩ ⟨rfl, .inr ⟨_, rfl, rfl, Rens.cons (Ren.int _ _) (Rens.cons (Ren.lst _ _ _) (Rens.nil))⟩, rfl, trivial⟩) hp ?_
 clear hp
 intro v19 r2 hI
 replace hv := hv v19 r2 hI
 clear hI
 refine W.seq' (W.rL (mI rfl rfl (cL rfl (o_fa tt53 rfl tt3 rfl (cL rfl (zZx (v := .int _ _) tt3 rfl rfl ⟨_, rfl⟩ (cL rfl (zXw rfl rfl (eL (W.cn rfl (fun hc => ?_) (fun hc => ?_)))))))))))
 have hv := hv.1 hc
 refine W.skip (zZ (W.seq' (W.block (W.rL (cL rfl (o_fa tt53 rfl tt51 rfl (cL rfl (zZx (v := .lst _ _ _) tt51 rfl rfl ⟨_, rfl⟩ (mI rfl rfl ?_)))))))))
 obtain ⟨s1910, hv⟩ := hv
 refine cL rfl (zYp tt51 tt23 rfl rfl ((encSl zYx).wd true) rfl s1910 ?_)
 intro rest1910
 refine cL rfl (zZx (v := .lst _ _ _) tt23 rfl rfl ⟨_, rfl⟩ (mI rfl rfl ?_))
 obtain ⟨s1911, hv⟩ := hv
 refine cL rfl (zYp tt23 tt3 rfl rfl (zZw.wd true) rfl s1911 ?_)
 intro rest1911
 refine cL rfl (zZx (v := .int _ _) tt3 rfl rfl ⟨_, rfl⟩ (aI rfl rfl (eL ?_)))
 obtain ⟨J3, hj, hv⟩ := hv
 refine W.mid1 (fun v20 => ⟨136, look [(1, .int .i64 f), (13, .ptr 1 0), (18, .ref true 2 r2.length), (19, .int .i64 v19), (20, .int .i64 v20)], [.dead, .box 53 [.int .i64 b1.n, .lst true b1.most.length (zYy (eSl zYx true) b1.most)], .row 3 1 (zYy zYx r2)], 0⟩) J3 ?_ ?_
 intro v20
 intro hv
 replace hv := hj v20 hv
 refine W.rL1 (cL rfl (zZp (v := .ref _ _ _) rfl (mI rfl rfl (cL rfl (o_bs1 (v := .int _ _) (q := 3) tt23 tt3 rfl rfl rfl rfl rfl rfl rfl rfl ?_)))))
 obtain ⟨s1997, hv⟩ := hv
 refine cL rfl (o_apR (p := 4) (q := (r2 ++ [v20]).length) tt23 tt3 rfl rfl (src_ref rfl rfl) rfl rfl (zYr (zZw.wd false) _) (Nat.le_trans (Nat.le_of_eq (@List.length_append _ (r2) ([v20])).symm) s1997) rfl (@List.length_append _ (r2) ([v20])).symm (encL_app zYx r2 [v20]) (cL rfl (zZq (v := .ref _ _ _) rfl (eL (zYq (zZ (W.tr [(1, .int _ _), (13, .ptr _ _), (18, .ref _ _ _), (19, .int _ _)] [.dead, .box _ [.int _ _, .lst _ _ _], .dead, .row _ _ _, .row _ _ _] ⟨rfl, rfl, rfl, rfl, trivial⟩ rfl (W.rL1 (mI rfl rfl ?_)))))))))
 obtain ⟨s1998, hv⟩ := hv
 refine cL rfl (o_add rfl rfl s1998 (aI rfl rfl (eL (zZ (⟨(), (v19 + 1), (r2 ++ [v20]), hv, St.to_mk (φ := [none, some 1, some 4]) rfl (rfl) ⟨Ren.int _ _, Ren.ptr rfl, Ren.ref rfl (fun h => rfl), Ren.int _ _, trivial⟩ ⟨rfl, .inr ⟨_, rfl, rfl, Rens.cons (Ren.int _ _) (Rens.cons (Ren.lst _ _ _) (Rens.nil))⟩, .inr ⟨_, rfl, rfl, rfl, rfl, Rens.enc zZw false (r2 ++ [v20])⟩, trivial⟩⟩)))))
 clear hj
 refine W.rL (mI rfl rfl (cL rfl (o_eqI rfl rfl rfl (eL (W.cn rfl (fun hc => ?_) (fun hc => ?_))))))
 have hv := hv.1 hc
 refine W.rL (aI rfl rfl (eL (W.seq' (W.rL (aI rfl rfl (eL (W.block ?_)))))))
 obtain ⟨I4, μ4, hp, hv⟩ := hv
 refine W.loop2 (fun v21 v22 => ⟨136, look [(1, .int .i64 f), (13, .ptr 1 0), (18, .ref true 2 r2.length), (19, .int .i64 v19), (21, .int .i64 v21), (22, .int .i64 v22)], [.dead, .box 53 [.int .i64 b1.n, .lst true b1.most.length (zYy (eSl zYx true) b1.most)], .row 3 1 (zYy zYx r2)], 0⟩) I4 μ4 0 0 (St.to_mk (φ := [none, some 1, some 2]) rfl (rfl) ⟨Ren.int _ _, Ren.ptr rfl, Ren.ref rfl (fun h => rfl), Ren.int _ _, Ren.int _ _, Ren.int _ _, trivial⟩ ⟨rfl, .inr ⟨_, rfl, rfl, Rens.cons (Ren.int _ _) (Rens.cons (Ren.lst _ _ _) (Rens.nil))⟩, .inr ⟨_, rfl, rfl, rfl, rfl, Rens.enc zZw false r2⟩, trivial⟩) hp ?_
 clear hp
 intro v21 v22 hI
 replace hv := hv v21 v22 hI
 clear hI
 refine W.seq' (W.rL (mI rfl rfl (cL rfl (o_fa tt53 rfl tt3 rfl (cL rfl (zZx (v := .int _ _) tt3 rfl rfl ⟨_, rfl⟩ (cL rfl (zXw rfl rfl (eL (W.cn rfl (fun hc => ?_) (fun hc => ?_)))))))))))
 have hv := hv.1 hc
 refine W.skip (zZ ?_)
 obtain ⟨J5, hj, hv⟩ := hv
 refine W.mid1 (fun v21_1 => ⟨136, look [(1, .int .i64 f), (13, .ptr 1 0), (18, .ref true 2 r2.length), (19, .int .i64 v19), (21, .int .i64 v21_1), (22, .int .i64 v22)], [.dead, .box 53 [.int .i64 b1.n, .lst true b1.most.length (zYy (eSl zYx true) b1.most)], .row 3 1 (zYy zYx r2)], 0⟩) J5 ?_ ?_
 intro v21_1
 intro hv
 replace hv := hj v21_1 hv
 refine W.rL1 (mI rfl rfl ?_)
 obtain ⟨s2072, hv⟩ := hv
 refine cL rfl (o_add rfl rfl s2072 (aI rfl rfl (eL (zZ (⟨(), v21_1, (v22 + 1), hv, St.to_mk (φ := [none, some 1, some 2]) rfl (rfl) ⟨Ren.int _ _, Ren.ptr rfl, Ren.ref rfl (fun h => rfl), Ren.int _ _, Ren.int _ _, Ren.int _ _, trivial⟩ ⟨rfl, .inr ⟨_, rfl, rfl, Rens.cons (Ren.int _ _) (Rens.cons (Ren.lst _ _ _) (Rens.nil))⟩, .inr ⟨_, rfl, rfl, rfl, rfl, Rens.enc zZw false r2⟩, trivial⟩⟩)))))
 clear hj
 refine W.block ?_
 obtain ⟨sd, hv⟩ := hv
 refine W.rLm ⟨136, look [(1, .int .i64 f), (13, .ptr 1 0), (18, .ref true 2 r2.length), (19, .int .i64 v19), (21, .int .i64 v21), (22, .int .i64 v22), (118, .bool (decide ((lat (lat b1.most f) v22 = 1152921504606846976) /\ (¬ lat (lat b1.most v22) v19 = 1152921504606846976))))], [.dead, .box 53 [.int .i64 b1.n, .lst true b1.most.length (zYy (eSl zYx true) b1.most)], .row 3 1 (zYy zYx r2)], 0⟩ ?_ ?_
 refine cL rfl (o_fa tt53 rfl tt51 rfl (cL rfl (zZx (v := .lst _ _ _) tt51 rfl rfl ⟨_, rfl⟩ (mI rfl rfl ?_))))
 obtain ⟨s2077, sd⟩ := sd
 refine cL rfl (zYp tt51 tt23 rfl rfl ((encSl zYx).wd true) rfl s2077 ?_)
 intro rest2077
 refine cL rfl (zZx (v := .lst _ _ _) tt23 rfl rfl ⟨_, rfl⟩ (mI rfl rfl ?_))
 obtain ⟨s2078, sd⟩ := sd
 refine cL rfl (zYp tt23 tt3 rfl rfl (zZw.wd true) rfl s2078 ?_)
 intro rest2078
 refine cL rfl (zZx (v := .int _ _) tt3 rfl rfl ⟨_, rfl⟩ (cL rfl (o_eqI rfl rfl rfl (mB rfl rfl ?_))))
 by_cases c1 : lat (lat b1.most f) v22 = 1152921504606846976
 have sd := sd.1 c1
 refine cLg rfl rfl (dT c1) (cL rfl (o_fa tt53 rfl tt51 rfl (cLg rfl rfl (dT c1) (cL rfl (zZx (v := .lst _ _ _) tt51 rfl rfl ⟨_, rfl⟩ (cLg rfl rfl (dT c1) (mI rfl rfl (cLg rfl rfl (dT c1) ?_))))))))
 obtain ⟨s2079, sd⟩ := sd
 refine cL rfl (zYp tt51 tt23 rfl rfl ((encSl zYx).wd true) rfl s2079 ?_)
 intro rest2079
 refine cLg rfl rfl (dT c1) (cL rfl (zZx (v := .lst _ _ _) tt23 rfl rfl ⟨_, rfl⟩ (cLg rfl rfl (dT c1) (mI rfl rfl (cLg rfl rfl (dT c1) ?_)))))
 obtain ⟨s2080, sd⟩ := sd
 refine cL rfl (zYp tt23 tt3 rfl rfl (zZw.wd true) rfl s2080 ?_)
 intro rest2080
 refine cLg rfl rfl (dT c1) (cL rfl (zZx (v := .int _ _) tt3 rfl rfl ⟨_, rfl⟩ (cLg rfl rfl (dT c1) (cL rfl (o_neI rfl rfl rfl (cL rfl (zZv (v := .bool _) rfl (dT c1) rfl (eL (zYz ⟨rfl, rfl, rfl, rfl, rfl, rfl, (congrArg AV.bool (zXp c1 (rfl))).symm, trivial⟩ rfl)))))))))
 iterate 9 refine cLs rfl rfl rfl (dF c1) ?_
 refine cL rfl (zZy (v := .bool _) rfl (dF c1) rfl (eL (zYz ⟨rfl, rfl, rfl, rfl, rfl, rfl, (congrArg AV.bool (dAndF c1)).symm, trivial⟩ rfl)))
 refine W.cn rfl (fun hc => ?_) (fun hc => ?_)
 have hv := hv.1 hc
 refine W.rL1 (mI rfl rfl (cL rfl (o_fa tt53 rfl tt51 rfl (cL rfl (zZx (v := .lst _ _ _) tt51 rfl rfl ⟨_, rfl⟩ (mI rfl rfl ?_))))))
 obtain ⟨s2081, hv⟩ := hv
 refine cL rfl (zYp tt51 tt23 rfl rfl ((encSl zYx).wd true) rfl s2081 ?_)
 intro rest2081
 refine cL rfl (zZx (v := .lst _ _ _) tt23 rfl rfl ⟨_, rfl⟩ (mI rfl rfl ?_))
 obtain ⟨s2082, hv⟩ := hv
 refine cL rfl (zYp tt23 tt3 rfl rfl (zZw.wd true) rfl s2082 ?_)
 intro rest2082
 refine cL rfl (zZx (v := .int _ _) tt3 rfl rfl ⟨_, rfl⟩ (cL rfl (o_min rfl rfl (aI rfl rfl (eL (zYq (zZ (⟨(), (min v21 (lat (lat b1.most v22) v19)), hv, St.to_mk (φ := [none, some 1, some 2]) rfl (rfl) ⟨Ren.int _ _, Ren.ptr rfl, Ren.ref rfl (fun h => rfl), Ren.int _ _, Ren.int _ _, Ren.int _ _, trivial⟩ ⟨rfl, .inr ⟨_, rfl, rfl, Rens.cons (Ren.int _ _) (Rens.cons (Ren.lst _ _ _) (Rens.nil))⟩, .inr ⟨_, rfl, rfl, rfl, rfl, Rens.enc zZw false r2⟩, trivial⟩⟩))))))))
 have hv := hv.2 hc
 refine W.skip (zYq (zZ (⟨(), v21, hv, St.to_mk (φ := [none, some 1, some 2]) rfl (rfl) ⟨Ren.int _ _, Ren.ptr rfl, Ren.ref rfl (fun h => rfl), Ren.int _ _, Ren.int _ _, Ren.int _ _, trivial⟩ ⟨rfl, .inr ⟨_, rfl, rfl, Rens.cons (Ren.int _ _) (Rens.cons (Ren.lst _ _ _) (Rens.nil))⟩, .inr ⟨_, rfl, rfl, rfl, rfl, Rens.enc zZw false r2⟩, trivial⟩⟩)))
 have hv := hv.2 hc
 refine W.exit (zZt (zZt (zXy (zZ (W.rL1 (mI rfl rfl ?_))))))
 obtain ⟨s2083, hv⟩ := hv
 refine cL rfl (o_add rfl rfl s2083 (aI rfl rfl (eL (zZ (⟨(), (576460752303423488 + v21), hv, St.to_mk (φ := [none, some 1, some 2]) rfl (rfl) ⟨Ren.int _ _, Ren.ptr rfl, Ren.ref rfl (fun h => rfl), Ren.int _ _, Ren.int _ _, trivial⟩ ⟨rfl, .inr ⟨_, rfl, rfl, Rens.cons (Ren.int _ _) (Rens.cons (Ren.lst _ _ _) (Rens.nil))⟩, .inr ⟨_, rfl, rfl, rfl, rfl, Rens.enc zZw false r2⟩, trivial⟩⟩)))))
 have hv := hv.2 hc
 refine W.skip (zZ (⟨(), (lat (lat b1.most f) v19), hv, St.to_mk (φ := [none, some 1, some 2]) rfl (rfl) ⟨Ren.int _ _, Ren.ptr rfl, Ren.ref rfl (fun h => rfl), Ren.int _ _, Ren.int _ _, trivial⟩ ⟨rfl, .inr ⟨_, rfl, rfl, Rens.cons (Ren.int _ _) (Rens.cons (Ren.lst _ _ _) (Rens.nil))⟩, .inr ⟨_, rfl, rfl, rfl, rfl, Rens.enc zZw false r2⟩, trivial⟩⟩))
 have hv := hv.2 hc
 refine W.exit (zZt (zZt (zXy (zZ (W.rL (cL rfl (zZp (v := .ref _ _ _) rfl (cL rfl (zZq (v := .ref _ _ _) rfl (aI rfl rfl (eL (W.tr [(8, .ref _ _ _), (9, .int _ _)] [.dead, .box _ [.int _ _, .lst _ _ _], .row _ _ _] ⟨rfl, rfl, trivial⟩ rfl (W.ret (rt (rt_t (v := .ref _ _ _) rfl (rt_t (v := .int _ _) rfl (rt_n (⟨_, rs_tup 5 _ (Wks.cons (rs_ref zZw 3 _ rfl rfl) (Wks.cons (zY _ _ _ _) (Wks.refl _))), r2, 0, rfl, hv⟩))))))))))))))))))
 clear hj
 refine W.rL ?_
 iterate 2 refine mI rfl rfl ?_
 refine cL rfl (o_neI rfl rfl rfl (eL (W.cn rfl (fun hc => ?_) (fun hc => ?_))))
 have hv := hv.1 hc
 refine W.rL (cL rfl (zXv (cs := [.int _ _, .lst _ _ _]) tt53 rfl rfl ⟨_, rfl⟩ rfl ?_))
 iterate 3 refine mI rfl rfl ?_
 obtain ⟨s2084, hv⟩ := hv
 refine cL rfl (zZu (k := 63) (fst := []) (caps := []) (ys := [.agg _, .int _ _, .int _ _, .int _ _]) rfl rfl (spec_rwith b f t v s2084) (Wks.cons (zXr 5 _ (Wks.cons (zZz _ _ _ _) (Wks.cons (zZs _ _ _ _ _) (Wks.refl _)))) (Wks.cons (zZz _ _ _ _) (Wks.cons (zZz _ _ _ _) (Wks.cons (zZz _ _ _ _) (Wks.refl _))))) (cL rfl (zZp (v := .tup _) rfl (cL rfl (o_ext (v := .agg _) rfl rfl (cL rfl (o_ext (v := .bool _) rfl rfl (cL rfl (zXs (p := 2) tt53 rfl rfl (cLn (o_stB (v := .agg _) (vs := [.int _ _, .lst _ _ _]) (cs2 := [.int _ _, .lst _ _ _]) tt53 rfl rfl rfl rfl rfl (Nat.le_of_ble_eq_true rfl) rfl (aB rfl rfl (eL (W.tr [(1, .int _ _), (2, .int _ _), (3, .int _ _), (13, .ptr _ _), (14, .ptr _ _), (15, .bool _)] [.box _ [.int _ _, .lst _ _ _], .box _ [.int _ _, .lst _ _ _], .box _ [.int _ _, .lst _ _ _]] ⟨rfl, rfl, rfl, rfl, rfl, rfl, trivial⟩ rfl (W.seq' (W.rL (mB rfl rfl (cL rfl (o_notB rfl (eL (W.cn rfl (fun hc => ?_) (fun hc => ?_))))))))))))))))))))))
 have hv := hv.1 hc
 refine W.rL (cL rfl (zZq (v := .nilS) rfl (aI rfl rfl (eL (W.ret (zZr (zZr (rt (rt_t (v := .nilS) rfl (rt_t (v := .int _ _) rfl (rt_n (⟨_, rs_tup 5 _ (Wks.cons (rs_nil _ _ _ _ rfl) (Wks.cons (zY _ _ _ _) (Wks.refl _))), [], 2, rfl, hv⟩))))))))))))
 have hv := hv.2 hc
 refine W.skip (zZ (W.rL (cL rfl (zXv (cs := [.int _ _, .lst _ _ _]) tt53 rfl rfl ⟨_, rfl⟩ rfl ?_))))
 iterate 3 refine mI rfl rfl ?_
 obtain ⟨s2085, hv⟩ := hv
 refine cL rfl (o_neg rfl s2085 ?_)
 obtain ⟨s2086, hv⟩ := hv
 refine cL rfl (zZu (k := 63) (fst := []) (caps := []) (ys := [.agg _, .int _ _, .int _ _, .int _ _]) rfl rfl (spec_rwith ((withM b f t v).1) t f (-v) s2086) (Wks.cons (zXr 5 _ (Wks.cons (zZz _ _ _ _) (Wks.cons (zZs _ _ _ _ _) (Wks.refl _)))) (Wks.cons (zZz _ _ _ _) (Wks.cons (zZz _ _ _ _) (Wks.cons (zZz _ _ _ _) (Wks.refl _))))) (cL rfl (zZp (v := .tup _) rfl (cL rfl (o_ext (v := .agg _) rfl rfl (cL rfl (o_ext (v := .bool _) rfl rfl (cL rfl (zXs (p := 3) tt53 rfl rfl (cLn (o_stB (v := .agg _) (vs := [.int _ _, .lst _ _ _]) (cs2 := [.int _ _, .lst _ _ _]) tt53 rfl rfl rfl rfl rfl (Nat.le_of_ble_eq_true rfl) rfl (aB rfl rfl (eL (W.tr [(1, .int _ _), (13, .ptr _ _), (16, .ptr _ _), (17, .bool _)] [.box _ [.int _ _, .lst _ _ _], .box _ [.int _ _, .lst _ _ _], .box _ [.int _ _, .lst _ _ _], .box _ [.int _ _, .lst _ _ _]] ⟨rfl, rfl, rfl, rfl, trivial⟩ rfl (W.seq' (W.rL (mB rfl rfl (cL rfl (o_notB rfl (eL (W.cn rfl (fun hc => ?_) (fun hc => ?_))))))))))))))))))))))
 have hv := hv.1 hc
 refine W.rL (cL rfl (zZq (v := .nilS) rfl (aI rfl rfl (eL (W.ret (zZr (zZr (rt (rt_t (v := .nilS) rfl (rt_t (v := .int _ _) rfl (rt_n (⟨_, rs_tup 5 _ (Wks.cons (rs_nil _ _ _ _ rfl) (Wks.cons (zY _ _ _ _) (Wks.refl _))), [], 2, rfl, hv⟩))))))))))))
 have hv := hv.2 hc
 refine W.skip (zZ (W.rL1 (cL rfl (zXv (cs := [.int _ _, .lst _ _ _]) tt53 rfl rfl ⟨_, rfl⟩ rfl (cLn (o_stB (v := .agg _) (vs := [.int _ _, .lst _ _ _]) (cs2 := [.int _ _, .lst _ _ _]) tt53 rfl rfl rfl rfl rfl (Nat.le_of_ble_eq_true rfl) rfl (eL (zZ (⟨(), ((withM ((withM b f t v).1) t f (-v)).1), hv, St.to_mk (φ := [none, some 1]) rfl (rfl) ⟨Ren.int _ _, Ren.ptr rfl, trivial⟩ ⟨rfl, .inr ⟨_, rfl, rfl, Rens.cons (Ren.int _ _) (Rens.cons (Ren.lstT _ _ _) (Rens.nil))⟩, trivial⟩⟩)))))))))
 have hv := hv.2 hc
 refine W.skip (zZ (⟨(), b, hv, St.to_mk (φ := [none, some 1]) rfl (rfl) ⟨Ren.int _ _, Ren.ptr rfl, trivial⟩ ⟨rfl, .inr ⟨_, rfl, rfl, Rens.cons (Ren.int _ _) (Rens.cons (Ren.lst _ _ _) (Rens.nil))⟩, trivial⟩⟩))
theorem vcp_rpoint (b : Bd) (f : Int) (t : Int) (v : Int) (h0 : b.most.length <= 1073741824) (h1 : ∀ r ∈ b.most, r.length <= 1073741824) : vc_rpoint b f t v (fun q0 q1 => q0 = (pointM b f t v).1 /\ q1 = (pointM b f t v).2) := by
  unfold vc_rpoint
  have hnb := hNB
  refine ⟨h0, h1, fun h => ?_, fun h => ?_⟩
  . rw [point_neg fun e => ?_]
    . exact ⟨rfl, rfl⟩
    . omega
  have hr : (zWz b f t).2.2 = 0 /\ max (zWz b f t).1 (-36028797018963968) <= v /\ v <= min (zWz b f t).2.1 36028797018963968 := by omega
  rw [point_pos hr]
  obtain ⟨hv, hf, ht⟩ := range_ok hr.1
  have vb := validBM_iff.mp hv
  have hn := vb.n
  obtain ⟨f, rfl⟩ : ∃ k : Nat, f = k := ⟨f.toNat, by omega⟩
  obtain ⟨t, rfl⟩ : ∃ k : Nat, t = k := ⟨t.toNat, by omega⟩
  rw [range_pos hv (by omega) (by omega)] at hr
  obtain ⟨ha, hT⟩ := ptM_spec hv (by omega) (by omega) hr.2
  have hr2 := hr.2
  dsimp only at hr2
  have hcl := hT.cl
  -- both further bounds are taken
  have two : ¬ (f : Int) = t -> WithOk b f t v /\ (withM b f t v).2 = true /\ WithOk (withM b f t v).1 t f (-v) /\ (withM (withM b f t v).1 t f (-v)).2 = true /\ (withM (withM b f t v).1 t f (-v)).1 = zYs (ptM b f t v) b.n := fun hne => by
    obtain ⟨a1, a2, a3⟩ := vb.cl.add (f := (f : Int)) (t := (t : Int)) (w := v) (by omega) (by omega) (by omega) (by omega)
    simp only [Int.toNat_natCast] at a1 a2 a3
    have hof : mm (ofM b) t f = bm b t f := by rw [of_at vb (by omega) (by omega), if_pos (by omega)]
    have k1 : (addM (ofM b) f t v).1 = true := a3.mpr (.inr (by rw [hof]; omega))
    obtain ⟨b1, b2⟩ := a1 k1
    have w1 : withM b f t v = (zYs (addM (ofM b) f t v).2 b.n, true) := by rw [vb.with (by omega) (by omega) (by omega), if_pos k1]
    have k2 : (addM (addM (ofM b) f t v).2 t f (-v)).1 = true := by
      rcases Classical.em ((addM (addM (ofM b) f t v).2 t f (-v)).1 = true) with e | e
      . exact e
      . exfalso
        obtain ⟨p1, p2⟩ := b1.bad (f := t) (t := f) (w := -v) (by omega) (by omega) (by omega) e
        obtain ⟨-, -, s⟩ := hcl.pt (by omega) (f := f) (by omega)
        obtain ⟨s1, s2⟩ := (hT.sol _).mp s
        have s3 := (b2 _).mpr ⟨s1, Int.le_of_eq s2⟩ f t (by omega) (by omega) p1
        omega
    have w2 := with_bounds b1 (by omega) (n := b.n) ⟨hn.1, hn.2.1⟩ (f := t) (t := f) (w := -v) (by omega) (by omega) (by omega)
    rw [if_pos k2] at w2
    rw [w1]
    dsimp only
    rw [w2]
    refine ⟨vb.wok (by omega) (by omega) (by omega), rfl, bounds_wok b1 (by omega) ⟨hn.1, hn.2.1⟩ (by omega) (by omega) (by omega), rfl, ?_⟩
    unfold ptM; rw [if_neg hne]
  have one : (f : Int) = t -> b = zYs (ptM b f t v) b.n := fun e => by unfold ptM; rw [if_pos e, vb.bounds]
  generalize ptM b f t v = m at two one hcl ⊢
  simp only [Int.toNat_natCast]
  refine ⟨fun b1 => b1 = zYs m b.n, ?_, fun k => ?_, fun k => one (Classical.not_not.mp k)⟩
  rotate_left
  . obtain ⟨q1, q2, q3, q4, q5⟩ := two k
    rw [q2, q4]
    exact ⟨q1, fun h => (h rfl).elim, fun _ => ⟨by unfold inI; omega, q3, fun h => (h rfl).elim, fun _ => q5⟩⟩
  intro b1 hb1
  subst hb1
  have hN : (zYs m b.n).n = b.n := bounds_n
  rw [hN]
  have hL : ((zYs m b.n).most.length : Int) = b.n := by rw [bounds_len]; omega
  have hrow : ∀ i : Nat, (i : Int) < b.n -> ((lat (zYs m b.n).most (i : Int)).length : Int) = b.n := fun i hi => by
    have := bounds_row (m := m) (n := b.n) (by omega) (i := i) (by omega)
    rw [lat_nat]
    show (((zYs m b.n).most.getD i []).length : Int) = _
    omega
  have hE : ∀ i j : Nat, (i : Int) < b.n -> (j : Int) < b.n -> lat (lat (zYs m b.n).most (i : Int)) (j : Int) = mm m i j := fun i j hi hj => by rw [lat_lat, bm_bounds (by omega) (by omega)]
  rw [pointV_eq]
  refine ⟨fun v r => ∃ j : Nat, v = j /\ j <= b.n.toNat /\ r = (List.range j).map (ptF m f b.n.toNat), fun v _ => b.n.toNat - v.toNat, ⟨0, rfl, by omega, rfl⟩, ?_⟩
  rintro _ _ ⟨j, rfl, hj, rfl⟩
  refine ⟨fun k1 => ?_, fun k1 => ?_⟩
  . have hfr := hrow f (by omega)
    rw [hE f j (by omega) (by omega)]
    have hbj := hcl.bd f j (by omega) (by omega)
    refine ⟨by omega, by omega, fun v => v = ptF m f b.n.toNat j, fun v hv => ⟨by simp; omega, by unfold inI; omega, ⟨j + 1, by omega, by omega, ?_⟩, by first | omega | (dsimp only; omega)⟩, fun k2 => ?_, fun k2 => ?_⟩
    . rw [hv, List.range_succ, List.map_append]; rfl
    . refine ⟨fun less v => ∃ i : Nat, v = i /\ i <= b.n.toNat /\ (-108086391056891904 <= less /\ less <= 0) /\ 576460752303423488 + less = (List.range i).foldl (fun o i => if mm m f i = NB /\ ¬ mm m i j = NB then min o (576460752303423488 + mm m i j) else o) 576460752303423488, fun _ v => b.n.toNat - v.toNat, ⟨0, rfl, by omega, by omega, rfl⟩, ?_⟩
      rintro less _ ⟨i, rfl, hi, hlb, hls⟩
      refine ⟨fun k3 => ?_, fun k3 => ⟨by unfold inI; omega, ?_⟩⟩
      . have hir := hrow i (by omega)
        rw [hE f i (by omega) (by omega), hE i j (by omega) (by omega)]
        have hbi := hcl.bd i j (by omega) (by omega)
        refine ⟨fun less' => (-108086391056891904 <= less' /\ less' <= 0) /\ 576460752303423488 + less' = (List.range (i + 1)).foldl (fun o i => if mm m f i = NB /\ ¬ mm m i j = NB then min o (576460752303423488 + mm m i j) else o) 576460752303423488, fun less' h' => ⟨by unfold inI; omega, ⟨i + 1, by omega, by omega, h'⟩, by first | omega | (dsimp only; omega)⟩, ⟨by omega, by omega, fun _ => ⟨by omega, by omega, trivial⟩, fun _ => trivial⟩, fun k4 => ⟨by omega, by omega, by omega, ?_⟩, fun k4 => ⟨hlb, ?_⟩⟩
        . rw [List.range_succ, List.foldl_append, <- hls]
          simp only [List.foldl_cons, List.foldl_nil]
          have k4' : mm m f i = NB /\ ¬ mm m i j = NB := k4
          rw [if_pos k4']; omega
        . rw [List.range_succ, List.foldl_append, <- hls]
          simp only [List.foldl_cons, List.foldl_nil]
          have k4' : ¬ (mm m f i = NB /\ ¬ mm m i j = NB) := k4
          rw [if_neg k4']
      . obtain rfl : i = b.n.toNat := by omega
        have k2' : mm m f j = NB := k2
        unfold ptF
        rw [if_pos k2', <- hls]
    . have k2' : ¬ mm m f j = NB := k2
      unfold ptF
      rw [if_neg k2']
  . obtain rfl : j = b.n.toNat := by omega
    exact ⟨rfl, trivial⟩
theorem spec_rpoint (b : Bd) (f : Int) (t : Int) (v : Int) (h0 : b.most.length <= 1073741824) (h1 : ∀ r ∈ b.most, r.length <= 1073741824) : FnP Try.prog 41 [.agg ((e53 true) b), .int .i64 f, .int .i64 t, .int .i64 v] (fun xR => xR = .tup [.lst false ((pointM b f t v).1).length (zYy zYx ((pointM b f t v).1)), .int .i64 ((pointM b f t v).2)]) :=
  (walk_rpoint (vcp_rpoint b f t v h0 h1)).mono (by rintro _ ⟨_, _, rfl, rfl, rfl⟩; rfl)
attribute [local irreducible] cvalidM zX zYw partM chM liM zYv witM pcM inM allM inSet
def vc_rwit (f : Flt) (n : Int) (l : (List Con)) (a : Int) (b : Int) (v : Int) (Post : (List Int) -> Int -> Int -> Prop) : Prop :=
  (f.dr.length <= 9223372036854775807) /\ (f.sv.length <= 9223372036854775807) /\ (f.tm.length <= 9223372036854775807) /\ (l.length <= 1073741824) /\ (∀ c ∈ l, inI c.a) /\ ((¬ (zYv f n l a b).2.2 = 0) -> Post [] 0 ((zYv f n l a b).2.2)) /\ (¬ (¬ (zYv f n l a b).2.2 = 0) -> (f.dr.length <= 9223372036854775807) /\ (f.sv.length <= 9223372036854775807) /\ (f.tm.length <= 9223372036854775807) /\ (l.length <= 1073741824) /\ (∀ c ∈ l, inI c.a) /\ ∃ (I1 : Int -> Prop) (μ1 : Int -> Nat), I1 0 /\ ∀ (v21 : Int), I1 v21 -> ((v21 < ((((zYu f n l).2.1).length : Nat) : Int)) -> (0 <= v21 /\ v21 < (((zYu f n l).2.1).length : Int)) /\ ((lat ((zYu f n l).2.1) v21).most.length <= 1073741824) /\ (∀ r ∈ (lat ((zYu f n l).2.1) v21).most, r.length <= 1073741824) /\ (((pointM (lat ((zYu f n l).2.1) v21) a b v).2 = 0) -> (0 <= v21 /\ v21 < (((zYu f n l).1).length : Int)) /\ Post ((pointM (lat ((zYu f n l).2.1) v21) a b v).1) (lat ((zYu f n l).1) v21) 0) /\ (¬ ((pointM (lat ((zYu f n l).2.1) v21) a b v).2 = 0) -> (inI (v21 + 1)) /\ (I1 (v21 + 1) /\ μ1 (v21 + 1) < μ1 v21))) /\ (¬ (v21 < ((((zYu f n l).2.1).length : Nat) : Int)) -> Post [] 0 100))
theorem walk_rwit {f : Flt} {n : Int} {l : (List Con)} {a : Int} {b : Int} {v : Int} {Post : (List Int) -> Int -> Int -> Prop} (hv : vc_rwit f n l a b v Post) : FnP Try.prog 25 [.agg ((e27 true) f), .int .i64 n, .lst true l.length (zYy e66 l), .int .i64 a, .int .i64 b, .int .i64 v] (fun x => ∃ q0 q1 q2, x = .tup [.lst false q0.length (zYy zYx q0), .int .i64 q1, .int .i64 q2] /\ Post q0 q1 q2) := by
 refine FnP.of_walk (T := tt) (nt := 69) ttOk ttMix ⟨⟨Try.f25, Try.func25, rfl, rfl, rfl, rfl⟩⟩ (by simp) ?_
 unfold vc_rwit at hv
 change W _ _ _ ⟨69, look [(0, .agg [.lst true f.dr.length (zYy zYx f.dr), .int .i64 f.la, .int .i64 f.li, .lst true f.sv.length (zYy zYx f.sv), .lst true f.tm.length (zYy zYx f.tm)]), (1, .int .i64 n), (2, .lst true l.length (zYy e66 l)), (3, .int .i64 a), (4, .int .i64 b), (5, .int .i64 v)], [], 0⟩ _
 refine W.rL (cL rfl (o_box (v := .agg _) (p := 0) rfl rfl rfl (cL rfl (zZq (v := .nilS) rfl ?_))))
 iterate 2 refine aI rfl rfl ?_
 refine eL (W.tr [(1, .int _ _), (2, .lst _ _ _), (3, .int _ _), (4, .int _ _), (5, .int _ _), (6, .ptr _ _)] [.box _ [.lst _ _ _, .int _ _, .int _ _, .lst _ _ _, .lst _ _ _]] ⟨rfl, rfl, rfl, rfl, rfl, rfl, trivial⟩ rfl (W.rL (cL rfl (zXv (cs := [.lst _ _ _, .int _ _, .int _ _, .lst _ _ _, .lst _ _ _]) tt27 rfl rfl ⟨_, rfl⟩ rfl (mI rfl rfl (mL rfl rfl ?_))))))
 iterate 2 refine mI rfl rfl ?_
 obtain ⟨s1, s2, s3, s4, s5, hv⟩ := hv
 refine cL rfl (zZu (k := 23) (fst := []) (caps := []) (ys := [.agg _, .int _ _, .lst _ _ _, .int _ _, .int _ _]) rfl rfl (spec_rbrange f n l a b s1 s2 s3 s4 s5) (Wks.cons (zXr 5 _ (Wks.cons (zZs _ _ _ _ _) (Wks.cons (zZz _ _ _ _) (Wks.cons (zZz _ _ _ _) (Wks.cons (zZs _ _ _ _ _) (Wks.cons (zZs _ _ _ _ _) (Wks.refl _))))))) (Wks.cons (zZz _ _ _ _) (Wks.cons (zZs _ _ _ _ _) (Wks.cons (zZz _ _ _ _) (Wks.cons (zZz _ _ _ _) (Wks.refl _)))))) (cL rfl (zZp (v := .tup _) rfl ?_)))
 iterate 3 refine cL rfl (o_ext (v := .int _ _) rfl rfl ?_)
 iterate 3 refine aI rfl rfl ?_
 refine eL (W.tr [(1, .int _ _), (2, .lst _ _ _), (3, .int _ _), (4, .int _ _), (5, .int _ _), (6, .ptr _ _), (17, .int _ _)] [.box _ [.lst _ _ _, .int _ _, .int _ _, .lst _ _ _, .lst _ _ _]] ⟨rfl, rfl, rfl, rfl, rfl, rfl, rfl, trivial⟩ rfl (W.seq' (W.rL (mI rfl rfl (cL rfl (o_neI rfl rfl rfl (eL (W.cn rfl (fun hc => ?_) (fun hc => ?_)))))))))
 have hv := hv.1 hc
 refine W.rL (mI rfl rfl (cL rfl (zZq (v := .nilS) rfl ?_)))
 iterate 2 refine aI rfl rfl ?_
 refine eL (W.ret (zZr (rt (rt_t (v := .nilS) rfl ?_))))
 iterate 2 refine rt_t (v := .int _ _) rfl ?_
 refine rt_n (⟨_, rs_tup 5 _ (Wks.cons (rs_nil _ _ _ _ rfl) (Wks.cons (zY _ _ _ _) (Wks.cons (zY _ _ _ _) (Wks.refl _)))), [], 0, ((zYv f n l a b).2.2), rfl, hv⟩)
 have hv := hv.2 hc
 refine W.skip (zZ (W.rL (cL rfl (zXv (cs := [.lst _ _ _, .int _ _, .int _ _, .lst _ _ _, .lst _ _ _]) tt27 rfl rfl ⟨_, rfl⟩ rfl (mI rfl rfl (mL rfl rfl ?_))))))
 obtain ⟨s6, s7, s8, s9, s10, hv⟩ := hv
 refine cL rfl (zZu (k := 36) (fst := []) (caps := []) (ys := [.agg _, .int _ _, .lst _ _ _]) rfl rfl (spec_rchoices f n l s6 s7 s8 s9 s10) (Wks.cons (zXr 5 _ (Wks.cons (zZs _ _ _ _ _) (Wks.cons (zZz _ _ _ _) (Wks.cons (zZz _ _ _ _) (Wks.cons (zZs _ _ _ _ _) (Wks.cons (zZs _ _ _ _ _) (Wks.refl _))))))) (Wks.cons (zZz _ _ _ _) (Wks.cons (zZs _ _ _ _ _) (Wks.refl _)))) (cL rfl (zZp (v := .tup _) rfl ?_)))
 iterate 2 refine cL rfl (o_ext (v := .lst _ _ _) rfl rfl ?_)
 refine cL rfl (o_ext (v := .int _ _) rfl rfl ?_)
 iterate 2 refine aL rfl rfl ?_
 refine aI rfl rfl (eL (W.tr [(3, .int _ _), (4, .int _ _), (5, .int _ _), (18, .lst _ _ _), (19, .lst _ _ _)] [.box _ [.lst _ _ _, .int _ _, .int _ _, .lst _ _ _, .lst _ _ _]] ⟨rfl, rfl, rfl, rfl, rfl, trivial⟩ rfl (W.seq' (W.rL (aI rfl rfl (eL (W.block ?_)))))))
 obtain ⟨I1, μ1, hp, hv⟩ := hv
 refine W.loop1 (fun v21 => ⟨69, look [(3, .int .i64 a), (4, .int .i64 b), (5, .int .i64 v), (18, .lst false ((zYu f n l).1).length (zYy zYx ((zYu f n l).1))), (19, .lst false ((zYu f n l).2.1).length (zYy (e53 true) ((zYu f n l).2.1))), (21, .int .i64 v21)], [.dead], 0⟩) I1 μ1 0 (St.to_mk (φ := [none]) rfl (rfl) ⟨Ren.int _ _, Ren.int _ _, Ren.int _ _, Ren.lst _ _ _, Ren.lst _ _ _, Ren.int _ _, trivial⟩ ⟨rfl, trivial⟩) hp ?_
 clear hp
 intro v21 hI
 replace hv := hv v21 hI
 clear hI
 refine W.seq' (W.rL (mI rfl rfl (mL rfl rfl (cL rfl (zXq (v := .lst _ _ _) tt76 rfl rfl (cL rfl (zXw rfl rfl (eL (W.cn rfl (fun hc => ?_) (fun hc => ?_))))))))))
 have hv := hv.1 hc
 refine W.skip (zZ (W.seq' (W.block (W.rL (mL rfl rfl (mI rfl rfl ?_))))))
 obtain ⟨s42, hv⟩ := hv
 refine cL rfl (zYp tt76 tt53 rfl rfl (enc53.wd true) rfl s42 ?_)
 intro rest42
 refine cL rfl (zXv (cs := [.int _ _, .lst _ _ _]) tt53 rfl rfl ⟨_, rfl⟩ rfl ?_)
 iterate 3 refine mI rfl rfl ?_
 obtain ⟨s43, s44, hv⟩ := hv
 refine cL rfl (zZu (k := 41) (fst := []) (caps := []) (ys := [.agg _, .int _ _, .int _ _, .int _ _]) rfl rfl (spec_rpoint (lat ((zYu f n l).2.1) v21) a b v s43 s44) (Wks.cons (zXr 5 _ (Wks.cons (zZz _ _ _ _) (Wks.cons (zZs _ _ _ _ _) (Wks.refl _)))) (Wks.cons (zZz _ _ _ _) (Wks.cons (zZz _ _ _ _) (Wks.cons (zZz _ _ _ _) (Wks.refl _))))) (cL rfl (zZp (v := .tup _) rfl (cL rfl (o_ext (v := .lst _ _ _) rfl rfl (cL rfl (o_ext (v := .int _ _) rfl rfl (aL rfl rfl (aI rfl rfl (eL (W.tr [(3, .int _ _), (4, .int _ _), (5, .int _ _), (18, .lst _ _ _), (19, .lst _ _ _), (21, .int _ _), (22, .lst _ _ _), (23, .int _ _)] [.dead] ⟨rfl, rfl, rfl, rfl, rfl, rfl, rfl, rfl, trivial⟩ rfl (W.rL (mI rfl rfl (cL rfl (o_eqI rfl rfl rfl (eL (W.cn rfl (fun hc => ?_) (fun hc => ?_))))))))))))))))))
 have hv := hv.1 hc
 refine W.rD [0, 1, 2, 3, 4, 5, 6, 7] (by decide +kernel) rfl ?_
 iterate 2 refine mL rfl rfl ?_
 refine mI rfl rfl ?_
 obtain ⟨s45, hv⟩ := hv
 refine cL rfl (zYp tt23 tt3 rfl rfl (zZw.wd true) rfl s45 ?_)
 intro rest45
 refine cL rfl (zZx (v := .int _ _) tt3 rfl rfl ⟨_, rfl⟩ (aL rfl rfl ?_))
 iterate 2 refine aI rfl rfl ?_
 refine eL (W.ret (zXz (zZr (zZr (zXz (zZr (rt (rt_t (v := .lst _ _ _) rfl ?_))))))))
 iterate 2 refine rt_t (v := .int _ _) rfl ?_
 refine rt_n (⟨_, rs_tup 5 _ (Wks.cons (rs_lst _ _ _ _) (Wks.cons (zY _ _ _ _) (Wks.cons (zY _ _ _ _) (Wks.refl _)))), ((pointM (lat ((zYu f n l).2.1) v21) a b v).1), (lat ((zYu f n l).1) v21), 0, rfl, hv⟩)
 have hv := hv.2 hc
 refine W.skip (zYq (zZ (W.rL1 (mI rfl rfl ?_))))
 obtain ⟨s46, hv⟩ := hv
 refine cL rfl (o_add rfl rfl s46 (aI rfl rfl (eL (zZ (⟨(), (v21 + 1), hv, St.to_mk (φ := [none]) rfl (rfl) ⟨Ren.int _ _, Ren.int _ _, Ren.int _ _, Ren.lst _ _ _, Ren.lst _ _ _, Ren.int _ _, trivial⟩ ⟨rfl, trivial⟩⟩)))))
 have hv := hv.2 hc
 refine W.exit (zZt (zZt (zXy (zZ (W.rL (cL rfl (zZq (v := .nilS) rfl ?_)))))))
 iterate 2 refine aI rfl rfl ?_
 refine eL (W.ret (rt (rt_t (v := .nilS) rfl ?_)))
 iterate 2 refine rt_t (v := .int _ _) rfl ?_
 refine rt_n (⟨_, rs_tup 5 _ (Wks.cons (rs_nil _ _ _ _ rfl) (Wks.cons (zY _ _ _ _) (Wks.cons (zY _ _ _ _) (Wks.refl _)))), [], 0, 100, rfl, hv⟩)
theorem vcp_rwit (f : Flt) (n : Int) (l : (List Con)) (a : Int) (b : Int) (v : Int) (h0 : f.dr.length <= 9223372036854775807) (h1 : f.sv.length <= 9223372036854775807) (h2 : f.tm.length <= 9223372036854775807) (h3 : l.length <= 1073741824) (h4 : ∀ c ∈ l, inI c.a) : vc_rwit f n l a b v (fun q0 q1 q2 => q0 = (witM f n l a b v).1 /\ q1 = (witM f n l a b v).2.1 /\ q2 = (witM f n l a b v).2.2) := by
  unfold vc_rwit
  refine ⟨h0, h1, h2, h3, h4, fun h => ?_, fun h => ⟨h0, h1, h2, h3, h4, ?_⟩⟩
  . have e : witM f n l a b v = ([], 0, (zYv f n l a b).2.2) := by unfold witM; rw [if_neg h]
    show _ /\ _ /\ _
    rw [e]; exact ⟨rfl, rfl, rfl⟩
  . have hr := Classical.not_not.1 h
    have hb : zX f n l = true := by
      unfold zYv at hr
      split at hr
      . rename_i h5; exact h5.1
      . cases hr
    have hne : ¬ zYw f n l = [] := fun e => by
      unfold zYv at hr
      split at hr
      . rename_i h5
        rw [e] at hr
        have hnb := hNB
        rw [if_pos (show hiM [] a b < loM [] a b by unfold hiM loM; simp only [List.foldl_nil]; omega)] at hr
        cases hr
      . cases hr
    have e : witM f n l a b v = match (zYw f n l).find? (fun c => decide ((pointM c.b a b v).2 = 0)) with
      | some c => ((pointM c.b a b v).1, c.s, 0)
      | none => ([], 0, 100) := by unfold witM; rw [if_pos hr]; rfl
    rw [rch_ok hb hne]
    dsimp only
    have hcl := choices_len hb
    have hlen : ((zYw f n l).map (·.b)).length = (zYw f n l).length := by simp
    have hlen2 : ((zYw f n l).map (·.s)).length = (zYw f n l).length := by simp
    refine ⟨fun w => ∃ i : Nat, w = i /\ i <= (zYw f n l).length /\ ∀ c ∈ (zYw f n l).take i, ¬ (pointM c.b a b v).2 = 0, fun w => (zYw f n l).length - w.toNat, ⟨0, rfl, by omega, by simp⟩, ?_⟩
    rintro _ ⟨i, rfl, hi', hI⟩
    rw [hlen, hlen2]
    refine ⟨fun k1 => ?_, fun k1 => ?_⟩
    . have hlt : i < (zYw f n l).length := by omega
      have hc := List.getElem?_eq_getElem hlt
      rw [lat_map' hlt, lat_map' hlt]
      have hsplit : (zYw f n l) = (zYw f n l).take i ++ (zYw f n l)[i] :: (zYw f n l).drop (i + 1) := by rw [List.getElem_cons_drop, List.take_append_drop]
      generalize (zYw f n l)[i] = c at *
      obtain ⟨s, m, ck⟩ := choices_ok (List.mem_of_getElem? hc)
      have hn := ck.n
      have hml := bounds_most_len (m := m) (n := n) hn.2
      refine ⟨by omega, by rw [ck.b]; exact hml.1, by rw [ck.b]; exact hml.2, fun k2 => ⟨by omega, ?_⟩, fun k2 => ⟨by unfold inI; omega, ⟨i + 1, by omega, by omega, ?_⟩, by dsimp only; omega⟩⟩
      . have hf : (zYw f n l).find? (fun c => decide ((pointM c.b a b v).2 = 0)) = some c := by
          rw [List.find?_eq_some_iff_append]
          exact ⟨by simpa using k2, _, _, hsplit, fun d hd => by simpa using hI d hd⟩
        show _ /\ _ /\ _
        rw [e, hf]; exact ⟨rfl, rfl, rfl⟩
      . rw [take_succ_nat hc]
        intro d hd
        rcases List.mem_append.1 hd with hd | hd
        . exact hI d hd
        . rw [List.mem_singleton] at hd; subst hd; exact k2
    . rw [List.take_of_length_le (by omega)] at hI
      have hf : (zYw f n l).find? (fun c => decide ((pointM c.b a b v).2 = 0)) = none := by
        rw [List.find?_eq_none]
        exact fun c hc => by simpa using hI c hc
      show _ /\ _ /\ _
      rw [e, hf]; exact ⟨rfl, rfl, rfl⟩
theorem spec_rwit (f : Flt) (n : Int) (l : (List Con)) (a : Int) (b : Int) (v : Int) (h0 : f.dr.length <= 9223372036854775807) (h1 : f.sv.length <= 9223372036854775807) (h2 : f.tm.length <= 9223372036854775807) (h3 : l.length <= 1073741824) (h4 : ∀ c ∈ l, inI c.a) : FnP Try.prog 25 [.agg ((e27 true) f), .int .i64 n, .lst true l.length (zYy e66 l), .int .i64 a, .int .i64 b, .int .i64 v] (fun xR => xR = .tup [.lst false ((witM f n l a b v).1).length (zYy zYx ((witM f n l a b v).1)), .int .i64 ((witM f n l a b v).2.1), .int .i64 ((witM f n l a b v).2.2)]) :=
  (walk_rwit (vcp_rwit f n l a b v h0 h1 h2 h3 h4)).mono (by rintro _ ⟨_, _, _, rfl, rfl, rfl, rfl⟩; rfl)
end Go.Lat
