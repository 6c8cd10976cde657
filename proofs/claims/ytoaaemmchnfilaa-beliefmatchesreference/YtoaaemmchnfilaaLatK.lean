/- The law latecomerlaw10.BeliefMatchesReference returns true for every input, and each argument reads afterwards as it read before. Part 11 of 14. No condition. -/
import Derived.Test.YtoaaemmchnfilaaLatE
import Derived.Test.YtoaaemmchnfilaaLatD
import Derived.Test.YtoaaemmchnfilaaLatJ
set_option linter.unusedVariables false
set_option linter.unusedSimpArgs false
set_option linter.unnecessarySimpa false
set_option maxRecDepth 100000
set_option maxHeartbeats 4000000
namespace Go.Lat
open Go.RowKit Go.Proofs
attribute [local irreducible] cvalidM zX zYw partM chM liM zYv witM pcM inM allM inSet
attribute [local irreducible] zWy zWz pointM addBM cycleM holdsM validBM sameM madeM pickM zW validM possM firstM tableM longerM zYs ofM addM freeM
def vc_rpart (l : (List Con)) (s : Int) (Post : (List Con) -> Prop) : Prop :=
  ∃ (I1 : Int -> List Con -> Prop) (μ1 : Int -> List Con -> Nat), I1 0 [] /\ ∀ (v6 : Int) (r0 : List Con), I1 v6 r0 -> ((v6 < ((l.length : Nat) : Int)) -> ∃ J2 : List Con -> Prop, (∀ (r2 : List Con), J2 r2 -> (inI (v6 + 1)) /\ (I1 (v6 + 1) r2 /\ μ1 (v6 + 1) r2 < μ1 v6 r0)) /\ ((0 <= v6 /\ v6 < (l.length : Int)) /\ (0 <= v6 /\ v6 < (l.length : Int)) /\ ((bitI .and .i64 ((lat l v6).a) s = (lat l v6).a) -> (0 <= v6 /\ v6 < (l.length : Int)) /\ ((r0 ++ [(lat l v6)]).length <= 1073741824) /\ J2 (r0 ++ [(lat l v6)])) /\ (¬ (bitI .and .i64 ((lat l v6).a) s = (lat l v6).a) -> J2 r0))) /\ (¬ (v6 < ((l.length : Nat) : Int)) -> Post r0)
theorem walk_rpart {l : (List Con)} {s : Int} {Post : (List Con) -> Prop} (hv : vc_rpart l s Post) : FnP Try.prog 20 [.lst true l.length (zYy e66 l), .int .i64 s] (fun x => ∃ q0, x = .lst false q0.length (zYy e66 q0) /\ Post q0) := by
 refine FnP.of_walk (T := tt) (nt := 34) ttOk ttMix ⟨⟨Try.f20, Try.func20, rfl, rfl, rfl, rfl⟩⟩ (by simp) ?_
 unfold vc_rpart at hv
 change W _ _ _ ⟨34, look [(0, .lst true l.length (zYy e66 l)), (1, .int .i64 s)], [], 0⟩ _
 refine W.rL (cL rfl (zZq (v := .nilS) rfl (eL (W.rL (cL rfl (zZq (v := .nilS) rfl (eL (W.seq' (W.rL (aI rfl rfl (eL (W.block ?_))))))))))))
 obtain ⟨I1, μ1, hp, hv⟩ := hv
 refine W.loop2 (fun v6 r0 => ⟨34, look [(0, .lst true l.length (zYy e66 l)), (1, .int .i64 s), (5, .ref true 0 r0.length), (6, .int .i64 v6)], [.row 66 4 (zYy e66 r0)], 0⟩) I1 μ1 0 [] (St.to_mk (φ := [none]) rfl (rfl) ⟨Ren.lst _ _ _, Ren.int _ _, Ren.nilR rfl rfl, Ren.int _ _, trivial⟩ ⟨rfl, trivial⟩) hp ?_
 clear hp
 intro v6 r0 hI
 replace hv := hv v6 r0 hI
 clear hI
 refine W.seq' (W.rL (mI rfl rfl (mL rfl rfl (cL rfl (zXq (v := .lst _ _ _) tt28 rfl rfl (cL rfl (zXw rfl rfl (eL (W.cn rfl (fun hc => ?_) (fun hc => ?_))))))))))
 have hv := hv.1 hc
 refine W.skip (zZ ?_)
 obtain ⟨J2, hj, hv⟩ := hv
 refine W.mid1 (fun r2 => ⟨34, look [(0, .lst true l.length (zYy e66 l)), (1, .int .i64 s), (5, .ref true 2 r2.length), (6, .int .i64 v6)], [.dead, .dead, .row 66 4 (zYy e66 r2)], 0⟩) J2 ?_ ?_
 intro r2
 intro hv
 replace hv := hj r2 hv
 refine W.rL1 (mI rfl rfl ?_)
 obtain ⟨s46, hv⟩ := hv
 refine cL rfl (o_add rfl rfl s46 (aI rfl rfl (eL (zZ (⟨(), (v6 + 1), r2, hv, St.to_mk (φ := [some 2]) rfl (rfl) ⟨Ren.lst _ _ _, Ren.int _ _, Ren.ref rfl (fun h => rfl), Ren.int _ _, trivial⟩ ⟨.inr ⟨_, rfl, rfl, rfl, rfl, Rens.enc enc66 false r2⟩, trivial⟩⟩)))))
 clear hj
 refine W.block (W.rD [0, 1, 2, 3, 4, 5, 6, 7, 8, 9, 10, 11, 12] (by decide +kernel) rfl (mL rfl rfl (mI rfl rfl ?_)))
 obtain ⟨s47, hv⟩ := hv
 refine cL rfl (zYp tt28 tt66 rfl rfl (enc66.wd true) rfl s47 ?_)
 intro rest47
 refine cL rfl (o_faP tt66 rfl tt3 rfl (cL rfl (zZx (v := .int _ _) tt3 rfl rfl ⟨_, rfl⟩ (mI rfl rfl (cL rfl (o_and rfl rfl (mL rfl rfl (mI rfl rfl ?_))))))))
 obtain ⟨s48, hv⟩ := hv
 refine cL rfl (zYp tt28 tt66 rfl rfl (enc66.wd true) rfl s48 ?_)
 intro rest48
 refine cL rfl (o_faP tt66 rfl tt3 rfl (cL rfl (zZx (v := .int _ _) tt3 rfl rfl ⟨_, rfl⟩ (cL rfl (o_eqI rfl rfl rfl (eL (W.cn rfl (fun hc => ?_) (fun hc => ?_))))))))
 have hv := hv.1 hc
 refine W.rL1 (cL rfl (zZp (v := .ref _ _ _) rfl (mL rfl rfl (mI rfl rfl ?_))))
 obtain ⟨s49, hv⟩ := hv
 refine cL rfl (zYp tt28 tt66 rfl rfl (enc66.wd true) rfl s49 ?_)
 intro rest49
 refine cL rfl (zXv (cs := [.int _ _, .int _ _, .int _ _, .int _ _]) tt66 rfl rfl ⟨_, rfl⟩ rfl (cL rfl (o_bs1 (v := .agg _) (q := 1) tt28 tt66 rfl rfl rfl rfl rfl rfl rfl rfl ?_)))
 obtain ⟨s50, hv⟩ := hv
 refine cL rfl (o_apR (p := 2) (q := (r0 ++ [(lat l v6)]).length) tt28 tt66 rfl rfl (src_ref rfl rfl) rfl rfl (zYr (enc66.wd false) _) (Nat.le_trans (Nat.le_of_eq (@List.length_append _ (r0) ([(lat l v6)])).symm) s50) rfl (@List.length_append _ (r0) ([(lat l v6)])).symm (encL_app e66 r0 [(lat l v6)]) (cL rfl (zZq (v := .ref _ _ _) rfl (eL (zYq (zZ (⟨(), (r0 ++ [(lat l v6)]), hv, St.to_mk (φ := [none, none, some 2]) rfl (rfl) ⟨Ren.lst _ _ _, Ren.int _ _, Ren.ref rfl (fun h => rfl), Ren.int _ _, trivial⟩ ⟨rfl, rfl, .inr ⟨_, rfl, rfl, rfl, rfl, Rens.enc enc66 false (r0 ++ [(lat l v6)])⟩, trivial⟩⟩)))))))
 have hv := hv.2 hc
 refine W.skip (zYq (zZ (⟨(), r0, hv, St.to_mk (φ := [none, none, some 0]) rfl (rfl) ⟨Ren.lst _ _ _, Ren.int _ _, Ren.ref rfl (fun h => rfl), Ren.int _ _, trivial⟩ ⟨rfl, rfl, .inr ⟨_, rfl, rfl, rfl, rfl, Rens.enc enc66 false r0⟩, trivial⟩⟩)))
 have hv := hv.2 hc
 refine W.exit (zZt (zZt (zXy (zZ (W.rL (cL rfl (zZp (v := .ref _ _ _) rfl (cL rfl (zZq (v := .ref _ _ _) rfl (eL (W.tr [(4, .ref _ _ _)] [.row _ _ _] ⟨rfl, trivial⟩ rfl (W.ret (rt (rt_t (v := .ref _ _ _) rfl (rt_n (⟨_, rs_ref enc66 4 _ rfl rfl, r0, rfl, hv⟩))))))))))))))))
theorem vcp_rpart (l : (List Con)) (s : Int) (h0 : l.length <= 1073741824) (h1 : (∀ c ∈ l, inI c.a) /\ inI s) : vc_rpart l s (fun q0 => q0 = (partM l s)) := by
  unfold vc_rpart
  refine ⟨fun v r => ∃ i : Nat, v = i /\ i <= l.length /\ r = (l.take i).filter (fun c => inSet c s), fun v _ => l.length - v.toNat, ⟨0, rfl, by omega, by simp⟩, ?_⟩
  rintro _ _ ⟨i, rfl, hi, rfl⟩
  refine ⟨fun k1 => ?_, fun k1 => ?_⟩
  . have hlt : i < l.length := by omega
    rw [lat_get hlt, and_inSet (h1.1 _ (List.getElem_mem hlt))]
    have e := take_succ_nat (List.getElem?_eq_getElem hlt)
    refine ⟨fun r => r = (l.take (i + 1)).filter (fun c => inSet c s), ?_, by omega, by omega, fun h2 => ⟨by omega, ?_, ?_⟩, fun h2 => ?_⟩
    . rintro _ rfl
      exact ⟨by unfold inI; omega, ⟨i + 1, by omega, by omega, rfl⟩, by dsimp only; omega⟩
    . have := List.length_filter_le (fun c => inSet c s) (l.take i)
      simp only [List.length_append, List.length_cons, List.length_nil, List.length_take] at this ⊢
      omega
    . rw [e, List.filter_append]
      simp [h2]
    . rw [e, List.filter_append]
      simp [h2]
  . show _ = partM l s
    unfold partM
    rw [List.take_of_length_le (by omega)]
theorem spec_rpart (l : (List Con)) (s : Int) (h0 : l.length <= 1073741824) (h1 : (∀ c ∈ l, inI c.a) /\ inI s) : FnP Try.prog 20 [.lst true l.length (zYy e66 l), .int .i64 s] (fun xR => xR = .lst false (partM l s).length (zYy e66 (partM l s))) :=
  (walk_rpart (vcp_rpart l s h0 h1)).mono (by rintro _ ⟨_, rfl, rfl⟩; rfl)
def vc_rfree (n : Int) (Post : Bd -> Prop) : Prop :=
  ∃ (I1 : Int -> Int -> List (List Int) -> Prop) (μ1 : Int -> Int -> List (List Int) -> Nat), I1 0 n [] /\ ∀ (v4 : Int) (b1n : Int) (r2 : List (List Int)), I1 v4 b1n r2 -> ((v4 < n) -> ∃ (I2 : Int -> List Int -> Prop) (μ2 : Int -> List Int -> Nat), I2 0 [] /\ ∀ (v6 : Int) (r3 : List Int), I2 v6 r3 -> ((v6 < n) -> ∃ J3 : List Int -> Prop, (∀ (r5 : List Int), J3 r5 -> (inI (v6 + 1)) /\ (I2 (v6 + 1) r5 /\ μ2 (v6 + 1) r5 < μ2 v6 r3)) /\ (((v4 = v6) -> ((r3 ++ [0]).length <= 1073741824) /\ J3 (r3 ++ [0])) /\ (¬ (v4 = v6) -> ((r3 ++ [1152921504606846976]).length <= 1073741824) /\ J3 (r3 ++ [1152921504606846976])))) /\ (¬ (v6 < n) -> ((r2 ++ [r3]).length <= 1073741824) /\ (inI (v4 + 1)) /\ (I1 (v4 + 1) b1n (r2 ++ [r3]) /\ μ1 (v4 + 1) b1n (r2 ++ [r3]) < μ1 v4 b1n r2))) /\ (¬ (v4 < n) -> Post (Bd.mk b1n r2))
theorem walk_rfree {n : Int} {Post : Bd -> Prop} (hv : vc_rfree n Post) : FnP Try.prog 74 [.int .i64 n] (fun x => ∃ q0, x = .agg ((e53 false) q0) /\ Post q0) := by
 refine FnP.of_walk (T := tt) (nt := 35) ttOk ttMix ⟨⟨Try.f74, Try.func74, rfl, rfl, rfl, rfl⟩⟩ (by simp) ?_
 unfold vc_rfree at hv
 change W _ _ _ ⟨35, look [(0, .int .i64 n)], [], 0⟩ _
 refine W.rL (cL rfl (zXs (p := 0) tt53 rfl rfl (eL (W.rL (mI rfl rfl (cL rfl (o_build (qs := [(0, .int _ _)]) (cs := [.int _ _, .nilS]) tt53 rfl rfl rfl (cL rfl (zXs (p := 1) tt53 rfl rfl (cLn (o_stB (v := .agg _) (vs := [.int _ _, .nilS]) (cs2 := [.int _ _, .nilS]) tt53 rfl rfl rfl rfl rfl (Nat.le_of_ble_eq_true rfl) rfl (eL (W.tr [(0, .int _ _), (2, .ptr _ _), (3, .ptr _ _)] [.box _ [.int _ _, .nilS], .box _ [.int _ _, .nilS]] ⟨rfl, rfl, rfl, trivial⟩ rfl (W.seq' (W.rL (aI rfl rfl (eL (W.block ?_))))))))))))))))))
 obtain ⟨I1, μ1, hp, hv⟩ := hv
 refine W.loop3 (fun v4 b1n r2 => ⟨35, look [(0, .int .i64 n), (2, .ptr 0 0), (3, .ptr 1 0), (4, .int .i64 v4)], [.box 53 [.int .i64 0, .nilS], .box 53 [.int .i64 b1n, .ref true 2 r2.length], .row 23 1 (zYy (eSl zYx false) r2)], 0⟩) I1 μ1 0 n [] (St.to_mk (φ := [some 0, some 1, none]) rfl (rfl) ⟨Ren.int _ _, Ren.ptr rfl, Ren.ptr rfl, Ren.int _ _, trivial⟩ ⟨.inr ⟨_, rfl, rfl, Rens.cons (Ren.int _ _) (Rens.cons (Ren.nilS) (Rens.nil))⟩, .inr ⟨_, rfl, rfl, Rens.cons (Ren.int _ _) (Rens.cons (Ren.nilR rfl rfl) (Rens.nil))⟩, rfl, trivial⟩) hp ?_
 clear hp
 intro v4 b1n r2 hI
 replace hv := hv v4 b1n r2 hI
 clear hI
 refine W.seq' (W.rL ?_)
 iterate 2 refine mI rfl rfl ?_
 refine cL rfl (zXw rfl rfl (eL (W.cn rfl (fun hc => ?_) (fun hc => ?_))))
 have hv := hv.1 hc
 refine W.skip (zZ (W.seq' (W.block (W.rL (cL rfl (zZq (v := .nilS) rfl (eL (W.seq' (W.rL (aI rfl rfl (eL (W.block ?_))))))))))))
 obtain ⟨I2, μ2, hp, hv⟩ := hv
 refine W.loop2 (fun v6 r3 => ⟨35, look [(0, .int .i64 n), (2, .ptr 0 0), (3, .ptr 1 0), (4, .int .i64 v4), (5, .ref true 3 r3.length), (6, .int .i64 v6)], [.box 53 [.int .i64 0, .nilS], .box 53 [.int .i64 b1n, .ref true 2 r2.length], .row 23 1 (zYy (eSl zYx false) r2), .row 3 1 (zYy zYx r3)], 0⟩) I2 μ2 0 [] (St.to_mk (φ := [some 0, some 1, some 2, none]) rfl (rfl) ⟨Ren.int _ _, Ren.ptr rfl, Ren.ptr rfl, Ren.int _ _, Ren.nilR rfl rfl, Ren.int _ _, trivial⟩ ⟨.inr ⟨_, rfl, rfl, Rens.cons (Ren.int _ _) (Rens.cons (Ren.nilS) (Rens.nil))⟩, .inr ⟨_, rfl, rfl, Rens.cons (Ren.int _ _) (Rens.cons (Ren.ref rfl (fun h => rfl)) (Rens.nil))⟩, .inr ⟨_, rfl, rfl, rfl, rfl, Rens.enc (encSl zYx) false r2⟩, rfl, trivial⟩) hp ?_
 clear hp
 intro v6 r3 hI
 replace hv := hv v6 r3 hI
 clear hI
 refine W.seq' (W.rL ?_)
 iterate 2 refine mI rfl rfl ?_
 refine cL rfl (zXw rfl rfl (eL (W.cn rfl (fun hc => ?_) (fun hc => ?_))))
 have hv := hv.1 hc
 refine W.skip (zZ ?_)
 obtain ⟨J3, hj, hv⟩ := hv
 refine W.mid1 (fun r5 => ⟨35, look [(0, .int .i64 n), (2, .ptr 0 0), (3, .ptr 1 0), (4, .int .i64 v4), (5, .ref true 5 r5.length), (6, .int .i64 v6)], [.box 53 [.int .i64 0, .nilS], .box 53 [.int .i64 b1n, .ref true 2 r2.length], .row 23 1 (zYy (eSl zYx false) r2), .dead, .dead, .row 3 1 (zYy zYx r5)], 0⟩) J3 ?_ ?_
 intro r5
 intro hv
 replace hv := hj r5 hv
 refine W.rL1 (mI rfl rfl ?_)
 obtain ⟨s274, hv⟩ := hv
 refine cL rfl (o_add rfl rfl s274 (aI rfl rfl (eL (zZ (⟨(), (v6 + 1), r5, hv, St.to_mk (φ := [some 0, some 1, some 2, some 5]) rfl (rfl) ⟨Ren.int _ _, Ren.ptr rfl, Ren.ptr rfl, Ren.int _ _, Ren.ref rfl (fun h => rfl), Ren.int _ _, trivial⟩ ⟨.inr ⟨_, rfl, rfl, Rens.cons (Ren.int _ _) (Rens.cons (Ren.nilS) (Rens.nil))⟩, .inr ⟨_, rfl, rfl, Rens.cons (Ren.int _ _) (Rens.cons (Ren.ref rfl (fun h => rfl)) (Rens.nil))⟩, .inr ⟨_, rfl, rfl, rfl, rfl, Rens.enc (encSl zYx) false r2⟩, .inr ⟨_, rfl, rfl, rfl, rfl, Rens.enc zZw false r5⟩, trivial⟩⟩)))))
 clear hj
 refine W.block (W.rL ?_)
 iterate 2 refine mI rfl rfl ?_
 refine cL rfl (o_eqI rfl rfl rfl (eL (W.cn rfl (fun hc => ?_) (fun hc => ?_))))
 have hv := hv.1 hc
 refine W.rL1 (cL rfl (zZp (v := .ref _ _ _) rfl (cL rfl (o_bs1 (v := .int _ _) (q := 4) tt23 tt3 rfl rfl rfl rfl rfl rfl rfl rfl ?_))))
 obtain ⟨s275, hv⟩ := hv
 refine cL rfl (o_apR (p := 5) (q := (r3 ++ [0]).length) tt23 tt3 rfl rfl (src_ref rfl rfl) rfl rfl (zYr (zZw.wd false) _) (Nat.le_trans (Nat.le_of_eq (@List.length_append _ (r3) ([0])).symm) s275) rfl (@List.length_append _ (r3) ([0])).symm (encL_app zYx r3 [0]) (cL rfl (zZq (v := .ref _ _ _) rfl (eL (zYq (zZ (⟨(), (r3 ++ [0]), hv, St.to_mk (φ := [some 0, some 1, some 2, none, none, some 5]) rfl (rfl) ⟨Ren.int _ _, Ren.ptr rfl, Ren.ptr rfl, Ren.int _ _, Ren.ref rfl (fun h => rfl), Ren.int _ _, trivial⟩ ⟨.inr ⟨_, rfl, rfl, Rens.cons (Ren.int _ _) (Rens.cons (Ren.nilS) (Rens.nil))⟩, .inr ⟨_, rfl, rfl, Rens.cons (Ren.int _ _) (Rens.cons (Ren.ref rfl (fun h => rfl)) (Rens.nil))⟩, .inr ⟨_, rfl, rfl, rfl, rfl, Rens.enc (encSl zYx) false r2⟩, rfl, rfl, .inr ⟨_, rfl, rfl, rfl, rfl, Rens.enc zZw false (r3 ++ [0])⟩, trivial⟩⟩)))))))
 have hv := hv.2 hc
 refine W.rL1 (cL rfl (zZp (v := .ref _ _ _) rfl (cL rfl (o_bs1 (v := .int _ _) (q := 4) tt23 tt3 rfl rfl rfl rfl rfl rfl rfl rfl ?_))))
 obtain ⟨s276, hv⟩ := hv
 refine cL rfl (o_apR (p := 5) (q := (r3 ++ [1152921504606846976]).length) tt23 tt3 rfl rfl (src_ref rfl rfl) rfl rfl (zYr (zZw.wd false) _) (Nat.le_trans (Nat.le_of_eq (@List.length_append _ (r3) ([1152921504606846976])).symm) s276) rfl (@List.length_append _ (r3) ([1152921504606846976])).symm (encL_app zYx r3 [1152921504606846976]) (cL rfl (zZq (v := .ref _ _ _) rfl (eL (zYq (zZ (⟨(), (r3 ++ [1152921504606846976]), hv, St.to_mk (φ := [some 0, some 1, some 2, none, none, some 5]) rfl (rfl) ⟨Ren.int _ _, Ren.ptr rfl, Ren.ptr rfl, Ren.int _ _, Ren.ref rfl (fun h => rfl), Ren.int _ _, trivial⟩ ⟨.inr ⟨_, rfl, rfl, Rens.cons (Ren.int _ _) (Rens.cons (Ren.nilS) (Rens.nil))⟩, .inr ⟨_, rfl, rfl, Rens.cons (Ren.int _ _) (Rens.cons (Ren.ref rfl (fun h => rfl)) (Rens.nil))⟩, .inr ⟨_, rfl, rfl, rfl, rfl, Rens.enc (encSl zYx) false r2⟩, rfl, rfl, .inr ⟨_, rfl, rfl, rfl, rfl, Rens.enc zZw false (r3 ++ [1152921504606846976])⟩, trivial⟩⟩)))))))
 have hv := hv.2 hc
 refine W.exit (zZt (zZt (zXy (zZ (W.sealH false 3 (l := [(0, .int .i64 n), (2, .ptr 0 0), (3, .ptr 1 0), (4, .int .i64 v4), (5, .lst false r3.length (zYy zYx r3)), (6, .int .i64 v6), (14, .int .i64 v6), (15, .int .i64 n), (16, .bool (decide (v6 < n)))]) rfl (encL_sl zZw false r3) ⟨.inl rfl, .inl rfl, .inl rfl, .inl rfl, .inr ⟨_, _, rfl, (zYr (zZw.wd false) _), rfl⟩, .inl rfl, .inl rfl, .inl rfl, .inl rfl, trivial⟩ rfl (W.rL1 (cL rfl (o_fa tt53 rfl tt51 rfl (cL rfl (zZx (v := .ref _ _ _) tt51 rfl rfl ⟨_, rfl⟩ (mL rfl rfl (cL rfl (o_bs1 (v := .lst _ _ _) (q := 4) tt51 tt23 rfl rfl rfl rfl rfl rfl rfl rfl ?_)))))))))))))
 obtain ⟨s277, hv⟩ := hv
 refine cL rfl (o_apR (p := 5) (q := (r2 ++ [r3]).length) tt51 tt23 rfl rfl (src_ref rfl rfl) rfl rfl (zYr ((encSl zYx).wd false) _) (Nat.le_trans (Nat.le_of_eq (@List.length_append _ (r2) ([r3])).symm) s277) rfl (@List.length_append _ (r2) ([r3])).symm (encL_app (eSl zYx false) r2 [r3]) (cL rfl (o_fa tt53 rfl tt51 rfl (cLn (o_stB (v := .ref _ _ _) (vs := [.ref _ _ _]) (cs2 := [.int _ _, .ref _ _ _]) tt51 rfl rfl rfl rfl rfl (Nat.le_of_ble_eq_true rfl) rfl (eL (zYq (zZ (W.tr [(0, .int _ _), (2, .ptr _ _), (3, .ptr _ _), (4, .int _ _)] [.box _ [.int _ _, .nilS], .box _ [.int _ _, .ref _ _ _], .dead, .dead, .row _ _ _, .row _ _ _] ⟨rfl, rfl, rfl, rfl, trivial⟩ rfl (W.rL1 (mI rfl rfl ?_)))))))))))
 obtain ⟨s278, hv⟩ := hv
 refine cL rfl (o_add rfl rfl s278 (aI rfl rfl (eL (zZ (⟨(), (v4 + 1), b1n, (r2 ++ [r3]), hv, St.to_mk (φ := [some 0, some 1, some 5]) rfl (rfl) ⟨Ren.int _ _, Ren.ptr rfl, Ren.ptr rfl, Ren.int _ _, trivial⟩ ⟨.inr ⟨_, rfl, rfl, Rens.cons (Ren.int _ _) (Rens.cons (Ren.nilS) (Rens.nil))⟩, .inr ⟨_, rfl, rfl, Rens.cons (Ren.int _ _) (Rens.cons (Ren.ref rfl (fun h => rfl)) (Rens.nil))⟩, .inr ⟨_, rfl, rfl, rfl, rfl, Rens.enc (encSl zYx) false (r2 ++ [r3])⟩, trivial⟩⟩)))))
 have hv := hv.2 hc
 refine W.exit (zZt (zZt (zXy (zZ (W.rL (cL rfl (zXv (cs := [.int _ _, .ref _ _ _]) tt53 rfl rfl ⟨_, rfl⟩ rfl (cLn (o_stB (v := .agg _) (vs := [.int _ _, .ref _ _ _]) (cs2 := [.int _ _, .ref _ _ _]) tt53 rfl rfl rfl rfl rfl (Nat.le_of_ble_eq_true rfl) rfl (eL (W.tr [(2, .ptr _ _)] [.box _ [.int _ _, .ref _ _ _], .box _ [.int _ _, .ref _ _ _], .row _ _ _] ⟨rfl, trivial⟩ rfl (W.ret (rt (rt_c (x := .ptr _ _) rfl (ldA (cs := [.int _ _, .ref _ _ _]) tt53 rfl ⟨_, rfl⟩ rfl (rt_n (⟨_, rs_agg 5 _ (Wks.cons (zY _ _ _ _) (Wks.cons (rs_ref (encSl zYx) 3 _ rfl rfl) (Wks.refl _))), (Bd.mk b1n r2), rfl, hv⟩)))))))))))))))))
theorem vcp_rfree (n : Int) (h0 : 1 <= n /\ n <= 24) : vc_rfree n (fun q0 => q0 = (zYs freeM n)) := by
  unfold vc_rfree
  have hrow : ∀ (i : Nat), (i : Int) < n -> ((List.range n.toNat).map fun j => if i = j then 0 else NB) = (List.range n.toNat).map fun j => mm freeM i j := fun i hi => by
    refine List.map_congr_left fun j hj => ?_
    have := List.mem_range.mp hj
    rw [mm_free (by omega) (by omega)]
  refine ⟨fun v q r => ∃ i : Nat, v = i /\ i <= n.toNat /\ q = n /\ r = (List.range i).map fun i => (List.range n.toNat).map fun j => mm freeM i j, fun v _ _ => n.toNat - v.toNat, ⟨0, rfl, by omega, rfl, rfl⟩, ?_⟩
  rintro _ q _ ⟨i, rfl, hi, hq, rfl⟩
  refine ⟨fun k1 => ⟨fun v r => ∃ j : Nat, v = j /\ j <= n.toNat /\ r = (List.range j).map fun j => if i = j then 0 else NB, fun v _ => n.toNat - v.toNat, ⟨0, rfl, by omega, rfl⟩, ?_⟩, fun k1 => ?_⟩
  . rintro _ _ ⟨j, rfl, hj, rfl⟩
    refine ⟨fun k2 => ⟨fun r => r = (List.range (j + 1)).map fun j => if i = j then 0 else NB, fun r hr => ⟨by unfold inI; omega, ⟨j + 1, by omega, by omega, hr⟩, by first | omega | (dsimp only; omega)⟩, fun k3 => ⟨by simp; omega, ?_⟩, fun k3 => ⟨by simp; omega, ?_⟩⟩, fun k2 => ?_⟩
    . rw [List.range_succ, List.map_append]
      simp only [List.map_cons, List.map_nil]
      rw [if_pos (by omega)]
    . rw [List.range_succ, List.map_append]
      simp only [List.map_cons, List.map_nil]
      rw [if_neg (by omega)]
    . obtain rfl : j = n.toNat := by omega
      refine ⟨by simp; omega, by unfold inI; omega, ⟨i + 1, by omega, by omega, hq, ?_⟩, by first | omega | (dsimp only; omega)⟩
      rw [hrow i (by omega), List.range_succ, List.map_append]; rfl
  . obtain rfl : i = n.toNat := by omega
    rw [boundsM_eq h0.2, hq]
theorem spec_rfree (n : Int) (h0 : 1 <= n /\ n <= 24) : FnP Try.prog 74 [.int .i64 n] (fun xR => xR = .agg ((e53 false) (zYs freeM n))) :=
  (walk_rfree (vcp_rfree n h0)).mono (by rintro _ ⟨_, rfl, rfl⟩; rfl)
def vc_rsum (a : Int) (b : Int) (Post : Int -> Prop) : Prop :=
  (((a = 1152921504606846976) \/ (b = 1152921504606846976)) -> Post 1152921504606846976) /\ (¬ ((a = 1152921504606846976) \/ (b = 1152921504606846976)) -> (inI (a + b)) /\ Post (a + b))
theorem walk_rsum {a : Int} {b : Int} {Post : Int -> Prop} (hv : vc_rsum a b Post) : FnP Try.prog 79 [.int .i64 a, .int .i64 b] (fun x => ∃ q0, x = .int .i64 q0 /\ Post q0) := by
 refine FnP.of_walk (T := tt) (nt := 14) ttOk ttMix ⟨⟨Try.f79, Try.func79, rfl, rfl, rfl, rfl⟩⟩ (by simp) ?_
 unfold vc_rsum at hv
 change W _ _ _ ⟨14, look [(0, .int .i64 a), (1, .int .i64 b)], [], 0⟩ _
 refine W.rL (aI rfl rfl (eL (W.seq' (W.rLm ⟨14, look [(0, .int .i64 a), (1, .int .i64 b), (10, .bool (decide ((a = 1152921504606846976) \/ (b = 1152921504606846976))))], [], 0⟩ ?_ ?_))))
 refine mI rfl rfl (cL rfl (o_eqI rfl rfl rfl (mB rfl rfl ?_)))
 by_cases c1 : a = 1152921504606846976
 iterate 2 refine cLs rfl rfl rfl (dT c1) ?_
 refine cL rfl (zZv (v := .bool _) rfl (dT c1) rfl (eL (zYz ⟨rfl, rfl, (congrArg AV.bool (dOrT c1)).symm, trivial⟩ rfl)))
 refine cLg rfl rfl (dF c1) (mI rfl rfl (cLg rfl rfl (dF c1) (cL rfl (o_eqI rfl rfl rfl (cL rfl (zZy (v := .bool _) rfl (dF c1) rfl (eL (zYz ⟨rfl, rfl, (congrArg AV.bool (dOrF c1 (rfl))).symm, trivial⟩ rfl))))))))
 refine W.cn rfl (fun hc => ?_) (fun hc => ?_)
 have hv := hv.1 hc
 refine W.rL (aI rfl rfl (eL (W.ret (zZr (rt (rt_t (v := .int _ _) rfl (rt_n (⟨_, zY _ _ _ _, 1152921504606846976, rfl, hv⟩))))))))
 have hv := hv.2 hc
 refine W.skip (zZ (W.rL ?_))
 iterate 2 refine mI rfl rfl ?_
 obtain ⟨s1, hv⟩ := hv
 refine cL rfl (o_add rfl rfl s1 (aI rfl rfl (eL (W.ret (rt (rt_t (v := .int _ _) rfl (rt_n (⟨_, zY _ _ _ _, (a + b), rfl, hv⟩))))))))
theorem vcp_rsum (a : Int) (b : Int) (h0 : ¬ a = NB -> ¬ b = NB -> inI (a + b)) : vc_rsum a b (fun q0 => q0 = (zW a b)) := by
  unfold vc_rsum zW
  refine ⟨fun h => by simp only [h, if_true, NB], fun h => ?_⟩
  have ha : ¬ a = NB := fun e => h (.inl e)
  have hb : ¬ b = NB := fun e => h (.inr e)
  exact ⟨h0 ha hb, by simp only [ha, hb, or_self, if_false]⟩
theorem spec_rsum (a : Int) (b : Int) (h0 : ¬ a = NB -> ¬ b = NB -> inI (a + b)) : FnP Try.prog 79 [.int .i64 a, .int .i64 b] (fun xR => xR = .int .i64 (zW a b)) :=
  (walk_rsum (vcp_rsum a b h0)).mono (by rintro _ ⟨_, rfl, rfl⟩; rfl)
def vc_rwith (b : Bd) (f : Int) (t : Int) (w : Int) (Post : Bd -> Bool -> Prop) : Prop :=
  (0 <= t /\ t < (b.most.length : Int)) /\ (0 <= f /\ f < ((lat b.most t).length : Int)) /\ (¬ w = NB -> ¬ (lat (lat b.most t) f) = NB -> inI (w + (lat (lat b.most t) f))) /\ (((¬ zW w (lat (lat b.most t) f) = 1152921504606846976) /\ ((zW w (lat (lat b.most t) f)) < 0)) -> Post (Bd.mk 0 []) false) /\ (¬ ((¬ zW w (lat (lat b.most t) f) = 1152921504606846976) /\ ((zW w (lat (lat b.most t) f)) < 0)) -> ∃ (I1 : Int -> Int -> List (List Int) -> Prop) (μ1 : Int -> Int -> List (List Int) -> Nat), I1 0 b.n [] /\ ∀ (v12 : Int) (b2n : Int) (r3 : List (List Int)), I1 v12 b2n r3 -> ((v12 < b.n) -> ∃ (I2 : Int -> List Int -> Prop) (μ2 : Int -> List Int -> Nat), I2 0 [] /\ ∀ (v14 : Int) (r4 : List Int), I2 v14 r4 -> ((v14 < b.n) -> (0 <= v12 /\ v12 < (b.most.length : Int)) /\ (0 <= f /\ f < ((lat b.most v12).length : Int)) /\ (0 <= t /\ t < (b.most.length : Int)) /\ (0 <= v14 /\ v14 < ((lat b.most t).length : Int)) /\ (¬ (lat (lat b.most v12) f) = NB -> ¬ w = NB -> inI ((lat (lat b.most v12) f) + w)) /\ (¬ (zW (lat (lat b.most v12) f) w) = NB -> ¬ (lat (lat b.most t) v14) = NB -> inI ((zW (lat (lat b.most v12) f) w) + (lat (lat b.most t) v14))) /\ ∃ J3 : Int -> Prop, (∀ (v15 : Int), J3 v15 -> ((r4 ++ [v15]).length <= 1073741824) /\ (inI (v14 + 1)) /\ (I2 (v14 + 1) (r4 ++ [v15]) /\ μ2 (v14 + 1) (r4 ++ [v15]) < μ2 v14 r4)) /\ ((((zW (zW (lat (lat b.most v12) f) w) (lat (lat b.most t) v14) = 1152921504606846976) -> True) /\ (¬ (zW (zW (lat (lat b.most v12) f) w) (lat (lat b.most t) v14) = 1152921504606846976) -> (0 <= v12 /\ v12 < (b.most.length : Int)) /\ (0 <= v14 /\ v14 < ((lat b.most v12).length : Int)) /\ ((¬ lat (lat b.most v12) v14 = 1152921504606846976) -> (0 <= v12 /\ v12 < (b.most.length : Int)) /\ (0 <= v14 /\ v14 < ((lat b.most v12).length : Int)) /\ True) /\ (¬ (¬ lat (lat b.most v12) v14 = 1152921504606846976) -> True))) /\ ((((zW (zW (lat (lat b.most v12) f) w) (lat (lat b.most t) v14) = 1152921504606846976) \/ ((¬ lat (lat b.most v12) v14 = 1152921504606846976) /\ ((lat (lat b.most v12) v14) <= (zW (zW (lat (lat b.most v12) f) w) (lat (lat b.most t) v14))))) -> (0 <= v12 /\ v12 < (b.most.length : Int)) /\ (0 <= v14 /\ v14 < ((lat b.most v12).length : Int)) /\ J3 (lat (lat b.most v12) v14)) /\ (¬ ((zW (zW (lat (lat b.most v12) f) w) (lat (lat b.most t) v14) = 1152921504606846976) \/ ((¬ lat (lat b.most v12) v14 = 1152921504606846976) /\ ((lat (lat b.most v12) v14) <= (zW (zW (lat (lat b.most v12) f) w) (lat (lat b.most t) v14))))) -> J3 (zW (zW (lat (lat b.most v12) f) w) (lat (lat b.most t) v14)))))) /\ (¬ (v14 < b.n) -> ((r3 ++ [r4]).length <= 1073741824) /\ (inI (v12 + 1)) /\ (I1 (v12 + 1) b2n (r3 ++ [r4]) /\ μ1 (v12 + 1) b2n (r3 ++ [r4]) < μ1 v12 b2n r3))) /\ (¬ (v12 < b.n) -> Post (Bd.mk b2n r3) true))
theorem walk_rwith {b : Bd} {f : Int} {t : Int} {w : Int} {Post : Bd -> Bool -> Prop} (hv : vc_rwith b f t w Post) : FnP Try.prog 63 [.agg ((e53 true) b), .int .i64 f, .int .i64 t, .int .i64 w] (fun x => ∃ q0 q1, x = .tup [.agg ((e53 false) q0), .bool q1] /\ Post q0 q1) := by
 refine FnP.of_walk (T := tt) (nt := 111) ttOk ttMix ⟨⟨Try.f63, Try.func63, rfl, rfl, rfl, rfl⟩⟩ (by simp) ?_
 unfold vc_rwith at hv
 change W _ _ _ ⟨111, look [(0, .agg [.int .i64 b.n, .lst true b.most.length (zYy (eSl zYx true) b.most)]), (1, .int .i64 f), (2, .int .i64 t), (3, .int .i64 w)], [], 0⟩ _
 refine W.rL (cL rfl (o_box (v := .agg _) (p := 0) rfl rfl rfl (cL rfl (zXs (p := 1) tt53 rfl rfl (aB rfl rfl (eL (W.tr [(1, .int _ _), (2, .int _ _), (3, .int _ _), (4, .ptr _ _), (8, .ptr _ _)] [.box _ [.int _ _, .lst _ _ _], .box _ [.int _ _, .nilS]] ⟨rfl, rfl, rfl, rfl, rfl, trivial⟩ rfl (W.rL (mI rfl rfl (cL rfl (o_fa tt53 rfl tt51 rfl (cL rfl (zZx (v := .lst _ _ _) tt51 rfl rfl ⟨_, rfl⟩ (mI rfl rfl ?_))))))))))))))
 obtain ⟨s1, hv⟩ := hv
 refine cL rfl (zYp tt51 tt23 rfl rfl ((encSl zYx).wd true) rfl s1 ?_)
 intro rest1
 refine cL rfl (zZx (v := .lst _ _ _) tt23 rfl rfl ⟨_, rfl⟩ (mI rfl rfl ?_))
 obtain ⟨s2, hv⟩ := hv
 refine cL rfl (zYp tt23 tt3 rfl rfl (zZw.wd true) rfl s2 ?_)
 intro rest2
 refine cL rfl (zZx (v := .int _ _) tt3 rfl rfl ⟨_, rfl⟩ ?_)
 obtain ⟨s3, hv⟩ := hv
 refine cL rfl (zZu (k := 79) (fst := []) (caps := []) (ys := [.int _ _, .int _ _]) rfl rfl (spec_rsum w (lat (lat b.most t) f) s3) (Wks.cons (zZz _ _ _ _) (Wks.cons (zZz _ _ _ _) (Wks.refl _))) (aI rfl rfl (eL (W.seq' (W.rLm ⟨111, look [(1, .int .i64 f), (2, .int .i64 t), (3, .int .i64 w), (4, .ptr 0 0), (8, .ptr 1 0), (31, .bool (decide ((¬ zW w (lat (lat b.most t) f) = 1152921504606846976) /\ ((zW w (lat (lat b.most t) f)) < 0))))], [.box 53 [.int .i64 b.n, .lst true b.most.length (zYy (eSl zYx true) b.most)], .box 53 [.int .i64 0, .nilS]], 0⟩ ?_ ?_)))))
 refine mI rfl rfl (cL rfl (o_neI rfl rfl rfl (mB rfl rfl ?_)))
 by_cases c1 : ¬ zW w (lat (lat b.most t) f) = 1152921504606846976
 refine cLg rfl rfl (dT c1) (mI rfl rfl (cLg rfl rfl (dT c1) (cL rfl (zXw rfl rfl (cL rfl (zZv (v := .bool _) rfl (dT c1) rfl (eL (zYz ⟨rfl, rfl, rfl, rfl, rfl, (congrArg AV.bool (zXp c1 (rfl))).symm, trivial⟩ rfl))))))))
 iterate 2 refine cLs rfl rfl rfl (dF c1) ?_
 refine cL rfl (zZy (v := .bool _) rfl (dF c1) rfl (eL (zYz ⟨rfl, rfl, rfl, rfl, rfl, (congrArg AV.bool (dAndF c1)).symm, trivial⟩ rfl)))
 refine W.cn rfl (fun hc => ?_) (fun hc => ?_)
 have hv := hv.1 hc
 refine W.rL (cL rfl (o_build (qs := []) (cs := [.int _ _, .nilS]) tt53 rfl rfl rfl (cLn (o_stB (v := .agg _) (vs := [.int _ _, .nilS]) (cs2 := [.int _ _, .nilS]) tt53 rfl rfl rfl rfl rfl (Nat.le_of_ble_eq_true rfl) rfl (aB rfl rfl (eL (W.tr [(8, .ptr _ _), (9, .bool _)] [.box _ [.int _ _, .lst _ _ _], .box _ [.int _ _, .nilS]] ⟨rfl, rfl, trivial⟩ rfl (W.ret (zZr (rt (rt_c (x := .ptr _ _) rfl (ldA (cs := [.int _ _, .nilS]) tt53 rfl ⟨_, rfl⟩ rfl (rt_t (v := .bool _) rfl (rt_n (⟨_, rs_tup 5 _ (Wks.cons (rs_agg 4 _ (Wks.cons (zY _ _ _ _) (Wks.cons (rs_nil _ _ _ _ rfl) (Wks.refl _)))) (Wks.cons (zXx _ _ _) (Wks.refl _))), (Bd.mk 0 []), false, rfl, hv⟩)))))))))))))))
 have hv := hv.2 hc
 refine W.skip (zZ (W.rL (cL rfl (o_fa tt53 rfl tt3 rfl (cL rfl (zZx (v := .int _ _) tt3 rfl rfl ⟨_, rfl⟩ (cL rfl (o_build (qs := [(0, .int _ _)]) (cs := [.int _ _, .nilS]) tt53 rfl rfl rfl (cL rfl (zXs (p := 2) tt53 rfl rfl (cLn (o_stB (v := .agg _) (vs := [.int _ _, .nilS]) (cs2 := [.int _ _, .nilS]) tt53 rfl rfl rfl rfl rfl (Nat.le_of_ble_eq_true rfl) rfl (eL (W.tr [(1, .int _ _), (2, .int _ _), (3, .int _ _), (4, .ptr _ _), (8, .ptr _ _), (11, .ptr _ _)] [.box _ [.int _ _, .lst _ _ _], .box _ [.int _ _, .nilS], .box _ [.int _ _, .nilS]] ⟨rfl, rfl, rfl, rfl, rfl, rfl, trivial⟩ rfl (W.seq' (W.rL (aI rfl rfl (eL (W.block ?_)))))))))))))))))))
 obtain ⟨I1, μ1, hp, hv⟩ := hv
 refine W.loop3 (fun v12 b2n r3 => ⟨111, look [(1, .int .i64 f), (2, .int .i64 t), (3, .int .i64 w), (4, .ptr 0 0), (8, .ptr 1 0), (11, .ptr 2 0), (12, .int .i64 v12)], [.box 53 [.int .i64 b.n, .lst true b.most.length (zYy (eSl zYx true) b.most)], .box 53 [.int .i64 0, .nilS], .box 53 [.int .i64 b2n, .ref true 3 r3.length], .row 23 1 (zYy (eSl zYx false) r3)], 0⟩) I1 μ1 0 b.n [] (St.to_mk (φ := [some 0, some 1, some 2, none]) rfl (rfl) ⟨Ren.int _ _, Ren.int _ _, Ren.int _ _, Ren.ptr rfl, Ren.ptr rfl, Ren.ptr rfl, Ren.int _ _, trivial⟩ ⟨.inr ⟨_, rfl, rfl, Rens.cons (Ren.int _ _) (Rens.cons (Ren.lst _ _ _) (Rens.nil))⟩, .inr ⟨_, rfl, rfl, Rens.cons (Ren.int _ _) (Rens.cons (Ren.nilS) (Rens.nil))⟩, .inr ⟨_, rfl, rfl, Rens.cons (Ren.int _ _) (Rens.cons (Ren.nilR rfl rfl) (Rens.nil))⟩, rfl, trivial⟩) hp ?_
 clear hp
 intro v12 b2n r3 hI
 replace hv := hv v12 b2n r3 hI
 clear hI
 refine W.seq' (W.rL (mI rfl rfl (cL rfl (o_fa tt53 rfl tt3 rfl (cL rfl (zZx (v := .int _ _) tt3 rfl rfl ⟨_, rfl⟩ (cL rfl (zXw rfl rfl (eL (W.cn rfl (fun hc => ?_) (fun hc => ?_)))))))))))
 have hv := hv.1 hc
 refine W.skip (zZ (W.seq' (W.block (W.rL (cL rfl (zZq (v := .nilS) rfl (eL (W.seq' (W.rL (aI rfl rfl (eL (W.block ?_))))))))))))
 obtain ⟨I2, μ2, hp, hv⟩ := hv
 refine W.loop2 (fun v14 r4 => ⟨111, look [(1, .int .i64 f), (2, .int .i64 t), (3, .int .i64 w), (4, .ptr 0 0), (8, .ptr 1 0), (11, .ptr 2 0), (12, .int .i64 v12), (13, .ref true 4 r4.length), (14, .int .i64 v14)], [.box 53 [.int .i64 b.n, .lst true b.most.length (zYy (eSl zYx true) b.most)], .box 53 [.int .i64 0, .nilS], .box 53 [.int .i64 b2n, .ref true 3 r3.length], .row 23 1 (zYy (eSl zYx false) r3), .row 3 1 (zYy zYx r4)], 0⟩) I2 μ2 0 [] (St.to_mk (φ := [some 0, some 1, some 2, some 3, none]) rfl (rfl) ⟨Ren.int _ _, Ren.int _ _, Ren.int _ _, Ren.ptr rfl, Ren.ptr rfl, Ren.ptr rfl, Ren.int _ _, Ren.nilR rfl rfl, Ren.int _ _, trivial⟩ ⟨.inr ⟨_, rfl, rfl, Rens.cons (Ren.int _ _) (Rens.cons (Ren.lst _ _ _) (Rens.nil))⟩, .inr ⟨_, rfl, rfl, Rens.cons (Ren.int _ _) (Rens.cons (Ren.nilS) (Rens.nil))⟩, .inr ⟨_, rfl, rfl, Rens.cons (Ren.int _ _) (Rens.cons (Ren.ref rfl (fun h => rfl)) (Rens.nil))⟩, .inr ⟨_, rfl, rfl, rfl, rfl, Rens.enc (encSl zYx) false r3⟩, rfl, trivial⟩) hp ?_
 clear hp
 intro v14 r4 hI
 replace hv := hv v14 r4 hI
 clear hI
 refine W.seq' (W.rL (mI rfl rfl (cL rfl (o_fa tt53 rfl tt3 rfl (cL rfl (zZx (v := .int _ _) tt3 rfl rfl ⟨_, rfl⟩ (cL rfl (zXw rfl rfl (eL (W.cn rfl (fun hc => ?_) (fun hc => ?_)))))))))))
 have hv := hv.1 hc
 refine W.skip (zZ (W.seq' (W.block (W.rP [0, 1, 2, 3, 4, 5, 6, 7, 8, 10, 11, 12, 13, 14, 15, 16, 17, 9, 18, 19] (by decide +kernel) rfl (cL rfl (o_fa tt53 rfl tt51 rfl (cL rfl (zZx (v := .lst _ _ _) tt51 rfl rfl ⟨_, rfl⟩ (mI rfl rfl ?_)))))))))
 obtain ⟨s3900, hv⟩ := hv
 refine cL rfl (zYp tt51 tt23 rfl rfl ((encSl zYx).wd true) rfl s3900 ?_)
 intro rest3900
 refine cL rfl (zZx (v := .lst _ _ _) tt23 rfl rfl ⟨_, rfl⟩ (mI rfl rfl ?_))
 obtain ⟨s3901, hv⟩ := hv
 refine cL rfl (zYp tt23 tt3 rfl rfl (zZw.wd true) rfl s3901 ?_)
 intro rest3901
 refine cL rfl (zZx (v := .int _ _) tt3 rfl rfl ⟨_, rfl⟩ (mI rfl rfl (cL rfl (o_fa tt53 rfl tt51 rfl (cL rfl (zZx (v := .lst _ _ _) tt51 rfl rfl ⟨_, rfl⟩ (mI rfl rfl ?_)))))))
 obtain ⟨s3902, hv⟩ := hv
 refine cL rfl (zYp tt51 tt23 rfl rfl ((encSl zYx).wd true) rfl s3902 ?_)
 intro rest3902
 refine cL rfl (zZx (v := .lst _ _ _) tt23 rfl rfl ⟨_, rfl⟩ (mI rfl rfl ?_))
 obtain ⟨s3903, hv⟩ := hv
 refine cL rfl (zYp tt23 tt3 rfl rfl (zZw.wd true) rfl s3903 ?_)
 intro rest3903
 refine cL rfl (zZx (v := .int _ _) tt3 rfl rfl ⟨_, rfl⟩ ?_)
 obtain ⟨s3904, hv⟩ := hv
 refine cL rfl (zZu (k := 79) (fst := []) (caps := []) (ys := [.int _ _, .int _ _]) rfl rfl (spec_rsum (lat (lat b.most v12) f) w s3904) (Wks.cons (zZz _ _ _ _) (Wks.cons (zZz _ _ _ _) (Wks.refl _))) ?_)
 obtain ⟨s3905, hv⟩ := hv
 refine cL rfl (zZu (k := 79) (fst := []) (caps := []) (ys := [.int _ _, .int _ _]) rfl rfl (spec_rsum (zW (lat (lat b.most v12) f) w) (lat (lat b.most t) v14) s3905) (Wks.cons (zZz _ _ _ _) (Wks.cons (zZz _ _ _ _) (Wks.refl _))) (aI rfl rfl (eL (W.tr [(1, .int _ _), (2, .int _ _), (3, .int _ _), (4, .ptr _ _), (8, .ptr _ _), (11, .ptr _ _), (12, .int _ _), (13, .ref _ _ _), (14, .int _ _), (15, .int _ _)] [.box _ [.int _ _, .lst _ _ _], .box _ [.int _ _, .nilS], .box _ [.int _ _, .ref _ _ _], .row _ _ _, .row _ _ _] ⟨rfl, rfl, rfl, rfl, rfl, rfl, rfl, rfl, rfl, rfl, trivial⟩ rfl ?_))))
 obtain ⟨J3, hj, hv⟩ := hv
 refine W.mid1 (fun v15 => ⟨111, look [(1, .int .i64 f), (2, .int .i64 t), (3, .int .i64 w), (4, .ptr 0 0), (8, .ptr 1 0), (11, .ptr 2 0), (12, .int .i64 v12), (13, .ref true 4 r4.length), (14, .int .i64 v14), (15, .int .i64 v15)], [.box 53 [.int .i64 b.n, .lst true b.most.length (zYy (eSl zYx true) b.most)], .box 53 [.int .i64 0, .nilS], .box 53 [.int .i64 b2n, .ref true 3 r3.length], .row 23 1 (zYy (eSl zYx false) r3), .row 3 1 (zYy zYx r4)], 0⟩) J3 ?_ ?_
 intro v15
 intro hv
 replace hv := hj v15 hv
 refine W.rL1 (cL rfl (zZp (v := .ref _ _ _) rfl (mI rfl rfl (cL rfl (o_bs1 (v := .int _ _) (q := 5) tt23 tt3 rfl rfl rfl rfl rfl rfl rfl rfl ?_)))))
 obtain ⟨s3916, hv⟩ := hv
 refine cL rfl (o_apR (p := 6) (q := (r4 ++ [v15]).length) tt23 tt3 rfl rfl (src_ref rfl rfl) rfl rfl (zYr (zZw.wd false) _) (Nat.le_trans (Nat.le_of_eq (@List.length_append _ (r4) ([v15])).symm) s3916) rfl (@List.length_append _ (r4) ([v15])).symm (encL_app zYx r4 [v15]) (cL rfl (zZq (v := .ref _ _ _) rfl (eL (zYq (zZ (W.tr [(1, .int _ _), (2, .int _ _), (3, .int _ _), (4, .ptr _ _), (8, .ptr _ _), (11, .ptr _ _), (12, .int _ _), (13, .ref _ _ _), (14, .int _ _)] [.box _ [.int _ _, .lst _ _ _], .box _ [.int _ _, .nilS], .box _ [.int _ _, .ref _ _ _], .row _ _ _, .dead, .row _ _ _, .row _ _ _] ⟨rfl, rfl, rfl, rfl, rfl, rfl, rfl, rfl, rfl, trivial⟩ rfl (W.rL1 (mI rfl rfl ?_)))))))))
 obtain ⟨s3917, hv⟩ := hv
 refine cL rfl (o_add rfl rfl s3917 (aI rfl rfl (eL (zZ (⟨(), (v14 + 1), (r4 ++ [v15]), hv, St.to_mk (φ := [some 0, some 1, some 2, some 3, some 6]) rfl (rfl) ⟨Ren.int _ _, Ren.int _ _, Ren.int _ _, Ren.ptr rfl, Ren.ptr rfl, Ren.ptr rfl, Ren.int _ _, Ren.ref rfl (fun h => rfl), Ren.int _ _, trivial⟩ ⟨.inr ⟨_, rfl, rfl, Rens.cons (Ren.int _ _) (Rens.cons (Ren.lst _ _ _) (Rens.nil))⟩, .inr ⟨_, rfl, rfl, Rens.cons (Ren.int _ _) (Rens.cons (Ren.nilS) (Rens.nil))⟩, .inr ⟨_, rfl, rfl, Rens.cons (Ren.int _ _) (Rens.cons (Ren.ref rfl (fun h => rfl)) (Rens.nil))⟩, .inr ⟨_, rfl, rfl, rfl, rfl, Rens.enc (encSl zYx) false r3⟩, .inr ⟨_, rfl, rfl, rfl, rfl, Rens.enc zZw false (r4 ++ [v15])⟩, trivial⟩⟩)))))
 clear hj
 obtain ⟨sd, hv⟩ := hv
 refine W.rLm ⟨111, look [(1, .int .i64 f), (2, .int .i64 t), (3, .int .i64 w), (4, .ptr 0 0), (8, .ptr 1 0), (11, .ptr 2 0), (12, .int .i64 v12), (13, .ref true 4 r4.length), (14, .int .i64 v14), (15, .int .i64 (zW (zW (lat (lat b.most v12) f) w) (lat (lat b.most t) v14))), (91, .bool (decide ((zW (zW (lat (lat b.most v12) f) w) (lat (lat b.most t) v14) = 1152921504606846976) \/ ((¬ lat (lat b.most v12) v14 = 1152921504606846976) /\ ((lat (lat b.most v12) v14) <= (zW (zW (lat (lat b.most v12) f) w) (lat (lat b.most t) v14)))))))], [.box 53 [.int .i64 b.n, .lst true b.most.length (zYy (eSl zYx true) b.most)], .box 53 [.int .i64 0, .nilS], .box 53 [.int .i64 b2n, .ref true 3 r3.length], .row 23 1 (zYy (eSl zYx false) r3), .row 3 1 (zYy zYx r4)], 0⟩ ?_ ?_
 refine mI rfl rfl (cL rfl (o_eqI rfl rfl rfl (mB rfl rfl ?_)))
 by_cases c1 : zW (zW (lat (lat b.most v12) f) w) (lat (lat b.most t) v14) = 1152921504606846976
 iterate 10 refine cLs rfl rfl rfl (dT c1) ?_
 iterate 10 refine cLu rfl rfl rfl ?_
 refine cLs rfl rfl rfl (dT c1) (cL rfl (zZv (v := .bool _) rfl (dT c1) rfl (eL (zYz ⟨rfl, rfl, rfl, rfl, rfl, rfl, rfl, rfl, rfl, rfl, (congrArg AV.bool (dOrT c1)).symm, trivial⟩ rfl))))
 have sd := sd.2 c1
 refine cLg rfl rfl (dF c1) (cL rfl (o_fa tt53 rfl tt51 rfl (cLg rfl rfl (dF c1) (cL rfl (zZx (v := .lst _ _ _) tt51 rfl rfl ⟨_, rfl⟩ (cLg rfl rfl (dF c1) (mI rfl rfl (cLg rfl rfl (dF c1) ?_))))))))
 obtain ⟨s3922, sd⟩ := sd
 refine cL rfl (zYp tt51 tt23 rfl rfl ((encSl zYx).wd true) rfl s3922 ?_)
 intro rest3922
 refine cLg rfl rfl (dF c1) (cL rfl (zZx (v := .lst _ _ _) tt23 rfl rfl ⟨_, rfl⟩ (cLg rfl rfl (dF c1) (mI rfl rfl (cLg rfl rfl (dF c1) ?_)))))
 obtain ⟨s3923, sd⟩ := sd
 refine cL rfl (zYp tt23 tt3 rfl rfl (zZw.wd true) rfl s3923 ?_)
 intro rest3923
 refine cLg rfl rfl (dF c1) (cL rfl (zZx (v := .int _ _) tt3 rfl rfl ⟨_, rfl⟩ (cLg rfl rfl (dF c1) (cL rfl (o_neI rfl rfl rfl (cLg rfl rfl (dF c1) (mB rfl rfl ?_)))))))
 by_cases c2 : ¬ lat (lat b.most v12) v14 = 1152921504606846976
 have sd := sd.1 c2
 refine cLg rfl rfl (dT c2) (cL rfl (o_fa tt53 rfl tt51 rfl (cLg rfl rfl (dT c2) (cL rfl (zZx (v := .lst _ _ _) tt51 rfl rfl ⟨_, rfl⟩ (cLg rfl rfl (dT c2) (mI rfl rfl (cLg rfl rfl (dT c2) ?_))))))))
 obtain ⟨s3924, sd⟩ := sd
 refine cL rfl (zYp tt51 tt23 rfl rfl ((encSl zYx).wd true) rfl s3924 ?_)
 intro rest3924
 refine cLg rfl rfl (dT c2) (cL rfl (zZx (v := .lst _ _ _) tt23 rfl rfl ⟨_, rfl⟩ (cLg rfl rfl (dT c2) (mI rfl rfl (cLg rfl rfl (dT c2) ?_)))))
 obtain ⟨s3925, sd⟩ := sd
 refine cL rfl (zYp tt23 tt3 rfl rfl (zZw.wd true) rfl s3925 ?_)
 intro rest3925
 refine cLg rfl rfl (dT c2) (cL rfl (zZx (v := .int _ _) tt3 rfl rfl ⟨_, rfl⟩ (cLg rfl rfl (dT c2) (mI rfl rfl (cLg rfl rfl (dT c2) (cL rfl (o_leq rfl rfl (cLg rfl rfl (dF c1) (cL rfl (zZv (v := .bool _) rfl (dT c2) rfl (cL rfl (zZy (v := .bool _) rfl (dF c1) rfl (eL (zYz ⟨rfl, rfl, rfl, rfl, rfl, rfl, rfl, rfl, rfl, rfl, (congrArg AV.bool (dOrF c1 (zXp c2 (rfl)))).symm, trivial⟩ rfl))))))))))))))
 iterate 10 refine cLs rfl rfl rfl (dF c2) ?_
 refine cLg rfl rfl (dF c1) (cL rfl (zZy (v := .bool _) rfl (dF c2) rfl (cL rfl (zZy (v := .bool _) rfl (dF c1) rfl (eL (zYz ⟨rfl, rfl, rfl, rfl, rfl, rfl, rfl, rfl, rfl, rfl, (congrArg AV.bool (dOrF c1 (dAndF c2))).symm, trivial⟩ rfl))))))
 refine W.cn rfl (fun hc => ?_) (fun hc => ?_)
 have hv := hv.1 hc
 refine W.rL1 (cL rfl (o_fa tt53 rfl tt51 rfl (cL rfl (zZx (v := .lst _ _ _) tt51 rfl rfl ⟨_, rfl⟩ (mI rfl rfl ?_)))))
 obtain ⟨s3926, hv⟩ := hv
 refine cL rfl (zYp tt51 tt23 rfl rfl ((encSl zYx).wd true) rfl s3926 ?_)
 intro rest3926
 refine cL rfl (zZx (v := .lst _ _ _) tt23 rfl rfl ⟨_, rfl⟩ (mI rfl rfl ?_))
 obtain ⟨s3927, hv⟩ := hv
 refine cL rfl (zYp tt23 tt3 rfl rfl (zZw.wd true) rfl s3927 ?_)
 intro rest3927
 refine cL rfl (zZx (v := .int _ _) tt3 rfl rfl ⟨_, rfl⟩ (aI rfl rfl (eL (zZ (⟨(), (lat (lat b.most v12) v14), hv, St.to_mk (φ := [some 0, some 1, some 2, some 3, some 4]) rfl (rfl) ⟨Ren.int _ _, Ren.int _ _, Ren.int _ _, Ren.ptr rfl, Ren.ptr rfl, Ren.ptr rfl, Ren.int _ _, Ren.ref rfl (fun h => rfl), Ren.int _ _, Ren.int _ _, trivial⟩ ⟨.inr ⟨_, rfl, rfl, Rens.cons (Ren.int _ _) (Rens.cons (Ren.lst _ _ _) (Rens.nil))⟩, .inr ⟨_, rfl, rfl, Rens.cons (Ren.int _ _) (Rens.cons (Ren.nilS) (Rens.nil))⟩, .inr ⟨_, rfl, rfl, Rens.cons (Ren.int _ _) (Rens.cons (Ren.ref rfl (fun h => rfl)) (Rens.nil))⟩, .inr ⟨_, rfl, rfl, rfl, rfl, Rens.enc (encSl zYx) false r3⟩, .inr ⟨_, rfl, rfl, rfl, rfl, Rens.enc zZw false r4⟩, trivial⟩⟩)))))
 have hv := hv.2 hc
 refine W.skip (zZ (⟨(), (zW (zW (lat (lat b.most v12) f) w) (lat (lat b.most t) v14)), hv, St.to_mk (φ := [some 0, some 1, some 2, some 3, some 4]) rfl (rfl) ⟨Ren.int _ _, Ren.int _ _, Ren.int _ _, Ren.ptr rfl, Ren.ptr rfl, Ren.ptr rfl, Ren.int _ _, Ren.ref rfl (fun h => rfl), Ren.int _ _, Ren.int _ _, trivial⟩ ⟨.inr ⟨_, rfl, rfl, Rens.cons (Ren.int _ _) (Rens.cons (Ren.lst _ _ _) (Rens.nil))⟩, .inr ⟨_, rfl, rfl, Rens.cons (Ren.int _ _) (Rens.cons (Ren.nilS) (Rens.nil))⟩, .inr ⟨_, rfl, rfl, Rens.cons (Ren.int _ _) (Rens.cons (Ren.ref rfl (fun h => rfl)) (Rens.nil))⟩, .inr ⟨_, rfl, rfl, rfl, rfl, Rens.enc (encSl zYx) false r3⟩, .inr ⟨_, rfl, rfl, rfl, rfl, Rens.enc zZw false r4⟩, trivial⟩⟩))
 have hv := hv.2 hc
 refine W.exit (zZt (zZt (zXy (zZ (W.sealH false 4 (l := [(1, .int .i64 f), (2, .int .i64 t), (3, .int .i64 w), (4, .ptr 0 0), (8, .ptr 1 0), (11, .ptr 2 0), (12, .int .i64 v12), (13, .lst false r4.length (zYy zYx r4)), (14, .int .i64 v14), (42, .int .i64 v14), (43, .ptr 0 0), (44, .int .i64 b.n), (45, .bool (decide (v14 < b.n)))]) rfl (encL_sl zZw false r4) ⟨.inl rfl, .inl rfl, .inl rfl, .inl rfl, .inl rfl, .inl rfl, .inl rfl, .inr ⟨_, _, rfl, (zYr (zZw.wd false) _), rfl⟩, .inl rfl, .inl rfl, .inl rfl, .inl rfl, .inl rfl, trivial⟩ rfl (W.rL1 (cL rfl (o_fa tt53 rfl tt51 rfl (cL rfl (zZx (v := .ref _ _ _) tt51 rfl rfl ⟨_, rfl⟩ (mL rfl rfl (cL rfl (o_bs1 (v := .lst _ _ _) (q := 5) tt51 tt23 rfl rfl rfl rfl rfl rfl rfl rfl ?_)))))))))))))
 obtain ⟨s3928, hv⟩ := hv
 refine cL rfl (o_apR (p := 6) (q := (r3 ++ [r4]).length) tt51 tt23 rfl rfl (src_ref rfl rfl) rfl rfl (zYr ((encSl zYx).wd false) _) (Nat.le_trans (Nat.le_of_eq (@List.length_append _ (r3) ([r4])).symm) s3928) rfl (@List.length_append _ (r3) ([r4])).symm (encL_app (eSl zYx false) r3 [r4]) (cL rfl (o_fa tt53 rfl tt51 rfl (cLn (o_stB (v := .ref _ _ _) (vs := [.ref _ _ _]) (cs2 := [.int _ _, .ref _ _ _]) tt51 rfl rfl rfl rfl rfl (Nat.le_of_ble_eq_true rfl) rfl (eL (zYq (zZ (W.tr [(1, .int _ _), (2, .int _ _), (3, .int _ _), (4, .ptr _ _), (8, .ptr _ _), (11, .ptr _ _), (12, .int _ _)] [.box _ [.int _ _, .lst _ _ _], .box _ [.int _ _, .nilS], .box _ [.int _ _, .ref _ _ _], .dead, .dead, .row _ _ _, .row _ _ _] ⟨rfl, rfl, rfl, rfl, rfl, rfl, rfl, trivial⟩ rfl (W.rL1 (mI rfl rfl ?_)))))))))))
 obtain ⟨s3929, hv⟩ := hv
 refine cL rfl (o_add rfl rfl s3929 (aI rfl rfl (eL (zZ (⟨(), (v12 + 1), b2n, (r3 ++ [r4]), hv, St.to_mk (φ := [some 0, some 1, some 2, some 6]) rfl (rfl) ⟨Ren.int _ _, Ren.int _ _, Ren.int _ _, Ren.ptr rfl, Ren.ptr rfl, Ren.ptr rfl, Ren.int _ _, trivial⟩ ⟨.inr ⟨_, rfl, rfl, Rens.cons (Ren.int _ _) (Rens.cons (Ren.lst _ _ _) (Rens.nil))⟩, .inr ⟨_, rfl, rfl, Rens.cons (Ren.int _ _) (Rens.cons (Ren.nilS) (Rens.nil))⟩, .inr ⟨_, rfl, rfl, Rens.cons (Ren.int _ _) (Rens.cons (Ren.ref rfl (fun h => rfl)) (Rens.nil))⟩, .inr ⟨_, rfl, rfl, rfl, rfl, Rens.enc (encSl zYx) false (r3 ++ [r4])⟩, trivial⟩⟩)))))
 have hv := hv.2 hc
 refine W.exit (zZt (zZt (zXy (zZ (W.rL (cL rfl (zXv (cs := [.int _ _, .ref _ _ _]) tt53 rfl rfl ⟨_, rfl⟩ rfl (cLn (o_stB (v := .agg _) (vs := [.int _ _, .ref _ _ _]) (cs2 := [.int _ _, .ref _ _ _]) tt53 rfl rfl rfl rfl rfl (Nat.le_of_ble_eq_true rfl) rfl (aB rfl rfl (eL (W.tr [(8, .ptr _ _), (9, .bool _)] [.box _ [.int _ _, .lst _ _ _], .box _ [.int _ _, .ref _ _ _], .box _ [.int _ _, .ref _ _ _], .row _ _ _] ⟨rfl, rfl, trivial⟩ rfl (W.ret (rt (rt_c (x := .ptr _ _) rfl (ldA (cs := [.int _ _, .ref _ _ _]) tt53 rfl ⟨_, rfl⟩ rfl (rt_t (v := .bool _) rfl (rt_n (⟨_, rs_tup 5 _ (Wks.cons (rs_agg 4 _ (Wks.cons (zY _ _ _ _) (Wks.cons (rs_ref (encSl zYx) 2 _ rfl rfl) (Wks.refl _)))) (Wks.cons (zXx _ _ _) (Wks.refl _))), (Bd.mk b2n r3), true, rfl, hv⟩)))))))))))))))))))
theorem vcp_rwith (b : Bd) (f : Int) (t : Int) (w : Int) (h0 : WithOk b f t w) : vc_rwith b f t w (fun q0 q1 => q0 = (withM b f t w).1 /\ q1 = (withM b f t w).2) := by
  unfold vc_rwith
  have hnb := hNB
  obtain ⟨⟨hn1, hn2, hn3⟩, hrow, hf, ht, hw, he⟩ := h0
  have hbl : ∀ i : Int, 0 <= i /\ i < b.most.length -> (lat b.most i).length = b.most.length := fun i hi => lat_blen hrow hi
  have heb : ∀ i j : Int, (0 <= i /\ i < b.n) -> (0 <= j /\ j < b.n) -> bm b i.toNat j.toNat = NB \/ (-288230376151711744 <= bm b i.toNat j.toNat /\ bm b i.toNat j.toNat <= 288230376151711744) := fun i j hi hj => he _ _ (by omega) (by omega)
  have hft := hbl f (by omega)
  have htt := hbl t (by omega)
  have e0 := heb t f ht hf
  rw [lat_bm (b := b) ht.1 hf.1]
  refine ⟨by omega, by omega, fun _ _ => by unfold inI; omega, fun k1 => ?_, fun k1 => ?_⟩
  . unfold withM
    rw [if_pos k1]; exact ⟨rfl, rfl⟩
  have hM : withM b f t w = (⟨b.n, (List.range b.n.toNat).map fun i => (List.range b.n.toNat).map fun j => withE b f.toNat t.toNat w i j⟩, true) := by unfold withM; rw [if_neg k1]
  rw [hM]
  refine ⟨fun v q r => ∃ i : Nat, v = i /\ i <= b.n.toNat /\ q = b.n /\ r = (List.range i).map fun i => (List.range b.n.toNat).map fun j => withE b f.toNat t.toNat w i j, fun v _ _ => b.n.toNat - v.toNat, ⟨0, rfl, by omega, rfl, rfl⟩, ?_⟩
  rintro _ _ _ ⟨i, rfl, hi, rfl, rfl⟩
  refine ⟨fun k2 => ⟨fun v r => ∃ j : Nat, v = j /\ j <= b.n.toNat /\ r = (List.range j).map fun j => withE b f.toNat t.toNat w i j, fun v _ => b.n.toNat - v.toNat, ⟨0, rfl, by omega, rfl⟩, ?_⟩, fun k2 => ?_⟩
  . rintro _ _ ⟨j, rfl, hj, rfl⟩
    refine ⟨fun k3 => ?_, fun k3 => ?_⟩
    . have hil := hbl (i : Int) (by omega)
      have e1 := heb (i : Int) f (by omega) hf
      have e2 := heb t (j : Int) ht (by omega)
      have e3 := heb (i : Int) (j : Int) (by omega) (by omega)
      rw [lat_bm (b := b) (i := (i : Int)) (by omega) hf.1, lat_bm (b := b) (i := t) (j := (j : Int)) ht.1 (by omega), lat_bm (b := b) (i := (i : Int)) (j := (j : Int)) (by omega) (by omega)]
      simp only [Int.toNat_natCast] at e1 e2 e3 ⊢
      have hp : zW (bm b i f.toNat) w = NB \/ (-360287970189639680 <= zW (bm b i f.toNat) w /\ zW (bm b i f.toNat) w <= 360287970189639680) := by
        rcases e1 with h | h
        . exact .inl (plusM_inf (.inl h))
        . rw [plusM_nb (by omega) (by omega)]; exact .inr (by omega)
      refine ⟨by omega, by omega, by omega, by omega, fun _ _ => by unfold inI; omega, fun _ _ => by unfold inI; omega, fun v => v = withE b f.toNat t.toNat w i j, fun v hv => ⟨by simp; omega, by unfold inI; omega, ⟨j + 1, by omega, by omega, ?_⟩, by first | omega | (dsimp only; omega)⟩, ⟨fun _ => trivial, fun _ => ⟨by omega, by omega, fun _ => ⟨by omega, by omega, trivial⟩, fun _ => trivial⟩⟩, fun k4 => ⟨by omega, by omega, ?_⟩, fun k4 => ?_⟩
      . rw [hv, List.range_succ, List.map_append]; rfl
      . unfold withE; rw [if_pos k4]
      . unfold withE; rw [if_neg k4]
    . obtain rfl : j = b.n.toNat := by omega
      refine ⟨by simp; omega, by unfold inI; omega, ⟨i + 1, by omega, by omega, rfl, ?_⟩, by first | omega | (dsimp only; omega)⟩
      rw [List.range_succ, List.map_append]; rfl
  . obtain rfl : i = b.n.toNat := by omega
    exact ⟨rfl, rfl⟩
theorem spec_rwith (b : Bd) (f : Int) (t : Int) (w : Int) (h0 : WithOk b f t w) : FnP Try.prog 63 [.agg ((e53 true) b), .int .i64 f, .int .i64 t, .int .i64 w] (fun xR => xR = .tup [.agg ((e53 false) ((withM b f t w).1)), .bool ((withM b f t w).2)]) :=
  (walk_rwith (vcp_rwith b f t w h0)).mono (by rintro _ ⟨_, _, rfl, rfl, rfl⟩; rfl)
def vc_bounded (n : Int) (l : (List Con)) (Post : Bd -> Bool -> Prop) : Prop :=
  (1 <= n /\ n <= 24) /\ ∃ (I1 : Int -> Int -> List (List Int) -> Prop) (μ1 : Int -> Int -> List (List Int) -> Nat), I1 0 ((zYs freeM n).n) ((zYs freeM n).most) /\ ∀ (v7 : Int) (b1n : Int) (b1most : List (List Int)), I1 v7 b1n b1most -> ((v7 < ((l.length : Nat) : Int)) -> (0 <= v7 /\ v7 < (l.length : Int)) /\ (0 <= v7 /\ v7 < (l.length : Int)) /\ (0 <= v7 /\ v7 < (l.length : Int)) /\ (WithOk (Bd.mk b1n b1most) ((lat l v7).f) ((lat l v7).t) ((lat l v7).m)) /\ ((¬ (((withM (Bd.mk b1n b1most) ((lat l v7).f) ((lat l v7).t) ((lat l v7).m)).2) = true)) -> Post (Bd.mk 0 []) false) /\ (¬ (¬ (((withM (Bd.mk b1n b1most) ((lat l v7).f) ((lat l v7).t) ((lat l v7).m)).2) = true)) -> (inI (v7 + 1)) /\ (I1 (v7 + 1) (((withM (Bd.mk b1n b1most) ((lat l v7).f) ((lat l v7).t) ((lat l v7).m)).1).n) (((withM (Bd.mk b1n b1most) ((lat l v7).f) ((lat l v7).t) ((lat l v7).m)).1).most) /\ μ1 (v7 + 1) (((withM (Bd.mk b1n b1most) ((lat l v7).f) ((lat l v7).t) ((lat l v7).m)).1).n) (((withM (Bd.mk b1n b1most) ((lat l v7).f) ((lat l v7).t) ((lat l v7).m)).1).most) < μ1 v7 b1n b1most))) /\ (¬ (v7 < ((l.length : Nat) : Int)) -> Post (Bd.mk b1n b1most) true)
theorem walk_bounded {n : Int} {l : (List Con)} {Post : Bd -> Bool -> Prop} (hv : vc_bounded n l Post) : FnP Try.prog 57 [.int .i64 n, .lst true l.length (zYy e66 l)] (fun x => ∃ q0 q1, x = .tup [.agg ((e53 false) q0), .bool q1] /\ Post q0 q1) := by
 refine FnP.of_walk (T := tt) (nt := 43) ttOk ttMix ⟨⟨Try.f57, Try.func57, rfl, rfl, rfl, rfl⟩⟩ (by simp) ?_
 unfold vc_bounded at hv
 change W _ _ _ ⟨43, look [(0, .int .i64 n), (1, .lst true l.length (zYy e66 l))], [], 0⟩ _
 refine W.rL (cL rfl (zXs (p := 0) tt53 rfl rfl (aB rfl rfl (eL (W.rL (mI rfl rfl ?_))))))
 obtain ⟨s1, hv⟩ := hv
 refine cL rfl (zZu (k := 74) (fst := []) (caps := []) (ys := [.int _ _]) rfl rfl (spec_rfree n s1) (Wks.cons (zZz _ _ _ _) (Wks.refl _)) (cL rfl (zXs (p := 1) tt53 rfl rfl (cLn (o_stB (v := .agg _) (vs := [.int _ _, .lst _ _ _]) (cs2 := [.int _ _, .lst _ _ _]) tt53 rfl rfl rfl rfl rfl (Nat.le_of_ble_eq_true rfl) rfl (eL (W.tr [(1, .lst _ _ _), (4, .ptr _ _), (6, .ptr _ _)] [.box _ [.int _ _, .nilS], .box _ [.int _ _, .lst _ _ _]] ⟨rfl, rfl, rfl, trivial⟩ rfl (W.seq' (W.rL (aI rfl rfl (eL (W.block ?_))))))))))))
 obtain ⟨I1, μ1, hp, hv⟩ := hv
 refine W.loop3 (fun v7 b1n b1most => ⟨43, look [(1, .lst true l.length (zYy e66 l)), (4, .ptr 0 0), (6, .ptr 1 0), (7, .int .i64 v7)], [.box 53 [.int .i64 0, .nilS], .box 53 [.int .i64 b1n, .lst false b1most.length (zYy (eSl zYx true) b1most)]], 0⟩) I1 μ1 0 ((zYs freeM n).n) ((zYs freeM n).most) (St.to_mk (φ := [some 0, some 1]) rfl (rfl) ⟨Ren.lst _ _ _, Ren.ptr rfl, Ren.ptr rfl, Ren.int _ _, trivial⟩ ⟨.inr ⟨_, rfl, rfl, Rens.cons (Ren.int _ _) (Rens.cons (Ren.nilS) (Rens.nil))⟩, .inr ⟨_, rfl, rfl, Rens.cons (Ren.int _ _) (Rens.cons (Ren.lst _ _ _) (Rens.nil))⟩, trivial⟩) hp ?_
 clear hp
 intro v7 b1n b1most hI
 replace hv := hv v7 b1n b1most hI
 clear hI
 refine W.seq' (W.rL (mI rfl rfl (mL rfl rfl (cL rfl (zXq (v := .lst _ _ _) tt28 rfl rfl (cL rfl (zXw rfl rfl (eL (W.cn rfl (fun hc => ?_) (fun hc => ?_))))))))))
 have hv := hv.1 hc
 refine W.skip (zZ (W.seq' (W.block (W.rP [0, 1, 2, 3, 4, 5, 6, 7, 8, 9, 10, 11, 12, 13, 14, 15, 20, 16, 17, 18, 19, 21, 22] (by decide +kernel) rfl (cL rfl (zXv (cs := [.int _ _, .lst _ _ _]) tt53 rfl rfl ⟨_, rfl⟩ rfl (mL rfl rfl (mI rfl rfl ?_))))))))
 obtain ⟨s51, hv⟩ := hv
 refine cL rfl (zYp tt28 tt66 rfl rfl (enc66.wd true) rfl s51 ?_)
 intro rest51
 refine cL rfl (o_faP tt66 rfl tt3 rfl (cL rfl (zZx (v := .int _ _) tt3 rfl rfl ⟨_, rfl⟩ (mL rfl rfl (mI rfl rfl ?_)))))
 obtain ⟨s52, hv⟩ := hv
 refine cL rfl (zYp tt28 tt66 rfl rfl (enc66.wd true) rfl s52 ?_)
 intro rest52
 refine cL rfl (o_faP tt66 rfl tt3 rfl (cL rfl (zZx (v := .int _ _) tt3 rfl rfl ⟨_, rfl⟩ (mL rfl rfl (mI rfl rfl ?_)))))
 obtain ⟨s53, hv⟩ := hv
 refine cL rfl (zYp tt28 tt66 rfl rfl (enc66.wd true) rfl s53 ?_)
 intro rest53
 refine cL rfl (o_faP tt66 rfl tt3 rfl (cL rfl (zZx (v := .int _ _) tt3 rfl rfl ⟨_, rfl⟩ (cL rfl (zXs (p := 2) tt53 rfl rfl ?_)))))
 obtain ⟨s54, hv⟩ := hv
 refine cL rfl (zZu (k := 63) (fst := []) (caps := []) (ys := [.agg _, .int _ _, .int _ _, .int _ _]) rfl rfl (spec_rwith (Bd.mk b1n b1most) ((lat l v7).f) ((lat l v7).t) ((lat l v7).m) s54) (Wks.cons (zXr 5 _ (Wks.cons (zZz _ _ _ _) (Wks.cons (zZs _ _ _ _ _) (Wks.refl _)))) (Wks.cons (zZz _ _ _ _) (Wks.cons (zZz _ _ _ _) (Wks.cons (zZz _ _ _ _) (Wks.refl _))))) (cL rfl (zZp (v := .tup _) rfl (cL rfl (o_ext (v := .agg _) rfl rfl (cL rfl (o_ext (v := .bool _) rfl rfl (cLn (o_stB (v := .agg _) (vs := [.int _ _, .lst _ _ _]) (cs2 := [.int _ _, .lst _ _ _]) tt53 rfl rfl rfl rfl rfl (Nat.le_of_ble_eq_true rfl) rfl (aB rfl rfl (eL (W.tr [(1, .lst _ _ _), (4, .ptr _ _), (6, .ptr _ _), (7, .int _ _), (8, .ptr _ _), (9, .bool _)] [.box _ [.int _ _, .nilS], .box _ [.int _ _, .lst _ _ _], .box _ [.int _ _, .lst _ _ _]] ⟨rfl, rfl, rfl, rfl, rfl, rfl, trivial⟩ rfl (W.seq' (W.rL (mB rfl rfl (cL rfl (o_notB rfl (eL (W.cn rfl (fun hc => ?_) (fun hc => ?_))))))))))))))))))))
 have hv := hv.1 hc
 refine W.rL (cL rfl (o_build (qs := []) (cs := [.int _ _, .nilS]) tt53 rfl rfl rfl (cLn (o_stB (v := .agg _) (vs := [.int _ _, .nilS]) (cs2 := [.int _ _, .nilS]) tt53 rfl rfl rfl rfl rfl (Nat.le_of_ble_eq_true rfl) rfl (aB rfl rfl (eL (W.tr [(4, .ptr _ _), (5, .bool _)] [.box _ [.int _ _, .nilS], .box _ [.int _ _, .lst _ _ _], .box _ [.int _ _, .lst _ _ _]] ⟨rfl, rfl, trivial⟩ rfl (W.ret (zZr (zXz (zZr (zZr (zXz (zZr (rt (rt_c (x := .ptr _ _) rfl (ldA (cs := [.int _ _, .nilS]) tt53 rfl ⟨_, rfl⟩ rfl (rt_t (v := .bool _) rfl (rt_n (⟨_, rs_tup 5 _ (Wks.cons (rs_agg 4 _ (Wks.cons (zY _ _ _ _) (Wks.cons (rs_nil _ _ _ _ rfl) (Wks.refl _)))) (Wks.cons (zXx _ _ _) (Wks.refl _))), (Bd.mk 0 []), false, rfl, hv⟩))))))))))))))))))))
 have hv := hv.2 hc
 refine W.skip (zZ (W.rL1 (cL rfl (zXv (cs := [.int _ _, .lst _ _ _]) tt53 rfl rfl ⟨_, rfl⟩ rfl (cLn (o_stB (v := .agg _) (vs := [.int _ _, .lst _ _ _]) (cs2 := [.int _ _, .lst _ _ _]) tt53 rfl rfl rfl rfl rfl (Nat.le_of_ble_eq_true rfl) rfl (eL (zYq (zZ (W.tr [(1, .lst _ _ _), (4, .ptr _ _), (6, .ptr _ _), (7, .int _ _)] [.box _ [.int _ _, .nilS], .box _ [.int _ _, .lst _ _ _], .box _ [.int _ _, .lst _ _ _]] ⟨rfl, rfl, rfl, rfl, trivial⟩ rfl (W.rL1 (mI rfl rfl ?_))))))))))))
 obtain ⟨s55, hv⟩ := hv
 refine cL rfl (o_add rfl rfl s55 (aI rfl rfl (eL (zZ (⟨(), (v7 + 1), (((withM (Bd.mk b1n b1most) ((lat l v7).f) ((lat l v7).t) ((lat l v7).m)).1).n), (((withM (Bd.mk b1n b1most) ((lat l v7).f) ((lat l v7).t) ((lat l v7).m)).1).most), hv, St.to_mk (φ := [some 0, some 1]) rfl (rfl) ⟨Ren.lst _ _ _, Ren.ptr rfl, Ren.ptr rfl, Ren.int _ _, trivial⟩ ⟨.inr ⟨_, rfl, rfl, Rens.cons (Ren.int _ _) (Rens.cons (Ren.nilS) (Rens.nil))⟩, .inr ⟨_, rfl, rfl, Rens.cons (Ren.int _ _) (Rens.cons (Ren.lst _ _ _) (Rens.nil))⟩, trivial⟩⟩)))))
 have hv := hv.2 hc
 refine W.exit (zZt (zZt (zXy (zZ (W.rL (cL rfl (zXv (cs := [.int _ _, .lst _ _ _]) tt53 rfl rfl ⟨_, rfl⟩ rfl (cLn (o_stB (v := .agg _) (vs := [.int _ _, .lst _ _ _]) (cs2 := [.int _ _, .lst _ _ _]) tt53 rfl rfl rfl rfl rfl (Nat.le_of_ble_eq_true rfl) rfl (aB rfl rfl (eL (W.tr [(4, .ptr _ _), (5, .bool _)] [.box _ [.int _ _, .lst _ _ _], .box _ [.int _ _, .lst _ _ _]] ⟨rfl, rfl, trivial⟩ rfl (W.ret (rt (rt_c (x := .ptr _ _) rfl (ldA (cs := [.int _ _, .lst _ _ _]) tt53 rfl ⟨_, rfl⟩ rfl (rt_t (v := .bool _) rfl (rt_n (⟨_, rs_tup 5 _ (Wks.cons (rs_agg 4 _ (Wks.cons (zY _ _ _ _) (Wks.cons (rs_lst _ _ _ _) (Wks.refl _)))) (Wks.cons (zXx _ _ _) (Wks.refl _))), (Bd.mk b1n b1most), true, rfl, hv⟩)))))))))))))))))))
theorem vcp_bounded (n : Int) (l : (List Con)) (h0 : validM n l = true) : vc_bounded n l (fun q0 q1 => q0 = (boundedM n l).1 /\ q1 = (boundedM n l).2) := by
  unfold vc_bounded
  have hnb := hNB
  have hb0 := hB0
  have hv := h0
  obtain ⟨⟨hn1, hn2, hl2⟩, hp⟩ := validM_iff.mp hv
  have hg := validM_good hv
  have htk : ∀ k : Nat, Good 24 (l.take k) := fun k c hc => hg c (List.mem_of_mem_take hc)
  refine ⟨⟨hn1, hn2⟩, fun v q r => ∃ (k : Nat) (m : Vector Int 576), v = k /\ k <= l.length /\ (⟨q, r⟩ : Bd) = zYs m n /\ CM m (l.take k) /\ addAll freeM l = addAll m (l.drop k), fun v _ _ => l.length - v.toNat, ⟨0, freeM, rfl, by omega, rfl, by simpa using CM.free, rfl⟩, ?_⟩
  rintro _ q r ⟨k, m, rfl, hk, hqr, hc, ha⟩
  refine ⟨fun k1 => ?_, fun k1 => ?_⟩
  . have hcm := lat_mem (xs := l) (i := (k : Int)) ⟨by omega, by omega⟩
    obtain ⟨c1, c2, c3, c4, -, c5, c6, -⟩ := possM_iff.mp (hp _ hcm)
    have hdrop : l.drop k = lat l (k : Int) :: l.drop (k + 1) := by rw [lat_get (by omega)]; exact List.drop_eq_getElem_cons (by omega)
    have htake : l.take (k + 1) = l.take k ++ [lat l (k : Int)] := take_succ_lat (by omega)
    have hone : Good 24 [lat l (k : Int)] := fun c hc => by rw [List.mem_singleton] at hc; rw [hc]; exact hg _ hcm
    rw [hqr]
    generalize lat l (k : Int) = c at hdrop htake hone c1 c2 c3 c4 c5 c6 ⊢
    have hwb := with_bounds hc.cl (by omega) (n := n) ⟨hn1, hn2⟩ (f := c.f.toNat) (t := c.t.toNat) (w := c.m) (by omega) (by omega) (by omega)
    rw [show ((c.f.toNat : Nat) : Int) = c.f by omega, show ((c.t.toNat : Nat) : Int) = c.t by omega] at hwb
    rw [hwb]
    rw [hdrop, addAll_cons] at ha
    refine ⟨by omega, by omega, by omega, bounds_wok hc.cl (by omega) ⟨hn1, hn2⟩ ⟨c1, c2⟩ ⟨c3, c4⟩ (by omega), fun k2 => ?_, fun k2 => ⟨by unfold inI; omega, ?_, ?_⟩⟩
    . have k3 : ¬ (addM m c.f c.t c.m).1 = true := fun e => by rw [if_pos e] at k2; exact k2 rfl
      rw [if_neg k3] at ha
      show _ /\ _
      unfold boundedM
      rw [close_none hv ha, if_neg (show ¬ (70 : Int) = 0 by omega)]
      exact ⟨rfl, rfl⟩
    . have k3 : (addM m c.f c.t c.m).1 = true := by
        rcases Classical.em ((addM m c.f c.t c.m).1 = true) with e | e
        . exact e
        . rw [if_neg e] at k2; exact (k2 (by simp)).elim
      rw [if_pos k3] at ha ⊢
      exact ⟨k + 1, _, by omega, by omega, rfl, by rw [htake]; exact hc.step (htk k) hone k3, ha⟩
    . first | omega | (dsimp only; omega)
  . obtain rfl : k = l.length := by omega
    rw [List.drop_length] at ha
    show _ /\ _
    unfold boundedM
    rw [close_some hv ha, if_pos rfl, hqr]; exact ⟨rfl, rfl⟩
theorem spec_bounded (n : Int) (l : (List Con)) (h0 : validM n l = true) : FnP Try.prog 57 [.int .i64 n, .lst true l.length (zYy e66 l)] (fun xR => xR = .tup [.agg ((e53 false) ((boundedM n l).1)), .bool ((boundedM n l).2)]) :=
  (walk_bounded (vcp_bounded n l h0)).mono (by rintro _ ⟨_, _, rfl, rfl, rfl⟩; rfl)
def vc_rchoices (f : Flt) (n : Int) (l : (List Con)) (Post : (List Int) -> (List Bd) -> Int -> Prop) : Prop :=
  (f.dr.length <= 9223372036854775807) /\ (f.sv.length <= 9223372036854775807) /\ (f.tm.length <= 9223372036854775807) /\ (l.length <= 1073741824) /\ ((¬ ((zX f n l) = true)) -> Post [] [] 2) /\ (¬ (¬ ((zX f n l) = true)) -> ∃ (I1 : Int -> List Int -> List Bd -> Prop) (μ1 : Int -> List Int -> List Bd -> Nat), I1 0 [] [] /\ ∀ (v11 : Int) (r1 : List Int) (r2 : List Bd), I1 v11 r1 r2 -> (0 <= ((f.dr.length : Nat) : Int)) /\ (inI (1 * 2 ^ (min ((f.dr.length : Nat) : Int).toNat 64))) /\ ((v11 < (1 * 2 ^ (min ((f.dr.length : Nat) : Int).toNat 64))) -> ∃ J2 : List Int -> List Bd -> Prop, (∀ (r1_1 : List Int) (r2_1 : List Bd), J2 r1_1 r2_1 -> (inI (v11 + 1)) /\ (I1 (v11 + 1) r1_1 r2_1 /\ μ1 (v11 + 1) r1_1 r2_1 < μ1 v11 r1 r2)) /\ ((inI (((f.dr.length : Nat) : Int) - f.li)) /\ (0 <= v11 /\ v11 < 64) /\ ((¬ pcM v11 = (((f.dr.length : Nat) : Int) - f.li)) -> J2 r1 r2) /\ (¬ (¬ pcM v11 = (((f.dr.length : Nat) : Int) - f.li)) -> (l.length <= 1073741824) /\ ((∀ c ∈ l, inI c.a) /\ inI v11) /\ (validM n (partM l v11) = true) /\ ((((boundedM n (partM l v11)).2) = true) -> ((r1 ++ [v11]).length <= 1073741824) /\ ((r2 ++ [(boundedM n (partM l v11)).1]).length <= 1073741824) /\ J2 (r1 ++ [v11]) (r2 ++ [(boundedM n (partM l v11)).1])) /\ (¬ (((boundedM n (partM l v11)).2) = true) -> J2 r1 r2)))) /\ (¬ (v11 < (1 * 2 ^ (min ((f.dr.length : Nat) : Int).toNat 64))) -> ((((r1.length : Nat) : Int) = 0) -> Post [] [] 100) /\ (¬ (((r1.length : Nat) : Int) = 0) -> Post r1 r2 0)))
theorem walk_rchoices {f : Flt} {n : Int} {l : (List Con)} {Post : (List Int) -> (List Bd) -> Int -> Prop} (hv : vc_rchoices f n l Post) : FnP Try.prog 36 [.agg ((e27 true) f), .int .i64 n, .lst true l.length (zYy e66 l)] (fun x => ∃ q0 q1 q2, x = .tup [.lst false q0.length (zYy zYx q0), .lst false q1.length (zYy (e53 true) q1), .int .i64 q2] /\ Post q0 q1 q2) := by
 refine FnP.of_walk (T := tt) (nt := 58) ttOk ttMix ⟨⟨Try.f36, Try.func36, rfl, rfl, rfl, rfl⟩⟩ (by simp) ?_
 unfold vc_rchoices at hv
 change W _ _ _ ⟨58, look [(0, .agg [.lst true f.dr.length (zYy zYx f.dr), .int .i64 f.la, .int .i64 f.li, .lst true f.sv.length (zYy zYx f.sv), .lst true f.tm.length (zYy zYx f.tm)]), (1, .int .i64 n), (2, .lst true l.length (zYy e66 l))], [], 0⟩ _
 refine W.rL (cL rfl (o_box (v := .agg _) (p := 0) rfl rfl rfl ?_))
 iterate 2 refine cL rfl (zZq (v := .nilS) rfl ?_)
 refine aI rfl rfl (eL (W.tr [(1, .int _ _), (2, .lst _ _ _), (3, .ptr _ _)] [.box _ [.lst _ _ _, .int _ _, .int _ _, .lst _ _ _, .lst _ _ _]] ⟨rfl, rfl, rfl, trivial⟩ rfl (W.seq' (W.rL (cL rfl (zXv (cs := [.lst _ _ _, .int _ _, .int _ _, .lst _ _ _, .lst _ _ _]) tt27 rfl rfl ⟨_, rfl⟩ rfl (mI rfl rfl (mL rfl rfl ?_))))))))
 obtain ⟨s5, s6, s7, s8, hv⟩ := hv
 refine cL rfl (zZu (k := 39) (fst := []) (caps := []) (ys := [.agg _, .int _ _, .lst _ _ _]) rfl rfl (spec_r10valid f n l s5 s6 s7 s8) (Wks.cons (zXr 5 _ (Wks.cons (zZs _ _ _ _ _) (Wks.cons (zZz _ _ _ _) (Wks.cons (zZz _ _ _ _) (Wks.cons (zZs _ _ _ _ _) (Wks.cons (zZs _ _ _ _ _) (Wks.refl _))))))) (Wks.cons (zZz _ _ _ _) (Wks.cons (zZs _ _ _ _ _) (Wks.refl _)))) (cL rfl (o_notB rfl (eL (W.tr [(1, .int _ _), (2, .lst _ _ _), (3, .ptr _ _), (18, .bool _)] [.box _ [.lst _ _ _, .int _ _, .int _ _, .lst _ _ _, .lst _ _ _]] ⟨rfl, rfl, rfl, rfl, trivial⟩ rfl (W.cn rfl (fun hc => ?_) (fun hc => ?_)))))))
 have hv := hv.1 hc
 refine W.rL ?_
 iterate 2 refine cL rfl (zZq (v := .nilS) rfl ?_)
 refine aI rfl rfl (eL (W.ret (zZr (rt ?_))))
 iterate 2 refine rt_t (v := .nilS) rfl ?_
 refine rt_t (v := .int _ _) rfl (rt_n (⟨_, rs_tup 5 _ (Wks.cons (rs_nil _ _ _ _ rfl) (Wks.cons (rs_nil _ _ _ _ rfl) (Wks.cons (zY _ _ _ _) (Wks.refl _)))), [], [], 2, rfl, hv⟩))
 have hv := hv.2 hc
 refine W.skip (zZ (W.rL (cL rfl (zZq (v := .nilS) rfl (eL (W.rL (cL rfl (zZq (v := .nilS) rfl (eL (W.seq' (W.rL (aI rfl rfl (eL (W.block ?_))))))))))))))
 obtain ⟨I1, μ1, hp, hv⟩ := hv
 refine W.loop3 (fun v11 r1 r2 => ⟨58, look [(1, .int .i64 n), (2, .lst true l.length (zYy e66 l)), (3, .ptr 0 0), (9, .ref true 1 r1.length), (10, .ref true 2 r2.length), (11, .int .i64 v11)], [.box 27 [.lst true f.dr.length (zYy zYx f.dr), .int .i64 f.la, .int .i64 f.li, .lst true f.sv.length (zYy zYx f.sv), .lst true f.tm.length (zYy zYx f.tm)], .row 3 1 (zYy zYx r1), .row 53 2 (zYy (e53 false) r2)], 0⟩) I1 μ1 0 [] [] (St.to_mk (φ := [some 0, none, none]) rfl (rfl) ⟨Ren.int _ _, Ren.lst _ _ _, Ren.ptr rfl, Ren.nilR rfl rfl, Ren.nilR rfl rfl, Ren.int _ _, trivial⟩ ⟨.inr ⟨_, rfl, rfl, Rens.cons (Ren.lst _ _ _) (Rens.cons (Ren.int _ _) (Rens.cons (Ren.int _ _) (Rens.cons (Ren.lst _ _ _) (Rens.cons (Ren.lst _ _ _) (Rens.nil)))))⟩, rfl, rfl, trivial⟩) hp ?_
 clear hp
 intro v11 r1 r2 hI
 replace hv := hv v11 r1 r2 hI
 clear hI
 refine W.seq' (W.rL (mI rfl rfl (cL rfl (o_fa tt27 rfl tt23 rfl (cL rfl (zZx (v := .lst _ _ _) tt23 rfl rfl ⟨_, rfl⟩ (cL rfl (zXq (v := .lst _ _ _) tt23 rfl rfl ?_))))))))
 obtain ⟨s118, s119, hv⟩ := hv
 refine cL rfl (o_shl rfl rfl s118 s119 (cL rfl (zXw rfl rfl (eL (W.cn rfl (fun hc => ?_) (fun hc => ?_))))))
 have hv := hv.1 hc
 refine W.skip (zZ ?_)
 obtain ⟨J2, hj, hv⟩ := hv
 refine W.mid2 (fun r1_1 r2_1 => ⟨58, look [(1, .int .i64 n), (2, .lst true l.length (zYy e66 l)), (3, .ptr 0 0), (9, .ref true 1 r1_1.length), (10, .ref true 2 r2_1.length), (11, .int .i64 v11)], [.box 27 [.lst true f.dr.length (zYy zYx f.dr), .int .i64 f.la, .int .i64 f.li, .lst true f.sv.length (zYy zYx f.sv), .lst true f.tm.length (zYy zYx f.tm)], .row 3 1 (zYy zYx r1_1), .row 53 2 (zYy (e53 false) r2_1)], 0⟩) J2 ?_ ?_
 intro r1_1 r2_1
 intro hv
 replace hv := hj r1_1 r2_1 hv
 refine W.rL1 (mI rfl rfl ?_)
 obtain ⟨s129, hv⟩ := hv
 refine cL rfl (o_add rfl rfl s129 (aI rfl rfl (eL (zZ (⟨(), (v11 + 1), r1_1, r2_1, hv, St.to_mk (φ := [some 0, some 1, some 2]) rfl (rfl) ⟨Ren.int _ _, Ren.lst _ _ _, Ren.ptr rfl, Ren.ref rfl (fun h => rfl), Ren.ref rfl (fun h => rfl), Ren.int _ _, trivial⟩ ⟨.inr ⟨_, rfl, rfl, Rens.cons (Ren.lst _ _ _) (Rens.cons (Ren.int _ _) (Rens.cons (Ren.int _ _) (Rens.cons (Ren.lst _ _ _) (Rens.cons (Ren.lst _ _ _) (Rens.nil)))))⟩, .inr ⟨_, rfl, rfl, rfl, rfl, Rens.enc zZw false r1_1⟩, .inr ⟨_, rfl, rfl, rfl, rfl, Rens.enc enc53 false r2_1⟩, trivial⟩⟩)))))
 clear hj
 refine W.block (W.seq' (W.rP [0, 2, 3, 4, 5, 6, 7, 1, 8] (by decide +kernel) rfl (mI rfl rfl (cL rfl (o_fa tt27 rfl tt23 rfl (cL rfl (zZx (v := .lst _ _ _) tt23 rfl rfl ⟨_, rfl⟩ (cL rfl (zXq (v := .lst _ _ _) tt23 rfl rfl (cL rfl (o_fa tt27 rfl tt3 rfl (cL rfl (zZx (v := .int _ _) tt3 rfl rfl ⟨_, rfl⟩ ?_)))))))))))))
 obtain ⟨s132, hv⟩ := hv
 refine cL rfl (o_sub rfl rfl s132 ?_)
 obtain ⟨s133, hv⟩ := hv
 refine cL rfl (zZu (k := 30) (fst := []) (caps := []) (ys := [.int _ _]) rfl rfl (spec_members v11 s133) (Wks.cons (zZz _ _ _ _) (Wks.refl _)) (cL rfl (o_neI rfl rfl rfl (eL (W.cn rfl (fun hc => ?_) (fun hc => ?_))))))
 have hv := hv.1 hc
 refine W.exit (zZt (zXy (zZ (⟨(), r1, r2, hv, St.to_mk (φ := [some 0, some 1, some 2]) rfl (rfl) ⟨Ren.int _ _, Ren.lst _ _ _, Ren.ptr rfl, Ren.ref rfl (fun h => rfl), Ren.ref rfl (fun h => rfl), Ren.int _ _, trivial⟩ ⟨.inr ⟨_, rfl, rfl, Rens.cons (Ren.lst _ _ _) (Rens.cons (Ren.int _ _) (Rens.cons (Ren.int _ _) (Rens.cons (Ren.lst _ _ _) (Rens.cons (Ren.lst _ _ _) (Rens.nil)))))⟩, .inr ⟨_, rfl, rfl, rfl, rfl, Rens.enc zZw false r1⟩, .inr ⟨_, rfl, rfl, rfl, rfl, Rens.enc enc53 false r2⟩, trivial⟩⟩))))
 have hv := hv.2 hc
 refine W.skip (zZ (W.rL (mI rfl rfl (mL rfl rfl (mI rfl rfl ?_)))))
 obtain ⟨s134, s135, hv⟩ := hv
 refine cL rfl (zZu (k := 20) (fst := []) (caps := []) (ys := [.lst _ _ _, .int _ _]) rfl rfl (spec_rpart l v11 s134 s135) (Wks.cons (zZs _ _ _ _ _) (Wks.cons (zZz _ _ _ _) (Wks.refl _))) ?_)
 obtain ⟨s136, hv⟩ := hv
 refine cL rfl (zZu (k := 57) (fst := []) (caps := []) (ys := [.int _ _, .lst _ _ _]) rfl rfl (spec_bounded n (partM l v11) s136) (Wks.cons (zZz _ _ _ _) (Wks.cons (zZs _ _ _ _ _) (Wks.refl _))) (cL rfl (zZp (v := .tup _) rfl (cL rfl (o_ext (v := .agg _) rfl rfl (cL rfl (o_ext (v := .bool _) rfl rfl (cL rfl (zXs (p := 3) tt53 rfl rfl (cLn (o_stB (v := .agg _) (vs := [.int _ _, .lst _ _ _]) (cs2 := [.int _ _, .lst _ _ _]) tt53 rfl rfl rfl rfl rfl (Nat.le_of_ble_eq_true rfl) rfl (aB rfl rfl (eL (W.tr [(1, .int _ _), (2, .lst _ _ _), (3, .ptr _ _), (9, .ref _ _ _), (10, .ref _ _ _), (11, .int _ _), (12, .ptr _ _), (13, .bool _)] [.box _ [.lst _ _ _, .int _ _, .int _ _, .lst _ _ _, .lst _ _ _], .row _ _ _, .row _ _ _, .box _ [.int _ _, .lst _ _ _]] ⟨rfl, rfl, rfl, rfl, rfl, rfl, rfl, rfl, trivial⟩ rfl (W.rL (mB rfl rfl (eL (W.cb rfl (fun hc => ?_) (fun hc => ?_)))))))))))))))))))
 have hv := hv.1 hc
 refine W.rL (cL rfl (zZp (v := .ref _ _ _) rfl (mI rfl rfl (cL rfl (o_bs1 (v := .int _ _) (q := 4) tt23 tt3 rfl rfl rfl rfl rfl rfl rfl rfl ?_)))))
 obtain ⟨s137, hv⟩ := hv
 refine cL rfl (o_apR (p := 5) (q := (r1 ++ [v11]).length) tt23 tt3 rfl rfl (src_ref rfl rfl) rfl rfl (zYr (zZw.wd false) _) (Nat.le_trans (Nat.le_of_eq (@List.length_append _ (r1) ([v11])).symm) s137) rfl (@List.length_append _ (r1) ([v11])).symm (encL_app zYx r1 [v11]) (cL rfl (zZq (v := .ref _ _ _) rfl (eL (W.tr [(1, .int _ _), (2, .lst _ _ _), (3, .ptr _ _), (9, .ref _ _ _), (10, .ref _ _ _), (11, .int _ _), (12, .ptr _ _)] [.box _ [.lst _ _ _, .int _ _, .int _ _, .lst _ _ _, .lst _ _ _], .dead, .row _ _ _, .box _ [.int _ _, .lst _ _ _], .row _ _ _, .row _ _ _] ⟨rfl, rfl, rfl, rfl, rfl, rfl, rfl, trivial⟩ rfl (W.rL1 (cL rfl (zZp (v := .ref _ _ _) rfl (cL rfl (zXv (cs := [.int _ _, .lst _ _ _]) tt53 rfl rfl ⟨_, rfl⟩ rfl (cL rfl (o_bs1 (v := .agg _) (q := 6) tt76 tt53 rfl rfl rfl rfl rfl rfl rfl rfl ?_))))))))))))
 obtain ⟨s138, hv⟩ := hv
 refine cL rfl (o_apR (p := 7) (q := (r2 ++ [(boundedM n (partM l v11)).1]).length) tt76 tt53 rfl rfl (src_ref rfl rfl) rfl rfl (zYr (enc53.wd false) _) (Nat.le_trans (Nat.le_of_eq (@List.length_append _ (r2) ([(boundedM n (partM l v11)).1])).symm) s138) rfl (@List.length_append _ (r2) ([(boundedM n (partM l v11)).1])).symm (encL_app (e53 false) r2 [(boundedM n (partM l v11)).1]) (cL rfl (zZq (v := .ref _ _ _) rfl (eL (zYq (zZ (⟨(), (r1 ++ [v11]), (r2 ++ [(boundedM n (partM l v11)).1]), hv, St.to_mk (φ := [some 0, some 5, some 7]) rfl (rfl) ⟨Ren.int _ _, Ren.lst _ _ _, Ren.ptr rfl, Ren.ref rfl (fun h => rfl), Ren.ref rfl (fun h => rfl), Ren.int _ _, trivial⟩ ⟨.inr ⟨_, rfl, rfl, Rens.cons (Ren.lst _ _ _) (Rens.cons (Ren.int _ _) (Rens.cons (Ren.int _ _) (Rens.cons (Ren.lst _ _ _) (Rens.cons (Ren.lst _ _ _) (Rens.nil)))))⟩, .inr ⟨_, rfl, rfl, rfl, rfl, Rens.enc zZw false (r1 ++ [v11])⟩, .inr ⟨_, rfl, rfl, rfl, rfl, Rens.enc enc53 false (r2 ++ [(boundedM n (partM l v11)).1])⟩, trivial⟩⟩)))))))
 have hv := hv.2 hc
 refine W.skip (zYq (zZ (⟨(), r1, r2, hv, St.to_mk (φ := [some 0, some 1, some 2]) rfl (rfl) ⟨Ren.int _ _, Ren.lst _ _ _, Ren.ptr rfl, Ren.ref rfl (fun h => rfl), Ren.ref rfl (fun h => rfl), Ren.int _ _, trivial⟩ ⟨.inr ⟨_, rfl, rfl, Rens.cons (Ren.lst _ _ _) (Rens.cons (Ren.int _ _) (Rens.cons (Ren.int _ _) (Rens.cons (Ren.lst _ _ _) (Rens.cons (Ren.lst _ _ _) (Rens.nil)))))⟩, .inr ⟨_, rfl, rfl, rfl, rfl, Rens.enc zZw false r1⟩, .inr ⟨_, rfl, rfl, rfl, rfl, Rens.enc enc53 false r2⟩, trivial⟩⟩)))
 have hv := hv.2 hc
 refine W.exit (zZt (zZt (zXy (zZ (W.seq' (W.rL (cL rfl (zZp (v := .ref _ _ _) rfl (cL rfl (zXq (v := .ref _ _ _) tt23 rfl rfl (cL rfl (o_eqI rfl rfl rfl (eL (W.tr [(9, .ref _ _ _), (10, .ref _ _ _), (55, .bool _)] [.box _ [.lst _ _ _, .int _ _, .int _ _, .lst _ _ _, .lst _ _ _], .row _ _ _, .row _ _ _] ⟨rfl, rfl, rfl, trivial⟩ rfl (W.cn rfl (fun hc => ?_) (fun hc => ?_))))))))))))))))
 have hv := hv.1 hc
 refine W.rL ?_
 iterate 2 refine cL rfl (zZq (v := .nilS) rfl ?_)
 refine aI rfl rfl (eL (W.tr [(6, .nilS), (7, .nilS), (8, .int _ _)] [.box _ [.lst _ _ _, .int _ _, .int _ _, .lst _ _ _, .lst _ _ _], .row _ _ _, .row _ _ _] ⟨rfl, rfl, rfl, trivial⟩ rfl (W.ret (zZr (rt ?_)))))
 iterate 2 refine rt_t (v := .nilS) rfl ?_
 refine rt_t (v := .int _ _) rfl (rt_n (⟨_, rs_tup 5 _ (Wks.cons (rs_nil _ _ _ _ rfl) (Wks.cons (rs_nil _ _ _ _ rfl) (Wks.cons (zY _ _ _ _) (Wks.refl _)))), [], [], 100, rfl, hv⟩))
 have hv := hv.2 hc
 refine W.skip (zZ (W.rL ?_))
 iterate 2 refine cL rfl (zZp (v := .ref _ _ _) rfl ?_)
 iterate 2 refine cL rfl (zZq (v := .ref _ _ _) rfl ?_)
 refine aI rfl rfl (eL (W.tr [(6, .ref _ _ _), (7, .ref _ _ _), (8, .int _ _)] [.box _ [.lst _ _ _, .int _ _, .int _ _, .lst _ _ _, .lst _ _ _], .row _ _ _, .row _ _ _] ⟨rfl, rfl, rfl, trivial⟩ rfl (W.ret (rt ?_))))
 iterate 2 refine rt_t (v := .ref _ _ _) rfl ?_
 refine rt_t (v := .int _ _) rfl (rt_n (⟨_, rs_tup 5 _ (Wks.cons (rs_ref zZw 3 _ rfl rfl) (Wks.cons (rs_ref enc53 3 _ rfl rfl) (Wks.cons (zY _ _ _ _) (Wks.refl _)))), r1, r2, 0, rfl, hv⟩))
theorem vcp_rchoices (f : Flt) (n : Int) (l : (List Con)) (h0 : f.dr.length <= 9223372036854775807) (h1 : f.sv.length <= 9223372036854775807) (h2 : f.tm.length <= 9223372036854775807) (h3 : l.length <= 1073741824) (h4 : ∀ c ∈ l, inI c.a) : vc_rchoices f n l (fun q0 q1 q2 => q0 = (zYu f n l).1 /\ q1 = (zYu f n l).2.1 /\ q2 = (zYu f n l).2.2) := by
  unfold vc_rchoices
  refine ⟨h0, h1, h2, h3, fun h => ?_, fun h => ?_⟩
  . have e : zYu f n l = ([], [], 2) := by unfold zYu; rw [if_neg h]
    show _ /\ _ /\ _
    rw [e]; exact ⟨rfl, rfl, rfl⟩
  . have hb := Classical.not_not.1 h
    have hbk := bvalid_ok hb
    have hli := hbk.fo.li
    have hdl := hbk.fo.len
    have h64 := pow_le64 hbk.fo.len.2
    have e : zYu f n l = if zYw f n l = [] then ([], [], 100) else ((zYw f n l).map (·.s), (zYw f n l).map (·.b), 0) := by unfold zYu; rw [if_pos hb]
    have hch : zYw f n l = prefC f n l (2 ^ f.dr.length) := by unfold zYw prefC; rfl
    rw [pow_eq hbk.fo.len.2]
    have hpl : ∀ k : Nat, (prefC f n l k).length <= k := fun k => by
      have h1 := List.length_filterMap_le (fun (s : Nat) => choice1 f n l (s : Int)) (List.range k)
      rw [List.length_range] at h1
      exact h1
    generalize 2 ^ f.dr.length = N at *
    refine ⟨fun v r q => ∃ s : Nat, v = s /\ s <= N /\ r = (prefC f n l s).map (·.s) /\ q = (prefC f n l s).map (·.b), fun v _ _ => N - v.toNat, ⟨0, rfl, by omega, rfl, rfl⟩, ?_⟩
    rintro _ _ _ ⟨s, rfl, hs, rfl, rfl⟩
    refine ⟨by omega, by unfold inI; omega, fun k1 => ?_, fun k1 => ?_⟩
    . have hlt : s < N := by omega
      have hp := hpl s
      have hsame : choice1 f n l (s : Int) = none -> prefC f n l (s + 1) = prefC f n l s := fun hc => by rw [pref_succ, hc]; simp
      refine ⟨fun r q => r = (prefC f n l (s + 1)).map (·.s) /\ q = (prefC f n l (s + 1)).map (·.b), ?_, by unfold inI; omega, by omega, fun k2 => ?_, fun k2 => ⟨h3, ⟨h4, by unfold inI; omega⟩, bv_valid hb _, fun k3 => ⟨by simp; omega, by simp; omega, ?_⟩, fun k3 => ?_⟩⟩
      . rintro _ _ ⟨rfl, rfl⟩
        exact ⟨by unfold inI; omega, ⟨s + 1, by omega, by omega, rfl, rfl⟩, by dsimp only; omega⟩
      . dsimp only
        rw [hsame (by unfold choice1; rw [if_neg fun h => k2 h.1])]
        exact ⟨rfl, rfl⟩
      . have hz : (zWy n (partM l s)).2.2 = 0 := by
          unfold boundedM at k3
          split at k3
          . assumption
          . cases k3
        have hc : choice1 f n l (s : Int) = some ⟨(zWy n (partM l s)).1, s⟩ := by unfold choice1; rw [if_pos ⟨Classical.not_not.1 k2, hz⟩]
        have hbd : (boundedM n (partM l s)).1 = (zWy n (partM l s)).1 := by unfold boundedM; rw [if_pos hz]
        dsimp only
        rw [pref_succ, hc, hbd, List.map_append, List.map_append]
        exact ⟨rfl, rfl⟩
      . have hz : ¬ (zWy n (partM l s)).2.2 = 0 := fun e => k3 (by unfold boundedM; rw [if_pos e])
        dsimp only
        rw [hsame (by unfold choice1; rw [if_neg fun h => hz h.2])]
        exact ⟨rfl, rfl⟩
    . have hsN : s = N := by omega
      subst hsN
      rw [<- hch]
      refine ⟨fun k2 => ?_, fun k2 => ?_⟩
      . have : zYw f n l = [] := by simpa using k2
        show _ /\ _ /\ _
        rw [e, if_pos this]; exact ⟨rfl, rfl, rfl⟩
      . have : ¬ zYw f n l = [] := by simpa using k2
        show _ /\ _ /\ _
        rw [e, if_neg this]; exact ⟨rfl, rfl, rfl⟩
theorem spec_rchoices (f : Flt) (n : Int) (l : (List Con)) (h0 : f.dr.length <= 9223372036854775807) (h1 : f.sv.length <= 9223372036854775807) (h2 : f.tm.length <= 9223372036854775807) (h3 : l.length <= 1073741824) (h4 : ∀ c ∈ l, inI c.a) : FnP Try.prog 36 [.agg ((e27 true) f), .int .i64 n, .lst true l.length (zYy e66 l)] (fun xR => xR = .tup [.lst false ((zYu f n l).1).length (zYy zYx ((zYu f n l).1)), .lst false ((zYu f n l).2.1).length (zYy (e53 true) ((zYu f n l).2.1)), .int .i64 ((zYu f n l).2.2)]) :=
  (walk_rchoices (vcp_rchoices f n l h0 h1 h2 h3 h4)).mono (by rintro _ ⟨_, _, _, rfl, rfl, rfl, rfl⟩; rfl)
def vc_rch (f : Flt) (n : Int) (l : (List Con)) (Post : (List Int) -> Int -> Prop) : Prop :=
  (f.dr.length <= 9223372036854775807) /\ (f.sv.length <= 9223372036854775807) /\ (f.tm.length <= 9223372036854775807) /\ (l.length <= 1073741824) /\ (∀ c ∈ l, inI c.a) /\ Post ((zYu f n l).1) ((zYu f n l).2.2)
theorem walk_rch {f : Flt} {n : Int} {l : (List Con)} {Post : (List Int) -> Int -> Prop} (hv : vc_rch f n l Post) : FnP Try.prog 14 [.agg ((e27 true) f), .int .i64 n, .lst true l.length (zYy e66 l)] (fun x => ∃ q0 q1, x = .tup [.lst false q0.length (zYy zYx q0), .int .i64 q1] /\ Post q0 q1) := by
 refine FnP.of_walk (T := tt) (nt := 21) ttOk ttMix ⟨⟨Try.f14, Try.func14, rfl, rfl, rfl, rfl⟩⟩ (by simp) ?_
 unfold vc_rch at hv
 change W _ _ _ ⟨21, look [(0, .agg [.lst true f.dr.length (zYy zYx f.dr), .int .i64 f.la, .int .i64 f.li, .lst true f.sv.length (zYy zYx f.sv), .lst true f.tm.length (zYy zYx f.tm)]), (1, .int .i64 n), (2, .lst true l.length (zYy e66 l))], [], 0⟩ _
 refine W.rL (cL rfl (o_box (v := .agg _) (p := 0) rfl rfl rfl (cL rfl (zZq (v := .nilS) rfl (aI rfl rfl (eL (W.tr [(1, .int _ _), (2, .lst _ _ _), (3, .ptr _ _)] [.box _ [.lst _ _ _, .int _ _, .int _ _, .lst _ _ _, .lst _ _ _]] ⟨rfl, rfl, rfl, trivial⟩ rfl (W.rL (cL rfl (zXv (cs := [.lst _ _ _, .int _ _, .int _ _, .lst _ _ _, .lst _ _ _]) tt27 rfl rfl ⟨_, rfl⟩ rfl (mI rfl rfl (mL rfl rfl ?_))))))))))))
 obtain ⟨s1, s2, s3, s4, s5, hv⟩ := hv
 refine cL rfl (zZu (k := 36) (fst := []) (caps := []) (ys := [.agg _, .int _ _, .lst _ _ _]) rfl rfl (spec_rchoices f n l s1 s2 s3 s4 s5) (Wks.cons (zXr 5 _ (Wks.cons (zZs _ _ _ _ _) (Wks.cons (zZz _ _ _ _) (Wks.cons (zZz _ _ _ _) (Wks.cons (zZs _ _ _ _ _) (Wks.cons (zZs _ _ _ _ _) (Wks.refl _))))))) (Wks.cons (zZz _ _ _ _) (Wks.cons (zZs _ _ _ _ _) (Wks.refl _)))) (cL rfl (zZp (v := .tup _) rfl ?_)))
 iterate 2 refine cL rfl (o_ext (v := .lst _ _ _) rfl rfl ?_)
 refine cL rfl (o_ext (v := .int _ _) rfl rfl ?_)
 iterate 2 refine aL rfl rfl ?_
 refine aI rfl rfl (eL (W.tr [(8, .lst _ _ _), (10, .int _ _)] [.box _ [.lst _ _ _, .int _ _, .int _ _, .lst _ _ _, .lst _ _ _]] ⟨rfl, rfl, trivial⟩ rfl (W.rL (mL rfl rfl (mI rfl rfl (aL rfl rfl (aI rfl rfl (eL (W.ret (rt (rt_t (v := .lst _ _ _) rfl (rt_t (v := .int _ _) rfl (rt_n (⟨_, rs_tup 5 _ (Wks.cons (rs_lst _ _ _ _) (Wks.cons (zY _ _ _ _) (Wks.refl _))), ((zYu f n l).1), ((zYu f n l).2.2), rfl, hv⟩))))))))))))))
theorem vcp_rch (f : Flt) (n : Int) (l : (List Con)) (h0 : f.dr.length <= 9223372036854775807) (h1 : f.sv.length <= 9223372036854775807) (h2 : f.tm.length <= 9223372036854775807) (h3 : l.length <= 1073741824) (h4 : ∀ c ∈ l, inI c.a) : vc_rch f n l (fun q0 q1 => q0 = (chM f n l).1 /\ q1 = (chM f n l).2) := by
  unfold vc_rch
  refine ⟨h0, h1, h2, h3, h4, ?_⟩
  show _ /\ _
  unfold zYu chM
  by_cases hb : zX f n l = true
  . rw [if_pos hb, if_pos hb]
    by_cases hn : zYw f n l = []
    . rw [if_pos hn, if_pos hn]; exact ⟨rfl, rfl⟩
    . rw [if_neg hn, if_neg hn]; exact ⟨rfl, rfl⟩
  . rw [if_neg hb, if_neg hb]; exact ⟨rfl, rfl⟩
theorem spec_rch (f : Flt) (n : Int) (l : (List Con)) (h0 : f.dr.length <= 9223372036854775807) (h1 : f.sv.length <= 9223372036854775807) (h2 : f.tm.length <= 9223372036854775807) (h3 : l.length <= 1073741824) (h4 : ∀ c ∈ l, inI c.a) : FnP Try.prog 14 [.agg ((e27 true) f), .int .i64 n, .lst true l.length (zYy e66 l)] (fun xR => xR = .tup [.lst false ((chM f n l).1).length (zYy zYx ((chM f n l).1)), .int .i64 ((chM f n l).2)]) :=
  (walk_rch (vcp_rch f n l h0 h1 h2 h3 h4)).mono (by rintro _ ⟨_, _, rfl, rfl, rfl⟩; rfl)
def vc_rli (f : Flt) (n : Int) (l : (List Con)) (Post : Int -> Int -> Prop) : Prop :=
  (f.dr.length <= 9223372036854775807) /\ (f.sv.length <= 9223372036854775807) /\ (f.tm.length <= 9223372036854775807) /\ (l.length <= 1073741824) /\ (∀ c ∈ l, inI c.a) /\ ((¬ (zYu f n l).2.2 = 0) -> Post 0 ((zYu f n l).2.2)) /\ (¬ (¬ (zYu f n l).2.2 = 0) -> (0 <= ((f.dr.length : Nat) : Int)) /\ (inI (1 * 2 ^ (min ((f.dr.length : Nat) : Int).toNat 64))) /\ (inI ((1 * 2 ^ (min ((f.dr.length : Nat) : Int).toNat 64)) - 1)) /\ ∃ (I1 : Int -> Int -> Prop) (μ1 : Int -> Int -> Nat), I1 ((1 * 2 ^ (min ((f.dr.length : Nat) : Int).toNat 64)) - 1) 0 /\ ∀ (v11 : Int) (v12 : Int), I1 v11 v12 -> ((v12 < ((((zYu f n l).1).length : Nat) : Int)) -> (0 <= v12 /\ v12 < (((zYu f n l).1).length : Int)) /\ (inI (v12 + 1)) /\ (I1 (bitI .andNot .i64 v11 (lat ((zYu f n l).1) v12)) (v12 + 1) /\ μ1 (bitI .andNot .i64 v11 (lat ((zYu f n l).1) v12)) (v12 + 1) < μ1 v11 v12)) /\ (¬ (v12 < ((((zYu f n l).1).length : Nat) : Int)) -> Post v11 0))
theorem walk_rli {f : Flt} {n : Int} {l : (List Con)} {Post : Int -> Int -> Prop} (hv : vc_rli f n l Post) : FnP Try.prog 16 [.agg ((e27 true) f), .int .i64 n, .lst true l.length (zYy e66 l)] (fun x => ∃ q0 q1, x = .tup [.int .i64 q0, .int .i64 q1] /\ Post q0 q1) := by
 refine FnP.of_walk (T := tt) (nt := 42) ttOk ttMix ⟨⟨Try.f16, Try.func16, rfl, rfl, rfl, rfl⟩⟩ (by simp) ?_
 unfold vc_rli at hv
 change W _ _ _ ⟨42, look [(0, .agg [.lst true f.dr.length (zYy zYx f.dr), .int .i64 f.la, .int .i64 f.li, .lst true f.sv.length (zYy zYx f.sv), .lst true f.tm.length (zYy zYx f.tm)]), (1, .int .i64 n), (2, .lst true l.length (zYy e66 l))], [], 0⟩ _
 refine W.rL (cL rfl (o_box (v := .agg _) (p := 0) rfl rfl rfl ?_))
 iterate 2 refine aI rfl rfl ?_
 refine eL (W.tr [(1, .int _ _), (2, .lst _ _ _), (3, .ptr _ _)] [.box _ [.lst _ _ _, .int _ _, .int _ _, .lst _ _ _, .lst _ _ _]] ⟨rfl, rfl, rfl, trivial⟩ rfl (W.rL (cL rfl (zXv (cs := [.lst _ _ _, .int _ _, .int _ _, .lst _ _ _, .lst _ _ _]) tt27 rfl rfl ⟨_, rfl⟩ rfl (mI rfl rfl (mL rfl rfl ?_))))))
 obtain ⟨s1, s2, s3, s4, s5, hv⟩ := hv
 refine cL rfl (zZu (k := 36) (fst := []) (caps := []) (ys := [.agg _, .int _ _, .lst _ _ _]) rfl rfl (spec_rchoices f n l s1 s2 s3 s4 s5) (Wks.cons (zXr 5 _ (Wks.cons (zZs _ _ _ _ _) (Wks.cons (zZz _ _ _ _) (Wks.cons (zZz _ _ _ _) (Wks.cons (zZs _ _ _ _ _) (Wks.cons (zZs _ _ _ _ _) (Wks.refl _))))))) (Wks.cons (zZz _ _ _ _) (Wks.cons (zZs _ _ _ _ _) (Wks.refl _)))) (cL rfl (zZp (v := .tup _) rfl ?_)))
 iterate 2 refine cL rfl (o_ext (v := .lst _ _ _) rfl rfl ?_)
 refine cL rfl (o_ext (v := .int _ _) rfl rfl ?_)
 iterate 2 refine aL rfl rfl ?_
 refine aI rfl rfl (eL (W.tr [(3, .ptr _ _), (8, .lst _ _ _), (10, .int _ _)] [.box _ [.lst _ _ _, .int _ _, .int _ _, .lst _ _ _, .lst _ _ _]] ⟨rfl, rfl, rfl, trivial⟩ rfl (W.seq' (W.rL (mI rfl rfl (cL rfl (o_neI rfl rfl rfl (eL (W.cn rfl (fun hc => ?_) (fun hc => ?_))))))))))
 have hv := hv.1 hc
 refine W.rL (mI rfl rfl ?_)
 iterate 2 refine aI rfl rfl ?_
 refine eL (W.ret (zZr (rt ?_)))
 iterate 2 refine rt_t (v := .int _ _) rfl ?_
 refine rt_n (⟨_, rs_tup 5 _ (Wks.cons (zY _ _ _ _) (Wks.cons (zY _ _ _ _) (Wks.refl _))), 0, ((zYu f n l).2.2), rfl, hv⟩)
 have hv := hv.2 hc
 refine W.skip (zZ (W.rL (cL rfl (o_fa tt27 rfl tt23 rfl (cL rfl (zZx (v := .lst _ _ _) tt23 rfl rfl ⟨_, rfl⟩ (cL rfl (zXq (v := .lst _ _ _) tt23 rfl rfl ?_))))))))
 obtain ⟨s6, s7, hv⟩ := hv
 refine cL rfl (o_shl rfl rfl s6 s7 ?_)
 obtain ⟨s8, hv⟩ := hv
 refine cL rfl (o_sub rfl rfl s8 (aI rfl rfl (eL (W.seq' (W.rL (aI rfl rfl (eL (W.block ?_))))))))
 obtain ⟨I1, μ1, hp, hv⟩ := hv
 refine W.loop2 (fun v11 v12 => ⟨42, look [(8, .lst false ((zYu f n l).1).length (zYy zYx ((zYu f n l).1))), (11, .int .i64 v11), (12, .int .i64 v12)], [.dead], 0⟩) I1 μ1 ((1 * 2 ^ (min ((f.dr.length : Nat) : Int).toNat 64)) - 1) 0 (St.to_mk (φ := [none]) rfl (rfl) ⟨Ren.lst _ _ _, Ren.int _ _, Ren.int _ _, trivial⟩ ⟨rfl, trivial⟩) hp ?_
 clear hp
 intro v11 v12 hI
 replace hv := hv v11 v12 hI
 clear hI
 refine W.seq' (W.rL (mI rfl rfl (mL rfl rfl (cL rfl (zXq (v := .lst _ _ _) tt23 rfl rfl (cL rfl (zXw rfl rfl (eL (W.cn rfl (fun hc => ?_) (fun hc => ?_))))))))))
 have hv := hv.1 hc
 refine W.skip (zZ (W.seq' (W.block (W.rL1 (mI rfl rfl (mL rfl rfl (mI rfl rfl ?_)))))))
 obtain ⟨s19, hv⟩ := hv
 refine cL rfl (zYp tt23 tt3 rfl rfl (zZw.wd true) rfl s19 ?_)
 intro rest19
 refine cL rfl (zZx (v := .int _ _) tt3 rfl rfl ⟨_, rfl⟩ (cL rfl (o_anN rfl rfl (aI rfl rfl (eL (zYq (zZ (W.rL1 (mI rfl rfl ?_)))))))))
 obtain ⟨s20, hv⟩ := hv
 refine cL rfl (o_add rfl rfl s20 (aI rfl rfl (eL (zZ (⟨(), (bitI .andNot .i64 v11 (lat ((zYu f n l).1) v12)), (v12 + 1), hv, St.to_mk (φ := [none]) rfl (rfl) ⟨Ren.lst _ _ _, Ren.int _ _, Ren.int _ _, trivial⟩ ⟨rfl, trivial⟩⟩)))))
 have hv := hv.2 hc
 refine W.exit (zZt (zZt (zXy (zZ (W.rL (mI rfl rfl ?_))))))
 iterate 2 refine aI rfl rfl ?_
 refine eL (W.ret (rt ?_))
 iterate 2 refine rt_t (v := .int _ _) rfl ?_
 refine rt_n (⟨_, rs_tup 5 _ (Wks.cons (zY _ _ _ _) (Wks.cons (zY _ _ _ _) (Wks.refl _))), v11, 0, rfl, hv⟩)
theorem vcp_rli (f : Flt) (n : Int) (l : (List Con)) (h0 : f.dr.length <= 9223372036854775807) (h1 : f.sv.length <= 9223372036854775807) (h2 : f.tm.length <= 9223372036854775807) (h3 : l.length <= 1073741824) (h4 : ∀ c ∈ l, inI c.a) : vc_rli f n l (fun q0 q1 => q0 = (liM f n l).1 /\ q1 = (liM f n l).2) := by
  unfold vc_rli
  have e1 : (zYu f n l).1 = (chM f n l).1 /\ (zYu f n l).2.2 = (chM f n l).2 := by
    unfold zYu chM
    by_cases hb : zX f n l = true
    . rw [if_pos hb, if_pos hb]
      by_cases hn : zYw f n l = []
      . rw [if_pos hn, if_pos hn]; exact ⟨rfl, rfl⟩
      . rw [if_neg hn, if_neg hn]; exact ⟨rfl, rfl⟩
    . rw [if_neg hb, if_neg hb]; exact ⟨rfl, rfl⟩
  rw [e1.1, e1.2]
  refine ⟨h0, h1, h2, h3, h4, fun h => ?_, fun h => ?_⟩
  . have e : liM f n l = (0, (chM f n l).2) := by unfold liM; rw [if_neg h]
    show _ /\ _
    rw [e]; exact ⟨rfl, rfl⟩
  . have hz := Classical.not_not.1 h
    have hb : zX f n l = true := by
      unfold chM at hz
      split at hz
      . assumption
      . cases hz
    have hbk := bvalid_ok hb
    have h64 := pow_le64 hbk.fo.len.2
    have e : liM f n l = ((chM f n l).1.foldl (fun o s => bitI .andNot .i64 o s) (2 ^ f.dr.length - 1), 0) := by unfold liM; rw [if_pos hz]
    rw [pow_eq hbk.fo.len.2]
    have hlen : (chM f n l).1.length <= 64 := by
      have := choices_len hb
      unfold chM
      rw [if_pos hb]
      split
      . simp
      . simpa using this
    have e2 : (2 ^ f.dr.length : Int) = ((2 ^ f.dr.length : Nat) : Int) := by simp
    rw [e2] at e
    generalize 2 ^ f.dr.length = N at *
    refine ⟨by omega, by unfold inI; omega, by unfold inI; omega, fun v w => ∃ i : Nat, w = i /\ i <= (chM f n l).1.length /\ v = ((chM f n l).1.take i).foldl (fun o s => bitI .andNot .i64 o s) ((N : Int) - 1), fun _ w => (chM f n l).1.length - w.toNat, ⟨0, rfl, by omega, rfl⟩, ?_⟩
    rintro _ _ ⟨i, rfl, hle, rfl⟩
    refine ⟨fun h4 => ?_, fun h4 => ?_⟩
    . have hlt : i < (chM f n l).1.length := by omega
      rw [lat_get hlt]
      refine ⟨by omega, by unfold inI; omega, ⟨i + 1, by omega, by omega, ?_⟩, by dsimp only; omega⟩
      rw [take_succ_nat (List.getElem?_eq_getElem hlt), List.foldl_append]; rfl
    . show _ /\ _
      rw [e, List.take_of_length_le (by omega)]
      exact ⟨rfl, rfl⟩
theorem spec_rli (f : Flt) (n : Int) (l : (List Con)) (h0 : f.dr.length <= 9223372036854775807) (h1 : f.sv.length <= 9223372036854775807) (h2 : f.tm.length <= 9223372036854775807) (h3 : l.length <= 1073741824) (h4 : ∀ c ∈ l, inI c.a) : FnP Try.prog 16 [.agg ((e27 true) f), .int .i64 n, .lst true l.length (zYy e66 l)] (fun xR => xR = .tup [.int .i64 ((liM f n l).1), .int .i64 ((liM f n l).2)]) :=
  (walk_rli (vcp_rli f n l h0 h1 h2 h3 h4)).mono (by rintro _ ⟨_, _, rfl, rfl, rfl⟩; rfl)
def vc_rbrange (f : Flt) (n : Int) (l : (List Con)) (a : Int) (b : Int) (Post : Int -> Int -> Int -> Prop) : Prop :=
  ((f.dr.length <= 9223372036854775807) /\ (f.sv.length <= 9223372036854775807) /\ (f.tm.length <= 9223372036854775807) /\ (l.length <= 1073741824) /\ True) /\ ((((¬ ((zX f n l) = true)) \/ ((a < 0) \/ ((n <= a) \/ ((b < 0) \/ (n <= b))))) -> Post 0 0 2) /\ (¬ ((¬ ((zX f n l) = true)) \/ ((a < 0) \/ ((n <= a) \/ ((b < 0) \/ (n <= b))))) -> (f.dr.length <= 9223372036854775807) /\ (f.sv.length <= 9223372036854775807) /\ (f.tm.length <= 9223372036854775807) /\ (l.length <= 1073741824) /\ (∀ c ∈ l, inI c.a) /\ ((¬ (zYu f n l).2.2 = 0) -> Post 0 0 ((zYu f n l).2.2)) /\ (¬ (¬ (zYu f n l).2.2 = 0) -> ∃ (I1 : Int -> Int -> Int -> Prop) (μ1 : Int -> Int -> Int -> Nat), I1 1152921504606846976 (-1152921504606846976) 0 /\ ∀ (v16 : Int) (v17 : Int) (v18 : Int), I1 v16 v17 v18 -> ((v18 < ((((zYu f n l).2.1).length : Nat) : Int)) -> (0 <= v18 /\ v18 < (((zYu f n l).2.1).length : Int)) /\ (0 <= b /\ b < (((lat ((zYu f n l).2.1) v18).most).length : Int)) /\ (0 <= a /\ a < ((lat ((lat ((zYu f n l).2.1) v18).most) b).length : Int)) /\ (inI (-(lat (lat ((lat ((zYu f n l).2.1) v18).most) b) a))) /\ (0 <= v18 /\ v18 < (((zYu f n l).2.1).length : Int)) /\ (0 <= a /\ a < (((lat ((zYu f n l).2.1) v18).most).length : Int)) /\ (0 <= b /\ b < ((lat ((lat ((zYu f n l).2.1) v18).most) a).length : Int)) /\ (inI (v18 + 1)) /\ (I1 (min v16 (-(lat (lat ((lat ((zYu f n l).2.1) v18).most) b) a))) (max v17 (lat (lat ((lat ((zYu f n l).2.1) v18).most) a) b)) (v18 + 1) /\ μ1 (min v16 (-(lat (lat ((lat ((zYu f n l).2.1) v18).most) b) a))) (max v17 (lat (lat ((lat ((zYu f n l).2.1) v18).most) a) b)) (v18 + 1) < μ1 v16 v17 v18)) /\ (¬ (v18 < ((((zYu f n l).2.1).length : Nat) : Int)) -> Post v16 v17 0))))
theorem walk_rbrange {f : Flt} {n : Int} {l : (List Con)} {a : Int} {b : Int} {Post : Int -> Int -> Int -> Prop} (hv : vc_rbrange f n l a b Post) : FnP Try.prog 23 [.agg ((e27 true) f), .int .i64 n, .lst true l.length (zYy e66 l), .int .i64 a, .int .i64 b] (fun x => ∃ q0 q1 q2, x = .tup [.int .i64 q0, .int .i64 q1, .int .i64 q2] /\ Post q0 q1 q2) := by
 refine FnP.of_walk (T := tt) (nt := 88) ttOk ttMix ⟨⟨Try.f23, Try.func23, rfl, rfl, rfl, rfl⟩⟩ (by simp) ?_
 unfold vc_rbrange at hv
 change W _ _ _ ⟨88, look [(0, .agg [.lst true f.dr.length (zYy zYx f.dr), .int .i64 f.la, .int .i64 f.li, .lst true f.sv.length (zYy zYx f.sv), .lst true f.tm.length (zYy zYx f.tm)]), (1, .int .i64 n), (2, .lst true l.length (zYy e66 l)), (3, .int .i64 a), (4, .int .i64 b)], [], 0⟩ _
 refine W.rL (cL rfl (o_box (v := .agg _) (p := 0) rfl rfl rfl ?_))
 iterate 3 refine aI rfl rfl ?_
 refine eL (W.tr [(1, .int _ _), (2, .lst _ _ _), (3, .int _ _), (4, .int _ _), (5, .ptr _ _)] [.box _ [.lst _ _ _, .int _ _, .int _ _, .lst _ _ _, .lst _ _ _]] ⟨rfl, rfl, rfl, rfl, rfl, trivial⟩ rfl (W.seq' ?_))
 obtain ⟨sd, hv⟩ := hv
 refine W.rLm ⟨88, look [(1, .int .i64 n), (2, .lst true l.length (zYy e66 l)), (3, .int .i64 a), (4, .int .i64 b), (5, .ptr 0 0), (41, .bool (decide ((¬ ((zX f n l) = true)) \/ ((a < 0) \/ ((n <= a) \/ ((b < 0) \/ (n <= b)))))))], [.box 27 [.lst true f.dr.length (zYy zYx f.dr), .int .i64 f.la, .int .i64 f.li, .lst true f.sv.length (zYy zYx f.sv), .lst true f.tm.length (zYy zYx f.tm)]], 0⟩ ?_ ?_
 refine cL rfl (zXv (cs := [.lst _ _ _, .int _ _, .int _ _, .lst _ _ _, .lst _ _ _]) tt27 rfl rfl ⟨_, rfl⟩ rfl (mI rfl rfl (mL rfl rfl ?_)))
 obtain ⟨s13, s14, s15, s16, sd⟩ := sd
 refine cL rfl (zZu (k := 39) (fst := []) (caps := []) (ys := [.agg _, .int _ _, .lst _ _ _]) rfl rfl (spec_r10valid f n l s13 s14 s15 s16) (Wks.cons (zXr 5 _ (Wks.cons (zZs _ _ _ _ _) (Wks.cons (zZz _ _ _ _) (Wks.cons (zZz _ _ _ _) (Wks.cons (zZs _ _ _ _ _) (Wks.cons (zZs _ _ _ _ _) (Wks.refl _))))))) (Wks.cons (zZz _ _ _ _) (Wks.cons (zZs _ _ _ _ _) (Wks.refl _)))) (cL rfl (o_notB rfl (mB rfl rfl ?_))))
 by_cases c1 : ¬ ((zX f n l) = true)
 iterate 2 refine cLs rfl rfl rfl (dT c1) ?_
 refine cL rfl (zZv (v := .bool _) rfl (dT c1) rfl (mB rfl rfl ?_))
 iterate 3 refine cLs rfl rfl rfl (rfl) ?_
 refine cL rfl (zZv (v := .bool _) rfl rfl rfl (mB rfl rfl ?_))
 iterate 2 refine cLs rfl rfl rfl (rfl) ?_
 refine cL rfl (zZv (v := .bool _) rfl rfl rfl (mB rfl rfl ?_))
 iterate 3 refine cLs rfl rfl rfl (rfl) ?_
 refine cL rfl (zZv (v := .bool _) rfl rfl rfl (eL (zYz ⟨rfl, rfl, rfl, rfl, rfl, (congrArg AV.bool (dOrT c1)).symm, trivial⟩ rfl)))
 refine cLg rfl rfl (dF c1) (mI rfl rfl (cLg rfl rfl (dF c1) (cL rfl (zXw rfl rfl (cL rfl (zZy (v := .bool _) rfl (dF c1) rfl (mB rfl rfl ?_)))))))
 by_cases c2 : a < 0
 iterate 3 refine cLs rfl rfl rfl (dT c2) ?_
 refine cL rfl (zZv (v := .bool _) rfl (dT c2) rfl (mB rfl rfl ?_))
 iterate 2 refine cLs rfl rfl rfl (rfl) ?_
 refine cL rfl (zZv (v := .bool _) rfl rfl rfl (mB rfl rfl ?_))
 iterate 3 refine cLs rfl rfl rfl (rfl) ?_
 refine cL rfl (zZv (v := .bool _) rfl rfl rfl (eL (zYz ⟨rfl, rfl, rfl, rfl, rfl, (congrArg AV.bool (dOrF c1 (dOrT c2))).symm, trivial⟩ rfl)))
 refine cLg rfl rfl (dF c2) (mI rfl rfl (cLg rfl rfl (dF c2) (mI rfl rfl (cLg rfl rfl (dF c2) (cL rfl (o_geq rfl rfl (cL rfl (zZy (v := .bool _) rfl (dF c2) rfl (mB rfl rfl ?_)))))))))
 by_cases c3 : n <= a
 iterate 2 refine cLs rfl rfl rfl (dT c3) ?_
 refine cL rfl (zZv (v := .bool _) rfl (dT c3) rfl (mB rfl rfl ?_))
 iterate 3 refine cLs rfl rfl rfl (rfl) ?_
 refine cL rfl (zZv (v := .bool _) rfl rfl rfl (eL (zYz ⟨rfl, rfl, rfl, rfl, rfl, (congrArg AV.bool (dOrF c1 (dOrF c2 (dOrT c3)))).symm, trivial⟩ rfl)))
 refine cLg rfl rfl (dF c3) (mI rfl rfl (cLg rfl rfl (dF c3) (cL rfl (zXw rfl rfl (cL rfl (zZy (v := .bool _) rfl (dF c3) rfl (mB rfl rfl ?_)))))))
 by_cases c4 : b < 0
 iterate 3 refine cLs rfl rfl rfl (dT c4) ?_
 refine cL rfl (zZv (v := .bool _) rfl (dT c4) rfl (eL (zYz ⟨rfl, rfl, rfl, rfl, rfl, (congrArg AV.bool (dOrF c1 (dOrF c2 (dOrF c3 (dOrT c4))))).symm, trivial⟩ rfl)))
 refine cLg rfl rfl (dF c4) (mI rfl rfl (cLg rfl rfl (dF c4) (mI rfl rfl (cLg rfl rfl (dF c4) (cL rfl (o_geq rfl rfl (cL rfl (zZy (v := .bool _) rfl (dF c4) rfl (eL (zYz ⟨rfl, rfl, rfl, rfl, rfl, (congrArg AV.bool (dOrF c1 (dOrF c2 (dOrF c3 (dOrF c4 (rfl)))))).symm, trivial⟩ rfl))))))))))
 refine W.cn rfl (fun hc => ?_) (fun hc => ?_)
 have hv := hv.1 hc
 refine W.rL ?_
 iterate 3 refine aI rfl rfl ?_
 refine eL (W.ret (zZr (rt ?_)))
 iterate 3 refine rt_t (v := .int _ _) rfl ?_
 refine rt_n (⟨_, rs_tup 5 _ (Wks.cons (zY _ _ _ _) (Wks.cons (zY _ _ _ _) (Wks.cons (zY _ _ _ _) (Wks.refl _)))), 0, 0, 2, rfl, hv⟩)
 have hv := hv.2 hc
 refine W.skip (zZ (W.rL (cL rfl (zXv (cs := [.lst _ _ _, .int _ _, .int _ _, .lst _ _ _, .lst _ _ _]) tt27 rfl rfl ⟨_, rfl⟩ rfl (mI rfl rfl (mL rfl rfl ?_))))))
 obtain ⟨s17, s18, s19, s20, s21, hv⟩ := hv
 refine cL rfl (zZu (k := 36) (fst := []) (caps := []) (ys := [.agg _, .int _ _, .lst _ _ _]) rfl rfl (spec_rchoices f n l s17 s18 s19 s20 s21) (Wks.cons (zXr 5 _ (Wks.cons (zZs _ _ _ _ _) (Wks.cons (zZz _ _ _ _) (Wks.cons (zZz _ _ _ _) (Wks.cons (zZs _ _ _ _ _) (Wks.cons (zZs _ _ _ _ _) (Wks.refl _))))))) (Wks.cons (zZz _ _ _ _) (Wks.cons (zZs _ _ _ _ _) (Wks.refl _)))) (cL rfl (zZp (v := .tup _) rfl ?_)))
 iterate 2 refine cL rfl (o_ext (v := .lst _ _ _) rfl rfl ?_)
 refine cL rfl (o_ext (v := .int _ _) rfl rfl ?_)
 iterate 2 refine aL rfl rfl ?_
 refine aI rfl rfl (eL (W.tr [(3, .int _ _), (4, .int _ _), (14, .lst _ _ _), (15, .int _ _)] [.box _ [.lst _ _ _, .int _ _, .int _ _, .lst _ _ _, .lst _ _ _]] ⟨rfl, rfl, rfl, rfl, trivial⟩ rfl (W.seq' (W.rL (mI rfl rfl (cL rfl (o_neI rfl rfl rfl (eL (W.cn rfl (fun hc => ?_) (fun hc => ?_))))))))))
 have hv := hv.1 hc
 refine W.rL (mI rfl rfl ?_)
 iterate 3 refine aI rfl rfl ?_
 refine eL (W.ret (zZr (rt ?_)))
 iterate 3 refine rt_t (v := .int _ _) rfl ?_
 refine rt_n (⟨_, rs_tup 5 _ (Wks.cons (zY _ _ _ _) (Wks.cons (zY _ _ _ _) (Wks.cons (zY _ _ _ _) (Wks.refl _)))), 0, 0, ((zYu f n l).2.2), rfl, hv⟩)
 have hv := hv.2 hc
 refine W.skip (zZ (W.rL (aI rfl rfl (eL (W.rL (aI rfl rfl (eL (W.seq' (W.rL (aI rfl rfl (eL (W.block ?_))))))))))))
 obtain ⟨I1, μ1, hp, hv⟩ := hv
 refine W.loop3 (fun v16 v17 v18 => ⟨88, look [(3, .int .i64 a), (4, .int .i64 b), (14, .lst false ((zYu f n l).2.1).length (zYy (e53 true) ((zYu f n l).2.1))), (16, .int .i64 v16), (17, .int .i64 v17), (18, .int .i64 v18)], [.dead], 0⟩) I1 μ1 1152921504606846976 (-1152921504606846976) 0 (St.to_mk (φ := [none]) rfl (rfl) ⟨Ren.int _ _, Ren.int _ _, Ren.lst _ _ _, Ren.int _ _, Ren.int _ _, Ren.int _ _, trivial⟩ ⟨rfl, trivial⟩) hp ?_
 clear hp
 intro v16 v17 v18 hI
 replace hv := hv v16 v17 v18 hI
 clear hI
 refine W.seq' (W.rL (mI rfl rfl (mL rfl rfl (cL rfl (zXq (v := .lst _ _ _) tt76 rfl rfl (cL rfl (zXw rfl rfl (eL (W.cn rfl (fun hc => ?_) (fun hc => ?_))))))))))
 have hv := hv.1 hc
 refine W.skip (zZ (W.seq' (W.block (W.rL (mI rfl rfl (mL rfl rfl (mI rfl rfl ?_)))))))
 obtain ⟨s74, hv⟩ := hv
 refine cL rfl (zYp tt76 tt53 rfl rfl (enc53.wd true) rfl s74 ?_)
 intro rest74
 refine cL rfl (o_faP tt53 rfl tt51 rfl (cL rfl (zZx (v := .lst _ _ _) tt51 rfl rfl ⟨_, rfl⟩ (mI rfl rfl ?_))))
 obtain ⟨s75, hv⟩ := hv
 refine cL rfl (zYp tt51 tt23 rfl rfl ((encSl zYx).wd true) rfl s75 ?_)
 intro rest75
 refine cL rfl (zZx (v := .lst _ _ _) tt23 rfl rfl ⟨_, rfl⟩ (mI rfl rfl ?_))
 obtain ⟨s76, hv⟩ := hv
 refine cL rfl (zYp tt23 tt3 rfl rfl (zZw.wd true) rfl s76 ?_)
 intro rest76
 refine cL rfl (zZx (v := .int _ _) tt3 rfl rfl ⟨_, rfl⟩ ?_)
 obtain ⟨s77, hv⟩ := hv
 refine cL rfl (o_neg rfl s77 (cL rfl (o_min rfl rfl (aI rfl rfl (eL (W.tr [(3, .int _ _), (4, .int _ _), (14, .lst _ _ _), (16, .int _ _), (17, .int _ _), (18, .int _ _)] [.dead] ⟨rfl, rfl, rfl, rfl, rfl, rfl, trivial⟩ rfl (W.rL1 (mI rfl rfl (mL rfl rfl (mI rfl rfl ?_))))))))))
 obtain ⟨s78, hv⟩ := hv
 refine cL rfl (zYp tt76 tt53 rfl rfl (enc53.wd true) rfl s78 ?_)
 intro rest78
 refine cL rfl (o_faP tt53 rfl tt51 rfl (cL rfl (zZx (v := .lst _ _ _) tt51 rfl rfl ⟨_, rfl⟩ (mI rfl rfl ?_))))
 obtain ⟨s79, hv⟩ := hv
 refine cL rfl (zYp tt51 tt23 rfl rfl ((encSl zYx).wd true) rfl s79 ?_)
 intro rest79
 refine cL rfl (zZx (v := .lst _ _ _) tt23 rfl rfl ⟨_, rfl⟩ (mI rfl rfl ?_))
 obtain ⟨s80, hv⟩ := hv
 refine cL rfl (zYp tt23 tt3 rfl rfl (zZw.wd true) rfl s80 ?_)
 intro rest80
 refine cL rfl (zZx (v := .int _ _) tt3 rfl rfl ⟨_, rfl⟩ (cL rfl (o_max rfl rfl (aI rfl rfl (eL (zYq (zZ (W.rL1 (mI rfl rfl ?_)))))))))
 obtain ⟨s81, hv⟩ := hv
 refine cL rfl (o_add rfl rfl s81 (aI rfl rfl (eL (zZ (⟨(), (min v16 (-(lat (lat ((lat ((zYu f n l).2.1) v18).most) b) a))), (max v17 (lat (lat ((lat ((zYu f n l).2.1) v18).most) a) b)), (v18 + 1), hv, St.to_mk (φ := [none]) rfl (rfl) ⟨Ren.int _ _, Ren.int _ _, Ren.lst _ _ _, Ren.int _ _, Ren.int _ _, Ren.int _ _, trivial⟩ ⟨rfl, trivial⟩⟩)))))
 have hv := hv.2 hc
 refine W.exit (zZt (zZt (zXy (zZ (W.rL ?_)))))
 iterate 2 refine mI rfl rfl ?_
 iterate 3 refine aI rfl rfl ?_
 refine eL (W.ret (rt ?_))
 iterate 3 refine rt_t (v := .int _ _) rfl ?_
 refine rt_n (⟨_, rs_tup 5 _ (Wks.cons (zY _ _ _ _) (Wks.cons (zY _ _ _ _) (Wks.cons (zY _ _ _ _) (Wks.refl _)))), v16, v17, 0, rfl, hv⟩)
theorem vcp_rbrange (f : Flt) (n : Int) (l : (List Con)) (a : Int) (b : Int) (h0 : f.dr.length <= 9223372036854775807) (h1 : f.sv.length <= 9223372036854775807) (h2 : f.tm.length <= 9223372036854775807) (h3 : l.length <= 1073741824) (h4 : ∀ c ∈ l, inI c.a) : vc_rbrange f n l a b (fun q0 q1 q2 => q0 = (zYv f n l a b).1 /\ q1 = (zYv f n l a b).2.1 /\ q2 = (zYv f n l a b).2.2) := by
  unfold vc_rbrange
  refine ⟨⟨h0, h1, h2, h3, trivial⟩, fun h => ?_, fun h => ⟨h0, h1, h2, h3, h4, ?_⟩⟩
  . have e : zYv f n l a b = (0, 0, 2) := by
      unfold zYv
      rw [if_neg]
      rintro ⟨k1, k2, k3⟩
      rcases h with h | h | h | h | h
      . exact h k1
      . omega
      . omega
      . omega
      . omega
    show _ /\ _ /\ _
    rw [e]; exact ⟨rfl, rfl, rfl⟩
  . have hb : zX f n l = true := Classical.not_not.1 fun x => h (.inl x)
    have ha0 : 0 <= a := Int.not_lt.1 fun x => h (.inr (.inl x))
    have han : a < n := Int.not_le.1 fun x => h (.inr (.inr (.inl x)))
    have hb0 : 0 <= b := Int.not_lt.1 fun x => h (.inr (.inr (.inr (.inl x))))
    have hbn : b < n := Int.not_le.1 fun x => h (.inr (.inr (.inr (.inr x))))
    have hnb := hNB
    have e : zYv f n l a b = if hiM (zYw f n l) a b < loM (zYw f n l) a b then (0, 0, 100) else (loM (zYw f n l) a b, hiM (zYw f n l) a b, 0) := by
      unfold zYv; rw [if_pos ⟨hb, by omega, by omega⟩]
    by_cases hne : zYw f n l = []
    . have er : zYu f n l = ([], [], 100) := by unfold zYu; rw [if_pos hb, if_pos hne]
      have e2 : zYv f n l a b = (0, 0, 100) := by
        rw [e, hne]
        rw [if_pos (show hiM [] a b < loM [] a b by unfold hiM loM; simp only [List.foldl_nil]; omega)]
      rw [er]
      refine ⟨fun _ => ?_, fun k => absurd (by decide) k⟩
      show _ /\ _ /\ _
      rw [e2]; exact ⟨rfl, rfl, rfl⟩
    . rw [rch_ok hb hne]
      refine ⟨fun k => absurd rfl k, fun _ => ?_⟩
      dsimp only
      have hcl := choices_len hb
      have hlen : ((zYw f n l).map (·.b)).length = (zYw f n l).length := by simp
      obtain ⟨lo, hi, hr⟩ := rg_ok hb hne (a := a.toNat) (b := b.toNat) (by omega) (by omega)
      have eab : zYv f n l a b = (lo, hi, 0) := by
        have := hr.eq
        rwa [show ((a.toNat : Nat) : Int) = a by omega, show ((b.toNat : Nat) : Int) = b by omega] at this
      have elo : loM (zYw f n l) a b = lo /\ hiM (zYw f n l) a b = hi := by
        rw [e] at eab
        split at eab
        . cases eab
        . cases eab; exact ⟨rfl, rfl⟩
      refine ⟨fun x y v => ∃ i : Nat, v = i /\ i <= (zYw f n l).length /\ x = loM ((zYw f n l).take i) a b /\ y = hiM ((zYw f n l).take i) a b, fun _ _ v => (zYw f n l).length - v.toNat, ⟨0, rfl, by omega, rfl, rfl⟩, ?_⟩
      rintro _ _ _ ⟨i, rfl, hi', rfl, rfl⟩
      rw [hlen]
      refine ⟨fun k1 => ?_, fun k1 => ?_⟩
      . have hlt : i < (zYw f n l).length := by omega
        have hc := List.getElem?_eq_getElem hlt
        rw [lat_map' hlt]
        generalize (zYw f n l)[i] = c at *
        obtain ⟨s, m, ck⟩ := choices_ok (List.mem_of_getElem? hc)
        have hn := ck.n
        have hml : c.b.most.length = n.toNat := by rw [ck.b]; exact bounds_len
        have hrow : ∀ i : Int, 0 <= i -> i < n -> (lat c.b.most i).length = n.toNat := fun i h1 h2 => by
          rw [ck.b]
          exact bounds_row (by omega) (by omega)
        have hbm : bm c.b b.toNat a.toNat = mm m b.toNat a.toNat := by rw [ck.b]; exact bm_bounds (by omega) (by omega)
        have hbd := ck.cm.cl.bd b.toNat a.toNat (by omega) (by omega)
        have hB := hB0
        rw [bm_lat, bm_lat]
        refine ⟨by omega, by omega, by rw [hrow b (by omega) (by omega)]; omega, by rw [hbm]; unfold inI; omega, by omega, by omega, by rw [hrow a (by omega) (by omega)]; omega, by unfold inI; omega, ⟨i + 1, by omega, by omega, ?_, ?_⟩, by dsimp only; omega⟩
        . rw [take_succ_nat hc]; unfold loM; rw [List.foldl_append]; rfl
        . rw [take_succ_nat hc]; unfold hiM; rw [List.foldl_append]; rfl
      . rw [List.take_of_length_le (by omega), elo.1, elo.2]
        show _ /\ _ /\ _
        rw [eab]; exact ⟨rfl, rfl, rfl⟩
theorem spec_rbrange (f : Flt) (n : Int) (l : (List Con)) (a : Int) (b : Int) (h0 : f.dr.length <= 9223372036854775807) (h1 : f.sv.length <= 9223372036854775807) (h2 : f.tm.length <= 9223372036854775807) (h3 : l.length <= 1073741824) (h4 : ∀ c ∈ l, inI c.a) : FnP Try.prog 23 [.agg ((e27 true) f), .int .i64 n, .lst true l.length (zYy e66 l), .int .i64 a, .int .i64 b] (fun xR => xR = .tup [.int .i64 ((zYv f n l a b).1), .int .i64 ((zYv f n l a b).2.1), .int .i64 ((zYv f n l a b).2.2)]) :=
  (walk_rbrange (vcp_rbrange f n l a b h0 h1 h2 h3 h4)).mono (by rintro _ ⟨_, _, _, rfl, rfl, rfl, rfl⟩; rfl)
def vc_rvald (b : Bd) (Post : Bool -> Prop) : Prop :=
  (((b.n < 1) \/ (((24 : Int) < b.n) \/ (¬ ((b.most.length : Nat) : Int) = b.n))) -> Post false) /\ (¬ ((b.n < 1) \/ (((24 : Int) < b.n) \/ (¬ ((b.most.length : Nat) : Int) = b.n))) -> ∃ (I1 : Int -> Prop) (μ1 : Int -> Nat), I1 0 /\ ∀ (v3 : Int), I1 v3 -> ((v3 < b.n) -> ((0 <= v3 /\ v3 < (b.most.length : Int)) /\ ((¬ (((lat b.most v3).length : Nat) : Int) = b.n) -> True) /\ (¬ (¬ (((lat b.most v3).length : Nat) : Int) = b.n) -> (0 <= v3 /\ v3 < (b.most.length : Int)) /\ (0 <= v3 /\ v3 < ((lat b.most v3).length : Int)) /\ True)) /\ ((((¬ (((lat b.most v3).length : Nat) : Int) = b.n) \/ (¬ lat (lat b.most v3) v3 = 0)) -> Post false) /\ (¬ ((¬ (((lat b.most v3).length : Nat) : Int) = b.n) \/ (¬ lat (lat b.most v3) v3 = 0)) -> ∃ (I2 : Int -> Prop) (μ2 : Int -> Nat), I2 0 /\ ∀ (v4 : Int), I2 v4 -> ((v4 < b.n) -> (0 <= v3 /\ v3 < (b.most.length : Int)) /\ (0 <= v4 /\ v4 < ((lat b.most v3).length : Int)) /\ (((¬ lat (lat b.most v3) v4 = 1152921504606846976) /\ (((lat (lat b.most v3) v4) < (-36028797018963968)) \/ ((36028797018963968 : Int) < (lat (lat b.most v3) v4)))) -> Post false) /\ (¬ ((¬ lat (lat b.most v3) v4 = 1152921504606846976) /\ (((lat (lat b.most v3) v4) < (-36028797018963968)) \/ ((36028797018963968 : Int) < (lat (lat b.most v3) v4)))) -> (inI (v4 + 1)) /\ (I2 (v4 + 1) /\ μ2 (v4 + 1) < μ2 v4))) /\ (¬ (v4 < b.n) -> (inI (v3 + 1)) /\ (I1 (v3 + 1) /\ μ1 (v3 + 1) < μ1 v3))))) /\ (¬ (v3 < b.n) -> ∃ (I3 : Int -> Prop) (μ3 : Int -> Nat), I3 0 /\ ∀ (v6 : Int), I3 v6 -> ((v6 < b.n) -> ∃ (I4 : Int -> Prop) (μ4 : Int -> Nat), I4 0 /\ ∀ (v7 : Int), I4 v7 -> ((v7 < b.n) -> ∃ (I5 : Int -> Prop) (μ5 : Int -> Nat), I5 0 /\ ∀ (v8 : Int), I5 v8 -> ((v8 < b.n) -> (0 <= v6 /\ v6 < (b.most.length : Int)) /\ (0 <= v7 /\ v7 < ((lat b.most v6).length : Int)) /\ (0 <= v7 /\ v7 < (b.most.length : Int)) /\ (0 <= v8 /\ v8 < ((lat b.most v7).length : Int)) /\ (¬ (lat (lat b.most v6) v7) = NB -> ¬ (lat (lat b.most v7) v8) = NB -> inI ((lat (lat b.most v6) v7) + (lat (lat b.most v7) v8))) /\ (((¬ zW (lat (lat b.most v6) v7) (lat (lat b.most v7) v8) = 1152921504606846976) -> (0 <= v6 /\ v6 < (b.most.length : Int)) /\ (0 <= v8 /\ v8 < ((lat b.most v6).length : Int)) /\ ((lat (lat b.most v6) v8 = 1152921504606846976) -> True) /\ (¬ (lat (lat b.most v6) v8 = 1152921504606846976) -> (0 <= v6 /\ v6 < (b.most.length : Int)) /\ (0 <= v8 /\ v8 < ((lat b.most v6).length : Int)) /\ True)) /\ (¬ (¬ zW (lat (lat b.most v6) v7) (lat (lat b.most v7) v8) = 1152921504606846976) -> True)) /\ ((((¬ zW (lat (lat b.most v6) v7) (lat (lat b.most v7) v8) = 1152921504606846976) /\ ((lat (lat b.most v6) v8 = 1152921504606846976) \/ ((zW (lat (lat b.most v6) v7) (lat (lat b.most v7) v8)) < (lat (lat b.most v6) v8)))) -> Post false) /\ (¬ ((¬ zW (lat (lat b.most v6) v7) (lat (lat b.most v7) v8) = 1152921504606846976) /\ ((lat (lat b.most v6) v8 = 1152921504606846976) \/ ((zW (lat (lat b.most v6) v7) (lat (lat b.most v7) v8)) < (lat (lat b.most v6) v8)))) -> (inI (v8 + 1)) /\ (I5 (v8 + 1) /\ μ5 (v8 + 1) < μ5 v8)))) /\ (¬ (v8 < b.n) -> (inI (v7 + 1)) /\ (I4 (v7 + 1) /\ μ4 (v7 + 1) < μ4 v7))) /\ (¬ (v7 < b.n) -> (inI (v6 + 1)) /\ (I3 (v6 + 1) /\ μ3 (v6 + 1) < μ3 v6))) /\ (¬ (v6 < b.n) -> Post true)))
theorem walk_rvald {b : Bd} {Post : Bool -> Prop} (hv : vc_rvald b Post) : FnP Try.prog 78 [.agg ((e53 true) b)] (fun x => ∃ q0, x = .bool q0 /\ Post q0) := by
 refine FnP.of_walk (T := tt) (nt := 136) ttOk ttMix ⟨⟨Try.f78, Try.func78, rfl, rfl, rfl, rfl⟩⟩ (by simp) ?_
 unfold vc_rvald at hv
 change W _ _ _ ⟨136, look [(0, .agg [.int .i64 b.n, .lst true b.most.length (zYy (eSl zYx true) b.most)])], [], 0⟩ _
 refine W.rL (cL rfl (o_box (v := .agg _) (p := 0) rfl rfl rfl (aB rfl rfl (eL (W.tr [(1, .ptr _ _)] [.box _ [.int _ _, .lst _ _ _]] ⟨rfl, trivial⟩ rfl (W.seq' (W.rLm ⟨136, look [(1, .ptr 0 0), (25, .bool (decide ((b.n < 1) \/ (((24 : Int) < b.n) \/ (¬ ((b.most.length : Nat) : Int) = b.n)))))], [.box 53 [.int .i64 b.n, .lst true b.most.length (zYy (eSl zYx true) b.most)]], 0⟩ ?_ ?_)))))))
 refine cL rfl (o_fa tt53 rfl tt3 rfl (cL rfl (zZx (v := .int _ _) tt3 rfl rfl ⟨_, rfl⟩ (cL rfl (zXw rfl rfl (mB rfl rfl ?_))))))
 by_cases c1 : b.n < 1
 iterate 3 refine cLs rfl rfl rfl (dT c1) ?_
 refine cL rfl (zZv (v := .bool _) rfl (dT c1) rfl (mB rfl rfl ?_))
 iterate 6 refine cLs rfl rfl rfl (rfl) ?_
 refine cL rfl (zZv (v := .bool _) rfl rfl rfl (eL (zYz ⟨rfl, (congrArg AV.bool (dOrT c1)).symm, trivial⟩ rfl)))
 refine cLg rfl rfl (dF c1) (cL rfl (o_fa tt53 rfl tt3 rfl (cLg rfl rfl (dF c1) (cL rfl (zZx (v := .int _ _) tt3 rfl rfl ⟨_, rfl⟩ (cLg rfl rfl (dF c1) (cL rfl (o_gtr rfl rfl (cL rfl (zZy (v := .bool _) rfl (dF c1) rfl (mB rfl rfl ?_)))))))))))
 by_cases c2 : (24 : Int) < b.n
 iterate 6 refine cLs rfl rfl rfl (dT c2) ?_
 refine cL rfl (zZv (v := .bool _) rfl (dT c2) rfl (eL (zYz ⟨rfl, (congrArg AV.bool (dOrF c1 (dOrT c2))).symm, trivial⟩ rfl)))
 refine cLg rfl rfl (dF c2) (cL rfl (o_fa tt53 rfl tt51 rfl (cLg rfl rfl (dF c2) (cL rfl (zZx (v := .lst _ _ _) tt51 rfl rfl ⟨_, rfl⟩ (cLg rfl rfl (dF c2) (cL rfl (zXq (v := .lst _ _ _) tt51 rfl rfl (cLg rfl rfl (dF c2) (cL rfl (o_fa tt53 rfl tt3 rfl (cLg rfl rfl (dF c2) (cL rfl (zZx (v := .int _ _) tt3 rfl rfl ⟨_, rfl⟩ (cLg rfl rfl (dF c2) (cL rfl (o_neI rfl rfl rfl (cL rfl (zZy (v := .bool _) rfl (dF c2) rfl (eL (zYz ⟨rfl, (congrArg AV.bool (dOrF c1 (dOrF c2 (rfl)))).symm, trivial⟩ rfl)))))))))))))))))))))
 refine W.cn rfl (fun hc => ?_) (fun hc => ?_)
 have hv := hv.1 hc
 refine W.rL (aB rfl rfl (eL (W.ret (zZr (rt (rt_t (v := .bool _) rfl (rt_n (⟨_, zXx _ _ _, false, rfl, hv⟩))))))))
 have hv := hv.2 hc
 refine W.skip (zZ (W.seq' (W.rL (aI rfl rfl (eL (W.block ?_))))))
 obtain ⟨I1, μ1, hp, hv⟩ := hv
 refine W.loop1 (fun v3 => ⟨136, look [(1, .ptr 0 0), (3, .int .i64 v3)], [.box 53 [.int .i64 b.n, .lst true b.most.length (zYy (eSl zYx true) b.most)]], 0⟩) I1 μ1 0 (St.to_mk (φ := [some 0]) rfl (rfl) ⟨Ren.ptr rfl, Ren.int _ _, trivial⟩ ⟨.inr ⟨_, rfl, rfl, Rens.cons (Ren.int _ _) (Rens.cons (Ren.lst _ _ _) (Rens.nil))⟩, trivial⟩) hp ?_
 clear hp
 intro v3 hI
 replace hv := hv v3 hI
 clear hI
 refine W.seq' (W.rL (mI rfl rfl (cL rfl (o_fa tt53 rfl tt3 rfl (cL rfl (zZx (v := .int _ _) tt3 rfl rfl ⟨_, rfl⟩ (cL rfl (zXw rfl rfl (eL (W.cn rfl (fun hc => ?_) (fun hc => ?_)))))))))))
 have hv := hv.1 hc
 refine W.skip (zZ (W.seq' (W.block (W.seq' ?_))))
 obtain ⟨sd, hv⟩ := hv
 refine W.rDm ⟨136, look [(1, .ptr 0 0), (3, .int .i64 v3), (51, .bool (decide ((¬ (((lat b.most v3).length : Nat) : Int) = b.n) \/ (¬ lat (lat b.most v3) v3 = 0))))], [.box 53 [.int .i64 b.n, .lst true b.most.length (zYy (eSl zYx true) b.most)]], 0⟩ [0, 1, 2, 3, 4, 5, 6, 7, 8, 9, 10, 11, 12, 13, 14, 15, 16, 17, 18, 19] (by decide +kernel) rfl ?_ ?_
 refine cL rfl (o_fa tt53 rfl tt51 rfl (cL rfl (zZx (v := .lst _ _ _) tt51 rfl rfl ⟨_, rfl⟩ (mI rfl rfl ?_))))
 obtain ⟨s167, sd⟩ := sd
 refine cL rfl (zYp tt51 tt23 rfl rfl ((encSl zYx).wd true) rfl s167 ?_)
 intro rest167
 refine cL rfl (zZx (v := .lst _ _ _) tt23 rfl rfl ⟨_, rfl⟩ (cL rfl (zXq (v := .lst _ _ _) tt23 rfl rfl (cL rfl (o_fa tt53 rfl tt3 rfl (cL rfl (zZx (v := .int _ _) tt3 rfl rfl ⟨_, rfl⟩ (cL rfl (o_neI rfl rfl rfl (mB rfl rfl ?_))))))))))
 by_cases c1 : ¬ (((lat b.most v3).length : Nat) : Int) = b.n
 iterate 9 refine cLs rfl rfl rfl (dT c1) ?_
 refine cL rfl (zZv (v := .bool _) rfl (dT c1) rfl (eL (zYz ⟨rfl, rfl, (congrArg AV.bool (dOrT c1)).symm, trivial⟩ rfl)))
 have sd := sd.2 c1
 refine cLg rfl rfl (dF c1) (cL rfl (o_fa tt53 rfl tt51 rfl (cLg rfl rfl (dF c1) (cL rfl (zZx (v := .lst _ _ _) tt51 rfl rfl ⟨_, rfl⟩ (cLg rfl rfl (dF c1) (mI rfl rfl (cLg rfl rfl (dF c1) ?_))))))))
 obtain ⟨s168, sd⟩ := sd
 refine cL rfl (zYp tt51 tt23 rfl rfl ((encSl zYx).wd true) rfl s168 ?_)
 intro rest168
 refine cLg rfl rfl (dF c1) (cL rfl (zZx (v := .lst _ _ _) tt23 rfl rfl ⟨_, rfl⟩ (cLg rfl rfl (dF c1) (mI rfl rfl (cLg rfl rfl (dF c1) ?_)))))
 obtain ⟨s169, sd⟩ := sd
 refine cL rfl (zYp tt23 tt3 rfl rfl (zZw.wd true) rfl s169 ?_)
 intro rest169
 refine cLg rfl rfl (dF c1) (cL rfl (zZx (v := .int _ _) tt3 rfl rfl ⟨_, rfl⟩ (cLg rfl rfl (dF c1) (cL rfl (o_neI rfl rfl rfl (cL rfl (zZy (v := .bool _) rfl (dF c1) rfl (eL (zYz ⟨rfl, rfl, (congrArg AV.bool (dOrF c1 (rfl))).symm, trivial⟩ rfl)))))))))
 refine W.cn rfl (fun hc => ?_) (fun hc => ?_)
 have hv := hv.1 hc
 refine W.rL (aB rfl rfl (eL (W.ret (zZr (zXz (zZr (zZr (zXz (zZr (rt (rt_t (v := .bool _) rfl (rt_n (⟨_, zXx _ _ _, false, rfl, hv⟩)))))))))))))
 have hv := hv.2 hc
 refine W.skip (zZ (W.rL (aI rfl rfl (eL (W.block ?_)))))
 obtain ⟨I2, μ2, hp, hv⟩ := hv
 refine W.loop1 (fun v4 => ⟨136, look [(1, .ptr 0 0), (3, .int .i64 v3), (4, .int .i64 v4)], [.box 53 [.int .i64 b.n, .lst true b.most.length (zYy (eSl zYx true) b.most)]], 0⟩) I2 μ2 0 (St.to_mk (φ := [some 0]) rfl (rfl) ⟨Ren.ptr rfl, Ren.int _ _, Ren.int _ _, trivial⟩ ⟨.inr ⟨_, rfl, rfl, Rens.cons (Ren.int _ _) (Rens.cons (Ren.lst _ _ _) (Rens.nil))⟩, trivial⟩) hp ?_
 clear hp
 intro v4 hI
 replace hv := hv v4 hI
 clear hI
 refine W.seq' (W.rL (mI rfl rfl (cL rfl (o_fa tt53 rfl tt3 rfl (cL rfl (zZx (v := .int _ _) tt3 rfl rfl ⟨_, rfl⟩ (cL rfl (zXw rfl rfl (eL (W.cn rfl (fun hc => ?_) (fun hc => ?_)))))))))))
 have hv := hv.1 hc
 refine W.skip (zZ (W.seq' (W.block (W.rL (cL rfl (o_fa tt53 rfl tt51 rfl (cL rfl (zZx (v := .lst _ _ _) tt51 rfl rfl ⟨_, rfl⟩ (mI rfl rfl ?_)))))))))
 obtain ⟨s177, hv⟩ := hv
 refine cL rfl (zYp tt51 tt23 rfl rfl ((encSl zYx).wd true) rfl s177 ?_)
 intro rest177
 refine cL rfl (zZx (v := .lst _ _ _) tt23 rfl rfl ⟨_, rfl⟩ (mI rfl rfl ?_))
 obtain ⟨s178, hv⟩ := hv
 refine cL rfl (zYp tt23 tt3 rfl rfl (zZw.wd true) rfl s178 ?_)
 intro rest178
 refine cL rfl (zZx (v := .int _ _) tt3 rfl rfl ⟨_, rfl⟩ (aI rfl rfl (eL (W.rLm ⟨136, look [(1, .ptr 0 0), (3, .int .i64 v3), (4, .int .i64 v4), (75, .bool (decide ((¬ lat (lat b.most v3) v4 = 1152921504606846976) /\ (((lat (lat b.most v3) v4) < (-36028797018963968)) \/ ((36028797018963968 : Int) < (lat (lat b.most v3) v4))))))], [.box 53 [.int .i64 b.n, .lst true b.most.length (zYy (eSl zYx true) b.most)]], 0⟩ ?_ ?_))))
 refine mI rfl rfl (cL rfl (o_neI rfl rfl rfl (mB rfl rfl ?_)))
 by_cases c1 : ¬ lat (lat b.most v3) v4 = 1152921504606846976
 refine cLg rfl rfl (dT c1) (mI rfl rfl (cLg rfl rfl (dT c1) (cL rfl (zXw rfl rfl (cLg rfl rfl (dT c1) (mB rfl rfl ?_))))))
 by_cases c2 : (lat (lat b.most v3) v4) < (-36028797018963968)
 iterate 2 refine cLs rfl rfl rfl (dT c2) ?_
 refine cLg rfl rfl (dT c1) (cL rfl (zZv (v := .bool _) rfl (dT c2) rfl (cL rfl (zZv (v := .bool _) rfl (dT c1) rfl (eL (zYz ⟨rfl, rfl, rfl, (congrArg AV.bool (zXp c1 (dOrT c2))).symm, trivial⟩ rfl))))))
 refine cLg rfl rfl (dF c2) (mI rfl rfl (cLg rfl rfl (dF c2) (cL rfl (o_gtr rfl rfl (cLg rfl rfl (dT c1) (cL rfl (zZy (v := .bool _) rfl (dF c2) rfl (cL rfl (zZv (v := .bool _) rfl (dT c1) rfl (eL (zYz ⟨rfl, rfl, rfl, (congrArg AV.bool (zXp c1 (dOrF c2 (rfl)))).symm, trivial⟩ rfl)))))))))))
 iterate 3 refine cLs rfl rfl rfl (dF c1) ?_
 iterate 2 refine cLu rfl rfl rfl ?_
 refine cLs rfl rfl rfl (dF c1) (cL rfl (zZy (v := .bool _) rfl (dF c1) rfl (eL (zYz ⟨rfl, rfl, rfl, (congrArg AV.bool (dAndF c1)).symm, trivial⟩ rfl))))
 refine W.cn rfl (fun hc => ?_) (fun hc => ?_)
 have hv := hv.1 hc
 refine W.rL (aB rfl rfl (eL (W.ret (zXz (zZr (zZr (zXz (zXz (zZr (zZr (zXz (zZr (rt (rt_t (v := .bool _) rfl (rt_n (⟨_, zXx _ _ _, false, rfl, hv⟩))))))))))))))))
 have hv := hv.2 hc
 refine W.skip (zYq (zZ (W.rL1 (mI rfl rfl ?_))))
 obtain ⟨s179, hv⟩ := hv
 refine cL rfl (o_add rfl rfl s179 (aI rfl rfl (eL (zZ (⟨(), (v4 + 1), hv, St.to_mk (φ := [some 0]) rfl (rfl) ⟨Ren.ptr rfl, Ren.int _ _, Ren.int _ _, trivial⟩ ⟨.inr ⟨_, rfl, rfl, Rens.cons (Ren.int _ _) (Rens.cons (Ren.lst _ _ _) (Rens.nil))⟩, trivial⟩⟩)))))
 have hv := hv.2 hc
 refine W.exit (zZt (zZt (zXy (zYq (zZ (W.rL1 (mI rfl rfl ?_)))))))
 obtain ⟨s180, hv⟩ := hv
 refine cL rfl (o_add rfl rfl s180 (aI rfl rfl (eL (zZ (⟨(), (v3 + 1), hv, St.to_mk (φ := [some 0]) rfl (rfl) ⟨Ren.ptr rfl, Ren.int _ _, trivial⟩ ⟨.inr ⟨_, rfl, rfl, Rens.cons (Ren.int _ _) (Rens.cons (Ren.lst _ _ _) (Rens.nil))⟩, trivial⟩⟩)))))
 have hv := hv.2 hc
 refine W.exit (zZt (zZt (zXy (zZ (W.seq' (W.rL (aI rfl rfl (eL (W.block ?_)))))))))
 obtain ⟨I3, μ3, hp, hv⟩ := hv
 refine W.loop1 (fun v6 => ⟨136, look [(1, .ptr 0 0), (6, .int .i64 v6)], [.box 53 [.int .i64 b.n, .lst true b.most.length (zYy (eSl zYx true) b.most)]], 0⟩) I3 μ3 0 (St.to_mk (φ := [some 0]) rfl (rfl) ⟨Ren.ptr rfl, Ren.int _ _, trivial⟩ ⟨.inr ⟨_, rfl, rfl, Rens.cons (Ren.int _ _) (Rens.cons (Ren.lst _ _ _) (Rens.nil))⟩, trivial⟩) hp ?_
 clear hp
 intro v6 hI
 replace hv := hv v6 hI
 clear hI
 refine W.seq' (W.rL (mI rfl rfl (cL rfl (o_fa tt53 rfl tt3 rfl (cL rfl (zZx (v := .int _ _) tt3 rfl rfl ⟨_, rfl⟩ (cL rfl (zXw rfl rfl (eL (W.cn rfl (fun hc => ?_) (fun hc => ?_)))))))))))
 have hv := hv.1 hc
 refine W.skip (zZ (W.seq' (W.block (W.rL (aI rfl rfl (eL (W.block ?_)))))))
 obtain ⟨I4, μ4, hp, hv⟩ := hv
 refine W.loop1 (fun v7 => ⟨136, look [(1, .ptr 0 0), (6, .int .i64 v6), (7, .int .i64 v7)], [.box 53 [.int .i64 b.n, .lst true b.most.length (zYy (eSl zYx true) b.most)]], 0⟩) I4 μ4 0 (St.to_mk (φ := [some 0]) rfl (rfl) ⟨Ren.ptr rfl, Ren.int _ _, Ren.int _ _, trivial⟩ ⟨.inr ⟨_, rfl, rfl, Rens.cons (Ren.int _ _) (Rens.cons (Ren.lst _ _ _) (Rens.nil))⟩, trivial⟩) hp ?_
 clear hp
 intro v7 hI
 replace hv := hv v7 hI
 clear hI
 refine W.seq' (W.rL (mI rfl rfl (cL rfl (o_fa tt53 rfl tt3 rfl (cL rfl (zZx (v := .int _ _) tt3 rfl rfl ⟨_, rfl⟩ (cL rfl (zXw rfl rfl (eL (W.cn rfl (fun hc => ?_) (fun hc => ?_)))))))))))
 have hv := hv.1 hc
 refine W.skip (zZ (W.seq' (W.block (W.rL (aI rfl rfl (eL (W.block ?_)))))))
 obtain ⟨I5, μ5, hp, hv⟩ := hv
 refine W.loop1 (fun v8 => ⟨136, look [(1, .ptr 0 0), (6, .int .i64 v6), (7, .int .i64 v7), (8, .int .i64 v8)], [.box 53 [.int .i64 b.n, .lst true b.most.length (zYy (eSl zYx true) b.most)]], 0⟩) I5 μ5 0 (St.to_mk (φ := [some 0]) rfl (rfl) ⟨Ren.ptr rfl, Ren.int _ _, Ren.int _ _, Ren.int _ _, trivial⟩ ⟨.inr ⟨_, rfl, rfl, Rens.cons (Ren.int _ _) (Rens.cons (Ren.lst _ _ _) (Rens.nil))⟩, trivial⟩) hp ?_
 clear hp
 intro v8 hI
 replace hv := hv v8 hI
 clear hI
 refine W.seq' (W.rL (mI rfl rfl (cL rfl (o_fa tt53 rfl tt3 rfl (cL rfl (zZx (v := .int _ _) tt3 rfl rfl ⟨_, rfl⟩ (cL rfl (zXw rfl rfl (eL (W.cn rfl (fun hc => ?_) (fun hc => ?_)))))))))))
 have hv := hv.1 hc
 refine W.skip (zZ (W.seq' (W.block (W.rD [0, 1, 2, 3, 4, 5, 6, 7, 8, 9, 10, 11, 12, 13, 14, 15, 16, 17] (by decide +kernel) rfl (cL rfl (o_fa tt53 rfl tt51 rfl (cL rfl (zZx (v := .lst _ _ _) tt51 rfl rfl ⟨_, rfl⟩ (mI rfl rfl ?_)))))))))
 obtain ⟨s1913, hv⟩ := hv
 refine cL rfl (zYp tt51 tt23 rfl rfl ((encSl zYx).wd true) rfl s1913 ?_)
 intro rest1913
 refine cL rfl (zZx (v := .lst _ _ _) tt23 rfl rfl ⟨_, rfl⟩ (mI rfl rfl ?_))
 obtain ⟨s1914, hv⟩ := hv
 refine cL rfl (zYp tt23 tt3 rfl rfl (zZw.wd true) rfl s1914 ?_)
 intro rest1914
 refine cL rfl (zZx (v := .int _ _) tt3 rfl rfl ⟨_, rfl⟩ (cL rfl (o_fa tt53 rfl tt51 rfl (cL rfl (zZx (v := .lst _ _ _) tt51 rfl rfl ⟨_, rfl⟩ (mI rfl rfl ?_))))))
 obtain ⟨s1915, hv⟩ := hv
 refine cL rfl (zYp tt51 tt23 rfl rfl ((encSl zYx).wd true) rfl s1915 ?_)
 intro rest1915
 refine cL rfl (zZx (v := .lst _ _ _) tt23 rfl rfl ⟨_, rfl⟩ (mI rfl rfl ?_))
 obtain ⟨s1916, hv⟩ := hv
 refine cL rfl (zYp tt23 tt3 rfl rfl (zZw.wd true) rfl s1916 ?_)
 intro rest1916
 refine cL rfl (zZx (v := .int _ _) tt3 rfl rfl ⟨_, rfl⟩ ?_)
 obtain ⟨s1917, hv⟩ := hv
 refine cL rfl (zZu (k := 79) (fst := []) (caps := []) (ys := [.int _ _, .int _ _]) rfl rfl (spec_rsum (lat (lat b.most v6) v7) (lat (lat b.most v7) v8) s1917) (Wks.cons (zZz _ _ _ _) (Wks.cons (zZz _ _ _ _) (Wks.refl _))) (aI rfl rfl (eL (W.tr [(1, .ptr _ _), (6, .int _ _), (7, .int _ _), (8, .int _ _), (9, .int _ _)] [.box _ [.int _ _, .lst _ _ _]] ⟨rfl, rfl, rfl, rfl, rfl, trivial⟩ rfl ?_))))
 obtain ⟨sd, hv⟩ := hv
 refine W.rLm ⟨136, look [(1, .ptr 0 0), (6, .int .i64 v6), (7, .int .i64 v7), (8, .int .i64 v8), (135, .bool (decide ((¬ zW (lat (lat b.most v6) v7) (lat (lat b.most v7) v8) = 1152921504606846976) /\ ((lat (lat b.most v6) v8 = 1152921504606846976) \/ ((zW (lat (lat b.most v6) v7) (lat (lat b.most v7) v8)) < (lat (lat b.most v6) v8))))))], [.box 53 [.int .i64 b.n, .lst true b.most.length (zYy (eSl zYx true) b.most)]], 0⟩ ?_ ?_
 refine mI rfl rfl (cL rfl (o_neI rfl rfl rfl (mB rfl rfl ?_)))
 by_cases c1 : ¬ zW (lat (lat b.most v6) v7) (lat (lat b.most v7) v8) = 1152921504606846976
 have sd := sd.1 c1
 refine cLg rfl rfl (dT c1) (cL rfl (o_fa tt53 rfl tt51 rfl (cLg rfl rfl (dT c1) (cL rfl (zZx (v := .lst _ _ _) tt51 rfl rfl ⟨_, rfl⟩ (cLg rfl rfl (dT c1) (mI rfl rfl (cLg rfl rfl (dT c1) ?_))))))))
 obtain ⟨s1922, sd⟩ := sd
 refine cL rfl (zYp tt51 tt23 rfl rfl ((encSl zYx).wd true) rfl s1922 ?_)
 intro rest1922
 refine cLg rfl rfl (dT c1) (cL rfl (zZx (v := .lst _ _ _) tt23 rfl rfl ⟨_, rfl⟩ (cLg rfl rfl (dT c1) (mI rfl rfl (cLg rfl rfl (dT c1) ?_)))))
 obtain ⟨s1923, sd⟩ := sd
 refine cL rfl (zYp tt23 tt3 rfl rfl (zZw.wd true) rfl s1923 ?_)
 intro rest1923
 refine cLg rfl rfl (dT c1) (cL rfl (zZx (v := .int _ _) tt3 rfl rfl ⟨_, rfl⟩ (cLg rfl rfl (dT c1) (cL rfl (o_eqI rfl rfl rfl (cLg rfl rfl (dT c1) (mB rfl rfl ?_)))))))
 by_cases c2 : lat (lat b.most v6) v8 = 1152921504606846976
 iterate 10 refine cLs rfl rfl rfl (dT c2) ?_
 refine cLg rfl rfl (dT c1) (cL rfl (zZv (v := .bool _) rfl (dT c2) rfl (cL rfl (zZv (v := .bool _) rfl (dT c1) rfl (eL (zYz ⟨rfl, rfl, rfl, rfl, (congrArg AV.bool (zXp c1 (dOrT c2))).symm, trivial⟩ rfl))))))
 have sd := sd.2 c2
 refine cLg rfl rfl (dF c2) (cL rfl (o_fa tt53 rfl tt51 rfl (cLg rfl rfl (dF c2) (cL rfl (zZx (v := .lst _ _ _) tt51 rfl rfl ⟨_, rfl⟩ (cLg rfl rfl (dF c2) (mI rfl rfl (cLg rfl rfl (dF c2) ?_))))))))
 obtain ⟨s1924, sd⟩ := sd
 refine cL rfl (zYp tt51 tt23 rfl rfl ((encSl zYx).wd true) rfl s1924 ?_)
 intro rest1924
 refine cLg rfl rfl (dF c2) (cL rfl (zZx (v := .lst _ _ _) tt23 rfl rfl ⟨_, rfl⟩ (cLg rfl rfl (dF c2) (mI rfl rfl (cLg rfl rfl (dF c2) ?_)))))
 obtain ⟨s1925, sd⟩ := sd
 refine cL rfl (zYp tt23 tt3 rfl rfl (zZw.wd true) rfl s1925 ?_)
 intro rest1925
 refine cLg rfl rfl (dF c2) (cL rfl (zZx (v := .int _ _) tt3 rfl rfl ⟨_, rfl⟩ (cLg rfl rfl (dF c2) (mI rfl rfl (cLg rfl rfl (dF c2) (cL rfl (o_gtr rfl rfl (cLg rfl rfl (dT c1) (cL rfl (zZy (v := .bool _) rfl (dF c2) rfl (cL rfl (zZv (v := .bool _) rfl (dT c1) rfl (eL (zYz ⟨rfl, rfl, rfl, rfl, (congrArg AV.bool (zXp c1 (dOrF c2 (rfl)))).symm, trivial⟩ rfl))))))))))))))
 iterate 10 refine cLs rfl rfl rfl (dF c1) ?_
 iterate 10 refine cLu rfl rfl rfl ?_
 refine cLs rfl rfl rfl (dF c1) (cL rfl (zZy (v := .bool _) rfl (dF c1) rfl (eL (zYz ⟨rfl, rfl, rfl, rfl, (congrArg AV.bool (dAndF c1)).symm, trivial⟩ rfl))))
 refine W.cn rfl (fun hc => ?_) (fun hc => ?_)
 have hv := hv.1 hc
 refine W.rL (aB rfl rfl (eL (W.ret (zXz (zZr (zZr (zXz (zXz (zZr (zZr (zXz (zXz (zZr (zZr (zXz (zZr (rt (rt_t (v := .bool _) rfl (rt_n (⟨_, zXx _ _ _, false, rfl, hv⟩))))))))))))))))))))
 have hv := hv.2 hc
 refine W.skip (zYq (zZ (W.rL1 (mI rfl rfl ?_))))
 obtain ⟨s1926, hv⟩ := hv
 refine cL rfl (o_add rfl rfl s1926 (aI rfl rfl (eL (zZ (⟨(), (v8 + 1), hv, St.to_mk (φ := [some 0]) rfl (rfl) ⟨Ren.ptr rfl, Ren.int _ _, Ren.int _ _, Ren.int _ _, trivial⟩ ⟨.inr ⟨_, rfl, rfl, Rens.cons (Ren.int _ _) (Rens.cons (Ren.lst _ _ _) (Rens.nil))⟩, trivial⟩⟩)))))
 have hv := hv.2 hc
 refine W.exit (zZt (zZt (zXy (zYq (zZ (W.rL1 (mI rfl rfl ?_)))))))
 obtain ⟨s1927, hv⟩ := hv
 refine cL rfl (o_add rfl rfl s1927 (aI rfl rfl (eL (zZ (⟨(), (v7 + 1), hv, St.to_mk (φ := [some 0]) rfl (rfl) ⟨Ren.ptr rfl, Ren.int _ _, Ren.int _ _, trivial⟩ ⟨.inr ⟨_, rfl, rfl, Rens.cons (Ren.int _ _) (Rens.cons (Ren.lst _ _ _) (Rens.nil))⟩, trivial⟩⟩)))))
 have hv := hv.2 hc
 refine W.exit (zZt (zZt (zXy (zYq (zZ (W.rL1 (mI rfl rfl ?_)))))))
 obtain ⟨s1928, hv⟩ := hv
 refine cL rfl (o_add rfl rfl s1928 (aI rfl rfl (eL (zZ (⟨(), (v6 + 1), hv, St.to_mk (φ := [some 0]) rfl (rfl) ⟨Ren.ptr rfl, Ren.int _ _, trivial⟩ ⟨.inr ⟨_, rfl, rfl, Rens.cons (Ren.int _ _) (Rens.cons (Ren.lst _ _ _) (Rens.nil))⟩, trivial⟩⟩)))))
 have hv := hv.2 hc
 refine W.exit (zZt (zZt (zXy (zZ (W.rL (aB rfl rfl (eL (W.ret (rt (rt_t (v := .bool _) rfl (rt_n (⟨_, zXx _ _ _, true, rfl, hv⟩))))))))))))
theorem vcp_rvald (b : Bd) (h0 : b.most.length <= 1073741824) (h1 : ∀ r ∈ b.most, r.length <= 1073741824) : vc_rvald b (fun q0 => q0 = (validBM b)) := by
  unfold vc_rvald
  have hnb := hNB
  have hfalse : ¬ VB b -> false = validBM b := fun h => (Bool.eq_false_iff.mpr fun e => h (validBM_iff.mp e)).symm
  refine ⟨fun h => hfalse fun v => ?_, fun h => ⟨fun v => ∃ i : Nat, v = i /\ i <= b.most.length /\ ∀ k, k < i -> (b.most.getD k []).length = b.most.length /\ bm b k k = 0 /\ ∀ j, j < b.most.length -> bm b k j = NB \/ -36028797018963968 <= bm b k j /\ bm b k j <= 36028797018963968, fun v => b.most.length - v.toNat, ⟨0, rfl, by omega, by omega⟩, ?_⟩⟩
  . have := v.n; omega
  rintro _ ⟨i, rfl, hi, hr⟩
  have hrow : (lat b.most (i : Int)).length = (b.most.getD i []).length := by rw [lat_nat]; rfl
  refine ⟨fun h1 => ⟨⟨by omega, fun _ => trivial, fun h2 => ⟨by omega, by omega, trivial⟩⟩, fun h2 => ?_, fun h2 => ?_⟩, fun h1 => ?_⟩
  . rw [hrow, lat_lat] at h2
    refine hfalse fun v => ?_
    have h3 := v.row i (by omega)
    have h4 := v.diag i (by omega)
    have h5 := v.n
    omega
  . rw [hrow, lat_lat] at h2
    refine ⟨fun v => ∃ j : Nat, v = j /\ j <= b.most.length /\ ∀ k, k < j -> bm b i k = NB \/ -36028797018963968 <= bm b i k /\ bm b i k <= 36028797018963968, fun v => b.most.length - v.toNat, ⟨0, rfl, by omega, by omega⟩, ?_⟩
    rintro _ ⟨j, rfl, hj, hk⟩
    rw [hrow, lat_lat]
    refine ⟨fun h3 => ⟨by omega, by omega, fun h4 => ?_, fun h4 => ⟨by unfold inI; omega, ⟨j + 1, by omega, by omega, ?_⟩, by dsimp only; omega⟩⟩, fun h3 => ⟨by unfold inI; omega, ⟨i + 1, by omega, by omega, ?_⟩, by dsimp only; omega⟩⟩
    . refine hfalse fun v => ?_
      have := v.ok i j (by omega) (by omega)
      omega
    . intro k h5
      rcases Nat.lt_or_ge k j with h6 | h6
      . exact hk k h6
      . have : k = j := by omega
        subst this; omega
    . intro k h5
      rcases Nat.lt_or_ge k i with h6 | h6
      . exact hr k h6
      . have : k = i := by omega
        subst this
        exact ⟨by omega, by omega, fun j' hj' => hk j' (by omega)⟩
  have hi' : i = b.most.length := by omega
  subst hi'
  have hL : ∀ k : Nat, k < b.most.length -> (lat b.most (k : Int)).length = b.most.length := fun k hk => by rw [lat_nat]; exact (hr k hk).1
  refine ⟨fun v => ∃ i : Nat, v = i /\ i <= b.most.length /\ ∀ i', i' < i -> ∀ j k, j < b.most.length -> k < b.most.length -> bm b i' j = NB \/ bm b i' k <= zW (bm b i' j) (bm b j k), fun v => b.most.length - v.toNat, ⟨0, rfl, by omega, by omega⟩, ?_⟩
  rintro _ ⟨i, rfl, hi, ht⟩
  refine ⟨fun h1 => ⟨fun v => ∃ j : Nat, v = j /\ j <= b.most.length /\ ∀ j', j' < j -> ∀ k, k < b.most.length -> bm b i j' = NB \/ bm b i k <= zW (bm b i j') (bm b j' k), fun v => b.most.length - v.toNat, ⟨0, rfl, by omega, by omega⟩, ?_⟩, fun h1 => ?_⟩
  . rintro _ ⟨j, rfl, hj, hu⟩
    refine ⟨fun h2 => ⟨fun v => ∃ k : Nat, v = k /\ k <= b.most.length /\ ∀ k', k' < k -> bm b i j = NB \/ bm b i k' <= zW (bm b i j) (bm b j k'), fun v => b.most.length - v.toNat, ⟨0, rfl, by omega, by omega⟩, ?_⟩, fun h2 => ⟨by unfold inI; omega, ⟨i + 1, by omega, by omega, ?_⟩, by dsimp only; omega⟩⟩
    . rintro _ ⟨k, rfl, hk, hv⟩
      refine ⟨fun h4 => ?_, fun h4 => ⟨by unfold inI; omega, ⟨j + 1, by omega, by omega, ?_⟩, by dsimp only; omega⟩⟩
      . rw [hL i (by omega), hL j (by omega), lat_lat, lat_lat, lat_lat]
        have a1 := (hr i (by omega)).2.2 j (by omega)
        have a2 := (hr j (by omega)).2.2 k (by omega)
        have a3 := (hr i (by omega)).2.2 k (by omega)
        have hx : zW (bm b i j) (bm b j k) = NB \/ (¬ bm b i j = NB /\ ¬ bm b j k = NB /\ zW (bm b i j) (bm b j k) = bm b i j + bm b j k) := by
          by_cases e1 : bm b i j = NB
          . exact .inl (plusM_inf (.inl e1))
          . by_cases e2 : bm b j k = NB
            . exact .inl (plusM_inf (.inr e2))
            . exact .inr ⟨e1, e2, plusM_nb e1 e2⟩
        refine ⟨by omega, by omega, by omega, by omega, fun _ _ => by unfold inI; omega, ⟨fun _ => ⟨by omega, by omega, fun _ => trivial, fun _ => ⟨by omega, by omega, trivial⟩⟩, fun _ => trivial⟩, fun h5 => ?_, fun h5 => ⟨by unfold inI; omega, ⟨k + 1, by omega, by omega, fun k' h6 => ?_⟩, by dsimp only; omega⟩⟩
        . refine hfalse fun v => ?_
          have := v.tri i j k (by omega) (by omega) (by omega)
          omega
        . rcases Nat.lt_or_ge k' k with h7 | h7
          . exact hv k' h7
          . have : k' = k := by omega
            subst this; omega
      . intro j' h5
        rcases Nat.lt_or_ge j' j with h6 | h6
        . exact hu j' h6
        . have : j' = j := by omega
          subst this
          exact fun k' hk' => hv k' (by omega)
    . intro i' h5
      rcases Nat.lt_or_ge i' i with h6 | h6
      . exact ht i' h6
      . have : i' = i := by omega
        subst this
        exact fun j' k' hj' hk' => hu j' (by omega) k' hk'
  . refine (validBM_iff.mpr ⟨by omega, fun k hk => (hr k hk).1, fun k hk => (hr k hk).2.1, fun k j hk hj => (hr k hk).2.2 j hj, fun i' j k hi' hj hk => ht i' (by omega) j k hj hk⟩).symm
theorem spec_rvald (b : Bd) (h0 : b.most.length <= 1073741824) (h1 : ∀ r ∈ b.most, r.length <= 1073741824) : FnP Try.prog 78 [.agg ((e53 true) b)] (fun xR => xR = .bool (validBM b)) :=
  (walk_rvald (vcp_rvald b h0 h1)).mono (by rintro _ ⟨_, rfl, rfl⟩; rfl)
def vc_rrange (b : Bd) (f : Int) (t : Int) (Post : Int -> Int -> Int -> Prop) : Prop :=
  ((b.most.length <= 1073741824) /\ (∀ r ∈ b.most, r.length <= 1073741824) /\ True) /\ ((((¬ ((validBM b) = true)) \/ ((f < 0) \/ ((b.n <= f) \/ ((t < 0) \/ (b.n <= t))))) -> Post 0 0 2) /\ (¬ ((¬ ((validBM b) = true)) \/ ((f < 0) \/ ((b.n <= f) \/ ((t < 0) \/ (b.n <= t))))) -> (0 <= t /\ t < (b.most.length : Int)) /\ (0 <= f /\ f < ((lat b.most t).length : Int)) /\ (inI (-(lat (lat b.most t) f))) /\ (0 <= f /\ f < (b.most.length : Int)) /\ (0 <= t /\ t < ((lat b.most f).length : Int)) /\ Post (-(lat (lat b.most t) f)) (lat (lat b.most f) t) 0))
theorem walk_rrange {b : Bd} {f : Int} {t : Int} {Post : Int -> Int -> Int -> Prop} (hv : vc_rrange b f t Post) : FnP Try.prog 62 [.agg ((e53 true) b), .int .i64 f, .int .i64 t] (fun x => ∃ q0 q1 q2, x = .tup [.int .i64 q0, .int .i64 q1, .int .i64 q2] /\ Post q0 q1 q2) := by
 refine FnP.of_walk (T := tt) (nt := 49) ttOk ttMix ⟨⟨Try.f62, Try.func62, rfl, rfl, rfl, rfl⟩⟩ (by simp) ?_
 unfold vc_rrange at hv
 change W _ _ _ ⟨49, look [(0, .agg [.int .i64 b.n, .lst true b.most.length (zYy (eSl zYx true) b.most)]), (1, .int .i64 f), (2, .int .i64 t)], [], 0⟩ _
 refine W.rL (cL rfl (o_box (v := .agg _) (p := 0) rfl rfl rfl ?_))
 iterate 3 refine aI rfl rfl ?_
 refine eL (W.tr [(1, .int _ _), (2, .int _ _), (3, .ptr _ _)] [.box _ [.int _ _, .lst _ _ _]] ⟨rfl, rfl, rfl, trivial⟩ rfl (W.seq' ?_))
 obtain ⟨sd, hv⟩ := hv
 refine W.rLm ⟨49, look [(1, .int .i64 f), (2, .int .i64 t), (3, .ptr 0 0), (31, .bool (decide ((¬ ((validBM b) = true)) \/ ((f < 0) \/ ((b.n <= f) \/ ((t < 0) \/ (b.n <= t)))))))], [.box 53 [.int .i64 b.n, .lst true b.most.length (zYy (eSl zYx true) b.most)]], 0⟩ ?_ ?_
 refine cL rfl (zXv (cs := [.int _ _, .lst _ _ _]) tt53 rfl rfl ⟨_, rfl⟩ rfl ?_)
 obtain ⟨s7, s8, sd⟩ := sd
 refine cL rfl (zZu (k := 78) (fst := []) (caps := []) (ys := [.agg _]) rfl rfl (spec_rvald b s7 s8) (Wks.cons (zXr 5 _ (Wks.cons (zZz _ _ _ _) (Wks.cons (zZs _ _ _ _ _) (Wks.refl _)))) (Wks.refl _)) (cL rfl (o_notB rfl (mB rfl rfl ?_))))
 by_cases c1 : ¬ ((validBM b) = true)
 iterate 2 refine cLs rfl rfl rfl (dT c1) ?_
 refine cL rfl (zZv (v := .bool _) rfl (dT c1) rfl (mB rfl rfl ?_))
 iterate 4 refine cLs rfl rfl rfl (rfl) ?_
 refine cL rfl (zZv (v := .bool _) rfl rfl rfl (mB rfl rfl ?_))
 iterate 2 refine cLs rfl rfl rfl (rfl) ?_
 refine cL rfl (zZv (v := .bool _) rfl rfl rfl (mB rfl rfl ?_))
 iterate 4 refine cLs rfl rfl rfl (rfl) ?_
 refine cL rfl (zZv (v := .bool _) rfl rfl rfl (eL (zYz ⟨rfl, rfl, rfl, (congrArg AV.bool (dOrT c1)).symm, trivial⟩ rfl)))
 refine cLg rfl rfl (dF c1) (mI rfl rfl (cLg rfl rfl (dF c1) (cL rfl (zXw rfl rfl (cL rfl (zZy (v := .bool _) rfl (dF c1) rfl (mB rfl rfl ?_)))))))
 by_cases c2 : f < 0
 iterate 4 refine cLs rfl rfl rfl (dT c2) ?_
 refine cL rfl (zZv (v := .bool _) rfl (dT c2) rfl (mB rfl rfl ?_))
 iterate 2 refine cLs rfl rfl rfl (rfl) ?_
 refine cL rfl (zZv (v := .bool _) rfl rfl rfl (mB rfl rfl ?_))
 iterate 4 refine cLs rfl rfl rfl (rfl) ?_
 refine cL rfl (zZv (v := .bool _) rfl rfl rfl (eL (zYz ⟨rfl, rfl, rfl, (congrArg AV.bool (dOrF c1 (dOrT c2))).symm, trivial⟩ rfl)))
 refine cLg rfl rfl (dF c2) (mI rfl rfl (cLg rfl rfl (dF c2) (cL rfl (o_fa tt53 rfl tt3 rfl (cLg rfl rfl (dF c2) (cL rfl (zZx (v := .int _ _) tt3 rfl rfl ⟨_, rfl⟩ (cLg rfl rfl (dF c2) (cL rfl (o_geq rfl rfl (cL rfl (zZy (v := .bool _) rfl (dF c2) rfl (mB rfl rfl ?_)))))))))))))
 by_cases c3 : b.n <= f
 iterate 2 refine cLs rfl rfl rfl (dT c3) ?_
 refine cL rfl (zZv (v := .bool _) rfl (dT c3) rfl (mB rfl rfl ?_))
 iterate 4 refine cLs rfl rfl rfl (rfl) ?_
 refine cL rfl (zZv (v := .bool _) rfl rfl rfl (eL (zYz ⟨rfl, rfl, rfl, (congrArg AV.bool (dOrF c1 (dOrF c2 (dOrT c3)))).symm, trivial⟩ rfl)))
 refine cLg rfl rfl (dF c3) (mI rfl rfl (cLg rfl rfl (dF c3) (cL rfl (zXw rfl rfl (cL rfl (zZy (v := .bool _) rfl (dF c3) rfl (mB rfl rfl ?_)))))))
 by_cases c4 : t < 0
 iterate 4 refine cLs rfl rfl rfl (dT c4) ?_
 refine cL rfl (zZv (v := .bool _) rfl (dT c4) rfl (eL (zYz ⟨rfl, rfl, rfl, (congrArg AV.bool (dOrF c1 (dOrF c2 (dOrF c3 (dOrT c4))))).symm, trivial⟩ rfl)))
 refine cLg rfl rfl (dF c4) (mI rfl rfl (cLg rfl rfl (dF c4) (cL rfl (o_fa tt53 rfl tt3 rfl (cLg rfl rfl (dF c4) (cL rfl (zZx (v := .int _ _) tt3 rfl rfl ⟨_, rfl⟩ (cLg rfl rfl (dF c4) (cL rfl (o_geq rfl rfl (cL rfl (zZy (v := .bool _) rfl (dF c4) rfl (eL (zYz ⟨rfl, rfl, rfl, (congrArg AV.bool (dOrF c1 (dOrF c2 (dOrF c3 (dOrF c4 (rfl)))))).symm, trivial⟩ rfl))))))))))))))
 refine W.cn rfl (fun hc => ?_) (fun hc => ?_)
 have hv := hv.1 hc
 refine W.rL ?_
 iterate 3 refine aI rfl rfl ?_
 refine eL (W.ret (zZr (rt ?_)))
 iterate 3 refine rt_t (v := .int _ _) rfl ?_
 refine rt_n (⟨_, rs_tup 5 _ (Wks.cons (zY _ _ _ _) (Wks.cons (zY _ _ _ _) (Wks.cons (zY _ _ _ _) (Wks.refl _)))), 0, 0, 2, rfl, hv⟩)
 have hv := hv.2 hc
 refine W.skip (zZ (W.rD [0, 1, 2, 3, 4, 5, 6, 7, 8, 9, 10, 11, 12, 13, 14, 15, 16, 17, 18, 19] (by decide +kernel) rfl (cL rfl (o_fa tt53 rfl tt51 rfl (cL rfl (zZx (v := .lst _ _ _) tt51 rfl rfl ⟨_, rfl⟩ (mI rfl rfl ?_)))))))
 obtain ⟨s9, hv⟩ := hv
 refine cL rfl (zYp tt51 tt23 rfl rfl ((encSl zYx).wd true) rfl s9 ?_)
 intro rest9
 refine cL rfl (zZx (v := .lst _ _ _) tt23 rfl rfl ⟨_, rfl⟩ (mI rfl rfl ?_))
 obtain ⟨s10, hv⟩ := hv
 refine cL rfl (zYp tt23 tt3 rfl rfl (zZw.wd true) rfl s10 ?_)
 intro rest10
 refine cL rfl (zZx (v := .int _ _) tt3 rfl rfl ⟨_, rfl⟩ ?_)
 obtain ⟨s11, hv⟩ := hv
 refine cL rfl (o_neg rfl s11 (cL rfl (o_fa tt53 rfl tt51 rfl (cL rfl (zZx (v := .lst _ _ _) tt51 rfl rfl ⟨_, rfl⟩ (mI rfl rfl ?_))))))
 obtain ⟨s12, hv⟩ := hv
 refine cL rfl (zYp tt51 tt23 rfl rfl ((encSl zYx).wd true) rfl s12 ?_)
 intro rest12
 refine cL rfl (zZx (v := .lst _ _ _) tt23 rfl rfl ⟨_, rfl⟩ (mI rfl rfl ?_))
 obtain ⟨s13, hv⟩ := hv
 refine cL rfl (zYp tt23 tt3 rfl rfl (zZw.wd true) rfl s13 ?_)
 intro rest13
 refine cL rfl (zZx (v := .int _ _) tt3 rfl rfl ⟨_, rfl⟩ ?_)
 iterate 3 refine aI rfl rfl ?_
 refine eL (W.tr [(6, .int _ _), (7, .int _ _), (8, .int _ _)] [.box _ [.int _ _, .lst _ _ _]] ⟨rfl, rfl, rfl, trivial⟩ rfl (W.ret (rt ?_)))
 iterate 3 refine rt_t (v := .int _ _) rfl ?_
 refine rt_n (⟨_, rs_tup 5 _ (Wks.cons (zY _ _ _ _) (Wks.cons (zY _ _ _ _) (Wks.cons (zY _ _ _ _) (Wks.refl _)))), (-(lat (lat b.most t) f)), (lat (lat b.most f) t), 0, rfl, hv⟩)
theorem vcp_rrange (b : Bd) (f : Int) (t : Int) (h0 : b.most.length <= 1073741824) (h1 : ∀ r ∈ b.most, r.length <= 1073741824) : vc_rrange b f t (fun q0 q1 q2 => q0 = (zWz b f t).1 /\ q1 = (zWz b f t).2.1 /\ q2 = (zWz b f t).2.2) := by
  unfold vc_rrange
  have hnb := hNB
  refine ⟨⟨h0, h1, trivial⟩, fun h => ?_, fun h => ?_⟩
  . rw [range_neg]
    . exact ⟨rfl, rfl, rfl⟩
    . rintro ⟨a1, a2, a3⟩
      rcases h with h | h
      . exact h a1
      . omega
  have hv : validBM b = true := Classical.not_not.mp fun e => h (.inl e)
  have vb := validBM_iff.mp hv
  have h9 := fun e => h (.inr e)
  have hn := vb.n
  obtain ⟨f, rfl⟩ : ∃ k : Nat, f = k := ⟨f.toNat, by omega⟩
  obtain ⟨t, rfl⟩ : ∃ k : Nat, t = k := ⟨t.toNat, by omega⟩
  have r1 := lat_blen vb.row (i := (f : Int)) (by omega)
  have r2 := lat_blen vb.row (i := (t : Int)) (by omega)
  have o := vb.ok t f (by omega) (by omega)
  rw [range_pos hv (by omega) (by omega), lat_lat, lat_lat]
  exact ⟨by omega, by omega, by unfold inI; omega, by omega, by omega, rfl, rfl, rfl⟩
theorem spec_rrange (b : Bd) (f : Int) (t : Int) (h0 : b.most.length <= 1073741824) (h1 : ∀ r ∈ b.most, r.length <= 1073741824) : FnP Try.prog 62 [.agg ((e53 true) b), .int .i64 f, .int .i64 t] (fun xR => xR = .tup [.int .i64 ((zWz b f t).1), .int .i64 ((zWz b f t).2.1), .int .i64 ((zWz b f t).2.2)]) :=
  (walk_rrange (vcp_rrange b f t h0 h1)).mono (by rintro _ ⟨_, _, _, rfl, rfl, rfl, rfl⟩; rfl)
end Go.Lat
