/- The law latecomerlaw24.ReplayMatchesReference returns true for every input, and each argument reads afterwards as it read before. Part 11 of 15. No condition. -/
import Derived.Test.YtbaillkjjlmehaaLatF
import Derived.Test.YtbaillkjjlmehaaLatD
import Derived.Test.YtbaillkjjlmehaaLatE
import Derived.Test.YtbaillkjjlmehaaLatJ
set_option linter.unusedVariables false
set_option linter.unusedSimpArgs false
set_option linter.unnecessarySimpa false
set_option maxRecDepth 100000
set_option maxHeartbeats 4000000
namespace Go.Lat
open Go.RowKit Go.Proofs
attribute [local irreducible] seqL opC
def vc_Made (sv : A3) (jobs : (List (Vector Int 6))) (ex : (List A3)) (late : Int) (obj : Int) (lone : Bool) (Post : Req -> Prop) : Prop :=
  (1 <= (30 : Int)) /\ (inI obj) /\ (inI (obj.tdiv (30 : Int))) /\ (1 <= (5 : Int)) /\ (inI (obj.tdiv (30 : Int))) /\ (1 <= (3 : Int)) /\ (inI sv.x2) /\ (inI ((1 : Int) + (pickM sv.x2 (3 : Int)))) /\ ∃ J1 : Int -> Prop, (∀ (v14 : Int), J1 v14 -> ∃ (I2 : Int -> Int -> Int -> Int -> List Int -> Prop) (μ2 : Int -> Int -> Int -> Int -> List Int -> Nat), I2 (0 : Int) (0 : Int) (pickM obj (30 : Int)) (pickM (obj.tdiv (30 : Int)) (5 : Int)) [] /\ ∀ (v15 : Int) (b2late : Int) (b2obj : Int) (b2causes : Int) (r3 : List Int), I2 v15 b2late b2obj b2causes r3 -> ((v15 < v14) -> (0 <= v15 /\ v15 < ((3 : Nat) : Int)) /\ (1 <= (2 : Int)) /\ (inI (lat [sv.x0, sv.x1, sv.x2] v15)) /\ (inI ((1 : Int) + (pickM (lat [sv.x0, sv.x1, sv.x2] v15) (2 : Int)))) /\ ((r3 ++ [((1 : Int) + (pickM (lat [sv.x0, sv.x1, sv.x2] v15) (2 : Int)))]).length <= 1073741824) /\ (inI (v15 + (1 : Int))) /\ (I2 (v15 + (1 : Int)) b2late b2obj b2causes (r3 ++ [((1 : Int) + (pickM (lat [sv.x0, sv.x1, sv.x2] v15) (2 : Int)))]) /\ μ2 (v15 + (1 : Int)) b2late b2obj b2causes (r3 ++ [((1 : Int) + (pickM (lat [sv.x0, sv.x1, sv.x2] v15) (2 : Int)))]) < μ2 v15 b2late b2obj b2causes r3)) /\ (¬ (v15 < v14) -> ∃ (I3 : Int -> Int -> Int -> Int -> Int -> List Job -> Prop) (μ3 : Int -> Int -> Int -> Int -> Int -> List Job -> Nat), I3 (0 : Int) (0 : Int) b2late b2obj b2causes [] /\ ∀ (v16 : Int) (v17 : Int) (b2late_1 : Int) (b2obj_1 : Int) (b2causes_1 : Int) (r4 : List Job), I3 v16 v17 b2late_1 b2obj_1 b2causes_1 r4 -> (((v17 < (jobs.length : Int)) /\ (v17 < (6 : Int))) -> (0 <= v17 /\ v17 < (jobs.length : Int)) /\ (0 <= (0 : Int) /\ (0 : Int) < ((6 : Nat) : Int)) /\ (1 <= (5 : Int)) /\ (inI (vat (lat jobs v17) (0 : Int).toNat)) /\ (inI (v16 + (pickM (vat (lat jobs v17) (0 : Int).toNat) (5 : Int)))) /\ (0 <= v17 /\ v17 < (jobs.length : Int)) /\ (0 <= (1 : Int) /\ (1 : Int) < ((6 : Nat) : Int)) /\ (1 <= (4 : Int)) /\ (inI (vat (lat jobs v17) (1 : Int).toNat)) /\ ∃ J4 : Int -> Prop, (∀ (v19 : Int), J4 v19 -> ∃ (I5 : Int -> Int -> List Ld -> Prop) (μ5 : Int -> Int -> List Ld -> Nat), I5 (0 : Int) (v16 + (pickM (vat (lat jobs v17) (0 : Int).toNat) (5 : Int))) [] /\ ∀ (v20 : Int) (b5ar : Int) (r6 : List Ld), I5 v20 b5ar r6 -> ((v20 < v19) -> (inI ((2 : Int) + v20)) /\ (0 <= v17 /\ v17 < (jobs.length : Int)) /\ (0 <= ((2 : Int) + v20) /\ ((2 : Int) + v20) < ((6 : Nat) : Int)) /\ (inI ((2 : Int) + v20)) /\ (0 <= v17 /\ v17 < (jobs.length : Int)) /\ (0 <= ((2 : Int) + v20) /\ ((2 : Int) + v20) < ((6 : Nat) : Int)) /\ (inI ((vat (lat jobs v17) ((2 : Int) + v20).toNat).tdiv (3 : Int))) /\ (1 <= v14) /\ (inI (vat (lat jobs v17) ((2 : Int) + v20).toNat)) /\ (1 <= (9 : Int)) /\ (inI ((vat (lat jobs v17) ((2 : Int) + v20).toNat).tdiv (3 : Int))) /\ ((r6 ++ [(Ld.mk (pickM (vat (lat jobs v17) ((2 : Int) + v20).toNat) v14) (pickM ((vat (lat jobs v17) ((2 : Int) + v20).toNat).tdiv (3 : Int)) (9 : Int)))]).length <= 1073741824) /\ (inI (v20 + (1 : Int))) /\ (I5 (v20 + (1 : Int)) b5ar (r6 ++ [(Ld.mk (pickM (vat (lat jobs v17) ((2 : Int) + v20).toNat) v14) (pickM ((vat (lat jobs v17) ((2 : Int) + v20).toNat).tdiv (3 : Int)) (9 : Int)))]) /\ μ5 (v20 + (1 : Int)) b5ar (r6 ++ [(Ld.mk (pickM (vat (lat jobs v17) ((2 : Int) + v20).toNat) v14) (pickM ((vat (lat jobs v17) ((2 : Int) + v20).toNat).tdiv (3 : Int)) (9 : Int)))]) < μ5 v20 b5ar r6)) /\ (¬ (v20 < v19) -> ((r4 ++ [(Job.mk b5ar r6)]).length <= 1073741824) /\ (inI (v17 + (1 : Int))) /\ (I3 (v16 + (pickM (vat (lat jobs v17) (0 : Int).toNat) (5 : Int))) (v17 + (1 : Int)) b2late_1 b2obj_1 b2causes_1 (r4 ++ [(Job.mk b5ar r6)]) /\ μ3 (v16 + (pickM (vat (lat jobs v17) (0 : Int).toNat) (5 : Int))) (v17 + (1 : Int)) b2late_1 b2obj_1 b2causes_1 (r4 ++ [(Job.mk b5ar r6)]) < μ3 v16 v17 b2late_1 b2obj_1 b2causes_1 r4))) /\ (((lone = true) -> J4 (min (pickM (vat (lat jobs v17) (1 : Int).toNat) (4 : Int)) (1 : Int))) /\ (¬ (lone = true) -> J4 (pickM (vat (lat jobs v17) (1 : Int).toNat) (4 : Int))))) /\ (¬ ((v17 < (jobs.length : Int)) /\ (v17 < (6 : Int))) -> ∃ J6 : List Job -> Prop, (∀ (r6 : List Job), J6 r6 -> (1 <= (r6.length : Int)) /\ (inI late) /\ ∃ (I7 : Int -> Int -> Int -> Int -> Int -> List Ext -> Prop) (μ7 : Int -> Int -> Int -> Int -> Int -> List Ext -> Nat), I7 (0 : Int) (0 : Int) (pickM late (r6.length : Int)) b2obj_1 b2causes_1 [] /\ ∀ (v21 : Int) (v22 : Int) (b2late_2 : Int) (b2obj_2 : Int) (b2causes_2 : Int) (r7 : List Ext), I7 v21 v22 b2late_2 b2obj_2 b2causes_2 r7 -> (((v22 < (r6.length : Int)) /\ ((0 : Int) < b2causes_2)) -> ∃ (I8 : Int -> Int -> Int -> Int -> Int -> List Ext -> Prop) (μ8 : Int -> Int -> Int -> Int -> Int -> List Ext -> Nat), I8 v21 (-1 : Int) b2late_2 b2obj_2 b2causes_2 r7 /\ ∀ (v21_1 : Int) (v23 : Int) (b2late_3 : Int) (b2obj_3 : Int) (b2causes_3 : Int) (r7_1 : List Ext), I8 v21_1 v23 b2late_3 b2obj_3 b2causes_3 r7_1 -> ((0 <= v22 /\ v22 < (r6.length : Int)) /\ True) /\ ((((v23 < (((lat r6 v22).wk).length : Int)) /\ (v21_1 < (ex.length : Int))) -> (0 <= v21_1 /\ v21_1 < (ex.length : Int)) /\ (1 <= b2causes_3) /\ (inI ((lat ex v21_1).x1)) /\ (0 <= v21_1 /\ v21_1 < (ex.length : Int)) /\ (1 <= (3 : Int)) /\ (inI ((lat ex v21_1).x0)) /\ ∃ J9 : Ext -> Prop, (∀ (b8 : Ext), J9 b8 -> ∃ J10 : Bool -> Prop, (∀ (v25 : Bool), J10 v25 -> ∃ J11 : List Ext -> Prop, (∀ (r10 : List Ext), J11 r10 -> (inI (v21_1 + (1 : Int))) /\ (inI (v23 + (1 : Int))) /\ (I8 (v21_1 + (1 : Int)) (v23 + (1 : Int)) b2late_3 b2obj_3 b2causes_3 r10 /\ μ8 (v21_1 + (1 : Int)) (v23 + (1 : Int)) b2late_3 b2obj_3 b2causes_3 r10 < μ8 v21_1 v23 b2late_3 b2obj_3 b2causes_3 r7_1)) /\ (((v25 = true) -> ((r7_1 ++ [b8]).length <= 1073741824) /\ J11 (r7_1 ++ [b8])) /\ (¬ (v25 = true) -> J11 r7_1))) /\ (((v23 = (-1 : Int)) -> ((0 <= v21_1 /\ v21_1 < (ex.length : Int)) /\ (1 <= (7 : Int)) /\ (inI ((lat ex v21_1).x0)) /\ True) /\ (J10 (decide ((pickM ((lat ex v21_1).x0) (7 : Int) = (0 : Int)) /\ (¬ v22 = b2late_3))))) /\ (¬ (v23 = (-1 : Int)) -> J10 (decide ((0 : Int) < (pickM ((lat ex v21_1).x0) (3 : Int))))))) /\ ((((0 : Int) <= v23) -> (0 <= v21_1 /\ v21_1 < (ex.length : Int)) /\ (0 <= v22 /\ v22 < (r6.length : Int)) /\ (0 <= v23 /\ v23 < (((lat r6 v22).wk).length : Int)) /\ (inI (((lat ((lat r6 v22).wk) v23).tm) + (1 : Int))) /\ (1 <= (((lat ((lat r6 v22).wk) v23).tm) + (1 : Int))) /\ (inI ((lat ex v21_1).x2)) /\ (0 <= v21_1 /\ v21_1 < (ex.length : Int)) /\ (inI (((lat ex v21_1).x1).tdiv (5 : Int))) /\ (1 <= (3 : Int)) /\ (inI (((lat ex v21_1).x1).tdiv (5 : Int))) /\ (0 <= v21_1 /\ v21_1 < (ex.length : Int)) /\ (inI (((lat ex v21_1).x1).tdiv (15 : Int))) /\ (1 <= (2 : Int)) /\ (inI (((lat ex v21_1).x1).tdiv (15 : Int))) /\ J9 (Ext.mk v22 v23 (pickM ((lat ex v21_1).x1) b2causes_3) (pickM ((lat ex v21_1).x2) (((lat ((lat r6 v22).wk) v23).tm) + (1 : Int))) (pickM (((lat ex v21_1).x1).tdiv (5 : Int)) (3 : Int)) (pickM (((lat ex v21_1).x1).tdiv (15 : Int)) (2 : Int)))) /\ (¬ ((0 : Int) <= v23) -> J9 (Ext.mk v22 v23 (pickM ((lat ex v21_1).x1) b2causes_3) (0 : Int) (0 : Int) (0 : Int))))) /\ (¬ ((v23 < (((lat r6 v22).wk).length : Int)) /\ (v21_1 < (ex.length : Int))) -> (inI (v22 + (1 : Int))) /\ (I7 v21_1 (v22 + (1 : Int)) b2late_3 b2obj_3 b2causes_3 r7_1 /\ μ7 v21_1 (v22 + (1 : Int)) b2late_3 b2obj_3 b2causes_3 r7_1 < μ7 v21 v22 b2late_2 b2obj_2 b2causes_2 r7)))) /\ (¬ ((v22 < (r6.length : Int)) /\ ((0 : Int) < b2causes_2)) -> Post (Req.mk r3 r6 b2late_2 b2obj_2 b2causes_2 r7))) /\ ((((r4.length : Int) = (0 : Int)) -> J6 [(Job.mk 0 [(Ld.mk 0 5)])]) /\ (¬ ((r4.length : Int) = (0 : Int)) -> J6 r4))))) /\ (((lone = true) -> J1 (1 : Int)) /\ (¬ (lone = true) -> J1 ((1 : Int) + (pickM sv.x2 (3 : Int)))))
theorem walk_Made {sv : A3} {jobs : (List (Vector Int 6))} {ex : (List A3)} {late : Int} {obj : Int} {lone : Bool} {Post : Req -> Prop} (hv : vc_Made sv jobs ex late obj lone Post) : FnP Try.prog 31 [.agg (e27 sv), .lst true jobs.length (zYy eV6 jobs), .lst true ex.length (zYy e27 ex), .int .i64 late, .int .i64 obj, .bool lone] (fun x => ∃ q0, x = .agg ((e26 false) q0) /\ Post q0) := by
 refine FnP.of_walk (T := tt) (nt := 239) ttOk ttMix ⟨⟨Try.f31, Try.func31, rfl, rfl, rfl, rfl⟩⟩ (by simp) ?_
 unfold vc_Made at hv
 change W _ _ _ ⟨239, look [(0, .agg [.int .i64 sv.x0, .int .i64 sv.x1, .int .i64 sv.x2]), (1, .lst true jobs.length (zYy eV6 jobs)), (2, .lst true ex.length (zYy e27 ex)), (3, .int .i64 late), (4, .int .i64 obj), (5, .bool lone)], [], 0⟩ _
 refine W.ty [(0, .agg _), (1, .lst _ _ _), (2, .lst _ _ _), (3, .int _ _), (4, .int _ _), (5, .bool _)] rfl (W.rL (cL rfl (o_box (v := .agg _) (p := 0) rfl rfl rfl (cL rfl (zXy (p := 1) tt26 rfl rfl (eL (W.ty [(1, .lst _ _ _), (2, .lst _ _ _), (3, .int _ _), (4, .int _ _), (5, .bool _), (6, .ptr _ _), (12, .ptr _ _)] rfl (W.rL (mI rfl rfl ?_)))))))))
 obtain ⟨s1, s2, hv⟩ := hv
 refine cL rfl (zZu (k := 52) (fst := []) (caps := []) (ys := [.int _ _, .int _ _]) rfl rfl (spec_pick52 obj (30 : Int) s1 s2) zk (mI rfl rfl ?_))
 obtain ⟨s3, hv⟩ := hv
 refine cL rfl (o_quo rfl rfl (by decide) s3 ?_)
 obtain ⟨s4, s5, hv⟩ := hv
 refine cL rfl (zZu (k := 52) (fst := []) (caps := []) (ys := [.int _ _, .int _ _]) rfl rfl (spec_pick52 (obj.tdiv (30 : Int)) (5 : Int) s4 s5) zk (cL rfl (o_build (qs := [(3, .int _ _), (4, .int _ _)]) (cs := [.nilS, .nilS, .int _ _, .int _ _, .int _ _, .nilS]) tt26 rfl rfl rfl (cL rfl (zXy (p := 2) tt26 rfl rfl (cLn (o_stB (v := .agg _) (vs := [.nilS, .nilS, .int _ _, .int _ _, .int _ _, .nilS]) (cs2 := [.nilS, .nilS, .int _ _, .int _ _, .int _ _, .nilS]) tt26 rfl rfl rfl rfl rfl (Nat.le_of_ble_eq_true rfl) rfl (eL (W.ty [(1, .lst _ _ _), (2, .lst _ _ _), (3, .int _ _), (5, .bool _), (6, .ptr _ _), (12, .ptr _ _), (13, .ptr _ _)] rfl (W.rL (cL rfl (o_iaA tt27 tt3 rfl rfl ⟨by decide, by decide⟩ rfl (cL rfl (zZx (v := .int _ _) tt3 rfl rfl ⟨_, rfl⟩ ?_))))))))))))))
 obtain ⟨s6, s7, hv⟩ := hv
 refine cL rfl (zZu (k := 52) (fst := []) (caps := []) (ys := [.int _ _, .int _ _]) rfl rfl (spec_pick52 sv.x2 (3 : Int) s6 s7) zk ?_)
 obtain ⟨s8, hv⟩ := hv
 refine cL rfl (o_add rfl rfl s8 (aI rfl rfl (eL (W.ty [(1, .lst _ _ _), (2, .lst _ _ _), (3, .int _ _), (5, .bool _), (6, .ptr _ _), (12, .ptr _ _), (13, .ptr _ _), (14, .int _ _)] rfl ?_))))
 obtain ⟨J1, hj, hv⟩ := hv
 refine W.mid1 (fun v14 => ⟨239, look [(1, .lst true jobs.length (zYy eV6 jobs)), (2, .lst true ex.length (zYy e27 ex)), (3, .int .i64 late), (5, .bool lone), (6, .ptr 0 0), (12, .ptr 1 0), (13, .ptr 2 0), (14, .int .i64 v14)], [.box 27 [.int .i64 sv.x0, .int .i64 sv.x1, .int .i64 sv.x2], .box 26 [.nilS, .nilS, .int .i64 (0 : Int), .int .i64 (0 : Int), .int .i64 (0 : Int), .nilS], .box 26 [.nilS, .nilS, .int .i64 (0 : Int), .int .i64 (pickM obj (30 : Int)), .int .i64 (pickM (obj.tdiv (30 : Int)) (5 : Int)), .nilS]], 0⟩) J1 ?_ ?_
 intro v14
 intro hv
 replace hv := hj v14 hv
 refine W.seq' (W.rL (aI rfl rfl (eL (W.ty [(1, .lst _ _ _), (2, .lst _ _ _), (3, .int _ _), (5, .bool _), (6, .ptr _ _), (12, .ptr _ _), (13, .ptr _ _), (14, .int _ _), (15, .int _ _)] rfl (W.block ?_)))))
 obtain ⟨I2, μ2, hp, hv⟩ := hv
 refine W.loop5 (fun v15 b2late b2obj b2causes r3 => ⟨239, look [(1, .lst true jobs.length (zYy eV6 jobs)), (2, .lst true ex.length (zYy e27 ex)), (3, .int .i64 late), (5, .bool lone), (6, .ptr 0 0), (12, .ptr 1 0), (13, .ptr 2 0), (14, .int .i64 v14), (15, .int .i64 v15)], [.box 27 [.int .i64 sv.x0, .int .i64 sv.x1, .int .i64 sv.x2], .box 26 [.nilS, .nilS, .int .i64 (0 : Int), .int .i64 (0 : Int), .int .i64 (0 : Int), .nilS], .box 26 [.ref true 3 r3.length, .nilS, .int .i64 b2late, .int .i64 b2obj, .int .i64 b2causes, .nilS], .row 3 1 (zYy zYx r3)], 0⟩) I2 μ2 (0 : Int) (0 : Int) (pickM obj (30 : Int)) (pickM (obj.tdiv (30 : Int)) (5 : Int)) [] (St.to_mk (φ := [some 0, some 1, some 2, none]) rfl (rfl) ⟨Ren.lst _ _ _, Ren.lst _ _ _, Ren.int _ _, Ren.bool _, Ren.ptr rfl, Ren.ptr rfl, Ren.ptr rfl, Ren.int _ _, Ren.int _ _, trivial⟩ ⟨(zB rfl rfl), (zB rfl rfl), .inr ⟨_, rfl, rfl, Rens.cons (Ren.nilR rfl rfl) (zR rfl)⟩, rfl, trivial⟩) hp ?_
 clear hp
 intro v15 b2late b2obj b2causes r3 hI
 replace hv := hv v15 b2late b2obj b2causes r3 hI
 clear hI
 refine W.seq' (W.rL ?_)
 iterate 2 refine mI rfl rfl ?_
 refine cL rfl (zYq rfl rfl (eL (W.ty [(1, .lst _ _ _), (2, .lst _ _ _), (3, .int _ _), (5, .bool _), (6, .ptr _ _), (12, .ptr _ _), (13, .ptr _ _), (14, .int _ _), (15, .int _ _), (39, .bool _)] rfl (W.cn rfl (fun hc => ?_) (fun hc => ?_)))))
 have hv := hv.1 hc
 refine W.skip (zZ (W.ty [(1, .lst _ _ _), (2, .lst _ _ _), (3, .int _ _), (5, .bool _), (6, .ptr _ _), (12, .ptr _ _), (13, .ptr _ _), (14, .int _ _), (15, .int _ _)] rfl (W.seq' (W.block (W.rD1 [0, 1, 2, 3, 4, 5, 6, 7, 8, 9, 10] (by decide +kernel) rfl (cL rfl (o_fa tt26 rfl tt22 rfl (cL rfl (zZx (v := .ref _ _ _) tt22 rfl rfl ⟨_, rfl⟩ (mI rfl rfl ?_))))))))))
 obtain ⟨s69, hv⟩ := hv
 refine cL rfl (o_iaA tt27 tt3 rfl rfl s69 (by rw [Nat.mul_one, Nat.zero_add]) (cL rfl (zZx (v := .int _ _) tt3 rfl rfl (ca_arr (xs := [sv.x0, sv.x1, sv.x2]) rfl s69) ?_)))
 obtain ⟨s70, s71, hv⟩ := hv
 refine cL rfl (zZu (k := 52) (fst := []) (caps := []) (ys := [.int _ _, .int _ _]) rfl rfl (spec_pick52 (lat [sv.x0, sv.x1, sv.x2] v15) (2 : Int) s70 s71) zk ?_)
 obtain ⟨s72, hv⟩ := hv
 refine cL rfl (o_add rfl rfl s72 (cL rfl (o_bs1 (v := .int _ _) (q := 4) tt22 tt3 rfl rfl rfl rfl rfl rfl rfl rfl ?_)))
 obtain ⟨s73, hv⟩ := hv
 refine cL rfl (o_apR (p := 5) (q := (r3 ++ [((1 : Int) + (pickM (lat [sv.x0, sv.x1, sv.x2] v15) (2 : Int)))]).length) tt22 tt3 rfl rfl (src_ref rfl rfl) rfl rfl (zYw (zZw.wd false) _) (Nat.le_trans (Nat.le_of_eq (@List.length_append _ (r3) ([((1 : Int) + (pickM (lat [sv.x0, sv.x1, sv.x2] v15) (2 : Int)))])).symm) s73) rfl (@List.length_append _ (r3) ([((1 : Int) + (pickM (lat [sv.x0, sv.x1, sv.x2] v15) (2 : Int)))])).symm (encL_app zYx r3 [((1 : Int) + (pickM (lat [sv.x0, sv.x1, sv.x2] v15) (2 : Int)))]) (cL rfl (o_fa tt26 rfl tt22 rfl (cLn (o_stB (v := .ref _ _ _) (vs := [.ref _ _ _]) (cs2 := [.ref _ _ _, .nilS, .int _ _, .int _ _, .int _ _, .nilS]) tt22 rfl rfl rfl rfl rfl (Nat.le_of_ble_eq_true rfl) rfl (eL (zYv (zZ (W.ty [(1, .lst _ _ _), (2, .lst _ _ _), (3, .int _ _), (5, .bool _), (6, .ptr _ _), (12, .ptr _ _), (13, .ptr _ _), (14, .int _ _), (15, .int _ _)] rfl (W.rL1 (mI rfl rfl ?_)))))))))))
 obtain ⟨s74, hv⟩ := hv
 refine cL rfl (o_add rfl rfl s74 (aI rfl rfl (eL (zZ (⟨(), (v15 + (1 : Int)), b2late, b2obj, b2causes, (r3 ++ [((1 : Int) + (pickM (lat [sv.x0, sv.x1, sv.x2] v15) (2 : Int)))]), hv, St.to_mk (φ := [some 0, some 1, some 2, some 5]) rfl (rfl) ⟨Ren.lst _ _ _, Ren.lst _ _ _, Ren.int _ _, Ren.bool _, Ren.ptr rfl, Ren.ptr rfl, Ren.ptr rfl, Ren.int _ _, Ren.int _ _, trivial⟩ ⟨(zB rfl rfl), (zB rfl rfl), .inr ⟨_, rfl, rfl, Rens.cons (Ren.ref rfl (fun h => rfl)) (zR rfl)⟩, .inr ⟨_, rfl, rfl, rfl, rfl, Rens.enc zZw false (r3 ++ [((1 : Int) + (pickM (lat [sv.x0, sv.x1, sv.x2] v15) (2 : Int)))])⟩, trivial⟩⟩)))))
 have hv := hv.2 hc
 refine W.exit (zZt (zZt (zYs (zZ (W.ty [(1, .lst _ _ _), (2, .lst _ _ _), (3, .int _ _), (5, .bool _), (12, .ptr _ _), (13, .ptr _ _), (14, .int _ _)] rfl (W.rL (aI rfl rfl (eL (W.ty [(1, .lst _ _ _), (2, .lst _ _ _), (3, .int _ _), (5, .bool _), (12, .ptr _ _), (13, .ptr _ _), (14, .int _ _), (16, .int _ _)] rfl (W.seq' (W.rL (aI rfl rfl (eL (W.ty [(1, .lst _ _ _), (2, .lst _ _ _), (3, .int _ _), (5, .bool _), (12, .ptr _ _), (13, .ptr _ _), (14, .int _ _), (16, .int _ _), (17, .int _ _)] rfl (W.block ?_)))))))))))))))
 obtain ⟨I3, μ3, hp, hv⟩ := hv
 refine W.loop6 (fun v16 v17 b2late_1 b2obj_1 b2causes_1 r4 => ⟨239, look [(1, .lst true jobs.length (zYy eV6 jobs)), (2, .lst true ex.length (zYy e27 ex)), (3, .int .i64 late), (5, .bool lone), (12, .ptr 1 0), (13, .ptr 2 0), (14, .int .i64 v14), (16, .int .i64 v16), (17, .int .i64 v17)], [.dead, .box 26 [.nilS, .nilS, .int .i64 (0 : Int), .int .i64 (0 : Int), .int .i64 (0 : Int), .nilS], .box 26 [.ref true 3 r3.length, .ref true 4 r4.length, .int .i64 b2late_1, .int .i64 b2obj_1, .int .i64 b2causes_1, .nilS], .row 3 1 (zYy zYx r3), .row 53 2 (zYy (e53 false) r4)], 0⟩) I3 μ3 (0 : Int) (0 : Int) b2late b2obj b2causes [] (St.to_mk (φ := [none, some 1, some 2, some 3, none]) rfl (rfl) ⟨Ren.lst _ _ _, Ren.lst _ _ _, Ren.int _ _, Ren.bool _, Ren.ptr rfl, Ren.ptr rfl, Ren.int _ _, Ren.int _ _, Ren.int _ _, trivial⟩ ⟨rfl, (zB rfl rfl), .inr ⟨_, rfl, rfl, Rens.cons (Ren.ref rfl (fun h => rfl)) (Rens.cons (Ren.nilR rfl rfl) (zR rfl))⟩, zE zZw false r3 rfl, rfl, trivial⟩) hp ?_
 clear hp
 intro v16 v17 b2late_1 b2obj_1 b2causes_1 r4 hI
 replace hv := hv v16 v17 b2late_1 b2obj_1 b2causes_1 r4 hI
 clear hI
 refine W.seq' (W.rLm ⟨239, look [(1, .lst true jobs.length (zYy eV6 jobs)), (2, .lst true ex.length (zYy e27 ex)), (3, .int .i64 late), (5, .bool lone), (12, .ptr 1 0), (13, .ptr 2 0), (14, .int .i64 v14), (16, .int .i64 v16), (17, .int .i64 v17), (59, .bool (decide ((v17 < (jobs.length : Int)) /\ (v17 < (6 : Int)))))], [.dead, .box 26 [.nilS, .nilS, .int .i64 (0 : Int), .int .i64 (0 : Int), .int .i64 (0 : Int), .nilS], .box 26 [.ref true 3 r3.length, .ref true 4 r4.length, .int .i64 b2late_1, .int .i64 b2obj_1, .int .i64 b2causes_1, .nilS], .row 3 1 (zYy zYx r3), .row 53 2 (zYy (e53 false) r4)], 0⟩ ?_ ?_)
 refine mI rfl rfl (mL rfl rfl (cL rfl (zXw (v := .lst _ _ _) tt28 rfl rfl (cL rfl (zYq rfl rfl (mB rfl rfl ?_))))))
 by_cases c1 : v17 < (jobs.length : Int)
 refine cLg rfl rfl (dT c1) (mI rfl rfl (cLg rfl rfl (dT c1) (cL rfl (zYq rfl rfl (cL rfl (zZv (v := .bool _) rfl (dT c1) rfl (eL (zYz ⟨rfl, rfl, rfl, rfl, rfl, rfl, rfl, rfl, rfl, (congrArg AV.bool (zXv c1 (rfl))).symm, trivial⟩ rfl))))))))
 iterate 2 refine cLs rfl rfl rfl (dF c1) ?_
 refine cL rfl (zZy (v := .bool _) rfl (dF c1) rfl (eL (zYz ⟨rfl, rfl, rfl, rfl, rfl, rfl, rfl, rfl, rfl, (congrArg AV.bool (dAndF c1)).symm, trivial⟩ rfl)))
 refine W.cn rfl (fun hc => ?_) (fun hc => ?_)
 have hv := hv.1 hc
 refine W.skip (zZ (W.ty [(1, .lst _ _ _), (2, .lst _ _ _), (3, .int _ _), (5, .bool _), (12, .ptr _ _), (13, .ptr _ _), (14, .int _ _), (16, .int _ _), (17, .int _ _)] rfl (W.seq' (W.block (W.rL (mI rfl rfl (mL rfl rfl (mI rfl rfl ?_))))))))
 obtain ⟨s1836, hv⟩ := hv
 refine cL rfl (zYu tt28 tt93 rfl rfl (encV6.wd true) rfl s1836 ?_)
 intro rest1836
 obtain ⟨s1837, hv⟩ := hv
 refine cL rfl (o_iaPV tt93 tt3 rfl rfl s1837 ?_)
 intro rest1837
 refine cL rfl (zZx (v := .int _ _) tt3 rfl rfl ⟨_, rfl⟩ ?_)
 obtain ⟨s1838, s1839, hv⟩ := hv
 refine cL rfl (zZu (k := 52) (fst := []) (caps := []) (ys := [.int _ _, .int _ _]) rfl rfl (spec_pick52 (vat (lat jobs v17) (0 : Int).toNat) (5 : Int) s1838 s1839) zk ?_)
 obtain ⟨s1840, hv⟩ := hv
 refine cL rfl (o_add rfl rfl s1840 (aI rfl rfl (eL (W.ty [(1, .lst _ _ _), (2, .lst _ _ _), (3, .int _ _), (5, .bool _), (12, .ptr _ _), (13, .ptr _ _), (14, .int _ _), (16, .int _ _), (17, .int _ _)] rfl (W.rL (mI rfl rfl (cL rfl (o_build (qs := [(0, .int _ _)]) (cs := [.int _ _, .nilS]) tt53 rfl rfl rfl (cL rfl (zXy (p := 5) tt53 rfl rfl (cLn (o_stB (v := .agg _) (vs := [.int _ _, .nilS]) (cs2 := [.int _ _, .nilS]) tt53 rfl rfl rfl rfl rfl (Nat.le_of_ble_eq_true rfl) rfl (eL (W.ty [(1, .lst _ _ _), (2, .lst _ _ _), (3, .int _ _), (5, .bool _), (12, .ptr _ _), (13, .ptr _ _), (14, .int _ _), (16, .int _ _), (17, .int _ _), (18, .ptr _ _)] rfl (W.rL (mL rfl rfl (mI rfl rfl ?_)))))))))))))))))
 obtain ⟨s1841, hv⟩ := hv
 refine cL rfl (zYu tt28 tt93 rfl rfl (encV6.wd true) rfl s1841 ?_)
 intro rest1841
 obtain ⟨s1842, hv⟩ := hv
 refine cL rfl (o_iaPV tt93 tt3 rfl rfl s1842 ?_)
 intro rest1842
 refine cL rfl (zZx (v := .int _ _) tt3 rfl rfl ⟨_, rfl⟩ ?_)
 obtain ⟨s1843, s1844, hv⟩ := hv
 refine cL rfl (zZu (k := 52) (fst := []) (caps := []) (ys := [.int _ _, .int _ _]) rfl rfl (spec_pick52 (vat (lat jobs v17) (1 : Int).toNat) (4 : Int) s1843 s1844) zk (aI rfl rfl (eL (W.ty [(1, .lst _ _ _), (2, .lst _ _ _), (3, .int _ _), (5, .bool _), (12, .ptr _ _), (13, .ptr _ _), (14, .int _ _), (16, .int _ _), (17, .int _ _), (18, .ptr _ _), (19, .int _ _)] rfl ?_))))
 obtain ⟨J4, hj, hv⟩ := hv
 refine W.mid1 (fun v19 => ⟨239, look [(1, .lst true jobs.length (zYy eV6 jobs)), (2, .lst true ex.length (zYy e27 ex)), (3, .int .i64 late), (5, .bool lone), (12, .ptr 1 0), (13, .ptr 2 0), (14, .int .i64 v14), (16, .int .i64 (v16 + (pickM (vat (lat jobs v17) (0 : Int).toNat) (5 : Int)))), (17, .int .i64 v17), (18, .ptr 5 0), (19, .int .i64 v19)], [.dead, .box 26 [.nilS, .nilS, .int .i64 (0 : Int), .int .i64 (0 : Int), .int .i64 (0 : Int), .nilS], .box 26 [.ref true 3 r3.length, .ref true 4 r4.length, .int .i64 b2late_1, .int .i64 b2obj_1, .int .i64 b2causes_1, .nilS], .row 3 1 (zYy zYx r3), .row 53 2 (zYy (e53 false) r4), .box 53 [.int .i64 (v16 + (pickM (vat (lat jobs v17) (0 : Int).toNat) (5 : Int))), .nilS]], 0⟩) J4 ?_ ?_
 intro v19
 intro hv
 replace hv := hj v19 hv
 refine W.seq' (W.rL (aI rfl rfl (eL (W.ty [(1, .lst _ _ _), (2, .lst _ _ _), (3, .int _ _), (5, .bool _), (12, .ptr _ _), (13, .ptr _ _), (14, .int _ _), (16, .int _ _), (17, .int _ _), (18, .ptr _ _), (19, .int _ _), (20, .int _ _)] rfl (W.block ?_)))))
 obtain ⟨I5, μ5, hp, hv⟩ := hv
 refine W.loop3 (fun v20 b5ar r6 => ⟨239, look [(1, .lst true jobs.length (zYy eV6 jobs)), (2, .lst true ex.length (zYy e27 ex)), (3, .int .i64 late), (5, .bool lone), (12, .ptr 1 0), (13, .ptr 2 0), (14, .int .i64 v14), (16, .int .i64 (v16 + (pickM (vat (lat jobs v17) (0 : Int).toNat) (5 : Int)))), (17, .int .i64 v17), (18, .ptr 5 0), (19, .int .i64 v19), (20, .int .i64 v20)], [.dead, .box 26 [.nilS, .nilS, .int .i64 (0 : Int), .int .i64 (0 : Int), .int .i64 (0 : Int), .nilS], .box 26 [.ref true 3 r3.length, .ref true 4 r4.length, .int .i64 b2late_1, .int .i64 b2obj_1, .int .i64 b2causes_1, .nilS], .row 3 1 (zYy zYx r3), .row 53 2 (zYy (e53 false) r4), .box 53 [.int .i64 b5ar, .ref true 6 r6.length], .row 60 2 (zYy e60 r6)], 0⟩) I5 μ5 (0 : Int) (v16 + (pickM (vat (lat jobs v17) (0 : Int).toNat) (5 : Int))) [] (St.to_mk (φ := [none, some 1, some 2, some 3, some 4, some 5, none]) rfl (rfl) ⟨Ren.lst _ _ _, Ren.lst _ _ _, Ren.int _ _, Ren.bool _, Ren.ptr rfl, Ren.ptr rfl, Ren.int _ _, Ren.int _ _, Ren.int _ _, Ren.ptr rfl, Ren.int _ _, Ren.int _ _, trivial⟩ ⟨rfl, (zB rfl rfl), .inr ⟨_, rfl, rfl, Rens.cons (Ren.ref rfl (fun h => rfl)) (Rens.cons (Ren.ref rfl (fun h => rfl)) (zR rfl))⟩, zE zZw false r3 rfl, zE enc53 false r4 rfl, .inr ⟨_, rfl, rfl, Rens.cons (Ren.int _ _) (Rens.cons (Ren.nilR rfl rfl) (Rens.nil))⟩, rfl, trivial⟩) hp ?_
 clear hp
 intro v20 b5ar r6 hI
 replace hv := hv v20 b5ar r6 hI
 clear hI
 refine W.seq' (W.rL ?_)
 iterate 2 refine mI rfl rfl ?_
 refine cL rfl (zYq rfl rfl (eL (W.ty [(1, .lst _ _ _), (2, .lst _ _ _), (3, .int _ _), (5, .bool _), (12, .ptr _ _), (13, .ptr _ _), (14, .int _ _), (16, .int _ _), (17, .int _ _), (18, .ptr _ _), (19, .int _ _), (20, .int _ _), (83, .bool _)] rfl (W.cn rfl (fun hc => ?_) (fun hc => ?_)))))
 have hv := hv.1 hc
 refine W.skip (zZ (W.ty [(1, .lst _ _ _), (2, .lst _ _ _), (3, .int _ _), (5, .bool _), (12, .ptr _ _), (13, .ptr _ _), (14, .int _ _), (16, .int _ _), (17, .int _ _), (18, .ptr _ _), (19, .int _ _), (20, .int _ _)] rfl (W.seq' (W.block (W.rP1 [0, 1, 2, 3, 4, 5, 6, 7, 8, 9, 11, 12, 13, 14, 15, 16, 17, 18, 10, 19, 20, 21, 22, 23, 24] (by decide +kernel) rfl (cL rfl (o_fa tt53 rfl tt51 rfl (cL rfl (zZx (v := .ref _ _ _) tt51 rfl rfl ⟨_, rfl⟩ (mL rfl rfl ?_))))))))))
 iterate 2 refine mI rfl rfl ?_
 obtain ⟨s1982, hv⟩ := hv
 refine cL rfl (o_add rfl rfl s1982 ?_)
 obtain ⟨s1983, hv⟩ := hv
 refine cL rfl (zYu tt28 tt93 rfl rfl (encV6.wd true) rfl s1983 ?_)
 intro rest1983
 obtain ⟨s1984, hv⟩ := hv
 refine cL rfl (o_iaPV tt93 tt3 rfl rfl s1984 ?_)
 intro rest1984
 refine cL rfl (zZx (v := .int _ _) tt3 rfl rfl ⟨_, rfl⟩ (mI rfl rfl (mL rfl rfl ?_)))
 iterate 2 refine mI rfl rfl ?_
 obtain ⟨s1985, hv⟩ := hv
 refine cL rfl (o_add rfl rfl s1985 ?_)
 obtain ⟨s1986, hv⟩ := hv
 refine cL rfl (zYu tt28 tt93 rfl rfl (encV6.wd true) rfl s1986 ?_)
 intro rest1986
 obtain ⟨s1987, hv⟩ := hv
 refine cL rfl (o_iaPV tt93 tt3 rfl rfl s1987 ?_)
 intro rest1987
 refine cL rfl (zZx (v := .int _ _) tt3 rfl rfl ⟨_, rfl⟩ ?_)
 obtain ⟨s1988, hv⟩ := hv
 refine cL rfl (o_quo rfl rfl (by decide) s1988 ?_)
 obtain ⟨s1989, s1990, hv⟩ := hv
 refine cL rfl (zZu (k := 52) (fst := []) (caps := []) (ys := [.int _ _, .int _ _]) rfl rfl (spec_pick52 (vat (lat jobs v17) ((2 : Int) + v20).toNat) v14 s1989 s1990) zk ?_)
 obtain ⟨s1991, s1992, hv⟩ := hv
 refine cL rfl (zZu (k := 52) (fst := []) (caps := []) (ys := [.int _ _, .int _ _]) rfl rfl (spec_pick52 ((vat (lat jobs v17) ((2 : Int) + v20).toNat).tdiv (3 : Int)) (9 : Int) s1991 s1992) zk (cL rfl (o_build (qs := [(0, .int _ _), (1, .int _ _)]) (cs := [.int _ _, .int _ _]) tt60 rfl rfl rfl (cL rfl (o_bs1 (v := .agg _) (q := 7) tt51 tt60 rfl rfl rfl rfl rfl rfl rfl rfl ?_)))))
 obtain ⟨s1993, hv⟩ := hv
 refine cL rfl (o_apR (p := 8) (q := (r6 ++ [(Ld.mk (pickM (vat (lat jobs v17) ((2 : Int) + v20).toNat) v14) (pickM ((vat (lat jobs v17) ((2 : Int) + v20).toNat).tdiv (3 : Int)) (9 : Int)))]).length) tt51 tt60 rfl rfl (src_ref rfl rfl) rfl rfl (zYw (enc60.wd false) _) (Nat.le_trans (Nat.le_of_eq (@List.length_append _ (r6) ([(Ld.mk (pickM (vat (lat jobs v17) ((2 : Int) + v20).toNat) v14) (pickM ((vat (lat jobs v17) ((2 : Int) + v20).toNat).tdiv (3 : Int)) (9 : Int)))])).symm) s1993) rfl (@List.length_append _ (r6) ([(Ld.mk (pickM (vat (lat jobs v17) ((2 : Int) + v20).toNat) v14) (pickM ((vat (lat jobs v17) ((2 : Int) + v20).toNat).tdiv (3 : Int)) (9 : Int)))])).symm (encL_app e60 r6 [(Ld.mk (pickM (vat (lat jobs v17) ((2 : Int) + v20).toNat) v14) (pickM ((vat (lat jobs v17) ((2 : Int) + v20).toNat).tdiv (3 : Int)) (9 : Int)))]) (cL rfl (o_fa tt53 rfl tt51 rfl (cLn (o_stB (v := .ref _ _ _) (vs := [.ref _ _ _]) (cs2 := [.int _ _, .ref _ _ _]) tt51 rfl rfl rfl rfl rfl (Nat.le_of_ble_eq_true rfl) rfl (eL (zYv (zZ (W.ty [(1, .lst _ _ _), (2, .lst _ _ _), (3, .int _ _), (5, .bool _), (12, .ptr _ _), (13, .ptr _ _), (14, .int _ _), (16, .int _ _), (17, .int _ _), (18, .ptr _ _), (19, .int _ _), (20, .int _ _)] rfl (W.rL1 (mI rfl rfl ?_)))))))))))
 obtain ⟨s1994, hv⟩ := hv
 refine cL rfl (o_add rfl rfl s1994 (aI rfl rfl (eL (zZ (⟨(), (v20 + (1 : Int)), b5ar, (r6 ++ [(Ld.mk (pickM (vat (lat jobs v17) ((2 : Int) + v20).toNat) v14) (pickM ((vat (lat jobs v17) ((2 : Int) + v20).toNat).tdiv (3 : Int)) (9 : Int)))]), hv, St.to_mk (φ := [none, some 1, some 2, some 3, some 4, some 5, some 8]) rfl (rfl) ⟨Ren.lst _ _ _, Ren.lst _ _ _, Ren.int _ _, Ren.bool _, Ren.ptr rfl, Ren.ptr rfl, Ren.int _ _, Ren.int _ _, Ren.int _ _, Ren.ptr rfl, Ren.int _ _, Ren.int _ _, trivial⟩ ⟨rfl, (zB rfl rfl), .inr ⟨_, rfl, rfl, Rens.cons (Ren.ref rfl (fun h => rfl)) (Rens.cons (Ren.ref rfl (fun h => rfl)) (zR rfl))⟩, zE zZw false r3 rfl, zE enc53 false r4 rfl, .inr ⟨_, rfl, rfl, Rens.cons (Ren.int _ _) (Rens.cons (Ren.ref rfl (fun h => rfl)) (Rens.nil))⟩, zE enc60 false (r6 ++ [(Ld.mk (pickM (vat (lat jobs v17) ((2 : Int) + v20).toNat) v14) (pickM ((vat (lat jobs v17) ((2 : Int) + v20).toNat).tdiv (3 : Int)) (9 : Int)))]) rfl, trivial⟩⟩)))))
 have hv := hv.2 hc
 refine W.exit (zZt (zZt (zYs (zZ (W.ty [(1, .lst _ _ _), (2, .lst _ _ _), (3, .int _ _), (5, .bool _), (12, .ptr _ _), (13, .ptr _ _), (14, .int _ _), (16, .int _ _), (17, .int _ _), (18, .ptr _ _)] rfl (W.sealB false 6 5 (bcs' := [.int .i64 b5ar, .lst false r6.length (zYy e60 r6)]) (l := [(1, .lst true jobs.length (zYy eV6 jobs)), (2, .lst true ex.length (zYy e27 ex)), (3, .int .i64 late), (5, .bool lone), (12, .ptr 1 0), (13, .ptr 2 0), (14, .int .i64 v14), (16, .int .i64 (v16 + (pickM (vat (lat jobs v17) (0 : Int).toNat) (5 : Int)))), (17, .int .i64 v17), (18, .ptr 5 0)]) rfl rfl (encL_sl enc60 false r6) ⟨.inl rfl, .inl rfl, .inl rfl, .inl rfl, .inl rfl, .inl rfl, .inl rfl, .inl rfl, .inl rfl, .inl rfl, trivial⟩ ⟨.inl rfl, .inr ⟨_, _, rfl, (zYw (enc60.wd false) _), rfl⟩, trivial⟩ rfl (W.rL1g (cL rfl (o_fa tt26 rfl tt23 rfl (cL rfl (zZx (v := .ref _ _ _) tt23 rfl rfl ⟨_, rfl⟩ (cL rfl (zYp (cs := [.int _ _, .lst _ _ _]) tt53 rfl rfl ⟨_, rfl⟩ rfl (cL rfl (o_bs1 (v := .agg _) (q := 7) tt23 tt53 rfl rfl rfl rfl rfl rfl rfl rfl ?_)))))))))))))))
 obtain ⟨s1995, hv⟩ := hv
 refine cL rfl (o_apR (p := 8) (q := (r4 ++ [(Job.mk b5ar r6)]).length) tt23 tt53 rfl rfl (src_ref rfl rfl) rfl rfl (zYw (enc53.wd false) _) (Nat.le_trans (Nat.le_of_eq (@List.length_append _ (r4) ([(Job.mk b5ar r6)])).symm) s1995) rfl (@List.length_append _ (r4) ([(Job.mk b5ar r6)])).symm (encL_app (e53 false) r4 [(Job.mk b5ar r6)]) (cL rfl (o_fa tt26 rfl tt23 rfl (cLn (o_stB (v := .ref _ _ _) (vs := [.ref _ _ _]) (cs2 := [.ref _ _ _, .ref _ _ _, .int _ _, .int _ _, .int _ _, .nilS]) tt23 rfl rfl rfl rfl rfl (Nat.le_of_ble_eq_true rfl) rfl (eL (go_nil (zYv (zZ (W.ty [(1, .lst _ _ _), (2, .lst _ _ _), (3, .int _ _), (5, .bool _), (12, .ptr _ _), (13, .ptr _ _), (14, .int _ _), (16, .int _ _), (17, .int _ _)] rfl (W.rL1 (mI rfl rfl ?_))))))))))))
 obtain ⟨s1996, hv⟩ := hv
 refine cL rfl (o_add rfl rfl s1996 (aI rfl rfl (eL (zZ (⟨(), (v16 + (pickM (vat (lat jobs v17) (0 : Int).toNat) (5 : Int))), (v17 + (1 : Int)), b2late_1, b2obj_1, b2causes_1, (r4 ++ [(Job.mk b5ar r6)]), hv, St.to_mk (φ := [none, some 1, some 2, some 3, some 8]) rfl (rfl) ⟨Ren.lst _ _ _, Ren.lst _ _ _, Ren.int _ _, Ren.bool _, Ren.ptr rfl, Ren.ptr rfl, Ren.int _ _, Ren.int _ _, Ren.int _ _, trivial⟩ ⟨rfl, (zB rfl rfl), .inr ⟨_, rfl, rfl, Rens.cons (Ren.ref rfl (fun h => rfl)) (Rens.cons (Ren.ref rfl (fun h => rfl)) (zR rfl))⟩, zE zZw false r3 rfl, zE enc53 false (r4 ++ [(Job.mk b5ar r6)]) rfl, trivial⟩⟩)))))
 clear hj
 refine W.rL (mB rfl rfl (eL (W.ty [(1, .lst _ _ _), (2, .lst _ _ _), (3, .int _ _), (5, .bool _), (12, .ptr _ _), (13, .ptr _ _), (14, .int _ _), (16, .int _ _), (17, .int _ _), (18, .ptr _ _), (19, .int _ _), (78, .bool _)] rfl (W.cb rfl (fun hc => ?_) (fun hc => ?_)))))
 have hv := hv.1 hc
 refine W.rL1 (mI rfl rfl (cL rfl (o_min rfl rfl (aI rfl rfl (eL (zZ (⟨(), (min (pickM (vat (lat jobs v17) (1 : Int).toNat) (4 : Int)) (1 : Int)), hv, St.to_mk (φ := [none, some 1, some 2, some 3, some 4, some 5]) rfl (rfl) ⟨Ren.lst _ _ _, Ren.lst _ _ _, Ren.int _ _, Ren.bool _, Ren.ptr rfl, Ren.ptr rfl, Ren.int _ _, Ren.int _ _, Ren.int _ _, Ren.ptr rfl, Ren.int _ _, trivial⟩ ⟨rfl, (zB rfl rfl), .inr ⟨_, rfl, rfl, Rens.cons (Ren.ref rfl (fun h => rfl)) (Rens.cons (Ren.ref rfl (fun h => rfl)) (zR rfl))⟩, zE zZw false r3 rfl, zE enc53 false r4 rfl, (zB rfl rfl), trivial⟩⟩)))))))
 have hv := hv.2 hc
 refine W.skip (zZ (⟨(), (pickM (vat (lat jobs v17) (1 : Int).toNat) (4 : Int)), hv, St.to_mk (φ := [none, some 1, some 2, some 3, some 4, some 5]) rfl (rfl) ⟨Ren.lst _ _ _, Ren.lst _ _ _, Ren.int _ _, Ren.bool _, Ren.ptr rfl, Ren.ptr rfl, Ren.int _ _, Ren.int _ _, Ren.int _ _, Ren.ptr rfl, Ren.int _ _, trivial⟩ ⟨rfl, (zB rfl rfl), .inr ⟨_, rfl, rfl, Rens.cons (Ren.ref rfl (fun h => rfl)) (Rens.cons (Ren.ref rfl (fun h => rfl)) (zR rfl))⟩, zE zZw false r3 rfl, zE enc53 false r4 rfl, (zB rfl rfl), trivial⟩⟩))
 have hv := hv.2 hc
 refine W.exit (zZt (zZt (zYs (zZ (W.ty [(2, .lst _ _ _), (3, .int _ _), (12, .ptr _ _), (13, .ptr _ _)] rfl ?_)))))
 obtain ⟨J6, hj, hv⟩ := hv
 refine W.mid1 (fun r6 => ⟨239, look [(2, .lst true ex.length (zYy e27 ex)), (3, .int .i64 late), (12, .ptr 1 0), (13, .ptr 2 0)], [.dead, .box 26 [.nilS, .nilS, .int .i64 (0 : Int), .int .i64 (0 : Int), .int .i64 (0 : Int), .nilS], .box 26 [.ref true 3 r3.length, .ref false 6 r6.length, .int .i64 b2late_1, .int .i64 b2obj_1, .int .i64 b2causes_1, .nilS], .row 3 1 (zYy zYx r3), .dead, .dead, .row 53 2 (zYy (e53 false) r6)], 0⟩) J6 ?_ ?_
 intro r6
 intro hv
 replace hv := hj r6 hv
 refine W.rL (mI rfl rfl (cL rfl (o_fa tt26 rfl tt23 rfl (cL rfl (zZx (v := .ref _ _ _) tt23 rfl rfl ⟨_, rfl⟩ (cL rfl (zXw (v := .ref _ _ _) tt23 rfl rfl ?_)))))))
 obtain ⟨s1997, s1998, hv⟩ := hv
 refine cL rfl (zZu (k := 52) (fst := []) (caps := []) (ys := [.int _ _, .int _ _]) rfl rfl (spec_pick52 late (r6.length : Int) s1997 s1998) zk (cL rfl (o_fa tt26 rfl tt3 rfl (cLn (o_stB (v := .int _ _) (vs := [.int _ _]) (cs2 := [.ref _ _ _, .ref _ _ _, .int _ _, .int _ _, .int _ _, .nilS]) tt3 rfl rfl rfl rfl rfl (Nat.le_of_ble_eq_true rfl) rfl (eL (W.ty [(2, .lst _ _ _), (12, .ptr _ _), (13, .ptr _ _)] rfl (W.rL (aI rfl rfl (eL (W.ty [(2, .lst _ _ _), (12, .ptr _ _), (13, .ptr _ _), (21, .int _ _)] rfl (W.seq' (W.rL (aI rfl rfl (eL (W.ty [(2, .lst _ _ _), (12, .ptr _ _), (13, .ptr _ _), (21, .int _ _), (22, .int _ _)] rfl (W.block ?_)))))))))))))))))
 obtain ⟨I7, μ7, hp, hv⟩ := hv
 refine W.loop6 (fun v21 v22 b2late_2 b2obj_2 b2causes_2 r7 => ⟨239, look [(2, .lst true ex.length (zYy e27 ex)), (12, .ptr 1 0), (13, .ptr 2 0), (21, .int .i64 v21), (22, .int .i64 v22)], [.dead, .box 26 [.nilS, .nilS, .int .i64 (0 : Int), .int .i64 (0 : Int), .int .i64 (0 : Int), .nilS], .box 26 [.ref true 3 r3.length, .ref false 6 r6.length, .int .i64 b2late_2, .int .i64 b2obj_2, .int .i64 b2causes_2, .ref true 7 r7.length], .row 3 1 (zYy zYx r3), .dead, .dead, .row 53 2 (zYy (e53 false) r6), .row 58 6 (zYy e58 r7)], 0⟩) I7 μ7 (0 : Int) (0 : Int) (pickM late (r6.length : Int)) b2obj_1 b2causes_1 [] (St.to_mk (φ := [none, some 1, some 2, some 3, none, none, some 6, none]) rfl (rfl) ⟨Ren.lst _ _ _, Ren.ptr rfl, Ren.ptr rfl, Ren.int _ _, Ren.int _ _, trivial⟩ ⟨rfl, (zB rfl rfl), .inr ⟨_, rfl, rfl, Rens.cons (Ren.ref rfl (fun h => rfl)) (Rens.cons (Ren.ref rfl id) (Rens.cons (Ren.int _ _) (Rens.cons (Ren.int _ _) (Rens.cons (Ren.int _ _) (Rens.cons (Ren.nilR rfl rfl) (Rens.nil))))))⟩, zE zZw false r3 rfl, rfl, rfl, zE enc53 false r6 rfl, rfl, trivial⟩) hp ?_
 clear hp
 intro v21 v22 b2late_2 b2obj_2 b2causes_2 r7 hI
 replace hv := hv v21 v22 b2late_2 b2obj_2 b2causes_2 r7 hI
 clear hI
 refine W.seq' (W.rLm ⟨239, look [(2, .lst true ex.length (zYy e27 ex)), (12, .ptr 1 0), (13, .ptr 2 0), (21, .int .i64 v21), (22, .int .i64 v22), (140, .bool (decide ((v22 < (r6.length : Int)) /\ ((0 : Int) < b2causes_2))))], [.dead, .box 26 [.nilS, .nilS, .int .i64 (0 : Int), .int .i64 (0 : Int), .int .i64 (0 : Int), .nilS], .box 26 [.ref true 3 r3.length, .ref false 6 r6.length, .int .i64 b2late_2, .int .i64 b2obj_2, .int .i64 b2causes_2, .ref true 7 r7.length], .row 3 1 (zYy zYx r3), .dead, .dead, .row 53 2 (zYy (e53 false) r6), .row 58 6 (zYy e58 r7)], 0⟩ ?_ ?_)
 refine mI rfl rfl (cL rfl (o_fa tt26 rfl tt23 rfl (cL rfl (zZx (v := .ref _ _ _) tt23 rfl rfl ⟨_, rfl⟩ (cL rfl (zXw (v := .ref _ _ _) tt23 rfl rfl (cL rfl (zYq rfl rfl (mB rfl rfl ?_)))))))))
 by_cases c1 : v22 < (r6.length : Int)
 refine cLg rfl rfl (dT c1) (cL rfl (o_fa tt26 rfl tt3 rfl (cLg rfl rfl (dT c1) (cL rfl (zZx (v := .int _ _) tt3 rfl rfl ⟨_, rfl⟩ (cLg rfl rfl (dT c1) (cL rfl (o_gtr rfl rfl (cL rfl (zZv (v := .bool _) rfl (dT c1) rfl (eL (zYz ⟨rfl, rfl, rfl, rfl, rfl, (congrArg AV.bool (zXv c1 (rfl))).symm, trivial⟩ rfl))))))))))))
 iterate 3 refine cLs rfl rfl rfl (dF c1) ?_
 refine cL rfl (zZy (v := .bool _) rfl (dF c1) rfl (eL (zYz ⟨rfl, rfl, rfl, rfl, rfl, (congrArg AV.bool (dAndF c1)).symm, trivial⟩ rfl)))
 refine W.cn rfl (fun hc => ?_) (fun hc => ?_)
 have hv := hv.1 hc
 refine W.skip (zZ (W.ty [(2, .lst _ _ _), (12, .ptr _ _), (13, .ptr _ _), (21, .int _ _), (22, .int _ _)] rfl (W.seq' (W.block (W.rL (aI rfl rfl (eL (W.ty [(2, .lst _ _ _), (12, .ptr _ _), (13, .ptr _ _), (21, .int _ _), (22, .int _ _), (23, .int _ _)] rfl (W.block ?_)))))))))
 obtain ⟨I8, μ8, hp, hv⟩ := hv
 refine W.loop6 (fun v21_1 v23 b2late_3 b2obj_3 b2causes_3 r7_1 => ⟨239, look [(2, .lst true ex.length (zYy e27 ex)), (12, .ptr 1 0), (13, .ptr 2 0), (21, .int .i64 v21_1), (22, .int .i64 v22), (23, .int .i64 v23)], [.dead, .box 26 [.nilS, .nilS, .int .i64 (0 : Int), .int .i64 (0 : Int), .int .i64 (0 : Int), .nilS], .box 26 [.ref true 3 r3.length, .ref false 6 r6.length, .int .i64 b2late_3, .int .i64 b2obj_3, .int .i64 b2causes_3, .ref true 7 r7_1.length], .row 3 1 (zYy zYx r3), .dead, .dead, .row 53 2 (zYy (e53 false) r6), .row 58 6 (zYy e58 r7_1)], 0⟩) I8 μ8 v21 (-1 : Int) b2late_2 b2obj_2 b2causes_2 r7 (St.to_mk (φ := [none, some 1, some 2, some 3, none, none, some 6, some 7]) rfl (rfl) ⟨Ren.lst _ _ _, Ren.ptr rfl, Ren.ptr rfl, Ren.int _ _, Ren.int _ _, Ren.int _ _, trivial⟩ ⟨rfl, (zB rfl rfl), .inr ⟨_, rfl, rfl, Rens.cons (Ren.ref rfl (fun h => rfl)) (Rens.cons (Ren.ref rfl id) (Rens.cons (Ren.int _ _) (Rens.cons (Ren.int _ _) (Rens.cons (Ren.int _ _) (Rens.cons (Ren.ref rfl (fun h => rfl)) (Rens.nil))))))⟩, zE zZw false r3 rfl, rfl, rfl, zE enc53 false r6 rfl, zE enc58 false r7 rfl, trivial⟩) hp ?_
 clear hp
 intro v21_1 v23 b2late_3 b2obj_3 b2causes_3 r7_1 hI
 replace hv := hv v21_1 v23 b2late_3 b2obj_3 b2causes_3 r7_1 hI
 clear hI
 refine W.seq' ?_
 obtain ⟨sd, hv⟩ := hv
 refine W.rLm ⟨239, look [(2, .lst true ex.length (zYy e27 ex)), (12, .ptr 1 0), (13, .ptr 2 0), (21, .int .i64 v21_1), (22, .int .i64 v22), (23, .int .i64 v23), (157, .bool (decide ((v23 < (((lat r6 v22).wk).length : Int)) /\ (v21_1 < (ex.length : Int)))))], [.dead, .box 26 [.nilS, .nilS, .int .i64 (0 : Int), .int .i64 (0 : Int), .int .i64 (0 : Int), .nilS], .box 26 [.ref true 3 r3.length, .ref false 6 r6.length, .int .i64 b2late_3, .int .i64 b2obj_3, .int .i64 b2causes_3, .ref true 7 r7_1.length], .row 3 1 (zYy zYx r3), .dead, .dead, .row 53 2 (zYy (e53 false) r6), .row 58 6 (zYy e58 r7_1)], 0⟩ ?_ ?_
 refine mI rfl rfl (cL rfl (o_fa tt26 rfl tt23 rfl (cL rfl (zZx (v := .ref _ _ _) tt23 rfl rfl ⟨_, rfl⟩ (mI rfl rfl ?_)))))
 obtain ⟨s5596, sd⟩ := sd
 refine cL rfl (o_iaR tt23 tt53 rfl rfl s5596 (cL rfl (o_fa tt53 rfl tt51 rfl (cL rfl (zZx (v := .lst _ _ _) tt51 rfl rfl (cell_of (ca_rowF (xs := r6) (k := 1) rfl (enc53.wd false) s5596 rfl) rfl) (cL rfl (zXw (v := .lst _ _ _) tt51 rfl rfl (cL rfl (zYq rfl rfl (mB rfl rfl ?_))))))))))
 by_cases c1 : v23 < (((lat r6 v22).wk).length : Int)
 refine cLg rfl rfl (dT c1) (mI rfl rfl (cLg rfl rfl (dT c1) (mL rfl rfl (cLg rfl rfl (dT c1) (cL rfl (zXw (v := .lst _ _ _) tt29 rfl rfl (cLg rfl rfl (dT c1) (cL rfl (zYq rfl rfl (cL rfl (zZv (v := .bool _) rfl (dT c1) rfl (eL (zYz ⟨rfl, rfl, rfl, rfl, rfl, rfl, (congrArg AV.bool (zXv c1 (rfl))).symm, trivial⟩ rfl)))))))))))))
 iterate 4 refine cLs rfl rfl rfl (dF c1) ?_
 refine cL rfl (zZy (v := .bool _) rfl (dF c1) rfl (eL (zYz ⟨rfl, rfl, rfl, rfl, rfl, rfl, (congrArg AV.bool (dAndF c1)).symm, trivial⟩ rfl)))
 refine W.cn rfl (fun hc => ?_) (fun hc => ?_)
 have hv := hv.1 hc
 refine W.skip (zZ (W.ty [(2, .lst _ _ _), (12, .ptr _ _), (13, .ptr _ _), (21, .int _ _), (22, .int _ _), (23, .int _ _)] rfl (W.seq' (W.block (W.rP [0, 1, 2, 3, 4, 5, 6, 7, 8, 11, 9, 10, 12] (by decide +kernel) rfl ?_)))))
 iterate 2 refine mI rfl rfl ?_
 refine mL rfl rfl (mI rfl rfl ?_)
 obtain ⟨s5646, hv⟩ := hv
 refine cL rfl (zYu tt29 tt27 rfl rfl (enc27.wd true) rfl s5646 ?_)
 intro rest5646
 refine cL rfl (o_iaP tt27 tt3 rfl rfl ⟨by decide, by decide⟩ (cL rfl (zZx (v := .int _ _) tt3 rfl rfl ⟨_, rfl⟩ (cL rfl (o_fa tt26 rfl tt3 rfl (cL rfl (zZx (v := .int _ _) tt3 rfl rfl ⟨_, rfl⟩ (cL rfl (zXy (p := 8) tt58 rfl rfl ?_)))))))))
 obtain ⟨s5647, s5648, hv⟩ := hv
 refine cL rfl (zZu (k := 52) (fst := []) (caps := []) (ys := [.int _ _, .int _ _]) rfl rfl (spec_pick52 ((lat ex v21_1).x1) b2causes_3 s5647 s5648) zk (cL rfl (o_build (qs := [(0, .int _ _), (1, .int _ _), (2, .int _ _)]) (cs := [.int _ _, .int _ _, .int _ _, .int _ _, .int _ _, .int _ _]) tt58 rfl rfl rfl (cLn (o_stB (v := .agg _) (vs := [.int _ _, .int _ _, .int _ _, .int _ _, .int _ _, .int _ _]) (cs2 := [.int _ _, .int _ _, .int _ _, .int _ _, .int _ _, .int _ _]) tt58 rfl rfl rfl rfl rfl (Nat.le_of_ble_eq_true rfl) rfl (eL (W.ty [(2, .lst _ _ _), (12, .ptr _ _), (13, .ptr _ _), (21, .int _ _), (22, .int _ _), (23, .int _ _), (24, .ptr _ _)] rfl (W.rL (mL rfl rfl (mI rfl rfl ?_))))))))))
 obtain ⟨s5649, hv⟩ := hv
 refine cL rfl (zYu tt29 tt27 rfl rfl (enc27.wd true) rfl s5649 ?_)
 intro rest5649
 refine cL rfl (o_iaP tt27 tt3 rfl rfl ⟨by decide, by decide⟩ (cL rfl (zZx (v := .int _ _) tt3 rfl rfl ⟨_, rfl⟩ ?_)))
 obtain ⟨s5650, s5651, hv⟩ := hv
 refine cL rfl (zZu (k := 52) (fst := []) (caps := []) (ys := [.int _ _, .int _ _]) rfl rfl (spec_pick52 ((lat ex v21_1).x0) (3 : Int) s5650 s5651) zk (cL rfl (o_gtr rfl rfl (aB rfl rfl (eL (W.ty [(2, .lst _ _ _), (12, .ptr _ _), (13, .ptr _ _), (21, .int _ _), (22, .int _ _), (23, .int _ _), (24, .ptr _ _), (25, .bool _)] rfl ?_))))))
 obtain ⟨J9, hj, hv⟩ := hv
 refine W.mid1 (fun b8 => ⟨239, look [(2, .lst true ex.length (zYy e27 ex)), (12, .ptr 1 0), (13, .ptr 2 0), (21, .int .i64 v21_1), (22, .int .i64 v22), (23, .int .i64 v23), (24, .ptr 8 0), (25, .bool (decide ((0 : Int) < (pickM ((lat ex v21_1).x0) (3 : Int)))))], [.dead, .box 26 [.nilS, .nilS, .int .i64 (0 : Int), .int .i64 (0 : Int), .int .i64 (0 : Int), .nilS], .box 26 [.ref true 3 r3.length, .ref false 6 r6.length, .int .i64 b2late_3, .int .i64 b2obj_3, .int .i64 b2causes_3, .ref true 7 r7_1.length], .row 3 1 (zYy zYx r3), .dead, .dead, .row 53 2 (zYy (e53 false) r6), .row 58 6 (zYy e58 r7_1), .box 58 [.int .i64 b8.jb, .int .i64 b8.pc, .int .i64 b8.ca, .int .i64 b8.ba, .int .i64 b8.op, .int .i64 b8.ver]], 0⟩) J9 ?_ ?_
 intro b8
 intro hv
 replace hv := hj b8 hv
 obtain ⟨J10, hj, hv⟩ := hv
 refine W.mid1 (fun v25 => ⟨239, look [(2, .lst true ex.length (zYy e27 ex)), (12, .ptr 1 0), (13, .ptr 2 0), (21, .int .i64 v21_1), (22, .int .i64 v22), (23, .int .i64 v23), (24, .ptr 8 0), (25, .bool v25)], [.dead, .box 26 [.nilS, .nilS, .int .i64 (0 : Int), .int .i64 (0 : Int), .int .i64 (0 : Int), .nilS], .box 26 [.ref true 3 r3.length, .ref false 6 r6.length, .int .i64 b2late_3, .int .i64 b2obj_3, .int .i64 b2causes_3, .ref true 7 r7_1.length], .row 3 1 (zYy zYx r3), .dead, .dead, .row 53 2 (zYy (e53 false) r6), .row 58 6 (zYy e58 r7_1), .box 58 [.int .i64 b8.jb, .int .i64 b8.pc, .int .i64 b8.ca, .int .i64 b8.ba, .int .i64 b8.op, .int .i64 b8.ver]], 0⟩) J10 ?_ ?_
 intro v25
 intro hv
 replace hv := hj v25 hv
 obtain ⟨J11, hj, hv⟩ := hv
 refine W.mid1 (fun r10 => ⟨239, look [(2, .lst true ex.length (zYy e27 ex)), (12, .ptr 1 0), (13, .ptr 2 0), (21, .int .i64 v21_1), (22, .int .i64 v22), (23, .int .i64 v23)], [.dead, .box 26 [.nilS, .nilS, .int .i64 (0 : Int), .int .i64 (0 : Int), .int .i64 (0 : Int), .nilS], .box 26 [.ref true 3 r3.length, .ref false 6 r6.length, .int .i64 b2late_3, .int .i64 b2obj_3, .int .i64 b2causes_3, .ref true 10 r10.length], .row 3 1 (zYy zYx r3), .dead, .dead, .row 53 2 (zYy (e53 false) r6), .dead, .dead, .dead, .row 58 6 (zYy e58 r10)], 0⟩) J11 ?_ ?_
 intro r10
 intro hv
 replace hv := hj r10 hv
 refine W.rL1 (mI rfl rfl ?_)
 obtain ⟨s5673, hv⟩ := hv
 refine cL rfl (o_add rfl rfl s5673 (aI rfl rfl (eL (zYv (zZ (W.ty [(2, .lst _ _ _), (12, .ptr _ _), (13, .ptr _ _), (21, .int _ _), (22, .int _ _), (23, .int _ _)] rfl (W.rL1 (mI rfl rfl ?_))))))))
 obtain ⟨s5674, hv⟩ := hv
 refine cL rfl (o_add rfl rfl s5674 (aI rfl rfl (eL (zZ (⟨(), (v21_1 + (1 : Int)), (v23 + (1 : Int)), b2late_3, b2obj_3, b2causes_3, r10, hv, St.to_mk (φ := [none, some 1, some 2, some 3, none, none, some 6, some 10]) rfl (rfl) ⟨Ren.lst _ _ _, Ren.ptr rfl, Ren.ptr rfl, Ren.int _ _, Ren.int _ _, Ren.int _ _, trivial⟩ ⟨rfl, (zB rfl rfl), .inr ⟨_, rfl, rfl, Rens.cons (Ren.ref rfl (fun h => rfl)) (Rens.cons (Ren.ref rfl id) (Rens.cons (Ren.int _ _) (Rens.cons (Ren.int _ _) (Rens.cons (Ren.int _ _) (Rens.cons (Ren.ref rfl (fun h => rfl)) (Rens.nil))))))⟩, zE zZw false r3 rfl, rfl, rfl, zE enc53 false r6 rfl, zE enc58 false r10 rfl, trivial⟩⟩)))))
 clear hj
 refine W.rL (mB rfl rfl (eL (W.ty [(2, .lst _ _ _), (12, .ptr _ _), (13, .ptr _ _), (21, .int _ _), (22, .int _ _), (23, .int _ _), (24, .ptr _ _), (229, .bool _)] rfl (W.cb rfl (fun hc => ?_) (fun hc => ?_)))))
 have hv := hv.1 hc
 refine W.rL1 (cL rfl (o_fa tt26 rfl tt24 rfl (cL rfl (zZx (v := .ref _ _ _) tt24 rfl rfl ⟨_, rfl⟩ (cL rfl (zYp (cs := [.int _ _, .int _ _, .int _ _, .int _ _, .int _ _, .int _ _]) tt58 rfl rfl ⟨_, rfl⟩ rfl (cL rfl (o_bs1 (v := .agg _) (q := 9) tt24 tt58 rfl rfl rfl rfl rfl rfl rfl rfl ?_))))))))
 obtain ⟨s5675, hv⟩ := hv
 refine cL rfl (o_apR (p := 10) (q := (r7_1 ++ [b8]).length) tt24 tt58 rfl rfl (src_ref rfl rfl) rfl rfl (zYw (enc58.wd false) _) (Nat.le_trans (Nat.le_of_eq (@List.length_append _ (r7_1) ([b8])).symm) s5675) rfl (@List.length_append _ (r7_1) ([b8])).symm (encL_app e58 r7_1 [b8]) (cL rfl (o_fa tt26 rfl tt24 rfl (cLn (o_stB (v := .ref _ _ _) (vs := [.ref _ _ _]) (cs2 := [.ref _ _ _, .ref _ _ _, .int _ _, .int _ _, .int _ _, .ref _ _ _]) tt24 rfl rfl rfl rfl rfl (Nat.le_of_ble_eq_true rfl) rfl (eL (zZ (⟨(), (r7_1 ++ [b8]), hv, St.to_mk (φ := [none, some 1, some 2, some 3, none, none, some 6, none, none, none, some 10]) rfl (rfl) ⟨Ren.lst _ _ _, Ren.ptr rfl, Ren.ptr rfl, Ren.int _ _, Ren.int _ _, Ren.int _ _, trivial⟩ ⟨rfl, (zB rfl rfl), .inr ⟨_, rfl, rfl, Rens.cons (Ren.ref rfl (fun h => rfl)) (Rens.cons (Ren.ref rfl id) (Rens.cons (Ren.int _ _) (Rens.cons (Ren.int _ _) (Rens.cons (Ren.int _ _) (Rens.cons (Ren.ref rfl (fun h => rfl)) (Rens.nil))))))⟩, zE zZw false r3 rfl, rfl, rfl, zE enc53 false r6 rfl, rfl, rfl, rfl, zE enc58 false (r7_1 ++ [b8]) rfl, trivial⟩⟩))))))))
 have hv := hv.2 hc
 refine W.skip (zZ (⟨(), r7_1, hv, St.to_mk (φ := [none, some 1, some 2, some 3, none, none, some 6, none, none, none, some 7]) rfl (rfl) ⟨Ren.lst _ _ _, Ren.ptr rfl, Ren.ptr rfl, Ren.int _ _, Ren.int _ _, Ren.int _ _, trivial⟩ ⟨rfl, (zB rfl rfl), .inr ⟨_, rfl, rfl, Rens.cons (Ren.ref rfl (fun h => rfl)) (Rens.cons (Ren.ref rfl id) (Rens.cons (Ren.int _ _) (Rens.cons (Ren.int _ _) (Rens.cons (Ren.int _ _) (Rens.cons (Ren.ref rfl (fun h => rfl)) (Rens.nil))))))⟩, zE zZw false r3 rfl, rfl, rfl, zE enc53 false r6 rfl, rfl, rfl, rfl, zE enc58 false r7_1 rfl, trivial⟩⟩))
 clear hj
 refine W.rL (mI rfl rfl (cL rfl (o_eqI rfl rfl rfl (eL (W.ty [(2, .lst _ _ _), (12, .ptr _ _), (13, .ptr _ _), (21, .int _ _), (22, .int _ _), (23, .int _ _), (24, .ptr _ _), (25, .bool _), (215, .bool _)] rfl (W.cn rfl (fun hc => ?_) (fun hc => ?_)))))))
 have hv := hv.1 hc
 obtain ⟨sd, hv⟩ := hv
 refine W.rLm1 ⟨239, look [(2, .lst true ex.length (zYy e27 ex)), (12, .ptr 1 0), (13, .ptr 2 0), (21, .int .i64 v21_1), (22, .int .i64 v22), (23, .int .i64 v23), (24, .ptr 8 0), (25, .bool (decide ((pickM ((lat ex v21_1).x0) (7 : Int) = (0 : Int)) /\ (¬ v22 = b2late_3))))], [.dead, .box 26 [.nilS, .nilS, .int .i64 (0 : Int), .int .i64 (0 : Int), .int .i64 (0 : Int), .nilS], .box 26 [.ref true 3 r3.length, .ref false 6 r6.length, .int .i64 b2late_3, .int .i64 b2obj_3, .int .i64 b2causes_3, .ref true 7 r7_1.length], .row 3 1 (zYy zYx r3), .dead, .dead, .row 53 2 (zYy (e53 false) r6), .row 58 6 (zYy e58 r7_1), .box 58 [.int .i64 b8.jb, .int .i64 b8.pc, .int .i64 b8.ca, .int .i64 b8.ba, .int .i64 b8.op, .int .i64 b8.ver]], 0⟩ (fun s hl ⟨u, x0, h1, h2⟩ => ⟨u, x0, h1, St.le_to hl h2⟩) ?_ ?_
 refine mL rfl rfl (mI rfl rfl ?_)
 obtain ⟨s5679, sd⟩ := sd
 refine cL rfl (zYu tt29 tt27 rfl rfl (enc27.wd true) rfl s5679 ?_)
 intro rest5679
 refine cL rfl (o_iaP tt27 tt3 rfl rfl ⟨by decide, by decide⟩ (cL rfl (zZx (v := .int _ _) tt3 rfl rfl ⟨_, rfl⟩ ?_)))
 obtain ⟨s5680, s5681, sd⟩ := sd
 refine cL rfl (zZu (k := 52) (fst := []) (caps := []) (ys := [.int _ _, .int _ _]) rfl rfl (spec_pick52 ((lat ex v21_1).x0) (7 : Int) s5680 s5681) zk (cL rfl (o_eqI rfl rfl rfl (mB rfl rfl ?_))))
 by_cases c1 : pickM ((lat ex v21_1).x0) (7 : Int) = (0 : Int)
 refine cLg rfl rfl (dT c1) (mI rfl rfl (cLg rfl rfl (dT c1) (cL rfl (o_fa tt26 rfl tt3 rfl (cLg rfl rfl (dT c1) (cL rfl (zZx (v := .int _ _) tt3 rfl rfl ⟨_, rfl⟩ (cLg rfl rfl (dT c1) (cL rfl (o_neI rfl rfl rfl (cL rfl (zZv (v := .bool _) rfl (dT c1) rfl (aB rfl rfl (eL (zYz ⟨rfl, rfl, rfl, rfl, rfl, rfl, rfl, (congrArg AV.bool (zXv c1 (rfl))).symm, trivial⟩ rfl)))))))))))))))
 iterate 4 refine cLs rfl rfl rfl (dF c1) ?_
 refine cL rfl (zZy (v := .bool _) rfl (dF c1) rfl (aB rfl rfl (eL (zYz ⟨rfl, rfl, rfl, rfl, rfl, rfl, rfl, (congrArg AV.bool (dAndF c1)).symm, trivial⟩ rfl))))
 exact zZ (⟨(), (decide ((pickM ((lat ex v21_1).x0) (7 : Int) = (0 : Int)) /\ (¬ v22 = b2late_3))), hv, St.to_mk (φ := [none, some 1, some 2, some 3, none, none, some 6, some 7, some 8]) rfl (rfl) ⟨Ren.lst _ _ _, Ren.ptr rfl, Ren.ptr rfl, Ren.int _ _, Ren.int _ _, Ren.int _ _, Ren.ptr rfl, Ren.bool _, trivial⟩ ⟨rfl, (zB rfl rfl), .inr ⟨_, rfl, rfl, Rens.cons (Ren.ref rfl (fun h => rfl)) (Rens.cons (Ren.ref rfl id) (Rens.cons (Ren.int _ _) (Rens.cons (Ren.int _ _) (Rens.cons (Ren.int _ _) (Rens.cons (Ren.ref rfl (fun h => rfl)) (Rens.nil))))))⟩, zE zZw false r3 rfl, rfl, rfl, zE enc53 false r6 rfl, zE enc58 false r7_1 rfl, (zB rfl rfl), trivial⟩⟩)
 have hv := hv.2 hc
 refine W.skip (zZ (⟨(), (decide ((0 : Int) < (pickM ((lat ex v21_1).x0) (3 : Int)))), hv, St.to_mk (φ := [none, some 1, some 2, some 3, none, none, some 6, some 7, some 8]) rfl (rfl) ⟨Ren.lst _ _ _, Ren.ptr rfl, Ren.ptr rfl, Ren.int _ _, Ren.int _ _, Ren.int _ _, Ren.ptr rfl, Ren.bool _, trivial⟩ ⟨rfl, (zB rfl rfl), .inr ⟨_, rfl, rfl, Rens.cons (Ren.ref rfl (fun h => rfl)) (Rens.cons (Ren.ref rfl id) (Rens.cons (Ren.int _ _) (Rens.cons (Ren.int _ _) (Rens.cons (Ren.int _ _) (Rens.cons (Ren.ref rfl (fun h => rfl)) (Rens.nil))))))⟩, zE zZw false r3 rfl, rfl, rfl, zE enc53 false r6 rfl, zE enc58 false r7_1 rfl, (zB rfl rfl), trivial⟩⟩))
 clear hj
 refine W.rL (mI rfl rfl (cL rfl (o_geq rfl rfl (eL (W.ty [(2, .lst _ _ _), (12, .ptr _ _), (13, .ptr _ _), (21, .int _ _), (22, .int _ _), (23, .int _ _), (24, .ptr _ _), (25, .bool _), (179, .bool _)] rfl (W.cn rfl (fun hc => ?_) (fun hc => ?_)))))))
 have hv := hv.1 hc
 refine W.rD [0, 1, 2, 3, 4, 5, 6, 7, 8, 9, 10, 11, 12, 13, 14, 15, 16, 17, 18] (by decide +kernel) rfl (mL rfl rfl (mI rfl rfl ?_))
 obtain ⟨s5682, hv⟩ := hv
 refine cL rfl (zYu tt29 tt27 rfl rfl (enc27.wd true) rfl s5682 ?_)
 intro rest5682
 refine cL rfl (o_iaP tt27 tt3 rfl rfl ⟨by decide, by decide⟩ (cL rfl (zZx (v := .int _ _) tt3 rfl rfl ⟨_, rfl⟩ (cL rfl (o_fa tt26 rfl tt23 rfl (cL rfl (zZx (v := .ref _ _ _) tt23 rfl rfl ⟨_, rfl⟩ (mI rfl rfl ?_))))))))
 obtain ⟨s5683, hv⟩ := hv
 refine cL rfl (o_iaR tt23 tt53 rfl rfl s5683 (cL rfl (o_fa tt53 rfl tt51 rfl (cL rfl (zZx (v := .lst _ _ _) tt51 rfl rfl (cell_of (ca_rowF (xs := r6) (k := 1) rfl (enc53.wd false) s5683 rfl) rfl) (mI rfl rfl ?_))))))
 obtain ⟨s5684, hv⟩ := hv
 refine cL rfl (zYu tt51 tt60 rfl rfl (enc60.wd true) rfl s5684 ?_)
 intro rest5684
 refine cL rfl (o_faP tt60 rfl tt3 rfl (cL rfl (zZx (v := .int _ _) tt3 rfl rfl ⟨_, rfl⟩ ?_)))
 obtain ⟨s5685, hv⟩ := hv
 refine cL rfl (o_add rfl rfl s5685 ?_)
 obtain ⟨s5686, s5687, hv⟩ := hv
 refine cL rfl (zZu (k := 52) (fst := []) (caps := []) (ys := [.int _ _, .int _ _]) rfl rfl (spec_pick52 ((lat ex v21_1).x2) (((lat ((lat r6 v22).wk) v23).tm) + (1 : Int)) s5686 s5687) zk (cL rfl (o_fa tt58 rfl tt3 rfl (cLn (o_stB (v := .int _ _) (vs := [.int _ _]) (cs2 := [.int _ _, .int _ _, .int _ _, .int _ _, .int _ _, .int _ _]) tt3 rfl rfl rfl rfl rfl (Nat.le_of_ble_eq_true rfl) rfl (eL (W.ty [(2, .lst _ _ _), (12, .ptr _ _), (13, .ptr _ _), (21, .int _ _), (22, .int _ _), (23, .int _ _), (24, .ptr _ _), (25, .bool _)] rfl (W.rL (mL rfl rfl (mI rfl rfl ?_))))))))))
 obtain ⟨s5688, hv⟩ := hv
 refine cL rfl (zYu tt29 tt27 rfl rfl (enc27.wd true) rfl s5688 ?_)
 intro rest5688
 refine cL rfl (o_iaP tt27 tt3 rfl rfl ⟨by decide, by decide⟩ (cL rfl (zZx (v := .int _ _) tt3 rfl rfl ⟨_, rfl⟩ ?_)))
 obtain ⟨s5689, hv⟩ := hv
 refine cL rfl (o_quo rfl rfl (by decide) s5689 ?_)
 obtain ⟨s5690, s5691, hv⟩ := hv
 refine cL rfl (zZu (k := 52) (fst := []) (caps := []) (ys := [.int _ _, .int _ _]) rfl rfl (spec_pick52 (((lat ex v21_1).x1).tdiv (5 : Int)) (3 : Int) s5690 s5691) zk (cL rfl (o_fa tt58 rfl tt3 rfl (cLn (o_stB (v := .int _ _) (vs := [.int _ _]) (cs2 := [.int _ _, .int _ _, .int _ _, .int _ _, .int _ _, .int _ _]) tt3 rfl rfl rfl rfl rfl (Nat.le_of_ble_eq_true rfl) rfl (eL (W.ty [(2, .lst _ _ _), (12, .ptr _ _), (13, .ptr _ _), (21, .int _ _), (22, .int _ _), (23, .int _ _), (24, .ptr _ _), (25, .bool _)] rfl (W.rL1 (mL rfl rfl (mI rfl rfl ?_))))))))))
 obtain ⟨s5692, hv⟩ := hv
 refine cL rfl (zYu tt29 tt27 rfl rfl (enc27.wd true) rfl s5692 ?_)
 intro rest5692
 refine cL rfl (o_iaP tt27 tt3 rfl rfl ⟨by decide, by decide⟩ (cL rfl (zZx (v := .int _ _) tt3 rfl rfl ⟨_, rfl⟩ ?_)))
 obtain ⟨s5693, hv⟩ := hv
 refine cL rfl (o_quo rfl rfl (by decide) s5693 ?_)
 obtain ⟨s5694, s5695, hv⟩ := hv
 refine cL rfl (zZu (k := 52) (fst := []) (caps := []) (ys := [.int _ _, .int _ _]) rfl rfl (spec_pick52 (((lat ex v21_1).x1).tdiv (15 : Int)) (2 : Int) s5694 s5695) zk (cL rfl (o_fa tt58 rfl tt3 rfl (cLn (o_stB (v := .int _ _) (vs := [.int _ _]) (cs2 := [.int _ _, .int _ _, .int _ _, .int _ _, .int _ _, .int _ _]) tt3 rfl rfl rfl rfl rfl (Nat.le_of_ble_eq_true rfl) rfl (eL (zZ (⟨(), (Ext.mk v22 v23 (pickM ((lat ex v21_1).x1) b2causes_3) (pickM ((lat ex v21_1).x2) (((lat ((lat r6 v22).wk) v23).tm) + (1 : Int))) (pickM (((lat ex v21_1).x1).tdiv (5 : Int)) (3 : Int)) (pickM (((lat ex v21_1).x1).tdiv (15 : Int)) (2 : Int))), hv, St.to_mk (φ := [none, some 1, some 2, some 3, none, none, some 6, some 7, some 8]) rfl (rfl) ⟨Ren.lst _ _ _, Ren.ptr rfl, Ren.ptr rfl, Ren.int _ _, Ren.int _ _, Ren.int _ _, Ren.ptr rfl, Ren.bool _, trivial⟩ ⟨rfl, (zB rfl rfl), .inr ⟨_, rfl, rfl, Rens.cons (Ren.ref rfl (fun h => rfl)) (Rens.cons (Ren.ref rfl id) (Rens.cons (Ren.int _ _) (Rens.cons (Ren.int _ _) (Rens.cons (Ren.int _ _) (Rens.cons (Ren.ref rfl (fun h => rfl)) (Rens.nil))))))⟩, zE zZw false r3 rfl, rfl, rfl, zE enc53 false r6 rfl, zE enc58 false r7_1 rfl, (zB rfl rfl), trivial⟩⟩))))))))
 have hv := hv.2 hc
 refine W.skip (zZ (⟨(), (Ext.mk v22 v23 (pickM ((lat ex v21_1).x1) b2causes_3) (0 : Int) (0 : Int) (0 : Int)), hv, St.to_mk (φ := [none, some 1, some 2, some 3, none, none, some 6, some 7, some 8]) rfl (rfl) ⟨Ren.lst _ _ _, Ren.ptr rfl, Ren.ptr rfl, Ren.int _ _, Ren.int _ _, Ren.int _ _, Ren.ptr rfl, Ren.bool _, trivial⟩ ⟨rfl, (zB rfl rfl), .inr ⟨_, rfl, rfl, Rens.cons (Ren.ref rfl (fun h => rfl)) (Rens.cons (Ren.ref rfl id) (Rens.cons (Ren.int _ _) (Rens.cons (Ren.int _ _) (Rens.cons (Ren.int _ _) (Rens.cons (Ren.ref rfl (fun h => rfl)) (Rens.nil))))))⟩, zE zZw false r3 rfl, rfl, rfl, zE enc53 false r6 rfl, zE enc58 false r7_1 rfl, (zB rfl rfl), trivial⟩⟩))
 have hv := hv.2 hc
 refine W.exit (zZt (zZt (zYs (zYv (zZ (W.ty [(2, .lst _ _ _), (12, .ptr _ _), (13, .ptr _ _), (21, .int _ _), (22, .int _ _)] rfl (W.rL1 (mI rfl rfl ?_))))))))
 obtain ⟨s5696, hv⟩ := hv
 refine cL rfl (o_add rfl rfl s5696 (aI rfl rfl (eL (zZ (⟨(), v21_1, (v22 + (1 : Int)), b2late_3, b2obj_3, b2causes_3, r7_1, hv, St.to_mk (φ := [none, some 1, some 2, some 3, none, none, some 6, some 7]) rfl (rfl) ⟨Ren.lst _ _ _, Ren.ptr rfl, Ren.ptr rfl, Ren.int _ _, Ren.int _ _, trivial⟩ ⟨rfl, (zB rfl rfl), .inr ⟨_, rfl, rfl, Rens.cons (Ren.ref rfl (fun h => rfl)) (Rens.cons (Ren.ref rfl id) (Rens.cons (Ren.int _ _) (Rens.cons (Ren.int _ _) (Rens.cons (Ren.int _ _) (Rens.cons (Ren.ref rfl (fun h => rfl)) (Rens.nil))))))⟩, zE zZw false r3 rfl, rfl, rfl, zE enc53 false r6 rfl, zE enc58 false r7_1 rfl, trivial⟩⟩)))))
 have hv := hv.2 hc
 refine W.exit (zZt (zZt (zYs (zZ (W.ty [(12, .ptr _ _), (13, .ptr _ _)] rfl (W.rL (cL rfl (zYp (cs := [.ref _ _ _, .ref _ _ _, .int _ _, .int _ _, .int _ _, .ref _ _ _]) tt26 rfl rfl ⟨_, rfl⟩ rfl (cLn (o_stB (v := .agg _) (vs := [.ref _ _ _, .ref _ _ _, .int _ _, .int _ _, .int _ _, .ref _ _ _]) (cs2 := [.ref _ _ _, .ref _ _ _, .int _ _, .int _ _, .int _ _, .ref _ _ _]) tt26 rfl rfl rfl rfl rfl (Nat.le_of_ble_eq_true rfl) rfl (eL (W.ty [(12, .ptr _ _)] rfl (W.ret (rt (rt_c (x := .ptr _ _) rfl (ldA (cs := [.ref _ _ _, .ref _ _ _, .int _ _, .int _ _, .int _ _, .ref _ _ _]) tt26 rfl ⟨_, rfl⟩ rfl (rt_n (⟨_, rs_agg 5 _ (Wks.cons (rs_ref zZw 3 _ rfl rfl) (Wks.cons (rs_ref enc53 3 _ rfl rfl) (Wks.cons (zY _ _ _ _) (Wks.cons (zY _ _ _ _) (Wks.cons (zY _ _ _ _) (Wks.cons (rs_ref enc58 3 _ rfl rfl) zk)))))), (Req.mk r3 r6 b2late_2 b2obj_2 b2causes_2 r7), rfl, hv⟩))))))))))))))))))
 clear hj
 refine W.rL (cL rfl (o_fa tt26 rfl tt23 rfl (cL rfl (zZx (v := .ref _ _ _) tt23 rfl rfl ⟨_, rfl⟩ (cL rfl (zXw (v := .ref _ _ _) tt23 rfl rfl (cL rfl (o_eqI rfl rfl rfl (eL (W.ty [(2, .lst _ _ _), (3, .int _ _), (12, .ptr _ _), (13, .ptr _ _), (119, .bool _)] rfl (W.cn rfl (fun hc => ?_) (fun hc => ?_))))))))))))
 have hv := hv.1 hc
 refine W.rL1g (cL rfl (o_build (qs := [(1, .int _ _)]) (cs := [.int _ _, .int _ _]) tt60 rfl rfl rfl (cL rfl (o_bs1 (v := .agg _) (q := 5) tt51 tt60 rfl rfl rfl rfl rfl rfl rfl rfl (cL rfl (o_build (qs := [(1, .ref _ _ _)]) (cs := [.int _ _, .ref _ _ _]) tt53 rfl rfl rfl (cL rfl (o_bs1 (v := .agg _) (q := 6) tt23 tt53 rfl rfl rfl rfl rfl rfl rfl rfl (cL rfl (o_fa tt26 rfl tt23 rfl (cLn (o_stB (v := .ref _ _ _) (vs := [.ref _ _ _]) (cs2 := [.ref _ _ _, .ref _ _ _, .int _ _, .int _ _, .int _ _, .nilS]) tt23 rfl rfl rfl rfl rfl (Nat.le_of_ble_eq_true rfl) rfl (eL (go_sealW false 5 6 (bcs := [.int .i64 (0 : Int), .ref false 5 1]) (bcs' := [.int .i64 (0 : Int), .lst false [(Ld.mk 0 5)].length (zYy e60 [(Ld.mk 0 5)])]) (l := [(2, .lst true ex.length (zYy e27 ex)), (3, .int .i64 late), (12, .ptr 1 0), (13, .ptr 2 0), (119, .bool (decide ((r4.length : Int) = (0 : Int)))), (120, .agg [.int .i64 (0 : Int), .int .i64 (5 : Int)]), (123, .ref false 6 1), (124, .ptr 2 1)]) rfl rfl (encL_sl enc60 false [(Ld.mk 0 5)]) ⟨.inl rfl, .inl rfl, .inl rfl, .inl rfl, .inl rfl, .inl rfl, .inl rfl, .inl rfl, trivial⟩ ⟨.inl rfl, .inr ⟨_, _, rfl, rfl, rfl⟩, trivial⟩ rfl rfl (go_nil (zZ (⟨(), [(Job.mk 0 [(Ld.mk 0 5)])], hv, St.to_mk (φ := [none, some 1, some 2, some 3, none, none, some 6]) rfl (rfl) ⟨Ren.lst _ _ _, Ren.int _ _, Ren.ptr rfl, Ren.ptr rfl, trivial⟩ ⟨rfl, (zB rfl rfl), .inr ⟨_, rfl, rfl, Rens.cons (Ren.ref rfl (fun h => rfl)) (Rens.cons (Ren.ref rfl id) (zR rfl))⟩, zE zZw false r3 rfl, rfl, rfl, zE enc53 false [(Job.mk 0 [(Ld.mk 0 5)])] rfl, trivial⟩⟩)))))))))))))))))
 have hv := hv.2 hc
 refine W.skip (zZ (⟨(), r4, hv, St.to_mk (φ := [none, some 1, some 2, some 3, none, none, some 4]) rfl (rfl) ⟨Ren.lst _ _ _, Ren.int _ _, Ren.ptr rfl, Ren.ptr rfl, trivial⟩ ⟨rfl, (zB rfl rfl), .inr ⟨_, rfl, rfl, Rens.cons (Ren.ref rfl (fun h => rfl)) (Rens.cons (Ren.ref rfl (fun h => rfl)) (zR rfl))⟩, zE zZw false r3 rfl, rfl, rfl, zE enc53 false r4 rfl, trivial⟩⟩))
 clear hj
 refine W.rL (mB rfl rfl (eL (W.ty [(1, .lst _ _ _), (2, .lst _ _ _), (3, .int _ _), (5, .bool _), (6, .ptr _ _), (12, .ptr _ _), (13, .ptr _ _), (14, .int _ _), (36, .bool _)] rfl (W.cb rfl (fun hc => ?_) (fun hc => ?_)))))
 have hv := hv.1 hc
 refine W.rL1 (aI rfl rfl (eL (zZ (⟨(), (1 : Int), hv, St.to_mk (φ := [some 0, some 1, some 2]) rfl (rfl) ⟨Ren.lst _ _ _, Ren.lst _ _ _, Ren.int _ _, Ren.bool _, Ren.ptr rfl, Ren.ptr rfl, Ren.ptr rfl, Ren.int _ _, trivial⟩ ⟨(zB rfl rfl), (zB rfl rfl), (zB rfl rfl), trivial⟩⟩))))
 have hv := hv.2 hc
 refine W.skip (zZ (⟨(), ((1 : Int) + (pickM sv.x2 (3 : Int))), hv, St.to_mk (φ := [some 0, some 1, some 2]) rfl (rfl) ⟨Ren.lst _ _ _, Ren.lst _ _ _, Ren.int _ _, Ren.bool _, Ren.ptr rfl, Ren.ptr rfl, Ren.ptr rfl, Ren.int _ _, trivial⟩ ⟨(zB rfl rfl), (zB rfl rfl), (zB rfl rfl), trivial⟩⟩))
set_option maxHeartbeats 4000000 in
theorem vcp_Made (sv : A3) (jobs : (List (Vector Int 6))) (ex : (List A3)) (late : Int) (obj : Int) (lone : Bool) (h0 : jobs.length <= 9223372036854775807) (h1 : ex.length <= 9223372036854775807) (h2 : (inI sv.x0 /\ inI sv.x1 /\ inI sv.x2) /\ inI late /\ inI obj) (h3 : (∀ j ∈ jobs, ∀ k, inI (vat j k)) /\ ∀ e ∈ ex, inI e.x0 /\ inI e.x1 /\ inI e.x2) : vc_Made sv jobs ex late obj lone (fun q0 => q0 = (madeM sv jobs ex late obj lone)) := by
  obtain ⟨⟨i0, i1, i2⟩, il, io⟩ := h2
  obtain ⟨hvj, hve⟩ := h3
  have hst := sta_le sv lone
  have po := zXz (c := obj) (n := 30) (by omega)
  have px2 := zXz (c := sv.x2) (n := 3) (by omega)
  unfold vc_Made
  refine ⟨by omega, io, inI_td (by omega) io, by omega, inI_td (by omega) io, by omega, i2, by unfold inI; omega, fun v => v = staM sv lone, ?_, fun h => (if_pos h).symm, fun h => (if_neg h).symm⟩
  rintro _ rfl
  refine ⟨fun v a b c l => ∃ i : Nat, v = i /\ (i : Int) <= staM sv lone /\ a = 0 /\ b = pickM obj 30 /\ c = pickM (obj.tdiv 30) 5 /\ l = (List.range i).map fun i : Nat => 1 + pickM (lat [sv.x0, sv.x1, sv.x2] (i : Int)) 2, fun v _ _ _ _ => (staM sv lone).toNat - v.toNat, ⟨0, rfl, by omega, rfl, rfl, rfl, rfl⟩, ?_⟩
  rintro _ _ _ _ _ ⟨i, rfl, hi, rfl, rfl, rfl, rfl⟩
  refine ⟨fun k => ?_, fun k => ?_⟩
  . have hin : inI (lat [sv.x0, sv.x1, sv.x2] (i : Int)) := by
      rcases i with _ | _ | _ | i
      . exact i0
      . exact i1
      . exact i2
      . omega
    have p2 := zXz (c := lat [sv.x0, sv.x1, sv.x2] (i : Int)) (n := 2) (by omega)
    refine ⟨⟨by omega, by omega⟩, by omega, hin, by unfold inI; omega, by simp; omega, by unfold inI; omega, ⟨i + 1, by omega, by omega, rfl, rfl, rfl, map_range_succ.symm⟩, by show (staM sv lone).toNat - ((i : Int) + 1).toNat < (staM sv lone).toNat - ((i : Int)).toNat; omega⟩
  have hsv : i = (staM sv lone).toNat := by omega
  subst hsv
  refine ⟨fun a v la lo lc l => ∃ i : Nat, v = i /\ i <= jobs.length /\ i <= 6 /\ a = atM jobs i /\ la = 0 /\ lo = pickM obj 30 /\ lc = pickM (obj.tdiv 30) 5 /\ l = (List.range i).map (jobM jobs (staM sv lone) lone), fun _ v _ _ _ _ => jobs.length - v.toNat, ⟨0, rfl, by omega, by omega, rfl, rfl, rfl, rfl, rfl⟩, ?_⟩
  rintro _ _ _ _ _ _ ⟨i, rfl, hij, hi6, rfl, rfl, rfl, rfl, rfl⟩
  refine ⟨fun k1 => ?_, fun k1 => ?_⟩
  . have hi1 : i < jobs.length := by omega
    have hmem : lat jobs (i : Int) ∈ jobs := lat_mem ⟨by omega, by omega⟩
    have hv := hvj _ hmem
    have hat := atM_le jobs i (by omega)
    have hp5 := zXz (c := vat (lat jobs (i : Int)) 0) (n := 5) (by omega)
    have hmany := many_le (lat jobs (i : Int)) lone
    refine ⟨⟨by omega, by omega⟩, ⟨by omega, by omega⟩, by omega, hv 0, by show inI (_ + pickM (vat (lat jobs (i : Int)) 0) 5); unfold inI; omega, ⟨by omega, by omega⟩, ⟨by omega, by omega⟩, by omega, hv 1, fun v => v = manyM (lat jobs (i : Int)) lone, ?_, fun h => (if_pos h).symm, fun h => (if_neg h).symm⟩
    rintro _ rfl
    refine ⟨fun v b l => ∃ q : Nat, v = q /\ q <= (manyM (lat jobs (i : Int)) lone).toNat /\ b = atM jobs (i + 1) /\ l = wkM (staM sv lone) (lat jobs (i : Int)) q, fun v _ _ => (manyM (lat jobs (i : Int)) lone).toNat - v.toNat, ⟨0, rfl, by omega, (atM_succ hi1).symm, rfl⟩, ?_⟩
    rintro _ _ _ ⟨q, rfl, hq, rfl, rfl⟩
    have e2 : (2 + (q : Int)).toNat = 2 + q := by omega
    rw [e2]
    refine ⟨fun k2 => ⟨by unfold inI; omega, ⟨by omega, by omega⟩, ⟨by omega, by omega⟩, by unfold inI; omega, ⟨by omega, by omega⟩, ⟨by omega, by omega⟩, inI_td (by omega) (hv _), by omega, hv _, by omega, inI_td (by omega) (hv _), by rw [List.length_append]; simp [wkM]; omega, by unfold inI; omega, ⟨q + 1, by omega, by omega, rfl, (wkM_succ _ _ _).symm⟩, by show _ - ((q : Int) + 1).toNat < _ - ((q : Int)).toNat; omega⟩, fun k2 => ⟨by rw [List.length_append]; simp; omega, by unfold inI; omega, ⟨i + 1, by omega, by omega, by omega, (atM_succ hi1).symm, rfl, rfl, rfl, ?_⟩, dec_lt (by omega)⟩⟩
    rw [map_range_succ]
    have hqe : q = (manyM (lat jobs (i : Int)) lone).toNat := by omega
    subst hqe
    rfl
  have hie : i = min jobs.length 6 := by omega
  have hj0 : (List.range i).map (jobM jobs (staM sv lone) lone) = jobsM0 jobs (staM sv lone) lone := by rw [hie]; rfl
  rw [hj0]
  obtain ⟨⟨hn1, hn6⟩, hmade⟩ := jobsM_made (jobs := jobs) (lone := lone) hst.1
  refine ⟨fun l => l = jobsM jobs (staM sv lone) lone, ?_, fun k => ?_, fun k => ?_⟩
  rotate_left
  . show [_] = _
    unfold jobsM; rw [if_pos (by omega)]
  . show jobsM0 _ _ _ = _
    unfold jobsM; rw [if_neg (by omega)]
  rintro _ rfl
  obtain ⟨J, hJ⟩ : ∃ J, J = jobsM jobs (staM sv lone) lone := ⟨_, rfl⟩
  obtain ⟨C, hC⟩ : ∃ C, C = pickM (obj.tdiv 30) 5 := ⟨_, rfl⟩
  obtain ⟨L, hL⟩ : ∃ L, L = pickM late (J.length : Int) := ⟨_, rfl⟩
  have hex : madeM sv jobs ex late obj lone = ⟨(List.range (staM sv lone).toNat).map fun i : Nat => 1 + pickM (lat [sv.x0, sv.x1, sv.x2] (i : Int)) 2, J, L, pickM obj 30, C, exsM J C L ex⟩ := by rw [hL, hJ, hC]; rfl
  rw [<- hJ] at hn1 hn6 hmade ⊢
  rw [<- hL, <- hC]
  have pc := zXz (c := obj.tdiv 30) (n := 5) (by omega)
  rw [<- hC] at pc
  refine ⟨by omega, il, fun n v a b c l => ∃ i : Nat, v = i /\ i <= J.length /\ L = a /\ pickM obj 30 = b /\ C = c /\ n = ((exAll J C L ex i).2 : Int) /\ l = (exAll J C L ex i).1 /\ (exAll J C L ex i).2 <= 4 * i /\ (exAll J C L ex i).1.length <= (exAll J C L ex i).2 /\ (¬ 0 < C -> i = 0), fun _ v _ _ _ _ => J.length - v.toNat, ⟨0, rfl, by omega, rfl, rfl, rfl, rfl, rfl, by simp [exAll], by simp [exAll], fun _ => rfl⟩, ?_⟩
  rintro _ _ _ _ _ _ ⟨i, rfl, hi, rfl, rfl, rfl, rfl, rfl, hs1, hs2, hc0⟩
  refine ⟨fun k2 => ?_, fun k2 => ?_⟩
  rotate_left
  . show Req.mk _ _ _ _ _ _ = madeM sv jobs ex late obj lone
    rw [hex]
    congr 1
    unfold exsM
    by_cases hc : 0 < C
    . rw [if_pos hc, show i = J.length by omega]; rfl
    . rw [if_neg hc, hc0 hc]; rfl
  have hi1 : i < J.length := by omega
  have hJm := hmade _ (lat_mem (xs := J) (i := (i : Int)) ⟨by omega, by omega⟩)
  have hw3 := hJm.wl.1
  refine ⟨fun n v a b c l => ∃ q : Nat, v = (q : Int) - 1 /\ q <= (lat J (i : Int)).wk.length + 1 /\ L = a /\ pickM obj 30 = b /\ C = c /\ n = (((ksM q).foldl (exStep J C L ex i) (exAll J C L ex i)).2 : Int) /\ l = ((ksM q).foldl (exStep J C L ex i) (exAll J C L ex i)).1 /\ ((ksM q).foldl (exStep J C L ex i) (exAll J C L ex i)).2 <= 4 * i + q /\ ((ksM q).foldl (exStep J C L ex i) (exAll J C L ex i)).1.length <= ((ksM q).foldl (exStep J C L ex i) (exAll J C L ex i)).2, fun _ v _ _ _ _ => (lat J (i : Int)).wk.length + 1 - (v + 1).toNat, ⟨0, rfl, by omega, rfl, rfl, rfl, rfl, rfl, by simpa [ksM] using hs1, by simpa [ksM] using hs2⟩, ?_⟩
  rintro _ _ _ _ _ _ ⟨q, rfl, hq, rfl, rfl, rfl, rfl, rfl, ht1, ht2⟩
  obtain ⟨s, hs⟩ : ∃ s, s = (ksM q).foldl (exStep J C L ex i) (exAll J C L ex i) := ⟨_, rfl⟩
  rw [<- hs] at ht1 ht2 ⊢
  have hnext : (ksM (q + 1)).foldl (exStep J C L ex i) (exAll J C L ex i) = exStep J C L ex i s ((q : Int) - 1) := by rw [ksM_succ, List.foldl_append, <- hs]; rfl
  refine ⟨⟨⟨by omega, by omega⟩, trivial⟩, fun k3 => ?_, fun k3 => ?_⟩
  rotate_left
  . have hfin : exAll J C L ex (i + 1) = s := by
      rw [exAll_succ, exJob_eq]
      obtain ⟨l, hl⟩ := ksM_split hq
      rw [hl, List.foldl_append, <- hs]
      by_cases hf : ex.length <= s.2
      . exact exStep_stuck _ _ _ _ _ _ _ hf
      . have hqe : q = (lat J (i : Int)).wk.length + 1 := by omega
        have : l = [] := by
          have := congrArg List.length hl
          simp [ksM] at this
          exact List.eq_nil_of_length_eq_zero (by omega)
        rw [this]; rfl
    exact ⟨by unfold inI; omega, ⟨i + 1, by omega, by omega, rfl, rfl, rfl, by rw [hfin], by rw [hfin], by rw [hfin]; omega, by rw [hfin]; omega, fun h => absurd k2.2 h⟩, dec_lt (by omega)⟩
  have hE : s.2 < ex.length := by omega
  have hem : lat ex (s.2 : Int) ∈ ex := lat_mem ⟨by omega, by omega⟩
  obtain ⟨e0, e1, e2⟩ := hve _ hem
  have hstep : exStep J C L ex i s ((q : Int) - 1) = ((if exAct L (lat ex (s.2 : Int)) i ((q : Int) - 1) then s.1 ++ [exX J C (lat ex (s.2 : Int)) i ((q : Int) - 1)] else s.1), s.2 + 1) := by unfold exStep; rw [if_pos hE]
  have fin : ∀ r10 : List Ext, r10 = (exStep J C L ex i s ((q : Int) - 1)).1 -> (inI ((s.2 : Int) + 1)) /\ (inI ((q : Int) - 1 + 1)) /\ ((∃ q' : Nat, (q : Int) - 1 + 1 = (q' : Int) - 1 /\ q' <= (lat J (i : Int)).wk.length + 1 /\ L = L /\ pickM obj 30 = pickM obj 30 /\ C = C /\ (s.2 : Int) + 1 = (((ksM q').foldl (exStep J C L ex i) (exAll J C L ex i)).2 : Int) /\ r10 = ((ksM q').foldl (exStep J C L ex i) (exAll J C L ex i)).1 /\ ((ksM q').foldl (exStep J C L ex i) (exAll J C L ex i)).2 <= 4 * i + q' /\ ((ksM q').foldl (exStep J C L ex i) (exAll J C L ex i)).1.length <= ((ksM q').foldl (exStep J C L ex i) (exAll J C L ex i)).2) /\ (lat J (i : Int)).wk.length + 1 - ((q : Int) - 1 + 1 + 1).toNat < (lat J (i : Int)).wk.length + 1 - ((q : Int) - 1 + 1).toNat) := by
    rintro _ rfl
    refine ⟨by unfold inI; omega, by unfold inI; omega, ⟨q + 1, by omega, by omega, rfl, rfl, rfl, by rw [hnext, hstep]; rfl, by rw [hnext], by rw [hnext, hstep]; show s.2 + 1 <= _; omega, ?_⟩, by omega⟩
    rw [hnext, hstep]
    show (if _ then _ else _ : List Ext).length <= s.2 + 1
    split
    . rw [List.length_append]; simp; omega
    . omega
  refine ⟨⟨by omega, by omega⟩, by omega, e1, ⟨by omega, by omega⟩, by omega, e0, fun b => b = exX J C (lat ex (s.2 : Int)) i ((q : Int) - 1), ?_, fun k4 => ?_, fun k4 => ?_⟩
  . rintro _ rfl
    refine ⟨fun v => (v = true ↔ exAct L (lat ex (s.2 : Int)) i ((q : Int) - 1)), fun v hv => ?_, fun k4 => ⟨⟨⟨by omega, by omega⟩, by omega, e0, trivial⟩, ?_⟩, fun k4 => ?_⟩
    . refine ⟨fun l => l = (exStep J C L ex i s ((q : Int) - 1)).1, fun l hl => fin l hl, fun k5 => ⟨by rw [List.length_append]; simp; omega, ?_⟩, fun k5 => ?_⟩
      . show _ = _
        rw [hstep, if_pos (hv.1 k5)]
      . show _ = _
        rw [hstep, if_neg (fun h => k5 (hv.2 h))]
    . show decide _ = true ↔ _
      unfold exAct
      rw [if_pos k4, decide_eq_true_eq]
    . show decide _ = true ↔ _
      unfold exAct
      rw [if_neg k4, decide_eq_true_eq]
  . have hwm := lat_mem (xs := (lat J (i : Int)).wk) (i := (q : Int) - 1) ⟨k4, k3.1⟩
    have htm := (hJm.wk _ hwm).2
    refine ⟨⟨by omega, by omega⟩, ⟨by omega, by omega⟩, ⟨k4, k3.1⟩, by unfold inI; omega, by omega, e2, ⟨by omega, by omega⟩, inI_td (by omega) e1, by omega, inI_td (by omega) e1, ⟨by omega, by omega⟩, inI_td (by omega) e1, by omega, inI_td (by omega) e1, ?_⟩
    show _ = _
    unfold exX; rw [if_pos k4]
  . show _ = _
    unfold exX; rw [if_neg k4]
theorem spec_Made (sv : A3) (jobs : (List (Vector Int 6))) (ex : (List A3)) (late : Int) (obj : Int) (lone : Bool) (h0 : jobs.length <= 9223372036854775807) (h1 : ex.length <= 9223372036854775807) (h2 : (inI sv.x0 /\ inI sv.x1 /\ inI sv.x2) /\ inI late /\ inI obj) (h3 : (∀ j ∈ jobs, ∀ k, inI (vat j k)) /\ ∀ e ∈ ex, inI e.x0 /\ inI e.x1 /\ inI e.x2) : FnP Try.prog 31 [.agg (e27 sv), .lst true jobs.length (zYy eV6 jobs), .lst true ex.length (zYy e27 ex), .int .i64 late, .int .i64 obj, .bool lone] (fun xR => xR = .agg ((e26 false) (madeM sv jobs ex late obj lone))) :=
  (walk_Made (vcp_Made sv jobs ex late obj lone h0 h1 h2 h3)).mono (by rintro _ ⟨_, rfl, rfl⟩; rfl)
end Go.Lat
