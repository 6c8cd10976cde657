/- The law latecomerlaw24.ReplaySupported returns true for every input, and each argument reads afterwards as it read before. Part 18 of 19. No condition. -/
import Derived.Test.YtbaillkjjlmehaaLatF
import Derived.Test.YtbaillkjjlmehaaLatD
import Derived.Test.YtbaillkjjlmehaaLatE
import Derived.Test.YtbaillkjjlmehaaLatI
import Derived.Test.YtbaillkjjlmehaaLatL
import Derived.Test.YtbaillkjjlmehaaLatM
import Derived.Test.YtbaillkjjlmehaaLatQ
import Derived.Test.YtbaillkjjlmehaaLatH
set_option linter.unusedVariables false
set_option linter.unusedSimpArgs false
set_option linter.unnecessarySimpa false
set_option maxRecDepth 100000
set_option maxHeartbeats 4000000
namespace Go.Lat
open Go.RowKit Go.Proofs
attribute [local irreducible] seqL opC
def vc_lawsup (c : Cas) (x : (List (Vector Int 4))) (Post : Bool -> Prop) : Prop :=
  (CasOk c) /\ (x.length <= 9223372036854775807) /\ (∀ y ∈ x, ∀ k, inI (vat y k)) /\ ((factsM x).length <= 1073741823) /\ ((¬ (fitM (factsM x)).2 = (0 : Int)) -> Post false) /\ (¬ (¬ (fitM (factsM x)).2 = (0 : Int)) -> ∃ (I1 : Bool -> Bool -> Int -> Prop) (μ1 : Bool -> Bool -> Int -> Nat), I1 true true (0 : Int) /\ ∀ (v10 : Bool) (v11 : Bool) (v12 : Int), I1 v10 v11 v12 -> ((v12 < ((((madeC c false).ex).length : Nat) : Int)) -> ∃ J2 : Bool -> Bool -> Prop, (∀ (v10_1 : Bool) (v11_1 : Bool), J2 v10_1 v11_1 -> (inI (v12 + (1 : Int))) /\ (I1 v10_1 v11_1 (v12 + (1 : Int)) /\ μ1 v10_1 v11_1 (v12 + (1 : Int)) < μ1 v10 v11 v12)) /\ ((0 <= v12 /\ v12 < (((madeC c false).ex).length : Int)) /\ (((lat ((madeC c false).ex) v12).pc = (-1 : Int)) -> J2 v10 v11) /\ (¬ ((lat ((madeC c false).ex) v12).pc = (-1 : Int)) -> ∃ (I3 : Int -> Bool -> Bool -> Bool -> Int -> Prop) (μ3 : Int -> Bool -> Bool -> Bool -> Int -> Nat), I3 (0 : Int) false false false (0 : Int) /\ ∀ (v14 : Int) (v15 : Bool) (v16 : Bool) (v17 : Bool) (v18 : Int), I3 v14 v15 v16 v17 v18 -> ((v18 < (((factsM x).length : Nat) : Int)) -> ∃ J4 : Int -> Bool -> Bool -> Bool -> Prop, (∀ (v14_1 : Int) (v15_1 : Bool) (v16_1 : Bool) (v17_1 : Bool), J4 v14_1 v15_1 v16_1 v17_1 -> (inI (v18 + (1 : Int))) /\ (I3 v14_1 v15_1 v16_1 v17_1 (v18 + (1 : Int)) /\ μ3 v14_1 v15_1 v16_1 v17_1 (v18 + (1 : Int)) < μ3 v14 v15 v16 v17 v18)) /\ (((0 <= v18 /\ v18 < ((factsM x).length : Int)) /\ (((lat (factsM x) v18).op = (lat ((madeC c false).ex) v12).op) -> (0 <= v18 /\ v18 < ((factsM x).length : Int)) /\ True) /\ (¬ ((lat (factsM x) v18).op = (lat ((madeC c false).ex) v12).op) -> True)) /\ (((((lat (factsM x) v18).op = (lat ((madeC c false).ex) v12).op) /\ ((lat (factsM x) v18).ver = (lat ((madeC c false).ex) v12).ver)) -> (inI (v14 + (1 : Int))) /\ (((v15 = true) -> True) /\ (¬ (v15 = true) -> (0 <= v18 /\ v18 < ((factsM x).length : Int)) /\ True)) /\ ((((v16 = true) -> True) /\ (¬ (v16 = true) -> (0 <= v18 /\ v18 < ((factsM x).length : Int)) /\ True)) /\ ((((v17 = true) -> True) /\ (¬ (v17 = true) -> (0 <= v18 /\ v18 < ((factsM x).length : Int)) /\ ((((lat (factsM x) v18).lo) <= ((lat ((madeC c false).ex) v12).ba)) -> (0 <= v18 /\ v18 < ((factsM x).length : Int)) /\ True) /\ (¬ (((lat (factsM x) v18).lo) <= ((lat ((madeC c false).ex) v12).ba)) -> True))) /\ (J4 (v14 + (1 : Int)) (decide ((v15 = true) \/ (((lat (factsM x) v18).lo) <= ((lat ((madeC c false).ex) v12).ba)))) (decide ((v16 = true) \/ (((lat ((madeC c false).ex) v12).ba) <= ((lat (factsM x) v18).hi)))) (decide ((v17 = true) \/ ((((lat (factsM x) v18).lo) <= ((lat ((madeC c false).ex) v12).ba)) /\ (((lat ((madeC c false).ex) v12).ba) <= ((lat (factsM x) v18).hi))))))))) /\ (¬ (((lat (factsM x) v18).op = (lat ((madeC c false).ex) v12).op) /\ ((lat (factsM x) v18).ver = (lat ((madeC c false).ex) v12).ver)) -> J4 v14 v15 v16 v17)))) /\ (¬ (v18 < (((factsM x).length : Nat) : Int)) -> J2 (decide ((v10 = true) /\ (((3 : Int) <= v14) /\ (v17 = true)))) (decide ((v11 = true) /\ (((3 : Int) <= v14) /\ ((v15 = true) /\ (v16 = true))))))))) /\ (¬ (v12 < ((((madeC c false).ex).length : Nat) : Int)) -> ((madeC c false).sv.length <= 9223372036854775807) /\ (∀ j ∈ (madeC c false).jobs, j.wk.length <= 9223372036854775807) /\ ((madeC c false).jobs.length <= 9223372036854775807) /\ ((madeC c false).ex.length <= 9223372036854775807) /\ (((fitM (factsM x)).1).length <= 1073741824) /\ Post (decide ((¬ (v10 = true)) /\ ((¬ ((supM (madeC c false) ((fitM (factsM x)).1)) = true)) \/ (v11 = true)) \/ ¬ (¬ (v10 = true)) /\ (((supM (madeC c false) ((fitM (factsM x)).1)) = true) /\ ((¬ ((supM (madeC c false) ((fitM (factsM x)).1)) = true)) \/ (v11 = true)))))))
theorem walk_lawsup {c : Cas} {x : (List (Vector Int 4))} {Post : Bool -> Prop} (hv : vc_lawsup c x Post) : FnP Try.prog 9 [.agg ((e31 true) c), .lst true x.length (zYy eV4 x)] (fun x => ∃ q0, x = .bool q0 /\ Post q0) := by
 refine FnP.of_walk (T := tt) (nt := 153) ttOk ttMix ⟨⟨Try.f9, Try.func9, rfl, rfl, rfl, rfl⟩⟩ (by simp) ?_
 unfold vc_lawsup at hv
 change W _ _ _ ⟨153, look [(0, .agg [.int .i64 c.sv.x0, .int .i64 c.sv.x1, .int .i64 c.sv.x2, .lst true c.jobs.length (zYy eV6 c.jobs), .lst true c.ex.length (zYy e27 c.ex), .int .i64 c.late, .int .i64 c.obj]), (1, .lst true x.length (zYy eV4 x))], [], 0⟩ _
 refine W.tr [(0, .agg _), (1, .lst _ _ _)] [] ⟨rfl, rfl, trivial⟩ rfl (W.rL (cL rfl (o_box (v := .agg _) (p := 0) rfl rfl rfl (aB rfl rfl (eL (W.tr [(1, .lst _ _ _), (2, .ptr _ _)] [.box _ [.int _ _, .int _ _, .int _ _, .lst _ _ _, .lst _ _ _, .int _ _, .int _ _]] ⟨rfl, rfl, trivial⟩ rfl (W.rL (cL rfl (zZu (k := 10) (fst := []) (caps := []) (ys := []) rfl rfl (spec_sane) (Wks.refl _) (aB rfl rfl (eL (W.tr [(1, .lst _ _ _), (2, .ptr _ _), (5, .bool _)] [.box _ [.int _ _, .int _ _, .int _ _, .lst _ _ _, .lst _ _ _, .int _ _, .int _ _]] ⟨rfl, rfl, rfl, trivial⟩ rfl (W.rL (cL rfl (zYp (cs := [.int _ _, .int _ _, .int _ _, .lst _ _ _, .lst _ _ _, .int _ _, .int _ _]) tt31 rfl rfl ⟨_, rfl⟩ rfl ?_)))))))))))))))
 obtain ⟨s1, hv⟩ := hv
 refine cL rfl (zZu (k := 12) (fst := []) (caps := []) (ys := [.agg _, .bool _]) rfl rfl (spec_made c false s1) (Wks.cons (zXx 5 _ (Wks.cons (zZz _ _ _ _) (Wks.cons (zZz _ _ _ _) (Wks.cons (zZz _ _ _ _) (Wks.cons (zZs _ _ _ _ _) (Wks.cons (zZs _ _ _ _ _) (Wks.cons (zZz _ _ _ _) (Wks.cons (zZz _ _ _ _) (Wks.refl _))))))))) (Wks.cons (ag_bool _ _ _) (Wks.refl _))) (cL rfl (zXy (p := 1) tt26 rfl rfl (cLn (o_stB (v := .agg _) (vs := [.lst _ _ _, .lst _ _ _, .int _ _, .int _ _, .int _ _, .lst _ _ _]) (cs2 := [.lst _ _ _, .lst _ _ _, .int _ _, .int _ _, .int _ _, .lst _ _ _]) tt26 rfl rfl rfl rfl rfl (Nat.le_of_ble_eq_true rfl) rfl (eL (W.tr [(1, .lst _ _ _), (5, .bool _), (6, .ptr _ _)] [.box _ [.int _ _, .int _ _, .int _ _, .lst _ _ _, .lst _ _ _, .int _ _, .int _ _], .box _ [.lst _ _ _, .lst _ _ _, .int _ _, .int _ _, .int _ _, .lst _ _ _]] ⟨rfl, rfl, rfl, trivial⟩ rfl (W.rL (mL rfl rfl ?_)))))))))
 obtain ⟨s2, s3, hv⟩ := hv
 refine cL rfl (zZu (k := 28) (fst := []) (caps := []) (ys := [.lst _ _ _]) rfl rfl (spec_MadeFacts x s2 s3) (Wks.cons (zZs _ _ _ _ _) (Wks.refl _)) (aL rfl rfl (eL (W.tr [(5, .bool _), (6, .ptr _ _), (7, .lst _ _ _)] [.box _ [.int _ _, .int _ _, .int _ _, .lst _ _ _, .lst _ _ _, .int _ _, .int _ _], .box _ [.lst _ _ _, .lst _ _ _, .int _ _, .int _ _, .int _ _, .lst _ _ _]] ⟨rfl, rfl, rfl, trivial⟩ rfl (W.rL (mL rfl rfl ?_))))))
 obtain ⟨s4, hv⟩ := hv
 refine cL rfl (zZu (k := 29) (fst := []) (caps := []) (ys := [.lst _ _ _]) rfl rfl (spec_fit (factsM x) s4) (Wks.cons (zZs _ _ _ _ _) (Wks.refl _)) (cL rfl (zZp (v := .tup _) rfl (cL rfl (o_ext (v := .lst _ _ _) rfl rfl (cL rfl (o_ext (v := .int _ _) rfl rfl (aL rfl rfl (aI rfl rfl (eL (W.tr [(5, .bool _), (6, .ptr _ _), (7, .lst _ _ _), (8, .lst _ _ _), (9, .int _ _)] [.box _ [.int _ _, .int _ _, .int _ _, .lst _ _ _, .lst _ _ _, .int _ _, .int _ _], .box _ [.lst _ _ _, .lst _ _ _, .int _ _, .int _ _, .int _ _, .lst _ _ _]] ⟨rfl, rfl, rfl, rfl, rfl, trivial⟩ rfl (W.seq' (W.rL (mI rfl rfl (cL rfl (o_neI rfl rfl rfl (eL (W.tr [(5, .bool _), (6, .ptr _ _), (7, .lst _ _ _), (8, .lst _ _ _), (31, .bool _)] [.box _ [.int _ _, .int _ _, .int _ _, .lst _ _ _, .lst _ _ _, .int _ _, .int _ _], .box _ [.lst _ _ _, .lst _ _ _, .int _ _, .int _ _, .int _ _, .lst _ _ _]] ⟨rfl, rfl, rfl, rfl, rfl, trivial⟩ rfl (W.cn rfl (fun hc => ?_) (fun hc => ?_))))))))))))))))))))
 have hv := hv.1 hc
 refine W.rL (aB rfl rfl (eL (W.tr [(4, .bool _)] [.box _ [.int _ _, .int _ _, .int _ _, .lst _ _ _, .lst _ _ _, .int _ _, .int _ _], .box _ [.lst _ _ _, .lst _ _ _, .int _ _, .int _ _, .int _ _, .lst _ _ _]] ⟨rfl, trivial⟩ rfl (W.ret (zZr (rt (rt_t (v := .bool _) rfl (rt_n (⟨_, zYr _ _ _, false, rfl, hv⟩)))))))))
 have hv := hv.2 hc
 refine W.skip (zZ (W.tr [(5, .bool _), (6, .ptr _ _), (7, .lst _ _ _), (8, .lst _ _ _)] [.box _ [.int _ _, .int _ _, .int _ _, .lst _ _ _, .lst _ _ _, .int _ _, .int _ _], .box _ [.lst _ _ _, .lst _ _ _, .int _ _, .int _ _, .int _ _, .lst _ _ _]] ⟨rfl, rfl, rfl, rfl, trivial⟩ rfl (W.rL (aB rfl rfl (eL (W.tr [(5, .bool _), (6, .ptr _ _), (7, .lst _ _ _), (8, .lst _ _ _), (10, .bool _)] [.box _ [.int _ _, .int _ _, .int _ _, .lst _ _ _, .lst _ _ _, .int _ _, .int _ _], .box _ [.lst _ _ _, .lst _ _ _, .int _ _, .int _ _, .int _ _, .lst _ _ _]] ⟨rfl, rfl, rfl, rfl, rfl, trivial⟩ rfl (W.rL (aB rfl rfl (eL (W.tr [(5, .bool _), (6, .ptr _ _), (7, .lst _ _ _), (8, .lst _ _ _), (10, .bool _), (11, .bool _)] [.box _ [.int _ _, .int _ _, .int _ _, .lst _ _ _, .lst _ _ _, .int _ _, .int _ _], .box _ [.lst _ _ _, .lst _ _ _, .int _ _, .int _ _, .int _ _, .lst _ _ _]] ⟨rfl, rfl, rfl, rfl, rfl, rfl, trivial⟩ rfl (W.seq' (W.rL (aI rfl rfl (eL (W.tr [(5, .bool _), (6, .ptr _ _), (7, .lst _ _ _), (8, .lst _ _ _), (10, .bool _), (11, .bool _), (12, .int _ _)] [.box _ [.int _ _, .int _ _, .int _ _, .lst _ _ _, .lst _ _ _, .int _ _, .int _ _], .box _ [.lst _ _ _, .lst _ _ _, .int _ _, .int _ _, .int _ _, .lst _ _ _]] ⟨rfl, rfl, rfl, rfl, rfl, rfl, rfl, trivial⟩ rfl (W.block ?_))))))))))))))))
 obtain ⟨I1, μ1, hp, hv⟩ := hv
 refine W.loop3 (fun v10 v11 v12 => ⟨153, look [(5, .bool true), (6, .ptr 1 0), (7, .lst false (factsM x).length (zYy e69 (factsM x))), (8, .lst false ((fitM (factsM x)).1).length (zYy e73 ((fitM (factsM x)).1))), (10, .bool v10), (11, .bool v11), (12, .int .i64 v12)], [.dead, .box 26 [.lst false ((madeC c false).sv).length (zYy zYx ((madeC c false).sv)), .lst false ((madeC c false).jobs).length (zYy (e53 true) ((madeC c false).jobs)), .int .i64 ((madeC c false).late), .int .i64 ((madeC c false).obj), .int .i64 ((madeC c false).causes), .lst false ((madeC c false).ex).length (zYy e58 ((madeC c false).ex))]], 0⟩) I1 μ1 true true (0 : Int) (St.to_mk (φ := [none, some 1]) rfl (rfl) ⟨Ren.bool _, Ren.ptr rfl, Ren.lst _ _ _, Ren.lst _ _ _, Ren.bool _, Ren.bool _, Ren.int _ _, trivial⟩ ⟨rfl, .inr ⟨_, rfl, rfl, Rens.cons (Ren.lst _ _ _) (Rens.cons (Ren.lst _ _ _) (Rens.cons (Ren.int _ _) (Rens.cons (Ren.int _ _) (Rens.cons (Ren.int _ _) (Rens.cons (Ren.lst _ _ _) (Rens.nil))))))⟩, trivial⟩) hp ?_
 clear hp
 intro v10 v11 v12 hI
 replace hv := hv v10 v11 v12 hI
 clear hI
 refine W.seq' (W.rL (mI rfl rfl (cL rfl (o_fa tt26 rfl tt24 rfl (cL rfl (zZx (v := .lst _ _ _) tt24 rfl rfl ⟨_, rfl⟩ (cL rfl (zXw (v := .lst _ _ _) tt24 rfl rfl (cL rfl (zYq rfl rfl (eL (W.tr [(5, .bool _), (6, .ptr _ _), (7, .lst _ _ _), (8, .lst _ _ _), (10, .bool _), (11, .bool _), (12, .int _ _), (36, .bool _)] [.dead, .box _ [.lst _ _ _, .lst _ _ _, .int _ _, .int _ _, .int _ _, .lst _ _ _]] ⟨rfl, rfl, rfl, rfl, rfl, rfl, rfl, rfl, trivial⟩ rfl (W.cn rfl (fun hc => ?_) (fun hc => ?_))))))))))))))
 have hv := hv.1 hc
 refine W.skip (zZ (W.tr [(5, .bool _), (6, .ptr _ _), (7, .lst _ _ _), (8, .lst _ _ _), (10, .bool _), (11, .bool _), (12, .int _ _)] [.dead, .box _ [.lst _ _ _, .lst _ _ _, .int _ _, .int _ _, .int _ _, .lst _ _ _]] ⟨rfl, rfl, rfl, rfl, rfl, rfl, rfl, trivial⟩ rfl ?_))
 obtain ⟨J2, hj, hv⟩ := hv
 refine W.mid2 (fun v10_1 v11_1 => ⟨153, look [(5, .bool true), (6, .ptr 1 0), (7, .lst false (factsM x).length (zYy e69 (factsM x))), (8, .lst false ((fitM (factsM x)).1).length (zYy e73 ((fitM (factsM x)).1))), (10, .bool v10_1), (11, .bool v11_1), (12, .int .i64 v12)], [.dead, .box 26 [.lst false ((madeC c false).sv).length (zYy zYx ((madeC c false).sv)), .lst false ((madeC c false).jobs).length (zYy (e53 true) ((madeC c false).jobs)), .int .i64 ((madeC c false).late), .int .i64 ((madeC c false).obj), .int .i64 ((madeC c false).causes), .lst false ((madeC c false).ex).length (zYy e58 ((madeC c false).ex))]], 0⟩) J2 ?_ ?_
 intro v10_1 v11_1
 intro hv
 replace hv := hj v10_1 v11_1 hv
 refine W.rL1 (mI rfl rfl ?_)
 obtain ⟨s771, hv⟩ := hv
 refine cL rfl (o_add rfl rfl s771 (aI rfl rfl (eL (zZ (⟨(), v10_1, v11_1, (v12 + (1 : Int)), hv, St.to_mk (φ := [none, some 1]) rfl (rfl) ⟨Ren.bool _, Ren.ptr rfl, Ren.lst _ _ _, Ren.lst _ _ _, Ren.bool _, Ren.bool _, Ren.int _ _, trivial⟩ ⟨rfl, .inr ⟨_, rfl, rfl, Rens.cons (Ren.lst _ _ _) (Rens.cons (Ren.lst _ _ _) (Rens.cons (Ren.int _ _) (Rens.cons (Ren.int _ _) (Rens.cons (Ren.int _ _) (Rens.cons (Ren.lst _ _ _) (Rens.nil))))))⟩, trivial⟩⟩)))))
 clear hj
 refine W.block (W.rL (cL rfl (o_fa tt26 rfl tt24 rfl (cL rfl (zZx (v := .lst _ _ _) tt24 rfl rfl ⟨_, rfl⟩ (mI rfl rfl ?_))))))
 obtain ⟨s772, hv⟩ := hv
 refine cL rfl (zYu tt24 tt58 rfl rfl (enc58.wd true) rfl s772 ?_)
 intro rest772
 refine cL rfl (zYp (cs := [.int _ _, .int _ _, .int _ _, .int _ _, .int _ _, .int _ _]) tt58 rfl rfl ⟨_, rfl⟩ rfl (cL rfl (zXy (p := 2) tt58 rfl rfl (cLn (o_stB (v := .agg _) (vs := [.int _ _, .int _ _, .int _ _, .int _ _, .int _ _, .int _ _]) (cs2 := [.int _ _, .int _ _, .int _ _, .int _ _, .int _ _, .int _ _]) tt58 rfl rfl rfl rfl rfl (Nat.le_of_ble_eq_true rfl) rfl (eL (W.tr [(5, .bool _), (6, .ptr _ _), (7, .lst _ _ _), (8, .lst _ _ _), (10, .bool _), (11, .bool _), (12, .int _ _), (13, .ptr _ _)] [.dead, .box _ [.lst _ _ _, .lst _ _ _, .int _ _, .int _ _, .int _ _, .lst _ _ _], .box _ [.int _ _, .int _ _, .int _ _, .int _ _, .int _ _, .int _ _]] ⟨rfl, rfl, rfl, rfl, rfl, rfl, rfl, rfl, trivial⟩ rfl (W.seq' (W.rL (cL rfl (o_fa tt58 rfl tt3 rfl (cL rfl (zZx (v := .int _ _) tt3 rfl rfl ⟨_, rfl⟩ (cL rfl (o_eqI rfl rfl rfl (eL (W.tr [(5, .bool _), (6, .ptr _ _), (7, .lst _ _ _), (8, .lst _ _ _), (10, .bool _), (11, .bool _), (12, .int _ _), (13, .ptr _ _), (46, .bool _)] [.dead, .box _ [.lst _ _ _, .lst _ _ _, .int _ _, .int _ _, .int _ _, .lst _ _ _], .box _ [.int _ _, .int _ _, .int _ _, .int _ _, .int _ _, .int _ _]] ⟨rfl, rfl, rfl, rfl, rfl, rfl, rfl, rfl, rfl, trivial⟩ rfl (W.cn rfl (fun hc => ?_) (fun hc => ?_)))))))))))))))))))
 have hv := hv.1 hc
 refine W.exit (zZt (zYs (zZ (⟨(), v10, v11, hv, St.to_mk (φ := [none, some 1]) rfl (rfl) ⟨Ren.bool _, Ren.ptr rfl, Ren.lst _ _ _, Ren.lst _ _ _, Ren.bool _, Ren.bool _, Ren.int _ _, trivial⟩ ⟨rfl, .inr ⟨_, rfl, rfl, Rens.cons (Ren.lst _ _ _) (Rens.cons (Ren.lst _ _ _) (Rens.cons (Ren.int _ _) (Rens.cons (Ren.int _ _) (Rens.cons (Ren.int _ _) (Rens.cons (Ren.lst _ _ _) (Rens.nil))))))⟩, trivial⟩⟩))))
 have hv := hv.2 hc
 refine W.skip (zZ (W.tr [(5, .bool _), (6, .ptr _ _), (7, .lst _ _ _), (8, .lst _ _ _), (10, .bool _), (11, .bool _), (12, .int _ _), (13, .ptr _ _)] [.dead, .box _ [.lst _ _ _, .lst _ _ _, .int _ _, .int _ _, .int _ _, .lst _ _ _], .box _ [.int _ _, .int _ _, .int _ _, .int _ _, .int _ _, .int _ _]] ⟨rfl, rfl, rfl, rfl, rfl, rfl, rfl, rfl, trivial⟩ rfl (W.rL (aI rfl rfl (eL (W.tr [(5, .bool _), (6, .ptr _ _), (7, .lst _ _ _), (8, .lst _ _ _), (10, .bool _), (11, .bool _), (12, .int _ _), (13, .ptr _ _), (14, .int _ _)] [.dead, .box _ [.lst _ _ _, .lst _ _ _, .int _ _, .int _ _, .int _ _, .lst _ _ _], .box _ [.int _ _, .int _ _, .int _ _, .int _ _, .int _ _, .int _ _]] ⟨rfl, rfl, rfl, rfl, rfl, rfl, rfl, rfl, rfl, trivial⟩ rfl (W.rL (aB rfl rfl (eL (W.tr [(5, .bool _), (6, .ptr _ _), (7, .lst _ _ _), (8, .lst _ _ _), (10, .bool _), (11, .bool _), (12, .int _ _), (13, .ptr _ _), (14, .int _ _), (15, .bool _)] [.dead, .box _ [.lst _ _ _, .lst _ _ _, .int _ _, .int _ _, .int _ _, .lst _ _ _], .box _ [.int _ _, .int _ _, .int _ _, .int _ _, .int _ _, .int _ _]] ⟨rfl, rfl, rfl, rfl, rfl, rfl, rfl, rfl, rfl, rfl, trivial⟩ rfl (W.rL (aB rfl rfl (eL (W.tr [(5, .bool _), (6, .ptr _ _), (7, .lst _ _ _), (8, .lst _ _ _), (10, .bool _), (11, .bool _), (12, .int _ _), (13, .ptr _ _), (14, .int _ _), (15, .bool _), (16, .bool _)] [.dead, .box _ [.lst _ _ _, .lst _ _ _, .int _ _, .int _ _, .int _ _, .lst _ _ _], .box _ [.int _ _, .int _ _, .int _ _, .int _ _, .int _ _, .int _ _]] ⟨rfl, rfl, rfl, rfl, rfl, rfl, rfl, rfl, rfl, rfl, rfl, trivial⟩ rfl (W.rL (aB rfl rfl (eL (W.tr [(5, .bool _), (6, .ptr _ _), (7, .lst _ _ _), (8, .lst _ _ _), (10, .bool _), (11, .bool _), (12, .int _ _), (13, .ptr _ _), (14, .int _ _), (15, .bool _), (16, .bool _), (17, .bool _)] [.dead, .box _ [.lst _ _ _, .lst _ _ _, .int _ _, .int _ _, .int _ _, .lst _ _ _], .box _ [.int _ _, .int _ _, .int _ _, .int _ _, .int _ _, .int _ _]] ⟨rfl, rfl, rfl, rfl, rfl, rfl, rfl, rfl, rfl, rfl, rfl, rfl, trivial⟩ rfl (W.seq' (W.rL (aI rfl rfl (eL (W.tr [(5, .bool _), (6, .ptr _ _), (7, .lst _ _ _), (8, .lst _ _ _), (10, .bool _), (11, .bool _), (12, .int _ _), (13, .ptr _ _), (14, .int _ _), (15, .bool _), (16, .bool _), (17, .bool _), (18, .int _ _)] [.dead, .box _ [.lst _ _ _, .lst _ _ _, .int _ _, .int _ _, .int _ _, .lst _ _ _], .box _ [.int _ _, .int _ _, .int _ _, .int _ _, .int _ _, .int _ _]] ⟨rfl, rfl, rfl, rfl, rfl, rfl, rfl, rfl, rfl, rfl, rfl, rfl, rfl, trivial⟩ rfl (W.block ?_))))))))))))))))))))))))
 obtain ⟨I3, μ3, hp, hv⟩ := hv
 refine W.loop5 (fun v14 v15 v16 v17 v18 => ⟨153, look [(5, .bool true), (6, .ptr 1 0), (7, .lst false (factsM x).length (zYy e69 (factsM x))), (8, .lst false ((fitM (factsM x)).1).length (zYy e73 ((fitM (factsM x)).1))), (10, .bool v10), (11, .bool v11), (12, .int .i64 v12), (13, .ptr 2 0), (14, .int .i64 v14), (15, .bool v15), (16, .bool v16), (17, .bool v17), (18, .int .i64 v18)], [.dead, .box 26 [.lst false ((madeC c false).sv).length (zYy zYx ((madeC c false).sv)), .lst false ((madeC c false).jobs).length (zYy (e53 true) ((madeC c false).jobs)), .int .i64 ((madeC c false).late), .int .i64 ((madeC c false).obj), .int .i64 ((madeC c false).causes), .lst false ((madeC c false).ex).length (zYy e58 ((madeC c false).ex))], .box 58 [.int .i64 ((lat ((madeC c false).ex) v12).jb), .int .i64 ((lat ((madeC c false).ex) v12).pc), .int .i64 ((lat ((madeC c false).ex) v12).ca), .int .i64 ((lat ((madeC c false).ex) v12).ba), .int .i64 ((lat ((madeC c false).ex) v12).op), .int .i64 ((lat ((madeC c false).ex) v12).ver)]], 0⟩) I3 μ3 (0 : Int) false false false (0 : Int) (St.to_mk (φ := [none, some 1, some 2]) rfl (rfl) ⟨Ren.bool _, Ren.ptr rfl, Ren.lst _ _ _, Ren.lst _ _ _, Ren.bool _, Ren.bool _, Ren.int _ _, Ren.ptr rfl, Ren.int _ _, Ren.bool _, Ren.bool _, Ren.bool _, Ren.int _ _, trivial⟩ ⟨rfl, .inr ⟨_, rfl, rfl, Rens.cons (Ren.lst _ _ _) (Rens.cons (Ren.lst _ _ _) (Rens.cons (Ren.int _ _) (Rens.cons (Ren.int _ _) (Rens.cons (Ren.int _ _) (Rens.cons (Ren.lst _ _ _) (Rens.nil))))))⟩, .inr ⟨_, rfl, rfl, Rens.cons (Ren.int _ _) (Rens.cons (Ren.int _ _) (Rens.cons (Ren.int _ _) (Rens.cons (Ren.int _ _) (Rens.cons (Ren.int _ _) (Rens.cons (Ren.int _ _) (Rens.nil))))))⟩, trivial⟩) hp ?_
 clear hp
 intro v14 v15 v16 v17 v18 hI
 replace hv := hv v14 v15 v16 v17 v18 hI
 clear hI
 refine W.seq' (W.rL (mI rfl rfl (mL rfl rfl (cL rfl (zXw (v := .lst _ _ _) tt64 rfl rfl (cL rfl (zYq rfl rfl (eL (W.tr [(5, .bool _), (6, .ptr _ _), (7, .lst _ _ _), (8, .lst _ _ _), (10, .bool _), (11, .bool _), (12, .int _ _), (13, .ptr _ _), (14, .int _ _), (15, .bool _), (16, .bool _), (17, .bool _), (18, .int _ _), (50, .bool _)] [.dead, .box _ [.lst _ _ _, .lst _ _ _, .int _ _, .int _ _, .int _ _, .lst _ _ _], .box _ [.int _ _, .int _ _, .int _ _, .int _ _, .int _ _, .int _ _]] ⟨rfl, rfl, rfl, rfl, rfl, rfl, rfl, rfl, rfl, rfl, rfl, rfl, rfl, rfl, trivial⟩ rfl (W.cn rfl (fun hc => ?_) (fun hc => ?_)))))))))))
 have hv := hv.1 hc
 refine W.skip (zZ (W.tr [(5, .bool _), (6, .ptr _ _), (7, .lst _ _ _), (8, .lst _ _ _), (10, .bool _), (11, .bool _), (12, .int _ _), (13, .ptr _ _), (14, .int _ _), (15, .bool _), (16, .bool _), (17, .bool _), (18, .int _ _)] [.dead, .box _ [.lst _ _ _, .lst _ _ _, .int _ _, .int _ _, .int _ _, .lst _ _ _], .box _ [.int _ _, .int _ _, .int _ _, .int _ _, .int _ _, .int _ _]] ⟨rfl, rfl, rfl, rfl, rfl, rfl, rfl, rfl, rfl, rfl, rfl, rfl, rfl, trivial⟩ rfl ?_))
 obtain ⟨J4, hj, hv⟩ := hv
 refine W.mid4 (fun v14_1 v15_1 v16_1 v17_1 => ⟨153, look [(5, .bool true), (6, .ptr 1 0), (7, .lst false (factsM x).length (zYy e69 (factsM x))), (8, .lst false ((fitM (factsM x)).1).length (zYy e73 ((fitM (factsM x)).1))), (10, .bool v10), (11, .bool v11), (12, .int .i64 v12), (13, .ptr 2 0), (14, .int .i64 v14_1), (15, .bool v15_1), (16, .bool v16_1), (17, .bool v17_1), (18, .int .i64 v18)], [.dead, .box 26 [.lst false ((madeC c false).sv).length (zYy zYx ((madeC c false).sv)), .lst false ((madeC c false).jobs).length (zYy (e53 true) ((madeC c false).jobs)), .int .i64 ((madeC c false).late), .int .i64 ((madeC c false).obj), .int .i64 ((madeC c false).causes), .lst false ((madeC c false).ex).length (zYy e58 ((madeC c false).ex))], .box 58 [.int .i64 ((lat ((madeC c false).ex) v12).jb), .int .i64 ((lat ((madeC c false).ex) v12).pc), .int .i64 ((lat ((madeC c false).ex) v12).ca), .int .i64 ((lat ((madeC c false).ex) v12).ba), .int .i64 ((lat ((madeC c false).ex) v12).op), .int .i64 ((lat ((madeC c false).ex) v12).ver)]], 0⟩) J4 ?_ ?_
 intro v14_1 v15_1 v16_1 v17_1
 intro hv
 replace hv := hj v14_1 v15_1 v16_1 v17_1 hv
 refine W.rL1 (mI rfl rfl ?_)
 obtain ⟨s867, hv⟩ := hv
 refine cL rfl (o_add rfl rfl s867 (aI rfl rfl (eL (zZ (⟨(), v14_1, v15_1, v16_1, v17_1, (v18 + (1 : Int)), hv, St.to_mk (φ := [none, some 1, some 2]) rfl (rfl) ⟨Ren.bool _, Ren.ptr rfl, Ren.lst _ _ _, Ren.lst _ _ _, Ren.bool _, Ren.bool _, Ren.int _ _, Ren.ptr rfl, Ren.int _ _, Ren.bool _, Ren.bool _, Ren.bool _, Ren.int _ _, trivial⟩ ⟨rfl, .inr ⟨_, rfl, rfl, Rens.cons (Ren.lst _ _ _) (Rens.cons (Ren.lst _ _ _) (Rens.cons (Ren.int _ _) (Rens.cons (Ren.int _ _) (Rens.cons (Ren.int _ _) (Rens.cons (Ren.lst _ _ _) (Rens.nil))))))⟩, .inr ⟨_, rfl, rfl, Rens.cons (Ren.int _ _) (Rens.cons (Ren.int _ _) (Rens.cons (Ren.int _ _) (Rens.cons (Ren.int _ _) (Rens.cons (Ren.int _ _) (Rens.cons (Ren.int _ _) (Rens.nil))))))⟩, trivial⟩⟩)))))
 clear hj
 refine W.block ?_
 obtain ⟨sd, hv⟩ := hv
 refine W.rDm ⟨153, look [(5, .bool true), (6, .ptr 1 0), (7, .lst false (factsM x).length (zYy e69 (factsM x))), (8, .lst false ((fitM (factsM x)).1).length (zYy e73 ((fitM (factsM x)).1))), (10, .bool v10), (11, .bool v11), (12, .int .i64 v12), (13, .ptr 2 0), (14, .int .i64 v14), (15, .bool v15), (16, .bool v16), (17, .bool v17), (18, .int .i64 v18), (70, .bool (decide (((lat (factsM x) v18).op = (lat ((madeC c false).ex) v12).op) /\ ((lat (factsM x) v18).ver = (lat ((madeC c false).ex) v12).ver))))], [.dead, .box 26 [.lst false ((madeC c false).sv).length (zYy zYx ((madeC c false).sv)), .lst false ((madeC c false).jobs).length (zYy (e53 true) ((madeC c false).jobs)), .int .i64 ((madeC c false).late), .int .i64 ((madeC c false).obj), .int .i64 ((madeC c false).causes), .lst false ((madeC c false).ex).length (zYy e58 ((madeC c false).ex))], .box 58 [.int .i64 ((lat ((madeC c false).ex) v12).jb), .int .i64 ((lat ((madeC c false).ex) v12).pc), .int .i64 ((lat ((madeC c false).ex) v12).ca), .int .i64 ((lat ((madeC c false).ex) v12).ba), .int .i64 ((lat ((madeC c false).ex) v12).op), .int .i64 ((lat ((madeC c false).ex) v12).ver)]], 0⟩ [0, 1, 2, 3, 4, 5, 6, 7, 8, 9, 10, 11, 12, 13, 14, 15, 16, 17] (by decide +kernel) rfl ?_ ?_
 refine mL rfl rfl (mI rfl rfl ?_)
 obtain ⟨s870, sd⟩ := sd
 refine cL rfl (zYu tt64 tt69 rfl rfl (enc69.wd true) rfl s870 ?_)
 intro rest870
 refine cL rfl (o_faP tt69 rfl tt3 rfl (cL rfl (zZx (v := .int _ _) tt3 rfl rfl ⟨_, rfl⟩ (cL rfl (o_fa tt58 rfl tt3 rfl (cL rfl (zZx (v := .int _ _) tt3 rfl rfl ⟨_, rfl⟩ (cL rfl (o_eqI rfl rfl rfl (mB rfl rfl ?_))))))))))
 by_cases c1 : (lat (factsM x) v18).op = (lat ((madeC c false).ex) v12).op
 have sd := sd.1 c1
 refine cLg rfl rfl (dT c1) (mL rfl rfl (cLg rfl rfl (dT c1) (mI rfl rfl (cLg rfl rfl (dT c1) ?_))))
 obtain ⟨s871, sd⟩ := sd
 refine cL rfl (zYu tt64 tt69 rfl rfl (enc69.wd true) rfl s871 ?_)
 intro rest871
 refine cLg rfl rfl (dT c1) (cL rfl (o_faP tt69 rfl tt3 rfl (cLg rfl rfl (dT c1) (cL rfl (zZx (v := .int _ _) tt3 rfl rfl ⟨_, rfl⟩ (cLg rfl rfl (dT c1) (cL rfl (o_fa tt58 rfl tt3 rfl (cLg rfl rfl (dT c1) (cL rfl (zZx (v := .int _ _) tt3 rfl rfl ⟨_, rfl⟩ (cLg rfl rfl (dT c1) (cL rfl (o_eqI rfl rfl rfl (cL rfl (zZv (v := .bool _) rfl (dT c1) rfl (eL (zYz ⟨rfl, rfl, rfl, rfl, rfl, rfl, rfl, rfl, rfl, rfl, rfl, rfl, rfl, (congrArg AV.bool (zXv c1 (rfl))).symm, trivial⟩ rfl))))))))))))))))))
 iterate 8 refine cLs rfl rfl rfl (dF c1) ?_
 refine cL rfl (zZy (v := .bool _) rfl (dF c1) rfl (eL (zYz ⟨rfl, rfl, rfl, rfl, rfl, rfl, rfl, rfl, rfl, rfl, rfl, rfl, rfl, (congrArg AV.bool (dAndF c1)).symm, trivial⟩ rfl)))
 refine W.cn rfl (fun hc => ?_) (fun hc => ?_)
 have hv := hv.1 hc
 refine W.rL (mI rfl rfl ?_)
 obtain ⟨s872, hv⟩ := hv
 refine cL rfl (o_add rfl rfl s872 (aI rfl rfl (eL (W.tr [(5, .bool _), (6, .ptr _ _), (7, .lst _ _ _), (8, .lst _ _ _), (10, .bool _), (11, .bool _), (12, .int _ _), (13, .ptr _ _), (14, .int _ _), (15, .bool _), (16, .bool _), (17, .bool _), (18, .int _ _)] [.dead, .box _ [.lst _ _ _, .lst _ _ _, .int _ _, .int _ _, .int _ _, .lst _ _ _], .box _ [.int _ _, .int _ _, .int _ _, .int _ _, .int _ _, .int _ _]] ⟨rfl, rfl, rfl, rfl, rfl, rfl, rfl, rfl, rfl, rfl, rfl, rfl, rfl, trivial⟩ rfl ?_))))
 obtain ⟨sd, hv⟩ := hv
 refine W.rDm ⟨153, look [(5, .bool true), (6, .ptr 1 0), (7, .lst false (factsM x).length (zYy e69 (factsM x))), (8, .lst false ((fitM (factsM x)).1).length (zYy e73 ((fitM (factsM x)).1))), (10, .bool v10), (11, .bool v11), (12, .int .i64 v12), (13, .ptr 2 0), (14, .int .i64 (v14 + (1 : Int))), (15, .bool (decide ((v15 = true) \/ (((lat (factsM x) v18).lo) <= ((lat ((madeC c false).ex) v12).ba))))), (16, .bool v16), (17, .bool v17), (18, .int .i64 v18)], [.dead, .box 26 [.lst false ((madeC c false).sv).length (zYy zYx ((madeC c false).sv)), .lst false ((madeC c false).jobs).length (zYy (e53 true) ((madeC c false).jobs)), .int .i64 ((madeC c false).late), .int .i64 ((madeC c false).obj), .int .i64 ((madeC c false).causes), .lst false ((madeC c false).ex).length (zYy e58 ((madeC c false).ex))], .box 58 [.int .i64 ((lat ((madeC c false).ex) v12).jb), .int .i64 ((lat ((madeC c false).ex) v12).pc), .int .i64 ((lat ((madeC c false).ex) v12).ca), .int .i64 ((lat ((madeC c false).ex) v12).ba), .int .i64 ((lat ((madeC c false).ex) v12).op), .int .i64 ((lat ((madeC c false).ex) v12).ver)]], 0⟩ [0, 1, 2, 3, 4, 5, 6, 7, 8, 9, 10, 11] (by decide +kernel) rfl ?_ ?_
 iterate 2 refine mB rfl rfl ?_
 by_cases c1 : v15 = true
 iterate 8 refine cLs rfl rfl rfl (c1) ?_
 refine cL rfl (zZv (v := .bool _) rfl c1 rfl (aB rfl rfl (eL (zYz ⟨rfl, rfl, rfl, rfl, rfl, rfl, rfl, rfl, rfl, (congrArg AV.bool (dOrT c1)).symm, rfl, rfl, rfl, trivial⟩ rfl))))
 have sd := sd.2 c1
 refine cLg rfl rfl ((Bool.eq_false_iff.2 c1)) (mL rfl rfl (cLg rfl rfl ((Bool.eq_false_iff.2 c1)) (mI rfl rfl (cLg rfl rfl ((Bool.eq_false_iff.2 c1)) ?_))))
 obtain ⟨s874, sd⟩ := sd
 refine cL rfl (zYu tt64 tt69 rfl rfl (enc69.wd true) rfl s874 ?_)
 intro rest874
 refine cLg rfl rfl ((Bool.eq_false_iff.2 c1)) (cL rfl (o_faP tt69 rfl tt3 rfl (cLg rfl rfl ((Bool.eq_false_iff.2 c1)) (cL rfl (zZx (v := .int _ _) tt3 rfl rfl ⟨_, rfl⟩ (cLg rfl rfl ((Bool.eq_false_iff.2 c1)) (cL rfl (o_fa tt58 rfl tt3 rfl (cLg rfl rfl ((Bool.eq_false_iff.2 c1)) (cL rfl (zZx (v := .int _ _) tt3 rfl rfl ⟨_, rfl⟩ (cLg rfl rfl ((Bool.eq_false_iff.2 c1)) (cL rfl (o_leq rfl rfl (cL rfl (zZy (v := .bool _) rfl (Bool.eq_false_iff.2 c1) rfl (aB rfl rfl (eL (zYz ⟨rfl, rfl, rfl, rfl, rfl, rfl, rfl, rfl, rfl, (congrArg AV.bool (dOrF c1 (rfl))).symm, rfl, rfl, rfl, trivial⟩ rfl)))))))))))))))))))
 obtain ⟨sd, hv⟩ := hv
 refine W.rDm ⟨153, look [(5, .bool true), (6, .ptr 1 0), (7, .lst false (factsM x).length (zYy e69 (factsM x))), (8, .lst false ((fitM (factsM x)).1).length (zYy e73 ((fitM (factsM x)).1))), (10, .bool v10), (11, .bool v11), (12, .int .i64 v12), (13, .ptr 2 0), (14, .int .i64 (v14 + (1 : Int))), (15, .bool (decide ((v15 = true) \/ (((lat (factsM x) v18).lo) <= ((lat ((madeC c false).ex) v12).ba))))), (16, .bool (decide ((v16 = true) \/ (((lat ((madeC c false).ex) v12).ba) <= ((lat (factsM x) v18).hi))))), (17, .bool v17), (18, .int .i64 v18)], [.dead, .box 26 [.lst false ((madeC c false).sv).length (zYy zYx ((madeC c false).sv)), .lst false ((madeC c false).jobs).length (zYy (e53 true) ((madeC c false).jobs)), .int .i64 ((madeC c false).late), .int .i64 ((madeC c false).obj), .int .i64 ((madeC c false).causes), .lst false ((madeC c false).ex).length (zYy e58 ((madeC c false).ex))], .box 58 [.int .i64 ((lat ((madeC c false).ex) v12).jb), .int .i64 ((lat ((madeC c false).ex) v12).pc), .int .i64 ((lat ((madeC c false).ex) v12).ca), .int .i64 ((lat ((madeC c false).ex) v12).ba), .int .i64 ((lat ((madeC c false).ex) v12).op), .int .i64 ((lat ((madeC c false).ex) v12).ver)]], 0⟩ [0, 1, 2, 3, 4, 5, 6, 7, 8, 9, 10, 11] (by decide +kernel) rfl ?_ ?_
 iterate 2 refine mB rfl rfl ?_
 by_cases c1 : v16 = true
 iterate 8 refine cLs rfl rfl rfl (c1) ?_
 refine cL rfl (zZv (v := .bool _) rfl c1 rfl (aB rfl rfl (eL (zYz ⟨rfl, rfl, rfl, rfl, rfl, rfl, rfl, rfl, rfl, rfl, (congrArg AV.bool (dOrT c1)).symm, rfl, rfl, trivial⟩ rfl))))
 have sd := sd.2 c1
 refine cLg rfl rfl ((Bool.eq_false_iff.2 c1)) (mL rfl rfl (cLg rfl rfl ((Bool.eq_false_iff.2 c1)) (mI rfl rfl (cLg rfl rfl ((Bool.eq_false_iff.2 c1)) ?_))))
 obtain ⟨s876, sd⟩ := sd
 refine cL rfl (zYu tt64 tt69 rfl rfl (enc69.wd true) rfl s876 ?_)
 intro rest876
 refine cLg rfl rfl ((Bool.eq_false_iff.2 c1)) (cL rfl (o_faP tt69 rfl tt3 rfl (cLg rfl rfl ((Bool.eq_false_iff.2 c1)) (cL rfl (zZx (v := .int _ _) tt3 rfl rfl ⟨_, rfl⟩ (cLg rfl rfl ((Bool.eq_false_iff.2 c1)) (cL rfl (o_fa tt58 rfl tt3 rfl (cLg rfl rfl ((Bool.eq_false_iff.2 c1)) (cL rfl (zZx (v := .int _ _) tt3 rfl rfl ⟨_, rfl⟩ (cLg rfl rfl ((Bool.eq_false_iff.2 c1)) (cL rfl (o_geq rfl rfl (cL rfl (zZy (v := .bool _) rfl (Bool.eq_false_iff.2 c1) rfl (aB rfl rfl (eL (zYz ⟨rfl, rfl, rfl, rfl, rfl, rfl, rfl, rfl, rfl, rfl, (congrArg AV.bool (dOrF c1 (rfl))).symm, rfl, rfl, trivial⟩ rfl)))))))))))))))))))
 obtain ⟨sd, hv⟩ := hv
 refine W.rDm1 ⟨153, look [(5, .bool true), (6, .ptr 1 0), (7, .lst false (factsM x).length (zYy e69 (factsM x))), (8, .lst false ((fitM (factsM x)).1).length (zYy e73 ((fitM (factsM x)).1))), (10, .bool v10), (11, .bool v11), (12, .int .i64 v12), (13, .ptr 2 0), (14, .int .i64 (v14 + (1 : Int))), (15, .bool (decide ((v15 = true) \/ (((lat (factsM x) v18).lo) <= ((lat ((madeC c false).ex) v12).ba))))), (16, .bool (decide ((v16 = true) \/ (((lat ((madeC c false).ex) v12).ba) <= ((lat (factsM x) v18).hi))))), (17, .bool (decide ((v17 = true) \/ ((((lat (factsM x) v18).lo) <= ((lat ((madeC c false).ex) v12).ba)) /\ (((lat ((madeC c false).ex) v12).ba) <= ((lat (factsM x) v18).hi)))))), (18, .int .i64 v18)], [.dead, .box 26 [.lst false ((madeC c false).sv).length (zYy zYx ((madeC c false).sv)), .lst false ((madeC c false).jobs).length (zYy (e53 true) ((madeC c false).jobs)), .int .i64 ((madeC c false).late), .int .i64 ((madeC c false).obj), .int .i64 ((madeC c false).causes), .lst false ((madeC c false).ex).length (zYy e58 ((madeC c false).ex))], .box 58 [.int .i64 ((lat ((madeC c false).ex) v12).jb), .int .i64 ((lat ((madeC c false).ex) v12).pc), .int .i64 ((lat ((madeC c false).ex) v12).ca), .int .i64 ((lat ((madeC c false).ex) v12).ba), .int .i64 ((lat ((madeC c false).ex) v12).op), .int .i64 ((lat ((madeC c false).ex) v12).ver)]], 0⟩ (fun s hl ⟨u, x0, x1, x2, x3, h1, h2⟩ => ⟨u, x0, x1, x2, x3, h1, St.le_to hl h2⟩) [0, 1, 2, 3, 4, 5, 6, 7, 8, 9, 10, 11, 12, 13, 14, 15, 16, 17, 18, 19, 20, 21] (by decide +kernel) rfl ?_ ?_
 iterate 2 refine mB rfl rfl ?_
 by_cases c1 : v17 = true
 iterate 9 refine cLs rfl rfl rfl (c1) ?_
 iterate 4 refine cLu rfl rfl rfl ?_
 iterate 4 refine cLu rfl rfl (by kernel_rfl) ?_
 refine cLs rfl rfl rfl (c1) (cL rfl (zZv (v := .bool _) rfl c1 rfl (aB rfl rfl (eL (zYz ⟨rfl, rfl, rfl, rfl, rfl, rfl, rfl, rfl, rfl, rfl, rfl, (congrArg AV.bool (dOrT c1)).symm, rfl, trivial⟩ rfl)))))
 have sd := sd.2 c1
 refine cLg rfl rfl ((Bool.eq_false_iff.2 c1)) (mL rfl rfl (cLg rfl rfl ((Bool.eq_false_iff.2 c1)) (mI rfl rfl (cLg rfl rfl ((Bool.eq_false_iff.2 c1)) ?_))))
 obtain ⟨s879, sd⟩ := sd
 refine cL rfl (zYu tt64 tt69 rfl rfl (enc69.wd true) rfl s879 ?_)
 intro rest879
 refine cLg rfl rfl ((Bool.eq_false_iff.2 c1)) (cL rfl (o_faP tt69 rfl tt3 rfl (cLg rfl rfl ((Bool.eq_false_iff.2 c1)) (cL rfl (zZx (v := .int _ _) tt3 rfl rfl ⟨_, rfl⟩ (cLg rfl rfl ((Bool.eq_false_iff.2 c1)) (cL rfl (o_fa tt58 rfl tt3 rfl (cLg rfl rfl ((Bool.eq_false_iff.2 c1)) (cL rfl (zZx (v := .int _ _) tt3 rfl rfl ⟨_, rfl⟩ (cLg rfl rfl ((Bool.eq_false_iff.2 c1)) (cL rfl (o_leq rfl rfl (cLg rfl rfl ((Bool.eq_false_iff.2 c1)) (mB rfl rfl ?_))))))))))))))))
 by_cases c2 : ((lat (factsM x) v18).lo) <= ((lat ((madeC c false).ex) v12).ba)
 have sd := sd.1 c2
 refine cLg rfl rfl (dT c2) (cL rfl (o_fa tt58 rfl tt3 rfl (cLg rfl rfl (dT c2) (cL rfl (zZx (v := .int _ _) tt3 rfl rfl ⟨_, rfl⟩ (cLg rfl rfl (dT c2) (mL rfl rfl (cLg rfl rfl (dT c2) (mI rfl rfl (cLg rfl rfl (dT c2) ?_))))))))))
 obtain ⟨s880, sd⟩ := sd
 refine cL rfl (zYu tt64 tt69 rfl rfl (enc69.wd true) rfl s880 ?_)
 intro rest880
 refine cLg rfl rfl (dT c2) (cL rfl (o_faP tt69 rfl tt3 rfl (cLg rfl rfl (dT c2) (cL rfl (zZx (v := .int _ _) tt3 rfl rfl ⟨_, rfl⟩ (cLg rfl rfl (dT c2) (cL rfl (o_leq rfl rfl (cLg rfl rfl ((Bool.eq_false_iff.2 c1)) (cL rfl (zZv (v := .bool _) rfl (dT c2) rfl (cL rfl (zZy (v := .bool _) rfl (Bool.eq_false_iff.2 c1) rfl (aB rfl rfl (eL (zYz ⟨rfl, rfl, rfl, rfl, rfl, rfl, rfl, rfl, rfl, rfl, rfl, (congrArg AV.bool (dOrF c1 (zXv c2 (rfl)))).symm, rfl, trivial⟩ rfl))))))))))))))))
 iterate 8 refine cLs rfl rfl rfl (dF c2) ?_
 refine cLg rfl rfl ((Bool.eq_false_iff.2 c1)) (cL rfl (zZy (v := .bool _) rfl (dF c2) rfl (cL rfl (zZy (v := .bool _) rfl (Bool.eq_false_iff.2 c1) rfl (aB rfl rfl (eL (zYz ⟨rfl, rfl, rfl, rfl, rfl, rfl, rfl, rfl, rfl, rfl, rfl, (congrArg AV.bool (dOrF c1 (dAndF c2))).symm, rfl, trivial⟩ rfl)))))))
 exact zYv (zZ (⟨(), (v14 + (1 : Int)), (decide ((v15 = true) \/ (((lat (factsM x) v18).lo) <= ((lat ((madeC c false).ex) v12).ba)))), (decide ((v16 = true) \/ (((lat ((madeC c false).ex) v12).ba) <= ((lat (factsM x) v18).hi)))), (decide ((v17 = true) \/ ((((lat (factsM x) v18).lo) <= ((lat ((madeC c false).ex) v12).ba)) /\ (((lat ((madeC c false).ex) v12).ba) <= ((lat (factsM x) v18).hi))))), hv, St.to_mk (φ := [none, some 1, some 2]) rfl (rfl) ⟨Ren.bool _, Ren.ptr rfl, Ren.lst _ _ _, Ren.lst _ _ _, Ren.bool _, Ren.bool _, Ren.int _ _, Ren.ptr rfl, Ren.int _ _, Ren.bool _, Ren.bool _, Ren.bool _, Ren.int _ _, trivial⟩ ⟨rfl, .inr ⟨_, rfl, rfl, Rens.cons (Ren.lst _ _ _) (Rens.cons (Ren.lst _ _ _) (Rens.cons (Ren.int _ _) (Rens.cons (Ren.int _ _) (Rens.cons (Ren.int _ _) (Rens.cons (Ren.lst _ _ _) (Rens.nil))))))⟩, .inr ⟨_, rfl, rfl, Rens.cons (Ren.int _ _) (Rens.cons (Ren.int _ _) (Rens.cons (Ren.int _ _) (Rens.cons (Ren.int _ _) (Rens.cons (Ren.int _ _) (Rens.cons (Ren.int _ _) (Rens.nil))))))⟩, trivial⟩⟩))
 have hv := hv.2 hc
 refine W.skip (zYv (zZ (⟨(), v14, v15, v16, v17, hv, St.to_mk (φ := [none, some 1, some 2]) rfl (rfl) ⟨Ren.bool _, Ren.ptr rfl, Ren.lst _ _ _, Ren.lst _ _ _, Ren.bool _, Ren.bool _, Ren.int _ _, Ren.ptr rfl, Ren.int _ _, Ren.bool _, Ren.bool _, Ren.bool _, Ren.int _ _, trivial⟩ ⟨rfl, .inr ⟨_, rfl, rfl, Rens.cons (Ren.lst _ _ _) (Rens.cons (Ren.lst _ _ _) (Rens.cons (Ren.int _ _) (Rens.cons (Ren.int _ _) (Rens.cons (Ren.int _ _) (Rens.cons (Ren.lst _ _ _) (Rens.nil))))))⟩, .inr ⟨_, rfl, rfl, Rens.cons (Ren.int _ _) (Rens.cons (Ren.int _ _) (Rens.cons (Ren.int _ _) (Rens.cons (Ren.int _ _) (Rens.cons (Ren.int _ _) (Rens.cons (Ren.int _ _) (Rens.nil))))))⟩, trivial⟩⟩)))
 have hv := hv.2 hc
 refine W.exit (zZt (zZt (zYs (zZ (W.tr [(5, .bool _), (6, .ptr _ _), (7, .lst _ _ _), (8, .lst _ _ _), (10, .bool _), (11, .bool _), (12, .int _ _), (14, .int _ _), (15, .bool _), (16, .bool _), (17, .bool _)] [.dead, .box _ [.lst _ _ _, .lst _ _ _, .int _ _, .int _ _, .int _ _, .lst _ _ _], .box _ [.int _ _, .int _ _, .int _ _, .int _ _, .int _ _, .int _ _]] ⟨rfl, rfl, rfl, rfl, rfl, rfl, rfl, rfl, rfl, rfl, rfl, trivial⟩ rfl (W.rLm ⟨153, look [(5, .bool true), (6, .ptr 1 0), (7, .lst false (factsM x).length (zYy e69 (factsM x))), (8, .lst false ((fitM (factsM x)).1).length (zYy e73 ((fitM (factsM x)).1))), (10, .bool (decide ((v10 = true) /\ (((3 : Int) <= v14) /\ (v17 = true))))), (11, .bool v11), (12, .int .i64 v12), (14, .int .i64 v14), (15, .bool v15), (16, .bool v16)], [.dead, .box 26 [.lst false ((madeC c false).sv).length (zYy zYx ((madeC c false).sv)), .lst false ((madeC c false).jobs).length (zYy (e53 true) ((madeC c false).jobs)), .int .i64 ((madeC c false).late), .int .i64 ((madeC c false).obj), .int .i64 ((madeC c false).causes), .lst false ((madeC c false).ex).length (zYy e58 ((madeC c false).ex))], .box 58 [.int .i64 ((lat ((madeC c false).ex) v12).jb), .int .i64 ((lat ((madeC c false).ex) v12).pc), .int .i64 ((lat ((madeC c false).ex) v12).ca), .int .i64 ((lat ((madeC c false).ex) v12).ba), .int .i64 ((lat ((madeC c false).ex) v12).op), .int .i64 ((lat ((madeC c false).ex) v12).ver)]], 0⟩ ?_ ?_))))))
 iterate 2 refine mB rfl rfl ?_
 by_cases c1 : v10 = true
 refine cLg rfl rfl (c1) (mI rfl rfl (cLg rfl rfl (c1) (cL rfl (o_geq rfl rfl (cL rfl (zZv (v := .bool _) rfl c1 rfl (mB rfl rfl ?_)))))))
 by_cases c2 : (3 : Int) <= v14
 refine cLg rfl rfl (dT c2) (mB rfl rfl (cL rfl (zZv (v := .bool _) rfl (dT c2) rfl (aB rfl rfl (eL (zYz ⟨rfl, rfl, rfl, rfl, (congrArg AV.bool (zXv c1 (zXv c2 (dVar _)))).symm, rfl, rfl, rfl, rfl, rfl, trivial⟩ rfl))))))
 refine cLs rfl rfl rfl (dF c2) (cL rfl (zZy (v := .bool _) rfl (dF c2) rfl (aB rfl rfl (eL (zYz ⟨rfl, rfl, rfl, rfl, (congrArg AV.bool (zXv c1 (dAndF c2))).symm, rfl, rfl, rfl, rfl, rfl, trivial⟩ rfl)))))
 iterate 2 refine cLs rfl rfl rfl ((Bool.eq_false_iff.2 c1)) ?_
 refine cL rfl (zZy (v := .bool _) rfl (Bool.eq_false_iff.2 c1) rfl (mB rfl rfl (cLs rfl rfl rfl (rfl) (cL rfl (zZy (v := .bool _) rfl rfl rfl (aB rfl rfl (eL (zYz ⟨rfl, rfl, rfl, rfl, (congrArg AV.bool (dAndF c1)).symm, rfl, rfl, rfl, rfl, rfl, trivial⟩ rfl))))))))
 refine W.rLm1 ⟨153, look [(5, .bool true), (6, .ptr 1 0), (7, .lst false (factsM x).length (zYy e69 (factsM x))), (8, .lst false ((fitM (factsM x)).1).length (zYy e73 ((fitM (factsM x)).1))), (10, .bool (decide ((v10 = true) /\ (((3 : Int) <= v14) /\ (v17 = true))))), (11, .bool (decide ((v11 = true) /\ (((3 : Int) <= v14) /\ ((v15 = true) /\ (v16 = true)))))), (12, .int .i64 v12)], [.dead, .box 26 [.lst false ((madeC c false).sv).length (zYy zYx ((madeC c false).sv)), .lst false ((madeC c false).jobs).length (zYy (e53 true) ((madeC c false).jobs)), .int .i64 ((madeC c false).late), .int .i64 ((madeC c false).obj), .int .i64 ((madeC c false).causes), .lst false ((madeC c false).ex).length (zYy e58 ((madeC c false).ex))], .box 58 [.int .i64 ((lat ((madeC c false).ex) v12).jb), .int .i64 ((lat ((madeC c false).ex) v12).pc), .int .i64 ((lat ((madeC c false).ex) v12).ca), .int .i64 ((lat ((madeC c false).ex) v12).ba), .int .i64 ((lat ((madeC c false).ex) v12).op), .int .i64 ((lat ((madeC c false).ex) v12).ver)]], 0⟩ (fun s hl ⟨u, x0, x1, h1, h2⟩ => ⟨u, x0, x1, h1, St.le_to hl h2⟩) ?_ ?_
 iterate 2 refine mB rfl rfl ?_
 by_cases c1 : v11 = true
 refine cLg rfl rfl (c1) (mI rfl rfl (cLg rfl rfl (c1) (cL rfl (o_geq rfl rfl (cL rfl (zZv (v := .bool _) rfl c1 rfl (mB rfl rfl ?_)))))))
 by_cases c2 : (3 : Int) <= v14
 refine cLg rfl rfl (dT c2) (mB rfl rfl (cL rfl (zZv (v := .bool _) rfl (dT c2) rfl (mB rfl rfl ?_))))
 by_cases c3 : v15 = true
 refine cLg rfl rfl (c3) (mB rfl rfl (cL rfl (zZv (v := .bool _) rfl c3 rfl (aB rfl rfl (eL (zYz ⟨rfl, rfl, rfl, rfl, rfl, (congrArg AV.bool (zXv c1 (zXv c2 (zXv c3 (dVar _))))).symm, rfl, trivial⟩ rfl))))))
 refine cLs rfl rfl rfl ((Bool.eq_false_iff.2 c3)) (cL rfl (zZy (v := .bool _) rfl (Bool.eq_false_iff.2 c3) rfl (aB rfl rfl (eL (zYz ⟨rfl, rfl, rfl, rfl, rfl, (congrArg AV.bool (zXv c1 (zXv c2 (dAndF c3)))).symm, rfl, trivial⟩ rfl)))))
 refine cLs rfl rfl rfl (dF c2) (cL rfl (zZy (v := .bool _) rfl (dF c2) rfl (mB rfl rfl (cLs rfl rfl rfl (rfl) (cL rfl (zZy (v := .bool _) rfl rfl rfl (aB rfl rfl (eL (zYz ⟨rfl, rfl, rfl, rfl, rfl, (congrArg AV.bool (zXv c1 (dAndF c2))).symm, rfl, trivial⟩ rfl)))))))))
 iterate 2 refine cLs rfl rfl rfl ((Bool.eq_false_iff.2 c1)) ?_
 refine cL rfl (zZy (v := .bool _) rfl (Bool.eq_false_iff.2 c1) rfl (mB rfl rfl (cLs rfl rfl rfl (rfl) (cL rfl (zZy (v := .bool _) rfl rfl rfl (mB rfl rfl (cLs rfl rfl rfl (rfl) (cL rfl (zZy (v := .bool _) rfl rfl rfl (aB rfl rfl (eL (zYz ⟨rfl, rfl, rfl, rfl, rfl, (congrArg AV.bool (dAndF c1)).symm, rfl, trivial⟩ rfl))))))))))))
 exact zYv (zZ (⟨(), (decide ((v10 = true) /\ (((3 : Int) <= v14) /\ (v17 = true)))), (decide ((v11 = true) /\ (((3 : Int) <= v14) /\ ((v15 = true) /\ (v16 = true))))), hv, St.to_mk (φ := [none, some 1]) rfl (rfl) ⟨Ren.bool _, Ren.ptr rfl, Ren.lst _ _ _, Ren.lst _ _ _, Ren.bool _, Ren.bool _, Ren.int _ _, trivial⟩ ⟨rfl, .inr ⟨_, rfl, rfl, Rens.cons (Ren.lst _ _ _) (Rens.cons (Ren.lst _ _ _) (Rens.cons (Ren.int _ _) (Rens.cons (Ren.int _ _) (Rens.cons (Ren.int _ _) (Rens.cons (Ren.lst _ _ _) (Rens.nil))))))⟩, trivial⟩⟩))
 have hv := hv.2 hc
 refine W.exit (zZt (zZt (zYs (zZ (W.tr [(5, .bool _), (6, .ptr _ _), (8, .lst _ _ _), (10, .bool _), (11, .bool _)] [.dead, .box _ [.lst _ _ _, .lst _ _ _, .int _ _, .int _ _, .int _ _, .lst _ _ _]] ⟨rfl, rfl, rfl, rfl, rfl, trivial⟩ rfl (W.rL (cL rfl (zYp (cs := [.lst _ _ _, .lst _ _ _, .int _ _, .int _ _, .int _ _, .lst _ _ _]) tt26 rfl rfl ⟨_, rfl⟩ rfl (mL rfl rfl ?_)))))))))
 obtain ⟨s881, s882, s883, s884, s885, hv⟩ := hv
 refine cL rfl (zZu (k := 15) (fst := []) (caps := []) (ys := [.agg _, .lst _ _ _]) rfl rfl (spec_supported (madeC c false) ((fitM (factsM x)).1) s881 s882 s883 s884 s885) (Wks.cons (zXx 5 _ (Wks.cons (zZs _ _ _ _ _) (Wks.cons (zZs _ _ _ _ _) (Wks.cons (zZz _ _ _ _) (Wks.cons (zZz _ _ _ _) (Wks.cons (zZz _ _ _ _) (Wks.cons (zZs _ _ _ _ _) (Wks.refl _)))))))) (Wks.cons (zZs _ _ _ _ _) (Wks.refl _))) (aB rfl rfl (eL (W.tr [(5, .bool _), (10, .bool _), (11, .bool _), (19, .bool _)] [.dead, .box _ [.lst _ _ _, .lst _ _ _, .int _ _, .int _ _, .int _ _, .lst _ _ _]] ⟨rfl, rfl, rfl, rfl, trivial⟩ rfl (W.rLm ⟨153, look [(4, .bool (decide ((¬ (v10 = true)) /\ ((¬ ((supM (madeC c false) ((fitM (factsM x)).1)) = true)) \/ (v11 = true)) \/ ¬ (¬ (v10 = true)) /\ (((supM (madeC c false) ((fitM (factsM x)).1)) = true) /\ ((¬ ((supM (madeC c false) ((fitM (factsM x)).1)) = true)) \/ (v11 = true))))))], [.dead, .box 26 [.lst false ((madeC c false).sv).length (zYy zYx ((madeC c false).sv)), .lst false ((madeC c false).jobs).length (zYy (e53 true) ((madeC c false).jobs)), .int .i64 ((madeC c false).late), .int .i64 ((madeC c false).obj), .int .i64 ((madeC c false).causes), .lst false ((madeC c false).ex).length (zYy e58 ((madeC c false).ex))]], 0⟩ ?_ ?_)))))
 iterate 2 refine mB rfl rfl ?_
 refine cLg rfl rfl (rfl) (mB rfl rfl (cLg rfl rfl (rfl) (cL rfl (o_notB rfl (cLg rfl rfl (rfl) (mB rfl rfl ?_))))))
 by_cases c1 : ¬ (v10 = true)
 refine cLs rfl rfl rfl (dT c1) (cLg rfl rfl (rfl) (cL rfl (zZv (v := .bool _) rfl (dT c1) rfl (cL rfl (zZv (v := .bool _) rfl rfl rfl (mB rfl rfl (cLg rfl rfl (rfl) (mB rfl rfl (cLg rfl rfl (rfl) (cL rfl (o_notB rfl (cLg rfl rfl (rfl) (mB rfl rfl ?_)))))))))))))
 by_cases c2 : ¬ ((supM (madeC c false) ((fitM (factsM x)).1)) = true)
 refine cLs rfl rfl rfl (dT c2) (cLg rfl rfl (rfl) (cL rfl (zZv (v := .bool _) rfl (dT c2) rfl (cL rfl (zZv (v := .bool _) rfl rfl rfl (aB rfl rfl (eL (zYz ⟨(congrArg AV.bool (dIteT c1 (dOrT c2))).symm, trivial⟩ rfl))))))))
 refine cLg rfl rfl (dF c2) (mB rfl rfl (cLg rfl rfl (rfl) (cL rfl (zZy (v := .bool _) rfl (dF c2) rfl (cL rfl (zZv (v := .bool _) rfl rfl rfl (aB rfl rfl (eL (zYz ⟨(congrArg AV.bool (dIteT c1 (dOrF c2 (dVar _)))).symm, trivial⟩ rfl)))))))))
 refine cLg rfl rfl (dF c1) (mB rfl rfl (cLg rfl rfl (rfl) (cL rfl (zZy (v := .bool _) rfl (dF c1) rfl (cL rfl (zZv (v := .bool _) rfl rfl rfl (mB rfl rfl ?_)))))))
 by_cases c3 : (supM (madeC c false) ((fitM (factsM x)).1)) = true
 refine cLg rfl rfl (c3) (mB rfl rfl (cLg rfl rfl (c3) (cL rfl (o_notB rfl (cLg rfl rfl (c3) (mB rfl rfl ?_))))))
 by_cases c4 : ¬ ((supM (madeC c false) ((fitM (factsM x)).1)) = true)
 refine cLs rfl rfl rfl (dT c4) (cLg rfl rfl (c3) (cL rfl (zZv (v := .bool _) rfl (dT c4) rfl (cL rfl (zZv (v := .bool _) rfl c3 rfl (aB rfl rfl (eL (zYz ⟨(congrArg AV.bool (dIteF c1 (zXv c3 (dOrT c4)))).symm, trivial⟩ rfl))))))))
 refine cLg rfl rfl (dF c4) (mB rfl rfl (cLg rfl rfl (c3) (cL rfl (zZy (v := .bool _) rfl (dF c4) rfl (cL rfl (zZv (v := .bool _) rfl c3 rfl (aB rfl rfl (eL (zYz ⟨(congrArg AV.bool (dIteF c1 (zXv c3 (dOrF c4 (dVar _))))).symm, trivial⟩ rfl)))))))))
 iterate 3 refine cLs rfl rfl rfl ((Bool.eq_false_iff.2 c3)) ?_
 refine cLu rfl rfl rfl (cLs rfl rfl rfl ((Bool.eq_false_iff.2 c3)) (cL rfl (zZy (v := .bool _) rfl (Bool.eq_false_iff.2 c3) rfl (aB rfl rfl (eL (zYz ⟨(congrArg AV.bool (dIteF c1 (dAndF c3))).symm, trivial⟩ rfl))))))
 refine W.ret (rt (rt_t (v := .bool _) rfl (rt_n (⟨_, zYr _ _ _, (decide ((¬ (v10 = true)) /\ ((¬ ((supM (madeC c false) ((fitM (factsM x)).1)) = true)) \/ (v11 = true)) \/ ¬ (¬ (v10 = true)) /\ (((supM (madeC c false) ((fitM (factsM x)).1)) = true) /\ ((¬ ((supM (madeC c false) ((fitM (factsM x)).1)) = true)) \/ (v11 = true))))), rfl, hv⟩))))
set_option maxHeartbeats 2000000 in
theorem vcp_lawsup (c : Cas) (x : (List (Vector Int 4))) (h0 : CasOk c) (h1 : x.length <= 9223372036854775807 /\ ∀ y ∈ x, ∀ k, inI (vat y k)) : vc_lawsup c x (fun q0 => q0 = (true)) := by
  have hm := made_ok c false
  have hv := hm.v
  have L := hv.lens
  have hval : validR (madeC c false) = true := (validR_iff _).2 hv
  have hF := FitR.made x
  have hfit := hF.fit
  have hlen := facts_ok x
  obtain ⟨F, hFe⟩ : ∃ F, F = factsM x := ⟨_, rfl⟩
  obtain ⟨r, hr⟩ : ∃ r, r = madeC c false := ⟨_, rfl⟩
  have hexl : r.ex.length <= 168 := by rw [hr]; exact hv.len
  have hjl := joinM_len' (F.map fRg)
  rw [List.length_map] at hjl
  unfold vc_lawsup
  rw [<- hFe] at hF hfit hlen ⊢
  rw [<- hr] at hval L ⊢
  refine ⟨h0, h1.1, h1.2, by omega, fun k => absurd (by rw [hfit]) k, fun _ => ?_⟩
  rw [hfit]
  refine ⟨fun v10 v11 v12 => ∃ i : Nat, v12 = i /\ i <= r.ex.length /\ (v10 = true ↔ ∀ a : Nat, a < i -> sureX F (lat r.ex a)) /\ (v11 = true ↔ ∀ a : Nat, a < i -> possX F (lat r.ex a)), fun _ _ v12 => r.ex.length - v12.toNat, ⟨0, rfl, by omega, ⟨fun _ a ha => by omega, fun _ => rfl⟩, ⟨fun _ a ha => by omega, fun _ => rfl⟩⟩, ?_⟩
  rintro v10 v11 _ ⟨i, rfl, hi, hs, hp⟩
  refine ⟨fun k1 => ?_, fun k1 => ?_⟩
  rotate_left
  . have hil : i = r.ex.length := by omega
    subst hil
    refine ⟨L.a, L.b, L.c, L.d, by show (joinM (F.map fRg)).length <= _; omega, ?_⟩
    have key : supM r (joinM (F.map fRg)) = true ↔ v11 = true := by
      rw [sup_iff hF hval, hp]
      constructor
      . exact fun h a ha => h _ (lat_mem ⟨by omega, by omega⟩)
      . intro h y hy
        obtain ⟨a, ha, rfl⟩ := List.mem_iff_getElem.1 hy
        have := h a ha
        rwa [lat_get ha] at this
    have sp : v10 = true -> v11 = true := fun h => hp.2 fun a ha => by
      rcases hs.1 h a ha with h2 | h2
      . exact .inl h2
      . exact .inr ⟨h2.1, within_both h2.2⟩
    show decide _ = true
    rw [decide_eq_true_eq]
    show (¬ (v10 = true)) /\ ((¬ (supM r (joinM (F.map fRg)) = true)) \/ (v11 = true)) \/ _
    by_cases hv10 : v10 = true
    . have h11 := sp hv10
      exact .inr ⟨fun h => h hv10, key.2 h11, .inr h11⟩
    . refine .inl ⟨hv10, ?_⟩
      by_cases h11 : v11 = true
      . exact .inr h11
      . exact .inl fun h => h11 (key.1 h)
  obtain ⟨X, hX⟩ : ∃ X, X = lat r.ex (i : Int) := ⟨_, rfl⟩
  have hi1 : i < r.ex.length := by omega
  rw [<- hX]
  refine ⟨fun a b => (a = true ↔ v10 = true /\ sureX F X) /\ (b = true ↔ v11 = true /\ possX F X), ?_, ⟨by omega, k1⟩, fun k2 => ⟨⟨fun h => ⟨h, .inl k2⟩, fun h => h.1⟩, ⟨fun h => ⟨h, .inl k2⟩, fun h => h.1⟩⟩, fun k2 => ?_⟩
  . rintro a b ⟨ha, hb⟩
    have ext : ∀ (P : Ext -> Prop), (∀ q : Nat, q < i + 1 -> P (lat r.ex q)) ↔ (∀ q : Nat, q < i -> P (lat r.ex q)) /\ P X := fun P => by
      constructor
      . exact fun h => ⟨fun q hq => h q (by omega), by rw [hX]; exact h i (by omega)⟩
      . intro h q hq
        rcases Nat.lt_or_ge q i with h2 | h2
        . exact h.1 q h2
        . rw [show q = i by omega, <- hX]; exact h.2
    exact ⟨by unfold inI; omega, ⟨i + 1, by omega, by omega, by rw [ha, hs, ext (sureX F)], by rw [hb, hp, ext (possX F)]⟩, dec_lt k1⟩
  refine ⟨fun v14 v15 v16 v17 v18 => ∃ j : Nat, v18 = j /\ j <= F.length /\ v14 = manyF (F.take j) X.op X.ver /\ v15 = belowF (F.take j) X.op X.ver X.ba /\ v16 = aboveF (F.take j) X.op X.ver X.ba /\ v17 = withinF (F.take j) X.op X.ver X.ba, fun _ _ _ _ v18 => F.length - v18.toNat, ⟨0, rfl, by omega, rfl, rfl, rfl, rfl⟩, ?_⟩
  rintro _ _ _ _ _ ⟨j, rfl, hj, rfl, rfl, rfl, rfl⟩
  refine ⟨fun k3 => ?_, fun k3 => ?_⟩
  rotate_left
  . have hjl2 : j = F.length := by omega
    subst hjl2
    rw [List.take_length]
    refine ⟨?_, ?_⟩
    . rw [decide_eq_true_eq]
      unfold sureX
      constructor
      . rintro ⟨h1, h2, h3⟩; exact ⟨h1, .inr ⟨h2, h3⟩⟩
      . rintro ⟨h1, h2⟩
        have h2 := h2.resolve_left k2
        exact ⟨h1, h2.1, h2.2⟩
    . rw [decide_eq_true_eq]
      unfold possX
      constructor
      . rintro ⟨h1, h2, h3⟩; exact ⟨h1, .inr ⟨h2, h3⟩⟩
      . rintro ⟨h1, h2⟩
        have h2 := h2.resolve_left k2
        exact ⟨h1, h2.1, h2.2⟩
  have hj1 : j < F.length := by omega
  have hml : manyF (F.take j) X.op X.ver <= 400 := by
    have : manyF (F.take j) X.op X.ver <= (F.take j).length := List.countP_le_length
    rw [List.length_take] at this
    omega
  obtain ⟨f, hf⟩ : ∃ f, f = lat F (j : Int) := ⟨_, rfl⟩
  have ht : F.take (j + 1) = F.take j ++ [f] := by rw [take_succ_lat hj1, hf]
  have j0 : (0 : Int) <= (j : Int) /\ (j : Int) < (F.length : Int) := ⟨by omega, k3⟩
  rw [<- hf]
  refine ⟨fun a b cc d => a = manyF (F.take (j + 1)) X.op X.ver /\ b = belowF (F.take (j + 1)) X.op X.ver X.ba /\ cc = aboveF (F.take (j + 1)) X.op X.ver X.ba /\ d = withinF (F.take (j + 1)) X.op X.ver X.ba, ?_, ⟨j0, fun _ => ⟨j0, trivial⟩, fun _ => trivial⟩, fun k4 => ?_, fun k4 => ?_⟩
  . rintro _ _ _ _ ⟨rfl, rfl, rfl, rfl⟩
    exact ⟨by unfold inI; omega, ⟨j + 1, by omega, by omega, rfl, rfl, rfl, rfl⟩, by show F.length - ((j : Int) + 1).toNat < F.length - ((j : Int)).toNat; omega⟩
  . have hs : sameF X.op X.ver f = true := decide_eq_true k4
    refine ⟨by unfold inI; omega, ⟨fun _ => trivial, fun _ => ⟨j0, trivial⟩⟩, ⟨fun _ => trivial, fun _ => ⟨j0, trivial⟩⟩, ⟨fun _ => trivial, fun _ => ⟨j0, fun _ => ⟨j0, trivial⟩, fun _ => trivial⟩⟩, ?_, ?_, ?_, ?_⟩
    . rw [ht]; unfold manyF; rw [List.countP_append, List.countP_singleton, if_pos hs]; omega
    . rw [ht]; unfold belowF; rw [any_snoc, hs, Bool.true_and, Bool.eq_iff_iff, decide_eq_true_eq, Bool.or_eq_true, decide_eq_true_eq]
    . rw [ht]; unfold aboveF; rw [any_snoc, hs, Bool.true_and, Bool.eq_iff_iff, decide_eq_true_eq, Bool.or_eq_true, decide_eq_true_eq]
    . rw [ht]; unfold withinF; rw [any_snoc, hs, Bool.true_and, Bool.eq_iff_iff, decide_eq_true_eq, Bool.or_eq_true, decide_eq_true_eq]
  . have hs : sameF X.op X.ver f = false := decide_eq_false k4
    refine ⟨?_, ?_, ?_, ?_⟩
    . rw [ht]; unfold manyF; rw [List.countP_append, List.countP_singleton, if_neg (by rw [hs]; simp)]; omega
    . rw [ht]; unfold belowF; rw [any_snoc, hs]; simp
    . rw [ht]; unfold aboveF; rw [any_snoc, hs]; simp
    . rw [ht]; unfold withinF; rw [any_snoc, hs]; simp
theorem spec_lawsup (c : Cas) (x : (List (Vector Int 4))) (h0 : CasOk c) (h1 : x.length <= 9223372036854775807 /\ ∀ y ∈ x, ∀ k, inI (vat y k)) : FnP Try.prog 9 [.agg ((e31 true) c), .lst true x.length (zYy eV4 x)] (fun xR => xR = .bool (true)) :=
  (walk_lawsup (vcp_lawsup c x h0 h1)).mono (by rintro _ ⟨_, rfl, rfl⟩; rfl)
end Go.Lat
