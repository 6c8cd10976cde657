/- The law latecomerlaw07.BoundsMatchesReference returns true for every input, and each argument reads afterwards as it read before. Part 7 of 13. No condition. -/
import Derived.Test.YtikbpchifcjomaaLatD
import Derived.Test.YtikbpchifcjomaaLatF
import Derived.Test.YtikbpchifcjomaaLatE
set_option linter.unusedVariables false
set_option linter.unusedSimpArgs false
set_option linter.unnecessarySimpa false
namespace Go.Lat
open Go.RowKit Go.Proofs
attribute [local irreducible] closeM rangeM pointM addBM cycleM holdsM validBM sameM madeM pickM plusM validM possM firstM tableM longerM boundsM ofM addM freeM
def vc_point (b : Bd) (f : Int) (t : Int) (v : Int) (Post : (List Int) → Int → Prop) : Prop :=
  (b.most.length ≤ 1073741824) ∧ (∀ r ∈ b.most, r.length ≤ 1073741824) ∧ (((¬ (rangeM b f t).2.2 = (0 : Int)) ∨ ((v < (max ((rangeM b f t).1) (-36028797018963968 : Int))) ∨ ((min ((rangeM b f t).2.1) (36028797018963968 : Int)) < v))) → Post [] (2 : Int)) ∧ (¬ ((¬ (rangeM b f t).2.2 = (0 : Int)) ∨ ((v < (max ((rangeM b f t).1) (-36028797018963968 : Int))) ∨ ((min ((rangeM b f t).2.1) (36028797018963968 : Int)) < v))) → (b.most.length ≤ 24) ∧ ∃ J1 : (Vector Int 576) → Prop, (∀ (b1 : (Vector Int 576)), J1 b1 → (0 ≤ f ∧ f < ((24 : Nat) : Int)) ∧ (0 ≤ ((0 : Nat) : Int) ∧ ((0 : Nat) : Int) ≤ b.n ∧ b.n ≤ ((24 : Nat) : Int)) ∧ (((b1.toList.drop (f.toNat * 24)).take b.n.toNat).length ≤ 1073741824) ∧ ∃ (I2 : Int → List Int → Prop) (μ2 : Int → List Int → Nat), I2 (0 : Int) ((b1.toList.drop (f.toNat * 24)).take b.n.toNat) ∧ ∀ (v66 : Int) (r2 : List Int), I2 v66 r2 → ((v66 < ((((b1.toList.drop (f.toNat * 24)).take b.n.toNat).length : Nat) : Int)) → ∃ J3 : List Int → Prop, (∀ (r2_1 : List Int), J3 r2_1 → (inI (v66 + (1 : Int))) ∧ (I2 (v66 + (1 : Int)) r2_1 ∧ μ2 (v66 + (1 : Int)) r2_1 < μ2 v66 r2)) ∧ ((0 ≤ v66 ∧ v66 < ((r2.length : Nat) : Int)) ∧ ((¬ lat r2 v66 = (1152921504606846976 : Int)) → J3 r2) ∧ (¬ (¬ lat r2 v66 = (1152921504606846976 : Int)) → (0 ≤ v66 ∧ v66 < ((r2.length : Nat) : Int)) ∧ ∃ (I4 : Int → List Int → Prop) (μ4 : Int → List Int → Nat), I4 (0 : Int) (r2.set v66.toNat (576460752303423488 : Int)) ∧ ∀ (v78 : Int) (r2_1 : List Int), I4 v78 r2_1 → ((v78 < b.n) → ∃ J5 : List Int → Prop, (∀ (r2_2 : List Int), J5 r2_2 → (inI (v78 + (1 : Int))) ∧ (I4 (v78 + (1 : Int)) r2_2 ∧ μ4 (v78 + (1 : Int)) r2_2 < μ4 v78 r2_1)) ∧ (((0 ≤ f ∧ f < ((24 : Nat) : Int)) ∧ (0 ≤ v78 ∧ v78 < ((24 : Nat) : Int)) ∧ (f.toNat * 24 + v78.toNat < 576) ∧ ((vat b1 (f.toNat * 24 + v78.toNat) = (1152921504606846976 : Int)) → (0 ≤ v78 ∧ v78 < ((24 : Nat) : Int)) ∧ (0 ≤ v66 ∧ v66 < ((24 : Nat) : Int)) ∧ (v78.toNat * 24 + v66.toNat < 576) ∧ True) ∧ (¬ (vat b1 (f.toNat * 24 + v78.toNat) = (1152921504606846976 : Int)) → True)) ∧ ((((vat b1 (f.toNat * 24 + v78.toNat) = (1152921504606846976 : Int)) ∧ (¬ vat b1 (v78.toNat * 24 + v66.toNat) = (1152921504606846976 : Int))) → (0 ≤ v66 ∧ v66 < ((r2_1.length : Nat) : Int)) ∧ (0 ≤ v78 ∧ v78 < ((24 : Nat) : Int)) ∧ (0 ≤ v66 ∧ v66 < ((24 : Nat) : Int)) ∧ (v78.toNat * 24 + v66.toNat < 576) ∧ (inI ((576460752303423488 : Int) + (vat b1 (v78.toNat * 24 + v66.toNat)))) ∧ (0 ≤ v66 ∧ v66 < ((r2_1.length : Nat) : Int)) ∧ J5 (r2_1.set v66.toNat (min (lat r2_1 v66) ((576460752303423488 : Int) + (vat b1 (v78.toNat * 24 + v66.toNat)))))) ∧ (¬ ((vat b1 (f.toNat * 24 + v78.toNat) = (1152921504606846976 : Int)) ∧ (¬ vat b1 (v78.toNat * 24 + v66.toNat) = (1152921504606846976 : Int))) → J5 r2_1)))) ∧ (¬ (v78 < b.n) → J3 r2_1)))) ∧ (¬ (v66 < ((((b1.toList.drop (f.toNat * 24)).take b.n.toNat).length : Nat) : Int)) → Post r2 (0 : Int))) ∧ (((¬ f = t) → (AddOk (ofM b) f t v) ∧ (inI (-v)) ∧ (AddOk ((addM (ofM b) f t v).2) t f (-v)) ∧ J1 ((addM ((addM (ofM b) f t v).2) t f (-v)).2)) ∧ (¬ (¬ f = t) → J1 (ofM b))))
set_option maxRecDepth 100000 in
set_option maxHeartbeats 4000000 in
theorem walk_point {b : Bd} {f : Int} {t : Int} {v : Int} {Post : (List Int) → Int → Prop} (hv : vc_point b f t v Post) : FnP Try.prog 23 [.agg ((e34 true) b), .int .i64 f, .int .i64 t, .int .i64 v] (fun x => ∃ q0 q1, x = .tup [.lst false q0.length (encL eInt q0), .int .i64 q1] ∧ Post q0 q1) := by
 refine FnP.of_walk (T := tt) (nt := 118) ttOk ttMix ⟨⟨Try.f23, Try.func23, rfl, rfl, rfl, rfl⟩⟩ (by simp) ?_
 unfold vc_point at hv
 change W _ _ _ ⟨118, look [(0, .agg [.int .i64 b.n, .lst true b.most.length (encL (eSl eInt true) b.most)]), (1, .int .i64 f), (2, .int .i64 t), (3, .int .i64 v)], [], false⟩ _
 refine W.tr [(0, .agg _), (1, .int _ _), (2, .int _ _), (3, .int _ _)] [] ⟨rfl, rfl, rfl, rfl, trivial⟩ rfl ?_
 refine W.rL ?_
 refine cL rfl (o_box (v := .agg _) (p := 0) rfl rfl rfl ?_)
 refine cL rfl (o_assign (v := .nilS) rfl ?_)
 refine aI rfl rfl ?_
 refine eL ?_
 refine W.tr [(1, .int _ _), (2, .int _ _), (3, .int _ _), (4, .ptr _ _)] [.box _ [.int _ _, .lst _ _ _]] ⟨rfl, rfl, rfl, rfl, trivial⟩ rfl ?_
 refine W.rL ?_
 refine cL rfl (o_ldA (cs := [.int _ _, .lst _ _ _]) tt34 rfl rfl ⟨_, rfl⟩ rfl ?_)
 iterate 2 refine mI rfl rfl ?_
 obtain ⟨s1, s2, hv⟩ := hv
 refine cL rfl (o_callP1 (k := 21) (fst := []) (caps := []) (ys := [.agg _, .int _ _, .int _ _]) rfl rfl (spec_range b f t s1 s2) (Wks.cons (ag_agg 5 _ (Wks.cons (ag_int _ _ _ _) (Wks.cons (ag_lst _ _ _ _ _) (Wks.refl _)))) (Wks.cons (ag_int _ _ _ _) (Wks.cons (ag_int _ _ _ _) (Wks.refl _)))) ?_)
 refine cL rfl (o_move (v := .tup _) rfl ?_)
 iterate 3 refine cL rfl (o_ext (v := .int _ _) rfl rfl ?_)
 iterate 3 refine aI rfl rfl ?_
 refine eL ?_
 refine W.tr [(1, .int _ _), (2, .int _ _), (3, .int _ _), (4, .ptr _ _), (10, .int _ _), (11, .int _ _), (12, .int _ _)] [.box _ [.int _ _, .lst _ _ _]] ⟨rfl, rfl, rfl, rfl, rfl, rfl, rfl, trivial⟩ rfl ?_
 refine W.seq' ?_
 refine W.rLm ⟨118, look [(1, .int .i64 f), (2, .int .i64 t), (3, .int .i64 v), (4, .ptr 0 0), (39, .bool (decide ((¬ (rangeM b f t).2.2 = (0 : Int)) ∨ ((v < (max ((rangeM b f t).1) (-36028797018963968 : Int))) ∨ ((min ((rangeM b f t).2.1) (36028797018963968 : Int)) < v)))))], [.box 34 [.int .i64 b.n, .lst true b.most.length (encL (eSl eInt true) b.most)]], false⟩ ?_ ?_
 refine mI rfl rfl ?_
 refine cL rfl (o_neI rfl rfl rfl ?_)
 refine mB rfl rfl ?_
 by_cases c1 : ¬ (rangeM b f t).2.2 = (0 : Int)
 iterate 4 refine cLs rfl rfl rfl (decide_eq_true c1) ?_
 refine cL rfl (o_pickT (v := .bool _) rfl (decide_eq_true c1) rfl ?_)
 refine mB rfl rfl ?_
 iterate 4 refine cLs rfl rfl rfl (rfl) ?_
 refine cL rfl (o_pickT (v := .bool _) rfl rfl rfl ?_)
 refine eL ?_
 exact le_mk ⟨rfl, rfl, rfl, rfl, (congrArg AV.bool (dOrT c1)).symm, trivial⟩ rfl
 refine cLg rfl rfl (decide_eq_false c1) ?_
 refine mI rfl rfl ?_
 refine cLg rfl rfl (decide_eq_false c1) ?_
 refine mI rfl rfl ?_
 refine cLg rfl rfl (decide_eq_false c1) ?_
 refine cL rfl (o_max rfl rfl ?_)
 refine cLg rfl rfl (decide_eq_false c1) ?_
 refine cL rfl (o_lss rfl rfl ?_)
 refine cL rfl (o_pickF (v := .bool _) rfl (decide_eq_false c1) rfl ?_)
 refine mB rfl rfl ?_
 by_cases c2 : v < (max ((rangeM b f t).1) (-36028797018963968 : Int))
 iterate 4 refine cLs rfl rfl rfl (decide_eq_true c2) ?_
 refine cL rfl (o_pickT (v := .bool _) rfl (decide_eq_true c2) rfl ?_)
 refine eL ?_
 exact le_mk ⟨rfl, rfl, rfl, rfl, (congrArg AV.bool (dOrF c1 (dOrT c2))).symm, trivial⟩ rfl
 refine cLg rfl rfl (decide_eq_false c2) ?_
 refine mI rfl rfl ?_
 refine cLg rfl rfl (decide_eq_false c2) ?_
 refine mI rfl rfl ?_
 refine cLg rfl rfl (decide_eq_false c2) ?_
 refine cL rfl (o_min rfl rfl ?_)
 refine cLg rfl rfl (decide_eq_false c2) ?_
 refine cL rfl (o_gtr rfl rfl ?_)
 refine cL rfl (o_pickF (v := .bool _) rfl (decide_eq_false c2) rfl ?_)
 refine eL ?_
 exact le_mk ⟨rfl, rfl, rfl, rfl, (congrArg AV.bool (dOrF c1 (dOrF c2 (rfl)))).symm, trivial⟩ rfl
 refine W.cn rfl (fun hc => ?_) (fun hc => ?_)
 have hv := hv.1 hc
 refine W.rL ?_
 refine cL rfl (o_assign (v := .nilS) rfl ?_)
 refine aI rfl rfl ?_
 refine eL ?_
 refine W.tr [(8, .nilS), (9, .int _ _)] [.box _ [.int _ _, .lst _ _ _]] ⟨rfl, rfl, trivial⟩ rfl ?_
 refine W.ret ?_
 refine th_ret (rt ?_)
 refine rt_t (v := .nilS) rfl ?_
 refine rt_t (v := .int _ _) rfl ?_
 refine rt_n ?_
 exact ⟨_, rs_tup 5 _ (Wks.cons (rs_nil _ _ _ _ rfl) (Wks.cons (rs_int _ _ _ _) (Wks.refl _))), [], (2 : Int), rfl, hv⟩
 have hv := hv.2 hc
 refine W.skip ?_
 refine th_nrm ?_
 refine W.tr [(1, .int _ _), (2, .int _ _), (3, .int _ _), (4, .ptr _ _)] [.box _ [.int _ _, .lst _ _ _]] ⟨rfl, rfl, rfl, rfl, trivial⟩ rfl ?_
 refine W.rH ?_
 refine cH rfl (o_ldA (cs := [.int _ _, .lst _ _ _]) tt34 rfl rfl ⟨_, rfl⟩ rfl ?_)
 obtain ⟨s3, hv⟩ := hv
 refine cHc rfl (callH_N1 (xs := _) (spec_of b s3) (Wks.cons (ag_agg 5 _ (Wks.cons (ag_int _ _ _ _) (Wks.cons (ag_lst _ _ _ _ _) (Wks.refl _)))) (Wks.refl _)) flatI rfl ?_)
 refine cH rfl (o_assign (v := .ptr _ _) rfl ?_)
 refine eH ?_
 refine W.tr [(1, .int _ _), (2, .int _ _), (3, .int _ _), (4, .ptr _ _), (13, .ptr _ _)] [.box _ [.int _ _, .lst _ _ _], .box _ _] ⟨rfl, rfl, rfl, rfl, rfl, trivial⟩ rfl ?_
 obtain ⟨J1, hj, hv⟩ := hv
 refine W.mid1 (fun b1 => ⟨118, look [(1, .int .i64 f), (4, .ptr 0 0), (13, .ptr 1 0)], [.box 34 [.int .i64 b.n, .lst true b.most.length (encL (eSl eInt true) b.most)], .box 82 (encL eInt b1.toList)], false⟩) J1 ?_ ?_
 intro b1
 intro hv
 replace hv := hj b1 hv
 refine W.rM 7 [0, 1, 2, 3, 4, 5, 6, 7, 8] (by decide +kernel) (by decide +kernel) ?_
 refine cM rfl rfl rfl (o_move (v := .ptr _ _) rfl ?_)
 refine cM rfl rfl rfl (o_move (v := .int _ _) rfl ?_)
 refine cM rfl rfl rfl (o_nil rfl ?_)
 obtain ⟨s7, hv⟩ := hv
 refine cM rfl rfl rfl (o_iaA tt82 tt73 rfl rfl s7 (Nat.zero_add _) ?_)
 refine cM rfl rfl rfl (o_fa tt34 rfl tt3 rfl ?_)
 refine cM rfl rfl rfl (o_ldS (v := .int _ _) tt3 rfl rfl ⟨_, rfl⟩ ?_)
 obtain ⟨s8, hv⟩ := hv
 refine cM rfl rfl rfl (o_slA tt73 tt3 rfl rfl rfl s8 (off := f.toNat * 24) (c := b.n.toNat) (by simp) (by simp) ?_)
 obtain ⟨s9, hv⟩ := hv
 refine cMc rfl rfl (callH_R1 (xs := _) (spec_cloneR ((b1.toList.drop (f.toNat * 24)).take b.n.toNat) s9) (Wks.cons (ag_subv 4 rfl rfl (by simp; omega)) (Wks.refl _)) flatI rfl ?_)
 refine cM rfl rfl rfl (o_assign (v := .ref _ _ _) rfl ?_)
 refine eM ?_
 refine W.tr [(1, .int _ _), (4, .ptr _ _), (13, .ptr _ _), (14, .ref _ _ _)] [.box _ [.int _ _, .lst _ _ _], .box _ _, .row _ _ _] ⟨rfl, rfl, rfl, rfl, trivial⟩ rfl ?_
 refine W.seq' ?_
 refine W.rL ?_
 refine cL rfl (o_move (v := .ref _ _ _) rfl ?_)
 refine cL rfl (o_len (v := .ref _ _ _) tt35 rfl rfl ?_)
 refine mI rfl rfl ?_
 refine eL ?_
 refine W.tr [(1, .int _ _), (4, .ptr _ _), (13, .ptr _ _), (14, .ref _ _ _), (64, .ref _ _ _), (65, .int _ _), (66, .int _ _)] [.box _ [.int _ _, .lst _ _ _], .box _ _, .row _ _ _] ⟨rfl, rfl, rfl, rfl, rfl, rfl, rfl, trivial⟩ rfl ?_
 refine W.block ?_
 obtain ⟨I2, μ2, hp, hv⟩ := hv
 refine W.loop2 (fun v66 r2 => ⟨118, look [(1, .int .i64 f), (4, .ptr 0 0), (13, .ptr 1 0), (14, .ref false 2 r2.length), (64, .ref false 2 r2.length), (65, .int .i64 ((((b1.toList.drop (f.toNat * 24)).take b.n.toNat).length : Nat) : Int)), (66, .int .i64 v66)], [.box 34 [.int .i64 b.n, .lst true b.most.length (encL (eSl eInt true) b.most)], .box 82 (encL eInt b1.toList), .row 3 1 (encL eInt r2)], false⟩) I2 μ2 (0 : Int) ((b1.toList.drop (f.toNat * 24)).take b.n.toNat) (St.to_mk (φ := [some 0, some 1, some 2]) rfl (.inl rfl) ⟨Ren.int _ _, Ren.ptr rfl, Ren.ptr rfl, Ren.ref rfl (fun h => h), Ren.ref rfl (fun h => h), Ren.int _ _, Ren.int _ _, trivial⟩ ⟨.inr ⟨_, rfl, rfl, Rens.cons (Ren.int _ _) (Rens.cons (Ren.lst _ _ _) (Rens.nil))⟩, .inr ⟨_, rfl, rfl, Rens.enc encInt true _⟩, .inr ⟨_, rfl, rfl, rfl, rfl, Rens.enc encInt false ((b1.toList.drop (f.toNat * 24)).take b.n.toNat)⟩, trivial⟩) hp ?_
 clear hp
 intro v66 r2 hI
 replace hv := hv v66 r2 hI
 clear hI
 refine W.rL ?_
 refine cL rfl (o_lss rfl rfl ?_)
 refine eL ?_
 refine W.tr [(1, .int _ _), (4, .ptr _ _), (13, .ptr _ _), (14, .ref _ _ _), (64, .ref _ _ _), (65, .int _ _), (66, .int _ _), (67, .bool _)] [.box _ [.int _ _, .lst _ _ _], .box _ _, .row _ _ _] ⟨rfl, rfl, rfl, rfl, rfl, rfl, rfl, rfl, trivial⟩ rfl ?_
 refine W.seq' ?_
 refine W.cn rfl (fun hc => ?_) (fun hc => ?_)
 have hv := hv.1 hc
 refine W.skip ?_
 refine th_nrm ?_
 refine W.tr [(1, .int _ _), (4, .ptr _ _), (13, .ptr _ _), (14, .ref _ _ _), (64, .ref _ _ _), (65, .int _ _), (66, .int _ _)] [.box _ [.int _ _, .lst _ _ _], .box _ _, .row _ _ _] ⟨rfl, rfl, rfl, rfl, rfl, rfl, rfl, trivial⟩ rfl ?_
 obtain ⟨J3, hj, hv⟩ := hv
 refine W.mid1 (fun r2_1 => ⟨118, look [(1, .int .i64 f), (4, .ptr 0 0), (13, .ptr 1 0), (14, .ref false 2 r2_1.length), (64, .ref false 2 r2_1.length), (65, .int .i64 ((((b1.toList.drop (f.toNat * 24)).take b.n.toNat).length : Nat) : Int)), (66, .int .i64 v66)], [.box 34 [.int .i64 b.n, .lst true b.most.length (encL (eSl eInt true) b.most)], .box 82 (encL eInt b1.toList), .row 3 1 (encL eInt r2_1)], false⟩) J3 ?_ ?_
 intro r2_1
 intro hv
 replace hv := hj r2_1 hv
 refine W.rL1 ?_
 obtain ⟨s1258, hv⟩ := hv
 refine cL rfl (o_add rfl rfl s1258 ?_)
 refine mI rfl rfl ?_
 refine eL ?_
 exact th_nrm (⟨(), (v66 + (1 : Int)), r2_1, hv, St.to_mk (φ := [some 0, some 1, some 2]) rfl (.inl rfl) ⟨Ren.int _ _, Ren.ptr rfl, Ren.ptr rfl, Ren.ref rfl (fun h => h), Ren.ref rfl (fun h => h), Ren.int _ _, Ren.int _ _, trivial⟩ ⟨.inr ⟨_, rfl, rfl, Rens.cons (Ren.int _ _) (Rens.cons (Ren.lst _ _ _) (Rens.nil))⟩, .inr ⟨_, rfl, rfl, Rens.enc encInt true _⟩, .inr ⟨_, rfl, rfl, rfl, rfl, Rens.enc encInt false r2_1⟩, trivial⟩⟩)
 clear hj
 refine W.block ?_
 refine W.rL ?_
 refine mI rfl rfl ?_
 obtain ⟨s1259, hv⟩ := hv
 refine cL rfl (o_iaR tt35 tt3 rfl rfl s1259 ?_)
 refine cL rfl (o_ldS (v := .int _ _) tt3 rfl rfl (cell_of (ca_row (xs := r2) rfl (encInt.wd false) s1259) rfl) ?_)
 iterate 2 refine aI rfl rfl ?_
 refine eL ?_
 refine W.tr [(1, .int _ _), (4, .ptr _ _), (13, .ptr _ _), (14, .ref _ _ _), (15, .int _ _), (16, .int _ _), (64, .ref _ _ _), (65, .int _ _), (66, .int _ _)] [.box _ [.int _ _, .lst _ _ _], .box _ _, .row _ _ _] ⟨rfl, rfl, rfl, rfl, rfl, rfl, rfl, rfl, rfl, trivial⟩ rfl ?_
 refine W.seq' ?_
 refine W.rL ?_
 refine mI rfl rfl ?_
 refine cL rfl (o_neI rfl rfl rfl ?_)
 refine eL ?_
 refine W.tr [(1, .int _ _), (4, .ptr _ _), (13, .ptr _ _), (14, .ref _ _ _), (15, .int _ _), (64, .ref _ _ _), (65, .int _ _), (66, .int _ _), (72, .bool _)] [.box _ [.int _ _, .lst _ _ _], .box _ _, .row _ _ _] ⟨rfl, rfl, rfl, rfl, rfl, rfl, rfl, rfl, rfl, trivial⟩ rfl ?_
 refine W.cn rfl (fun hc => ?_) (fun hc => ?_)
 have hv := hv.1 hc
 refine W.exit ?_
 exact th_exit (bl_hit (th_nrm (⟨(), r2, hv, St.to_mk (φ := [some 0, some 1, some 2]) rfl (.inl rfl) ⟨Ren.int _ _, Ren.ptr rfl, Ren.ptr rfl, Ren.ref rfl (fun h => h), Ren.ref rfl (fun h => h), Ren.int _ _, Ren.int _ _, trivial⟩ ⟨.inr ⟨_, rfl, rfl, Rens.cons (Ren.int _ _) (Rens.cons (Ren.lst _ _ _) (Rens.nil))⟩, .inr ⟨_, rfl, rfl, Rens.enc encInt true _⟩, .inr ⟨_, rfl, rfl, rfl, rfl, Rens.enc encInt false r2⟩, trivial⟩⟩)))
 have hv := hv.2 hc
 refine W.skip ?_
 refine th_nrm ?_
 refine W.tr [(1, .int _ _), (4, .ptr _ _), (13, .ptr _ _), (14, .ref _ _ _), (15, .int _ _), (64, .ref _ _ _), (65, .int _ _), (66, .int _ _)] [.box _ [.int _ _, .lst _ _ _], .box _ _, .row _ _ _] ⟨rfl, rfl, rfl, rfl, rfl, rfl, rfl, rfl, trivial⟩ rfl ?_
 refine W.rL ?_
 refine cL rfl (o_move (v := .ref _ _ _) rfl ?_)
 refine mI rfl rfl ?_
 obtain ⟨s1260, hv⟩ := hv
 refine cL rfl (o_iaR tt35 tt3 rfl rfl s1260 ?_)
 refine cLn (o_stR (v := .int _ _) tt3 rfl rfl rfl rfl rfl (row_in (xs := r2) (encInt.wd false) s1260 rfl) (row_set (e := eInt) (encInt.wd false) _ _ (576460752303423488 : Int) rfl s1260.1 s1260.2) ?_)
 refine eL ?_
 refine W.tr [(1, .int _ _), (4, .ptr _ _), (13, .ptr _ _), (14, .ref _ _ _), (15, .int _ _), (64, .ref _ _ _), (65, .int _ _), (66, .int _ _)] [.box _ [.int _ _, .lst _ _ _], .box _ _, .row _ _ _] ⟨rfl, rfl, rfl, rfl, rfl, rfl, rfl, rfl, trivial⟩ rfl ?_
 refine W.rL ?_
 refine cL rfl (o_fa tt34 rfl tt3 rfl ?_)
 refine cL rfl (o_ldS (v := .int _ _) tt3 rfl rfl ⟨_, rfl⟩ ?_)
 refine mI rfl rfl ?_
 refine eL ?_
 refine W.tr [(1, .int _ _), (4, .ptr _ _), (13, .ptr _ _), (14, .ref _ _ _), (15, .int _ _), (64, .ref _ _ _), (65, .int _ _), (66, .int _ _), (77, .int _ _), (78, .int _ _)] [.box _ [.int _ _, .lst _ _ _], .box _ _, .row _ _ _] ⟨rfl, rfl, rfl, rfl, rfl, rfl, rfl, rfl, rfl, rfl, trivial⟩ rfl ?_
 refine W.block ?_
 obtain ⟨I4, μ4, hp, hv⟩ := hv
 refine W.loop2 (fun v78 r2_1 => ⟨118, look [(1, .int .i64 f), (4, .ptr 0 0), (13, .ptr 1 0), (14, .ref false 2 r2_1.length), (15, .int .i64 v66), (64, .ref false 2 r2_1.length), (65, .int .i64 ((((b1.toList.drop (f.toNat * 24)).take b.n.toNat).length : Nat) : Int)), (66, .int .i64 v66), (77, .int .i64 b.n), (78, .int .i64 v78)], [.box 34 [.int .i64 b.n, .lst true b.most.length (encL (eSl eInt true) b.most)], .box 82 (encL eInt b1.toList), .row 3 1 (encL eInt r2_1)], false⟩) I4 μ4 (0 : Int) (r2.set v66.toNat (576460752303423488 : Int)) (St.to_mk (φ := [some 0, some 1, some 2]) rfl (.inl rfl) ⟨Ren.int _ _, Ren.ptr rfl, Ren.ptr rfl, Ren.refL rfl (fun h => h) (by simp), Ren.int _ _, Ren.refL rfl (fun h => h) (by simp), Ren.int _ _, Ren.int _ _, Ren.int _ _, Ren.int _ _, trivial⟩ ⟨.inr ⟨_, rfl, rfl, Rens.cons (Ren.int _ _) (Rens.cons (Ren.lst _ _ _) (Rens.nil))⟩, .inr ⟨_, rfl, rfl, Rens.enc encInt true _⟩, .inr ⟨_, rfl, rfl, rfl, rfl, Rens.enc encInt false (r2.set v66.toNat (576460752303423488 : Int))⟩, trivial⟩) hp ?_
 clear hp
 intro v78 r2_1 hI
 replace hv := hv v78 r2_1 hI
 clear hI
 refine W.rL ?_
 refine cL rfl (o_lss rfl rfl ?_)
 refine eL ?_
 refine W.tr [(1, .int _ _), (4, .ptr _ _), (13, .ptr _ _), (14, .ref _ _ _), (15, .int _ _), (64, .ref _ _ _), (65, .int _ _), (66, .int _ _), (77, .int _ _), (78, .int _ _), (79, .bool _)] [.box _ [.int _ _, .lst _ _ _], .box _ _, .row _ _ _] ⟨rfl, rfl, rfl, rfl, rfl, rfl, rfl, rfl, rfl, rfl, rfl, trivial⟩ rfl ?_
 refine W.seq' ?_
 refine W.cn rfl (fun hc => ?_) (fun hc => ?_)
 have hv := hv.1 hc
 refine W.skip ?_
 refine th_nrm ?_
 refine W.tr [(1, .int _ _), (4, .ptr _ _), (13, .ptr _ _), (14, .ref _ _ _), (15, .int _ _), (64, .ref _ _ _), (65, .int _ _), (66, .int _ _), (77, .int _ _), (78, .int _ _)] [.box _ [.int _ _, .lst _ _ _], .box _ _, .row _ _ _] ⟨rfl, rfl, rfl, rfl, rfl, rfl, rfl, rfl, rfl, rfl, trivial⟩ rfl ?_
 obtain ⟨J5, hj, hv⟩ := hv
 refine W.mid1 (fun r2_2 => ⟨118, look [(1, .int .i64 f), (4, .ptr 0 0), (13, .ptr 1 0), (14, .ref false 2 r2_2.length), (15, .int .i64 v66), (64, .ref false 2 r2_2.length), (65, .int .i64 ((((b1.toList.drop (f.toNat * 24)).take b.n.toNat).length : Nat) : Int)), (66, .int .i64 v66), (77, .int .i64 b.n), (78, .int .i64 v78)], [.box 34 [.int .i64 b.n, .lst true b.most.length (encL (eSl eInt true) b.most)], .box 82 (encL eInt b1.toList), .row 3 1 (encL eInt r2_2)], false⟩) J5 ?_ ?_
 intro r2_2
 intro hv
 replace hv := hj r2_2 hv
 refine W.rL1 ?_
 obtain ⟨s1353, hv⟩ := hv
 refine cL rfl (o_add rfl rfl s1353 ?_)
 refine mI rfl rfl ?_
 refine eL ?_
 exact th_nrm (⟨(), (v78 + (1 : Int)), r2_2, hv, St.to_mk (φ := [some 0, some 1, some 2]) rfl (.inl rfl) ⟨Ren.int _ _, Ren.ptr rfl, Ren.ptr rfl, Ren.ref rfl (fun h => h), Ren.int _ _, Ren.ref rfl (fun h => h), Ren.int _ _, Ren.int _ _, Ren.int _ _, Ren.int _ _, trivial⟩ ⟨.inr ⟨_, rfl, rfl, Rens.cons (Ren.int _ _) (Rens.cons (Ren.lst _ _ _) (Rens.nil))⟩, .inr ⟨_, rfl, rfl, Rens.enc encInt true _⟩, .inr ⟨_, rfl, rfl, rfl, rfl, Rens.enc encInt false r2_2⟩, trivial⟩⟩)
 clear hj
 refine W.block ?_
 refine W.rL ?_
 refine mI rfl rfl ?_
 refine aI rfl rfl ?_
 refine eL ?_
 refine W.tr [(1, .int _ _), (4, .ptr _ _), (13, .ptr _ _), (14, .ref _ _ _), (15, .int _ _), (17, .int _ _), (64, .ref _ _ _), (65, .int _ _), (66, .int _ _), (77, .int _ _), (78, .int _ _)] [.box _ [.int _ _, .lst _ _ _], .box _ _, .row _ _ _] ⟨rfl, rfl, rfl, rfl, rfl, rfl, rfl, rfl, rfl, rfl, rfl, trivial⟩ rfl ?_
 obtain ⟨sd, hv⟩ := hv
 refine W.rLm ⟨118, look [(1, .int .i64 f), (4, .ptr 0 0), (13, .ptr 1 0), (14, .ref false 2 r2_1.length), (15, .int .i64 v66), (17, .int .i64 v78), (64, .ref false 2 r2_1.length), (65, .int .i64 ((((b1.toList.drop (f.toNat * 24)).take b.n.toNat).length : Nat) : Int)), (66, .int .i64 v66), (77, .int .i64 b.n), (78, .int .i64 v78), (98, .bool (decide ((vat b1 (f.toNat * 24 + v78.toNat) = (1152921504606846976 : Int)) ∧ (¬ vat b1 (v78.toNat * 24 + v66.toNat) = (1152921504606846976 : Int)))))], [.box 34 [.int .i64 b.n, .lst true b.most.length (encL (eSl eInt true) b.most)], .box 82 (encL eInt b1.toList), .row 3 1 (encL eInt r2_1)], false⟩ ?_ ?_
 refine cL rfl (o_move (v := .ptr _ _) rfl ?_)
 iterate 2 refine mI rfl rfl ?_
 refine cL rfl (o_nil rfl ?_)
 obtain ⟨s1360, sd⟩ := sd
 refine cL rfl (o_iaA tt82 tt73 rfl rfl s1360 (Nat.zero_add _) ?_)
 obtain ⟨s1361, sd⟩ := sd
 refine cL rfl (o_iaA tt73 tt3 rfl rfl s1361 (by rw [Nat.mul_one]) ?_)
 obtain ⟨s1362, sd⟩ := sd
 refine cL rfl (o_ldS tt3 rfl rfl (ca_vec rfl s1362) ?_)
 refine cL rfl (o_eqI rfl rfl rfl ?_)
 refine mB rfl rfl ?_
 by_cases c1 : vat b1 (f.toNat * 24 + v78.toNat) = (1152921504606846976 : Int)
 have sd := sd.1 c1
 refine cLg rfl rfl (decide_eq_true c1) ?_
 refine cL rfl (o_move (v := .ptr _ _) rfl ?_)
 refine cLg rfl rfl (decide_eq_true c1) ?_
 refine mI rfl rfl ?_
 refine cLg rfl rfl (decide_eq_true c1) ?_
 refine mI rfl rfl ?_
 refine cLg rfl rfl (decide_eq_true c1) ?_
 refine cL rfl (o_nil rfl ?_)
 refine cLg rfl rfl (decide_eq_true c1) ?_
 obtain ⟨s1363, sd⟩ := sd
 refine cL rfl (o_iaA tt82 tt73 rfl rfl s1363 (Nat.zero_add _) ?_)
 refine cLg rfl rfl (decide_eq_true c1) ?_
 obtain ⟨s1364, sd⟩ := sd
 refine cL rfl (o_iaA tt73 tt3 rfl rfl s1364 (by rw [Nat.mul_one]) ?_)
 refine cLg rfl rfl (decide_eq_true c1) ?_
 obtain ⟨s1365, sd⟩ := sd
 refine cL rfl (o_ldS tt3 rfl rfl (ca_vec rfl s1365) ?_)
 refine cLg rfl rfl (decide_eq_true c1) ?_
 refine cL rfl (o_neI rfl rfl rfl ?_)
 refine cL rfl (o_pickT (v := .bool _) rfl (decide_eq_true c1) rfl ?_)
 refine eL ?_
 exact le_mk ⟨rfl, rfl, rfl, rfl, rfl, rfl, rfl, rfl, rfl, rfl, rfl, (congrArg AV.bool (dAndT c1 (rfl))).symm, trivial⟩ rfl
 iterate 8 refine cLs rfl rfl rfl (decide_eq_false c1) ?_
 refine cL rfl (o_pickF (v := .bool _) rfl (decide_eq_false c1) rfl ?_)
 refine eL ?_
 exact le_mk ⟨rfl, rfl, rfl, rfl, rfl, rfl, rfl, rfl, rfl, rfl, rfl, (congrArg AV.bool (dAndF c1)).symm, trivial⟩ rfl
 refine W.cn rfl (fun hc => ?_) (fun hc => ?_)
 have hv := hv.1 hc
 refine W.rD1 [0, 1, 2, 3, 4, 5, 6, 7, 8, 9, 10, 11, 12, 13, 14, 15, 16] (by decide +kernel) rfl ?_
 refine cL rfl (o_move (v := .ref _ _ _) rfl ?_)
 refine mI rfl rfl ?_
 refine cL rfl (o_move (v := .ref _ _ _) rfl ?_)
 refine mI rfl rfl ?_
 obtain ⟨s1366, hv⟩ := hv
 refine cL rfl (o_iaR tt35 tt3 rfl rfl s1366 ?_)
 refine cL rfl (o_ldS (v := .int _ _) tt3 rfl rfl (cell_of (ca_row (xs := r2_1) rfl (encInt.wd false) s1366) rfl) ?_)
 refine cL rfl (o_move (v := .ptr _ _) rfl ?_)
 iterate 2 refine mI rfl rfl ?_
 refine cL rfl (o_nil rfl ?_)
 obtain ⟨s1367, hv⟩ := hv
 refine cL rfl (o_iaA tt82 tt73 rfl rfl s1367 (Nat.zero_add _) ?_)
 obtain ⟨s1368, hv⟩ := hv
 refine cL rfl (o_iaA tt73 tt3 rfl rfl s1368 (by rw [Nat.mul_one]) ?_)
 obtain ⟨s1369, hv⟩ := hv
 refine cL rfl (o_ldS tt3 rfl rfl (ca_vec rfl s1369) ?_)
 obtain ⟨s1370, hv⟩ := hv
 refine cL rfl (o_add rfl rfl s1370 ?_)
 refine cL rfl (o_min rfl rfl ?_)
 obtain ⟨s1371, hv⟩ := hv
 refine cL rfl (o_iaR tt35 tt3 rfl rfl s1371 ?_)
 refine cLn (o_stR (v := .int _ _) tt3 rfl rfl rfl rfl rfl (row_in (xs := r2_1) (encInt.wd false) s1371 rfl) (row_set (e := eInt) (encInt.wd false) _ _ (min (lat r2_1 v66) ((576460752303423488 : Int) + (vat b1 (v78.toNat * 24 + v66.toNat)))) rfl s1371.1 s1371.2) ?_)
 refine eL ?_
 exact bl_nrm (th_nrm (⟨(), (r2_1.set v66.toNat (min (lat r2_1 v66) ((576460752303423488 : Int) + (vat b1 (v78.toNat * 24 + v66.toNat))))), hv, St.to_mk (φ := [some 0, some 1, some 2]) rfl (.inl rfl) ⟨Ren.int _ _, Ren.ptr rfl, Ren.ptr rfl, Ren.refL rfl (fun h => h) (by simp), Ren.int _ _, Ren.refL rfl (fun h => h) (by simp), Ren.int _ _, Ren.int _ _, Ren.int _ _, Ren.int _ _, trivial⟩ ⟨.inr ⟨_, rfl, rfl, Rens.cons (Ren.int _ _) (Rens.cons (Ren.lst _ _ _) (Rens.nil))⟩, .inr ⟨_, rfl, rfl, Rens.enc encInt true _⟩, .inr ⟨_, rfl, rfl, rfl, rfl, Rens.enc encInt false (r2_1.set v66.toNat (min (lat r2_1 v66) ((576460752303423488 : Int) + (vat b1 (v78.toNat * 24 + v66.toNat)))))⟩, trivial⟩⟩))
 have hv := hv.2 hc
 refine W.skip ?_
 exact bl_nrm (th_nrm (⟨(), r2_1, hv, St.to_mk (φ := [some 0, some 1, some 2]) rfl (.inl rfl) ⟨Ren.int _ _, Ren.ptr rfl, Ren.ptr rfl, Ren.ref rfl (fun h => h), Ren.int _ _, Ren.ref rfl (fun h => h), Ren.int _ _, Ren.int _ _, Ren.int _ _, Ren.int _ _, trivial⟩ ⟨.inr ⟨_, rfl, rfl, Rens.cons (Ren.int _ _) (Rens.cons (Ren.lst _ _ _) (Rens.nil))⟩, .inr ⟨_, rfl, rfl, Rens.enc encInt true _⟩, .inr ⟨_, rfl, rfl, rfl, rfl, Rens.enc encInt false r2_1⟩, trivial⟩⟩))
 have hv := hv.2 hc
 refine W.exit ?_
 exact th_exit (th_exit (bl_hit (bl_nrm (th_nrm (⟨(), r2_1, hv, St.to_mk (φ := [some 0, some 1, some 2]) rfl (.inl rfl) ⟨Ren.int _ _, Ren.ptr rfl, Ren.ptr rfl, Ren.ref rfl (fun h => h), Ren.ref rfl (fun h => h), Ren.int _ _, Ren.int _ _, trivial⟩ ⟨.inr ⟨_, rfl, rfl, Rens.cons (Ren.int _ _) (Rens.cons (Ren.lst _ _ _) (Rens.nil))⟩, .inr ⟨_, rfl, rfl, Rens.enc encInt true _⟩, .inr ⟨_, rfl, rfl, rfl, rfl, Rens.enc encInt false r2_1⟩, trivial⟩⟩)))))
 have hv := hv.2 hc
 refine W.exit ?_
 refine th_exit (th_exit (bl_hit (th_nrm ?_)))
 refine W.tr [(14, .ref _ _ _)] [.box _ [.int _ _, .lst _ _ _], .box _ _, .row _ _ _] ⟨rfl, trivial⟩ rfl ?_
 refine W.rL ?_
 refine cL rfl (o_move (v := .ref _ _ _) rfl ?_)
 refine cL rfl (o_assign (v := .ref _ _ _) rfl ?_)
 refine aI rfl rfl ?_
 refine eL ?_
 refine W.tr [(8, .ref _ _ _), (9, .int _ _)] [.box _ [.int _ _, .lst _ _ _], .box _ _, .row _ _ _] ⟨rfl, rfl, trivial⟩ rfl ?_
 refine W.ret ?_
 refine rt ?_
 refine rt_t (v := .ref _ _ _) rfl ?_
 refine rt_t (v := .int _ _) rfl ?_
 refine rt_n ?_
 exact ⟨_, rs_tup 5 _ (Wks.cons (rs_ref encInt 3 _ rfl rfl) (Wks.cons (rs_int _ _ _ _) (Wks.refl _))), r2, (0 : Int), rfl, hv⟩
 clear hj
 refine W.rL ?_
 iterate 2 refine mI rfl rfl ?_
 refine cL rfl (o_neI rfl rfl rfl ?_)
 refine eL ?_
 refine W.tr [(1, .int _ _), (2, .int _ _), (3, .int _ _), (4, .ptr _ _), (13, .ptr _ _), (44, .bool _)] [.box _ [.int _ _, .lst _ _ _], .box _ _] ⟨rfl, rfl, rfl, rfl, rfl, rfl, trivial⟩ rfl ?_
 refine W.cn rfl (fun hc => ?_) (fun hc => ?_)
 have hv := hv.1 hc
 refine W.rH ?_
 refine cH rfl (o_move (v := .ptr _ _) rfl ?_)
 iterate 3 refine cH rfl (o_move (v := .int _ _) rfl ?_)
 obtain ⟨s1372, hv⟩ := hv
 refine cHc rfl (callH_M1 (spec_add (ofM b) f t v s1372) rfl flatI flatI rfl (.inl ⟨_, rfl, rfl⟩) (Wks.cons (ag_int _ _ _ _) (Wks.cons (ag_int _ _ _ _) (Wks.cons (ag_int _ _ _ _) (Wks.refl _)))) ?_)
 refine eH ?_
 refine W.tr [(1, .int _ _), (2, .int _ _), (3, .int _ _), (4, .ptr _ _), (13, .ptr _ _)] [.box _ [.int _ _, .lst _ _ _], .box _ _] ⟨rfl, rfl, rfl, rfl, rfl, trivial⟩ rfl ?_
 refine W.rH1 ?_
 refine cH rfl (o_move (v := .ptr _ _) rfl ?_)
 iterate 3 refine cH rfl (o_move (v := .int _ _) rfl ?_)
 obtain ⟨s1373, hv⟩ := hv
 refine cH rfl (o_neg rfl s1373 ?_)
 obtain ⟨s1374, hv⟩ := hv
 refine cHc rfl (callH_M1 (spec_add ((addM (ofM b) f t v).2) t f (-v) s1374) rfl flatI flatI rfl (.inl ⟨_, rfl, rfl⟩) (Wks.cons (ag_int _ _ _ _) (Wks.cons (ag_int _ _ _ _) (Wks.cons (ag_int _ _ _ _) (Wks.refl _)))) ?_)
 refine eH ?_
 exact th_nrm (⟨(), ((addM ((addM (ofM b) f t v).2) t f (-v)).2), hv, St.to_mk (φ := [some 0, some 1]) rfl (.inl rfl) ⟨Ren.int _ _, Ren.ptr rfl, Ren.ptr rfl, trivial⟩ ⟨.inr ⟨_, rfl, rfl, Rens.cons (Ren.int _ _) (Rens.cons (Ren.lst _ _ _) (Rens.nil))⟩, .inr ⟨_, rfl, rfl, Rens.enc encInt true _⟩, trivial⟩⟩)
 have hv := hv.2 hc
 refine W.skip ?_
 exact th_nrm (⟨(), (ofM b), hv, St.to_mk (φ := [some 0, some 1]) rfl (.inl rfl) ⟨Ren.int _ _, Ren.ptr rfl, Ren.ptr rfl, trivial⟩ ⟨.inr ⟨_, rfl, rfl, Rens.cons (Ren.int _ _) (Rens.cons (Ren.lst _ _ _) (Rens.nil))⟩, .inr ⟨_, rfl, rfl, Rens.enc encInt true _⟩, trivial⟩⟩)
theorem vcp_point (b : Bd) (f : Int) (t : Int) (v : Int) (h0 : b.most.length ≤ 1073741824) (h1 : ∀ r ∈ b.most, r.length ≤ 1073741824) : vc_point b f t v (fun q0 q1 => q0 = (pointM b f t v).1 ∧ q1 = (pointM b f t v).2) := by
  unfold vc_point
  have hnb := hNB
  refine ⟨h0, h1, fun h => ?_, fun h => ?_⟩
  · rw [point_neg fun e => ?_]
    · exact ⟨rfl, rfl⟩
    · omega
  have hr : (rangeM b f t).2.2 = 0 ∧ max (rangeM b f t).1 (-36028797018963968) ≤ v ∧ v ≤ min (rangeM b f t).2.1 36028797018963968 := by omega
  rw [point_pos hr]
  obtain ⟨hv, hf, ht⟩ := range_ok hr.1
  have vb := validBM_iff.mp hv
  have hn := vb.n
  obtain ⟨f, rfl⟩ : ∃ k : Nat, f = k := ⟨f.toNat, by omega⟩
  obtain ⟨t, rfl⟩ : ∃ k : Nat, t = k := ⟨t.toNat, by omega⟩
  rw [range_pos hv (by omega) (by omega)] at hr
  obtain ⟨ha, hT⟩ := ptM_spec hv (by omega) (by omega) hr.2
  have hm : (¬ (f : Int) = t → (addM (addM (ofM b) f t v).2 t f (-v)).2 = ptM b f t v) := fun e => by unfold ptM; rw [if_neg e]
  have hm' : ((f : Int) = t → ofM b = ptM b f t v) := fun e => by unfold ptM; rw [if_pos e]
  have hcl := hT.cl
  generalize ptM b f t v = m at hm hm' hcl ⊢
  refine ⟨by omega, fun b1 => b1 = m, ?_, fun e => ⟨(ha (by omega)).1, by have := hr.2; dsimp only at this; unfold inI; omega, (ha (by omega)).2, hm e⟩, fun e => hm' (Classical.not_not.mp e)⟩
  intro b1 hb1
  subst hb1
  simp only [Int.toNat_natCast]
  have hN : b.n.toNat ≤ 24 := by omega
  rw [row_map (by omega) hN, pointV_eq]
  generalize hNN : b.n.toNat = N at hN
  have hlen : ∀ g : Nat → Int, ((List.range N).map g).length = N := fun g => by simp
  refine ⟨by omega, by omega, by rw [hlen]; omega, fun v r => ∃ i : Nat, v = i ∧ i ≤ N ∧ r = (List.range N).map (fun k => if k < i then ptF b1 f N k else mm b1 f k), fun v _ => N - v.toNat, ⟨0, rfl, by omega, by simp⟩, ?_⟩
  rintro _ r ⟨i, rfl, hi, hr2⟩
  rw [hlen]
  refine ⟨fun h2 => ⟨fun r => r = (List.range N).map (fun k => if k < i + 1 then ptF b1 f N k else mm b1 f k), fun r2 hr3 => ⟨by unfold inI; omega, ⟨i + 1, by omega, by omega, hr3⟩, by dsimp only; omega⟩, ?_, fun h3 => ?_, fun h3 => ?_⟩, fun h2 => ?_⟩
  · rw [hr2, hlen]; omega
  · rw [hr2, lat_map (by omega), if_neg (by omega)] at h3
    rw [hr2]
    refine List.map_congr_left fun k hk => ?_
    by_cases e : k = i
    · subst e
      rw [if_neg (by omega), if_pos (by omega)]
      unfold ptF; rw [if_neg h3]
    · have e1 : k < i ↔ k < i + 1 := by omega
      simp only [e1]
  · rw [hr2, lat_map (by omega), if_neg (by omega)] at h3
    have h3 : mm b1 f i = NB := Classical.not_not.mp h3
    refine ⟨by rw [hr2, hlen]; omega, fun v r => ∃ k : Nat, v = k ∧ k ≤ N ∧ r = (List.range N).map (fun q => if q = i then (List.range k).foldl (fun o p => if mm b1 f p = NB ∧ ¬ mm b1 p i = NB then min o (576460752303423488 + mm b1 p i) else o) 576460752303423488 else if q < i then ptF b1 f N q else mm b1 f q), fun v _ => N - v.toNat, ⟨0, rfl, by omega, ?_⟩, ?_⟩
    · rw [hr2, Int.toNat_natCast, map_set]; rfl
    rintro _ r3 ⟨k, rfl, hk, hr3⟩
    simp only [Int.toNat_natCast]
    have hlat : lat r3 (i : Int) = (List.range k).foldl (fun o p => if mm b1 f p = NB ∧ ¬ mm b1 p i = NB then min o (576460752303423488 + mm b1 p i) else o) 576460752303423488 := by
      rw [hr3, lat_map (by omega), if_pos rfl]
    refine ⟨fun h4 => ⟨fun r => r = (List.range N).map (fun q => if q = i then (List.range (k + 1)).foldl (fun o p => if mm b1 f p = NB ∧ ¬ mm b1 p i = NB then min o (576460752303423488 + mm b1 p i) else o) 576460752303423488 else if q < i then ptF b1 f N q else mm b1 f q), fun r4 hr4 => ⟨by unfold inI; omega, ⟨k + 1, by omega, by omega, hr4⟩, by omega⟩, ⟨by omega, by omega, by omega, fun _ => ⟨by omega, by omega, by omega, trivial⟩, fun _ => trivial⟩, fun h5 => ?_, fun h5 => ?_⟩, fun h4 => ?_⟩
    · have hb := hcl.bd k i (by omega) (by omega)
      have h5' : mm b1 f k = NB ∧ ¬ mm b1 k i = NB := h5
      have h6 : vat b1 (k * 24 + i) = mm b1 k i := rfl
      rw [h6, hlat]
      refine ⟨by rw [hr3, hlen]; omega, by omega, by omega, by omega, by unfold inI; omega, by rw [hr3, hlen]; omega, ?_⟩
      rw [hr3, map_set]
      refine List.map_congr_left fun q hq => ?_
      by_cases e : q = i
      · rw [if_pos e, if_pos e, List.range_succ, List.foldl_append]
        simp only [List.foldl_cons, List.foldl_nil]
        rw [if_pos h5']
      · rw [if_neg e, if_neg e, if_neg e]
    · have h5' : ¬ (mm b1 f k = NB ∧ ¬ mm b1 k i = NB) := h5
      rw [hr3]
      refine List.map_congr_left fun q hq => ?_
      by_cases e : q = i
      · rw [if_pos e, if_pos e, List.range_succ, List.foldl_append]
        simp only [List.foldl_cons, List.foldl_nil]
        rw [if_neg h5']
      · rw [if_neg e, if_neg e]
    · have : k = N := by omega
      subst this
      rw [hr3]
      refine List.map_congr_left fun q hq => ?_
      by_cases e : q = i
      · subst e
        rw [if_pos rfl, if_pos (by omega)]
        unfold ptF; rw [if_pos h3]
      · rw [if_neg e]
        have e1 : q < i ↔ q < i + 1 := by omega
        simp only [e1]
  · refine ⟨?_, trivial⟩
    rw [hr2]
    refine List.map_congr_left fun q hq => ?_
    rw [List.mem_range] at hq
    rw [if_pos (by omega)]
theorem spec_point (b : Bd) (f : Int) (t : Int) (v : Int) (h0 : b.most.length ≤ 1073741824) (h1 : ∀ r ∈ b.most, r.length ≤ 1073741824) : FnP Try.prog 23 [.agg ((e34 true) b), .int .i64 f, .int .i64 t, .int .i64 v] (fun xR => xR = .tup [.lst false ((pointM b f t v).1).length (encL eInt ((pointM b f t v).1)), .int .i64 ((pointM b f t v).2)]) :=
  (walk_point (vcp_point b f t v h0 h1)).mono (by rintro _ ⟨_, _, rfl, rfl, rfl⟩; rfl)
def vc_addb (b : Bd) (c : Con) (Post : Bd → Bool → Int → Prop) : Prop :=
  ((b.most.length ≤ 1073741824) ∧ (∀ r ∈ b.most, r.length ≤ 1073741824) ∧ True) ∧ ((((¬ ((validBM b) = true)) ∨ (¬ ((possM b.n c) = true))) → Post (Bd.mk 0 []) false (2 : Int)) ∧ (¬ ((¬ ((validBM b) = true)) ∨ (¬ ((possM b.n c) = true))) → (b.most.length ≤ 24) ∧ (AddOk (ofM b) c.f c.t c.m) ∧ ((¬ (((addM (ofM b) c.f c.t c.m).1) = true)) → Post (Bd.mk 0 []) false (0 : Int)) ∧ (¬ (¬ (((addM (ofM b) c.f c.t c.m).1) = true)) → (1 ≤ b.n ∧ b.n ≤ 24) ∧ ∃ (I1 : Int → Prop) (μ1 : Int → Nat), I1 (0 : Int) ∧ ∀ (v43 : Int), I1 v43 → ((v43 < ((((boundsM ((addM (ofM b) c.f c.t c.m).2) b.n).most).length : Nat) : Int)) → (0 ≤ v43 ∧ v43 < (((boundsM ((addM (ofM b) c.f c.t c.m).2) b.n).most).length : Int)) ∧ ∃ (I2 : Int → Prop) (μ2 : Int → Nat), I2 (0 : Int) ∧ ∀ (v49 : Int), I2 v49 → ((v49 < (((lat ((boundsM ((addM (ofM b) c.f c.t c.m).2) b.n).most) v43).length : Nat) : Int)) → (0 ≤ v49 ∧ v49 < ((lat ((boundsM ((addM (ofM b) c.f c.t c.m).2) b.n).most) v43).length : Int)) ∧ (((¬ lat (lat ((boundsM ((addM (ofM b) c.f c.t c.m).2) b.n).most) v43) v49 = (1152921504606846976 : Int)) ∧ (((lat (lat ((boundsM ((addM (ofM b) c.f c.t c.m).2) b.n).most) v43) v49) < (-36028797018963968 : Int)) ∨ ((36028797018963968 : Int) < (lat (lat ((boundsM ((addM (ofM b) c.f c.t c.m).2) b.n).most) v43) v49)))) → Post (Bd.mk 0 []) false (2 : Int)) ∧ (¬ ((¬ lat (lat ((boundsM ((addM (ofM b) c.f c.t c.m).2) b.n).most) v43) v49 = (1152921504606846976 : Int)) ∧ (((lat (lat ((boundsM ((addM (ofM b) c.f c.t c.m).2) b.n).most) v43) v49) < (-36028797018963968 : Int)) ∨ ((36028797018963968 : Int) < (lat (lat ((boundsM ((addM (ofM b) c.f c.t c.m).2) b.n).most) v43) v49)))) → (inI (v49 + (1 : Int))) ∧ (I2 (v49 + (1 : Int)) ∧ μ2 (v49 + (1 : Int)) < μ2 v49))) ∧ (¬ (v49 < (((lat ((boundsM ((addM (ofM b) c.f c.t c.m).2) b.n).most) v43).length : Nat) : Int)) → (inI (v43 + (1 : Int))) ∧ (I1 (v43 + (1 : Int)) ∧ μ1 (v43 + (1 : Int)) < μ1 v43))) ∧ (¬ (v43 < ((((boundsM ((addM (ofM b) c.f c.t c.m).2) b.n).most).length : Nat) : Int)) → Post (boundsM ((addM (ofM b) c.f c.t c.m).2) b.n) true (0 : Int)))))
set_option maxRecDepth 100000 in
set_option maxHeartbeats 4000000 in
theorem walk_addb {b : Bd} {c : Con} {Post : Bd → Bool → Int → Prop} (hv : vc_addb b c Post) : FnP Try.prog 19 [.agg ((e34 true) b), .agg (e25 c)] (fun x => ∃ q0 q1 q2, x = .tup [.agg ((e34 false) q0), .bool q1, .int .i64 q2] ∧ Post q0 q1 q2) := by
 refine FnP.of_walk (T := tt) (nt := 67) ttOk ttMix ⟨⟨Try.f19, Try.func19, rfl, rfl, rfl, rfl⟩⟩ (by simp) ?_
 unfold vc_addb at hv
 change W _ _ _ ⟨67, look [(0, .agg [.int .i64 b.n, .lst true b.most.length (encL (eSl eInt true) b.most)]), (1, .agg [.int .i64 c.f, .int .i64 c.t, .int .i64 c.m, .int .i64 c.a])], [], false⟩ _
 refine W.tr [(0, .agg _), (1, .agg _)] [] ⟨rfl, rfl, trivial⟩ rfl ?_
 refine W.rL ?_
 refine cL rfl (o_box (v := .agg _) (p := 0) rfl rfl rfl ?_)
 refine cL rfl (o_box (v := .agg _) (p := 1) rfl rfl rfl ?_)
 refine cL rfl (o_alloc (p := 2) tt34 rfl rfl ?_)
 refine aB rfl rfl ?_
 refine aI rfl rfl ?_
 refine eL ?_
 refine W.tr [(2, .ptr _ _), (3, .ptr _ _), (4, .ptr _ _)] [.box _ [.int _ _, .lst _ _ _], .box _ [.int _ _, .int _ _, .int _ _, .int _ _], .box _ [.int _ _, .nilS]] ⟨rfl, rfl, rfl, trivial⟩ rfl ?_
 refine W.seq' ?_
 obtain ⟨sd, hv⟩ := hv
 refine W.rLm ⟨67, look [(2, .ptr 0 0), (3, .ptr 1 0), (4, .ptr 2 0), (22, .bool (decide ((¬ ((validBM b) = true)) ∨ (¬ ((possM b.n c) = true)))))], [.box 34 [.int .i64 b.n, .lst true b.most.length (encL (eSl eInt true) b.most)], .box 25 [.int .i64 c.f, .int .i64 c.t, .int .i64 c.m, .int .i64 c.a], .box 34 [.int .i64 (0 : Int), .nilS]], false⟩ ?_ ?_
 refine cL rfl (o_ldA (cs := [.int _ _, .lst _ _ _]) tt34 rfl rfl ⟨_, rfl⟩ rfl ?_)
 obtain ⟨s7, s8, sd⟩ := sd
 refine cL rfl (o_callP1 (k := 25) (fst := []) (caps := []) (ys := [.agg _]) rfl rfl (spec_vald b s7 s8) (Wks.cons (ag_agg 5 _ (Wks.cons (ag_int _ _ _ _) (Wks.cons (ag_lst _ _ _ _ _) (Wks.refl _)))) (Wks.refl _)) ?_)
 refine cL rfl (o_notB rfl ?_)
 refine mB rfl rfl ?_
 by_cases c1 : ¬ ((validBM b) = true)
 iterate 5 refine cLs rfl rfl rfl (decide_eq_true c1) ?_
 refine cL rfl (o_pickT (v := .bool _) rfl (decide_eq_true c1) rfl ?_)
 refine eL ?_
 exact le_mk ⟨rfl, rfl, rfl, (congrArg AV.bool (dOrT c1)).symm, trivial⟩ rfl
 refine cLg rfl rfl (decide_eq_false c1) ?_
 refine cL rfl (o_fa tt34 rfl tt3 rfl ?_)
 refine cLg rfl rfl (decide_eq_false c1) ?_
 refine cL rfl (o_ldS (v := .int _ _) tt3 rfl rfl ⟨_, rfl⟩ ?_)
 refine cLg rfl rfl (decide_eq_false c1) ?_
 refine cL rfl (o_ldA (cs := [.int _ _, .int _ _, .int _ _, .int _ _]) tt25 rfl rfl ⟨_, rfl⟩ rfl ?_)
 refine cLg rfl rfl (decide_eq_false c1) ?_
 refine cL rfl (o_callP1 (k := 43) (fst := []) (caps := []) (ys := [.int _ _, .agg _]) rfl rfl (spec_poss b.n c) (Wks.cons (ag_int _ _ _ _) (Wks.cons (ag_agg 5 _ (Wks.cons (ag_int _ _ _ _) (Wks.cons (ag_int _ _ _ _) (Wks.cons (ag_int _ _ _ _) (Wks.cons (ag_int _ _ _ _) (Wks.refl _)))))) (Wks.refl _))) ?_)
 refine cLg rfl rfl (decide_eq_false c1) ?_
 refine cL rfl (o_notB rfl ?_)
 refine cL rfl (o_pickF (v := .bool _) rfl (decide_eq_false c1) rfl ?_)
 refine eL ?_
 exact le_mk ⟨rfl, rfl, rfl, (congrArg AV.bool (dOrF c1 (rfl))).symm, trivial⟩ rfl
 refine W.cn rfl (fun hc => ?_) (fun hc => ?_)
 have hv := hv.1 hc
 refine W.rL ?_
 refine cL rfl (o_build (qs := []) (cs := [.int _ _, .nilS]) tt34 rfl rfl rfl ?_)
 refine cLn (o_stB (v := .agg _) (vs := [.int _ _, .nilS]) (cs2 := [.int _ _, .nilS]) tt34 rfl rfl rfl rfl rfl (Nat.le_of_ble_eq_true rfl) rfl ?_)
 refine aB rfl rfl ?_
 refine aI rfl rfl ?_
 refine eL ?_
 refine W.tr [(4, .ptr _ _), (5, .bool _), (6, .int _ _)] [.box _ [.int _ _, .lst _ _ _], .box _ [.int _ _, .int _ _, .int _ _, .int _ _], .box _ [.int _ _, .nilS]] ⟨rfl, rfl, rfl, trivial⟩ rfl ?_
 refine W.ret ?_
 refine th_ret (rt ?_)
 refine rt_c (x := .ptr _ _) rfl (ldA (cs := [.int _ _, .nilS]) tt34 rfl ⟨_, rfl⟩ rfl ?_)
 refine rt_t (v := .bool _) rfl ?_
 refine rt_t (v := .int _ _) rfl ?_
 refine rt_n ?_
 exact ⟨_, rs_tup 5 _ (Wks.cons (rs_agg 4 _ (Wks.cons (rs_int _ _ _ _) (Wks.cons (rs_nil _ _ _ _ rfl) (Wks.refl _)))) (Wks.cons (rs_bool _ _ _) (Wks.cons (rs_int _ _ _ _) (Wks.refl _)))), (Bd.mk 0 []), false, (2 : Int), rfl, hv⟩
 have hv := hv.2 hc
 refine W.skip ?_
 refine th_nrm ?_
 refine W.tr [(2, .ptr _ _), (3, .ptr _ _), (4, .ptr _ _)] [.box _ [.int _ _, .lst _ _ _], .box _ [.int _ _, .int _ _, .int _ _, .int _ _], .box _ [.int _ _, .nilS]] ⟨rfl, rfl, rfl, trivial⟩ rfl ?_
 refine W.rH ?_
 refine cH rfl (o_ldA (cs := [.int _ _, .lst _ _ _]) tt34 rfl rfl ⟨_, rfl⟩ rfl ?_)
 obtain ⟨s9, hv⟩ := hv
 refine cHc rfl (callH_N1 (xs := _) (spec_of b s9) (Wks.cons (ag_agg 5 _ (Wks.cons (ag_int _ _ _ _) (Wks.cons (ag_lst _ _ _ _ _) (Wks.refl _)))) (Wks.refl _)) flatI rfl ?_)
 refine cH rfl (o_assign (v := .ptr _ _) rfl ?_)
 refine eH ?_
 refine W.tr [(2, .ptr _ _), (3, .ptr _ _), (4, .ptr _ _), (7, .ptr _ _)] [.box _ [.int _ _, .lst _ _ _], .box _ [.int _ _, .int _ _, .int _ _, .int _ _], .box _ [.int _ _, .nilS], .box _ _] ⟨rfl, rfl, rfl, rfl, trivial⟩ rfl ?_
 refine W.seq' ?_
 refine W.rH ?_
 refine cH rfl (o_move (v := .ptr _ _) rfl ?_)
 refine cH rfl (o_fa tt25 rfl tt3 rfl ?_)
 refine cH rfl (o_ldS (v := .int _ _) tt3 rfl rfl ⟨_, rfl⟩ ?_)
 refine cH rfl (o_fa tt25 rfl tt3 rfl ?_)
 refine cH rfl (o_ldS (v := .int _ _) tt3 rfl rfl ⟨_, rfl⟩ ?_)
 refine cH rfl (o_fa tt25 rfl tt3 rfl ?_)
 refine cH rfl (o_ldS (v := .int _ _) tt3 rfl rfl ⟨_, rfl⟩ ?_)
 obtain ⟨s11, hv⟩ := hv
 refine cHc rfl (callH_M1 (spec_add (ofM b) c.f c.t c.m s11) rfl flatI flatI rfl (.inl ⟨_, rfl, rfl⟩) (Wks.cons (ag_int _ _ _ _) (Wks.cons (ag_int _ _ _ _) (Wks.cons (ag_int _ _ _ _) (Wks.refl _)))) ?_)
 refine cH rfl (o_notB rfl ?_)
 refine eH ?_
 refine W.tr [(2, .ptr _ _), (4, .ptr _ _), (7, .ptr _ _), (34, .bool _)] [.box _ [.int _ _, .lst _ _ _], .box _ [.int _ _, .int _ _, .int _ _, .int _ _], .box _ [.int _ _, .nilS], .box _ _] ⟨rfl, rfl, rfl, rfl, trivial⟩ rfl ?_
 refine W.cn rfl (fun hc => ?_) (fun hc => ?_)
 have hv := hv.1 hc
 refine W.rL ?_
 refine cL rfl (o_build (qs := []) (cs := [.int _ _, .nilS]) tt34 rfl rfl rfl ?_)
 refine cLn (o_stB (v := .agg _) (vs := [.int _ _, .nilS]) (cs2 := [.int _ _, .nilS]) tt34 rfl rfl rfl rfl rfl (Nat.le_of_ble_eq_true rfl) rfl ?_)
 refine aB rfl rfl ?_
 refine aI rfl rfl ?_
 refine eL ?_
 refine W.tr [(4, .ptr _ _), (5, .bool _), (6, .int _ _)] [.box _ [.int _ _, .lst _ _ _], .box _ [.int _ _, .int _ _, .int _ _, .int _ _], .box _ [.int _ _, .nilS], .box _ _] ⟨rfl, rfl, rfl, trivial⟩ rfl ?_
 refine W.ret ?_
 refine th_ret (rt ?_)
 refine rt_c (x := .ptr _ _) rfl (ldA (cs := [.int _ _, .nilS]) tt34 rfl ⟨_, rfl⟩ rfl ?_)
 refine rt_t (v := .bool _) rfl ?_
 refine rt_t (v := .int _ _) rfl ?_
 refine rt_n ?_
 exact ⟨_, rs_tup 5 _ (Wks.cons (rs_agg 4 _ (Wks.cons (rs_int _ _ _ _) (Wks.cons (rs_nil _ _ _ _ rfl) (Wks.refl _)))) (Wks.cons (rs_bool _ _ _) (Wks.cons (rs_int _ _ _ _) (Wks.refl _)))), (Bd.mk 0 []), false, (0 : Int), rfl, hv⟩
 have hv := hv.2 hc
 refine W.skip ?_
 refine th_nrm ?_
 refine W.tr [(2, .ptr _ _), (4, .ptr _ _), (7, .ptr _ _)] [.box _ [.int _ _, .lst _ _ _], .box _ [.int _ _, .int _ _, .int _ _, .int _ _], .box _ [.int _ _, .nilS], .box _ _] ⟨rfl, rfl, rfl, trivial⟩ rfl ?_
 refine W.rL ?_
 refine cL rfl (o_move (v := .ptr _ _) rfl ?_)
 refine cL rfl (o_fa tt34 rfl tt3 rfl ?_)
 refine cL rfl (o_ldS (v := .int _ _) tt3 rfl rfl ⟨_, rfl⟩ ?_)
 obtain ⟨s12, hv⟩ := hv
 refine cL rfl (o_callP1 (k := 39) (fst := []) (caps := []) (ys := [.ptr _ _, .int _ _]) rfl rfl (spec_bounds ((addM (ofM b) c.f c.t c.m).2) b.n s12) (Wks.cons (ag_box 5 rfl (ag_vec 4 _ _)) (Wks.cons (ag_int _ _ _ _) (Wks.refl _))) ?_)
 refine cL rfl (o_alloc (p := 4) tt34 rfl rfl ?_)
 refine cLn (o_stB (v := .agg _) (vs := [.int _ _, .lst _ _ _]) (cs2 := [.int _ _, .lst _ _ _]) tt34 rfl rfl rfl rfl rfl (Nat.le_of_ble_eq_true rfl) rfl ?_)
 refine eL ?_
 refine W.tr [(4, .ptr _ _), (8, .ptr _ _)] [.box _ [.int _ _, .lst _ _ _], .box _ [.int _ _, .int _ _, .int _ _, .int _ _], .box _ [.int _ _, .nilS], .box _ _, .box _ [.int _ _, .lst _ _ _]] ⟨rfl, rfl, trivial⟩ rfl ?_
 refine W.seq' ?_
 refine W.rL ?_
 refine cL rfl (o_fa tt34 rfl tt32 rfl ?_)
 refine cL rfl (o_ldS (v := .lst _ _ _) tt32 rfl rfl ⟨_, rfl⟩ ?_)
 refine cL rfl (o_len (v := .lst _ _ _) tt32 rfl rfl ?_)
 refine mI rfl rfl ?_
 refine eL ?_
 refine W.tr [(4, .ptr _ _), (8, .ptr _ _), (41, .lst _ _ _), (42, .int _ _), (43, .int _ _)] [.box _ [.int _ _, .lst _ _ _], .box _ [.int _ _, .int _ _, .int _ _, .int _ _], .box _ [.int _ _, .nilS], .box _ _, .box _ [.int _ _, .lst _ _ _]] ⟨rfl, rfl, rfl, rfl, rfl, trivial⟩ rfl ?_
 refine W.block ?_
 obtain ⟨I1, μ1, hp, hv⟩ := hv
 refine W.loop1 (fun v43 => ⟨67, look [(4, .ptr 2 0), (8, .ptr 4 0), (41, .lst false ((boundsM ((addM (ofM b) c.f c.t c.m).2) b.n).most).length (encL (eSl eInt true) ((boundsM ((addM (ofM b) c.f c.t c.m).2) b.n).most))), (42, .int .i64 ((((boundsM ((addM (ofM b) c.f c.t c.m).2) b.n).most).length : Nat) : Int)), (43, .int .i64 v43)], [.dead, .dead, .box 34 [.int .i64 (0 : Int), .nilS], .dead, .box 34 [.int .i64 ((boundsM ((addM (ofM b) c.f c.t c.m).2) b.n).n), .lst false ((boundsM ((addM (ofM b) c.f c.t c.m).2) b.n).most).length (encL (eSl eInt true) ((boundsM ((addM (ofM b) c.f c.t c.m).2) b.n).most))]], false⟩) I1 μ1 (0 : Int) (St.to_mk (φ := [none, none, some 2, none, some 4]) rfl (.inl rfl) ⟨Ren.ptr rfl, Ren.ptr rfl, Ren.lst _ _ _, Ren.int _ _, Ren.int _ _, trivial⟩ ⟨rfl, rfl, .inr ⟨_, rfl, rfl, Rens.cons (Ren.int _ _) (Rens.cons (Ren.nilS) (Rens.nil))⟩, rfl, .inr ⟨_, rfl, rfl, Rens.cons (Ren.int _ _) (Rens.cons (Ren.lst _ _ _) (Rens.nil))⟩, trivial⟩) hp ?_
 clear hp
 intro v43 hI
 replace hv := hv v43 hI
 clear hI
 refine W.rL ?_
 refine cL rfl (o_lss rfl rfl ?_)
 refine eL ?_
 refine W.tr [(4, .ptr _ _), (8, .ptr _ _), (41, .lst _ _ _), (42, .int _ _), (43, .int _ _), (44, .bool _)] [.dead, .dead, .box _ [.int _ _, .nilS], .dead, .box _ [.int _ _, .lst _ _ _]] ⟨rfl, rfl, rfl, rfl, rfl, rfl, trivial⟩ rfl ?_
 refine W.seq' ?_
 refine W.cn rfl (fun hc => ?_) (fun hc => ?_)
 have hv := hv.1 hc
 refine W.skip ?_
 refine th_nrm ?_
 refine W.tr [(4, .ptr _ _), (8, .ptr _ _), (41, .lst _ _ _), (42, .int _ _), (43, .int _ _)] [.dead, .dead, .box _ [.int _ _, .nilS], .dead, .box _ [.int _ _, .lst _ _ _]] ⟨rfl, rfl, rfl, rfl, rfl, trivial⟩ rfl ?_
 refine W.seq' ?_
 refine W.block ?_
 refine W.rL ?_
 obtain ⟨s65, hv⟩ := hv
 refine cL rfl (o_iaL tt32 tt35 rfl rfl ((encSl eInt).wd true) rfl s65 ?_)
 intro rest65
 refine cL rfl (o_ldS (v := .lst _ _ _) tt35 rfl rfl ⟨_, rfl⟩ ?_)
 refine aL rfl rfl ?_
 refine eL ?_
 refine W.tr [(4, .ptr _ _), (8, .ptr _ _), (10, .lst _ _ _), (41, .lst _ _ _), (42, .int _ _), (43, .int _ _)] [.dead, .dead, .box _ [.int _ _, .nilS], .dead, .box _ [.int _ _, .lst _ _ _]] ⟨rfl, rfl, rfl, rfl, rfl, rfl, trivial⟩ rfl ?_
 refine W.rL ?_
 refine mL rfl rfl ?_
 refine cL rfl (o_len (v := .lst _ _ _) tt35 rfl rfl ?_)
 refine mI rfl rfl ?_
 refine eL ?_
 refine W.tr [(4, .ptr _ _), (8, .ptr _ _), (41, .lst _ _ _), (42, .int _ _), (43, .int _ _), (47, .lst _ _ _), (48, .int _ _), (49, .int _ _)] [.dead, .dead, .box _ [.int _ _, .nilS], .dead, .box _ [.int _ _, .lst _ _ _]] ⟨rfl, rfl, rfl, rfl, rfl, rfl, rfl, rfl, trivial⟩ rfl ?_
 refine W.block ?_
 obtain ⟨I2, μ2, hp, hv⟩ := hv
 refine W.loop1 (fun v49 => ⟨67, look [(4, .ptr 2 0), (8, .ptr 4 0), (41, .lst false ((boundsM ((addM (ofM b) c.f c.t c.m).2) b.n).most).length (encL (eSl eInt true) ((boundsM ((addM (ofM b) c.f c.t c.m).2) b.n).most))), (42, .int .i64 ((((boundsM ((addM (ofM b) c.f c.t c.m).2) b.n).most).length : Nat) : Int)), (43, .int .i64 v43), (47, .lst true (lat ((boundsM ((addM (ofM b) c.f c.t c.m).2) b.n).most) v43).length (encL eInt (lat ((boundsM ((addM (ofM b) c.f c.t c.m).2) b.n).most) v43))), (48, .int .i64 (((lat ((boundsM ((addM (ofM b) c.f c.t c.m).2) b.n).most) v43).length : Nat) : Int)), (49, .int .i64 v49)], [.dead, .dead, .box 34 [.int .i64 (0 : Int), .nilS], .dead, .box 34 [.int .i64 ((boundsM ((addM (ofM b) c.f c.t c.m).2) b.n).n), .lst false ((boundsM ((addM (ofM b) c.f c.t c.m).2) b.n).most).length (encL (eSl eInt true) ((boundsM ((addM (ofM b) c.f c.t c.m).2) b.n).most))]], false⟩) I2 μ2 (0 : Int) (St.to_mk (φ := [none, none, some 2, none, some 4]) rfl (.inl rfl) ⟨Ren.ptr rfl, Ren.ptr rfl, Ren.lst _ _ _, Ren.int _ _, Ren.int _ _, Ren.lst _ _ _, Ren.int _ _, Ren.int _ _, trivial⟩ ⟨rfl, rfl, .inr ⟨_, rfl, rfl, Rens.cons (Ren.int _ _) (Rens.cons (Ren.nilS) (Rens.nil))⟩, rfl, .inr ⟨_, rfl, rfl, Rens.cons (Ren.int _ _) (Rens.cons (Ren.lst _ _ _) (Rens.nil))⟩, trivial⟩) hp ?_
 clear hp
 intro v49 hI
 replace hv := hv v49 hI
 clear hI
 refine W.rL ?_
 refine cL rfl (o_lss rfl rfl ?_)
 refine eL ?_
 refine W.tr [(4, .ptr _ _), (8, .ptr _ _), (41, .lst _ _ _), (42, .int _ _), (43, .int _ _), (47, .lst _ _ _), (48, .int _ _), (49, .int _ _), (50, .bool _)] [.dead, .dead, .box _ [.int _ _, .nilS], .dead, .box _ [.int _ _, .lst _ _ _]] ⟨rfl, rfl, rfl, rfl, rfl, rfl, rfl, rfl, rfl, trivial⟩ rfl ?_
 refine W.seq' ?_
 refine W.cn rfl (fun hc => ?_) (fun hc => ?_)
 have hv := hv.1 hc
 refine W.skip ?_
 refine th_nrm ?_
 refine W.tr [(4, .ptr _ _), (8, .ptr _ _), (41, .lst _ _ _), (42, .int _ _), (43, .int _ _), (47, .lst _ _ _), (48, .int _ _), (49, .int _ _)] [.dead, .dead, .box _ [.int _ _, .nilS], .dead, .box _ [.int _ _, .lst _ _ _]] ⟨rfl, rfl, rfl, rfl, rfl, rfl, rfl, rfl, trivial⟩ rfl ?_
 refine W.seq' ?_
 refine W.block ?_
 refine W.rL ?_
 obtain ⟨s70, hv⟩ := hv
 refine cL rfl (o_iaL tt35 tt3 rfl rfl (encInt.wd true) rfl s70 ?_)
 intro rest70
 refine cL rfl (o_ldS (v := .int _ _) tt3 rfl rfl ⟨_, rfl⟩ ?_)
 refine aI rfl rfl ?_
 refine eL ?_
 refine W.tr [(4, .ptr _ _), (8, .ptr _ _), (12, .int _ _), (41, .lst _ _ _), (42, .int _ _), (43, .int _ _), (47, .lst _ _ _), (48, .int _ _), (49, .int _ _)] [.dead, .dead, .box _ [.int _ _, .nilS], .dead, .box _ [.int _ _, .lst _ _ _]] ⟨rfl, rfl, rfl, rfl, rfl, rfl, rfl, rfl, rfl, trivial⟩ rfl ?_
 refine W.rLm ⟨67, look [(4, .ptr 2 0), (8, .ptr 4 0), (41, .lst false ((boundsM ((addM (ofM b) c.f c.t c.m).2) b.n).most).length (encL (eSl eInt true) ((boundsM ((addM (ofM b) c.f c.t c.m).2) b.n).most))), (42, .int .i64 ((((boundsM ((addM (ofM b) c.f c.t c.m).2) b.n).most).length : Nat) : Int)), (43, .int .i64 v43), (47, .lst true (lat ((boundsM ((addM (ofM b) c.f c.t c.m).2) b.n).most) v43).length (encL eInt (lat ((boundsM ((addM (ofM b) c.f c.t c.m).2) b.n).most) v43))), (48, .int .i64 (((lat ((boundsM ((addM (ofM b) c.f c.t c.m).2) b.n).most) v43).length : Nat) : Int)), (49, .int .i64 v49), (62, .bool (decide ((¬ lat (lat ((boundsM ((addM (ofM b) c.f c.t c.m).2) b.n).most) v43) v49 = (1152921504606846976 : Int)) ∧ (((lat (lat ((boundsM ((addM (ofM b) c.f c.t c.m).2) b.n).most) v43) v49) < (-36028797018963968 : Int)) ∨ ((36028797018963968 : Int) < (lat (lat ((boundsM ((addM (ofM b) c.f c.t c.m).2) b.n).most) v43) v49))))))], [.dead, .dead, .box 34 [.int .i64 (0 : Int), .nilS], .dead, .box 34 [.int .i64 ((boundsM ((addM (ofM b) c.f c.t c.m).2) b.n).n), .lst false ((boundsM ((addM (ofM b) c.f c.t c.m).2) b.n).most).length (encL (eSl eInt true) ((boundsM ((addM (ofM b) c.f c.t c.m).2) b.n).most))]], false⟩ ?_ ?_
 refine mI rfl rfl ?_
 refine cL rfl (o_neI rfl rfl rfl ?_)
 refine mB rfl rfl ?_
 by_cases c1 : ¬ lat (lat ((boundsM ((addM (ofM b) c.f c.t c.m).2) b.n).most) v43) v49 = (1152921504606846976 : Int)
 refine cLg rfl rfl (decide_eq_true c1) ?_
 refine mI rfl rfl ?_
 refine cLg rfl rfl (decide_eq_true c1) ?_
 refine cL rfl (o_lss rfl rfl ?_)
 refine cLg rfl rfl (decide_eq_true c1) ?_
 refine mB rfl rfl ?_
 by_cases c2 : (lat (lat ((boundsM ((addM (ofM b) c.f c.t c.m).2) b.n).most) v43) v49) < (-36028797018963968 : Int)
 iterate 2 refine cLs rfl rfl rfl (decide_eq_true c2) ?_
 refine cLg rfl rfl (decide_eq_true c1) ?_
 refine cL rfl (o_pickT (v := .bool _) rfl (decide_eq_true c2) rfl ?_)
 refine cL rfl (o_pickT (v := .bool _) rfl (decide_eq_true c1) rfl ?_)
 refine eL ?_
 exact le_mk ⟨rfl, rfl, rfl, rfl, rfl, rfl, rfl, rfl, (congrArg AV.bool (dAndT c1 (dOrT c2))).symm, trivial⟩ rfl
 refine cLg rfl rfl (decide_eq_false c2) ?_
 refine mI rfl rfl ?_
 refine cLg rfl rfl (decide_eq_false c2) ?_
 refine cL rfl (o_gtr rfl rfl ?_)
 refine cLg rfl rfl (decide_eq_true c1) ?_
 refine cL rfl (o_pickF (v := .bool _) rfl (decide_eq_false c2) rfl ?_)
 refine cL rfl (o_pickT (v := .bool _) rfl (decide_eq_true c1) rfl ?_)
 refine eL ?_
 exact le_mk ⟨rfl, rfl, rfl, rfl, rfl, rfl, rfl, rfl, (congrArg AV.bool (dAndT c1 (dOrF c2 (rfl)))).symm, trivial⟩ rfl
 iterate 3 refine cLs rfl rfl rfl (decide_eq_false c1) ?_
 iterate 2 refine cLu rfl rfl rfl ?_
 refine cLs rfl rfl rfl (decide_eq_false c1) ?_
 refine cL rfl (o_pickF (v := .bool _) rfl (decide_eq_false c1) rfl ?_)
 refine eL ?_
 exact le_mk ⟨rfl, rfl, rfl, rfl, rfl, rfl, rfl, rfl, (congrArg AV.bool (dAndF c1)).symm, trivial⟩ rfl
 refine W.cn rfl (fun hc => ?_) (fun hc => ?_)
 have hv := hv.1 hc
 refine W.rL ?_
 refine cL rfl (o_build (qs := []) (cs := [.int _ _, .nilS]) tt34 rfl rfl rfl ?_)
 refine cLn (o_stB (v := .agg _) (vs := [.int _ _, .nilS]) (cs2 := [.int _ _, .nilS]) tt34 rfl rfl rfl rfl rfl (Nat.le_of_ble_eq_true rfl) rfl ?_)
 refine aB rfl rfl ?_
 refine aI rfl rfl ?_
 refine eL ?_
 refine W.tr [(4, .ptr _ _), (5, .bool _), (6, .int _ _)] [.dead, .dead, .box _ [.int _ _, .nilS], .dead, .box _ [.int _ _, .lst _ _ _]] ⟨rfl, rfl, rfl, trivial⟩ rfl ?_
 refine W.ret ?_
 refine bl_ret (th_ret (th_ret (bl_ret (bl_ret (th_ret (th_ret (bl_ret (th_ret (rt ?_)))))))))
 refine rt_c (x := .ptr _ _) rfl (ldA (cs := [.int _ _, .nilS]) tt34 rfl ⟨_, rfl⟩ rfl ?_)
 refine rt_t (v := .bool _) rfl ?_
 refine rt_t (v := .int _ _) rfl ?_
 refine rt_n ?_
 exact ⟨_, rs_tup 5 _ (Wks.cons (rs_agg 4 _ (Wks.cons (rs_int _ _ _ _) (Wks.cons (rs_nil _ _ _ _ rfl) (Wks.refl _)))) (Wks.cons (rs_bool _ _ _) (Wks.cons (rs_int _ _ _ _) (Wks.refl _)))), (Bd.mk 0 []), false, (2 : Int), rfl, hv⟩
 have hv := hv.2 hc
 refine W.skip ?_
 refine bl_nrm (th_nrm ?_)
 refine W.tr [(4, .ptr _ _), (8, .ptr _ _), (41, .lst _ _ _), (42, .int _ _), (43, .int _ _), (47, .lst _ _ _), (48, .int _ _), (49, .int _ _)] [.dead, .dead, .box _ [.int _ _, .nilS], .dead, .box _ [.int _ _, .lst _ _ _]] ⟨rfl, rfl, rfl, rfl, rfl, rfl, rfl, rfl, trivial⟩ rfl ?_
 refine W.rL1 ?_
 obtain ⟨s71, hv⟩ := hv
 refine cL rfl (o_add rfl rfl s71 ?_)
 refine mI rfl rfl ?_
 refine eL ?_
 exact th_nrm (⟨(), (v49 + (1 : Int)), hv, St.to_mk (φ := [none, none, some 2, none, some 4]) rfl (.inl rfl) ⟨Ren.ptr rfl, Ren.ptr rfl, Ren.lst _ _ _, Ren.int _ _, Ren.int _ _, Ren.lst _ _ _, Ren.int _ _, Ren.int _ _, trivial⟩ ⟨rfl, rfl, .inr ⟨_, rfl, rfl, Rens.cons (Ren.int _ _) (Rens.cons (Ren.nilS) (Rens.nil))⟩, rfl, .inr ⟨_, rfl, rfl, Rens.cons (Ren.int _ _) (Rens.cons (Ren.lst _ _ _) (Rens.nil))⟩, trivial⟩⟩)
 have hv := hv.2 hc
 refine W.exit ?_
 refine th_exit (th_exit (bl_hit (bl_nrm (th_nrm ?_))))
 refine W.tr [(4, .ptr _ _), (8, .ptr _ _), (41, .lst _ _ _), (42, .int _ _), (43, .int _ _)] [.dead, .dead, .box _ [.int _ _, .nilS], .dead, .box _ [.int _ _, .lst _ _ _]] ⟨rfl, rfl, rfl, rfl, rfl, trivial⟩ rfl ?_
 refine W.rL1 ?_
 obtain ⟨s72, hv⟩ := hv
 refine cL rfl (o_add rfl rfl s72 ?_)
 refine mI rfl rfl ?_
 refine eL ?_
 exact th_nrm (⟨(), (v43 + (1 : Int)), hv, St.to_mk (φ := [none, none, some 2, none, some 4]) rfl (.inl rfl) ⟨Ren.ptr rfl, Ren.ptr rfl, Ren.lst _ _ _, Ren.int _ _, Ren.int _ _, trivial⟩ ⟨rfl, rfl, .inr ⟨_, rfl, rfl, Rens.cons (Ren.int _ _) (Rens.cons (Ren.nilS) (Rens.nil))⟩, rfl, .inr ⟨_, rfl, rfl, Rens.cons (Ren.int _ _) (Rens.cons (Ren.lst _ _ _) (Rens.nil))⟩, trivial⟩⟩)
 have hv := hv.2 hc
 refine W.exit ?_
 refine th_exit (th_exit (bl_hit (th_nrm ?_)))
 refine W.tr [(4, .ptr _ _), (8, .ptr _ _)] [.dead, .dead, .box _ [.int _ _, .nilS], .dead, .box _ [.int _ _, .lst _ _ _]] ⟨rfl, rfl, trivial⟩ rfl ?_
 refine W.rL ?_
 refine cL rfl (o_ldA (cs := [.int _ _, .lst _ _ _]) tt34 rfl rfl ⟨_, rfl⟩ rfl ?_)
 refine cLn (o_stB (v := .agg _) (vs := [.int _ _, .lst _ _ _]) (cs2 := [.int _ _, .lst _ _ _]) tt34 rfl rfl rfl rfl rfl (Nat.le_of_ble_eq_true rfl) rfl ?_)
 refine aB rfl rfl ?_
 refine aI rfl rfl ?_
 refine eL ?_
 refine W.tr [(4, .ptr _ _), (5, .bool _), (6, .int _ _)] [.dead, .dead, .box _ [.int _ _, .lst _ _ _], .dead, .box _ [.int _ _, .lst _ _ _]] ⟨rfl, rfl, rfl, trivial⟩ rfl ?_
 refine W.ret ?_
 refine rt ?_
 refine rt_c (x := .ptr _ _) rfl (ldA (cs := [.int _ _, .lst _ _ _]) tt34 rfl ⟨_, rfl⟩ rfl ?_)
 refine rt_t (v := .bool _) rfl ?_
 refine rt_t (v := .int _ _) rfl ?_
 refine rt_n ?_
 exact ⟨_, rs_tup 5 _ (Wks.cons (rs_agg 4 _ (Wks.cons (rs_int _ _ _ _) (Wks.cons (rs_lst _ _ _ _) (Wks.refl _)))) (Wks.cons (rs_bool _ _ _) (Wks.cons (rs_int _ _ _ _) (Wks.refl _)))), (boundsM ((addM (ofM b) c.f c.t c.m).2) b.n), true, (0 : Int), rfl, hv⟩
theorem vcp_addb (b : Bd) (c : Con) (h0 : b.most.length ≤ 1073741824) (h1 : ∀ r ∈ b.most, r.length ≤ 1073741824) : vc_addb b c (fun q0 q1 q2 => q0 = (addBM b c).1 ∧ q1 = (addBM b c).2.1 ∧ q2 = (addBM b c).2.2) := by
  unfold vc_addb
  have hnb := hNB
  refine ⟨⟨h0, h1, trivial⟩, fun h => ?_, fun h => ?_⟩
  · rw [addB_inv fun e => h.elim (fun h => h e.1) fun h => h e.2]; exact ⟨rfl, rfl, rfl⟩
  have hv : validBM b = true := Classical.not_not.mp fun e => h (.inl e)
  have hp : possM b.n c = true := Classical.not_not.mp fun e => h (.inr e)
  have vb := validBM_iff.mp hv
  have hn := vb.n
  have hc := possM_iff.mp hp
  have cl := vb.cl
  refine ⟨by omega, cl.addOk (by omega) (by omega) (by omega) (by omega), fun h2 => ?_, fun h2 => ⟨by omega, ?_⟩⟩
  · rw [addB_no ⟨hv, hp⟩ h2]; exact ⟨rfl, rfl, rfl⟩
  have h2 : (addM (ofM b) c.f c.t c.m).1 = true := Classical.not_not.mp h2
  generalize hm : (addM (ofM b) c.f c.t c.m).2 = m
  have hlen := bounds_len (m := m) (n := b.n)
  have hrow : ∀ i : Nat, i < b.n.toNat → (lat (boundsM m b.n).most (i : Int)).length = b.n.toNat := fun i hi => by rw [lat_nat]; exact bounds_row (by omega) hi
  have hat : ∀ i j : Nat, i < b.n.toNat → j < b.n.toNat → lat (lat (boundsM m b.n).most (i : Int)) (j : Int) = mm m i j := fun i j hi hj => by rw [lat_lat]; exact bm_bounds hi hj
  have hbig : (¬ ∀ i j, i < b.n.toNat → j < b.n.toNat → okX (mm m i j) = true) → addBM b c = (⟨0, []⟩, false, 2) := fun hx => addB_big ⟨hv, hp⟩ h2 fun e => hx (by rw [hm] at e; exact (boundsOk (by omega)).mp e)
  refine ⟨fun v => ∃ i : Nat, v = i ∧ i ≤ b.n.toNat ∧ ∀ k, k < i → ∀ j, j < b.n.toNat → okX (mm m k j) = true, fun v => b.n.toNat - v.toNat, ⟨0, rfl, by omega, by omega⟩, ?_⟩
  rintro _ ⟨i, rfl, hi, hk⟩
  rw [hlen]
  refine ⟨fun h3 => ⟨by omega, fun v => ∃ j : Nat, v = j ∧ j ≤ b.n.toNat ∧ ∀ k, k < j → okX (mm m i k) = true, fun v => b.n.toNat - v.toNat, ⟨0, rfl, by omega, by omega⟩, ?_⟩, fun h3 => ?_⟩
  · rintro _ ⟨j, rfl, hj, hk2⟩
    rw [hrow i (by omega)]
    refine ⟨fun h4 => ?_, fun h4 => ⟨by unfold inI; omega, ⟨i + 1, by omega, by omega, fun k hk1 => ?_⟩, by dsimp only; omega⟩⟩
    · rw [hat i j (by omega) (by omega)]
      refine ⟨by omega, fun h5 => ?_, fun h5 => ⟨by unfold inI; omega, ⟨j + 1, by omega, by omega, fun k hk1 => ?_⟩, by dsimp only; omega⟩⟩
      · rw [hbig fun hx => ?_]
        · exact ⟨rfl, rfl, rfl⟩
        · have := okX_iff.mp (hx i j (by omega) (by omega)); omega
      · rcases Nat.lt_or_ge k j with h6 | h6
        · exact hk2 k h6
        · have : k = j := by omega
          subst this; exact okX_iff.mpr (by omega)
    · rcases Nat.lt_or_ge k i with h6 | h6
      · exact hk k h6
      · have : k = i := by omega
        subst this; exact fun j' hj' => hk2 j' (by omega)
  · have e := addB_ok ⟨hv, hp⟩ h2 (by rw [hm]; exact (boundsOk (by omega)).mpr fun i' j' hi' hj' => hk i' (by omega) j' hj')
    rw [e, hm]; exact ⟨rfl, rfl, rfl⟩
theorem spec_addb (b : Bd) (c : Con) (h0 : b.most.length ≤ 1073741824) (h1 : ∀ r ∈ b.most, r.length ≤ 1073741824) : FnP Try.prog 19 [.agg ((e34 true) b), .agg (e25 c)] (fun xR => xR = .tup [.agg ((e34 false) ((addBM b c).1)), .bool ((addBM b c).2.1), .int .i64 ((addBM b c).2.2)]) :=
  (walk_addb (vcp_addb b c h0 h1)).mono (by rintro _ ⟨_, _, _, rfl, rfl, rfl, rfl⟩; rfl)
def vc_ints (a : (List Int)) (b : (List Int)) (Post : Bool → Prop) : Prop :=
  ((¬ ((a.length : Nat) : Int) = ((b.length : Nat) : Int)) → Post false) ∧ (¬ (¬ ((a.length : Nat) : Int) = ((b.length : Nat) : Int)) → ∃ (I1 : Int → Prop) (μ1 : Int → Nat), I1 (0 : Int) ∧ ∀ (v5 : Int), I1 v5 → ((v5 < ((a.length : Nat) : Int)) → (0 ≤ v5 ∧ v5 < (a.length : Int)) ∧ (0 ≤ v5 ∧ v5 < (b.length : Int)) ∧ ((¬ lat a v5 = lat b v5) → Post false) ∧ (¬ (¬ lat a v5 = lat b v5) → (inI (v5 + (1 : Int))) ∧ (I1 (v5 + (1 : Int)) ∧ μ1 (v5 + (1 : Int)) < μ1 v5))) ∧ (¬ (v5 < ((a.length : Nat) : Int)) → Post true))
set_option maxRecDepth 100000 in
set_option maxHeartbeats 4000000 in
theorem walk_ints {a : (List Int)} {b : (List Int)} {Post : Bool → Prop} (hv : vc_ints a b Post) : FnP Try.prog 18 [.lst true a.length (encL eInt a), .lst true b.length (encL eInt b)] (fun x => ∃ q0, x = .bool q0 ∧ Post q0) := by
 refine FnP.of_walk (T := tt) (nt := 26) ttOk ttMix ⟨⟨Try.f18, Try.func18, rfl, rfl, rfl, rfl⟩⟩ (by simp) ?_
 unfold vc_ints at hv
 change W _ _ _ ⟨26, look [(0, .lst true a.length (encL eInt a)), (1, .lst true b.length (encL eInt b))], [], false⟩ _
 refine W.tr [(0, .lst _ _ _), (1, .lst _ _ _)] [] ⟨rfl, rfl, trivial⟩ rfl ?_
 refine W.rL ?_
 refine aB rfl rfl ?_
 refine eL ?_
 refine W.tr [(0, .lst _ _ _), (1, .lst _ _ _)] [] ⟨rfl, rfl, trivial⟩ rfl ?_
 refine W.seq' ?_
 refine W.rL ?_
 refine mL rfl rfl ?_
 refine cL rfl (o_len (v := .lst _ _ _) tt35 rfl rfl ?_)
 refine mL rfl rfl ?_
 refine cL rfl (o_len (v := .lst _ _ _) tt35 rfl rfl ?_)
 refine cL rfl (o_neI rfl rfl rfl ?_)
 refine eL ?_
 refine W.tr [(0, .lst _ _ _), (1, .lst _ _ _), (10, .bool _)] [] ⟨rfl, rfl, rfl, trivial⟩ rfl ?_
 refine W.cn rfl (fun hc => ?_) (fun hc => ?_)
 have hv := hv.1 hc
 refine W.rL ?_
 refine aB rfl rfl ?_
 refine eL ?_
 refine W.tr [(4, .bool _)] [] ⟨rfl, trivial⟩ rfl ?_
 refine W.ret ?_
 refine th_ret (rt ?_)
 refine rt_t (v := .bool _) rfl ?_
 refine rt_n ?_
 exact ⟨_, rs_bool _ _ _, false, rfl, hv⟩
 have hv := hv.2 hc
 refine W.skip ?_
 refine th_nrm ?_
 refine W.tr [(0, .lst _ _ _), (1, .lst _ _ _)] [] ⟨rfl, rfl, trivial⟩ rfl ?_
 refine W.seq' ?_
 refine W.rL ?_
 refine aI rfl rfl ?_
 refine eL ?_
 refine W.tr [(0, .lst _ _ _), (1, .lst _ _ _), (5, .int _ _)] [] ⟨rfl, rfl, rfl, trivial⟩ rfl ?_
 refine W.block ?_
 obtain ⟨I1, μ1, hp, hv⟩ := hv
 refine W.loop1 (fun v5 => ⟨26, look [(0, .lst true a.length (encL eInt a)), (1, .lst true b.length (encL eInt b)), (5, .int .i64 v5)], [], false⟩) I1 μ1 (0 : Int) (St.to_mk (φ := []) rfl (.inl rfl) ⟨Ren.lst _ _ _, Ren.lst _ _ _, Ren.int _ _, trivial⟩ trivial) hp ?_
 clear hp
 intro v5 hI
 replace hv := hv v5 hI
 clear hI
 refine W.seq' ?_
 refine W.rL ?_
 refine mI rfl rfl ?_
 refine mL rfl rfl ?_
 refine cL rfl (o_len (v := .lst _ _ _) tt35 rfl rfl ?_)
 refine cL rfl (o_lss rfl rfl ?_)
 refine eL ?_
 refine W.tr [(0, .lst _ _ _), (1, .lst _ _ _), (5, .int _ _), (14, .bool _)] [] ⟨rfl, rfl, rfl, rfl, trivial⟩ rfl ?_
 refine W.cn rfl (fun hc => ?_) (fun hc => ?_)
 have hv := hv.1 hc
 refine W.skip ?_
 refine th_nrm ?_
 refine W.tr [(0, .lst _ _ _), (1, .lst _ _ _), (5, .int _ _)] [] ⟨rfl, rfl, rfl, trivial⟩ rfl ?_
 refine W.seq' ?_
 refine W.block ?_
 refine W.rD [0, 1, 2, 3, 4, 5, 6, 7, 8] (by decide +kernel) rfl ?_
 refine mL rfl rfl ?_
 refine mI rfl rfl ?_
 obtain ⟨s18, hv⟩ := hv
 refine cL rfl (o_iaL tt35 tt3 rfl rfl (encInt.wd true) rfl s18 ?_)
 intro rest18
 refine cL rfl (o_ldS (v := .int _ _) tt3 rfl rfl ⟨_, rfl⟩ ?_)
 refine mL rfl rfl ?_
 refine mI rfl rfl ?_
 obtain ⟨s19, hv⟩ := hv
 refine cL rfl (o_iaL tt35 tt3 rfl rfl (encInt.wd true) rfl s19 ?_)
 intro rest19
 refine cL rfl (o_ldS (v := .int _ _) tt3 rfl rfl ⟨_, rfl⟩ ?_)
 refine cL rfl (o_neI rfl rfl rfl ?_)
 refine eL ?_
 refine W.tr [(0, .lst _ _ _), (1, .lst _ _ _), (5, .int _ _), (25, .bool _)] [] ⟨rfl, rfl, rfl, rfl, trivial⟩ rfl ?_
 refine W.cn rfl (fun hc => ?_) (fun hc => ?_)
 have hv := hv.1 hc
 refine W.rL ?_
 refine aB rfl rfl ?_
 refine eL ?_
 refine W.tr [(4, .bool _)] [] ⟨rfl, trivial⟩ rfl ?_
 refine W.ret ?_
 refine bl_ret (th_ret (th_ret (bl_ret (th_ret (rt ?_)))))
 refine rt_t (v := .bool _) rfl ?_
 refine rt_n ?_
 exact ⟨_, rs_bool _ _ _, false, rfl, hv⟩
 have hv := hv.2 hc
 refine W.skip ?_
 refine bl_nrm (th_nrm ?_)
 refine W.tr [(0, .lst _ _ _), (1, .lst _ _ _), (5, .int _ _)] [] ⟨rfl, rfl, rfl, trivial⟩ rfl ?_
 refine W.rL1 ?_
 refine mI rfl rfl ?_
 obtain ⟨s20, hv⟩ := hv
 refine cL rfl (o_add rfl rfl s20 ?_)
 refine aI rfl rfl ?_
 refine eL ?_
 exact th_nrm (⟨(), (v5 + (1 : Int)), hv, St.to_mk (φ := []) rfl (.inl rfl) ⟨Ren.lst _ _ _, Ren.lst _ _ _, Ren.int _ _, trivial⟩ trivial⟩)
 have hv := hv.2 hc
 refine W.exit ?_
 refine th_exit (th_exit (bl_hit (th_nrm ?_)))
 refine W.tr [] [] trivial rfl ?_
 refine W.rL ?_
 refine aB rfl rfl ?_
 refine eL ?_
 refine W.tr [(4, .bool _)] [] ⟨rfl, trivial⟩ rfl ?_
 refine W.ret ?_
 refine rt ?_
 refine rt_t (v := .bool _) rfl ?_
 refine rt_n ?_
 exact ⟨_, rs_bool _ _ _, true, rfl, hv⟩
theorem vcp_ints (a : (List Int)) (b : (List Int)) (h0 : a.length ≤ 1073741824) : vc_ints a b (fun q0 => q0 = (decide (a = b))) := by
  unfold vc_ints
  refine ⟨fun h => ?_, fun h => ⟨fun v => ∃ i : Nat, v = i ∧ i ≤ a.length ∧ ∀ j, j < i → a[j]? = b[j]?, fun v => a.length - v.toNat, ⟨0, rfl, by omega, by omega⟩, ?_⟩⟩
  · exact (decide_eq_false fun e => h (by rw [e])).symm
  · have hl : a.length = b.length := by omega
    rintro _ ⟨i, rfl, hi, hj⟩
    refine ⟨fun h1 => ⟨by omega, by omega, fun h2 => ?_, fun h2 => ⟨by unfold inI; omega, ⟨i + 1, by omega, by omega, ?_⟩, by dsimp only; omega⟩⟩, fun h1 => ?_⟩
    · exact (decide_eq_false fun e => h2 (by rw [e])).symm
    · intro j hj1
      rcases Nat.lt_or_ge j i with h3 | h3
      · exact hj j h3
      · have : j = i := by omega
        subst this
        have h4 : lat a (j : Int) = lat b (j : Int) := Classical.not_not.mp h2
        have ha : j < a.length := by omega
        have hb : j < b.length := by omega
        simp only [lat, Int.toNat_natCast, List.getD_eq_getElem?_getD, List.getElem?_eq_getElem ha, List.getElem?_eq_getElem hb, Option.getD_some] at h4 ⊢
        rw [h4]
    · refine (decide_eq_true (List.ext_getElem? fun j => ?_)).symm
      rcases Nat.lt_or_ge j i with h3 | h3
      · exact hj j h3
      · rw [List.getElem?_eq_none (by omega), List.getElem?_eq_none (by omega)]
theorem spec_ints (a : (List Int)) (b : (List Int)) (h0 : a.length ≤ 1073741824) : FnP Try.prog 18 [.lst true a.length (encL eInt a), .lst true b.length (encL eInt b)] (fun xR => xR = .bool (decide (a = b))) :=
  (walk_ints (vcp_ints a b h0)).mono (by rintro _ ⟨_, rfl, rfl⟩; rfl)
def vc_few (l : (List Con)) (Post : (List Con) → Prop) : Prop :=
  (0 ≤ ((0 : Nat) : Int) ∧ ((0 : Nat) : Int) ≤ (min ((l.length : Nat) : Int) (40 : Int)) ∧ (min ((l.length : Nat) : Int) (40 : Int)) ≤ (l.length : Int)) ∧ Post (l.take (min ((l.length : Nat) : Int) (40 : Int)).toNat)
set_option maxRecDepth 100000 in
set_option maxHeartbeats 4000000 in
theorem walk_few {l : (List Con)} {Post : (List Con) → Prop} (hv : vc_few l Post) : FnS Try.prog 13 [.lst true l.length (encL e25 l)] (fun x => ∃ q0, x = .lst true q0.length (encL e25 q0) ∧ Post q0) := by
 refine FnS.of_walk (T := tt) (nt := 8) ttOk ttMix ⟨⟨Try.f13, Try.func13, rfl, rfl, rfl, rfl⟩⟩ (by simp) ?_
 unfold vc_few at hv
 change W _ _ _ ⟨8, look [(0, .lst true l.length (encL e25 l))], [], false⟩ _
 refine W.tr [(0, .lst _ _ _)] [] ⟨rfl, trivial⟩ rfl ?_
 refine W.rL ?_
 refine cL rfl (o_assign (v := .nilS) rfl ?_)
 refine eL ?_
 refine W.tr [(0, .lst _ _ _)] [] ⟨rfl, trivial⟩ rfl ?_
 refine W.rL ?_
 iterate 2 refine mL rfl rfl ?_
 refine cL rfl (o_len (v := .lst _ _ _) tt22 rfl rfl ?_)
 refine cL rfl (o_min rfl rfl ?_)
 obtain ⟨s1, hv⟩ := hv
 refine cL rfl (o_slL tt22 tt25 rfl (enc25.wd true) rfl rfl rfl s1 (ys := l.take (min ((l.length : Nat) : Int) (40 : Int)).toNat) (by simp) ?_)
 refine aL rfl rfl ?_
 refine eL ?_
 refine W.tr [(2, .lst _ _ _)] [] ⟨rfl, trivial⟩ rfl ?_
 refine W.ret ?_
 refine rt ?_
 refine rt_t (v := .lst _ _ _) rfl ?_
 refine rt_n ?_
 exact ⟨_, ag_lst _ _ _ _ _, (l.take (min ((l.length : Nat) : Int) (40 : Int)).toNat), rfl, hv⟩
theorem vcp_few (l : (List Con))  : vc_few l (fun q0 => q0 = (l.take 40)) := by
  unfold vc_few
  refine ⟨by omega, ?_⟩
  have : (min ((l.length : Nat) : Int) (40 : Int)).toNat = min l.length 40 := by omega
  rw [this]; show l.take _ = l.take 40
  rw [List.take_eq_take_iff]
  omega
theorem spec_few (l : (List Con))  : FnS Try.prog 13 [.lst true l.length (encL e25 l)] (fun xR => xR = .lst true (l.take 40).length (encL e25 (l.take 40))) :=
  (walk_few (vcp_few l)).mono (by rintro _ ⟨_, rfl, rfl⟩; rfl)
end Go.Lat
