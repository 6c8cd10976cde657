/- The law latecomerlaw07.BoundsMatchesReference returns true for every input, and each argument reads afterwards as it read before. Part 9 of 13. No condition. -/
import Derived.Test.YtikbpchifcjomaaLatD
set_option linter.unusedVariables false
set_option linter.unusedSimpArgs false
set_option linter.unnecessarySimpa false
namespace Go.Lat
open Go.RowKit Go.Proofs
attribute [local irreducible] closeM rangeM pointM addBM cycleM holdsM validBM sameM madeM pickM plusM validM possM firstM tableM longerM boundsM ofM addM freeM
def vc_rsum (a : Int) (b : Int) (Post : Int → Prop) : Prop :=
  (((a = (1152921504606846976 : Int)) ∨ (b = (1152921504606846976 : Int))) → Post (1152921504606846976 : Int)) ∧ (¬ ((a = (1152921504606846976 : Int)) ∨ (b = (1152921504606846976 : Int))) → (inI (a + b)) ∧ Post (a + b))
set_option maxRecDepth 100000 in
set_option maxHeartbeats 4000000 in
theorem walk_rsum {a : Int} {b : Int} {Post : Int → Prop} (hv : vc_rsum a b Post) : FnP Try.prog 48 [.int .i64 a, .int .i64 b] (fun x => ∃ q0, x = .int .i64 q0 ∧ Post q0) := by
 refine FnP.of_walk (T := tt) (nt := 14) ttOk ttMix ⟨⟨Try.f48, Try.func48, rfl, rfl, rfl, rfl⟩⟩ (by simp) ?_
 unfold vc_rsum at hv
 change W _ _ _ ⟨14, look [(0, .int .i64 a), (1, .int .i64 b)], [], false⟩ _
 refine W.tr [(0, .int _ _), (1, .int _ _)] [] ⟨rfl, rfl, trivial⟩ rfl ?_
 refine W.rL ?_
 refine aI rfl rfl ?_
 refine eL ?_
 refine W.tr [(0, .int _ _), (1, .int _ _)] [] ⟨rfl, rfl, trivial⟩ rfl ?_
 refine W.seq' ?_
 refine W.rLm ⟨14, look [(0, .int .i64 a), (1, .int .i64 b), (10, .bool (decide ((a = (1152921504606846976 : Int)) ∨ (b = (1152921504606846976 : Int)))))], [], false⟩ ?_ ?_
 refine mI rfl rfl ?_
 refine cL rfl (o_eqI rfl rfl rfl ?_)
 refine mB rfl rfl ?_
 by_cases c1 : a = (1152921504606846976 : Int)
 iterate 2 refine cLs rfl rfl rfl (decide_eq_true c1) ?_
 refine cL rfl (o_pickT (v := .bool _) rfl (decide_eq_true c1) rfl ?_)
 refine eL ?_
 exact le_mk ⟨rfl, rfl, (congrArg AV.bool (dOrT c1)).symm, trivial⟩ rfl
 refine cLg rfl rfl (decide_eq_false c1) ?_
 refine mI rfl rfl ?_
 refine cLg rfl rfl (decide_eq_false c1) ?_
 refine cL rfl (o_eqI rfl rfl rfl ?_)
 refine cL rfl (o_pickF (v := .bool _) rfl (decide_eq_false c1) rfl ?_)
 refine eL ?_
 exact le_mk ⟨rfl, rfl, (congrArg AV.bool (dOrF c1 (rfl))).symm, trivial⟩ rfl
 refine W.cn rfl (fun hc => ?_) (fun hc => ?_)
 have hv := hv.1 hc
 refine W.rL ?_
 refine aI rfl rfl ?_
 refine eL ?_
 refine W.tr [(4, .int _ _)] [] ⟨rfl, trivial⟩ rfl ?_
 refine W.ret ?_
 refine th_ret (rt ?_)
 refine rt_t (v := .int _ _) rfl ?_
 refine rt_n ?_
 exact ⟨_, rs_int _ _ _ _, (1152921504606846976 : Int), rfl, hv⟩
 have hv := hv.2 hc
 refine W.skip ?_
 refine th_nrm ?_
 refine W.tr [(0, .int _ _), (1, .int _ _)] [] ⟨rfl, rfl, trivial⟩ rfl ?_
 refine W.rL ?_
 iterate 2 refine mI rfl rfl ?_
 obtain ⟨s1, hv⟩ := hv
 refine cL rfl (o_add rfl rfl s1 ?_)
 refine aI rfl rfl ?_
 refine eL ?_
 refine W.tr [(4, .int _ _)] [] ⟨rfl, trivial⟩ rfl ?_
 refine W.ret ?_
 refine rt ?_
 refine rt_t (v := .int _ _) rfl ?_
 refine rt_n ?_
 exact ⟨_, rs_int _ _ _ _, (a + b), rfl, hv⟩
theorem vcp_rsum (a : Int) (b : Int) (h0 : ¬ a = NB → ¬ b = NB → inI (a + b)) : vc_rsum a b (fun q0 => q0 = (plusM a b)) := by
  unfold vc_rsum plusM
  refine ⟨fun h => by simp only [h, if_true, NB], fun h => ?_⟩
  have ha : ¬ a = NB := fun e => h (.inl e)
  have hb : ¬ b = NB := fun e => h (.inr e)
  exact ⟨h0 ha hb, by simp only [ha, hb, or_self, if_false]⟩
theorem spec_rsum (a : Int) (b : Int) (h0 : ¬ a = NB → ¬ b = NB → inI (a + b)) : FnP Try.prog 48 [.int .i64 a, .int .i64 b] (fun xR => xR = .int .i64 (plusM a b)) :=
  (walk_rsum (vcp_rsum a b h0)).mono (by rintro _ ⟨_, rfl, rfl⟩; rfl)
def vc_rvald (b : Bd) (Post : Bool → Prop) : Prop :=
  (((b.n < (1 : Int)) ∨ (((24 : Int) < b.n) ∨ (¬ ((b.most.length : Nat) : Int) = b.n))) → Post false) ∧ (¬ ((b.n < (1 : Int)) ∨ (((24 : Int) < b.n) ∨ (¬ ((b.most.length : Nat) : Int) = b.n))) → ∃ (I1 : Int → Prop) (μ1 : Int → Nat), I1 (0 : Int) ∧ ∀ (v3 : Int), I1 v3 → ((v3 < b.n) → ((0 ≤ v3 ∧ v3 < (b.most.length : Int)) ∧ ((¬ (((lat b.most v3).length : Nat) : Int) = b.n) → True) ∧ (¬ (¬ (((lat b.most v3).length : Nat) : Int) = b.n) → (0 ≤ v3 ∧ v3 < (b.most.length : Int)) ∧ (0 ≤ v3 ∧ v3 < ((lat b.most v3).length : Int)) ∧ True)) ∧ ((((¬ (((lat b.most v3).length : Nat) : Int) = b.n) ∨ (¬ lat (lat b.most v3) v3 = (0 : Int))) → Post false) ∧ (¬ ((¬ (((lat b.most v3).length : Nat) : Int) = b.n) ∨ (¬ lat (lat b.most v3) v3 = (0 : Int))) → ∃ (I2 : Int → Prop) (μ2 : Int → Nat), I2 (0 : Int) ∧ ∀ (v4 : Int), I2 v4 → ((v4 < b.n) → (0 ≤ v3 ∧ v3 < (b.most.length : Int)) ∧ (0 ≤ v4 ∧ v4 < ((lat b.most v3).length : Int)) ∧ (((¬ lat (lat b.most v3) v4 = (1152921504606846976 : Int)) ∧ (((lat (lat b.most v3) v4) < (-36028797018963968 : Int)) ∨ ((36028797018963968 : Int) < (lat (lat b.most v3) v4)))) → Post false) ∧ (¬ ((¬ lat (lat b.most v3) v4 = (1152921504606846976 : Int)) ∧ (((lat (lat b.most v3) v4) < (-36028797018963968 : Int)) ∨ ((36028797018963968 : Int) < (lat (lat b.most v3) v4)))) → (inI (v4 + (1 : Int))) ∧ (I2 (v4 + (1 : Int)) ∧ μ2 (v4 + (1 : Int)) < μ2 v4))) ∧ (¬ (v4 < b.n) → (inI (v3 + (1 : Int))) ∧ (I1 (v3 + (1 : Int)) ∧ μ1 (v3 + (1 : Int)) < μ1 v3))))) ∧ (¬ (v3 < b.n) → ∃ (I3 : Int → Prop) (μ3 : Int → Nat), I3 (0 : Int) ∧ ∀ (v6 : Int), I3 v6 → ((v6 < b.n) → ∃ (I4 : Int → Prop) (μ4 : Int → Nat), I4 (0 : Int) ∧ ∀ (v7 : Int), I4 v7 → ((v7 < b.n) → ∃ (I5 : Int → Prop) (μ5 : Int → Nat), I5 (0 : Int) ∧ ∀ (v8 : Int), I5 v8 → ((v8 < b.n) → (0 ≤ v6 ∧ v6 < (b.most.length : Int)) ∧ (0 ≤ v7 ∧ v7 < ((lat b.most v6).length : Int)) ∧ (0 ≤ v7 ∧ v7 < (b.most.length : Int)) ∧ (0 ≤ v8 ∧ v8 < ((lat b.most v7).length : Int)) ∧ (¬ (lat (lat b.most v6) v7) = NB → ¬ (lat (lat b.most v7) v8) = NB → inI ((lat (lat b.most v6) v7) + (lat (lat b.most v7) v8))) ∧ (((¬ plusM (lat (lat b.most v6) v7) (lat (lat b.most v7) v8) = (1152921504606846976 : Int)) → (0 ≤ v6 ∧ v6 < (b.most.length : Int)) ∧ (0 ≤ v8 ∧ v8 < ((lat b.most v6).length : Int)) ∧ ((lat (lat b.most v6) v8 = (1152921504606846976 : Int)) → True) ∧ (¬ (lat (lat b.most v6) v8 = (1152921504606846976 : Int)) → (0 ≤ v6 ∧ v6 < (b.most.length : Int)) ∧ (0 ≤ v8 ∧ v8 < ((lat b.most v6).length : Int)) ∧ True)) ∧ (¬ (¬ plusM (lat (lat b.most v6) v7) (lat (lat b.most v7) v8) = (1152921504606846976 : Int)) → True)) ∧ ((((¬ plusM (lat (lat b.most v6) v7) (lat (lat b.most v7) v8) = (1152921504606846976 : Int)) ∧ ((lat (lat b.most v6) v8 = (1152921504606846976 : Int)) ∨ ((plusM (lat (lat b.most v6) v7) (lat (lat b.most v7) v8)) < (lat (lat b.most v6) v8)))) → Post false) ∧ (¬ ((¬ plusM (lat (lat b.most v6) v7) (lat (lat b.most v7) v8) = (1152921504606846976 : Int)) ∧ ((lat (lat b.most v6) v8 = (1152921504606846976 : Int)) ∨ ((plusM (lat (lat b.most v6) v7) (lat (lat b.most v7) v8)) < (lat (lat b.most v6) v8)))) → (inI (v8 + (1 : Int))) ∧ (I5 (v8 + (1 : Int)) ∧ μ5 (v8 + (1 : Int)) < μ5 v8)))) ∧ (¬ (v8 < b.n) → (inI (v7 + (1 : Int))) ∧ (I4 (v7 + (1 : Int)) ∧ μ4 (v7 + (1 : Int)) < μ4 v7))) ∧ (¬ (v7 < b.n) → (inI (v6 + (1 : Int))) ∧ (I3 (v6 + (1 : Int)) ∧ μ3 (v6 + (1 : Int)) < μ3 v6))) ∧ (¬ (v6 < b.n) → Post true)))
set_option maxRecDepth 100000 in
set_option maxHeartbeats 4000000 in
theorem walk_rvald {b : Bd} {Post : Bool → Prop} (hv : vc_rvald b Post) : FnP Try.prog 26 [.agg ((e34 true) b)] (fun x => ∃ q0, x = .bool q0 ∧ Post q0) := by
 refine FnP.of_walk (T := tt) (nt := 136) ttOk ttMix ⟨⟨Try.f26, Try.func26, rfl, rfl, rfl, rfl⟩⟩ (by simp) ?_
 unfold vc_rvald at hv
 change W _ _ _ ⟨136, look [(0, .agg [.int .i64 b.n, .lst true b.most.length (encL (eSl eInt true) b.most)])], [], false⟩ _
 refine W.tr [(0, .agg _)] [] ⟨rfl, trivial⟩ rfl ?_
 refine W.rL ?_
 refine cL rfl (o_box (v := .agg _) (p := 0) rfl rfl rfl ?_)
 refine aB rfl rfl ?_
 refine eL ?_
 refine W.tr [(1, .ptr _ _)] [.box _ [.int _ _, .lst _ _ _]] ⟨rfl, trivial⟩ rfl ?_
 refine W.seq' ?_
 refine W.rLm ⟨136, look [(1, .ptr 0 0), (25, .bool (decide ((b.n < (1 : Int)) ∨ (((24 : Int) < b.n) ∨ (¬ ((b.most.length : Nat) : Int) = b.n)))))], [.box 34 [.int .i64 b.n, .lst true b.most.length (encL (eSl eInt true) b.most)]], false⟩ ?_ ?_
 refine cL rfl (o_fa tt34 rfl tt3 rfl ?_)
 refine cL rfl (o_ldS (v := .int _ _) tt3 rfl rfl ⟨_, rfl⟩ ?_)
 refine cL rfl (o_lss rfl rfl ?_)
 refine mB rfl rfl ?_
 by_cases c1 : b.n < (1 : Int)
 iterate 3 refine cLs rfl rfl rfl (decide_eq_true c1) ?_
 refine cL rfl (o_pickT (v := .bool _) rfl (decide_eq_true c1) rfl ?_)
 refine mB rfl rfl ?_
 iterate 6 refine cLs rfl rfl rfl (rfl) ?_
 refine cL rfl (o_pickT (v := .bool _) rfl rfl rfl ?_)
 refine eL ?_
 exact le_mk ⟨rfl, (congrArg AV.bool (dOrT c1)).symm, trivial⟩ rfl
 refine cLg rfl rfl (decide_eq_false c1) ?_
 refine cL rfl (o_fa tt34 rfl tt3 rfl ?_)
 refine cLg rfl rfl (decide_eq_false c1) ?_
 refine cL rfl (o_ldS (v := .int _ _) tt3 rfl rfl ⟨_, rfl⟩ ?_)
 refine cLg rfl rfl (decide_eq_false c1) ?_
 refine cL rfl (o_gtr rfl rfl ?_)
 refine cL rfl (o_pickF (v := .bool _) rfl (decide_eq_false c1) rfl ?_)
 refine mB rfl rfl ?_
 by_cases c2 : (24 : Int) < b.n
 iterate 6 refine cLs rfl rfl rfl (decide_eq_true c2) ?_
 refine cL rfl (o_pickT (v := .bool _) rfl (decide_eq_true c2) rfl ?_)
 refine eL ?_
 exact le_mk ⟨rfl, (congrArg AV.bool (dOrF c1 (dOrT c2))).symm, trivial⟩ rfl
 refine cLg rfl rfl (decide_eq_false c2) ?_
 refine cL rfl (o_fa tt34 rfl tt32 rfl ?_)
 refine cLg rfl rfl (decide_eq_false c2) ?_
 refine cL rfl (o_ldS (v := .lst _ _ _) tt32 rfl rfl ⟨_, rfl⟩ ?_)
 refine cLg rfl rfl (decide_eq_false c2) ?_
 refine cL rfl (o_len (v := .lst _ _ _) tt32 rfl rfl ?_)
 refine cLg rfl rfl (decide_eq_false c2) ?_
 refine cL rfl (o_fa tt34 rfl tt3 rfl ?_)
 refine cLg rfl rfl (decide_eq_false c2) ?_
 refine cL rfl (o_ldS (v := .int _ _) tt3 rfl rfl ⟨_, rfl⟩ ?_)
 refine cLg rfl rfl (decide_eq_false c2) ?_
 refine cL rfl (o_neI rfl rfl rfl ?_)
 refine cL rfl (o_pickF (v := .bool _) rfl (decide_eq_false c2) rfl ?_)
 refine eL ?_
 exact le_mk ⟨rfl, (congrArg AV.bool (dOrF c1 (dOrF c2 (rfl)))).symm, trivial⟩ rfl
 refine W.cn rfl (fun hc => ?_) (fun hc => ?_)
 have hv := hv.1 hc
 refine W.rL ?_
 refine aB rfl rfl ?_
 refine eL ?_
 refine W.tr [(2, .bool _)] [.box _ [.int _ _, .lst _ _ _]] ⟨rfl, trivial⟩ rfl ?_
 refine W.ret ?_
 refine th_ret (rt ?_)
 refine rt_t (v := .bool _) rfl ?_
 refine rt_n ?_
 exact ⟨_, rs_bool _ _ _, false, rfl, hv⟩
 have hv := hv.2 hc
 refine W.skip ?_
 refine th_nrm ?_
 refine W.tr [(1, .ptr _ _)] [.box _ [.int _ _, .lst _ _ _]] ⟨rfl, trivial⟩ rfl ?_
 refine W.seq' ?_
 refine W.rL ?_
 refine aI rfl rfl ?_
 refine eL ?_
 refine W.tr [(1, .ptr _ _), (3, .int _ _)] [.box _ [.int _ _, .lst _ _ _]] ⟨rfl, rfl, trivial⟩ rfl ?_
 refine W.block ?_
 obtain ⟨I1, μ1, hp, hv⟩ := hv
 refine W.loop1 (fun v3 => ⟨136, look [(1, .ptr 0 0), (3, .int .i64 v3)], [.box 34 [.int .i64 b.n, .lst true b.most.length (encL (eSl eInt true) b.most)]], false⟩) I1 μ1 (0 : Int) (St.to_mk (φ := [some 0]) rfl (.inl rfl) ⟨Ren.ptr rfl, Ren.int _ _, trivial⟩ ⟨.inr ⟨_, rfl, rfl, Rens.cons (Ren.int _ _) (Rens.cons (Ren.lst _ _ _) (Rens.nil))⟩, trivial⟩) hp ?_
 clear hp
 intro v3 hI
 replace hv := hv v3 hI
 clear hI
 refine W.seq' ?_
 refine W.rL ?_
 refine mI rfl rfl ?_
 refine cL rfl (o_fa tt34 rfl tt3 rfl ?_)
 refine cL rfl (o_ldS (v := .int _ _) tt3 rfl rfl ⟨_, rfl⟩ ?_)
 refine cL rfl (o_lss rfl rfl ?_)
 refine eL ?_
 refine W.tr [(1, .ptr _ _), (3, .int _ _), (29, .bool _)] [.box _ [.int _ _, .lst _ _ _]] ⟨rfl, rfl, rfl, trivial⟩ rfl ?_
 refine W.cn rfl (fun hc => ?_) (fun hc => ?_)
 have hv := hv.1 hc
 refine W.skip ?_
 refine th_nrm ?_
 refine W.tr [(1, .ptr _ _), (3, .int _ _)] [.box _ [.int _ _, .lst _ _ _]] ⟨rfl, rfl, trivial⟩ rfl ?_
 refine W.seq' ?_
 refine W.block ?_
 refine W.seq' ?_
 obtain ⟨sd, hv⟩ := hv
 refine W.rDm ⟨136, look [(1, .ptr 0 0), (3, .int .i64 v3), (51, .bool (decide ((¬ (((lat b.most v3).length : Nat) : Int) = b.n) ∨ (¬ lat (lat b.most v3) v3 = (0 : Int)))))], [.box 34 [.int .i64 b.n, .lst true b.most.length (encL (eSl eInt true) b.most)]], false⟩ [0, 1, 2, 3, 4, 5, 6, 7, 8, 9, 10, 11, 12, 13, 14, 15, 16, 17, 18, 19] (by decide +kernel) rfl ?_ ?_
 refine cL rfl (o_fa tt34 rfl tt32 rfl ?_)
 refine cL rfl (o_ldS (v := .lst _ _ _) tt32 rfl rfl ⟨_, rfl⟩ ?_)
 refine mI rfl rfl ?_
 obtain ⟨s167, sd⟩ := sd
 refine cL rfl (o_iaL tt32 tt35 rfl rfl ((encSl eInt).wd true) rfl s167 ?_)
 intro rest167
 refine cL rfl (o_ldS (v := .lst _ _ _) tt35 rfl rfl ⟨_, rfl⟩ ?_)
 refine cL rfl (o_len (v := .lst _ _ _) tt35 rfl rfl ?_)
 refine cL rfl (o_fa tt34 rfl tt3 rfl ?_)
 refine cL rfl (o_ldS (v := .int _ _) tt3 rfl rfl ⟨_, rfl⟩ ?_)
 refine cL rfl (o_neI rfl rfl rfl ?_)
 refine mB rfl rfl ?_
 by_cases c1 : ¬ (((lat b.most v3).length : Nat) : Int) = b.n
 iterate 9 refine cLs rfl rfl rfl (decide_eq_true c1) ?_
 refine cL rfl (o_pickT (v := .bool _) rfl (decide_eq_true c1) rfl ?_)
 refine eL ?_
 exact le_mk ⟨rfl, rfl, (congrArg AV.bool (dOrT c1)).symm, trivial⟩ rfl
 have sd := sd.2 c1
 refine cLg rfl rfl (decide_eq_false c1) ?_
 refine cL rfl (o_fa tt34 rfl tt32 rfl ?_)
 refine cLg rfl rfl (decide_eq_false c1) ?_
 refine cL rfl (o_ldS (v := .lst _ _ _) tt32 rfl rfl ⟨_, rfl⟩ ?_)
 refine cLg rfl rfl (decide_eq_false c1) ?_
 refine mI rfl rfl ?_
 refine cLg rfl rfl (decide_eq_false c1) ?_
 obtain ⟨s168, sd⟩ := sd
 refine cL rfl (o_iaL tt32 tt35 rfl rfl ((encSl eInt).wd true) rfl s168 ?_)
 intro rest168
 refine cLg rfl rfl (decide_eq_false c1) ?_
 refine cL rfl (o_ldS (v := .lst _ _ _) tt35 rfl rfl ⟨_, rfl⟩ ?_)
 refine cLg rfl rfl (decide_eq_false c1) ?_
 refine mI rfl rfl ?_
 refine cLg rfl rfl (decide_eq_false c1) ?_
 obtain ⟨s169, sd⟩ := sd
 refine cL rfl (o_iaL tt35 tt3 rfl rfl (encInt.wd true) rfl s169 ?_)
 intro rest169
 refine cLg rfl rfl (decide_eq_false c1) ?_
 refine cL rfl (o_ldS (v := .int _ _) tt3 rfl rfl ⟨_, rfl⟩ ?_)
 refine cLg rfl rfl (decide_eq_false c1) ?_
 refine cL rfl (o_neI rfl rfl rfl ?_)
 refine cL rfl (o_pickF (v := .bool _) rfl (decide_eq_false c1) rfl ?_)
 refine eL ?_
 exact le_mk ⟨rfl, rfl, (congrArg AV.bool (dOrF c1 (rfl))).symm, trivial⟩ rfl
 refine W.cn rfl (fun hc => ?_) (fun hc => ?_)
 have hv := hv.1 hc
 refine W.rL ?_
 refine aB rfl rfl ?_
 refine eL ?_
 refine W.tr [(2, .bool _)] [.box _ [.int _ _, .lst _ _ _]] ⟨rfl, trivial⟩ rfl ?_
 refine W.ret ?_
 refine th_ret (bl_ret (th_ret (th_ret (bl_ret (th_ret (rt ?_))))))
 refine rt_t (v := .bool _) rfl ?_
 refine rt_n ?_
 exact ⟨_, rs_bool _ _ _, false, rfl, hv⟩
 have hv := hv.2 hc
 refine W.skip ?_
 refine th_nrm ?_
 refine W.tr [(1, .ptr _ _), (3, .int _ _)] [.box _ [.int _ _, .lst _ _ _]] ⟨rfl, rfl, trivial⟩ rfl ?_
 refine W.rL ?_
 refine aI rfl rfl ?_
 refine eL ?_
 refine W.tr [(1, .ptr _ _), (3, .int _ _), (4, .int _ _)] [.box _ [.int _ _, .lst _ _ _]] ⟨rfl, rfl, rfl, trivial⟩ rfl ?_
 refine W.block ?_
 obtain ⟨I2, μ2, hp, hv⟩ := hv
 refine W.loop1 (fun v4 => ⟨136, look [(1, .ptr 0 0), (3, .int .i64 v3), (4, .int .i64 v4)], [.box 34 [.int .i64 b.n, .lst true b.most.length (encL (eSl eInt true) b.most)]], false⟩) I2 μ2 (0 : Int) (St.to_mk (φ := [some 0]) rfl (.inl rfl) ⟨Ren.ptr rfl, Ren.int _ _, Ren.int _ _, trivial⟩ ⟨.inr ⟨_, rfl, rfl, Rens.cons (Ren.int _ _) (Rens.cons (Ren.lst _ _ _) (Rens.nil))⟩, trivial⟩) hp ?_
 clear hp
 intro v4 hI
 replace hv := hv v4 hI
 clear hI
 refine W.seq' ?_
 refine W.rL ?_
 refine mI rfl rfl ?_
 refine cL rfl (o_fa tt34 rfl tt3 rfl ?_)
 refine cL rfl (o_ldS (v := .int _ _) tt3 rfl rfl ⟨_, rfl⟩ ?_)
 refine cL rfl (o_lss rfl rfl ?_)
 refine eL ?_
 refine W.tr [(1, .ptr _ _), (3, .int _ _), (4, .int _ _), (55, .bool _)] [.box _ [.int _ _, .lst _ _ _]] ⟨rfl, rfl, rfl, rfl, trivial⟩ rfl ?_
 refine W.cn rfl (fun hc => ?_) (fun hc => ?_)
 have hv := hv.1 hc
 refine W.skip ?_
 refine th_nrm ?_
 refine W.tr [(1, .ptr _ _), (3, .int _ _), (4, .int _ _)] [.box _ [.int _ _, .lst _ _ _]] ⟨rfl, rfl, rfl, trivial⟩ rfl ?_
 refine W.seq' ?_
 refine W.block ?_
 refine W.rL ?_
 refine cL rfl (o_fa tt34 rfl tt32 rfl ?_)
 refine cL rfl (o_ldS (v := .lst _ _ _) tt32 rfl rfl ⟨_, rfl⟩ ?_)
 refine mI rfl rfl ?_
 obtain ⟨s177, hv⟩ := hv
 refine cL rfl (o_iaL tt32 tt35 rfl rfl ((encSl eInt).wd true) rfl s177 ?_)
 intro rest177
 refine cL rfl (o_ldS (v := .lst _ _ _) tt35 rfl rfl ⟨_, rfl⟩ ?_)
 refine mI rfl rfl ?_
 obtain ⟨s178, hv⟩ := hv
 refine cL rfl (o_iaL tt35 tt3 rfl rfl (encInt.wd true) rfl s178 ?_)
 intro rest178
 refine cL rfl (o_ldS (v := .int _ _) tt3 rfl rfl ⟨_, rfl⟩ ?_)
 refine aI rfl rfl ?_
 refine eL ?_
 refine W.tr [(1, .ptr _ _), (3, .int _ _), (4, .int _ _), (5, .int _ _)] [.box _ [.int _ _, .lst _ _ _]] ⟨rfl, rfl, rfl, rfl, trivial⟩ rfl ?_
 refine W.rLm ⟨136, look [(1, .ptr 0 0), (3, .int .i64 v3), (4, .int .i64 v4), (75, .bool (decide ((¬ lat (lat b.most v3) v4 = (1152921504606846976 : Int)) ∧ (((lat (lat b.most v3) v4) < (-36028797018963968 : Int)) ∨ ((36028797018963968 : Int) < (lat (lat b.most v3) v4))))))], [.box 34 [.int .i64 b.n, .lst true b.most.length (encL (eSl eInt true) b.most)]], false⟩ ?_ ?_
 refine mI rfl rfl ?_
 refine cL rfl (o_neI rfl rfl rfl ?_)
 refine mB rfl rfl ?_
 by_cases c1 : ¬ lat (lat b.most v3) v4 = (1152921504606846976 : Int)
 refine cLg rfl rfl (decide_eq_true c1) ?_
 refine mI rfl rfl ?_
 refine cLg rfl rfl (decide_eq_true c1) ?_
 refine cL rfl (o_lss rfl rfl ?_)
 refine cLg rfl rfl (decide_eq_true c1) ?_
 refine mB rfl rfl ?_
 by_cases c2 : (lat (lat b.most v3) v4) < (-36028797018963968 : Int)
 iterate 2 refine cLs rfl rfl rfl (decide_eq_true c2) ?_
 refine cLg rfl rfl (decide_eq_true c1) ?_
 refine cL rfl (o_pickT (v := .bool _) rfl (decide_eq_true c2) rfl ?_)
 refine cL rfl (o_pickT (v := .bool _) rfl (decide_eq_true c1) rfl ?_)
 refine eL ?_
 exact le_mk ⟨rfl, rfl, rfl, (congrArg AV.bool (dAndT c1 (dOrT c2))).symm, trivial⟩ rfl
 refine cLg rfl rfl (decide_eq_false c2) ?_
 refine mI rfl rfl ?_
 refine cLg rfl rfl (decide_eq_false c2) ?_
 refine cL rfl (o_gtr rfl rfl ?_)
 refine cLg rfl rfl (decide_eq_true c1) ?_
 refine cL rfl (o_pickF (v := .bool _) rfl (decide_eq_false c2) rfl ?_)
 refine cL rfl (o_pickT (v := .bool _) rfl (decide_eq_true c1) rfl ?_)
 refine eL ?_
 exact le_mk ⟨rfl, rfl, rfl, (congrArg AV.bool (dAndT c1 (dOrF c2 (rfl)))).symm, trivial⟩ rfl
 iterate 3 refine cLs rfl rfl rfl (decide_eq_false c1) ?_
 iterate 2 refine cLu rfl rfl rfl ?_
 refine cLs rfl rfl rfl (decide_eq_false c1) ?_
 refine cL rfl (o_pickF (v := .bool _) rfl (decide_eq_false c1) rfl ?_)
 refine eL ?_
 exact le_mk ⟨rfl, rfl, rfl, (congrArg AV.bool (dAndF c1)).symm, trivial⟩ rfl
 refine W.cn rfl (fun hc => ?_) (fun hc => ?_)
 have hv := hv.1 hc
 refine W.rL ?_
 refine aB rfl rfl ?_
 refine eL ?_
 refine W.tr [(2, .bool _)] [.box _ [.int _ _, .lst _ _ _]] ⟨rfl, trivial⟩ rfl ?_
 refine W.ret ?_
 refine bl_ret (th_ret (th_ret (bl_ret (bl_ret (th_ret (th_ret (bl_ret (th_ret (rt ?_)))))))))
 refine rt_t (v := .bool _) rfl ?_
 refine rt_n ?_
 exact ⟨_, rs_bool _ _ _, false, rfl, hv⟩
 have hv := hv.2 hc
 refine W.skip ?_
 refine bl_nrm (th_nrm ?_)
 refine W.tr [(1, .ptr _ _), (3, .int _ _), (4, .int _ _)] [.box _ [.int _ _, .lst _ _ _]] ⟨rfl, rfl, rfl, trivial⟩ rfl ?_
 refine W.rL1 ?_
 refine mI rfl rfl ?_
 obtain ⟨s179, hv⟩ := hv
 refine cL rfl (o_add rfl rfl s179 ?_)
 refine aI rfl rfl ?_
 refine eL ?_
 exact th_nrm (⟨(), (v4 + (1 : Int)), hv, St.to_mk (φ := [some 0]) rfl (.inl rfl) ⟨Ren.ptr rfl, Ren.int _ _, Ren.int _ _, trivial⟩ ⟨.inr ⟨_, rfl, rfl, Rens.cons (Ren.int _ _) (Rens.cons (Ren.lst _ _ _) (Rens.nil))⟩, trivial⟩⟩)
 have hv := hv.2 hc
 refine W.exit ?_
 refine th_exit (th_exit (bl_hit (bl_nrm (th_nrm ?_))))
 refine W.tr [(1, .ptr _ _), (3, .int _ _)] [.box _ [.int _ _, .lst _ _ _]] ⟨rfl, rfl, trivial⟩ rfl ?_
 refine W.rL1 ?_
 refine mI rfl rfl ?_
 obtain ⟨s180, hv⟩ := hv
 refine cL rfl (o_add rfl rfl s180 ?_)
 refine aI rfl rfl ?_
 refine eL ?_
 exact th_nrm (⟨(), (v3 + (1 : Int)), hv, St.to_mk (φ := [some 0]) rfl (.inl rfl) ⟨Ren.ptr rfl, Ren.int _ _, trivial⟩ ⟨.inr ⟨_, rfl, rfl, Rens.cons (Ren.int _ _) (Rens.cons (Ren.lst _ _ _) (Rens.nil))⟩, trivial⟩⟩)
 have hv := hv.2 hc
 refine W.exit ?_
 refine th_exit (th_exit (bl_hit (th_nrm ?_)))
 refine W.tr [(1, .ptr _ _)] [.box _ [.int _ _, .lst _ _ _]] ⟨rfl, trivial⟩ rfl ?_
 refine W.seq' ?_
 refine W.rL ?_
 refine aI rfl rfl ?_
 refine eL ?_
 refine W.tr [(1, .ptr _ _), (6, .int _ _)] [.box _ [.int _ _, .lst _ _ _]] ⟨rfl, rfl, trivial⟩ rfl ?_
 refine W.block ?_
 obtain ⟨I3, μ3, hp, hv⟩ := hv
 refine W.loop1 (fun v6 => ⟨136, look [(1, .ptr 0 0), (6, .int .i64 v6)], [.box 34 [.int .i64 b.n, .lst true b.most.length (encL (eSl eInt true) b.most)]], false⟩) I3 μ3 (0 : Int) (St.to_mk (φ := [some 0]) rfl (.inl rfl) ⟨Ren.ptr rfl, Ren.int _ _, trivial⟩ ⟨.inr ⟨_, rfl, rfl, Rens.cons (Ren.int _ _) (Rens.cons (Ren.lst _ _ _) (Rens.nil))⟩, trivial⟩) hp ?_
 clear hp
 intro v6 hI
 replace hv := hv v6 hI
 clear hI
 refine W.seq' ?_
 refine W.rL ?_
 refine mI rfl rfl ?_
 refine cL rfl (o_fa tt34 rfl tt3 rfl ?_)
 refine cL rfl (o_ldS (v := .int _ _) tt3 rfl rfl ⟨_, rfl⟩ ?_)
 refine cL rfl (o_lss rfl rfl ?_)
 refine eL ?_
 refine W.tr [(1, .ptr _ _), (6, .int _ _), (79, .bool _)] [.box _ [.int _ _, .lst _ _ _]] ⟨rfl, rfl, rfl, trivial⟩ rfl ?_
 refine W.cn rfl (fun hc => ?_) (fun hc => ?_)
 have hv := hv.1 hc
 refine W.skip ?_
 refine th_nrm ?_
 refine W.tr [(1, .ptr _ _), (6, .int _ _)] [.box _ [.int _ _, .lst _ _ _]] ⟨rfl, rfl, trivial⟩ rfl ?_
 refine W.seq' ?_
 refine W.block ?_
 refine W.rL ?_
 refine aI rfl rfl ?_
 refine eL ?_
 refine W.tr [(1, .ptr _ _), (6, .int _ _), (7, .int _ _)] [.box _ [.int _ _, .lst _ _ _]] ⟨rfl, rfl, rfl, trivial⟩ rfl ?_
 refine W.block ?_
 obtain ⟨I4, μ4, hp, hv⟩ := hv
 refine W.loop1 (fun v7 => ⟨136, look [(1, .ptr 0 0), (6, .int .i64 v6), (7, .int .i64 v7)], [.box 34 [.int .i64 b.n, .lst true b.most.length (encL (eSl eInt true) b.most)]], false⟩) I4 μ4 (0 : Int) (St.to_mk (φ := [some 0]) rfl (.inl rfl) ⟨Ren.ptr rfl, Ren.int _ _, Ren.int _ _, trivial⟩ ⟨.inr ⟨_, rfl, rfl, Rens.cons (Ren.int _ _) (Rens.cons (Ren.lst _ _ _) (Rens.nil))⟩, trivial⟩) hp ?_
 clear hp
 intro v7 hI
 replace hv := hv v7 hI
 clear hI
 refine W.seq' ?_
 refine W.rL ?_
 refine mI rfl rfl ?_
 refine cL rfl (o_fa tt34 rfl tt3 rfl ?_)
 refine cL rfl (o_ldS (v := .int _ _) tt3 rfl rfl ⟨_, rfl⟩ ?_)
 refine cL rfl (o_lss rfl rfl ?_)
 refine eL ?_
 refine W.tr [(1, .ptr _ _), (6, .int _ _), (7, .int _ _), (85, .bool _)] [.box _ [.int _ _, .lst _ _ _]] ⟨rfl, rfl, rfl, rfl, trivial⟩ rfl ?_
 refine W.cn rfl (fun hc => ?_) (fun hc => ?_)
 have hv := hv.1 hc
 refine W.skip ?_
 refine th_nrm ?_
 refine W.tr [(1, .ptr _ _), (6, .int _ _), (7, .int _ _)] [.box _ [.int _ _, .lst _ _ _]] ⟨rfl, rfl, rfl, trivial⟩ rfl ?_
 refine W.seq' ?_
 refine W.block ?_
 refine W.rL ?_
 refine aI rfl rfl ?_
 refine eL ?_
 refine W.tr [(1, .ptr _ _), (6, .int _ _), (7, .int _ _), (8, .int _ _)] [.box _ [.int _ _, .lst _ _ _]] ⟨rfl, rfl, rfl, rfl, trivial⟩ rfl ?_
 refine W.block ?_
 obtain ⟨I5, μ5, hp, hv⟩ := hv
 refine W.loop1 (fun v8 => ⟨136, look [(1, .ptr 0 0), (6, .int .i64 v6), (7, .int .i64 v7), (8, .int .i64 v8)], [.box 34 [.int .i64 b.n, .lst true b.most.length (encL (eSl eInt true) b.most)]], false⟩) I5 μ5 (0 : Int) (St.to_mk (φ := [some 0]) rfl (.inl rfl) ⟨Ren.ptr rfl, Ren.int _ _, Ren.int _ _, Ren.int _ _, trivial⟩ ⟨.inr ⟨_, rfl, rfl, Rens.cons (Ren.int _ _) (Rens.cons (Ren.lst _ _ _) (Rens.nil))⟩, trivial⟩) hp ?_
 clear hp
 intro v8 hI
 replace hv := hv v8 hI
 clear hI
 refine W.seq' ?_
 refine W.rL ?_
 refine mI rfl rfl ?_
 refine cL rfl (o_fa tt34 rfl tt3 rfl ?_)
 refine cL rfl (o_ldS (v := .int _ _) tt3 rfl rfl ⟨_, rfl⟩ ?_)
 refine cL rfl (o_lss rfl rfl ?_)
 refine eL ?_
 refine W.tr [(1, .ptr _ _), (6, .int _ _), (7, .int _ _), (8, .int _ _), (91, .bool _)] [.box _ [.int _ _, .lst _ _ _]] ⟨rfl, rfl, rfl, rfl, rfl, trivial⟩ rfl ?_
 refine W.cn rfl (fun hc => ?_) (fun hc => ?_)
 have hv := hv.1 hc
 refine W.skip ?_
 refine th_nrm ?_
 refine W.tr [(1, .ptr _ _), (6, .int _ _), (7, .int _ _), (8, .int _ _)] [.box _ [.int _ _, .lst _ _ _]] ⟨rfl, rfl, rfl, rfl, trivial⟩ rfl ?_
 refine W.seq' ?_
 refine W.block ?_
 refine W.rD [0, 1, 2, 3, 4, 5, 6, 7, 8, 9, 10, 11, 12, 13, 14, 15, 16, 17] (by decide +kernel) rfl ?_
 refine cL rfl (o_fa tt34 rfl tt32 rfl ?_)
 refine cL rfl (o_ldS (v := .lst _ _ _) tt32 rfl rfl ⟨_, rfl⟩ ?_)
 refine mI rfl rfl ?_
 obtain ⟨s1913, hv⟩ := hv
 refine cL rfl (o_iaL tt32 tt35 rfl rfl ((encSl eInt).wd true) rfl s1913 ?_)
 intro rest1913
 refine cL rfl (o_ldS (v := .lst _ _ _) tt35 rfl rfl ⟨_, rfl⟩ ?_)
 refine mI rfl rfl ?_
 obtain ⟨s1914, hv⟩ := hv
 refine cL rfl (o_iaL tt35 tt3 rfl rfl (encInt.wd true) rfl s1914 ?_)
 intro rest1914
 refine cL rfl (o_ldS (v := .int _ _) tt3 rfl rfl ⟨_, rfl⟩ ?_)
 refine cL rfl (o_fa tt34 rfl tt32 rfl ?_)
 refine cL rfl (o_ldS (v := .lst _ _ _) tt32 rfl rfl ⟨_, rfl⟩ ?_)
 refine mI rfl rfl ?_
 obtain ⟨s1915, hv⟩ := hv
 refine cL rfl (o_iaL tt32 tt35 rfl rfl ((encSl eInt).wd true) rfl s1915 ?_)
 intro rest1915
 refine cL rfl (o_ldS (v := .lst _ _ _) tt35 rfl rfl ⟨_, rfl⟩ ?_)
 refine mI rfl rfl ?_
 obtain ⟨s1916, hv⟩ := hv
 refine cL rfl (o_iaL tt35 tt3 rfl rfl (encInt.wd true) rfl s1916 ?_)
 intro rest1916
 refine cL rfl (o_ldS (v := .int _ _) tt3 rfl rfl ⟨_, rfl⟩ ?_)
 obtain ⟨s1917, hv⟩ := hv
 refine cL rfl (o_callP1 (k := 48) (fst := []) (caps := []) (ys := [.int _ _, .int _ _]) rfl rfl (spec_rsum (lat (lat b.most v6) v7) (lat (lat b.most v7) v8) s1917) (Wks.cons (ag_int _ _ _ _) (Wks.cons (ag_int _ _ _ _) (Wks.refl _))) ?_)
 refine aI rfl rfl ?_
 refine eL ?_
 refine W.tr [(1, .ptr _ _), (6, .int _ _), (7, .int _ _), (8, .int _ _), (9, .int _ _)] [.box _ [.int _ _, .lst _ _ _]] ⟨rfl, rfl, rfl, rfl, rfl, trivial⟩ rfl ?_
 obtain ⟨sd, hv⟩ := hv
 refine W.rLm ⟨136, look [(1, .ptr 0 0), (6, .int .i64 v6), (7, .int .i64 v7), (8, .int .i64 v8), (135, .bool (decide ((¬ plusM (lat (lat b.most v6) v7) (lat (lat b.most v7) v8) = (1152921504606846976 : Int)) ∧ ((lat (lat b.most v6) v8 = (1152921504606846976 : Int)) ∨ ((plusM (lat (lat b.most v6) v7) (lat (lat b.most v7) v8)) < (lat (lat b.most v6) v8))))))], [.box 34 [.int .i64 b.n, .lst true b.most.length (encL (eSl eInt true) b.most)]], false⟩ ?_ ?_
 refine mI rfl rfl ?_
 refine cL rfl (o_neI rfl rfl rfl ?_)
 refine mB rfl rfl ?_
 by_cases c1 : ¬ plusM (lat (lat b.most v6) v7) (lat (lat b.most v7) v8) = (1152921504606846976 : Int)
 have sd := sd.1 c1
 refine cLg rfl rfl (decide_eq_true c1) ?_
 refine cL rfl (o_fa tt34 rfl tt32 rfl ?_)
 refine cLg rfl rfl (decide_eq_true c1) ?_
 refine cL rfl (o_ldS (v := .lst _ _ _) tt32 rfl rfl ⟨_, rfl⟩ ?_)
 refine cLg rfl rfl (decide_eq_true c1) ?_
 refine mI rfl rfl ?_
 refine cLg rfl rfl (decide_eq_true c1) ?_
 obtain ⟨s1922, sd⟩ := sd
 refine cL rfl (o_iaL tt32 tt35 rfl rfl ((encSl eInt).wd true) rfl s1922 ?_)
 intro rest1922
 refine cLg rfl rfl (decide_eq_true c1) ?_
 refine cL rfl (o_ldS (v := .lst _ _ _) tt35 rfl rfl ⟨_, rfl⟩ ?_)
 refine cLg rfl rfl (decide_eq_true c1) ?_
 refine mI rfl rfl ?_
 refine cLg rfl rfl (decide_eq_true c1) ?_
 obtain ⟨s1923, sd⟩ := sd
 refine cL rfl (o_iaL tt35 tt3 rfl rfl (encInt.wd true) rfl s1923 ?_)
 intro rest1923
 refine cLg rfl rfl (decide_eq_true c1) ?_
 refine cL rfl (o_ldS (v := .int _ _) tt3 rfl rfl ⟨_, rfl⟩ ?_)
 refine cLg rfl rfl (decide_eq_true c1) ?_
 refine cL rfl (o_eqI rfl rfl rfl ?_)
 refine cLg rfl rfl (decide_eq_true c1) ?_
 refine mB rfl rfl ?_
 by_cases c2 : lat (lat b.most v6) v8 = (1152921504606846976 : Int)
 iterate 10 refine cLs rfl rfl rfl (decide_eq_true c2) ?_
 refine cLg rfl rfl (decide_eq_true c1) ?_
 refine cL rfl (o_pickT (v := .bool _) rfl (decide_eq_true c2) rfl ?_)
 refine cL rfl (o_pickT (v := .bool _) rfl (decide_eq_true c1) rfl ?_)
 refine eL ?_
 exact le_mk ⟨rfl, rfl, rfl, rfl, (congrArg AV.bool (dAndT c1 (dOrT c2))).symm, trivial⟩ rfl
 have sd := sd.2 c2
 refine cLg rfl rfl (decide_eq_false c2) ?_
 refine cL rfl (o_fa tt34 rfl tt32 rfl ?_)
 refine cLg rfl rfl (decide_eq_false c2) ?_
 refine cL rfl (o_ldS (v := .lst _ _ _) tt32 rfl rfl ⟨_, rfl⟩ ?_)
 refine cLg rfl rfl (decide_eq_false c2) ?_
 refine mI rfl rfl ?_
 refine cLg rfl rfl (decide_eq_false c2) ?_
 obtain ⟨s1924, sd⟩ := sd
 refine cL rfl (o_iaL tt32 tt35 rfl rfl ((encSl eInt).wd true) rfl s1924 ?_)
 intro rest1924
 refine cLg rfl rfl (decide_eq_false c2) ?_
 refine cL rfl (o_ldS (v := .lst _ _ _) tt35 rfl rfl ⟨_, rfl⟩ ?_)
 refine cLg rfl rfl (decide_eq_false c2) ?_
 refine mI rfl rfl ?_
 refine cLg rfl rfl (decide_eq_false c2) ?_
 obtain ⟨s1925, sd⟩ := sd
 refine cL rfl (o_iaL tt35 tt3 rfl rfl (encInt.wd true) rfl s1925 ?_)
 intro rest1925
 refine cLg rfl rfl (decide_eq_false c2) ?_
 refine cL rfl (o_ldS (v := .int _ _) tt3 rfl rfl ⟨_, rfl⟩ ?_)
 refine cLg rfl rfl (decide_eq_false c2) ?_
 refine mI rfl rfl ?_
 refine cLg rfl rfl (decide_eq_false c2) ?_
 refine cL rfl (o_gtr rfl rfl ?_)
 refine cLg rfl rfl (decide_eq_true c1) ?_
 refine cL rfl (o_pickF (v := .bool _) rfl (decide_eq_false c2) rfl ?_)
 refine cL rfl (o_pickT (v := .bool _) rfl (decide_eq_true c1) rfl ?_)
 refine eL ?_
 exact le_mk ⟨rfl, rfl, rfl, rfl, (congrArg AV.bool (dAndT c1 (dOrF c2 (rfl)))).symm, trivial⟩ rfl
 iterate 10 refine cLs rfl rfl rfl (decide_eq_false c1) ?_
 iterate 10 refine cLu rfl rfl rfl ?_
 refine cLs rfl rfl rfl (decide_eq_false c1) ?_
 refine cL rfl (o_pickF (v := .bool _) rfl (decide_eq_false c1) rfl ?_)
 refine eL ?_
 exact le_mk ⟨rfl, rfl, rfl, rfl, (congrArg AV.bool (dAndF c1)).symm, trivial⟩ rfl
 refine W.cn rfl (fun hc => ?_) (fun hc => ?_)
 have hv := hv.1 hc
 refine W.rL ?_
 refine aB rfl rfl ?_
 refine eL ?_
 refine W.tr [(2, .bool _)] [.box _ [.int _ _, .lst _ _ _]] ⟨rfl, trivial⟩ rfl ?_
 refine W.ret ?_
 refine bl_ret (th_ret (th_ret (bl_ret (bl_ret (th_ret (th_ret (bl_ret (bl_ret (th_ret (th_ret (bl_ret (th_ret (rt ?_)))))))))))))
 refine rt_t (v := .bool _) rfl ?_
 refine rt_n ?_
 exact ⟨_, rs_bool _ _ _, false, rfl, hv⟩
 have hv := hv.2 hc
 refine W.skip ?_
 refine bl_nrm (th_nrm ?_)
 refine W.tr [(1, .ptr _ _), (6, .int _ _), (7, .int _ _), (8, .int _ _)] [.box _ [.int _ _, .lst _ _ _]] ⟨rfl, rfl, rfl, rfl, trivial⟩ rfl ?_
 refine W.rL1 ?_
 refine mI rfl rfl ?_
 obtain ⟨s1926, hv⟩ := hv
 refine cL rfl (o_add rfl rfl s1926 ?_)
 refine aI rfl rfl ?_
 refine eL ?_
 exact th_nrm (⟨(), (v8 + (1 : Int)), hv, St.to_mk (φ := [some 0]) rfl (.inl rfl) ⟨Ren.ptr rfl, Ren.int _ _, Ren.int _ _, Ren.int _ _, trivial⟩ ⟨.inr ⟨_, rfl, rfl, Rens.cons (Ren.int _ _) (Rens.cons (Ren.lst _ _ _) (Rens.nil))⟩, trivial⟩⟩)
 have hv := hv.2 hc
 refine W.exit ?_
 refine th_exit (th_exit (bl_hit (bl_nrm (th_nrm ?_))))
 refine W.tr [(1, .ptr _ _), (6, .int _ _), (7, .int _ _)] [.box _ [.int _ _, .lst _ _ _]] ⟨rfl, rfl, rfl, trivial⟩ rfl ?_
 refine W.rL1 ?_
 refine mI rfl rfl ?_
 obtain ⟨s1927, hv⟩ := hv
 refine cL rfl (o_add rfl rfl s1927 ?_)
 refine aI rfl rfl ?_
 refine eL ?_
 exact th_nrm (⟨(), (v7 + (1 : Int)), hv, St.to_mk (φ := [some 0]) rfl (.inl rfl) ⟨Ren.ptr rfl, Ren.int _ _, Ren.int _ _, trivial⟩ ⟨.inr ⟨_, rfl, rfl, Rens.cons (Ren.int _ _) (Rens.cons (Ren.lst _ _ _) (Rens.nil))⟩, trivial⟩⟩)
 have hv := hv.2 hc
 refine W.exit ?_
 refine th_exit (th_exit (bl_hit (bl_nrm (th_nrm ?_))))
 refine W.tr [(1, .ptr _ _), (6, .int _ _)] [.box _ [.int _ _, .lst _ _ _]] ⟨rfl, rfl, trivial⟩ rfl ?_
 refine W.rL1 ?_
 refine mI rfl rfl ?_
 obtain ⟨s1928, hv⟩ := hv
 refine cL rfl (o_add rfl rfl s1928 ?_)
 refine aI rfl rfl ?_
 refine eL ?_
 exact th_nrm (⟨(), (v6 + (1 : Int)), hv, St.to_mk (φ := [some 0]) rfl (.inl rfl) ⟨Ren.ptr rfl, Ren.int _ _, trivial⟩ ⟨.inr ⟨_, rfl, rfl, Rens.cons (Ren.int _ _) (Rens.cons (Ren.lst _ _ _) (Rens.nil))⟩, trivial⟩⟩)
 have hv := hv.2 hc
 refine W.exit ?_
 refine th_exit (th_exit (bl_hit (th_nrm ?_)))
 refine W.tr [] [.box _ [.int _ _, .lst _ _ _]] trivial rfl ?_
 refine W.rL ?_
 refine aB rfl rfl ?_
 refine eL ?_
 refine W.tr [(2, .bool _)] [.box _ [.int _ _, .lst _ _ _]] ⟨rfl, trivial⟩ rfl ?_
 refine W.ret ?_
 refine rt ?_
 refine rt_t (v := .bool _) rfl ?_
 refine rt_n ?_
 exact ⟨_, rs_bool _ _ _, true, rfl, hv⟩
theorem vcp_rvald (b : Bd) (h0 : b.most.length ≤ 1073741824) (h1 : ∀ r ∈ b.most, r.length ≤ 1073741824) : vc_rvald b (fun q0 => q0 = (validBM b)) := by
  unfold vc_rvald
  have hnb := hNB
  have hfalse : ¬ VB b → false = validBM b := fun h => (Bool.eq_false_iff.mpr fun e => h (validBM_iff.mp e)).symm
  refine ⟨fun h => hfalse fun v => ?_, fun h => ⟨fun v => ∃ i : Nat, v = i ∧ i ≤ b.most.length ∧ ∀ k, k < i → (b.most.getD k []).length = b.most.length ∧ bm b k k = 0 ∧ ∀ j, j < b.most.length → bm b k j = NB ∨ -36028797018963968 ≤ bm b k j ∧ bm b k j ≤ 36028797018963968, fun v => b.most.length - v.toNat, ⟨0, rfl, by omega, by omega⟩, ?_⟩⟩
  · have := v.n; omega
  rintro _ ⟨i, rfl, hi, hr⟩
  have hrow : (lat b.most (i : Int)).length = (b.most.getD i []).length := by rw [lat_nat]; rfl
  refine ⟨fun h1 => ⟨⟨by omega, fun _ => trivial, fun h2 => ⟨by omega, by omega, trivial⟩⟩, fun h2 => ?_, fun h2 => ?_⟩, fun h1 => ?_⟩
  · rw [hrow, lat_lat] at h2
    refine hfalse fun v => ?_
    have h3 := v.row i (by omega)
    have h4 := v.diag i (by omega)
    have h5 := v.n
    omega
  · rw [hrow, lat_lat] at h2
    refine ⟨fun v => ∃ j : Nat, v = j ∧ j ≤ b.most.length ∧ ∀ k, k < j → bm b i k = NB ∨ -36028797018963968 ≤ bm b i k ∧ bm b i k ≤ 36028797018963968, fun v => b.most.length - v.toNat, ⟨0, rfl, by omega, by omega⟩, ?_⟩
    rintro _ ⟨j, rfl, hj, hk⟩
    rw [hrow, lat_lat]
    refine ⟨fun h3 => ⟨by omega, by omega, fun h4 => ?_, fun h4 => ⟨by unfold inI; omega, ⟨j + 1, by omega, by omega, ?_⟩, by dsimp only; omega⟩⟩, fun h3 => ⟨by unfold inI; omega, ⟨i + 1, by omega, by omega, ?_⟩, by dsimp only; omega⟩⟩
    · refine hfalse fun v => ?_
      have := v.ok i j (by omega) (by omega)
      omega
    · intro k h5
      rcases Nat.lt_or_ge k j with h6 | h6
      · exact hk k h6
      · have : k = j := by omega
        subst this; omega
    · intro k h5
      rcases Nat.lt_or_ge k i with h6 | h6
      · exact hr k h6
      · have : k = i := by omega
        subst this
        exact ⟨by omega, by omega, fun j' hj' => hk j' (by omega)⟩
  have hi' : i = b.most.length := by omega
  subst hi'
  have hL : ∀ k : Nat, k < b.most.length → (lat b.most (k : Int)).length = b.most.length := fun k hk => by rw [lat_nat]; exact (hr k hk).1
  refine ⟨fun v => ∃ i : Nat, v = i ∧ i ≤ b.most.length ∧ ∀ i', i' < i → ∀ j k, j < b.most.length → k < b.most.length → bm b i' j = NB ∨ bm b i' k ≤ plusM (bm b i' j) (bm b j k), fun v => b.most.length - v.toNat, ⟨0, rfl, by omega, by omega⟩, ?_⟩
  rintro _ ⟨i, rfl, hi, ht⟩
  refine ⟨fun h1 => ⟨fun v => ∃ j : Nat, v = j ∧ j ≤ b.most.length ∧ ∀ j', j' < j → ∀ k, k < b.most.length → bm b i j' = NB ∨ bm b i k ≤ plusM (bm b i j') (bm b j' k), fun v => b.most.length - v.toNat, ⟨0, rfl, by omega, by omega⟩, ?_⟩, fun h1 => ?_⟩
  · rintro _ ⟨j, rfl, hj, hu⟩
    refine ⟨fun h2 => ⟨fun v => ∃ k : Nat, v = k ∧ k ≤ b.most.length ∧ ∀ k', k' < k → bm b i j = NB ∨ bm b i k' ≤ plusM (bm b i j) (bm b j k'), fun v => b.most.length - v.toNat, ⟨0, rfl, by omega, by omega⟩, ?_⟩, fun h2 => ⟨by unfold inI; omega, ⟨i + 1, by omega, by omega, ?_⟩, by dsimp only; omega⟩⟩
    · rintro _ ⟨k, rfl, hk, hv⟩
      refine ⟨fun h4 => ?_, fun h4 => ⟨by unfold inI; omega, ⟨j + 1, by omega, by omega, ?_⟩, by dsimp only; omega⟩⟩
      · rw [hL i (by omega), hL j (by omega), lat_lat, lat_lat, lat_lat]
        have a1 := (hr i (by omega)).2.2 j (by omega)
        have a2 := (hr j (by omega)).2.2 k (by omega)
        have a3 := (hr i (by omega)).2.2 k (by omega)
        have hx : plusM (bm b i j) (bm b j k) = NB ∨ (¬ bm b i j = NB ∧ ¬ bm b j k = NB ∧ plusM (bm b i j) (bm b j k) = bm b i j + bm b j k) := by
          by_cases e1 : bm b i j = NB
          · exact .inl (plusM_inf (.inl e1))
          · by_cases e2 : bm b j k = NB
            · exact .inl (plusM_inf (.inr e2))
            · exact .inr ⟨e1, e2, plusM_nb e1 e2⟩
        refine ⟨by omega, by omega, by omega, by omega, fun _ _ => by unfold inI; omega, ⟨fun _ => ⟨by omega, by omega, fun _ => trivial, fun _ => ⟨by omega, by omega, trivial⟩⟩, fun _ => trivial⟩, fun h5 => ?_, fun h5 => ⟨by unfold inI; omega, ⟨k + 1, by omega, by omega, fun k' h6 => ?_⟩, by dsimp only; omega⟩⟩
        · refine hfalse fun v => ?_
          have := v.tri i j k (by omega) (by omega) (by omega)
          omega
        · rcases Nat.lt_or_ge k' k with h7 | h7
          · exact hv k' h7
          · have : k' = k := by omega
            subst this; omega
      · intro j' h5
        rcases Nat.lt_or_ge j' j with h6 | h6
        · exact hu j' h6
        · have : j' = j := by omega
          subst this
          exact fun k' hk' => hv k' (by omega)
    · intro i' h5
      rcases Nat.lt_or_ge i' i with h6 | h6
      · exact ht i' h6
      · have : i' = i := by omega
        subst this
        exact fun j' k' hj' hk' => hu j' (by omega) k' hk'
  · refine (validBM_iff.mpr ⟨by omega, fun k hk => (hr k hk).1, fun k hk => (hr k hk).2.1, fun k j hk hj => (hr k hk).2.2 j hj, fun i' j k hi' hj hk => ht i' (by omega) j k hj hk⟩).symm
theorem spec_rvald (b : Bd) (h0 : b.most.length ≤ 1073741824) (h1 : ∀ r ∈ b.most, r.length ≤ 1073741824) : FnP Try.prog 26 [.agg ((e34 true) b)] (fun xR => xR = .bool (validBM b)) :=
  (walk_rvald (vcp_rvald b h0 h1)).mono (by rintro _ ⟨_, rfl, rfl⟩; rfl)
def vc_rsame (a : Bd) (b : Bd) (Post : Bool → Prop) : Prop :=
  (((¬ a.n = b.n) ∨ (¬ ((a.most.length : Nat) : Int) = ((b.most.length : Nat) : Int))) → Post false) ∧ (¬ ((¬ a.n = b.n) ∨ (¬ ((a.most.length : Nat) : Int) = ((b.most.length : Nat) : Int))) → ∃ (I1 : Int → Prop) (μ1 : Int → Nat), I1 (0 : Int) ∧ ∀ (v5 : Int), I1 v5 → ((v5 < ((a.most.length : Nat) : Int)) → (0 ≤ v5 ∧ v5 < (a.most.length : Int)) ∧ (0 ≤ v5 ∧ v5 < (b.most.length : Int)) ∧ ((¬ (((lat a.most v5).length : Nat) : Int) = (((lat b.most v5).length : Nat) : Int)) → Post false) ∧ (¬ (¬ (((lat a.most v5).length : Nat) : Int) = (((lat b.most v5).length : Nat) : Int)) → ∃ (I2 : Int → Prop) (μ2 : Int → Nat), I2 (0 : Int) ∧ ∀ (v6 : Int), I2 v6 → (0 ≤ v5 ∧ v5 < (a.most.length : Int)) ∧ ((v6 < (((lat a.most v5).length : Nat) : Int)) → (0 ≤ v5 ∧ v5 < (a.most.length : Int)) ∧ (0 ≤ v6 ∧ v6 < ((lat a.most v5).length : Int)) ∧ (0 ≤ v5 ∧ v5 < (b.most.length : Int)) ∧ (0 ≤ v6 ∧ v6 < ((lat b.most v5).length : Int)) ∧ ((¬ lat (lat a.most v5) v6 = lat (lat b.most v5) v6) → Post false) ∧ (¬ (¬ lat (lat a.most v5) v6 = lat (lat b.most v5) v6) → (inI (v6 + (1 : Int))) ∧ (I2 (v6 + (1 : Int)) ∧ μ2 (v6 + (1 : Int)) < μ2 v6))) ∧ (¬ (v6 < (((lat a.most v5).length : Nat) : Int)) → (inI (v5 + (1 : Int))) ∧ (I1 (v5 + (1 : Int)) ∧ μ1 (v5 + (1 : Int)) < μ1 v5)))) ∧ (¬ (v5 < ((a.most.length : Nat) : Int)) → Post true))
set_option maxRecDepth 100000 in
set_option maxHeartbeats 4000000 in
theorem walk_rsame {a : Bd} {b : Bd} {Post : Bool → Prop} (hv : vc_rsame a b Post) : FnP Try.prog 17 [.agg ((e34 true) a), .agg ((e34 true) b)] (fun x => ∃ q0, x = .bool q0 ∧ Post q0) := by
 refine FnP.of_walk (T := tt) (nt := 68) ttOk ttMix ⟨⟨Try.f17, Try.func17, rfl, rfl, rfl, rfl⟩⟩ (by simp) ?_
 unfold vc_rsame at hv
 change W _ _ _ ⟨68, look [(0, .agg [.int .i64 a.n, .lst true a.most.length (encL (eSl eInt true) a.most)]), (1, .agg [.int .i64 b.n, .lst true b.most.length (encL (eSl eInt true) b.most)])], [], false⟩ _
 refine W.tr [(0, .agg _), (1, .agg _)] [] ⟨rfl, rfl, trivial⟩ rfl ?_
 refine W.rL ?_
 refine cL rfl (o_box (v := .agg _) (p := 0) rfl rfl rfl ?_)
 refine cL rfl (o_box (v := .agg _) (p := 1) rfl rfl rfl ?_)
 refine aB rfl rfl ?_
 refine eL ?_
 refine W.tr [(2, .ptr _ _), (3, .ptr _ _)] [.box _ [.int _ _, .lst _ _ _], .box _ [.int _ _, .lst _ _ _]] ⟨rfl, rfl, trivial⟩ rfl ?_
 refine W.seq' ?_
 refine W.rLm ⟨68, look [(2, .ptr 0 0), (3, .ptr 1 0), (20, .bool (decide ((¬ a.n = b.n) ∨ (¬ ((a.most.length : Nat) : Int) = ((b.most.length : Nat) : Int)))))], [.box 34 [.int .i64 a.n, .lst true a.most.length (encL (eSl eInt true) a.most)], .box 34 [.int .i64 b.n, .lst true b.most.length (encL (eSl eInt true) b.most)]], false⟩ ?_ ?_
 refine cL rfl (o_fa tt34 rfl tt3 rfl ?_)
 refine cL rfl (o_ldS (v := .int _ _) tt3 rfl rfl ⟨_, rfl⟩ ?_)
 refine cL rfl (o_fa tt34 rfl tt3 rfl ?_)
 refine cL rfl (o_ldS (v := .int _ _) tt3 rfl rfl ⟨_, rfl⟩ ?_)
 refine cL rfl (o_neI rfl rfl rfl ?_)
 refine mB rfl rfl ?_
 by_cases c1 : ¬ a.n = b.n
 iterate 7 refine cLs rfl rfl rfl (decide_eq_true c1) ?_
 refine cL rfl (o_pickT (v := .bool _) rfl (decide_eq_true c1) rfl ?_)
 refine eL ?_
 exact le_mk ⟨rfl, rfl, (congrArg AV.bool (dOrT c1)).symm, trivial⟩ rfl
 refine cLg rfl rfl (decide_eq_false c1) ?_
 refine cL rfl (o_fa tt34 rfl tt32 rfl ?_)
 refine cLg rfl rfl (decide_eq_false c1) ?_
 refine cL rfl (o_ldS (v := .lst _ _ _) tt32 rfl rfl ⟨_, rfl⟩ ?_)
 refine cLg rfl rfl (decide_eq_false c1) ?_
 refine cL rfl (o_len (v := .lst _ _ _) tt32 rfl rfl ?_)
 refine cLg rfl rfl (decide_eq_false c1) ?_
 refine cL rfl (o_fa tt34 rfl tt32 rfl ?_)
 refine cLg rfl rfl (decide_eq_false c1) ?_
 refine cL rfl (o_ldS (v := .lst _ _ _) tt32 rfl rfl ⟨_, rfl⟩ ?_)
 refine cLg rfl rfl (decide_eq_false c1) ?_
 refine cL rfl (o_len (v := .lst _ _ _) tt32 rfl rfl ?_)
 refine cLg rfl rfl (decide_eq_false c1) ?_
 refine cL rfl (o_neI rfl rfl rfl ?_)
 refine cL rfl (o_pickF (v := .bool _) rfl (decide_eq_false c1) rfl ?_)
 refine eL ?_
 exact le_mk ⟨rfl, rfl, (congrArg AV.bool (dOrF c1 (rfl))).symm, trivial⟩ rfl
 refine W.cn rfl (fun hc => ?_) (fun hc => ?_)
 have hv := hv.1 hc
 refine W.rL ?_
 refine aB rfl rfl ?_
 refine eL ?_
 refine W.tr [(4, .bool _)] [.box _ [.int _ _, .lst _ _ _], .box _ [.int _ _, .lst _ _ _]] ⟨rfl, trivial⟩ rfl ?_
 refine W.ret ?_
 refine th_ret (rt ?_)
 refine rt_t (v := .bool _) rfl ?_
 refine rt_n ?_
 exact ⟨_, rs_bool _ _ _, false, rfl, hv⟩
 have hv := hv.2 hc
 refine W.skip ?_
 refine th_nrm ?_
 refine W.tr [(2, .ptr _ _), (3, .ptr _ _)] [.box _ [.int _ _, .lst _ _ _], .box _ [.int _ _, .lst _ _ _]] ⟨rfl, rfl, trivial⟩ rfl ?_
 refine W.seq' ?_
 refine W.rL ?_
 refine aI rfl rfl ?_
 refine eL ?_
 refine W.tr [(2, .ptr _ _), (3, .ptr _ _), (5, .int _ _)] [.box _ [.int _ _, .lst _ _ _], .box _ [.int _ _, .lst _ _ _]] ⟨rfl, rfl, rfl, trivial⟩ rfl ?_
 refine W.block ?_
 obtain ⟨I1, μ1, hp, hv⟩ := hv
 refine W.loop1 (fun v5 => ⟨68, look [(2, .ptr 0 0), (3, .ptr 1 0), (5, .int .i64 v5)], [.box 34 [.int .i64 a.n, .lst true a.most.length (encL (eSl eInt true) a.most)], .box 34 [.int .i64 b.n, .lst true b.most.length (encL (eSl eInt true) b.most)]], false⟩) I1 μ1 (0 : Int) (St.to_mk (φ := [some 0, some 1]) rfl (.inl rfl) ⟨Ren.ptr rfl, Ren.ptr rfl, Ren.int _ _, trivial⟩ ⟨.inr ⟨_, rfl, rfl, Rens.cons (Ren.int _ _) (Rens.cons (Ren.lst _ _ _) (Rens.nil))⟩, .inr ⟨_, rfl, rfl, Rens.cons (Ren.int _ _) (Rens.cons (Ren.lst _ _ _) (Rens.nil))⟩, trivial⟩) hp ?_
 clear hp
 intro v5 hI
 replace hv := hv v5 hI
 clear hI
 refine W.seq' ?_
 refine W.rL ?_
 refine mI rfl rfl ?_
 refine cL rfl (o_fa tt34 rfl tt32 rfl ?_)
 refine cL rfl (o_ldS (v := .lst _ _ _) tt32 rfl rfl ⟨_, rfl⟩ ?_)
 refine cL rfl (o_len (v := .lst _ _ _) tt32 rfl rfl ?_)
 refine cL rfl (o_lss rfl rfl ?_)
 refine eL ?_
 refine W.tr [(2, .ptr _ _), (3, .ptr _ _), (5, .int _ _), (25, .bool _)] [.box _ [.int _ _, .lst _ _ _], .box _ [.int _ _, .lst _ _ _]] ⟨rfl, rfl, rfl, rfl, trivial⟩ rfl ?_
 refine W.cn rfl (fun hc => ?_) (fun hc => ?_)
 have hv := hv.1 hc
 refine W.skip ?_
 refine th_nrm ?_
 refine W.tr [(2, .ptr _ _), (3, .ptr _ _), (5, .int _ _)] [.box _ [.int _ _, .lst _ _ _], .box _ [.int _ _, .lst _ _ _]] ⟨rfl, rfl, rfl, trivial⟩ rfl ?_
 refine W.seq' ?_
 refine W.block ?_
 refine W.seq' ?_
 refine W.rD [0, 1, 2, 3, 4, 5, 6, 7, 8, 9, 10, 11, 12] (by decide +kernel) rfl ?_
 refine cL rfl (o_fa tt34 rfl tt32 rfl ?_)
 refine cL rfl (o_ldS (v := .lst _ _ _) tt32 rfl rfl ⟨_, rfl⟩ ?_)
 refine mI rfl rfl ?_
 obtain ⟨s188, hv⟩ := hv
 refine cL rfl (o_iaL tt32 tt35 rfl rfl ((encSl eInt).wd true) rfl s188 ?_)
 intro rest188
 refine cL rfl (o_ldS (v := .lst _ _ _) tt35 rfl rfl ⟨_, rfl⟩ ?_)
 refine cL rfl (o_len (v := .lst _ _ _) tt35 rfl rfl ?_)
 refine cL rfl (o_fa tt34 rfl tt32 rfl ?_)
 refine cL rfl (o_ldS (v := .lst _ _ _) tt32 rfl rfl ⟨_, rfl⟩ ?_)
 refine mI rfl rfl ?_
 obtain ⟨s189, hv⟩ := hv
 refine cL rfl (o_iaL tt32 tt35 rfl rfl ((encSl eInt).wd true) rfl s189 ?_)
 intro rest189
 refine cL rfl (o_ldS (v := .lst _ _ _) tt35 rfl rfl ⟨_, rfl⟩ ?_)
 refine cL rfl (o_len (v := .lst _ _ _) tt35 rfl rfl ?_)
 refine cL rfl (o_neI rfl rfl rfl ?_)
 refine eL ?_
 refine W.tr [(2, .ptr _ _), (3, .ptr _ _), (5, .int _ _), (40, .bool _)] [.box _ [.int _ _, .lst _ _ _], .box _ [.int _ _, .lst _ _ _]] ⟨rfl, rfl, rfl, rfl, trivial⟩ rfl ?_
 refine W.cn rfl (fun hc => ?_) (fun hc => ?_)
 have hv := hv.1 hc
 refine W.rL ?_
 refine aB rfl rfl ?_
 refine eL ?_
 refine W.tr [(4, .bool _)] [.box _ [.int _ _, .lst _ _ _], .box _ [.int _ _, .lst _ _ _]] ⟨rfl, trivial⟩ rfl ?_
 refine W.ret ?_
 refine th_ret (bl_ret (th_ret (th_ret (bl_ret (th_ret (rt ?_))))))
 refine rt_t (v := .bool _) rfl ?_
 refine rt_n ?_
 exact ⟨_, rs_bool _ _ _, false, rfl, hv⟩
 have hv := hv.2 hc
 refine W.skip ?_
 refine th_nrm ?_
 refine W.tr [(2, .ptr _ _), (3, .ptr _ _), (5, .int _ _)] [.box _ [.int _ _, .lst _ _ _], .box _ [.int _ _, .lst _ _ _]] ⟨rfl, rfl, rfl, trivial⟩ rfl ?_
 refine W.rL ?_
 refine aI rfl rfl ?_
 refine eL ?_
 refine W.tr [(2, .ptr _ _), (3, .ptr _ _), (5, .int _ _), (6, .int _ _)] [.box _ [.int _ _, .lst _ _ _], .box _ [.int _ _, .lst _ _ _]] ⟨rfl, rfl, rfl, rfl, trivial⟩ rfl ?_
 refine W.block ?_
 obtain ⟨I2, μ2, hp, hv⟩ := hv
 refine W.loop1 (fun v6 => ⟨68, look [(2, .ptr 0 0), (3, .ptr 1 0), (5, .int .i64 v5), (6, .int .i64 v6)], [.box 34 [.int .i64 a.n, .lst true a.most.length (encL (eSl eInt true) a.most)], .box 34 [.int .i64 b.n, .lst true b.most.length (encL (eSl eInt true) b.most)]], false⟩) I2 μ2 (0 : Int) (St.to_mk (φ := [some 0, some 1]) rfl (.inl rfl) ⟨Ren.ptr rfl, Ren.ptr rfl, Ren.int _ _, Ren.int _ _, trivial⟩ ⟨.inr ⟨_, rfl, rfl, Rens.cons (Ren.int _ _) (Rens.cons (Ren.lst _ _ _) (Rens.nil))⟩, .inr ⟨_, rfl, rfl, Rens.cons (Ren.int _ _) (Rens.cons (Ren.lst _ _ _) (Rens.nil))⟩, trivial⟩) hp ?_
 clear hp
 intro v6 hI
 replace hv := hv v6 hI
 clear hI
 refine W.seq' ?_
 refine W.rL ?_
 refine mI rfl rfl ?_
 refine cL rfl (o_fa tt34 rfl tt32 rfl ?_)
 refine cL rfl (o_ldS (v := .lst _ _ _) tt32 rfl rfl ⟨_, rfl⟩ ?_)
 refine mI rfl rfl ?_
 obtain ⟨s202, hv⟩ := hv
 refine cL rfl (o_iaL tt32 tt35 rfl rfl ((encSl eInt).wd true) rfl s202 ?_)
 intro rest202
 refine cL rfl (o_ldS (v := .lst _ _ _) tt35 rfl rfl ⟨_, rfl⟩ ?_)
 refine cL rfl (o_len (v := .lst _ _ _) tt35 rfl rfl ?_)
 refine cL rfl (o_lss rfl rfl ?_)
 refine eL ?_
 refine W.tr [(2, .ptr _ _), (3, .ptr _ _), (5, .int _ _), (6, .int _ _), (48, .bool _)] [.box _ [.int _ _, .lst _ _ _], .box _ [.int _ _, .lst _ _ _]] ⟨rfl, rfl, rfl, rfl, rfl, trivial⟩ rfl ?_
 refine W.cn rfl (fun hc => ?_) (fun hc => ?_)
 have hv := hv.1 hc
 refine W.skip ?_
 refine th_nrm ?_
 refine W.tr [(2, .ptr _ _), (3, .ptr _ _), (5, .int _ _), (6, .int _ _)] [.box _ [.int _ _, .lst _ _ _], .box _ [.int _ _, .lst _ _ _]] ⟨rfl, rfl, rfl, rfl, trivial⟩ rfl ?_
 refine W.seq' ?_
 refine W.block ?_
 refine W.rD [0, 1, 2, 3, 4, 5, 6, 7, 8, 9, 10, 11, 12, 13, 14, 15, 16] (by decide +kernel) rfl ?_
 refine cL rfl (o_fa tt34 rfl tt32 rfl ?_)
 refine cL rfl (o_ldS (v := .lst _ _ _) tt32 rfl rfl ⟨_, rfl⟩ ?_)
 refine mI rfl rfl ?_
 obtain ⟨s207, hv⟩ := hv
 refine cL rfl (o_iaL tt32 tt35 rfl rfl ((encSl eInt).wd true) rfl s207 ?_)
 intro rest207
 refine cL rfl (o_ldS (v := .lst _ _ _) tt35 rfl rfl ⟨_, rfl⟩ ?_)
 refine mI rfl rfl ?_
 obtain ⟨s208, hv⟩ := hv
 refine cL rfl (o_iaL tt35 tt3 rfl rfl (encInt.wd true) rfl s208 ?_)
 intro rest208
 refine cL rfl (o_ldS (v := .int _ _) tt3 rfl rfl ⟨_, rfl⟩ ?_)
 refine cL rfl (o_fa tt34 rfl tt32 rfl ?_)
 refine cL rfl (o_ldS (v := .lst _ _ _) tt32 rfl rfl ⟨_, rfl⟩ ?_)
 refine mI rfl rfl ?_
 obtain ⟨s209, hv⟩ := hv
 refine cL rfl (o_iaL tt32 tt35 rfl rfl ((encSl eInt).wd true) rfl s209 ?_)
 intro rest209
 refine cL rfl (o_ldS (v := .lst _ _ _) tt35 rfl rfl ⟨_, rfl⟩ ?_)
 refine mI rfl rfl ?_
 obtain ⟨s210, hv⟩ := hv
 refine cL rfl (o_iaL tt35 tt3 rfl rfl (encInt.wd true) rfl s210 ?_)
 intro rest210
 refine cL rfl (o_ldS (v := .int _ _) tt3 rfl rfl ⟨_, rfl⟩ ?_)
 refine cL rfl (o_neI rfl rfl rfl ?_)
 refine eL ?_
 refine W.tr [(2, .ptr _ _), (3, .ptr _ _), (5, .int _ _), (6, .int _ _), (67, .bool _)] [.box _ [.int _ _, .lst _ _ _], .box _ [.int _ _, .lst _ _ _]] ⟨rfl, rfl, rfl, rfl, rfl, trivial⟩ rfl ?_
 refine W.cn rfl (fun hc => ?_) (fun hc => ?_)
 have hv := hv.1 hc
 refine W.rL ?_
 refine aB rfl rfl ?_
 refine eL ?_
 refine W.tr [(4, .bool _)] [.box _ [.int _ _, .lst _ _ _], .box _ [.int _ _, .lst _ _ _]] ⟨rfl, trivial⟩ rfl ?_
 refine W.ret ?_
 refine bl_ret (th_ret (th_ret (bl_ret (bl_ret (th_ret (th_ret (bl_ret (th_ret (rt ?_)))))))))
 refine rt_t (v := .bool _) rfl ?_
 refine rt_n ?_
 exact ⟨_, rs_bool _ _ _, false, rfl, hv⟩
 have hv := hv.2 hc
 refine W.skip ?_
 refine bl_nrm (th_nrm ?_)
 refine W.tr [(2, .ptr _ _), (3, .ptr _ _), (5, .int _ _), (6, .int _ _)] [.box _ [.int _ _, .lst _ _ _], .box _ [.int _ _, .lst _ _ _]] ⟨rfl, rfl, rfl, rfl, trivial⟩ rfl ?_
 refine W.rL1 ?_
 refine mI rfl rfl ?_
 obtain ⟨s211, hv⟩ := hv
 refine cL rfl (o_add rfl rfl s211 ?_)
 refine aI rfl rfl ?_
 refine eL ?_
 exact th_nrm (⟨(), (v6 + (1 : Int)), hv, St.to_mk (φ := [some 0, some 1]) rfl (.inl rfl) ⟨Ren.ptr rfl, Ren.ptr rfl, Ren.int _ _, Ren.int _ _, trivial⟩ ⟨.inr ⟨_, rfl, rfl, Rens.cons (Ren.int _ _) (Rens.cons (Ren.lst _ _ _) (Rens.nil))⟩, .inr ⟨_, rfl, rfl, Rens.cons (Ren.int _ _) (Rens.cons (Ren.lst _ _ _) (Rens.nil))⟩, trivial⟩⟩)
 have hv := hv.2 hc
 refine W.exit ?_
 refine th_exit (th_exit (bl_hit (bl_nrm (th_nrm ?_))))
 refine W.tr [(2, .ptr _ _), (3, .ptr _ _), (5, .int _ _)] [.box _ [.int _ _, .lst _ _ _], .box _ [.int _ _, .lst _ _ _]] ⟨rfl, rfl, rfl, trivial⟩ rfl ?_
 refine W.rL1 ?_
 refine mI rfl rfl ?_
 obtain ⟨s212, hv⟩ := hv
 refine cL rfl (o_add rfl rfl s212 ?_)
 refine aI rfl rfl ?_
 refine eL ?_
 exact th_nrm (⟨(), (v5 + (1 : Int)), hv, St.to_mk (φ := [some 0, some 1]) rfl (.inl rfl) ⟨Ren.ptr rfl, Ren.ptr rfl, Ren.int _ _, trivial⟩ ⟨.inr ⟨_, rfl, rfl, Rens.cons (Ren.int _ _) (Rens.cons (Ren.lst _ _ _) (Rens.nil))⟩, .inr ⟨_, rfl, rfl, Rens.cons (Ren.int _ _) (Rens.cons (Ren.lst _ _ _) (Rens.nil))⟩, trivial⟩⟩)
 have hv := hv.2 hc
 refine W.exit ?_
 refine th_exit (th_exit (bl_hit (th_nrm ?_)))
 refine W.tr [] [.box _ [.int _ _, .lst _ _ _], .box _ [.int _ _, .lst _ _ _]] trivial rfl ?_
 refine W.rL ?_
 refine aB rfl rfl ?_
 refine eL ?_
 refine W.tr [(4, .bool _)] [.box _ [.int _ _, .lst _ _ _], .box _ [.int _ _, .lst _ _ _]] ⟨rfl, trivial⟩ rfl ?_
 refine W.ret ?_
 refine rt ?_
 refine rt_t (v := .bool _) rfl ?_
 refine rt_n ?_
 exact ⟨_, rs_bool _ _ _, true, rfl, hv⟩
theorem vcp_rsame (a : Bd) (b : Bd) (h0 : a.most.length ≤ 1073741824) (h1 : ∀ r ∈ a.most, r.length ≤ 1073741824) : vc_rsame a b (fun q0 => q0 = (sameM a b)) := by
  unfold vc_rsame
  have hf : ¬ (a.n = b.n ∧ a.most = b.most) → false = sameM a b := fun h => by
    unfold sameM
    by_cases e1 : a.n = b.n <;> by_cases e2 : a.most = b.most <;> simp [e1, e2]
    exact h ⟨e1, e2⟩
  refine ⟨fun h => hf fun e => ?_, fun h => ⟨fun v => ∃ i : Nat, v = i ∧ i ≤ a.most.length ∧ ∀ k : Nat, k < i → lat a.most k = lat b.most k, fun v => a.most.length - v.toNat, ⟨0, rfl, by omega, fun k hk => by omega⟩, ?_⟩⟩
  · rcases h with h | h
    · exact h e.1
    · exact h (by rw [e.2])
  rintro _ ⟨i, rfl, hi, hr⟩
  refine ⟨fun k1 => ⟨by omega, by omega, fun h2 => hf fun e => ?_, fun h2 => ⟨fun v => ∃ j : Nat, v = j ∧ j ≤ (lat a.most (i : Int)).length ∧ ∀ k : Nat, k < j → lat (lat a.most (i : Int)) k = lat (lat b.most (i : Int)) k, fun v => (lat a.most (i : Int)).length - v.toNat, ⟨0, rfl, by omega, fun k hk => by omega⟩, ?_⟩⟩, fun k1 => ?_⟩
  · exact h2 (by rw [e.2])
  · rintro _ ⟨j, rfl, hj, hs⟩
    have hl := Classical.not_not.mp h2
    have hll : (lat a.most (i : Int)).length < 9223372036854775807 := Nat.lt_of_le_of_lt (h1 (lat a.most (i : Int)) (lat_mem ⟨by omega, by omega⟩)) (by omega)
    refine ⟨by omega, fun h3 => ⟨by omega, by omega, by omega, by omega, fun h4 => hf fun e => ?_, fun h4 => ⟨by unfold inI; omega, ⟨j + 1, by omega, by omega, fun k hk => ?_⟩, by dsimp only; omega⟩⟩, fun h3 => ⟨by unfold inI; omega, ⟨i + 1, by omega, by omega, fun k hk => ?_⟩, by dsimp only; omega⟩⟩
    · exact h4 (by rw [e.2])
    · rcases Nat.lt_or_ge k j with h6 | h6
      · exact hs k h6
      · have : k = j := by omega
        subst this; exact Classical.not_not.mp h4
    · rcases Nat.lt_or_ge k i with h6 | h6
      · exact hr k h6
      · have : k = i := by omega
        subst this
        apply List.ext_getElem
        · omega
        · intro q q1 q2
          have := hs q (by omega)
          rwa [lat_get q1, lat_get q2] at this
  · have e1 : a.n = b.n := Classical.not_not.mp fun e => h (.inl e)
    have e2 : a.most = b.most := by
      apply List.ext_getElem
      · omega
      · intro q q1 q2
        have := hr q (by omega)
        rwa [lat_get q1, lat_get q2] at this
    unfold sameM; simp [e1, e2]
theorem spec_rsame (a : Bd) (b : Bd) (h0 : a.most.length ≤ 1073741824) (h1 : ∀ r ∈ a.most, r.length ≤ 1073741824) : FnP Try.prog 17 [.agg ((e34 true) a), .agg ((e34 true) b)] (fun xR => xR = .bool (sameM a b)) :=
  (walk_rsame (vcp_rsame a b h0 h1)).mono (by rintro _ ⟨_, rfl, rfl⟩; rfl)
def vc_rposs (n : Int) (c : Con) (Post : Bool → Prop) : Prop :=
  Post (decide (((0 : Int) ≤ c.f) ∧ ((c.f < n) ∧ (((0 : Int) ≤ c.t) ∧ ((c.t < n) ∧ ((¬ c.f = c.t) ∧ (((-1125899906842624 : Int) ≤ c.m) ∧ ((c.m ≤ (1125899906842624 : Int)) ∧ (((0 : Int) ≤ c.a) ∧ (c.a < (64 : Int)))))))))))
set_option maxRecDepth 100000 in
set_option maxHeartbeats 4000000 in
theorem walk_rposs {n : Int} {c : Con} {Post : Bool → Prop} (hv : vc_rposs n c Post) : FnP Try.prog 45 [.int .i64 n, .agg (e25 c)] (fun x => ∃ q0, x = .bool q0 ∧ Post q0) := by
 refine FnP.of_walk (T := tt) (nt := 52) ttOk ttMix ⟨⟨Try.f45, Try.func45, rfl, rfl, rfl, rfl⟩⟩ (by simp) ?_
 unfold vc_rposs at hv
 change W _ _ _ ⟨52, look [(0, .int .i64 n), (1, .agg [.int .i64 c.f, .int .i64 c.t, .int .i64 c.m, .int .i64 c.a])], [], false⟩ _
 refine W.tr [(0, .int _ _), (1, .agg _)] [] ⟨rfl, rfl, trivial⟩ rfl ?_
 refine W.rL ?_
 refine cL rfl (o_box (v := .agg _) (p := 0) rfl rfl rfl ?_)
 refine aB rfl rfl ?_
 refine eL ?_
 refine W.tr [(0, .int _ _), (3, .ptr _ _)] [.box _ [.int _ _, .int _ _, .int _ _, .int _ _]] ⟨rfl, rfl, trivial⟩ rfl ?_
 refine W.rLm ⟨52, look [(4, .bool (decide (((0 : Int) ≤ c.f) ∧ ((c.f < n) ∧ (((0 : Int) ≤ c.t) ∧ ((c.t < n) ∧ ((¬ c.f = c.t) ∧ (((-1125899906842624 : Int) ≤ c.m) ∧ ((c.m ≤ (1125899906842624 : Int)) ∧ (((0 : Int) ≤ c.a) ∧ (c.a < (64 : Int))))))))))))], [.box 25 [.int .i64 c.f, .int .i64 c.t, .int .i64 c.m, .int .i64 c.a]], false⟩ ?_ ?_
 refine cL rfl (o_fa tt25 rfl tt3 rfl ?_)
 refine cL rfl (o_ldS (v := .int _ _) tt3 rfl rfl ⟨_, rfl⟩ ?_)
 refine cL rfl (o_geq rfl rfl ?_)
 refine mB rfl rfl ?_
 by_cases c1 : (0 : Int) ≤ c.f
 refine cLg rfl rfl (decide_eq_true c1) ?_
 refine cL rfl (o_fa tt25 rfl tt3 rfl ?_)
 refine cLg rfl rfl (decide_eq_true c1) ?_
 refine cL rfl (o_ldS (v := .int _ _) tt3 rfl rfl ⟨_, rfl⟩ ?_)
 refine cLg rfl rfl (decide_eq_true c1) ?_
 refine mI rfl rfl ?_
 refine cLg rfl rfl (decide_eq_true c1) ?_
 refine cL rfl (o_lss rfl rfl ?_)
 refine cL rfl (o_pickT (v := .bool _) rfl (decide_eq_true c1) rfl ?_)
 refine mB rfl rfl ?_
 by_cases c2 : c.f < n
 refine cLg rfl rfl (decide_eq_true c2) ?_
 refine cL rfl (o_fa tt25 rfl tt3 rfl ?_)
 refine cLg rfl rfl (decide_eq_true c2) ?_
 refine cL rfl (o_ldS (v := .int _ _) tt3 rfl rfl ⟨_, rfl⟩ ?_)
 refine cLg rfl rfl (decide_eq_true c2) ?_
 refine cL rfl (o_geq rfl rfl ?_)
 refine cL rfl (o_pickT (v := .bool _) rfl (decide_eq_true c2) rfl ?_)
 refine mB rfl rfl ?_
 by_cases c3 : (0 : Int) ≤ c.t
 refine cLg rfl rfl (decide_eq_true c3) ?_
 refine cL rfl (o_fa tt25 rfl tt3 rfl ?_)
 refine cLg rfl rfl (decide_eq_true c3) ?_
 refine cL rfl (o_ldS (v := .int _ _) tt3 rfl rfl ⟨_, rfl⟩ ?_)
 refine cLg rfl rfl (decide_eq_true c3) ?_
 refine mI rfl rfl ?_
 refine cLg rfl rfl (decide_eq_true c3) ?_
 refine cL rfl (o_lss rfl rfl ?_)
 refine cL rfl (o_pickT (v := .bool _) rfl (decide_eq_true c3) rfl ?_)
 refine mB rfl rfl ?_
 by_cases c4 : c.t < n
 refine cLg rfl rfl (decide_eq_true c4) ?_
 refine cL rfl (o_fa tt25 rfl tt3 rfl ?_)
 refine cLg rfl rfl (decide_eq_true c4) ?_
 refine cL rfl (o_ldS (v := .int _ _) tt3 rfl rfl ⟨_, rfl⟩ ?_)
 refine cLg rfl rfl (decide_eq_true c4) ?_
 refine cL rfl (o_fa tt25 rfl tt3 rfl ?_)
 refine cLg rfl rfl (decide_eq_true c4) ?_
 refine cL rfl (o_ldS (v := .int _ _) tt3 rfl rfl ⟨_, rfl⟩ ?_)
 refine cLg rfl rfl (decide_eq_true c4) ?_
 refine cL rfl (o_neI rfl rfl rfl ?_)
 refine cL rfl (o_pickT (v := .bool _) rfl (decide_eq_true c4) rfl ?_)
 refine mB rfl rfl ?_
 by_cases c5 : ¬ c.f = c.t
 refine cLg rfl rfl (decide_eq_true c5) ?_
 refine cL rfl (o_fa tt25 rfl tt3 rfl ?_)
 refine cLg rfl rfl (decide_eq_true c5) ?_
 refine cL rfl (o_ldS (v := .int _ _) tt3 rfl rfl ⟨_, rfl⟩ ?_)
 refine cLg rfl rfl (decide_eq_true c5) ?_
 refine cL rfl (o_geq rfl rfl ?_)
 refine cL rfl (o_pickT (v := .bool _) rfl (decide_eq_true c5) rfl ?_)
 refine mB rfl rfl ?_
 by_cases c6 : (-1125899906842624 : Int) ≤ c.m
 refine cLg rfl rfl (decide_eq_true c6) ?_
 refine cL rfl (o_fa tt25 rfl tt3 rfl ?_)
 refine cLg rfl rfl (decide_eq_true c6) ?_
 refine cL rfl (o_ldS (v := .int _ _) tt3 rfl rfl ⟨_, rfl⟩ ?_)
 refine cLg rfl rfl (decide_eq_true c6) ?_
 refine cL rfl (o_leq rfl rfl ?_)
 refine cL rfl (o_pickT (v := .bool _) rfl (decide_eq_true c6) rfl ?_)
 refine mB rfl rfl ?_
 by_cases c7 : c.m ≤ (1125899906842624 : Int)
 refine cLg rfl rfl (decide_eq_true c7) ?_
 refine cL rfl (o_fa tt25 rfl tt3 rfl ?_)
 refine cLg rfl rfl (decide_eq_true c7) ?_
 refine cL rfl (o_ldS (v := .int _ _) tt3 rfl rfl ⟨_, rfl⟩ ?_)
 refine cLg rfl rfl (decide_eq_true c7) ?_
 refine cL rfl (o_geq rfl rfl ?_)
 refine cL rfl (o_pickT (v := .bool _) rfl (decide_eq_true c7) rfl ?_)
 refine mB rfl rfl ?_
 by_cases c8 : (0 : Int) ≤ c.a
 refine cLg rfl rfl (decide_eq_true c8) ?_
 refine cL rfl (o_fa tt25 rfl tt3 rfl ?_)
 refine cLg rfl rfl (decide_eq_true c8) ?_
 refine cL rfl (o_ldS (v := .int _ _) tt3 rfl rfl ⟨_, rfl⟩ ?_)
 refine cLg rfl rfl (decide_eq_true c8) ?_
 refine cL rfl (o_lss rfl rfl ?_)
 refine cL rfl (o_pickT (v := .bool _) rfl (decide_eq_true c8) rfl ?_)
 refine aB rfl rfl ?_
 refine eL ?_
 exact le_mk ⟨(congrArg AV.bool (dAndT c1 (dAndT c2 (dAndT c3 (dAndT c4 (dAndT c5 (dAndT c6 (dAndT c7 (dAndT c8 (rfl)))))))))).symm, trivial⟩ rfl
 iterate 3 refine cLs rfl rfl rfl (decide_eq_false c8) ?_
 refine cL rfl (o_pickF (v := .bool _) rfl (decide_eq_false c8) rfl ?_)
 refine aB rfl rfl ?_
 refine eL ?_
 exact le_mk ⟨(congrArg AV.bool (dAndT c1 (dAndT c2 (dAndT c3 (dAndT c4 (dAndT c5 (dAndT c6 (dAndT c7 (dAndF c8))))))))).symm, trivial⟩ rfl
 iterate 3 refine cLs rfl rfl rfl (decide_eq_false c7) ?_
 refine cL rfl (o_pickF (v := .bool _) rfl (decide_eq_false c7) rfl ?_)
 refine mB rfl rfl ?_
 iterate 3 refine cLs rfl rfl rfl (rfl) ?_
 refine cL rfl (o_pickF (v := .bool _) rfl rfl rfl ?_)
 refine aB rfl rfl ?_
 refine eL ?_
 exact le_mk ⟨(congrArg AV.bool (dAndT c1 (dAndT c2 (dAndT c3 (dAndT c4 (dAndT c5 (dAndT c6 (dAndF c7)))))))).symm, trivial⟩ rfl
 iterate 3 refine cLs rfl rfl rfl (decide_eq_false c6) ?_
 refine cL rfl (o_pickF (v := .bool _) rfl (decide_eq_false c6) rfl ?_)
 refine mB rfl rfl ?_
 iterate 3 refine cLs rfl rfl rfl (rfl) ?_
 refine cL rfl (o_pickF (v := .bool _) rfl rfl rfl ?_)
 refine mB rfl rfl ?_
 iterate 3 refine cLs rfl rfl rfl (rfl) ?_
 refine cL rfl (o_pickF (v := .bool _) rfl rfl rfl ?_)
 refine aB rfl rfl ?_
 refine eL ?_
 exact le_mk ⟨(congrArg AV.bool (dAndT c1 (dAndT c2 (dAndT c3 (dAndT c4 (dAndT c5 (dAndF c6))))))).symm, trivial⟩ rfl
 iterate 3 refine cLs rfl rfl rfl (decide_eq_false c5) ?_
 refine cL rfl (o_pickF (v := .bool _) rfl (decide_eq_false c5) rfl ?_)
 refine mB rfl rfl ?_
 iterate 3 refine cLs rfl rfl rfl (rfl) ?_
 refine cL rfl (o_pickF (v := .bool _) rfl rfl rfl ?_)
 refine mB rfl rfl ?_
 iterate 3 refine cLs rfl rfl rfl (rfl) ?_
 refine cL rfl (o_pickF (v := .bool _) rfl rfl rfl ?_)
 refine mB rfl rfl ?_
 iterate 3 refine cLs rfl rfl rfl (rfl) ?_
 refine cL rfl (o_pickF (v := .bool _) rfl rfl rfl ?_)
 refine aB rfl rfl ?_
 refine eL ?_
 exact le_mk ⟨(congrArg AV.bool (dAndT c1 (dAndT c2 (dAndT c3 (dAndT c4 (dAndF c5)))))).symm, trivial⟩ rfl
 iterate 5 refine cLs rfl rfl rfl (decide_eq_false c4) ?_
 refine cL rfl (o_pickF (v := .bool _) rfl (decide_eq_false c4) rfl ?_)
 refine mB rfl rfl ?_
 iterate 3 refine cLs rfl rfl rfl (rfl) ?_
 refine cL rfl (o_pickF (v := .bool _) rfl rfl rfl ?_)
 refine mB rfl rfl ?_
 iterate 3 refine cLs rfl rfl rfl (rfl) ?_
 refine cL rfl (o_pickF (v := .bool _) rfl rfl rfl ?_)
 refine mB rfl rfl ?_
 iterate 3 refine cLs rfl rfl rfl (rfl) ?_
 refine cL rfl (o_pickF (v := .bool _) rfl rfl rfl ?_)
 refine mB rfl rfl ?_
 iterate 3 refine cLs rfl rfl rfl (rfl) ?_
 refine cL rfl (o_pickF (v := .bool _) rfl rfl rfl ?_)
 refine aB rfl rfl ?_
 refine eL ?_
 exact le_mk ⟨(congrArg AV.bool (dAndT c1 (dAndT c2 (dAndT c3 (dAndF c4))))).symm, trivial⟩ rfl
 iterate 4 refine cLs rfl rfl rfl (decide_eq_false c3) ?_
 refine cL rfl (o_pickF (v := .bool _) rfl (decide_eq_false c3) rfl ?_)
 refine mB rfl rfl ?_
 iterate 5 refine cLs rfl rfl rfl (rfl) ?_
 refine cL rfl (o_pickF (v := .bool _) rfl rfl rfl ?_)
 refine mB rfl rfl ?_
 iterate 3 refine cLs rfl rfl rfl (rfl) ?_
 refine cL rfl (o_pickF (v := .bool _) rfl rfl rfl ?_)
 refine mB rfl rfl ?_
 iterate 3 refine cLs rfl rfl rfl (rfl) ?_
 refine cL rfl (o_pickF (v := .bool _) rfl rfl rfl ?_)
 refine mB rfl rfl ?_
 iterate 3 refine cLs rfl rfl rfl (rfl) ?_
 refine cL rfl (o_pickF (v := .bool _) rfl rfl rfl ?_)
 refine mB rfl rfl ?_
 iterate 3 refine cLs rfl rfl rfl (rfl) ?_
 refine cL rfl (o_pickF (v := .bool _) rfl rfl rfl ?_)
 refine aB rfl rfl ?_
 refine eL ?_
 exact le_mk ⟨(congrArg AV.bool (dAndT c1 (dAndT c2 (dAndF c3)))).symm, trivial⟩ rfl
 iterate 3 refine cLs rfl rfl rfl (decide_eq_false c2) ?_
 refine cL rfl (o_pickF (v := .bool _) rfl (decide_eq_false c2) rfl ?_)
 refine mB rfl rfl ?_
 iterate 4 refine cLs rfl rfl rfl (rfl) ?_
 refine cL rfl (o_pickF (v := .bool _) rfl rfl rfl ?_)
 refine mB rfl rfl ?_
 iterate 5 refine cLs rfl rfl rfl (rfl) ?_
 refine cL rfl (o_pickF (v := .bool _) rfl rfl rfl ?_)
 refine mB rfl rfl ?_
 iterate 3 refine cLs rfl rfl rfl (rfl) ?_
 refine cL rfl (o_pickF (v := .bool _) rfl rfl rfl ?_)
 refine mB rfl rfl ?_
 iterate 3 refine cLs rfl rfl rfl (rfl) ?_
 refine cL rfl (o_pickF (v := .bool _) rfl rfl rfl ?_)
 refine mB rfl rfl ?_
 iterate 3 refine cLs rfl rfl rfl (rfl) ?_
 refine cL rfl (o_pickF (v := .bool _) rfl rfl rfl ?_)
 refine mB rfl rfl ?_
 iterate 3 refine cLs rfl rfl rfl (rfl) ?_
 refine cL rfl (o_pickF (v := .bool _) rfl rfl rfl ?_)
 refine aB rfl rfl ?_
 refine eL ?_
 exact le_mk ⟨(congrArg AV.bool (dAndT c1 (dAndF c2))).symm, trivial⟩ rfl
 iterate 4 refine cLs rfl rfl rfl (decide_eq_false c1) ?_
 refine cL rfl (o_pickF (v := .bool _) rfl (decide_eq_false c1) rfl ?_)
 refine mB rfl rfl ?_
 iterate 3 refine cLs rfl rfl rfl (rfl) ?_
 refine cL rfl (o_pickF (v := .bool _) rfl rfl rfl ?_)
 refine mB rfl rfl ?_
 iterate 4 refine cLs rfl rfl rfl (rfl) ?_
 refine cL rfl (o_pickF (v := .bool _) rfl rfl rfl ?_)
 refine mB rfl rfl ?_
 iterate 5 refine cLs rfl rfl rfl (rfl) ?_
 refine cL rfl (o_pickF (v := .bool _) rfl rfl rfl ?_)
 refine mB rfl rfl ?_
 iterate 3 refine cLs rfl rfl rfl (rfl) ?_
 refine cL rfl (o_pickF (v := .bool _) rfl rfl rfl ?_)
 refine mB rfl rfl ?_
 iterate 3 refine cLs rfl rfl rfl (rfl) ?_
 refine cL rfl (o_pickF (v := .bool _) rfl rfl rfl ?_)
 refine mB rfl rfl ?_
 iterate 3 refine cLs rfl rfl rfl (rfl) ?_
 refine cL rfl (o_pickF (v := .bool _) rfl rfl rfl ?_)
 refine mB rfl rfl ?_
 iterate 3 refine cLs rfl rfl rfl (rfl) ?_
 refine cL rfl (o_pickF (v := .bool _) rfl rfl rfl ?_)
 refine aB rfl rfl ?_
 refine eL ?_
 exact le_mk ⟨(congrArg AV.bool (dAndF c1)).symm, trivial⟩ rfl
 refine W.ret ?_
 refine rt ?_
 refine rt_t (v := .bool _) rfl ?_
 refine rt_n ?_
 exact ⟨_, rs_bool _ _ _, (decide (((0 : Int) ≤ c.f) ∧ ((c.f < n) ∧ (((0 : Int) ≤ c.t) ∧ ((c.t < n) ∧ ((¬ c.f = c.t) ∧ (((-1125899906842624 : Int) ≤ c.m) ∧ ((c.m ≤ (1125899906842624 : Int)) ∧ (((0 : Int) ≤ c.a) ∧ (c.a < (64 : Int))))))))))), rfl, hv⟩
theorem vcp_rposs (n : Int) (c : Con)  : vc_rposs n c (fun q0 => q0 = (possM n c)) := by
  unfold vc_rposs possM
  exact decide_eq_decide.mpr (by omega)
theorem spec_rposs (n : Int) (c : Con)  : FnP Try.prog 45 [.int .i64 n, .agg (e25 c)] (fun xR => xR = .bool (possM n c)) :=
  (walk_rposs (vcp_rposs n c)).mono (by rintro _ ⟨_, rfl, rfl⟩; rfl)
def vc_rvalid (n : Int) (l : (List Con)) (Post : Bool → Prop) : Prop :=
  (((n < (1 : Int)) ∨ (((24 : Int) < n) ∨ ((2000 : Int) < ((l.length : Nat) : Int)))) → Post false) ∧ (¬ ((n < (1 : Int)) ∨ (((24 : Int) < n) ∨ ((2000 : Int) < ((l.length : Nat) : Int)))) → ∃ (I1 : Int → Prop) (μ1 : Int → Nat), I1 (0 : Int) ∧ ∀ (v5 : Int), I1 v5 → ((v5 < ((l.length : Nat) : Int)) → (0 ≤ v5 ∧ v5 < (l.length : Int)) ∧ ((¬ ((possM n (lat l v5)) = true)) → Post false) ∧ (¬ (¬ ((possM n (lat l v5)) = true)) → (inI (v5 + (1 : Int))) ∧ (I1 (v5 + (1 : Int)) ∧ μ1 (v5 + (1 : Int)) < μ1 v5))) ∧ (¬ (v5 < ((l.length : Nat) : Int)) → Post true))
set_option maxRecDepth 100000 in
set_option maxHeartbeats 4000000 in
theorem walk_rvalid {n : Int} {l : (List Con)} {Post : Bool → Prop} (hv : vc_rvalid n l Post) : FnP Try.prog 40 [.int .i64 n, .lst true l.length (encL e25 l)] (fun x => ∃ q0, x = .bool q0 ∧ Post q0) := by
 refine FnP.of_walk (T := tt) (nt := 30) ttOk ttMix ⟨⟨Try.f40, Try.func40, rfl, rfl, rfl, rfl⟩⟩ (by simp) ?_
 unfold vc_rvalid at hv
 change W _ _ _ ⟨30, look [(0, .int .i64 n), (1, .lst true l.length (encL e25 l))], [], false⟩ _
 refine W.tr [(0, .int _ _), (1, .lst _ _ _)] [] ⟨rfl, rfl, trivial⟩ rfl ?_
 refine W.rL ?_
 refine aB rfl rfl ?_
 refine eL ?_
 refine W.tr [(0, .int _ _), (1, .lst _ _ _)] [] ⟨rfl, rfl, trivial⟩ rfl ?_
 refine W.seq' ?_
 refine W.rLm ⟨30, look [(0, .int .i64 n), (1, .lst true l.length (encL e25 l)), (16, .bool (decide ((n < (1 : Int)) ∨ (((24 : Int) < n) ∨ ((2000 : Int) < ((l.length : Nat) : Int))))))], [], false⟩ ?_ ?_
 refine mI rfl rfl ?_
 refine cL rfl (o_lss rfl rfl ?_)
 refine mB rfl rfl ?_
 by_cases c1 : n < (1 : Int)
 iterate 2 refine cLs rfl rfl rfl (decide_eq_true c1) ?_
 refine cL rfl (o_pickT (v := .bool _) rfl (decide_eq_true c1) rfl ?_)
 refine mB rfl rfl ?_
 iterate 3 refine cLs rfl rfl rfl (rfl) ?_
 refine cL rfl (o_pickT (v := .bool _) rfl rfl rfl ?_)
 refine eL ?_
 exact le_mk ⟨rfl, rfl, (congrArg AV.bool (dOrT c1)).symm, trivial⟩ rfl
 refine cLg rfl rfl (decide_eq_false c1) ?_
 refine mI rfl rfl ?_
 refine cLg rfl rfl (decide_eq_false c1) ?_
 refine cL rfl (o_gtr rfl rfl ?_)
 refine cL rfl (o_pickF (v := .bool _) rfl (decide_eq_false c1) rfl ?_)
 refine mB rfl rfl ?_
 by_cases c2 : (24 : Int) < n
 iterate 3 refine cLs rfl rfl rfl (decide_eq_true c2) ?_
 refine cL rfl (o_pickT (v := .bool _) rfl (decide_eq_true c2) rfl ?_)
 refine eL ?_
 exact le_mk ⟨rfl, rfl, (congrArg AV.bool (dOrF c1 (dOrT c2))).symm, trivial⟩ rfl
 refine cLg rfl rfl (decide_eq_false c2) ?_
 refine mL rfl rfl ?_
 refine cLg rfl rfl (decide_eq_false c2) ?_
 refine cL rfl (o_len (v := .lst _ _ _) tt22 rfl rfl ?_)
 refine cLg rfl rfl (decide_eq_false c2) ?_
 refine cL rfl (o_gtr rfl rfl ?_)
 refine cL rfl (o_pickF (v := .bool _) rfl (decide_eq_false c2) rfl ?_)
 refine eL ?_
 exact le_mk ⟨rfl, rfl, (congrArg AV.bool (dOrF c1 (dOrF c2 (rfl)))).symm, trivial⟩ rfl
 refine W.cn rfl (fun hc => ?_) (fun hc => ?_)
 have hv := hv.1 hc
 refine W.rL ?_
 refine aB rfl rfl ?_
 refine eL ?_
 refine W.tr [(4, .bool _)] [] ⟨rfl, trivial⟩ rfl ?_
 refine W.ret ?_
 refine th_ret (rt ?_)
 refine rt_t (v := .bool _) rfl ?_
 refine rt_n ?_
 exact ⟨_, rs_bool _ _ _, false, rfl, hv⟩
 have hv := hv.2 hc
 refine W.skip ?_
 refine th_nrm ?_
 refine W.tr [(0, .int _ _), (1, .lst _ _ _)] [] ⟨rfl, rfl, trivial⟩ rfl ?_
 refine W.seq' ?_
 refine W.rL ?_
 refine aI rfl rfl ?_
 refine eL ?_
 refine W.tr [(0, .int _ _), (1, .lst _ _ _), (5, .int _ _)] [] ⟨rfl, rfl, rfl, trivial⟩ rfl ?_
 refine W.block ?_
 obtain ⟨I1, μ1, hp, hv⟩ := hv
 refine W.loop1 (fun v5 => ⟨30, look [(0, .int .i64 n), (1, .lst true l.length (encL e25 l)), (5, .int .i64 v5)], [], false⟩) I1 μ1 (0 : Int) (St.to_mk (φ := []) rfl (.inl rfl) ⟨Ren.int _ _, Ren.lst _ _ _, Ren.int _ _, trivial⟩ trivial) hp ?_
 clear hp
 intro v5 hI
 replace hv := hv v5 hI
 clear hI
 refine W.seq' ?_
 refine W.rL ?_
 refine mI rfl rfl ?_
 refine mL rfl rfl ?_
 refine cL rfl (o_len (v := .lst _ _ _) tt22 rfl rfl ?_)
 refine cL rfl (o_lss rfl rfl ?_)
 refine eL ?_
 refine W.tr [(0, .int _ _), (1, .lst _ _ _), (5, .int _ _), (20, .bool _)] [] ⟨rfl, rfl, rfl, rfl, trivial⟩ rfl ?_
 refine W.cn rfl (fun hc => ?_) (fun hc => ?_)
 have hv := hv.1 hc
 refine W.skip ?_
 refine th_nrm ?_
 refine W.tr [(0, .int _ _), (1, .lst _ _ _), (5, .int _ _)] [] ⟨rfl, rfl, rfl, trivial⟩ rfl ?_
 refine W.seq' ?_
 refine W.block ?_
 refine W.rL ?_
 refine mI rfl rfl ?_
 refine mL rfl rfl ?_
 refine mI rfl rfl ?_
 obtain ⟨s11, hv⟩ := hv
 refine cL rfl (o_iaL tt22 tt25 rfl rfl (enc25.wd true) rfl s11 ?_)
 intro rest11
 refine cL rfl (o_ldA (cs := [.int _ _, .int _ _, .int _ _, .int _ _]) tt25 rfl rfl ⟨_, rfl⟩ rfl ?_)
 refine cL rfl (o_callP1 (k := 45) (fst := []) (caps := []) (ys := [.int _ _, .agg _]) rfl rfl (spec_rposs n (lat l v5)) (Wks.cons (ag_int _ _ _ _) (Wks.cons (ag_agg 5 _ (Wks.cons (ag_int _ _ _ _) (Wks.cons (ag_int _ _ _ _) (Wks.cons (ag_int _ _ _ _) (Wks.cons (ag_int _ _ _ _) (Wks.refl _)))))) (Wks.refl _))) ?_)
 refine cL rfl (o_notB rfl ?_)
 refine eL ?_
 refine W.tr [(0, .int _ _), (1, .lst _ _ _), (5, .int _ _), (29, .bool _)] [] ⟨rfl, rfl, rfl, rfl, trivial⟩ rfl ?_
 refine W.cn rfl (fun hc => ?_) (fun hc => ?_)
 have hv := hv.1 hc
 refine W.rL ?_
 refine aB rfl rfl ?_
 refine eL ?_
 refine W.tr [(4, .bool _)] [] ⟨rfl, trivial⟩ rfl ?_
 refine W.ret ?_
 refine bl_ret (th_ret (th_ret (bl_ret (th_ret (rt ?_)))))
 refine rt_t (v := .bool _) rfl ?_
 refine rt_n ?_
 exact ⟨_, rs_bool _ _ _, false, rfl, hv⟩
 have hv := hv.2 hc
 refine W.skip ?_
 refine bl_nrm (th_nrm ?_)
 refine W.tr [(0, .int _ _), (1, .lst _ _ _), (5, .int _ _)] [] ⟨rfl, rfl, rfl, trivial⟩ rfl ?_
 refine W.rL1 ?_
 refine mI rfl rfl ?_
 obtain ⟨s12, hv⟩ := hv
 refine cL rfl (o_add rfl rfl s12 ?_)
 refine aI rfl rfl ?_
 refine eL ?_
 exact th_nrm (⟨(), (v5 + (1 : Int)), hv, St.to_mk (φ := []) rfl (.inl rfl) ⟨Ren.int _ _, Ren.lst _ _ _, Ren.int _ _, trivial⟩ trivial⟩)
 have hv := hv.2 hc
 refine W.exit ?_
 refine th_exit (th_exit (bl_hit (th_nrm ?_)))
 refine W.tr [] [] trivial rfl ?_
 refine W.rL ?_
 refine aB rfl rfl ?_
 refine eL ?_
 refine W.tr [(4, .bool _)] [] ⟨rfl, trivial⟩ rfl ?_
 refine W.ret ?_
 refine rt ?_
 refine rt_t (v := .bool _) rfl ?_
 refine rt_n ?_
 exact ⟨_, rs_bool _ _ _, true, rfl, hv⟩
theorem vcp_rvalid (n : Int) (l : (List Con)) (h0 : l.length ≤ 1073741824) : vc_rvalid n l (fun q0 => q0 = (validM n l)) := by
  unfold vc_rvalid
  refine ⟨fun h => ?_, fun h => ⟨fun v => ∃ i : Nat, v = i ∧ i ≤ l.length ∧ ∀ j : Nat, j < i → possM n (lat l j) = true, fun v => l.length - v.toNat, ⟨0, rfl, by omega, fun j hj => by omega⟩, ?_⟩⟩
  · refine (Bool.eq_false_iff.mpr fun e => ?_).symm
    obtain ⟨e, -⟩ := validM_iff.mp e
    omega
  rintro _ ⟨i, rfl, hi, hp⟩
  refine ⟨fun k1 => ⟨by omega, fun k2 => ?_, fun k2 => ⟨by unfold inI; omega, ⟨i + 1, by omega, by omega, fun j hj => ?_⟩, by dsimp only; omega⟩⟩, fun k1 => ?_⟩
  · refine (Bool.eq_false_iff.mpr fun e => k2 ?_).symm
    exact (validM_iff.mp e).2 _ (lat_mem ⟨by omega, by omega⟩)
  · rcases Nat.lt_or_ge j i with h6 | h6
    · exact hp j h6
    · have : j = i := by omega
      subst this; exact Classical.not_not.mp k2
  · refine (validM_iff.mpr ⟨by omega, fun c hc => ?_⟩).symm
    obtain ⟨j, hj, rfl⟩ := List.getElem_of_mem hc
    have := hp j (by omega)
    rwa [lat_get hj] at this
theorem spec_rvalid (n : Int) (l : (List Con)) (h0 : l.length ≤ 1073741824) : FnP Try.prog 40 [.int .i64 n, .lst true l.length (encL e25 l)] (fun xR => xR = .bool (validM n l)) :=
  (walk_rvalid (vcp_rvalid n l h0)).mono (by rintro _ ⟨_, rfl, rfl⟩; rfl)
def vc_rfree (n : Int) (Post : Bd → Prop) : Prop :=
  ∃ (I1 : Int → Int → List (List Int) → Prop) (μ1 : Int → Int → List (List Int) → Nat), I1 (0 : Int) n [] ∧ ∀ (v4 : Int) (b1n : Int) (r2 : List (List Int)), I1 v4 b1n r2 → ((v4 < n) → ∃ (I2 : Int → List Int → Prop) (μ2 : Int → List Int → Nat), I2 (0 : Int) [] ∧ ∀ (v6 : Int) (r3 : List Int), I2 v6 r3 → ((v6 < n) → ∃ J3 : List Int → Prop, (∀ (r5 : List Int), J3 r5 → (inI (v6 + (1 : Int))) ∧ (I2 (v6 + (1 : Int)) r5 ∧ μ2 (v6 + (1 : Int)) r5 < μ2 v6 r3)) ∧ (((v4 = v6) → ((r3 ++ [(0 : Int)]).length ≤ 1073741824) ∧ J3 (r3 ++ [(0 : Int)])) ∧ (¬ (v4 = v6) → ((r3 ++ [(1152921504606846976 : Int)]).length ≤ 1073741824) ∧ J3 (r3 ++ [(1152921504606846976 : Int)])))) ∧ (¬ (v6 < n) → ((r2 ++ [r3]).length ≤ 1073741824) ∧ (inI (v4 + (1 : Int))) ∧ (I1 (v4 + (1 : Int)) b1n (r2 ++ [r3]) ∧ μ1 (v4 + (1 : Int)) b1n (r2 ++ [r3]) < μ1 v4 b1n r2))) ∧ (¬ (v4 < n) → Post (Bd.mk b1n r2))
set_option maxRecDepth 100000 in
set_option maxHeartbeats 4000000 in
theorem walk_rfree {n : Int} {Post : Bd → Prop} (hv : vc_rfree n Post) : FnP Try.prog 41 [.int .i64 n] (fun x => ∃ q0, x = .agg ((e34 false) q0) ∧ Post q0) := by
 refine FnP.of_walk (T := tt) (nt := 35) ttOk ttMix ⟨⟨Try.f41, Try.func41, rfl, rfl, rfl, rfl⟩⟩ (by simp) ?_
 unfold vc_rfree at hv
 change W _ _ _ ⟨35, look [(0, .int .i64 n)], [], false⟩ _
 refine W.tr [(0, .int _ _)] [] ⟨rfl, trivial⟩ rfl ?_
 refine W.rL ?_
 refine cL rfl (o_alloc (p := 0) tt34 rfl rfl ?_)
 refine eL ?_
 refine W.tr [(0, .int _ _), (2, .ptr _ _)] [.box _ [.int _ _, .nilS]] ⟨rfl, rfl, trivial⟩ rfl ?_
 refine W.rL ?_
 refine mI rfl rfl ?_
 refine cL rfl (o_build (qs := [(0, .int _ _)]) (cs := [.int _ _, .nilS]) tt34 rfl rfl rfl ?_)
 refine cL rfl (o_alloc (p := 1) tt34 rfl rfl ?_)
 refine cLn (o_stB (v := .agg _) (vs := [.int _ _, .nilS]) (cs2 := [.int _ _, .nilS]) tt34 rfl rfl rfl rfl rfl (Nat.le_of_ble_eq_true rfl) rfl ?_)
 refine eL ?_
 refine W.tr [(0, .int _ _), (2, .ptr _ _), (3, .ptr _ _)] [.box _ [.int _ _, .nilS], .box _ [.int _ _, .nilS]] ⟨rfl, rfl, rfl, trivial⟩ rfl ?_
 refine W.seq' ?_
 refine W.rL ?_
 refine aI rfl rfl ?_
 refine eL ?_
 refine W.tr [(0, .int _ _), (2, .ptr _ _), (3, .ptr _ _), (4, .int _ _)] [.box _ [.int _ _, .nilS], .box _ [.int _ _, .nilS]] ⟨rfl, rfl, rfl, rfl, trivial⟩ rfl ?_
 refine W.block ?_
 obtain ⟨I1, μ1, hp, hv⟩ := hv
 refine W.loop3 (fun v4 b1n r2 => ⟨35, look [(0, .int .i64 n), (2, .ptr 0 0), (3, .ptr 1 0), (4, .int .i64 v4)], [.box 34 [.int .i64 (0 : Int), .nilS], .box 34 [.int .i64 b1n, .ref true 2 r2.length], .row 35 1 (encL (eSl eInt false) r2)], false⟩) I1 μ1 (0 : Int) n [] (St.to_mk (φ := [some 0, some 1, none]) rfl (.inl rfl) ⟨Ren.int _ _, Ren.ptr rfl, Ren.ptr rfl, Ren.int _ _, trivial⟩ ⟨.inr ⟨_, rfl, rfl, Rens.cons (Ren.int _ _) (Rens.cons (Ren.nilS) (Rens.nil))⟩, .inr ⟨_, rfl, rfl, Rens.cons (Ren.int _ _) (Rens.cons (Ren.nilR rfl rfl) (Rens.nil))⟩, rfl, trivial⟩) hp ?_
 clear hp
 intro v4 b1n r2 hI
 replace hv := hv v4 b1n r2 hI
 clear hI
 refine W.seq' ?_
 refine W.rL ?_
 iterate 2 refine mI rfl rfl ?_
 refine cL rfl (o_lss rfl rfl ?_)
 refine eL ?_
 refine W.tr [(0, .int _ _), (2, .ptr _ _), (3, .ptr _ _), (4, .int _ _), (11, .bool _)] [.box _ [.int _ _, .nilS], .box _ [.int _ _, .ref _ _ _], .row _ _ _] ⟨rfl, rfl, rfl, rfl, rfl, trivial⟩ rfl ?_
 refine W.cn rfl (fun hc => ?_) (fun hc => ?_)
 have hv := hv.1 hc
 refine W.skip ?_
 refine th_nrm ?_
 refine W.tr [(0, .int _ _), (2, .ptr _ _), (3, .ptr _ _), (4, .int _ _)] [.box _ [.int _ _, .nilS], .box _ [.int _ _, .ref _ _ _], .row _ _ _] ⟨rfl, rfl, rfl, rfl, trivial⟩ rfl ?_
 refine W.seq' ?_
 refine W.block ?_
 refine W.rL ?_
 refine cL rfl (o_assign (v := .nilS) rfl ?_)
 refine eL ?_
 refine W.tr [(0, .int _ _), (2, .ptr _ _), (3, .ptr _ _), (4, .int _ _), (5, .nilS)] [.box _ [.int _ _, .nilS], .box _ [.int _ _, .ref _ _ _], .row _ _ _] ⟨rfl, rfl, rfl, rfl, rfl, trivial⟩ rfl ?_
 refine W.seq' ?_
 refine W.rL ?_
 refine aI rfl rfl ?_
 refine eL ?_
 refine W.tr [(0, .int _ _), (2, .ptr _ _), (3, .ptr _ _), (4, .int _ _), (5, .nilS), (6, .int _ _)] [.box _ [.int _ _, .nilS], .box _ [.int _ _, .ref _ _ _], .row _ _ _] ⟨rfl, rfl, rfl, rfl, rfl, rfl, trivial⟩ rfl ?_
 refine W.block ?_
 obtain ⟨I2, μ2, hp, hv⟩ := hv
 refine W.loop2 (fun v6 r3 => ⟨35, look [(0, .int .i64 n), (2, .ptr 0 0), (3, .ptr 1 0), (4, .int .i64 v4), (5, .ref true 3 r3.length), (6, .int .i64 v6)], [.box 34 [.int .i64 (0 : Int), .nilS], .box 34 [.int .i64 b1n, .ref true 2 r2.length], .row 35 1 (encL (eSl eInt false) r2), .row 3 1 (encL eInt r3)], false⟩) I2 μ2 (0 : Int) [] (St.to_mk (φ := [some 0, some 1, some 2, none]) rfl (.inl rfl) ⟨Ren.int _ _, Ren.ptr rfl, Ren.ptr rfl, Ren.int _ _, Ren.nilR rfl rfl, Ren.int _ _, trivial⟩ ⟨.inr ⟨_, rfl, rfl, Rens.cons (Ren.int _ _) (Rens.cons (Ren.nilS) (Rens.nil))⟩, .inr ⟨_, rfl, rfl, Rens.cons (Ren.int _ _) (Rens.cons (Ren.ref rfl (fun h => rfl)) (Rens.nil))⟩, .inr ⟨_, rfl, rfl, rfl, rfl, Rens.enc (encSl eInt) false r2⟩, rfl, trivial⟩) hp ?_
 clear hp
 intro v6 r3 hI
 replace hv := hv v6 r3 hI
 clear hI
 refine W.seq' ?_
 refine W.rL ?_
 iterate 2 refine mI rfl rfl ?_
 refine cL rfl (o_lss rfl rfl ?_)
 refine eL ?_
 refine W.tr [(0, .int _ _), (2, .ptr _ _), (3, .ptr _ _), (4, .int _ _), (5, .ref _ _ _), (6, .int _ _), (16, .bool _)] [.box _ [.int _ _, .nilS], .box _ [.int _ _, .ref _ _ _], .row _ _ _, .row _ _ _] ⟨rfl, rfl, rfl, rfl, rfl, rfl, rfl, trivial⟩ rfl ?_
 refine W.cn rfl (fun hc => ?_) (fun hc => ?_)
 have hv := hv.1 hc
 refine W.skip ?_
 refine th_nrm ?_
 refine W.tr [(0, .int _ _), (2, .ptr _ _), (3, .ptr _ _), (4, .int _ _), (5, .ref _ _ _), (6, .int _ _)] [.box _ [.int _ _, .nilS], .box _ [.int _ _, .ref _ _ _], .row _ _ _, .row _ _ _] ⟨rfl, rfl, rfl, rfl, rfl, rfl, trivial⟩ rfl ?_
 obtain ⟨J3, hj, hv⟩ := hv
 refine W.mid1 (fun r5 => ⟨35, look [(0, .int .i64 n), (2, .ptr 0 0), (3, .ptr 1 0), (4, .int .i64 v4), (5, .ref true 5 r5.length), (6, .int .i64 v6)], [.box 34 [.int .i64 (0 : Int), .nilS], .box 34 [.int .i64 b1n, .ref true 2 r2.length], .row 35 1 (encL (eSl eInt false) r2), .dead, .dead, .row 3 1 (encL eInt r5)], false⟩) J3 ?_ ?_
 intro r5
 intro hv
 replace hv := hj r5 hv
 refine W.rL1 ?_
 refine mI rfl rfl ?_
 obtain ⟨s274, hv⟩ := hv
 refine cL rfl (o_add rfl rfl s274 ?_)
 refine aI rfl rfl ?_
 refine eL ?_
 exact th_nrm (⟨(), (v6 + (1 : Int)), r5, hv, St.to_mk (φ := [some 0, some 1, some 2, some 5]) rfl (.inl rfl) ⟨Ren.int _ _, Ren.ptr rfl, Ren.ptr rfl, Ren.int _ _, Ren.ref rfl (fun h => rfl), Ren.int _ _, trivial⟩ ⟨.inr ⟨_, rfl, rfl, Rens.cons (Ren.int _ _) (Rens.cons (Ren.nilS) (Rens.nil))⟩, .inr ⟨_, rfl, rfl, Rens.cons (Ren.int _ _) (Rens.cons (Ren.ref rfl (fun h => rfl)) (Rens.nil))⟩, .inr ⟨_, rfl, rfl, rfl, rfl, Rens.enc (encSl eInt) false r2⟩, .inr ⟨_, rfl, rfl, rfl, rfl, Rens.enc encInt false r5⟩, trivial⟩⟩)
 clear hj
 refine W.block ?_
 refine W.rL ?_
 iterate 2 refine mI rfl rfl ?_
 refine cL rfl (o_eqI rfl rfl rfl ?_)
 refine eL ?_
 refine W.tr [(0, .int _ _), (2, .ptr _ _), (3, .ptr _ _), (4, .int _ _), (5, .ref _ _ _), (6, .int _ _), (21, .bool _)] [.box _ [.int _ _, .nilS], .box _ [.int _ _, .ref _ _ _], .row _ _ _, .row _ _ _] ⟨rfl, rfl, rfl, rfl, rfl, rfl, rfl, trivial⟩ rfl ?_
 refine W.cn rfl (fun hc => ?_) (fun hc => ?_)
 have hv := hv.1 hc
 refine W.rL1 ?_
 refine cL rfl (o_move (v := .ref _ _ _) rfl ?_)
 refine cL rfl (o_bs1 (v := .int _ _) (q := 4) tt35 tt3 rfl rfl rfl rfl rfl rfl rfl rfl ?_)
 obtain ⟨s275, hv⟩ := hv
 refine cL rfl (o_apR (p := 5) (q := (r3 ++ [(0 : Int)]).length) tt35 tt3 rfl rfl (src_ref rfl rfl) rfl rfl (encL_length (encInt.wd false) _) (Nat.le_trans (Nat.le_of_eq (@List.length_append _ (r3) ([(0 : Int)])).symm) s275) rfl (@List.length_append _ (r3) ([(0 : Int)])).symm (encL_app eInt r3 [(0 : Int)]) ?_)
 refine cL rfl (o_assign (v := .ref _ _ _) rfl ?_)
 refine eL ?_
 exact bl_nrm (th_nrm (⟨(), (r3 ++ [(0 : Int)]), hv, St.to_mk (φ := [some 0, some 1, some 2, none, none, some 5]) rfl (.inl rfl) ⟨Ren.int _ _, Ren.ptr rfl, Ren.ptr rfl, Ren.int _ _, Ren.ref rfl (fun h => rfl), Ren.int _ _, trivial⟩ ⟨.inr ⟨_, rfl, rfl, Rens.cons (Ren.int _ _) (Rens.cons (Ren.nilS) (Rens.nil))⟩, .inr ⟨_, rfl, rfl, Rens.cons (Ren.int _ _) (Rens.cons (Ren.ref rfl (fun h => rfl)) (Rens.nil))⟩, .inr ⟨_, rfl, rfl, rfl, rfl, Rens.enc (encSl eInt) false r2⟩, rfl, rfl, .inr ⟨_, rfl, rfl, rfl, rfl, Rens.enc encInt false (r3 ++ [(0 : Int)])⟩, trivial⟩⟩))
 have hv := hv.2 hc
 refine W.rL1 ?_
 refine cL rfl (o_move (v := .ref _ _ _) rfl ?_)
 refine cL rfl (o_bs1 (v := .int _ _) (q := 4) tt35 tt3 rfl rfl rfl rfl rfl rfl rfl rfl ?_)
 obtain ⟨s276, hv⟩ := hv
 refine cL rfl (o_apR (p := 5) (q := (r3 ++ [(1152921504606846976 : Int)]).length) tt35 tt3 rfl rfl (src_ref rfl rfl) rfl rfl (encL_length (encInt.wd false) _) (Nat.le_trans (Nat.le_of_eq (@List.length_append _ (r3) ([(1152921504606846976 : Int)])).symm) s276) rfl (@List.length_append _ (r3) ([(1152921504606846976 : Int)])).symm (encL_app eInt r3 [(1152921504606846976 : Int)]) ?_)
 refine cL rfl (o_assign (v := .ref _ _ _) rfl ?_)
 refine eL ?_
 exact bl_nrm (th_nrm (⟨(), (r3 ++ [(1152921504606846976 : Int)]), hv, St.to_mk (φ := [some 0, some 1, some 2, none, none, some 5]) rfl (.inl rfl) ⟨Ren.int _ _, Ren.ptr rfl, Ren.ptr rfl, Ren.int _ _, Ren.ref rfl (fun h => rfl), Ren.int _ _, trivial⟩ ⟨.inr ⟨_, rfl, rfl, Rens.cons (Ren.int _ _) (Rens.cons (Ren.nilS) (Rens.nil))⟩, .inr ⟨_, rfl, rfl, Rens.cons (Ren.int _ _) (Rens.cons (Ren.ref rfl (fun h => rfl)) (Rens.nil))⟩, .inr ⟨_, rfl, rfl, rfl, rfl, Rens.enc (encSl eInt) false r2⟩, rfl, rfl, .inr ⟨_, rfl, rfl, rfl, rfl, Rens.enc encInt false (r3 ++ [(1152921504606846976 : Int)])⟩, trivial⟩⟩))
 have hv := hv.2 hc
 refine W.exit ?_
 refine th_exit (th_exit (bl_hit (th_nrm ?_)))
 refine W.tr [(0, .int _ _), (2, .ptr _ _), (3, .ptr _ _), (4, .int _ _), (5, .ref _ _ _)] [.box _ [.int _ _, .nilS], .box _ [.int _ _, .ref _ _ _], .row _ _ _, .row _ _ _] ⟨rfl, rfl, rfl, rfl, rfl, trivial⟩ rfl ?_
 refine W.sealH false 3 (l := [(0, .int .i64 n), (2, .ptr 0 0), (3, .ptr 1 0), (4, .int .i64 v4), (5, .lst false r3.length (encL eInt r3))]) rfl (encL_sl encInt false r3) ⟨.inl rfl, .inl rfl, .inl rfl, .inl rfl, .inr ⟨_, _, rfl, (encL_length (encInt.wd false) _), rfl⟩, trivial⟩ rfl ?_
 refine W.rL1 ?_
 refine cL rfl (o_fa tt34 rfl tt32 rfl ?_)
 refine cL rfl (o_ldS (v := .ref _ _ _) tt32 rfl rfl ⟨_, rfl⟩ ?_)
 refine mL rfl rfl ?_
 refine cL rfl (o_bs1 (v := .lst _ _ _) (q := 4) tt32 tt35 rfl rfl rfl rfl rfl rfl rfl rfl ?_)
 obtain ⟨s277, hv⟩ := hv
 refine cL rfl (o_apR (p := 5) (q := (r2 ++ [r3]).length) tt32 tt35 rfl rfl (src_ref rfl rfl) rfl rfl (encL_length ((encSl eInt).wd false) _) (Nat.le_trans (Nat.le_of_eq (@List.length_append _ (r2) ([r3])).symm) s277) rfl (@List.length_append _ (r2) ([r3])).symm (encL_app (eSl eInt false) r2 [r3]) ?_)
 refine cL rfl (o_fa tt34 rfl tt32 rfl ?_)
 refine cLn (o_stB (v := .ref _ _ _) (vs := [.ref _ _ _]) (cs2 := [.int _ _, .ref _ _ _]) tt32 rfl rfl rfl rfl rfl (Nat.le_of_ble_eq_true rfl) rfl ?_)
 refine eL ?_
 refine bl_nrm (th_nrm ?_)
 refine W.tr [(0, .int _ _), (2, .ptr _ _), (3, .ptr _ _), (4, .int _ _)] [.box _ [.int _ _, .nilS], .box _ [.int _ _, .ref _ _ _], .dead, .dead, .row _ _ _, .row _ _ _] ⟨rfl, rfl, rfl, rfl, trivial⟩ rfl ?_
 refine W.rL1 ?_
 refine mI rfl rfl ?_
 obtain ⟨s278, hv⟩ := hv
 refine cL rfl (o_add rfl rfl s278 ?_)
 refine aI rfl rfl ?_
 refine eL ?_
 exact th_nrm (⟨(), (v4 + (1 : Int)), b1n, (r2 ++ [r3]), hv, St.to_mk (φ := [some 0, some 1, some 5]) rfl (.inl rfl) ⟨Ren.int _ _, Ren.ptr rfl, Ren.ptr rfl, Ren.int _ _, trivial⟩ ⟨.inr ⟨_, rfl, rfl, Rens.cons (Ren.int _ _) (Rens.cons (Ren.nilS) (Rens.nil))⟩, .inr ⟨_, rfl, rfl, Rens.cons (Ren.int _ _) (Rens.cons (Ren.ref rfl (fun h => rfl)) (Rens.nil))⟩, .inr ⟨_, rfl, rfl, rfl, rfl, Rens.enc (encSl eInt) false (r2 ++ [r3])⟩, trivial⟩⟩)
 have hv := hv.2 hc
 refine W.exit ?_
 refine th_exit (th_exit (bl_hit (th_nrm ?_)))
 refine W.tr [(2, .ptr _ _), (3, .ptr _ _)] [.box _ [.int _ _, .nilS], .box _ [.int _ _, .ref _ _ _], .row _ _ _] ⟨rfl, rfl, trivial⟩ rfl ?_
 refine W.rL ?_
 refine cL rfl (o_ldA (cs := [.int _ _, .ref _ _ _]) tt34 rfl rfl ⟨_, rfl⟩ rfl ?_)
 refine cLn (o_stB (v := .agg _) (vs := [.int _ _, .ref _ _ _]) (cs2 := [.int _ _, .ref _ _ _]) tt34 rfl rfl rfl rfl rfl (Nat.le_of_ble_eq_true rfl) rfl ?_)
 refine eL ?_
 refine W.tr [(2, .ptr _ _)] [.box _ [.int _ _, .ref _ _ _], .box _ [.int _ _, .ref _ _ _], .row _ _ _] ⟨rfl, trivial⟩ rfl ?_
 refine W.ret ?_
 refine rt ?_
 refine rt_c (x := .ptr _ _) rfl (ldA (cs := [.int _ _, .ref _ _ _]) tt34 rfl ⟨_, rfl⟩ rfl ?_)
 refine rt_n ?_
 exact ⟨_, rs_agg 5 _ (Wks.cons (rs_int _ _ _ _) (Wks.cons (rs_ref (encSl eInt) 3 _ rfl rfl) (Wks.refl _))), (Bd.mk b1n r2), rfl, hv⟩
theorem vcp_rfree (n : Int) (h0 : 1 ≤ n ∧ n ≤ 24) : vc_rfree n (fun q0 => q0 = (boundsM freeM n)) := by
  unfold vc_rfree
  have hrow : ∀ (i : Nat), (i : Int) < n → ((List.range n.toNat).map fun j => if i = j then 0 else NB) = (List.range n.toNat).map fun j => mm freeM i j := fun i hi => by
    refine List.map_congr_left fun j hj => ?_
    have := List.mem_range.mp hj
    rw [mm_free (by omega) (by omega)]
  refine ⟨fun v q r => ∃ i : Nat, v = i ∧ i ≤ n.toNat ∧ q = n ∧ r = (List.range i).map fun i => (List.range n.toNat).map fun j => mm freeM i j, fun v _ _ => n.toNat - v.toNat, ⟨0, rfl, by omega, rfl, rfl⟩, ?_⟩
  rintro _ q _ ⟨i, rfl, hi, hq, rfl⟩
  refine ⟨fun k1 => ⟨fun v r => ∃ j : Nat, v = j ∧ j ≤ n.toNat ∧ r = (List.range j).map fun j => if i = j then 0 else NB, fun v _ => n.toNat - v.toNat, ⟨0, rfl, by omega, rfl⟩, ?_⟩, fun k1 => ?_⟩
  · rintro _ _ ⟨j, rfl, hj, rfl⟩
    refine ⟨fun k2 => ⟨fun r => r = (List.range (j + 1)).map fun j => if i = j then 0 else NB, fun r hr => ⟨by unfold inI; omega, ⟨j + 1, by omega, by omega, hr⟩, by first | omega | (dsimp only; omega)⟩, fun k3 => ⟨by simp; omega, ?_⟩, fun k3 => ⟨by simp; omega, ?_⟩⟩, fun k2 => ?_⟩
    · rw [List.range_succ, List.map_append]
      simp only [List.map_cons, List.map_nil]
      rw [if_pos (by omega)]
    · rw [List.range_succ, List.map_append]
      simp only [List.map_cons, List.map_nil]
      rw [if_neg (by omega)]
    · obtain rfl : j = n.toNat := by omega
      refine ⟨by simp; omega, by unfold inI; omega, ⟨i + 1, by omega, by omega, hq, ?_⟩, by first | omega | (dsimp only; omega)⟩
      rw [hrow i (by omega), List.range_succ, List.map_append]; rfl
  · obtain rfl : i = n.toNat := by omega
    rw [boundsM_eq h0.2, hq]
theorem spec_rfree (n : Int) (h0 : 1 ≤ n ∧ n ≤ 24) : FnP Try.prog 41 [.int .i64 n] (fun xR => xR = .agg ((e34 false) (boundsM freeM n))) :=
  (walk_rfree (vcp_rfree n h0)).mono (by rintro _ ⟨_, rfl, rfl⟩; rfl)
def vc_rwith (b : Bd) (f : Int) (t : Int) (w : Int) (Post : Bd → Bool → Prop) : Prop :=
  (0 ≤ t ∧ t < (b.most.length : Int)) ∧ (0 ≤ f ∧ f < ((lat b.most t).length : Int)) ∧ (¬ w = NB → ¬ (lat (lat b.most t) f) = NB → inI (w + (lat (lat b.most t) f))) ∧ (((¬ plusM w (lat (lat b.most t) f) = (1152921504606846976 : Int)) ∧ ((plusM w (lat (lat b.most t) f)) < (0 : Int))) → Post (Bd.mk 0 []) false) ∧ (¬ ((¬ plusM w (lat (lat b.most t) f) = (1152921504606846976 : Int)) ∧ ((plusM w (lat (lat b.most t) f)) < (0 : Int))) → ∃ (I1 : Int → Int → List (List Int) → Prop) (μ1 : Int → Int → List (List Int) → Nat), I1 (0 : Int) b.n [] ∧ ∀ (v12 : Int) (b2n : Int) (r3 : List (List Int)), I1 v12 b2n r3 → ((v12 < b.n) → ∃ (I2 : Int → List Int → Prop) (μ2 : Int → List Int → Nat), I2 (0 : Int) [] ∧ ∀ (v14 : Int) (r4 : List Int), I2 v14 r4 → ((v14 < b.n) → (0 ≤ v12 ∧ v12 < (b.most.length : Int)) ∧ (0 ≤ f ∧ f < ((lat b.most v12).length : Int)) ∧ (0 ≤ t ∧ t < (b.most.length : Int)) ∧ (0 ≤ v14 ∧ v14 < ((lat b.most t).length : Int)) ∧ (¬ (lat (lat b.most v12) f) = NB → ¬ w = NB → inI ((lat (lat b.most v12) f) + w)) ∧ (¬ (plusM (lat (lat b.most v12) f) w) = NB → ¬ (lat (lat b.most t) v14) = NB → inI ((plusM (lat (lat b.most v12) f) w) + (lat (lat b.most t) v14))) ∧ ∃ J3 : Int → Prop, (∀ (v15 : Int), J3 v15 → ((r4 ++ [v15]).length ≤ 1073741824) ∧ (inI (v14 + (1 : Int))) ∧ (I2 (v14 + (1 : Int)) (r4 ++ [v15]) ∧ μ2 (v14 + (1 : Int)) (r4 ++ [v15]) < μ2 v14 r4)) ∧ ((((plusM (plusM (lat (lat b.most v12) f) w) (lat (lat b.most t) v14) = (1152921504606846976 : Int)) → True) ∧ (¬ (plusM (plusM (lat (lat b.most v12) f) w) (lat (lat b.most t) v14) = (1152921504606846976 : Int)) → (0 ≤ v12 ∧ v12 < (b.most.length : Int)) ∧ (0 ≤ v14 ∧ v14 < ((lat b.most v12).length : Int)) ∧ ((¬ lat (lat b.most v12) v14 = (1152921504606846976 : Int)) → (0 ≤ v12 ∧ v12 < (b.most.length : Int)) ∧ (0 ≤ v14 ∧ v14 < ((lat b.most v12).length : Int)) ∧ True) ∧ (¬ (¬ lat (lat b.most v12) v14 = (1152921504606846976 : Int)) → True))) ∧ ((((plusM (plusM (lat (lat b.most v12) f) w) (lat (lat b.most t) v14) = (1152921504606846976 : Int)) ∨ ((¬ lat (lat b.most v12) v14 = (1152921504606846976 : Int)) ∧ ((lat (lat b.most v12) v14) ≤ (plusM (plusM (lat (lat b.most v12) f) w) (lat (lat b.most t) v14))))) → (0 ≤ v12 ∧ v12 < (b.most.length : Int)) ∧ (0 ≤ v14 ∧ v14 < ((lat b.most v12).length : Int)) ∧ J3 (lat (lat b.most v12) v14)) ∧ (¬ ((plusM (plusM (lat (lat b.most v12) f) w) (lat (lat b.most t) v14) = (1152921504606846976 : Int)) ∨ ((¬ lat (lat b.most v12) v14 = (1152921504606846976 : Int)) ∧ ((lat (lat b.most v12) v14) ≤ (plusM (plusM (lat (lat b.most v12) f) w) (lat (lat b.most t) v14))))) → J3 (plusM (plusM (lat (lat b.most v12) f) w) (lat (lat b.most t) v14)))))) ∧ (¬ (v14 < b.n) → ((r3 ++ [r4]).length ≤ 1073741824) ∧ (inI (v12 + (1 : Int))) ∧ (I1 (v12 + (1 : Int)) b2n (r3 ++ [r4]) ∧ μ1 (v12 + (1 : Int)) b2n (r3 ++ [r4]) < μ1 v12 b2n r3))) ∧ (¬ (v12 < b.n) → Post (Bd.mk b2n r3) true))
set_option maxRecDepth 100000 in
set_option maxHeartbeats 4000000 in
theorem walk_rwith {b : Bd} {f : Int} {t : Int} {w : Int} {Post : Bd → Bool → Prop} (hv : vc_rwith b f t w Post) : FnP Try.prog 42 [.agg ((e34 true) b), .int .i64 f, .int .i64 t, .int .i64 w] (fun x => ∃ q0 q1, x = .tup [.agg ((e34 false) q0), .bool q1] ∧ Post q0 q1) := by
 refine FnP.of_walk (T := tt) (nt := 111) ttOk ttMix ⟨⟨Try.f42, Try.func42, rfl, rfl, rfl, rfl⟩⟩ (by simp) ?_
 unfold vc_rwith at hv
 change W _ _ _ ⟨111, look [(0, .agg [.int .i64 b.n, .lst true b.most.length (encL (eSl eInt true) b.most)]), (1, .int .i64 f), (2, .int .i64 t), (3, .int .i64 w)], [], false⟩ _
 refine W.tr [(0, .agg _), (1, .int _ _), (2, .int _ _), (3, .int _ _)] [] ⟨rfl, rfl, rfl, rfl, trivial⟩ rfl ?_
 refine W.rL ?_
 refine cL rfl (o_box (v := .agg _) (p := 0) rfl rfl rfl ?_)
 refine cL rfl (o_alloc (p := 1) tt34 rfl rfl ?_)
 refine aB rfl rfl ?_
 refine eL ?_
 refine W.tr [(1, .int _ _), (2, .int _ _), (3, .int _ _), (4, .ptr _ _), (8, .ptr _ _)] [.box _ [.int _ _, .lst _ _ _], .box _ [.int _ _, .nilS]] ⟨rfl, rfl, rfl, rfl, rfl, trivial⟩ rfl ?_
 refine W.rL ?_
 refine mI rfl rfl ?_
 refine cL rfl (o_fa tt34 rfl tt32 rfl ?_)
 refine cL rfl (o_ldS (v := .lst _ _ _) tt32 rfl rfl ⟨_, rfl⟩ ?_)
 refine mI rfl rfl ?_
 obtain ⟨s1, hv⟩ := hv
 refine cL rfl (o_iaL tt32 tt35 rfl rfl ((encSl eInt).wd true) rfl s1 ?_)
 intro rest1
 refine cL rfl (o_ldS (v := .lst _ _ _) tt35 rfl rfl ⟨_, rfl⟩ ?_)
 refine mI rfl rfl ?_
 obtain ⟨s2, hv⟩ := hv
 refine cL rfl (o_iaL tt35 tt3 rfl rfl (encInt.wd true) rfl s2 ?_)
 intro rest2
 refine cL rfl (o_ldS (v := .int _ _) tt3 rfl rfl ⟨_, rfl⟩ ?_)
 obtain ⟨s3, hv⟩ := hv
 refine cL rfl (o_callP1 (k := 48) (fst := []) (caps := []) (ys := [.int _ _, .int _ _]) rfl rfl (spec_rsum w (lat (lat b.most t) f) s3) (Wks.cons (ag_int _ _ _ _) (Wks.cons (ag_int _ _ _ _) (Wks.refl _))) ?_)
 refine aI rfl rfl ?_
 refine eL ?_
 refine W.tr [(1, .int _ _), (2, .int _ _), (3, .int _ _), (4, .ptr _ _), (8, .ptr _ _), (10, .int _ _)] [.box _ [.int _ _, .lst _ _ _], .box _ [.int _ _, .nilS]] ⟨rfl, rfl, rfl, rfl, rfl, rfl, trivial⟩ rfl ?_
 refine W.seq' ?_
 refine W.rLm ⟨111, look [(1, .int .i64 f), (2, .int .i64 t), (3, .int .i64 w), (4, .ptr 0 0), (8, .ptr 1 0), (31, .bool (decide ((¬ plusM w (lat (lat b.most t) f) = (1152921504606846976 : Int)) ∧ ((plusM w (lat (lat b.most t) f)) < (0 : Int)))))], [.box 34 [.int .i64 b.n, .lst true b.most.length (encL (eSl eInt true) b.most)], .box 34 [.int .i64 (0 : Int), .nilS]], false⟩ ?_ ?_
 refine mI rfl rfl ?_
 refine cL rfl (o_neI rfl rfl rfl ?_)
 refine mB rfl rfl ?_
 by_cases c1 : ¬ plusM w (lat (lat b.most t) f) = (1152921504606846976 : Int)
 refine cLg rfl rfl (decide_eq_true c1) ?_
 refine mI rfl rfl ?_
 refine cLg rfl rfl (decide_eq_true c1) ?_
 refine cL rfl (o_lss rfl rfl ?_)
 refine cL rfl (o_pickT (v := .bool _) rfl (decide_eq_true c1) rfl ?_)
 refine eL ?_
 exact le_mk ⟨rfl, rfl, rfl, rfl, rfl, (congrArg AV.bool (dAndT c1 (rfl))).symm, trivial⟩ rfl
 iterate 2 refine cLs rfl rfl rfl (decide_eq_false c1) ?_
 refine cL rfl (o_pickF (v := .bool _) rfl (decide_eq_false c1) rfl ?_)
 refine eL ?_
 exact le_mk ⟨rfl, rfl, rfl, rfl, rfl, (congrArg AV.bool (dAndF c1)).symm, trivial⟩ rfl
 refine W.cn rfl (fun hc => ?_) (fun hc => ?_)
 have hv := hv.1 hc
 refine W.rL ?_
 refine cL rfl (o_build (qs := []) (cs := [.int _ _, .nilS]) tt34 rfl rfl rfl ?_)
 refine cLn (o_stB (v := .agg _) (vs := [.int _ _, .nilS]) (cs2 := [.int _ _, .nilS]) tt34 rfl rfl rfl rfl rfl (Nat.le_of_ble_eq_true rfl) rfl ?_)
 refine aB rfl rfl ?_
 refine eL ?_
 refine W.tr [(8, .ptr _ _), (9, .bool _)] [.box _ [.int _ _, .lst _ _ _], .box _ [.int _ _, .nilS]] ⟨rfl, rfl, trivial⟩ rfl ?_
 refine W.ret ?_
 refine th_ret (rt ?_)
 refine rt_c (x := .ptr _ _) rfl (ldA (cs := [.int _ _, .nilS]) tt34 rfl ⟨_, rfl⟩ rfl ?_)
 refine rt_t (v := .bool _) rfl ?_
 refine rt_n ?_
 exact ⟨_, rs_tup 5 _ (Wks.cons (rs_agg 4 _ (Wks.cons (rs_int _ _ _ _) (Wks.cons (rs_nil _ _ _ _ rfl) (Wks.refl _)))) (Wks.cons (rs_bool _ _ _) (Wks.refl _))), (Bd.mk 0 []), false, rfl, hv⟩
 have hv := hv.2 hc
 refine W.skip ?_
 refine th_nrm ?_
 refine W.tr [(1, .int _ _), (2, .int _ _), (3, .int _ _), (4, .ptr _ _), (8, .ptr _ _)] [.box _ [.int _ _, .lst _ _ _], .box _ [.int _ _, .nilS]] ⟨rfl, rfl, rfl, rfl, rfl, trivial⟩ rfl ?_
 refine W.rL ?_
 refine cL rfl (o_fa tt34 rfl tt3 rfl ?_)
 refine cL rfl (o_ldS (v := .int _ _) tt3 rfl rfl ⟨_, rfl⟩ ?_)
 refine cL rfl (o_build (qs := [(0, .int _ _)]) (cs := [.int _ _, .nilS]) tt34 rfl rfl rfl ?_)
 refine cL rfl (o_alloc (p := 2) tt34 rfl rfl ?_)
 refine cLn (o_stB (v := .agg _) (vs := [.int _ _, .nilS]) (cs2 := [.int _ _, .nilS]) tt34 rfl rfl rfl rfl rfl (Nat.le_of_ble_eq_true rfl) rfl ?_)
 refine eL ?_
 refine W.tr [(1, .int _ _), (2, .int _ _), (3, .int _ _), (4, .ptr _ _), (8, .ptr _ _), (11, .ptr _ _)] [.box _ [.int _ _, .lst _ _ _], .box _ [.int _ _, .nilS], .box _ [.int _ _, .nilS]] ⟨rfl, rfl, rfl, rfl, rfl, rfl, trivial⟩ rfl ?_
 refine W.seq' ?_
 refine W.rL ?_
 refine aI rfl rfl ?_
 refine eL ?_
 refine W.tr [(1, .int _ _), (2, .int _ _), (3, .int _ _), (4, .ptr _ _), (8, .ptr _ _), (11, .ptr _ _), (12, .int _ _)] [.box _ [.int _ _, .lst _ _ _], .box _ [.int _ _, .nilS], .box _ [.int _ _, .nilS]] ⟨rfl, rfl, rfl, rfl, rfl, rfl, rfl, trivial⟩ rfl ?_
 refine W.block ?_
 obtain ⟨I1, μ1, hp, hv⟩ := hv
 refine W.loop3 (fun v12 b2n r3 => ⟨111, look [(1, .int .i64 f), (2, .int .i64 t), (3, .int .i64 w), (4, .ptr 0 0), (8, .ptr 1 0), (11, .ptr 2 0), (12, .int .i64 v12)], [.box 34 [.int .i64 b.n, .lst true b.most.length (encL (eSl eInt true) b.most)], .box 34 [.int .i64 (0 : Int), .nilS], .box 34 [.int .i64 b2n, .ref true 3 r3.length], .row 35 1 (encL (eSl eInt false) r3)], false⟩) I1 μ1 (0 : Int) b.n [] (St.to_mk (φ := [some 0, some 1, some 2, none]) rfl (.inl rfl) ⟨Ren.int _ _, Ren.int _ _, Ren.int _ _, Ren.ptr rfl, Ren.ptr rfl, Ren.ptr rfl, Ren.int _ _, trivial⟩ ⟨.inr ⟨_, rfl, rfl, Rens.cons (Ren.int _ _) (Rens.cons (Ren.lst _ _ _) (Rens.nil))⟩, .inr ⟨_, rfl, rfl, Rens.cons (Ren.int _ _) (Rens.cons (Ren.nilS) (Rens.nil))⟩, .inr ⟨_, rfl, rfl, Rens.cons (Ren.int _ _) (Rens.cons (Ren.nilR rfl rfl) (Rens.nil))⟩, rfl, trivial⟩) hp ?_
 clear hp
 intro v12 b2n r3 hI
 replace hv := hv v12 b2n r3 hI
 clear hI
 refine W.seq' ?_
 refine W.rL ?_
 refine mI rfl rfl ?_
 refine cL rfl (o_fa tt34 rfl tt3 rfl ?_)
 refine cL rfl (o_ldS (v := .int _ _) tt3 rfl rfl ⟨_, rfl⟩ ?_)
 refine cL rfl (o_lss rfl rfl ?_)
 refine eL ?_
 refine W.tr [(1, .int _ _), (2, .int _ _), (3, .int _ _), (4, .ptr _ _), (8, .ptr _ _), (11, .ptr _ _), (12, .int _ _), (39, .bool _)] [.box _ [.int _ _, .lst _ _ _], .box _ [.int _ _, .nilS], .box _ [.int _ _, .ref _ _ _], .row _ _ _] ⟨rfl, rfl, rfl, rfl, rfl, rfl, rfl, rfl, trivial⟩ rfl ?_
 refine W.cn rfl (fun hc => ?_) (fun hc => ?_)
 have hv := hv.1 hc
 refine W.skip ?_
 refine th_nrm ?_
 refine W.tr [(1, .int _ _), (2, .int _ _), (3, .int _ _), (4, .ptr _ _), (8, .ptr _ _), (11, .ptr _ _), (12, .int _ _)] [.box _ [.int _ _, .lst _ _ _], .box _ [.int _ _, .nilS], .box _ [.int _ _, .ref _ _ _], .row _ _ _] ⟨rfl, rfl, rfl, rfl, rfl, rfl, rfl, trivial⟩ rfl ?_
 refine W.seq' ?_
 refine W.block ?_
 refine W.rL ?_
 refine cL rfl (o_assign (v := .nilS) rfl ?_)
 refine eL ?_
 refine W.tr [(1, .int _ _), (2, .int _ _), (3, .int _ _), (4, .ptr _ _), (8, .ptr _ _), (11, .ptr _ _), (12, .int _ _), (13, .nilS)] [.box _ [.int _ _, .lst _ _ _], .box _ [.int _ _, .nilS], .box _ [.int _ _, .ref _ _ _], .row _ _ _] ⟨rfl, rfl, rfl, rfl, rfl, rfl, rfl, rfl, trivial⟩ rfl ?_
 refine W.seq' ?_
 refine W.rL ?_
 refine aI rfl rfl ?_
 refine eL ?_
 refine W.tr [(1, .int _ _), (2, .int _ _), (3, .int _ _), (4, .ptr _ _), (8, .ptr _ _), (11, .ptr _ _), (12, .int _ _), (13, .nilS), (14, .int _ _)] [.box _ [.int _ _, .lst _ _ _], .box _ [.int _ _, .nilS], .box _ [.int _ _, .ref _ _ _], .row _ _ _] ⟨rfl, rfl, rfl, rfl, rfl, rfl, rfl, rfl, rfl, trivial⟩ rfl ?_
 refine W.block ?_
 obtain ⟨I2, μ2, hp, hv⟩ := hv
 refine W.loop2 (fun v14 r4 => ⟨111, look [(1, .int .i64 f), (2, .int .i64 t), (3, .int .i64 w), (4, .ptr 0 0), (8, .ptr 1 0), (11, .ptr 2 0), (12, .int .i64 v12), (13, .ref true 4 r4.length), (14, .int .i64 v14)], [.box 34 [.int .i64 b.n, .lst true b.most.length (encL (eSl eInt true) b.most)], .box 34 [.int .i64 (0 : Int), .nilS], .box 34 [.int .i64 b2n, .ref true 3 r3.length], .row 35 1 (encL (eSl eInt false) r3), .row 3 1 (encL eInt r4)], false⟩) I2 μ2 (0 : Int) [] (St.to_mk (φ := [some 0, some 1, some 2, some 3, none]) rfl (.inl rfl) ⟨Ren.int _ _, Ren.int _ _, Ren.int _ _, Ren.ptr rfl, Ren.ptr rfl, Ren.ptr rfl, Ren.int _ _, Ren.nilR rfl rfl, Ren.int _ _, trivial⟩ ⟨.inr ⟨_, rfl, rfl, Rens.cons (Ren.int _ _) (Rens.cons (Ren.lst _ _ _) (Rens.nil))⟩, .inr ⟨_, rfl, rfl, Rens.cons (Ren.int _ _) (Rens.cons (Ren.nilS) (Rens.nil))⟩, .inr ⟨_, rfl, rfl, Rens.cons (Ren.int _ _) (Rens.cons (Ren.ref rfl (fun h => rfl)) (Rens.nil))⟩, .inr ⟨_, rfl, rfl, rfl, rfl, Rens.enc (encSl eInt) false r3⟩, rfl, trivial⟩) hp ?_
 clear hp
 intro v14 r4 hI
 replace hv := hv v14 r4 hI
 clear hI
 refine W.seq' ?_
 refine W.rL ?_
 refine mI rfl rfl ?_
 refine cL rfl (o_fa tt34 rfl tt3 rfl ?_)
 refine cL rfl (o_ldS (v := .int _ _) tt3 rfl rfl ⟨_, rfl⟩ ?_)
 refine cL rfl (o_lss rfl rfl ?_)
 refine eL ?_
 refine W.tr [(1, .int _ _), (2, .int _ _), (3, .int _ _), (4, .ptr _ _), (8, .ptr _ _), (11, .ptr _ _), (12, .int _ _), (13, .ref _ _ _), (14, .int _ _), (45, .bool _)] [.box _ [.int _ _, .lst _ _ _], .box _ [.int _ _, .nilS], .box _ [.int _ _, .ref _ _ _], .row _ _ _, .row _ _ _] ⟨rfl, rfl, rfl, rfl, rfl, rfl, rfl, rfl, rfl, rfl, trivial⟩ rfl ?_
 refine W.cn rfl (fun hc => ?_) (fun hc => ?_)
 have hv := hv.1 hc
 refine W.skip ?_
 refine th_nrm ?_
 refine W.tr [(1, .int _ _), (2, .int _ _), (3, .int _ _), (4, .ptr _ _), (8, .ptr _ _), (11, .ptr _ _), (12, .int _ _), (13, .ref _ _ _), (14, .int _ _)] [.box _ [.int _ _, .lst _ _ _], .box _ [.int _ _, .nilS], .box _ [.int _ _, .ref _ _ _], .row _ _ _, .row _ _ _] ⟨rfl, rfl, rfl, rfl, rfl, rfl, rfl, rfl, rfl, trivial⟩ rfl ?_
 refine W.seq' ?_
 refine W.block ?_
 refine W.rP [0, 1, 2, 3, 4, 5, 6, 7, 8, 10, 11, 12, 13, 14, 15, 16, 17, 9, 18, 19] (by decide +kernel) rfl ?_
 refine cL rfl (o_fa tt34 rfl tt32 rfl ?_)
 refine cL rfl (o_ldS (v := .lst _ _ _) tt32 rfl rfl ⟨_, rfl⟩ ?_)
 refine mI rfl rfl ?_
 obtain ⟨s3900, hv⟩ := hv
 refine cL rfl (o_iaL tt32 tt35 rfl rfl ((encSl eInt).wd true) rfl s3900 ?_)
 intro rest3900
 refine cL rfl (o_ldS (v := .lst _ _ _) tt35 rfl rfl ⟨_, rfl⟩ ?_)
 refine mI rfl rfl ?_
 obtain ⟨s3901, hv⟩ := hv
 refine cL rfl (o_iaL tt35 tt3 rfl rfl (encInt.wd true) rfl s3901 ?_)
 intro rest3901
 refine cL rfl (o_ldS (v := .int _ _) tt3 rfl rfl ⟨_, rfl⟩ ?_)
 refine mI rfl rfl ?_
 refine cL rfl (o_fa tt34 rfl tt32 rfl ?_)
 refine cL rfl (o_ldS (v := .lst _ _ _) tt32 rfl rfl ⟨_, rfl⟩ ?_)
 refine mI rfl rfl ?_
 obtain ⟨s3902, hv⟩ := hv
 refine cL rfl (o_iaL tt32 tt35 rfl rfl ((encSl eInt).wd true) rfl s3902 ?_)
 intro rest3902
 refine cL rfl (o_ldS (v := .lst _ _ _) tt35 rfl rfl ⟨_, rfl⟩ ?_)
 refine mI rfl rfl ?_
 obtain ⟨s3903, hv⟩ := hv
 refine cL rfl (o_iaL tt35 tt3 rfl rfl (encInt.wd true) rfl s3903 ?_)
 intro rest3903
 refine cL rfl (o_ldS (v := .int _ _) tt3 rfl rfl ⟨_, rfl⟩ ?_)
 obtain ⟨s3904, hv⟩ := hv
 refine cL rfl (o_callP1 (k := 48) (fst := []) (caps := []) (ys := [.int _ _, .int _ _]) rfl rfl (spec_rsum (lat (lat b.most v12) f) w s3904) (Wks.cons (ag_int _ _ _ _) (Wks.cons (ag_int _ _ _ _) (Wks.refl _))) ?_)
 obtain ⟨s3905, hv⟩ := hv
 refine cL rfl (o_callP1 (k := 48) (fst := []) (caps := []) (ys := [.int _ _, .int _ _]) rfl rfl (spec_rsum (plusM (lat (lat b.most v12) f) w) (lat (lat b.most t) v14) s3905) (Wks.cons (ag_int _ _ _ _) (Wks.cons (ag_int _ _ _ _) (Wks.refl _))) ?_)
 refine aI rfl rfl ?_
 refine eL ?_
 refine W.tr [(1, .int _ _), (2, .int _ _), (3, .int _ _), (4, .ptr _ _), (8, .ptr _ _), (11, .ptr _ _), (12, .int _ _), (13, .ref _ _ _), (14, .int _ _), (15, .int _ _)] [.box _ [.int _ _, .lst _ _ _], .box _ [.int _ _, .nilS], .box _ [.int _ _, .ref _ _ _], .row _ _ _, .row _ _ _] ⟨rfl, rfl, rfl, rfl, rfl, rfl, rfl, rfl, rfl, rfl, trivial⟩ rfl ?_
 obtain ⟨J3, hj, hv⟩ := hv
 refine W.mid1 (fun v15 => ⟨111, look [(1, .int .i64 f), (2, .int .i64 t), (3, .int .i64 w), (4, .ptr 0 0), (8, .ptr 1 0), (11, .ptr 2 0), (12, .int .i64 v12), (13, .ref true 4 r4.length), (14, .int .i64 v14), (15, .int .i64 v15)], [.box 34 [.int .i64 b.n, .lst true b.most.length (encL (eSl eInt true) b.most)], .box 34 [.int .i64 (0 : Int), .nilS], .box 34 [.int .i64 b2n, .ref true 3 r3.length], .row 35 1 (encL (eSl eInt false) r3), .row 3 1 (encL eInt r4)], false⟩) J3 ?_ ?_
 intro v15
 intro hv
 replace hv := hj v15 hv
 refine W.rL1 ?_
 refine cL rfl (o_move (v := .ref _ _ _) rfl ?_)
 refine mI rfl rfl ?_
 refine cL rfl (o_bs1 (v := .int _ _) (q := 5) tt35 tt3 rfl rfl rfl rfl rfl rfl rfl rfl ?_)
 obtain ⟨s3916, hv⟩ := hv
 refine cL rfl (o_apR (p := 6) (q := (r4 ++ [v15]).length) tt35 tt3 rfl rfl (src_ref rfl rfl) rfl rfl (encL_length (encInt.wd false) _) (Nat.le_trans (Nat.le_of_eq (@List.length_append _ (r4) ([v15])).symm) s3916) rfl (@List.length_append _ (r4) ([v15])).symm (encL_app eInt r4 [v15]) ?_)
 refine cL rfl (o_assign (v := .ref _ _ _) rfl ?_)
 refine eL ?_
 refine bl_nrm (th_nrm ?_)
 refine W.tr [(1, .int _ _), (2, .int _ _), (3, .int _ _), (4, .ptr _ _), (8, .ptr _ _), (11, .ptr _ _), (12, .int _ _), (13, .ref _ _ _), (14, .int _ _)] [.box _ [.int _ _, .lst _ _ _], .box _ [.int _ _, .nilS], .box _ [.int _ _, .ref _ _ _], .row _ _ _, .dead, .row _ _ _, .row _ _ _] ⟨rfl, rfl, rfl, rfl, rfl, rfl, rfl, rfl, rfl, trivial⟩ rfl ?_
 refine W.rL1 ?_
 refine mI rfl rfl ?_
 obtain ⟨s3917, hv⟩ := hv
 refine cL rfl (o_add rfl rfl s3917 ?_)
 refine aI rfl rfl ?_
 refine eL ?_
 exact th_nrm (⟨(), (v14 + (1 : Int)), (r4 ++ [v15]), hv, St.to_mk (φ := [some 0, some 1, some 2, some 3, some 6]) rfl (.inl rfl) ⟨Ren.int _ _, Ren.int _ _, Ren.int _ _, Ren.ptr rfl, Ren.ptr rfl, Ren.ptr rfl, Ren.int _ _, Ren.ref rfl (fun h => rfl), Ren.int _ _, trivial⟩ ⟨.inr ⟨_, rfl, rfl, Rens.cons (Ren.int _ _) (Rens.cons (Ren.lst _ _ _) (Rens.nil))⟩, .inr ⟨_, rfl, rfl, Rens.cons (Ren.int _ _) (Rens.cons (Ren.nilS) (Rens.nil))⟩, .inr ⟨_, rfl, rfl, Rens.cons (Ren.int _ _) (Rens.cons (Ren.ref rfl (fun h => rfl)) (Rens.nil))⟩, .inr ⟨_, rfl, rfl, rfl, rfl, Rens.enc (encSl eInt) false r3⟩, .inr ⟨_, rfl, rfl, rfl, rfl, Rens.enc encInt false (r4 ++ [v15])⟩, trivial⟩⟩)
 clear hj
 obtain ⟨sd, hv⟩ := hv
 refine W.rLm ⟨111, look [(1, .int .i64 f), (2, .int .i64 t), (3, .int .i64 w), (4, .ptr 0 0), (8, .ptr 1 0), (11, .ptr 2 0), (12, .int .i64 v12), (13, .ref true 4 r4.length), (14, .int .i64 v14), (15, .int .i64 (plusM (plusM (lat (lat b.most v12) f) w) (lat (lat b.most t) v14))), (91, .bool (decide ((plusM (plusM (lat (lat b.most v12) f) w) (lat (lat b.most t) v14) = (1152921504606846976 : Int)) ∨ ((¬ lat (lat b.most v12) v14 = (1152921504606846976 : Int)) ∧ ((lat (lat b.most v12) v14) ≤ (plusM (plusM (lat (lat b.most v12) f) w) (lat (lat b.most t) v14)))))))], [.box 34 [.int .i64 b.n, .lst true b.most.length (encL (eSl eInt true) b.most)], .box 34 [.int .i64 (0 : Int), .nilS], .box 34 [.int .i64 b2n, .ref true 3 r3.length], .row 35 1 (encL (eSl eInt false) r3), .row 3 1 (encL eInt r4)], false⟩ ?_ ?_
 refine mI rfl rfl ?_
 refine cL rfl (o_eqI rfl rfl rfl ?_)
 refine mB rfl rfl ?_
 by_cases c1 : plusM (plusM (lat (lat b.most v12) f) w) (lat (lat b.most t) v14) = (1152921504606846976 : Int)
 iterate 10 refine cLs rfl rfl rfl (decide_eq_true c1) ?_
 iterate 10 refine cLu rfl rfl rfl ?_
 refine cLs rfl rfl rfl (decide_eq_true c1) ?_
 refine cL rfl (o_pickT (v := .bool _) rfl (decide_eq_true c1) rfl ?_)
 refine eL ?_
 exact le_mk ⟨rfl, rfl, rfl, rfl, rfl, rfl, rfl, rfl, rfl, rfl, (congrArg AV.bool (dOrT c1)).symm, trivial⟩ rfl
 have sd := sd.2 c1
 refine cLg rfl rfl (decide_eq_false c1) ?_
 refine cL rfl (o_fa tt34 rfl tt32 rfl ?_)
 refine cLg rfl rfl (decide_eq_false c1) ?_
 refine cL rfl (o_ldS (v := .lst _ _ _) tt32 rfl rfl ⟨_, rfl⟩ ?_)
 refine cLg rfl rfl (decide_eq_false c1) ?_
 refine mI rfl rfl ?_
 refine cLg rfl rfl (decide_eq_false c1) ?_
 obtain ⟨s3922, sd⟩ := sd
 refine cL rfl (o_iaL tt32 tt35 rfl rfl ((encSl eInt).wd true) rfl s3922 ?_)
 intro rest3922
 refine cLg rfl rfl (decide_eq_false c1) ?_
 refine cL rfl (o_ldS (v := .lst _ _ _) tt35 rfl rfl ⟨_, rfl⟩ ?_)
 refine cLg rfl rfl (decide_eq_false c1) ?_
 refine mI rfl rfl ?_
 refine cLg rfl rfl (decide_eq_false c1) ?_
 obtain ⟨s3923, sd⟩ := sd
 refine cL rfl (o_iaL tt35 tt3 rfl rfl (encInt.wd true) rfl s3923 ?_)
 intro rest3923
 refine cLg rfl rfl (decide_eq_false c1) ?_
 refine cL rfl (o_ldS (v := .int _ _) tt3 rfl rfl ⟨_, rfl⟩ ?_)
 refine cLg rfl rfl (decide_eq_false c1) ?_
 refine cL rfl (o_neI rfl rfl rfl ?_)
 refine cLg rfl rfl (decide_eq_false c1) ?_
 refine mB rfl rfl ?_
 by_cases c2 : ¬ lat (lat b.most v12) v14 = (1152921504606846976 : Int)
 have sd := sd.1 c2
 refine cLg rfl rfl (decide_eq_true c2) ?_
 refine cL rfl (o_fa tt34 rfl tt32 rfl ?_)
 refine cLg rfl rfl (decide_eq_true c2) ?_
 refine cL rfl (o_ldS (v := .lst _ _ _) tt32 rfl rfl ⟨_, rfl⟩ ?_)
 refine cLg rfl rfl (decide_eq_true c2) ?_
 refine mI rfl rfl ?_
 refine cLg rfl rfl (decide_eq_true c2) ?_
 obtain ⟨s3924, sd⟩ := sd
 refine cL rfl (o_iaL tt32 tt35 rfl rfl ((encSl eInt).wd true) rfl s3924 ?_)
 intro rest3924
 refine cLg rfl rfl (decide_eq_true c2) ?_
 refine cL rfl (o_ldS (v := .lst _ _ _) tt35 rfl rfl ⟨_, rfl⟩ ?_)
 refine cLg rfl rfl (decide_eq_true c2) ?_
 refine mI rfl rfl ?_
 refine cLg rfl rfl (decide_eq_true c2) ?_
 obtain ⟨s3925, sd⟩ := sd
 refine cL rfl (o_iaL tt35 tt3 rfl rfl (encInt.wd true) rfl s3925 ?_)
 intro rest3925
 refine cLg rfl rfl (decide_eq_true c2) ?_
 refine cL rfl (o_ldS (v := .int _ _) tt3 rfl rfl ⟨_, rfl⟩ ?_)
 refine cLg rfl rfl (decide_eq_true c2) ?_
 refine mI rfl rfl ?_
 refine cLg rfl rfl (decide_eq_true c2) ?_
 refine cL rfl (o_leq rfl rfl ?_)
 refine cLg rfl rfl (decide_eq_false c1) ?_
 refine cL rfl (o_pickT (v := .bool _) rfl (decide_eq_true c2) rfl ?_)
 refine cL rfl (o_pickF (v := .bool _) rfl (decide_eq_false c1) rfl ?_)
 refine eL ?_
 exact le_mk ⟨rfl, rfl, rfl, rfl, rfl, rfl, rfl, rfl, rfl, rfl, (congrArg AV.bool (dOrF c1 (dAndT c2 (rfl)))).symm, trivial⟩ rfl
 iterate 10 refine cLs rfl rfl rfl (decide_eq_false c2) ?_
 refine cLg rfl rfl (decide_eq_false c1) ?_
 refine cL rfl (o_pickF (v := .bool _) rfl (decide_eq_false c2) rfl ?_)
 refine cL rfl (o_pickF (v := .bool _) rfl (decide_eq_false c1) rfl ?_)
 refine eL ?_
 exact le_mk ⟨rfl, rfl, rfl, rfl, rfl, rfl, rfl, rfl, rfl, rfl, (congrArg AV.bool (dOrF c1 (dAndF c2))).symm, trivial⟩ rfl
 refine W.cn rfl (fun hc => ?_) (fun hc => ?_)
 have hv := hv.1 hc
 refine W.rL1 ?_
 refine cL rfl (o_fa tt34 rfl tt32 rfl ?_)
 refine cL rfl (o_ldS (v := .lst _ _ _) tt32 rfl rfl ⟨_, rfl⟩ ?_)
 refine mI rfl rfl ?_
 obtain ⟨s3926, hv⟩ := hv
 refine cL rfl (o_iaL tt32 tt35 rfl rfl ((encSl eInt).wd true) rfl s3926 ?_)
 intro rest3926
 refine cL rfl (o_ldS (v := .lst _ _ _) tt35 rfl rfl ⟨_, rfl⟩ ?_)
 refine mI rfl rfl ?_
 obtain ⟨s3927, hv⟩ := hv
 refine cL rfl (o_iaL tt35 tt3 rfl rfl (encInt.wd true) rfl s3927 ?_)
 intro rest3927
 refine cL rfl (o_ldS (v := .int _ _) tt3 rfl rfl ⟨_, rfl⟩ ?_)
 refine aI rfl rfl ?_
 refine eL ?_
 exact th_nrm (⟨(), (lat (lat b.most v12) v14), hv, St.to_mk (φ := [some 0, some 1, some 2, some 3, some 4]) rfl (.inl rfl) ⟨Ren.int _ _, Ren.int _ _, Ren.int _ _, Ren.ptr rfl, Ren.ptr rfl, Ren.ptr rfl, Ren.int _ _, Ren.ref rfl (fun h => rfl), Ren.int _ _, Ren.int _ _, trivial⟩ ⟨.inr ⟨_, rfl, rfl, Rens.cons (Ren.int _ _) (Rens.cons (Ren.lst _ _ _) (Rens.nil))⟩, .inr ⟨_, rfl, rfl, Rens.cons (Ren.int _ _) (Rens.cons (Ren.nilS) (Rens.nil))⟩, .inr ⟨_, rfl, rfl, Rens.cons (Ren.int _ _) (Rens.cons (Ren.ref rfl (fun h => rfl)) (Rens.nil))⟩, .inr ⟨_, rfl, rfl, rfl, rfl, Rens.enc (encSl eInt) false r3⟩, .inr ⟨_, rfl, rfl, rfl, rfl, Rens.enc encInt false r4⟩, trivial⟩⟩)
 have hv := hv.2 hc
 refine W.skip ?_
 exact th_nrm (⟨(), (plusM (plusM (lat (lat b.most v12) f) w) (lat (lat b.most t) v14)), hv, St.to_mk (φ := [some 0, some 1, some 2, some 3, some 4]) rfl (.inl rfl) ⟨Ren.int _ _, Ren.int _ _, Ren.int _ _, Ren.ptr rfl, Ren.ptr rfl, Ren.ptr rfl, Ren.int _ _, Ren.ref rfl (fun h => rfl), Ren.int _ _, Ren.int _ _, trivial⟩ ⟨.inr ⟨_, rfl, rfl, Rens.cons (Ren.int _ _) (Rens.cons (Ren.lst _ _ _) (Rens.nil))⟩, .inr ⟨_, rfl, rfl, Rens.cons (Ren.int _ _) (Rens.cons (Ren.nilS) (Rens.nil))⟩, .inr ⟨_, rfl, rfl, Rens.cons (Ren.int _ _) (Rens.cons (Ren.ref rfl (fun h => rfl)) (Rens.nil))⟩, .inr ⟨_, rfl, rfl, rfl, rfl, Rens.enc (encSl eInt) false r3⟩, .inr ⟨_, rfl, rfl, rfl, rfl, Rens.enc encInt false r4⟩, trivial⟩⟩)
 have hv := hv.2 hc
 refine W.exit ?_
 refine th_exit (th_exit (bl_hit (th_nrm ?_)))
 refine W.tr [(1, .int _ _), (2, .int _ _), (3, .int _ _), (4, .ptr _ _), (8, .ptr _ _), (11, .ptr _ _), (12, .int _ _), (13, .ref _ _ _)] [.box _ [.int _ _, .lst _ _ _], .box _ [.int _ _, .nilS], .box _ [.int _ _, .ref _ _ _], .row _ _ _, .row _ _ _] ⟨rfl, rfl, rfl, rfl, rfl, rfl, rfl, rfl, trivial⟩ rfl ?_
 refine W.sealH false 4 (l := [(1, .int .i64 f), (2, .int .i64 t), (3, .int .i64 w), (4, .ptr 0 0), (8, .ptr 1 0), (11, .ptr 2 0), (12, .int .i64 v12), (13, .lst false r4.length (encL eInt r4))]) rfl (encL_sl encInt false r4) ⟨.inl rfl, .inl rfl, .inl rfl, .inl rfl, .inl rfl, .inl rfl, .inl rfl, .inr ⟨_, _, rfl, (encL_length (encInt.wd false) _), rfl⟩, trivial⟩ rfl ?_
 refine W.rL1 ?_
 refine cL rfl (o_fa tt34 rfl tt32 rfl ?_)
 refine cL rfl (o_ldS (v := .ref _ _ _) tt32 rfl rfl ⟨_, rfl⟩ ?_)
 refine mL rfl rfl ?_
 refine cL rfl (o_bs1 (v := .lst _ _ _) (q := 5) tt32 tt35 rfl rfl rfl rfl rfl rfl rfl rfl ?_)
 obtain ⟨s3928, hv⟩ := hv
 refine cL rfl (o_apR (p := 6) (q := (r3 ++ [r4]).length) tt32 tt35 rfl rfl (src_ref rfl rfl) rfl rfl (encL_length ((encSl eInt).wd false) _) (Nat.le_trans (Nat.le_of_eq (@List.length_append _ (r3) ([r4])).symm) s3928) rfl (@List.length_append _ (r3) ([r4])).symm (encL_app (eSl eInt false) r3 [r4]) ?_)
 refine cL rfl (o_fa tt34 rfl tt32 rfl ?_)
 refine cLn (o_stB (v := .ref _ _ _) (vs := [.ref _ _ _]) (cs2 := [.int _ _, .ref _ _ _]) tt32 rfl rfl rfl rfl rfl (Nat.le_of_ble_eq_true rfl) rfl ?_)
 refine eL ?_
 refine bl_nrm (th_nrm ?_)
 refine W.tr [(1, .int _ _), (2, .int _ _), (3, .int _ _), (4, .ptr _ _), (8, .ptr _ _), (11, .ptr _ _), (12, .int _ _)] [.box _ [.int _ _, .lst _ _ _], .box _ [.int _ _, .nilS], .box _ [.int _ _, .ref _ _ _], .dead, .dead, .row _ _ _, .row _ _ _] ⟨rfl, rfl, rfl, rfl, rfl, rfl, rfl, trivial⟩ rfl ?_
 refine W.rL1 ?_
 refine mI rfl rfl ?_
 obtain ⟨s3929, hv⟩ := hv
 refine cL rfl (o_add rfl rfl s3929 ?_)
 refine aI rfl rfl ?_
 refine eL ?_
 exact th_nrm (⟨(), (v12 + (1 : Int)), b2n, (r3 ++ [r4]), hv, St.to_mk (φ := [some 0, some 1, some 2, some 6]) rfl (.inl rfl) ⟨Ren.int _ _, Ren.int _ _, Ren.int _ _, Ren.ptr rfl, Ren.ptr rfl, Ren.ptr rfl, Ren.int _ _, trivial⟩ ⟨.inr ⟨_, rfl, rfl, Rens.cons (Ren.int _ _) (Rens.cons (Ren.lst _ _ _) (Rens.nil))⟩, .inr ⟨_, rfl, rfl, Rens.cons (Ren.int _ _) (Rens.cons (Ren.nilS) (Rens.nil))⟩, .inr ⟨_, rfl, rfl, Rens.cons (Ren.int _ _) (Rens.cons (Ren.ref rfl (fun h => rfl)) (Rens.nil))⟩, .inr ⟨_, rfl, rfl, rfl, rfl, Rens.enc (encSl eInt) false (r3 ++ [r4])⟩, trivial⟩⟩)
 have hv := hv.2 hc
 refine W.exit ?_
 refine th_exit (th_exit (bl_hit (th_nrm ?_)))
 refine W.tr [(8, .ptr _ _), (11, .ptr _ _)] [.box _ [.int _ _, .lst _ _ _], .box _ [.int _ _, .nilS], .box _ [.int _ _, .ref _ _ _], .row _ _ _] ⟨rfl, rfl, trivial⟩ rfl ?_
 refine W.rL ?_
 refine cL rfl (o_ldA (cs := [.int _ _, .ref _ _ _]) tt34 rfl rfl ⟨_, rfl⟩ rfl ?_)
 refine cLn (o_stB (v := .agg _) (vs := [.int _ _, .ref _ _ _]) (cs2 := [.int _ _, .ref _ _ _]) tt34 rfl rfl rfl rfl rfl (Nat.le_of_ble_eq_true rfl) rfl ?_)
 refine aB rfl rfl ?_
 refine eL ?_
 refine W.tr [(8, .ptr _ _), (9, .bool _)] [.box _ [.int _ _, .lst _ _ _], .box _ [.int _ _, .ref _ _ _], .box _ [.int _ _, .ref _ _ _], .row _ _ _] ⟨rfl, rfl, trivial⟩ rfl ?_
 refine W.ret ?_
 refine rt ?_
 refine rt_c (x := .ptr _ _) rfl (ldA (cs := [.int _ _, .ref _ _ _]) tt34 rfl ⟨_, rfl⟩ rfl ?_)
 refine rt_t (v := .bool _) rfl ?_
 refine rt_n ?_
 exact ⟨_, rs_tup 5 _ (Wks.cons (rs_agg 4 _ (Wks.cons (rs_int _ _ _ _) (Wks.cons (rs_ref (encSl eInt) 2 _ rfl rfl) (Wks.refl _)))) (Wks.cons (rs_bool _ _ _) (Wks.refl _))), (Bd.mk b2n r3), true, rfl, hv⟩
theorem vcp_rwith (b : Bd) (f : Int) (t : Int) (w : Int) (h0 : WithOk b f t w) : vc_rwith b f t w (fun q0 q1 => q0 = (withM b f t w).1 ∧ q1 = (withM b f t w).2) := by
  unfold vc_rwith
  have hnb := hNB
  obtain ⟨⟨hn1, hn2, hn3⟩, hrow, hf, ht, hw, he⟩ := h0
  have hbl : ∀ i : Int, 0 ≤ i ∧ i < b.most.length → (lat b.most i).length = b.most.length := fun i hi => lat_blen hrow hi
  have heb : ∀ i j : Int, (0 ≤ i ∧ i < b.n) → (0 ≤ j ∧ j < b.n) → bm b i.toNat j.toNat = NB ∨ (-288230376151711744 ≤ bm b i.toNat j.toNat ∧ bm b i.toNat j.toNat ≤ 288230376151711744) := fun i j hi hj => he _ _ (by omega) (by omega)
  have hft := hbl f (by omega)
  have htt := hbl t (by omega)
  have e0 := heb t f ht hf
  rw [lat_bm (b := b) ht.1 hf.1]
  refine ⟨by omega, by omega, fun _ _ => by unfold inI; omega, fun k1 => ?_, fun k1 => ?_⟩
  · unfold withM
    rw [if_pos k1]; exact ⟨rfl, rfl⟩
  have hM : withM b f t w = (⟨b.n, (List.range b.n.toNat).map fun i => (List.range b.n.toNat).map fun j => withE b f.toNat t.toNat w i j⟩, true) := by unfold withM; rw [if_neg k1]
  rw [hM]
  refine ⟨fun v q r => ∃ i : Nat, v = i ∧ i ≤ b.n.toNat ∧ q = b.n ∧ r = (List.range i).map fun i => (List.range b.n.toNat).map fun j => withE b f.toNat t.toNat w i j, fun v _ _ => b.n.toNat - v.toNat, ⟨0, rfl, by omega, rfl, rfl⟩, ?_⟩
  rintro _ _ _ ⟨i, rfl, hi, rfl, rfl⟩
  refine ⟨fun k2 => ⟨fun v r => ∃ j : Nat, v = j ∧ j ≤ b.n.toNat ∧ r = (List.range j).map fun j => withE b f.toNat t.toNat w i j, fun v _ => b.n.toNat - v.toNat, ⟨0, rfl, by omega, rfl⟩, ?_⟩, fun k2 => ?_⟩
  · rintro _ _ ⟨j, rfl, hj, rfl⟩
    refine ⟨fun k3 => ?_, fun k3 => ?_⟩
    · have hil := hbl (i : Int) (by omega)
      have e1 := heb (i : Int) f (by omega) hf
      have e2 := heb t (j : Int) ht (by omega)
      have e3 := heb (i : Int) (j : Int) (by omega) (by omega)
      rw [lat_bm (b := b) (i := (i : Int)) (by omega) hf.1, lat_bm (b := b) (i := t) (j := (j : Int)) ht.1 (by omega), lat_bm (b := b) (i := (i : Int)) (j := (j : Int)) (by omega) (by omega)]
      simp only [Int.toNat_natCast] at e1 e2 e3 ⊢
      have hp : plusM (bm b i f.toNat) w = NB ∨ (-360287970189639680 ≤ plusM (bm b i f.toNat) w ∧ plusM (bm b i f.toNat) w ≤ 360287970189639680) := by
        rcases e1 with h | h
        · exact .inl (plusM_inf (.inl h))
        · rw [plusM_nb (by omega) (by omega)]; exact .inr (by omega)
      refine ⟨by omega, by omega, by omega, by omega, fun _ _ => by unfold inI; omega, fun _ _ => by unfold inI; omega, fun v => v = withE b f.toNat t.toNat w i j, fun v hv => ⟨by simp; omega, by unfold inI; omega, ⟨j + 1, by omega, by omega, ?_⟩, by first | omega | (dsimp only; omega)⟩, ⟨fun _ => trivial, fun _ => ⟨by omega, by omega, fun _ => ⟨by omega, by omega, trivial⟩, fun _ => trivial⟩⟩, fun k4 => ⟨by omega, by omega, ?_⟩, fun k4 => ?_⟩
      · rw [hv, List.range_succ, List.map_append]; rfl
      · unfold withE; rw [if_pos k4]
      · unfold withE; rw [if_neg k4]
    · obtain rfl : j = b.n.toNat := by omega
      refine ⟨by simp; omega, by unfold inI; omega, ⟨i + 1, by omega, by omega, rfl, ?_⟩, by first | omega | (dsimp only; omega)⟩
      rw [List.range_succ, List.map_append]; rfl
  · obtain rfl : i = b.n.toNat := by omega
    exact ⟨rfl, rfl⟩
theorem spec_rwith (b : Bd) (f : Int) (t : Int) (w : Int) (h0 : WithOk b f t w) : FnP Try.prog 42 [.agg ((e34 true) b), .int .i64 f, .int .i64 t, .int .i64 w] (fun xR => xR = .tup [.agg ((e34 false) ((withM b f t w).1)), .bool ((withM b f t w).2)]) :=
  (walk_rwith (vcp_rwith b f t w h0)).mono (by rintro _ ⟨_, _, rfl, rfl, rfl⟩; rfl)
end Go.Lat
