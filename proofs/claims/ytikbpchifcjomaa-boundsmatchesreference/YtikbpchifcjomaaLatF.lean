/- The law latecomerlaw07.BoundsMatchesReference returns true for every input, and each argument reads afterwards as it read before. Part 6 of 13. No condition. -/
import Derived.Test.YtikbpchifcjomaaLatD
import Derived.Test.YtikbpchifcjomaaLatE
set_option linter.unusedVariables false
set_option linter.unusedSimpArgs false
set_option linter.unnecessarySimpa false
namespace Go.Lat
open Go.RowKit Go.Proofs
attribute [local irreducible] closeM rangeM pointM addBM cycleM holdsM validBM sameM madeM pickM plusM validM possM firstM tableM longerM boundsM ofM addM freeM
def vc_vald (b : Bd) (Post : Bool → Prop) : Prop :=
  (((b.n < (1 : Int)) ∨ (((24 : Int) < b.n) ∨ (¬ ((b.most.length : Nat) : Int) = b.n))) → Post false) ∧ (¬ ((b.n < (1 : Int)) ∨ (((24 : Int) < b.n) ∨ (¬ ((b.most.length : Nat) : Int) = b.n))) → ∃ (I1 : Int → Prop) (μ1 : Int → Nat), I1 (0 : Int) ∧ ∀ (v32 : Int), I1 v32 → ((v32 < ((b.most.length : Nat) : Int)) → (0 ≤ v32 ∧ v32 < (b.most.length : Int)) ∧ (((¬ (((lat b.most v32).length : Nat) : Int) = b.n) → True) ∧ (¬ (¬ (((lat b.most v32).length : Nat) : Int) = b.n) → (0 ≤ v32 ∧ v32 < ((lat b.most v32).length : Int)) ∧ True)) ∧ ((((¬ (((lat b.most v32).length : Nat) : Int) = b.n) ∨ (¬ lat (lat b.most v32) v32 = (0 : Int))) → Post false) ∧ (¬ ((¬ (((lat b.most v32).length : Nat) : Int) = b.n) ∨ (¬ lat (lat b.most v32) v32 = (0 : Int))) → ∃ (I2 : Int → Prop) (μ2 : Int → Nat), I2 (0 : Int) ∧ ∀ (v51 : Int), I2 v51 → ((v51 < (((lat b.most v32).length : Nat) : Int)) → (0 ≤ v51 ∧ v51 < ((lat b.most v32).length : Int)) ∧ (((¬ lat (lat b.most v32) v51 = (1152921504606846976 : Int)) ∧ (((lat (lat b.most v32) v51) < (-36028797018963968 : Int)) ∨ ((36028797018963968 : Int) < (lat (lat b.most v32) v51)))) → Post false) ∧ (¬ ((¬ lat (lat b.most v32) v51 = (1152921504606846976 : Int)) ∧ (((lat (lat b.most v32) v51) < (-36028797018963968 : Int)) ∨ ((36028797018963968 : Int) < (lat (lat b.most v32) v51)))) → (inI (v51 + (1 : Int))) ∧ (I2 (v51 + (1 : Int)) ∧ μ2 (v51 + (1 : Int)) < μ2 v51))) ∧ (¬ (v51 < (((lat b.most v32).length : Nat) : Int)) → (inI (v32 + (1 : Int))) ∧ (I1 (v32 + (1 : Int)) ∧ μ1 (v32 + (1 : Int)) < μ1 v32))))) ∧ (¬ (v32 < ((b.most.length : Nat) : Int)) → ∃ (I3 : Int → Prop) (μ3 : Int → Nat), I3 (0 : Int) ∧ ∀ (v70 : Int), I3 v70 → ((v70 < ((b.most.length : Nat) : Int)) → (0 ≤ v70 ∧ v70 < (b.most.length : Int)) ∧ ∃ (I4 : Int → Prop) (μ4 : Int → Nat), I4 (0 : Int) ∧ ∀ (v77 : Int), I4 v77 → ((v77 < (((lat b.most v70).length : Nat) : Int)) → ∃ J5 : Prop, (J5 → (inI (v77 + (1 : Int))) ∧ (I4 (v77 + (1 : Int)) ∧ μ4 (v77 + (1 : Int)) < μ4 v77)) ∧ ((0 ≤ v77 ∧ v77 < ((lat b.most v70).length : Int)) ∧ ((lat (lat b.most v70) v77 = (1152921504606846976 : Int)) → J5) ∧ (¬ (lat (lat b.most v70) v77 = (1152921504606846976 : Int)) → (0 ≤ v77 ∧ v77 < (b.most.length : Int)) ∧ ∃ (I6 : Int → Prop) (μ6 : Int → Nat), I6 (0 : Int) ∧ ∀ (v90 : Int), I6 v90 → ((v90 < (((lat b.most v77).length : Nat) : Int)) → (0 ≤ v90 ∧ v90 < ((lat b.most v77).length : Int)) ∧ (0 ≤ v70 ∧ v70 < (b.most.length : Int)) ∧ (0 ≤ v90 ∧ v90 < ((lat b.most v70).length : Int)) ∧ (¬ (lat (lat b.most v70) v77) = NB → ¬ (lat (lat b.most v77) v90) = NB → inI ((lat (lat b.most v70) v77) + (lat (lat b.most v77) v90))) ∧ (((plusM (lat (lat b.most v70) v77) (lat (lat b.most v77) v90)) < (lat (lat b.most v70) v90)) → Post false) ∧ (¬ ((plusM (lat (lat b.most v70) v77) (lat (lat b.most v77) v90)) < (lat (lat b.most v70) v90)) → (inI (v90 + (1 : Int))) ∧ (I6 (v90 + (1 : Int)) ∧ μ6 (v90 + (1 : Int)) < μ6 v90))) ∧ (¬ (v90 < (((lat b.most v77).length : Nat) : Int)) → J5)))) ∧ (¬ (v77 < (((lat b.most v70).length : Nat) : Int)) → (inI (v70 + (1 : Int))) ∧ (I3 (v70 + (1 : Int)) ∧ μ3 (v70 + (1 : Int)) < μ3 v70))) ∧ (¬ (v70 < ((b.most.length : Nat) : Int)) → Post true)))
set_option maxRecDepth 100000 in
set_option maxHeartbeats 4000000 in
theorem walk_vald {b : Bd} {Post : Bool → Prop} (hv : vc_vald b Post) : FnP Try.prog 25 [.agg ((e34 true) b)] (fun x => ∃ q0, x = .bool q0 ∧ Post q0) := by
 refine FnP.of_walk (T := tt) (nt := 110) ttOk ttMix ⟨⟨Try.f25, Try.func25, rfl, rfl, rfl, rfl⟩⟩ (by simp) ?_
 unfold vc_vald at hv
 change W _ _ _ ⟨110, look [(0, .agg [.int .i64 b.n, .lst true b.most.length (encL (eSl eInt true) b.most)])], [], false⟩ _
 refine W.tr [(0, .agg _)] [] ⟨rfl, trivial⟩ rfl ?_
 refine W.rL ?_
 refine cL rfl (o_box (v := .agg _) (p := 0) rfl rfl rfl ?_)
 refine aB rfl rfl ?_
 refine eL ?_
 refine W.tr [(1, .ptr _ _)] [.box _ [.int _ _, .lst _ _ _]] ⟨rfl, trivial⟩ rfl ?_
 refine W.seq' ?_
 refine W.rLm ⟨110, look [(1, .ptr 0 0), (28, .bool (decide ((b.n < (1 : Int)) ∨ (((24 : Int) < b.n) ∨ (¬ ((b.most.length : Nat) : Int) = b.n)))))], [.box 34 [.int .i64 b.n, .lst true b.most.length (encL (eSl eInt true) b.most)]], false⟩ ?_ ?_
 refine cL rfl (o_fa tt34 rfl tt3 rfl ?_)
 refine cL rfl (o_ldS (v := .int _ _) tt3 rfl rfl ⟨_, rfl⟩ ?_)
 refine cL rfl (o_lss rfl rfl ?_)
 refine mB rfl rfl ?_
 by_cases c1 : b.n < (1 : Int)
 iterate 3 refine cLs rfl rfl rfl (decide_eq_true c1) ?_
 refine cL rfl (o_pickT (v := .bool _) rfl (decide_eq_true c1) rfl ?_)
 refine mB rfl rfl ?_
 iterate 6 refine cLs rfl rfl rfl (rfl) ?_
 refine cL rfl (o_pickT (v := .bool _) rfl rfl rfl ?_)
 refine eL ?_
 exact le_mk ⟨rfl, (congrArg AV.bool (dOrT c1)).symm, trivial⟩ rfl
 refine cLg rfl rfl (decide_eq_false c1) ?_
 refine cL rfl (o_fa tt34 rfl tt3 rfl ?_)
 refine cLg rfl rfl (decide_eq_false c1) ?_
 refine cL rfl (o_ldS (v := .int _ _) tt3 rfl rfl ⟨_, rfl⟩ ?_)
 refine cLg rfl rfl (decide_eq_false c1) ?_
 refine cL rfl (o_gtr rfl rfl ?_)
 refine cL rfl (o_pickF (v := .bool _) rfl (decide_eq_false c1) rfl ?_)
 refine mB rfl rfl ?_
 by_cases c2 : (24 : Int) < b.n
 iterate 6 refine cLs rfl rfl rfl (decide_eq_true c2) ?_
 refine cL rfl (o_pickT (v := .bool _) rfl (decide_eq_true c2) rfl ?_)
 refine eL ?_
 exact le_mk ⟨rfl, (congrArg AV.bool (dOrF c1 (dOrT c2))).symm, trivial⟩ rfl
 refine cLg rfl rfl (decide_eq_false c2) ?_
 refine cL rfl (o_fa tt34 rfl tt32 rfl ?_)
 refine cLg rfl rfl (decide_eq_false c2) ?_
 refine cL rfl (o_ldS (v := .lst _ _ _) tt32 rfl rfl ⟨_, rfl⟩ ?_)
 refine cLg rfl rfl (decide_eq_false c2) ?_
 refine cL rfl (o_len (v := .lst _ _ _) tt32 rfl rfl ?_)
 refine cLg rfl rfl (decide_eq_false c2) ?_
 refine cL rfl (o_fa tt34 rfl tt3 rfl ?_)
 refine cLg rfl rfl (decide_eq_false c2) ?_
 refine cL rfl (o_ldS (v := .int _ _) tt3 rfl rfl ⟨_, rfl⟩ ?_)
 refine cLg rfl rfl (decide_eq_false c2) ?_
 refine cL rfl (o_neI rfl rfl rfl ?_)
 refine cL rfl (o_pickF (v := .bool _) rfl (decide_eq_false c2) rfl ?_)
 refine eL ?_
 exact le_mk ⟨rfl, (congrArg AV.bool (dOrF c1 (dOrF c2 (rfl)))).symm, trivial⟩ rfl
 refine W.cn rfl (fun hc => ?_) (fun hc => ?_)
 have hv := hv.1 hc
 refine W.rL ?_
 refine aB rfl rfl ?_
 refine eL ?_
 refine W.tr [(2, .bool _)] [.box _ [.int _ _, .lst _ _ _]] ⟨rfl, trivial⟩ rfl ?_
 refine W.ret ?_
 refine th_ret (rt ?_)
 refine rt_t (v := .bool _) rfl ?_
 refine rt_n ?_
 exact ⟨_, rs_bool _ _ _, false, rfl, hv⟩
 have hv := hv.2 hc
 refine W.skip ?_
 refine th_nrm ?_
 refine W.tr [(1, .ptr _ _)] [.box _ [.int _ _, .lst _ _ _]] ⟨rfl, trivial⟩ rfl ?_
 refine W.seq' ?_
 refine W.rL ?_
 refine cL rfl (o_fa tt34 rfl tt32 rfl ?_)
 refine cL rfl (o_ldS (v := .lst _ _ _) tt32 rfl rfl ⟨_, rfl⟩ ?_)
 refine cL rfl (o_len (v := .lst _ _ _) tt32 rfl rfl ?_)
 refine mI rfl rfl ?_
 refine eL ?_
 refine W.tr [(1, .ptr _ _), (30, .lst _ _ _), (31, .int _ _), (32, .int _ _)] [.box _ [.int _ _, .lst _ _ _]] ⟨rfl, rfl, rfl, rfl, trivial⟩ rfl ?_
 refine W.block ?_
 obtain ⟨I1, μ1, hp, hv⟩ := hv
 refine W.loop1 (fun v32 => ⟨110, look [(1, .ptr 0 0), (30, .lst true b.most.length (encL (eSl eInt true) b.most)), (31, .int .i64 ((b.most.length : Nat) : Int)), (32, .int .i64 v32)], [.box 34 [.int .i64 b.n, .lst true b.most.length (encL (eSl eInt true) b.most)]], false⟩) I1 μ1 (0 : Int) (St.to_mk (φ := [some 0]) rfl (.inl rfl) ⟨Ren.ptr rfl, Ren.lst _ _ _, Ren.int _ _, Ren.int _ _, trivial⟩ ⟨.inr ⟨_, rfl, rfl, Rens.cons (Ren.int _ _) (Rens.cons (Ren.lst _ _ _) (Rens.nil))⟩, trivial⟩) hp ?_
 clear hp
 intro v32 hI
 replace hv := hv v32 hI
 clear hI
 refine W.rL ?_
 refine cL rfl (o_lss rfl rfl ?_)
 refine eL ?_
 refine W.tr [(1, .ptr _ _), (30, .lst _ _ _), (31, .int _ _), (32, .int _ _), (33, .bool _)] [.box _ [.int _ _, .lst _ _ _]] ⟨rfl, rfl, rfl, rfl, rfl, trivial⟩ rfl ?_
 refine W.seq' ?_
 refine W.cn rfl (fun hc => ?_) (fun hc => ?_)
 have hv := hv.1 hc
 refine W.skip ?_
 refine th_nrm ?_
 refine W.tr [(1, .ptr _ _), (30, .lst _ _ _), (31, .int _ _), (32, .int _ _)] [.box _ [.int _ _, .lst _ _ _]] ⟨rfl, rfl, rfl, rfl, trivial⟩ rfl ?_
 refine W.seq' ?_
 refine W.block ?_
 refine W.rL ?_
 refine mI rfl rfl ?_
 obtain ⟨s81, hv⟩ := hv
 refine cL rfl (o_iaL tt32 tt35 rfl rfl ((encSl eInt).wd true) rfl s81 ?_)
 intro rest81
 refine cL rfl (o_ldS (v := .lst _ _ _) tt35 rfl rfl ⟨_, rfl⟩ ?_)
 refine aI rfl rfl ?_
 refine aL rfl rfl ?_
 refine eL ?_
 refine W.tr [(1, .ptr _ _), (3, .int _ _), (4, .lst _ _ _), (30, .lst _ _ _), (31, .int _ _), (32, .int _ _)] [.box _ [.int _ _, .lst _ _ _]] ⟨rfl, rfl, rfl, rfl, rfl, rfl, trivial⟩ rfl ?_
 refine W.seq' ?_
 obtain ⟨sd, hv⟩ := hv
 refine W.rLm ⟨110, look [(1, .ptr 0 0), (4, .lst true (lat b.most v32).length (encL eInt (lat b.most v32))), (30, .lst true b.most.length (encL (eSl eInt true) b.most)), (31, .int .i64 ((b.most.length : Nat) : Int)), (32, .int .i64 v32), (48, .bool (decide ((¬ (((lat b.most v32).length : Nat) : Int) = b.n) ∨ (¬ lat (lat b.most v32) v32 = (0 : Int)))))], [.box 34 [.int .i64 b.n, .lst true b.most.length (encL (eSl eInt true) b.most)]], false⟩ ?_ ?_
 refine mL rfl rfl ?_
 refine cL rfl (o_len (v := .lst _ _ _) tt35 rfl rfl ?_)
 refine cL rfl (o_fa tt34 rfl tt3 rfl ?_)
 refine cL rfl (o_ldS (v := .int _ _) tt3 rfl rfl ⟨_, rfl⟩ ?_)
 refine cL rfl (o_neI rfl rfl rfl ?_)
 refine mB rfl rfl ?_
 by_cases c1 : ¬ (((lat b.most v32).length : Nat) : Int) = b.n
 iterate 5 refine cLs rfl rfl rfl (decide_eq_true c1) ?_
 refine cL rfl (o_pickT (v := .bool _) rfl (decide_eq_true c1) rfl ?_)
 refine eL ?_
 exact le_mk ⟨rfl, rfl, rfl, rfl, rfl, (congrArg AV.bool (dOrT c1)).symm, trivial⟩ rfl
 have sd := sd.2 c1
 refine cLg rfl rfl (decide_eq_false c1) ?_
 refine mL rfl rfl ?_
 refine cLg rfl rfl (decide_eq_false c1) ?_
 refine mI rfl rfl ?_
 refine cLg rfl rfl (decide_eq_false c1) ?_
 obtain ⟨s85, sd⟩ := sd
 refine cL rfl (o_iaL tt35 tt3 rfl rfl (encInt.wd true) rfl s85 ?_)
 intro rest85
 refine cLg rfl rfl (decide_eq_false c1) ?_
 refine cL rfl (o_ldS (v := .int _ _) tt3 rfl rfl ⟨_, rfl⟩ ?_)
 refine cLg rfl rfl (decide_eq_false c1) ?_
 refine cL rfl (o_neI rfl rfl rfl ?_)
 refine cL rfl (o_pickF (v := .bool _) rfl (decide_eq_false c1) rfl ?_)
 refine eL ?_
 exact le_mk ⟨rfl, rfl, rfl, rfl, rfl, (congrArg AV.bool (dOrF c1 (rfl))).symm, trivial⟩ rfl
 refine W.cn rfl (fun hc => ?_) (fun hc => ?_)
 have hv := hv.1 hc
 refine W.rL ?_
 refine aB rfl rfl ?_
 refine eL ?_
 refine W.tr [(2, .bool _)] [.box _ [.int _ _, .lst _ _ _]] ⟨rfl, trivial⟩ rfl ?_
 refine W.ret ?_
 refine th_ret (bl_ret (th_ret (th_ret (bl_ret (th_ret (rt ?_))))))
 refine rt_t (v := .bool _) rfl ?_
 refine rt_n ?_
 exact ⟨_, rs_bool _ _ _, false, rfl, hv⟩
 have hv := hv.2 hc
 refine W.skip ?_
 refine th_nrm ?_
 refine W.tr [(1, .ptr _ _), (4, .lst _ _ _), (30, .lst _ _ _), (31, .int _ _), (32, .int _ _)] [.box _ [.int _ _, .lst _ _ _]] ⟨rfl, rfl, rfl, rfl, rfl, trivial⟩ rfl ?_
 refine W.rL ?_
 refine mL rfl rfl ?_
 refine cL rfl (o_len (v := .lst _ _ _) tt35 rfl rfl ?_)
 refine mI rfl rfl ?_
 refine eL ?_
 refine W.tr [(1, .ptr _ _), (30, .lst _ _ _), (31, .int _ _), (32, .int _ _), (49, .lst _ _ _), (50, .int _ _), (51, .int _ _)] [.box _ [.int _ _, .lst _ _ _]] ⟨rfl, rfl, rfl, rfl, rfl, rfl, rfl, trivial⟩ rfl ?_
 refine W.block ?_
 obtain ⟨I2, μ2, hp, hv⟩ := hv
 refine W.loop1 (fun v51 => ⟨110, look [(1, .ptr 0 0), (30, .lst true b.most.length (encL (eSl eInt true) b.most)), (31, .int .i64 ((b.most.length : Nat) : Int)), (32, .int .i64 v32), (49, .lst true (lat b.most v32).length (encL eInt (lat b.most v32))), (50, .int .i64 (((lat b.most v32).length : Nat) : Int)), (51, .int .i64 v51)], [.box 34 [.int .i64 b.n, .lst true b.most.length (encL (eSl eInt true) b.most)]], false⟩) I2 μ2 (0 : Int) (St.to_mk (φ := [some 0]) rfl (.inl rfl) ⟨Ren.ptr rfl, Ren.lst _ _ _, Ren.int _ _, Ren.int _ _, Ren.lst _ _ _, Ren.int _ _, Ren.int _ _, trivial⟩ ⟨.inr ⟨_, rfl, rfl, Rens.cons (Ren.int _ _) (Rens.cons (Ren.lst _ _ _) (Rens.nil))⟩, trivial⟩) hp ?_
 clear hp
 intro v51 hI
 replace hv := hv v51 hI
 clear hI
 refine W.rL ?_
 refine cL rfl (o_lss rfl rfl ?_)
 refine eL ?_
 refine W.tr [(1, .ptr _ _), (30, .lst _ _ _), (31, .int _ _), (32, .int _ _), (49, .lst _ _ _), (50, .int _ _), (51, .int _ _), (52, .bool _)] [.box _ [.int _ _, .lst _ _ _]] ⟨rfl, rfl, rfl, rfl, rfl, rfl, rfl, rfl, trivial⟩ rfl ?_
 refine W.seq' ?_
 refine W.cn rfl (fun hc => ?_) (fun hc => ?_)
 have hv := hv.1 hc
 refine W.skip ?_
 refine th_nrm ?_
 refine W.tr [(1, .ptr _ _), (30, .lst _ _ _), (31, .int _ _), (32, .int _ _), (49, .lst _ _ _), (50, .int _ _), (51, .int _ _)] [.box _ [.int _ _, .lst _ _ _]] ⟨rfl, rfl, rfl, rfl, rfl, rfl, rfl, trivial⟩ rfl ?_
 refine W.seq' ?_
 refine W.block ?_
 refine W.rL ?_
 obtain ⟨s90, hv⟩ := hv
 refine cL rfl (o_iaL tt35 tt3 rfl rfl (encInt.wd true) rfl s90 ?_)
 intro rest90
 refine cL rfl (o_ldS (v := .int _ _) tt3 rfl rfl ⟨_, rfl⟩ ?_)
 refine aI rfl rfl ?_
 refine eL ?_
 refine W.tr [(1, .ptr _ _), (6, .int _ _), (30, .lst _ _ _), (31, .int _ _), (32, .int _ _), (49, .lst _ _ _), (50, .int _ _), (51, .int _ _)] [.box _ [.int _ _, .lst _ _ _]] ⟨rfl, rfl, rfl, rfl, rfl, rfl, rfl, rfl, trivial⟩ rfl ?_
 refine W.rLm ⟨110, look [(1, .ptr 0 0), (30, .lst true b.most.length (encL (eSl eInt true) b.most)), (31, .int .i64 ((b.most.length : Nat) : Int)), (32, .int .i64 v32), (49, .lst true (lat b.most v32).length (encL eInt (lat b.most v32))), (50, .int .i64 (((lat b.most v32).length : Nat) : Int)), (51, .int .i64 v51), (64, .bool (decide ((¬ lat (lat b.most v32) v51 = (1152921504606846976 : Int)) ∧ (((lat (lat b.most v32) v51) < (-36028797018963968 : Int)) ∨ ((36028797018963968 : Int) < (lat (lat b.most v32) v51))))))], [.box 34 [.int .i64 b.n, .lst true b.most.length (encL (eSl eInt true) b.most)]], false⟩ ?_ ?_
 refine mI rfl rfl ?_
 refine cL rfl (o_neI rfl rfl rfl ?_)
 refine mB rfl rfl ?_
 by_cases c1 : ¬ lat (lat b.most v32) v51 = (1152921504606846976 : Int)
 refine cLg rfl rfl (decide_eq_true c1) ?_
 refine mI rfl rfl ?_
 refine cLg rfl rfl (decide_eq_true c1) ?_
 refine cL rfl (o_lss rfl rfl ?_)
 refine cLg rfl rfl (decide_eq_true c1) ?_
 refine mB rfl rfl ?_
 by_cases c2 : (lat (lat b.most v32) v51) < (-36028797018963968 : Int)
 iterate 2 refine cLs rfl rfl rfl (decide_eq_true c2) ?_
 refine cLg rfl rfl (decide_eq_true c1) ?_
 refine cL rfl (o_pickT (v := .bool _) rfl (decide_eq_true c2) rfl ?_)
 refine cL rfl (o_pickT (v := .bool _) rfl (decide_eq_true c1) rfl ?_)
 refine eL ?_
 exact le_mk ⟨rfl, rfl, rfl, rfl, rfl, rfl, rfl, (congrArg AV.bool (dAndT c1 (dOrT c2))).symm, trivial⟩ rfl
 refine cLg rfl rfl (decide_eq_false c2) ?_
 refine mI rfl rfl ?_
 refine cLg rfl rfl (decide_eq_false c2) ?_
 refine cL rfl (o_gtr rfl rfl ?_)
 refine cLg rfl rfl (decide_eq_true c1) ?_
 refine cL rfl (o_pickF (v := .bool _) rfl (decide_eq_false c2) rfl ?_)
 refine cL rfl (o_pickT (v := .bool _) rfl (decide_eq_true c1) rfl ?_)
 refine eL ?_
 exact le_mk ⟨rfl, rfl, rfl, rfl, rfl, rfl, rfl, (congrArg AV.bool (dAndT c1 (dOrF c2 (rfl)))).symm, trivial⟩ rfl
 iterate 3 refine cLs rfl rfl rfl (decide_eq_false c1) ?_
 iterate 2 refine cLu rfl rfl rfl ?_
 refine cLs rfl rfl rfl (decide_eq_false c1) ?_
 refine cL rfl (o_pickF (v := .bool _) rfl (decide_eq_false c1) rfl ?_)
 refine eL ?_
 exact le_mk ⟨rfl, rfl, rfl, rfl, rfl, rfl, rfl, (congrArg AV.bool (dAndF c1)).symm, trivial⟩ rfl
 refine W.cn rfl (fun hc => ?_) (fun hc => ?_)
 have hv := hv.1 hc
 refine W.rL ?_
 refine aB rfl rfl ?_
 refine eL ?_
 refine W.tr [(2, .bool _)] [.box _ [.int _ _, .lst _ _ _]] ⟨rfl, trivial⟩ rfl ?_
 refine W.ret ?_
 refine bl_ret (th_ret (th_ret (bl_ret (bl_ret (th_ret (th_ret (bl_ret (th_ret (rt ?_)))))))))
 refine rt_t (v := .bool _) rfl ?_
 refine rt_n ?_
 exact ⟨_, rs_bool _ _ _, false, rfl, hv⟩
 have hv := hv.2 hc
 refine W.skip ?_
 refine bl_nrm (th_nrm ?_)
 refine W.tr [(1, .ptr _ _), (30, .lst _ _ _), (31, .int _ _), (32, .int _ _), (49, .lst _ _ _), (50, .int _ _), (51, .int _ _)] [.box _ [.int _ _, .lst _ _ _]] ⟨rfl, rfl, rfl, rfl, rfl, rfl, rfl, trivial⟩ rfl ?_
 refine W.rL1 ?_
 obtain ⟨s91, hv⟩ := hv
 refine cL rfl (o_add rfl rfl s91 ?_)
 refine mI rfl rfl ?_
 refine eL ?_
 exact th_nrm (⟨(), (v51 + (1 : Int)), hv, St.to_mk (φ := [some 0]) rfl (.inl rfl) ⟨Ren.ptr rfl, Ren.lst _ _ _, Ren.int _ _, Ren.int _ _, Ren.lst _ _ _, Ren.int _ _, Ren.int _ _, trivial⟩ ⟨.inr ⟨_, rfl, rfl, Rens.cons (Ren.int _ _) (Rens.cons (Ren.lst _ _ _) (Rens.nil))⟩, trivial⟩⟩)
 have hv := hv.2 hc
 refine W.exit ?_
 refine th_exit (th_exit (bl_hit (bl_nrm (th_nrm ?_))))
 refine W.tr [(1, .ptr _ _), (30, .lst _ _ _), (31, .int _ _), (32, .int _ _)] [.box _ [.int _ _, .lst _ _ _]] ⟨rfl, rfl, rfl, rfl, trivial⟩ rfl ?_
 refine W.rL1 ?_
 obtain ⟨s92, hv⟩ := hv
 refine cL rfl (o_add rfl rfl s92 ?_)
 refine mI rfl rfl ?_
 refine eL ?_
 exact th_nrm (⟨(), (v32 + (1 : Int)), hv, St.to_mk (φ := [some 0]) rfl (.inl rfl) ⟨Ren.ptr rfl, Ren.lst _ _ _, Ren.int _ _, Ren.int _ _, trivial⟩ ⟨.inr ⟨_, rfl, rfl, Rens.cons (Ren.int _ _) (Rens.cons (Ren.lst _ _ _) (Rens.nil))⟩, trivial⟩⟩)
 have hv := hv.2 hc
 refine W.exit ?_
 refine th_exit (th_exit (bl_hit (th_nrm ?_)))
 refine W.tr [(1, .ptr _ _)] [.box _ [.int _ _, .lst _ _ _]] ⟨rfl, trivial⟩ rfl ?_
 refine W.seq' ?_
 refine W.rL ?_
 refine cL rfl (o_fa tt34 rfl tt32 rfl ?_)
 refine cL rfl (o_ldS (v := .lst _ _ _) tt32 rfl rfl ⟨_, rfl⟩ ?_)
 refine cL rfl (o_len (v := .lst _ _ _) tt32 rfl rfl ?_)
 refine mI rfl rfl ?_
 refine eL ?_
 refine W.tr [(1, .ptr _ _), (68, .lst _ _ _), (69, .int _ _), (70, .int _ _)] [.box _ [.int _ _, .lst _ _ _]] ⟨rfl, rfl, rfl, rfl, trivial⟩ rfl ?_
 refine W.block ?_
 obtain ⟨I3, μ3, hp, hv⟩ := hv
 refine W.loop1 (fun v70 => ⟨110, look [(1, .ptr 0 0), (68, .lst true b.most.length (encL (eSl eInt true) b.most)), (69, .int .i64 ((b.most.length : Nat) : Int)), (70, .int .i64 v70)], [.box 34 [.int .i64 b.n, .lst true b.most.length (encL (eSl eInt true) b.most)]], false⟩) I3 μ3 (0 : Int) (St.to_mk (φ := [some 0]) rfl (.inl rfl) ⟨Ren.ptr rfl, Ren.lst _ _ _, Ren.int _ _, Ren.int _ _, trivial⟩ ⟨.inr ⟨_, rfl, rfl, Rens.cons (Ren.int _ _) (Rens.cons (Ren.lst _ _ _) (Rens.nil))⟩, trivial⟩) hp ?_
 clear hp
 intro v70 hI
 replace hv := hv v70 hI
 clear hI
 refine W.rL ?_
 refine cL rfl (o_lss rfl rfl ?_)
 refine eL ?_
 refine W.tr [(1, .ptr _ _), (68, .lst _ _ _), (69, .int _ _), (70, .int _ _), (71, .bool _)] [.box _ [.int _ _, .lst _ _ _]] ⟨rfl, rfl, rfl, rfl, rfl, trivial⟩ rfl ?_
 refine W.seq' ?_
 refine W.cn rfl (fun hc => ?_) (fun hc => ?_)
 have hv := hv.1 hc
 refine W.skip ?_
 refine th_nrm ?_
 refine W.tr [(1, .ptr _ _), (68, .lst _ _ _), (69, .int _ _), (70, .int _ _)] [.box _ [.int _ _, .lst _ _ _]] ⟨rfl, rfl, rfl, rfl, trivial⟩ rfl ?_
 refine W.seq' ?_
 refine W.block ?_
 refine W.rL ?_
 refine mI rfl rfl ?_
 obtain ⟨s677, hv⟩ := hv
 refine cL rfl (o_iaL tt32 tt35 rfl rfl ((encSl eInt).wd true) rfl s677 ?_)
 intro rest677
 refine cL rfl (o_ldS (v := .lst _ _ _) tt35 rfl rfl ⟨_, rfl⟩ ?_)
 refine aI rfl rfl ?_
 refine aL rfl rfl ?_
 refine eL ?_
 refine W.tr [(1, .ptr _ _), (7, .int _ _), (8, .lst _ _ _), (68, .lst _ _ _), (69, .int _ _), (70, .int _ _)] [.box _ [.int _ _, .lst _ _ _]] ⟨rfl, rfl, rfl, rfl, rfl, rfl, trivial⟩ rfl ?_
 refine W.rL ?_
 refine mL rfl rfl ?_
 refine cL rfl (o_len (v := .lst _ _ _) tt35 rfl rfl ?_)
 refine mI rfl rfl ?_
 refine eL ?_
 refine W.tr [(1, .ptr _ _), (7, .int _ _), (68, .lst _ _ _), (69, .int _ _), (70, .int _ _), (75, .lst _ _ _), (76, .int _ _), (77, .int _ _)] [.box _ [.int _ _, .lst _ _ _]] ⟨rfl, rfl, rfl, rfl, rfl, rfl, rfl, rfl, trivial⟩ rfl ?_
 refine W.block ?_
 obtain ⟨I4, μ4, hp, hv⟩ := hv
 refine W.loop1 (fun v77 => ⟨110, look [(1, .ptr 0 0), (7, .int .i64 v70), (68, .lst true b.most.length (encL (eSl eInt true) b.most)), (69, .int .i64 ((b.most.length : Nat) : Int)), (70, .int .i64 v70), (75, .lst true (lat b.most v70).length (encL eInt (lat b.most v70))), (76, .int .i64 (((lat b.most v70).length : Nat) : Int)), (77, .int .i64 v77)], [.box 34 [.int .i64 b.n, .lst true b.most.length (encL (eSl eInt true) b.most)]], false⟩) I4 μ4 (0 : Int) (St.to_mk (φ := [some 0]) rfl (.inl rfl) ⟨Ren.ptr rfl, Ren.int _ _, Ren.lst _ _ _, Ren.int _ _, Ren.int _ _, Ren.lst _ _ _, Ren.int _ _, Ren.int _ _, trivial⟩ ⟨.inr ⟨_, rfl, rfl, Rens.cons (Ren.int _ _) (Rens.cons (Ren.lst _ _ _) (Rens.nil))⟩, trivial⟩) hp ?_
 clear hp
 intro v77 hI
 replace hv := hv v77 hI
 clear hI
 refine W.rL ?_
 refine cL rfl (o_lss rfl rfl ?_)
 refine eL ?_
 refine W.tr [(1, .ptr _ _), (7, .int _ _), (68, .lst _ _ _), (69, .int _ _), (70, .int _ _), (75, .lst _ _ _), (76, .int _ _), (77, .int _ _), (78, .bool _)] [.box _ [.int _ _, .lst _ _ _]] ⟨rfl, rfl, rfl, rfl, rfl, rfl, rfl, rfl, rfl, trivial⟩ rfl ?_
 refine W.seq' ?_
 refine W.cn rfl (fun hc => ?_) (fun hc => ?_)
 have hv := hv.1 hc
 refine W.skip ?_
 refine th_nrm ?_
 refine W.tr [(1, .ptr _ _), (7, .int _ _), (68, .lst _ _ _), (69, .int _ _), (70, .int _ _), (75, .lst _ _ _), (76, .int _ _), (77, .int _ _)] [.box _ [.int _ _, .lst _ _ _]] ⟨rfl, rfl, rfl, rfl, rfl, rfl, rfl, rfl, trivial⟩ rfl ?_
 obtain ⟨J5, hj, hv⟩ := hv
 refine W.mid0 (⟨110, look [(1, .ptr 0 0), (7, .int .i64 v70), (68, .lst true b.most.length (encL (eSl eInt true) b.most)), (69, .int .i64 ((b.most.length : Nat) : Int)), (70, .int .i64 v70), (75, .lst true (lat b.most v70).length (encL eInt (lat b.most v70))), (76, .int .i64 (((lat b.most v70).length : Nat) : Int)), (77, .int .i64 v77)], [.box 34 [.int .i64 b.n, .lst true b.most.length (encL (eSl eInt true) b.most)]], false⟩) J5 ?_ ?_
 intro hv
 replace hv := hj hv
 refine W.rL1 ?_
 obtain ⟨s739, hv⟩ := hv
 refine cL rfl (o_add rfl rfl s739 ?_)
 refine mI rfl rfl ?_
 refine eL ?_
 exact th_nrm (⟨(), (v77 + (1 : Int)), hv, St.to_mk (φ := [some 0]) rfl (.inl rfl) ⟨Ren.ptr rfl, Ren.int _ _, Ren.lst _ _ _, Ren.int _ _, Ren.int _ _, Ren.lst _ _ _, Ren.int _ _, Ren.int _ _, trivial⟩ ⟨.inr ⟨_, rfl, rfl, Rens.cons (Ren.int _ _) (Rens.cons (Ren.lst _ _ _) (Rens.nil))⟩, trivial⟩⟩)
 clear hj
 refine W.block ?_
 refine W.rL ?_
 refine mI rfl rfl ?_
 obtain ⟨s740, hv⟩ := hv
 refine cL rfl (o_iaL tt35 tt3 rfl rfl (encInt.wd true) rfl s740 ?_)
 intro rest740
 refine cL rfl (o_ldS (v := .int _ _) tt3 rfl rfl ⟨_, rfl⟩ ?_)
 iterate 2 refine aI rfl rfl ?_
 refine eL ?_
 refine W.tr [(1, .ptr _ _), (7, .int _ _), (9, .int _ _), (10, .int _ _), (68, .lst _ _ _), (69, .int _ _), (70, .int _ _), (75, .lst _ _ _), (76, .int _ _), (77, .int _ _)] [.box _ [.int _ _, .lst _ _ _]] ⟨rfl, rfl, rfl, rfl, rfl, rfl, rfl, rfl, rfl, rfl, trivial⟩ rfl ?_
 refine W.seq' ?_
 refine W.rL ?_
 refine mI rfl rfl ?_
 refine cL rfl (o_eqI rfl rfl rfl ?_)
 refine eL ?_
 refine W.tr [(1, .ptr _ _), (7, .int _ _), (9, .int _ _), (10, .int _ _), (68, .lst _ _ _), (69, .int _ _), (70, .int _ _), (75, .lst _ _ _), (76, .int _ _), (77, .int _ _), (83, .bool _)] [.box _ [.int _ _, .lst _ _ _]] ⟨rfl, rfl, rfl, rfl, rfl, rfl, rfl, rfl, rfl, rfl, rfl, trivial⟩ rfl ?_
 refine W.cn rfl (fun hc => ?_) (fun hc => ?_)
 have hv := hv.1 hc
 refine W.exit ?_
 exact th_exit (bl_hit (th_nrm (⟨(), hv, St.to_mk (φ := [some 0]) rfl (.inl rfl) ⟨Ren.ptr rfl, Ren.int _ _, Ren.lst _ _ _, Ren.int _ _, Ren.int _ _, Ren.lst _ _ _, Ren.int _ _, Ren.int _ _, trivial⟩ ⟨.inr ⟨_, rfl, rfl, Rens.cons (Ren.int _ _) (Rens.cons (Ren.lst _ _ _) (Rens.nil))⟩, trivial⟩⟩)))
 have hv := hv.2 hc
 refine W.skip ?_
 refine th_nrm ?_
 refine W.tr [(1, .ptr _ _), (7, .int _ _), (9, .int _ _), (10, .int _ _), (68, .lst _ _ _), (69, .int _ _), (70, .int _ _), (75, .lst _ _ _), (76, .int _ _), (77, .int _ _)] [.box _ [.int _ _, .lst _ _ _]] ⟨rfl, rfl, rfl, rfl, rfl, rfl, rfl, rfl, rfl, rfl, trivial⟩ rfl ?_
 refine W.rL ?_
 refine cL rfl (o_fa tt34 rfl tt32 rfl ?_)
 refine cL rfl (o_ldS (v := .lst _ _ _) tt32 rfl rfl ⟨_, rfl⟩ ?_)
 refine mI rfl rfl ?_
 obtain ⟨s741, hv⟩ := hv
 refine cL rfl (o_iaL tt32 tt35 rfl rfl ((encSl eInt).wd true) rfl s741 ?_)
 intro rest741
 refine cL rfl (o_ldS (v := .lst _ _ _) tt35 rfl rfl ⟨_, rfl⟩ ?_)
 refine cL rfl (o_len (v := .lst _ _ _) tt35 rfl rfl ?_)
 refine mI rfl rfl ?_
 refine eL ?_
 refine W.tr [(1, .ptr _ _), (7, .int _ _), (10, .int _ _), (68, .lst _ _ _), (69, .int _ _), (70, .int _ _), (75, .lst _ _ _), (76, .int _ _), (77, .int _ _), (88, .lst _ _ _), (89, .int _ _), (90, .int _ _)] [.box _ [.int _ _, .lst _ _ _]] ⟨rfl, rfl, rfl, rfl, rfl, rfl, rfl, rfl, rfl, rfl, rfl, rfl, trivial⟩ rfl ?_
 refine W.block ?_
 obtain ⟨I6, μ6, hp, hv⟩ := hv
 refine W.loop1 (fun v90 => ⟨110, look [(1, .ptr 0 0), (7, .int .i64 v70), (10, .int .i64 (lat (lat b.most v70) v77)), (68, .lst true b.most.length (encL (eSl eInt true) b.most)), (69, .int .i64 ((b.most.length : Nat) : Int)), (70, .int .i64 v70), (75, .lst true (lat b.most v70).length (encL eInt (lat b.most v70))), (76, .int .i64 (((lat b.most v70).length : Nat) : Int)), (77, .int .i64 v77), (88, .lst true (lat b.most v77).length (encL eInt (lat b.most v77))), (89, .int .i64 (((lat b.most v77).length : Nat) : Int)), (90, .int .i64 v90)], [.box 34 [.int .i64 b.n, .lst true b.most.length (encL (eSl eInt true) b.most)]], false⟩) I6 μ6 (0 : Int) (St.to_mk (φ := [some 0]) rfl (.inl rfl) ⟨Ren.ptr rfl, Ren.int _ _, Ren.int _ _, Ren.lst _ _ _, Ren.int _ _, Ren.int _ _, Ren.lst _ _ _, Ren.int _ _, Ren.int _ _, Ren.lst _ _ _, Ren.int _ _, Ren.int _ _, trivial⟩ ⟨.inr ⟨_, rfl, rfl, Rens.cons (Ren.int _ _) (Rens.cons (Ren.lst _ _ _) (Rens.nil))⟩, trivial⟩) hp ?_
 clear hp
 intro v90 hI
 replace hv := hv v90 hI
 clear hI
 refine W.rL ?_
 refine cL rfl (o_lss rfl rfl ?_)
 refine eL ?_
 refine W.tr [(1, .ptr _ _), (7, .int _ _), (10, .int _ _), (68, .lst _ _ _), (69, .int _ _), (70, .int _ _), (75, .lst _ _ _), (76, .int _ _), (77, .int _ _), (88, .lst _ _ _), (89, .int _ _), (90, .int _ _), (91, .bool _)] [.box _ [.int _ _, .lst _ _ _]] ⟨rfl, rfl, rfl, rfl, rfl, rfl, rfl, rfl, rfl, rfl, rfl, rfl, rfl, trivial⟩ rfl ?_
 refine W.seq' ?_
 refine W.cn rfl (fun hc => ?_) (fun hc => ?_)
 have hv := hv.1 hc
 refine W.skip ?_
 refine th_nrm ?_
 refine W.tr [(1, .ptr _ _), (7, .int _ _), (10, .int _ _), (68, .lst _ _ _), (69, .int _ _), (70, .int _ _), (75, .lst _ _ _), (76, .int _ _), (77, .int _ _), (88, .lst _ _ _), (89, .int _ _), (90, .int _ _)] [.box _ [.int _ _, .lst _ _ _]] ⟨rfl, rfl, rfl, rfl, rfl, rfl, rfl, rfl, rfl, rfl, rfl, rfl, trivial⟩ rfl ?_
 refine W.seq' ?_
 refine W.block ?_
 refine W.rL ?_
 refine mI rfl rfl ?_
 obtain ⟨s755, hv⟩ := hv
 refine cL rfl (o_iaL tt35 tt3 rfl rfl (encInt.wd true) rfl s755 ?_)
 intro rest755
 refine cL rfl (o_ldS (v := .int _ _) tt3 rfl rfl ⟨_, rfl⟩ ?_)
 iterate 2 refine aI rfl rfl ?_
 refine eL ?_
 refine W.tr [(1, .ptr _ _), (7, .int _ _), (10, .int _ _), (11, .int _ _), (12, .int _ _), (68, .lst _ _ _), (69, .int _ _), (70, .int _ _), (75, .lst _ _ _), (76, .int _ _), (77, .int _ _), (88, .lst _ _ _), (89, .int _ _), (90, .int _ _)] [.box _ [.int _ _, .lst _ _ _]] ⟨rfl, rfl, rfl, rfl, rfl, rfl, rfl, rfl, rfl, rfl, rfl, rfl, rfl, rfl, trivial⟩ rfl ?_
 refine W.rD [0, 1, 2, 3, 4, 5, 6, 7, 8, 9, 10, 11] (by decide +kernel) rfl ?_
 refine cL rfl (o_fa tt34 rfl tt32 rfl ?_)
 refine cL rfl (o_ldS (v := .lst _ _ _) tt32 rfl rfl ⟨_, rfl⟩ ?_)
 refine mI rfl rfl ?_
 obtain ⟨s756, hv⟩ := hv
 refine cL rfl (o_iaL tt32 tt35 rfl rfl ((encSl eInt).wd true) rfl s756 ?_)
 intro rest756
 refine cL rfl (o_ldS (v := .lst _ _ _) tt35 rfl rfl ⟨_, rfl⟩ ?_)
 refine mI rfl rfl ?_
 obtain ⟨s757, hv⟩ := hv
 refine cL rfl (o_iaL tt35 tt3 rfl rfl (encInt.wd true) rfl s757 ?_)
 intro rest757
 refine cL rfl (o_ldS (v := .int _ _) tt3 rfl rfl ⟨_, rfl⟩ ?_)
 iterate 2 refine mI rfl rfl ?_
 obtain ⟨s758, hv⟩ := hv
 refine cL rfl (o_callP1 (k := 47) (fst := []) (caps := []) (ys := [.int _ _, .int _ _]) rfl rfl (spec_plus (lat (lat b.most v70) v77) (lat (lat b.most v77) v90) s758) (Wks.cons (ag_int _ _ _ _) (Wks.cons (ag_int _ _ _ _) (Wks.refl _))) ?_)
 refine cL rfl (o_gtr rfl rfl ?_)
 refine eL ?_
 refine W.tr [(1, .ptr _ _), (7, .int _ _), (10, .int _ _), (68, .lst _ _ _), (69, .int _ _), (70, .int _ _), (75, .lst _ _ _), (76, .int _ _), (77, .int _ _), (88, .lst _ _ _), (89, .int _ _), (90, .int _ _), (106, .bool _)] [.box _ [.int _ _, .lst _ _ _]] ⟨rfl, rfl, rfl, rfl, rfl, rfl, rfl, rfl, rfl, rfl, rfl, rfl, rfl, trivial⟩ rfl ?_
 refine W.cn rfl (fun hc => ?_) (fun hc => ?_)
 have hv := hv.1 hc
 refine W.rL ?_
 refine aB rfl rfl ?_
 refine eL ?_
 refine W.tr [(2, .bool _)] [.box _ [.int _ _, .lst _ _ _]] ⟨rfl, trivial⟩ rfl ?_
 refine W.ret ?_
 refine bl_ret (th_ret (th_ret (bl_ret (bl_ret (th_ret (th_ret (bl_ret (bl_ret (th_ret (th_ret (bl_ret (th_ret (rt ?_)))))))))))))
 refine rt_t (v := .bool _) rfl ?_
 refine rt_n ?_
 exact ⟨_, rs_bool _ _ _, false, rfl, hv⟩
 have hv := hv.2 hc
 refine W.skip ?_
 refine bl_nrm (th_nrm ?_)
 refine W.tr [(1, .ptr _ _), (7, .int _ _), (10, .int _ _), (68, .lst _ _ _), (69, .int _ _), (70, .int _ _), (75, .lst _ _ _), (76, .int _ _), (77, .int _ _), (88, .lst _ _ _), (89, .int _ _), (90, .int _ _)] [.box _ [.int _ _, .lst _ _ _]] ⟨rfl, rfl, rfl, rfl, rfl, rfl, rfl, rfl, rfl, rfl, rfl, rfl, trivial⟩ rfl ?_
 refine W.rL1 ?_
 obtain ⟨s759, hv⟩ := hv
 refine cL rfl (o_add rfl rfl s759 ?_)
 refine mI rfl rfl ?_
 refine eL ?_
 exact th_nrm (⟨(), (v90 + (1 : Int)), hv, St.to_mk (φ := [some 0]) rfl (.inl rfl) ⟨Ren.ptr rfl, Ren.int _ _, Ren.int _ _, Ren.lst _ _ _, Ren.int _ _, Ren.int _ _, Ren.lst _ _ _, Ren.int _ _, Ren.int _ _, Ren.lst _ _ _, Ren.int _ _, Ren.int _ _, trivial⟩ ⟨.inr ⟨_, rfl, rfl, Rens.cons (Ren.int _ _) (Rens.cons (Ren.lst _ _ _) (Rens.nil))⟩, trivial⟩⟩)
 have hv := hv.2 hc
 refine W.exit ?_
 exact th_exit (th_exit (bl_hit (bl_nrm (th_nrm (⟨(), hv, St.to_mk (φ := [some 0]) rfl (.inl rfl) ⟨Ren.ptr rfl, Ren.int _ _, Ren.lst _ _ _, Ren.int _ _, Ren.int _ _, Ren.lst _ _ _, Ren.int _ _, Ren.int _ _, trivial⟩ ⟨.inr ⟨_, rfl, rfl, Rens.cons (Ren.int _ _) (Rens.cons (Ren.lst _ _ _) (Rens.nil))⟩, trivial⟩⟩)))))
 have hv := hv.2 hc
 refine W.exit ?_
 refine th_exit (th_exit (bl_hit (bl_nrm (th_nrm ?_))))
 refine W.tr [(1, .ptr _ _), (68, .lst _ _ _), (69, .int _ _), (70, .int _ _)] [.box _ [.int _ _, .lst _ _ _]] ⟨rfl, rfl, rfl, rfl, trivial⟩ rfl ?_
 refine W.rL1 ?_
 obtain ⟨s760, hv⟩ := hv
 refine cL rfl (o_add rfl rfl s760 ?_)
 refine mI rfl rfl ?_
 refine eL ?_
 exact th_nrm (⟨(), (v70 + (1 : Int)), hv, St.to_mk (φ := [some 0]) rfl (.inl rfl) ⟨Ren.ptr rfl, Ren.lst _ _ _, Ren.int _ _, Ren.int _ _, trivial⟩ ⟨.inr ⟨_, rfl, rfl, Rens.cons (Ren.int _ _) (Rens.cons (Ren.lst _ _ _) (Rens.nil))⟩, trivial⟩⟩)
 have hv := hv.2 hc
 refine W.exit ?_
 refine th_exit (th_exit (bl_hit (th_nrm ?_)))
 refine W.tr [] [.box _ [.int _ _, .lst _ _ _]] trivial rfl ?_
 refine W.rL ?_
 refine aB rfl rfl ?_
 refine eL ?_
 refine W.tr [(2, .bool _)] [.box _ [.int _ _, .lst _ _ _]] ⟨rfl, trivial⟩ rfl ?_
 refine W.ret ?_
 refine rt ?_
 refine rt_t (v := .bool _) rfl ?_
 refine rt_n ?_
 exact ⟨_, rs_bool _ _ _, true, rfl, hv⟩
theorem vcp_vald (b : Bd) (h0 : b.most.length ≤ 1073741824) (h1 : ∀ r ∈ b.most, r.length ≤ 1073741824) : vc_vald b (fun q0 => q0 = (validBM b)) := by
  unfold vc_vald
  have hnb := hNB
  have hfalse : ¬ VB b → false = validBM b := fun h => (Bool.eq_false_iff.mpr fun e => h (validBM_iff.mp e)).symm
  refine ⟨fun h => hfalse fun v => ?_, fun h => ⟨fun v => ∃ i : Nat, v = i ∧ i ≤ b.most.length ∧ ∀ k, k < i → (b.most.getD k []).length = b.most.length ∧ bm b k k = 0 ∧ ∀ j, j < b.most.length → bm b k j = NB ∨ -36028797018963968 ≤ bm b k j ∧ bm b k j ≤ 36028797018963968, fun v => b.most.length - v.toNat, ⟨0, rfl, by omega, by omega⟩, ?_⟩⟩
  · have := v.n; omega
  rintro _ ⟨i, rfl, hi, hr⟩
  have hrow : (lat b.most (i : Int)).length = (b.most.getD i []).length := by rw [lat_nat]; rfl
  refine ⟨fun h1 => ⟨by omega, ⟨fun _ => trivial, fun h2 => ⟨by omega, trivial⟩⟩, fun h2 => ?_, fun h2 => ?_⟩, fun h1 => ?_⟩
  · rw [hrow, lat_lat] at h2
    refine hfalse fun v => ?_
    have h3 := v.row i (by omega)
    have h4 := v.diag i (by omega)
    have h5 := v.n
    omega
  · rw [hrow, lat_lat] at h2
    refine ⟨fun v => ∃ j : Nat, v = j ∧ j ≤ b.most.length ∧ ∀ k, k < j → bm b i k = NB ∨ -36028797018963968 ≤ bm b i k ∧ bm b i k ≤ 36028797018963968, fun v => b.most.length - v.toNat, ⟨0, rfl, by omega, by omega⟩, ?_⟩
    rintro _ ⟨j, rfl, hj, hk⟩
    rw [hrow, lat_lat]
    refine ⟨fun h3 => ⟨by omega, fun h4 => ?_, fun h4 => ⟨by unfold inI; omega, ⟨j + 1, by omega, by omega, ?_⟩, by dsimp only; omega⟩⟩, fun h3 => ⟨by unfold inI; omega, ⟨i + 1, by omega, by omega, ?_⟩, by dsimp only; omega⟩⟩
    · refine hfalse fun v => ?_
      have := v.ok i j (by omega) (by omega)
      omega
    · intro k h5
      rcases Nat.lt_or_ge k j with h6 | h6
      · exact hk k h6
      · have : k = j := by omega
        subst this; omega
    · intro k h5
      rcases Nat.lt_or_ge k i with h6 | h6
      · exact hr k h6
      · have : k = i := by omega
        subst this
        exact ⟨by omega, by omega, fun j' hj' => hk j' (by omega)⟩
  have hi' : i = b.most.length := by omega
  subst hi'
  have hL : ∀ k : Nat, k < b.most.length → (lat b.most (k : Int)).length = b.most.length := fun k hk => by rw [lat_nat]; exact (hr k hk).1
  refine ⟨fun v => ∃ i : Nat, v = i ∧ i ≤ b.most.length ∧ ∀ i', i' < i → ∀ j k, j < b.most.length → k < b.most.length → bm b i' j = NB ∨ bm b i' k ≤ plusM (bm b i' j) (bm b j k), fun v => b.most.length - v.toNat, ⟨0, rfl, by omega, by omega⟩, ?_⟩
  rintro _ ⟨i, rfl, hi, ht⟩
  refine ⟨fun h1 => ⟨by omega, fun v => ∃ j : Nat, v = j ∧ j ≤ b.most.length ∧ ∀ j', j' < j → ∀ k, k < b.most.length → bm b i j' = NB ∨ bm b i k ≤ plusM (bm b i j') (bm b j' k), fun v => b.most.length - v.toNat, ⟨0, rfl, by omega, by omega⟩, ?_⟩, fun h1 => ?_⟩
  · rintro _ ⟨j, rfl, hj, hu⟩
    rw [hL i (by omega)]
    refine ⟨fun h2 => ⟨∀ k, k < b.most.length → bm b i j = NB ∨ bm b i k ≤ plusM (bm b i j) (bm b j k), fun hJ => ⟨by unfold inI; omega, ⟨j + 1, by omega, by omega, ?_⟩, by dsimp only; omega⟩, by omega, fun h3 => ?_, fun h3 => ⟨by omega, ?_⟩⟩, fun h2 => ⟨by unfold inI; omega, ⟨i + 1, by omega, by omega, ?_⟩, by dsimp only; omega⟩⟩
    · intro j' h5
      rcases Nat.lt_or_ge j' j with h6 | h6
      · exact hu j' h6
      · have : j' = j := by omega
        subst this; exact hJ
    · rw [lat_lat] at h3; exact fun k _ => .inl h3
    · rw [lat_lat] at h3
      refine ⟨fun v => ∃ k : Nat, v = k ∧ k ≤ b.most.length ∧ ∀ k', k' < k → bm b i k' ≤ plusM (bm b i j) (bm b j k'), fun v => b.most.length - v.toNat, ⟨0, rfl, by omega, by omega⟩, ?_⟩
      rintro _ ⟨k, rfl, hk, hv⟩
      rw [hL j (by omega), lat_lat, lat_lat, lat_lat]
      refine ⟨fun h4 => ⟨by omega, by omega, by omega, fun _ _ => ?_, fun h5 => ?_, fun h5 => ⟨by unfold inI; omega, ⟨k + 1, by omega, by omega, ?_⟩, by dsimp only; omega⟩⟩, fun h4 => ?_⟩
      · have a1 := (hr i (by omega)).2.2 j (by omega)
        have a2 := (hr j (by omega)).2.2 k (by omega)
        unfold inI; omega
      · refine hfalse fun v => ?_
        have := v.tri i j k (by omega) (by omega) (by omega)
        omega
      · intro k' h6
        rcases Nat.lt_or_ge k' k with h7 | h7
        · exact hv k' h7
        · have : k' = k := by omega
          subst this; omega
      · exact fun k' hk' => .inr (hv k' (by omega))
    · intro i' h5 j' k' hj' hk'
      rcases Nat.lt_or_ge i' i with h6 | h6
      · exact ht i' h6 j' k' hj' hk'
      · have : i' = i := by omega
        subst this; exact hu j' (by omega) k' hk'
  · refine (validBM_iff.mpr ⟨by omega, fun i' hi' => (hr i' hi').1, fun i' hi' => (hr i' hi').2.1, fun i' j' hi' hj' => (hr i' hi').2.2 j' hj', fun i' j' k' hi' hj' hk' => ht i' (by omega) j' k' hj' hk'⟩).symm
theorem spec_vald (b : Bd) (h0 : b.most.length ≤ 1073741824) (h1 : ∀ r ∈ b.most, r.length ≤ 1073741824) : FnP Try.prog 25 [.agg ((e34 true) b)] (fun xR => xR = .bool (validBM b)) :=
  (walk_vald (vcp_vald b h0 h1)).mono (by rintro _ ⟨_, rfl, rfl⟩; rfl)
def vc_range (b : Bd) (f : Int) (t : Int) (Post : Int → Int → Int → Prop) : Prop :=
  ((b.most.length ≤ 1073741824) ∧ (∀ r ∈ b.most, r.length ≤ 1073741824) ∧ True) ∧ ((((¬ ((validBM b) = true)) ∨ (((min f t) < (0 : Int)) ∨ (b.n ≤ (max f t)))) → Post (0 : Int) (0 : Int) (2 : Int)) ∧ (¬ ((¬ ((validBM b) = true)) ∨ (((min f t) < (0 : Int)) ∨ (b.n ≤ (max f t)))) → (0 ≤ t ∧ t < (b.most.length : Int)) ∧ (0 ≤ f ∧ f < ((lat b.most t).length : Int)) ∧ (inI (-(lat (lat b.most t) f))) ∧ (0 ≤ f ∧ f < (b.most.length : Int)) ∧ (0 ≤ t ∧ t < ((lat b.most f).length : Int)) ∧ Post (-(lat (lat b.most t) f)) (lat (lat b.most f) t) (0 : Int)))
set_option maxRecDepth 100000 in
set_option maxHeartbeats 4000000 in
theorem walk_range {b : Bd} {f : Int} {t : Int} {Post : Int → Int → Int → Prop} (hv : vc_range b f t Post) : FnP Try.prog 21 [.agg ((e34 true) b), .int .i64 f, .int .i64 t] (fun x => ∃ q0 q1 q2, x = .tup [.int .i64 q0, .int .i64 q1, .int .i64 q2] ∧ Post q0 q1 q2) := by
 refine FnP.of_walk (T := tt) (nt := 43) ttOk ttMix ⟨⟨Try.f21, Try.func21, rfl, rfl, rfl, rfl⟩⟩ (by simp) ?_
 unfold vc_range at hv
 change W _ _ _ ⟨43, look [(0, .agg [.int .i64 b.n, .lst true b.most.length (encL (eSl eInt true) b.most)]), (1, .int .i64 f), (2, .int .i64 t)], [], false⟩ _
 refine W.tr [(0, .agg _), (1, .int _ _), (2, .int _ _)] [] ⟨rfl, rfl, rfl, trivial⟩ rfl ?_
 refine W.rL ?_
 refine cL rfl (o_box (v := .agg _) (p := 0) rfl rfl rfl ?_)
 iterate 3 refine aI rfl rfl ?_
 refine eL ?_
 refine W.tr [(1, .int _ _), (2, .int _ _), (3, .ptr _ _)] [.box _ [.int _ _, .lst _ _ _]] ⟨rfl, rfl, rfl, trivial⟩ rfl ?_
 refine W.seq' ?_
 obtain ⟨sd, hv⟩ := hv
 refine W.rLm ⟨43, look [(1, .int .i64 f), (2, .int .i64 t), (3, .ptr 0 0), (25, .bool (decide ((¬ ((validBM b) = true)) ∨ (((min f t) < (0 : Int)) ∨ (b.n ≤ (max f t))))))], [.box 34 [.int .i64 b.n, .lst true b.most.length (encL (eSl eInt true) b.most)]], false⟩ ?_ ?_
 refine cL rfl (o_ldA (cs := [.int _ _, .lst _ _ _]) tt34 rfl rfl ⟨_, rfl⟩ rfl ?_)
 obtain ⟨s7, s8, sd⟩ := sd
 refine cL rfl (o_callP1 (k := 25) (fst := []) (caps := []) (ys := [.agg _]) rfl rfl (spec_vald b s7 s8) (Wks.cons (ag_agg 5 _ (Wks.cons (ag_int _ _ _ _) (Wks.cons (ag_lst _ _ _ _ _) (Wks.refl _)))) (Wks.refl _)) ?_)
 refine cL rfl (o_notB rfl ?_)
 refine mB rfl rfl ?_
 by_cases c1 : ¬ ((validBM b) = true)
 iterate 4 refine cLs rfl rfl rfl (decide_eq_true c1) ?_
 refine cL rfl (o_pickT (v := .bool _) rfl (decide_eq_true c1) rfl ?_)
 refine mB rfl rfl ?_
 iterate 6 refine cLs rfl rfl rfl (rfl) ?_
 refine cL rfl (o_pickT (v := .bool _) rfl rfl rfl ?_)
 refine eL ?_
 exact le_mk ⟨rfl, rfl, rfl, (congrArg AV.bool (dOrT c1)).symm, trivial⟩ rfl
 refine cLg rfl rfl (decide_eq_false c1) ?_
 refine mI rfl rfl ?_
 refine cLg rfl rfl (decide_eq_false c1) ?_
 refine mI rfl rfl ?_
 refine cLg rfl rfl (decide_eq_false c1) ?_
 refine cL rfl (o_min rfl rfl ?_)
 refine cLg rfl rfl (decide_eq_false c1) ?_
 refine cL rfl (o_lss rfl rfl ?_)
 refine cL rfl (o_pickF (v := .bool _) rfl (decide_eq_false c1) rfl ?_)
 refine mB rfl rfl ?_
 by_cases c2 : (min f t) < (0 : Int)
 iterate 6 refine cLs rfl rfl rfl (decide_eq_true c2) ?_
 refine cL rfl (o_pickT (v := .bool _) rfl (decide_eq_true c2) rfl ?_)
 refine eL ?_
 exact le_mk ⟨rfl, rfl, rfl, (congrArg AV.bool (dOrF c1 (dOrT c2))).symm, trivial⟩ rfl
 refine cLg rfl rfl (decide_eq_false c2) ?_
 refine mI rfl rfl ?_
 refine cLg rfl rfl (decide_eq_false c2) ?_
 refine mI rfl rfl ?_
 refine cLg rfl rfl (decide_eq_false c2) ?_
 refine cL rfl (o_max rfl rfl ?_)
 refine cLg rfl rfl (decide_eq_false c2) ?_
 refine cL rfl (o_fa tt34 rfl tt3 rfl ?_)
 refine cLg rfl rfl (decide_eq_false c2) ?_
 refine cL rfl (o_ldS (v := .int _ _) tt3 rfl rfl ⟨_, rfl⟩ ?_)
 refine cLg rfl rfl (decide_eq_false c2) ?_
 refine cL rfl (o_geq rfl rfl ?_)
 refine cL rfl (o_pickF (v := .bool _) rfl (decide_eq_false c2) rfl ?_)
 refine eL ?_
 exact le_mk ⟨rfl, rfl, rfl, (congrArg AV.bool (dOrF c1 (dOrF c2 (rfl)))).symm, trivial⟩ rfl
 refine W.cn rfl (fun hc => ?_) (fun hc => ?_)
 have hv := hv.1 hc
 refine W.rL ?_
 iterate 3 refine aI rfl rfl ?_
 refine eL ?_
 refine W.tr [(6, .int _ _), (7, .int _ _), (8, .int _ _)] [.box _ [.int _ _, .lst _ _ _]] ⟨rfl, rfl, rfl, trivial⟩ rfl ?_
 refine W.ret ?_
 refine th_ret (rt ?_)
 iterate 3 refine rt_t (v := .int _ _) rfl ?_
 refine rt_n ?_
 exact ⟨_, rs_tup 5 _ (Wks.cons (rs_int _ _ _ _) (Wks.cons (rs_int _ _ _ _) (Wks.cons (rs_int _ _ _ _) (Wks.refl _)))), (0 : Int), (0 : Int), (2 : Int), rfl, hv⟩
 have hv := hv.2 hc
 refine W.skip ?_
 refine th_nrm ?_
 refine W.tr [(1, .int _ _), (2, .int _ _), (3, .ptr _ _)] [.box _ [.int _ _, .lst _ _ _]] ⟨rfl, rfl, rfl, trivial⟩ rfl ?_
 refine W.rD [0, 1, 2, 3, 4, 5, 6, 7, 8, 9, 10, 11, 12, 13, 14, 15, 16, 17, 18, 19] (by decide +kernel) rfl ?_
 refine cL rfl (o_fa tt34 rfl tt32 rfl ?_)
 refine cL rfl (o_ldS (v := .lst _ _ _) tt32 rfl rfl ⟨_, rfl⟩ ?_)
 refine mI rfl rfl ?_
 obtain ⟨s9, hv⟩ := hv
 refine cL rfl (o_iaL tt32 tt35 rfl rfl ((encSl eInt).wd true) rfl s9 ?_)
 intro rest9
 refine cL rfl (o_ldS (v := .lst _ _ _) tt35 rfl rfl ⟨_, rfl⟩ ?_)
 refine mI rfl rfl ?_
 obtain ⟨s10, hv⟩ := hv
 refine cL rfl (o_iaL tt35 tt3 rfl rfl (encInt.wd true) rfl s10 ?_)
 intro rest10
 refine cL rfl (o_ldS (v := .int _ _) tt3 rfl rfl ⟨_, rfl⟩ ?_)
 obtain ⟨s11, hv⟩ := hv
 refine cL rfl (o_neg rfl s11 ?_)
 refine cL rfl (o_fa tt34 rfl tt32 rfl ?_)
 refine cL rfl (o_ldS (v := .lst _ _ _) tt32 rfl rfl ⟨_, rfl⟩ ?_)
 refine mI rfl rfl ?_
 obtain ⟨s12, hv⟩ := hv
 refine cL rfl (o_iaL tt32 tt35 rfl rfl ((encSl eInt).wd true) rfl s12 ?_)
 intro rest12
 refine cL rfl (o_ldS (v := .lst _ _ _) tt35 rfl rfl ⟨_, rfl⟩ ?_)
 refine mI rfl rfl ?_
 obtain ⟨s13, hv⟩ := hv
 refine cL rfl (o_iaL tt35 tt3 rfl rfl (encInt.wd true) rfl s13 ?_)
 intro rest13
 refine cL rfl (o_ldS (v := .int _ _) tt3 rfl rfl ⟨_, rfl⟩ ?_)
 iterate 3 refine aI rfl rfl ?_
 refine eL ?_
 refine W.tr [(6, .int _ _), (7, .int _ _), (8, .int _ _)] [.box _ [.int _ _, .lst _ _ _]] ⟨rfl, rfl, rfl, trivial⟩ rfl ?_
 refine W.ret ?_
 refine rt ?_
 iterate 3 refine rt_t (v := .int _ _) rfl ?_
 refine rt_n ?_
 exact ⟨_, rs_tup 5 _ (Wks.cons (rs_int _ _ _ _) (Wks.cons (rs_int _ _ _ _) (Wks.cons (rs_int _ _ _ _) (Wks.refl _)))), (-(lat (lat b.most t) f)), (lat (lat b.most f) t), (0 : Int), rfl, hv⟩
theorem vcp_range (b : Bd) (f : Int) (t : Int) (h0 : b.most.length ≤ 1073741824) (h1 : ∀ r ∈ b.most, r.length ≤ 1073741824) : vc_range b f t (fun q0 q1 q2 => q0 = (rangeM b f t).1 ∧ q1 = (rangeM b f t).2.1 ∧ q2 = (rangeM b f t).2.2) := by
  unfold vc_range
  have hnb := hNB
  refine ⟨⟨h0, h1, trivial⟩, fun h => ?_, fun h => ?_⟩
  · have e : rangeM b f t = (0, 0, 2) := by
      unfold rangeM; rw [if_neg]
      rintro ⟨a1, a2, a3⟩
      rcases h with h | h | h
      · exact h a1
      · omega
      · omega
    rw [e]; exact ⟨rfl, rfl, rfl⟩
  have hv : validBM b = true := Classical.not_not.mp fun e => h (.inl e)
  have vb := validBM_iff.mp hv
  have h9 := fun e => h (.inr e)
  have hn := vb.n
  obtain ⟨f, rfl⟩ : ∃ k : Nat, f = k := ⟨f.toNat, by omega⟩
  obtain ⟨t, rfl⟩ : ∃ k : Nat, t = k := ⟨t.toNat, by omega⟩
  have e : rangeM b f t = (-bm b t f, bm b f t, 0) := by unfold rangeM; rw [if_pos ⟨hv, by omega, by omega⟩]; rfl
  have r1 := vb.row f (by omega)
  have r2 := vb.row t (by omega)
  have o := vb.ok t f (by omega) (by omega)
  rw [e, lat_lat, lat_lat, lat_nat, lat_nat]
  refine ⟨by omega, ?_, by unfold inI; omega, by omega, ?_, rfl, rfl, rfl⟩
  · show _ ∧ _ < ((b.most.getD t []).length : Int); omega
  · show _ ∧ _ < ((b.most.getD f []).length : Int); omega
theorem spec_range (b : Bd) (f : Int) (t : Int) (h0 : b.most.length ≤ 1073741824) (h1 : ∀ r ∈ b.most, r.length ≤ 1073741824) : FnP Try.prog 21 [.agg ((e34 true) b), .int .i64 f, .int .i64 t] (fun xR => xR = .tup [.int .i64 ((rangeM b f t).1), .int .i64 ((rangeM b f t).2.1), .int .i64 ((rangeM b f t).2.2)]) :=
  (walk_range (vcp_range b f t h0 h1)).mono (by rintro _ ⟨_, _, _, rfl, rfl, rfl, rfl⟩; rfl)
def vc_equal (a : (List Int)) (b : (List Int)) (Post : Bool → Prop) : Prop :=
  ((¬ ((a.length : Nat) : Int) = ((b.length : Nat) : Int)) → Post false) ∧ (¬ (¬ ((a.length : Nat) : Int) = ((b.length : Nat) : Int)) → ∃ (I1 : Int → Prop) (μ1 : Int → Nat), I1 (0 : Int) ∧ ∀ (v13 : Int), I1 v13 → ((v13 < ((a.length : Nat) : Int)) → (0 ≤ v13 ∧ v13 < (a.length : Int)) ∧ (0 ≤ v13 ∧ v13 < (b.length : Int)) ∧ ((¬ lat a v13 = lat b v13) → Post false) ∧ (¬ (¬ lat a v13 = lat b v13) → (inI (v13 + (1 : Int))) ∧ (I1 (v13 + (1 : Int)) ∧ μ1 (v13 + (1 : Int)) < μ1 v13))) ∧ (¬ (v13 < ((a.length : Nat) : Int)) → Post true))
set_option maxRecDepth 100000 in
set_option maxHeartbeats 4000000 in
theorem walk_equal {a : (List Int)} {b : (List Int)} {Post : Bool → Prop} (hv : vc_equal a b Post) : FnP Try.prog 51 [.lst true a.length (encL eInt a), .lst true b.length (encL eInt b)] (fun x => ∃ q0, x = .bool q0 ∧ Post q0) := by
 refine FnP.of_walk (T := tt) (nt := 26) ttOk ttMix ⟨⟨Try.f51, Try.func51, rfl, rfl, rfl, rfl⟩⟩ (by simp) ?_
 unfold vc_equal at hv
 change W _ _ _ ⟨26, look [(0, .lst true a.length (encL eInt a)), (1, .lst true b.length (encL eInt b))], [], false⟩ _
 refine W.tr [(0, .lst _ _ _), (1, .lst _ _ _)] [] ⟨rfl, rfl, trivial⟩ rfl ?_
 refine W.rL ?_
 refine aB rfl rfl ?_
 refine eL ?_
 refine W.tr [(0, .lst _ _ _), (1, .lst _ _ _)] [] ⟨rfl, rfl, trivial⟩ rfl ?_
 refine W.seq' ?_
 refine W.rL ?_
 refine mL rfl rfl ?_
 refine cL rfl (o_len (v := .lst _ _ _) tt35 rfl rfl ?_)
 refine mL rfl rfl ?_
 refine cL rfl (o_len (v := .lst _ _ _) tt35 rfl rfl ?_)
 refine cL rfl (o_neI rfl rfl rfl ?_)
 refine eL ?_
 refine W.tr [(0, .lst _ _ _), (1, .lst _ _ _), (10, .bool _)] [] ⟨rfl, rfl, rfl, trivial⟩ rfl ?_
 refine W.cn rfl (fun hc => ?_) (fun hc => ?_)
 have hv := hv.1 hc
 refine W.rL ?_
 refine aB rfl rfl ?_
 refine eL ?_
 refine W.tr [(4, .bool _)] [] ⟨rfl, trivial⟩ rfl ?_
 refine W.ret ?_
 refine th_ret (rt ?_)
 refine rt_t (v := .bool _) rfl ?_
 refine rt_n ?_
 exact ⟨_, rs_bool _ _ _, false, rfl, hv⟩
 have hv := hv.2 hc
 refine W.skip ?_
 refine th_nrm ?_
 refine W.tr [(0, .lst _ _ _), (1, .lst _ _ _)] [] ⟨rfl, rfl, trivial⟩ rfl ?_
 refine W.seq' ?_
 refine W.rL ?_
 refine mL rfl rfl ?_
 refine cL rfl (o_len (v := .lst _ _ _) tt35 rfl rfl ?_)
 refine mI rfl rfl ?_
 refine eL ?_
 refine W.tr [(0, .lst _ _ _), (1, .lst _ _ _), (12, .int _ _), (13, .int _ _)] [] ⟨rfl, rfl, rfl, rfl, trivial⟩ rfl ?_
 refine W.block ?_
 obtain ⟨I1, μ1, hp, hv⟩ := hv
 refine W.loop1 (fun v13 => ⟨26, look [(0, .lst true a.length (encL eInt a)), (1, .lst true b.length (encL eInt b)), (12, .int .i64 ((a.length : Nat) : Int)), (13, .int .i64 v13)], [], false⟩) I1 μ1 (0 : Int) (St.to_mk (φ := []) rfl (.inl rfl) ⟨Ren.lst _ _ _, Ren.lst _ _ _, Ren.int _ _, Ren.int _ _, trivial⟩ trivial) hp ?_
 clear hp
 intro v13 hI
 replace hv := hv v13 hI
 clear hI
 refine W.rL ?_
 refine cL rfl (o_lss rfl rfl ?_)
 refine eL ?_
 refine W.tr [(0, .lst _ _ _), (1, .lst _ _ _), (12, .int _ _), (13, .int _ _), (14, .bool _)] [] ⟨rfl, rfl, rfl, rfl, rfl, trivial⟩ rfl ?_
 refine W.seq' ?_
 refine W.cn rfl (fun hc => ?_) (fun hc => ?_)
 have hv := hv.1 hc
 refine W.skip ?_
 refine th_nrm ?_
 refine W.tr [(0, .lst _ _ _), (1, .lst _ _ _), (12, .int _ _), (13, .int _ _)] [] ⟨rfl, rfl, rfl, rfl, trivial⟩ rfl ?_
 refine W.seq' ?_
 refine W.block ?_
 refine W.rL ?_
 refine mI rfl rfl ?_
 refine aI rfl rfl ?_
 refine eL ?_
 refine W.tr [(0, .lst _ _ _), (1, .lst _ _ _), (5, .int _ _), (12, .int _ _), (13, .int _ _)] [] ⟨rfl, rfl, rfl, rfl, rfl, trivial⟩ rfl ?_
 refine W.rD [0, 1, 2, 3, 4, 5, 6, 7, 8] (by decide +kernel) rfl ?_
 refine mL rfl rfl ?_
 refine mI rfl rfl ?_
 obtain ⟨s18, hv⟩ := hv
 refine cL rfl (o_iaL tt35 tt3 rfl rfl (encInt.wd true) rfl s18 ?_)
 intro rest18
 refine cL rfl (o_ldS (v := .int _ _) tt3 rfl rfl ⟨_, rfl⟩ ?_)
 refine mL rfl rfl ?_
 refine mI rfl rfl ?_
 obtain ⟨s19, hv⟩ := hv
 refine cL rfl (o_iaL tt35 tt3 rfl rfl (encInt.wd true) rfl s19 ?_)
 intro rest19
 refine cL rfl (o_ldS (v := .int _ _) tt3 rfl rfl ⟨_, rfl⟩ ?_)
 refine cL rfl (o_neI rfl rfl rfl ?_)
 refine eL ?_
 refine W.tr [(0, .lst _ _ _), (1, .lst _ _ _), (12, .int _ _), (13, .int _ _), (24, .bool _)] [] ⟨rfl, rfl, rfl, rfl, rfl, trivial⟩ rfl ?_
 refine W.cn rfl (fun hc => ?_) (fun hc => ?_)
 have hv := hv.1 hc
 refine W.rL ?_
 refine aB rfl rfl ?_
 refine eL ?_
 refine W.tr [(4, .bool _)] [] ⟨rfl, trivial⟩ rfl ?_
 refine W.ret ?_
 refine bl_ret (th_ret (th_ret (bl_ret (th_ret (rt ?_)))))
 refine rt_t (v := .bool _) rfl ?_
 refine rt_n ?_
 exact ⟨_, rs_bool _ _ _, false, rfl, hv⟩
 have hv := hv.2 hc
 refine W.skip ?_
 refine bl_nrm (th_nrm ?_)
 refine W.tr [(0, .lst _ _ _), (1, .lst _ _ _), (12, .int _ _), (13, .int _ _)] [] ⟨rfl, rfl, rfl, rfl, trivial⟩ rfl ?_
 refine W.rL1 ?_
 obtain ⟨s20, hv⟩ := hv
 refine cL rfl (o_add rfl rfl s20 ?_)
 refine mI rfl rfl ?_
 refine eL ?_
 exact th_nrm (⟨(), (v13 + (1 : Int)), hv, St.to_mk (φ := []) rfl (.inl rfl) ⟨Ren.lst _ _ _, Ren.lst _ _ _, Ren.int _ _, Ren.int _ _, trivial⟩ trivial⟩)
 have hv := hv.2 hc
 refine W.exit ?_
 refine th_exit (th_exit (bl_hit (th_nrm ?_)))
 refine W.tr [] [] trivial rfl ?_
 refine W.rL ?_
 refine aB rfl rfl ?_
 refine eL ?_
 refine W.tr [(4, .bool _)] [] ⟨rfl, trivial⟩ rfl ?_
 refine W.ret ?_
 refine rt ?_
 refine rt_t (v := .bool _) rfl ?_
 refine rt_n ?_
 exact ⟨_, rs_bool _ _ _, true, rfl, hv⟩
theorem vcp_equal (a : (List Int)) (b : (List Int)) (h0 : a.length ≤ 1073741824) : vc_equal a b (fun q0 => q0 = (decide (a = b))) := by
  unfold vc_equal
  refine ⟨fun h => ?_, fun h => ⟨fun v => ∃ i : Nat, v = i ∧ i ≤ a.length ∧ ∀ j, j < i → a[j]? = b[j]?, fun v => a.length - v.toNat, ⟨0, rfl, by omega, by omega⟩, ?_⟩⟩
  · exact (decide_eq_false fun e => h (by rw [e])).symm
  · have hl : a.length = b.length := by omega
    rintro _ ⟨i, rfl, hi, hj⟩
    refine ⟨fun h1 => ⟨by omega, by omega, fun h2 => ?_, fun h2 => ⟨by unfold inI; omega, ⟨i + 1, by omega, by omega, ?_⟩, by dsimp only; omega⟩⟩, fun h1 => ?_⟩
    · exact (decide_eq_false fun e => h2 (by rw [e])).symm
    · intro j hj1
      rcases Nat.lt_or_ge j i with h3 | h3
      · exact hj j h3
      · have : j = i := by omega
        subst this
        have h4 : lat a (j : Int) = lat b (j : Int) := Classical.not_not.mp h2
        have ha : j < a.length := by omega
        have hb : j < b.length := by omega
        simp only [lat, Int.toNat_natCast, List.getD_eq_getElem?_getD, List.getElem?_eq_getElem ha, List.getElem?_eq_getElem hb, Option.getD_some] at h4 ⊢
        rw [h4]
    · refine (decide_eq_true (List.ext_getElem? fun j => ?_)).symm
      rcases Nat.lt_or_ge j i with h3 | h3
      · exact hj j h3
      · rw [List.getElem?_eq_none (by omega), List.getElem?_eq_none (by omega)]
theorem spec_equal (a : (List Int)) (b : (List Int)) (h0 : a.length ≤ 1073741824) : FnP Try.prog 51 [.lst true a.length (encL eInt a), .lst true b.length (encL eInt b)] (fun xR => xR = .bool (decide (a = b))) :=
  (walk_equal (vcp_equal a b h0)).mono (by rintro _ ⟨_, rfl, rfl⟩; rfl)
def vc_same1 (a : (List Int)) (b : (List Int)) (Post : Bool → Prop) : Prop :=
  (a.length ≤ 1073741824) ∧ Post (decide (a = b))
set_option maxRecDepth 100000 in
set_option maxHeartbeats 4000000 in
theorem walk_same1 {a : (List Int)} {b : (List Int)} {Post : Bool → Prop} (hv : vc_same1 a b Post) : FnP Try.prog 50 [.lst true a.length (encL eInt a), .lst true b.length (encL eInt b)] (fun x => ∃ q0, x = .bool q0 ∧ Post q0) := by
 refine FnP.of_walk (T := tt) (nt := 8) ttOk ttMix ⟨⟨Try.f50, Try.func50, rfl, rfl, rfl, rfl⟩⟩ (by simp) ?_
 unfold vc_same1 at hv
 change W _ _ _ ⟨8, look [(0, .lst true a.length (encL eInt a)), (1, .lst true b.length (encL eInt b))], [], false⟩ _
 refine W.tr [(0, .lst _ _ _), (1, .lst _ _ _)] [] ⟨rfl, rfl, trivial⟩ rfl ?_
 refine W.rL ?_
 refine aB rfl rfl ?_
 refine eL ?_
 refine W.tr [(0, .lst _ _ _), (1, .lst _ _ _)] [] ⟨rfl, rfl, trivial⟩ rfl ?_
 refine W.rL ?_
 iterate 2 refine mL rfl rfl ?_
 obtain ⟨s1, hv⟩ := hv
 refine cL rfl (o_callP1 (k := 51) (fst := []) (caps := []) (ys := [.lst _ _ _, .lst _ _ _]) rfl rfl (spec_equal a b s1) (Wks.cons (ag_lst _ _ _ _ _) (Wks.cons (ag_lst _ _ _ _ _) (Wks.refl _))) ?_)
 refine aB rfl rfl ?_
 refine eL ?_
 refine W.tr [(4, .bool _)] [] ⟨rfl, trivial⟩ rfl ?_
 refine W.ret ?_
 refine rt ?_
 refine rt_t (v := .bool _) rfl ?_
 refine rt_n ?_
 exact ⟨_, rs_bool _ _ _, (decide (a = b)), rfl, hv⟩
theorem vcp_same1 (a : (List Int)) (b : (List Int)) (h0 : a.length ≤ 1073741824) : vc_same1 a b (fun q0 => q0 = (decide (a = b))) := by
  unfold vc_same1
  exact ⟨h0, rfl⟩
theorem spec_same1 (a : (List Int)) (b : (List Int)) (h0 : a.length ≤ 1073741824) : FnP Try.prog 50 [.lst true a.length (encL eInt a), .lst true b.length (encL eInt b)] (fun xR => xR = .bool (decide (a = b))) :=
  (walk_same1 (vcp_same1 a b h0)).mono (by rintro _ ⟨_, rfl, rfl⟩; rfl)
def vc_eqf (a : (List (List Int))) (b : (List (List Int))) (Post : Bool → Prop) : Prop :=
  ((¬ ((a.length : Nat) : Int) = ((b.length : Nat) : Int)) → Post false) ∧ (¬ (¬ ((a.length : Nat) : Int) = ((b.length : Nat) : Int)) → ∃ (I1 : Int → Prop) (μ1 : Int → Nat), I1 (0 : Int) ∧ ∀ (v17 : Int), I1 v17 → ((v17 < ((a.length : Nat) : Int)) → (0 ≤ v17 ∧ v17 < (a.length : Int)) ∧ (0 ≤ v17 ∧ v17 < (b.length : Int)) ∧ ((lat a v17).length ≤ 1073741824) ∧ ((¬ ((lat a v17) = (lat b v17))) → Post false) ∧ (¬ (¬ ((lat a v17) = (lat b v17))) → (inI (v17 + (1 : Int))) ∧ (I1 (v17 + (1 : Int)) ∧ μ1 (v17 + (1 : Int)) < μ1 v17))) ∧ (¬ (v17 < ((a.length : Nat) : Int)) → Post true))
set_option maxRecDepth 100000 in
set_option maxHeartbeats 4000000 in
theorem walk_eqf {a : (List (List Int))} {b : (List (List Int))} {Post : Bool → Prop} (hv : vc_eqf a b Post) : FnP Try.prog 49 [.lst true a.length (encL (eSl eInt true) a), .lst true b.length (encL (eSl eInt true) b), .clo 50 [] []] (fun x => ∃ q0, x = .bool q0 ∧ Post q0) := by
 refine FnP.of_walk (T := tt) (nt := 32) ttOk ttMix ⟨⟨Try.f49, Try.func49, rfl, rfl, rfl, rfl⟩⟩ (by simp) ?_
 unfold vc_eqf at hv
 change W _ _ _ ⟨32, look [(0, .lst true a.length (encL (eSl eInt true) a)), (1, .lst true b.length (encL (eSl eInt true) b)), (2, .clo 50 [] [])], [], false⟩ _
 refine W.tr [(0, .lst _ _ _), (1, .lst _ _ _), (2, .clo _ _ _)] [] ⟨rfl, rfl, rfl, trivial⟩ rfl ?_
 refine W.rL ?_
 refine aB rfl rfl ?_
 refine eL ?_
 refine W.tr [(0, .lst _ _ _), (1, .lst _ _ _), (2, .clo _ _ _)] [] ⟨rfl, rfl, rfl, trivial⟩ rfl ?_
 refine W.seq' ?_
 refine W.rL ?_
 refine mL rfl rfl ?_
 refine cL rfl (o_len (v := .lst _ _ _) tt32 rfl rfl ?_)
 refine mL rfl rfl ?_
 refine cL rfl (o_len (v := .lst _ _ _) tt32 rfl rfl ?_)
 refine cL rfl (o_neI rfl rfl rfl ?_)
 refine eL ?_
 refine W.tr [(0, .lst _ _ _), (1, .lst _ _ _), (2, .clo _ _ _), (14, .bool _)] [] ⟨rfl, rfl, rfl, rfl, trivial⟩ rfl ?_
 refine W.cn rfl (fun hc => ?_) (fun hc => ?_)
 have hv := hv.1 hc
 refine W.rL ?_
 refine aB rfl rfl ?_
 refine eL ?_
 refine W.tr [(6, .bool _)] [] ⟨rfl, trivial⟩ rfl ?_
 refine W.ret ?_
 refine th_ret (rt ?_)
 refine rt_t (v := .bool _) rfl ?_
 refine rt_n ?_
 exact ⟨_, rs_bool _ _ _, false, rfl, hv⟩
 have hv := hv.2 hc
 refine W.skip ?_
 refine th_nrm ?_
 refine W.tr [(0, .lst _ _ _), (1, .lst _ _ _), (2, .clo _ _ _)] [] ⟨rfl, rfl, rfl, trivial⟩ rfl ?_
 refine W.seq' ?_
 refine W.rL ?_
 refine mL rfl rfl ?_
 refine cL rfl (o_len (v := .lst _ _ _) tt32 rfl rfl ?_)
 refine mI rfl rfl ?_
 refine eL ?_
 refine W.tr [(1, .lst _ _ _), (2, .clo _ _ _), (15, .lst _ _ _), (16, .int _ _), (17, .int _ _)] [] ⟨rfl, rfl, rfl, rfl, rfl, trivial⟩ rfl ?_
 refine W.block ?_
 obtain ⟨I1, μ1, hp, hv⟩ := hv
 refine W.loop1 (fun v17 => ⟨32, look [(1, .lst true b.length (encL (eSl eInt true) b)), (2, .clo 50 [] []), (15, .lst true a.length (encL (eSl eInt true) a)), (16, .int .i64 ((a.length : Nat) : Int)), (17, .int .i64 v17)], [], false⟩) I1 μ1 (0 : Int) (St.to_mk (φ := []) rfl (.inl rfl) ⟨Ren.lst _ _ _, Ren.clo _ (Rens.nil) (Rens.nil), Ren.lst _ _ _, Ren.int _ _, Ren.int _ _, trivial⟩ trivial) hp ?_
 clear hp
 intro v17 hI
 replace hv := hv v17 hI
 clear hI
 refine W.rL ?_
 refine cL rfl (o_lss rfl rfl ?_)
 refine eL ?_
 refine W.tr [(1, .lst _ _ _), (2, .clo _ _ _), (15, .lst _ _ _), (16, .int _ _), (17, .int _ _), (18, .bool _)] [] ⟨rfl, rfl, rfl, rfl, rfl, rfl, trivial⟩ rfl ?_
 refine W.seq' ?_
 refine W.cn rfl (fun hc => ?_) (fun hc => ?_)
 have hv := hv.1 hc
 refine W.skip ?_
 refine th_nrm ?_
 refine W.tr [(1, .lst _ _ _), (2, .clo _ _ _), (15, .lst _ _ _), (16, .int _ _), (17, .int _ _)] [] ⟨rfl, rfl, rfl, rfl, rfl, trivial⟩ rfl ?_
 refine W.seq' ?_
 refine W.block ?_
 refine W.rL ?_
 refine mI rfl rfl ?_
 obtain ⟨s25, hv⟩ := hv
 refine cL rfl (o_iaL tt32 tt35 rfl rfl ((encSl eInt).wd true) rfl s25 ?_)
 intro rest25
 refine cL rfl (o_ldS (v := .lst _ _ _) tt35 rfl rfl ⟨_, rfl⟩ ?_)
 refine aI rfl rfl ?_
 refine aL rfl rfl ?_
 refine eL ?_
 refine W.tr [(1, .lst _ _ _), (2, .clo _ _ _), (7, .int _ _), (8, .lst _ _ _), (15, .lst _ _ _), (16, .int _ _), (17, .int _ _)] [] ⟨rfl, rfl, rfl, rfl, rfl, rfl, rfl, trivial⟩ rfl ?_
 refine W.rL ?_
 refine mL rfl rfl ?_
 refine mI rfl rfl ?_
 obtain ⟨s26, hv⟩ := hv
 refine cL rfl (o_iaL tt32 tt35 rfl rfl ((encSl eInt).wd true) rfl s26 ?_)
 intro rest26
 refine cL rfl (o_ldS (v := .lst _ _ _) tt35 rfl rfl ⟨_, rfl⟩ ?_)
 refine aL rfl rfl ?_
 refine eL ?_
 refine W.tr [(1, .lst _ _ _), (2, .clo _ _ _), (8, .lst _ _ _), (9, .lst _ _ _), (15, .lst _ _ _), (16, .int _ _), (17, .int _ _)] [] ⟨rfl, rfl, rfl, rfl, rfl, rfl, rfl, trivial⟩ rfl ?_
 refine W.rL ?_
 refine cL rfl (o_move (v := .clo _ _ _) rfl ?_)
 iterate 2 refine mL rfl rfl ?_
 obtain ⟨s27, hv⟩ := hv
 refine cL rfl (o_callP1 (k := 50) (fst := []) (caps := []) (ys := [.lst _ _ _, .lst _ _ _]) rfl rfl (spec_same1 (lat a v17) (lat b v17) s27) (Wks.cons (ag_lst _ _ _ _ _) (Wks.cons (ag_lst _ _ _ _ _) (Wks.refl _))) ?_)
 refine cL rfl (o_not rfl ?_)
 refine eL ?_
 refine W.tr [(1, .lst _ _ _), (2, .clo _ _ _), (15, .lst _ _ _), (16, .int _ _), (17, .int _ _), (30, .bool _)] [] ⟨rfl, rfl, rfl, rfl, rfl, rfl, trivial⟩ rfl ?_
 refine W.cn rfl (fun hc => ?_) (fun hc => ?_)
 have hv := hv.1 hc
 refine W.rL ?_
 refine aB rfl rfl ?_
 refine eL ?_
 refine W.tr [(6, .bool _)] [] ⟨rfl, trivial⟩ rfl ?_
 refine W.ret ?_
 refine bl_ret (th_ret (th_ret (bl_ret (th_ret (rt ?_)))))
 refine rt_t (v := .bool _) rfl ?_
 refine rt_n ?_
 exact ⟨_, rs_bool _ _ _, false, rfl, hv⟩
 have hv := hv.2 hc
 refine W.skip ?_
 refine bl_nrm (th_nrm ?_)
 refine W.tr [(1, .lst _ _ _), (2, .clo _ _ _), (15, .lst _ _ _), (16, .int _ _), (17, .int _ _)] [] ⟨rfl, rfl, rfl, rfl, rfl, trivial⟩ rfl ?_
 refine W.rL1 ?_
 obtain ⟨s28, hv⟩ := hv
 refine cL rfl (o_add rfl rfl s28 ?_)
 refine mI rfl rfl ?_
 refine eL ?_
 exact th_nrm (⟨(), (v17 + (1 : Int)), hv, St.to_mk (φ := []) rfl (.inl rfl) ⟨Ren.lst _ _ _, Ren.clo _ (Rens.nil) (Rens.nil), Ren.lst _ _ _, Ren.int _ _, Ren.int _ _, trivial⟩ trivial⟩)
 have hv := hv.2 hc
 refine W.exit ?_
 refine th_exit (th_exit (bl_hit (th_nrm ?_)))
 refine W.tr [] [] trivial rfl ?_
 refine W.rL ?_
 refine aB rfl rfl ?_
 refine eL ?_
 refine W.tr [(6, .bool _)] [] ⟨rfl, trivial⟩ rfl ?_
 refine W.ret ?_
 refine rt ?_
 refine rt_t (v := .bool _) rfl ?_
 refine rt_n ?_
 exact ⟨_, rs_bool _ _ _, true, rfl, hv⟩
theorem vcp_eqf (a : (List (List Int))) (b : (List (List Int))) (h0 : a.length ≤ 1073741824) (h1 : ∀ r ∈ a, r.length ≤ 1073741824) : vc_eqf a b (fun q0 => q0 = (decide (a = b))) := by
  unfold vc_eqf
  refine ⟨fun h => ?_, fun h => ⟨fun v => ∃ i : Nat, v = i ∧ i ≤ a.length ∧ ∀ j, j < i → a[j]? = b[j]?, fun v => a.length - v.toNat, ⟨0, rfl, by omega, by omega⟩, ?_⟩⟩
  · exact (decide_eq_false fun e => h (by rw [e])).symm
  · have hl : a.length = b.length := by omega
    rintro _ ⟨i, rfl, hi, hj⟩
    refine ⟨fun h9 => ⟨by omega, by omega, h1 _ (lat_mem ⟨by omega, by omega⟩), fun h2 => ?_, fun h2 => ⟨by unfold inI; omega, ⟨i + 1, by omega, by omega, ?_⟩, by dsimp only; omega⟩⟩, fun h9 => ?_⟩
    · exact (decide_eq_false fun e => h2 (by rw [e])).symm
    · intro j hj1
      rcases Nat.lt_or_ge j i with h3 | h3
      · exact hj j h3
      · have : j = i := by omega
        subst this
        have h4 : lat a (j : Int) = lat b (j : Int) := Classical.not_not.mp h2
        have ha : j < a.length := by omega
        have hb : j < b.length := by omega
        simp only [lat, Int.toNat_natCast, List.getD_eq_getElem?_getD, List.getElem?_eq_getElem ha, List.getElem?_eq_getElem hb, Option.getD_some] at h4 ⊢
        rw [h4]
    · refine (decide_eq_true (List.ext_getElem? fun j => ?_)).symm
      rcases Nat.lt_or_ge j i with h3 | h3
      · exact hj j h3
      · rw [List.getElem?_eq_none (by omega), List.getElem?_eq_none (by omega)]
theorem spec_eqf (a : (List (List Int))) (b : (List (List Int))) (h0 : a.length ≤ 1073741824) (h1 : ∀ r ∈ a, r.length ≤ 1073741824) : FnP Try.prog 49 [.lst true a.length (encL (eSl eInt true) a), .lst true b.length (encL (eSl eInt true) b), .clo 50 [] []] (fun xR => xR = .bool (decide (a = b))) :=
  (walk_eqf (vcp_eqf a b h0 h1)).mono (by rintro _ ⟨_, rfl, rfl⟩; rfl)
def vc_same (a : Bd) (b : Bd) (Post : Bool → Prop) : Prop :=
  (((a.n = b.n) → (a.most.length ≤ 1073741824) ∧ (∀ r ∈ a.most, r.length ≤ 1073741824) ∧ True) ∧ (¬ (a.n = b.n) → True)) ∧ (Post (decide ((a.n = b.n) ∧ (a.most = b.most))))
set_option maxRecDepth 100000 in
set_option maxHeartbeats 4000000 in
theorem walk_same {a : Bd} {b : Bd} {Post : Bool → Prop} (hv : vc_same a b Post) : FnP Try.prog 27 [.agg ((e34 true) a), .agg ((e34 true) b)] (fun x => ∃ q0, x = .bool q0 ∧ Post q0) := by
 refine FnP.of_walk (T := tt) (nt := 17) ttOk ttMix ⟨⟨Try.f27, Try.func27, rfl, rfl, rfl, rfl⟩⟩ (by simp) ?_
 unfold vc_same at hv
 change W _ _ _ ⟨17, look [(0, .agg [.int .i64 a.n, .lst true a.most.length (encL (eSl eInt true) a.most)]), (1, .agg [.int .i64 b.n, .lst true b.most.length (encL (eSl eInt true) b.most)])], [], false⟩ _
 refine W.tr [(0, .agg _), (1, .agg _)] [] ⟨rfl, rfl, trivial⟩ rfl ?_
 refine W.rL ?_
 refine cL rfl (o_box (v := .agg _) (p := 0) rfl rfl rfl ?_)
 refine cL rfl (o_box (v := .agg _) (p := 1) rfl rfl rfl ?_)
 refine aB rfl rfl ?_
 refine eL ?_
 refine W.tr [(2, .ptr _ _), (3, .ptr _ _)] [.box _ [.int _ _, .lst _ _ _], .box _ [.int _ _, .lst _ _ _]] ⟨rfl, rfl, trivial⟩ rfl ?_
 obtain ⟨sd, hv⟩ := hv
 refine W.rLm ⟨17, look [(4, .bool (decide ((a.n = b.n) ∧ (a.most = b.most))))], [.box 34 [.int .i64 a.n, .lst true a.most.length (encL (eSl eInt true) a.most)], .box 34 [.int .i64 b.n, .lst true b.most.length (encL (eSl eInt true) b.most)]], false⟩ ?_ ?_
 refine cL rfl (o_fa tt34 rfl tt3 rfl ?_)
 refine cL rfl (o_ldS (v := .int _ _) tt3 rfl rfl ⟨_, rfl⟩ ?_)
 refine cL rfl (o_fa tt34 rfl tt3 rfl ?_)
 refine cL rfl (o_ldS (v := .int _ _) tt3 rfl rfl ⟨_, rfl⟩ ?_)
 refine cL rfl (o_eqI rfl rfl rfl ?_)
 refine mB rfl rfl ?_
 by_cases c1 : a.n = b.n
 have sd := sd.1 c1
 refine cLg rfl rfl (decide_eq_true c1) ?_
 refine cL rfl (o_fa tt34 rfl tt32 rfl ?_)
 refine cLg rfl rfl (decide_eq_true c1) ?_
 refine cL rfl (o_ldS (v := .lst _ _ _) tt32 rfl rfl ⟨_, rfl⟩ ?_)
 refine cLg rfl rfl (decide_eq_true c1) ?_
 refine cL rfl (o_fa tt34 rfl tt32 rfl ?_)
 refine cLg rfl rfl (decide_eq_true c1) ?_
 refine cL rfl (o_ldS (v := .lst _ _ _) tt32 rfl rfl ⟨_, rfl⟩ ?_)
 refine cLg rfl rfl (decide_eq_true c1) ?_
 obtain ⟨s3, s4, sd⟩ := sd
 refine cL rfl (o_callP1 (k := 49) (fst := []) (caps := []) (ys := [.lst _ _ _, .lst _ _ _, .clo _ _ _]) rfl rfl (spec_eqf a.most b.most s3 s4) (Wks.cons (ag_lst _ _ _ _ _) (Wks.cons (ag_lst _ _ _ _ _) (Wks.cons (ag_clo 5 _ _ (Wks.refl _) (Wks.refl _)) (Wks.refl _)))) ?_)
 refine cL rfl (o_pickT (v := .bool _) rfl (decide_eq_true c1) rfl ?_)
 refine aB rfl rfl ?_
 refine eL ?_
 exact le_mk ⟨(congrArg AV.bool (dAndT c1 (rfl))).symm, trivial⟩ rfl
 iterate 5 refine cLs rfl rfl rfl (decide_eq_false c1) ?_
 refine cL rfl (o_pickF (v := .bool _) rfl (decide_eq_false c1) rfl ?_)
 refine aB rfl rfl ?_
 refine eL ?_
 exact le_mk ⟨(congrArg AV.bool (dAndF c1)).symm, trivial⟩ rfl
 refine W.ret ?_
 refine rt ?_
 refine rt_t (v := .bool _) rfl ?_
 refine rt_n ?_
 exact ⟨_, rs_bool _ _ _, (decide ((a.n = b.n) ∧ (a.most = b.most))), rfl, hv⟩
theorem vcp_same (a : Bd) (b : Bd) (h0 : a.most.length ≤ 1073741824) (h1 : ∀ r ∈ a.most, r.length ≤ 1073741824) : vc_same a b (fun q0 => q0 = (sameM a b)) := by
  unfold vc_same sameM
  refine ⟨⟨fun _ => ⟨h0, h1, trivial⟩, fun _ => trivial⟩, ?_⟩
  by_cases e1 : a.n = b.n <;> by_cases e2 : a.most = b.most <;> simp [e1, e2]
theorem spec_same (a : Bd) (b : Bd) (h0 : a.most.length ≤ 1073741824) (h1 : ∀ r ∈ a.most, r.length ≤ 1073741824) : FnP Try.prog 27 [.agg ((e34 true) a), .agg ((e34 true) b)] (fun xR => xR = .bool (sameM a b)) :=
  (walk_same (vcp_same a b h0 h1)).mono (by rintro _ ⟨_, rfl, rfl⟩; rfl)
def vc_holds1 (v : Int) (Post : Bool → Prop) : Prop :=
  Post (decide ((v < (-1152921504606846976 : Int)) ∨ ((1152921504606846976 : Int) < v)))
set_option maxRecDepth 100000 in
set_option maxHeartbeats 4000000 in
theorem walk_holds1 {v : Int} {Post : Bool → Prop} (hv : vc_holds1 v Post) : FnP Try.prog 53 [.int .i64 v] (fun x => ∃ q0, x = .bool q0 ∧ Post q0) := by
 refine FnP.of_walk (T := tt) (nt := 9) ttOk ttMix ⟨⟨Try.f53, Try.func53, rfl, rfl, rfl, rfl⟩⟩ (by simp) ?_
 unfold vc_holds1 at hv
 change W _ _ _ ⟨9, look [(0, .int .i64 v)], [], false⟩ _
 refine W.tr [(0, .int _ _)] [] ⟨rfl, trivial⟩ rfl ?_
 refine W.rL ?_
 refine aB rfl rfl ?_
 refine eL ?_
 refine W.tr [(0, .int _ _)] [] ⟨rfl, trivial⟩ rfl ?_
 refine W.rLm ⟨9, look [(2, .bool (decide ((v < (-1152921504606846976 : Int)) ∨ ((1152921504606846976 : Int) < v))))], [], false⟩ ?_ ?_
 refine mI rfl rfl ?_
 refine cL rfl (o_lss rfl rfl ?_)
 refine mB rfl rfl ?_
 by_cases c1 : v < (-1152921504606846976 : Int)
 iterate 2 refine cLs rfl rfl rfl (decide_eq_true c1) ?_
 refine cL rfl (o_pickT (v := .bool _) rfl (decide_eq_true c1) rfl ?_)
 refine aB rfl rfl ?_
 refine eL ?_
 exact le_mk ⟨(congrArg AV.bool (dOrT c1)).symm, trivial⟩ rfl
 refine cLg rfl rfl (decide_eq_false c1) ?_
 refine mI rfl rfl ?_
 refine cLg rfl rfl (decide_eq_false c1) ?_
 refine cL rfl (o_gtr rfl rfl ?_)
 refine cL rfl (o_pickF (v := .bool _) rfl (decide_eq_false c1) rfl ?_)
 refine aB rfl rfl ?_
 refine eL ?_
 exact le_mk ⟨(congrArg AV.bool (dOrF c1 (rfl))).symm, trivial⟩ rfl
 refine W.ret ?_
 refine rt ?_
 refine rt_t (v := .bool _) rfl ?_
 refine rt_n ?_
 exact ⟨_, rs_bool _ _ _, (decide ((v < (-1152921504606846976 : Int)) ∨ ((1152921504606846976 : Int) < v))), rfl, hv⟩
theorem vcp_holds1 (v : Int)  : vc_holds1 v (fun q0 => q0 = (!(decide (-1152921504606846976 ≤ v ∧ v ≤ 1152921504606846976)))) := by
  unfold vc_holds1
  dsimp only
  rw [← decide_not]
  exact decide_eq_decide.mpr (by omega)
theorem spec_holds1 (v : Int)  : FnP Try.prog 53 [.int .i64 v] (fun xR => xR = .bool (!(decide (-1152921504606846976 ≤ v ∧ v ≤ 1152921504606846976)))) :=
  (walk_holds1 (vcp_holds1 v)).mono (by rintro _ ⟨_, rfl, rfl⟩; rfl)
def vc_idxH1 (s : (List Int)) (Post : Int → Prop) : Prop :=
  ∃ (I1 : Int → Prop) (μ1 : Int → Nat), I1 (0 : Int) ∧ ∀ (v8 : Int), I1 v8 → ((v8 < ((s.length : Nat) : Int)) → (0 ≤ v8 ∧ v8 < (s.length : Int)) ∧ (((!(decide (-1152921504606846976 ≤ (lat s v8) ∧ (lat s v8) ≤ 1152921504606846976))) = true) → Post v8) ∧ (¬ ((!(decide (-1152921504606846976 ≤ (lat s v8) ∧ (lat s v8) ≤ 1152921504606846976))) = true) → (inI (v8 + (1 : Int))) ∧ (I1 (v8 + (1 : Int)) ∧ μ1 (v8 + (1 : Int)) < μ1 v8))) ∧ (¬ (v8 < ((s.length : Nat) : Int)) → Post (-1 : Int))
set_option maxRecDepth 100000 in
set_option maxHeartbeats 4000000 in
theorem walk_idxH1 {s : (List Int)} {Post : Int → Prop} (hv : vc_idxH1 s Post) : FnP Try.prog 59 [.lst true s.length (encL eInt s), .clo 53 [] []] (fun x => ∃ q0, x = .int .i64 q0 ∧ Post q0) := by
 refine FnP.of_walk (T := tt) (nt := 19) ttOk ttMix ⟨⟨Try.f59, Try.func59, rfl, rfl, rfl, rfl⟩⟩ (by simp) ?_
 unfold vc_idxH1 at hv
 change W _ _ _ ⟨19, look [(0, .lst true s.length (encL eInt s)), (1, .clo 53 [] [])], [], false⟩ _
 refine W.tr [(0, .lst _ _ _), (1, .clo _ _ _)] [] ⟨rfl, rfl, trivial⟩ rfl ?_
 refine W.rL ?_
 refine aI rfl rfl ?_
 refine eL ?_
 refine W.tr [(0, .lst _ _ _), (1, .clo _ _ _)] [] ⟨rfl, rfl, trivial⟩ rfl ?_
 refine W.seq' ?_
 refine W.rL ?_
 refine mL rfl rfl ?_
 refine cL rfl (o_len (v := .lst _ _ _) tt35 rfl rfl ?_)
 refine mI rfl rfl ?_
 refine eL ?_
 refine W.tr [(0, .lst _ _ _), (1, .clo _ _ _), (7, .int _ _), (8, .int _ _)] [] ⟨rfl, rfl, rfl, rfl, trivial⟩ rfl ?_
 refine W.block ?_
 obtain ⟨I1, μ1, hp, hv⟩ := hv
 refine W.loop1 (fun v8 => ⟨19, look [(0, .lst true s.length (encL eInt s)), (1, .clo 53 [] []), (7, .int .i64 ((s.length : Nat) : Int)), (8, .int .i64 v8)], [], false⟩) I1 μ1 (0 : Int) (St.to_mk (φ := []) rfl (.inl rfl) ⟨Ren.lst _ _ _, Ren.clo _ (Rens.nil) (Rens.nil), Ren.int _ _, Ren.int _ _, trivial⟩ trivial) hp ?_
 clear hp
 intro v8 hI
 replace hv := hv v8 hI
 clear hI
 refine W.rL ?_
 refine cL rfl (o_lss rfl rfl ?_)
 refine eL ?_
 refine W.tr [(0, .lst _ _ _), (1, .clo _ _ _), (7, .int _ _), (8, .int _ _), (9, .bool _)] [] ⟨rfl, rfl, rfl, rfl, rfl, trivial⟩ rfl ?_
 refine W.seq' ?_
 refine W.cn rfl (fun hc => ?_) (fun hc => ?_)
 have hv := hv.1 hc
 refine W.skip ?_
 refine th_nrm ?_
 refine W.tr [(0, .lst _ _ _), (1, .clo _ _ _), (7, .int _ _), (8, .int _ _)] [] ⟨rfl, rfl, rfl, rfl, trivial⟩ rfl ?_
 refine W.seq' ?_
 refine W.block ?_
 refine W.rL ?_
 refine mI rfl rfl ?_
 refine aI rfl rfl ?_
 refine eL ?_
 refine W.tr [(0, .lst _ _ _), (1, .clo _ _ _), (5, .int _ _), (7, .int _ _), (8, .int _ _)] [] ⟨rfl, rfl, rfl, rfl, rfl, trivial⟩ rfl ?_
 refine W.rL ?_
 refine cL rfl (o_move (v := .clo _ _ _) rfl ?_)
 refine mL rfl rfl ?_
 refine mI rfl rfl ?_
 obtain ⟨s11, hv⟩ := hv
 refine cL rfl (o_iaL tt35 tt3 rfl rfl (encInt.wd true) rfl s11 ?_)
 intro rest11
 refine cL rfl (o_ldS (v := .int _ _) tt3 rfl rfl ⟨_, rfl⟩ ?_)
 refine cL rfl (o_callP1 (k := 53) (fst := []) (caps := []) (ys := [.int _ _]) rfl rfl (spec_holds1 (lat s v8)) (Wks.cons (ag_int _ _ _ _) (Wks.refl _)) ?_)
 refine eL ?_
 refine W.tr [(0, .lst _ _ _), (1, .clo _ _ _), (5, .int _ _), (7, .int _ _), (8, .int _ _), (16, .bool _)] [] ⟨rfl, rfl, rfl, rfl, rfl, rfl, trivial⟩ rfl ?_
 refine W.cb rfl (fun hc => ?_) (fun hc => ?_)
 have hv := hv.1 hc
 refine W.rL ?_
 refine mI rfl rfl ?_
 refine aI rfl rfl ?_
 refine eL ?_
 refine W.tr [(4, .int _ _)] [] ⟨rfl, trivial⟩ rfl ?_
 refine W.ret ?_
 refine bl_ret (th_ret (th_ret (bl_ret (th_ret (rt ?_)))))
 refine rt_t (v := .int _ _) rfl ?_
 refine rt_n ?_
 exact ⟨_, rs_int _ _ _ _, v8, rfl, hv⟩
 have hv := hv.2 hc
 refine W.skip ?_
 refine bl_nrm (th_nrm ?_)
 refine W.tr [(0, .lst _ _ _), (1, .clo _ _ _), (7, .int _ _), (8, .int _ _)] [] ⟨rfl, rfl, rfl, rfl, trivial⟩ rfl ?_
 refine W.rL1 ?_
 obtain ⟨s12, hv⟩ := hv
 refine cL rfl (o_add rfl rfl s12 ?_)
 refine mI rfl rfl ?_
 refine eL ?_
 exact th_nrm (⟨(), (v8 + (1 : Int)), hv, St.to_mk (φ := []) rfl (.inl rfl) ⟨Ren.lst _ _ _, Ren.clo _ (Rens.nil) (Rens.nil), Ren.int _ _, Ren.int _ _, trivial⟩ trivial⟩)
 have hv := hv.2 hc
 refine W.exit ?_
 refine th_exit (th_exit (bl_hit (th_nrm ?_)))
 refine W.tr [] [] trivial rfl ?_
 refine W.rL ?_
 refine aI rfl rfl ?_
 refine eL ?_
 refine W.tr [(4, .int _ _)] [] ⟨rfl, trivial⟩ rfl ?_
 refine W.ret ?_
 refine rt ?_
 refine rt_t (v := .int _ _) rfl ?_
 refine rt_n ?_
 exact ⟨_, rs_int _ _ _ _, (-1 : Int), rfl, hv⟩
theorem vcp_idxH1 (s : (List Int)) (h0 : s.length ≤ 1073741824) : vc_idxH1 s (fun q0 => q0 = (findIx (fun v => !(decide (-1152921504606846976 ≤ v ∧ v ≤ 1152921504606846976))) s)) := by
  unfold vc_idxH1
  refine ⟨fun v => ∃ i : Nat, v = i ∧ i ≤ s.length ∧ ∀ j : Nat, j < i → ¬ (!(decide (-1152921504606846976 ≤ (lat s j) ∧ (lat s j) ≤ 1152921504606846976))) = true, fun v => s.length - v.toNat, ⟨0, rfl, by omega, by omega⟩, ?_⟩
  rintro _ ⟨i, rfl, hi, hj⟩
  refine ⟨fun h1 => ⟨by omega, fun h2 => ?_, fun h2 => ⟨by unfold inI; omega, ⟨i + 1, by omega, by omega, ?_⟩, by dsimp only; omega⟩⟩, fun h1 => ?_⟩
  · exact (findIx_lt (by omega) h2 hj).symm
  · intro j h3
    rcases Nat.lt_or_ge j i with h4 | h4
    · exact hj j h4
    · have : j = i := by omega
      subst this; exact h2
  · exact (findIx_none fun j h3 => hj j (by omega)).symm
theorem spec_idxH1 (s : (List Int)) (h0 : s.length ≤ 1073741824) : FnP Try.prog 59 [.lst true s.length (encL eInt s), .clo 53 [] []] (fun xR => xR = .int .i64 (findIx (fun v => !(decide (-1152921504606846976 ≤ v ∧ v ≤ 1152921504606846976))) s)) :=
  (walk_idxH1 (vcp_idxH1 s h0)).mono (by rintro _ ⟨_, rfl, rfl⟩; rfl)
def vc_conH1 (s : (List Int)) (Post : Bool → Prop) : Prop :=
  (s.length ≤ 1073741824) ∧ Post (decide ((0 : Int) ≤ (findIx (fun v => !(decide (-1152921504606846976 ≤ v ∧ v ≤ 1152921504606846976))) s)))
set_option maxRecDepth 100000 in
set_option maxHeartbeats 4000000 in
theorem walk_conH1 {s : (List Int)} {Post : Bool → Prop} (hv : vc_conH1 s Post) : FnP Try.prog 52 [.lst true s.length (encL eInt s), .clo 53 [] []] (fun x => ∃ q0, x = .bool q0 ∧ Post q0) := by
 refine FnP.of_walk (T := tt) (nt := 9) ttOk ttMix ⟨⟨Try.f52, Try.func52, rfl, rfl, rfl, rfl⟩⟩ (by simp) ?_
 unfold vc_conH1 at hv
 change W _ _ _ ⟨9, look [(0, .lst true s.length (encL eInt s)), (1, .clo 53 [] [])], [], false⟩ _
 refine W.tr [(0, .lst _ _ _), (1, .clo _ _ _)] [] ⟨rfl, rfl, trivial⟩ rfl ?_
 refine W.rL ?_
 refine aB rfl rfl ?_
 refine eL ?_
 refine W.tr [(0, .lst _ _ _), (1, .clo _ _ _)] [] ⟨rfl, rfl, trivial⟩ rfl ?_
 refine W.rL ?_
 refine mL rfl rfl ?_
 refine cL rfl (o_move (v := .clo _ _ _) rfl ?_)
 obtain ⟨s1, hv⟩ := hv
 refine cL rfl (o_callP1 (k := 59) (fst := []) (caps := []) (ys := [.lst _ _ _, .clo _ _ _]) rfl rfl (spec_idxH1 s s1) (Wks.cons (ag_lst _ _ _ _ _) (Wks.cons (ag_clo 5 _ _ (Wks.refl _) (Wks.refl _)) (Wks.refl _))) ?_)
 refine cL rfl (o_geq rfl rfl ?_)
 refine aB rfl rfl ?_
 refine eL ?_
 refine W.tr [(4, .bool _)] [] ⟨rfl, trivial⟩ rfl ?_
 refine W.ret ?_
 refine rt ?_
 refine rt_t (v := .bool _) rfl ?_
 refine rt_n ?_
 exact ⟨_, rs_bool _ _ _, (decide ((0 : Int) ≤ (findIx (fun v => !(decide (-1152921504606846976 ≤ v ∧ v ≤ 1152921504606846976))) s))), rfl, hv⟩
theorem vcp_conH1 (s : (List Int)) (h0 : s.length ≤ 1073741824) : vc_conH1 s (fun q0 => q0 = (!(s.all (fun v => decide (-1152921504606846976 ≤ v ∧ v ≤ 1152921504606846976))))) := by
  unfold vc_conH1
  exact ⟨h0, findIx_nonneg⟩
theorem spec_conH1 (s : (List Int)) (h0 : s.length ≤ 1073741824) : FnP Try.prog 52 [.lst true s.length (encL eInt s), .clo 53 [] []] (fun xR => xR = .bool (!(s.all (fun v => decide (-1152921504606846976 ≤ v ∧ v ≤ 1152921504606846976))))) :=
  (walk_conH1 (vcp_conH1 s h0)).mono (by rintro _ ⟨_, rfl, rfl⟩; rfl)
def vc_holds2 (c : Con) (x : (List Int)) (Post : Bool → Prop) : Prop :=
  (0 ≤ c.t ∧ c.t < (x.length : Int)) ∧ (0 ≤ c.f ∧ c.f < (x.length : Int)) ∧ (inI ((lat x c.t) - (lat x c.f))) ∧ Post (decide (c.m < ((lat x c.t) - (lat x c.f))))
set_option maxRecDepth 100000 in
set_option maxHeartbeats 4000000 in
theorem walk_holds2 {c : Con} {x : (List Int)} {Post : Bool → Prop} (hv : vc_holds2 c x Post) : FnP Try.prog 55 [.agg (e25 c), .ipt true [.lst true x.length (encL eInt x)]] (fun x => ∃ q0, x = .bool q0 ∧ Post q0) := by
 refine FnP.of_walk (T := tt) (nt := 18) ttOk ttMix ⟨⟨Try.f55, Try.func55, rfl, rfl, rfl, rfl⟩⟩ (by simp) ?_
 unfold vc_holds2 at hv
 change W _ _ _ ⟨18, look [(0, .agg [.int .i64 c.f, .int .i64 c.t, .int .i64 c.m, .int .i64 c.a]), (1, .ipt true [.lst true x.length (encL eInt x)])], [], false⟩ _
 refine W.tr [(0, .agg _), (1, .ipt _ _)] [] ⟨rfl, rfl, trivial⟩ rfl ?_
 refine W.rL ?_
 refine cL rfl (o_box (v := .agg _) (p := 0) rfl rfl rfl ?_)
 refine aB rfl rfl ?_
 refine eL ?_
 refine W.tr [(1, .ipt _ _), (2, .ptr _ _)] [.box _ [.int _ _, .int _ _, .int _ _, .int _ _]] ⟨rfl, rfl, trivial⟩ rfl ?_
 refine W.rD [0, 1, 2, 3, 4, 5, 6, 7, 8, 9, 10, 11, 12, 13, 14] (by decide +kernel) rfl ?_
 refine cL rfl (o_ldS (v := .lst _ _ _) tt35 rfl rfl ⟨_, rfl⟩ ?_)
 refine cL rfl (o_fa tt25 rfl tt3 rfl ?_)
 refine cL rfl (o_ldS (v := .int _ _) tt3 rfl rfl ⟨_, rfl⟩ ?_)
 obtain ⟨s1, hv⟩ := hv
 refine cL rfl (o_iaL tt35 tt3 rfl rfl (encInt.wd true) rfl s1 ?_)
 intro rest1
 refine cL rfl (o_ldS (v := .int _ _) tt3 rfl rfl ⟨_, rfl⟩ ?_)
 refine cL rfl (o_ldS (v := .lst _ _ _) tt35 rfl rfl ⟨_, rfl⟩ ?_)
 refine cL rfl (o_fa tt25 rfl tt3 rfl ?_)
 refine cL rfl (o_ldS (v := .int _ _) tt3 rfl rfl ⟨_, rfl⟩ ?_)
 obtain ⟨s2, hv⟩ := hv
 refine cL rfl (o_iaL tt35 tt3 rfl rfl (encInt.wd true) rfl s2 ?_)
 intro rest2
 refine cL rfl (o_ldS (v := .int _ _) tt3 rfl rfl ⟨_, rfl⟩ ?_)
 obtain ⟨s3, hv⟩ := hv
 refine cL rfl (o_sub rfl rfl s3 ?_)
 refine cL rfl (o_fa tt25 rfl tt3 rfl ?_)
 refine cL rfl (o_ldS (v := .int _ _) tt3 rfl rfl ⟨_, rfl⟩ ?_)
 refine cL rfl (o_gtr rfl rfl ?_)
 refine aB rfl rfl ?_
 refine eL ?_
 refine W.tr [(3, .bool _)] [.box _ [.int _ _, .int _ _, .int _ _, .int _ _]] ⟨rfl, trivial⟩ rfl ?_
 refine W.ret ?_
 refine rt ?_
 refine rt_t (v := .bool _) rfl ?_
 refine rt_n ?_
 exact ⟨_, rs_bool _ _ _, (decide (c.m < ((lat x c.t) - (lat x c.f)))), rfl, hv⟩
theorem vcp_holds2 (c : Con) (x : (List Int)) (h0 : 0 ≤ c.f ∧ c.f < x.length) (h1 : 0 ≤ c.t ∧ c.t < x.length) (h2 : inI (lat x c.t - lat x c.f)) : vc_holds2 c x (fun q0 => q0 = (!(decide (lat x c.t - lat x c.f ≤ c.m)))) := by
  unfold vc_holds2
  refine ⟨h1, h0, h2, ?_⟩
  dsimp only
  rw [← decide_not]
  exact decide_eq_decide.mpr (by omega)
theorem spec_holds2 (c : Con) (x : (List Int)) (h0 : 0 ≤ c.f ∧ c.f < x.length) (h1 : 0 ≤ c.t ∧ c.t < x.length) (h2 : inI (lat x c.t - lat x c.f)) : FnP Try.prog 55 [.agg (e25 c), .ipt true [.lst true x.length (encL eInt x)]] (fun xR => xR = .bool (!(decide (lat x c.t - lat x c.f ≤ c.m)))) :=
  (walk_holds2 (vcp_holds2 c x h0 h1 h2)).mono (by rintro _ ⟨_, rfl, rfl⟩; rfl)
def vc_idxH2 (s : (List Con)) (x : (List Int)) (Post : Int → Prop) : Prop :=
  ∃ (I1 : Int → Prop) (μ1 : Int → Nat), I1 (0 : Int) ∧ ∀ (v8 : Int), I1 v8 → ((v8 < ((s.length : Nat) : Int)) → (0 ≤ v8 ∧ v8 < (s.length : Int)) ∧ (0 ≤ (lat s v8).f ∧ (lat s v8).f < x.length) ∧ (0 ≤ (lat s v8).t ∧ (lat s v8).t < x.length) ∧ (inI (lat x (lat s v8).t - lat x (lat s v8).f)) ∧ (((!(decide (lat x (lat s v8).t - lat x (lat s v8).f ≤ (lat s v8).m))) = true) → Post v8) ∧ (¬ ((!(decide (lat x (lat s v8).t - lat x (lat s v8).f ≤ (lat s v8).m))) = true) → (inI (v8 + (1 : Int))) ∧ (I1 (v8 + (1 : Int)) ∧ μ1 (v8 + (1 : Int)) < μ1 v8))) ∧ (¬ (v8 < ((s.length : Nat) : Int)) → Post (-1 : Int))
set_option maxRecDepth 100000 in
set_option maxHeartbeats 4000000 in
theorem walk_idxH2 {s : (List Con)} {x : (List Int)} {Post : Int → Prop} (hv : vc_idxH2 s x Post) : FnP Try.prog 60 [.lst true s.length (encL e25 s), .clo 55 [] [.ipt true [.lst true x.length (encL eInt x)]]] (fun x => ∃ q0, x = .int .i64 q0 ∧ Post q0) := by
 refine FnP.of_walk (T := tt) (nt := 19) ttOk ttMix ⟨⟨Try.f60, Try.func60, rfl, rfl, rfl, rfl⟩⟩ (by simp) ?_
 unfold vc_idxH2 at hv
 change W _ _ _ ⟨19, look [(0, .lst true s.length (encL e25 s)), (1, .clo 55 [] [.ipt true [.lst true x.length (encL eInt x)]])], [], false⟩ _
 refine W.tr [(0, .lst _ _ _), (1, .clo _ _ _)] [] ⟨rfl, rfl, trivial⟩ rfl ?_
 refine W.rL ?_
 refine aI rfl rfl ?_
 refine eL ?_
 refine W.tr [(0, .lst _ _ _), (1, .clo _ _ _)] [] ⟨rfl, rfl, trivial⟩ rfl ?_
 refine W.seq' ?_
 refine W.rL ?_
 refine mL rfl rfl ?_
 refine cL rfl (o_len (v := .lst _ _ _) tt22 rfl rfl ?_)
 refine mI rfl rfl ?_
 refine eL ?_
 refine W.tr [(0, .lst _ _ _), (1, .clo _ _ _), (7, .int _ _), (8, .int _ _)] [] ⟨rfl, rfl, rfl, rfl, trivial⟩ rfl ?_
 refine W.block ?_
 obtain ⟨I1, μ1, hp, hv⟩ := hv
 refine W.loop1 (fun v8 => ⟨19, look [(0, .lst true s.length (encL e25 s)), (1, .clo 55 [] [.ipt true [.lst true x.length (encL eInt x)]]), (7, .int .i64 ((s.length : Nat) : Int)), (8, .int .i64 v8)], [], false⟩) I1 μ1 (0 : Int) (St.to_mk (φ := []) rfl (.inl rfl) ⟨Ren.lst _ _ _, Ren.clo _ (Rens.nil) (Rens.cons (Ren.ipt _ _) (Rens.nil)), Ren.int _ _, Ren.int _ _, trivial⟩ trivial) hp ?_
 clear hp
 intro v8 hI
 replace hv := hv v8 hI
 clear hI
 refine W.rL ?_
 refine cL rfl (o_lss rfl rfl ?_)
 refine eL ?_
 refine W.tr [(0, .lst _ _ _), (1, .clo _ _ _), (7, .int _ _), (8, .int _ _), (9, .bool _)] [] ⟨rfl, rfl, rfl, rfl, rfl, trivial⟩ rfl ?_
 refine W.seq' ?_
 refine W.cn rfl (fun hc => ?_) (fun hc => ?_)
 have hv := hv.1 hc
 refine W.skip ?_
 refine th_nrm ?_
 refine W.tr [(0, .lst _ _ _), (1, .clo _ _ _), (7, .int _ _), (8, .int _ _)] [] ⟨rfl, rfl, rfl, rfl, trivial⟩ rfl ?_
 refine W.seq' ?_
 refine W.block ?_
 refine W.rL ?_
 refine mI rfl rfl ?_
 refine aI rfl rfl ?_
 refine eL ?_
 refine W.tr [(0, .lst _ _ _), (1, .clo _ _ _), (5, .int _ _), (7, .int _ _), (8, .int _ _)] [] ⟨rfl, rfl, rfl, rfl, rfl, trivial⟩ rfl ?_
 refine W.rL ?_
 refine cL rfl (o_move (v := .clo _ _ _) rfl ?_)
 refine mL rfl rfl ?_
 refine mI rfl rfl ?_
 obtain ⟨s32, hv⟩ := hv
 refine cL rfl (o_iaL tt22 tt25 rfl rfl (enc25.wd true) rfl s32 ?_)
 intro rest32
 refine cL rfl (o_ldA (cs := [.int _ _, .int _ _, .int _ _, .int _ _]) tt25 rfl rfl ⟨_, rfl⟩ rfl ?_)
 obtain ⟨s33, s34, s35, hv⟩ := hv
 refine cL rfl (o_callP1 (k := 55) (fst := []) (caps := [.ipt _ _]) (ys := [.agg _]) rfl rfl (spec_holds2 (lat s v8) x s33 s34 s35) (Wks.cons (ag_agg 5 _ (Wks.cons (ag_int _ _ _ _) (Wks.cons (ag_int _ _ _ _) (Wks.cons (ag_int _ _ _ _) (Wks.cons (ag_int _ _ _ _) (Wks.refl _)))))) (Wks.cons (ag_ipt _ _ _ _) (Wks.refl _))) ?_)
 refine eL ?_
 refine W.tr [(0, .lst _ _ _), (1, .clo _ _ _), (5, .int _ _), (7, .int _ _), (8, .int _ _), (16, .bool _)] [] ⟨rfl, rfl, rfl, rfl, rfl, rfl, trivial⟩ rfl ?_
 refine W.cb rfl (fun hc => ?_) (fun hc => ?_)
 have hv := hv.1 hc
 refine W.rL ?_
 refine mI rfl rfl ?_
 refine aI rfl rfl ?_
 refine eL ?_
 refine W.tr [(4, .int _ _)] [] ⟨rfl, trivial⟩ rfl ?_
 refine W.ret ?_
 refine bl_ret (th_ret (th_ret (bl_ret (th_ret (rt ?_)))))
 refine rt_t (v := .int _ _) rfl ?_
 refine rt_n ?_
 exact ⟨_, rs_int _ _ _ _, v8, rfl, hv⟩
 have hv := hv.2 hc
 refine W.skip ?_
 refine bl_nrm (th_nrm ?_)
 refine W.tr [(0, .lst _ _ _), (1, .clo _ _ _), (7, .int _ _), (8, .int _ _)] [] ⟨rfl, rfl, rfl, rfl, trivial⟩ rfl ?_
 refine W.rL1 ?_
 obtain ⟨s36, hv⟩ := hv
 refine cL rfl (o_add rfl rfl s36 ?_)
 refine mI rfl rfl ?_
 refine eL ?_
 exact th_nrm (⟨(), (v8 + (1 : Int)), hv, St.to_mk (φ := []) rfl (.inl rfl) ⟨Ren.lst _ _ _, Ren.clo _ (Rens.nil) (Rens.cons (Ren.ipt _ _) (Rens.nil)), Ren.int _ _, Ren.int _ _, trivial⟩ trivial⟩)
 have hv := hv.2 hc
 refine W.exit ?_
 refine th_exit (th_exit (bl_hit (th_nrm ?_)))
 refine W.tr [] [] trivial rfl ?_
 refine W.rL ?_
 refine aI rfl rfl ?_
 refine eL ?_
 refine W.tr [(4, .int _ _)] [] ⟨rfl, trivial⟩ rfl ?_
 refine W.ret ?_
 refine rt ?_
 refine rt_t (v := .int _ _) rfl ?_
 refine rt_n ?_
 exact ⟨_, rs_int _ _ _ _, (-1 : Int), rfl, hv⟩
theorem vcp_idxH2 (s : (List Con)) (x : (List Int)) (h0 : s.length ≤ 1073741824) (h1 : ∀ c ∈ s, (0 ≤ c.f ∧ c.f < x.length) ∧ (0 ≤ c.t ∧ c.t < x.length) ∧ inI (lat x c.t - lat x c.f)) : vc_idxH2 s x (fun q0 => q0 = (findIx (fun c => !(decide (lat x c.t - lat x c.f ≤ c.m))) s)) := by
  unfold vc_idxH2
  refine ⟨fun v => ∃ i : Nat, v = i ∧ i ≤ s.length ∧ ∀ j : Nat, j < i → ¬ (!(decide (lat x (lat s j).t - lat x (lat s j).f ≤ (lat s j).m))) = true, fun v => s.length - v.toNat, ⟨0, rfl, by omega, by omega⟩, ?_⟩
  rintro _ ⟨i, rfl, hi, hj⟩
  have hm : i < s.length → _ := fun h => h1 (lat s i) (lat_mem ⟨by omega, by omega⟩)
  refine ⟨fun h1 => ⟨by omega, (hm (by omega)).1, (hm (by omega)).2.1, (hm (by omega)).2.2, fun h2 => ?_, fun h2 => ⟨by unfold inI; omega, ⟨i + 1, by omega, by omega, ?_⟩, by dsimp only; omega⟩⟩, fun h1 => ?_⟩
  · exact (findIx_lt (by omega) h2 hj).symm
  · intro j h3
    rcases Nat.lt_or_ge j i with h4 | h4
    · exact hj j h4
    · have : j = i := by omega
      subst this; exact h2
  · exact (findIx_none fun j h3 => hj j (by omega)).symm
theorem spec_idxH2 (s : (List Con)) (x : (List Int)) (h0 : s.length ≤ 1073741824) (h1 : ∀ c ∈ s, (0 ≤ c.f ∧ c.f < x.length) ∧ (0 ≤ c.t ∧ c.t < x.length) ∧ inI (lat x c.t - lat x c.f)) : FnP Try.prog 60 [.lst true s.length (encL e25 s), .clo 55 [] [.ipt true [.lst true x.length (encL eInt x)]]] (fun xR => xR = .int .i64 (findIx (fun c => !(decide (lat x c.t - lat x c.f ≤ c.m))) s)) :=
  (walk_idxH2 (vcp_idxH2 s x h0 h1)).mono (by rintro _ ⟨_, rfl, rfl⟩; rfl)
def vc_conH2 (s : (List Con)) (x : (List Int)) (Post : Bool → Prop) : Prop :=
  (s.length ≤ 1073741824) ∧ (∀ c ∈ s, (0 ≤ c.f ∧ c.f < x.length) ∧ (0 ≤ c.t ∧ c.t < x.length) ∧ inI (lat x c.t - lat x c.f)) ∧ Post (decide ((0 : Int) ≤ (findIx (fun c => !(decide (lat x c.t - lat x c.f ≤ c.m))) s)))
set_option maxRecDepth 100000 in
set_option maxHeartbeats 4000000 in
theorem walk_conH2 {s : (List Con)} {x : (List Int)} {Post : Bool → Prop} (hv : vc_conH2 s x Post) : FnP Try.prog 54 [.lst true s.length (encL e25 s), .clo 55 [] [.ipt true [.lst true x.length (encL eInt x)]]] (fun x => ∃ q0, x = .bool q0 ∧ Post q0) := by
 refine FnP.of_walk (T := tt) (nt := 9) ttOk ttMix ⟨⟨Try.f54, Try.func54, rfl, rfl, rfl, rfl⟩⟩ (by simp) ?_
 unfold vc_conH2 at hv
 change W _ _ _ ⟨9, look [(0, .lst true s.length (encL e25 s)), (1, .clo 55 [] [.ipt true [.lst true x.length (encL eInt x)]])], [], false⟩ _
 refine W.tr [(0, .lst _ _ _), (1, .clo _ _ _)] [] ⟨rfl, rfl, trivial⟩ rfl ?_
 refine W.rL ?_
 refine aB rfl rfl ?_
 refine eL ?_
 refine W.tr [(0, .lst _ _ _), (1, .clo _ _ _)] [] ⟨rfl, rfl, trivial⟩ rfl ?_
 refine W.rL ?_
 refine mL rfl rfl ?_
 refine cL rfl (o_move (v := .clo _ _ _) rfl ?_)
 obtain ⟨s1, s2, hv⟩ := hv
 refine cL rfl (o_callP1 (k := 60) (fst := []) (caps := []) (ys := [.lst _ _ _, .clo _ _ _]) rfl rfl (spec_idxH2 s x s1 s2) (Wks.cons (ag_lst _ _ _ _ _) (Wks.cons (ag_clo 5 _ _ (Wks.refl _) (Wks.cons (ag_ipt _ _ _ _) (Wks.refl _))) (Wks.refl _))) ?_)
 refine cL rfl (o_geq rfl rfl ?_)
 refine aB rfl rfl ?_
 refine eL ?_
 refine W.tr [(4, .bool _)] [] ⟨rfl, trivial⟩ rfl ?_
 refine W.ret ?_
 refine rt ?_
 refine rt_t (v := .bool _) rfl ?_
 refine rt_n ?_
 exact ⟨_, rs_bool _ _ _, (decide ((0 : Int) ≤ (findIx (fun c => !(decide (lat x c.t - lat x c.f ≤ c.m))) s))), rfl, hv⟩
theorem vcp_conH2 (s : (List Con)) (x : (List Int)) (h0 : s.length ≤ 1073741824) (h1 : ∀ c ∈ s, (0 ≤ c.f ∧ c.f < x.length) ∧ (0 ≤ c.t ∧ c.t < x.length) ∧ inI (lat x c.t - lat x c.f)) : vc_conH2 s x (fun q0 => q0 = (!(s.all (fun c => decide (lat x c.t - lat x c.f ≤ c.m))))) := by
  unfold vc_conH2
  exact ⟨h0, h1, findIx_nonneg⟩
theorem spec_conH2 (s : (List Con)) (x : (List Int)) (h0 : s.length ≤ 1073741824) (h1 : ∀ c ∈ s, (0 ≤ c.f ∧ c.f < x.length) ∧ (0 ≤ c.t ∧ c.t < x.length) ∧ inI (lat x c.t - lat x c.f)) : FnP Try.prog 54 [.lst true s.length (encL e25 s), .clo 55 [] [.ipt true [.lst true x.length (encL eInt x)]]] (fun xR => xR = .bool (!(s.all (fun c => decide (lat x c.t - lat x c.f ≤ c.m))))) :=
  (walk_conH2 (vcp_conH2 s x h0 h1)).mono (by rintro _ ⟨_, rfl, rfl⟩; rfl)
def vc_holds (l : (List Con)) (x : (List Int)) (Post : Bool → Prop) : Prop :=
  ((l.length ≤ 1073741824) ∧ ((¬ ((validM ((x.length : Nat) : Int) l) = true)) → True) ∧ (¬ (¬ ((validM ((x.length : Nat) : Int) l) = true)) → (x.length ≤ 1073741824) ∧ True)) ∧ ((((¬ ((validM ((x.length : Nat) : Int) l) = true)) ∨ ((!(x.all (fun v => decide (-1152921504606846976 ≤ v ∧ v ≤ 1152921504606846976)))) = true)) → Post false) ∧ (¬ ((¬ ((validM ((x.length : Nat) : Int) l) = true)) ∨ ((!(x.all (fun v => decide (-1152921504606846976 ≤ v ∧ v ≤ 1152921504606846976)))) = true)) → (l.length ≤ 1073741824) ∧ (∀ c ∈ l, (0 ≤ c.f ∧ c.f < x.length) ∧ (0 ≤ c.t ∧ c.t < x.length) ∧ inI (lat x c.t - lat x c.f)) ∧ Post (decide (¬ ((!(l.all (fun c => decide (lat x c.t - lat x c.f ≤ c.m)))) = true)))))
set_option maxRecDepth 100000 in
set_option maxHeartbeats 4000000 in
theorem walk_holds {l : (List Con)} {x : (List Int)} {Post : Bool → Prop} (hv : vc_holds l x Post) : FnP Try.prog 28 [.lst true l.length (encL e25 l), .lst true x.length (encL eInt x)] (fun x => ∃ q0, x = .bool q0 ∧ Post q0) := by
 refine FnP.of_walk (T := tt) (nt := 18) ttOk ttMix ⟨⟨Try.f28, Try.func28, rfl, rfl, rfl, rfl⟩⟩ (by simp) ?_
 unfold vc_holds at hv
 change W _ _ _ ⟨18, look [(0, .lst true l.length (encL e25 l)), (1, .lst true x.length (encL eInt x))], [], false⟩ _
 refine W.tr [(0, .lst _ _ _), (1, .lst _ _ _)] [] ⟨rfl, rfl, trivial⟩ rfl ?_
 refine W.rL ?_
 refine cL rfl (o_box (v := .lst _ _ _) (p := 0) rfl rfl rfl ?_)
 refine aB rfl rfl ?_
 refine eL ?_
 refine W.tr [(0, .lst _ _ _), (3, .ptr _ _)] [.box _ [.lst _ _ _]] ⟨rfl, rfl, trivial⟩ rfl ?_
 refine W.seq' ?_
 obtain ⟨sd, hv⟩ := hv
 refine W.rLm ⟨18, look [(0, .lst true l.length (encL e25 l)), (3, .ptr 0 0), (13, .bool (decide ((¬ ((validM ((x.length : Nat) : Int) l) = true)) ∨ ((!(x.all (fun v => decide (-1152921504606846976 ≤ v ∧ v ≤ 1152921504606846976)))) = true))))], [.box 35 [.lst true x.length (encL eInt x)]], false⟩ ?_ ?_
 refine cL rfl (o_ldS (v := .lst _ _ _) tt35 rfl rfl ⟨_, rfl⟩ ?_)
 refine cL rfl (o_len (v := .lst _ _ _) tt35 rfl rfl ?_)
 refine mL rfl rfl ?_
 obtain ⟨s7, sd⟩ := sd
 refine cL rfl (o_callP1 (k := 35) (fst := []) (caps := []) (ys := [.int _ _, .lst _ _ _]) rfl rfl (spec_valid ((x.length : Nat) : Int) l s7) (Wks.cons (ag_int _ _ _ _) (Wks.cons (ag_lst _ _ _ _ _) (Wks.refl _))) ?_)
 refine cL rfl (o_notB rfl ?_)
 refine mB rfl rfl ?_
 by_cases c1 : ¬ ((validM ((x.length : Nat) : Int) l) = true)
 iterate 2 refine cLs rfl rfl rfl (decide_eq_true c1) ?_
 refine cL rfl (o_pickT (v := .bool _) rfl (decide_eq_true c1) rfl ?_)
 refine eL ?_
 exact le_mk ⟨rfl, rfl, (congrArg AV.bool (dOrT c1)).symm, trivial⟩ rfl
 have sd := sd.2 c1
 refine cLg rfl rfl (decide_eq_false c1) ?_
 refine cL rfl (o_ldS (v := .lst _ _ _) tt35 rfl rfl ⟨_, rfl⟩ ?_)
 refine cLg rfl rfl (decide_eq_false c1) ?_
 obtain ⟨s8, sd⟩ := sd
 refine cL rfl (o_callP1 (k := 52) (fst := []) (caps := []) (ys := [.lst _ _ _, .clo _ _ _]) rfl rfl (spec_conH1 x s8) (Wks.cons (ag_lst _ _ _ _ _) (Wks.cons (ag_clo 5 _ _ (Wks.refl _) (Wks.refl _)) (Wks.refl _))) ?_)
 refine cL rfl (o_pickF (v := .bool _) rfl (decide_eq_false c1) rfl ?_)
 refine eL ?_
 exact le_mk ⟨rfl, rfl, (congrArg AV.bool (dOrF c1 (dVar _))).symm, trivial⟩ rfl
 refine W.cn rfl (fun hc => ?_) (fun hc => ?_)
 have hv := hv.1 hc
 refine W.rL ?_
 refine aB rfl rfl ?_
 refine eL ?_
 refine W.tr [(4, .bool _)] [.box _ [.lst _ _ _]] ⟨rfl, trivial⟩ rfl ?_
 refine W.ret ?_
 refine th_ret (rt ?_)
 refine rt_t (v := .bool _) rfl ?_
 refine rt_n ?_
 exact ⟨_, rs_bool _ _ _, false, rfl, hv⟩
 have hv := hv.2 hc
 refine W.skip ?_
 refine th_nrm ?_
 refine W.tr [(0, .lst _ _ _), (3, .ptr _ _)] [.box _ [.lst _ _ _]] ⟨rfl, rfl, trivial⟩ rfl ?_
 refine W.rL ?_
 refine mL rfl rfl ?_
 refine cL rfl (o_mf (ps := []) (qs := [.ptr _ _]) rfl rfl ?_)
 obtain ⟨s9, s10, hv⟩ := hv
 refine cL rfl (o_callP1 (k := 54) (fst := []) (caps := []) (ys := [.lst _ _ _, .clo _ _ _]) rfl rfl (spec_conH2 l x s9 s10) (Wks.cons (ag_lst _ _ _ _ _) (Wks.cons (ag_clo 5 _ _ (Wks.refl _) (Wks.cons (ag_box 4 rfl (Wks.cons (ag_lst _ _ _ _ _) (Wks.refl _))) (Wks.refl _))) (Wks.refl _))) ?_)
 refine cL rfl (o_notB rfl ?_)
 refine aB rfl rfl ?_
 refine eL ?_
 refine W.tr [(4, .bool _)] [.box _ [.lst _ _ _]] ⟨rfl, trivial⟩ rfl ?_
 refine W.ret ?_
 refine rt ?_
 refine rt_t (v := .bool _) rfl ?_
 refine rt_n ?_
 exact ⟨_, rs_bool _ _ _, (decide (¬ ((!(l.all (fun c => decide (lat x c.t - lat x c.f ≤ c.m)))) = true))), rfl, hv⟩
theorem vcp_holds (l : (List Con)) (x : (List Int)) (h0 : l.length ≤ 1073741824) (h1 : x.length ≤ 1073741824) : vc_holds l x (fun q0 => q0 = (holdsM l x)) := by
  unfold vc_holds
  refine ⟨⟨h0, fun _ => trivial, fun _ => ⟨h1, trivial⟩⟩, fun h => ?_, fun h => ⟨h0, ?_, ?_⟩⟩
  · refine (Bool.eq_false_iff.mpr fun e => ?_).symm
    rw [holdsM_iff] at e
    rcases h with h | h
    · exact h e.1.1
    · have : (x.all (fun v => decide (-1152921504606846976 ≤ v ∧ v ≤ 1152921504606846976))) = true := by
        rw [List.all_eq_true]; intro v hv; exact decide_eq_true (e.1.2 v hv)
      rw [this] at h; cases h
  · have hv : validM x.length l = true := Classical.not_not.mp fun e => h (.inl e)
    have ha : ∀ v ∈ x, -1152921504606846976 ≤ v ∧ v ≤ 1152921504606846976 := by
      have : (x.all (fun v => decide (-1152921504606846976 ≤ v ∧ v ≤ 1152921504606846976))) = true := by
        cases e : x.all (fun v => decide (-1152921504606846976 ≤ v ∧ v ≤ 1152921504606846976)) with
        | true => rfl
        | false => exact (h (.inr (by rw [e]; rfl))).elim
      rw [List.all_eq_true] at this
      exact fun v hv => of_decide_eq_true (this v hv)
    intro c hc
    obtain ⟨_, hp⟩ := validM_iff.mp hv
    obtain ⟨p1, p2, p3, p4, -⟩ := possM_iff.mp (hp c hc)
    have a1 := ha _ (lat_mem (xs := x) ⟨p1, p2⟩)
    have a2 := ha _ (lat_mem (xs := x) ⟨p3, p4⟩)
    exact ⟨⟨p1, p2⟩, ⟨p3, p4⟩, by unfold inI; omega⟩
  · unfold holdsM
    have hv : validM x.length l = true := Classical.not_not.mp fun e => h (.inl e)
    have ha : (x.all (fun v => decide (-1152921504606846976 ≤ v ∧ v ≤ 1152921504606846976))) = true := by
      cases e : x.all (fun v => decide (-1152921504606846976 ≤ v ∧ v ≤ 1152921504606846976)) with
      | true => rfl
      | false => exact (h (.inr (by rw [e]; rfl))).elim
    rw [hv, ha]
    cases l.all (fun c => decide (lat x c.t - lat x c.f ≤ c.m)) <;> rfl
theorem spec_holds (l : (List Con)) (x : (List Int)) (h0 : l.length ≤ 1073741824) (h1 : x.length ≤ 1073741824) : FnP Try.prog 28 [.lst true l.length (encL e25 l), .lst true x.length (encL eInt x)] (fun xR => xR = .bool (holdsM l x)) :=
  (walk_holds (vcp_holds l x h0 h1)).mono (by rintro _ ⟨_, rfl, rfl⟩; rfl)
def vc_cycle (l : (List Con)) (c : (List Int)) (Post : Bool → Prop) : Prop :=
  ((l.length ≤ 1073741824) ∧ True) ∧ ((((¬ ((validM (24 : Int) l) = true)) ∨ ((((c.length : Nat) : Int) < (1 : Int)) ∨ ((24 : Int) < ((c.length : Nat) : Int)))) → Post false) ∧ (¬ ((¬ ((validM (24 : Int) l) = true)) ∨ ((((c.length : Nat) : Int) < (1 : Int)) ∨ ((24 : Int) < ((c.length : Nat) : Int)))) → ∃ (I1 : Int → Int → (Vector Bool 24) → Prop) (μ1 : Int → Int → (Vector Bool 24) → Nat), I1 (0 : Int) (0 : Int) (Vector.replicate 24 false) ∧ ∀ (v6 : Int) (v24 : Int) (m0 : (Vector Bool 24)), I1 v6 v24 m0 → ((v24 < ((c.length : Nat) : Int)) → (0 ≤ v24 ∧ v24 < (c.length : Int)) ∧ ((((lat c v24) < (0 : Int)) → True) ∧ (¬ ((lat c v24) < (0 : Int)) → ((((l.length : Nat) : Int) ≤ (lat c v24)) → True) ∧ (¬ (((l.length : Nat) : Int) ≤ (lat c v24)) → (0 ≤ (lat c v24) ∧ (lat c v24) < (l.length : Int)) ∧ (0 ≤ ((lat l (lat c v24)).f) ∧ ((lat l (lat c v24)).f) < ((24 : Nat) : Int)) ∧ (((lat l (lat c v24)).f).toNat < 24) ∧ True))) ∧ (((((lat c v24) < (0 : Int)) ∨ ((((l.length : Nat) : Int) ≤ (lat c v24)) ∨ ((bat m0 (((lat l (lat c v24)).f).toNat)) = true))) → Post false) ∧ (¬ (((lat c v24) < (0 : Int)) ∨ ((((l.length : Nat) : Int) ≤ (lat c v24)) ∨ ((bat m0 (((lat l (lat c v24)).f).toNat)) = true))) → (0 ≤ (lat c v24) ∧ (lat c v24) < (l.length : Int)) ∧ (0 ≤ ((lat l (lat c v24)).f) ∧ ((lat l (lat c v24)).f) < ((24 : Nat) : Int)) ∧ (((lat l (lat c v24)).f).toNat < 24) ∧ ((((0 : Int) < v24) → (inI (v24 - (1 : Int))) ∧ (0 ≤ (v24 - (1 : Int)) ∧ (v24 - (1 : Int)) < (c.length : Int)) ∧ (0 ≤ (lat c (v24 - (1 : Int))) ∧ (lat c (v24 - (1 : Int))) < (l.length : Int)) ∧ (0 ≤ (lat c v24) ∧ (lat c v24) < (l.length : Int)) ∧ True) ∧ (¬ ((0 : Int) < v24) → True)) ∧ (((((0 : Int) < v24) ∧ (¬ (lat l (lat c (v24 - (1 : Int)))).t = (lat l (lat c v24)).f)) → Post false) ∧ (¬ (((0 : Int) < v24) ∧ (¬ (lat l (lat c (v24 - (1 : Int)))).t = (lat l (lat c v24)).f)) → (0 ≤ (lat c v24) ∧ (lat c v24) < (l.length : Int)) ∧ (inI (v6 + ((lat l (lat c v24)).m))) ∧ (inI (v24 + (1 : Int))) ∧ (I1 (v6 + ((lat l (lat c v24)).m)) (v24 + (1 : Int)) (bset m0 (((lat l (lat c v24)).f).toNat) true) ∧ μ1 (v6 + ((lat l (lat c v24)).m)) (v24 + (1 : Int)) (bset m0 (((lat l (lat c v24)).f).toNat) true) < μ1 v6 v24 m0)))))) ∧ (¬ (v24 < ((c.length : Nat) : Int)) → (((v6 < (0 : Int)) → (inI (((c.length : Nat) : Int) - (1 : Int))) ∧ (0 ≤ (((c.length : Nat) : Int) - (1 : Int)) ∧ (((c.length : Nat) : Int) - (1 : Int)) < (c.length : Int)) ∧ (0 ≤ (lat c (((c.length : Nat) : Int) - (1 : Int))) ∧ (lat c (((c.length : Nat) : Int) - (1 : Int))) < (l.length : Int)) ∧ (0 ≤ (0 : Int) ∧ (0 : Int) < (c.length : Int)) ∧ (0 ≤ (lat c (0 : Int)) ∧ (lat c (0 : Int)) < (l.length : Int)) ∧ True) ∧ (¬ (v6 < (0 : Int)) → True)) ∧ (Post (decide ((v6 < (0 : Int)) ∧ ((lat l (lat c (((c.length : Nat) : Int) - (1 : Int)))).t = (lat l (lat c (0 : Int))).f)))))))
set_option maxRecDepth 100000 in
set_option maxHeartbeats 4000000 in
theorem walk_cycle {l : (List Con)} {c : (List Int)} {Post : Bool → Prop} (hv : vc_cycle l c Post) : FnP Try.prog 31 [.lst true l.length (encL e25 l), .lst true c.length (encL eInt c)] (fun x => ∃ q0, x = .bool q0 ∧ Post q0) := by
 refine FnP.of_walk (T := tt) (nt := 101) ttOk ttMix ⟨⟨Try.f31, Try.func31, rfl, rfl, rfl, rfl⟩⟩ (by simp) ?_
 unfold vc_cycle at hv
 change W _ _ _ ⟨101, look [(0, .lst true l.length (encL e25 l)), (1, .lst true c.length (encL eInt c))], [], false⟩ _
 refine W.tr [(0, .lst _ _ _), (1, .lst _ _ _)] [] ⟨rfl, rfl, trivial⟩ rfl ?_
 refine W.rL ?_
 refine aB rfl rfl ?_
 refine eL ?_
 refine W.tr [(0, .lst _ _ _), (1, .lst _ _ _)] [] ⟨rfl, rfl, trivial⟩ rfl ?_
 refine W.seq' ?_
 obtain ⟨sd, hv⟩ := hv
 refine W.rLm ⟨101, look [(0, .lst true l.length (encL e25 l)), (1, .lst true c.length (encL eInt c)), (21, .bool (decide ((¬ ((validM (24 : Int) l) = true)) ∨ ((((c.length : Nat) : Int) < (1 : Int)) ∨ ((24 : Int) < ((c.length : Nat) : Int))))))], [], false⟩ ?_ ?_
 refine mL rfl rfl ?_
 obtain ⟨s4, sd⟩ := sd
 refine cL rfl (o_callP1 (k := 35) (fst := []) (caps := []) (ys := [.int _ _, .lst _ _ _]) rfl rfl (spec_valid (24 : Int) l s4) (Wks.cons (ag_int _ _ _ _) (Wks.cons (ag_lst _ _ _ _ _) (Wks.refl _))) ?_)
 refine cL rfl (o_notB rfl ?_)
 refine mB rfl rfl ?_
 by_cases c1 : ¬ ((validM (24 : Int) l) = true)
 iterate 3 refine cLs rfl rfl rfl (decide_eq_true c1) ?_
 refine cL rfl (o_pickT (v := .bool _) rfl (decide_eq_true c1) rfl ?_)
 refine mB rfl rfl ?_
 iterate 3 refine cLs rfl rfl rfl (rfl) ?_
 refine cL rfl (o_pickT (v := .bool _) rfl rfl rfl ?_)
 refine eL ?_
 exact le_mk ⟨rfl, rfl, (congrArg AV.bool (dOrT c1)).symm, trivial⟩ rfl
 refine cLg rfl rfl (decide_eq_false c1) ?_
 refine mL rfl rfl ?_
 refine cLg rfl rfl (decide_eq_false c1) ?_
 refine cL rfl (o_len (v := .lst _ _ _) tt35 rfl rfl ?_)
 refine cLg rfl rfl (decide_eq_false c1) ?_
 refine cL rfl (o_lss rfl rfl ?_)
 refine cL rfl (o_pickF (v := .bool _) rfl (decide_eq_false c1) rfl ?_)
 refine mB rfl rfl ?_
 by_cases c2 : ((c.length : Nat) : Int) < (1 : Int)
 iterate 3 refine cLs rfl rfl rfl (decide_eq_true c2) ?_
 refine cL rfl (o_pickT (v := .bool _) rfl (decide_eq_true c2) rfl ?_)
 refine eL ?_
 exact le_mk ⟨rfl, rfl, (congrArg AV.bool (dOrF c1 (dOrT c2))).symm, trivial⟩ rfl
 refine cLg rfl rfl (decide_eq_false c2) ?_
 refine mL rfl rfl ?_
 refine cLg rfl rfl (decide_eq_false c2) ?_
 refine cL rfl (o_len (v := .lst _ _ _) tt35 rfl rfl ?_)
 refine cLg rfl rfl (decide_eq_false c2) ?_
 refine cL rfl (o_gtr rfl rfl ?_)
 refine cL rfl (o_pickF (v := .bool _) rfl (decide_eq_false c2) rfl ?_)
 refine eL ?_
 exact le_mk ⟨rfl, rfl, (congrArg AV.bool (dOrF c1 (dOrF c2 (rfl)))).symm, trivial⟩ rfl
 refine W.cn rfl (fun hc => ?_) (fun hc => ?_)
 have hv := hv.1 hc
 refine W.rL ?_
 refine aB rfl rfl ?_
 refine eL ?_
 refine W.tr [(4, .bool _)] [] ⟨rfl, trivial⟩ rfl ?_
 refine W.ret ?_
 refine th_ret (rt ?_)
 refine rt_t (v := .bool _) rfl ?_
 refine rt_n ?_
 exact ⟨_, rs_bool _ _ _, false, rfl, hv⟩
 have hv := hv.2 hc
 refine W.skip ?_
 refine th_nrm ?_
 refine W.tr [(0, .lst _ _ _), (1, .lst _ _ _)] [] ⟨rfl, rfl, trivial⟩ rfl ?_
 refine W.rL ?_
 refine cL rfl (o_alloc (p := 0) tt80 rfl (bools_zero 24) ?_)
 refine eL ?_
 refine W.tr [(0, .lst _ _ _), (1, .lst _ _ _), (5, .ptr _ _)] [.box _ _] ⟨rfl, rfl, rfl, trivial⟩ rfl ?_
 refine W.rL ?_
 refine aI rfl rfl ?_
 refine eL ?_
 refine W.tr [(0, .lst _ _ _), (1, .lst _ _ _), (5, .ptr _ _), (6, .int _ _)] [.box _ _] ⟨rfl, rfl, rfl, rfl, trivial⟩ rfl ?_
 refine W.seq' ?_
 refine W.rL ?_
 refine mL rfl rfl ?_
 refine cL rfl (o_len (v := .lst _ _ _) tt35 rfl rfl ?_)
 refine mI rfl rfl ?_
 refine eL ?_
 refine W.tr [(0, .lst _ _ _), (1, .lst _ _ _), (5, .ptr _ _), (6, .int _ _), (22, .lst _ _ _), (23, .int _ _), (24, .int _ _)] [.box _ _] ⟨rfl, rfl, rfl, rfl, rfl, rfl, rfl, trivial⟩ rfl ?_
 refine W.block ?_
 obtain ⟨I1, μ1, hp, hv⟩ := hv
 refine W.loop3 (fun v6 v24 m0 => ⟨101, look [(0, .lst true l.length (encL e25 l)), (1, .lst true c.length (encL eInt c)), (5, .ptr 0 0), (6, .int .i64 v6), (22, .lst true c.length (encL eInt c)), (23, .int .i64 ((c.length : Nat) : Int)), (24, .int .i64 v24)], [.box 80 (encL eBool m0.toList)], false⟩) I1 μ1 (0 : Int) (0 : Int) (Vector.replicate 24 false) (St.to_mk (φ := [some 0]) rfl (.inl rfl) ⟨Ren.lst _ _ _, Ren.lst _ _ _, Ren.ptr rfl, Ren.int _ _, Ren.lst _ _ _, Ren.int _ _, Ren.int _ _, trivial⟩ ⟨.inr ⟨_, rfl, rfl, Rens.enc encBool true _⟩, trivial⟩) hp ?_
 clear hp
 intro v6 v24 m0 hI
 replace hv := hv v6 v24 m0 hI
 clear hI
 refine W.rL ?_
 refine cL rfl (o_lss rfl rfl ?_)
 refine eL ?_
 refine W.tr [(0, .lst _ _ _), (1, .lst _ _ _), (5, .ptr _ _), (6, .int _ _), (22, .lst _ _ _), (23, .int _ _), (24, .int _ _), (25, .bool _)] [.box _ _] ⟨rfl, rfl, rfl, rfl, rfl, rfl, rfl, rfl, trivial⟩ rfl ?_
 refine W.seq' ?_
 refine W.cn rfl (fun hc => ?_) (fun hc => ?_)
 have hv := hv.1 hc
 refine W.skip ?_
 refine th_nrm ?_
 refine W.tr [(0, .lst _ _ _), (1, .lst _ _ _), (5, .ptr _ _), (6, .int _ _), (22, .lst _ _ _), (23, .int _ _), (24, .int _ _)] [.box _ _] ⟨rfl, rfl, rfl, rfl, rfl, rfl, rfl, trivial⟩ rfl ?_
 refine W.seq' ?_
 refine W.block ?_
 refine W.rL ?_
 refine mI rfl rfl ?_
 obtain ⟨s384, hv⟩ := hv
 refine cL rfl (o_iaL tt35 tt3 rfl rfl (encInt.wd true) rfl s384 ?_)
 intro rest384
 refine cL rfl (o_ldS (v := .int _ _) tt3 rfl rfl ⟨_, rfl⟩ ?_)
 iterate 2 refine aI rfl rfl ?_
 refine eL ?_
 refine W.tr [(0, .lst _ _ _), (1, .lst _ _ _), (5, .ptr _ _), (6, .int _ _), (7, .int _ _), (8, .int _ _), (22, .lst _ _ _), (23, .int _ _), (24, .int _ _)] [.box _ _] ⟨rfl, rfl, rfl, rfl, rfl, rfl, rfl, rfl, rfl, trivial⟩ rfl ?_
 refine W.seq' ?_
 obtain ⟨sd, hv⟩ := hv
 refine W.rLm ⟨101, look [(0, .lst true l.length (encL e25 l)), (1, .lst true c.length (encL eInt c)), (5, .ptr 0 0), (6, .int .i64 v6), (7, .int .i64 v24), (8, .int .i64 (lat c v24)), (22, .lst true c.length (encL eInt c)), (23, .int .i64 ((c.length : Nat) : Int)), (24, .int .i64 v24), (45, .bool (decide (((lat c v24) < (0 : Int)) ∨ ((((l.length : Nat) : Int) ≤ (lat c v24)) ∨ ((bat m0 (((lat l (lat c v24)).f).toNat)) = true)))))], [.box 80 (encL eBool m0.toList)], false⟩ ?_ ?_
 refine mI rfl rfl ?_
 refine cL rfl (o_lss rfl rfl ?_)
 refine mB rfl rfl ?_
 by_cases c1 : (lat c v24) < (0 : Int)
 iterate 4 refine cLs rfl rfl rfl (decide_eq_true c1) ?_
 refine cL rfl (o_pickT (v := .bool _) rfl (decide_eq_true c1) rfl ?_)
 refine mB rfl rfl ?_
 iterate 7 refine cLs rfl rfl rfl (rfl) ?_
 refine cL rfl (o_pickT (v := .bool _) rfl rfl rfl ?_)
 refine eL ?_
 exact le_mk ⟨rfl, rfl, rfl, rfl, rfl, rfl, rfl, rfl, rfl, (congrArg AV.bool (dOrT c1)).symm, trivial⟩ rfl
 have sd := sd.2 c1
 refine cLg rfl rfl (decide_eq_false c1) ?_
 refine mI rfl rfl ?_
 refine cLg rfl rfl (decide_eq_false c1) ?_
 refine mL rfl rfl ?_
 refine cLg rfl rfl (decide_eq_false c1) ?_
 refine cL rfl (o_len (v := .lst _ _ _) tt22 rfl rfl ?_)
 refine cLg rfl rfl (decide_eq_false c1) ?_
 refine cL rfl (o_geq rfl rfl ?_)
 refine cL rfl (o_pickF (v := .bool _) rfl (decide_eq_false c1) rfl ?_)
 refine mB rfl rfl ?_
 by_cases c2 : ((l.length : Nat) : Int) ≤ (lat c v24)
 iterate 7 refine cLs rfl rfl rfl (decide_eq_true c2) ?_
 refine cL rfl (o_pickT (v := .bool _) rfl (decide_eq_true c2) rfl ?_)
 refine eL ?_
 exact le_mk ⟨rfl, rfl, rfl, rfl, rfl, rfl, rfl, rfl, rfl, (congrArg AV.bool (dOrF c1 (dOrT c2))).symm, trivial⟩ rfl
 have sd := sd.2 c2
 refine cLg rfl rfl (decide_eq_false c2) ?_
 refine mL rfl rfl ?_
 refine cLg rfl rfl (decide_eq_false c2) ?_
 refine mI rfl rfl ?_
 refine cLg rfl rfl (decide_eq_false c2) ?_
 obtain ⟨s394, sd⟩ := sd
 refine cL rfl (o_iaL tt22 tt25 rfl rfl (enc25.wd true) rfl s394 ?_)
 intro rest394
 refine cLg rfl rfl (decide_eq_false c2) ?_
 refine cL rfl (o_faP tt25 rfl tt3 rfl ?_)
 refine cLg rfl rfl (decide_eq_false c2) ?_
 refine cL rfl (o_ldS (v := .int _ _) tt3 rfl rfl ⟨_, rfl⟩ ?_)
 refine cLg rfl rfl (decide_eq_false c2) ?_
 obtain ⟨s395, sd⟩ := sd
 refine cL rfl (o_iaA tt80 tt4 rfl rfl s395 (by rw [Nat.mul_one, Nat.zero_add]) ?_)
 refine cLg rfl rfl (decide_eq_false c2) ?_
 obtain ⟨s396, sd⟩ := sd
 refine cL rfl (o_ldS tt4 rfl rfl (ca_vecB rfl s396) ?_)
 refine cL rfl (o_pickF (v := .bool _) rfl (decide_eq_false c2) rfl ?_)
 refine eL ?_
 exact le_mk ⟨rfl, rfl, rfl, rfl, rfl, rfl, rfl, rfl, rfl, (congrArg AV.bool (dOrF c1 (dOrF c2 (dVar _)))).symm, trivial⟩ rfl
 refine W.cn rfl (fun hc => ?_) (fun hc => ?_)
 have hv := hv.1 hc
 refine W.rL ?_
 refine aB rfl rfl ?_
 refine eL ?_
 refine W.tr [(4, .bool _)] [.box _ _] ⟨rfl, trivial⟩ rfl ?_
 refine W.ret ?_
 refine th_ret (bl_ret (th_ret (th_ret (bl_ret (th_ret (rt ?_))))))
 refine rt_t (v := .bool _) rfl ?_
 refine rt_n ?_
 exact ⟨_, rs_bool _ _ _, false, rfl, hv⟩
 have hv := hv.2 hc
 refine W.skip ?_
 refine th_nrm ?_
 refine W.tr [(0, .lst _ _ _), (1, .lst _ _ _), (5, .ptr _ _), (6, .int _ _), (7, .int _ _), (8, .int _ _), (22, .lst _ _ _), (23, .int _ _), (24, .int _ _)] [.box _ _] ⟨rfl, rfl, rfl, rfl, rfl, rfl, rfl, rfl, rfl, trivial⟩ rfl ?_
 refine W.rL ?_
 refine mL rfl rfl ?_
 refine mI rfl rfl ?_
 obtain ⟨s397, hv⟩ := hv
 refine cL rfl (o_iaL tt22 tt25 rfl rfl (enc25.wd true) rfl s397 ?_)
 intro rest397
 refine cL rfl (o_faP tt25 rfl tt3 rfl ?_)
 refine cL rfl (o_ldS (v := .int _ _) tt3 rfl rfl ⟨_, rfl⟩ ?_)
 obtain ⟨s398, hv⟩ := hv
 refine cL rfl (o_iaA tt80 tt4 rfl rfl s398 (by rw [Nat.mul_one, Nat.zero_add]) ?_)
 obtain ⟨s399, hv⟩ := hv
 refine cLn (o_stB (v := .bool _) tt4 rfl rfl rfl rfl rfl (by rw [bools_len]; exact s399) (bools_set _ _ _) ?_)
 refine eL ?_
 refine W.tr [(0, .lst _ _ _), (1, .lst _ _ _), (5, .ptr _ _), (6, .int _ _), (7, .int _ _), (8, .int _ _), (22, .lst _ _ _), (23, .int _ _), (24, .int _ _)] [.box _ _] ⟨rfl, rfl, rfl, rfl, rfl, rfl, rfl, rfl, rfl, trivial⟩ rfl ?_
 refine W.seq' ?_
 obtain ⟨sd, hv⟩ := hv
 refine W.rDm ⟨101, look [(0, .lst true l.length (encL e25 l)), (1, .lst true c.length (encL eInt c)), (5, .ptr 0 0), (6, .int .i64 v6), (8, .int .i64 (lat c v24)), (22, .lst true c.length (encL eInt c)), (23, .int .i64 ((c.length : Nat) : Int)), (24, .int .i64 v24), (70, .bool (decide (((0 : Int) < v24) ∧ (¬ (lat l (lat c (v24 - (1 : Int)))).t = (lat l (lat c v24)).f))))], [.box 80 (encL eBool (bset m0 (((lat l (lat c v24)).f).toNat) true).toList)], false⟩ [0, 1, 2, 3, 4, 5, 6, 7, 8, 9, 10, 11, 12, 13, 14, 15, 16, 17, 18] (by decide +kernel) rfl ?_ ?_
 refine mI rfl rfl ?_
 refine cL rfl (o_gtr rfl rfl ?_)
 refine mB rfl rfl ?_
 by_cases c1 : (0 : Int) < v24
 have sd := sd.1 c1
 refine cLg rfl rfl (decide_eq_true c1) ?_
 refine mL rfl rfl ?_
 refine cLg rfl rfl (decide_eq_true c1) ?_
 refine mL rfl rfl ?_
 refine cLg rfl rfl (decide_eq_true c1) ?_
 refine mI rfl rfl ?_
 refine cLg rfl rfl (decide_eq_true c1) ?_
 obtain ⟨s412, sd⟩ := sd
 refine cL rfl (o_sub rfl rfl s412 ?_)
 refine cLg rfl rfl (decide_eq_true c1) ?_
 obtain ⟨s413, sd⟩ := sd
 refine cL rfl (o_iaL tt35 tt3 rfl rfl (encInt.wd true) rfl s413 ?_)
 intro rest413
 refine cLg rfl rfl (decide_eq_true c1) ?_
 refine cL rfl (o_ldS (v := .int _ _) tt3 rfl rfl ⟨_, rfl⟩ ?_)
 refine cLg rfl rfl (decide_eq_true c1) ?_
 obtain ⟨s414, sd⟩ := sd
 refine cL rfl (o_iaL tt22 tt25 rfl rfl (enc25.wd true) rfl s414 ?_)
 intro rest414
 refine cLg rfl rfl (decide_eq_true c1) ?_
 refine cL rfl (o_faP tt25 rfl tt3 rfl ?_)
 refine cLg rfl rfl (decide_eq_true c1) ?_
 refine cL rfl (o_ldS (v := .int _ _) tt3 rfl rfl ⟨_, rfl⟩ ?_)
 refine cLg rfl rfl (decide_eq_true c1) ?_
 refine mL rfl rfl ?_
 refine cLg rfl rfl (decide_eq_true c1) ?_
 refine mI rfl rfl ?_
 refine cLg rfl rfl (decide_eq_true c1) ?_
 obtain ⟨s415, sd⟩ := sd
 refine cL rfl (o_iaL tt22 tt25 rfl rfl (enc25.wd true) rfl s415 ?_)
 intro rest415
 refine cLg rfl rfl (decide_eq_true c1) ?_
 refine cL rfl (o_faP tt25 rfl tt3 rfl ?_)
 refine cLg rfl rfl (decide_eq_true c1) ?_
 refine cL rfl (o_ldS (v := .int _ _) tt3 rfl rfl ⟨_, rfl⟩ ?_)
 refine cLg rfl rfl (decide_eq_true c1) ?_
 refine cL rfl (o_neI rfl rfl rfl ?_)
 refine cL rfl (o_pickT (v := .bool _) rfl (decide_eq_true c1) rfl ?_)
 refine eL ?_
 exact le_mk ⟨rfl, rfl, rfl, rfl, rfl, rfl, rfl, rfl, (congrArg AV.bool (dAndT c1 (rfl))).symm, trivial⟩ rfl
 iterate 15 refine cLs rfl rfl rfl (decide_eq_false c1) ?_
 refine cL rfl (o_pickF (v := .bool _) rfl (decide_eq_false c1) rfl ?_)
 refine eL ?_
 exact le_mk ⟨rfl, rfl, rfl, rfl, rfl, rfl, rfl, rfl, (congrArg AV.bool (dAndF c1)).symm, trivial⟩ rfl
 refine W.cn rfl (fun hc => ?_) (fun hc => ?_)
 have hv := hv.1 hc
 refine W.rL ?_
 refine aB rfl rfl ?_
 refine eL ?_
 refine W.tr [(4, .bool _)] [.box _ _] ⟨rfl, trivial⟩ rfl ?_
 refine W.ret ?_
 refine th_ret (bl_ret (th_ret (th_ret (bl_ret (th_ret (rt ?_))))))
 refine rt_t (v := .bool _) rfl ?_
 refine rt_n ?_
 exact ⟨_, rs_bool _ _ _, false, rfl, hv⟩
 have hv := hv.2 hc
 refine W.skip ?_
 refine th_nrm ?_
 refine W.tr [(0, .lst _ _ _), (1, .lst _ _ _), (5, .ptr _ _), (6, .int _ _), (8, .int _ _), (22, .lst _ _ _), (23, .int _ _), (24, .int _ _)] [.box _ _] ⟨rfl, rfl, rfl, rfl, rfl, rfl, rfl, rfl, trivial⟩ rfl ?_
 refine W.rL1 ?_
 refine mI rfl rfl ?_
 refine mL rfl rfl ?_
 refine mI rfl rfl ?_
 obtain ⟨s416, hv⟩ := hv
 refine cL rfl (o_iaL tt22 tt25 rfl rfl (enc25.wd true) rfl s416 ?_)
 intro rest416
 refine cL rfl (o_faP tt25 rfl tt3 rfl ?_)
 refine cL rfl (o_ldS (v := .int _ _) tt3 rfl rfl ⟨_, rfl⟩ ?_)
 obtain ⟨s417, hv⟩ := hv
 refine cL rfl (o_add rfl rfl s417 ?_)
 refine aI rfl rfl ?_
 refine eL ?_
 refine bl_nrm (th_nrm ?_)
 refine W.tr [(0, .lst _ _ _), (1, .lst _ _ _), (5, .ptr _ _), (6, .int _ _), (22, .lst _ _ _), (23, .int _ _), (24, .int _ _)] [.box _ _] ⟨rfl, rfl, rfl, rfl, rfl, rfl, rfl, trivial⟩ rfl ?_
 refine W.rL1 ?_
 obtain ⟨s418, hv⟩ := hv
 refine cL rfl (o_add rfl rfl s418 ?_)
 refine mI rfl rfl ?_
 refine eL ?_
 exact th_nrm (⟨(), (v6 + ((lat l (lat c v24)).m)), (v24 + (1 : Int)), (bset m0 (((lat l (lat c v24)).f).toNat) true), hv, St.to_mk (φ := [some 0]) rfl (.inl rfl) ⟨Ren.lst _ _ _, Ren.lst _ _ _, Ren.ptr rfl, Ren.int _ _, Ren.lst _ _ _, Ren.int _ _, Ren.int _ _, trivial⟩ ⟨.inr ⟨_, rfl, rfl, Rens.enc encBool true _⟩, trivial⟩⟩)
 have hv := hv.2 hc
 refine W.exit ?_
 refine th_exit (th_exit (bl_hit (th_nrm ?_)))
 refine W.tr [(0, .lst _ _ _), (1, .lst _ _ _), (6, .int _ _)] [.box _ _] ⟨rfl, rfl, rfl, trivial⟩ rfl ?_
 obtain ⟨sd, hv⟩ := hv
 refine W.rDm ⟨101, look [(4, .bool (decide ((v6 < (0 : Int)) ∧ ((lat l (lat c (((c.length : Nat) : Int) - (1 : Int)))).t = (lat l (lat c (0 : Int))).f))))], [.box 80 (encL eBool m0.toList)], false⟩ [0, 1, 2, 3, 4, 5, 6, 7, 8, 9, 10, 11, 12, 13, 14, 15, 16, 17, 18, 19, 20, 21, 22] (by decide +kernel) rfl ?_ ?_
 refine mI rfl rfl ?_
 refine cL rfl (o_lss rfl rfl ?_)
 refine mB rfl rfl ?_
 by_cases c1 : v6 < (0 : Int)
 have sd := sd.1 c1
 refine cLg rfl rfl (decide_eq_true c1) ?_
 refine mL rfl rfl ?_
 refine cLg rfl rfl (decide_eq_true c1) ?_
 refine mL rfl rfl ?_
 refine cLg rfl rfl (decide_eq_true c1) ?_
 refine mL rfl rfl ?_
 refine cLg rfl rfl (decide_eq_true c1) ?_
 refine cL rfl (o_len (v := .lst _ _ _) tt35 rfl rfl ?_)
 refine cLg rfl rfl (decide_eq_true c1) ?_
 obtain ⟨s424, sd⟩ := sd
 refine cL rfl (o_sub rfl rfl s424 ?_)
 refine cLg rfl rfl (decide_eq_true c1) ?_
 obtain ⟨s425, sd⟩ := sd
 refine cL rfl (o_iaL tt35 tt3 rfl rfl (encInt.wd true) rfl s425 ?_)
 intro rest425
 refine cLg rfl rfl (decide_eq_true c1) ?_
 refine cL rfl (o_ldS (v := .int _ _) tt3 rfl rfl ⟨_, rfl⟩ ?_)
 refine cLg rfl rfl (decide_eq_true c1) ?_
 obtain ⟨s426, sd⟩ := sd
 refine cL rfl (o_iaL tt22 tt25 rfl rfl (enc25.wd true) rfl s426 ?_)
 intro rest426
 refine cLg rfl rfl (decide_eq_true c1) ?_
 refine cL rfl (o_faP tt25 rfl tt3 rfl ?_)
 refine cLg rfl rfl (decide_eq_true c1) ?_
 refine cL rfl (o_ldS (v := .int _ _) tt3 rfl rfl ⟨_, rfl⟩ ?_)
 refine cLg rfl rfl (decide_eq_true c1) ?_
 refine mL rfl rfl ?_
 refine cLg rfl rfl (decide_eq_true c1) ?_
 refine mL rfl rfl ?_
 refine cLg rfl rfl (decide_eq_true c1) ?_
 obtain ⟨s427, sd⟩ := sd
 refine cL rfl (o_iaL tt35 tt3 rfl rfl (encInt.wd true) rfl s427 ?_)
 intro rest427
 refine cLg rfl rfl (decide_eq_true c1) ?_
 refine cL rfl (o_ldS (v := .int _ _) tt3 rfl rfl ⟨_, rfl⟩ ?_)
 refine cLg rfl rfl (decide_eq_true c1) ?_
 obtain ⟨s428, sd⟩ := sd
 refine cL rfl (o_iaL tt22 tt25 rfl rfl (enc25.wd true) rfl s428 ?_)
 intro rest428
 refine cLg rfl rfl (decide_eq_true c1) ?_
 refine cL rfl (o_faP tt25 rfl tt3 rfl ?_)
 refine cLg rfl rfl (decide_eq_true c1) ?_
 refine cL rfl (o_ldS (v := .int _ _) tt3 rfl rfl ⟨_, rfl⟩ ?_)
 refine cLg rfl rfl (decide_eq_true c1) ?_
 refine cL rfl (o_eqI rfl rfl rfl ?_)
 refine cL rfl (o_pickT (v := .bool _) rfl (decide_eq_true c1) rfl ?_)
 refine aB rfl rfl ?_
 refine eL ?_
 exact le_mk ⟨(congrArg AV.bool (dAndT c1 (rfl))).symm, trivial⟩ rfl
 iterate 18 refine cLs rfl rfl rfl (decide_eq_false c1) ?_
 refine cL rfl (o_pickF (v := .bool _) rfl (decide_eq_false c1) rfl ?_)
 refine aB rfl rfl ?_
 refine eL ?_
 exact le_mk ⟨(congrArg AV.bool (dAndF c1)).symm, trivial⟩ rfl
 refine W.ret ?_
 refine rt ?_
 refine rt_t (v := .bool _) rfl ?_
 refine rt_n ?_
 exact ⟨_, rs_bool _ _ _, (decide ((v6 < (0 : Int)) ∧ ((lat l (lat c (((c.length : Nat) : Int) - (1 : Int)))).t = (lat l (lat c (0 : Int))).f))), rfl, hv⟩
theorem vcp_cycle (l : (List Con)) (c : (List Int)) (h0 : l.length ≤ 1073741824) (h1 : c.length ≤ 1073741824) : vc_cycle l c (fun q0 => q0 = (cycleM l c)) := by
  unfold vc_cycle
  have hcyc : cycleM l c = true ↔ validM 24 l = true ∧ (1 ≤ c.length ∧ c.length ≤ 24) ∧ (∀ i, i < c.length → cycStep l c i = true) ∧ ((c.map fun k => (lat l k).m).sum < 0 ∧ (lat l (lat c ((c.length : Int) - 1))).t = (lat l (lat c 0)).f) := by
    unfold cycleM
    simp only [Bool.and_eq_true, decide_eq_true_iff, List.all_eq_true, List.mem_range, and_assoc]
  have hfalse : ¬ (validM 24 l = true ∧ (1 ≤ c.length ∧ c.length ≤ 24) ∧ (∀ i, i < c.length → cycStep l c i = true) ∧ ((c.map fun k => (lat l k).m).sum < 0 ∧ (lat l (lat c ((c.length : Int) - 1))).t = (lat l (lat c 0)).f)) → false = cycleM l c := fun h => (Bool.eq_false_iff.mpr fun e => h (hcyc.mp e)).symm
  have hstep : ∀ i, cycStep l c i = true ↔ (0 ≤ lat c (i : Int) ∧ lat c (i : Int) < (l.length : Int)) ∧ (∀ j, j < i → ¬ (lat l (lat c (j : Int))).f = (lat l (lat c (i : Int))).f) ∧ (i = 0 ∨ (lat l (lat c ((i : Int) - 1))).t = (lat l (lat c (i : Int))).f) := by
    intro i
    unfold cycStep
    simp only [Bool.and_eq_true, Bool.or_eq_true, decide_eq_true_iff, List.all_eq_true, List.mem_range, and_assoc]
  refine ⟨⟨h0, trivial⟩, fun h => hfalse fun e => ?_, fun h => ?_⟩
  · rcases h with h | h
    · exact h e.1
    · omega
  have hv : validM 24 l = true := Classical.not_not.mp fun e => h (.inl e)
  have hc := fun e => h (.inr e)
  have hg := validM_good hv
  refine ⟨fun s v m => ∃ i : Nat, v = i ∧ i ≤ c.length ∧ s = ((c.take i).map fun k => (lat l k).m).sum ∧ (∀ j, j < i → cycStep l c j = true) ∧ (∀ e, e < 24 → (bat m e = true ↔ ∃ j : Nat, j < i ∧ (lat l (lat c (j : Int))).f = e)) ∧ -(i * 1125899906842624 : Int) ≤ s ∧ s ≤ i * 1125899906842624, fun _ v _ => c.length - v.toNat, ⟨0, rfl, by omega, rfl, by omega, fun e he => ?_, by omega, by omega⟩, ?_⟩
  · rw [bat_lt he]; simp
  rintro s _ m ⟨i, rfl, hi, hs, hj, hm, hs1, hs2⟩
  refine ⟨fun h2 => ⟨by omega, ⟨fun _ => trivial, fun h3 => ⟨fun _ => trivial, fun h4 => ?_⟩⟩, fun h3 => ?_, fun h3 => ?_⟩, fun h2 => ?_⟩
  · have hcg := hg _ (lat_mem (xs := l) (i := lat c (i : Int)) ⟨by omega, by omega⟩)
    exact ⟨by omega, hcg.1, by omega, trivial⟩
  · refine hfalse fun e => ?_
    obtain ⟨q1, q2, q3⟩ := (hstep i).mp (e.2.2.1 i (by omega))
    rcases h3 with h3 | h3 | h3
    · omega
    · omega
    · have hcg := hg _ (lat_mem (xs := l) (i := lat c (i : Int)) q1)
      obtain ⟨j, hj1, hj2⟩ := (hm _ (by omega)).mp h3
      exact q2 j hj1 (by omega)
  · have k1 : ¬ lat c (i : Int) < 0 := fun e => h3 (.inl e)
    have k2 : ¬ (l.length : Int) ≤ lat c (i : Int) := fun e => h3 (.inr (.inl e))
    have k3 := fun e => h3 (.inr (.inr e))
    have hcg := hg _ (lat_mem (xs := l) (i := lat c (i : Int)) ⟨by omega, by omega⟩)
    have hnew : ∀ j, j < i → ¬ (lat l (lat c (j : Int))).f = (lat l (lat c (i : Int))).f := fun j hj1 hj2 => k3 ((hm _ (by omega)).mpr ⟨j, hj1, by omega⟩)
    refine ⟨by omega, hcg.1, by omega, ⟨fun h4 => ?_, fun _ => trivial⟩, fun h4 => hfalse fun e => ?_, fun h4 => ?_⟩
    · obtain ⟨q1, -⟩ := (hstep (i - 1)).mp (hj (i - 1) (by omega))
      rw [show ((i - 1 : Nat) : Int) = (i : Int) - 1 by omega] at q1
      exact ⟨by unfold inI; omega, by omega, q1, by omega, trivial⟩
    · obtain ⟨q1, q2, q3⟩ := (hstep i).mp (e.2.2.1 i (by omega))
      omega
    · have hlt : i < c.length := by omega
      have hst : cycStep l c i = true := (hstep i).mpr ⟨by omega, hnew, by omega⟩
      refine ⟨by omega, by unfold inI; omega, by unfold inI; omega, ⟨i + 1, by omega, by omega, ?_, fun j hj1 => ?_, fun e he => ?_, by omega, by omega⟩, by dsimp only; omega⟩
      · rw [List.take_add_one, List.map_append, List.sum_append, ← hs, List.getElem?_eq_getElem hlt, lat_get hlt]; simp
      · rcases Nat.lt_or_ge j i with h6 | h6
        · exact hj j h6
        · have : j = i := by omega
          subst this; exact hst
      · rw [bat_bset (by omega)]
        split
        · rename_i he2
          exact ⟨fun _ => ⟨i, by omega, by omega⟩, fun _ => rfl⟩
        · rename_i he2
          rw [hm e he]
          exact ⟨fun ⟨j, a, b⟩ => ⟨j, by omega, b⟩, fun ⟨j, a, b⟩ => ⟨j, by
            rcases Nat.lt_or_ge j i with h6 | h6
            · exact h6
            · have : j = i := by omega
              subst this; omega, b⟩⟩
  · have hic : i = c.length := by omega
    rw [hic, List.take_length] at hs
    obtain ⟨q1, -⟩ := (hstep 0).mp (hj 0 (by omega))
    obtain ⟨q2, -⟩ := (hstep (i - 1)).mp (hj (i - 1) (by omega))
    rw [show ((i - 1 : Nat) : Int) = (c.length : Int) - 1 by omega] at q2
    refine ⟨⟨fun h3 => ⟨by unfold inI; omega, by omega, q2, by omega, q1, trivial⟩, fun _ => trivial⟩, ?_⟩
    show decide _ = cycleM l c
    have : cycleM l c = true ↔ (s < 0 ∧ (lat l (lat c ((c.length : Int) - 1))).t = (lat l (lat c 0)).f) := by
      rw [hcyc, ← hs]
      exact ⟨fun h => h.2.2.2, fun h => ⟨hv, by omega, fun j hj1 => hj j (by omega), h⟩⟩
    cases e : cycleM l c with
    | true => exact decide_eq_true (this.mp e)
    | false => exact decide_eq_false fun h => by rw [this.mpr h] at e; cases e
theorem spec_cycle (l : (List Con)) (c : (List Int)) (h0 : l.length ≤ 1073741824) (h1 : c.length ≤ 1073741824) : FnP Try.prog 31 [.lst true l.length (encL e25 l), .lst true c.length (encL eInt c)] (fun xR => xR = .bool (cycleM l c)) :=
  (walk_cycle (vcp_cycle l c h0 h1)).mono (by rintro _ ⟨_, rfl, rfl⟩; rfl)
def vc_of (b : Bd) (Post : (Vector Int 576) → Prop) : Prop :=
  ∃ (I1 : Int → (Vector Int 576) → Prop) (μ1 : Int → (Vector Int 576) → Nat), I1 (0 : Int) freeM ∧ ∀ (v10 : Int) (m1 : (Vector Int 576)), I1 v10 m1 → ((v10 < ((b.most.length : Nat) : Int)) → (0 ≤ v10 ∧ v10 < (b.most.length : Int)) ∧ (0 ≤ v10 ∧ v10 < ((24 : Nat) : Int)) ∧ (0 ≤ ((0 : Nat) : Int) ∧ ((0 : Nat) : Int) ≤ ((24 : Nat) : Int) ∧ ((24 : Nat) : Int) ≤ ((24 : Nat) : Int)) ∧ (v10.toNat * 24 + 24 ≤ 576) ∧ (inI (v10 + (1 : Int))) ∧ (I1 (v10 + (1 : Int)) (vput m1 (v10.toNat * 24) ((lat b.most v10).take 24)) ∧ μ1 (v10 + (1 : Int)) (vput m1 (v10.toNat * 24) ((lat b.most v10).take 24)) < μ1 v10 m1)) ∧ (¬ (v10 < ((b.most.length : Nat) : Int)) → Post m1)
set_option maxRecDepth 100000 in
set_option maxHeartbeats 4000000 in
theorem walk_of {b : Bd} {Post : (Vector Int 576) → Prop} (hv : vc_of b Post) : FnH Try.prog 44 [] [.agg ((e34 true) b)] (fun x H => ∃ l q0, H = .box 82 (encL eInt q0.toList) :: l ∧ x = .ptr 0 0 ∧ Post q0) := by
 refine FnH.of_walk (T := tt) (nt := 24) ttOk ttMix ⟨⟨Try.f44, Try.func44, rfl, rfl, rfl, rfl⟩⟩ (by simp) (by simp) false (by simp) ?_
 unfold vc_of at hv
 change W _ _ _ ⟨24, look [(0, .agg [.int .i64 b.n, .lst true b.most.length (encL (eSl eInt true) b.most)])], [], false⟩ _
 refine W.tr [(0, .agg _)] [] ⟨rfl, trivial⟩ rfl ?_
 refine W.rL ?_
 refine cL rfl (o_box (v := .agg _) (p := 0) rfl rfl rfl ?_)
 refine cL rfl (o_assign (v := .nilP) rfl ?_)
 refine eL ?_
 refine W.tr [(1, .ptr _ _)] [.box _ [.int _ _, .lst _ _ _]] ⟨rfl, trivial⟩ rfl ?_
 refine W.rH ?_
 refine cHc rfl (callH_N1 (xs := _) (spec_free) (Wks.refl _) flatI rfl ?_)
 refine cH rfl (o_assign (v := .ptr _ _) rfl ?_)
 refine eH ?_
 refine W.tr [(1, .ptr _ _), (3, .ptr _ _)] [.box _ [.int _ _, .lst _ _ _], .box _ _] ⟨rfl, rfl, trivial⟩ rfl ?_
 refine W.seq' ?_
 refine W.rL ?_
 refine cL rfl (o_fa tt34 rfl tt32 rfl ?_)
 refine cL rfl (o_ldS (v := .lst _ _ _) tt32 rfl rfl ⟨_, rfl⟩ ?_)
 refine cL rfl (o_len (v := .lst _ _ _) tt32 rfl rfl ?_)
 refine mI rfl rfl ?_
 refine eL ?_
 refine W.tr [(3, .ptr _ _), (8, .lst _ _ _), (9, .int _ _), (10, .int _ _)] [.box _ [.int _ _, .lst _ _ _], .box _ _] ⟨rfl, rfl, rfl, rfl, trivial⟩ rfl ?_
 refine W.block ?_
 obtain ⟨I1, μ1, hp, hv⟩ := hv
 refine W.loop2 (fun v10 m1 => ⟨24, look [(3, .ptr 1 0), (8, .lst true b.most.length (encL (eSl eInt true) b.most)), (9, .int .i64 ((b.most.length : Nat) : Int)), (10, .int .i64 v10)], [.dead, .box 82 (encL eInt m1.toList)], false⟩) I1 μ1 (0 : Int) freeM (St.to_mk (φ := [none, some 1]) rfl (.inl rfl) ⟨Ren.ptr rfl, Ren.lst _ _ _, Ren.int _ _, Ren.int _ _, trivial⟩ ⟨rfl, .inr ⟨_, rfl, rfl, Rens.enc encInt true _⟩, trivial⟩) hp ?_
 clear hp
 intro v10 m1 hI
 replace hv := hv v10 m1 hI
 clear hI
 refine W.rL ?_
 refine cL rfl (o_lss rfl rfl ?_)
 refine eL ?_
 refine W.tr [(3, .ptr _ _), (8, .lst _ _ _), (9, .int _ _), (10, .int _ _), (11, .bool _)] [.dead, .box _ _] ⟨rfl, rfl, rfl, rfl, rfl, trivial⟩ rfl ?_
 refine W.seq' ?_
 refine W.cn rfl (fun hc => ?_) (fun hc => ?_)
 have hv := hv.1 hc
 refine W.skip ?_
 refine th_nrm ?_
 refine W.tr [(3, .ptr _ _), (8, .lst _ _ _), (9, .int _ _), (10, .int _ _)] [.dead, .box _ _] ⟨rfl, rfl, rfl, rfl, trivial⟩ rfl ?_
 refine W.seq' ?_
 refine W.block ?_
 refine W.rL ?_
 refine mI rfl rfl ?_
 obtain ⟨s50, hv⟩ := hv
 refine cL rfl (o_iaL tt32 tt35 rfl rfl ((encSl eInt).wd true) rfl s50 ?_)
 intro rest50
 refine cL rfl (o_ldS (v := .lst _ _ _) tt35 rfl rfl ⟨_, rfl⟩ ?_)
 refine aI rfl rfl ?_
 refine aL rfl rfl ?_
 refine eL ?_
 refine W.tr [(3, .ptr _ _), (4, .int _ _), (5, .lst _ _ _), (8, .lst _ _ _), (9, .int _ _), (10, .int _ _)] [.dead, .box _ _] ⟨rfl, rfl, rfl, rfl, rfl, rfl, trivial⟩ rfl ?_
 refine W.rL1 ?_
 refine cL rfl (o_move (v := .ptr _ _) rfl ?_)
 refine mI rfl rfl ?_
 refine cL rfl (o_nil rfl ?_)
 obtain ⟨s51, hv⟩ := hv
 refine cL rfl (o_iaA tt82 tt73 rfl rfl s51 (Nat.zero_add _) ?_)
 obtain ⟨s52, hv⟩ := hv
 refine cL rfl (o_slA tt73 tt3 rfl rfl rfl s52 (off := v10.toNat * 24) (c := 24) (by simp) (by simp) ?_)
 refine mL rfl rfl ?_
 obtain ⟨s53, hv⟩ := hv
 refine cL rfl (o_cpV (xs := lat b.most v10) tt35 tt3 rfl (src_lst wdInt _ _ rfl) rfl s53 ?_)
 refine eL ?_
 refine bl_nrm (th_nrm ?_)
 refine W.tr [(3, .ptr _ _), (8, .lst _ _ _), (9, .int _ _), (10, .int _ _)] [.dead, .box _ _] ⟨rfl, rfl, rfl, rfl, trivial⟩ rfl ?_
 refine W.rL1 ?_
 obtain ⟨s54, hv⟩ := hv
 refine cL rfl (o_add rfl rfl s54 ?_)
 refine mI rfl rfl ?_
 refine eL ?_
 exact th_nrm (⟨(), (v10 + (1 : Int)), (vput m1 (v10.toNat * 24) ((lat b.most v10).take 24)), hv, St.to_mk (φ := [none, some 1]) rfl (.inl rfl) ⟨Ren.ptr rfl, Ren.lst _ _ _, Ren.int _ _, Ren.int _ _, trivial⟩ ⟨rfl, .inr ⟨_, rfl, rfl, Rens.enc encInt true _⟩, trivial⟩⟩)
 have hv := hv.2 hc
 refine W.exit ?_
 refine th_exit (th_exit (bl_hit (th_nrm ?_)))
 refine W.tr [(3, .ptr _ _)] [.dead, .box _ _] ⟨rfl, trivial⟩ rfl ?_
 refine W.rL ?_
 refine cL rfl (o_move (v := .ptr _ _) rfl ?_)
 refine cL rfl (o_assign (v := .ptr _ _) rfl ?_)
 refine eL ?_
 refine W.tr [(2, .ptr _ _)] [.dead, .box _ _] ⟨rfl, trivial⟩ rfl ?_
 refine W.to (st' := ⟨24, look [(2, .ptr 0 0)], [.box 82 (encL eInt m1.toList)], false⟩) (St.to_mk (φ := [some 1]) rfl (.inl rfl) ⟨Ren.ptr rfl, trivial⟩ ⟨.inr ⟨_, rfl, rfl, Rens.enc encInt true _⟩, trivial⟩) ?_
 refine W.ret ?_
 refine rt ?_
 refine rt_t (v := .ptr _ _) rfl ?_
 refine rt_n ?_
 exact ⟨_, m1, rfl, rfl, hv⟩
theorem vcp_of (b : Bd) (h0 : b.most.length ≤ 24) : vc_of b (fun q0 => q0 = ofM b) := by
  unfold vc_of
  refine ⟨fun v m => ∃ i : Nat, v = i ∧ i ≤ b.most.length ∧ m = (List.range i).foldl (fun m i => vput m (i * 24) ((b.most.getD i []).take 24)) freeM, fun v _ => b.most.length - v.toNat, ⟨0, rfl, by omega, rfl⟩, ?_⟩
  rintro _ m0 ⟨i, rfl, hi, hm⟩
  refine ⟨fun h1 => ⟨by omega, by omega, by omega, by omega, by unfold inI; omega, ⟨i + 1, by omega, by omega, ?_⟩, by dsimp only; omega⟩, fun h1 => ?_⟩
  · rw [List.range_succ, List.foldl_append, ← hm, lat_nat]; rfl
  · have : i = b.most.length := by omega
    subst this; show m0 = ofM b; unfold ofM; exact hm
theorem spec_of (b : Bd) (h0 : b.most.length ≤ 24) : FnH Try.prog 44 [] [.agg ((e34 true) b)] (fun xR H => ∃ l, H = .box 82 (encL eInt (ofM b).toList) :: l ∧ xR = .ptr 0 0) :=
  (walk_of (vcp_of b h0)).mono (by rintro _ _ ⟨l, _, h1, h2, rfl⟩; exact ⟨l, h1, h2⟩)
def vc_cloneR (s : (List Int)) (Post : (List Int) → Prop) : Prop :=
  ∃ J1 : Prop, (J1 → ((s).length ≤ 1073741824) ∧ Post s) ∧ ((0 < s.length → J1) ∧ (s.length = 0 → (Post []) ∧ (J1)))
set_option maxRecDepth 100000 in
set_option maxHeartbeats 4000000 in
theorem walk_cloneR {s : (List Int)} {Post : (List Int) → Prop} (hv : vc_cloneR s Post) : FnH Try.prog 46 [] [.lst true s.length (encL eInt s)] (fun x H => ∃ l q0, H = .row 3 1 (encL eInt q0) :: l ∧ x = .ref false 0 q0.length ∧ Post q0) := by
 refine FnH.of_walk (T := tt) (nt := 8) ttOk ttMix ⟨⟨Try.f46, Try.func46, rfl, rfl, rfl, rfl⟩⟩ (by simp) (by simp) false (by simp) ?_
 unfold vc_cloneR at hv
 change W _ _ _ ⟨8, look [(0, .lst true s.length (encL eInt s))], [], false⟩ _
 refine W.tr [(0, .lst _ _ _)] [] ⟨rfl, trivial⟩ rfl ?_
 refine W.rL ?_
 refine cL rfl (o_assign (v := .nilS) rfl ?_)
 refine eL ?_
 refine W.tr [(0, .lst _ _ _)] [] ⟨rfl, trivial⟩ rfl ?_
 obtain ⟨J1, hj, hv⟩ := hv
 refine W.mid0 (⟨8, look [(0, .lst true s.length (encL eInt s))], [], false⟩) J1 ?_ ?_
 intro hv
 replace hv := hj hv
 refine W.rL ?_
 refine cL rfl (o_buildS (q := 0) (qs := []) (cs := []) tt35 tt3 rfl rfl rfl rfl ?_)
 refine mL rfl rfl ?_
 obtain ⟨s1, hv⟩ := hv
 refine cL rfl (o_apR (p := 1) (q := (s).length) tt35 tt3 rfl rfl (src_lst (encInt.wd true) _ _ rfl) (encL_length (encInt.wd true) _) rfl rfl (by simpa using s1) rfl (Nat.zero_add _) (List.nil_append _) ?_)
 refine cL rfl (o_assign (v := .ref _ _ _) rfl ?_)
 refine eL ?_
 refine W.tr [(2, .ref _ _ _)] [.dead, .row _ _ _] ⟨rfl, trivial⟩ rfl ?_
 refine W.to (st' := ⟨8, look [(2, .ref false 0 s.length)], [.row 3 1 (encL eInt s)], false⟩) (St.to_mk (φ := [some 1]) rfl (.inl rfl) ⟨Ren.ref rfl (fun h => h), trivial⟩ ⟨.inr ⟨_, rfl, rfl, rfl, rfl, Rens.enc encInt false s⟩, trivial⟩) ?_
 refine W.ret ?_
 refine rt ?_
 refine rt_t (v := .ref _ _ _) rfl ?_
 refine rt_n ?_
 exact ⟨_, s, rfl, rfl, hv⟩
 clear hj
 refine W.rL ?_
 refine mL rfl rfl ?_
 refine cL rfl (o_nilEL tt35 rfl ⟨fun hz => ?_, fun hz => ⟨?_, ?_⟩⟩)
 have hv := hv.1 hz
 refine eL ?_
 refine W.tr [(0, .lst _ _ _), (4, .bool _)] [] ⟨rfl, rfl, trivial⟩ rfl ?_
 refine W.cF rfl ?_
 refine W.skip ?_
 exact th_nrm (⟨(), hv, St.to_mk (φ := []) rfl (.inl rfl) ⟨Ren.lst _ _ _, trivial⟩ trivial⟩)
 have hv := (hv.2 hz).1
 refine eL ?_
 refine W.tr [(0, .lst _ _ _), (4, .bool _)] [] ⟨rfl, rfl, trivial⟩ rfl ?_
 refine W.cT rfl ?_
 refine W.rL ?_
 refine cL rfl (o_assign (v := .nilS) rfl ?_)
 refine eL ?_
 refine W.tr [(2, .nilS)] [] ⟨rfl, trivial⟩ rfl ?_
 refine W.to (st' := ⟨8, look [(2, .ref false 0 0)], [.row 3 1 (encL eInt [])], false⟩) (St.to_mk (φ := [none]) rfl (.inl rfl) ⟨Ren.nilR rfl rfl, trivial⟩ ⟨rfl, trivial⟩) ?_
 refine W.ret ?_
 refine th_ret (rt ?_)
 refine rt_t (v := .ref _ _ _) rfl ?_
 refine rt_n ?_
 exact ⟨_, [], rfl, rfl, hv⟩
 have hv := (hv.2 hz).2
 refine eL ?_
 refine W.tr [(0, .lst _ _ _), (4, .bool _)] [] ⟨rfl, rfl, trivial⟩ rfl ?_
 refine W.cF rfl ?_
 refine W.skip ?_
 exact th_nrm (⟨(), hv, St.to_mk (φ := []) rfl (.inl rfl) ⟨Ren.lst _ _ _, trivial⟩ trivial⟩)
theorem vcp_cloneR (s : (List Int)) (h0 : s.length ≤ 1073741824) : vc_cloneR s (fun q0 => q0 = s) := by
  unfold vc_cloneR
  exact ⟨True, fun _ => ⟨h0, rfl⟩, fun _ => trivial, fun h => ⟨(List.eq_nil_of_length_eq_zero h).symm, trivial⟩⟩
theorem spec_cloneR (s : (List Int)) (h0 : s.length ≤ 1073741824) : FnH Try.prog 46 [] [.lst true s.length (encL eInt s)] (fun xR H => ∃ l, H = .row 3 1 (encL eInt (s)) :: l ∧ xR = .ref false 0 (s).length) :=
  (walk_cloneR (vcp_cloneR s h0)).mono (by rintro _ _ ⟨l, _, h1, h2, rfl⟩; exact ⟨l, h1, h2⟩)
end Go.Lat
