/- The law latecomerlaw10.BeliefWider returns true for every input, and each argument reads afterwards as it read before. Part 6 of 12. No condition. -/
import Derived.Test.YtoaaemmchnfilaaLatD
import Derived.Test.YtoaaemmchnfilaaLatE
set_option linter.unusedVariables false
set_option linter.unusedSimpArgs false
set_option linter.unnecessarySimpa false
namespace Go.Lat
open Go.RowKit Go.Proofs
attribute [local irreducible] closeM rangeM pointM addBM cycleM holdsM validBM sameM madeM pickM plusM validM possM firstM tableM longerM boundsM ofM addM freeM
def vc_add (m : (Vector Int 576)) (f : Int) (t : Int) (w : Int) (Post : (Vector Int 576) → Bool → Prop) : Prop :=
  (0 ≤ t ∧ t < ((24 : Nat) : Int)) ∧ (0 ≤ f ∧ f < ((24 : Nat) : Int)) ∧ (t.toNat * 24 + f.toNat < 576) ∧ (¬ w = NB → ¬ (vat m (t.toNat * 24 + f.toNat)) = NB → inI (w + (vat m (t.toNat * 24 + f.toNat)))) ∧ (((plusM w (vat m (t.toNat * 24 + f.toNat))) < (0 : Int)) → Post m false) ∧ (¬ ((plusM w (vat m (t.toNat * 24 + f.toNat))) < (0 : Int)) → (0 ≤ f ∧ f < ((24 : Nat) : Int)) ∧ (0 ≤ t ∧ t < ((24 : Nat) : Int)) ∧ (f.toNat * 24 + t.toNat < 576) ∧ (((vat m (f.toNat * 24 + t.toNat)) ≤ w) → Post m true) ∧ (¬ ((vat m (f.toNat * 24 + t.toNat)) ≤ w) → ∃ (I1 : Int → (Vector Int 576) → Prop) (μ1 : Int → (Vector Int 576) → Nat), I1 (0 : Int) m ∧ ∀ (v34 : Int) (m0 : (Vector Int 576)), I1 v34 m0 → ((v34 < (24 : Int)) → ∃ J2 : (Vector Int 576) → Prop, (∀ (b0 : (Vector Int 576)), J2 b0 → (inI (v34 + (1 : Int))) ∧ (I1 (v34 + (1 : Int)) b0 ∧ μ1 (v34 + (1 : Int)) b0 < μ1 v34 m0)) ∧ ((0 ≤ v34 ∧ v34 < ((24 : Nat) : Int)) ∧ (0 ≤ f ∧ f < ((24 : Nat) : Int)) ∧ (v34.toNat * 24 + f.toNat < 576) ∧ ((vat m (v34.toNat * 24 + f.toNat) = (1152921504606846976 : Int)) → J2 m0) ∧ (¬ (vat m (v34.toNat * 24 + f.toNat) = (1152921504606846976 : Int)) → ∃ (I3 : Int → (Vector Int 576) → Prop) (μ3 : Int → (Vector Int 576) → Nat), I3 (0 : Int) m0 ∧ ∀ (v43 : Int) (m0_1 : (Vector Int 576)), I3 v43 m0_1 → ((v43 < (24 : Int)) → (0 ≤ v34 ∧ v34 < ((24 : Nat) : Int)) ∧ (0 ≤ v43 ∧ v43 < ((24 : Nat) : Int)) ∧ (v34.toNat * 24 + v43.toNat < 576) ∧ (0 ≤ v34 ∧ v34 < ((24 : Nat) : Int)) ∧ (0 ≤ f ∧ f < ((24 : Nat) : Int)) ∧ (v34.toNat * 24 + f.toNat < 576) ∧ (inI ((vat m (v34.toNat * 24 + f.toNat)) + w)) ∧ (0 ≤ t ∧ t < ((24 : Nat) : Int)) ∧ (0 ≤ v43 ∧ v43 < ((24 : Nat) : Int)) ∧ (t.toNat * 24 + v43.toNat < 576) ∧ (0 ≤ v34 ∧ v34 < ((24 : Nat) : Int)) ∧ (¬ ((vat m (v34.toNat * 24 + f.toNat)) + w) = NB → ¬ (vat m (t.toNat * 24 + v43.toNat)) = NB → inI (((vat m (v34.toNat * 24 + f.toNat)) + w) + (vat m (t.toNat * 24 + v43.toNat)))) ∧ (0 ≤ v43 ∧ v43 < ((24 : Nat) : Int)) ∧ (v34.toNat * 24 + v43.toNat < 576) ∧ (inI (v43 + (1 : Int))) ∧ (I3 (v43 + (1 : Int)) (vset m0_1 (v34.toNat * 24 + v43.toNat) (min (vat m0_1 (v34.toNat * 24 + v43.toNat)) (plusM ((vat m (v34.toNat * 24 + f.toNat)) + w) (vat m (t.toNat * 24 + v43.toNat))))) ∧ μ3 (v43 + (1 : Int)) (vset m0_1 (v34.toNat * 24 + v43.toNat) (min (vat m0_1 (v34.toNat * 24 + v43.toNat)) (plusM ((vat m (v34.toNat * 24 + f.toNat)) + w) (vat m (t.toNat * 24 + v43.toNat))))) < μ3 v43 m0_1)) ∧ (¬ (v43 < (24 : Int)) → J2 m0_1)))) ∧ (¬ (v34 < (24 : Int)) → Post m0 true)))
set_option maxRecDepth 100000 in
set_option maxHeartbeats 4000000 in
theorem walk_add {m : (Vector Int 576)} {f : Int} {t : Int} {w : Int} {Post : (Vector Int 576) → Bool → Prop} (hv : vc_add m f t w Post) : FnH Try.prog 44 [.box 108 (encL eInt m.toList)] [.ptr 0 0, .int .i64 f, .int .i64 t, .int .i64 w] (fun x H => ∃ l q0 q1, H = .box 108 (encL eInt q0.toList) :: l ∧ x = .bool q1 ∧ Post q0 q1) := by
 refine FnH.of_walk (T := tt) (nt := 75) ttOk ttMix ⟨⟨Try.f44, Try.func44, rfl, rfl, rfl, rfl⟩⟩ (by simp) (by simp) 1 (by simp) ?_
 unfold vc_add at hv
 change W _ _ _ ⟨75, look [(0, .ptr 0 0), (1, .int .i64 f), (2, .int .i64 t), (3, .int .i64 w)], [.box 108 (encL eInt m.toList)], 1⟩ _
 refine W.tr [(0, .ptr _ _), (1, .int _ _), (2, .int _ _), (3, .int _ _)] [.box _ _] ⟨rfl, rfl, rfl, rfl, trivial⟩ rfl ?_
 refine W.rL ?_
 refine aB rfl rfl ?_
 refine eL ?_
 refine W.tr [(0, .ptr _ _), (1, .int _ _), (2, .int _ _), (3, .int _ _)] [.box _ _] ⟨rfl, rfl, rfl, rfl, trivial⟩ rfl ?_
 refine W.seq' ?_
 refine W.rL ?_
 refine mI rfl rfl ?_
 refine cL rfl (o_move (v := .ptr _ _) rfl ?_)
 iterate 2 refine mI rfl rfl ?_
 refine cL rfl (o_nil rfl ?_)
 obtain ⟨s5, hv⟩ := hv
 refine cL rfl (o_iaA tt108 tt104 rfl rfl s5 (Nat.zero_add _) ?_)
 obtain ⟨s6, hv⟩ := hv
 refine cL rfl (o_iaA tt104 tt3 rfl rfl s6 (by rw [Nat.mul_one]) ?_)
 obtain ⟨s7, hv⟩ := hv
 refine cL rfl (o_ldS tt3 rfl rfl (ca_vec rfl s7) ?_)
 obtain ⟨s8, hv⟩ := hv
 refine cL rfl (o_callP1 (k := 66) (fst := []) (caps := []) (ys := [.int _ _, .int _ _]) rfl rfl (spec_plus w (vat m (t.toNat * 24 + f.toNat)) s8) (Wks.cons (ag_int _ _ _ _) (Wks.cons (ag_int _ _ _ _) (Wks.refl _))) ?_)
 refine cL rfl (o_lss rfl rfl ?_)
 refine eL ?_
 refine W.tr [(0, .ptr _ _), (1, .int _ _), (2, .int _ _), (3, .int _ _), (21, .bool _)] [.box _ _] ⟨rfl, rfl, rfl, rfl, rfl, trivial⟩ rfl ?_
 refine W.cn rfl (fun hc => ?_) (fun hc => ?_)
 have hv := hv.1 hc
 refine W.rL ?_
 refine aB rfl rfl ?_
 refine eL ?_
 refine W.tr [(8, .bool _)] [.box _ _] ⟨rfl, trivial⟩ rfl ?_
 refine W.ret ?_
 refine th_ret (rt ?_)
 refine rt_t (v := .bool _) rfl ?_
 refine rt_n ?_
 exact ⟨_, m, false, rfl, rfl, hv⟩
 have hv := hv.2 hc
 refine W.skip ?_
 refine th_nrm ?_
 refine W.tr [(0, .ptr _ _), (1, .int _ _), (2, .int _ _), (3, .int _ _)] [.box _ _] ⟨rfl, rfl, rfl, rfl, trivial⟩ rfl ?_
 refine W.seq' ?_
 refine W.rL ?_
 refine cL rfl (o_move (v := .ptr _ _) rfl ?_)
 iterate 2 refine mI rfl rfl ?_
 refine cL rfl (o_nil rfl ?_)
 obtain ⟨s12, hv⟩ := hv
 refine cL rfl (o_iaA tt108 tt104 rfl rfl s12 (Nat.zero_add _) ?_)
 obtain ⟨s13, hv⟩ := hv
 refine cL rfl (o_iaA tt104 tt3 rfl rfl s13 (by rw [Nat.mul_one]) ?_)
 obtain ⟨s14, hv⟩ := hv
 refine cL rfl (o_ldS tt3 rfl rfl (ca_vec rfl s14) ?_)
 refine mI rfl rfl ?_
 refine cL rfl (o_leq rfl rfl ?_)
 refine eL ?_
 refine W.tr [(0, .ptr _ _), (1, .int _ _), (2, .int _ _), (3, .int _ _), (30, .bool _)] [.box _ _] ⟨rfl, rfl, rfl, rfl, rfl, trivial⟩ rfl ?_
 refine W.cn rfl (fun hc => ?_) (fun hc => ?_)
 have hv := hv.1 hc
 refine W.rL ?_
 refine aB rfl rfl ?_
 refine eL ?_
 refine W.tr [(8, .bool _)] [.box _ _] ⟨rfl, trivial⟩ rfl ?_
 refine W.ret ?_
 refine th_ret (rt ?_)
 refine rt_t (v := .bool _) rfl ?_
 refine rt_n ?_
 exact ⟨_, m, true, rfl, rfl, hv⟩
 have hv := hv.2 hc
 refine W.skip ?_
 refine th_nrm ?_
 refine W.tr [(0, .ptr _ _), (1, .int _ _), (2, .int _ _), (3, .int _ _)] [.box _ _] ⟨rfl, rfl, rfl, rfl, trivial⟩ rfl ?_
 refine W.rL ?_
 refine cL rfl (o_move (v := .ptr _ _) rfl ?_)
 refine cL rfl (o_nil rfl ?_)
 refine cL rfl (o_ldA tt108 rfl rfl (ca_all rfl) (ints_len _) ?_)
 refine cL rfl (o_alloc (p := 1) tt108 rfl (ints_zero 576) ?_)
 refine cLn (o_stB (v := .agg _) tt108 rfl rfl rfl (ints_len _) rfl (vec_in (ints_len _) (ints_len _)) (spl_all _ _ ((ints_len _).trans (ints_len _).symm)) ?_)
 refine eL ?_
 refine W.tr [(0, .ptr _ _), (1, .int _ _), (2, .int _ _), (3, .int _ _), (9, .ptr _ _)] [.box _ _, .box _ _] ⟨rfl, rfl, rfl, rfl, rfl, trivial⟩ rfl ?_
 refine W.seq' ?_
 refine W.rL ?_
 refine mI rfl rfl ?_
 refine eL ?_
 refine W.tr [(0, .ptr _ _), (1, .int _ _), (2, .int _ _), (3, .int _ _), (9, .ptr _ _), (34, .int _ _)] [.box _ _, .box _ _] ⟨rfl, rfl, rfl, rfl, rfl, rfl, trivial⟩ rfl ?_
 refine W.block ?_
 obtain ⟨I1, μ1, hp, hv⟩ := hv
 refine W.loop2 (fun v34 m0 => ⟨75, look [(0, .ptr 0 0), (1, .int .i64 f), (2, .int .i64 t), (3, .int .i64 w), (9, .ptr 1 0), (34, .int .i64 v34)], [.box 108 (encL eInt m0.toList), .box 108 (encL eInt m.toList)], 1⟩) I1 μ1 (0 : Int) m (St.to_mk (φ := [some 0, some 1]) rfl (rfl) ⟨Ren.ptr rfl, Ren.int _ _, Ren.int _ _, Ren.int _ _, Ren.ptr rfl, Ren.int _ _, trivial⟩ ⟨.inr ⟨_, rfl, rfl, Rens.enc encInt true _⟩, .inr ⟨_, rfl, rfl, Rens.enc encInt true _⟩, trivial⟩) hp ?_
 clear hp
 intro v34 m0 hI
 replace hv := hv v34 m0 hI
 clear hI
 refine W.rL ?_
 refine cL rfl (o_lss rfl rfl ?_)
 refine eL ?_
 refine W.tr [(0, .ptr _ _), (1, .int _ _), (2, .int _ _), (3, .int _ _), (9, .ptr _ _), (34, .int _ _), (35, .bool _)] [.box _ _, .box _ _] ⟨rfl, rfl, rfl, rfl, rfl, rfl, rfl, trivial⟩ rfl ?_
 refine W.seq' ?_
 refine W.cn rfl (fun hc => ?_) (fun hc => ?_)
 have hv := hv.1 hc
 refine W.skip ?_
 refine th_nrm ?_
 refine W.tr [(0, .ptr _ _), (1, .int _ _), (2, .int _ _), (3, .int _ _), (9, .ptr _ _), (34, .int _ _)] [.box _ _, .box _ _] ⟨rfl, rfl, rfl, rfl, rfl, rfl, trivial⟩ rfl ?_
 obtain ⟨J2, hj, hv⟩ := hv
 refine W.mid1 (fun b0 => ⟨75, look [(0, .ptr 0 0), (1, .int .i64 f), (2, .int .i64 t), (3, .int .i64 w), (9, .ptr 1 0), (34, .int .i64 v34)], [.box 108 (encL eInt b0.toList), .box 108 (encL eInt m.toList)], 1⟩) J2 ?_ ?_
 intro b0
 intro hv
 replace hv := hj b0 hv
 refine W.rL1 ?_
 obtain ⟨s1043, hv⟩ := hv
 refine cL rfl (o_add rfl rfl s1043 ?_)
 refine mI rfl rfl ?_
 refine eL ?_
 exact th_nrm (⟨(), (v34 + (1 : Int)), b0, hv, St.to_mk (φ := [some 0, some 1]) rfl (rfl) ⟨Ren.ptr rfl, Ren.int _ _, Ren.int _ _, Ren.int _ _, Ren.ptr rfl, Ren.int _ _, trivial⟩ ⟨.inr ⟨_, rfl, rfl, Rens.enc encInt true _⟩, .inr ⟨_, rfl, rfl, Rens.enc encInt true _⟩, trivial⟩⟩)
 clear hj
 refine W.block ?_
 refine W.rL ?_
 refine mI rfl rfl ?_
 refine aI rfl rfl ?_
 refine eL ?_
 refine W.tr [(0, .ptr _ _), (1, .int _ _), (2, .int _ _), (3, .int _ _), (9, .ptr _ _), (10, .int _ _), (34, .int _ _)] [.box _ _, .box _ _] ⟨rfl, rfl, rfl, rfl, rfl, rfl, rfl, trivial⟩ rfl ?_
 refine W.seq' ?_
 refine W.rL ?_
 iterate 2 refine mI rfl rfl ?_
 obtain ⟨s1047, hv⟩ := hv
 refine cL rfl (o_iaA tt108 tt104 rfl rfl s1047 (Nat.zero_add _) ?_)
 obtain ⟨s1048, hv⟩ := hv
 refine cL rfl (o_iaA tt104 tt3 rfl rfl s1048 (by rw [Nat.mul_one]) ?_)
 obtain ⟨s1049, hv⟩ := hv
 refine cL rfl (o_ldS tt3 rfl rfl (ca_vec rfl s1049) ?_)
 refine cL rfl (o_eqI rfl rfl rfl ?_)
 refine eL ?_
 refine W.tr [(0, .ptr _ _), (1, .int _ _), (2, .int _ _), (3, .int _ _), (9, .ptr _ _), (10, .int _ _), (34, .int _ _), (42, .bool _)] [.box _ _, .box _ _] ⟨rfl, rfl, rfl, rfl, rfl, rfl, rfl, rfl, trivial⟩ rfl ?_
 refine W.cn rfl (fun hc => ?_) (fun hc => ?_)
 have hv := hv.1 hc
 refine W.exit ?_
 exact th_exit (bl_hit (th_nrm (⟨(), m0, hv, St.to_mk (φ := [some 0, some 1]) rfl (rfl) ⟨Ren.ptr rfl, Ren.int _ _, Ren.int _ _, Ren.int _ _, Ren.ptr rfl, Ren.int _ _, trivial⟩ ⟨.inr ⟨_, rfl, rfl, Rens.enc encInt true _⟩, .inr ⟨_, rfl, rfl, Rens.enc encInt true _⟩, trivial⟩⟩)))
 have hv := hv.2 hc
 refine W.skip ?_
 refine th_nrm ?_
 refine W.tr [(0, .ptr _ _), (1, .int _ _), (2, .int _ _), (3, .int _ _), (9, .ptr _ _), (10, .int _ _), (34, .int _ _)] [.box _ _, .box _ _] ⟨rfl, rfl, rfl, rfl, rfl, rfl, rfl, trivial⟩ rfl ?_
 refine W.rL ?_
 refine mI rfl rfl ?_
 refine eL ?_
 refine W.tr [(0, .ptr _ _), (1, .int _ _), (2, .int _ _), (3, .int _ _), (9, .ptr _ _), (10, .int _ _), (34, .int _ _), (43, .int _ _)] [.box _ _, .box _ _] ⟨rfl, rfl, rfl, rfl, rfl, rfl, rfl, rfl, trivial⟩ rfl ?_
 refine W.block ?_
 obtain ⟨I3, μ3, hp, hv⟩ := hv
 refine W.loop2 (fun v43 m0_1 => ⟨75, look [(0, .ptr 0 0), (1, .int .i64 f), (2, .int .i64 t), (3, .int .i64 w), (9, .ptr 1 0), (10, .int .i64 v34), (34, .int .i64 v34), (43, .int .i64 v43)], [.box 108 (encL eInt m0_1.toList), .box 108 (encL eInt m.toList)], 1⟩) I3 μ3 (0 : Int) m0 (St.to_mk (φ := [some 0, some 1]) rfl (rfl) ⟨Ren.ptr rfl, Ren.int _ _, Ren.int _ _, Ren.int _ _, Ren.ptr rfl, Ren.int _ _, Ren.int _ _, Ren.int _ _, trivial⟩ ⟨.inr ⟨_, rfl, rfl, Rens.enc encInt true _⟩, .inr ⟨_, rfl, rfl, Rens.enc encInt true _⟩, trivial⟩) hp ?_
 clear hp
 intro v43 m0_1 hI
 replace hv := hv v43 m0_1 hI
 clear hI
 refine W.rL ?_
 refine cL rfl (o_lss rfl rfl ?_)
 refine eL ?_
 refine W.tr [(0, .ptr _ _), (1, .int _ _), (2, .int _ _), (3, .int _ _), (9, .ptr _ _), (10, .int _ _), (34, .int _ _), (43, .int _ _), (44, .bool _)] [.box _ _, .box _ _] ⟨rfl, rfl, rfl, rfl, rfl, rfl, rfl, rfl, rfl, trivial⟩ rfl ?_
 refine W.seq' ?_
 refine W.cn rfl (fun hc => ?_) (fun hc => ?_)
 have hv := hv.1 hc
 refine W.skip ?_
 refine th_nrm ?_
 refine W.tr [(0, .ptr _ _), (1, .int _ _), (2, .int _ _), (3, .int _ _), (9, .ptr _ _), (10, .int _ _), (34, .int _ _), (43, .int _ _)] [.box _ _, .box _ _] ⟨rfl, rfl, rfl, rfl, rfl, rfl, rfl, rfl, trivial⟩ rfl ?_
 refine W.seq' ?_
 refine W.block ?_
 refine W.rL ?_
 refine mI rfl rfl ?_
 refine aI rfl rfl ?_
 refine eL ?_
 refine W.tr [(0, .ptr _ _), (1, .int _ _), (2, .int _ _), (3, .int _ _), (9, .ptr _ _), (10, .int _ _), (11, .int _ _), (34, .int _ _), (43, .int _ _)] [.box _ _, .box _ _] ⟨rfl, rfl, rfl, rfl, rfl, rfl, rfl, rfl, rfl, trivial⟩ rfl ?_
 refine W.rP1 [0, 1, 2, 3, 4, 5, 6, 7, 8, 9, 10, 11, 12, 13, 14, 15, 16, 17, 18, 19, 20, 21, 24, 25, 22, 23, 26, 27] (by decide +kernel) rfl ?_
 refine cL rfl (o_move (v := .ptr _ _) rfl ?_)
 iterate 2 refine mI rfl rfl ?_
 refine cL rfl (o_move (v := .ptr _ _) rfl ?_)
 iterate 2 refine mI rfl rfl ?_
 refine cL rfl (o_nil rfl ?_)
 obtain ⟨s1122, hv⟩ := hv
 refine cL rfl (o_iaA tt108 tt104 rfl rfl s1122 (Nat.zero_add _) ?_)
 obtain ⟨s1123, hv⟩ := hv
 refine cL rfl (o_iaA tt104 tt3 rfl rfl s1123 (by rw [Nat.mul_one]) ?_)
 obtain ⟨s1124, hv⟩ := hv
 refine cL rfl (o_ldS tt3 rfl rfl (ca_vec rfl s1124) ?_)
 iterate 2 refine mI rfl rfl ?_
 obtain ⟨s1125, hv⟩ := hv
 refine cL rfl (o_iaA tt108 tt104 rfl rfl s1125 (Nat.zero_add _) ?_)
 obtain ⟨s1126, hv⟩ := hv
 refine cL rfl (o_iaA tt104 tt3 rfl rfl s1126 (by rw [Nat.mul_one]) ?_)
 obtain ⟨s1127, hv⟩ := hv
 refine cL rfl (o_ldS tt3 rfl rfl (ca_vec rfl s1127) ?_)
 refine mI rfl rfl ?_
 obtain ⟨s1128, hv⟩ := hv
 refine cL rfl (o_add rfl rfl s1128 ?_)
 iterate 2 refine mI rfl rfl ?_
 obtain ⟨s1129, hv⟩ := hv
 refine cL rfl (o_iaA tt108 tt104 rfl rfl s1129 (Nat.zero_add _) ?_)
 obtain ⟨s1130, hv⟩ := hv
 refine cL rfl (o_iaA tt104 tt3 rfl rfl s1130 (by rw [Nat.mul_one]) ?_)
 obtain ⟨s1131, hv⟩ := hv
 refine cL rfl (o_ldS tt3 rfl rfl (ca_vec rfl s1131) ?_)
 refine cL rfl (o_nil rfl ?_)
 obtain ⟨s1132, hv⟩ := hv
 refine cL rfl (o_iaA tt108 tt104 rfl rfl s1132 (Nat.zero_add _) ?_)
 obtain ⟨s1133, hv⟩ := hv
 refine cL rfl (o_callP1 (k := 66) (fst := []) (caps := []) (ys := [.int _ _, .int _ _]) rfl rfl (spec_plus ((vat m (v34.toNat * 24 + f.toNat)) + w) (vat m (t.toNat * 24 + v43.toNat)) s1133) (Wks.cons (ag_int _ _ _ _) (Wks.cons (ag_int _ _ _ _) (Wks.refl _))) ?_)
 refine cL rfl (o_min rfl rfl ?_)
 obtain ⟨s1134, hv⟩ := hv
 refine cL rfl (o_iaA tt104 tt3 rfl rfl s1134 (by rw [Nat.mul_one]) ?_)
 obtain ⟨s1135, hv⟩ := hv
 refine cLn (o_stB (v := .int _ _) tt3 rfl rfl rfl rfl rfl (by rw [ints_len]; exact s1135) (ints_set _ _ _) ?_)
 refine eL ?_
 refine bl_nrm (th_nrm ?_)
 refine W.tr [(0, .ptr _ _), (1, .int _ _), (2, .int _ _), (3, .int _ _), (9, .ptr _ _), (10, .int _ _), (34, .int _ _), (43, .int _ _)] [.box _ _, .box _ _] ⟨rfl, rfl, rfl, rfl, rfl, rfl, rfl, rfl, trivial⟩ rfl ?_
 refine W.rL1 ?_
 obtain ⟨s1136, hv⟩ := hv
 refine cL rfl (o_add rfl rfl s1136 ?_)
 refine mI rfl rfl ?_
 refine eL ?_
 exact th_nrm (⟨(), (v43 + (1 : Int)), (vset m0_1 (v34.toNat * 24 + v43.toNat) (min (vat m0_1 (v34.toNat * 24 + v43.toNat)) (plusM ((vat m (v34.toNat * 24 + f.toNat)) + w) (vat m (t.toNat * 24 + v43.toNat))))), hv, St.to_mk (φ := [some 0, some 1]) rfl (rfl) ⟨Ren.ptr rfl, Ren.int _ _, Ren.int _ _, Ren.int _ _, Ren.ptr rfl, Ren.int _ _, Ren.int _ _, Ren.int _ _, trivial⟩ ⟨.inr ⟨_, rfl, rfl, Rens.enc encInt true _⟩, .inr ⟨_, rfl, rfl, Rens.enc encInt true _⟩, trivial⟩⟩)
 have hv := hv.2 hc
 refine W.exit ?_
 exact th_exit (th_exit (bl_hit (bl_nrm (th_nrm (⟨(), m0_1, hv, St.to_mk (φ := [some 0, some 1]) rfl (rfl) ⟨Ren.ptr rfl, Ren.int _ _, Ren.int _ _, Ren.int _ _, Ren.ptr rfl, Ren.int _ _, trivial⟩ ⟨.inr ⟨_, rfl, rfl, Rens.enc encInt true _⟩, .inr ⟨_, rfl, rfl, Rens.enc encInt true _⟩, trivial⟩⟩)))))
 have hv := hv.2 hc
 refine W.exit ?_
 refine th_exit (th_exit (bl_hit (th_nrm ?_)))
 refine W.tr [] [.box _ _, .box _ _] trivial rfl ?_
 refine W.rL ?_
 refine aB rfl rfl ?_
 refine eL ?_
 refine W.tr [(8, .bool _)] [.box _ _, .box _ _] ⟨rfl, trivial⟩ rfl ?_
 refine W.ret ?_
 refine rt ?_
 refine rt_t (v := .bool _) rfl ?_
 refine rt_n ?_
 exact ⟨_, m0, true, rfl, rfl, hv⟩
theorem vcp_add (m : (Vector Int 576)) (f : Int) (t : Int) (w : Int) (h0 : AddOk m f t w) : vc_add m f t w (fun q0 q1 => q0 = (addM m f t w).2 ∧ q1 = (addM m f t w).1) := by
  unfold vc_add
  obtain ⟨hf, ht, hw, hm⟩ := h0
  obtain ⟨f, rfl⟩ : ∃ k : Nat, f = k := ⟨f.toNat, by omega⟩
  obtain ⟨t, rfl⟩ : ∃ k : Nat, t = k := ⟨t.toNat, by omega⟩
  simp only [Int.toNat_natCast]
  refine ⟨by omega, by omega, by omega, fun _ _ => by have := hm (t * 24 + f); unfold inI; omega, fun h1 => ?_, fun h1 => ⟨by omega, by omega, by omega, fun h2 => ?_, fun h2 => ?_⟩⟩
  · rw [addM_neg h1]; exact ⟨rfl, rfl⟩
  · rw [addM_le h1 h2]; exact ⟨rfl, rfl⟩
  have ha : addM m f t w = (true, relaxM m f t w) := addM_relax h1 h2
  rw [ha]
  refine ⟨fun v b => ∃ i : Nat, v = i ∧ i ≤ 24 ∧ ∀ k, k < 576 → vat b k = if k / 24 < i then vat (relaxM m f t w) k else vat m k, fun v _ => 24 - v.toNat, ⟨0, rfl, by omega, fun k hk => by simp⟩, ?_⟩
  rintro _ m0 ⟨i, rfl, hi, h3⟩
  refine ⟨fun h4 => ⟨fun b => ∀ k, k < 576 → vat b k = if k / 24 < i + 1 then vat (relaxM m f t w) k else vat m k, fun b hb => ⟨by unfold inI; omega, ⟨i + 1, by omega, by omega, hb⟩, by dsimp only; omega⟩, by omega, by omega, by simp only [Int.toNat_natCast]; omega, fun h5 => ?_, fun h5 => ?_⟩, fun h4 => ⟨vec_ext fun k hk => ?_, rfl⟩⟩
  · intro k hk
    rw [h3 k hk]
    by_cases e : k / 24 = i
    · rw [if_neg (by omega), if_pos (by omega), vat_relax hk, e, if_pos (by simpa using h5)]
    · split <;> split <;> omega
  · simp only [Int.toNat_natCast] at h5 ⊢
    refine ⟨fun v b => ∃ j : Nat, v = j ∧ j ≤ 24 ∧ ∀ k, k < 576 → vat b k = if k / 24 < i ∨ k / 24 = i ∧ k % 24 < j then vat (relaxM m f t w) k else vat m k, fun v _ => 24 - v.toNat, ⟨0, rfl, by omega, fun k hk => ?_⟩, ?_⟩
    · rw [h3 k hk]; split <;> split <;> omega
    rintro _ m1 ⟨j, rfl, hj, h6⟩
    simp only [Int.toNat_natCast]
    have m1' := hm (i * 24 + f)
    have m2' := hm (t * 24 + j)
    refine ⟨fun h7 => ⟨by omega, by omega, by omega, by omega, by omega, by omega, by unfold inI; omega, by omega, by omega, by omega, by omega, fun _ _ => by unfold inI; omega, by omega, by omega, by unfold inI; omega, ⟨j + 1, by omega, by omega, ?_⟩, by omega⟩, fun h7 => ?_⟩
    · intro k hk
      rw [vat_vset (by omega)]
      by_cases e : k = i * 24 + j
      · subst e
        have e1 : (i * 24 + j) / 24 = i := by omega
        have e2 : (i * 24 + j) % 24 = j := by omega
        rw [if_pos rfl, h6 _ hk, vat_relax hk, e1, e2, if_neg (by omega), if_pos (by omega), if_neg h5]
      · rw [if_neg e, h6 k hk]
        split <;> split <;> omega
    · intro k hk
      rw [h6 k hk]
      split <;> split <;> omega
  · rw [h3 k hk, if_pos (by omega)]
theorem spec_add (m : (Vector Int 576)) (f : Int) (t : Int) (w : Int) (h0 : AddOk m f t w) : FnH Try.prog 44 [.box 108 (encL eInt m.toList)] [.ptr 0 0, .int .i64 f, .int .i64 t, .int .i64 w] (fun xR H => ∃ l, H = .box 108 (encL eInt ((addM m f t w).2).toList) :: l ∧ xR = .bool (addM m f t w).1) :=
  (walk_add (vcp_add m f t w h0)).mono (by rintro _ _ ⟨l, _, _, h1, h2, rfl, rfl⟩; exact ⟨l, h1, h2⟩)
def vc_longer (w : Wlk) (d : (Vector Int 24)) (above : Int) (Post : (Vector Int 24) → Prop) : Prop :=
  ∃ (I1 : Int → (Vector Int 24) → Prop) (μ1 : Int → (Vector Int 24) → Nat), I1 (0 : Int) (Vector.replicate 24 0) ∧ ∀ (v11 : Int) (m3 : (Vector Int 24)), I1 v11 m3 → ((v11 < (24 : Int)) → (0 ≤ v11 ∧ v11 < ((24 : Nat) : Int)) ∧ (v11.toNat < 24) ∧ (inI (v11 + (1 : Int))) ∧ (I1 (v11 + (1 : Int)) (vset m3 v11.toNat (1152921504606846976 : Int)) ∧ μ1 (v11 + (1 : Int)) (vset m3 v11.toNat (1152921504606846976 : Int)) < μ1 v11 m3)) ∧ (¬ (v11 < (24 : Int)) → (inI (above + (1 : Int))) ∧ (0 ≤ (above + (1 : Int)) ∧ (above + (1 : Int)) ≤ (w.l.length : Int) ∧ (w.l.length : Int) ≤ (w.l.length : Int)) ∧ ∃ (I2 : Int → (Vector Int 24) → Prop) (μ2 : Int → (Vector Int 24) → Nat), I2 (0 : Int) m3 ∧ ∀ (v23 : Int) (m3_1 : (Vector Int 24)), I2 v23 m3_1 → ((v23 < (((w.l.drop (above + (1 : Int)).toNat).length : Nat) : Int)) → (0 ≤ v23 ∧ v23 < ((w.l.drop (above + (1 : Int)).toNat).length : Int)) ∧ (0 ≤ ((lat (w.l.drop (above + (1 : Int)).toNat) v23).f) ∧ ((lat (w.l.drop (above + (1 : Int)).toNat) v23).f) < ((24 : Nat) : Int)) ∧ (((lat (w.l.drop (above + (1 : Int)).toNat) v23).f).toNat < 24) ∧ (0 ≤ ((lat (w.l.drop (above + (1 : Int)).toNat) v23).t) ∧ ((lat (w.l.drop (above + (1 : Int)).toNat) v23).t) < ((24 : Nat) : Int)) ∧ (((lat (w.l.drop (above + (1 : Int)).toNat) v23).t).toNat < 24) ∧ (¬ ((lat (w.l.drop (above + (1 : Int)).toNat) v23).m) = NB → ¬ (vat d (((lat (w.l.drop (above + (1 : Int)).toNat) v23).t).toNat)) = NB → inI (((lat (w.l.drop (above + (1 : Int)).toNat) v23).m) + (vat d (((lat (w.l.drop (above + (1 : Int)).toNat) v23).t).toNat)))) ∧ (0 ≤ ((lat (w.l.drop (above + (1 : Int)).toNat) v23).f) ∧ ((lat (w.l.drop (above + (1 : Int)).toNat) v23).f) < ((24 : Nat) : Int)) ∧ (((lat (w.l.drop (above + (1 : Int)).toNat) v23).f).toNat < 24) ∧ (inI (v23 + (1 : Int))) ∧ (I2 (v23 + (1 : Int)) (vset m3_1 (((lat (w.l.drop (above + (1 : Int)).toNat) v23).f).toNat) (min (vat m3_1 (((lat (w.l.drop (above + (1 : Int)).toNat) v23).f).toNat)) (plusM ((lat (w.l.drop (above + (1 : Int)).toNat) v23).m) (vat d (((lat (w.l.drop (above + (1 : Int)).toNat) v23).t).toNat))))) ∧ μ2 (v23 + (1 : Int)) (vset m3_1 (((lat (w.l.drop (above + (1 : Int)).toNat) v23).f).toNat) (min (vat m3_1 (((lat (w.l.drop (above + (1 : Int)).toNat) v23).f).toNat)) (plusM ((lat (w.l.drop (above + (1 : Int)).toNat) v23).m) (vat d (((lat (w.l.drop (above + (1 : Int)).toNat) v23).t).toNat))))) < μ2 v23 m3_1)) ∧ (¬ (v23 < (((w.l.drop (above + (1 : Int)).toNat).length : Nat) : Int)) → Post m3_1))
set_option maxRecDepth 100000 in
set_option maxHeartbeats 4000000 in
theorem walk_longer {w : Wlk} {d : (Vector Int 24)} {above : Int} {Post : (Vector Int 24) → Prop} (hv : vc_longer w d above Post) : FnP Try.prog 80 [.agg ((e88 true) w), .agg (eV24 d), .int .i64 above] (fun x => ∃ q0, x = .agg (eV24 q0) ∧ Post q0) := by
 refine FnP.of_walk (T := tt) (nt := 44) ttOk ttMix ⟨⟨Try.f80, Try.func80, rfl, rfl, rfl, rfl⟩⟩ (by simp) ?_
 unfold vc_longer at hv
 change W _ _ _ ⟨44, look [(0, .agg [.int .i64 w.n, .lst true w.l.length (encL e66 w.l)]), (1, .agg (encL eInt d.toList)), (2, .int .i64 above)], [], 0⟩ _
 refine W.tr [(0, .agg _), (1, .agg _), (2, .int _ _)] [] ⟨rfl, rfl, rfl, trivial⟩ rfl ?_
 refine W.rL ?_
 refine cL rfl (o_box (v := .agg _) (p := 0) rfl rfl rfl ?_)
 refine cL rfl (o_box (v := .agg _) (p := 1) rfl rfl rfl ?_)
 refine cL rfl (o_alloc (p := 2) tt104 rfl (ints_zero 24) ?_)
 refine eL ?_
 refine W.tr [(2, .int _ _), (3, .ptr _ _), (4, .ptr _ _), (6, .ptr _ _)] [.box _ [.int _ _, .lst _ _ _], .box _ _, .box _ _] ⟨rfl, rfl, rfl, rfl, trivial⟩ rfl ?_
 refine W.rL ?_
 refine cL rfl (o_alloc (p := 3) tt104 rfl (ints_zero 24) ?_)
 refine eL ?_
 refine W.tr [(2, .int _ _), (3, .ptr _ _), (4, .ptr _ _), (6, .ptr _ _), (7, .ptr _ _)] [.box _ [.int _ _, .lst _ _ _], .box _ _, .box _ _, .box _ _] ⟨rfl, rfl, rfl, rfl, rfl, trivial⟩ rfl ?_
 refine W.seq' ?_
 refine W.rL ?_
 refine mI rfl rfl ?_
 refine eL ?_
 refine W.tr [(2, .int _ _), (3, .ptr _ _), (4, .ptr _ _), (6, .ptr _ _), (7, .ptr _ _), (11, .int _ _)] [.box _ [.int _ _, .lst _ _ _], .box _ _, .box _ _, .box _ _] ⟨rfl, rfl, rfl, rfl, rfl, rfl, trivial⟩ rfl ?_
 refine W.block ?_
 obtain ⟨I1, μ1, hp, hv⟩ := hv
 refine W.loop2 (fun v11 m3 => ⟨44, look [(2, .int .i64 above), (3, .ptr 0 0), (4, .ptr 1 0), (6, .ptr 2 0), (7, .ptr 3 0), (11, .int .i64 v11)], [.box 88 [.int .i64 w.n, .lst true w.l.length (encL e66 w.l)], .box 104 (encL eInt d.toList), .box 104 (encL eInt (Vector.replicate 24 0).toList), .box 104 (encL eInt m3.toList)], 0⟩) I1 μ1 (0 : Int) (Vector.replicate 24 0) (St.to_mk (φ := [some 0, some 1, some 2, some 3]) rfl (rfl) ⟨Ren.int _ _, Ren.ptr rfl, Ren.ptr rfl, Ren.ptr rfl, Ren.ptr rfl, Ren.int _ _, trivial⟩ ⟨.inr ⟨_, rfl, rfl, Rens.cons (Ren.int _ _) (Rens.cons (Ren.lst _ _ _) (Rens.nil))⟩, .inr ⟨_, rfl, rfl, Rens.enc encInt true _⟩, .inr ⟨_, rfl, rfl, Rens.enc encInt true _⟩, .inr ⟨_, rfl, rfl, Rens.enc encInt true _⟩, trivial⟩) hp ?_
 clear hp
 intro v11 m3 hI
 replace hv := hv v11 m3 hI
 clear hI
 refine W.rL ?_
 refine cL rfl (o_lss rfl rfl ?_)
 refine eL ?_
 refine W.tr [(2, .int _ _), (3, .ptr _ _), (4, .ptr _ _), (6, .ptr _ _), (7, .ptr _ _), (11, .int _ _), (12, .bool _)] [.box _ [.int _ _, .lst _ _ _], .box _ _, .box _ _, .box _ _] ⟨rfl, rfl, rfl, rfl, rfl, rfl, rfl, trivial⟩ rfl ?_
 refine W.seq' ?_
 refine W.cn rfl (fun hc => ?_) (fun hc => ?_)
 have hv := hv.1 hc
 refine W.skip ?_
 refine th_nrm ?_
 refine W.tr [(2, .int _ _), (3, .ptr _ _), (4, .ptr _ _), (6, .ptr _ _), (7, .ptr _ _), (11, .int _ _)] [.box _ [.int _ _, .lst _ _ _], .box _ _, .box _ _, .box _ _] ⟨rfl, rfl, rfl, rfl, rfl, rfl, trivial⟩ rfl ?_
 refine W.seq' ?_
 refine W.block ?_
 refine W.rL ?_
 refine mI rfl rfl ?_
 refine aI rfl rfl ?_
 refine eL ?_
 refine W.tr [(2, .int _ _), (3, .ptr _ _), (4, .ptr _ _), (6, .ptr _ _), (7, .ptr _ _), (8, .int _ _), (11, .int _ _)] [.box _ [.int _ _, .lst _ _ _], .box _ _, .box _ _, .box _ _] ⟨rfl, rfl, rfl, rfl, rfl, rfl, rfl, trivial⟩ rfl ?_
 refine W.rL1 ?_
 refine mI rfl rfl ?_
 obtain ⟨s28, hv⟩ := hv
 refine cL rfl (o_iaA tt104 tt3 rfl rfl s28 (by rw [Nat.mul_one, Nat.zero_add]) ?_)
 obtain ⟨s29, hv⟩ := hv
 refine cLn (o_stB (v := .int _ _) tt3 rfl rfl rfl rfl rfl (by rw [ints_len]; exact s29) (ints_set _ _ _) ?_)
 refine eL ?_
 refine bl_nrm (th_nrm ?_)
 refine W.tr [(2, .int _ _), (3, .ptr _ _), (4, .ptr _ _), (6, .ptr _ _), (7, .ptr _ _), (11, .int _ _)] [.box _ [.int _ _, .lst _ _ _], .box _ _, .box _ _, .box _ _] ⟨rfl, rfl, rfl, rfl, rfl, rfl, trivial⟩ rfl ?_
 refine W.rL1 ?_
 obtain ⟨s30, hv⟩ := hv
 refine cL rfl (o_add rfl rfl s30 ?_)
 refine mI rfl rfl ?_
 refine eL ?_
 exact th_nrm (⟨(), (v11 + (1 : Int)), (vset m3 v11.toNat (1152921504606846976 : Int)), hv, St.to_mk (φ := [some 0, some 1, some 2, some 3]) rfl (rfl) ⟨Ren.int _ _, Ren.ptr rfl, Ren.ptr rfl, Ren.ptr rfl, Ren.ptr rfl, Ren.int _ _, trivial⟩ ⟨.inr ⟨_, rfl, rfl, Rens.cons (Ren.int _ _) (Rens.cons (Ren.lst _ _ _) (Rens.nil))⟩, .inr ⟨_, rfl, rfl, Rens.enc encInt true _⟩, .inr ⟨_, rfl, rfl, Rens.enc encInt true _⟩, .inr ⟨_, rfl, rfl, Rens.enc encInt true _⟩, trivial⟩⟩)
 have hv := hv.2 hc
 refine W.exit ?_
 refine th_exit (th_exit (bl_hit (th_nrm ?_)))
 refine W.tr [(2, .int _ _), (3, .ptr _ _), (4, .ptr _ _), (6, .ptr _ _), (7, .ptr _ _)] [.box _ [.int _ _, .lst _ _ _], .box _ _, .box _ _, .box _ _] ⟨rfl, rfl, rfl, rfl, rfl, trivial⟩ rfl ?_
 refine W.seq' ?_
 refine W.rL ?_
 refine cL rfl (o_fa tt88 rfl tt28 rfl ?_)
 refine cL rfl (o_ldS (v := .lst _ _ _) tt28 rfl rfl ⟨_, rfl⟩ ?_)
 refine mI rfl rfl ?_
 obtain ⟨s84, hv⟩ := hv
 refine cL rfl (o_add rfl rfl s84 ?_)
 obtain ⟨s85, hv⟩ := hv
 refine cL rfl (o_slL tt28 tt66 rfl (enc66.wd true) rfl rfl rfl s85 (ys := w.l.drop (above + (1 : Int)).toNat) (sl_end _ _) ?_)
 refine cL rfl (o_len (v := .lst _ _ _) tt28 rfl rfl ?_)
 refine mI rfl rfl ?_
 refine eL ?_
 refine W.tr [(4, .ptr _ _), (6, .ptr _ _), (7, .ptr _ _), (21, .lst _ _ _), (22, .int _ _), (23, .int _ _)] [.box _ [.int _ _, .lst _ _ _], .box _ _, .box _ _, .box _ _] ⟨rfl, rfl, rfl, rfl, rfl, rfl, trivial⟩ rfl ?_
 refine W.block ?_
 obtain ⟨I2, μ2, hp, hv⟩ := hv
 refine W.loop2 (fun v23 m3_1 => ⟨44, look [(4, .ptr 1 0), (6, .ptr 2 0), (7, .ptr 3 0), (21, .lst true (w.l.drop (above + (1 : Int)).toNat).length (encL e66 (w.l.drop (above + (1 : Int)).toNat))), (22, .int .i64 (((w.l.drop (above + (1 : Int)).toNat).length : Nat) : Int)), (23, .int .i64 v23)], [.dead, .box 104 (encL eInt d.toList), .box 104 (encL eInt (Vector.replicate 24 0).toList), .box 104 (encL eInt m3_1.toList)], 0⟩) I2 μ2 (0 : Int) m3 (St.to_mk (φ := [none, some 1, some 2, some 3]) rfl (rfl) ⟨Ren.ptr rfl, Ren.ptr rfl, Ren.ptr rfl, Ren.lst _ _ _, Ren.int _ _, Ren.int _ _, trivial⟩ ⟨rfl, .inr ⟨_, rfl, rfl, Rens.enc encInt true _⟩, .inr ⟨_, rfl, rfl, Rens.enc encInt true _⟩, .inr ⟨_, rfl, rfl, Rens.enc encInt true _⟩, trivial⟩) hp ?_
 clear hp
 intro v23 m3_1 hI
 replace hv := hv v23 m3_1 hI
 clear hI
 refine W.rL ?_
 refine cL rfl (o_lss rfl rfl ?_)
 refine eL ?_
 refine W.tr [(4, .ptr _ _), (6, .ptr _ _), (7, .ptr _ _), (21, .lst _ _ _), (22, .int _ _), (23, .int _ _), (24, .bool _)] [.dead, .box _ _, .box _ _, .box _ _] ⟨rfl, rfl, rfl, rfl, rfl, rfl, rfl, trivial⟩ rfl ?_
 refine W.seq' ?_
 refine W.cn rfl (fun hc => ?_) (fun hc => ?_)
 have hv := hv.1 hc
 refine W.skip ?_
 refine th_nrm ?_
 refine W.tr [(4, .ptr _ _), (6, .ptr _ _), (7, .ptr _ _), (21, .lst _ _ _), (22, .int _ _), (23, .int _ _)] [.dead, .box _ _, .box _ _, .box _ _] ⟨rfl, rfl, rfl, rfl, rfl, rfl, trivial⟩ rfl ?_
 refine W.seq' ?_
 refine W.block ?_
 refine W.rL ?_
 obtain ⟨s128, hv⟩ := hv
 refine cL rfl (o_iaL tt28 tt66 rfl rfl (enc66.wd true) rfl s128 ?_)
 intro rest128
 refine cL rfl (o_ldA (cs := [.int _ _, .int _ _, .int _ _, .int _ _]) tt66 rfl rfl ⟨_, rfl⟩ rfl ?_)
 refine cL rfl (o_alloc (p := 4) tt66 rfl rfl ?_)
 refine cLn (o_stB (v := .agg _) (vs := [.int _ _, .int _ _, .int _ _, .int _ _]) (cs2 := [.int _ _, .int _ _, .int _ _, .int _ _]) tt66 rfl rfl rfl rfl rfl (Nat.le_of_ble_eq_true rfl) rfl ?_)
 refine eL ?_
 refine W.tr [(4, .ptr _ _), (6, .ptr _ _), (7, .ptr _ _), (10, .ptr _ _), (21, .lst _ _ _), (22, .int _ _), (23, .int _ _)] [.dead, .box _ _, .box _ _, .box _ _, .box _ [.int _ _, .int _ _, .int _ _, .int _ _]] ⟨rfl, rfl, rfl, rfl, rfl, rfl, rfl, trivial⟩ rfl ?_
 refine W.rD1 [0, 1, 2, 3, 4, 5, 6, 7, 8, 9, 10, 11, 12, 13, 14, 15] (by decide +kernel) rfl ?_
 refine cL rfl (o_fa tt66 rfl tt3 rfl ?_)
 refine cL rfl (o_ldS (v := .int _ _) tt3 rfl rfl ⟨_, rfl⟩ ?_)
 refine cL rfl (o_fa tt66 rfl tt3 rfl ?_)
 refine cL rfl (o_ldS (v := .int _ _) tt3 rfl rfl ⟨_, rfl⟩ ?_)
 obtain ⟨s129, hv⟩ := hv
 refine cL rfl (o_iaA tt104 tt3 rfl rfl s129 (by rw [Nat.mul_one, Nat.zero_add]) ?_)
 obtain ⟨s130, hv⟩ := hv
 refine cL rfl (o_ldS tt3 rfl rfl (ca_vec rfl s130) ?_)
 refine cL rfl (o_fa tt66 rfl tt3 rfl ?_)
 refine cL rfl (o_ldS (v := .int _ _) tt3 rfl rfl ⟨_, rfl⟩ ?_)
 refine cL rfl (o_fa tt66 rfl tt3 rfl ?_)
 refine cL rfl (o_ldS (v := .int _ _) tt3 rfl rfl ⟨_, rfl⟩ ?_)
 obtain ⟨s131, hv⟩ := hv
 refine cL rfl (o_iaA tt104 tt3 rfl rfl s131 (by rw [Nat.mul_one, Nat.zero_add]) ?_)
 obtain ⟨s132, hv⟩ := hv
 refine cL rfl (o_ldS tt3 rfl rfl (ca_vec rfl s132) ?_)
 obtain ⟨s133, hv⟩ := hv
 refine cL rfl (o_callP1 (k := 66) (fst := []) (caps := []) (ys := [.int _ _, .int _ _]) rfl rfl (spec_plus ((lat (w.l.drop (above + (1 : Int)).toNat) v23).m) (vat d (((lat (w.l.drop (above + (1 : Int)).toNat) v23).t).toNat)) s133) (Wks.cons (ag_int _ _ _ _) (Wks.cons (ag_int _ _ _ _) (Wks.refl _))) ?_)
 refine cL rfl (o_min rfl rfl ?_)
 obtain ⟨s134, hv⟩ := hv
 refine cL rfl (o_iaA tt104 tt3 rfl rfl s134 (by rw [Nat.mul_one, Nat.zero_add]) ?_)
 obtain ⟨s135, hv⟩ := hv
 refine cLn (o_stB (v := .int _ _) tt3 rfl rfl rfl rfl rfl (by rw [ints_len]; exact s135) (ints_set _ _ _) ?_)
 refine eL ?_
 refine bl_nrm (th_nrm ?_)
 refine W.tr [(4, .ptr _ _), (6, .ptr _ _), (7, .ptr _ _), (21, .lst _ _ _), (22, .int _ _), (23, .int _ _)] [.dead, .box _ _, .box _ _, .box _ _, .box _ [.int _ _, .int _ _, .int _ _, .int _ _]] ⟨rfl, rfl, rfl, rfl, rfl, rfl, trivial⟩ rfl ?_
 refine W.rL1 ?_
 obtain ⟨s136, hv⟩ := hv
 refine cL rfl (o_add rfl rfl s136 ?_)
 refine mI rfl rfl ?_
 refine eL ?_
 exact th_nrm (⟨(), (v23 + (1 : Int)), (vset m3_1 (((lat (w.l.drop (above + (1 : Int)).toNat) v23).f).toNat) (min (vat m3_1 (((lat (w.l.drop (above + (1 : Int)).toNat) v23).f).toNat)) (plusM ((lat (w.l.drop (above + (1 : Int)).toNat) v23).m) (vat d (((lat (w.l.drop (above + (1 : Int)).toNat) v23).t).toNat))))), hv, St.to_mk (φ := [none, some 1, some 2, some 3]) rfl (rfl) ⟨Ren.ptr rfl, Ren.ptr rfl, Ren.ptr rfl, Ren.lst _ _ _, Ren.int _ _, Ren.int _ _, trivial⟩ ⟨rfl, .inr ⟨_, rfl, rfl, Rens.enc encInt true _⟩, .inr ⟨_, rfl, rfl, Rens.enc encInt true _⟩, .inr ⟨_, rfl, rfl, Rens.enc encInt true _⟩, trivial⟩⟩)
 have hv := hv.2 hc
 refine W.exit ?_
 refine th_exit (th_exit (bl_hit (th_nrm ?_)))
 refine W.tr [(6, .ptr _ _), (7, .ptr _ _)] [.dead, .box _ _, .box _ _, .box _ _] ⟨rfl, rfl, trivial⟩ rfl ?_
 refine W.rL ?_
 refine cL rfl (o_ldA tt104 rfl rfl (ca_all rfl) (ints_len _) ?_)
 refine cLn (o_stB (v := .agg _) tt104 rfl rfl rfl (ints_len _) rfl (vec_in (ints_len _) (ints_len _)) (spl_all _ _ ((ints_len _).trans (ints_len _).symm)) ?_)
 refine eL ?_
 refine W.tr [(6, .ptr _ _)] [.dead, .box _ _, .box _ _, .box _ _] ⟨rfl, trivial⟩ rfl ?_
 refine W.ret ?_
 refine rt ?_
 refine rt_c (x := .ptr _ _) rfl (ldA tt104 rfl (ca_all rfl) (ints_len _) ?_)
 refine rt_n ?_
 exact ⟨_, rs_agg 5 _ (rs_vec 4 _ _), m3_1, rfl, hv⟩
theorem vcp_longer (w : Wlk) (d : (Vector Int 24)) (above : Int) (h0 : LongOk w.l d above) : vc_longer w d above (fun q0 => q0 = (longerM w.l d above)) := by
  unfold vc_longer
  have hnb := hNB
  obtain ⟨ha, hlen, hl, hd⟩ := h0
  refine ⟨fun v m => ∃ i : Nat, v = i ∧ i ≤ 24 ∧ ∀ k, k < 24 → vat m k = if k < i then NB else 0, fun v _ => 24 - v.toNat, ⟨0, rfl, by omega, fun k hk => by rw [vat_rep hk]; simp⟩, ?_⟩
  rintro _ m0 ⟨i, rfl, hi, hm⟩
  refine ⟨fun h1 => ⟨by omega, by omega, by unfold inI; omega, ⟨i + 1, by omega, by omega, fun k hk => ?_⟩, by dsimp only; omega⟩, fun h1 => ⟨by unfold inI; omega, by omega, ?_⟩⟩
  · rw [vat_vset (by omega), hm k hk]
    split <;> split <;> (try split) <;> omega
  have hm0 : m0 = Vector.replicate 24 NB := rep_ext fun k hk => by rw [hm k hk, if_pos (by omega)]
  subst hm0
  have hel : ∀ j : Nat, j < (w.l.drop (above + 1).toNat).length → lat (w.l.drop (above + 1).toNat) (j : Int) ∈ w.l := fun j hj => List.mem_of_mem_drop (lat_mem ⟨by omega, by omega⟩)
  have hl2 : (w.l.drop (above + 1).toNat).length ≤ 2000 := by rw [List.length_drop]; omega
  refine ⟨fun v m => ∃ i : Nat, v = i ∧ i ≤ (w.l.drop (above + 1).toNat).length ∧ m = ((w.l.drop (above + 1).toNat).take i).foldl (relStep d) (Vector.replicate 24 NB), fun v _ => (w.l.drop (above + 1).toNat).length - v.toNat, ⟨0, rfl, by omega, rfl⟩, ?_⟩
  rintro _ m1 ⟨i, rfl, hi, hm⟩
  refine ⟨fun h2 => ?_, fun h2 => ?_⟩
  · have hlt : i < (w.l.drop (above + 1).toNat).length := by omega
    obtain ⟨c1, c2, c3, c4⟩ := hl _ (hel i hlt)
    have hdd := hd (lat (w.l.drop (above + 1).toNat) (i : Int)).t.toNat
    refine ⟨by omega, by omega, by omega, by omega, by omega, fun _ _ => by unfold inI; omega, by omega, by omega, by unfold inI; omega, ⟨i + 1, by omega, by omega, ?_⟩, by dsimp only; omega⟩
    rw [List.take_add_one, List.foldl_append, ← hm, List.getElem?_eq_getElem hlt, lat_get hlt]
    rfl
  · have : i = (w.l.drop (above + 1).toNat).length := by omega
    subst this
    rw [List.take_length] at hm
    show m1 = longerM w.l d above
    rw [longerM_eq]; exact hm
theorem spec_longer (w : Wlk) (d : (Vector Int 24)) (above : Int) (h0 : LongOk w.l d above) : FnP Try.prog 80 [.agg ((e88 true) w), .agg (eV24 d), .int .i64 above] (fun xR => xR = .agg (eV24 (longerM w.l d above))) :=
  (walk_longer (vcp_longer w d above h0)).mono (by rintro _ ⟨_, rfl, rfl⟩; rfl)
def vc_table (w : Wlk) (to : Int) (above : Int) (many : Int) (Post : (List (Vector Int 24)) → Prop) : Prop :=
  ∃ (I1 : Int → (Vector Int 24) → Prop) (μ1 : Int → (Vector Int 24) → Nat), I1 (0 : Int) (Vector.replicate 24 0) ∧ ∀ (v15 : Int) (m1 : (Vector Int 24)), I1 v15 m1 → ((v15 < (24 : Int)) → (0 ≤ v15 ∧ v15 < ((24 : Nat) : Int)) ∧ (v15.toNat < 24) ∧ (inI (v15 + (1 : Int))) ∧ (I1 (v15 + (1 : Int)) (vset m1 v15.toNat (1152921504606846976 : Int)) ∧ μ1 (v15 + (1 : Int)) (vset m1 v15.toNat (1152921504606846976 : Int)) < μ1 v15 m1)) ∧ (¬ (v15 < (24 : Int)) → (0 ≤ to ∧ to < ((24 : Nat) : Int)) ∧ (to.toNat < 24) ∧ ∃ (I2 : Int → (Vector Int 24) → List (Vector Int 24) → Prop) (μ2 : Int → (Vector Int 24) → List (Vector Int 24) → Nat), I2 (0 : Int) (vset m1 to.toNat (0 : Int)) [vset m1 to.toNat (0 : Int)] ∧ ∀ (v26 : Int) (m1_1 : (Vector Int 24)) (r2 : List (Vector Int 24)), I2 v26 m1_1 r2 → ((v26 < many) → (LongOk w.l m1_1 above) ∧ ((r2 ++ [longerM w.l m1_1 above]).length ≤ 1073741824) ∧ (inI (v26 + (1 : Int))) ∧ (I2 (v26 + (1 : Int)) (longerM w.l m1_1 above) (r2 ++ [longerM w.l m1_1 above]) ∧ μ2 (v26 + (1 : Int)) (longerM w.l m1_1 above) (r2 ++ [longerM w.l m1_1 above]) < μ2 v26 m1_1 r2)) ∧ (¬ (v26 < many) → Post r2))
set_option maxRecDepth 100000 in
set_option maxHeartbeats 4000000 in
theorem walk_table {w : Wlk} {to : Int} {above : Int} {many : Int} {Post : (List (Vector Int 24)) → Prop} (hv : vc_table w to above many Post) : FnP Try.prog 67 [.agg ((e88 true) w), .int .i64 to, .int .i64 above, .int .i64 many] (fun x => ∃ q0, x = .lst false q0.length (encL eV24 q0) ∧ Post q0) := by
 refine FnP.of_walk (T := tt) (nt := 38) ttOk ttMix ⟨⟨Try.f67, Try.func67, rfl, rfl, rfl, rfl⟩⟩ (by simp) ?_
 unfold vc_table at hv
 change W _ _ _ ⟨38, look [(0, .agg [.int .i64 w.n, .lst true w.l.length (encL e66 w.l)]), (1, .int .i64 to), (2, .int .i64 above), (3, .int .i64 many)], [], 0⟩ _
 refine W.tr [(0, .agg _), (1, .int _ _), (2, .int _ _), (3, .int _ _)] [] ⟨rfl, rfl, rfl, rfl, trivial⟩ rfl ?_
 refine W.rL ?_
 refine cL rfl (o_box (v := .agg _) (p := 0) rfl rfl rfl ?_)
 refine cL rfl (o_assign (v := .nilS) rfl ?_)
 refine eL ?_
 refine W.tr [(1, .int _ _), (2, .int _ _), (3, .int _ _), (4, .ptr _ _)] [.box _ [.int _ _, .lst _ _ _]] ⟨rfl, rfl, rfl, rfl, trivial⟩ rfl ?_
 refine W.rL ?_
 refine cL rfl (o_ldA (cs := [.int _ _, .lst _ _ _]) tt88 rfl rfl ⟨_, rfl⟩ rfl ?_)
 refine cL rfl (o_mf (ps := [.agg _]) (qs := []) rfl rfl ?_)
 refine cL rfl (o_assign (v := .clo _ _ _) rfl ?_)
 refine eL ?_
 refine W.tr [(1, .int _ _), (2, .int _ _), (3, .int _ _), (9, .clo _ _ _)] [.box _ [.int _ _, .lst _ _ _]] ⟨rfl, rfl, rfl, rfl, trivial⟩ rfl ?_
 refine W.rL ?_
 refine cL rfl (o_alloc (p := 1) tt104 rfl (ints_zero 24) ?_)
 refine eL ?_
 refine W.tr [(1, .int _ _), (2, .int _ _), (3, .int _ _), (9, .clo _ _ _), (10, .ptr _ _)] [.box _ [.int _ _, .lst _ _ _], .box _ _] ⟨rfl, rfl, rfl, rfl, rfl, trivial⟩ rfl ?_
 refine W.seq' ?_
 refine W.rL ?_
 refine mI rfl rfl ?_
 refine eL ?_
 refine W.tr [(1, .int _ _), (2, .int _ _), (3, .int _ _), (9, .clo _ _ _), (10, .ptr _ _), (15, .int _ _)] [.box _ [.int _ _, .lst _ _ _], .box _ _] ⟨rfl, rfl, rfl, rfl, rfl, rfl, trivial⟩ rfl ?_
 refine W.block ?_
 obtain ⟨I1, μ1, hp, hv⟩ := hv
 refine W.loop2 (fun v15 m1 => ⟨38, look [(1, .int .i64 to), (2, .int .i64 above), (3, .int .i64 many), (9, .clo 80 [.agg [.int .i64 w.n, .lst true w.l.length (encL e66 w.l)]] []), (10, .ptr 1 0), (15, .int .i64 v15)], [.dead, .box 104 (encL eInt m1.toList)], 0⟩) I1 μ1 (0 : Int) (Vector.replicate 24 0) (St.to_mk (φ := [none, some 1]) rfl (rfl) ⟨Ren.int _ _, Ren.int _ _, Ren.int _ _, Ren.clo _ (Rens.cons (Ren.agg (Rens.cons (Ren.int _ _) (Rens.cons (Ren.lst _ _ _) (Rens.nil)))) (Rens.nil)) (Rens.nil), Ren.ptr rfl, Ren.int _ _, trivial⟩ ⟨rfl, .inr ⟨_, rfl, rfl, Rens.enc encInt true _⟩, trivial⟩) hp ?_
 clear hp
 intro v15 m1 hI
 replace hv := hv v15 m1 hI
 clear hI
 refine W.rL ?_
 refine cL rfl (o_lss rfl rfl ?_)
 refine eL ?_
 refine W.tr [(1, .int _ _), (2, .int _ _), (3, .int _ _), (9, .clo _ _ _), (10, .ptr _ _), (15, .int _ _), (16, .bool _)] [.dead, .box _ _] ⟨rfl, rfl, rfl, rfl, rfl, rfl, rfl, trivial⟩ rfl ?_
 refine W.seq' ?_
 refine W.cn rfl (fun hc => ?_) (fun hc => ?_)
 have hv := hv.1 hc
 refine W.skip ?_
 refine th_nrm ?_
 refine W.tr [(1, .int _ _), (2, .int _ _), (3, .int _ _), (9, .clo _ _ _), (10, .ptr _ _), (15, .int _ _)] [.dead, .box _ _] ⟨rfl, rfl, rfl, rfl, rfl, rfl, trivial⟩ rfl ?_
 refine W.seq' ?_
 refine W.block ?_
 refine W.rL ?_
 refine mI rfl rfl ?_
 refine aI rfl rfl ?_
 refine eL ?_
 refine W.tr [(1, .int _ _), (2, .int _ _), (3, .int _ _), (9, .clo _ _ _), (10, .ptr _ _), (11, .int _ _), (15, .int _ _)] [.dead, .box _ _] ⟨rfl, rfl, rfl, rfl, rfl, rfl, rfl, trivial⟩ rfl ?_
 refine W.rL1 ?_
 refine mI rfl rfl ?_
 obtain ⟨s28, hv⟩ := hv
 refine cL rfl (o_iaA tt104 tt3 rfl rfl s28 (by rw [Nat.mul_one, Nat.zero_add]) ?_)
 obtain ⟨s29, hv⟩ := hv
 refine cLn (o_stB (v := .int _ _) tt3 rfl rfl rfl rfl rfl (by rw [ints_len]; exact s29) (ints_set _ _ _) ?_)
 refine eL ?_
 refine bl_nrm (th_nrm ?_)
 refine W.tr [(1, .int _ _), (2, .int _ _), (3, .int _ _), (9, .clo _ _ _), (10, .ptr _ _), (15, .int _ _)] [.dead, .box _ _] ⟨rfl, rfl, rfl, rfl, rfl, rfl, trivial⟩ rfl ?_
 refine W.rL1 ?_
 obtain ⟨s30, hv⟩ := hv
 refine cL rfl (o_add rfl rfl s30 ?_)
 refine mI rfl rfl ?_
 refine eL ?_
 exact th_nrm (⟨(), (v15 + (1 : Int)), (vset m1 v15.toNat (1152921504606846976 : Int)), hv, St.to_mk (φ := [none, some 1]) rfl (rfl) ⟨Ren.int _ _, Ren.int _ _, Ren.int _ _, Ren.clo _ (Rens.cons (Ren.agg (Rens.cons (Ren.int _ _) (Rens.cons (Ren.lst _ _ _) (Rens.nil)))) (Rens.nil)) (Rens.nil), Ren.ptr rfl, Ren.int _ _, trivial⟩ ⟨rfl, .inr ⟨_, rfl, rfl, Rens.enc encInt true _⟩, trivial⟩⟩)
 have hv := hv.2 hc
 refine W.exit ?_
 refine th_exit (th_exit (bl_hit (th_nrm ?_)))
 refine W.tr [(1, .int _ _), (2, .int _ _), (3, .int _ _), (9, .clo _ _ _), (10, .ptr _ _)] [.dead, .box _ _] ⟨rfl, rfl, rfl, rfl, rfl, trivial⟩ rfl ?_
 refine W.rL ?_
 refine mI rfl rfl ?_
 obtain ⟨s31, hv⟩ := hv
 refine cL rfl (o_iaA tt104 tt3 rfl rfl s31 (by rw [Nat.mul_one, Nat.zero_add]) ?_)
 obtain ⟨s32, hv⟩ := hv
 refine cLn (o_stB (v := .int _ _) tt3 rfl rfl rfl rfl rfl (by rw [ints_len]; exact s32) (ints_set _ _ _) ?_)
 refine eL ?_
 refine W.tr [(2, .int _ _), (3, .int _ _), (9, .clo _ _ _), (10, .ptr _ _)] [.dead, .box _ _] ⟨rfl, rfl, rfl, rfl, trivial⟩ rfl ?_
 refine W.rL ?_
 refine cL rfl (o_ldA tt104 rfl rfl (ca_all rfl) (ints_len _) ?_)
 refine cL rfl (o_bs1 (v := .agg (encL eInt _)) (q := 2) tt109 tt104 rfl rfl rfl (ints_len _) List.length_replicate rfl rfl (encL_one eV24 _) ?_)
 refine cL rfl (o_assign (v := .ref _ _ _) rfl ?_)
 refine eL ?_
 refine W.tr [(2, .int _ _), (3, .int _ _), (9, .clo _ _ _), (10, .ptr _ _), (12, .ref _ _ _)] [.dead, .box _ _, .row _ _ _] ⟨rfl, rfl, rfl, rfl, rfl, trivial⟩ rfl ?_
 refine W.seq' ?_
 refine W.rL ?_
 iterate 2 refine mI rfl rfl ?_
 refine eL ?_
 refine W.tr [(2, .int _ _), (9, .clo _ _ _), (10, .ptr _ _), (12, .ref _ _ _), (25, .int _ _), (26, .int _ _)] [.dead, .box _ _, .row _ _ _] ⟨rfl, rfl, rfl, rfl, rfl, rfl, trivial⟩ rfl ?_
 refine W.block ?_
 obtain ⟨I2, μ2, hp, hv⟩ := hv
 refine W.loop3 (fun v26 m1_1 r2 => ⟨38, look [(2, .int .i64 above), (9, .clo 80 [.agg [.int .i64 w.n, .lst true w.l.length (encL e66 w.l)]] []), (10, .ptr 1 0), (12, .ref false 2 r2.length), (25, .int .i64 many), (26, .int .i64 v26)], [.dead, .box 104 (encL eInt m1_1.toList), .row 104 24 (encL eV24 r2)], 0⟩) I2 μ2 (0 : Int) (vset m1 to.toNat (0 : Int)) [vset m1 to.toNat (0 : Int)] (St.to_mk (φ := [none, some 1, some 2]) rfl (rfl) ⟨Ren.int _ _, Ren.clo _ (Rens.cons (Ren.agg (Rens.cons (Ren.int _ _) (Rens.cons (Ren.lst _ _ _) (Rens.nil)))) (Rens.nil)) (Rens.nil), Ren.ptr rfl, Ren.ref rfl (fun h => h), Ren.int _ _, Ren.int _ _, trivial⟩ ⟨rfl, .inr ⟨_, rfl, rfl, Rens.enc encInt true _⟩, .inr ⟨_, rfl, rfl, rfl, rfl, Rens.enc encV24 false [vset m1 to.toNat (0 : Int)]⟩, trivial⟩) hp ?_
 clear hp
 intro v26 m1_1 r2 hI
 replace hv := hv v26 m1_1 r2 hI
 clear hI
 refine W.rL ?_
 refine cL rfl (o_lss rfl rfl ?_)
 refine eL ?_
 refine W.tr [(2, .int _ _), (9, .clo _ _ _), (10, .ptr _ _), (12, .ref _ _ _), (25, .int _ _), (26, .int _ _), (27, .bool _)] [.dead, .box _ _, .row _ _ _] ⟨rfl, rfl, rfl, rfl, rfl, rfl, rfl, trivial⟩ rfl ?_
 refine W.seq' ?_
 refine W.cn rfl (fun hc => ?_) (fun hc => ?_)
 have hv := hv.1 hc
 refine W.skip ?_
 refine th_nrm ?_
 refine W.tr [(2, .int _ _), (9, .clo _ _ _), (10, .ptr _ _), (12, .ref _ _ _), (25, .int _ _), (26, .int _ _)] [.dead, .box _ _, .row _ _ _] ⟨rfl, rfl, rfl, rfl, rfl, rfl, trivial⟩ rfl ?_
 refine W.seq' ?_
 refine W.block ?_
 refine W.rL ?_
 refine cL rfl (o_move (v := .clo _ _ _) rfl ?_)
 refine cL rfl (o_ldA tt104 rfl rfl (ca_all rfl) (ints_len _) ?_)
 refine mI rfl rfl ?_
 obtain ⟨s60, hv⟩ := hv
 refine cL rfl (o_callP1 (k := 80) (fst := [.agg _]) (caps := []) (ys := [.agg _, .int _ _]) rfl rfl (spec_longer w m1_1 above s60) (Wks.cons (ag_agg 5 _ (Wks.cons (ag_int _ _ _ _) (Wks.cons (ag_lst _ _ _ _ _) (Wks.refl _)))) (Wks.cons (ag_agg 5 _ (ag_vec 4 _ _)) (Wks.cons (ag_int _ _ _ _) (Wks.refl _)))) ?_)
 refine cLn (o_stB (v := .agg _) tt104 rfl rfl rfl (ints_len _) rfl (vec_in (ints_len _) (ints_len _)) (spl_all _ _ ((ints_len _).trans (ints_len _).symm)) ?_)
 refine eL ?_
 refine W.tr [(2, .int _ _), (9, .clo _ _ _), (10, .ptr _ _), (12, .ref _ _ _), (25, .int _ _), (26, .int _ _)] [.dead, .box _ _, .row _ _ _] ⟨rfl, rfl, rfl, rfl, rfl, rfl, trivial⟩ rfl ?_
 refine W.rL1 ?_
 refine cL rfl (o_move (v := .ref _ _ _) rfl ?_)
 refine cL rfl (o_ldA tt104 rfl rfl (ca_all rfl) (ints_len _) ?_)
 refine cL rfl (o_bs1 (v := .agg (encL eInt _)) (q := 3) tt109 tt104 rfl rfl rfl (ints_len _) List.length_replicate rfl rfl (encL_one eV24 _) ?_)
 obtain ⟨s61, hv⟩ := hv
 refine cL rfl (o_apR (p := 4) (q := (r2 ++ [longerM w.l m1_1 above]).length) tt109 tt104 rfl rfl (src_ref rfl (encL_length (encV24.wd false) _)) (encL_length (encV24.wd false) _) rfl (encL_length (encV24.wd false) _) (Nat.le_trans (Nat.le_of_eq (@List.length_append _ (r2) ([longerM w.l m1_1 above])).symm) s61) rfl (@List.length_append _ (r2) ([longerM w.l m1_1 above])).symm (encL_app eV24 r2 [longerM w.l m1_1 above]) ?_)
 refine cL rfl (o_assign (v := .ref _ _ _) rfl ?_)
 refine eL ?_
 refine bl_nrm (th_nrm ?_)
 refine W.tr [(2, .int _ _), (9, .clo _ _ _), (10, .ptr _ _), (12, .ref _ _ _), (25, .int _ _), (26, .int _ _)] [.dead, .box _ _, .dead, .row _ _ _, .row _ _ _] ⟨rfl, rfl, rfl, rfl, rfl, rfl, trivial⟩ rfl ?_
 refine W.rL1 ?_
 obtain ⟨s62, hv⟩ := hv
 refine cL rfl (o_add rfl rfl s62 ?_)
 refine mI rfl rfl ?_
 refine eL ?_
 exact th_nrm (⟨(), (v26 + (1 : Int)), (longerM w.l m1_1 above), (r2 ++ [longerM w.l m1_1 above]), hv, St.to_mk (φ := [none, some 1, some 4]) rfl (rfl) ⟨Ren.int _ _, Ren.clo _ (Rens.cons (Ren.agg (Rens.cons (Ren.int _ _) (Rens.cons (Ren.lst _ _ _) (Rens.nil)))) (Rens.nil)) (Rens.nil), Ren.ptr rfl, Ren.ref rfl (fun h => h), Ren.int _ _, Ren.int _ _, trivial⟩ ⟨rfl, .inr ⟨_, rfl, rfl, Rens.enc encInt true _⟩, .inr ⟨_, rfl, rfl, rfl, rfl, Rens.enc encV24 false (r2 ++ [longerM w.l m1_1 above])⟩, trivial⟩⟩)
 have hv := hv.2 hc
 refine W.exit ?_
 refine th_exit (th_exit (bl_hit (th_nrm ?_)))
 refine W.tr [(12, .ref _ _ _)] [.dead, .box _ _, .row _ _ _] ⟨rfl, trivial⟩ rfl ?_
 refine W.rL ?_
 refine cL rfl (o_move (v := .ref _ _ _) rfl ?_)
 refine cL rfl (o_assign (v := .ref _ _ _) rfl ?_)
 refine eL ?_
 refine W.tr [(8, .ref _ _ _)] [.dead, .box _ _, .row _ _ _] ⟨rfl, trivial⟩ rfl ?_
 refine W.ret ?_
 refine rt ?_
 refine rt_t (v := .ref _ _ _) rfl ?_
 refine rt_n ?_
 exact ⟨_, rs_ref encV24 4 _ rfl rfl, r2, rfl, hv⟩
theorem vcp_table (w : Wlk) (to : Int) (above : Int) (many : Int) (h0 : TabOk w.l to above many) : vc_table w to above many (fun q0 => q0 = (tableM w.l to above many)) := by
  unfold vc_table
  have hnb := hNB
  obtain ⟨ha, hlen, hl, ht, hk⟩ := h0
  refine ⟨fun v m => ∃ i : Nat, v = i ∧ i ≤ 24 ∧ ∀ k, k < 24 → vat m k = if k < i then NB else 0, fun v _ => 24 - v.toNat, ⟨0, rfl, by omega, fun k hk => by rw [vat_rep hk]; simp⟩, ?_⟩
  rintro _ m0 ⟨i, rfl, hi, hm⟩
  refine ⟨fun h1 => ⟨by omega, by omega, by unfold inI; omega, ⟨i + 1, by omega, by omega, fun k hk => ?_⟩, by dsimp only; omega⟩, fun h1 => ⟨by omega, by omega, ?_⟩⟩
  · rw [vat_vset (by omega), hm k hk]
    split <;> split <;> (try split) <;> omega
  have hm0 : m0 = Vector.replicate 24 NB := rep_ext fun k hk => by rw [hm k hk, if_pos (by omega)]
  subst hm0
  refine ⟨fun v m r => ∃ k : Nat, v = k ∧ k ≤ many.toNat ∧ m = tabD w.l to above k ∧ r = (List.range (k + 1)).map (tabD w.l to above), fun v _ _ => many.toNat - v.toNat, ⟨0, rfl, by omega, rfl, rfl⟩, ?_⟩
  rintro _ _ _ ⟨k, rfl, hkk, rfl, rfl⟩
  refine ⟨fun h2 => ⟨⟨ha, hlen, hl, fun j => ?_⟩, by simp; omega, by unfold inI; omega, ⟨k + 1, by omega, by omega, rfl, ?_⟩, by dsimp only; omega⟩, fun h2 => ?_⟩
  · have := tabD_bd (l := w.l) (to := to) (above := above) (fun c hc => ⟨(hl c hc).1, (hl c hc).2.2.1⟩) ht k j
    omega
  · rw [List.range_succ (n := k + 1), List.map_append]; rfl
  · have : k = many.toNat := by omega
    subst this; unfold tableM; rfl
theorem spec_table (w : Wlk) (to : Int) (above : Int) (many : Int) (h0 : TabOk w.l to above many) : FnP Try.prog 67 [.agg ((e88 true) w), .int .i64 to, .int .i64 above, .int .i64 many] (fun xR => xR = .lst false (tableM w.l to above many).length (encL eV24 (tableM w.l to above many))) :=
  (walk_table (vcp_table w to above many h0)).mono (by rintro _ ⟨_, rfl, rfl⟩; rfl)
def vc_first (w : Wlk) (Post : (List Int) → Prop) : Prop :=
  (inI (w.n + (1 : Int))) ∧ ∃ (I1 : Int → Int → Prop) (μ1 : Int → Int → Nat), I1 (w.n + (1 : Int)) (0 : Int) ∧ ∀ (v3 : Int) (v20 : Int), I1 v3 v20 → ((v20 < w.n) → ∃ J2 : Int → Prop, (∀ (v3_1 : Int), J2 v3_1 → (inI (v20 + (1 : Int))) ∧ (I1 v3_1 (v20 + (1 : Int)) ∧ μ1 v3_1 (v20 + (1 : Int)) < μ1 v3 v20)) ∧ ((TabOk w.l v20 (-1 : Int) w.n) ∧ ∃ (I3 : Int → Int → Prop) (μ3 : Int → Int → Nat), I3 v3 (0 : Int) ∧ ∀ (v3_1 : Int) (v29 : Int), I3 v3_1 v29 → ((v29 < (((tableM w.l v20 (-1 : Int) w.n).length : Nat) : Int)) → (0 ≤ v29 ∧ v29 < ((tableM w.l v20 (-1 : Int) w.n).length : Int)) ∧ (0 ≤ v20 ∧ v20 < ((24 : Nat) : Int)) ∧ (v20.toNat < 24) ∧ (((vat (lat (tableM w.l v20 (-1 : Int) w.n) v29) v20.toNat) < (0 : Int)) → J2 (min v3_1 v29)) ∧ (¬ ((vat (lat (tableM w.l v20 (-1 : Int) w.n) v29) v20.toNat) < (0 : Int)) → (inI (v29 + (1 : Int))) ∧ (I3 v3_1 (v29 + (1 : Int)) ∧ μ3 v3_1 (v29 + (1 : Int)) < μ3 v3_1 v29))) ∧ (¬ (v29 < (((tableM w.l v20 (-1 : Int) w.n).length : Nat) : Int)) → J2 v3_1))) ∧ (¬ (v20 < w.n) → ∃ (I4 : Int → Prop) (μ4 : Int → Nat), I4 (0 : Int) ∧ ∀ (v46 : Int), I4 v46 → ((v46 < ((w.l.length : Nat) : Int)) → ∃ J5 : Prop, (J5 → (inI (v46 + (1 : Int))) ∧ (I4 (v46 + (1 : Int)) ∧ μ4 (v46 + (1 : Int)) < μ4 v46)) ∧ ((0 ≤ v46 ∧ v46 < (w.l.length : Int)) ∧ (inI (v3 - (1 : Int))) ∧ (TabOk w.l ((lat w.l v46).f) v46 (v3 - (1 : Int))) ∧ (inI (v3 - (1 : Int))) ∧ (0 ≤ (v3 - (1 : Int)) ∧ (v3 - (1 : Int)) < ((tableM w.l ((lat w.l v46).f) v46 (v3 - (1 : Int))).length : Int)) ∧ (0 ≤ ((lat w.l v46).t) ∧ ((lat w.l v46).t) < ((24 : Nat) : Int)) ∧ (¬ ((lat w.l v46).m) = NB → ¬ (vat (lat (tableM w.l ((lat w.l v46).f) v46 (v3 - (1 : Int))) (v3 - (1 : Int))) ((lat w.l v46).t).toNat) = NB → inI (((lat w.l v46).m) + (vat (lat (tableM w.l ((lat w.l v46).f) v46 (v3 - (1 : Int))) (v3 - (1 : Int))) ((lat w.l v46).t).toNat))) ∧ (((0 : Int) ≤ (plusM ((lat w.l v46).m) (vat (lat (tableM w.l ((lat w.l v46).f) v46 (v3 - (1 : Int))) (v3 - (1 : Int))) ((lat w.l v46).t).toNat))) → J5) ∧ (¬ ((0 : Int) ≤ (plusM ((lat w.l v46).m) (vat (lat (tableM w.l ((lat w.l v46).f) v46 (v3 - (1 : Int))) (v3 - (1 : Int))) ((lat w.l v46).t).toNat))) → ∃ (I6 : Int → Int → List Int → Prop) (μ6 : Int → Int → List Int → Nat), I6 ((lat w.l v46).t) ((lat w.l v46).m) [v46] ∧ ∀ (v11 : Int) (v12 : Int) (r2 : List Int), I6 v11 v12 r2 → ((((r2.length : Nat) : Int) < v3) → (inI (v46 + (1 : Int))) ∧ ∃ J7 : Int → Prop, (∀ (v13 : Int), J7 v13 → ((v13 = ((w.l.length : Nat) : Int)) → J5) ∧ (¬ (v13 = ((w.l.length : Nat) : Int)) → ((r2 ++ [v13]).length ≤ 1073741824) ∧ (0 ≤ v13 ∧ v13 < (w.l.length : Int)) ∧ (0 ≤ v13 ∧ v13 < (w.l.length : Int)) ∧ (inI (v12 + ((lat w.l v13).m))) ∧ (I6 ((lat w.l v13).t) (v12 + ((lat w.l v13).m)) (r2 ++ [v13]) ∧ μ6 ((lat w.l v13).t) (v12 + ((lat w.l v13).m)) (r2 ++ [v13]) < μ6 v11 v12 r2))) ∧ (∃ (I8 : Int → Prop) (μ8 : Int → Nat), I8 (v46 + (1 : Int)) ∧ ∀ (v13 : Int), I8 v13 → ((v13 < ((w.l.length : Nat) : Int)) → (0 ≤ v13 ∧ v13 < (w.l.length : Int)) ∧ ((((lat w.l v13).f = v11) → (inI (v12 + ((lat w.l v13).m))) ∧ (inI (v3 - ((r2.length : Nat) : Int))) ∧ (inI ((v3 - ((r2.length : Nat) : Int)) - (1 : Int))) ∧ (0 ≤ ((v3 - ((r2.length : Nat) : Int)) - (1 : Int)) ∧ ((v3 - ((r2.length : Nat) : Int)) - (1 : Int)) < ((tableM w.l ((lat w.l v46).f) v46 (v3 - (1 : Int))).length : Int)) ∧ (0 ≤ ((lat w.l v13).t) ∧ ((lat w.l v13).t) < ((24 : Nat) : Int)) ∧ (¬ (v12 + ((lat w.l v13).m)) = NB → ¬ (vat (lat (tableM w.l ((lat w.l v46).f) v46 (v3 - (1 : Int))) ((v3 - ((r2.length : Nat) : Int)) - (1 : Int))) ((lat w.l v13).t).toNat) = NB → inI ((v12 + ((lat w.l v13).m)) + (vat (lat (tableM w.l ((lat w.l v46).f) v46 (v3 - (1 : Int))) ((v3 - ((r2.length : Nat) : Int)) - (1 : Int))) ((lat w.l v13).t).toNat))) ∧ True) ∧ (¬ ((lat w.l v13).f = v11) → True)) ∧ (((((lat w.l v13).f = v11) ∧ ((plusM (v12 + ((lat w.l v13).m)) (vat (lat (tableM w.l ((lat w.l v46).f) v46 (v3 - (1 : Int))) ((v3 - ((r2.length : Nat) : Int)) - (1 : Int))) ((lat w.l v13).t).toNat)) < (0 : Int))) → J7 v13) ∧ (¬ (((lat w.l v13).f = v11) ∧ ((plusM (v12 + ((lat w.l v13).m)) (vat (lat (tableM w.l ((lat w.l v46).f) v46 (v3 - (1 : Int))) ((v3 - ((r2.length : Nat) : Int)) - (1 : Int))) ((lat w.l v13).t).toNat)) < (0 : Int))) → (inI (v13 + (1 : Int))) ∧ (I8 (v13 + (1 : Int)) ∧ μ8 (v13 + (1 : Int)) < μ8 v13)))) ∧ (¬ (v13 < ((w.l.length : Nat) : Int)) → J7 v13))) ∧ (¬ (((r2.length : Nat) : Int) < v3) → Post r2)))) ∧ (¬ (v46 < ((w.l.length : Nat) : Int)) → Post []))
set_option maxRecDepth 100000 in
set_option maxHeartbeats 4000000 in
theorem walk_first {w : Wlk} {Post : (List Int) → Prop} (hv : vc_first w Post) : FnP Try.prog 45 [.agg ((e88 true) w)] (fun x => ∃ q0, x = .lst false q0.length (encL eInt q0) ∧ Post q0) := by
 refine FnP.of_walk (T := tt) (nt := 142) ttOk ttMix ⟨⟨Try.f45, Try.func45, rfl, rfl, rfl, rfl⟩⟩ (by simp) ?_
 unfold vc_first at hv
 change W _ _ _ ⟨142, look [(0, .agg [.int .i64 w.n, .lst true w.l.length (encL e66 w.l)])], [], 0⟩ _
 refine W.tr [(0, .agg _)] [] ⟨rfl, trivial⟩ rfl ?_
 refine W.rL ?_
 refine cL rfl (o_box (v := .agg _) (p := 0) rfl rfl rfl ?_)
 refine cL rfl (o_assign (v := .nilS) rfl ?_)
 refine eL ?_
 refine W.tr [(1, .ptr _ _)] [.box _ [.int _ _, .lst _ _ _]] ⟨rfl, trivial⟩ rfl ?_
 refine W.scope ?_
 refine W.rL ?_
 refine cL rfl (o_fa tt88 rfl tt3 rfl ?_)
 refine cL rfl (o_ldS (v := .int _ _) tt3 rfl rfl ⟨_, rfl⟩ ?_)
 obtain ⟨s1, hv⟩ := hv
 refine cL rfl (o_add rfl rfl s1 ?_)
 refine aI rfl rfl ?_
 refine eL ?_
 refine W.tr [(1, .ptr _ _), (3, .int _ _)] [.box _ [.int _ _, .lst _ _ _]] ⟨rfl, rfl, trivial⟩ rfl ?_
 refine W.seq' ?_
 refine W.rL ?_
 refine cL rfl (o_fa tt88 rfl tt3 rfl ?_)
 refine cL rfl (o_ldS (v := .int _ _) tt3 rfl rfl ⟨_, rfl⟩ ?_)
 refine mI rfl rfl ?_
 refine eL ?_
 refine W.tr [(1, .ptr _ _), (3, .int _ _), (19, .int _ _), (20, .int _ _)] [.box _ [.int _ _, .lst _ _ _]] ⟨rfl, rfl, rfl, rfl, trivial⟩ rfl ?_
 refine W.block ?_
 obtain ⟨I1, μ1, hp, hv⟩ := hv
 refine W.loop2 (fun v3 v20 => ⟨142, look [(1, .ptr 0 0), (3, .int .i64 v3), (19, .int .i64 w.n), (20, .int .i64 v20)], [.box 88 [.int .i64 w.n, .lst true w.l.length (encL e66 w.l)]], 0⟩) I1 μ1 (w.n + (1 : Int)) (0 : Int) (St.to_mk (φ := [some 0]) rfl (rfl) ⟨Ren.ptr rfl, Ren.int _ _, Ren.int _ _, Ren.int _ _, trivial⟩ ⟨.inr ⟨_, rfl, rfl, Rens.cons (Ren.int _ _) (Rens.cons (Ren.lst _ _ _) (Rens.nil))⟩, trivial⟩) hp ?_
 clear hp
 intro v3 v20 hI
 replace hv := hv v3 v20 hI
 clear hI
 refine W.rL ?_
 refine cL rfl (o_lss rfl rfl ?_)
 refine eL ?_
 refine W.tr [(1, .ptr _ _), (3, .int _ _), (19, .int _ _), (20, .int _ _), (21, .bool _)] [.box _ [.int _ _, .lst _ _ _]] ⟨rfl, rfl, rfl, rfl, rfl, trivial⟩ rfl ?_
 refine W.seq' ?_
 refine W.cn rfl (fun hc => ?_) (fun hc => ?_)
 have hv := hv.1 hc
 refine W.skip ?_
 refine th_nrm ?_
 refine W.tr [(1, .ptr _ _), (3, .int _ _), (19, .int _ _), (20, .int _ _)] [.box _ [.int _ _, .lst _ _ _]] ⟨rfl, rfl, rfl, rfl, trivial⟩ rfl ?_
 obtain ⟨J2, hj, hv⟩ := hv
 refine W.mid1 (fun v3_1 => ⟨142, look [(1, .ptr 0 0), (3, .int .i64 v3_1), (19, .int .i64 w.n), (20, .int .i64 v20)], [.box 88 [.int .i64 w.n, .lst true w.l.length (encL e66 w.l)]], 0⟩) J2 ?_ ?_
 intro v3_1
 intro hv
 replace hv := hj v3_1 hv
 refine W.rL1 ?_
 obtain ⟨s110, hv⟩ := hv
 refine cL rfl (o_add rfl rfl s110 ?_)
 refine mI rfl rfl ?_
 refine eL ?_
 exact th_nrm (⟨(), v3_1, (v20 + (1 : Int)), hv, St.to_mk (φ := [some 0]) rfl (rfl) ⟨Ren.ptr rfl, Ren.int _ _, Ren.int _ _, Ren.int _ _, trivial⟩ ⟨.inr ⟨_, rfl, rfl, Rens.cons (Ren.int _ _) (Rens.cons (Ren.lst _ _ _) (Rens.nil))⟩, trivial⟩⟩)
 clear hj
 refine W.block ?_
 refine W.rL ?_
 refine mI rfl rfl ?_
 refine aI rfl rfl ?_
 refine eL ?_
 refine W.tr [(1, .ptr _ _), (3, .int _ _), (4, .int _ _), (19, .int _ _), (20, .int _ _)] [.box _ [.int _ _, .lst _ _ _]] ⟨rfl, rfl, rfl, rfl, rfl, trivial⟩ rfl ?_
 refine W.rL ?_
 refine cL rfl (o_ldA (cs := [.int _ _, .lst _ _ _]) tt88 rfl rfl ⟨_, rfl⟩ rfl ?_)
 refine mI rfl rfl ?_
 refine cL rfl (o_fa tt88 rfl tt3 rfl ?_)
 refine cL rfl (o_ldS (v := .int _ _) tt3 rfl rfl ⟨_, rfl⟩ ?_)
 obtain ⟨s111, hv⟩ := hv
 refine cL rfl (o_callP1 (k := 67) (fst := []) (caps := []) (ys := [.agg _, .int _ _, .int _ _, .int _ _]) rfl rfl (spec_table w v20 (-1 : Int) w.n s111) (Wks.cons (ag_agg 5 _ (Wks.cons (ag_int _ _ _ _) (Wks.cons (ag_lst _ _ _ _ _) (Wks.refl _)))) (Wks.cons (ag_int _ _ _ _) (Wks.cons (ag_int _ _ _ _) (Wks.cons (ag_int _ _ _ _) (Wks.refl _))))) ?_)
 refine cL rfl (o_len (v := .lst _ _ _) tt109 rfl rfl ?_)
 refine mI rfl rfl ?_
 refine eL ?_
 refine W.tr [(1, .ptr _ _), (3, .int _ _), (4, .int _ _), (19, .int _ _), (20, .int _ _), (27, .lst _ _ _), (28, .int _ _), (29, .int _ _)] [.box _ [.int _ _, .lst _ _ _]] ⟨rfl, rfl, rfl, rfl, rfl, rfl, rfl, rfl, trivial⟩ rfl ?_
 refine W.block ?_
 obtain ⟨I3, μ3, hp, hv⟩ := hv
 refine W.loop2 (fun v3_1 v29 => ⟨142, look [(1, .ptr 0 0), (3, .int .i64 v3_1), (4, .int .i64 v20), (19, .int .i64 w.n), (20, .int .i64 v20), (27, .lst false (tableM w.l v20 (-1 : Int) w.n).length (encL eV24 (tableM w.l v20 (-1 : Int) w.n))), (28, .int .i64 (((tableM w.l v20 (-1 : Int) w.n).length : Nat) : Int)), (29, .int .i64 v29)], [.box 88 [.int .i64 w.n, .lst true w.l.length (encL e66 w.l)]], 0⟩) I3 μ3 v3 (0 : Int) (St.to_mk (φ := [some 0]) rfl (rfl) ⟨Ren.ptr rfl, Ren.int _ _, Ren.int _ _, Ren.int _ _, Ren.int _ _, Ren.lst _ _ _, Ren.int _ _, Ren.int _ _, trivial⟩ ⟨.inr ⟨_, rfl, rfl, Rens.cons (Ren.int _ _) (Rens.cons (Ren.lst _ _ _) (Rens.nil))⟩, trivial⟩) hp ?_
 clear hp
 intro v3_1 v29 hI
 replace hv := hv v3_1 v29 hI
 clear hI
 refine W.rL ?_
 refine cL rfl (o_lss rfl rfl ?_)
 refine eL ?_
 refine W.tr [(1, .ptr _ _), (3, .int _ _), (4, .int _ _), (19, .int _ _), (20, .int _ _), (27, .lst _ _ _), (28, .int _ _), (29, .int _ _), (30, .bool _)] [.box _ [.int _ _, .lst _ _ _]] ⟨rfl, rfl, rfl, rfl, rfl, rfl, rfl, rfl, rfl, trivial⟩ rfl ?_
 refine W.seq' ?_
 refine W.cn rfl (fun hc => ?_) (fun hc => ?_)
 have hv := hv.1 hc
 refine W.skip ?_
 refine th_nrm ?_
 refine W.tr [(1, .ptr _ _), (3, .int _ _), (4, .int _ _), (19, .int _ _), (20, .int _ _), (27, .lst _ _ _), (28, .int _ _), (29, .int _ _)] [.box _ [.int _ _, .lst _ _ _]] ⟨rfl, rfl, rfl, rfl, rfl, rfl, rfl, rfl, trivial⟩ rfl ?_
 refine W.seq' ?_
 refine W.block ?_
 refine W.rL ?_
 refine mI rfl rfl ?_
 obtain ⟨s122, hv⟩ := hv
 refine cL rfl (o_iaL tt109 tt104 rfl rfl (encV24.wd true) rfl s122 ?_)
 intro rest122
 refine cL rfl (o_ldA (cs := encL eInt _) tt104 rfl rfl ⟨_, rfl⟩ (ints_len _) ?_)
 refine cL rfl (o_alloc (p := 1) tt104 rfl (ints_zero 24) ?_)
 refine aI rfl rfl ?_
 refine cLn (o_stB (v := .agg _) tt104 rfl rfl rfl (ints_len _) rfl (vec_in (ints_len _) (ints_len _)) (spl_all _ _ ((ints_len _).trans (ints_len _).symm)) ?_)
 refine eL ?_
 refine W.tr [(1, .ptr _ _), (3, .int _ _), (4, .int _ _), (5, .int _ _), (6, .ptr _ _), (19, .int _ _), (20, .int _ _), (27, .lst _ _ _), (28, .int _ _), (29, .int _ _)] [.box _ [.int _ _, .lst _ _ _], .box _ _] ⟨rfl, rfl, rfl, rfl, rfl, rfl, rfl, rfl, rfl, rfl, trivial⟩ rfl ?_
 refine W.rL ?_
 refine mI rfl rfl ?_
 obtain ⟨s123, hv⟩ := hv
 refine cL rfl (o_iaA tt104 tt3 rfl rfl s123 (by rw [Nat.mul_one, Nat.zero_add]) ?_)
 obtain ⟨s124, hv⟩ := hv
 refine cL rfl (o_ldS tt3 rfl rfl (ca_vec rfl s124) ?_)
 refine cL rfl (o_lss rfl rfl ?_)
 refine eL ?_
 refine W.tr [(1, .ptr _ _), (3, .int _ _), (4, .int _ _), (5, .int _ _), (19, .int _ _), (20, .int _ _), (27, .lst _ _ _), (28, .int _ _), (29, .int _ _), (37, .bool _)] [.box _ [.int _ _, .lst _ _ _], .box _ _] ⟨rfl, rfl, rfl, rfl, rfl, rfl, rfl, rfl, rfl, rfl, trivial⟩ rfl ?_
 refine W.cn rfl (fun hc => ?_) (fun hc => ?_)
 have hv := hv.1 hc
 refine W.rL ?_
 iterate 2 refine mI rfl rfl ?_
 refine cL rfl (o_min rfl rfl ?_)
 refine aI rfl rfl ?_
 refine eL ?_
 refine W.tr [(1, .ptr _ _), (3, .int _ _), (19, .int _ _), (20, .int _ _)] [.box _ [.int _ _, .lst _ _ _], .box _ _] ⟨rfl, rfl, rfl, rfl, trivial⟩ rfl ?_
 refine W.exit ?_
 exact bl_miss rfl (th_exit (th_exit (bl_hit (bl_nrm (th_nrm (⟨(), (min v3_1 v29), hv, St.to_mk (φ := [some 0]) rfl (rfl) ⟨Ren.ptr rfl, Ren.int _ _, Ren.int _ _, Ren.int _ _, trivial⟩ ⟨.inr ⟨_, rfl, rfl, Rens.cons (Ren.int _ _) (Rens.cons (Ren.lst _ _ _) (Rens.nil))⟩, trivial⟩⟩))))))
 have hv := hv.2 hc
 refine W.skip ?_
 refine bl_nrm (th_nrm ?_)
 refine W.tr [(1, .ptr _ _), (3, .int _ _), (4, .int _ _), (19, .int _ _), (20, .int _ _), (27, .lst _ _ _), (28, .int _ _), (29, .int _ _)] [.box _ [.int _ _, .lst _ _ _], .box _ _] ⟨rfl, rfl, rfl, rfl, rfl, rfl, rfl, rfl, trivial⟩ rfl ?_
 refine W.rL1 ?_
 obtain ⟨s125, hv⟩ := hv
 refine cL rfl (o_add rfl rfl s125 ?_)
 refine mI rfl rfl ?_
 refine eL ?_
 exact th_nrm (⟨(), v3_1, (v29 + (1 : Int)), hv, St.to_mk (φ := [some 0]) rfl (rfl) ⟨Ren.ptr rfl, Ren.int _ _, Ren.int _ _, Ren.int _ _, Ren.int _ _, Ren.lst _ _ _, Ren.int _ _, Ren.int _ _, trivial⟩ ⟨.inr ⟨_, rfl, rfl, Rens.cons (Ren.int _ _) (Rens.cons (Ren.lst _ _ _) (Rens.nil))⟩, trivial⟩⟩)
 have hv := hv.2 hc
 refine W.exit ?_
 exact th_exit (th_exit (bl_hit (bl_nrm (th_nrm (⟨(), v3_1, hv, St.to_mk (φ := [some 0]) rfl (rfl) ⟨Ren.ptr rfl, Ren.int _ _, Ren.int _ _, Ren.int _ _, trivial⟩ ⟨.inr ⟨_, rfl, rfl, Rens.cons (Ren.int _ _) (Rens.cons (Ren.lst _ _ _) (Rens.nil))⟩, trivial⟩⟩)))))
 have hv := hv.2 hc
 refine W.exit ?_
 refine th_exit (th_exit (bl_hit (th_nrm ?_)))
 refine W.tr [(1, .ptr _ _), (3, .int _ _)] [.box _ [.int _ _, .lst _ _ _]] ⟨rfl, rfl, trivial⟩ rfl ?_
 refine W.seq' ?_
 refine W.label ?_
 refine th_nrm ?_
 refine W.tr [(1, .ptr _ _), (3, .int _ _)] [.box _ [.int _ _, .lst _ _ _]] ⟨rfl, rfl, trivial⟩ rfl ?_
 refine W.seq' ?_
 refine W.rL ?_
 refine cL rfl (o_fa tt88 rfl tt28 rfl ?_)
 refine cL rfl (o_ldS (v := .lst _ _ _) tt28 rfl rfl ⟨_, rfl⟩ ?_)
 refine cL rfl (o_len (v := .lst _ _ _) tt28 rfl rfl ?_)
 refine mI rfl rfl ?_
 refine eL ?_
 refine W.tr [(1, .ptr _ _), (3, .int _ _), (44, .lst _ _ _), (45, .int _ _), (46, .int _ _)] [.box _ [.int _ _, .lst _ _ _]] ⟨rfl, rfl, rfl, rfl, rfl, trivial⟩ rfl ?_
 refine W.block ?_
 obtain ⟨I4, μ4, hp, hv⟩ := hv
 refine W.loop1 (fun v46 => ⟨142, look [(1, .ptr 0 0), (3, .int .i64 v3), (44, .lst true w.l.length (encL e66 w.l)), (45, .int .i64 ((w.l.length : Nat) : Int)), (46, .int .i64 v46)], [.box 88 [.int .i64 w.n, .lst true w.l.length (encL e66 w.l)]], 0⟩) I4 μ4 (0 : Int) (St.to_mk (φ := [some 0]) rfl (rfl) ⟨Ren.ptr rfl, Ren.int _ _, Ren.lst _ _ _, Ren.int _ _, Ren.int _ _, trivial⟩ ⟨.inr ⟨_, rfl, rfl, Rens.cons (Ren.int _ _) (Rens.cons (Ren.lst _ _ _) (Rens.nil))⟩, trivial⟩) hp ?_
 clear hp
 intro v46 hI
 replace hv := hv v46 hI
 clear hI
 refine W.rL ?_
 refine cL rfl (o_lss rfl rfl ?_)
 refine eL ?_
 refine W.tr [(1, .ptr _ _), (3, .int _ _), (44, .lst _ _ _), (45, .int _ _), (46, .int _ _), (47, .bool _)] [.box _ [.int _ _, .lst _ _ _]] ⟨rfl, rfl, rfl, rfl, rfl, rfl, trivial⟩ rfl ?_
 refine W.seq' ?_
 refine W.cn rfl (fun hc => ?_) (fun hc => ?_)
 have hv := hv.1 hc
 refine W.skip ?_
 refine th_nrm ?_
 refine W.tr [(1, .ptr _ _), (3, .int _ _), (44, .lst _ _ _), (45, .int _ _), (46, .int _ _)] [.box _ [.int _ _, .lst _ _ _]] ⟨rfl, rfl, rfl, rfl, rfl, trivial⟩ rfl ?_
 obtain ⟨J5, hj, hv⟩ := hv
 refine W.mid0 (⟨142, look [(1, .ptr 0 0), (3, .int .i64 v3), (44, .lst true w.l.length (encL e66 w.l)), (45, .int .i64 ((w.l.length : Nat) : Int)), (46, .int .i64 v46)], [.box 88 [.int .i64 w.n, .lst true w.l.length (encL e66 w.l)]], 0⟩) J5 ?_ ?_
 intro hv
 replace hv := hj hv
 refine W.rL1 ?_
 obtain ⟨s4952, hv⟩ := hv
 refine cL rfl (o_add rfl rfl s4952 ?_)
 refine mI rfl rfl ?_
 refine eL ?_
 exact th_nrm (⟨(), (v46 + (1 : Int)), hv, St.to_mk (φ := [some 0]) rfl (rfl) ⟨Ren.ptr rfl, Ren.int _ _, Ren.lst _ _ _, Ren.int _ _, Ren.int _ _, trivial⟩ ⟨.inr ⟨_, rfl, rfl, Rens.cons (Ren.int _ _) (Rens.cons (Ren.lst _ _ _) (Rens.nil))⟩, trivial⟩⟩)
 clear hj
 refine W.block ?_
 refine W.rL ?_
 refine mI rfl rfl ?_
 obtain ⟨s4953, hv⟩ := hv
 refine cL rfl (o_iaL tt28 tt66 rfl rfl (enc66.wd true) rfl s4953 ?_)
 intro rest4953
 refine cL rfl (o_ldA (cs := [.int _ _, .int _ _, .int _ _, .int _ _]) tt66 rfl rfl ⟨_, rfl⟩ rfl ?_)
 refine cL rfl (o_alloc (p := 1) tt66 rfl rfl ?_)
 refine aI rfl rfl ?_
 refine cLn (o_stB (v := .agg _) (vs := [.int _ _, .int _ _, .int _ _, .int _ _]) (cs2 := [.int _ _, .int _ _, .int _ _, .int _ _]) tt66 rfl rfl rfl rfl rfl (Nat.le_of_ble_eq_true rfl) rfl ?_)
 refine eL ?_
 refine W.tr [(1, .ptr _ _), (3, .int _ _), (7, .int _ _), (8, .ptr _ _), (44, .lst _ _ _), (45, .int _ _), (46, .int _ _)] [.box _ [.int _ _, .lst _ _ _], .box _ [.int _ _, .int _ _, .int _ _, .int _ _]] ⟨rfl, rfl, rfl, rfl, rfl, rfl, rfl, trivial⟩ rfl ?_
 refine W.rL ?_
 refine cL rfl (o_ldA (cs := [.int _ _, .lst _ _ _]) tt88 rfl rfl ⟨_, rfl⟩ rfl ?_)
 refine cL rfl (o_fa tt66 rfl tt3 rfl ?_)
 refine cL rfl (o_ldS (v := .int _ _) tt3 rfl rfl ⟨_, rfl⟩ ?_)
 iterate 2 refine mI rfl rfl ?_
 obtain ⟨s4954, hv⟩ := hv
 refine cL rfl (o_sub rfl rfl s4954 ?_)
 obtain ⟨s4955, hv⟩ := hv
 refine cL rfl (o_callP1 (k := 67) (fst := []) (caps := []) (ys := [.agg _, .int _ _, .int _ _, .int _ _]) rfl rfl (spec_table w ((lat w.l v46).f) v46 (v3 - (1 : Int)) s4955) (Wks.cons (ag_agg 5 _ (Wks.cons (ag_int _ _ _ _) (Wks.cons (ag_lst _ _ _ _ _) (Wks.refl _)))) (Wks.cons (ag_int _ _ _ _) (Wks.cons (ag_int _ _ _ _) (Wks.cons (ag_int _ _ _ _) (Wks.refl _))))) ?_)
 refine aL rfl rfl ?_
 refine eL ?_
 refine W.tr [(1, .ptr _ _), (3, .int _ _), (7, .int _ _), (8, .ptr _ _), (9, .lst _ _ _), (44, .lst _ _ _), (45, .int _ _), (46, .int _ _)] [.box _ [.int _ _, .lst _ _ _], .box _ [.int _ _, .int _ _, .int _ _, .int _ _]] ⟨rfl, rfl, rfl, rfl, rfl, rfl, rfl, rfl, trivial⟩ rfl ?_
 refine W.seq' ?_
 refine W.rD [0, 1, 2, 3, 4, 5, 6, 7, 8, 9, 10, 11] (by decide +kernel) rfl ?_
 refine cL rfl (o_fa tt66 rfl tt3 rfl ?_)
 refine cL rfl (o_ldS (v := .int _ _) tt3 rfl rfl ⟨_, rfl⟩ ?_)
 refine mL rfl rfl ?_
 refine mI rfl rfl ?_
 obtain ⟨s4960, hv⟩ := hv
 refine cL rfl (o_sub rfl rfl s4960 ?_)
 refine cL rfl (o_fa tt66 rfl tt3 rfl ?_)
 refine cL rfl (o_ldS (v := .int _ _) tt3 rfl rfl ⟨_, rfl⟩ ?_)
 obtain ⟨s4961, hv⟩ := hv
 refine cL rfl (o_iaL tt109 tt104 rfl rfl (encV24.wd true) rfl s4961 ?_)
 intro rest4961
 obtain ⟨s4962, hv⟩ := hv
 refine cL rfl (o_iaPV tt104 tt3 rfl rfl s4962 ?_)
 intro rest4962
 refine cL rfl (o_ldS (v := .int _ _) tt3 rfl rfl ⟨_, rfl⟩ ?_)
 obtain ⟨s4963, hv⟩ := hv
 refine cL rfl (o_callP1 (k := 66) (fst := []) (caps := []) (ys := [.int _ _, .int _ _]) rfl rfl (spec_plus ((lat w.l v46).m) (vat (lat (tableM w.l ((lat w.l v46).f) v46 (v3 - (1 : Int))) (v3 - (1 : Int))) ((lat w.l v46).t).toNat) s4963) (Wks.cons (ag_int _ _ _ _) (Wks.cons (ag_int _ _ _ _) (Wks.refl _))) ?_)
 refine cL rfl (o_geq rfl rfl ?_)
 refine eL ?_
 refine W.tr [(1, .ptr _ _), (3, .int _ _), (7, .int _ _), (8, .ptr _ _), (9, .lst _ _ _), (44, .lst _ _ _), (45, .int _ _), (46, .int _ _), (69, .bool _)] [.box _ [.int _ _, .lst _ _ _], .box _ [.int _ _, .int _ _, .int _ _, .int _ _]] ⟨rfl, rfl, rfl, rfl, rfl, rfl, rfl, rfl, rfl, trivial⟩ rfl ?_
 refine W.cn rfl (fun hc => ?_) (fun hc => ?_)
 have hv := hv.1 hc
 refine W.exit ?_
 exact th_exit (bl_hit (th_nrm (⟨(), hv, St.to_mk (φ := [some 0]) rfl (rfl) ⟨Ren.ptr rfl, Ren.int _ _, Ren.lst _ _ _, Ren.int _ _, Ren.int _ _, trivial⟩ ⟨.inr ⟨_, rfl, rfl, Rens.cons (Ren.int _ _) (Rens.cons (Ren.lst _ _ _) (Rens.nil))⟩, trivial⟩⟩)))
 have hv := hv.2 hc
 refine W.skip ?_
 refine th_nrm ?_
 refine W.tr [(1, .ptr _ _), (3, .int _ _), (7, .int _ _), (8, .ptr _ _), (9, .lst _ _ _), (44, .lst _ _ _), (45, .int _ _), (46, .int _ _)] [.box _ [.int _ _, .lst _ _ _], .box _ [.int _ _, .int _ _, .int _ _, .int _ _]] ⟨rfl, rfl, rfl, rfl, rfl, rfl, rfl, rfl, trivial⟩ rfl ?_
 refine W.rD [0, 1, 2, 3, 4, 5, 6, 7, 8] (by decide +kernel) rfl ?_
 refine mI rfl rfl ?_
 refine cL rfl (o_bs1 (v := .int _ _) (q := 2) tt23 tt3 rfl rfl rfl rfl rfl rfl rfl rfl ?_)
 refine cL rfl (o_fa tt66 rfl tt3 rfl ?_)
 refine cL rfl (o_ldS (v := .int _ _) tt3 rfl rfl ⟨_, rfl⟩ ?_)
 refine cL rfl (o_fa tt66 rfl tt3 rfl ?_)
 refine cL rfl (o_ldS (v := .int _ _) tt3 rfl rfl ⟨_, rfl⟩ ?_)
 refine cL rfl (o_assign (v := .ref _ _ _) rfl ?_)
 iterate 2 refine aI rfl rfl ?_
 refine eL ?_
 refine W.tr [(1, .ptr _ _), (3, .int _ _), (7, .int _ _), (9, .lst _ _ _), (10, .ref _ _ _), (11, .int _ _), (12, .int _ _), (44, .lst _ _ _), (45, .int _ _), (46, .int _ _)] [.box _ [.int _ _, .lst _ _ _], .box _ [.int _ _, .int _ _, .int _ _, .int _ _], .row _ _ _] ⟨rfl, rfl, rfl, rfl, rfl, rfl, rfl, rfl, rfl, rfl, trivial⟩ rfl ?_
 refine W.seq' ?_
 refine W.block ?_
 obtain ⟨I6, μ6, hp, hv⟩ := hv
 refine W.loop3 (fun v11 v12 r2 => ⟨142, look [(1, .ptr 0 0), (3, .int .i64 v3), (7, .int .i64 v46), (9, .lst false (tableM w.l ((lat w.l v46).f) v46 (v3 - (1 : Int))).length (encL eV24 (tableM w.l ((lat w.l v46).f) v46 (v3 - (1 : Int))))), (10, .ref false 2 r2.length), (11, .int .i64 v11), (12, .int .i64 v12), (44, .lst true w.l.length (encL e66 w.l)), (45, .int .i64 ((w.l.length : Nat) : Int)), (46, .int .i64 v46)], [.box 88 [.int .i64 w.n, .lst true w.l.length (encL e66 w.l)], .dead, .row 3 1 (encL eInt r2)], 0⟩) I6 μ6 ((lat w.l v46).t) ((lat w.l v46).m) [v46] (St.to_mk (φ := [some 0, none, some 2]) rfl (rfl) ⟨Ren.ptr rfl, Ren.int _ _, Ren.int _ _, Ren.lst _ _ _, Ren.ref rfl (fun h => h), Ren.int _ _, Ren.int _ _, Ren.lst _ _ _, Ren.int _ _, Ren.int _ _, trivial⟩ ⟨.inr ⟨_, rfl, rfl, Rens.cons (Ren.int _ _) (Rens.cons (Ren.lst _ _ _) (Rens.nil))⟩, rfl, .inr ⟨_, rfl, rfl, rfl, rfl, Rens.enc encInt false [v46]⟩, trivial⟩) hp ?_
 clear hp
 intro v11 v12 r2 hI
 replace hv := hv v11 v12 r2 hI
 clear hI
 refine W.seq' ?_
 refine W.rL ?_
 refine cL rfl (o_move (v := .ref _ _ _) rfl ?_)
 refine cL rfl (o_len (v := .ref _ _ _) tt23 rfl rfl ?_)
 refine mI rfl rfl ?_
 refine cL rfl (o_lss rfl rfl ?_)
 refine eL ?_
 refine W.tr [(1, .ptr _ _), (3, .int _ _), (7, .int _ _), (9, .lst _ _ _), (10, .ref _ _ _), (11, .int _ _), (12, .int _ _), (44, .lst _ _ _), (45, .int _ _), (46, .int _ _), (79, .bool _)] [.box _ [.int _ _, .lst _ _ _], .dead, .row _ _ _] ⟨rfl, rfl, rfl, rfl, rfl, rfl, rfl, rfl, rfl, rfl, rfl, trivial⟩ rfl ?_
 refine W.cn rfl (fun hc => ?_) (fun hc => ?_)
 have hv := hv.1 hc
 refine W.skip ?_
 refine th_nrm ?_
 refine W.tr [(1, .ptr _ _), (3, .int _ _), (7, .int _ _), (9, .lst _ _ _), (10, .ref _ _ _), (11, .int _ _), (12, .int _ _), (44, .lst _ _ _), (45, .int _ _), (46, .int _ _)] [.box _ [.int _ _, .lst _ _ _], .dead, .row _ _ _] ⟨rfl, rfl, rfl, rfl, rfl, rfl, rfl, rfl, rfl, rfl, trivial⟩ rfl ?_
 refine W.block ?_
 refine W.rL ?_
 refine mI rfl rfl ?_
 obtain ⟨s5529, hv⟩ := hv
 refine cL rfl (o_add rfl rfl s5529 ?_)
 refine aI rfl rfl ?_
 refine eL ?_
 refine W.tr [(1, .ptr _ _), (3, .int _ _), (7, .int _ _), (9, .lst _ _ _), (10, .ref _ _ _), (11, .int _ _), (12, .int _ _), (13, .int _ _), (44, .lst _ _ _), (45, .int _ _), (46, .int _ _)] [.box _ [.int _ _, .lst _ _ _], .dead, .row _ _ _] ⟨rfl, rfl, rfl, rfl, rfl, rfl, rfl, rfl, rfl, rfl, rfl, trivial⟩ rfl ?_
 obtain ⟨J7, hj, hv⟩ := hv
 refine W.mid1 (fun v13 => ⟨142, look [(1, .ptr 0 0), (3, .int .i64 v3), (7, .int .i64 v46), (9, .lst false (tableM w.l ((lat w.l v46).f) v46 (v3 - (1 : Int))).length (encL eV24 (tableM w.l ((lat w.l v46).f) v46 (v3 - (1 : Int))))), (10, .ref false 2 r2.length), (12, .int .i64 v12), (13, .int .i64 v13), (44, .lst true w.l.length (encL e66 w.l)), (45, .int .i64 ((w.l.length : Nat) : Int)), (46, .int .i64 v46)], [.box 88 [.int .i64 w.n, .lst true w.l.length (encL e66 w.l)], .dead, .row 3 1 (encL eInt r2)], 0⟩) J7 ?_ ?_
 intro v13
 intro hv
 replace hv := hj v13 hv
 refine W.seq' ?_
 refine W.rL ?_
 refine mI rfl rfl ?_
 refine cL rfl (o_fa tt88 rfl tt28 rfl ?_)
 refine cL rfl (o_ldS (v := .lst _ _ _) tt28 rfl rfl ⟨_, rfl⟩ ?_)
 refine cL rfl (o_len (v := .lst _ _ _) tt28 rfl rfl ?_)
 refine cL rfl (o_eqI rfl rfl rfl ?_)
 refine eL ?_
 refine W.tr [(1, .ptr _ _), (3, .int _ _), (7, .int _ _), (9, .lst _ _ _), (10, .ref _ _ _), (12, .int _ _), (13, .int _ _), (44, .lst _ _ _), (45, .int _ _), (46, .int _ _), (121, .bool _)] [.box _ [.int _ _, .lst _ _ _], .dead, .row _ _ _] ⟨rfl, rfl, rfl, rfl, rfl, rfl, rfl, rfl, rfl, rfl, rfl, trivial⟩ rfl ?_
 refine W.cn rfl (fun hc => ?_) (fun hc => ?_)
 have hv := hv.1 hc
 refine W.exit ?_
 exact th_exit (bl_miss rfl (th_exit (bl_miss rfl (th_exit (bl_hit (th_nrm (⟨(), hv, St.to_mk (φ := [some 0]) rfl (rfl) ⟨Ren.ptr rfl, Ren.int _ _, Ren.lst _ _ _, Ren.int _ _, Ren.int _ _, trivial⟩ ⟨.inr ⟨_, rfl, rfl, Rens.cons (Ren.int _ _) (Rens.cons (Ren.lst _ _ _) (Rens.nil))⟩, trivial⟩⟩)))))))
 have hv := hv.2 hc
 refine W.skip ?_
 refine th_nrm ?_
 refine W.tr [(1, .ptr _ _), (3, .int _ _), (7, .int _ _), (9, .lst _ _ _), (10, .ref _ _ _), (12, .int _ _), (13, .int _ _), (44, .lst _ _ _), (45, .int _ _), (46, .int _ _)] [.box _ [.int _ _, .lst _ _ _], .dead, .row _ _ _] ⟨rfl, rfl, rfl, rfl, rfl, rfl, rfl, rfl, rfl, rfl, trivial⟩ rfl ?_
 refine W.rD1 [0, 1, 2, 3, 4, 5, 6, 7, 8, 9, 10, 11, 12, 13, 14, 15, 16, 17, 18, 19, 20] (by decide +kernel) rfl ?_
 refine cL rfl (o_move (v := .ref _ _ _) rfl ?_)
 refine mI rfl rfl ?_
 refine cL rfl (o_bs1 (v := .int _ _) (q := 3) tt23 tt3 rfl rfl rfl rfl rfl rfl rfl rfl ?_)
 obtain ⟨s5584, hv⟩ := hv
 refine cL rfl (o_apR (p := 4) (q := (r2 ++ [v13]).length) tt23 tt3 rfl rfl (src_ref rfl rfl) rfl rfl (encL_length (encInt.wd false) _) (Nat.le_trans (Nat.le_of_eq (@List.length_append _ (r2) ([v13])).symm) s5584) rfl (@List.length_append _ (r2) ([v13])).symm (encL_app eInt r2 [v13]) ?_)
 refine cL rfl (o_fa tt88 rfl tt28 rfl ?_)
 refine cL rfl (o_ldS (v := .lst _ _ _) tt28 rfl rfl ⟨_, rfl⟩ ?_)
 refine mI rfl rfl ?_
 obtain ⟨s5585, hv⟩ := hv
 refine cL rfl (o_iaL tt28 tt66 rfl rfl (enc66.wd true) rfl s5585 ?_)
 intro rest5585
 refine cL rfl (o_faP tt66 rfl tt3 rfl ?_)
 refine cL rfl (o_ldS (v := .int _ _) tt3 rfl rfl ⟨_, rfl⟩ ?_)
 refine mI rfl rfl ?_
 refine cL rfl (o_fa tt88 rfl tt28 rfl ?_)
 refine cL rfl (o_ldS (v := .lst _ _ _) tt28 rfl rfl ⟨_, rfl⟩ ?_)
 refine mI rfl rfl ?_
 obtain ⟨s5586, hv⟩ := hv
 refine cL rfl (o_iaL tt28 tt66 rfl rfl (enc66.wd true) rfl s5586 ?_)
 intro rest5586
 refine cL rfl (o_faP tt66 rfl tt3 rfl ?_)
 refine cL rfl (o_ldS (v := .int _ _) tt3 rfl rfl ⟨_, rfl⟩ ?_)
 obtain ⟨s5587, hv⟩ := hv
 refine cL rfl (o_add rfl rfl s5587 ?_)
 refine cL rfl (o_assign (v := .ref _ _ _) rfl ?_)
 iterate 2 refine aI rfl rfl ?_
 refine eL ?_
 exact bl_nrm (th_nrm (⟨(), ((lat w.l v13).t), (v12 + ((lat w.l v13).m)), (r2 ++ [v13]), hv, St.to_mk (φ := [some 0, none, some 4]) rfl (rfl) ⟨Ren.ptr rfl, Ren.int _ _, Ren.int _ _, Ren.lst _ _ _, Ren.ref rfl (fun h => h), Ren.int _ _, Ren.int _ _, Ren.lst _ _ _, Ren.int _ _, Ren.int _ _, trivial⟩ ⟨.inr ⟨_, rfl, rfl, Rens.cons (Ren.int _ _) (Rens.cons (Ren.lst _ _ _) (Rens.nil))⟩, rfl, .inr ⟨_, rfl, rfl, rfl, rfl, Rens.enc encInt false (r2 ++ [v13])⟩, trivial⟩⟩))
 clear hj
 refine W.block ?_
 obtain ⟨I8, μ8, hp, hv⟩ := hv
 refine W.loop1 (fun v13 => ⟨142, look [(1, .ptr 0 0), (3, .int .i64 v3), (7, .int .i64 v46), (9, .lst false (tableM w.l ((lat w.l v46).f) v46 (v3 - (1 : Int))).length (encL eV24 (tableM w.l ((lat w.l v46).f) v46 (v3 - (1 : Int))))), (10, .ref false 2 r2.length), (11, .int .i64 v11), (12, .int .i64 v12), (13, .int .i64 v13), (44, .lst true w.l.length (encL e66 w.l)), (45, .int .i64 ((w.l.length : Nat) : Int)), (46, .int .i64 v46)], [.box 88 [.int .i64 w.n, .lst true w.l.length (encL e66 w.l)], .dead, .row 3 1 (encL eInt r2)], 0⟩) I8 μ8 (v46 + (1 : Int)) (St.to_mk (φ := [some 0, none, some 2]) rfl (rfl) ⟨Ren.ptr rfl, Ren.int _ _, Ren.int _ _, Ren.lst _ _ _, Ren.ref rfl (fun h => h), Ren.int _ _, Ren.int _ _, Ren.int _ _, Ren.lst _ _ _, Ren.int _ _, Ren.int _ _, trivial⟩ ⟨.inr ⟨_, rfl, rfl, Rens.cons (Ren.int _ _) (Rens.cons (Ren.lst _ _ _) (Rens.nil))⟩, rfl, .inr ⟨_, rfl, rfl, rfl, rfl, Rens.enc encInt false r2⟩, trivial⟩) hp ?_
 clear hp
 intro v13 hI
 replace hv := hv v13 hI
 clear hI
 refine W.seq' ?_
 refine W.rL ?_
 refine mI rfl rfl ?_
 refine cL rfl (o_fa tt88 rfl tt28 rfl ?_)
 refine cL rfl (o_ldS (v := .lst _ _ _) tt28 rfl rfl ⟨_, rfl⟩ ?_)
 refine cL rfl (o_len (v := .lst _ _ _) tt28 rfl rfl ?_)
 refine cL rfl (o_lss rfl rfl ?_)
 refine eL ?_
 refine W.tr [(1, .ptr _ _), (3, .int _ _), (7, .int _ _), (9, .lst _ _ _), (10, .ref _ _ _), (11, .int _ _), (12, .int _ _), (13, .int _ _), (44, .lst _ _ _), (45, .int _ _), (46, .int _ _), (86, .bool _)] [.box _ [.int _ _, .lst _ _ _], .dead, .row _ _ _] ⟨rfl, rfl, rfl, rfl, rfl, rfl, rfl, rfl, rfl, rfl, rfl, rfl, trivial⟩ rfl ?_
 refine W.cn rfl (fun hc => ?_) (fun hc => ?_)
 have hv := hv.1 hc
 refine W.skip ?_
 refine th_nrm ?_
 refine W.tr [(1, .ptr _ _), (3, .int _ _), (7, .int _ _), (9, .lst _ _ _), (10, .ref _ _ _), (11, .int _ _), (12, .int _ _), (13, .int _ _), (44, .lst _ _ _), (45, .int _ _), (46, .int _ _)] [.box _ [.int _ _, .lst _ _ _], .dead, .row _ _ _] ⟨rfl, rfl, rfl, rfl, rfl, rfl, rfl, rfl, rfl, rfl, rfl, trivial⟩ rfl ?_
 refine W.seq' ?_
 refine W.block ?_
 refine W.rL ?_
 refine cL rfl (o_fa tt88 rfl tt28 rfl ?_)
 refine cL rfl (o_ldS (v := .lst _ _ _) tt28 rfl rfl ⟨_, rfl⟩ ?_)
 refine mI rfl rfl ?_
 obtain ⟨s5628, hv⟩ := hv
 refine cL rfl (o_iaL tt28 tt66 rfl rfl (enc66.wd true) rfl s5628 ?_)
 intro rest5628
 refine cL rfl (o_ldA (cs := [.int _ _, .int _ _, .int _ _, .int _ _]) tt66 rfl rfl ⟨_, rfl⟩ rfl ?_)
 refine cL rfl (o_alloc (p := 3) tt66 rfl rfl ?_)
 refine cLn (o_stB (v := .agg _) (vs := [.int _ _, .int _ _, .int _ _, .int _ _]) (cs2 := [.int _ _, .int _ _, .int _ _, .int _ _]) tt66 rfl rfl rfl rfl rfl (Nat.le_of_ble_eq_true rfl) rfl ?_)
 refine eL ?_
 refine W.tr [(1, .ptr _ _), (3, .int _ _), (7, .int _ _), (9, .lst _ _ _), (10, .ref _ _ _), (11, .int _ _), (12, .int _ _), (13, .int _ _), (14, .ptr _ _), (44, .lst _ _ _), (45, .int _ _), (46, .int _ _)] [.box _ [.int _ _, .lst _ _ _], .dead, .row _ _ _, .box _ [.int _ _, .int _ _, .int _ _, .int _ _]] ⟨rfl, rfl, rfl, rfl, rfl, rfl, rfl, rfl, rfl, rfl, rfl, rfl, trivial⟩ rfl ?_
 obtain ⟨sd, hv⟩ := hv
 refine W.rDm ⟨142, look [(1, .ptr 0 0), (3, .int .i64 v3), (7, .int .i64 v46), (9, .lst false (tableM w.l ((lat w.l v46).f) v46 (v3 - (1 : Int))).length (encL eV24 (tableM w.l ((lat w.l v46).f) v46 (v3 - (1 : Int))))), (10, .ref false 2 r2.length), (11, .int .i64 v11), (12, .int .i64 v12), (13, .int .i64 v13), (44, .lst true w.l.length (encL e66 w.l)), (45, .int .i64 ((w.l.length : Nat) : Int)), (46, .int .i64 v46), (116, .bool (decide (((lat w.l v13).f = v11) ∧ ((plusM (v12 + ((lat w.l v13).m)) (vat (lat (tableM w.l ((lat w.l v46).f) v46 (v3 - (1 : Int))) ((v3 - ((r2.length : Nat) : Int)) - (1 : Int))) ((lat w.l v13).t).toNat)) < (0 : Int)))))], [.box 88 [.int .i64 w.n, .lst true w.l.length (encL e66 w.l)], .dead, .row 3 1 (encL eInt r2), .box 66 [.int .i64 ((lat w.l v13).f), .int .i64 ((lat w.l v13).t), .int .i64 ((lat w.l v13).m), .int .i64 ((lat w.l v13).a)]], 0⟩ [0, 1, 2, 3, 4, 5, 6, 7, 8, 9, 10, 11, 12, 13, 14, 15, 16, 17, 18, 19, 20, 21, 22] (by decide +kernel) rfl ?_ ?_
 refine cL rfl (o_fa tt66 rfl tt3 rfl ?_)
 refine cL rfl (o_ldS (v := .int _ _) tt3 rfl rfl ⟨_, rfl⟩ ?_)
 refine mI rfl rfl ?_
 refine cL rfl (o_eqI rfl rfl rfl ?_)
 refine mB rfl rfl ?_
 by_cases c1 : (lat w.l v13).f = v11
 have sd := sd.1 c1
 refine cLg rfl rfl (decide_eq_true c1) ?_
 refine mI rfl rfl ?_
 refine cLg rfl rfl (decide_eq_true c1) ?_
 refine cL rfl (o_fa tt66 rfl tt3 rfl ?_)
 refine cLg rfl rfl (decide_eq_true c1) ?_
 refine cL rfl (o_ldS (v := .int _ _) tt3 rfl rfl ⟨_, rfl⟩ ?_)
 refine cLg rfl rfl (decide_eq_true c1) ?_
 obtain ⟨s5635, sd⟩ := sd
 refine cL rfl (o_add rfl rfl s5635 ?_)
 refine cLg rfl rfl (decide_eq_true c1) ?_
 refine mL rfl rfl ?_
 refine cLg rfl rfl (decide_eq_true c1) ?_
 refine mI rfl rfl ?_
 refine cLg rfl rfl (decide_eq_true c1) ?_
 refine cL rfl (o_move (v := .ref _ _ _) rfl ?_)
 refine cLg rfl rfl (decide_eq_true c1) ?_
 refine cL rfl (o_len (v := .ref _ _ _) tt23 rfl rfl ?_)
 refine cLg rfl rfl (decide_eq_true c1) ?_
 obtain ⟨s5636, sd⟩ := sd
 refine cL rfl (o_sub rfl rfl s5636 ?_)
 refine cLg rfl rfl (decide_eq_true c1) ?_
 obtain ⟨s5637, sd⟩ := sd
 refine cL rfl (o_sub rfl rfl s5637 ?_)
 refine cLg rfl rfl (decide_eq_true c1) ?_
 refine cL rfl (o_fa tt66 rfl tt3 rfl ?_)
 refine cLg rfl rfl (decide_eq_true c1) ?_
 refine cL rfl (o_ldS (v := .int _ _) tt3 rfl rfl ⟨_, rfl⟩ ?_)
 refine cLg rfl rfl (decide_eq_true c1) ?_
 obtain ⟨s5638, sd⟩ := sd
 refine cL rfl (o_iaL tt109 tt104 rfl rfl (encV24.wd true) rfl s5638 ?_)
 intro rest5638
 refine cLg rfl rfl (decide_eq_true c1) ?_
 obtain ⟨s5639, sd⟩ := sd
 refine cL rfl (o_iaPV tt104 tt3 rfl rfl s5639 ?_)
 intro rest5639
 refine cLg rfl rfl (decide_eq_true c1) ?_
 refine cL rfl (o_ldS (v := .int _ _) tt3 rfl rfl ⟨_, rfl⟩ ?_)
 refine cLg rfl rfl (decide_eq_true c1) ?_
 obtain ⟨s5640, sd⟩ := sd
 refine cL rfl (o_callP1 (k := 66) (fst := []) (caps := []) (ys := [.int _ _, .int _ _]) rfl rfl (spec_plus (v12 + ((lat w.l v13).m)) (vat (lat (tableM w.l ((lat w.l v46).f) v46 (v3 - (1 : Int))) ((v3 - ((r2.length : Nat) : Int)) - (1 : Int))) ((lat w.l v13).t).toNat) s5640) (Wks.cons (ag_int _ _ _ _) (Wks.cons (ag_int _ _ _ _) (Wks.refl _))) ?_)
 refine cLg rfl rfl (decide_eq_true c1) ?_
 refine cL rfl (o_lss rfl rfl ?_)
 refine cL rfl (o_pickT (v := .bool _) rfl (decide_eq_true c1) rfl ?_)
 refine eL ?_
 exact le_mk ⟨rfl, rfl, rfl, rfl, rfl, rfl, rfl, rfl, rfl, rfl, rfl, (congrArg AV.bool (dAndT c1 (rfl))).symm, trivial⟩ rfl
 iterate 17 refine cLs rfl rfl rfl (decide_eq_false c1) ?_
 refine cL rfl (o_pickF (v := .bool _) rfl (decide_eq_false c1) rfl ?_)
 refine eL ?_
 exact le_mk ⟨rfl, rfl, rfl, rfl, rfl, rfl, rfl, rfl, rfl, rfl, rfl, (congrArg AV.bool (dAndF c1)).symm, trivial⟩ rfl
 refine W.cn rfl (fun hc => ?_) (fun hc => ?_)
 have hv := hv.1 hc
 refine W.exit ?_
 exact bl_miss rfl (th_exit (th_exit (bl_hit (th_nrm (⟨(), v13, hv, St.to_mk (φ := [some 0, none, some 2]) rfl (rfl) ⟨Ren.ptr rfl, Ren.int _ _, Ren.int _ _, Ren.lst _ _ _, Ren.ref rfl (fun h => h), Ren.int _ _, Ren.int _ _, Ren.lst _ _ _, Ren.int _ _, Ren.int _ _, trivial⟩ ⟨.inr ⟨_, rfl, rfl, Rens.cons (Ren.int _ _) (Rens.cons (Ren.lst _ _ _) (Rens.nil))⟩, rfl, .inr ⟨_, rfl, rfl, rfl, rfl, Rens.enc encInt false r2⟩, trivial⟩⟩)))))
 have hv := hv.2 hc
 refine W.skip ?_
 refine bl_nrm (th_nrm ?_)
 refine W.tr [(1, .ptr _ _), (3, .int _ _), (7, .int _ _), (9, .lst _ _ _), (10, .ref _ _ _), (11, .int _ _), (12, .int _ _), (13, .int _ _), (44, .lst _ _ _), (45, .int _ _), (46, .int _ _)] [.box _ [.int _ _, .lst _ _ _], .dead, .row _ _ _, .box _ [.int _ _, .int _ _, .int _ _, .int _ _]] ⟨rfl, rfl, rfl, rfl, rfl, rfl, rfl, rfl, rfl, rfl, rfl, trivial⟩ rfl ?_
 refine W.rL1 ?_
 refine mI rfl rfl ?_
 obtain ⟨s5641, hv⟩ := hv
 refine cL rfl (o_add rfl rfl s5641 ?_)
 refine aI rfl rfl ?_
 refine eL ?_
 exact th_nrm (⟨(), (v13 + (1 : Int)), hv, St.to_mk (φ := [some 0, none, some 2]) rfl (rfl) ⟨Ren.ptr rfl, Ren.int _ _, Ren.int _ _, Ren.lst _ _ _, Ren.ref rfl (fun h => h), Ren.int _ _, Ren.int _ _, Ren.int _ _, Ren.lst _ _ _, Ren.int _ _, Ren.int _ _, trivial⟩ ⟨.inr ⟨_, rfl, rfl, Rens.cons (Ren.int _ _) (Rens.cons (Ren.lst _ _ _) (Rens.nil))⟩, rfl, .inr ⟨_, rfl, rfl, rfl, rfl, Rens.enc encInt false r2⟩, trivial⟩⟩)
 have hv := hv.2 hc
 refine W.exit ?_
 exact th_exit (th_exit (bl_hit (th_nrm (⟨(), v13, hv, St.to_mk (φ := [some 0, none, some 2]) rfl (rfl) ⟨Ren.ptr rfl, Ren.int _ _, Ren.int _ _, Ren.lst _ _ _, Ren.ref rfl (fun h => h), Ren.int _ _, Ren.int _ _, Ren.lst _ _ _, Ren.int _ _, Ren.int _ _, trivial⟩ ⟨.inr ⟨_, rfl, rfl, Rens.cons (Ren.int _ _) (Rens.cons (Ren.lst _ _ _) (Rens.nil))⟩, rfl, .inr ⟨_, rfl, rfl, rfl, rfl, Rens.enc encInt false r2⟩, trivial⟩⟩))))
 have hv := hv.2 hc
 refine W.exit ?_
 refine th_exit (th_exit (bl_hit (th_nrm ?_)))
 refine W.tr [(10, .ref _ _ _)] [.box _ [.int _ _, .lst _ _ _], .dead, .row _ _ _] ⟨rfl, trivial⟩ rfl ?_
 refine W.rL ?_
 refine cL rfl (o_move (v := .ref _ _ _) rfl ?_)
 refine cL rfl (o_assign (v := .ref _ _ _) rfl ?_)
 refine eL ?_
 refine W.tr [(2, .ref _ _ _)] [.box _ [.int _ _, .lst _ _ _], .dead, .row _ _ _] ⟨rfl, trivial⟩ rfl ?_
 refine W.ret ?_
 refine bl_ret (th_ret (th_ret (bl_ret (th_ret (rt ?_)))))
 refine rt_t (v := .ref _ _ _) rfl ?_
 refine rt_n ?_
 exact ⟨_, rs_ref encInt 4 _ rfl rfl, r2, rfl, hv⟩
 have hv := hv.2 hc
 refine W.exit ?_
 refine th_exit (th_exit (bl_hit (th_nrm ?_)))
 refine W.tr [] [.box _ [.int _ _, .lst _ _ _]] trivial rfl ?_
 refine W.rL ?_
 refine cL rfl (o_assign (v := .nilS) rfl ?_)
 refine eL ?_
 refine W.tr [(2, .nilS)] [.box _ [.int _ _, .lst _ _ _]] ⟨rfl, trivial⟩ rfl ?_
 refine W.ret ?_
 refine rt ?_
 refine rt_t (v := .nilS) rfl ?_
 refine rt_n ?_
 exact ⟨_, rs_nil _ _ _ _ rfl, [], rfl, hv⟩
theorem vcp_first (w : Wlk) (h0 : FirstOk w.n w.l) : vc_first w (fun q0 => q0 = (firstM w.n w.l)) := by
  unfold vc_first
  have hnb := hNB
  obtain ⟨n, l⟩ := w
  change validM n l = true at h0
  dsimp only
  obtain ⟨⟨hn1, hn2, hlen⟩, hp⟩ := validM_iff.mp h0
  have hl : ∀ c ∈ l, (0 ≤ c.f ∧ c.f < 24) ∧ (0 ≤ c.t ∧ c.t < 24) ∧ -1125899906842624 ≤ c.m ∧ c.m ≤ 1125899906842624 := fun c hc => by
    have := possM_iff.mp (hp c hc); omega
  have hbd : ∀ to above : Int, 0 ≤ to ∧ to < 24 → ∀ k e : Nat, k ≤ 25 → -28147497671065600 ≤ vat (tabD l to above k) e ∧ vat (tabD l to above k) e ≤ 1152921504606846976 := fun to above ht k e hk => by
    have := tabD_bd (l := l) (to := to) (above := above) (fun c hc => ⟨(hl c hc).1, (hl c hc).2.2.1⟩) ht k e
    omega
  refine ⟨by unfold inI; omega, fun z v => ∃ i : Nat, v = i ∧ i ≤ n.toNat ∧ z = (List.range i).foldl (sizeStep n l) (n + 1), fun _ v => n.toNat - v.toNat, ⟨0, rfl, by omega, rfl⟩, ?_⟩
  rintro z _ ⟨i, rfl, hi, hz⟩
  refine ⟨fun h1 => ⟨fun z' => z' = sizeStep n l z i, fun z' hz' => ⟨by unfold inI; omega, ⟨i + 1, by omega, by omega, ?_⟩, by dsimp only; omega⟩, ⟨by omega, hlen, hl, by omega, by omega⟩, fun z' r => ∃ k : Nat, r = k ∧ z' = z ∧ k ≤ n.toNat + 1 ∧ ∀ j, j < k → ¬ vat (tabD l i (-1) j) i < 0, fun _ r => n.toNat + 1 - r.toNat, ⟨0, rfl, rfl, by omega, by omega⟩, ?_⟩, fun h1 => ?_⟩
  · rw [hz', hz, List.range_succ, List.foldl_append]; rfl
  · rintro z' _ ⟨k, rfl, rfl, hk, hkn⟩
    rw [tableM_len]
    refine ⟨fun h2 => ?_, fun h2 => ?_⟩
    · rw [tableM_at ⟨by omega, by omega⟩]
      simp only [Int.toNat_natCast]
      refine ⟨by omega, by omega, by omega, fun h3 => ?_, fun h3 => ⟨by unfold inI; omega, ⟨k + 1, by omega, trivial, by omega, fun j hj => ?_⟩, by omega⟩⟩
      · have : sizeAt n l i = some k := find_drop_some (a := 0) ⟨by omega, by omega⟩ (decide_eq_true h3) (fun j _ hj h => hkn j hj (of_decide_eq_true h))
        unfold sizeStep; rw [this]
      · rcases Nat.lt_or_ge j k with h6 | h6
        · exact hkn j h6
        · have : j = k := by omega
          subst this; exact h3
    · have : sizeAt n l i = none := find_drop_none (a := 0) (fun j _ hj h => hkn j (by omega) (of_decide_eq_true h))
      unfold sizeStep; rw [this]
  have hi' : i = n.toNat := by omega
  have hzb := sizeM_bd (l := l) ⟨hn1, hn2⟩ i (by omega)
  rw [← hz] at hzb
  have hzs : z = sizeM n l := by rw [hz, hi', sizeM_eq]
  clear hz h1 hi hi'
  refine ⟨fun v => ∃ s : Nat, v = s ∧ s ≤ l.length ∧ ∀ j, j < s → firstAt l z j = none, fun v => l.length - v.toNat, ⟨0, rfl, by omega, by omega⟩, ?_⟩
  rintro _ ⟨s, rfl, hs, hsn⟩
  refine ⟨fun h2 => ?_, fun h2 => ?_⟩
  rotate_left
  · show [] = firstM n l
    unfold firstM
    rw [← hzs, findSome_range_none fun j hj => hsn j (by omega)]; rfl
  have hc := hl _ (lat_mem (xs := l) (i := s) ⟨by omega, by omega⟩)
  rw [lat_nat] at hc ⊢
  rw [tableM_at ⟨by omega, by omega⟩]
  have hd0 := fun k e => hbd (l.getD s default).f s hc.1 k e
  have hd1 := hd0 (z - 1).toNat (l.getD s default).t.toNat (by omega)
  refine ⟨firstAt l z s = none, fun hJ => ⟨by unfold inI; omega, ⟨s + 1, by omega, by omega, fun j hj => ?_⟩, by dsimp only; omega⟩, by omega, by unfold inI; omega, ⟨by omega, hlen, hl, hc.1, by omega⟩, by unfold inI; omega, by rw [tableM_len]; omega, by omega, fun _ _ => by unfold inI; omega, fun h3 => firstAt_none h3, fun h3 => ?_⟩
  · rcases Nat.lt_or_ge j s with h6 | h6
    · exact hsn j h6
    · have : j = s := by omega
      subst this; exact hJ
  have hfs := firstAt_some h3
  refine ⟨fun a t out => ∃ k : Nat, firstAt l z s = chainC l (tabD l (l.getD s default).f s) z s k out a t ∧ z ≤ k + out.length ∧ 1 ≤ out.length ∧ (out.length : Int) ≤ z ∧ -(out.length * 1125899906842624) ≤ t ∧ t ≤ out.length * 1125899906842624, fun _ _ out => z.toNat - out.length, ⟨z.toNat, hfs, by omega, by simp only [List.length_append, List.length_cons, List.length_nil]; omega, by simp only [List.length_append, List.length_cons, List.length_nil]; omega, by simp only [List.length_append, List.length_cons, List.length_nil]; omega, by simp only [List.length_append, List.length_cons, List.length_nil]; omega⟩, ?_⟩
  rintro a t out ⟨k, hk, hkz, ho1, hoz, ht1, ht2⟩
  refine ⟨fun h4 => ⟨by unfold inI; omega, fun v => (∃ i : Nat, v = i ∧ i < l.length ∧ nextC l (tabD l (l.getD s default).f s) z s out.length a t = some i) ∨ (v = l.length ∧ nextC l (tabD l (l.getD s default).f s) z s out.length a t = none), fun v hv => ⟨fun h5 => ?_, fun h5 => ?_⟩, fun v => ∃ i : Nat, v = i ∧ s + 1 ≤ i ∧ i ≤ l.length ∧ ∀ j, s + 1 ≤ j → j < i → ¬ ((l.getD j default).f = a ∧ plusM (t + (l.getD j default).m) (vat (tabD l (l.getD s default).f s (z - out.length - 1).toNat) (l.getD j default).t.toNat) < 0), fun v => l.length - v.toNat, ⟨s + 1, by omega, by omega, by omega, by omega⟩, ?_⟩, fun h4 => ?_⟩
  · obtain ⟨k, rfl⟩ : ∃ k', k = k' + 1 := ⟨k - 1, by omega⟩
    rcases hv with ⟨i, rfl, hi, hx⟩ | ⟨-, hx⟩
    · omega
    · rw [hk, chain_none h4 hx]
  · obtain ⟨k, rfl⟩ : ∃ k', k = k' + 1 := ⟨k - 1, by omega⟩
    rcases hv with ⟨i, rfl, hi, hx⟩ | ⟨hx, -⟩
    · have hci := hl _ (lat_mem (xs := l) (i := i) ⟨by omega, by omega⟩)
      rw [lat_nat] at hci ⊢
      refine ⟨by simp only [List.length_append, List.length_cons, List.length_nil]; omega, by omega, by omega, by unfold inI; omega, ⟨k, by rw [hk, chain_some h4 hx], by simp only [List.length_append, List.length_cons, List.length_nil]; omega, by simp only [List.length_append, List.length_cons, List.length_nil]; omega, by simp only [List.length_append, List.length_cons, List.length_nil]; omega, by simp only [List.length_append, List.length_cons, List.length_nil]; omega, by simp only [List.length_append, List.length_cons, List.length_nil]; omega⟩, by simp only [List.length_append, List.length_cons, List.length_nil]; omega⟩
    · exact (h5 hx).elim
  · rintro _ ⟨i, rfl, hi1, hi2, hin⟩
    refine ⟨fun h5 => ?_, fun h5 => .inr ⟨by omega, find_drop_none fun j hj1 hj2 h => hin j hj1 (by omega) (of_decide_eq_true h)⟩⟩
    have hci := hl _ (lat_mem (xs := l) (i := i) ⟨by omega, by omega⟩)
    rw [lat_nat] at hci ⊢
    rw [tableM_at ⟨by omega, by omega⟩]
    have hd2 := hd0 (z - out.length - 1).toNat (l.getD i default).t.toNat (by omega)
    refine ⟨by omega, ⟨fun h6 => ⟨by unfold inI; omega, by unfold inI; omega, by unfold inI; omega, by rw [tableM_len]; omega, by omega, fun _ _ => by unfold inI; omega, trivial⟩, fun _ => trivial⟩, fun h6 => .inl ⟨i, rfl, by omega, find_drop_some ⟨hi1, by omega⟩ (decide_eq_true h6) fun j hj1 hj2 h => hin j hj1 hj2 (of_decide_eq_true h)⟩, fun h6 => ⟨by unfold inI; omega, ⟨i + 1, by omega, by omega, by omega, fun j hj1 hj2 => ?_⟩, by dsimp only; omega⟩⟩
    rcases Nat.lt_or_ge j i with h7 | h7
    · exact hin j hj1 h7
    · have : j = i := by omega
      subst this; exact h6
  · show out = firstM n l
    unfold firstM
    rw [← hzs, findSome_range_some (i := s) (by omega) (by rw [hk, chain_done h4]) hsn]; rfl
theorem spec_first (w : Wlk) (h0 : FirstOk w.n w.l) : FnP Try.prog 45 [.agg ((e88 true) w)] (fun xR => xR = .lst false (firstM w.n w.l).length (encL eInt (firstM w.n w.l))) :=
  (walk_first (vcp_first w h0)).mono (by rintro _ ⟨_, rfl, rfl⟩; rfl)
def vc_clone (s : (List Int)) (Post : (List Int) → Prop) : Prop :=
  ∃ J1 : Prop, (J1 → ((s).length ≤ 1073741824) ∧ Post s) ∧ ((0 < s.length → J1) ∧ (s.length = 0 → (Post []) ∧ (J1)))
set_option maxRecDepth 100000 in
set_option maxHeartbeats 4000000 in
theorem walk_clone {s : (List Int)} {Post : (List Int) → Prop} (hv : vc_clone s Post) : FnP Try.prog 61 [.lst true s.length (encL eInt s)] (fun x => ∃ q0, x = .lst false q0.length (encL eInt q0) ∧ Post q0) := by
 refine FnP.of_walk (T := tt) (nt := 8) ttOk ttMix ⟨⟨Try.f61, Try.func61, rfl, rfl, rfl, rfl⟩⟩ (by simp) ?_
 unfold vc_clone at hv
 change W _ _ _ ⟨8, look [(0, .lst true s.length (encL eInt s))], [], 0⟩ _
 refine W.tr [(0, .lst _ _ _)] [] ⟨rfl, trivial⟩ rfl ?_
 refine W.rL ?_
 refine cL rfl (o_assign (v := .nilS) rfl ?_)
 refine eL ?_
 refine W.tr [(0, .lst _ _ _)] [] ⟨rfl, trivial⟩ rfl ?_
 obtain ⟨J1, hj, hv⟩ := hv
 refine W.mid0 (⟨8, look [(0, .lst true s.length (encL eInt s))], [], 0⟩) J1 ?_ ?_
 intro hv
 replace hv := hj hv
 refine W.rL ?_
 refine cL rfl (o_buildS (q := 0) (qs := []) (cs := []) tt23 tt3 rfl rfl rfl rfl ?_)
 refine mL rfl rfl ?_
 obtain ⟨s1, hv⟩ := hv
 refine cL rfl (o_apR (p := 1) (q := (s).length) tt23 tt3 rfl rfl (src_lst (encInt.wd true) _ _ rfl) (encL_length (encInt.wd true) _) rfl rfl (by simpa using s1) rfl (Nat.zero_add _) (List.nil_append _) ?_)
 refine cL rfl (o_assign (v := .ref _ _ _) rfl ?_)
 refine eL ?_
 refine W.tr [(2, .ref _ _ _)] [.dead, .row _ _ _] ⟨rfl, trivial⟩ rfl ?_
 refine W.ret ?_
 refine rt ?_
 refine rt_t (v := .ref _ _ _) rfl ?_
 refine rt_n ?_
 exact ⟨_, rs_ref encInt 4 _ rfl rfl, s, rfl, hv⟩
 clear hj
 refine W.rL ?_
 refine mL rfl rfl ?_
 refine cL rfl (o_nilEL tt23 rfl ⟨fun hz => ?_, fun hz => ⟨?_, ?_⟩⟩)
 have hv := hv.1 hz
 refine eL ?_
 refine W.tr [(0, .lst _ _ _), (4, .bool _)] [] ⟨rfl, rfl, trivial⟩ rfl ?_
 refine W.cF rfl ?_
 refine W.skip ?_
 exact th_nrm (⟨(), hv, St.to_mk (φ := []) rfl (rfl) ⟨Ren.lst _ _ _, trivial⟩ trivial⟩)
 have hv := (hv.2 hz).1
 refine eL ?_
 refine W.tr [(0, .lst _ _ _), (4, .bool _)] [] ⟨rfl, rfl, trivial⟩ rfl ?_
 refine W.cT rfl ?_
 refine W.rL ?_
 refine cL rfl (o_assign (v := .nilS) rfl ?_)
 refine eL ?_
 refine W.tr [(2, .nilS)] [] ⟨rfl, trivial⟩ rfl ?_
 refine W.ret ?_
 refine th_ret (rt ?_)
 refine rt_t (v := .nilS) rfl ?_
 refine rt_n ?_
 exact ⟨_, rs_nil _ _ _ _ rfl, [], rfl, hv⟩
 have hv := (hv.2 hz).2
 refine eL ?_
 refine W.tr [(0, .lst _ _ _), (4, .bool _)] [] ⟨rfl, rfl, trivial⟩ rfl ?_
 refine W.cF rfl ?_
 refine W.skip ?_
 exact th_nrm (⟨(), hv, St.to_mk (φ := []) rfl (rfl) ⟨Ren.lst _ _ _, trivial⟩ trivial⟩)
theorem vcp_clone (s : (List Int)) (h0 : s.length ≤ 1073741824) : vc_clone s (fun q0 => q0 = (s)) := by
  unfold vc_clone
  exact ⟨True, fun _ => ⟨h0, rfl⟩, fun _ => trivial, fun h => ⟨(List.eq_nil_of_length_eq_zero h).symm, trivial⟩⟩
theorem spec_clone (s : (List Int)) (h0 : s.length ≤ 1073741824) : FnP Try.prog 61 [.lst true s.length (encL eInt s)] (fun xR => xR = .lst false (s).length (encL eInt (s))) :=
  (walk_clone (vcp_clone s h0)).mono (by rintro _ ⟨_, rfl, rfl⟩; rfl)
def vc_bounds (m : (Vector Int 576)) (n : Int) (Post : Bd → Prop) : Prop :=
  ∃ (I1 : Int → Int → List (List Int) → Prop) (μ1 : Int → Int → List (List Int) → Nat), I1 (0 : Int) n [] ∧ ∀ (v10 : Int) (b1n : Int) (r2 : List (List Int)), I1 v10 b1n r2 → ((v10 < n) → (0 ≤ v10 ∧ v10 < ((24 : Nat) : Int)) ∧ (0 ≤ ((0 : Nat) : Int) ∧ ((0 : Nat) : Int) ≤ n ∧ n ≤ ((24 : Nat) : Int)) ∧ (v10.toNat * 24 + 24 ≤ 576) ∧ (((m.toList.drop (v10.toNat * 24)).take n.toNat).length ≤ 1073741824) ∧ ((r2 ++ [((m.toList.drop (v10.toNat * 24)).take n.toNat)]).length ≤ 1073741824) ∧ (inI (v10 + (1 : Int))) ∧ (I1 (v10 + (1 : Int)) b1n (r2 ++ [((m.toList.drop (v10.toNat * 24)).take n.toNat)]) ∧ μ1 (v10 + (1 : Int)) b1n (r2 ++ [((m.toList.drop (v10.toNat * 24)).take n.toNat)]) < μ1 v10 b1n r2)) ∧ (¬ (v10 < n) → Post (Bd.mk b1n r2))
set_option maxRecDepth 100000 in
set_option maxHeartbeats 4000000 in
theorem walk_bounds {m : (Vector Int 576)} {n : Int} {Post : Bd → Prop} (hv : vc_bounds m n Post) : FnP Try.prog 46 [.ipt true (encL eInt m.toList), .int .i64 n] (fun x => ∃ q0, x = .agg ((e53 false) q0) ∧ Post q0) := by
 refine FnP.of_walk (T := tt) (nt := 27) ttOk ttMix ⟨⟨Try.f46, Try.func46, rfl, rfl, rfl, rfl⟩⟩ (by simp) ?_
 unfold vc_bounds at hv
 change W _ _ _ ⟨27, look [(0, .ipt true (encL eInt m.toList)), (1, .int .i64 n)], [], 0⟩ _
 refine W.tr [(0, .ipt _ _), (1, .int _ _)] [] ⟨rfl, rfl, trivial⟩ rfl ?_
 refine W.rL ?_
 refine cL rfl (o_alloc (p := 0) tt53 rfl rfl ?_)
 refine eL ?_
 refine W.tr [(0, .ipt _ _), (1, .int _ _), (4, .ptr _ _)] [.box _ [.int _ _, .nilS]] ⟨rfl, rfl, rfl, trivial⟩ rfl ?_
 refine W.rL ?_
 refine mI rfl rfl ?_
 refine cL rfl (o_build (qs := [(0, .int _ _)]) (cs := [.int _ _, .nilS]) tt53 rfl rfl rfl ?_)
 refine cL rfl (o_alloc (p := 1) tt53 rfl rfl ?_)
 refine cLn (o_stB (v := .agg _) (vs := [.int _ _, .nilS]) (cs2 := [.int _ _, .nilS]) tt53 rfl rfl rfl rfl rfl (Nat.le_of_ble_eq_true rfl) rfl ?_)
 refine eL ?_
 refine W.tr [(0, .ipt _ _), (1, .int _ _), (4, .ptr _ _), (5, .ptr _ _)] [.box _ [.int _ _, .nilS], .box _ [.int _ _, .nilS]] ⟨rfl, rfl, rfl, rfl, trivial⟩ rfl ?_
 refine W.seq' ?_
 refine W.rL ?_
 iterate 2 refine mI rfl rfl ?_
 refine eL ?_
 refine W.tr [(0, .ipt _ _), (1, .int _ _), (4, .ptr _ _), (5, .ptr _ _), (9, .int _ _), (10, .int _ _)] [.box _ [.int _ _, .nilS], .box _ [.int _ _, .nilS]] ⟨rfl, rfl, rfl, rfl, rfl, rfl, trivial⟩ rfl ?_
 refine W.block ?_
 obtain ⟨I1, μ1, hp, hv⟩ := hv
 refine W.loop3 (fun v10 b1n r2 => ⟨27, look [(0, .ipt true (encL eInt m.toList)), (1, .int .i64 n), (4, .ptr 0 0), (5, .ptr 1 0), (9, .int .i64 n), (10, .int .i64 v10)], [.box 53 [.int .i64 (0 : Int), .nilS], .box 53 [.int .i64 b1n, .ref true 2 r2.length], .row 23 1 (encL (eSl eInt false) r2)], 0⟩) I1 μ1 (0 : Int) n [] (St.to_mk (φ := [some 0, some 1, none]) rfl (rfl) ⟨Ren.ipt _ _, Ren.int _ _, Ren.ptr rfl, Ren.ptr rfl, Ren.int _ _, Ren.int _ _, trivial⟩ ⟨.inr ⟨_, rfl, rfl, Rens.cons (Ren.int _ _) (Rens.cons (Ren.nilS) (Rens.nil))⟩, .inr ⟨_, rfl, rfl, Rens.cons (Ren.int _ _) (Rens.cons (Ren.nilR rfl rfl) (Rens.nil))⟩, rfl, trivial⟩) hp ?_
 clear hp
 intro v10 b1n r2 hI
 replace hv := hv v10 b1n r2 hI
 clear hI
 refine W.rL ?_
 refine cL rfl (o_lss rfl rfl ?_)
 refine eL ?_
 refine W.tr [(0, .ipt _ _), (1, .int _ _), (4, .ptr _ _), (5, .ptr _ _), (9, .int _ _), (10, .int _ _), (11, .bool _)] [.box _ [.int _ _, .nilS], .box _ [.int _ _, .ref _ _ _], .row _ _ _] ⟨rfl, rfl, rfl, rfl, rfl, rfl, rfl, trivial⟩ rfl ?_
 refine W.seq' ?_
 refine W.cn rfl (fun hc => ?_) (fun hc => ?_)
 have hv := hv.1 hc
 refine W.skip ?_
 refine th_nrm ?_
 refine W.tr [(0, .ipt _ _), (1, .int _ _), (4, .ptr _ _), (5, .ptr _ _), (9, .int _ _), (10, .int _ _)] [.box _ [.int _ _, .nilS], .box _ [.int _ _, .ref _ _ _], .row _ _ _] ⟨rfl, rfl, rfl, rfl, rfl, rfl, trivial⟩ rfl ?_
 refine W.seq' ?_
 refine W.block ?_
 refine W.rL ?_
 refine mI rfl rfl ?_
 refine aI rfl rfl ?_
 refine eL ?_
 refine W.tr [(0, .ipt _ _), (1, .int _ _), (4, .ptr _ _), (5, .ptr _ _), (6, .int _ _), (9, .int _ _), (10, .int _ _)] [.box _ [.int _ _, .nilS], .box _ [.int _ _, .ref _ _ _], .row _ _ _] ⟨rfl, rfl, rfl, rfl, rfl, rfl, rfl, trivial⟩ rfl ?_
 refine W.rD1 [0, 1, 2, 3, 4, 5, 6, 7, 8, 9, 10, 11, 12] (by decide +kernel) rfl ?_
 refine cL rfl (o_fa tt53 rfl tt51 rfl ?_)
 refine cL rfl (o_ldS (v := .ref _ _ _) tt51 rfl rfl ⟨_, rfl⟩ ?_)
 refine cL rfl (o_move (v := .ipt _ _) rfl ?_)
 refine mI rfl rfl ?_
 refine cL rfl (o_nilP (fl := true) rfl ?_)
 obtain ⟨s57, hv⟩ := hv
 refine cL rfl (o_iaP tt108 tt104 rfl rfl s57 ?_)
 refine mI rfl rfl ?_
 obtain ⟨s58, s59, hv⟩ := hv
 refine cL rfl (o_slW (ys := (m.toList.drop (v10.toNat * 24)).take n.toNat) tt104 tt3 rfl rfl s58 s59 rfl ?_)
 obtain ⟨s60, hv⟩ := hv
 refine cL rfl (o_callP1 (k := 61) (fst := []) (caps := []) (ys := [.lst _ _ _]) rfl rfl (spec_clone ((m.toList.drop (v10.toNat * 24)).take n.toNat) s60) (Wks.cons (ag_lst _ _ _ _ _) (Wks.refl _)) ?_)
 refine cL rfl (o_bs1 (v := .lst _ _ _) (q := 3) tt51 tt23 rfl rfl rfl rfl rfl rfl rfl rfl ?_)
 obtain ⟨s61, hv⟩ := hv
 refine cL rfl (o_apR (p := 4) (q := (r2 ++ [((m.toList.drop (v10.toNat * 24)).take n.toNat)]).length) tt51 tt23 rfl rfl (src_ref rfl rfl) rfl rfl (encL_length ((encSl eInt).wd false) _) (Nat.le_trans (Nat.le_of_eq (@List.length_append _ (r2) ([((m.toList.drop (v10.toNat * 24)).take n.toNat)])).symm) s61) rfl (@List.length_append _ (r2) ([((m.toList.drop (v10.toNat * 24)).take n.toNat)])).symm (encL_app (eSl eInt false) r2 [((m.toList.drop (v10.toNat * 24)).take n.toNat)]) ?_)
 refine cL rfl (o_fa tt53 rfl tt51 rfl ?_)
 refine cLn (o_stB (v := .ref _ _ _) (vs := [.ref _ _ _]) (cs2 := [.int _ _, .ref _ _ _]) tt51 rfl rfl rfl rfl rfl (Nat.le_of_ble_eq_true rfl) rfl ?_)
 refine eL ?_
 refine bl_nrm (th_nrm ?_)
 refine W.tr [(0, .ipt _ _), (1, .int _ _), (4, .ptr _ _), (5, .ptr _ _), (9, .int _ _), (10, .int _ _)] [.box _ [.int _ _, .nilS], .box _ [.int _ _, .ref _ _ _], .dead, .row _ _ _, .row _ _ _] ⟨rfl, rfl, rfl, rfl, rfl, rfl, trivial⟩ rfl ?_
 refine W.rL1 ?_
 obtain ⟨s62, hv⟩ := hv
 refine cL rfl (o_add rfl rfl s62 ?_)
 refine mI rfl rfl ?_
 refine eL ?_
 exact th_nrm (⟨(), (v10 + (1 : Int)), b1n, (r2 ++ [((m.toList.drop (v10.toNat * 24)).take n.toNat)]), hv, St.to_mk (φ := [some 0, some 1, some 4]) rfl (rfl) ⟨Ren.ipt _ _, Ren.int _ _, Ren.ptr rfl, Ren.ptr rfl, Ren.int _ _, Ren.int _ _, trivial⟩ ⟨.inr ⟨_, rfl, rfl, Rens.cons (Ren.int _ _) (Rens.cons (Ren.nilS) (Rens.nil))⟩, .inr ⟨_, rfl, rfl, Rens.cons (Ren.int _ _) (Rens.cons (Ren.ref rfl (fun h => rfl)) (Rens.nil))⟩, .inr ⟨_, rfl, rfl, rfl, rfl, Rens.enc (encSl eInt) false (r2 ++ [((m.toList.drop (v10.toNat * 24)).take n.toNat)])⟩, trivial⟩⟩)
 have hv := hv.2 hc
 refine W.exit ?_
 refine th_exit (th_exit (bl_hit (th_nrm ?_)))
 refine W.tr [(4, .ptr _ _), (5, .ptr _ _)] [.box _ [.int _ _, .nilS], .box _ [.int _ _, .ref _ _ _], .row _ _ _] ⟨rfl, rfl, trivial⟩ rfl ?_
 refine W.rL ?_
 refine cL rfl (o_ldA (cs := [.int _ _, .ref _ _ _]) tt53 rfl rfl ⟨_, rfl⟩ rfl ?_)
 refine cLn (o_stB (v := .agg _) (vs := [.int _ _, .ref _ _ _]) (cs2 := [.int _ _, .ref _ _ _]) tt53 rfl rfl rfl rfl rfl (Nat.le_of_ble_eq_true rfl) rfl ?_)
 refine eL ?_
 refine W.tr [(4, .ptr _ _)] [.box _ [.int _ _, .ref _ _ _], .box _ [.int _ _, .ref _ _ _], .row _ _ _] ⟨rfl, trivial⟩ rfl ?_
 refine W.ret ?_
 refine rt ?_
 refine rt_c (x := .ptr _ _) rfl (ldA (cs := [.int _ _, .ref _ _ _]) tt53 rfl ⟨_, rfl⟩ rfl ?_)
 refine rt_n ?_
 exact ⟨_, rs_agg 5 _ (Wks.cons (rs_int _ _ _ _) (Wks.cons (rs_ref (encSl eInt) 3 _ rfl rfl) (Wks.refl _))), (Bd.mk b1n r2), rfl, hv⟩
theorem vcp_bounds (m : (Vector Int 576)) (n : Int) (h0 : 1 ≤ n ∧ n ≤ 24) : vc_bounds m n (fun q0 => q0 = (boundsM m n)) := by
  unfold vc_bounds
  refine ⟨fun v b l => ∃ i : Nat, v = i ∧ i ≤ n.toNat ∧ b = n ∧ l = (List.range i).map fun i => (m.toList.drop (i * 24)).take n.toNat, fun v _ _ => n.toNat - v.toNat, ⟨0, rfl, by omega, rfl, rfl⟩, ?_⟩
  rintro _ _ _ ⟨i, rfl, hi, hb, rfl⟩
  refine ⟨fun h1 => ⟨by omega, by omega, by omega, by simp; omega, by simp; omega, by unfold inI; omega, ⟨i + 1, by omega, by omega, hb, ?_⟩, by dsimp only; omega⟩, fun h1 => ?_⟩
  · rw [List.range_succ, List.map_append]; simp
  · have : i = n.toNat := by omega
    subst this; subst hb; unfold boundsM; rfl
theorem spec_bounds (m : (Vector Int 576)) (n : Int) (h0 : 1 ≤ n ∧ n ≤ 24) : FnP Try.prog 46 [.ipt true (encL eInt m.toList), .int .i64 n] (fun xR => xR = .agg ((e53 false) (boundsM m n))) :=
  (walk_bounds (vcp_bounds m n h0)).mono (by rintro _ ⟨_, rfl, rfl⟩; rfl)
def vc_close (n : Int) (l : (List Con)) (Post : Bd → (List Int) → Int → Prop) : Prop :=
  (l.length ≤ 1073741824) ∧ ((¬ ((validM n l) = true)) → Post (Bd.mk 0 []) [] (2 : Int)) ∧ (¬ (¬ ((validM n l) = true)) → ∃ (I1 : Int → (Vector Int 576) → Prop) (μ1 : Int → (Vector Int 576) → Nat), I1 (0 : Int) freeM ∧ ∀ (v18 : Int) (m1 : (Vector Int 576)), I1 v18 m1 → ((v18 < ((l.length : Nat) : Int)) → (0 ≤ v18 ∧ v18 < (l.length : Int)) ∧ (AddOk m1 ((lat l v18).f) ((lat l v18).t) ((lat l v18).m)) ∧ ((¬ (((addM m1 ((lat l v18).f) ((lat l v18).t) ((lat l v18).m)).1) = true)) → (FirstOk (Wlk.mk n l).n (Wlk.mk n l).l) ∧ Post (Bd.mk 0 []) (firstM (Wlk.mk n l).n (Wlk.mk n l).l) (70 : Int)) ∧ (¬ (¬ (((addM m1 ((lat l v18).f) ((lat l v18).t) ((lat l v18).m)).1) = true)) → (inI (v18 + (1 : Int))) ∧ (I1 (v18 + (1 : Int)) ((addM m1 ((lat l v18).f) ((lat l v18).t) ((lat l v18).m)).2) ∧ μ1 (v18 + (1 : Int)) ((addM m1 ((lat l v18).f) ((lat l v18).t) ((lat l v18).m)).2) < μ1 v18 m1))) ∧ (¬ (v18 < ((l.length : Nat) : Int)) → (1 ≤ n ∧ n ≤ 24) ∧ Post (boundsM m1 n) [] (0 : Int)))
set_option maxRecDepth 100000 in
set_option maxHeartbeats 4000000 in
theorem walk_close {n : Int} {l : (List Con)} {Post : Bd → (List Int) → Int → Prop} (hv : vc_close n l Post) : FnP Try.prog 26 [.int .i64 n, .lst true l.length (encL e66 l)] (fun x => ∃ q0 q1 q2, x = .tup [.agg ((e53 false) q0), .lst false q1.length (encL eInt q1), .int .i64 q2] ∧ Post q0 q1 q2) := by
 refine FnP.of_walk (T := tt) (nt := 40) ttOk ttMix ⟨⟨Try.f26, Try.func26, rfl, rfl, rfl, rfl⟩⟩ (by simp) ?_
 unfold vc_close at hv
 change W _ _ _ ⟨40, look [(0, .int .i64 n), (1, .lst true l.length (encL e66 l))], [], 0⟩ _
 refine W.tr [(0, .int _ _), (1, .lst _ _ _)] [] ⟨rfl, rfl, trivial⟩ rfl ?_
 refine W.rL ?_
 refine cL rfl (o_alloc (p := 0) tt53 rfl rfl ?_)
 refine cL rfl (o_assign (v := .nilS) rfl ?_)
 refine aI rfl rfl ?_
 refine eL ?_
 refine W.tr [(0, .int _ _), (1, .lst _ _ _), (4, .ptr _ _)] [.box _ [.int _ _, .nilS]] ⟨rfl, rfl, rfl, trivial⟩ rfl ?_
 refine W.seq' ?_
 refine W.rL ?_
 refine mI rfl rfl ?_
 refine mL rfl rfl ?_
 obtain ⟨s2, hv⟩ := hv
 refine cL rfl (o_callP1 (k := 42) (fst := []) (caps := []) (ys := [.int _ _, .lst _ _ _]) rfl rfl (spec_valid n l s2) (Wks.cons (ag_int _ _ _ _) (Wks.cons (ag_lst _ _ _ _ _) (Wks.refl _))) ?_)
 refine cL rfl (o_notB rfl ?_)
 refine eL ?_
 refine W.tr [(0, .int _ _), (1, .lst _ _ _), (4, .ptr _ _), (13, .bool _)] [.box _ [.int _ _, .nilS]] ⟨rfl, rfl, rfl, rfl, trivial⟩ rfl ?_
 refine W.cn rfl (fun hc => ?_) (fun hc => ?_)
 have hv := hv.1 hc
 refine W.rL ?_
 refine cL rfl (o_build (qs := []) (cs := [.int _ _, .nilS]) tt53 rfl rfl rfl ?_)
 refine cLn (o_stB (v := .agg _) (vs := [.int _ _, .nilS]) (cs2 := [.int _ _, .nilS]) tt53 rfl rfl rfl rfl rfl (Nat.le_of_ble_eq_true rfl) rfl ?_)
 refine cL rfl (o_assign (v := .nilS) rfl ?_)
 refine aI rfl rfl ?_
 refine eL ?_
 refine W.tr [(4, .ptr _ _), (5, .nilS), (6, .int _ _)] [.box _ [.int _ _, .nilS]] ⟨rfl, rfl, rfl, trivial⟩ rfl ?_
 refine W.ret ?_
 refine th_ret (rt ?_)
 refine rt_c (x := .ptr _ _) rfl (ldA (cs := [.int _ _, .nilS]) tt53 rfl ⟨_, rfl⟩ rfl ?_)
 refine rt_t (v := .nilS) rfl ?_
 refine rt_t (v := .int _ _) rfl ?_
 refine rt_n ?_
 exact ⟨_, rs_tup 5 _ (Wks.cons (rs_agg 4 _ (Wks.cons (rs_int _ _ _ _) (Wks.cons (rs_nil _ _ _ _ rfl) (Wks.refl _)))) (Wks.cons (rs_nil _ _ _ _ rfl) (Wks.cons (rs_int _ _ _ _) (Wks.refl _)))), (Bd.mk 0 []), [], (2 : Int), rfl, hv⟩
 have hv := hv.2 hc
 refine W.skip ?_
 refine th_nrm ?_
 refine W.tr [(0, .int _ _), (1, .lst _ _ _), (4, .ptr _ _)] [.box _ [.int _ _, .nilS]] ⟨rfl, rfl, rfl, trivial⟩ rfl ?_
 refine W.rH ?_
 refine cHc rfl (callH_N1 (xs := _) (spec_free) (Wks.refl _) flatI rfl ?_)
 refine cH rfl (o_assign (v := .ptr _ _) rfl ?_)
 refine eH ?_
 refine W.tr [(0, .int _ _), (1, .lst _ _ _), (4, .ptr _ _), (7, .ptr _ _)] [.box _ [.int _ _, .nilS], .box _ _] ⟨rfl, rfl, rfl, rfl, trivial⟩ rfl ?_
 refine W.seq' ?_
 refine W.rL ?_
 refine mL rfl rfl ?_
 refine cL rfl (o_len (v := .lst _ _ _) tt28 rfl rfl ?_)
 refine mI rfl rfl ?_
 refine eL ?_
 refine W.tr [(0, .int _ _), (1, .lst _ _ _), (4, .ptr _ _), (7, .ptr _ _), (16, .lst _ _ _), (17, .int _ _), (18, .int _ _)] [.box _ [.int _ _, .nilS], .box _ _] ⟨rfl, rfl, rfl, rfl, rfl, rfl, rfl, trivial⟩ rfl ?_
 refine W.block ?_
 obtain ⟨I1, μ1, hp, hv⟩ := hv
 refine W.loop2 (fun v18 m1 => ⟨40, look [(0, .int .i64 n), (1, .lst true l.length (encL e66 l)), (4, .ptr 0 0), (7, .ptr 1 0), (16, .lst true l.length (encL e66 l)), (17, .int .i64 ((l.length : Nat) : Int)), (18, .int .i64 v18)], [.box 53 [.int .i64 (0 : Int), .nilS], .box 108 (encL eInt m1.toList)], 0⟩) I1 μ1 (0 : Int) freeM (St.to_mk (φ := [some 0, some 1]) rfl (rfl) ⟨Ren.int _ _, Ren.lst _ _ _, Ren.ptr rfl, Ren.ptr rfl, Ren.lst _ _ _, Ren.int _ _, Ren.int _ _, trivial⟩ ⟨.inr ⟨_, rfl, rfl, Rens.cons (Ren.int _ _) (Rens.cons (Ren.nilS) (Rens.nil))⟩, .inr ⟨_, rfl, rfl, Rens.enc encInt true _⟩, trivial⟩) hp ?_
 clear hp
 intro v18 m1 hI
 replace hv := hv v18 m1 hI
 clear hI
 refine W.rL ?_
 refine cL rfl (o_lss rfl rfl ?_)
 refine eL ?_
 refine W.tr [(0, .int _ _), (1, .lst _ _ _), (4, .ptr _ _), (7, .ptr _ _), (16, .lst _ _ _), (17, .int _ _), (18, .int _ _), (19, .bool _)] [.box _ [.int _ _, .nilS], .box _ _] ⟨rfl, rfl, rfl, rfl, rfl, rfl, rfl, rfl, trivial⟩ rfl ?_
 refine W.seq' ?_
 refine W.cn rfl (fun hc => ?_) (fun hc => ?_)
 have hv := hv.1 hc
 refine W.skip ?_
 refine th_nrm ?_
 refine W.tr [(0, .int _ _), (1, .lst _ _ _), (4, .ptr _ _), (7, .ptr _ _), (16, .lst _ _ _), (17, .int _ _), (18, .int _ _)] [.box _ [.int _ _, .nilS], .box _ _] ⟨rfl, rfl, rfl, rfl, rfl, rfl, rfl, trivial⟩ rfl ?_
 refine W.seq' ?_
 refine W.block ?_
 refine W.rL ?_
 obtain ⟨s41, hv⟩ := hv
 refine cL rfl (o_iaL tt28 tt66 rfl rfl (enc66.wd true) rfl s41 ?_)
 intro rest41
 refine cL rfl (o_ldA (cs := [.int _ _, .int _ _, .int _ _, .int _ _]) tt66 rfl rfl ⟨_, rfl⟩ rfl ?_)
 refine cL rfl (o_alloc (p := 2) tt66 rfl rfl ?_)
 refine cLn (o_stB (v := .agg _) (vs := [.int _ _, .int _ _, .int _ _, .int _ _]) (cs2 := [.int _ _, .int _ _, .int _ _, .int _ _]) tt66 rfl rfl rfl rfl rfl (Nat.le_of_ble_eq_true rfl) rfl ?_)
 refine eL ?_
 refine W.tr [(0, .int _ _), (1, .lst _ _ _), (4, .ptr _ _), (7, .ptr _ _), (9, .ptr _ _), (16, .lst _ _ _), (17, .int _ _), (18, .int _ _)] [.box _ [.int _ _, .nilS], .box _ _, .box _ [.int _ _, .int _ _, .int _ _, .int _ _]] ⟨rfl, rfl, rfl, rfl, rfl, rfl, rfl, rfl, trivial⟩ rfl ?_
 refine W.rH ?_
 refine cH rfl (o_move (v := .ptr _ _) rfl ?_)
 refine cH rfl (o_fa tt66 rfl tt3 rfl ?_)
 refine cH rfl (o_ldS (v := .int _ _) tt3 rfl rfl ⟨_, rfl⟩ ?_)
 refine cH rfl (o_fa tt66 rfl tt3 rfl ?_)
 refine cH rfl (o_ldS (v := .int _ _) tt3 rfl rfl ⟨_, rfl⟩ ?_)
 refine cH rfl (o_fa tt66 rfl tt3 rfl ?_)
 refine cH rfl (o_ldS (v := .int _ _) tt3 rfl rfl ⟨_, rfl⟩ ?_)
 obtain ⟨s42, hv⟩ := hv
 refine cHc rfl (callH_M1 (spec_add m1 ((lat l v18).f) ((lat l v18).t) ((lat l v18).m) s42) rfl flatI flatI rfl (.inl ⟨_, rfl, rfl⟩) (Wks.cons (ag_int _ _ _ _) (Wks.cons (ag_int _ _ _ _) (Wks.cons (ag_int _ _ _ _) (Wks.refl _)))) ?_)
 refine cH rfl (o_notB rfl ?_)
 refine eH ?_
 refine W.tr [(0, .int _ _), (1, .lst _ _ _), (4, .ptr _ _), (7, .ptr _ _), (16, .lst _ _ _), (17, .int _ _), (18, .int _ _), (30, .bool _)] [.box _ [.int _ _, .nilS], .box _ _, .box _ [.int _ _, .int _ _, .int _ _, .int _ _]] ⟨rfl, rfl, rfl, rfl, rfl, rfl, rfl, rfl, trivial⟩ rfl ?_
 refine W.cn rfl (fun hc => ?_) (fun hc => ?_)
 have hv := hv.1 hc
 refine W.rL ?_
 refine cL rfl (o_build (qs := []) (cs := [.int _ _, .nilS]) tt53 rfl rfl rfl ?_)
 refine mI rfl rfl ?_
 refine mL rfl rfl ?_
 refine cL rfl (o_build (qs := [(0, .int _ _), (1, .lst _ _ _)]) (cs := [.int _ _, .lst _ _ _]) tt88 rfl rfl rfl ?_)
 obtain ⟨s43, hv⟩ := hv
 refine cL rfl (o_callP1 (k := 45) (fst := []) (caps := []) (ys := [.agg _]) rfl rfl (spec_first (Wlk.mk n l) s43) (Wks.cons (ag_agg 5 _ (Wks.cons (ag_int _ _ _ _) (Wks.cons (ag_lst _ _ _ _ _) (Wks.refl _)))) (Wks.refl _)) ?_)
 refine cLn (o_stB (v := .agg _) (vs := [.int _ _, .nilS]) (cs2 := [.int _ _, .nilS]) tt53 rfl rfl rfl rfl rfl (Nat.le_of_ble_eq_true rfl) rfl ?_)
 refine aL rfl rfl ?_
 refine aI rfl rfl ?_
 refine eL ?_
 refine W.tr [(4, .ptr _ _), (5, .lst _ _ _), (6, .int _ _)] [.box _ [.int _ _, .nilS], .box _ _, .box _ [.int _ _, .int _ _, .int _ _, .int _ _]] ⟨rfl, rfl, rfl, trivial⟩ rfl ?_
 refine W.ret ?_
 refine bl_ret (th_ret (th_ret (bl_ret (th_ret (rt ?_)))))
 refine rt_c (x := .ptr _ _) rfl (ldA (cs := [.int _ _, .nilS]) tt53 rfl ⟨_, rfl⟩ rfl ?_)
 refine rt_t (v := .lst _ _ _) rfl ?_
 refine rt_t (v := .int _ _) rfl ?_
 refine rt_n ?_
 exact ⟨_, rs_tup 5 _ (Wks.cons (rs_agg 4 _ (Wks.cons (rs_int _ _ _ _) (Wks.cons (rs_nil _ _ _ _ rfl) (Wks.refl _)))) (Wks.cons (rs_lst _ _ _ _) (Wks.cons (rs_int _ _ _ _) (Wks.refl _)))), (Bd.mk 0 []), (firstM (Wlk.mk n l).n (Wlk.mk n l).l), (70 : Int), rfl, hv⟩
 have hv := hv.2 hc
 refine W.skip ?_
 refine bl_nrm (th_nrm ?_)
 refine W.tr [(0, .int _ _), (1, .lst _ _ _), (4, .ptr _ _), (7, .ptr _ _), (16, .lst _ _ _), (17, .int _ _), (18, .int _ _)] [.box _ [.int _ _, .nilS], .box _ _, .box _ [.int _ _, .int _ _, .int _ _, .int _ _]] ⟨rfl, rfl, rfl, rfl, rfl, rfl, rfl, trivial⟩ rfl ?_
 refine W.rL1 ?_
 obtain ⟨s44, hv⟩ := hv
 refine cL rfl (o_add rfl rfl s44 ?_)
 refine mI rfl rfl ?_
 refine eL ?_
 exact th_nrm (⟨(), (v18 + (1 : Int)), ((addM m1 ((lat l v18).f) ((lat l v18).t) ((lat l v18).m)).2), hv, St.to_mk (φ := [some 0, some 1]) rfl (rfl) ⟨Ren.int _ _, Ren.lst _ _ _, Ren.ptr rfl, Ren.ptr rfl, Ren.lst _ _ _, Ren.int _ _, Ren.int _ _, trivial⟩ ⟨.inr ⟨_, rfl, rfl, Rens.cons (Ren.int _ _) (Rens.cons (Ren.nilS) (Rens.nil))⟩, .inr ⟨_, rfl, rfl, Rens.enc encInt true _⟩, trivial⟩⟩)
 have hv := hv.2 hc
 refine W.exit ?_
 refine th_exit (th_exit (bl_hit (th_nrm ?_)))
 refine W.tr [(0, .int _ _), (4, .ptr _ _), (7, .ptr _ _)] [.box _ [.int _ _, .nilS], .box _ _] ⟨rfl, rfl, rfl, trivial⟩ rfl ?_
 refine W.rL ?_
 refine cL rfl (o_move (v := .ptr _ _) rfl ?_)
 refine mI rfl rfl ?_
 obtain ⟨s45, hv⟩ := hv
 refine cL rfl (o_callP1 (k := 46) (fst := []) (caps := []) (ys := [.ptr _ _, .int _ _]) rfl rfl (spec_bounds m1 n s45) (Wks.cons (ag_box 5 rfl (ag_vec 4 _ _)) (Wks.cons (ag_int _ _ _ _) (Wks.refl _))) ?_)
 refine cLn (o_stB (v := .agg _) (vs := [.int _ _, .lst _ _ _]) (cs2 := [.int _ _, .lst _ _ _]) tt53 rfl rfl rfl rfl rfl (Nat.le_of_ble_eq_true rfl) rfl ?_)
 refine cL rfl (o_assign (v := .nilS) rfl ?_)
 refine aI rfl rfl ?_
 refine eL ?_
 refine W.tr [(4, .ptr _ _), (5, .nilS), (6, .int _ _)] [.box _ [.int _ _, .lst _ _ _], .box _ _] ⟨rfl, rfl, rfl, trivial⟩ rfl ?_
 refine W.ret ?_
 refine rt ?_
 refine rt_c (x := .ptr _ _) rfl (ldA (cs := [.int _ _, .lst _ _ _]) tt53 rfl ⟨_, rfl⟩ rfl ?_)
 refine rt_t (v := .nilS) rfl ?_
 refine rt_t (v := .int _ _) rfl ?_
 refine rt_n ?_
 exact ⟨_, rs_tup 5 _ (Wks.cons (rs_agg 4 _ (Wks.cons (rs_int _ _ _ _) (Wks.cons (rs_lst _ _ _ _) (Wks.refl _)))) (Wks.cons (rs_nil _ _ _ _ rfl) (Wks.cons (rs_int _ _ _ _) (Wks.refl _)))), (boundsM m1 n), [], (0 : Int), rfl, hv⟩
theorem vcp_close (n : Int) (l : (List Con)) (h0 : l.length ≤ 1073741824) : vc_close n l (fun q0 q1 q2 => q0 = (closeM n l).1 ∧ q1 = (closeM n l).2.1 ∧ q2 = (closeM n l).2.2) := by
  unfold vc_close
  refine ⟨h0, fun h => ?_, fun h => ⟨fun v m => ∃ i : Nat, v = i ∧ i ≤ l.length ∧ CM m (l.take i) ∧ addAll freeM l = addAll m (l.drop i), fun v _ => l.length - v.toNat, ⟨0, rfl, by omega, CM.free, rfl⟩, ?_⟩⟩
  · rw [close_inv h]; exact ⟨rfl, rfl, rfl⟩
  have hv : validM n l = true := Classical.not_not.mp h
  have hg := validM_good hv
  have hvv := (validM_iff.mp hv).1
  rintro _ m ⟨i, rfl, hi, hc, ha⟩
  refine ⟨fun h1 => ?_, fun h1 => ⟨by omega, ?_⟩⟩
  · have hlt : i < l.length := by omega
    have hci : Good 24 [lat l (i : Int)] := fun c hc => by
      rw [List.mem_singleton] at hc; subst hc; exact hg _ (lat_mem ⟨by omega, by omega⟩)
    have hd : l.drop i = lat l (i : Int) :: l.drop (i + 1) := by rw [lat_get hlt]; exact List.drop_eq_getElem_cons hlt
    have ht : l.take (i + 1) = l.take i ++ [lat l (i : Int)] := by rw [lat_get hlt, List.take_add_one, List.getElem?_eq_getElem hlt]; rfl
    rw [hd, addAll_cons] at ha
    refine ⟨by omega, hc.addOk hci, fun h2 => ⟨hv, ?_⟩, fun h2 => ⟨by unfold inI; omega, ⟨i + 1, by omega, by omega, ?_, ?_⟩, by dsimp only; omega⟩⟩
    · rw [if_neg h2] at ha
      rw [close_none hv ha]; exact ⟨rfl, rfl, rfl⟩
    · rw [ht]
      exact hc.step (fun c hc => hg c (List.mem_of_mem_take hc)) hci (Classical.not_not.mp h2)
    · rw [ha, if_pos (Classical.not_not.mp h2)]
  · rw [List.drop_of_length_le (by omega)] at ha
    rw [close_some hv ha]; exact ⟨rfl, rfl, rfl⟩
theorem spec_close (n : Int) (l : (List Con)) (h0 : l.length ≤ 1073741824) : FnP Try.prog 26 [.int .i64 n, .lst true l.length (encL e66 l)] (fun xR => xR = .tup [.agg ((e53 false) ((closeM n l).1)), .lst false ((closeM n l).2.1).length (encL eInt ((closeM n l).2.1)), .int .i64 ((closeM n l).2.2)]) :=
  (walk_close (vcp_close n l h0)).mono (by rintro _ ⟨_, _, _, rfl, rfl, rfl, rfl⟩; rfl)
attribute [local irreducible] cvalidM bvalidM choicesM partM chM liM brangeM witM pcM inM allM inSet
def vc_bvalid (f : Flt) (n : Int) (l : (List Con)) (Post : Bool → Prop) : Prop :=
  (f.dr.length ≤ 1073741824) ∧ (f.sv.length ≤ 1073741824) ∧ (f.tm.length ≤ 1073741824) ∧ ((¬ ((cvalidM f) = true)) → Post false) ∧ (¬ (¬ ((cvalidM f) = true)) → (([] : (List Con)).length ≤ 1073741824) ∧ (((¬ (closeM n ([] : (List Con))).2.2 = (0 : Int)) ∨ ((2000 : Int) < ((l.length : Nat) : Int))) → Post false) ∧ (¬ ((¬ (closeM n ([] : (List Con))).2.2 = (0 : Int)) ∨ ((2000 : Int) < ((l.length : Nat) : Int))) → ∃ (I1 : Int → Prop) (μ1 : Int → Nat), I1 (0 : Int) ∧ ∀ (v31 : Int), I1 v31 → ((v31 < ((l.length : Nat) : Int)) → (0 ≤ v31 ∧ v31 < (l.length : Int)) ∧ (((¬ (((0 : Int) ≤ (min ((lat l v31).f) ((lat l v31).t))) ∧ (((max ((lat l v31).f) ((lat l v31).t)) < n) ∧ (¬ (lat l v31).f = (lat l v31).t)))) → True) ∧ (¬ (¬ (((0 : Int) ≤ (min ((lat l v31).f) ((lat l v31).t))) ∧ (((max ((lat l v31).f) ((lat l v31).t)) < n) ∧ (¬ (lat l v31).f = (lat l v31).t)))) → ((((lat l v31).m) < (-1125899906842624 : Int)) → True) ∧ (¬ (((lat l v31).m) < (-1125899906842624 : Int)) → (((1125899906842624 : Int) < ((lat l v31).m)) → True) ∧ (¬ ((1125899906842624 : Int) < ((lat l v31).m)) → ((((lat l v31).a) < (0 : Int)) → True) ∧ (¬ (((lat l v31).a) < (0 : Int)) → (0 ≤ ((f.dr.length : Nat) : Int)) ∧ True))))) ∧ ((((¬ (((0 : Int) ≤ (min ((lat l v31).f) ((lat l v31).t))) ∧ (((max ((lat l v31).f) ((lat l v31).t)) < n) ∧ (¬ (lat l v31).f = (lat l v31).t)))) ∨ ((((lat l v31).m) < (-1125899906842624 : Int)) ∨ (((1125899906842624 : Int) < ((lat l v31).m)) ∨ ((((lat l v31).a) < (0 : Int)) ∨ (¬ ((lat l v31).a).fdiv (2 ^ (min ((f.dr.length : Nat) : Int).toNat 64)) = (0 : Int)))))) → Post false) ∧ (¬ ((¬ (((0 : Int) ≤ (min ((lat l v31).f) ((lat l v31).t))) ∧ (((max ((lat l v31).f) ((lat l v31).t)) < n) ∧ (¬ (lat l v31).f = (lat l v31).t)))) ∨ ((((lat l v31).m) < (-1125899906842624 : Int)) ∨ (((1125899906842624 : Int) < ((lat l v31).m)) ∨ ((((lat l v31).a) < (0 : Int)) ∨ (¬ ((lat l v31).a).fdiv (2 ^ (min ((f.dr.length : Nat) : Int).toNat 64)) = (0 : Int)))))) → (inI (v31 + (1 : Int))) ∧ (I1 (v31 + (1 : Int)) ∧ μ1 (v31 + (1 : Int)) < μ1 v31)))) ∧ (¬ (v31 < ((l.length : Nat) : Int)) → Post true)))
set_option maxRecDepth 100000 in
set_option maxHeartbeats 4000000 in
theorem walk_bvalid {f : Flt} {n : Int} {l : (List Con)} {Post : Bool → Prop} (hv : vc_bvalid f n l Post) : FnP Try.prog 34 [.agg ((e27 true) f), .int .i64 n, .lst true l.length (encL e66 l)] (fun x => ∃ q0, x = .bool q0 ∧ Post q0) := by
 refine FnP.of_walk (T := tt) (nt := 84) ttOk ttMix ⟨⟨Try.f34, Try.func34, rfl, rfl, rfl, rfl⟩⟩ (by simp) ?_
 unfold vc_bvalid at hv
 change W _ _ _ ⟨84, look [(0, .agg [.lst true f.dr.length (encL eInt f.dr), .int .i64 f.la, .int .i64 f.li, .lst true f.sv.length (encL eInt f.sv), .lst true f.tm.length (encL eInt f.tm)]), (1, .int .i64 n), (2, .lst true l.length (encL e66 l))], [], 0⟩ _
 refine W.tr [(0, .agg _), (1, .int _ _), (2, .lst _ _ _)] [] ⟨rfl, rfl, rfl, trivial⟩ rfl ?_
 refine W.rL ?_
 refine cL rfl (o_box (v := .agg _) (p := 0) rfl rfl rfl ?_)
 refine aB rfl rfl ?_
 refine eL ?_
 refine W.tr [(1, .int _ _), (2, .lst _ _ _), (3, .ptr _ _)] [.box _ [.lst _ _ _, .int _ _, .int _ _, .lst _ _ _, .lst _ _ _]] ⟨rfl, rfl, rfl, trivial⟩ rfl ?_
 refine W.seq' ?_
 refine W.rL ?_
 refine cL rfl (o_ldA (cs := [.lst _ _ _, .int _ _, .int _ _, .lst _ _ _, .lst _ _ _]) tt27 rfl rfl ⟨_, rfl⟩ rfl ?_)
 obtain ⟨s4, s5, s6, hv⟩ := hv
 refine cL rfl (o_callP1 (k := 54) (fst := []) (caps := []) (ys := [.agg _]) rfl rfl (spec_cvalid f s4 s5 s6) (Wks.cons (ag_agg 5 _ (Wks.cons (ag_lst _ _ _ _ _) (Wks.cons (ag_int _ _ _ _) (Wks.cons (ag_int _ _ _ _) (Wks.cons (ag_lst _ _ _ _ _) (Wks.cons (ag_lst _ _ _ _ _) (Wks.refl _))))))) (Wks.refl _)) ?_)
 refine cL rfl (o_notB rfl ?_)
 refine eL ?_
 refine W.tr [(1, .int _ _), (2, .lst _ _ _), (3, .ptr _ _), (15, .bool _)] [.box _ [.lst _ _ _, .int _ _, .int _ _, .lst _ _ _, .lst _ _ _]] ⟨rfl, rfl, rfl, rfl, trivial⟩ rfl ?_
 refine W.cn rfl (fun hc => ?_) (fun hc => ?_)
 have hv := hv.1 hc
 refine W.rL ?_
 refine aB rfl rfl ?_
 refine eL ?_
 refine W.tr [(6, .bool _)] [.box _ [.lst _ _ _, .int _ _, .int _ _, .lst _ _ _, .lst _ _ _]] ⟨rfl, trivial⟩ rfl ?_
 refine W.ret ?_
 refine th_ret (rt ?_)
 refine rt_t (v := .bool _) rfl ?_
 refine rt_n ?_
 exact ⟨_, rs_bool _ _ _, false, rfl, hv⟩
 have hv := hv.2 hc
 refine W.skip ?_
 refine th_nrm ?_
 refine W.tr [(1, .int _ _), (2, .lst _ _ _), (3, .ptr _ _)] [.box _ [.lst _ _ _, .int _ _, .int _ _, .lst _ _ _, .lst _ _ _]] ⟨rfl, rfl, rfl, trivial⟩ rfl ?_
 refine W.seq' ?_
 refine W.rL ?_
 refine mI rfl rfl ?_
 obtain ⟨s8, hv⟩ := hv
 refine cL rfl (o_callP1 (k := 26) (fst := []) (caps := []) (ys := [.int _ _, .nilS]) rfl rfl (spec_close n ([] : (List Con)) s8) (Wks.cons (ag_int _ _ _ _) (Wks.cons (ag_nil _ _ _ _ rfl) (Wks.refl _))) ?_)
 refine cL rfl (o_move (v := .tup _) rfl ?_)
 refine cL rfl (o_ext (v := .agg _) rfl rfl ?_)
 refine cL rfl (o_ext (v := .lst _ _ _) rfl rfl ?_)
 refine cL rfl (o_ext (v := .int _ _) rfl rfl ?_)
 refine cL rfl (o_alloc (p := 1) tt53 rfl rfl ?_)
 refine cLn (o_stB (v := .agg _) (vs := [.int _ _, .lst _ _ _]) (cs2 := [.int _ _, .lst _ _ _]) tt53 rfl rfl rfl rfl rfl (Nat.le_of_ble_eq_true rfl) rfl ?_)
 refine aL rfl rfl ?_
 refine aI rfl rfl ?_
 refine eL ?_
 refine W.tr [(1, .int _ _), (2, .lst _ _ _), (3, .ptr _ _), (9, .int _ _)] [.box _ [.lst _ _ _, .int _ _, .int _ _, .lst _ _ _, .lst _ _ _], .box _ [.int _ _, .lst _ _ _]] ⟨rfl, rfl, rfl, rfl, trivial⟩ rfl ?_
 refine W.rLm ⟨84, look [(1, .int .i64 n), (2, .lst true l.length (encL e66 l)), (3, .ptr 0 0), (28, .bool (decide ((¬ (closeM n ([] : (List Con))).2.2 = (0 : Int)) ∨ ((2000 : Int) < ((l.length : Nat) : Int)))))], [.box 27 [.lst true f.dr.length (encL eInt f.dr), .int .i64 f.la, .int .i64 f.li, .lst true f.sv.length (encL eInt f.sv), .lst true f.tm.length (encL eInt f.tm)], .box 53 [.int .i64 (((closeM n ([] : (List Con))).1).n), .lst false (((closeM n ([] : (List Con))).1).most).length (encL (eSl eInt true) (((closeM n ([] : (List Con))).1).most))]], 0⟩ ?_ ?_
 refine mI rfl rfl ?_
 refine cL rfl (o_neI rfl rfl rfl ?_)
 refine mB rfl rfl ?_
 by_cases c1 : ¬ (closeM n ([] : (List Con))).2.2 = (0 : Int)
 iterate 3 refine cLs rfl rfl rfl (decide_eq_true c1) ?_
 refine cL rfl (o_pickT (v := .bool _) rfl (decide_eq_true c1) rfl ?_)
 refine eL ?_
 exact le_mk ⟨rfl, rfl, rfl, (congrArg AV.bool (dOrT c1)).symm, trivial⟩ rfl
 refine cLg rfl rfl (decide_eq_false c1) ?_
 refine mL rfl rfl ?_
 refine cLg rfl rfl (decide_eq_false c1) ?_
 refine cL rfl (o_len (v := .lst _ _ _) tt28 rfl rfl ?_)
 refine cLg rfl rfl (decide_eq_false c1) ?_
 refine cL rfl (o_gtr rfl rfl ?_)
 refine cL rfl (o_pickF (v := .bool _) rfl (decide_eq_false c1) rfl ?_)
 refine eL ?_
 exact le_mk ⟨rfl, rfl, rfl, (congrArg AV.bool (dOrF c1 (rfl))).symm, trivial⟩ rfl
 refine W.cn rfl (fun hc => ?_) (fun hc => ?_)
 have hv := hv.1 hc
 refine W.rL ?_
 refine aB rfl rfl ?_
 refine eL ?_
 refine W.tr [(6, .bool _)] [.box _ [.lst _ _ _, .int _ _, .int _ _, .lst _ _ _, .lst _ _ _], .box _ [.int _ _, .lst _ _ _]] ⟨rfl, trivial⟩ rfl ?_
 refine W.ret ?_
 refine th_ret (rt ?_)
 refine rt_t (v := .bool _) rfl ?_
 refine rt_n ?_
 exact ⟨_, rs_bool _ _ _, false, rfl, hv⟩
 have hv := hv.2 hc
 refine W.skip ?_
 refine th_nrm ?_
 refine W.tr [(1, .int _ _), (2, .lst _ _ _), (3, .ptr _ _)] [.box _ [.lst _ _ _, .int _ _, .int _ _, .lst _ _ _, .lst _ _ _], .box _ [.int _ _, .lst _ _ _]] ⟨rfl, rfl, rfl, trivial⟩ rfl ?_
 refine W.seq' ?_
 refine W.rL ?_
 refine mL rfl rfl ?_
 refine cL rfl (o_len (v := .lst _ _ _) tt28 rfl rfl ?_)
 refine mI rfl rfl ?_
 refine eL ?_
 refine W.tr [(1, .int _ _), (3, .ptr _ _), (29, .lst _ _ _), (30, .int _ _), (31, .int _ _)] [.box _ [.lst _ _ _, .int _ _, .int _ _, .lst _ _ _, .lst _ _ _], .box _ [.int _ _, .lst _ _ _]] ⟨rfl, rfl, rfl, rfl, rfl, trivial⟩ rfl ?_
 refine W.block ?_
 obtain ⟨I1, μ1, hp, hv⟩ := hv
 refine W.loop1 (fun v31 => ⟨84, look [(1, .int .i64 n), (3, .ptr 0 0), (29, .lst true l.length (encL e66 l)), (30, .int .i64 ((l.length : Nat) : Int)), (31, .int .i64 v31)], [.box 27 [.lst true f.dr.length (encL eInt f.dr), .int .i64 f.la, .int .i64 f.li, .lst true f.sv.length (encL eInt f.sv), .lst true f.tm.length (encL eInt f.tm)]], 0⟩) I1 μ1 (0 : Int) (St.to_mk (φ := [some 0]) rfl (rfl) ⟨Ren.int _ _, Ren.ptr rfl, Ren.lst _ _ _, Ren.int _ _, Ren.int _ _, trivial⟩ ⟨.inr ⟨_, rfl, rfl, Rens.cons (Ren.lst _ _ _) (Rens.cons (Ren.int _ _) (Rens.cons (Ren.int _ _) (Rens.cons (Ren.lst _ _ _) (Rens.cons (Ren.lst _ _ _) (Rens.nil)))))⟩, trivial⟩) hp ?_
 clear hp
 intro v31 hI
 replace hv := hv v31 hI
 clear hI
 refine W.rL ?_
 refine cL rfl (o_lss rfl rfl ?_)
 refine eL ?_
 refine W.tr [(1, .int _ _), (3, .ptr _ _), (29, .lst _ _ _), (30, .int _ _), (31, .int _ _), (32, .bool _)] [.box _ [.lst _ _ _, .int _ _, .int _ _, .lst _ _ _, .lst _ _ _]] ⟨rfl, rfl, rfl, rfl, rfl, rfl, trivial⟩ rfl ?_
 refine W.seq' ?_
 refine W.cn rfl (fun hc => ?_) (fun hc => ?_)
 have hv := hv.1 hc
 refine W.skip ?_
 refine th_nrm ?_
 refine W.tr [(1, .int _ _), (3, .ptr _ _), (29, .lst _ _ _), (30, .int _ _), (31, .int _ _)] [.box _ [.lst _ _ _, .int _ _, .int _ _, .lst _ _ _, .lst _ _ _]] ⟨rfl, rfl, rfl, rfl, rfl, trivial⟩ rfl ?_
 refine W.seq' ?_
 refine W.block ?_
 refine W.rL ?_
 obtain ⟨s33, hv⟩ := hv
 refine cL rfl (o_iaL tt28 tt66 rfl rfl (enc66.wd true) rfl s33 ?_)
 intro rest33
 refine cL rfl (o_ldA (cs := [.int _ _, .int _ _, .int _ _, .int _ _]) tt66 rfl rfl ⟨_, rfl⟩ rfl ?_)
 refine cL rfl (o_alloc (p := 1) tt66 rfl rfl ?_)
 refine cLn (o_stB (v := .agg _) (vs := [.int _ _, .int _ _, .int _ _, .int _ _]) (cs2 := [.int _ _, .int _ _, .int _ _, .int _ _]) tt66 rfl rfl rfl rfl rfl (Nat.le_of_ble_eq_true rfl) rfl ?_)
 refine eL ?_
 refine W.tr [(1, .int _ _), (3, .ptr _ _), (11, .ptr _ _), (29, .lst _ _ _), (30, .int _ _), (31, .int _ _)] [.box _ [.lst _ _ _, .int _ _, .int _ _, .lst _ _ _, .lst _ _ _], .box _ [.int _ _, .int _ _, .int _ _, .int _ _]] ⟨rfl, rfl, rfl, rfl, rfl, rfl, trivial⟩ rfl ?_
 refine W.rLm ⟨84, look [(1, .int .i64 n), (3, .ptr 0 0), (11, .ptr 1 0), (12, .bool (decide (((0 : Int) ≤ (min ((lat l v31).f) ((lat l v31).t))) ∧ (((max ((lat l v31).f) ((lat l v31).t)) < n) ∧ (¬ (lat l v31).f = (lat l v31).t))))), (29, .lst true l.length (encL e66 l)), (30, .int .i64 ((l.length : Nat) : Int)), (31, .int .i64 v31)], [.box 27 [.lst true f.dr.length (encL eInt f.dr), .int .i64 f.la, .int .i64 f.li, .lst true f.sv.length (encL eInt f.sv), .lst true f.tm.length (encL eInt f.tm)], .box 66 [.int .i64 ((lat l v31).f), .int .i64 ((lat l v31).t), .int .i64 ((lat l v31).m), .int .i64 ((lat l v31).a)]], 0⟩ ?_ ?_
 refine cL rfl (o_fa tt66 rfl tt3 rfl ?_)
 refine cL rfl (o_ldS (v := .int _ _) tt3 rfl rfl ⟨_, rfl⟩ ?_)
 refine cL rfl (o_fa tt66 rfl tt3 rfl ?_)
 refine cL rfl (o_ldS (v := .int _ _) tt3 rfl rfl ⟨_, rfl⟩ ?_)
 refine cL rfl (o_min rfl rfl ?_)
 refine cL rfl (o_geq rfl rfl ?_)
 refine mB rfl rfl ?_
 by_cases c1 : (0 : Int) ≤ (min ((lat l v31).f) ((lat l v31).t))
 refine cLg rfl rfl (decide_eq_true c1) ?_
 refine cL rfl (o_fa tt66 rfl tt3 rfl ?_)
 refine cLg rfl rfl (decide_eq_true c1) ?_
 refine cL rfl (o_ldS (v := .int _ _) tt3 rfl rfl ⟨_, rfl⟩ ?_)
 refine cLg rfl rfl (decide_eq_true c1) ?_
 refine cL rfl (o_fa tt66 rfl tt3 rfl ?_)
 refine cLg rfl rfl (decide_eq_true c1) ?_
 refine cL rfl (o_ldS (v := .int _ _) tt3 rfl rfl ⟨_, rfl⟩ ?_)
 refine cLg rfl rfl (decide_eq_true c1) ?_
 refine cL rfl (o_max rfl rfl ?_)
 refine cLg rfl rfl (decide_eq_true c1) ?_
 refine mI rfl rfl ?_
 refine cLg rfl rfl (decide_eq_true c1) ?_
 refine cL rfl (o_lss rfl rfl ?_)
 refine cL rfl (o_pickT (v := .bool _) rfl (decide_eq_true c1) rfl ?_)
 refine mB rfl rfl ?_
 by_cases c2 : (max ((lat l v31).f) ((lat l v31).t)) < n
 refine cLg rfl rfl (decide_eq_true c2) ?_
 refine cL rfl (o_fa tt66 rfl tt3 rfl ?_)
 refine cLg rfl rfl (decide_eq_true c2) ?_
 refine cL rfl (o_ldS (v := .int _ _) tt3 rfl rfl ⟨_, rfl⟩ ?_)
 refine cLg rfl rfl (decide_eq_true c2) ?_
 refine cL rfl (o_fa tt66 rfl tt3 rfl ?_)
 refine cLg rfl rfl (decide_eq_true c2) ?_
 refine cL rfl (o_ldS (v := .int _ _) tt3 rfl rfl ⟨_, rfl⟩ ?_)
 refine cLg rfl rfl (decide_eq_true c2) ?_
 refine cL rfl (o_neI rfl rfl rfl ?_)
 refine cL rfl (o_pickT (v := .bool _) rfl (decide_eq_true c2) rfl ?_)
 refine aB rfl rfl ?_
 refine eL ?_
 exact le_mk ⟨rfl, rfl, rfl, (congrArg AV.bool (dAndT c1 (dAndT c2 (rfl)))).symm, rfl, rfl, rfl, trivial⟩ rfl
 iterate 5 refine cLs rfl rfl rfl (decide_eq_false c2) ?_
 refine cL rfl (o_pickF (v := .bool _) rfl (decide_eq_false c2) rfl ?_)
 refine aB rfl rfl ?_
 refine eL ?_
 exact le_mk ⟨rfl, rfl, rfl, (congrArg AV.bool (dAndT c1 (dAndF c2))).symm, rfl, rfl, rfl, trivial⟩ rfl
 iterate 7 refine cLs rfl rfl rfl (decide_eq_false c1) ?_
 refine cL rfl (o_pickF (v := .bool _) rfl (decide_eq_false c1) rfl ?_)
 refine mB rfl rfl ?_
 iterate 5 refine cLs rfl rfl rfl (rfl) ?_
 refine cL rfl (o_pickF (v := .bool _) rfl rfl rfl ?_)
 refine aB rfl rfl ?_
 refine eL ?_
 exact le_mk ⟨rfl, rfl, rfl, (congrArg AV.bool (dAndF c1)).symm, rfl, rfl, rfl, trivial⟩ rfl
 obtain ⟨sd, hv⟩ := hv
 refine W.rLm ⟨84, look [(1, .int .i64 n), (3, .ptr 0 0), (29, .lst true l.length (encL e66 l)), (30, .int .i64 ((l.length : Nat) : Int)), (31, .int .i64 v31), (82, .bool (decide ((¬ (((0 : Int) ≤ (min ((lat l v31).f) ((lat l v31).t))) ∧ (((max ((lat l v31).f) ((lat l v31).t)) < n) ∧ (¬ (lat l v31).f = (lat l v31).t)))) ∨ ((((lat l v31).m) < (-1125899906842624 : Int)) ∨ (((1125899906842624 : Int) < ((lat l v31).m)) ∨ ((((lat l v31).a) < (0 : Int)) ∨ (¬ ((lat l v31).a).fdiv (2 ^ (min ((f.dr.length : Nat) : Int).toNat 64)) = (0 : Int))))))))], [.box 27 [.lst true f.dr.length (encL eInt f.dr), .int .i64 f.la, .int .i64 f.li, .lst true f.sv.length (encL eInt f.sv), .lst true f.tm.length (encL eInt f.tm)], .box 66 [.int .i64 ((lat l v31).f), .int .i64 ((lat l v31).t), .int .i64 ((lat l v31).m), .int .i64 ((lat l v31).a)]], 0⟩ ?_ ?_
 refine mB rfl rfl ?_
 refine cL rfl (o_not rfl ?_)
 refine mB rfl rfl ?_
 by_cases c1 : ¬ (((0 : Int) ≤ (min ((lat l v31).f) ((lat l v31).t))) ∧ (((max ((lat l v31).f) ((lat l v31).t)) < n) ∧ (¬ (lat l v31).f = (lat l v31).t)))
 iterate 3 refine cLs rfl rfl rfl (decide_eq_true c1) ?_
 refine cL rfl (o_pickT (v := .bool _) rfl (decide_eq_true c1) rfl ?_)
 refine mB rfl rfl ?_
 iterate 3 refine cLs rfl rfl rfl (rfl) ?_
 refine cL rfl (o_pickT (v := .bool _) rfl rfl rfl ?_)
 refine mB rfl rfl ?_
 iterate 3 refine cLs rfl rfl rfl (rfl) ?_
 refine cL rfl (o_pickT (v := .bool _) rfl rfl rfl ?_)
 refine mB rfl rfl ?_
 iterate 7 refine cLs rfl rfl rfl (rfl) ?_
 refine cL rfl (o_pickT (v := .bool _) rfl rfl rfl ?_)
 refine eL ?_
 exact le_mk ⟨rfl, rfl, rfl, rfl, rfl, (congrArg AV.bool (dOrT c1)).symm, trivial⟩ rfl
 have sd := sd.2 c1
 refine cLg rfl rfl (decide_eq_false c1) ?_
 refine cL rfl (o_fa tt66 rfl tt3 rfl ?_)
 refine cLg rfl rfl (decide_eq_false c1) ?_
 refine cL rfl (o_ldS (v := .int _ _) tt3 rfl rfl ⟨_, rfl⟩ ?_)
 refine cLg rfl rfl (decide_eq_false c1) ?_
 refine cL rfl (o_lss rfl rfl ?_)
 refine cL rfl (o_pickF (v := .bool _) rfl (decide_eq_false c1) rfl ?_)
 refine mB rfl rfl ?_
 by_cases c2 : ((lat l v31).m) < (-1125899906842624 : Int)
 iterate 3 refine cLs rfl rfl rfl (decide_eq_true c2) ?_
 refine cL rfl (o_pickT (v := .bool _) rfl (decide_eq_true c2) rfl ?_)
 refine mB rfl rfl ?_
 iterate 3 refine cLs rfl rfl rfl (rfl) ?_
 refine cL rfl (o_pickT (v := .bool _) rfl rfl rfl ?_)
 refine mB rfl rfl ?_
 iterate 7 refine cLs rfl rfl rfl (rfl) ?_
 refine cL rfl (o_pickT (v := .bool _) rfl rfl rfl ?_)
 refine eL ?_
 exact le_mk ⟨rfl, rfl, rfl, rfl, rfl, (congrArg AV.bool (dOrF c1 (dOrT c2))).symm, trivial⟩ rfl
 have sd := sd.2 c2
 refine cLg rfl rfl (decide_eq_false c2) ?_
 refine cL rfl (o_fa tt66 rfl tt3 rfl ?_)
 refine cLg rfl rfl (decide_eq_false c2) ?_
 refine cL rfl (o_ldS (v := .int _ _) tt3 rfl rfl ⟨_, rfl⟩ ?_)
 refine cLg rfl rfl (decide_eq_false c2) ?_
 refine cL rfl (o_gtr rfl rfl ?_)
 refine cL rfl (o_pickF (v := .bool _) rfl (decide_eq_false c2) rfl ?_)
 refine mB rfl rfl ?_
 by_cases c3 : (1125899906842624 : Int) < ((lat l v31).m)
 iterate 3 refine cLs rfl rfl rfl (decide_eq_true c3) ?_
 refine cL rfl (o_pickT (v := .bool _) rfl (decide_eq_true c3) rfl ?_)
 refine mB rfl rfl ?_
 iterate 7 refine cLs rfl rfl rfl (rfl) ?_
 refine cL rfl (o_pickT (v := .bool _) rfl rfl rfl ?_)
 refine eL ?_
 exact le_mk ⟨rfl, rfl, rfl, rfl, rfl, (congrArg AV.bool (dOrF c1 (dOrF c2 (dOrT c3)))).symm, trivial⟩ rfl
 have sd := sd.2 c3
 refine cLg rfl rfl (decide_eq_false c3) ?_
 refine cL rfl (o_fa tt66 rfl tt3 rfl ?_)
 refine cLg rfl rfl (decide_eq_false c3) ?_
 refine cL rfl (o_ldS (v := .int _ _) tt3 rfl rfl ⟨_, rfl⟩ ?_)
 refine cLg rfl rfl (decide_eq_false c3) ?_
 refine cL rfl (o_lss rfl rfl ?_)
 refine cL rfl (o_pickF (v := .bool _) rfl (decide_eq_false c3) rfl ?_)
 refine mB rfl rfl ?_
 by_cases c4 : ((lat l v31).a) < (0 : Int)
 iterate 7 refine cLs rfl rfl rfl (decide_eq_true c4) ?_
 refine cL rfl (o_pickT (v := .bool _) rfl (decide_eq_true c4) rfl ?_)
 refine eL ?_
 exact le_mk ⟨rfl, rfl, rfl, rfl, rfl, (congrArg AV.bool (dOrF c1 (dOrF c2 (dOrF c3 (dOrT c4))))).symm, trivial⟩ rfl
 have sd := sd.2 c4
 refine cLg rfl rfl (decide_eq_false c4) ?_
 refine cL rfl (o_fa tt66 rfl tt3 rfl ?_)
 refine cLg rfl rfl (decide_eq_false c4) ?_
 refine cL rfl (o_ldS (v := .int _ _) tt3 rfl rfl ⟨_, rfl⟩ ?_)
 refine cLg rfl rfl (decide_eq_false c4) ?_
 refine cL rfl (o_fa tt27 rfl tt23 rfl ?_)
 refine cLg rfl rfl (decide_eq_false c4) ?_
 refine cL rfl (o_ldS (v := .lst _ _ _) tt23 rfl rfl ⟨_, rfl⟩ ?_)
 refine cLg rfl rfl (decide_eq_false c4) ?_
 refine cL rfl (o_len (v := .lst _ _ _) tt23 rfl rfl ?_)
 refine cLg rfl rfl (decide_eq_false c4) ?_
 obtain ⟨s35, sd⟩ := sd
 refine cL rfl (o_shr rfl rfl s35 ?_)
 refine cLg rfl rfl (decide_eq_false c4) ?_
 refine cL rfl (o_neI rfl rfl rfl ?_)
 refine cL rfl (o_pickF (v := .bool _) rfl (decide_eq_false c4) rfl ?_)
 refine eL ?_
 exact le_mk ⟨rfl, rfl, rfl, rfl, rfl, (congrArg AV.bool (dOrF c1 (dOrF c2 (dOrF c3 (dOrF c4 (rfl)))))).symm, trivial⟩ rfl
 refine W.cn rfl (fun hc => ?_) (fun hc => ?_)
 have hv := hv.1 hc
 refine W.rL ?_
 refine aB rfl rfl ?_
 refine eL ?_
 refine W.tr [(6, .bool _)] [.box _ [.lst _ _ _, .int _ _, .int _ _, .lst _ _ _, .lst _ _ _], .box _ [.int _ _, .int _ _, .int _ _, .int _ _]] ⟨rfl, trivial⟩ rfl ?_
 refine W.ret ?_
 refine bl_ret (th_ret (th_ret (bl_ret (th_ret (rt ?_)))))
 refine rt_t (v := .bool _) rfl ?_
 refine rt_n ?_
 exact ⟨_, rs_bool _ _ _, false, rfl, hv⟩
 have hv := hv.2 hc
 refine W.skip ?_
 refine bl_nrm (th_nrm ?_)
 refine W.tr [(1, .int _ _), (3, .ptr _ _), (29, .lst _ _ _), (30, .int _ _), (31, .int _ _)] [.box _ [.lst _ _ _, .int _ _, .int _ _, .lst _ _ _, .lst _ _ _], .box _ [.int _ _, .int _ _, .int _ _, .int _ _]] ⟨rfl, rfl, rfl, rfl, rfl, trivial⟩ rfl ?_
 refine W.rL1 ?_
 obtain ⟨s36, hv⟩ := hv
 refine cL rfl (o_add rfl rfl s36 ?_)
 refine mI rfl rfl ?_
 refine eL ?_
 exact th_nrm (⟨(), (v31 + (1 : Int)), hv, St.to_mk (φ := [some 0]) rfl (rfl) ⟨Ren.int _ _, Ren.ptr rfl, Ren.lst _ _ _, Ren.int _ _, Ren.int _ _, trivial⟩ ⟨.inr ⟨_, rfl, rfl, Rens.cons (Ren.lst _ _ _) (Rens.cons (Ren.int _ _) (Rens.cons (Ren.int _ _) (Rens.cons (Ren.lst _ _ _) (Rens.cons (Ren.lst _ _ _) (Rens.nil)))))⟩, trivial⟩⟩)
 have hv := hv.2 hc
 refine W.exit ?_
 refine th_exit (th_exit (bl_hit (th_nrm ?_)))
 refine W.tr [] [.box _ [.lst _ _ _, .int _ _, .int _ _, .lst _ _ _, .lst _ _ _]] trivial rfl ?_
 refine W.rL ?_
 refine aB rfl rfl ?_
 refine eL ?_
 refine W.tr [(6, .bool _)] [.box _ [.lst _ _ _, .int _ _, .int _ _, .lst _ _ _, .lst _ _ _]] ⟨rfl, trivial⟩ rfl ?_
 refine W.ret ?_
 refine rt ?_
 refine rt_t (v := .bool _) rfl ?_
 refine rt_n ?_
 exact ⟨_, rs_bool _ _ _, true, rfl, hv⟩
theorem vcp_bvalid (f : Flt) (n : Int) (l : (List Con)) (h0 : f.dr.length ≤ 1073741824) (h1 : f.sv.length ≤ 1073741824) (h2 : f.tm.length ≤ 1073741824) (h3 : l.length ≤ 1073741824) : vc_bvalid f n l (fun q0 => q0 = (bvalidM f n l)) := by
  unfold vc_bvalid
  refine ⟨h0, h1, h2, fun h => ?_, fun h => ⟨by simp, fun h4 => ?_, fun h4 => ?_⟩⟩
  · show false = bvalidM f n l
    unfold bvalidM
    rw [Bool.eq_false_iff.2 h]; rfl
  · show false = bvalidM f n l
    refine (Bool.eq_false_iff.2 fun hb => ?_).symm
    obtain ⟨k1, k2, k3, k4⟩ := bvalid_iff.1 hb
    rcases h4 with h4 | h4
    · exact h4 (close_nil.2 k2)
    · omega
  · have hn := close_nil.1 (Classical.not_not.1 fun e => h4 (.inl e))
    refine ⟨fun v => ∃ i : Nat, v = i ∧ i ≤ l.length ∧ ∀ c ∈ l.take i, conOk f n c = true, fun v => l.length - v.toNat, ⟨0, rfl, by omega, by simp⟩, ?_⟩
    rintro _ ⟨i, rfl, hle, hj⟩
    refine ⟨fun h5 => ?_, fun h5 => ?_⟩
    · have hlt : i < l.length := by omega
      rw [lat_get hlt]
      generalize hc : l[i] = c
      refine ⟨by omega, ⟨fun _ => trivial, fun _ => ⟨fun _ => trivial, fun _ => ⟨fun _ => trivial, fun _ => ⟨fun _ => trivial, fun _ => ⟨by omega, trivial⟩⟩⟩⟩⟩, fun h6 => ?_, fun h6 => ⟨by unfold inI; omega, ⟨i + 1, by omega, by omega, ?_⟩, by dsimp only; omega⟩⟩
      · show false = bvalidM f n l
        refine (Bool.eq_false_iff.2 fun hb => ?_).symm
        have := (bvalid_iff.1 hb).2.2.2 c (by rw [← hc]; exact List.getElem_mem hlt)
        unfold conOk at this
        rw [decide_eq_true_eq] at this
        obtain ⟨q1, q2, q3, q4, q5, q6, q7⟩ := this
        rcases h6 with h6 | h6 | h6 | h6 | h6
        · exact h6 ⟨q1, q2, q3⟩
        · omega
        · omega
        · omega
        · exact h6 q7
      · intro d hd
        rw [take_succ_nat (by rw [List.getElem?_eq_getElem hlt, hc])] at hd
        rcases List.mem_append.1 hd with hd | hd
        · exact hj d hd
        · rw [List.mem_singleton] at hd
          subst hd
          unfold conOk
          rw [decide_eq_true_eq]
          have e : ∀ {p : Prop}, ¬ ¬ p → p := fun h => Classical.not_not.1 h
          have q1 := e fun x => h6 (.inl x)
          refine ⟨q1.1, q1.2.1, q1.2.2, ?_, ?_, ?_, ?_⟩
          · exact Int.not_lt.1 fun x => h6 (.inr (.inl x))
          · exact Int.not_lt.1 fun x => h6 (.inr (.inr (.inl x)))
          · exact Int.not_lt.1 fun x => h6 (.inr (.inr (.inr (.inl x))))
          · exact e fun x => h6 (.inr (.inr (.inr (.inr x))))
    · show true = bvalidM f n l
      rw [List.take_of_length_le (by omega)] at hj
      refine (bvalid_iff.2 ⟨Classical.not_not.1 h, hn, ?_, hj⟩).symm
      have : ¬ (2000 : Int) < ((l.length : Nat) : Int) := fun e => h4 (.inr e)
      omega
theorem spec_bvalid (f : Flt) (n : Int) (l : (List Con)) (h0 : f.dr.length ≤ 1073741824) (h1 : f.sv.length ≤ 1073741824) (h2 : f.tm.length ≤ 1073741824) (h3 : l.length ≤ 1073741824) : FnP Try.prog 34 [.agg ((e27 true) f), .int .i64 n, .lst true l.length (encL e66 l)] (fun xR => xR = .bool (bvalidM f n l)) :=
  (walk_bvalid (vcp_bvalid f n l h0 h1 h2 h3)).mono (by rintro _ ⟨_, rfl, rfl⟩; rfl)
def vc_possible  (Post : Prop) : Prop :=
  Post
set_option maxRecDepth 100000 in
set_option maxHeartbeats 4000000 in
theorem walk_possible {f : Flt} {n : Int} {l : (List Con)} {Post : Prop} (hv : vc_possible Post) : FnS Try.prog 35 [.agg ((e27 true) f), .int .i64 n, .lst true l.length (encL e66 l)] (fun x => x = .clo 55 [] [.ipt true [.lst true f.dr.length (encL eInt f.dr), .int .i64 f.la, .int .i64 f.li, .lst true f.sv.length (encL eInt f.sv), .lst true f.tm.length (encL eInt f.tm)], .ipt true [.int .i64 n], .ipt true [.lst true l.length (encL e66 l)]] ∧ Post) := by
 refine FnS.of_walk (T := tt) (nt := 8) ttOk ttMix ⟨⟨Try.f35, Try.func35, rfl, rfl, rfl, rfl⟩⟩ (by simp) ?_
 unfold vc_possible at hv
 change W _ _ _ ⟨8, look [(0, .agg [.lst true f.dr.length (encL eInt f.dr), .int .i64 f.la, .int .i64 f.li, .lst true f.sv.length (encL eInt f.sv), .lst true f.tm.length (encL eInt f.tm)]), (1, .int .i64 n), (2, .lst true l.length (encL e66 l))], [], 0⟩ _
 refine W.tr [(0, .agg _), (1, .int _ _), (2, .lst _ _ _)] [] ⟨rfl, rfl, rfl, trivial⟩ rfl ?_
 refine W.rL ?_
 refine cL rfl (o_box (v := .agg _) (p := 0) rfl rfl rfl ?_)
 refine cL rfl (o_box (v := .int _ _) (p := 1) rfl rfl rfl ?_)
 refine cL rfl (o_box (v := .lst _ _ _) (p := 2) rfl rfl rfl ?_)
 refine cL rfl (o_assign (v := .nilF) rfl ?_)
 refine eL ?_
 refine W.tr [(3, .ptr _ _), (4, .ptr _ _), (5, .ptr _ _)] [.box _ [.lst _ _ _, .int _ _, .int _ _, .lst _ _ _, .lst _ _ _], .box _ [.int _ _], .box _ [.lst _ _ _]] ⟨rfl, rfl, rfl, trivial⟩ rfl ?_
 refine W.rL ?_
 refine cL rfl (o_mf (ps := []) (qs := [.ptr _ _, .ptr _ _, .ptr _ _]) rfl rfl ?_)
 refine cL rfl (o_assign (v := .clo _ _ _) rfl ?_)
 refine eL ?_
 refine W.tr [(6, .clo _ _ _)] [.box _ [.lst _ _ _, .int _ _, .int _ _, .lst _ _ _, .lst _ _ _], .box _ [.int _ _], .box _ [.lst _ _ _]] ⟨rfl, trivial⟩ rfl ?_
 refine W.ret ?_
 refine rt ?_
 refine rt_t (v := .clo _ _ _) rfl ?_
 refine rt_n ?_
 exact ⟨_, ag_clo 5 _ _ (Wks.refl _) (Wks.cons (ag_box 4 rfl (Wks.cons (ag_lst _ _ _ _ _) (Wks.cons (ag_int _ _ _ _) (Wks.cons (ag_int _ _ _ _) (Wks.cons (ag_lst _ _ _ _ _) (Wks.cons (ag_lst _ _ _ _ _) (Wks.refl _))))))) (Wks.cons (ag_box 4 rfl (Wks.cons (ag_int _ _ _ _) (Wks.refl _))) (Wks.cons (ag_box 4 rfl (Wks.cons (ag_lst _ _ _ _ _) (Wks.refl _))) (Wks.refl _)))), rfl, hv⟩
theorem spec_possible (f : Flt) (n : Int) (l : (List Con))  : FnS Try.prog 35 [.agg ((e27 true) f), .int .i64 n, .lst true l.length (encL e66 l)] (fun xR => xR = .clo 55 [] [.ipt true [.lst true f.dr.length (encL eInt f.dr), .int .i64 f.la, .int .i64 f.li, .lst true f.sv.length (encL eInt f.sv), .lst true f.tm.length (encL eInt f.tm)], .ipt true [.int .i64 n], .ipt true [.lst true l.length (encL e66 l)]]) :=
  (walk_possible (f := f) (n := n) (l := l) (Post := True) trivial).mono (by rintro _ ⟨rfl, -⟩; rfl)
end Go.Lat
