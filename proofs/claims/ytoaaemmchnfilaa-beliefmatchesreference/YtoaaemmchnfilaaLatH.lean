/- The law latecomerlaw10.BeliefMatchesReference returns true for every input, and each argument reads afterwards as it read before. Part 8 of 14. No condition. -/
import Derived.Test.YtoaaemmchnfilaaLatD
import Derived.Test.YtoaaemmchnfilaaLatE
import Derived.Test.YtoaaemmchnfilaaLatG
import Derived.Test.YtoaaemmchnfilaaLatF
set_option linter.unusedVariables false
set_option linter.unusedSimpArgs false
set_option linter.unnecessarySimpa false
set_option maxRecDepth 100000
set_option maxHeartbeats 4000000
namespace Go.Lat
open Go.RowKit Go.Proofs
attribute [local irreducible] zWy zWz pointM addBM cycleM holdsM validBM sameM madeM pickM zW validM possM firstM tableM longerM zYs ofM addM freeM
def vc_range (b : Bd) (f : Int) (t : Int) (Post : Int -> Int -> Int -> Prop) : Prop :=
  ((b.most.length <= 1073741824) /\ (∀ r ∈ b.most, r.length <= 1073741824) /\ True) /\ ((((¬ ((validBM b) = true)) \/ (((min f t) < 0) \/ (b.n <= (max f t)))) -> Post 0 0 2) /\ (¬ ((¬ ((validBM b) = true)) \/ (((min f t) < 0) \/ (b.n <= (max f t)))) -> (0 <= t /\ t < (b.most.length : Int)) /\ (0 <= f /\ f < ((lat b.most t).length : Int)) /\ (inI (-(lat (lat b.most t) f))) /\ (0 <= f /\ f < (b.most.length : Int)) /\ (0 <= t /\ t < ((lat b.most f).length : Int)) /\ Post (-(lat (lat b.most t) f)) (lat (lat b.most f) t) 0))
theorem walk_range {b : Bd} {f : Int} {t : Int} {Post : Int -> Int -> Int -> Prop} (hv : vc_range b f t Post) : FnP Try.prog 27 [.agg ((e53 true) b), .int .i64 f, .int .i64 t] (fun x => ∃ q0 q1 q2, x = .tup [.int .i64 q0, .int .i64 q1, .int .i64 q2] /\ Post q0 q1 q2) := by
 refine FnP.of_walk (T := tt) (nt := 43) ttOk ttMix ⟨⟨Try.f27, Try.func27, rfl, rfl, rfl, rfl⟩⟩ (by simp) ?_
 unfold vc_range at hv
 change W _ _ _ ⟨43, look [(0, .agg [.int .i64 b.n, .lst true b.most.length (zYy (eSl zYx true) b.most)]), (1, .int .i64 f), (2, .int .i64 t)], [], 0⟩ _
 refine W.rL (cL rfl (o_box (v := .agg _) (p := 0) rfl rfl rfl ?_))
 iterate 3 refine aI rfl rfl ?_
 refine eL (W.tr [(1, .int _ _), (2, .int _ _), (3, .ptr _ _)] [.box _ [.int _ _, .lst _ _ _]] ⟨rfl, rfl, rfl, trivial⟩ rfl (W.seq' ?_))
 obtain ⟨sd, hv⟩ := hv
 refine W.rLm ⟨43, look [(1, .int .i64 f), (2, .int .i64 t), (3, .ptr 0 0), (25, .bool (decide ((¬ ((validBM b) = true)) \/ (((min f t) < 0) \/ (b.n <= (max f t))))))], [.box 53 [.int .i64 b.n, .lst true b.most.length (zYy (eSl zYx true) b.most)]], 0⟩ ?_ ?_
 refine cL rfl (zXv (cs := [.int _ _, .lst _ _ _]) tt53 rfl rfl ⟨_, rfl⟩ rfl ?_)
 obtain ⟨s7, s8, sd⟩ := sd
 refine cL rfl (zZu (k := 47) (fst := []) (caps := []) (ys := [.agg _]) rfl rfl (spec_vald b s7 s8) (Wks.cons (zXr 5 _ (Wks.cons (zZz _ _ _ _) (Wks.cons (zZs _ _ _ _ _) (Wks.refl _)))) (Wks.refl _)) (cL rfl (o_notB rfl (mB rfl rfl ?_))))
 by_cases c1 : ¬ ((validBM b) = true)
 iterate 4 refine cLs rfl rfl rfl (dT c1) ?_
 refine cL rfl (zZv (v := .bool _) rfl (dT c1) rfl (mB rfl rfl ?_))
 iterate 6 refine cLs rfl rfl rfl (rfl) ?_
 refine cL rfl (zZv (v := .bool _) rfl rfl rfl (eL (zYz ⟨rfl, rfl, rfl, (congrArg AV.bool (dOrT c1)).symm, trivial⟩ rfl)))
 refine cLg rfl rfl (dF c1) (mI rfl rfl (cLg rfl rfl (dF c1) (mI rfl rfl (cLg rfl rfl (dF c1) (cL rfl (o_min rfl rfl (cLg rfl rfl (dF c1) (cL rfl (zXw rfl rfl (cL rfl (zZy (v := .bool _) rfl (dF c1) rfl (mB rfl rfl ?_))))))))))))
 by_cases c2 : (min f t) < 0
 iterate 6 refine cLs rfl rfl rfl (dT c2) ?_
 refine cL rfl (zZv (v := .bool _) rfl (dT c2) rfl (eL (zYz ⟨rfl, rfl, rfl, (congrArg AV.bool (dOrF c1 (dOrT c2))).symm, trivial⟩ rfl)))
 refine cLg rfl rfl (dF c2) (mI rfl rfl (cLg rfl rfl (dF c2) (mI rfl rfl (cLg rfl rfl (dF c2) (cL rfl (o_max rfl rfl (cLg rfl rfl (dF c2) (cL rfl (o_fa tt53 rfl tt3 rfl (cLg rfl rfl (dF c2) (cL rfl (zZx (v := .int _ _) tt3 rfl rfl ⟨_, rfl⟩ (cLg rfl rfl (dF c2) (cL rfl (o_geq rfl rfl (cL rfl (zZy (v := .bool _) rfl (dF c2) rfl (eL (zYz ⟨rfl, rfl, rfl, (congrArg AV.bool (dOrF c1 (dOrF c2 (rfl)))).symm, trivial⟩ rfl)))))))))))))))))))
 refine W.cn rfl (fun hc => ?_) (fun hc => ?_)
 have hv := hv.1 hc
 refine W.rL ?_
 iterate 3 refine aI rfl rfl ?_
 refine eL (W.ret (zZr (rt ?_)))
 iterate 3 refine rt_t (v := .int _ _) rfl ?_
 refine rt_n (⟨_, rs_tup 5 _ (Wks.cons (zY _ _ _ _) (Wks.cons (zY _ _ _ _) (Wks.cons (zY _ _ _ _) (Wks.refl _)))), 0, 0, 2, rfl, hv⟩)
 have hv := hv.2 hc
 refine W.skip (zZ (W.rD [0, 1, 2, 3, 4, 5, 6, 7, 8, 9, 10, 11, 12, 13, 14, 15, 16, 17, 18, 19] (by decide +kernel) rfl (cL rfl (o_fa tt53 rfl tt51 rfl (cL rfl (zZx (v := .lst _ _ _) tt51 rfl rfl ⟨_, rfl⟩ (mI rfl rfl ?_)))))))
 obtain ⟨s9, hv⟩ := hv
 refine cL rfl (zYp tt51 tt23 rfl rfl ((encSl zYx).wd true) rfl s9 ?_)
 intro rest9
 refine cL rfl (zZx (v := .lst _ _ _) tt23 rfl rfl ⟨_, rfl⟩ (mI rfl rfl ?_))
 obtain ⟨s10, hv⟩ := hv
 refine cL rfl (zYp tt23 tt3 rfl rfl (zZw.wd true) rfl s10 ?_)
 intro rest10
 refine cL rfl (zZx (v := .int _ _) tt3 rfl rfl ⟨_, rfl⟩ ?_)
 obtain ⟨s11, hv⟩ := hv
 refine cL rfl (o_neg rfl s11 (cL rfl (o_fa tt53 rfl tt51 rfl (cL rfl (zZx (v := .lst _ _ _) tt51 rfl rfl ⟨_, rfl⟩ (mI rfl rfl ?_))))))
 obtain ⟨s12, hv⟩ := hv
 refine cL rfl (zYp tt51 tt23 rfl rfl ((encSl zYx).wd true) rfl s12 ?_)
 intro rest12
 refine cL rfl (zZx (v := .lst _ _ _) tt23 rfl rfl ⟨_, rfl⟩ (mI rfl rfl ?_))
 obtain ⟨s13, hv⟩ := hv
 refine cL rfl (zYp tt23 tt3 rfl rfl (zZw.wd true) rfl s13 ?_)
 intro rest13
 refine cL rfl (zZx (v := .int _ _) tt3 rfl rfl ⟨_, rfl⟩ ?_)
 iterate 3 refine aI rfl rfl ?_
 refine eL (W.tr [(6, .int _ _), (7, .int _ _), (8, .int _ _)] [.box _ [.int _ _, .lst _ _ _]] ⟨rfl, rfl, rfl, trivial⟩ rfl (W.ret (rt ?_)))
 iterate 3 refine rt_t (v := .int _ _) rfl ?_
 refine rt_n (⟨_, rs_tup 5 _ (Wks.cons (zY _ _ _ _) (Wks.cons (zY _ _ _ _) (Wks.cons (zY _ _ _ _) (Wks.refl _)))), (-(lat (lat b.most t) f)), (lat (lat b.most f) t), 0, rfl, hv⟩)
theorem vcp_range (b : Bd) (f : Int) (t : Int) (h0 : b.most.length <= 1073741824) (h1 : ∀ r ∈ b.most, r.length <= 1073741824) : vc_range b f t (fun q0 q1 q2 => q0 = (zWz b f t).1 /\ q1 = (zWz b f t).2.1 /\ q2 = (zWz b f t).2.2) := by
  unfold vc_range
  have hnb := hNB
  refine ⟨⟨h0, h1, trivial⟩, fun h => ?_, fun h => ?_⟩
  . have e : zWz b f t = (0, 0, 2) := by
      unfold zWz; rw [if_neg]
      rintro ⟨a1, a2, a3⟩
      rcases h with h | h | h
      . exact h a1
      . omega
      . omega
    rw [e]; exact ⟨rfl, rfl, rfl⟩
  have hv : validBM b = true := Classical.not_not.mp fun e => h (.inl e)
  have vb := validBM_iff.mp hv
  have h9 := fun e => h (.inr e)
  have hn := vb.n
  obtain ⟨f, rfl⟩ : ∃ k : Nat, f = k := ⟨f.toNat, by omega⟩
  obtain ⟨t, rfl⟩ : ∃ k : Nat, t = k := ⟨t.toNat, by omega⟩
  have e : zWz b f t = (-bm b t f, bm b f t, 0) := by unfold zWz; rw [if_pos ⟨hv, by omega, by omega⟩]; rfl
  have r1 := vb.row f (by omega)
  have r2 := vb.row t (by omega)
  have o := vb.ok t f (by omega) (by omega)
  rw [e, lat_lat, lat_lat, lat_nat, lat_nat]
  refine ⟨by omega, ?_, by unfold inI; omega, by omega, ?_, rfl, rfl, rfl⟩
  . show _ /\ _ < ((b.most.getD t []).length : Int); omega
  . show _ /\ _ < ((b.most.getD f []).length : Int); omega
theorem spec_range (b : Bd) (f : Int) (t : Int) (h0 : b.most.length <= 1073741824) (h1 : ∀ r ∈ b.most, r.length <= 1073741824) : FnP Try.prog 27 [.agg ((e53 true) b), .int .i64 f, .int .i64 t] (fun xR => xR = .tup [.int .i64 ((zWz b f t).1), .int .i64 ((zWz b f t).2.1), .int .i64 ((zWz b f t).2.2)]) :=
  (walk_range (vcp_range b f t h0 h1)).mono (by rintro _ ⟨_, _, _, rfl, rfl, rfl, rfl⟩; rfl)
def vc_of (b : Bd) (Post : (Vector Int 576) -> Prop) : Prop :=
  ∃ (I1 : Int -> (Vector Int 576) -> Prop) (μ1 : Int -> (Vector Int 576) -> Nat), I1 0 freeM /\ ∀ (v10 : Int) (m1 : (Vector Int 576)), I1 v10 m1 -> ((v10 < ((b.most.length : Nat) : Int)) -> (0 <= v10 /\ v10 < (b.most.length : Int)) /\ (0 <= v10 /\ v10 < ((24 : Nat) : Int)) /\ (0 <= ((0 : Nat) : Int) /\ ((0 : Nat) : Int) <= ((24 : Nat) : Int) /\ ((24 : Nat) : Int) <= ((24 : Nat) : Int)) /\ (v10.toNat * 24 + 24 <= 576) /\ (inI (v10 + 1)) /\ (I1 (v10 + 1) (vput m1 (v10.toNat * 24) ((lat b.most v10).take 24)) /\ μ1 (v10 + 1) (vput m1 (v10.toNat * 24) ((lat b.most v10).take 24)) < μ1 v10 m1)) /\ (¬ (v10 < ((b.most.length : Nat) : Int)) -> Post m1)
theorem walk_of {b : Bd} {Post : (Vector Int 576) -> Prop} (hv : vc_of b Post) : FnH Try.prog 60 [] [.agg ((e53 true) b)] (fun x H => ∃ l q0, H = .box 108 (zYy zYx q0.toList) :: l /\ x = .ptr 0 0 /\ Post q0) := by
 refine FnH.of_walk (T := tt) (nt := 24) ttOk ttMix ⟨⟨Try.f60, Try.func60, rfl, rfl, rfl, rfl⟩⟩ (by simp) (by simp) 0 (by simp) ?_
 unfold vc_of at hv
 change W _ _ _ ⟨24, look [(0, .agg [.int .i64 b.n, .lst true b.most.length (zYy (eSl zYx true) b.most)])], [], 0⟩ _
 refine W.rL (cL rfl (o_box (v := .agg _) (p := 0) rfl rfl rfl (cL rfl (zZq (v := .nilP) rfl (eL (W.tr [(1, .ptr _ _)] [.box _ [.int _ _, .lst _ _ _]] ⟨rfl, trivial⟩ rfl (W.rH (cHc rfl (callH_N1 (xs := _) (spec_free) (Wks.refl _) flatI rfl (cH rfl (zZq (v := .ptr _ _) rfl (eH (W.seq' (W.rL (cL rfl (o_fa tt53 rfl tt51 rfl (cL rfl (zZx (v := .lst _ _ _) tt51 rfl rfl ⟨_, rfl⟩ (cL rfl (zXq (v := .lst _ _ _) tt51 rfl rfl (mI rfl rfl (eL (W.block ?_)))))))))))))))))))))))
 obtain ⟨I1, μ1, hp, hv⟩ := hv
 refine W.loop2 (fun v10 m1 => ⟨24, look [(3, .ptr 1 0), (8, .lst true b.most.length (zYy (eSl zYx true) b.most)), (9, .int .i64 ((b.most.length : Nat) : Int)), (10, .int .i64 v10)], [.dead, .box 108 (zYy zYx m1.toList)], 0⟩) I1 μ1 0 freeM (St.to_mk (φ := [none, some 1]) rfl (rfl) ⟨Ren.ptr rfl, Ren.lst _ _ _, Ren.int _ _, Ren.int _ _, trivial⟩ ⟨rfl, .inr ⟨_, rfl, rfl, Rens.enc zZw true _⟩, trivial⟩) hp ?_
 clear hp
 intro v10 m1 hI
 replace hv := hv v10 m1 hI
 clear hI
 refine W.rL (cL rfl (zXw rfl rfl (eL (W.seq' (W.cn rfl (fun hc => ?_) (fun hc => ?_))))))
 have hv := hv.1 hc
 refine W.skip (zZ (W.seq' (W.block (W.rL (mI rfl rfl ?_)))))
 obtain ⟨s50, hv⟩ := hv
 refine cL rfl (zYp tt51 tt23 rfl rfl ((encSl zYx).wd true) rfl s50 ?_)
 intro rest50
 refine cL rfl (zZx (v := .lst _ _ _) tt23 rfl rfl ⟨_, rfl⟩ (aI rfl rfl (aL rfl rfl (eL (W.rL1 (cL rfl (zZp (v := .ptr _ _) rfl (mI rfl rfl (cL rfl (o_nil rfl ?_))))))))))
 obtain ⟨s51, hv⟩ := hv
 refine cL rfl (o_iaA tt108 tt104 rfl rfl s51 (Nat.zero_add _) ?_)
 obtain ⟨s52, hv⟩ := hv
 refine cL rfl (o_slA tt104 tt3 rfl rfl rfl s52 (off := v10.toNat * 24) (c := 24) (by simp) (by simp) (mL rfl rfl ?_))
 obtain ⟨s53, hv⟩ := hv
 refine cL rfl (o_cpV (xs := lat b.most v10) tt23 tt3 rfl (src_lst wdInt _ _ rfl) rfl s53 (eL (zYq (zZ (W.tr [(3, .ptr _ _), (8, .lst _ _ _), (9, .int _ _), (10, .int _ _)] [.dead, .box _ _] ⟨rfl, rfl, rfl, rfl, trivial⟩ rfl (W.rL1 ?_))))))
 obtain ⟨s54, hv⟩ := hv
 refine cL rfl (o_add rfl rfl s54 (mI rfl rfl (eL (zZ (⟨(), (v10 + 1), (vput m1 (v10.toNat * 24) ((lat b.most v10).take 24)), hv, St.to_mk (φ := [none, some 1]) rfl (rfl) ⟨Ren.ptr rfl, Ren.lst _ _ _, Ren.int _ _, Ren.int _ _, trivial⟩ ⟨rfl, .inr ⟨_, rfl, rfl, Rens.enc zZw true _⟩, trivial⟩⟩)))))
 have hv := hv.2 hc
 refine W.exit (zZt (zZt (zXy (zZ (W.rL (cL rfl (zZp (v := .ptr _ _) rfl (cL rfl (zZq (v := .ptr _ _) rfl (eL (W.to (st' := ⟨24, look [(2, .ptr 0 0)], [.box 108 (zYy zYx m1.toList)], 0⟩) (St.to_mk (φ := [some 1]) rfl rfl ⟨Ren.ptr rfl, trivial⟩ ⟨.inr ⟨_, rfl, rfl, Rens.enc zZw true _⟩, trivial⟩) (W.ret (rt (rt_t (v := .ptr _ _) rfl (rt_n (⟨_, m1, rfl, rfl, hv⟩))))))))))))))))
theorem vcp_of (b : Bd) (h0 : b.most.length <= 24) : vc_of b (fun q0 => q0 = ofM b) := by
  unfold vc_of
  refine ⟨fun v m => ∃ i : Nat, v = i /\ i <= b.most.length /\ m = (List.range i).foldl (fun m i => vput m (i * 24) ((b.most.getD i []).take 24)) freeM, fun v _ => b.most.length - v.toNat, ⟨0, rfl, by omega, rfl⟩, ?_⟩
  rintro _ m0 ⟨i, rfl, hi, hm⟩
  refine ⟨fun h1 => ⟨by omega, by omega, by omega, by omega, by unfold inI; omega, ⟨i + 1, by omega, by omega, ?_⟩, by dsimp only; omega⟩, fun h1 => ?_⟩
  . rw [List.range_succ, List.foldl_append, <- hm, lat_nat]; rfl
  . have : i = b.most.length := by omega
    subst this; show m0 = ofM b; unfold ofM; exact hm
theorem spec_of (b : Bd) (h0 : b.most.length <= 24) : FnH Try.prog 60 [] [.agg ((e53 true) b)] (fun xR H => ∃ l, H = .box 108 (zYy zYx (ofM b).toList) :: l /\ xR = .ptr 0 0) :=
  (walk_of (vcp_of b h0)).mono (by rintro _ _ ⟨l, _, h1, h2, rfl⟩; exact ⟨l, h1, h2⟩)
def vc_cloneR (s : (List Int)) (Post : (List Int) -> Prop) : Prop :=
  ∃ J1 : Prop, (J1 -> ((s).length <= 1073741824) /\ Post s) /\ ((0 < s.length -> J1) /\ (s.length = 0 -> (Post []) /\ (J1)))
theorem walk_cloneR {s : (List Int)} {Post : (List Int) -> Prop} (hv : vc_cloneR s Post) : FnH Try.prog 61 [] [.lst true s.length (zYy zYx s)] (fun x H => ∃ l q0, H = .row 3 1 (zYy zYx q0) :: l /\ x = .ref false 0 q0.length /\ Post q0) := by
 refine FnH.of_walk (T := tt) (nt := 8) ttOk ttMix ⟨⟨Try.f61, Try.func61, rfl, rfl, rfl, rfl⟩⟩ (by simp) (by simp) 0 (by simp) ?_
 unfold vc_cloneR at hv
 change W _ _ _ ⟨8, look [(0, .lst true s.length (zYy zYx s))], [], 0⟩ _
 refine W.rL (cL rfl (zZq (v := .nilS) rfl (eL ?_)))
 obtain ⟨J1, hj, hv⟩ := hv
 refine W.mid0 (⟨8, look [(0, .lst true s.length (zYy zYx s))], [], 0⟩) J1 ?_ ?_
 intro hv
 replace hv := hj hv
 refine W.rL (cL rfl (o_buildS (q := 0) (qs := []) (cs := []) tt23 tt3 rfl rfl rfl rfl (mL rfl rfl ?_)))
 obtain ⟨s1, hv⟩ := hv
 refine cL rfl (o_apR (p := 1) (q := (s).length) tt23 tt3 rfl rfl (src_lst (zZw.wd true) _ _ rfl) (zYr (zZw.wd true) _) rfl rfl (by simpa using s1) rfl (Nat.zero_add _) (List.nil_append _) (cL rfl (zZq (v := .ref _ _ _) rfl (eL (W.tr [(2, .ref _ _ _)] [.dead, .row _ _ _] ⟨rfl, trivial⟩ rfl (W.to (st' := ⟨8, look [(2, .ref false 0 s.length)], [.row 3 1 (zYy zYx s)], 0⟩) (St.to_mk (φ := [some 1]) rfl rfl ⟨Ren.ref rfl (fun h => h), trivial⟩ ⟨.inr ⟨_, rfl, rfl, rfl, rfl, Rens.enc zZw false s⟩, trivial⟩) ?_))))))
 refine W.ret (rt (rt_t (v := .ref _ _ _) rfl (rt_n (⟨_, s, rfl, rfl, hv⟩))))
 clear hj
 refine W.rL (mL rfl rfl (cL rfl (o_nilEL tt23 rfl ⟨fun hz => ?_, fun hz => ⟨?_, ?_⟩⟩)))
 have hv := hv.1 hz
 refine eL (W.cF rfl (W.skip (zZ (⟨(), hv, St.to_mk (φ := []) rfl (rfl) ⟨Ren.lst _ _ _, trivial⟩ trivial⟩))))
 have hv := (hv.2 hz).1
 refine eL (W.cT rfl (W.rL (cL rfl (zZq (v := .nilS) rfl (eL (W.to (st' := ⟨8, look [(2, .ref false 0 0)], [.row 3 1 (zYy zYx [])], 0⟩) (St.to_mk (φ := [none]) rfl rfl ⟨Ren.nilR rfl rfl, trivial⟩ ⟨rfl, trivial⟩) (W.ret (zZr (rt (rt_t (v := .ref _ _ _) rfl (rt_n (⟨_, [], rfl, rfl, hv⟩))))))))))))
 have hv := (hv.2 hz).2
 refine eL (W.cF rfl (W.skip (zZ (⟨(), hv, St.to_mk (φ := []) rfl (rfl) ⟨Ren.lst _ _ _, trivial⟩ trivial⟩))))
theorem vcp_cloneR (s : (List Int)) (h0 : s.length <= 1073741824) : vc_cloneR s (fun q0 => q0 = s) := by
  unfold vc_cloneR
  exact ⟨True, fun _ => ⟨h0, rfl⟩, fun _ => trivial, fun h => ⟨(List.eq_nil_of_length_eq_zero h).symm, trivial⟩⟩
theorem spec_cloneR (s : (List Int)) (h0 : s.length <= 1073741824) : FnH Try.prog 61 [] [.lst true s.length (zYy zYx s)] (fun xR H => ∃ l, H = .row 3 1 (zYy zYx (s)) :: l /\ xR = .ref false 0 (s).length) :=
  (walk_cloneR (vcp_cloneR s h0)).mono (by rintro _ _ ⟨l, _, h1, h2, rfl⟩; exact ⟨l, h1, h2⟩)
def vc_point (b : Bd) (f : Int) (t : Int) (v : Int) (Post : (List Int) -> Int -> Prop) : Prop :=
  (b.most.length <= 1073741824) /\ (∀ r ∈ b.most, r.length <= 1073741824) /\ (((¬ (zWz b f t).2.2 = 0) \/ ((v < (max ((zWz b f t).1) (-36028797018963968))) \/ ((min ((zWz b f t).2.1) 36028797018963968) < v))) -> Post [] 2) /\ (¬ ((¬ (zWz b f t).2.2 = 0) \/ ((v < (max ((zWz b f t).1) (-36028797018963968))) \/ ((min ((zWz b f t).2.1) 36028797018963968) < v))) -> (b.most.length <= 24) /\ ∃ J1 : (Vector Int 576) -> Prop, (∀ (b1 : (Vector Int 576)), J1 b1 -> (0 <= f /\ f < ((24 : Nat) : Int)) /\ (0 <= ((0 : Nat) : Int) /\ ((0 : Nat) : Int) <= b.n /\ b.n <= ((24 : Nat) : Int)) /\ (((b1.toList.drop (f.toNat * 24)).take b.n.toNat).length <= 1073741824) /\ ∃ (I2 : Int -> List Int -> Prop) (μ2 : Int -> List Int -> Nat), I2 0 ((b1.toList.drop (f.toNat * 24)).take b.n.toNat) /\ ∀ (v66 : Int) (r2 : List Int), I2 v66 r2 -> ((v66 < ((((b1.toList.drop (f.toNat * 24)).take b.n.toNat).length : Nat) : Int)) -> ∃ J3 : List Int -> Prop, (∀ (r2_1 : List Int), J3 r2_1 -> (inI (v66 + 1)) /\ (I2 (v66 + 1) r2_1 /\ μ2 (v66 + 1) r2_1 < μ2 v66 r2)) /\ ((0 <= v66 /\ v66 < ((r2.length : Nat) : Int)) /\ ((¬ lat r2 v66 = 1152921504606846976) -> J3 r2) /\ (¬ (¬ lat r2 v66 = 1152921504606846976) -> (0 <= v66 /\ v66 < ((r2.length : Nat) : Int)) /\ ∃ (I4 : Int -> List Int -> Prop) (μ4 : Int -> List Int -> Nat), I4 0 (r2.set v66.toNat 576460752303423488) /\ ∀ (v78 : Int) (r2_1 : List Int), I4 v78 r2_1 -> ((v78 < b.n) -> ∃ J5 : List Int -> Prop, (∀ (r2_2 : List Int), J5 r2_2 -> (inI (v78 + 1)) /\ (I4 (v78 + 1) r2_2 /\ μ4 (v78 + 1) r2_2 < μ4 v78 r2_1)) /\ (((0 <= f /\ f < ((24 : Nat) : Int)) /\ (0 <= v78 /\ v78 < ((24 : Nat) : Int)) /\ (f.toNat * 24 + v78.toNat < 576) /\ ((vat b1 (f.toNat * 24 + v78.toNat) = 1152921504606846976) -> (0 <= v78 /\ v78 < ((24 : Nat) : Int)) /\ (0 <= v66 /\ v66 < ((24 : Nat) : Int)) /\ (v78.toNat * 24 + v66.toNat < 576) /\ True) /\ (¬ (vat b1 (f.toNat * 24 + v78.toNat) = 1152921504606846976) -> True)) /\ ((((vat b1 (f.toNat * 24 + v78.toNat) = 1152921504606846976) /\ (¬ vat b1 (v78.toNat * 24 + v66.toNat) = 1152921504606846976)) -> (0 <= v66 /\ v66 < ((r2_1.length : Nat) : Int)) /\ (0 <= v78 /\ v78 < ((24 : Nat) : Int)) /\ (0 <= v66 /\ v66 < ((24 : Nat) : Int)) /\ (v78.toNat * 24 + v66.toNat < 576) /\ (inI (576460752303423488 + (vat b1 (v78.toNat * 24 + v66.toNat)))) /\ (0 <= v66 /\ v66 < ((r2_1.length : Nat) : Int)) /\ J5 (r2_1.set v66.toNat (min (lat r2_1 v66) (576460752303423488 + (vat b1 (v78.toNat * 24 + v66.toNat)))))) /\ (¬ ((vat b1 (f.toNat * 24 + v78.toNat) = 1152921504606846976) /\ (¬ vat b1 (v78.toNat * 24 + v66.toNat) = 1152921504606846976)) -> J5 r2_1)))) /\ (¬ (v78 < b.n) -> J3 r2_1)))) /\ (¬ (v66 < ((((b1.toList.drop (f.toNat * 24)).take b.n.toNat).length : Nat) : Int)) -> Post r2 0)) /\ (((¬ f = t) -> (AddOk (ofM b) f t v) /\ (inI (-v)) /\ (AddOk ((addM (ofM b) f t v).2) t f (-v)) /\ J1 ((addM ((addM (ofM b) f t v).2) t f (-v)).2)) /\ (¬ (¬ f = t) -> J1 (ofM b))))
theorem walk_point {b : Bd} {f : Int} {t : Int} {v : Int} {Post : (List Int) -> Int -> Prop} (hv : vc_point b f t v Post) : FnP Try.prog 40 [.agg ((e53 true) b), .int .i64 f, .int .i64 t, .int .i64 v] (fun x => ∃ q0 q1, x = .tup [.lst false q0.length (zYy zYx q0), .int .i64 q1] /\ Post q0 q1) := by
 refine FnP.of_walk (T := tt) (nt := 118) ttOk ttMix ⟨⟨Try.f40, Try.func40, rfl, rfl, rfl, rfl⟩⟩ (by simp) ?_
 unfold vc_point at hv
 change W _ _ _ ⟨118, look [(0, .agg [.int .i64 b.n, .lst true b.most.length (zYy (eSl zYx true) b.most)]), (1, .int .i64 f), (2, .int .i64 t), (3, .int .i64 v)], [], 0⟩ _
 refine W.rL (cL rfl (o_box (v := .agg _) (p := 0) rfl rfl rfl (cL rfl (zZq (v := .nilS) rfl (aI rfl rfl (eL (W.tr [(1, .int _ _), (2, .int _ _), (3, .int _ _), (4, .ptr _ _)] [.box _ [.int _ _, .lst _ _ _]] ⟨rfl, rfl, rfl, rfl, trivial⟩ rfl (W.rL (cL rfl (zXv (cs := [.int _ _, .lst _ _ _]) tt53 rfl rfl ⟨_, rfl⟩ rfl ?_))))))))))
 iterate 2 refine mI rfl rfl ?_
 obtain ⟨s1, s2, hv⟩ := hv
 refine cL rfl (zZu (k := 27) (fst := []) (caps := []) (ys := [.agg _, .int _ _, .int _ _]) rfl rfl (spec_range b f t s1 s2) (Wks.cons (zXr 5 _ (Wks.cons (zZz _ _ _ _) (Wks.cons (zZs _ _ _ _ _) (Wks.refl _)))) (Wks.cons (zZz _ _ _ _) (Wks.cons (zZz _ _ _ _) (Wks.refl _)))) (cL rfl (zZp (v := .tup _) rfl ?_)))
 iterate 3 refine cL rfl (o_ext (v := .int _ _) rfl rfl ?_)
 iterate 3 refine aI rfl rfl ?_
 refine eL (W.tr [(1, .int _ _), (2, .int _ _), (3, .int _ _), (4, .ptr _ _), (10, .int _ _), (11, .int _ _), (12, .int _ _)] [.box _ [.int _ _, .lst _ _ _]] ⟨rfl, rfl, rfl, rfl, rfl, rfl, rfl, trivial⟩ rfl (W.seq' (W.rLm ⟨118, look [(1, .int .i64 f), (2, .int .i64 t), (3, .int .i64 v), (4, .ptr 0 0), (39, .bool (decide ((¬ (zWz b f t).2.2 = 0) \/ ((v < (max ((zWz b f t).1) (-36028797018963968))) \/ ((min ((zWz b f t).2.1) 36028797018963968) < v)))))], [.box 53 [.int .i64 b.n, .lst true b.most.length (zYy (eSl zYx true) b.most)]], 0⟩ ?_ ?_)))
 refine mI rfl rfl (cL rfl (o_neI rfl rfl rfl (mB rfl rfl ?_)))
 by_cases c1 : ¬ (zWz b f t).2.2 = 0
 iterate 4 refine cLs rfl rfl rfl (dT c1) ?_
 refine cL rfl (zZv (v := .bool _) rfl (dT c1) rfl (mB rfl rfl ?_))
 iterate 4 refine cLs rfl rfl rfl (rfl) ?_
 refine cL rfl (zZv (v := .bool _) rfl rfl rfl (eL (zYz ⟨rfl, rfl, rfl, rfl, (congrArg AV.bool (dOrT c1)).symm, trivial⟩ rfl)))
 refine cLg rfl rfl (dF c1) (mI rfl rfl (cLg rfl rfl (dF c1) (mI rfl rfl (cLg rfl rfl (dF c1) (cL rfl (o_max rfl rfl (cLg rfl rfl (dF c1) (cL rfl (zXw rfl rfl (cL rfl (zZy (v := .bool _) rfl (dF c1) rfl (mB rfl rfl ?_))))))))))))
 by_cases c2 : v < (max ((zWz b f t).1) (-36028797018963968))
 iterate 4 refine cLs rfl rfl rfl (dT c2) ?_
 refine cL rfl (zZv (v := .bool _) rfl (dT c2) rfl (eL (zYz ⟨rfl, rfl, rfl, rfl, (congrArg AV.bool (dOrF c1 (dOrT c2))).symm, trivial⟩ rfl)))
 refine cLg rfl rfl (dF c2) (mI rfl rfl (cLg rfl rfl (dF c2) (mI rfl rfl (cLg rfl rfl (dF c2) (cL rfl (o_min rfl rfl (cLg rfl rfl (dF c2) (cL rfl (o_gtr rfl rfl (cL rfl (zZy (v := .bool _) rfl (dF c2) rfl (eL (zYz ⟨rfl, rfl, rfl, rfl, (congrArg AV.bool (dOrF c1 (dOrF c2 (rfl)))).symm, trivial⟩ rfl)))))))))))))
 refine W.cn rfl (fun hc => ?_) (fun hc => ?_)
 have hv := hv.1 hc
 refine W.rL (cL rfl (zZq (v := .nilS) rfl (aI rfl rfl (eL (W.ret (zZr (rt (rt_t (v := .nilS) rfl (rt_t (v := .int _ _) rfl (rt_n (⟨_, rs_tup 5 _ (Wks.cons (rs_nil _ _ _ _ rfl) (Wks.cons (zY _ _ _ _) (Wks.refl _))), [], 2, rfl, hv⟩)))))))))))
 have hv := hv.2 hc
 refine W.skip (zZ (W.rH (cH rfl (zXv (cs := [.int _ _, .lst _ _ _]) tt53 rfl rfl ⟨_, rfl⟩ rfl ?_))))
 obtain ⟨s3, hv⟩ := hv
 refine cHc rfl (callH_N1 (xs := _) (spec_of b s3) (Wks.cons (zXr 5 _ (Wks.cons (zZz _ _ _ _) (Wks.cons (zZs _ _ _ _ _) (Wks.refl _)))) (Wks.refl _)) flatI rfl (cH rfl (zZq (v := .ptr _ _) rfl (eH (W.tr [(1, .int _ _), (2, .int _ _), (3, .int _ _), (4, .ptr _ _), (13, .ptr _ _)] [.box _ [.int _ _, .lst _ _ _], .box _ _] ⟨rfl, rfl, rfl, rfl, rfl, trivial⟩ rfl ?_)))))
 obtain ⟨J1, hj, hv⟩ := hv
 refine W.mid1 (fun b1 => ⟨118, look [(1, .int .i64 f), (4, .ptr 0 0), (13, .ptr 1 0)], [.box 53 [.int .i64 b.n, .lst true b.most.length (zYy (eSl zYx true) b.most)], .box 108 (zYy zYx b1.toList)], 0⟩) J1 ?_ ?_
 intro b1
 intro hv
 replace hv := hj b1 hv
 refine W.rM 7 [0, 1, 2, 3, 4, 5, 6, 7, 8] (by decide +kernel) (by decide +kernel) (cM rfl rfl rfl (zZp (v := .ptr _ _) rfl (cM rfl rfl rfl (zZp (v := .int _ _) rfl (cM rfl rfl rfl (o_nil rfl ?_))))))
 obtain ⟨s7, hv⟩ := hv
 refine cM rfl rfl rfl (o_iaA tt108 tt104 rfl rfl s7 (Nat.zero_add _) (cM rfl rfl rfl (o_fa tt53 rfl tt3 rfl (cM rfl rfl rfl (zZx (v := .int _ _) tt3 rfl rfl ⟨_, rfl⟩ ?_)))))
 obtain ⟨s8, hv⟩ := hv
 refine cM rfl rfl rfl (o_slA tt104 tt3 rfl rfl rfl s8 (off := f.toNat * 24) (c := b.n.toNat) (by simp) (by simp) ?_)
 obtain ⟨s9, hv⟩ := hv
 refine cMc rfl rfl (callH_R1 (xs := _) (spec_cloneR ((b1.toList.drop (f.toNat * 24)).take b.n.toNat) s9) (Wks.cons (ag_subv 4 rfl rfl (by simp; omega)) (Wks.refl _)) flatI rfl (cM rfl rfl rfl (zZq (v := .ref _ _ _) rfl (eM (W.tr [(1, .int _ _), (4, .ptr _ _), (13, .ptr _ _), (14, .ref _ _ _)] [.box _ [.int _ _, .lst _ _ _], .box _ _, .row _ _ _] ⟨rfl, rfl, rfl, rfl, trivial⟩ rfl (W.seq' (W.rL (cL rfl (zZp (v := .ref _ _ _) rfl (cL rfl (zXq (v := .ref _ _ _) tt23 rfl rfl (mI rfl rfl (eL (W.block ?_))))))))))))))
 obtain ⟨I2, μ2, hp, hv⟩ := hv
 refine W.loop2 (fun v66 r2 => ⟨118, look [(1, .int .i64 f), (4, .ptr 0 0), (13, .ptr 1 0), (14, .ref false 2 r2.length), (64, .ref false 2 r2.length), (65, .int .i64 ((((b1.toList.drop (f.toNat * 24)).take b.n.toNat).length : Nat) : Int)), (66, .int .i64 v66)], [.box 53 [.int .i64 b.n, .lst true b.most.length (zYy (eSl zYx true) b.most)], .box 108 (zYy zYx b1.toList), .row 3 1 (zYy zYx r2)], 0⟩) I2 μ2 0 ((b1.toList.drop (f.toNat * 24)).take b.n.toNat) (St.to_mk (φ := [some 0, some 1, some 2]) rfl (rfl) ⟨Ren.int _ _, Ren.ptr rfl, Ren.ptr rfl, Ren.ref rfl (fun h => h), Ren.ref rfl (fun h => h), Ren.int _ _, Ren.int _ _, trivial⟩ ⟨.inr ⟨_, rfl, rfl, Rens.cons (Ren.int _ _) (Rens.cons (Ren.lst _ _ _) (Rens.nil))⟩, .inr ⟨_, rfl, rfl, Rens.enc zZw true _⟩, .inr ⟨_, rfl, rfl, rfl, rfl, Rens.enc zZw false ((b1.toList.drop (f.toNat * 24)).take b.n.toNat)⟩, trivial⟩) hp ?_
 clear hp
 intro v66 r2 hI
 replace hv := hv v66 r2 hI
 clear hI
 refine W.rL (cL rfl (zXw rfl rfl (eL (W.seq' (W.cn rfl (fun hc => ?_) (fun hc => ?_))))))
 have hv := hv.1 hc
 refine W.skip (zZ ?_)
 obtain ⟨J3, hj, hv⟩ := hv
 refine W.mid1 (fun r2_1 => ⟨118, look [(1, .int .i64 f), (4, .ptr 0 0), (13, .ptr 1 0), (14, .ref false 2 r2_1.length), (64, .ref false 2 r2_1.length), (65, .int .i64 ((((b1.toList.drop (f.toNat * 24)).take b.n.toNat).length : Nat) : Int)), (66, .int .i64 v66)], [.box 53 [.int .i64 b.n, .lst true b.most.length (zYy (eSl zYx true) b.most)], .box 108 (zYy zYx b1.toList), .row 3 1 (zYy zYx r2_1)], 0⟩) J3 ?_ ?_
 intro r2_1
 intro hv
 replace hv := hj r2_1 hv
 refine W.rL1 ?_
 obtain ⟨s1258, hv⟩ := hv
 refine cL rfl (o_add rfl rfl s1258 (mI rfl rfl (eL (zZ (⟨(), (v66 + 1), r2_1, hv, St.to_mk (φ := [some 0, some 1, some 2]) rfl (rfl) ⟨Ren.int _ _, Ren.ptr rfl, Ren.ptr rfl, Ren.ref rfl (fun h => h), Ren.ref rfl (fun h => h), Ren.int _ _, Ren.int _ _, trivial⟩ ⟨.inr ⟨_, rfl, rfl, Rens.cons (Ren.int _ _) (Rens.cons (Ren.lst _ _ _) (Rens.nil))⟩, .inr ⟨_, rfl, rfl, Rens.enc zZw true _⟩, .inr ⟨_, rfl, rfl, rfl, rfl, Rens.enc zZw false r2_1⟩, trivial⟩⟩)))))
 clear hj
 refine W.block (W.rL (mI rfl rfl ?_))
 obtain ⟨s1259, hv⟩ := hv
 refine cL rfl (o_iaR tt23 tt3 rfl rfl s1259 (cL rfl (zZx (v := .int _ _) tt3 rfl rfl (cell_of (ca_row (xs := r2) rfl (zZw.wd false) s1259) rfl) ?_)))
 iterate 2 refine aI rfl rfl ?_
 refine eL (W.tr [(1, .int _ _), (4, .ptr _ _), (13, .ptr _ _), (14, .ref _ _ _), (15, .int _ _), (16, .int _ _), (64, .ref _ _ _), (65, .int _ _), (66, .int _ _)] [.box _ [.int _ _, .lst _ _ _], .box _ _, .row _ _ _] ⟨rfl, rfl, rfl, rfl, rfl, rfl, rfl, rfl, rfl, trivial⟩ rfl (W.seq' (W.rL (mI rfl rfl (cL rfl (o_neI rfl rfl rfl (eL (W.cn rfl (fun hc => ?_) (fun hc => ?_)))))))))
 have hv := hv.1 hc
 refine W.exit (zZt (zXy (zZ (⟨(), r2, hv, St.to_mk (φ := [some 0, some 1, some 2]) rfl (rfl) ⟨Ren.int _ _, Ren.ptr rfl, Ren.ptr rfl, Ren.ref rfl (fun h => h), Ren.ref rfl (fun h => h), Ren.int _ _, Ren.int _ _, trivial⟩ ⟨.inr ⟨_, rfl, rfl, Rens.cons (Ren.int _ _) (Rens.cons (Ren.lst _ _ _) (Rens.nil))⟩, .inr ⟨_, rfl, rfl, Rens.enc zZw true _⟩, .inr ⟨_, rfl, rfl, rfl, rfl, Rens.enc zZw false r2⟩, trivial⟩⟩))))
 have hv := hv.2 hc
 refine W.skip (zZ (W.rL (cL rfl (zZp (v := .ref _ _ _) rfl (mI rfl rfl ?_)))))
 obtain ⟨s1260, hv⟩ := hv
 refine cL rfl (o_iaR tt23 tt3 rfl rfl s1260 (cLn (o_stR (v := .int _ _) tt3 rfl rfl rfl rfl rfl (row_in (xs := r2) (zZw.wd false) s1260 rfl) (row_set (e := zYx) (zZw.wd false) _ _ 576460752303423488 rfl s1260.1 s1260.2) (eL (W.tr [(1, .int _ _), (4, .ptr _ _), (13, .ptr _ _), (14, .ref _ _ _), (15, .int _ _), (64, .ref _ _ _), (65, .int _ _), (66, .int _ _)] [.box _ [.int _ _, .lst _ _ _], .box _ _, .row _ _ _] ⟨rfl, rfl, rfl, rfl, rfl, rfl, rfl, rfl, trivial⟩ rfl (W.rL (cL rfl (o_fa tt53 rfl tt3 rfl (cL rfl (zZx (v := .int _ _) tt3 rfl rfl ⟨_, rfl⟩ (mI rfl rfl (eL (W.block ?_)))))))))))))
 obtain ⟨I4, μ4, hp, hv⟩ := hv
 refine W.loop2 (fun v78 r2_1 => ⟨118, look [(1, .int .i64 f), (4, .ptr 0 0), (13, .ptr 1 0), (14, .ref false 2 r2_1.length), (15, .int .i64 v66), (64, .ref false 2 r2_1.length), (65, .int .i64 ((((b1.toList.drop (f.toNat * 24)).take b.n.toNat).length : Nat) : Int)), (66, .int .i64 v66), (77, .int .i64 b.n), (78, .int .i64 v78)], [.box 53 [.int .i64 b.n, .lst true b.most.length (zYy (eSl zYx true) b.most)], .box 108 (zYy zYx b1.toList), .row 3 1 (zYy zYx r2_1)], 0⟩) I4 μ4 0 (r2.set v66.toNat 576460752303423488) (St.to_mk (φ := [some 0, some 1, some 2]) rfl (rfl) ⟨Ren.int _ _, Ren.ptr rfl, Ren.ptr rfl, Ren.refL rfl (fun h => h) (by simp), Ren.int _ _, Ren.refL rfl (fun h => h) (by simp), Ren.int _ _, Ren.int _ _, Ren.int _ _, Ren.int _ _, trivial⟩ ⟨.inr ⟨_, rfl, rfl, Rens.cons (Ren.int _ _) (Rens.cons (Ren.lst _ _ _) (Rens.nil))⟩, .inr ⟨_, rfl, rfl, Rens.enc zZw true _⟩, .inr ⟨_, rfl, rfl, rfl, rfl, Rens.enc zZw false (r2.set v66.toNat 576460752303423488)⟩, trivial⟩) hp ?_
 clear hp
 intro v78 r2_1 hI
 replace hv := hv v78 r2_1 hI
 clear hI
 refine W.rL (cL rfl (zXw rfl rfl (eL (W.seq' (W.cn rfl (fun hc => ?_) (fun hc => ?_))))))
 have hv := hv.1 hc
 refine W.skip (zZ ?_)
 obtain ⟨J5, hj, hv⟩ := hv
 refine W.mid1 (fun r2_2 => ⟨118, look [(1, .int .i64 f), (4, .ptr 0 0), (13, .ptr 1 0), (14, .ref false 2 r2_2.length), (15, .int .i64 v66), (64, .ref false 2 r2_2.length), (65, .int .i64 ((((b1.toList.drop (f.toNat * 24)).take b.n.toNat).length : Nat) : Int)), (66, .int .i64 v66), (77, .int .i64 b.n), (78, .int .i64 v78)], [.box 53 [.int .i64 b.n, .lst true b.most.length (zYy (eSl zYx true) b.most)], .box 108 (zYy zYx b1.toList), .row 3 1 (zYy zYx r2_2)], 0⟩) J5 ?_ ?_
 intro r2_2
 intro hv
 replace hv := hj r2_2 hv
 refine W.rL1 ?_
 obtain ⟨s1353, hv⟩ := hv
 refine cL rfl (o_add rfl rfl s1353 (mI rfl rfl (eL (zZ (⟨(), (v78 + 1), r2_2, hv, St.to_mk (φ := [some 0, some 1, some 2]) rfl (rfl) ⟨Ren.int _ _, Ren.ptr rfl, Ren.ptr rfl, Ren.ref rfl (fun h => h), Ren.int _ _, Ren.ref rfl (fun h => h), Ren.int _ _, Ren.int _ _, Ren.int _ _, Ren.int _ _, trivial⟩ ⟨.inr ⟨_, rfl, rfl, Rens.cons (Ren.int _ _) (Rens.cons (Ren.lst _ _ _) (Rens.nil))⟩, .inr ⟨_, rfl, rfl, Rens.enc zZw true _⟩, .inr ⟨_, rfl, rfl, rfl, rfl, Rens.enc zZw false r2_2⟩, trivial⟩⟩)))))
 clear hj
 refine W.block (W.rL (mI rfl rfl (aI rfl rfl (eL ?_))))
 obtain ⟨sd, hv⟩ := hv
 refine W.rLm ⟨118, look [(1, .int .i64 f), (4, .ptr 0 0), (13, .ptr 1 0), (14, .ref false 2 r2_1.length), (15, .int .i64 v66), (17, .int .i64 v78), (64, .ref false 2 r2_1.length), (65, .int .i64 ((((b1.toList.drop (f.toNat * 24)).take b.n.toNat).length : Nat) : Int)), (66, .int .i64 v66), (77, .int .i64 b.n), (78, .int .i64 v78), (98, .bool (decide ((vat b1 (f.toNat * 24 + v78.toNat) = 1152921504606846976) /\ (¬ vat b1 (v78.toNat * 24 + v66.toNat) = 1152921504606846976))))], [.box 53 [.int .i64 b.n, .lst true b.most.length (zYy (eSl zYx true) b.most)], .box 108 (zYy zYx b1.toList), .row 3 1 (zYy zYx r2_1)], 0⟩ ?_ ?_
 refine cL rfl (zZp (v := .ptr _ _) rfl ?_)
 iterate 2 refine mI rfl rfl ?_
 refine cL rfl (o_nil rfl ?_)
 obtain ⟨s1360, sd⟩ := sd
 refine cL rfl (o_iaA tt108 tt104 rfl rfl s1360 (Nat.zero_add _) ?_)
 obtain ⟨s1361, sd⟩ := sd
 refine cL rfl (o_iaA tt104 tt3 rfl rfl s1361 (by rw [Nat.mul_one]) ?_)
 obtain ⟨s1362, sd⟩ := sd
 refine cL rfl (zZx tt3 rfl rfl (ca_vec rfl s1362) (cL rfl (o_eqI rfl rfl rfl (mB rfl rfl ?_))))
 by_cases c1 : vat b1 (f.toNat * 24 + v78.toNat) = 1152921504606846976
 have sd := sd.1 c1
 refine cLg rfl rfl (dT c1) (cL rfl (zZp (v := .ptr _ _) rfl (cLg rfl rfl (dT c1) (mI rfl rfl (cLg rfl rfl (dT c1) (mI rfl rfl (cLg rfl rfl (dT c1) (cL rfl (o_nil rfl (cLg rfl rfl (dT c1) ?_))))))))))
 obtain ⟨s1363, sd⟩ := sd
 refine cL rfl (o_iaA tt108 tt104 rfl rfl s1363 (Nat.zero_add _) (cLg rfl rfl (dT c1) ?_))
 obtain ⟨s1364, sd⟩ := sd
 refine cL rfl (o_iaA tt104 tt3 rfl rfl s1364 (by rw [Nat.mul_one]) (cLg rfl rfl (dT c1) ?_))
 obtain ⟨s1365, sd⟩ := sd
 refine cL rfl (zZx tt3 rfl rfl (ca_vec rfl s1365) (cLg rfl rfl (dT c1) (cL rfl (o_neI rfl rfl rfl (cL rfl (zZv (v := .bool _) rfl (dT c1) rfl (eL (zYz ⟨rfl, rfl, rfl, rfl, rfl, rfl, rfl, rfl, rfl, rfl, rfl, (congrArg AV.bool (zXp c1 (rfl))).symm, trivial⟩ rfl))))))))
 iterate 8 refine cLs rfl rfl rfl (dF c1) ?_
 refine cL rfl (zZy (v := .bool _) rfl (dF c1) rfl (eL (zYz ⟨rfl, rfl, rfl, rfl, rfl, rfl, rfl, rfl, rfl, rfl, rfl, (congrArg AV.bool (dAndF c1)).symm, trivial⟩ rfl)))
 refine W.cn rfl (fun hc => ?_) (fun hc => ?_)
 have hv := hv.1 hc
 refine W.rD1 [0, 1, 2, 3, 4, 5, 6, 7, 8, 9, 10, 11, 12, 13, 14, 15, 16] (by decide +kernel) rfl (cL rfl (zZp (v := .ref _ _ _) rfl (mI rfl rfl (cL rfl (zZp (v := .ref _ _ _) rfl (mI rfl rfl ?_))))))
 obtain ⟨s1366, hv⟩ := hv
 refine cL rfl (o_iaR tt23 tt3 rfl rfl s1366 (cL rfl (zZx (v := .int _ _) tt3 rfl rfl (cell_of (ca_row (xs := r2_1) rfl (zZw.wd false) s1366) rfl) (cL rfl (zZp (v := .ptr _ _) rfl ?_)))))
 iterate 2 refine mI rfl rfl ?_
 refine cL rfl (o_nil rfl ?_)
 obtain ⟨s1367, hv⟩ := hv
 refine cL rfl (o_iaA tt108 tt104 rfl rfl s1367 (Nat.zero_add _) ?_)
 obtain ⟨s1368, hv⟩ := hv
 refine cL rfl (o_iaA tt104 tt3 rfl rfl s1368 (by rw [Nat.mul_one]) ?_)
 obtain ⟨s1369, hv⟩ := hv
 refine cL rfl (zZx tt3 rfl rfl (ca_vec rfl s1369) ?_)
 obtain ⟨s1370, hv⟩ := hv
 refine cL rfl (o_add rfl rfl s1370 (cL rfl (o_min rfl rfl ?_)))
 obtain ⟨s1371, hv⟩ := hv
 refine cL rfl (o_iaR tt23 tt3 rfl rfl s1371 (cLn (o_stR (v := .int _ _) tt3 rfl rfl rfl rfl rfl (row_in (xs := r2_1) (zZw.wd false) s1371 rfl) (row_set (e := zYx) (zZw.wd false) _ _ (min (lat r2_1 v66) (576460752303423488 + (vat b1 (v78.toNat * 24 + v66.toNat)))) rfl s1371.1 s1371.2) (eL (zYq (zZ (⟨(), (r2_1.set v66.toNat (min (lat r2_1 v66) (576460752303423488 + (vat b1 (v78.toNat * 24 + v66.toNat))))), hv, St.to_mk (φ := [some 0, some 1, some 2]) rfl (rfl) ⟨Ren.int _ _, Ren.ptr rfl, Ren.ptr rfl, Ren.refL rfl (fun h => h) (by simp), Ren.int _ _, Ren.refL rfl (fun h => h) (by simp), Ren.int _ _, Ren.int _ _, Ren.int _ _, Ren.int _ _, trivial⟩ ⟨.inr ⟨_, rfl, rfl, Rens.cons (Ren.int _ _) (Rens.cons (Ren.lst _ _ _) (Rens.nil))⟩, .inr ⟨_, rfl, rfl, Rens.enc zZw true _⟩, .inr ⟨_, rfl, rfl, rfl, rfl, Rens.enc zZw false (r2_1.set v66.toNat (min (lat r2_1 v66) (576460752303423488 + (vat b1 (v78.toNat * 24 + v66.toNat)))))⟩, trivial⟩⟩)))))))
 have hv := hv.2 hc
 refine W.skip (zYq (zZ (⟨(), r2_1, hv, St.to_mk (φ := [some 0, some 1, some 2]) rfl (rfl) ⟨Ren.int _ _, Ren.ptr rfl, Ren.ptr rfl, Ren.ref rfl (fun h => h), Ren.int _ _, Ren.ref rfl (fun h => h), Ren.int _ _, Ren.int _ _, Ren.int _ _, Ren.int _ _, trivial⟩ ⟨.inr ⟨_, rfl, rfl, Rens.cons (Ren.int _ _) (Rens.cons (Ren.lst _ _ _) (Rens.nil))⟩, .inr ⟨_, rfl, rfl, Rens.enc zZw true _⟩, .inr ⟨_, rfl, rfl, rfl, rfl, Rens.enc zZw false r2_1⟩, trivial⟩⟩)))
 have hv := hv.2 hc
 refine W.exit (zZt (zZt (zXy (zYq (zZ (⟨(), r2_1, hv, St.to_mk (φ := [some 0, some 1, some 2]) rfl (rfl) ⟨Ren.int _ _, Ren.ptr rfl, Ren.ptr rfl, Ren.ref rfl (fun h => h), Ren.ref rfl (fun h => h), Ren.int _ _, Ren.int _ _, trivial⟩ ⟨.inr ⟨_, rfl, rfl, Rens.cons (Ren.int _ _) (Rens.cons (Ren.lst _ _ _) (Rens.nil))⟩, .inr ⟨_, rfl, rfl, Rens.enc zZw true _⟩, .inr ⟨_, rfl, rfl, rfl, rfl, Rens.enc zZw false r2_1⟩, trivial⟩⟩))))))
 have hv := hv.2 hc
 refine W.exit (zZt (zZt (zXy (zZ (W.tr [(14, .ref _ _ _)] [.box _ [.int _ _, .lst _ _ _], .box _ _, .row _ _ _] ⟨rfl, trivial⟩ rfl (W.rL (cL rfl (zZp (v := .ref _ _ _) rfl (cL rfl (zZq (v := .ref _ _ _) rfl (aI rfl rfl (eL (W.tr [(8, .ref _ _ _), (9, .int _ _)] [.box _ [.int _ _, .lst _ _ _], .box _ _, .row _ _ _] ⟨rfl, rfl, trivial⟩ rfl (W.ret (rt (rt_t (v := .ref _ _ _) rfl (rt_t (v := .int _ _) rfl (rt_n (⟨_, rs_tup 5 _ (Wks.cons (rs_ref zZw 3 _ rfl rfl) (Wks.cons (zY _ _ _ _) (Wks.refl _))), r2, 0, rfl, hv⟩)))))))))))))))))))
 clear hj
 refine W.rL ?_
 iterate 2 refine mI rfl rfl ?_
 refine cL rfl (o_neI rfl rfl rfl (eL (W.cn rfl (fun hc => ?_) (fun hc => ?_))))
 have hv := hv.1 hc
 refine W.rH (cH rfl (zZp (v := .ptr _ _) rfl ?_))
 iterate 3 refine cH rfl (zZp (v := .int _ _) rfl ?_)
 obtain ⟨s1372, hv⟩ := hv
 refine cHc rfl (callH_M1 (spec_add (ofM b) f t v s1372) rfl flatI flatI rfl (.inl ⟨_, rfl, rfl⟩) (Wks.cons (zZz _ _ _ _) (Wks.cons (zZz _ _ _ _) (Wks.cons (zZz _ _ _ _) (Wks.refl _)))) (eH (W.rH1 (cH rfl (zZp (v := .ptr _ _) rfl ?_)))))
 iterate 3 refine cH rfl (zZp (v := .int _ _) rfl ?_)
 obtain ⟨s1373, hv⟩ := hv
 refine cH rfl (o_neg rfl s1373 ?_)
 obtain ⟨s1374, hv⟩ := hv
 refine cHc rfl (callH_M1 (spec_add ((addM (ofM b) f t v).2) t f (-v) s1374) rfl flatI flatI rfl (.inl ⟨_, rfl, rfl⟩) (Wks.cons (zZz _ _ _ _) (Wks.cons (zZz _ _ _ _) (Wks.cons (zZz _ _ _ _) (Wks.refl _)))) (eH (zZ (⟨(), ((addM ((addM (ofM b) f t v).2) t f (-v)).2), hv, St.to_mk (φ := [some 0, some 1]) rfl (rfl) ⟨Ren.int _ _, Ren.ptr rfl, Ren.ptr rfl, trivial⟩ ⟨.inr ⟨_, rfl, rfl, Rens.cons (Ren.int _ _) (Rens.cons (Ren.lst _ _ _) (Rens.nil))⟩, .inr ⟨_, rfl, rfl, Rens.enc zZw true _⟩, trivial⟩⟩))))
 have hv := hv.2 hc
 refine W.skip (zZ (⟨(), (ofM b), hv, St.to_mk (φ := [some 0, some 1]) rfl (rfl) ⟨Ren.int _ _, Ren.ptr rfl, Ren.ptr rfl, trivial⟩ ⟨.inr ⟨_, rfl, rfl, Rens.cons (Ren.int _ _) (Rens.cons (Ren.lst _ _ _) (Rens.nil))⟩, .inr ⟨_, rfl, rfl, Rens.enc zZw true _⟩, trivial⟩⟩))
theorem vcp_point (b : Bd) (f : Int) (t : Int) (v : Int) (h0 : b.most.length <= 1073741824) (h1 : ∀ r ∈ b.most, r.length <= 1073741824) : vc_point b f t v (fun q0 q1 => q0 = (pointM b f t v).1 /\ q1 = (pointM b f t v).2) := by
  unfold vc_point
  have hnb := hNB
  refine ⟨h0, h1, fun h => ?_, fun h => ?_⟩
  . rw [point_neg fun e => ?_]
    . exact ⟨rfl, rfl⟩
    . omega
  have hr : (zWz b f t).2.2 = 0 /\ max (zWz b f t).1 (-36028797018963968) <= v /\ v <= min (zWz b f t).2.1 36028797018963968 := by omega
  rw [point_pos hr]
  obtain ⟨hv, hf, ht⟩ := range_ok hr.1
  have vb := validBM_iff.mp hv
  have hn := vb.n
  obtain ⟨f, rfl⟩ : ∃ k : Nat, f = k := ⟨f.toNat, by omega⟩
  obtain ⟨t, rfl⟩ : ∃ k : Nat, t = k := ⟨t.toNat, by omega⟩
  rw [range_pos hv (by omega) (by omega)] at hr
  obtain ⟨ha, hT⟩ := ptM_spec hv (by omega) (by omega) hr.2
  have hm : (¬ (f : Int) = t -> (addM (addM (ofM b) f t v).2 t f (-v)).2 = ptM b f t v) := fun e => by unfold ptM; rw [if_neg e]
  have hm' : ((f : Int) = t -> ofM b = ptM b f t v) := fun e => by unfold ptM; rw [if_pos e]
  have hcl := hT.cl
  generalize ptM b f t v = m at hm hm' hcl ⊢
  refine ⟨by omega, fun b1 => b1 = m, ?_, fun e => ⟨(ha (by omega)).1, by have := hr.2; dsimp only at this; unfold inI; omega, (ha (by omega)).2, hm e⟩, fun e => hm' (Classical.not_not.mp e)⟩
  intro b1 hb1
  subst hb1
  simp only [Int.toNat_natCast]
  have hN : b.n.toNat <= 24 := by omega
  rw [row_map (by omega) hN, pointV_eq]
  generalize hNN : b.n.toNat = N at hN
  have hlen : ∀ g : Nat -> Int, ((List.range N).map g).length = N := fun g => by simp
  refine ⟨by omega, by omega, by rw [hlen]; omega, fun v r => ∃ i : Nat, v = i /\ i <= N /\ r = (List.range N).map (fun k => if k < i then ptF b1 f N k else mm b1 f k), fun v _ => N - v.toNat, ⟨0, rfl, by omega, by simp⟩, ?_⟩
  rintro _ r ⟨i, rfl, hi, hr2⟩
  rw [hlen]
  refine ⟨fun h2 => ⟨fun r => r = (List.range N).map (fun k => if k < i + 1 then ptF b1 f N k else mm b1 f k), fun r2 hr3 => ⟨by unfold inI; omega, ⟨i + 1, by omega, by omega, hr3⟩, by dsimp only; omega⟩, ?_, fun h3 => ?_, fun h3 => ?_⟩, fun h2 => ?_⟩
  . rw [hr2, hlen]; omega
  . rw [hr2, lat_map (by omega), if_neg (by omega)] at h3
    rw [hr2]
    refine List.map_congr_left fun k hk => ?_
    by_cases e : k = i
    . subst e
      rw [if_neg (by omega), if_pos (by omega)]
      unfold ptF; rw [if_neg h3]
    . have e1 : k < i ↔ k < i + 1 := by omega
      simp only [e1]
  . rw [hr2, lat_map (by omega), if_neg (by omega)] at h3
    have h3 : mm b1 f i = NB := Classical.not_not.mp h3
    refine ⟨by rw [hr2, hlen]; omega, fun v r => ∃ k : Nat, v = k /\ k <= N /\ r = (List.range N).map (fun q => if q = i then (List.range k).foldl (fun o p => if mm b1 f p = NB /\ ¬ mm b1 p i = NB then min o (576460752303423488 + mm b1 p i) else o) 576460752303423488 else if q < i then ptF b1 f N q else mm b1 f q), fun v _ => N - v.toNat, ⟨0, rfl, by omega, ?_⟩, ?_⟩
    . rw [hr2, Int.toNat_natCast, map_set]; rfl
    rintro _ r3 ⟨k, rfl, hk, hr3⟩
    simp only [Int.toNat_natCast]
    have hlat : lat r3 (i : Int) = (List.range k).foldl (fun o p => if mm b1 f p = NB /\ ¬ mm b1 p i = NB then min o (576460752303423488 + mm b1 p i) else o) 576460752303423488 := by
      rw [hr3, lat_map (by omega), if_pos rfl]
    refine ⟨fun h4 => ⟨fun r => r = (List.range N).map (fun q => if q = i then (List.range (k + 1)).foldl (fun o p => if mm b1 f p = NB /\ ¬ mm b1 p i = NB then min o (576460752303423488 + mm b1 p i) else o) 576460752303423488 else if q < i then ptF b1 f N q else mm b1 f q), fun r4 hr4 => ⟨by unfold inI; omega, ⟨k + 1, by omega, by omega, hr4⟩, by omega⟩, ⟨by omega, by omega, by omega, fun _ => ⟨by omega, by omega, by omega, trivial⟩, fun _ => trivial⟩, fun h5 => ?_, fun h5 => ?_⟩, fun h4 => ?_⟩
    . have hb := hcl.bd k i (by omega) (by omega)
      have h5' : mm b1 f k = NB /\ ¬ mm b1 k i = NB := h5
      have h6 : vat b1 (k * 24 + i) = mm b1 k i := rfl
      rw [h6, hlat]
      refine ⟨by rw [hr3, hlen]; omega, by omega, by omega, by omega, by unfold inI; omega, by rw [hr3, hlen]; omega, ?_⟩
      rw [hr3, map_set]
      refine List.map_congr_left fun q hq => ?_
      by_cases e : q = i
      . rw [if_pos e, if_pos e, List.range_succ, List.foldl_append]
        simp only [List.foldl_cons, List.foldl_nil]
        rw [if_pos h5']
      . rw [if_neg e, if_neg e, if_neg e]
    . have h5' : ¬ (mm b1 f k = NB /\ ¬ mm b1 k i = NB) := h5
      rw [hr3]
      refine List.map_congr_left fun q hq => ?_
      by_cases e : q = i
      . rw [if_pos e, if_pos e, List.range_succ, List.foldl_append]
        simp only [List.foldl_cons, List.foldl_nil]
        rw [if_neg h5']
      . rw [if_neg e, if_neg e]
    . have : k = N := by omega
      subst this
      rw [hr3]
      refine List.map_congr_left fun q hq => ?_
      by_cases e : q = i
      . subst e
        rw [if_pos rfl, if_pos (by omega)]
        unfold ptF; rw [if_pos h3]
      . rw [if_neg e]
        have e1 : q < i ↔ q < i + 1 := by omega
        simp only [e1]
  . refine ⟨?_, trivial⟩
    rw [hr2]
    refine List.map_congr_left fun q hq => ?_
    rw [List.mem_range] at hq
    rw [if_pos (by omega)]
theorem spec_point (b : Bd) (f : Int) (t : Int) (v : Int) (h0 : b.most.length <= 1073741824) (h1 : ∀ r ∈ b.most, r.length <= 1073741824) : FnP Try.prog 40 [.agg ((e53 true) b), .int .i64 f, .int .i64 t, .int .i64 v] (fun xR => xR = .tup [.lst false ((pointM b f t v).1).length (zYy zYx ((pointM b f t v).1)), .int .i64 ((pointM b f t v).2)]) :=
  (walk_point (vcp_point b f t v h0 h1)).mono (by rintro _ ⟨_, _, rfl, rfl, rfl⟩; rfl)
attribute [local irreducible] cvalidM zX zYw partM chM liM zYv witM pcM inM allM inSet
def vc_witness (f : Flt) (n : Int) (l : (List Con)) (a : Int) (b : Int) (v : Int) (Post : (List Int) -> Int -> Int -> Prop) : Prop :=
  (f.dr.length <= 9223372036854775807) /\ (f.sv.length <= 9223372036854775807) /\ (f.tm.length <= 9223372036854775807) /\ (l.length <= 1073741824) /\ ((¬ (zYv f n l a b).2.2 = 0) -> Post [] 0 ((zYv f n l a b).2.2)) /\ (¬ (¬ (zYv f n l a b).2.2 = 0) -> (PossOk f l) /\ ∃ (I1 : Nat -> Prop) (Z1 : List Int -> Int -> Prop), I1 0 /\ (∀ (i : Nat) (c : Cho), (zYw f n l)[i]? = some c -> I1 i -> (c.b.most.length <= 1073741824) /\ (∀ r ∈ c.b.most, r.length <= 1073741824) /\ (((pointM c.b a b v).2 = 0) -> Z1 ((pointM c.b a b v).1) c.s) /\ (¬ ((pointM c.b a b v).2 = 0) -> I1 (i + 1))) /\ (I1 (zYw f n l).length -> Post [] 0 100) /\ (∀ (z4 : List Int) (z5 : Int), Z1 z4 z5 -> Post z4 z5 0))
theorem walk_witness {f : Flt} {n : Int} {l : (List Con)} {a : Int} {b : Int} {v : Int} {Post : (List Int) -> Int -> Int -> Prop} (hv : vc_witness f n l a b v Post) : FnP Try.prog 24 [.agg ((e27 true) f), .int .i64 n, .lst true l.length (zYy e66 l), .int .i64 a, .int .i64 b, .int .i64 v] (fun x => ∃ q0 q1 q2, x = .tup [.lst false q0.length (zYy zYx q0), .int .i64 q1, .int .i64 q2] /\ Post q0 q1 q2) := by
 refine FnP.of_walk (T := tt) (nt := 53) ttOk ttMix ⟨⟨Try.f24, Try.func24, rfl, rfl, rfl, rfl⟩⟩ (by simp) ?_
 unfold vc_witness at hv
 change W _ _ _ ⟨53, look [(0, .agg [.lst true f.dr.length (zYy zYx f.dr), .int .i64 f.la, .int .i64 f.li, .lst true f.sv.length (zYy zYx f.sv), .lst true f.tm.length (zYy zYx f.tm)]), (1, .int .i64 n), (2, .lst true l.length (zYy e66 l)), (3, .int .i64 a), (4, .int .i64 b), (5, .int .i64 v)], [], 0⟩ _
 refine W.rL (cL rfl (o_box (v := .agg _) (p := 0) rfl rfl rfl (cL rfl (o_box (v := .int _ _) (p := 1) rfl rfl rfl (cL rfl (o_box (v := .int _ _) (p := 2) rfl rfl rfl (cL rfl (o_box (v := .int _ _) (p := 3) rfl rfl rfl (cL rfl (zXs (p := 4) tt23 rfl rfl (cL rfl (zXs (p := 5) tt3 rfl rfl (cL rfl (zXs (p := 6) tt36 rfl rfl (eL (W.tr [(1, .int _ _), (2, .lst _ _ _), (6, .ptr _ _), (9, .ptr _ _), (10, .ptr _ _), (11, .ptr _ _), (12, .ptr _ _), (13, .ptr _ _), (14, .ptr _ _)] [.box _ [.lst _ _ _, .int _ _, .int _ _, .lst _ _ _, .lst _ _ _], .box _ [.int _ _], .box _ [.int _ _], .box _ [.int _ _], .box _ [.nilS], .box _ [.int _ _], .box _ [.int _ _]] ⟨rfl, rfl, rfl, rfl, rfl, rfl, rfl, rfl, rfl, trivial⟩ rfl (W.seq' (W.rL (cL rfl (zXv (cs := [.lst _ _ _, .int _ _, .int _ _, .lst _ _ _, .lst _ _ _]) tt27 rfl rfl ⟨_, rfl⟩ rfl (mI rfl rfl (mL rfl rfl ?_))))))))))))))))))))))
 iterate 2 refine cL rfl (zZx (v := .int _ _) tt3 rfl rfl ⟨_, rfl⟩ ?_)
 obtain ⟨s5, s6, s7, s8, hv⟩ := hv
 refine cL rfl (zZu (k := 22) (fst := []) (caps := []) (ys := [.agg _, .int _ _, .lst _ _ _, .int _ _, .int _ _]) rfl rfl (spec_brange f n l a b s5 s6 s7 s8) (Wks.cons (zXr 5 _ (Wks.cons (zZs _ _ _ _ _) (Wks.cons (zZz _ _ _ _) (Wks.cons (zZz _ _ _ _) (Wks.cons (zZs _ _ _ _ _) (Wks.cons (zZs _ _ _ _ _) (Wks.refl _))))))) (Wks.cons (zZz _ _ _ _) (Wks.cons (zZs _ _ _ _ _) (Wks.cons (zZz _ _ _ _) (Wks.cons (zZz _ _ _ _) (Wks.refl _)))))) (cL rfl (zZp (v := .tup _) rfl ?_)))
 iterate 3 refine cL rfl (o_ext (v := .int _ _) rfl rfl ?_)
 iterate 3 refine aI rfl rfl ?_
 refine eL (W.tr [(1, .int _ _), (2, .lst _ _ _), (6, .ptr _ _), (9, .ptr _ _), (10, .ptr _ _), (11, .ptr _ _), (12, .ptr _ _), (13, .ptr _ _), (14, .ptr _ _), (17, .int _ _)] [.box _ [.lst _ _ _, .int _ _, .int _ _, .lst _ _ _, .lst _ _ _], .box _ [.int _ _], .box _ [.int _ _], .box _ [.int _ _], .box _ [.nilS], .box _ [.int _ _], .box _ [.int _ _]] ⟨rfl, rfl, rfl, rfl, rfl, rfl, rfl, rfl, rfl, rfl, trivial⟩ rfl (W.rL (mI rfl rfl (cL rfl (o_neI rfl rfl rfl (eL (W.cn rfl (fun hc => ?_) (fun hc => ?_))))))))
 have hv := hv.1 hc
 refine W.rL (mI rfl rfl (cLn (o_stB (v := .nilS) (vs := [.nilS]) (cs2 := [.nilS]) tt23 rfl rfl rfl rfl rfl (Nat.le_of_ble_eq_true rfl) rfl (cLn (o_stB (v := .int _ _) (vs := [.int _ _]) (cs2 := [.int _ _]) tt3 rfl rfl rfl rfl rfl (Nat.le_of_ble_eq_true rfl) rfl (cLn (o_stB (v := .int _ _) (vs := [.int _ _]) (cs2 := [.int _ _]) tt36 rfl rfl rfl rfl rfl (Nat.le_of_ble_eq_true rfl) rfl (eL (W.ret (zZr (rt (rt_c (x := .ptr _ _) rfl (ldS (v := .nilS) tt23 rfl ⟨_, rfl⟩ (rt_c (x := .ptr _ _) rfl (ldS (v := .int _ _) tt3 rfl ⟨_, rfl⟩ (rt_c (x := .ptr _ _) rfl (ldS (v := .int _ _) tt36 rfl ⟨_, rfl⟩ (rt_n (⟨_, rs_tup 5 _ (Wks.cons (rs_nil _ _ _ _ rfl) (Wks.cons (zY _ _ _ _) (Wks.cons (zY _ _ _ _) (Wks.refl _)))), [], 0, ((zYv f n l a b).2.2), rfl, hv⟩)))))))))))))))))))
 have hv := hv.2 hc
 refine W.skip (zZ (W.seq' (W.rL (cL rfl (zXv (cs := [.lst _ _ _, .int _ _, .int _ _, .lst _ _ _, .lst _ _ _]) tt27 rfl rfl ⟨_, rfl⟩ rfl (mI rfl rfl (mL rfl rfl (cL rfl (o_callS1 (k := 35) (fst := []) (caps := []) (ys := [.agg _, .int _ _, .lst _ _ _]) rfl rfl (spec_possible f n l) (Wks.cons (zXr 5 _ (Wks.cons (zZs _ _ _ _ _) (Wks.cons (zZz _ _ _ _) (Wks.cons (zZz _ _ _ _) (Wks.cons (zZs _ _ _ _ _) (Wks.cons (zZs _ _ _ _ _) (Wks.refl _))))))) (Wks.cons (zZz _ _ _ _) (Wks.cons (zZs _ _ _ _ _) (Wks.refl _)))) (eL (W.tr [(9, .ptr _ _), (10, .ptr _ _), (11, .ptr _ _), (12, .ptr _ _), (13, .ptr _ _), (14, .ptr _ _), (37, .clo _ _ _)] [.box _ [.lst _ _ _, .int _ _, .int _ _, .lst _ _ _, .lst _ _ _], .box _ [.int _ _], .box _ [.int _ _], .box _ [.int _ _], .box _ [.nilS], .box _ [.int _ _], .box _ [.int _ _]] ⟨rfl, rfl, rfl, rfl, rfl, rfl, rfl, trivial⟩ rfl (W.block (W.to (st' := ⟨53, look [(9, .ptr 1 0), (10, .ptr 2 0), (11, .ptr 3 0), (12, .ptr 4 0), (13, .ptr 5 0), (14, .ptr 6 0), (37, .clo 55 [] [.ipt true [.lst true f.dr.length (zYy zYx f.dr), .int .i64 f.la, .int .i64 f.li, .lst true f.sv.length (zYy zYx f.sv), .lst true f.tm.length (zYy zYx f.tm)], .ipt true [.int .i64 n], .ipt true [.lst true l.length (zYy e66 l)]])], [.box 27 [.lst true f.dr.length (zYy zYx f.dr), .int .i64 f.la, .int .i64 f.li, .lst true f.sv.length (zYy zYx f.sv), .lst true f.tm.length (zYy zYx f.tm)], .box 3 [.int .i64 a], .box 3 [.int .i64 b], .box 3 [.int .i64 v], .box 23 [.nilS], .box 3 [.int .i64 0], .box 36 [.int .i64 0]], 0⟩) (St.to_mk (φ := [some 0, some 1, some 2, some 3, some 4, some 5, some 6]) rfl (rfl) ⟨Ren.ptr rfl, Ren.ptr rfl, Ren.ptr rfl, Ren.ptr rfl, Ren.ptr rfl, Ren.ptr rfl, Ren.clo _ (Rens.nil) (Rens.cons (Ren.ipt _ _) (Rens.cons (Ren.ipt _ _) (Rens.cons (Ren.ipt _ _) (Rens.nil)))), trivial⟩ ⟨.inr ⟨_, rfl, rfl, Rens.cons (Ren.lst _ _ _) (Rens.cons (Ren.int _ _) (Rens.cons (Ren.int _ _) (Rens.cons (Ren.lst _ _ _) (Rens.cons (Ren.lst _ _ _) (Rens.nil)))))⟩, .inr ⟨_, rfl, rfl, Rens.cons (Ren.int _ _) (Rens.nil)⟩, .inr ⟨_, rfl, rfl, Rens.cons (Ren.int _ _) (Rens.nil)⟩, .inr ⟨_, rfl, rfl, Rens.cons (Ren.int _ _) (Rens.nil)⟩, .inr ⟨_, rfl, rfl, Rens.cons (Ren.nilS) (Rens.nil)⟩, .inr ⟨_, rfl, rfl, Rens.cons (Ren.int _ _) (Rens.nil)⟩, .inr ⟨_, rfl, rfl, Rens.cons (Ren.int _ _) (Rens.nil)⟩, trivial⟩) ?_)))))))))))))
 obtain ⟨s16, hv⟩ := hv
 obtain ⟨I1, Z1, hp, hr, hd, hx⟩ := hv
 refine W.rng0_2 (fun c => .agg [.int .i64 c.b.n, .lst true c.b.most.length (zYy (eSl zYx true) c.b.most), .int .i64 c.s]) (zYw f n l) 7 ([.box 27 [.lst true f.dr.length (zYy zYx f.dr), .int .i64 f.la, .int .i64 f.li, .lst true f.sv.length (zYy zYx f.sv), .lst true f.tm.length (zYy zYx f.tm)], .box 3 [.int .i64 a], .box 3 [.int .i64 b], .box 3 [.int .i64 v], .box 23 [.nilS], .box 3 [.int .i64 0], .box 36 [.int .i64 0]]) I1 (fun z4 z5 => [.box 27 [.lst true f.dr.length (zYy zYx f.dr), .int .i64 f.la, .int .i64 f.li, .lst true f.sv.length (zYy zYx f.sv), .lst true f.tm.length (zYy zYx f.tm)], .box 3 [.int .i64 a], .box 3 [.int .i64 b], .box 3 [.int .i64 v], .box 23 [.lst false z4.length (zYy zYx z4)], .box 3 [.int .i64 z5], .box 36 [.int .i64 0]]) Z1 (l0 := [(9, .ptr 1 0), (10, .ptr 2 0), (11, .ptr 3 0), (12, .ptr 4 0), (13, .ptr 5 0), (14, .ptr 6 0)]) rfl rfl (it_possible1 f n l s16) (Wks.cons (ag_ipt _ _ _ _) (Wks.cons (ag_ipt _ _ _ _) (Wks.cons (ag_ipt _ _ _ _) (Wks.refl _)))) (fun _ => rfl) ⟨rfl, rfl, rfl, rfl, rfl, rfl, trivial⟩ (by decide) rfl (by
 intro i _ o ho
 simp only [List.mem_cons, List.not_mem_nil, or_false] at ho
 rcases ho with rfl | rfl | rfl | rfl | rfl | rfl | rfl <;> first | rfl | exact noF_ints _) rfl rfl hp ?_ ?_ ?_
 clear hp hd hx
 intro i c hc hI
 have hv := hr i c hc hI
 clear hr hc hI
 refine W.rL1 (cL rfl (zXs (p := 7) tt75 rfl rfl (cLn (o_stB (v := .agg _) (vs := [.int _ _, .lst _ _ _, .int _ _]) (cs2 := [.int _ _, .lst _ _ _, .int _ _]) tt75 rfl rfl rfl rfl rfl (Nat.le_of_ble_eq_true rfl) rfl (eL (zZ (W.tr [(9, .ptr _ _), (10, .ptr _ _), (11, .ptr _ _), (12, .ptr _ _), (13, .ptr _ _), (14, .ptr _ _), (18, .ptr _ _)] [.box _ [.lst _ _ _, .int _ _, .int _ _, .lst _ _ _, .lst _ _ _], .box _ [.int _ _], .box _ [.int _ _], .box _ [.int _ _], .box _ [.nilS], .box _ [.int _ _], .box _ [.int _ _], .box _ [.int _ _, .lst _ _ _, .int _ _]] ⟨rfl, rfl, rfl, rfl, rfl, rfl, rfl, trivial⟩ rfl (W.block (W.rL (cL rfl (o_fa tt75 rfl tt53 rfl (cL rfl (zXv (cs := [.int _ _, .lst _ _ _]) tt53 rfl rfl ⟨_, rfl⟩ rfl ?_)))))))))))))
 iterate 3 refine cL rfl (zZx (v := .int _ _) tt3 rfl rfl ⟨_, rfl⟩ ?_)
 obtain ⟨s17, s18, hv⟩ := hv
 refine cL rfl (zZu (k := 40) (fst := []) (caps := []) (ys := [.agg _, .int _ _, .int _ _, .int _ _]) rfl rfl (spec_point c.b a b v s17 s18) (Wks.cons (zXr 5 _ (Wks.cons (zZz _ _ _ _) (Wks.cons (zZs _ _ _ _ _) (Wks.refl _)))) (Wks.cons (zZz _ _ _ _) (Wks.cons (zZz _ _ _ _) (Wks.cons (zZz _ _ _ _) (Wks.refl _))))) (cL rfl (zZp (v := .tup _) rfl (cL rfl (o_ext (v := .lst _ _ _) rfl rfl (cL rfl (o_ext (v := .int _ _) rfl rfl (aL rfl rfl (aI rfl rfl (eL (W.tr [(12, .ptr _ _), (13, .ptr _ _), (14, .ptr _ _), (18, .ptr _ _), (19, .lst _ _ _), (20, .int _ _)] [.box _ [.lst _ _ _, .int _ _, .int _ _, .lst _ _ _, .lst _ _ _], .box _ [.int _ _], .box _ [.int _ _], .box _ [.int _ _], .box _ [.nilS], .box _ [.int _ _], .box _ [.int _ _], .box _ [.int _ _, .lst _ _ _, .int _ _]] ⟨rfl, rfl, rfl, rfl, rfl, rfl, trivial⟩ rfl (W.rL (mI rfl rfl (cL rfl (o_eqI rfl rfl rfl (eL (W.cn rfl (fun hc => ?_) (fun hc => ?_))))))))))))))))))
 have hv := hv.1 hc
 refine W.rT ⟨53, look [(12, .ptr 4 0), (13, .ptr 5 0), (14, .ptr 6 0)], [.box 27 [.lst true f.dr.length (zYy zYx f.dr), .int .i64 f.la, .int .i64 f.li, .lst true f.sv.length (zYy zYx f.sv), .lst true f.tm.length (zYy zYx f.tm)], .box 3 [.int .i64 a], .box 3 [.int .i64 b], .box 3 [.int .i64 v], .box 23 [.lst false ((pointM c.b a b v).1).length (zYy zYx ((pointM c.b a b v).1))], .box 3 [.int .i64 c.s], .box 36 [.int .i64 0]], 7⟩ (.node [0, 1] (.cons 2 (.leaf [3, 4, 5]) (.cons 3 (.leaf [2, 4, 5]) .nil))) (by decide +kernel) ?_ ?_
 refine tN (cS rfl rfl (zZp (v := .lst _ _ _) rfl (cS rfl rfl (o_fa tt75 rfl tt73 rfl (eS (tC ?_ ?_))))))
 refine cI rfl rfl (zZx (v := .int _ _) tt73 rfl rfl ⟨_, rfl⟩ (tL (cSn rfl (o_stB (v := .lst _ _ _) (vs := [.lst _ _ _]) (cs2 := [.lst _ _ _]) tt23 rfl rfl rfl rfl rfl (Nat.le_of_ble_eq_true rfl) rfl (cSn rfl (o_stB (v := .int _ _) (vs := [.int _ _]) (cs2 := [.int _ _]) tt3 rfl rfl rfl rfl rfl (Nat.le_of_ble_eq_true rfl) rfl (cSn rfl (o_stB (v := .int _ _) (vs := [.int _ _]) (cs2 := [.int _ _]) tt36 rfl rfl rfl rfl rfl (Nat.le_of_ble_eq_true rfl) rfl (eS (St.to_mk (φ := [some 0, some 1, some 2, some 3, some 4, some 5, some 6]) rfl (rfl) ⟨Ren.ptr rfl, Ren.ptr rfl, Ren.ptr rfl, trivial⟩ ⟨.inr ⟨_, rfl, rfl, Rens.cons (Ren.lst _ _ _) (Rens.cons (Ren.int _ _) (Rens.cons (Ren.int _ _) (Rens.cons (Ren.lst _ _ _) (Rens.cons (Ren.lst _ _ _) (Rens.nil)))))⟩, .inr ⟨_, rfl, rfl, Rens.cons (Ren.int _ _) (Rens.nil)⟩, .inr ⟨_, rfl, rfl, Rens.cons (Ren.int _ _) (Rens.nil)⟩, .inr ⟨_, rfl, rfl, Rens.cons (Ren.int _ _) (Rens.nil)⟩, .inr ⟨_, rfl, rfl, Rens.cons (Ren.lst _ _ _) (Rens.nil)⟩, .inr ⟨_, rfl, rfl, Rens.cons (Ren.int _ _) (Rens.nil)⟩, .inr ⟨_, rfl, rfl, Rens.cons (Ren.int _ _) (Rens.nil)⟩, trivial⟩))))))))))
 refine tC ?_ ?_
 refine cIn rfl (o_stB (v := .lst _ _ _) (vs := [.lst _ _ _]) (cs2 := [.lst _ _ _]) tt23 rfl rfl rfl rfl rfl (Nat.le_of_ble_eq_true rfl) rfl (tL (cS rfl rfl (zZx (v := .int _ _) tt73 rfl rfl ⟨_, rfl⟩ (cSn rfl (o_stB (v := .int _ _) (vs := [.int _ _]) (cs2 := [.int _ _]) tt3 rfl rfl rfl rfl rfl (Nat.le_of_ble_eq_true rfl) rfl (cSn rfl (o_stB (v := .int _ _) (vs := [.int _ _]) (cs2 := [.int _ _]) tt36 rfl rfl rfl rfl rfl (Nat.le_of_ble_eq_true rfl) rfl (eS (St.to_mk (φ := [some 0, some 1, some 2, some 3, some 4, some 5, some 6]) rfl (rfl) ⟨Ren.ptr rfl, Ren.ptr rfl, Ren.ptr rfl, trivial⟩ ⟨.inr ⟨_, rfl, rfl, Rens.cons (Ren.lst _ _ _) (Rens.cons (Ren.int _ _) (Rens.cons (Ren.int _ _) (Rens.cons (Ren.lst _ _ _) (Rens.cons (Ren.lst _ _ _) (Rens.nil)))))⟩, .inr ⟨_, rfl, rfl, Rens.cons (Ren.int _ _) (Rens.nil)⟩, .inr ⟨_, rfl, rfl, Rens.cons (Ren.int _ _) (Rens.nil)⟩, .inr ⟨_, rfl, rfl, Rens.cons (Ren.int _ _) (Rens.nil)⟩, .inr ⟨_, rfl, rfl, Rens.cons (Ren.lst _ _ _) (Rens.nil)⟩, .inr ⟨_, rfl, rfl, Rens.cons (Ren.int _ _) (Rens.nil)⟩, .inr ⟨_, rfl, rfl, Rens.cons (Ren.int _ _) (Rens.nil)⟩, trivial⟩))))))))))
 exact tE
 refine W.ret (zXz (rd_ret ⟨(), ((pointM c.b a b v).1), c.s, hv, St.to_mk (φ := [some 0, some 1, some 2, some 3, some 4, some 5, some 6]) rfl (rfl) trivial ⟨.inr ⟨_, rfl, rfl, Rens.cons (Ren.lst _ _ _) (Rens.cons (Ren.int _ _) (Rens.cons (Ren.int _ _) (Rens.cons (Ren.lst _ _ _) (Rens.cons (Ren.lst _ _ _) (Rens.nil)))))⟩, .inr ⟨_, rfl, rfl, Rens.cons (Ren.int _ _) (Rens.nil)⟩, .inr ⟨_, rfl, rfl, Rens.cons (Ren.int _ _) (Rens.nil)⟩, .inr ⟨_, rfl, rfl, Rens.cons (Ren.int _ _) (Rens.nil)⟩, .inr ⟨_, rfl, rfl, Rens.cons (Ren.lst _ _ _) (Rens.nil)⟩, .inr ⟨_, rfl, rfl, Rens.cons (Ren.int _ _) (Rens.nil)⟩, .inr ⟨_, rfl, rfl, Rens.cons (Ren.int _ _) (Rens.nil)⟩, trivial⟩⟩))
 have hv := hv.2 hc
 refine W.skip (zYq (rd_nrm ⟨(), hv, St.to_mk (φ := [some 0, some 1, some 2, some 3, some 4, some 5, some 6]) rfl (rfl) trivial ⟨.inr ⟨_, rfl, rfl, Rens.cons (Ren.lst _ _ _) (Rens.cons (Ren.int _ _) (Rens.cons (Ren.int _ _) (Rens.cons (Ren.lst _ _ _) (Rens.cons (Ren.lst _ _ _) (Rens.nil)))))⟩, .inr ⟨_, rfl, rfl, Rens.cons (Ren.int _ _) (Rens.nil)⟩, .inr ⟨_, rfl, rfl, Rens.cons (Ren.int _ _) (Rens.nil)⟩, .inr ⟨_, rfl, rfl, Rens.cons (Ren.int _ _) (Rens.nil)⟩, .inr ⟨_, rfl, rfl, Rens.cons (Ren.nilS) (Rens.nil)⟩, .inr ⟨_, rfl, rfl, Rens.cons (Ren.int _ _) (Rens.nil)⟩, .inr ⟨_, rfl, rfl, Rens.cons (Ren.int _ _) (Rens.nil)⟩, trivial⟩⟩))
 clear hp hr hx
 intro hI
 have hv := hd hI
 clear hd hI
 refine zYq (zZ (W.rL (cLn (o_stB (v := .nilS) (vs := [.nilS]) (cs2 := [.nilS]) tt23 rfl rfl rfl rfl rfl (Nat.le_of_ble_eq_true rfl) rfl (cLn (o_stB (v := .int _ _) (vs := [.int _ _]) (cs2 := [.int _ _]) tt3 rfl rfl rfl rfl rfl (Nat.le_of_ble_eq_true rfl) rfl (cLn (o_stB (v := .int _ _) (vs := [.int _ _]) (cs2 := [.int _ _]) tt36 rfl rfl rfl rfl rfl (Nat.le_of_ble_eq_true rfl) rfl (eL (W.ret (rt (rt_c (x := .ptr _ _) rfl (ldS (v := .nilS) tt23 rfl ⟨_, rfl⟩ (rt_c (x := .ptr _ _) rfl (ldS (v := .int _ _) tt3 rfl ⟨_, rfl⟩ (rt_c (x := .ptr _ _) rfl (ldS (v := .int _ _) tt36 rfl ⟨_, rfl⟩ (rt_n (⟨_, rs_tup 5 _ (Wks.cons (rs_nil _ _ _ _ rfl) (Wks.cons (zY _ _ _ _) (Wks.cons (zY _ _ _ _) (Wks.refl _)))), [], 0, 100, rfl, hv⟩)))))))))))))))))))
 clear hp hr hd
 intro z4 z5 hI
 have hv := hx z4 z5 hI
 clear hx hI
 refine zXz (zZr (rt (rt_c (x := .ptr _ _) rfl (ldS (v := .lst _ _ _) tt23 rfl ⟨_, rfl⟩ (rt_c (x := .ptr _ _) rfl (ldS (v := .int _ _) tt3 rfl ⟨_, rfl⟩ (rt_c (x := .ptr _ _) rfl (ldS (v := .int _ _) tt36 rfl ⟨_, rfl⟩ (rt_n (⟨_, rs_tup 5 _ (Wks.cons (rs_lst _ _ _ _) (Wks.cons (zY _ _ _ _) (Wks.cons (zY _ _ _ _) (Wks.refl _)))), z4, z5, 0, rfl, hv⟩))))))))))
theorem vcp_witness (f : Flt) (n : Int) (l : (List Con)) (a : Int) (b : Int) (v : Int) (h0 : f.dr.length <= 9223372036854775807) (h1 : f.sv.length <= 9223372036854775807) (h2 : f.tm.length <= 9223372036854775807) (h3 : l.length <= 1073741824) : vc_witness f n l a b v (fun q0 q1 q2 => q0 = (witM f n l a b v).1 /\ q1 = (witM f n l a b v).2.1 /\ q2 = (witM f n l a b v).2.2) := by
  unfold vc_witness
  refine ⟨h0, h1, h2, h3, fun h => ?_, fun h => ?_⟩
  . have e : witM f n l a b v = ([], 0, (zYv f n l a b).2.2) := by unfold witM; rw [if_neg h]
    show _ /\ _ /\ _
    rw [e]; exact ⟨rfl, rfl, rfl⟩
  . have hr := Classical.not_not.1 h
    have hb : zX f n l = true := by
      unfold zYv at hr
      split at hr
      . rename_i h5; exact h5.1
      . cases hr
    have hbk := bvalid_ok hb
    have e : witM f n l a b v = match (zYw f n l).find? (fun c => decide ((pointM c.b a b v).2 = 0)) with
      | some c => ((pointM c.b a b v).1, c.s, 0)
      | none => ([], 0, 100) := by unfold witM; rw [if_pos hr]; rfl
    refine ⟨hbk.poss, fun i => ∀ c ∈ (zYw f n l).take i, ¬ (pointM c.b a b v).2 = 0, fun x s => witM f n l a b v = (x, s, 0), by simp, ?_, ?_, ?_⟩
    . intro i c hc hI
      obtain ⟨s, m, ck⟩ := choices_ok (List.mem_of_getElem? hc)
      have hn := ck.n
      have hml := bounds_most_len (m := m) (n := n) hn.2
      refine ⟨by rw [ck.b]; exact hml.1, by rw [ck.b]; exact hml.2, fun h4 => ?_, fun h4 => ?_⟩
      . have hlt := (List.getElem?_eq_some_iff.1 hc).1
        have hf : (zYw f n l).find? (fun c => decide ((pointM c.b a b v).2 = 0)) = some c := by
          rw [List.find?_eq_some_iff_append]
          refine ⟨by simpa using h4, (zYw f n l).take i, (zYw f n l).drop (i + 1), ?_, fun d hd => by simpa using hI d hd⟩
          have : (zYw f n l)[i] = c := by have := List.getElem?_eq_getElem hlt; rw [hc] at this; exact (Option.some.inj this).symm
          rw [<- this, List.getElem_cons_drop, List.take_append_drop]
        rw [e, hf]
      . dsimp only
        rw [take_succ_nat hc]
        intro d hd
        rcases List.mem_append.1 hd with hd | hd
        . exact hI d hd
        . rw [List.mem_singleton] at hd; subst hd; exact h4
    . intro hI
      rw [List.take_length] at hI
      have hf : (zYw f n l).find? (fun c => decide ((pointM c.b a b v).2 = 0)) = none := by
        rw [List.find?_eq_none]
        exact fun c hc => by simpa using hI c hc
      show _ /\ _ /\ _
      rw [e, hf]; exact ⟨rfl, rfl, rfl⟩
    . intro x s hx
      show _ /\ _ /\ _
      rw [hx]; exact ⟨rfl, rfl, rfl⟩
theorem spec_witness (f : Flt) (n : Int) (l : (List Con)) (a : Int) (b : Int) (v : Int) (h0 : f.dr.length <= 9223372036854775807) (h1 : f.sv.length <= 9223372036854775807) (h2 : f.tm.length <= 9223372036854775807) (h3 : l.length <= 1073741824) : FnP Try.prog 24 [.agg ((e27 true) f), .int .i64 n, .lst true l.length (zYy e66 l), .int .i64 a, .int .i64 b, .int .i64 v] (fun xR => xR = .tup [.lst false ((witM f n l a b v).1).length (zYy zYx ((witM f n l a b v).1)), .int .i64 ((witM f n l a b v).2.1), .int .i64 ((witM f n l a b v).2.2)]) :=
  (walk_witness (vcp_witness f n l a b v h0 h1 h2 h3)).mono (by rintro _ ⟨_, _, _, rfl, rfl, rfl, rfl⟩; rfl)
def vc_ints (a : (List Int)) (b : (List Int)) (Post : Bool -> Prop) : Prop :=
  ((¬ ((a.length : Nat) : Int) = ((b.length : Nat) : Int)) -> Post false) /\ (¬ (¬ ((a.length : Nat) : Int) = ((b.length : Nat) : Int)) -> ∃ (I1 : Int -> Prop) (μ1 : Int -> Nat), I1 0 /\ ∀ (v5 : Int), I1 v5 -> ((v5 < ((a.length : Nat) : Int)) -> (0 <= v5 /\ v5 < (a.length : Int)) /\ (0 <= v5 /\ v5 < (b.length : Int)) /\ ((¬ lat a v5 = lat b v5) -> Post false) /\ (¬ (¬ lat a v5 = lat b v5) -> (inI (v5 + 1)) /\ (I1 (v5 + 1) /\ μ1 (v5 + 1) < μ1 v5))) /\ (¬ (v5 < ((a.length : Nat) : Int)) -> Post true))
theorem walk_ints {a : (List Int)} {b : (List Int)} {Post : Bool -> Prop} (hv : vc_ints a b Post) : FnP Try.prog 17 [.lst true a.length (zYy zYx a), .lst true b.length (zYy zYx b)] (fun x => ∃ q0, x = .bool q0 /\ Post q0) := by
 refine FnP.of_walk (T := tt) (nt := 26) ttOk ttMix ⟨⟨Try.f17, Try.func17, rfl, rfl, rfl, rfl⟩⟩ (by simp) ?_
 unfold vc_ints at hv
 change W _ _ _ ⟨26, look [(0, .lst true a.length (zYy zYx a)), (1, .lst true b.length (zYy zYx b))], [], 0⟩ _
 refine W.rL (aB rfl rfl (eL (W.seq' (W.rL (mL rfl rfl (cL rfl (zXq (v := .lst _ _ _) tt23 rfl rfl (mL rfl rfl (cL rfl (zXq (v := .lst _ _ _) tt23 rfl rfl (cL rfl (o_neI rfl rfl rfl (eL (W.cn rfl (fun hc => ?_) (fun hc => ?_)))))))))))))))
 have hv := hv.1 hc
 refine W.rL (aB rfl rfl (eL (W.ret (zZr (rt (rt_t (v := .bool _) rfl (rt_n (⟨_, zXx _ _ _, false, rfl, hv⟩))))))))
 have hv := hv.2 hc
 refine W.skip (zZ (W.seq' (W.rL (aI rfl rfl (eL (W.block ?_))))))
 obtain ⟨I1, μ1, hp, hv⟩ := hv
 refine W.loop1 (fun v5 => ⟨26, look [(0, .lst true a.length (zYy zYx a)), (1, .lst true b.length (zYy zYx b)), (5, .int .i64 v5)], [], 0⟩) I1 μ1 0 (St.to_mk (φ := []) rfl (rfl) ⟨Ren.lst _ _ _, Ren.lst _ _ _, Ren.int _ _, trivial⟩ trivial) hp ?_
 clear hp
 intro v5 hI
 replace hv := hv v5 hI
 clear hI
 refine W.seq' (W.rL (mI rfl rfl (mL rfl rfl (cL rfl (zXq (v := .lst _ _ _) tt23 rfl rfl (cL rfl (zXw rfl rfl (eL (W.cn rfl (fun hc => ?_) (fun hc => ?_))))))))))
 have hv := hv.1 hc
 refine W.skip (zZ (W.seq' (W.block (W.rD [0, 1, 2, 3, 4, 5, 6, 7, 8] (by decide +kernel) rfl (mL rfl rfl (mI rfl rfl ?_))))))
 obtain ⟨s18, hv⟩ := hv
 refine cL rfl (zYp tt23 tt3 rfl rfl (zZw.wd true) rfl s18 ?_)
 intro rest18
 refine cL rfl (zZx (v := .int _ _) tt3 rfl rfl ⟨_, rfl⟩ (mL rfl rfl (mI rfl rfl ?_)))
 obtain ⟨s19, hv⟩ := hv
 refine cL rfl (zYp tt23 tt3 rfl rfl (zZw.wd true) rfl s19 ?_)
 intro rest19
 refine cL rfl (zZx (v := .int _ _) tt3 rfl rfl ⟨_, rfl⟩ (cL rfl (o_neI rfl rfl rfl (eL (W.cn rfl (fun hc => ?_) (fun hc => ?_))))))
 have hv := hv.1 hc
 refine W.rL (aB rfl rfl (eL (W.ret (zXz (zZr (zZr (zXz (zZr (rt (rt_t (v := .bool _) rfl (rt_n (⟨_, zXx _ _ _, false, rfl, hv⟩))))))))))))
 have hv := hv.2 hc
 refine W.skip (zYq (zZ (W.rL1 (mI rfl rfl ?_))))
 obtain ⟨s20, hv⟩ := hv
 refine cL rfl (o_add rfl rfl s20 (aI rfl rfl (eL (zZ (⟨(), (v5 + 1), hv, St.to_mk (φ := []) rfl (rfl) ⟨Ren.lst _ _ _, Ren.lst _ _ _, Ren.int _ _, trivial⟩ trivial⟩)))))
 have hv := hv.2 hc
 refine W.exit (zZt (zZt (zXy (zZ (W.rL (aB rfl rfl (eL (W.ret (rt (rt_t (v := .bool _) rfl (rt_n (⟨_, zXx _ _ _, true, rfl, hv⟩))))))))))))
theorem vcp_ints (a : (List Int)) (b : (List Int)) (h0 : a.length <= 1073741824) : vc_ints a b (fun q0 => q0 = (decide (a = b))) := by
  unfold vc_ints
  refine ⟨fun h => ?_, fun h => ⟨fun v => ∃ i : Nat, v = i /\ i <= a.length /\ ∀ j, j < i -> a[j]? = b[j]?, fun v => a.length - v.toNat, ⟨0, rfl, by omega, by omega⟩, ?_⟩⟩
  . exact (decide_eq_false fun e => h (by rw [e])).symm
  . have hl : a.length = b.length := by omega
    rintro _ ⟨i, rfl, hi, hj⟩
    refine ⟨fun h1 => ⟨by omega, by omega, fun h2 => ?_, fun h2 => ⟨by unfold inI; omega, ⟨i + 1, by omega, by omega, ?_⟩, by dsimp only; omega⟩⟩, fun h1 => ?_⟩
    . exact (decide_eq_false fun e => h2 (by rw [e])).symm
    . intro j hj1
      rcases Nat.lt_or_ge j i with h3 | h3
      . exact hj j h3
      . have : j = i := by omega
        subst this
        have h4 : lat a (j : Int) = lat b (j : Int) := Classical.not_not.mp h2
        have ha : j < a.length := by omega
        have hb : j < b.length := by omega
        simp only [lat, Int.toNat_natCast, List.getD_eq_getElem?_getD, List.getElem?_eq_getElem ha, List.getElem?_eq_getElem hb, Option.getD_some] at h4 ⊢
        rw [h4]
    . refine (decide_eq_true (List.ext_getElem? fun j => ?_)).symm
      rcases Nat.lt_or_ge j i with h3 | h3
      . exact hj j h3
      . rw [List.getElem?_eq_none (by omega), List.getElem?_eq_none (by omega)]
theorem spec_ints (a : (List Int)) (b : (List Int)) (h0 : a.length <= 1073741824) : FnP Try.prog 17 [.lst true a.length (zYy zYx a), .lst true b.length (zYy zYx b)] (fun xR => xR = .bool (decide (a = b))) :=
  (walk_ints (vcp_ints a b h0)).mono (by rintro _ ⟨_, rfl, rfl⟩; rfl)
def vc_csame (a : (List Con)) (b : (List Con)) (Post : Bool -> Prop) : Prop :=
  ((¬ ((a.length : Nat) : Int) = ((b.length : Nat) : Int)) -> Post false) /\ (¬ (¬ ((a.length : Nat) : Int) = ((b.length : Nat) : Int)) -> ∃ (I1 : Int -> Prop) (μ1 : Int -> Nat), I1 0 /\ ∀ (v5 : Int), I1 v5 -> ((v5 < ((a.length : Nat) : Int)) -> (0 <= v5 /\ v5 < (a.length : Int)) /\ (0 <= v5 /\ v5 < (b.length : Int)) /\ ((¬ (lat a v5) = (lat b v5)) -> Post false) /\ (¬ (¬ (lat a v5) = (lat b v5)) -> (inI (v5 + 1)) /\ (I1 (v5 + 1) /\ μ1 (v5 + 1) < μ1 v5))) /\ (¬ (v5 < ((a.length : Nat) : Int)) -> Post true))
theorem walk_csame {a : (List Con)} {b : (List Con)} {Post : Bool -> Prop} (hv : vc_csame a b Post) : FnP Try.prog 18 [.lst true a.length (zYy e66 a), .lst true b.length (zYy e66 b)] (fun x => ∃ q0, x = .bool q0 /\ Post q0) := by
 refine FnP.of_walk (T := tt) (nt := 26) ttOk ttMix ⟨⟨Try.f18, Try.func18, rfl, rfl, rfl, rfl⟩⟩ (by simp) ?_
 unfold vc_csame at hv
 change W _ _ _ ⟨26, look [(0, .lst true a.length (zYy e66 a)), (1, .lst true b.length (zYy e66 b))], [], 0⟩ _
 refine W.rL (aB rfl rfl (eL (W.seq' (W.rL (mL rfl rfl (cL rfl (zXq (v := .lst _ _ _) tt28 rfl rfl (mL rfl rfl (cL rfl (zXq (v := .lst _ _ _) tt28 rfl rfl (cL rfl (o_neI rfl rfl rfl (eL (W.cn rfl (fun hc => ?_) (fun hc => ?_)))))))))))))))
 have hv := hv.1 hc
 refine W.rL (aB rfl rfl (eL (W.ret (zZr (rt (rt_t (v := .bool _) rfl (rt_n (⟨_, zXx _ _ _, false, rfl, hv⟩))))))))
 have hv := hv.2 hc
 refine W.skip (zZ (W.seq' (W.rL (aI rfl rfl (eL (W.block ?_))))))
 obtain ⟨I1, μ1, hp, hv⟩ := hv
 refine W.loop1 (fun v5 => ⟨26, look [(0, .lst true a.length (zYy e66 a)), (1, .lst true b.length (zYy e66 b)), (5, .int .i64 v5)], [], 0⟩) I1 μ1 0 (St.to_mk (φ := []) rfl (rfl) ⟨Ren.lst _ _ _, Ren.lst _ _ _, Ren.int _ _, trivial⟩ trivial) hp ?_
 clear hp
 intro v5 hI
 replace hv := hv v5 hI
 clear hI
 refine W.seq' (W.rL (mI rfl rfl (mL rfl rfl (cL rfl (zXq (v := .lst _ _ _) tt28 rfl rfl (cL rfl (zXw rfl rfl (eL (W.cn rfl (fun hc => ?_) (fun hc => ?_))))))))))
 have hv := hv.1 hc
 refine W.skip (zZ (W.seq' (W.block (W.rD [0, 1, 2, 3, 4, 5, 6, 7, 8] (by decide +kernel) rfl (mL rfl rfl (mI rfl rfl ?_))))))
 obtain ⟨s18, hv⟩ := hv
 refine cL rfl (zYp tt28 tt66 rfl rfl (enc66.wd true) rfl s18 ?_)
 intro rest18
 refine cL rfl (zXv (cs := [.int _ _, .int _ _, .int _ _, .int _ _]) tt66 rfl rfl ⟨_, rfl⟩ rfl (mL rfl rfl (mI rfl rfl ?_)))
 obtain ⟨s19, hv⟩ := hv
 refine cL rfl (zYp tt28 tt66 rfl rfl (enc66.wd true) rfl s19 ?_)
 intro rest19
 refine cL rfl (zXv (cs := [.int _ _, .int _ _, .int _ _, .int _ _]) tt66 rfl rfl ⟨_, rfl⟩ rfl (cL rfl (o_neS [(lat a v5).f, (lat a v5).t, (lat a v5).m, (lat a v5).a] [(lat b v5).f, (lat b v5).t, (lat b v5).m, (lat b v5).a] tt66 eqf66 rfl rfl rfl rfl rfl rfl (eq66 (lat a v5) (lat b v5)) (eL (W.tr [(0, .lst _ _ _), (1, .lst _ _ _), (5, .int _ _), (25, .bool _)] [] ⟨rfl, rfl, rfl, rfl, trivial⟩ rfl (W.cn rfl (fun hc => ?_) (fun hc => ?_)))))))
 have hv := hv.1 hc
 refine W.rL (aB rfl rfl (eL (W.ret (zXz (zZr (zZr (zXz (zZr (rt (rt_t (v := .bool _) rfl (rt_n (⟨_, zXx _ _ _, false, rfl, hv⟩))))))))))))
 have hv := hv.2 hc
 refine W.skip (zYq (zZ (W.rL1 (mI rfl rfl ?_))))
 obtain ⟨s20, hv⟩ := hv
 refine cL rfl (o_add rfl rfl s20 (aI rfl rfl (eL (zZ (⟨(), (v5 + 1), hv, St.to_mk (φ := []) rfl (rfl) ⟨Ren.lst _ _ _, Ren.lst _ _ _, Ren.int _ _, trivial⟩ trivial⟩)))))
 have hv := hv.2 hc
 refine W.exit (zZt (zZt (zXy (zZ (W.rL (aB rfl rfl (eL (W.ret (rt (rt_t (v := .bool _) rfl (rt_n (⟨_, zXx _ _ _, true, rfl, hv⟩))))))))))))
theorem vcp_csame (a : (List Con)) (b : (List Con)) (h0 : a.length <= 1073741824) : vc_csame a b (fun q0 => q0 = (decide (a = b))) := by
  unfold vc_csame
  refine ⟨fun h => ?_, fun h => ⟨fun v => ∃ i : Nat, v = i /\ i <= a.length /\ ∀ j, j < i -> a[j]? = b[j]?, fun v => a.length - v.toNat, ⟨0, rfl, by omega, by omega⟩, ?_⟩⟩
  . exact (decide_eq_false fun e => h (by rw [e])).symm
  . have hl : a.length = b.length := by omega
    rintro _ ⟨i, rfl, hi, hj⟩
    refine ⟨fun h1 => ⟨by omega, by omega, fun h2 => ?_, fun h2 => ⟨by unfold inI; omega, ⟨i + 1, by omega, by omega, ?_⟩, by dsimp only; omega⟩⟩, fun h1 => ?_⟩
    . exact (decide_eq_false fun e => h2 (by rw [e])).symm
    . intro j hj1
      rcases Nat.lt_or_ge j i with h3 | h3
      . exact hj j h3
      . have : j = i := by omega
        subst this
        have h4 : lat a (j : Int) = lat b (j : Int) := Classical.not_not.mp h2
        have ha : j < a.length := by omega
        have hb : j < b.length := by omega
        simp only [lat, Int.toNat_natCast, List.getD_eq_getElem?_getD, List.getElem?_eq_getElem ha, List.getElem?_eq_getElem hb, Option.getD_some] at h4 ⊢
        rw [h4]
    . refine (decide_eq_true (List.ext_getElem? fun j => ?_)).symm
      rcases Nat.lt_or_ge j i with h3 | h3
      . exact hj j h3
      . rw [List.getElem?_eq_none (by omega), List.getElem?_eq_none (by omega)]
theorem spec_csame (a : (List Con)) (b : (List Con)) (h0 : a.length <= 1073741824) : FnP Try.prog 18 [.lst true a.length (zYy e66 a), .lst true b.length (zYy e66 b)] (fun xR => xR = .bool (decide (a = b))) :=
  (walk_csame (vcp_csame a b h0)).mono (by rintro _ ⟨_, rfl, rfl⟩; rfl)
end Go.Lat
