/- The law latecomerlaw24.ReplaySupported returns true for every input, and each argument reads afterwards as it read before. Part 17 of 19. No condition. -/
import Derived.Test.YtbaillkjjlmehaaLatF
import Derived.Test.YtbaillkjjlmehaaLatD
import Derived.Test.YtbaillkjjlmehaaLatE
import Derived.Test.YtbaillkjjlmehaaLatN
import Derived.Test.YtbaillkjjlmehaaLatP
set_option linter.unusedVariables false
set_option linter.unusedSimpArgs false
set_option linter.unnecessarySimpa false
set_option maxRecDepth 100000
set_option maxHeartbeats 4000000
namespace Go.Lat
open Go.RowKit Go.Proofs
attribute [local irreducible] seqL opC
def vc_fit (l : (List Fct)) (Post : (List Rg) -> Int -> Prop) : Prop :=
  ∃ (I1 : Int -> List Rg -> Prop) (μ1 : Int -> List Rg -> Nat), I1 (0 : Int) [] /\ ∀ (v9 : Int) (r0 : List Rg), I1 v9 r0 -> ((v9 < ((l.length : Nat) : Int)) -> (0 <= v9 /\ v9 < (l.length : Int)) /\ ((((400 : Int) < ((l.length : Nat) : Int)) \/ (¬ ((factOk (lat l v9)) = true))) -> Post [] (230 : Int)) /\ (¬ (((400 : Int) < ((l.length : Nat) : Int)) \/ (¬ ((factOk (lat l v9)) = true))) -> ((r0 ++ [(Rg.mk ((lat l v9).op) ((lat l v9).ver) (1 : Int) ((lat l v9).lo) ((lat l v9).hi))]).length <= 1073741824) /\ (inI (v9 + (1 : Int))) /\ (I1 (v9 + (1 : Int)) (r0 ++ [(Rg.mk ((lat l v9).op) ((lat l v9).ver) (1 : Int) ((lat l v9).lo) ((lat l v9).hi))]) /\ μ1 (v9 + (1 : Int)) (r0 ++ [(Rg.mk ((lat l v9).op) ((lat l v9).ver) (1 : Int) ((lat l v9).lo) ((lat l v9).hi))]) < μ1 v9 r0))) /\ (¬ (v9 < ((l.length : Nat) : Int)) -> (r0.length <= 1073741823) /\ (∀ x ∈ r0, 0 <= x.nu /\ x.nu <= 1000000) /\ Post (joinM r0) (0 : Int))
theorem walk_fit {l : (List Fct)} {Post : (List Rg) -> Int -> Prop} (hv : vc_fit l Post) : FnP Try.prog 29 [.lst true l.length (zYy e69 l)] (fun x => ∃ q0 q1, x = .tup [.lst false q0.length (zYy e73 q0), .int .i64 q1] /\ Post q0 q1) := by
 refine FnP.of_walk (T := tt) (nt := 36) ttOk ttMix ⟨⟨Try.f29, Try.func29, rfl, rfl, rfl, rfl⟩⟩ (by simp) ?_
 unfold vc_fit at hv
 change W _ _ _ ⟨36, look [(0, .lst true l.length (zYy e69 l))], [], 0⟩ _
 refine W.tr [(0, .lst _ _ _)] [] ⟨rfl, trivial⟩ rfl (W.rL (cL rfl (zZq (v := .nilS) rfl (aI rfl rfl (eL (W.tr [(0, .lst _ _ _)] [] ⟨rfl, trivial⟩ rfl (W.rL (cL rfl (zZq (v := .nilS) rfl (eL (W.tr [(0, .lst _ _ _), (4, .nilS)] [] ⟨rfl, rfl, trivial⟩ rfl (W.seq' (W.rL (mL rfl rfl (cL rfl (zXw (v := .lst _ _ _) tt64 rfl rfl (mI rfl rfl (eL (W.tr [(0, .lst _ _ _), (4, .nilS), (7, .lst _ _ _), (8, .int _ _), (9, .int _ _)] [] ⟨rfl, rfl, rfl, rfl, rfl, trivial⟩ rfl (W.block ?_))))))))))))))))))))
 obtain ⟨I1, μ1, hp, hv⟩ := hv
 refine W.loop2 (fun v9 r0 => ⟨36, look [(0, .lst true l.length (zYy e69 l)), (4, .ref true 0 r0.length), (7, .lst true l.length (zYy e69 l)), (8, .int .i64 ((l.length : Nat) : Int)), (9, .int .i64 v9)], [.row 73 5 (zYy e73 r0)], 0⟩) I1 μ1 (0 : Int) [] (St.to_mk (φ := [none]) rfl (rfl) ⟨Ren.lst _ _ _, Ren.nilR rfl rfl, Ren.lst _ _ _, Ren.int _ _, Ren.int _ _, trivial⟩ ⟨rfl, trivial⟩) hp ?_
 clear hp
 intro v9 r0 hI
 replace hv := hv v9 r0 hI
 clear hI
 refine W.rL (cL rfl (zYq rfl rfl (eL (W.tr [(0, .lst _ _ _), (4, .ref _ _ _), (7, .lst _ _ _), (8, .int _ _), (9, .int _ _), (10, .bool _)] [.row _ _ _] ⟨rfl, rfl, rfl, rfl, rfl, rfl, trivial⟩ rfl (W.seq' (W.cn rfl (fun hc => ?_) (fun hc => ?_)))))))
 have hv := hv.1 hc
 refine W.skip (zZ (W.tr [(0, .lst _ _ _), (4, .ref _ _ _), (7, .lst _ _ _), (8, .int _ _), (9, .int _ _)] [.row _ _ _] ⟨rfl, rfl, rfl, rfl, rfl, trivial⟩ rfl (W.seq' (W.block (W.rL ?_)))))
 obtain ⟨s24, hv⟩ := hv
 refine cL rfl (zYu tt64 tt69 rfl rfl (enc69.wd true) rfl s24 ?_)
 intro rest24
 refine cL rfl (zYp (cs := [.int _ _, .int _ _, .int _ _, .int _ _, .int _ _, .int _ _, .int _ _, .int _ _, .int _ _, .int _ _]) tt69 rfl rfl ⟨_, rfl⟩ rfl (cL rfl (zXy (p := 1) tt69 rfl rfl (cLn (o_stB (v := .agg _) (vs := [.int _ _, .int _ _, .int _ _, .int _ _, .int _ _, .int _ _, .int _ _, .int _ _, .int _ _, .int _ _]) (cs2 := [.int _ _, .int _ _, .int _ _, .int _ _, .int _ _, .int _ _, .int _ _, .int _ _, .int _ _, .int _ _]) tt69 rfl rfl rfl rfl rfl (Nat.le_of_ble_eq_true rfl) rfl (eL (W.tr [(0, .lst _ _ _), (4, .ref _ _ _), (6, .ptr _ _), (7, .lst _ _ _), (8, .int _ _), (9, .int _ _)] [.row _ _ _, .box _ [.int _ _, .int _ _, .int _ _, .int _ _, .int _ _, .int _ _, .int _ _, .int _ _, .int _ _, .int _ _]] ⟨rfl, rfl, rfl, rfl, rfl, rfl, trivial⟩ rfl (W.seq' (W.rLm ⟨36, look [(0, .lst true l.length (zYy e69 l)), (4, .ref true 0 r0.length), (6, .ptr 1 0), (7, .lst true l.length (zYy e69 l)), (8, .int .i64 ((l.length : Nat) : Int)), (9, .int .i64 v9), (20, .bool (decide (((400 : Int) < ((l.length : Nat) : Int)) \/ (¬ ((factOk (lat l v9)) = true)))))], [.row 73 5 (zYy e73 r0), .box 69 [.int .i64 ((lat l v9).tr), .int .i64 ((lat l v9).sp), .int .i64 ((lat l v9).se), .int .i64 ((lat l v9).ver), .int .i64 ((lat l v9).op), .int .i64 ((lat l v9).pe), .int .i64 ((lat l v9).da), .int .i64 ((lat l v9).lo), .int .i64 ((lat l v9).hi), .int .i64 ((lat l v9).by_)]], 0⟩ ?_ ?_)))))))))
 refine mL rfl rfl (cL rfl (zXw (v := .lst _ _ _) tt64 rfl rfl (cL rfl (o_gtr rfl rfl (mB rfl rfl ?_)))))
 by_cases c1 : (400 : Int) < ((l.length : Nat) : Int)
 iterate 3 refine cLs rfl rfl rfl (dT c1) ?_
 refine cL rfl (zZv (v := .bool _) rfl (dT c1) rfl (eL (zYz ⟨rfl, rfl, rfl, rfl, rfl, rfl, (congrArg AV.bool (dOrT c1)).symm, trivial⟩ rfl)))
 refine cLg rfl rfl (dF c1) (cL rfl (zYp (cs := [.int _ _, .int _ _, .int _ _, .int _ _, .int _ _, .int _ _, .int _ _, .int _ _, .int _ _, .int _ _]) tt69 rfl rfl ⟨_, rfl⟩ rfl (cLg rfl rfl (dF c1) (cL rfl (zZu (k := 50) (fst := []) (caps := []) (ys := [.agg _]) rfl rfl (spec_vfact (lat l v9)) (Wks.cons (zXx 5 _ (Wks.cons (zZz _ _ _ _) (Wks.cons (zZz _ _ _ _) (Wks.cons (zZz _ _ _ _) (Wks.cons (zZz _ _ _ _) (Wks.cons (zZz _ _ _ _) (Wks.cons (zZz _ _ _ _) (Wks.cons (zZz _ _ _ _) (Wks.cons (zZz _ _ _ _) (Wks.cons (zZz _ _ _ _) (Wks.cons (zZz _ _ _ _) (Wks.refl _)))))))))))) (Wks.refl _)) (cLg rfl rfl (dF c1) (cL rfl (o_notB rfl (cL rfl (zZy (v := .bool _) rfl (dF c1) rfl (eL (zYz ⟨rfl, rfl, rfl, rfl, rfl, rfl, (congrArg AV.bool (dOrF c1 (rfl))).symm, trivial⟩ rfl))))))))))))
 refine W.cn rfl (fun hc => ?_) (fun hc => ?_)
 have hv := hv.1 hc
 refine W.rL (cL rfl (zZq (v := .nilS) rfl (aI rfl rfl (eL (W.tr [(2, .nilS), (3, .int _ _)] [.row _ _ _, .box _ [.int _ _, .int _ _, .int _ _, .int _ _, .int _ _, .int _ _, .int _ _, .int _ _, .int _ _, .int _ _]] ⟨rfl, rfl, trivial⟩ rfl (W.ret (zZr (zYt (zZr (zZr (zYt (zZr (rt (rt_t (v := .nilS) rfl (rt_t (v := .int _ _) rfl (rt_n (⟨_, rs_tup 5 _ (Wks.cons (rs_nil _ _ _ _ rfl) (Wks.cons (zY _ _ _ _) (Wks.refl _))), [], (230 : Int), rfl, hv⟩)))))))))))))))))
 have hv := hv.2 hc
 refine W.skip (zZ (W.tr [(0, .lst _ _ _), (4, .ref _ _ _), (6, .ptr _ _), (7, .lst _ _ _), (8, .int _ _), (9, .int _ _)] [.row _ _ _, .box _ [.int _ _, .int _ _, .int _ _, .int _ _, .int _ _, .int _ _, .int _ _, .int _ _, .int _ _, .int _ _]] ⟨rfl, rfl, rfl, rfl, rfl, rfl, trivial⟩ rfl (W.rL1 (cL rfl (zZp (v := .ref _ _ _) rfl (cL rfl (o_fa tt69 rfl tt3 rfl (cL rfl (zZx (v := .int _ _) tt3 rfl rfl ⟨_, rfl⟩ (cL rfl (o_fa tt69 rfl tt3 rfl (cL rfl (zZx (v := .int _ _) tt3 rfl rfl ⟨_, rfl⟩ (cL rfl (o_fa tt69 rfl tt3 rfl (cL rfl (zZx (v := .int _ _) tt3 rfl rfl ⟨_, rfl⟩ (cL rfl (o_fa tt69 rfl tt3 rfl (cL rfl (zZx (v := .int _ _) tt3 rfl rfl ⟨_, rfl⟩ (cL rfl (o_build (qs := [(0, .int _ _), (1, .int _ _), (2, .int _ _), (3, .int _ _), (4, .int _ _)]) (cs := [.int _ _, .int _ _, .int _ _, .int _ _, .int _ _]) tt73 rfl rfl rfl (cL rfl (o_bs1 (v := .agg _) (q := 2) tt32 tt73 rfl rfl rfl rfl rfl rfl rfl rfl ?_)))))))))))))))))))))))))
 obtain ⟨s25, hv⟩ := hv
 refine cL rfl (o_apR (p := 3) (q := (r0 ++ [(Rg.mk ((lat l v9).op) ((lat l v9).ver) (1 : Int) ((lat l v9).lo) ((lat l v9).hi))]).length) tt32 tt73 rfl rfl (src_ref rfl rfl) rfl rfl (zYw (enc73.wd false) _) (Nat.le_trans (Nat.le_of_eq (@List.length_append _ (r0) ([(Rg.mk ((lat l v9).op) ((lat l v9).ver) (1 : Int) ((lat l v9).lo) ((lat l v9).hi))])).symm) s25) rfl (@List.length_append _ (r0) ([(Rg.mk ((lat l v9).op) ((lat l v9).ver) (1 : Int) ((lat l v9).lo) ((lat l v9).hi))])).symm (encL_app e73 r0 [(Rg.mk ((lat l v9).op) ((lat l v9).ver) (1 : Int) ((lat l v9).lo) ((lat l v9).hi))]) (cL rfl (zZq (v := .ref _ _ _) rfl (eL (zYv (zZ (W.tr [(0, .lst _ _ _), (4, .ref _ _ _), (7, .lst _ _ _), (8, .int _ _), (9, .int _ _)] [.dead, .box _ [.int _ _, .int _ _, .int _ _, .int _ _, .int _ _, .int _ _, .int _ _, .int _ _, .int _ _, .int _ _], .row _ _ _, .row _ _ _] ⟨rfl, rfl, rfl, rfl, rfl, trivial⟩ rfl (W.rL1 ?_))))))))
 obtain ⟨s26, hv⟩ := hv
 refine cL rfl (o_add rfl rfl s26 (mI rfl rfl (eL (zZ (⟨(), (v9 + (1 : Int)), (r0 ++ [(Rg.mk ((lat l v9).op) ((lat l v9).ver) (1 : Int) ((lat l v9).lo) ((lat l v9).hi))]), hv, St.to_mk (φ := [some 3]) rfl (rfl) ⟨Ren.lst _ _ _, Ren.ref rfl (fun h => rfl), Ren.lst _ _ _, Ren.int _ _, Ren.int _ _, trivial⟩ ⟨.inr ⟨_, rfl, rfl, rfl, rfl, Rens.enc enc73 false (r0 ++ [(Rg.mk ((lat l v9).op) ((lat l v9).ver) (1 : Int) ((lat l v9).lo) ((lat l v9).hi))])⟩, trivial⟩⟩)))))
 have hv := hv.2 hc
 refine W.exit (zZt (zZt (zYs (zZ (W.tr [(4, .ref _ _ _)] [.row _ _ _] ⟨rfl, trivial⟩ rfl (W.rL (cL rfl (zZp (v := .ref _ _ _) rfl ?_))))))))
 obtain ⟨s27, s28, hv⟩ := hv
 refine cL rfl (zZu (k := 51) (fst := []) (caps := []) (ys := [.ref _ _ _]) rfl rfl (spec_join r0 s27 s28) (Wks.cons (ag_ref (fl := false) (xs := r0) enc73 4 _ rfl rfl) (Wks.refl _)) (aL rfl rfl (aI rfl rfl (eL (W.tr [(2, .lst _ _ _), (3, .int _ _)] [.row _ _ _] ⟨rfl, rfl, trivial⟩ rfl (W.ret (rt (rt_t (v := .lst _ _ _) rfl (rt_t (v := .int _ _) rfl (rt_n (⟨_, rs_tup 5 _ (Wks.cons (rs_lst _ _ _ _) (Wks.cons (zY _ _ _ _) (Wks.refl _))), (joinM r0), (0 : Int), rfl, hv⟩)))))))))))
set_option maxHeartbeats 2000000 in
theorem vcp_fit (l : (List Fct)) (h0 : l.length <= 1073741823) : vc_fit l (fun q0 q1 => q0 = (fitM l).1 /\ q1 = (fitM l).2) := by
  unfold vc_fit
  refine ⟨fun v r => ∃ i : Nat, v = i /\ i <= l.length /\ r = (l.take i).map fRg /\ (0 < i -> l.length <= 400) /\ ∀ j : Nat, j < i -> factOk (lat l (j : Int)) = true, fun v _ => l.length - v.toNat, ⟨0, rfl, by omega, rfl, fun h => absurd h (by omega), fun j hj => by omega⟩, ?_⟩
  rintro _ _ ⟨i, rfl, hi, rfl, h400, hok⟩
  refine ⟨fun k1 => ⟨⟨by omega, k1⟩, fun k2 => ?_, fun k2 => ?_⟩, fun k1 => ?_⟩
  . have := fitM_bad (l := l) (i := i) (by omega) (by rcases k2 with k2 | k2; exact .inl (by omega); exact .inr k2)
    rw [this]; exact ⟨rfl, rfl⟩
  . have k3 : l.length <= 400 := by
      rcases Nat.lt_or_ge 400 l.length with h | h
      . exact absurd (.inl (by omega)) k2
      . exact h
    have k4 : factOk (lat l (i : Int)) = true := Decidable.not_not.1 fun h => k2 (.inr h)
    have e : (l.take i).map fRg ++ [fRg (lat l (i : Int))] = (l.take (i + 1)).map fRg := by rw [take_succ_lat (by omega), List.map_append]; rfl
    refine ⟨by simp; omega, by unfold inI; omega, ⟨i + 1, by omega, by omega, e, fun _ => k3, fun j hj => ?_⟩, dec_lt k1⟩
    rcases Nat.lt_or_ge j i with h | h
    . exact hok j h
    . rw [show j = i by omega]; exact k4
  . have hil : i = l.length := by omega
    subst hil
    rw [List.take_length]
    have e : fitM l = (joinM (l.map fRg), 0) := by
      unfold fitM
      rw [if_neg]
      rintro (h | h)
      . have := h400 (by omega); omega
      . refine h ?_
        rw [List.all_eq_true]
        intro f hf
        obtain ⟨j, hj, rfl⟩ := List.mem_iff_getElem.1 hf
        have := hok j hj
        rwa [lat_get hj] at this
    rw [e]
    refine ⟨by simpa using h0, fun x hx => ?_, rfl, rfl⟩
    obtain ⟨f, _, rfl⟩ := List.mem_map.1 hx
    exact ⟨by show (0 : Int) <= 1; omega, by show (1 : Int) <= 1000000; omega⟩
theorem spec_fit (l : (List Fct)) (h0 : l.length <= 1073741823) : FnP Try.prog 29 [.lst true l.length (zYy e69 l)] (fun xR => xR = .tup [.lst false ((fitM l).1).length (zYy e73 ((fitM l).1)), .int .i64 ((fitM l).2)]) :=
  (walk_fit (vcp_fit l h0)).mono (by rintro _ ⟨_, _, rfl, rfl, rfl⟩; rfl)
end Go.Lat
