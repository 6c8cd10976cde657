/- The law latecomerlaw24.ReplayIdle returns true for every input, and each argument reads afterwards as it read before. Part 8 of 13. No condition. -/
import Derived.Test.YtbaillkjjlmehaaLatE
import Derived.Test.YtbaillkjjlmehaaLatF
import Derived.Test.YtbaillkjjlmehaaLatD
import Derived.Test.YtbaillkjjlmehaaLatG
set_option linter.unusedVariables false
set_option linter.unusedSimpArgs false
set_option linter.unnecessarySimpa false
set_option maxRecDepth 100000
set_option maxHeartbeats 4000000
namespace Go.Lat
open Go.RowKit Go.Proofs
def vc_supported (r : Req) (l : (List Rg)) (Post : Bool -> Prop) : Prop :=
  (r.sv.length <= 9223372036854775807) /\ (∀ j ∈ r.jobs, j.wk.length <= 9223372036854775807) /\ (r.jobs.length <= 9223372036854775807) /\ (r.ex.length <= 9223372036854775807) /\ ((¬ ((validR r) = true)) -> Post false) /\ (¬ (¬ ((validR r) = true)) -> ∃ (I1 : Int -> Prop) (μ1 : Int -> Nat), I1 0 /\ ∀ (v13 : Int), I1 v13 -> ((v13 < ((r.ex.length : Nat) : Int)) -> (0 <= v13 /\ v13 < (r.ex.length : Int)) /\ (((¬ (lat r.ex v13).pc = (-1)) -> (l.length <= 1073741824) /\ True) /\ (¬ (¬ (lat r.ex v13).pc = (-1)) -> True)) /\ ((((¬ (lat r.ex v13).pc = (-1)) /\ (¬ ((allowsM l ((lat r.ex v13).op) ((lat r.ex v13).ver) ((lat r.ex v13).ba)) = true))) -> Post false) /\ (¬ ((¬ (lat r.ex v13).pc = (-1)) /\ (¬ ((allowsM l ((lat r.ex v13).op) ((lat r.ex v13).ver) ((lat r.ex v13).ba)) = true))) -> (inI (v13 + 1)) /\ (I1 (v13 + 1) /\ μ1 (v13 + 1) < μ1 v13)))) /\ (¬ (v13 < ((r.ex.length : Nat) : Int)) -> Post true))
theorem walk_supported {r : Req} {l : (List Rg)} {Post : Bool -> Prop} (hv : vc_supported r l Post) : FnP Try.prog 15 [.agg ((e26 true) r), .lst true l.length (zYy e73 l)] (fun x => ∃ q0, x = .bool q0 /\ Post q0) := by
 refine FnP.of_walk (T := tt) (nt := 32) ttOk ttMix ⟨⟨Try.f15, Try.func15, rfl, rfl, rfl, rfl⟩⟩ (by simp) ?_
 unfold vc_supported at hv
 change W _ _ _ ⟨32, look [(0, .agg [.lst true r.sv.length (zYy zYx r.sv), .lst true r.jobs.length (zYy (e53 true) r.jobs), .int .i64 r.late, .int .i64 r.obj, .int .i64 r.causes, .lst true r.ex.length (zYy e58 r.ex)]), (1, .lst true l.length (zYy e73 l))], [], 0⟩ _
 refine W.rL (cL rfl (o_box (v := .agg _) (p := 0) rfl rfl rfl (aB rfl rfl (eL (W.tr [(1, .lst _ _ _), (2, .ptr _ _)] [.box _ [.lst _ _ _, .lst _ _ _, .int _ _, .int _ _, .int _ _, .lst _ _ _]] ⟨rfl, rfl, trivial⟩ rfl (W.seq' (W.rL (cL rfl (zYp (cs := [.lst _ _ _, .lst _ _ _, .int _ _, .int _ _, .int _ _, .lst _ _ _]) tt26 rfl rfl ⟨_, rfl⟩ rfl ?_)))))))))
 obtain ⟨s5, s6, s7, s8, hv⟩ := hv
 refine cL rfl (zZu (k := 13) (fst := []) (caps := []) (ys := [.agg _]) rfl rfl (spec_valid r s5 s6 s7 s8) (Wks.cons (zXx 5 _ (Wks.cons (zZs _ _ _ _ _) (Wks.cons (zZs _ _ _ _ _) (Wks.cons (zZz _ _ _ _) (Wks.cons (zZz _ _ _ _) (Wks.cons (zZz _ _ _ _) (Wks.cons (zZs _ _ _ _ _) (Wks.refl _)))))))) (Wks.refl _)) (cL rfl (o_notB rfl (eL (W.tr [(1, .lst _ _ _), (2, .ptr _ _), (9, .bool _)] [.box _ [.lst _ _ _, .lst _ _ _, .int _ _, .int _ _, .int _ _, .lst _ _ _]] ⟨rfl, rfl, rfl, trivial⟩ rfl (W.cn rfl (fun hc => ?_) (fun hc => ?_)))))))
 have hv := hv.1 hc
 refine W.rL (aB rfl rfl (eL (W.ret (zZr (rt (rt_t (v := .bool _) rfl (rt_n (⟨_, zYr _ _ _, false, rfl, hv⟩))))))))
 have hv := hv.2 hc
 refine W.skip (zZ (W.seq' (W.rL (cL rfl (o_fa tt26 rfl tt24 rfl (cL rfl (zZx (v := .lst _ _ _) tt24 rfl rfl ⟨_, rfl⟩ (cL rfl (zXw (v := .lst _ _ _) tt24 rfl rfl (mI rfl rfl (eL (W.block ?_))))))))))))
 obtain ⟨I1, μ1, hp, hv⟩ := hv
 refine W.loop1 (fun v13 => ⟨32, look [(1, .lst true l.length (zYy e73 l)), (11, .lst true r.ex.length (zYy e58 r.ex)), (12, .int .i64 ((r.ex.length : Nat) : Int)), (13, .int .i64 v13)], [.dead], 0⟩) I1 μ1 0 (St.to_mk (φ := [none]) rfl (rfl) ⟨Ren.lst _ _ _, Ren.lst _ _ _, Ren.int _ _, Ren.int _ _, trivial⟩ ⟨rfl, trivial⟩) hp ?_
 clear hp
 intro v13 hI
 replace hv := hv v13 hI
 clear hI
 refine W.rL (cL rfl (zYq rfl rfl (eL (W.seq' (W.cn rfl (fun hc => ?_) (fun hc => ?_))))))
 have hv := hv.1 hc
 refine W.skip (zZ (W.seq' (W.block (W.rL ?_))))
 obtain ⟨s33, hv⟩ := hv
 refine cL rfl (zYu tt24 tt58 rfl rfl (enc58.wd true) rfl s33 ?_)
 intro rest33
 refine cL rfl (zYp (cs := [.int _ _, .int _ _, .int _ _, .int _ _, .int _ _, .int _ _]) tt58 rfl rfl ⟨_, rfl⟩ rfl (cL rfl (zXy (p := 1) tt58 rfl rfl (cLn (o_stB (v := .agg _) (vs := [.int _ _, .int _ _, .int _ _, .int _ _, .int _ _, .int _ _]) (cs2 := [.int _ _, .int _ _, .int _ _, .int _ _, .int _ _, .int _ _]) tt58 rfl rfl rfl rfl rfl (Nat.le_of_ble_eq_true rfl) rfl (eL (W.tr [(1, .lst _ _ _), (6, .ptr _ _), (11, .lst _ _ _), (12, .int _ _), (13, .int _ _)] [.dead, .box _ [.int _ _, .int _ _, .int _ _, .int _ _, .int _ _, .int _ _]] ⟨rfl, rfl, rfl, rfl, rfl, trivial⟩ rfl ?_)))))))
 obtain ⟨sd, hv⟩ := hv
 refine W.rLm ⟨32, look [(1, .lst true l.length (zYy e73 l)), (11, .lst true r.ex.length (zYy e58 r.ex)), (12, .int .i64 ((r.ex.length : Nat) : Int)), (13, .int .i64 v13), (30, .bool (decide ((¬ (lat r.ex v13).pc = (-1)) /\ (¬ ((allowsM l ((lat r.ex v13).op) ((lat r.ex v13).ver) ((lat r.ex v13).ba)) = true)))))], [.dead, .box 58 [.int .i64 ((lat r.ex v13).jb), .int .i64 ((lat r.ex v13).pc), .int .i64 ((lat r.ex v13).ca), .int .i64 ((lat r.ex v13).ba), .int .i64 ((lat r.ex v13).op), .int .i64 ((lat r.ex v13).ver)]], 0⟩ ?_ ?_
 refine cL rfl (o_fa tt58 rfl tt3 rfl (cL rfl (zZx (v := .int _ _) tt3 rfl rfl ⟨_, rfl⟩ (cL rfl (o_neI rfl rfl rfl (mB rfl rfl ?_))))))
 by_cases c1 : ¬ (lat r.ex v13).pc = (-1)
 have sd := sd.1 c1
 refine cLg rfl rfl (dT c1) (mL rfl rfl (cLg rfl rfl (dT c1) (cL rfl (o_fa tt58 rfl tt3 rfl (cLg rfl rfl (dT c1) (cL rfl (zZx (v := .int _ _) tt3 rfl rfl ⟨_, rfl⟩ (cLg rfl rfl (dT c1) (cL rfl (o_fa tt58 rfl tt3 rfl (cLg rfl rfl (dT c1) (cL rfl (zZx (v := .int _ _) tt3 rfl rfl ⟨_, rfl⟩ (cLg rfl rfl (dT c1) (cL rfl (o_fa tt58 rfl tt3 rfl (cLg rfl rfl (dT c1) (cL rfl (zZx (v := .int _ _) tt3 rfl rfl ⟨_, rfl⟩ (cLg rfl rfl (dT c1) ?_))))))))))))))))))))
 obtain ⟨s35, sd⟩ := sd
 refine cL rfl (zZu (k := 40) (fst := []) (caps := []) (ys := [.lst _ _ _, .int _ _, .int _ _, .int _ _]) rfl rfl (spec_allows l ((lat r.ex v13).op) ((lat r.ex v13).ver) ((lat r.ex v13).ba) s35) (Wks.cons (zZs _ _ _ _ _) (Wks.cons (zZz _ _ _ _) (Wks.cons (zZz _ _ _ _) (Wks.cons (zZz _ _ _ _) (Wks.refl _))))) (cLg rfl rfl (dT c1) (cL rfl (o_notB rfl (cL rfl (zZv (v := .bool _) rfl (dT c1) rfl (eL (zYz ⟨rfl, rfl, rfl, rfl, (congrArg AV.bool (zXv c1 (rfl))).symm, trivial⟩ rfl))))))))
 iterate 9 refine cLs rfl rfl rfl (dF c1) ?_
 refine cL rfl (zZy (v := .bool _) rfl (dF c1) rfl (eL (zYz ⟨rfl, rfl, rfl, rfl, (congrArg AV.bool (dAndF c1)).symm, trivial⟩ rfl)))
 refine W.cn rfl (fun hc => ?_) (fun hc => ?_)
 have hv := hv.1 hc
 refine W.rL (aB rfl rfl (eL (W.ret (zYt (zZr (zZr (zYt (zZr (rt (rt_t (v := .bool _) rfl (rt_n (⟨_, zYr _ _ _, false, rfl, hv⟩))))))))))))
 have hv := hv.2 hc
 refine W.skip (zYv (zZ (W.rL1 ?_)))
 obtain ⟨s36, hv⟩ := hv
 refine cL rfl (o_add rfl rfl s36 (mI rfl rfl (eL (zZ (⟨(), (v13 + 1), hv, St.to_mk (φ := [none]) rfl (rfl) ⟨Ren.lst _ _ _, Ren.lst _ _ _, Ren.int _ _, Ren.int _ _, trivial⟩ ⟨rfl, trivial⟩⟩)))))
 have hv := hv.2 hc
 refine W.exit (zZt (zZt (zYs (zZ (W.rL (aB rfl rfl (eL (W.ret (rt (rt_t (v := .bool _) rfl (rt_n (⟨_, zYr _ _ _, true, rfl, hv⟩))))))))))))
set_option maxHeartbeats 2000000 in
theorem vcp_supported (r : Req) (l : (List Rg)) (h0 : r.sv.length <= 9223372036854775807) (h1 : ∀ j ∈ r.jobs, j.wk.length <= 9223372036854775807) (h2 : r.jobs.length <= 9223372036854775807) (h3 : r.ex.length <= 9223372036854775807) (h4 : l.length <= 1073741824) : vc_supported r l (fun q0 => q0 = (supM r l)) := by
  refine ⟨h0, h1, h2, h3, fun k => ?_, fun k => ?_⟩
  . show false = supM r l
    unfold supM
    rw [Bool.eq_false_iff.2 k]; rfl
  have k := Decidable.not_not.1 k
  have bad : ∀ {q : Prop}, ((∀ x ∈ r.ex, x.pc = -1 \/ allowsM l x.op x.ver x.ba = true) -> q) -> ¬ q -> false = supM r l := fun h kk => by
    rcases hv : supM r l with _ | _
    . rfl
    . unfold supM at hv
      rw [Bool.and_eq_true, List.all_eq_true] at hv
      refine absurd (h fun x hx => ?_) kk
      have := hv.2 x hx
      rwa [Bool.or_eq_true, decide_eq_true_eq] at this
  refine ⟨fun v => ∃ i : Nat, v = i /\ i <= r.ex.length /\ ∀ a : Nat, a < i -> (lat r.ex a).pc = -1 \/ allowsM l (lat r.ex a).op (lat r.ex a).ver (lat r.ex a).ba = true, fun v => r.ex.length - v.toNat, ⟨0, rfl, by omega, fun a ha => by omega⟩, ?_⟩
  rintro _ ⟨i, rfl, hi, hx⟩
  refine ⟨fun k1 => ⟨⟨by omega, k1⟩, ⟨fun _ => ⟨h4, trivial⟩, fun _ => trivial⟩, fun k2 => bad (fun h => h _ (lat_mem (xs := r.ex) (i := (i : Int)) ⟨by omega, k1⟩)) (fun h => h.elim k2.1 k2.2), fun k2 => ⟨by unfold inI; omega, ⟨i + 1, by omega, by omega, fun a ha => ?_⟩, dec_lt k1⟩⟩, fun k1 => ?_⟩
  . rcases Nat.lt_or_ge a i with h | h
    . exact hx a h
    . rw [show a = i by omega]
      by_cases e : (lat r.ex (i : Int)).pc = -1
      . exact .inl e
      . exact .inr (Decidable.not_not.1 fun h => k2 ⟨e, h⟩)
  . show true = supM r l
    unfold supM
    rw [k, Bool.true_and]
    symm
    rw [List.all_eq_true]
    intro x hxm
    obtain ⟨b, hb, rfl⟩ := List.mem_iff_getElem.1 hxm
    have := hx b (by omega)
    rw [lat_get hb] at this
    rw [Bool.or_eq_true, decide_eq_true_eq]
    exact this
theorem spec_supported (r : Req) (l : (List Rg)) (h0 : r.sv.length <= 9223372036854775807) (h1 : ∀ j ∈ r.jobs, j.wk.length <= 9223372036854775807) (h2 : r.jobs.length <= 9223372036854775807) (h3 : r.ex.length <= 9223372036854775807) (h4 : l.length <= 1073741824) : FnP Try.prog 15 [.agg ((e26 true) r), .lst true l.length (zYy e73 l)] (fun xR => xR = .bool (supM r l)) :=
  (walk_supported (vcp_supported r l h0 h1 h2 h3 h4)).mono (by rintro _ ⟨_, rfl, rfl⟩; rfl)
end Go.Lat
