/- The law latecomerlaw23.ModelObserved returns true for every input, and each argument reads afterwards as it read before. Part 14 of 16. No condition. -/
import Derived.Test.YtcldekbjhmhgdaaLatE
import Derived.Test.YtcldekbjhmhgdaaLatF
import Derived.Test.YtcldekbjhmhgdaaLatD
import Derived.Test.YtcldekbjhmhgdaaLatJ
import Derived.Test.YtcldekbjhmhgdaaLatI
set_option linter.unusedVariables false
set_option linter.unusedSimpArgs false
set_option linter.unnecessarySimpa false
set_option maxRecDepth 100000
set_option maxHeartbeats 4000000
namespace Go.Lat
open Go.RowKit Go.Proofs
attribute [local irreducible] seqL opC
def vc_clone (s : (List Rg)) (Post : (List Rg) -> Prop) : Prop :=
  ∃ J1 : Prop, (J1 -> ((s).length <= 1073741824) /\ Post s) /\ ((0 < s.length -> J1) /\ (s.length = 0 -> (Post []) /\ (J1)))
theorem walk_clone {s : (List Rg)} {Post : (List Rg) -> Prop} (hv : vc_clone s Post) : FnH Try.prog 44 [] [.lst true s.length (zYy e72 s)] (fun x H => ∃ l q0, H = .row 72 5 (zYy e72 q0) :: l /\ x = .ref false 0 q0.length /\ Post q0) := by
 refine FnH.of_walk (T := tt) (nt := 8) ttOk ttMix ⟨⟨Try.f44, Try.func44, rfl, rfl, rfl, rfl⟩⟩ (by simp) (by simp) 0 (by simp) ?_
 unfold vc_clone at hv
 change W _ _ _ ⟨8, look [(0, .lst true s.length (zYy e72 s))], [], 0⟩ _
 refine W.ty [(0, .lst _ _ _)] rfl (W.rL (cL rfl (zZq (v := .nilS) rfl (eL (W.ty [(0, .lst _ _ _)] rfl ?_)))))
 obtain ⟨J1, hj, hv⟩ := hv
 refine W.mid0 (⟨8, look [(0, .lst true s.length (zYy e72 s))], [], 0⟩) J1 ?_ ?_
 intro hv
 replace hv := hj hv
 refine W.rL (cL rfl (o_buildS (q := 0) (qs := []) (cs := []) tt54 tt72 rfl rfl rfl rfl (mL rfl rfl ?_)))
 obtain ⟨s1, hv⟩ := hv
 refine cL rfl (o_apR (p := 1) (q := (s).length) tt54 tt72 rfl rfl (src_lst (enc72.wd true) _ _ rfl) (zYw (enc72.wd true) _) rfl rfl (by simpa using s1) rfl (Nat.zero_add _) (List.nil_append _) (cL rfl (zZq (v := .ref _ _ _) rfl (eL (W.ty [(2, .ref _ _ _)] rfl (W.to (st' := ⟨8, look [(2, .ref false 0 s.length)], [.row 72 5 (zYy e72 s)], 0⟩) (St.to_mk (φ := [some 1]) rfl rfl ⟨Ren.ref rfl id, trivial⟩ ⟨zE enc72 false s rfl, trivial⟩) ?_))))))
 refine W.ret (rt (rt_t (v := .ref _ _ _) rfl (rt_n (⟨_, s, rfl, rfl, hv⟩))))
 clear hj
 refine W.rL (mL rfl rfl (cL rfl (o_nilEL tt54 rfl ⟨fun hz => ?_, fun hz => ⟨?_, ?_⟩⟩)))
 have hv := hv.1 hz
 refine eL (W.ty [(0, .lst _ _ _), (4, .bool _)] rfl (W.cF rfl (W.skip (zZ (⟨(), hv, St.to_mk (φ := []) rfl (rfl) (zT rfl rfl) trivial⟩)))))
 have hv := (hv.2 hz).1
 refine eL (W.ty [(0, .lst _ _ _), (4, .bool _)] rfl (W.cT rfl (W.rL (cL rfl (zZq (v := .nilS) rfl (eL (W.ty [(2, .nilS)] rfl (W.to (st' := ⟨8, look [(2, .ref false 0 0)], [.row 72 5 (zYy e72 [])], 0⟩) (St.to_mk (φ := [none]) rfl rfl ⟨Ren.nilR rfl rfl, trivial⟩ ⟨rfl, trivial⟩) (W.ret (zZr (rt (rt_t (v := .ref _ _ _) rfl (rt_n (⟨_, [], rfl, rfl, hv⟩))))))))))))))
 have hv := (hv.2 hz).2
 refine eL (W.ty [(0, .lst _ _ _), (4, .bool _)] rfl (W.cF rfl (W.skip (zZ (⟨(), hv, St.to_mk (φ := []) rfl (rfl) (zT rfl rfl) trivial⟩)))))
set_option maxHeartbeats 4000000 in
theorem vcp_clone (s : (List Rg)) (h0 : s.length <= 1073741823) : vc_clone s (fun q0 => q0 = s) := by
  unfold vc_clone
  exact ⟨True, fun _ => ⟨by omega, rfl⟩, fun _ => trivial, fun h => ⟨(List.eq_nil_of_length_eq_zero h).symm, trivial⟩⟩
theorem spec_clone (s : (List Rg)) (h0 : s.length <= 1073741823) : FnH Try.prog 44 [] [.lst true s.length (zYy e72 s)] (fun xR H => ∃ l, H = .row 72 5 (zYy e72 (s)) :: l /\ xR = .ref false 0 (s).length) :=
  (walk_clone (vcp_clone s h0)).mono (by rintro _ _ ⟨l, _, h1, h2, rfl⟩; exact ⟨l, h1, h2⟩)
def vc_mjoin (a : (List Rg)) (b : (List Rg)) (Post : (List Rg) -> Int -> Prop) : Prop :=
  ((a.length <= 9223372036854775807) /\ ((¬ ((validRgs a) = true)) -> True) /\ (¬ (¬ ((validRgs a) = true)) -> (b.length <= 9223372036854775807) /\ True)) /\ ((((¬ ((validRgs a) = true)) \/ (¬ ((validRgs b) = true))) -> Post [] (230 : Int)) /\ (¬ ((¬ ((validRgs a) = true)) \/ (¬ ((validRgs b) = true))) -> (a.length <= 1073741823) /\ ((a ++ b).length <= 1073741824) /\ ((a ++ b).length <= 1073741823) /\ (∀ x ∈ (a ++ b), 0 <= x.nu /\ x.nu <= 1000000) /\ ((joinM (a ++ b)).length <= 9223372036854775807) /\ ((¬ ((validRgs (joinM (a ++ b))) = true)) -> Post [] (230 : Int)) /\ (¬ (¬ ((validRgs (joinM (a ++ b))) = true)) -> Post (joinM (a ++ b)) (0 : Int))))
theorem walk_mjoin {a : (List Rg)} {b : (List Rg)} {Post : (List Rg) -> Int -> Prop} (hv : vc_mjoin a b Post) : FnP Try.prog 28 [.lst true a.length (zYy e72 a), .lst true b.length (zYy e72 b)] (fun x => ∃ q0 q1, x = .tup [.lst false q0.length (zYy e72 q0), .int .i64 q1] /\ Post q0 q1) := by
 refine FnP.of_walk (T := tt) (nt := 24) ttOk ttMix ⟨⟨Try.f28, Try.func28, rfl, rfl, rfl, rfl⟩⟩ (by simp) ?_
 unfold vc_mjoin at hv
 change W _ _ _ ⟨24, look [(0, .lst true a.length (zYy e72 a)), (1, .lst true b.length (zYy e72 b))], [], 0⟩ _
 refine W.ty [(0, .lst _ _ _), (1, .lst _ _ _)] rfl (W.rL (cL rfl (zZq (v := .nilS) rfl (aI rfl rfl (eL (W.ty [(0, .lst _ _ _), (1, .lst _ _ _)] rfl (W.seq' ?_)))))))
 obtain ⟨sd, hv⟩ := hv
 refine W.rLm ⟨24, look [(0, .lst true a.length (zYy e72 a)), (1, .lst true b.length (zYy e72 b)), (14, .bool (decide ((¬ ((validRgs a) = true)) \/ (¬ ((validRgs b) = true)))))], [], 0⟩ ?_ ?_
 refine mL rfl rfl ?_
 obtain ⟨s7, sd⟩ := sd
 refine cL rfl (zZu (k := 31) (fst := []) (caps := []) (ys := [.lst _ _ _]) rfl rfl (spec_vranges a s7) zk (cL rfl (o_notB rfl (mB rfl rfl ?_))))
 by_cases c1 : ¬ ((validRgs a) = true)
 iterate 3 refine cLs rfl rfl rfl (dT c1) ?_
 refine cL rfl (zZv (v := .bool _) rfl (dT c1) rfl (eL (zYz ⟨rfl, rfl, (congrArg AV.bool (dOrT c1)).symm, trivial⟩ rfl)))
 have sd := sd.2 c1
 refine cLg rfl rfl (dF c1) (mL rfl rfl (cLg rfl rfl (dF c1) ?_))
 obtain ⟨s8, sd⟩ := sd
 refine cL rfl (zZu (k := 31) (fst := []) (caps := []) (ys := [.lst _ _ _]) rfl rfl (spec_vranges b s8) zk (cLg rfl rfl (dF c1) (cL rfl (o_notB rfl (cL rfl (zZy (v := .bool _) rfl (dF c1) rfl (eL (zYz ⟨rfl, rfl, (congrArg AV.bool (dOrF c1 (rfl))).symm, trivial⟩ rfl))))))))
 refine W.cn rfl (fun hc => ?_) (fun hc => ?_)
 have hv := hv.1 hc
 refine W.rL (cL rfl (zZq (v := .nilS) rfl (aI rfl rfl (eL (W.ty [(4, .nilS), (5, .int _ _)] rfl (W.ret (zZr (rt (rt_t (v := .nilS) rfl (rt_t (v := .int _ _) rfl (rt_n (⟨_, rs_tup 5 _ (Wks.cons (rs_nil _ _ _ _ rfl) (Wks.cons (zY _ _ _ _) zk)), [], (230 : Int), rfl, hv⟩))))))))))))
 have hv := hv.2 hc
 refine W.skip (zZ (W.ty [(0, .lst _ _ _), (1, .lst _ _ _)] rfl (W.rH (cH rfl (zZp (v := .lst _ _ _) rfl ?_)))))
 obtain ⟨s9, hv⟩ := hv
 refine cHc rfl (callH_R1 (xs := _) (spec_clone a s9) zk (flat72 _) rfl (cH rfl (zZp (v := .lst _ _ _) rfl ?_)))
 obtain ⟨s10, hv⟩ := hv
 refine cH rfl (o_apR (p := 1) (q := (a ++ b).length) tt54 tt72 rfl rfl (src_lst (enc72.wd true) _ _ rfl) (zYw (enc72.wd true) _) rfl (zYw (enc72.wd false) _) (Nat.le_trans (Nat.le_of_eq (@List.length_append _ (a) (b)).symm) s10) rfl (@List.length_append _ (a) (b)).symm (encL_app e72 a b) ?_)
 obtain ⟨s11, s12, hv⟩ := hv
 refine cH rfl (zZu (k := 41) (fst := []) (caps := []) (ys := [.ref _ _ _]) rfl rfl (spec_join (a ++ b) s11 s12) (Wks.cons (ag_ref (fl := false) (xs := a ++ b) enc72 4 _ rfl rfl) zk) (cH rfl (zZq (v := .lst _ _ _) rfl (eH (W.ty [(6, .lst _ _ _)] rfl (W.seq' (W.rL (mL rfl rfl ?_))))))))
 obtain ⟨s14, hv⟩ := hv
 refine cL rfl (zZu (k := 31) (fst := []) (caps := []) (ys := [.lst _ _ _]) rfl rfl (spec_vranges (joinM (a ++ b)) s14) zk (cL rfl (o_notB rfl (eL (W.ty [(6, .lst _ _ _), (22, .bool _)] rfl (W.cn rfl (fun hc => ?_) (fun hc => ?_)))))))
 have hv := hv.1 hc
 refine W.rL (cL rfl (zZq (v := .nilS) rfl (aI rfl rfl (eL (W.ty [(4, .nilS), (5, .int _ _)] rfl (W.ret (zZr (rt (rt_t (v := .nilS) rfl (rt_t (v := .int _ _) rfl (rt_n (⟨_, rs_tup 5 _ (Wks.cons (rs_nil _ _ _ _ rfl) (Wks.cons (zY _ _ _ _) zk)), [], (230 : Int), rfl, hv⟩))))))))))))
 have hv := hv.2 hc
 refine W.skip (zZ (W.ty [(6, .lst _ _ _)] rfl (W.rL (mL rfl rfl (aL rfl rfl (aI rfl rfl (eL (W.ty [(4, .lst _ _ _), (5, .int _ _)] rfl (W.ret (rt (rt_t (v := .lst _ _ _) rfl (rt_t (v := .int _ _) rfl (rt_n (⟨_, rs_tup 5 _ (Wks.cons (rs_lst _ _ _ _) (Wks.cons (zY _ _ _ _) zk)), (joinM (a ++ b)), (0 : Int), rfl, hv⟩))))))))))))))
set_option maxHeartbeats 4000000 in
theorem vcp_mjoin (a : (List Rg)) (b : (List Rg)) (h0 : a.length + b.length <= 1073741822) : vc_mjoin a b (fun q0 q1 => q0 = (joinE a b).1 /\ q1 = (joinE a b).2) := by
  unfold vc_mjoin
  refine ⟨⟨by omega, fun _ => trivial, fun _ => ⟨by omega, trivial⟩⟩, fun k => ?_, fun k => ?_⟩
  . unfold joinE
    rw [if_neg (fun h => k.elim (fun k => k h.1) (fun k => k h.2.1))]
    exact ⟨rfl, rfl⟩
  have ka : validRgs a = true := Decidable.not_not.1 fun h => k (.inl h)
  have kb : validRgs b = true := Decidable.not_not.1 fun h => k (.inr h)
  have hm : ∀ x ∈ a ++ b, 0 <= x.nu /\ x.nu <= 1000000 := fun x hx => by
    rcases List.mem_append.1 hx with hx | hx
    . have := ((validRgs_iff a).1 ka).mem hx; omega
    . have := ((validRgs_iff b).1 kb).mem hx; omega
  have hl : (joinM (a ++ b)).length <= (a ++ b).length := by
    have := joinM_len (l := a ++ b) (a ++ b).length (Nat.le_refl _)
    rwa [List.take_length] at this
  have hab : (a ++ b).length = a.length + b.length := List.length_append
  refine ⟨by omega, by omega, by omega, hm, by omega, fun k2 => ?_, fun k2 => ?_⟩
  . unfold joinE
    rw [if_neg (fun h => k2 h.2.2)]
    exact ⟨rfl, rfl⟩
  . unfold joinE
    rw [if_pos ⟨ka, kb, Decidable.not_not.1 k2⟩]
    exact ⟨rfl, rfl⟩
theorem spec_mjoin (a : (List Rg)) (b : (List Rg)) (h0 : a.length + b.length <= 1073741822) : FnP Try.prog 28 [.lst true a.length (zYy e72 a), .lst true b.length (zYy e72 b)] (fun xR => xR = .tup [.lst false ((joinE a b).1).length (zYy e72 ((joinE a b).1)), .int .i64 ((joinE a b).2)]) :=
  (walk_mjoin (vcp_mjoin a b h0)).mono (by rintro _ ⟨_, _, rfl, rfl, rfl⟩; rfl)
def vc_sameR (a : (List Rg)) (b : (List Rg)) (Post : Bool -> Prop) : Prop :=
  ((¬ (a.length : Int) = (b.length : Int)) -> Post false) /\ (¬ (¬ (a.length : Int) = (b.length : Int)) -> ∃ (I1 : Int -> Prop) (μ1 : Int -> Nat), I1 (0 : Int) /\ ∀ (v5 : Int), I1 v5 -> ((v5 < (a.length : Int)) -> (0 <= v5 /\ v5 < (a.length : Int)) /\ (0 <= v5 /\ v5 < (b.length : Int)) /\ ((¬ (lat a v5) = (lat b v5)) -> Post false) /\ (¬ (¬ (lat a v5) = (lat b v5)) -> (inI (v5 + (1 : Int))) /\ (I1 (v5 + (1 : Int)) /\ μ1 (v5 + (1 : Int)) < μ1 v5))) /\ (¬ (v5 < (a.length : Int)) -> Post true))
theorem walk_sameR {a : (List Rg)} {b : (List Rg)} {Post : Bool -> Prop} (hv : vc_sameR a b Post) : FnP Try.prog 30 [.lst true a.length (zYy e72 a), .lst true b.length (zYy e72 b)] (fun x => ∃ q0, x = .bool q0 /\ Post q0) := by
 refine FnP.of_walk (T := tt) (nt := 26) ttOk ttMix ⟨⟨Try.f30, Try.func30, rfl, rfl, rfl, rfl⟩⟩ (by simp) ?_
 unfold vc_sameR at hv
 change W _ _ _ ⟨26, look [(0, .lst true a.length (zYy e72 a)), (1, .lst true b.length (zYy e72 b))], [], 0⟩ _
 refine W.ty [(0, .lst _ _ _), (1, .lst _ _ _)] rfl (W.rL (aB rfl rfl (eL (W.ty [(0, .lst _ _ _), (1, .lst _ _ _)] rfl (W.seq' (W.rL (mL rfl rfl (cL rfl (zXw (v := .lst _ _ _) tt54 rfl rfl (mL rfl rfl (cL rfl (zXw (v := .lst _ _ _) tt54 rfl rfl (cL rfl (o_neI rfl rfl rfl (eL (W.ty [(0, .lst _ _ _), (1, .lst _ _ _), (10, .bool _)] rfl (W.cn rfl (fun hc => ?_) (fun hc => ?_))))))))))))))))))
 have hv := hv.1 hc
 refine W.rL (aB rfl rfl (eL (W.ty [(4, .bool _)] rfl (W.ret (zZr (rt (rt_t (v := .bool _) rfl (rt_n (⟨_, zYr _ _ _, false, rfl, hv⟩)))))))))
 have hv := hv.2 hc
 refine W.skip (zZ (W.ty [(0, .lst _ _ _), (1, .lst _ _ _)] rfl (W.seq' (W.rL (aI rfl rfl (eL (W.ty [(0, .lst _ _ _), (1, .lst _ _ _), (5, .int _ _)] rfl (W.block ?_))))))))
 obtain ⟨I1, μ1, hp, hv⟩ := hv
 refine W.loop1 (fun v5 => ⟨26, look [(0, .lst true a.length (zYy e72 a)), (1, .lst true b.length (zYy e72 b)), (5, .int .i64 v5)], [], 0⟩) I1 μ1 (0 : Int) (St.to_mk (φ := []) rfl (rfl) (zT rfl rfl) trivial) hp ?_
 clear hp
 intro v5 hI
 replace hv := hv v5 hI
 clear hI
 refine W.seq' (W.rL (mI rfl rfl (mL rfl rfl (cL rfl (zXw (v := .lst _ _ _) tt54 rfl rfl (cL rfl (zYq rfl rfl (eL (W.ty [(0, .lst _ _ _), (1, .lst _ _ _), (5, .int _ _), (14, .bool _)] rfl (W.cn rfl (fun hc => ?_) (fun hc => ?_)))))))))))
 have hv := hv.1 hc
 refine W.skip (zZ (W.ty [(0, .lst _ _ _), (1, .lst _ _ _), (5, .int _ _)] rfl (W.seq' (W.block (W.rD [0, 1, 2, 3, 4, 5, 6, 7, 8] (by decide +kernel) rfl (mL rfl rfl (mI rfl rfl ?_)))))))
 obtain ⟨s18, hv⟩ := hv
 refine cL rfl (zYu tt54 tt72 rfl rfl (enc72.wd true) rfl s18 ?_)
 intro rest18
 refine cL rfl (zYp (cs := [.int _ _, .int _ _, .int _ _, .int _ _, .int _ _]) tt72 rfl rfl ⟨_, rfl⟩ rfl (mL rfl rfl (mI rfl rfl ?_)))
 obtain ⟨s19, hv⟩ := hv
 refine cL rfl (zYu tt54 tt72 rfl rfl (enc72.wd true) rfl s19 ?_)
 intro rest19
 refine cL rfl (zYp (cs := [.int _ _, .int _ _, .int _ _, .int _ _, .int _ _]) tt72 rfl rfl ⟨_, rfl⟩ rfl (cL rfl (o_neS [(lat a v5).op, (lat a v5).ver, (lat a v5).nu, (lat a v5).le, (lat a v5).mo] [(lat b v5).op, (lat b v5).ver, (lat b v5).nu, (lat b v5).le, (lat b v5).mo] tt72 eqf72 rfl rfl rfl rfl rfl rfl (eq72 (lat a v5) (lat b v5)) (eL (W.ty [(0, .lst _ _ _), (1, .lst _ _ _), (5, .int _ _), (25, .bool _)] rfl (W.cn rfl (fun hc => ?_) (fun hc => ?_)))))))
 have hv := hv.1 hc
 refine W.rL (aB rfl rfl (eL (W.ty [(4, .bool _)] rfl (W.ret (zYt (zZr (zZr (zYt (zZr (rt (rt_t (v := .bool _) rfl (rt_n (⟨_, zYr _ _ _, false, rfl, hv⟩)))))))))))))
 have hv := hv.2 hc
 refine W.skip (zYv (zZ (W.ty [(0, .lst _ _ _), (1, .lst _ _ _), (5, .int _ _)] rfl (W.rL1 (mI rfl rfl ?_)))))
 obtain ⟨s20, hv⟩ := hv
 refine cL rfl (o_add rfl rfl s20 (aI rfl rfl (eL (zZ (⟨(), (v5 + (1 : Int)), hv, St.to_mk (φ := []) rfl (rfl) (zT rfl rfl) trivial⟩)))))
 have hv := hv.2 hc
 refine W.exit (zZt (zZt (zYs (zZ (W.ty [] rfl (W.rL (aB rfl rfl (eL (W.ty [(4, .bool _)] rfl (W.ret (rt (rt_t (v := .bool _) rfl (rt_n (⟨_, zYr _ _ _, true, rfl, hv⟩))))))))))))))
set_option maxHeartbeats 4000000 in
theorem vcp_sameR (a : (List Rg)) (b : (List Rg)) (h0 : a.length <= 9223372036854775807) (h1 : b.length <= 9223372036854775807) : vc_sameR a b (fun q0 => q0 = (decide (a = b))) := by
  have bad : ∀ {q : Prop}, (a = b -> q) -> ¬ q -> false = decide (a = b) := fun h k => (decide_eq_false fun e => k (h e)).symm
  unfold vc_sameR
  refine ⟨fun k => bad (fun h => by rw [h]) k, fun k => ?_⟩
  have hl : a.length = b.length := by have := Decidable.not_not.1 k; omega
  refine ⟨fun v => ∃ i : Nat, v = i /\ i <= a.length /\ ∀ q : Nat, q < i -> lat a (q : Int) = lat b (q : Int), fun v => a.length - v.toNat, ⟨0, rfl, by omega, fun a ha => by omega⟩, ?_⟩
  rintro _ ⟨i, rfl, hi, hx⟩
  refine ⟨fun k1 => ⟨⟨by omega, k1⟩, ⟨by omega, by omega⟩, fun k2 => bad (fun h => by rw [h]) k2, fun k2 => ⟨by unfold inI; omega, ⟨i + 1, by omega, by omega, fun q hq => ?_⟩, dec_lt k1⟩⟩, fun k1 => ?_⟩
  . rcases Nat.lt_or_ge q i with h | h
    . exact hx q h
    . rw [show q = i by omega]; exact Decidable.not_not.1 k2
  . show true = decide (a = b)
    symm
    rw [decide_eq_true_eq]
    apply List.ext_getElem hl
    intro m m1 m2
    have := hx m (by omega)
    rwa [lat_get m1, lat_get m2] at this
theorem spec_sameR (a : (List Rg)) (b : (List Rg)) (h0 : a.length <= 9223372036854775807) (h1 : b.length <= 9223372036854775807) : FnP Try.prog 30 [.lst true a.length (zYy e72 a), .lst true b.length (zYy e72 b)] (fun xR => xR = .bool (decide (a = b))) :=
  (walk_sameR (vcp_sameR a b h0 h1)).mono (by rintro _ ⟨_, rfl, rfl⟩; rfl)
def vc_pick16 (c : Int) (n : Int) (Post : Int -> Prop) : Prop :=
  ∃ J1 : Int -> Prop, (∀ (v0 : Int), J1 v0 -> (n ≠ 0) /\ Post (v0.tmod n)) /\ (((c < (0 : Int)) -> (inI (c + (1 : Int))) /\ (inI (-(c + (1 : Int)))) /\ J1 (-(c + (1 : Int)))) /\ (¬ (c < (0 : Int)) -> J1 c))
theorem walk_pick16 {c : Int} {n : Int} {Post : Int -> Prop} (hv : vc_pick16 c n Post) : FnP Try.prog 16 [.int .i64 c, .int .i64 n] (fun x => ∃ q0, x = .int .i64 q0 /\ Post q0) := by
 refine FnP.of_walk (T := tt) (nt := 13) ttOk ttMix ⟨⟨Try.f16, Try.func16, rfl, rfl, rfl, rfl⟩⟩ (by simp) ?_
 unfold vc_pick16 at hv
 change W _ _ _ ⟨13, look [(0, .int .i64 c), (1, .int .i64 n)], [], 0⟩ _
 refine W.ty [(0, .int _ _), (1, .int _ _)] rfl (W.rL (aI rfl rfl (eL (W.ty [(0, .int _ _), (1, .int _ _)] rfl ?_))))
 obtain ⟨J1, hj, hv⟩ := hv
 refine W.mid1 (fun v0 => ⟨13, look [(0, .int .i64 v0), (1, .int .i64 n)], [], 0⟩) J1 ?_ ?_
 intro v0
 intro hv
 replace hv := hj v0 hv
 refine W.rL ?_
 iterate 2 refine mI rfl rfl ?_
 obtain ⟨s3, hv⟩ := hv
 refine cL rfl (o_rem rfl rfl s3 (aI rfl rfl (eL (W.ty [(4, .int _ _)] rfl (W.ret (rt (rt_t (v := .int _ _) rfl (rt_n (⟨_, zY _ _ _ _, (v0.tmod n), rfl, hv⟩)))))))))
 clear hj
 refine W.rL (mI rfl rfl (cL rfl (zYq rfl rfl (eL (W.ty [(0, .int _ _), (1, .int _ _), (6, .bool _)] rfl (W.cn rfl (fun hc => ?_) (fun hc => ?_)))))))
 have hv := hv.1 hc
 refine W.rL1 (mI rfl rfl ?_)
 obtain ⟨s4, hv⟩ := hv
 refine cL rfl (o_add rfl rfl s4 ?_)
 obtain ⟨s5, hv⟩ := hv
 refine cL rfl (o_neg rfl s5 (aI rfl rfl (eL (zZ (⟨(), (-(c + (1 : Int))), hv, St.to_mk (φ := []) rfl (rfl) (zT rfl rfl) trivial⟩)))))
 have hv := hv.2 hc
 refine W.skip (zZ (⟨(), c, hv, St.to_mk (φ := []) rfl (rfl) (zT rfl rfl) trivial⟩))
set_option maxHeartbeats 4000000 in
theorem vcp_pick16 (c : Int) (n : Int) (h0 : 1 <= n) (h1 : inI c) : vc_pick16 c n (fun q0 => q0 = (pickM c n)) := by
  unfold vc_pick16
  refine ⟨fun v => v = if c < 0 then -(c + 1) else c, fun v hv => ⟨by omega, by subst hv; rfl⟩, fun h => ⟨by unfold inI at *; omega, by unfold inI at *; omega, (if_pos h).symm⟩, fun h => (if_neg h).symm⟩
theorem spec_pick16 (c : Int) (n : Int) (h0 : 1 <= n) (h1 : inI c) : FnP Try.prog 16 [.int .i64 c, .int .i64 n] (fun xR => xR = .int .i64 (pickM c n)) :=
  (walk_pick16 (vcp_pick16 c n h0 h1)).mono (by rintro _ ⟨_, rfl, rfl⟩; rfl)
end Go.Lat
