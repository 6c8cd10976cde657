/- The law latecomerlaw23.ModelApart returns true for every input, and each argument reads afterwards as it read before. Part 7 of 14. No condition. -/
import Derived.Test.YtcldekbjhmhgdaaLatE
import Derived.Test.YtcldekbjhmhgdaaLatF
import Derived.Test.YtcldekbjhmhgdaaLatD
set_option linter.unusedVariables false
set_option linter.unusedSimpArgs false
set_option linter.unnecessarySimpa false
set_option maxRecDepth 100000
set_option maxHeartbeats 4000000
namespace Go.Lat
open Go.RowKit Go.Proofs
attribute [local irreducible] seqL opC
def vc_run (sv : (List Int)) (jobs : (List Job)) (Post : List Dn -> Prop) : Prop :=
  (0 <= (sv.length : Int) /\ (sv.length : Int) <= 1073741824) /\ (0 <= (jobs.length : Int) /\ (jobs.length : Int) <= 1073741824) /\ ∃ (I1 : Int -> List Sta -> Prop) (μ1 : Int -> List Sta -> Nat), I1 (0 : Int) (List.replicate (jobs.length : Int).toNat ((Sta.mk 0 0 0) : Sta)) /\ ∀ (v23 : Int) (r2 : List Sta), I1 v23 r2 -> ((v23 < (jobs.length : Int)) -> (0 <= v23 /\ v23 < (jobs.length : Int)) /\ (0 <= v23 /\ v23 < (r2.length : Int)) /\ (inI (v23 + (1 : Int))) /\ (I1 (v23 + (1 : Int)) (r2.set v23.toNat (Sta.mk 0 (((lat jobs v23).wk).length : Int) ((lat jobs v23).ar))) /\ μ1 (v23 + (1 : Int)) (r2.set v23.toNat (Sta.mk 0 (((lat jobs v23).wk).length : Int) ((lat jobs v23).ar))) < μ1 v23 r2)) /\ (¬ (v23 < (jobs.length : Int)) -> ∃ (I2 : List Dn -> List (Vector Int 4) -> List Sta -> Prop) (μ2 : List Dn -> List (Vector Int 4) -> List Sta -> Nat), I2 [] (List.replicate (sv.length : Int).toNat (Vector.replicate 4 0 : (Vector Int 4))) r2 /\ ∀ (r0 : List Dn) (r1 : List (Vector Int 4)) (r2_1 : List Sta), I2 r0 r1 r2_1 -> (r2_1.length <= 9223372036854775807) /\ (((leastS r2_1) < (0 : Int)) -> Post r0) /\ (¬ ((leastS r2_1) < (0 : Int)) -> (0 <= (leastS r2_1) /\ (leastS r2_1) < (jobs.length : Int)) /\ (0 <= (leastS r2_1) /\ (leastS r2_1) < (r2_1.length : Int)) /\ (0 <= ((lat r2_1 (leastS r2_1)).dn) /\ ((lat r2_1 (leastS r2_1)).dn) < (((lat jobs (leastS r2_1)).wk).length : Int)) /\ (0 <= ((lat ((lat jobs (leastS r2_1)).wk) ((lat r2_1 (leastS r2_1)).dn)).st) /\ ((lat ((lat jobs (leastS r2_1)).wk) ((lat r2_1 (leastS r2_1)).dn)).st) < (r1.length : Int)) /\ (0 <= ((lat ((lat jobs (leastS r2_1)).wk) ((lat r2_1 (leastS r2_1)).dn)).st) /\ ((lat ((lat jobs (leastS r2_1)).wk) ((lat r2_1 (leastS r2_1)).dn)).st) < (sv.length : Int)) /\ (0 <= (lat sv ((lat ((lat jobs (leastS r2_1)).wk) ((lat r2_1 (leastS r2_1)).dn)).st)) /\ (lat sv ((lat ((lat jobs (leastS r2_1)).wk) ((lat r2_1 (leastS r2_1)).dn)).st)) <= ((4 : Nat) : Int)) /\ (((lat r1 ((lat ((lat jobs (leastS r2_1)).wk) ((lat r2_1 (leastS r2_1)).dn)).st)).toList.take (lat sv ((lat ((lat jobs (leastS r2_1)).wk) ((lat r2_1 (leastS r2_1)).dn)).st)).toNat).length <= 9223372036854775807) /\ (∀ y, leastI ((lat r1 ((lat ((lat jobs (leastS r2_1)).wk) ((lat r2_1 (leastS r2_1)).dn)).st)).toList.take (lat sv ((lat ((lat jobs (leastS r2_1)).wk) ((lat r2_1 (leastS r2_1)).dn)).st)).toNat) = y -> (0 <= (leastS r2_1) /\ (leastS r2_1) < (r2_1.length : Int)) /\ (0 <= ((lat ((lat jobs (leastS r2_1)).wk) ((lat r2_1 (leastS r2_1)).dn)).st) /\ ((lat ((lat jobs (leastS r2_1)).wk) ((lat r2_1 (leastS r2_1)).dn)).st) < (r1.length : Int)) /\ (0 <= y /\ y < ((4 : Nat) : Int)) /\ (0 <= (leastS r2_1) /\ (leastS r2_1) < (r2_1.length : Int)) /\ (inI ((max ((lat r2_1 (leastS r2_1)).rd) (vat (lat r1 ((lat ((lat jobs (leastS r2_1)).wk) ((lat r2_1 (leastS r2_1)).dn)).st)) y.toNat)) + ((lat ((lat jobs (leastS r2_1)).wk) ((lat r2_1 (leastS r2_1)).dn)).tm))) /\ (r0.length < 144) /\ (inI ((max ((lat r2_1 (leastS r2_1)).rd) (vat (lat r1 ((lat ((lat jobs (leastS r2_1)).wk) ((lat r2_1 (leastS r2_1)).dn)).st)) y.toNat)) + ((lat ((lat jobs (leastS r2_1)).wk) ((lat r2_1 (leastS r2_1)).dn)).tm))) /\ (0 <= ((lat ((lat jobs (leastS r2_1)).wk) ((lat r2_1 (leastS r2_1)).dn)).st) /\ ((lat ((lat jobs (leastS r2_1)).wk) ((lat r2_1 (leastS r2_1)).dn)).st) < (r1.length : Int)) /\ (0 <= y /\ y < ((4 : Nat) : Int)) /\ (0 <= (leastS r2_1) /\ (leastS r2_1) < (r2_1.length : Int)) /\ (inI (((lat r2_1 (leastS r2_1)).dn) + (1 : Int))) /\ (0 <= (leastS r2_1) /\ (leastS r2_1) < (r2_1.length : Int)) /\ (inI ((max ((lat r2_1 (leastS r2_1)).rd) (vat (lat r1 ((lat ((lat jobs (leastS r2_1)).wk) ((lat r2_1 (leastS r2_1)).dn)).st)) y.toNat)) + ((lat ((lat jobs (leastS r2_1)).wk) ((lat r2_1 (leastS r2_1)).dn)).tm))) /\ (0 <= (leastS r2_1) /\ (leastS r2_1) < (r2_1.length : Int)) /\ (I2 (r0 ++ [(Dn.mk (leastS r2_1) (Vis.mk ((lat r2_1 (leastS r2_1)).rd) (max ((lat r2_1 (leastS r2_1)).rd) (vat (lat r1 ((lat ((lat jobs (leastS r2_1)).wk) ((lat r2_1 (leastS r2_1)).dn)).st)) y.toNat)) ((max ((lat r2_1 (leastS r2_1)).rd) (vat (lat r1 ((lat ((lat jobs (leastS r2_1)).wk) ((lat r2_1 (leastS r2_1)).dn)).st)) y.toNat)) + ((lat ((lat jobs (leastS r2_1)).wk) ((lat r2_1 (leastS r2_1)).dn)).tm))))]) (r1.set ((lat ((lat jobs (leastS r2_1)).wk) ((lat r2_1 (leastS r2_1)).dn)).st).toNat (vset (lat r1 ((lat ((lat jobs (leastS r2_1)).wk) ((lat r2_1 (leastS r2_1)).dn)).st)) y.toNat ((max ((lat r2_1 (leastS r2_1)).rd) (vat (lat r1 ((lat ((lat jobs (leastS r2_1)).wk) ((lat r2_1 (leastS r2_1)).dn)).st)) y.toNat)) + ((lat ((lat jobs (leastS r2_1)).wk) ((lat r2_1 (leastS r2_1)).dn)).tm)))) ((r2_1.set (leastS r2_1).toNat (⟨(((lat r2_1 (leastS r2_1)).dn) + (1 : Int)), (lat r2_1 (leastS r2_1)).al, (lat r2_1 (leastS r2_1)).rd⟩ : Sta)).set (leastS r2_1).toNat (⟨(lat (r2_1.set (leastS r2_1).toNat (⟨(((lat r2_1 (leastS r2_1)).dn) + (1 : Int)), (lat r2_1 (leastS r2_1)).al, (lat r2_1 (leastS r2_1)).rd⟩ : Sta)) (leastS r2_1)).dn, (lat (r2_1.set (leastS r2_1).toNat (⟨(((lat r2_1 (leastS r2_1)).dn) + (1 : Int)), (lat r2_1 (leastS r2_1)).al, (lat r2_1 (leastS r2_1)).rd⟩ : Sta)) (leastS r2_1)).al, ((max ((lat r2_1 (leastS r2_1)).rd) (vat (lat r1 ((lat ((lat jobs (leastS r2_1)).wk) ((lat r2_1 (leastS r2_1)).dn)).st)) y.toNat)) + ((lat ((lat jobs (leastS r2_1)).wk) ((lat r2_1 (leastS r2_1)).dn)).tm))⟩ : Sta)) /\ μ2 (r0 ++ [(Dn.mk (leastS r2_1) (Vis.mk ((lat r2_1 (leastS r2_1)).rd) (max ((lat r2_1 (leastS r2_1)).rd) (vat (lat r1 ((lat ((lat jobs (leastS r2_1)).wk) ((lat r2_1 (leastS r2_1)).dn)).st)) y.toNat)) ((max ((lat r2_1 (leastS r2_1)).rd) (vat (lat r1 ((lat ((lat jobs (leastS r2_1)).wk) ((lat r2_1 (leastS r2_1)).dn)).st)) y.toNat)) + ((lat ((lat jobs (leastS r2_1)).wk) ((lat r2_1 (leastS r2_1)).dn)).tm))))]) (r1.set ((lat ((lat jobs (leastS r2_1)).wk) ((lat r2_1 (leastS r2_1)).dn)).st).toNat (vset (lat r1 ((lat ((lat jobs (leastS r2_1)).wk) ((lat r2_1 (leastS r2_1)).dn)).st)) y.toNat ((max ((lat r2_1 (leastS r2_1)).rd) (vat (lat r1 ((lat ((lat jobs (leastS r2_1)).wk) ((lat r2_1 (leastS r2_1)).dn)).st)) y.toNat)) + ((lat ((lat jobs (leastS r2_1)).wk) ((lat r2_1 (leastS r2_1)).dn)).tm)))) ((r2_1.set (leastS r2_1).toNat (⟨(((lat r2_1 (leastS r2_1)).dn) + (1 : Int)), (lat r2_1 (leastS r2_1)).al, (lat r2_1 (leastS r2_1)).rd⟩ : Sta)).set (leastS r2_1).toNat (⟨(lat (r2_1.set (leastS r2_1).toNat (⟨(((lat r2_1 (leastS r2_1)).dn) + (1 : Int)), (lat r2_1 (leastS r2_1)).al, (lat r2_1 (leastS r2_1)).rd⟩ : Sta)) (leastS r2_1)).dn, (lat (r2_1.set (leastS r2_1).toNat (⟨(((lat r2_1 (leastS r2_1)).dn) + (1 : Int)), (lat r2_1 (leastS r2_1)).al, (lat r2_1 (leastS r2_1)).rd⟩ : Sta)) (leastS r2_1)).al, ((max ((lat r2_1 (leastS r2_1)).rd) (vat (lat r1 ((lat ((lat jobs (leastS r2_1)).wk) ((lat r2_1 (leastS r2_1)).dn)).st)) y.toNat)) + ((lat ((lat jobs (leastS r2_1)).wk) ((lat r2_1 (leastS r2_1)).dn)).tm))⟩ : Sta)) < μ2 r0 r1 r2_1))))
theorem walk_run {sv : (List Int)} {jobs : (List Job)} {Post : List Dn -> Prop} (hv : vc_run sv jobs Post) : FnH Try.prog 36 [] [.lst true sv.length (zYy zYx sv), .lst true jobs.length (zYy (e42 true) jobs)] (fun x H => ∃ l q0, H = .chan 144 true (encC e77 q0) :: l /\ x = .chn 0 /\ Post q0) := by
 refine FnH.of_walk (T := tt) (nt := 120) ttOk ttMix ⟨⟨Try.f36, Try.func36, rfl, rfl, rfl, rfl⟩⟩ (by simp) (by simp) 0 (by simp) ?_
 unfold vc_run at hv
 change W _ _ _ ⟨120, look [(0, .lst true sv.length (zYy zYx sv)), (1, .lst true jobs.length (zYy (e42 true) jobs))], [], 0⟩ _
 refine W.ty [(0, .lst _ _ _), (1, .lst _ _ _)] rfl (W.rL (cL rfl (zZq (v := .any) rfl (eL (W.ty [(0, .lst _ _ _), (1, .lst _ _ _)] rfl (W.rL (cL rfl (o_mkC e77 (p := 0) (c := 144) tt85 tt77 rfl rfl (by decide) rfl rfl (cL rfl (zZq (v := .chn _) rfl (eL (W.ty [(0, .lst _ _ _), (1, .lst _ _ _), (5, .chn _)] rfl (W.rL (mL rfl rfl (cL rfl (zXw (v := .lst _ _ _) tt24 rfl rfl ?_))))))))))))))))
 obtain ⟨s1, hv⟩ := hv
 refine cL rfl (o_mkS (p := 1) (x0 := (Vector.replicate 4 0 : (Vector Int 4))) tt86 tt94 rfl rfl rfl (encV4.wd false) rfl s1 rfl (cL rfl (zZq (v := .ref _ _ _) rfl (eL (W.ty [(0, .lst _ _ _), (1, .lst _ _ _), (5, .chn _), (6, .ref _ _ _)] rfl (W.rL (mL rfl rfl (cL rfl (zXw (v := .lst _ _ _) tt26 rfl rfl ?_)))))))))
 obtain ⟨s2, hv⟩ := hv
 refine cL rfl (o_mkS (p := 2) (x0 := ((Sta.mk 0 0 0) : Sta)) tt87 tt89 rfl rfl rfl (enc89.wd false) rfl s2 rfl (cL rfl (zZq (v := .ref _ _ _) rfl (eL (W.ty [(0, .lst _ _ _), (1, .lst _ _ _), (5, .chn _), (6, .ref _ _ _), (7, .ref _ _ _)] rfl (W.seq' (W.rL (mL rfl rfl (cL rfl (zXw (v := .lst _ _ _) tt26 rfl rfl (mI rfl rfl (eL (W.ty [(0, .lst _ _ _), (1, .lst _ _ _), (5, .chn _), (6, .ref _ _ _), (7, .ref _ _ _), (21, .lst _ _ _), (22, .int _ _), (23, .int _ _)] rfl (W.block ?_))))))))))))))
 obtain ⟨I1, μ1, hp, hv⟩ := hv
 refine W.loop2 (fun v23 r2 => ⟨120, look [(0, .lst true sv.length (zYy zYx sv)), (1, .lst true jobs.length (zYy (e42 true) jobs)), (5, .chn 0), (6, .ref false 1 ((List.replicate (sv.length : Int).toNat (Vector.replicate 4 0 : (Vector Int 4))).length)), (7, .ref false 2 r2.length), (21, .lst true jobs.length (zYy (e42 true) jobs)), (22, .int .i64 (jobs.length : Int)), (23, .int .i64 v23)], [.chan 144 false (encC e77 []), .row 94 4 (zYy eV4 (List.replicate (sv.length : Int).toNat (Vector.replicate 4 0 : (Vector Int 4)))), .row 89 3 (zYy e89 r2)], 0⟩) I1 μ1 (0 : Int) (List.replicate (jobs.length : Int).toNat ((Sta.mk 0 0 0) : Sta)) (St.to_mk (φ := [some 0, some 1, some 2]) rfl (rfl) ⟨Ren.lst _ _ _, Ren.lst _ _ _, Ren.chn rfl, Ren.refL rfl id (by simp), Ren.refL rfl id (by simp), Ren.lst _ _ _, Ren.int _ _, Ren.int _ _, trivial⟩ ⟨.inr ⟨_, rfl, rfl, rfl, Rens.encC (fun _ => rfl) _ _⟩, zE encV4 false (List.replicate (sv.length : Int).toNat (Vector.replicate 4 0 : (Vector Int 4))) rfl, zE enc89 false (List.replicate (jobs.length : Int).toNat ((Sta.mk 0 0 0) : Sta)) rfl, trivial⟩) hp ?_
 clear hp
 intro v23 r2 hI
 replace hv := hv v23 r2 hI
 clear hI
 refine W.rL (cL rfl (zYq rfl rfl (eL (W.ty [(0, .lst _ _ _), (1, .lst _ _ _), (5, .chn _), (6, .ref _ _ _), (7, .ref _ _ _), (21, .lst _ _ _), (22, .int _ _), (23, .int _ _), (24, .bool _)] rfl (W.seq' (W.cn rfl (fun hc => ?_) (fun hc => ?_)))))))
 have hv := hv.1 hc
 refine W.skip (zZ (W.ty [(0, .lst _ _ _), (1, .lst _ _ _), (5, .chn _), (6, .ref _ _ _), (7, .ref _ _ _), (21, .lst _ _ _), (22, .int _ _), (23, .int _ _)] rfl (W.seq' (W.block (W.rL (mI rfl rfl ?_))))))
 obtain ⟨s30, hv⟩ := hv
 refine cL rfl (zYu tt26 tt42 rfl rfl (enc42.wd true) rfl s30 ?_)
 intro rest30
 refine cL rfl (zYp (cs := [.int _ _, .lst _ _ _]) tt42 rfl rfl ⟨_, rfl⟩ rfl (cL rfl (zXy (p := 3) tt42 rfl rfl (aI rfl rfl (cLn (o_stB (v := .agg _) (vs := [.int _ _, .lst _ _ _]) (cs2 := [.int _ _, .lst _ _ _]) tt42 rfl rfl rfl rfl rfl (Nat.le_of_ble_eq_true rfl) rfl (eL (W.ty [(0, .lst _ _ _), (1, .lst _ _ _), (5, .chn _), (6, .ref _ _ _), (7, .ref _ _ _), (8, .int _ _), (9, .ptr _ _), (21, .lst _ _ _), (22, .int _ _), (23, .int _ _)] rfl (W.rL1 (cL rfl (zZp (v := .ref _ _ _) rfl (mI rfl rfl (cL rfl (o_fa tt42 rfl tt40 rfl (cL rfl (zZx (v := .lst _ _ _) tt40 rfl rfl ⟨_, rfl⟩ (cL rfl (zXw (v := .lst _ _ _) tt40 rfl rfl (cL rfl (o_fa tt42 rfl tt3 rfl (cL rfl (zZx (v := .int _ _) tt3 rfl rfl ⟨_, rfl⟩ (cL rfl (o_build (qs := [(0, .int _ _), (1, .int _ _), (2, .int _ _)]) (cs := [.int _ _, .int _ _, .int _ _]) tt89 rfl rfl rfl ?_))))))))))))))))))))))))
 obtain ⟨s31, hv⟩ := hv
 refine cL rfl (o_iaR tt87 tt89 rfl rfl s31 (cLn (o_stR (v := .agg _) tt89 rfl rfl rfl rfl rfl (row_in (xs := r2) (enc89.wd false) s31 rfl) (row_set (e := e89) (enc89.wd false) _ _ (Sta.mk 0 (((lat jobs v23).wk).length : Int) ((lat jobs v23).ar)) rfl s31.1 s31.2) (eL (zYv (zZ (W.ty [(0, .lst _ _ _), (1, .lst _ _ _), (5, .chn _), (6, .ref _ _ _), (7, .ref _ _ _), (21, .lst _ _ _), (22, .int _ _), (23, .int _ _)] rfl (W.rL1 ?_))))))))
 obtain ⟨s32, hv⟩ := hv
 refine cL rfl (o_add rfl rfl s32 (mI rfl rfl (eL (zZ (⟨(), (v23 + (1 : Int)), (r2.set v23.toNat (Sta.mk 0 (((lat jobs v23).wk).length : Int) ((lat jobs v23).ar))), hv, St.to_mk (φ := [some 0, some 1, some 2]) rfl (rfl) ⟨Ren.lst _ _ _, Ren.lst _ _ _, Ren.chn rfl, Ren.refL rfl id (by simp), Ren.refL rfl id (by simp), Ren.lst _ _ _, Ren.int _ _, Ren.int _ _, trivial⟩ ⟨.inr ⟨_, rfl, rfl, rfl, Rens.encC (fun _ => rfl) _ _⟩, zE encV4 false (List.replicate (sv.length : Int).toNat (Vector.replicate 4 0 : (Vector Int 4))) rfl, zE enc89 false (r2.set v23.toNat (Sta.mk 0 (((lat jobs v23).wk).length : Int) ((lat jobs v23).ar))) rfl, trivial⟩⟩)))))
 have hv := hv.2 hc
 refine W.exit (zZt (zZt (zYs (zZ (W.ty [(0, .lst _ _ _), (1, .lst _ _ _), (5, .chn _), (6, .ref _ _ _), (7, .ref _ _ _)] rfl (W.block ?_))))))
 obtain ⟨I2, μ2, hp, hv⟩ := hv
 refine W.loop3 (fun r0 r1 r2_1 => ⟨120, look [(0, .lst true sv.length (zYy zYx sv)), (1, .lst true jobs.length (zYy (e42 true) jobs)), (5, .chn 0), (6, .ref false 1 r1.length), (7, .ref false 2 r2_1.length)], [.chan 144 false (encC e77 r0), .row 94 4 (zYy eV4 r1), .row 89 3 (zYy e89 r2_1)], 0⟩) I2 μ2 [] (List.replicate (sv.length : Int).toNat (Vector.replicate 4 0 : (Vector Int 4))) r2 (St.to_mk (φ := [some 0, some 1, some 2]) rfl (rfl) ⟨Ren.lst _ _ _, Ren.lst _ _ _, Ren.chn rfl, Ren.refL rfl id (by simp), Ren.ref rfl id, trivial⟩ ⟨.inr ⟨_, rfl, rfl, rfl, Rens.encC (fun _ => rfl) _ _⟩, zE encV4 false (List.replicate (sv.length : Int).toNat (Vector.replicate 4 0 : (Vector Int 4))) rfl, zE enc89 false r2 rfl, trivial⟩) hp ?_
 clear hp
 intro r0 r1 r2_1 hI
 replace hv := hv r0 r1 r2_1 hI
 clear hI
 refine W.block (W.rL (cL rfl (zZp (v := .ref _ _ _) rfl ?_)))
 obtain ⟨s77, hv⟩ := hv
 refine cL rfl (zZu (k := 47) (fst := []) (caps := []) (ys := [.ref _ _ _, .clo _ _ _, .clo _ _ _]) rfl rfl (spec_leastS r2_1 s77) (Wks.cons (ag_ref (fl := false) (xs := r2_1) enc89 4 _ rfl rfl) (Wks.cons (ag_clo 5 _ _ zk zk) (Wks.cons (ag_clo 5 _ _ zk zk) zk))) (aI rfl rfl (eL (W.ty [(0, .lst _ _ _), (1, .lst _ _ _), (5, .chn _), (6, .ref _ _ _), (7, .ref _ _ _), (10, .int _ _)] rfl (W.seq' (W.rL (mI rfl rfl (cL rfl (zYq rfl rfl (eL (W.ty [(0, .lst _ _ _), (1, .lst _ _ _), (5, .chn _), (6, .ref _ _ _), (7, .ref _ _ _), (10, .int _ _), (41, .bool _)] rfl (W.cn rfl (fun hc => ?_) (fun hc => ?_)))))))))))))
 have hv := hv.1 hc
 refine W.rL (cL rfl (zZp (v := .chn _) rfl (cLn (o_close rfl rfl (eL (W.ty [(5, .chn _)] rfl (W.rL (cL rfl (zZp (v := .chn _) rfl (cL rfl (zZq (v := .chn _) rfl (eL (W.ty [(4, .chn _)] rfl (W.to (st' := ⟨120, look [(4, .chn 0)], [.chan 144 true (encC e77 r0)], 0⟩) (St.to_mk (φ := [some 0]) rfl rfl ⟨Ren.chn rfl, trivial⟩ ⟨.inr ⟨_, rfl, rfl, rfl, Rens.encC (fun _ => rfl) _ _⟩, trivial⟩) ?_))))))))))))))
 refine W.ret (zZr (zYt (zZr (zYt (rt (rt_t (v := .chn _) rfl (rt_n (⟨_, r0, rfl, rfl, hv⟩))))))))
 have hv := hv.2 hc
 refine W.skip (zZ (W.ty [(0, .lst _ _ _), (1, .lst _ _ _), (5, .chn _), (6, .ref _ _ _), (7, .ref _ _ _), (10, .int _ _)] rfl (W.rD [0, 1, 2, 3, 4, 5, 6, 7, 8, 9, 10, 11, 12, 13] (by decide +kernel) rfl (mL rfl rfl (mI rfl rfl ?_)))))
 obtain ⟨s78, hv⟩ := hv
 refine cL rfl (zYu tt26 tt42 rfl rfl (enc42.wd true) rfl s78 ?_)
 intro rest78
 refine cL rfl (o_faP tt42 rfl tt40 rfl (cL rfl (zZx (v := .lst _ _ _) tt40 rfl rfl ⟨_, rfl⟩ (cL rfl (zZp (v := .ref _ _ _) rfl (mI rfl rfl ?_))))))
 obtain ⟨s79, hv⟩ := hv
 refine cL rfl (o_iaR tt87 tt89 rfl rfl s79 (cL rfl (o_fa tt89 rfl tt3 rfl (cL rfl (zZx (v := .int _ _) tt3 rfl rfl (cell_of (ca_rowF (xs := r2_1) (k := 0) rfl (enc89.wd false) s79 rfl) rfl) ?_)))))
 obtain ⟨s80, hv⟩ := hv
 refine cL rfl (zYu tt40 tt45 rfl rfl (enc45.wd true) rfl s80 ?_)
 intro rest80
 refine cL rfl (zYp (cs := [.int _ _, .int _ _]) tt45 rfl rfl ⟨_, rfl⟩ rfl (cL rfl (zXy (p := 3) tt45 rfl rfl (cLn (o_stB (v := .agg _) (vs := [.int _ _, .int _ _]) (cs2 := [.int _ _, .int _ _]) tt45 rfl rfl rfl rfl rfl (Nat.le_of_ble_eq_true rfl) rfl (eL (W.ty [(0, .lst _ _ _), (1, .lst _ _ _), (5, .chn _), (6, .ref _ _ _), (7, .ref _ _ _), (10, .int _ _), (11, .ptr _ _)] rfl (W.rD [0, 1, 2, 3, 4, 5, 6, 7, 8, 9, 10, 11] (by decide +kernel) rfl (cL rfl (zZp (v := .ref _ _ _) rfl (cL rfl (o_fa tt45 rfl tt3 rfl (cL rfl (zZx (v := .int _ _) tt3 rfl rfl ⟨_, rfl⟩ ?_))))))))))))))
 obtain ⟨s81, hv⟩ := hv
 refine cL rfl (o_iaR tt86 tt94 rfl rfl s81 (mL rfl rfl (cL rfl (o_fa tt45 rfl tt3 rfl (cL rfl (zZx (v := .int _ _) tt3 rfl rfl ⟨_, rfl⟩ ?_))))))
 obtain ⟨s82, hv⟩ := hv
 refine cL rfl (zYu tt24 tt3 rfl rfl (zZw.wd true) rfl s82 ?_)
 intro rest82
 refine cL rfl (zZx (v := .int _ _) tt3 rfl rfl ⟨_, rfl⟩ ?_)
 obtain ⟨s83, hv⟩ := hv
 refine cL rfl (o_slA (x := 0) tt94 tt3 rfl rfl rfl ⟨by omega, s83⟩ (off := ((lat ((lat jobs (leastS r2_1)).wk) ((lat r2_1 (leastS r2_1)).dn)).st).toNat * 4) (c := (lat sv ((lat ((lat jobs (leastS r2_1)).wk) ((lat r2_1 (leastS r2_1)).dn)).st)).toNat) (by simp) (by simp) ?_)
 obtain ⟨s84, hv⟩ := hv
 refine cL rfl (zZu (k := 50) (fst := []) (caps := []) (ys := [.sub _ _ _, .clo _ _ _, .clo _ _ _]) rfl rfl (spec_leastI ((lat r1 ((lat ((lat jobs (leastS r2_1)).wk) ((lat r2_1 (leastS r2_1)).dn)).st)).toList.take (lat sv ((lat ((lat jobs (leastS r2_1)).wk) ((lat r2_1 (leastS r2_1)).dn)).st)).toNat) s84) (Wks.cons (ag_subA 4 (ys := (lat r1 ((lat ((lat jobs (leastS r2_1)).wk) ((lat r2_1 (leastS r2_1)).dn)).st)).toList.take (lat sv ((lat ((lat jobs (leastS r2_1)).wk) ((lat r2_1 (leastS r2_1)).dn)).st)).toNat) rfl s81 rfl (by have := s83; simp; omega)) (Wks.cons (ag_clo 5 _ _ zk zk) (Wks.cons (ag_clo 5 _ _ zk zk) zk))) (aI rfl rfl (eL (W.ty [(0, .lst _ _ _), (1, .lst _ _ _), (5, .chn _), (6, .ref _ _ _), (7, .ref _ _ _), (10, .int _ _), (11, .ptr _ _), (12, .int _ _)] rfl ?_))))
 generalize hy : leastI ((lat r1 ((lat ((lat jobs (leastS r2_1)).wk) ((lat r2_1 (leastS r2_1)).dn)).st)).toList.take (lat sv ((lat ((lat jobs (leastS r2_1)).wk) ((lat r2_1 (leastS r2_1)).dn)).st)).toNat) = y
 replace hv := hv y hy
 clear hy
 refine W.rD [0, 1, 2, 3, 4, 5, 6, 7, 8, 9, 10, 11, 12, 13] (by decide +kernel) rfl (cL rfl (zZp (v := .ref _ _ _) rfl (mI rfl rfl ?_)))
 obtain ⟨s85, hv⟩ := hv
 refine cL rfl (o_iaR tt87 tt89 rfl rfl s85 (cL rfl (o_fa tt89 rfl tt3 rfl (cL rfl (zZx (v := .int _ _) tt3 rfl rfl (cell_of (ca_rowF (xs := r2_1) (k := 2) rfl (enc89.wd false) s85 rfl) rfl) (cL rfl (zZp (v := .ref _ _ _) rfl (cL rfl (o_fa tt45 rfl tt3 rfl (cL rfl (zZx (v := .int _ _) tt3 rfl rfl ⟨_, rfl⟩ (mI rfl rfl ?_))))))))))))
 obtain ⟨s86, hv⟩ := hv
 refine cL rfl (o_iaR tt86 tt94 rfl rfl s86 ?_)
 obtain ⟨s87, hv⟩ := hv
 refine cL rfl (o_iaA tt94 tt3 rfl rfl s87 (by rw [Nat.mul_one]) (cL rfl (zZx (v := .int _ _) tt3 rfl rfl (ca_rowV (xs := r1) rfl s86 (by have := s87; omega)) (cL rfl (o_max rfl rfl (aI rfl rfl (eL (W.ty [(0, .lst _ _ _), (1, .lst _ _ _), (5, .chn _), (6, .ref _ _ _), (7, .ref _ _ _), (10, .int _ _), (11, .ptr _ _), (12, .int _ _), (13, .int _ _)] rfl (W.sendK 14 [0, 1, 2, 3, 4, 5, 6, 7, 8, 9, 10, 11, 12, 13, 14] rfl rfl (by decide +kernel) rfl rfl (by decide +kernel) (cL rfl (zZp (v := .chn _) rfl (mI rfl rfl (cL rfl (zZp (v := .ref _ _ _) rfl (mI rfl rfl ?_)))))))))))))))
 obtain ⟨s88, hv⟩ := hv
 refine cL rfl (o_iaR tt87 tt89 rfl rfl s88 (cL rfl (o_fa tt89 rfl tt3 rfl (cL rfl (zZx (v := .int _ _) tt3 rfl rfl (cell_of (ca_rowF (xs := r2_1) (k := 2) rfl (enc89.wd false) s88 rfl) rfl) ?_)))))
 iterate 2 refine mI rfl rfl ?_
 refine cL rfl (o_fa tt45 rfl tt3 rfl (cL rfl (zZx (v := .int _ _) tt3 rfl rfl ⟨_, rfl⟩ ?_)))
 obtain ⟨s89, hv⟩ := hv
 refine cL rfl (o_add rfl rfl s89 (cL rfl (o_build (qs := [(0, .int _ _), (1, .int _ _), (2, .int _ _)]) (cs := [.int _ _, .int _ _, .int _ _]) tt36 rfl rfl rfl (cL rfl (o_build (qs := [(0, .int _ _), (1, .agg _)]) (cs := [.int _ _, .int _ _, .int _ _, .int _ _]) tt77 rfl rfl rfl (cLn (zZp (v := .bool _) rfl ?_)))))))
 obtain ⟨s90, hv⟩ := hv
 refine eL (sndE (x := (Dn.mk (leastS r2_1) (Vis.mk ((lat r2_1 (leastS r2_1)).rd) (max ((lat r2_1 (leastS r2_1)).rd) (vat (lat r1 ((lat ((lat jobs (leastS r2_1)).wk) ((lat r2_1 (leastS r2_1)).dn)).st)) y.toNat)) ((max ((lat r2_1 (leastS r2_1)).rd) (vat (lat r1 ((lat ((lat jobs (leastS r2_1)).wk) ((lat r2_1 (leastS r2_1)).dn)).st)) y.toNat)) + ((lat ((lat jobs (leastS r2_1)).wk) ((lat r2_1 (leastS r2_1)).dn)).tm))))) rfl rfl s90 rfl (W.ty [(0, .lst _ _ _), (1, .lst _ _ _), (5, .chn _), (6, .ref _ _ _), (7, .ref _ _ _), (10, .int _ _), (11, .ptr _ _), (12, .int _ _), (13, .int _ _)] rfl (W.rD [0, 1, 2, 3, 4, 5, 6, 7, 8, 9, 10] (by decide +kernel) rfl (cL rfl (zZp (v := .ref _ _ _) rfl (cL rfl (o_fa tt45 rfl tt3 rfl (cL rfl (zZx (v := .int _ _) tt3 rfl rfl ⟨_, rfl⟩ ?_)))))))))
 iterate 2 refine mI rfl rfl ?_
 refine cL rfl (o_fa tt45 rfl tt3 rfl (cL rfl (zZx (v := .int _ _) tt3 rfl rfl ⟨_, rfl⟩ ?_)))
 obtain ⟨s91, hv⟩ := hv
 refine cL rfl (o_add rfl rfl s91 ?_)
 obtain ⟨s92, hv⟩ := hv
 refine cL rfl (o_iaR tt86 tt94 rfl rfl s92 ?_)
 obtain ⟨s93, hv⟩ := hv
 refine cL rfl (o_iaA tt94 tt3 rfl rfl s93 (by rw [Nat.mul_one]) (cLn (o_stR (v := .int _ _) (vs := [.int _ _]) tt3 rfl rfl rfl rfl rfl (row_inV (xs := r1) s92 (by have := s93; omega)) (row_setV r1 s92 (by have := s93; omega) ((max ((lat r2_1 (leastS r2_1)).rd) (vat (lat r1 ((lat ((lat jobs (leastS r2_1)).wk) ((lat r2_1 (leastS r2_1)).dn)).st)) y.toNat)) + ((lat ((lat jobs (leastS r2_1)).wk) ((lat r2_1 (leastS r2_1)).dn)).tm))) (eL (W.ty [(0, .lst _ _ _), (1, .lst _ _ _), (5, .chn _), (6, .ref _ _ _), (7, .ref _ _ _), (10, .int _ _), (11, .ptr _ _), (13, .int _ _)] rfl (W.rL (cL rfl (zZp (v := .ref _ _ _) rfl (mI rfl rfl ?_)))))))))
 obtain ⟨s94, hv⟩ := hv
 refine cL rfl (o_iaR tt87 tt89 rfl rfl s94 (cL rfl (o_fa tt89 rfl tt3 rfl (cL rfl (zZx (v := .int _ _) tt3 rfl rfl (cell_of (ca_rowF (xs := r2_1) (k := 0) rfl (enc89.wd false) s94 rfl) rfl) ?_)))))
 obtain ⟨s95, hv⟩ := hv
 refine cL rfl (o_add rfl rfl s95 ?_)
 obtain ⟨s96, hv⟩ := hv
 refine cL rfl (o_iaR tt87 tt89 rfl rfl s96 (cL rfl (o_fa tt89 rfl tt3 rfl (cLn (o_stR (v := .int _ _) (vs := [.int _ _]) tt3 rfl rfl rfl rfl rfl (row_inF (xs := r2_1) (enc89.wd false) s96 rfl) (row_setF (e := e89) (enc89.wd false) _ _ 0 (⟨(((lat r2_1 (leastS r2_1)).dn) + (1 : Int)), (lat r2_1 (leastS r2_1)).al, (lat r2_1 (leastS r2_1)).rd⟩ : Sta) rfl rfl s96) (eL (W.ty [(0, .lst _ _ _), (1, .lst _ _ _), (5, .chn _), (6, .ref _ _ _), (7, .ref _ _ _), (10, .int _ _), (11, .ptr _ _), (13, .int _ _)] rfl (W.rL1 (cL rfl (zZp (v := .ref _ _ _) rfl ?_))))))))))
 iterate 2 refine mI rfl rfl ?_
 refine cL rfl (o_fa tt45 rfl tt3 rfl (cL rfl (zZx (v := .int _ _) tt3 rfl rfl ⟨_, rfl⟩ ?_)))
 obtain ⟨s97, hv⟩ := hv
 refine cL rfl (o_add rfl rfl s97 ?_)
 obtain ⟨s98, hv⟩ := hv
 refine cL rfl (o_iaR tt87 tt89 rfl rfl s98 ?_)
 have s98q : 0 <= (leastS r2_1) /\ (leastS r2_1) < (((r2_1.set (leastS r2_1).toNat (⟨(((lat r2_1 (leastS r2_1)).dn) + (1 : Int)), (lat r2_1 (leastS r2_1)).al, (lat r2_1 (leastS r2_1)).rd⟩ : Sta)).length : Nat) : Int) := by simpa using s98
 refine cL rfl (o_fa tt89 rfl tt3 rfl (cLn (o_stR (v := .int _ _) (vs := [.int _ _]) tt3 rfl rfl rfl rfl rfl (row_inF (xs := r2_1.set (leastS r2_1).toNat (⟨(((lat r2_1 (leastS r2_1)).dn) + (1 : Int)), (lat r2_1 (leastS r2_1)).al, (lat r2_1 (leastS r2_1)).rd⟩ : Sta)) (enc89.wd false) s98q rfl) (row_setF (e := e89) (enc89.wd false) _ _ 2 (⟨(lat (r2_1.set (leastS r2_1).toNat (⟨(((lat r2_1 (leastS r2_1)).dn) + (1 : Int)), (lat r2_1 (leastS r2_1)).al, (lat r2_1 (leastS r2_1)).rd⟩ : Sta)) (leastS r2_1)).dn, (lat (r2_1.set (leastS r2_1).toNat (⟨(((lat r2_1 (leastS r2_1)).dn) + (1 : Int)), (lat r2_1 (leastS r2_1)).al, (lat r2_1 (leastS r2_1)).rd⟩ : Sta)) (leastS r2_1)).al, ((max ((lat r2_1 (leastS r2_1)).rd) (vat (lat r1 ((lat ((lat jobs (leastS r2_1)).wk) ((lat r2_1 (leastS r2_1)).dn)).st)) y.toNat)) + ((lat ((lat jobs (leastS r2_1)).wk) ((lat r2_1 (leastS r2_1)).dn)).tm))⟩ : Sta) rfl rfl s98q) (eL (zYv (zZ (⟨(), (r0 ++ [(Dn.mk (leastS r2_1) (Vis.mk ((lat r2_1 (leastS r2_1)).rd) (max ((lat r2_1 (leastS r2_1)).rd) (vat (lat r1 ((lat ((lat jobs (leastS r2_1)).wk) ((lat r2_1 (leastS r2_1)).dn)).st)) y.toNat)) ((max ((lat r2_1 (leastS r2_1)).rd) (vat (lat r1 ((lat ((lat jobs (leastS r2_1)).wk) ((lat r2_1 (leastS r2_1)).dn)).st)) y.toNat)) + ((lat ((lat jobs (leastS r2_1)).wk) ((lat r2_1 (leastS r2_1)).dn)).tm))))]), (r1.set ((lat ((lat jobs (leastS r2_1)).wk) ((lat r2_1 (leastS r2_1)).dn)).st).toNat (vset (lat r1 ((lat ((lat jobs (leastS r2_1)).wk) ((lat r2_1 (leastS r2_1)).dn)).st)) y.toNat ((max ((lat r2_1 (leastS r2_1)).rd) (vat (lat r1 ((lat ((lat jobs (leastS r2_1)).wk) ((lat r2_1 (leastS r2_1)).dn)).st)) y.toNat)) + ((lat ((lat jobs (leastS r2_1)).wk) ((lat r2_1 (leastS r2_1)).dn)).tm)))), ((r2_1.set (leastS r2_1).toNat (⟨(((lat r2_1 (leastS r2_1)).dn) + (1 : Int)), (lat r2_1 (leastS r2_1)).al, (lat r2_1 (leastS r2_1)).rd⟩ : Sta)).set (leastS r2_1).toNat (⟨(lat (r2_1.set (leastS r2_1).toNat (⟨(((lat r2_1 (leastS r2_1)).dn) + (1 : Int)), (lat r2_1 (leastS r2_1)).al, (lat r2_1 (leastS r2_1)).rd⟩ : Sta)) (leastS r2_1)).dn, (lat (r2_1.set (leastS r2_1).toNat (⟨(((lat r2_1 (leastS r2_1)).dn) + (1 : Int)), (lat r2_1 (leastS r2_1)).al, (lat r2_1 (leastS r2_1)).rd⟩ : Sta)) (leastS r2_1)).al, ((max ((lat r2_1 (leastS r2_1)).rd) (vat (lat r1 ((lat ((lat jobs (leastS r2_1)).wk) ((lat r2_1 (leastS r2_1)).dn)).st)) y.toNat)) + ((lat ((lat jobs (leastS r2_1)).wk) ((lat r2_1 (leastS r2_1)).dn)).tm))⟩ : Sta)), hv, St.to_mk (φ := [some 0, some 1, some 2]) rfl (rfl) ⟨Ren.lst _ _ _, Ren.lst _ _ _, Ren.chn rfl, Ren.refL rfl id (by simp), Ren.refL rfl id (by simp), trivial⟩ ⟨.inr ⟨_, rfl, rfl, rfl, Rens.encC (fun _ => rfl) _ _⟩, zE encV4 false (r1.set ((lat ((lat jobs (leastS r2_1)).wk) ((lat r2_1 (leastS r2_1)).dn)).st).toNat (vset (lat r1 ((lat ((lat jobs (leastS r2_1)).wk) ((lat r2_1 (leastS r2_1)).dn)).st)) y.toNat ((max ((lat r2_1 (leastS r2_1)).rd) (vat (lat r1 ((lat ((lat jobs (leastS r2_1)).wk) ((lat r2_1 (leastS r2_1)).dn)).st)) y.toNat)) + ((lat ((lat jobs (leastS r2_1)).wk) ((lat r2_1 (leastS r2_1)).dn)).tm)))) rfl, .inr ⟨_, rfl, rfl, rfl, rfl, Rens.enc enc89 false ((r2_1.set (leastS r2_1).toNat (⟨(((lat r2_1 (leastS r2_1)).dn) + (1 : Int)), (lat r2_1 (leastS r2_1)).al, (lat r2_1 (leastS r2_1)).rd⟩ : Sta)).set (leastS r2_1).toNat (⟨(lat (r2_1.set (leastS r2_1).toNat (⟨(((lat r2_1 (leastS r2_1)).dn) + (1 : Int)), (lat r2_1 (leastS r2_1)).al, (lat r2_1 (leastS r2_1)).rd⟩ : Sta)) (leastS r2_1)).dn, (lat (r2_1.set (leastS r2_1).toNat (⟨(((lat r2_1 (leastS r2_1)).dn) + (1 : Int)), (lat r2_1 (leastS r2_1)).al, (lat r2_1 (leastS r2_1)).rd⟩ : Sta)) (leastS r2_1)).al, ((max ((lat r2_1 (leastS r2_1)).rd) (vat (lat r1 ((lat ((lat jobs (leastS r2_1)).wk) ((lat r2_1 (leastS r2_1)).dn)).st)) y.toNat)) + ((lat ((lat jobs (leastS r2_1)).wk) ((lat r2_1 (leastS r2_1)).dn)).tm))⟩ : Sta))⟩, trivial⟩⟩)))))))
set_option maxHeartbeats 4000000 in
theorem vcp_run (sv : (List Int)) (jobs : (List Job)) (h0 : validJ sv jobs = true) : vc_run sv jobs (fun q0 => q0 = runM sv jobs) := by
  obtain ⟨hv1, hv2, hv3⟩ := job_ok h0
  unfold vc_run
  refine ⟨⟨by omega, by omega⟩, ⟨by omega, by omega⟩, fun v r2 => ∃ i : Nat, v = i /\ i <= jobs.length /\ r2.length = jobs.length /\ ∀ a : Nat, a < i -> lat r2 a = ⟨0, (lat jobs a).wk.length, (lat jobs a).ar⟩, fun v _ => jobs.length - v.toNat, ⟨0, rfl, by omega, by simp, fun a ha => by omega⟩, ?_⟩
  rintro _ r2 ⟨i, rfl, hi, hl, hr⟩
  refine ⟨fun k1 => ⟨⟨by omega, k1⟩, ⟨by omega, by omega⟩, by unfold inI; omega, ⟨i + 1, by omega, by omega, by rw [List.length_set, hl], fun a ha => ?_⟩, dec_lt k1⟩, fun k1 => ?_⟩
  . rw [lat_set (i := (i : Int)) (j := a) ⟨by omega, by omega⟩]
    by_cases e : (a : Int) = i
    . rw [if_pos e]
      have : a = i := by omega
      subst this; rfl
    . rw [if_neg e]; exact hr a (by omega)
  have e2 : r2 = jobs.map fun j => ⟨0, j.wk.length, j.ar⟩ := by
    apply List.ext_getElem (by simpa using hl)
    intro a h1 h2
    have := hr a (by omega)
    rw [lat_get h1, lat_get (by omega)] at this
    simpa using this
  have e3 : (⟨List.replicate (sv.length : Int).toNat (Vector.replicate 4 0 : (Vector Int 4)), r2⟩ : RunS) = initM sv jobs := by rw [e2]; rfl
  refine ⟨fun r0 r1 r2 => RInv sv jobs r0.length ⟨r1, r2⟩ /\ r0 ++ runN sv jobs (leftM ⟨r1, r2⟩) ⟨r1, r2⟩ = runM sv jobs, fun _ r1 r2 => leftM ⟨r1, r2⟩, ⟨by rw [e3]; exact RInv.init h0, by rw [e3]; rfl⟩, ?_⟩
  clear e3 e2 hr hl k1 hi i r2
  rintro r0 r1 r2 ⟨hI, he⟩
  have hl2 : r2.length = jobs.length := hI.sl
  have hl1 : r1.length = sv.length := hI.fl
  refine ⟨by omega, fun k1 => ?_, fun k1 => ?_⟩
  . rw [runN_neg (s := ⟨r1, r2⟩) k1, List.append_nil] at he
    exact he
  obtain ⟨i, hi, hil, hid, -⟩ := (leastS_spec r2).resolve_left (fun h => k1 (by omega))
  have so := hI.step (i := i) hil hid
  have hw : lat (lat jobs (i : Int)).wk (lat r2 (i : Int)).dn = workM jobs ⟨r1, r2⟩ i := rfl
  have hsl : leastI ((lat r1 (workM jobs ⟨r1, r2⟩ i).st).toList.take (lat sv (workM jobs ⟨r1, r2⟩ i).st).toNat) = slotM sv ⟨r1, r2⟩ (workM jobs ⟨r1, r2⟩ i).st := rfl
  have hvs : max (lat r2 (i : Int)).rd (vat (lat r1 (workM jobs ⟨r1, r2⟩ i).st) (slotM sv ⟨r1, r2⟩ (workM jobs ⟨r1, r2⟩ i).st).toNat) = (visM sv jobs ⟨r1, r2⟩ i).st := rfl
  have hrd : (lat r2 (i : Int)).rd = (visM sv jobs ⟨r1, r2⟩ i).rd := rfl
  have hset : ∀ (A : Sta) (x : Int), ((r2.set i A).set i ⟨(lat (r2.set i A) (i : Int)).dn, (lat (r2.set i A) (i : Int)).al, x⟩ : List Sta) = r2.set i ⟨A.dn, A.al, x⟩ := fun A x => by
    have := lat_set (l := r2) (i := (i : Int)) (j := i) (x := A) ⟨by omega, by omega⟩
    rw [Int.toNat_natCast, if_pos rfl] at this
    rw [List.set_set, this]
  obtain ⟨k, k1', k2', -⟩ := so.slot
  have hlt := so.lt
  have hdn := so.dn
  have ha := hI.al i hlt
  have hst := so.st
  have htm := so.tm
  have hnb := so.nb
  have hvis := so.vis
  have hleft := hI.left
  have hinit := left_init h0
  have hless := so.less
  have h6 := (hv3 _ (lat_mem (xs := jobs) (i := (i : Int)) ⟨by omega, by omega⟩)).1.2.2
  simp only at hdn ha
  rw [hi]
  simp only [Int.toNat_natCast, hw, hsl]
  refine ⟨⟨by omega, by omega⟩, ⟨by omega, by omega⟩, ⟨by omega, by omega⟩, ⟨by omega, by omega⟩, ⟨by omega, by omega⟩, ⟨by omega, by omega⟩, by simp; omega, fun y hy => ?_⟩
  subst hy
  rw [hset, hvs]
  have hc : (r0.length : Int) <= 144 := by omega
  have hen : (visM sv jobs ⟨r1, r2⟩ i).st + (workM jobs ⟨r1, r2⟩ i).tm = (visM sv jobs ⟨r1, r2⟩ i).en := hvis.2.2.symm
  rw [hen]
  have hin : inI (visM sv jobs ⟨r1, r2⟩ i).en := by unfold inI; omega
  have hnext : (⟨r1.set (workM jobs ⟨r1, r2⟩ i).st.toNat (vset (lat r1 (workM jobs ⟨r1, r2⟩ i).st) (slotM sv ⟨r1, r2⟩ (workM jobs ⟨r1, r2⟩ i).st).toNat (visM sv jobs ⟨r1, r2⟩ i).en), r2.set i ⟨(lat r2 (i : Int)).dn + 1, (lat r2 (i : Int)).al, (visM sv jobs ⟨r1, r2⟩ i).en⟩⟩ : RunS) = nextM sv jobs ⟨r1, r2⟩ i := rfl
  refine ⟨⟨by omega, by omega⟩, ⟨by omega, by omega⟩, ⟨by omega, by omega⟩, ⟨by omega, by omega⟩, hin, by omega, hin, ⟨by omega, by omega⟩, ⟨by omega, by omega⟩, ⟨by omega, by omega⟩, by unfold inI; omega, ⟨by omega, by omega⟩, hin, ⟨by omega, by omega⟩, ⟨?_, ?_⟩, ?_⟩
  . rw [hnext, List.length_append]
    exact so.next
  . rw [hnext]
    rw [hless, runN_pos (s := ⟨r1, r2⟩) k1] at he
    simp only [hi] at he
    rw [List.append_assoc]
    exact he
  . show leftM _ < leftM _
    rw [hnext]; omega
theorem spec_run (sv : (List Int)) (jobs : (List Job)) (h0 : validJ sv jobs = true) : FnH Try.prog 36 [] [.lst true sv.length (zYy zYx sv), .lst true jobs.length (zYy (e42 true) jobs)] (fun xR H => ∃ l, H = .chan 144 true (encC e77 (runM sv jobs)) :: l /\ xR = .chn 0) :=
  (walk_run (vcp_run sv jobs h0)).mono (by rintro _ _ ⟨l, _, h1, h2, rfl⟩; exact ⟨l, h1, h2⟩)
def vc_mrun (sv : (List Int)) (jobs : (List Job)) (Post : (List (List Vis)) -> Int -> Prop) : Prop :=
  (sv.length <= 9223372036854775807) /\ (∀ j ∈ jobs, j.wk.length <= 9223372036854775807) /\ (jobs.length <= 9223372036854775807) /\ ((¬ ((validJ sv jobs) = true)) -> Post [] (230 : Int)) /\ (¬ (¬ ((validJ sv jobs) = true)) -> (0 <= (jobs.length : Int) /\ (jobs.length : Int) <= 1073741824) /\ (validJ sv jobs = true) /\ ∃ (I1 : List (List Vis) -> List Dn -> Prop) (μ1 : List (List Vis) -> List Dn -> Nat), I1 (List.replicate (jobs.length : Int).toNat ([] : (List Vis))) (runM sv jobs) /\ ∀ (r0 : List (List Vis)) (r1 : List Dn), I1 r0 r1 -> (∀ (y : Dn) (ys : List Dn), r1 = y :: ys -> (0 <= y.j /\ y.j < (r0.length : Int)) /\ (((lat r0 y.j) ++ [y.v]).length <= 1073741824) /\ (I1 (r0.set y.j.toNat ((lat r0 y.j) ++ [y.v])) ys /\ μ1 (r0.set y.j.toNat ((lat r0 y.j) ++ [y.v])) ys < μ1 r0 r1)) /\ (r1 = [] -> Post r0 (0 : Int)))
theorem walk_mrun {sv : (List Int)} {jobs : (List Job)} {Post : (List (List Vis)) -> Int -> Prop} (hv : vc_mrun sv jobs Post) : FnP Try.prog 12 [.lst true sv.length (zYy zYx sv), .lst true jobs.length (zYy (e42 true) jobs)] (fun x => ∃ q0 q1, x = .tup [.lst false q0.length (zYy (eSl e36 true) q0), .int .i64 q1] /\ Post q0 q1) := by
 refine FnP.of_walk (T := tt) (nt := 35) ttOk ttMix ⟨⟨Try.f12, Try.func12, rfl, rfl, rfl, rfl⟩⟩ (by simp) ?_
 unfold vc_mrun at hv
 change W _ _ _ ⟨35, look [(0, .lst true sv.length (zYy zYx sv)), (1, .lst true jobs.length (zYy (e42 true) jobs))], [], 0⟩ _
 refine W.ty [(0, .lst _ _ _), (1, .lst _ _ _)] rfl (W.rL (cL rfl (zZq (v := .nilS) rfl (aI rfl rfl (eL (W.ty [(0, .lst _ _ _), (1, .lst _ _ _)] rfl (W.seq' (W.rL ?_))))))))
 iterate 2 refine mL rfl rfl ?_
 obtain ⟨s4, s5, s6, hv⟩ := hv
 refine cL rfl (zZu (k := 23) (fst := []) (caps := []) (ys := [.lst _ _ _, .lst _ _ _]) rfl rfl (spec_mvalid sv jobs s4 s5 s6) zk (cL rfl (o_notB rfl (eL (W.ty [(0, .lst _ _ _), (1, .lst _ _ _), (11, .bool _)] rfl (W.cn rfl (fun hc => ?_) (fun hc => ?_)))))))
 have hv := hv.1 hc
 refine W.rL (cL rfl (zZq (v := .nilS) rfl (aI rfl rfl (eL (W.ty [(4, .nilS), (5, .int _ _)] rfl (W.ret (zZr (rt (rt_t (v := .nilS) rfl (rt_t (v := .int _ _) rfl (rt_n (⟨_, rs_tup 5 _ (Wks.cons (rs_nil _ _ _ _ rfl) (Wks.cons (zY _ _ _ _) zk)), [], (230 : Int), rfl, hv⟩))))))))))))
 have hv := hv.2 hc
 refine W.skip (zZ (W.ty [(0, .lst _ _ _), (1, .lst _ _ _)] rfl ?_))
 obtain ⟨s7, hv⟩ := hv
 refine W.rLmT ⟨35, look [(0, .lst true sv.length (zYy zYx sv)), (1, .lst true jobs.length (zYy (e42 true) jobs)), (6, .ref false 0 ((List.replicate (jobs.length : Int).toNat ([] : (List Vis))).length))], [nstR 43 1 (List.replicate (jobs.length : Int).toNat ([] : (List Vis)))] ++ nstT 36 3 e36 (List.replicate (jobs.length : Int).toNat ([] : (List Vis))), 0⟩ ?_ ?_
 refine mL rfl rfl (cL rfl (zXw (v := .lst _ _ _) tt26 rfl rfl (cL rfl (o_mkS (p := 0) (en := eU1) (x0 := ()) tt28 tt43 rfl rfl rfl (fun _ => rfl) rfl s7 rfl ?_))))
 refine cL rfl (zZq (v := .ref _ _ _) rfl (eL (to_nstM (t := 36) (sz := 3) (en := e36) (n := (jobs.length : Int).toNat) [some (.inl 0)] (a := 1) rfl rfl ⟨Ren.lst _ _ _, Ren.lst _ _ _, Ren.refL (gM_inl rfl) id (by simp), trivial⟩ ⟨.inr ⟨_, rfl, (ren_nstM rfl rfl)⟩, trivial⟩)))
 refine W.seq' ?_
 obtain ⟨s15, hv⟩ := hv
 refine W.rHmT ⟨35, look [(6, .ref false 0 ((List.replicate (jobs.length : Int).toNat ([] : (List Vis))).length)), (17, .chn 1)], [nstR 43 2 (List.replicate (jobs.length : Int).toNat ([] : (List Vis))), .chan 144 true (encC e77 (runM sv jobs))] ++ nstT 36 3 e36 (List.replicate (jobs.length : Int).toNat ([] : (List Vis))), 0⟩ ?_ ?_
 iterate 2 refine cH rfl (zZp (v := .lst _ _ _) rfl ?_)
 refine cHc rfl (callH_C1 (xs := _) (spec_run sv jobs s15) zk (flatC_enc (fun _ => rfl) _ _ _) (nst_len rfl) ?_)
 refine eH (to_nst enc36 rfl [some (.inl 0), some (.inr 0)] (a := 1) (n := (List.replicate (jobs.length : Int).toNat ([] : (List Vis))).length) rfl rfl rfl ⟨Ren.ref (gS_inl rfl) id, Ren.chn (gS_in0 rfl), trivial⟩ ⟨.inr ⟨_, rfl, (ren_nstR rfl rfl)⟩, .inr ⟨_, rfl, ⟨rfl, rfl, Rens.encC (fun _ => rfl) _ _⟩⟩, trivial⟩)
 refine W.block ?_
 obtain ⟨I1, μ1, hp, hv⟩ := hv
 refine W.loop2 (fun r0 r1 => ⟨35, look [(6, .ref false 0 r0.length), (17, .chn 1)], [nstR 43 2 r0, .chan 144 true (encC e77 r1)] ++ nstT 36 3 e36 r0, 0⟩) I1 μ1 (List.replicate (jobs.length : Int).toNat ([] : (List Vis))) (runM sv jobs) (to_nst0 enc36 rfl [some (.inl 0), some (.inl 1)] (a := 2) (n := (List.replicate (jobs.length : Int).toNat ([] : (List Vis))).length) rfl rfl rfl ⟨Ren.refL (gS_inl rfl) id (by simp), Ren.chn (gS_inl rfl), trivial⟩ ⟨.inr ⟨_, rfl, (ren_nstR rfl rfl)⟩, .inr ⟨_, rfl, rfl, rfl, Rens.encC (fun _ => rfl) _ _⟩, trivial⟩) hp ?_
 clear hp
 intro r0 r1 hI
 replace hv := hv r0 r1 hI
 clear hI
 refine W.rcv (e := e77) (xs := r1) tt74 tt77 rfl rfl rfl rfl ?_ ?_
 intro y ys hc
 have hv := hv.1 y ys hc
 refine cL rfl (o_ext (v := .bool _) rfl rfl (eL (W.tz [(6, .ref _ _ _), (17, .chn _), (18, .tup _), (19, .bool _)] ([nstR _ _ _, .chan _ _ _] ++ nstT _ _ _ _) rfl rfl (W.seq' (W.cT rfl (W.skip (zZ (W.tz [(6, .ref _ _ _), (17, .chn _), (18, .tup _)] ([nstR _ _ _, .chan _ _ _] ++ nstT _ _ _ _) rfl rfl (W.block (W.rLmT ⟨35, look [(6, .ref false 0 r0.length), (7, .ptr 2 0), (17, .chn 1)], [nstR 43 3 r0, .chan 144 true (encC e77 ys), .box 77 [.int .i64 y.j, .int .i64 y.v.rd, .int .i64 y.v.st, .int .i64 y.v.en]] ++ nstT 36 3 e36 r0, 0⟩ ?_ ?_))))))))))
 refine cL rfl (o_ext (v := .agg _) rfl rfl (cL rfl (zXy (p := (2 + r0.length)) tt77 (nst_len rfl) rfl (cLn (o_stB (v := .agg _) (vs := [.int _ _, .int _ _, .int _ _, .int _ _]) (cs2 := [.int _ _, .int _ _, .int _ _, .int _ _]) tt77 rfl rfl rfl rfl (nst_new rfl) (Nat.le_of_ble_eq_true rfl) rfl (eL (to_nstS enc36 rfl [some (.inl 0), some (.inl 1), some (.inr 0)] (a := 2) (n := r0.length) rfl rfl rfl ⟨Ren.ref (gS_inl rfl) id, Ren.ptr (gS_in0 rfl), Ren.chn (gS_inl rfl), trivial⟩ ⟨.inr ⟨_, rfl, (ren_nstR rfl rfl)⟩, .inr ⟨_, rfl, ⟨rfl, rfl, Rens.encC (fun _ => rfl) _ _⟩⟩, .inr ⟨_, rfl, ⟨rfl, zR rfl⟩⟩, trivial⟩)))))))
 obtain ⟨s20, s21, hv⟩ := hv
 refine W.rPmT1 ⟨35, look [(6, .ref false 0 ((r0.set y.j.toNat ((lat r0 y.j) ++ [y.v])).length)), (17, .chn 1)], [nstR 43 3 (r0.set y.j.toNat ((lat r0 y.j) ++ [y.v])), .chan 144 true (encC e77 ys), .dead] ++ nstT 36 3 e36 (r0.set y.j.toNat ((lat r0 y.j) ++ [y.v])), 0⟩ [0, 1, 3, 4, 5, 6, 7, 8, 9, 10, 11, 2, 12, 13] (by decide +kernel) rfl ?_ ?_
 refine cL rfl (zZp (v := .ref _ _ _) rfl (cL rfl (o_fa tt77 rfl tt3 rfl (cL rfl (zZp (v := .ref _ _ _) rfl (cL rfl (o_fa tt77 rfl tt3 rfl (cL rfl (zZx (v := .int _ _) tt3 rfl rfl ⟨_, rfl⟩ (cL rfl (o_iaR tt28 tt43 rfl rfl s20 (cL rfl (zZx (v := .ref _ _ _) tt43 rfl rfl (nst_ca (A := []) (vs := r0) (i := y.j) rfl s20) (cL rfl (o_fa tt77 rfl tt36 rfl (cL rfl (zYp (cs := [.int _ _, .int _ _, .int _ _]) tt36 rfl rfl ⟨_, rfl⟩ rfl (cL rfl (o_bs1 (v := .agg _) (q := (3 + r0.length)) tt43 tt36 rfl rfl rfl rfl rfl (nst_len rfl) rfl rfl (cL rfl (o_apR (p := 3 + r0.length + 1) (q := (lat r0 y.j).length + 1) tt43 tt36 rfl rfl (src_ref (nst_new rfl) rfl) rfl (nst_row rfl rfl s20) (zYw (enc36.wd false) _) (by have := s21; simp at this; omega) (nst_len1 rfl) rfl (encL_app e36 (lat r0 y.j) [y.v]) (cL rfl (zZx (v := .int _ _) tt3 rfl rfl ⟨_, nst_cl rfl rfl⟩ (cL rfl (o_iaR tt28 tt43 rfl rfl s20 (cLn (o_stR (v := .ref _ _ _) (vs := [.ref _ _ _]) tt43 rfl rfl rfl rfl (nst_low rfl rfl) (cellsN_in (k := 0) (nst_wd _ _) (show y.j.toNat < r0.length by have := s20; omega) (Nat.le_refl _)) (cellsN_spl (k := 0) (nst_wd _ _) (show y.j.toNat < r0.length by have := s20; omega) (Nat.le_refl _)) (eL (⟨rfl, ?_⟩)))))))))))))))))))))))))))))
 exact to_nstA enc36 rfl (a := 3) (n := r0.length) rfl rfl (show y.j.toNat < r0.length by have := s20; omega) rfl (by simp) rfl ⟨Ren.refL (gA_lt rfl) id (by simp), Ren.chn (gA_lt rfl), trivial⟩ ⟨.inr (ren_nstA rfl (show y.j.toNat < r0.length by have := s20; omega) rfl (by simp)), .inr ⟨rfl, rfl, Rens.encC (fun _ => rfl) _ _⟩, .inl rfl, trivial⟩
 exact zYv (zZ (⟨(), (r0.set y.j.toNat ((lat r0 y.j) ++ [y.v])), ys, hv, to_nst0 enc36 rfl [some (.inl 0), some (.inl 1)] (a := 3) (n := (r0.set y.j.toNat ((lat r0 y.j) ++ [y.v])).length) rfl rfl rfl ⟨Ren.refL (gS_inl rfl) id (by simp), Ren.chn (gS_inl rfl), trivial⟩ ⟨.inr ⟨_, rfl, (ren_nstR rfl rfl)⟩, .inr ⟨_, rfl, rfl, rfl, Rens.encC (fun _ => rfl) _ _⟩, trivial⟩⟩))
 intro hc
 have hv := hv.2 hc
 refine cL rfl (o_ext (v := .bool _) rfl rfl (eL (W.tz [(6, .ref _ _ _), (17, .chn _), (18, .tup _), (19, .bool _)] ([nstR _ _ _, .chan _ _ _] ++ nstT _ _ _ _) rfl rfl (W.seq' (W.cF rfl (W.exit (zZt (zZt (zYs (zZ (W.tz [(6, .ref _ _ _)] ([nstR _ _ _, .chan _ _ _] ++ nstT _ _ _ _) rfl rfl (W.rL (cL rfl (zZp (v := .ref _ _ _) rfl (cL rfl (zZq (v := .ref _ _ _) rfl (aI rfl rfl (eL (W.tz [(4, .ref _ _ _), (5, .int _ _)] ([nstR _ _ _, .chan _ _ _] ++ nstT _ _ _ _) rfl rfl (W.ret (rt (rt_t (v := .ref _ _ _) rfl (rt_t (v := .int _ _) rfl (rt_n (⟨_, rs_tup 5 _ (Wks.cons (rs_nst 2 enc36 false rfl rfl rfl) (Wks.cons (zY _ _ _ _) zk)), r0, (0 : Int), rfl, hv⟩)))))))))))))))))))))))))
set_option maxHeartbeats 4000000 in
theorem vcp_mrun (sv : (List Int)) (jobs : (List Job)) (h0 : sv.length <= 9223372036854775807) (h1 : ∀ j ∈ jobs, j.wk.length <= 9223372036854775807) (h2 : jobs.length <= 9223372036854775807) : vc_mrun sv jobs (fun q0 q1 => q0 = (runR sv jobs).1 /\ q1 = (runR sv jobs).2) := by
  unfold vc_mrun
  refine ⟨h0, h1, h2, fun k => by unfold runR; rw [if_neg k]; exact ⟨rfl, rfl⟩, fun k => ?_⟩
  have hv : validJ sv jobs = true := Decidable.not_not.1 k
  have hj := (job_ok hv).1
  have hl := runM_len hv
  refine ⟨⟨by omega, by omega⟩, hv, fun out l => ∃ D, D ++ l = runM sv jobs /\ out = rowsM jobs.length D, fun _ l => l.length, ⟨[], rfl, by rw [rowsM_nil]; rfl⟩, ?_⟩
  rintro _ l ⟨D, hD, rfl⟩
  refine ⟨?_, ?_⟩
  . rintro y ys rfl
    have hy := (runM_bound hv y (by rw [<- hD]; simp)).1
    obtain ⟨i, hi⟩ : ∃ i : Nat, y.j = i := ⟨y.j.toNat, by omega⟩
    have hil : i < jobs.length := by omega
    have hr : (lat (rowsM jobs.length D) (i : Int)).length <= 144 := by
      rw [rowsM_lat _ hil, List.length_map]
      have h1 := List.length_filter_le (fun d : Dn => decide (d.j = (i : Int))) D
      have h2 : D.length <= (runM sv jobs).length := by rw [<- hD]; simp
      omega
    rw [hi]
    refine ⟨⟨by omega, by rw [rowsM_len]; omega⟩, by simp; omega, ⟨D ++ [y], by rw [List.append_assoc]; exact hD, ?_⟩, by simp⟩
    rw [rowsM_snoc D hil hi, Int.toNat_natCast]
  . rintro rfl
    rw [List.append_nil] at hD
    subst hD
    unfold runR
    rw [if_pos hv]
    exact ⟨rfl, rfl⟩
theorem spec_mrun (sv : (List Int)) (jobs : (List Job)) (h0 : sv.length <= 9223372036854775807) (h1 : ∀ j ∈ jobs, j.wk.length <= 9223372036854775807) (h2 : jobs.length <= 9223372036854775807) : FnP Try.prog 12 [.lst true sv.length (zYy zYx sv), .lst true jobs.length (zYy (e42 true) jobs)] (fun xR => xR = .tup [.lst false ((runR sv jobs).1).length (zYy (eSl e36 true) ((runR sv jobs).1)), .int .i64 ((runR sv jobs).2)]) :=
  (walk_mrun (vcp_mrun sv jobs h0 h1 h2)).mono (by rintro _ ⟨_, _, rfl, rfl, rfl⟩; rfl)
def vc_busy (sv : (List Int)) (jobs : (List Job)) (s : Int) (fr : Int) (to : Int) (Post : Int -> Int -> Prop) : Prop :=
  ((sv.length <= 9223372036854775807) /\ (∀ j ∈ jobs, j.wk.length <= 9223372036854775807) /\ (jobs.length <= 9223372036854775807) /\ ((¬ ((validJ sv jobs) = true)) -> True) /\ (¬ (¬ ((validJ sv jobs) = true)) -> (inI ((sv.length : Int) - (1 : Int))) /\ True)) /\ ((((¬ ((validJ sv jobs) = true)) \/ ((¬ ((inM s (0 : Int) ((sv.length : Int) - (1 : Int))) = true)) \/ ((¬ ((inM fr (0 : Int) to) = true)) \/ ((1125899906842624 : Int) < to)))) -> Post (0 : Int) (230 : Int)) /\ (¬ ((¬ ((validJ sv jobs) = true)) \/ ((¬ ((inM s (0 : Int) ((sv.length : Int) - (1 : Int))) = true)) \/ ((¬ ((inM fr (0 : Int) to) = true)) \/ ((1125899906842624 : Int) < to)))) -> (0 <= (jobs.length : Int) /\ (jobs.length : Int) <= 1073741824) /\ (validJ sv jobs = true) /\ ∃ (I1 : Int -> List Int -> List Dn -> Prop) (μ1 : Int -> List Int -> List Dn -> Nat), I1 (0 : Int) (List.replicate (jobs.length : Int).toNat ((0 : Int) : Int)) (runM sv jobs) /\ ∀ (v12 : Int) (r0 : List Int) (r1 : List Dn), I1 v12 r0 r1 -> (∀ (y : Dn) (ys : List Dn), r1 = y :: ys -> ∃ J2 : Int -> Prop, (∀ (v12_1 : Int), J2 v12_1 -> (0 <= y.j /\ y.j < (r0.length : Int)) /\ (inI ((lat r0 y.j) + (1 : Int))) /\ (0 <= y.j /\ y.j < (r0.length : Int)) /\ (I1 v12_1 (r0.set y.j.toNat ((lat r0 y.j) + (1 : Int))) ys /\ μ1 v12_1 (r0.set y.j.toNat ((lat r0 y.j) + (1 : Int))) ys < μ1 v12 r0 r1)) /\ ((0 <= y.j /\ y.j < (jobs.length : Int)) /\ (0 <= y.j /\ y.j < (r0.length : Int)) /\ (0 <= (lat r0 y.j) /\ (lat r0 y.j) < (((lat jobs y.j).wk).length : Int)) /\ (((lat ((lat jobs y.j).wk) (lat r0 y.j)).st = s) -> (inI ((min y.v.en to) - (max y.v.st fr))) /\ (inI (v12 + (max (0 : Int) ((min y.v.en to) - (max y.v.st fr))))) /\ J2 (v12 + (max (0 : Int) ((min y.v.en to) - (max y.v.st fr))))) /\ (¬ ((lat ((lat jobs y.j).wk) (lat r0 y.j)).st = s) -> J2 v12))) /\ (r1 = [] -> Post v12 (0 : Int))))
theorem walk_busy {sv : (List Int)} {jobs : (List Job)} {s : Int} {fr : Int} {to : Int} {Post : Int -> Int -> Prop} (hv : vc_busy sv jobs s fr to Post) : FnP Try.prog 15 [.lst true sv.length (zYy zYx sv), .lst true jobs.length (zYy (e42 true) jobs), .int .i64 s, .int .i64 fr, .int .i64 to] (fun x => ∃ q0 q1, x = .tup [.int .i64 q0, .int .i64 q1] /\ Post q0 q1) := by
 refine FnP.of_walk (T := tt) (nt := 84) ttOk ttMix ⟨⟨Try.f15, Try.func15, rfl, rfl, rfl, rfl⟩⟩ (by simp) ?_
 unfold vc_busy at hv
 change W _ _ _ ⟨84, look [(0, .lst true sv.length (zYy zYx sv)), (1, .lst true jobs.length (zYy (e42 true) jobs)), (2, .int .i64 s), (3, .int .i64 fr), (4, .int .i64 to)], [], 0⟩ _
 refine W.ty [(0, .lst _ _ _), (1, .lst _ _ _), (2, .int _ _), (3, .int _ _), (4, .int _ _)] rfl (W.rL ?_)
 iterate 2 refine aI rfl rfl ?_
 refine eL (W.ty [(0, .lst _ _ _), (1, .lst _ _ _), (2, .int _ _), (3, .int _ _), (4, .int _ _)] rfl (W.seq' ?_))
 obtain ⟨sd, hv⟩ := hv
 refine W.rLm ⟨84, look [(0, .lst true sv.length (zYy zYx sv)), (1, .lst true jobs.length (zYy (e42 true) jobs)), (2, .int .i64 s), (3, .int .i64 fr), (4, .int .i64 to), (36, .bool (decide ((¬ ((validJ sv jobs) = true)) \/ ((¬ ((inM s (0 : Int) ((sv.length : Int) - (1 : Int))) = true)) \/ ((¬ ((inM fr (0 : Int) to) = true)) \/ ((1125899906842624 : Int) < to))))))], [], 0⟩ ?_ ?_
 iterate 2 refine mL rfl rfl ?_
 obtain ⟨s13, s14, s15, sd⟩ := sd
 refine cL rfl (zZu (k := 23) (fst := []) (caps := []) (ys := [.lst _ _ _, .lst _ _ _]) rfl rfl (spec_mvalid sv jobs s13 s14 s15) zk (cL rfl (o_notB rfl (mB rfl rfl ?_))))
 by_cases c1 : ¬ ((validJ sv jobs) = true)
 iterate 6 refine cLs rfl rfl rfl (dT c1) ?_
 refine cL rfl (zZv (v := .bool _) rfl (dT c1) rfl (mB rfl rfl ?_))
 iterate 4 refine cLs rfl rfl rfl (rfl) ?_
 refine cL rfl (zZv (v := .bool _) rfl rfl rfl (mB rfl rfl ?_))
 iterate 2 refine cLs rfl rfl rfl (rfl) ?_
 refine cL rfl (zZv (v := .bool _) rfl rfl rfl (eL (zYz ⟨rfl, rfl, rfl, rfl, rfl, (congrArg AV.bool (dOrT c1)).symm, trivial⟩ rfl)))
 have sd := sd.2 c1
 refine cLg rfl rfl (dF c1) (mI rfl rfl (cLg rfl rfl (dF c1) (mL rfl rfl (cLg rfl rfl (dF c1) (cL rfl (zXw (v := .lst _ _ _) tt24 rfl rfl (cLg rfl rfl (dF c1) ?_)))))))
 obtain ⟨s16, sd⟩ := sd
 refine cL rfl (o_sub rfl rfl s16 (cLg rfl rfl (dF c1) (cL rfl (zZu (k := 37) (fst := []) (caps := []) (ys := [.int _ _, .int _ _, .int _ _]) rfl rfl (spec_inr s (0 : Int) ((sv.length : Int) - (1 : Int))) zk (cLg rfl rfl (dF c1) (cL rfl (o_notB rfl (cL rfl (zZy (v := .bool _) rfl (dF c1) rfl (mB rfl rfl ?_))))))))))
 by_cases c2 : ¬ ((inM s (0 : Int) ((sv.length : Int) - (1 : Int))) = true)
 iterate 4 refine cLs rfl rfl rfl (dT c2) ?_
 refine cL rfl (zZv (v := .bool _) rfl (dT c2) rfl (mB rfl rfl ?_))
 iterate 2 refine cLs rfl rfl rfl (rfl) ?_
 refine cL rfl (zZv (v := .bool _) rfl rfl rfl (eL (zYz ⟨rfl, rfl, rfl, rfl, rfl, (congrArg AV.bool (dOrF c1 (dOrT c2))).symm, trivial⟩ rfl)))
 refine cLg rfl rfl (dF c2) (mI rfl rfl (cLg rfl rfl (dF c2) (mI rfl rfl (cLg rfl rfl (dF c2) (cL rfl (zZu (k := 37) (fst := []) (caps := []) (ys := [.int _ _, .int _ _, .int _ _]) rfl rfl (spec_inr fr (0 : Int) to) zk (cLg rfl rfl (dF c2) (cL rfl (o_notB rfl (cL rfl (zZy (v := .bool _) rfl (dF c2) rfl (mB rfl rfl ?_))))))))))))
 by_cases c3 : ¬ ((inM fr (0 : Int) to) = true)
 iterate 2 refine cLs rfl rfl rfl (dT c3) ?_
 refine cL rfl (zZv (v := .bool _) rfl (dT c3) rfl (eL (zYz ⟨rfl, rfl, rfl, rfl, rfl, (congrArg AV.bool (dOrF c1 (dOrF c2 (dOrT c3)))).symm, trivial⟩ rfl)))
 refine cLg rfl rfl (dF c3) (mI rfl rfl (cLg rfl rfl (dF c3) (cL rfl (o_gtr rfl rfl (cL rfl (zZy (v := .bool _) rfl (dF c3) rfl (eL (zYz ⟨rfl, rfl, rfl, rfl, rfl, (congrArg AV.bool (dOrF c1 (dOrF c2 (dOrF c3 (rfl))))).symm, trivial⟩ rfl))))))))
 refine W.cn rfl (fun hc => ?_) (fun hc => ?_)
 have hv := hv.1 hc
 refine W.rL ?_
 iterate 2 refine aI rfl rfl ?_
 refine eL (W.ty [(10, .int _ _), (11, .int _ _)] rfl (W.ret (zZr (rt ?_))))
 iterate 2 refine rt_t (v := .int _ _) rfl ?_
 refine rt_n (⟨_, rs_tup 5 _ (Wks.cons (zY _ _ _ _) (Wks.cons (zY _ _ _ _) zk)), (0 : Int), (230 : Int), rfl, hv⟩)
 have hv := hv.2 hc
 refine W.skip (zZ (W.ty [(0, .lst _ _ _), (1, .lst _ _ _), (2, .int _ _), (3, .int _ _), (4, .int _ _)] rfl (W.rL (aI rfl rfl (eL (W.ty [(0, .lst _ _ _), (1, .lst _ _ _), (2, .int _ _), (3, .int _ _), (4, .int _ _), (12, .int _ _)] rfl (W.rL (mL rfl rfl (cL rfl (zXw (v := .lst _ _ _) tt26 rfl rfl ?_))))))))))
 obtain ⟨s17, hv⟩ := hv
 refine cL rfl (o_mkS (p := 0) (x0 := ((0 : Int) : Int)) tt24 tt3 rfl rfl rfl (zZw.wd false) rfl s17 rfl (cL rfl (zZq (v := .ref _ _ _) rfl (eL (W.ty [(0, .lst _ _ _), (1, .lst _ _ _), (2, .int _ _), (3, .int _ _), (4, .int _ _), (12, .int _ _), (13, .ref _ _ _)] rfl (W.seq' (W.rH ?_)))))))
 iterate 2 refine cH rfl (zZp (v := .lst _ _ _) rfl ?_)
 obtain ⟨s58, hv⟩ := hv
 refine cHc rfl (callH_C1 (xs := _) (spec_run sv jobs s58) zk (flatC_enc (fun _ => rfl) _ _ _) rfl ?_)
 refine eH (W.ty [(1, .lst _ _ _), (2, .int _ _), (3, .int _ _), (4, .int _ _), (12, .int _ _), (13, .ref _ _ _), (42, .chn _)] rfl (W.block ?_))
 obtain ⟨I1, μ1, hp, hv⟩ := hv
 refine W.loop3 (fun v12 r0 r1 => ⟨84, look [(1, .lst true jobs.length (zYy (e42 true) jobs)), (2, .int .i64 s), (3, .int .i64 fr), (4, .int .i64 to), (12, .int .i64 v12), (13, .ref false 0 r0.length), (42, .chn 1)], [.row 3 1 (zYy zYx r0), .chan 144 true (encC e77 r1)], 0⟩) I1 μ1 (0 : Int) (List.replicate (jobs.length : Int).toNat ((0 : Int) : Int)) (runM sv jobs) (St.to_mk (φ := [some 0, some 1]) rfl (rfl) ⟨Ren.lst _ _ _, Ren.int _ _, Ren.int _ _, Ren.int _ _, Ren.int _ _, Ren.refL rfl id (by simp), Ren.chn rfl, trivial⟩ ⟨zE zZw false (List.replicate (jobs.length : Int).toNat ((0 : Int) : Int)) rfl, .inr ⟨_, rfl, rfl, rfl, Rens.encC (fun _ => rfl) _ _⟩, trivial⟩) hp ?_
 clear hp
 intro v12 r0 r1 hI
 replace hv := hv v12 r0 r1 hI
 clear hI
 refine W.rcv (e := e77) (xs := r1) tt74 tt77 rfl rfl rfl rfl ?_ ?_
 intro y ys hc
 have hv := hv.1 y ys hc
 refine cL rfl (o_ext (v := .bool _) rfl rfl (eL (W.ty [(1, .lst _ _ _), (2, .int _ _), (3, .int _ _), (4, .int _ _), (12, .int _ _), (13, .ref _ _ _), (42, .chn _), (43, .tup _), (44, .bool _)] rfl (W.seq' (W.cT rfl (W.skip (zZ (W.ty [(1, .lst _ _ _), (2, .int _ _), (3, .int _ _), (4, .int _ _), (12, .int _ _), (13, .ref _ _ _), (42, .chn _), (43, .tup _)] rfl (W.block (W.rL (cL rfl (o_ext (v := .agg _) rfl rfl (cL rfl (zXy (p := 2) tt77 rfl rfl (cLn (o_stB (v := .agg _) (vs := [.int _ _, .int _ _, .int _ _, .int _ _]) (cs2 := [.int _ _, .int _ _, .int _ _, .int _ _]) tt77 rfl rfl rfl rfl rfl (Nat.le_of_ble_eq_true rfl) rfl (eL (W.ty [(1, .lst _ _ _), (2, .int _ _), (3, .int _ _), (4, .int _ _), (12, .int _ _), (13, .ref _ _ _), (14, .ptr _ _), (42, .chn _)] rfl ?_))))))))))))))))))
 obtain ⟨J2, hj, hv⟩ := hv
 refine W.mid1 (fun v12_1 => ⟨84, look [(1, .lst true jobs.length (zYy (e42 true) jobs)), (2, .int .i64 s), (3, .int .i64 fr), (4, .int .i64 to), (12, .int .i64 v12_1), (13, .ref false 0 r0.length), (14, .ptr 2 0), (42, .chn 1)], [.row 3 1 (zYy zYx r0), .chan 144 true (encC e77 ys), .box 77 [.int .i64 y.j, .int .i64 y.v.rd, .int .i64 y.v.st, .int .i64 y.v.en]], 0⟩) J2 ?_ ?_
 intro v12_1
 intro hv
 replace hv := hj v12_1 hv
 refine W.rL1 (cL rfl (zZp (v := .ref _ _ _) rfl (cL rfl (o_fa tt77 rfl tt3 rfl (cL rfl (zZx (v := .int _ _) tt3 rfl rfl ⟨_, rfl⟩ ?_))))))
 obtain ⟨s90, hv⟩ := hv
 refine cL rfl (o_iaR tt24 tt3 rfl rfl s90 (cL rfl (zZx (v := .int _ _) tt3 rfl rfl (cell_of (ca_row (xs := r0) rfl (zZw.wd false) s90) rfl) ?_)))
 obtain ⟨s91, hv⟩ := hv
 refine cL rfl (o_add rfl rfl s91 ?_)
 obtain ⟨s92, hv⟩ := hv
 refine cL rfl (o_iaR tt24 tt3 rfl rfl s92 (cLn (o_stR (v := .int _ _) tt3 rfl rfl rfl rfl rfl (row_in (xs := r0) (zZw.wd false) s92 rfl) (row_set (e := zYx) (zZw.wd false) _ _ ((lat r0 y.j) + (1 : Int)) rfl s92.1 s92.2) (eL (zYv (zZ (⟨(), v12_1, (r0.set y.j.toNat ((lat r0 y.j) + (1 : Int))), ys, hv, St.to_mk (φ := [some 0, some 1]) rfl (rfl) ⟨Ren.lst _ _ _, Ren.int _ _, Ren.int _ _, Ren.int _ _, Ren.int _ _, Ren.refL rfl id (by simp), Ren.chn rfl, trivial⟩ ⟨zE zZw false (r0.set y.j.toNat ((lat r0 y.j) + (1 : Int))) rfl, .inr ⟨_, rfl, rfl, rfl, Rens.encC (fun _ => rfl) _ _⟩, trivial⟩⟩)))))))
 clear hj
 refine W.rD [0, 1, 2, 3, 4, 5, 6, 7, 8, 9, 10, 11, 12, 13, 14, 15] (by decide +kernel) rfl (mL rfl rfl (cL rfl (o_fa tt77 rfl tt3 rfl (cL rfl (zZx (v := .int _ _) tt3 rfl rfl ⟨_, rfl⟩ ?_)))))
 obtain ⟨s93, hv⟩ := hv
 refine cL rfl (zYu tt26 tt42 rfl rfl (enc42.wd true) rfl s93 ?_)
 intro rest93
 refine cL rfl (o_faP tt42 rfl tt40 rfl (cL rfl (zZx (v := .lst _ _ _) tt40 rfl rfl ⟨_, rfl⟩ (cL rfl (zZp (v := .ref _ _ _) rfl (cL rfl (o_fa tt77 rfl tt3 rfl (cL rfl (zZx (v := .int _ _) tt3 rfl rfl ⟨_, rfl⟩ ?_)))))))))
 obtain ⟨s94, hv⟩ := hv
 refine cL rfl (o_iaR tt24 tt3 rfl rfl s94 (cL rfl (zZx (v := .int _ _) tt3 rfl rfl (cell_of (ca_row (xs := r0) rfl (zZw.wd false) s94) rfl) ?_)))
 obtain ⟨s95, hv⟩ := hv
 refine cL rfl (zYu tt40 tt45 rfl rfl (enc45.wd true) rfl s95 ?_)
 intro rest95
 refine cL rfl (o_faP tt45 rfl tt3 rfl (cL rfl (zZx (v := .int _ _) tt3 rfl rfl ⟨_, rfl⟩ (mI rfl rfl (cL rfl (o_eqI rfl rfl rfl (eL (W.ty [(1, .lst _ _ _), (2, .int _ _), (3, .int _ _), (4, .int _ _), (12, .int _ _), (13, .ref _ _ _), (14, .ptr _ _), (42, .chn _), (61, .bool _)] rfl (W.cn rfl (fun hc => ?_) (fun hc => ?_))))))))))
 have hv := hv.1 hc
 refine W.rL1 (mI rfl rfl (cL rfl (o_fa tt77 rfl tt36 rfl (cL rfl (o_fa tt36 rfl tt3 rfl (cL rfl (zZx (v := .int _ _) tt3 rfl rfl ⟨_, rfl⟩ (mI rfl rfl (cL rfl (o_min rfl rfl (cL rfl (o_fa tt77 rfl tt36 rfl (cL rfl (o_fa tt36 rfl tt3 rfl (cL rfl (zZx (v := .int _ _) tt3 rfl rfl ⟨_, rfl⟩ (mI rfl rfl (cL rfl (o_max rfl rfl ?_)))))))))))))))))))
 obtain ⟨s96, hv⟩ := hv
 refine cL rfl (o_sub rfl rfl s96 (cL rfl (o_max rfl rfl ?_)))
 obtain ⟨s97, hv⟩ := hv
 refine cL rfl (o_add rfl rfl s97 (aI rfl rfl (eL (zZ (⟨(), (v12 + (max (0 : Int) ((min y.v.en to) - (max y.v.st fr)))), hv, St.to_mk (φ := [some 0, some 1, some 2]) rfl (rfl) ⟨Ren.lst _ _ _, Ren.int _ _, Ren.int _ _, Ren.int _ _, Ren.int _ _, Ren.ref rfl id, Ren.ptr rfl, Ren.chn rfl, trivial⟩ ⟨zE zZw false r0 rfl, .inr ⟨_, rfl, rfl, rfl, Rens.encC (fun _ => rfl) _ _⟩, (zB rfl rfl), trivial⟩⟩)))))
 have hv := hv.2 hc
 refine W.skip (zZ (⟨(), v12, hv, St.to_mk (φ := [some 0, some 1, some 2]) rfl (rfl) ⟨Ren.lst _ _ _, Ren.int _ _, Ren.int _ _, Ren.int _ _, Ren.int _ _, Ren.ref rfl id, Ren.ptr rfl, Ren.chn rfl, trivial⟩ ⟨zE zZw false r0 rfl, .inr ⟨_, rfl, rfl, rfl, Rens.encC (fun _ => rfl) _ _⟩, (zB rfl rfl), trivial⟩⟩))
 intro hc
 have hv := hv.2 hc
 refine cL rfl (o_ext (v := .bool _) rfl rfl (eL (W.ty [(1, .lst _ _ _), (2, .int _ _), (3, .int _ _), (4, .int _ _), (12, .int _ _), (13, .ref _ _ _), (42, .chn _), (43, .tup _), (44, .bool _)] rfl (W.seq' (W.cF rfl (W.exit (zZt (zZt (zYs (zZ (W.ty [(12, .int _ _)] rfl (W.rL (mI rfl rfl ?_)))))))))))))
 iterate 2 refine aI rfl rfl ?_
 refine eL (W.ty [(10, .int _ _), (11, .int _ _)] rfl (W.ret (rt ?_)))
 iterate 2 refine rt_t (v := .int _ _) rfl ?_
 refine rt_n (⟨_, rs_tup 5 _ (Wks.cons (zY _ _ _ _) (Wks.cons (zY _ _ _ _) zk)), v12, (0 : Int), rfl, hv⟩)
set_option maxHeartbeats 4000000 in
theorem vcp_busy (sv : (List Int)) (jobs : (List Job)) (s : Int) (fr : Int) (to : Int) (h0 : sv.length <= 9223372036854775807) (h1 : ∀ j ∈ jobs, j.wk.length <= 9223372036854775807) (h2 : jobs.length <= 9223372036854775807) : vc_busy sv jobs s fr to (fun q0 q1 => q0 = (busyM sv jobs s fr to).1 /\ q1 = (busyM sv jobs s fr to).2) := by
  have e1 : ∀ n lo hi : Int, (inM n lo hi = true) = (lo <= n /\ n <= hi) := fun n lo hi => by unfold inM; simp
  unfold vc_busy
  simp only [e1]
  refine ⟨⟨h0, h1, h2, fun _ => trivial, fun _ => ⟨by unfold inI; omega, trivial⟩⟩, fun k => ?_, fun k => ?_⟩
  . unfold busyM
    rw [if_neg (fun h => k.elim (fun a => a h.1) fun a => a.elim (fun a => a h.2.1) fun a => a.elim (fun a => a h.2.2.1) fun a => by have := h.2.2.2; omega)]
    exact ⟨rfl, rfl⟩
  have kv : validJ sv jobs = true := Decidable.not_not.1 fun h => k (.inl h)
  have hb : (0 <= s /\ s <= (sv.length : Int) - 1) /\ (0 <= fr /\ fr <= to) /\ to <= 1125899906842624 := by omega
  have hlen := runM_len kv
  have hj := job_ok kv
  refine ⟨⟨by omega, by omega⟩, kv, fun v r l => ∃ D st c, RInv sv jobs c st /\ Rw sv jobs D st /\ l = runN sv jobs (leftM st) st /\ D ++ l = runM sv jobs /\ (r.length = jobs.length /\ ∀ i : Nat, i < jobs.length -> lat r (i : Int) = (lat st.ss i).dn) /\ v = busyL jobs (rowsM jobs.length D) s fr to /\ 0 <= v /\ v <= D.length * 1099511627776, fun _ _ l => l.length, ?_, ?_⟩
  . have hz : ∀ i : Nat, i < jobs.length -> lat (List.replicate (jobs.length : Int).toNat (0 : Int)) (i : Int) = (lat (initM sv jobs).ss i).dn := fun i hi => by
      rw [init_lat hi, lat_get (by simpa using hi)]; simp
    exact ⟨[], initM sv jobs, 0, RInv.init kv, Rw.init, by unfold runM; exact rfl, List.nil_append _, ⟨by simp, hz⟩, (busyL_nil jobs s fr to).symm, Int.le_refl _, by simp⟩
  rintro v r l ⟨D, st, c, R, W, hl, hD, ⟨hrl, hr⟩, hv, hv0, hv1⟩
  refine ⟨?_, ?_⟩
  . rintro y ys rfl
    have hneg : ¬ leastS st.ss < 0 := fun h => by rw [runN_neg h] at hl; cases hl
    obtain ⟨i, g1, g2, g3, g4, g5, g6, g7⟩ := R.go hneg
    rw [g7, runN_pos hneg, g1] at hl
    obtain ⟨hy, hys⟩ := List.cons.inj hl
    have hyb := runM_bound kv y (by rw [<- hD]; simp)
    have hDl : D.length + (ys.length + 1) = (runM sv jobs).length := by rw [<- hD]; simp
    have hdn := W.dn i g2
    have hal := R.al i g2
    have hri := hr i g2
    have hst : (visM sv jobs st i).rd <= (visM sv jobs st i).st := ((g5.vis _).1 (Int.le_refl _)).1
    have hrd : (visM sv jobs st i).rd = (lat st.ss i).rd := rfl
    have h0' := (R.rd i g2).1
    have hen := g5.en
    have so := R.step (i := i) (by rw [R.sl]; exact g2) g3
    have htm := so.tm
    subst hy
    have hW := W.step R g2 g3 g5
    have hB := busyL_step (D := D) (v := visM sv jobs st i) g2 s fr to
    simp only at hyb ⊢
    rw [hri, hdn]
    have hpart : 0 <= partV (visM sv jobs st i) fr to /\ partV (visM sv jobs st i) fr to <= 1099511627776 := by unfold partV; omega
    have hmin : partV (visM sv jobs st i) fr to = max 0 (min (visM sv jobs st i).en to - max (visM sv jobs st i).st fr) := rfl
    have hset : ∀ j : Nat, j < jobs.length -> lat (r.set (i : Int).toNat (((lat (rowsM jobs.length D) (i : Int)).length : Int) + 1)) (j : Int) = (lat (nextM sv jobs st i).ss j).dn := fun j hj' => by
      have := lat_set (l := r) (i := (i : Int)) (j := j) (x := ((lat (rowsM jobs.length D) (i : Int)).length : Int) + 1) ⟨by omega, by omega⟩
      rw [this, g5.ss j]
      by_cases e : j = i
      . rw [if_pos (by omega), if_pos e]
        show _ = (lat st.ss i).dn + 1
        rw [hdn]
      . rw [if_neg (by omega), if_neg e]; exact hr j hj'
    have hD2 : (D ++ [⟨(i : Int), visM sv jobs st i⟩]) ++ ys = runM sv jobs := by rw [List.append_assoc]; exact hD
    have hL2 : (D ++ [(⟨(i : Int), visM sv jobs st i⟩ : Dn)]).length = D.length + 1 := by simp
    have hi1 : (0 <= (i : Int) /\ (i : Int) < (r.length : Int)) := ⟨by omega, by omega⟩
    have hi2 : (0 <= (i : Int) /\ (i : Int) < (jobs.length : Int)) := ⟨by omega, by omega⟩
    have hi3 : (0 <= ((lat (rowsM jobs.length D) (i : Int)).length : Int) /\ ((lat (rowsM jobs.length D) (i : Int)).length : Int) < ((lat jobs (i : Int)).wk.length : Int)) := ⟨by omega, by omega⟩
    have hi4 : inI (((lat (rowsM jobs.length D) (i : Int)).length : Int) + 1) := by have := (hj.2.2 _ (lat_mem (xs := jobs) (i := (i : Int)) hi2)).1; unfold inI; omega
    have hi5 : inI (min (visM sv jobs st i).en to - max (visM sv jobs st i).st fr) := by unfold inI; omega
    have hi6 : inI (v + partV (visM sv jobs st i) fr to) := by unfold inI; omega
    generalize hE : D ++ [(⟨(i : Int), visM sv jobs st i⟩ : Dn)] = E at *
    generalize hT : nextM sv jobs st i = T at *
    refine ⟨fun v' => v' = busyL jobs (rowsM jobs.length E) s fr to /\ 0 <= v' /\ v' <= ((D.length + 1 : Nat) : Int) * 1099511627776, ?_, hi2, hi1, hi3, ?_, ?_⟩
    . rintro v' ⟨j1, j2, j3⟩
      refine ⟨hi1, hi4, hi1, ?_, Nat.lt_succ_self _⟩
      refine ⟨E, T, c + 1, g6, hW, hys, hD2, ⟨by rw [List.length_set]; exact hrl, hset⟩, j1, j2, ?_⟩
      rw [hL2]; exact j3
    . intro k2
      refine ⟨hi5, hi6, ?_⟩
      rw [if_pos k2] at hB
      refine ⟨?_, ?_, ?_⟩
      . rw [hB, hv]; rfl
      . show 0 <= v + partV (visM sv jobs st i) fr to
        omega
      . show v + partV (visM sv jobs st i) fr to <= _
        omega
    . intro k2
      rw [if_neg k2] at hB
      refine ⟨?_, hv0, ?_⟩
      . rw [hB, hv]; omega
      . omega
  . rintro rfl
    rw [List.append_nil] at hD
    subst hD
    unfold busyM
    rw [if_pos ⟨kv, hb⟩]
    refine ⟨?_, rfl⟩
    show v = busyL jobs (runR sv jobs).1 s fr to
    unfold runR
    rw [if_pos kv]; exact hv
theorem spec_busy (sv : (List Int)) (jobs : (List Job)) (s : Int) (fr : Int) (to : Int) (h0 : sv.length <= 9223372036854775807) (h1 : ∀ j ∈ jobs, j.wk.length <= 9223372036854775807) (h2 : jobs.length <= 9223372036854775807) : FnP Try.prog 15 [.lst true sv.length (zYy zYx sv), .lst true jobs.length (zYy (e42 true) jobs), .int .i64 s, .int .i64 fr, .int .i64 to] (fun xR => xR = .tup [.int .i64 ((busyM sv jobs s fr to).1), .int .i64 ((busyM sv jobs s fr to).2)]) :=
  (walk_busy (vcp_busy sv jobs s fr to h0 h1 h2)).mono (by rintro _ ⟨_, _, rfl, rfl, rfl⟩; rfl)
def vc_finish (sv : (List Int)) (jobs : (List Job)) (j : Int) (Post : Int -> Int -> Prop) : Prop :=
  ((sv.length <= 9223372036854775807) /\ (∀ j ∈ jobs, j.wk.length <= 9223372036854775807) /\ (jobs.length <= 9223372036854775807) /\ ((¬ ((validJ sv jobs) = true)) -> True) /\ (¬ (¬ ((validJ sv jobs) = true)) -> (inI ((jobs.length : Int) - (1 : Int))) /\ True)) /\ ((((¬ ((validJ sv jobs) = true)) \/ (¬ ((inM j (0 : Int) ((jobs.length : Int) - (1 : Int))) = true))) -> Post (0 : Int) (230 : Int)) /\ (¬ ((¬ ((validJ sv jobs) = true)) \/ (¬ ((inM j (0 : Int) ((jobs.length : Int) - (1 : Int))) = true))) -> (0 <= j /\ j < (jobs.length : Int)) /\ (validJ sv jobs = true) /\ ∃ (I1 : Int -> List Dn -> Prop) (μ1 : Int -> List Dn -> Nat), I1 ((lat jobs j).ar) (runM sv jobs) /\ ∀ (v8 : Int) (r0 : List Dn), I1 v8 r0 -> (∀ (y : Dn) (ys : List Dn), r0 = y :: ys -> ((y.j = j) -> (I1 y.v.en ys /\ μ1 y.v.en ys < μ1 v8 r0)) /\ (¬ (y.j = j) -> (I1 v8 ys /\ μ1 v8 ys < μ1 v8 r0))) /\ (r0 = [] -> Post v8 (0 : Int))))
theorem walk_finish {sv : (List Int)} {jobs : (List Job)} {j : Int} {Post : Int -> Int -> Prop} (hv : vc_finish sv jobs j Post) : FnP Try.prog 14 [.lst true sv.length (zYy zYx sv), .lst true jobs.length (zYy (e42 true) jobs), .int .i64 j] (fun x => ∃ q0 q1, x = .tup [.int .i64 q0, .int .i64 q1] /\ Post q0 q1) := by
 refine FnP.of_walk (T := tt) (nt := 41) ttOk ttMix ⟨⟨Try.f14, Try.func14, rfl, rfl, rfl, rfl⟩⟩ (by simp) ?_
 unfold vc_finish at hv
 change W _ _ _ ⟨41, look [(0, .lst true sv.length (zYy zYx sv)), (1, .lst true jobs.length (zYy (e42 true) jobs)), (2, .int .i64 j)], [], 0⟩ _
 refine W.ty [(0, .lst _ _ _), (1, .lst _ _ _), (2, .int _ _)] rfl (W.rL ?_)
 iterate 2 refine aI rfl rfl ?_
 refine eL (W.ty [(0, .lst _ _ _), (1, .lst _ _ _), (2, .int _ _)] rfl (W.seq' ?_))
 obtain ⟨sd, hv⟩ := hv
 refine W.rLm ⟨41, look [(0, .lst true sv.length (zYy zYx sv)), (1, .lst true jobs.length (zYy (e42 true) jobs)), (2, .int .i64 j), (21, .bool (decide ((¬ ((validJ sv jobs) = true)) \/ (¬ ((inM j (0 : Int) ((jobs.length : Int) - (1 : Int))) = true)))))], [], 0⟩ ?_ ?_
 iterate 2 refine mL rfl rfl ?_
 obtain ⟨s13, s14, s15, sd⟩ := sd
 refine cL rfl (zZu (k := 23) (fst := []) (caps := []) (ys := [.lst _ _ _, .lst _ _ _]) rfl rfl (spec_mvalid sv jobs s13 s14 s15) zk (cL rfl (o_notB rfl (mB rfl rfl ?_))))
 by_cases c1 : ¬ ((validJ sv jobs) = true)
 iterate 6 refine cLs rfl rfl rfl (dT c1) ?_
 refine cL rfl (zZv (v := .bool _) rfl (dT c1) rfl (eL (zYz ⟨rfl, rfl, rfl, (congrArg AV.bool (dOrT c1)).symm, trivial⟩ rfl)))
 have sd := sd.2 c1
 refine cLg rfl rfl (dF c1) (mI rfl rfl (cLg rfl rfl (dF c1) (mL rfl rfl (cLg rfl rfl (dF c1) (cL rfl (zXw (v := .lst _ _ _) tt26 rfl rfl (cLg rfl rfl (dF c1) ?_)))))))
 obtain ⟨s16, sd⟩ := sd
 refine cL rfl (o_sub rfl rfl s16 (cLg rfl rfl (dF c1) (cL rfl (zZu (k := 37) (fst := []) (caps := []) (ys := [.int _ _, .int _ _, .int _ _]) rfl rfl (spec_inr j (0 : Int) ((jobs.length : Int) - (1 : Int))) zk (cLg rfl rfl (dF c1) (cL rfl (o_notB rfl (cL rfl (zZy (v := .bool _) rfl (dF c1) rfl (eL (zYz ⟨rfl, rfl, rfl, (congrArg AV.bool (dOrF c1 (rfl))).symm, trivial⟩ rfl)))))))))))
 refine W.cn rfl (fun hc => ?_) (fun hc => ?_)
 have hv := hv.1 hc
 refine W.rL ?_
 iterate 2 refine aI rfl rfl ?_
 refine eL (W.ty [(6, .int _ _), (7, .int _ _)] rfl (W.ret (zZr (rt ?_))))
 iterate 2 refine rt_t (v := .int _ _) rfl ?_
 refine rt_n (⟨_, rs_tup 5 _ (Wks.cons (zY _ _ _ _) (Wks.cons (zY _ _ _ _) zk)), (0 : Int), (230 : Int), rfl, hv⟩)
 have hv := hv.2 hc
 refine W.skip (zZ (W.ty [(0, .lst _ _ _), (1, .lst _ _ _), (2, .int _ _)] rfl (W.rL (mL rfl rfl (mI rfl rfl ?_)))))
 obtain ⟨s17, hv⟩ := hv
 refine cL rfl (zYu tt26 tt42 rfl rfl (enc42.wd true) rfl s17 ?_)
 intro rest17
 refine cL rfl (o_faP tt42 rfl tt3 rfl (cL rfl (zZx (v := .int _ _) tt3 rfl rfl ⟨_, rfl⟩ (aI rfl rfl (eL (W.ty [(0, .lst _ _ _), (1, .lst _ _ _), (2, .int _ _), (8, .int _ _)] rfl (W.seq' (W.rH ?_))))))))
 iterate 2 refine cH rfl (zZp (v := .lst _ _ _) rfl ?_)
 obtain ⟨s19, hv⟩ := hv
 refine cHc rfl (callH_C1 (xs := _) (spec_run sv jobs s19) zk (flatC_enc (fun _ => rfl) _ _ _) rfl ?_)
 refine eH (W.ty [(2, .int _ _), (8, .int _ _), (29, .chn _)] rfl (W.block ?_))
 obtain ⟨I1, μ1, hp, hv⟩ := hv
 refine W.loop2 (fun v8 r0 => ⟨41, look [(2, .int .i64 j), (8, .int .i64 v8), (29, .chn 0)], [.chan 144 true (encC e77 r0)], 0⟩) I1 μ1 ((lat jobs j).ar) (runM sv jobs) (St.to_mk (φ := [some 0]) rfl (rfl) ⟨Ren.int _ _, Ren.int _ _, Ren.chn rfl, trivial⟩ ⟨.inr ⟨_, rfl, rfl, rfl, Rens.encC (fun _ => rfl) _ _⟩, trivial⟩) hp ?_
 clear hp
 intro v8 r0 hI
 replace hv := hv v8 r0 hI
 clear hI
 refine W.rcv (e := e77) (xs := r0) tt74 tt77 rfl rfl rfl rfl ?_ ?_
 intro y ys hc
 have hv := hv.1 y ys hc
 refine cL rfl (o_ext (v := .bool _) rfl rfl (eL (W.ty [(2, .int _ _), (8, .int _ _), (29, .chn _), (30, .tup _), (31, .bool _)] rfl (W.seq' (W.cT rfl (W.skip (zZ (W.ty [(2, .int _ _), (8, .int _ _), (29, .chn _), (30, .tup _)] rfl (W.block (W.rL (cL rfl (o_ext (v := .agg _) rfl rfl (cL rfl (zXy (p := 1) tt77 rfl rfl (cLn (o_stB (v := .agg _) (vs := [.int _ _, .int _ _, .int _ _, .int _ _]) (cs2 := [.int _ _, .int _ _, .int _ _, .int _ _]) tt77 rfl rfl rfl rfl rfl (Nat.le_of_ble_eq_true rfl) rfl (eL (W.ty [(2, .int _ _), (8, .int _ _), (9, .ptr _ _), (29, .chn _)] rfl (W.rL (cL rfl (o_fa tt77 rfl tt3 rfl (cL rfl (zZx (v := .int _ _) tt3 rfl rfl ⟨_, rfl⟩ (mI rfl rfl (cL rfl (o_eqI rfl rfl rfl (eL (W.ty [(2, .int _ _), (8, .int _ _), (9, .ptr _ _), (29, .chn _), (36, .bool _)] rfl (W.cn rfl (fun hc => ?_) (fun hc => ?_))))))))))))))))))))))))))))))
 have hv := hv.1 hc
 refine W.rL1 (cL rfl (o_fa tt77 rfl tt36 rfl (cL rfl (o_fa tt36 rfl tt3 rfl (cL rfl (zZx (v := .int _ _) tt3 rfl rfl ⟨_, rfl⟩ (aI rfl rfl (eL (zYv (zZ (⟨(), y.v.en, ys, hv, St.to_mk (φ := [some 0]) rfl (rfl) ⟨Ren.int _ _, Ren.int _ _, Ren.chn rfl, trivial⟩ ⟨.inr ⟨_, rfl, rfl, rfl, Rens.encC (fun _ => rfl) _ _⟩, trivial⟩⟩)))))))))))
 have hv := hv.2 hc
 refine W.skip (zYv (zZ (⟨(), v8, ys, hv, St.to_mk (φ := [some 0]) rfl (rfl) ⟨Ren.int _ _, Ren.int _ _, Ren.chn rfl, trivial⟩ ⟨.inr ⟨_, rfl, rfl, rfl, Rens.encC (fun _ => rfl) _ _⟩, trivial⟩⟩)))
 intro hc
 have hv := hv.2 hc
 refine cL rfl (o_ext (v := .bool _) rfl rfl (eL (W.ty [(2, .int _ _), (8, .int _ _), (29, .chn _), (30, .tup _), (31, .bool _)] rfl (W.seq' (W.cF rfl (W.exit (zZt (zZt (zYs (zZ (W.ty [(8, .int _ _)] rfl (W.rL (mI rfl rfl ?_)))))))))))))
 iterate 2 refine aI rfl rfl ?_
 refine eL (W.ty [(6, .int _ _), (7, .int _ _)] rfl (W.ret (rt ?_)))
 iterate 2 refine rt_t (v := .int _ _) rfl ?_
 refine rt_n (⟨_, rs_tup 5 _ (Wks.cons (zY _ _ _ _) (Wks.cons (zY _ _ _ _) zk)), v8, (0 : Int), rfl, hv⟩)
set_option maxHeartbeats 4000000 in
theorem vcp_finish (sv : (List Int)) (jobs : (List Job)) (j : Int) (h0 : sv.length <= 9223372036854775807) (h1 : ∀ q ∈ jobs, q.wk.length <= 9223372036854775807) (h2 : jobs.length <= 9223372036854775807) : vc_finish sv jobs j (fun q0 q1 => q0 = (finishM sv jobs j).1 /\ q1 = (finishM sv jobs j).2) := by
  have e1 : ∀ n lo hi : Int, (inM n lo hi = true) = (lo <= n /\ n <= hi) := fun n lo hi => by unfold inM; simp
  unfold vc_finish
  simp only [e1]
  refine ⟨⟨h0, h1, h2, fun _ => trivial, fun _ => ⟨by unfold inI; omega, trivial⟩⟩, fun k => ?_, fun k => ?_⟩
  . have : ¬ (validJ sv jobs = true /\ 0 <= j /\ j <= (jobs.length : Int) - 1) := fun h => k.elim (fun k => k h.1) (fun k => k h.2)
    unfold finishM
    rw [if_neg this]
    exact ⟨rfl, rfl⟩
  . have hv : validJ sv jobs = true := Decidable.not_not.1 fun h => k (.inl h)
    have hj : 0 <= j /\ j <= (jobs.length : Int) - 1 := Decidable.not_not.1 fun h => k (.inr h)
    refine ⟨⟨hj.1, by omega⟩, hv, fun o l => endM l j o = endM (runM sv jobs) j (lat jobs j).ar, fun _ l => l.length, rfl, ?_⟩
    rintro o l he
    refine ⟨?_, ?_⟩
    . rintro y ys rfl
      refine ⟨fun k2 => ⟨?_, by simp⟩, fun k2 => ⟨?_, by simp⟩⟩
      . rw [<- he]; unfold endM; rw [List.foldl_cons, if_pos k2]
      . rw [<- he]; unfold endM; rw [List.foldl_cons, if_neg k2]
    . rintro rfl
      unfold finishM
      rw [if_pos ⟨hv, hj⟩]
      exact ⟨he, rfl⟩
theorem spec_finish (sv : (List Int)) (jobs : (List Job)) (j : Int) (h0 : sv.length <= 9223372036854775807) (h1 : ∀ q ∈ jobs, q.wk.length <= 9223372036854775807) (h2 : jobs.length <= 9223372036854775807) : FnP Try.prog 14 [.lst true sv.length (zYy zYx sv), .lst true jobs.length (zYy (e42 true) jobs), .int .i64 j] (fun xR => xR = .tup [.int .i64 ((finishM sv jobs j).1), .int .i64 ((finishM sv jobs j).2)]) :=
  (walk_finish (vcp_finish sv jobs j h0 h1 h2)).mono (by rintro _ ⟨_, _, rfl, rfl, rfl⟩; rfl)
def vc_within (n : Int) (lo : Int) (hi : Int) (Post : Bool -> Prop) : Prop :=
  Post (decide ((lo <= n) /\ (n <= hi)))
theorem walk_within {n : Int} {lo : Int} {hi : Int} {Post : Bool -> Prop} (hv : vc_within n lo hi Post) : FnP Try.prog 53 [.int .i64 n, .int .i64 lo, .int .i64 hi] (fun x => ∃ q0, x = .bool q0 /\ Post q0) := by
 refine FnP.of_walk (T := tt) (nt := 15) ttOk ttMix ⟨⟨Try.f53, Try.func53, rfl, rfl, rfl, rfl⟩⟩ (by simp) ?_
 unfold vc_within at hv
 change W _ _ _ ⟨15, look [(0, .int .i64 n), (1, .int .i64 lo), (2, .int .i64 hi)], [], 0⟩ _
 refine W.ty [(0, .int _ _), (1, .int _ _), (2, .int _ _)] rfl (W.rL (aB rfl rfl (eL (W.ty [(0, .int _ _), (1, .int _ _), (2, .int _ _)] rfl (W.rLm ⟨15, look [(6, .bool (decide ((lo <= n) /\ (n <= hi))))], [], 0⟩ ?_ ?_)))))
 iterate 2 refine mI rfl rfl ?_
 refine cL rfl (o_geq rfl rfl (mB rfl rfl ?_))
 by_cases c1 : lo <= n
 refine cLg rfl rfl (dT c1) (mI rfl rfl (cLg rfl rfl (dT c1) (mI rfl rfl (cLg rfl rfl (dT c1) (cL rfl (o_leq rfl rfl (cL rfl (zZv (v := .bool _) rfl (dT c1) rfl (aB rfl rfl (eL (zYz ⟨(congrArg AV.bool (zXv c1 (rfl))).symm, trivial⟩ rfl)))))))))))
 iterate 3 refine cLs rfl rfl rfl (dF c1) ?_
 refine cL rfl (zZy (v := .bool _) rfl (dF c1) rfl (aB rfl rfl (eL (zYz ⟨(congrArg AV.bool (dAndF c1)).symm, trivial⟩ rfl))))
 refine W.ret (rt (rt_t (v := .bool _) rfl (rt_n (⟨_, zYr _ _ _, (decide ((lo <= n) /\ (n <= hi))), rfl, hv⟩))))
set_option maxHeartbeats 4000000 in
theorem vcp_within (n : Int) (lo : Int) (hi : Int)  : vc_within n lo hi (fun q0 => q0 = (inM n lo hi)) := by
  show decide _ = inM n lo hi
  rfl
theorem spec_within (n : Int) (lo : Int) (hi : Int)  : FnP Try.prog 53 [.int .i64 n, .int .i64 lo, .int .i64 hi] (fun xR => xR = .bool (inM n lo hi)) :=
  (walk_within (vcp_within n lo hi)).mono (by rintro _ ⟨_, rfl, rfl⟩; rfl)
def vc_vfact (x : Fct) (Post : Bool -> Prop) : Prop :=
  ((((inM x.tr (0 : Int) (999 : Int)) = true) -> (((inM x.sp (0 : Int) (9 : Int)) = true) -> (((inM x.se (0 : Int) (7 : Int)) = true) -> (((inM x.ver (0 : Int) (9 : Int)) = true) -> (((inM x.op (0 : Int) (11 : Int)) = true) -> (((inM x.pe (-1 : Int) (19 : Int)) = true) -> (inI (x.tr.tdiv (10 : Int))) /\ True) /\ (¬ ((inM x.pe (-1 : Int) (19 : Int)) = true) -> True)) /\ (¬ ((inM x.op (0 : Int) (11 : Int)) = true) -> True)) /\ (¬ ((inM x.ver (0 : Int) (9 : Int)) = true) -> True)) /\ (¬ ((inM x.se (0 : Int) (7 : Int)) = true) -> True)) /\ (¬ ((inM x.sp (0 : Int) (9 : Int)) = true) -> True)) /\ (¬ ((inM x.tr (0 : Int) (999 : Int)) = true) -> True)) /\ (Post (decide (((inM x.tr (0 : Int) (999 : Int)) = true) /\ (((inM x.sp (0 : Int) (9 : Int)) = true) /\ (((inM x.se (0 : Int) (7 : Int)) = true) /\ (((inM x.ver (0 : Int) (9 : Int)) = true) /\ (((inM x.op (0 : Int) (11 : Int)) = true) /\ (((inM x.pe (-1 : Int) (19 : Int)) = true) /\ ((x.da = x.tr.tdiv (10 : Int)) /\ (((inM x.lo (0 : Int) x.hi) = true) /\ ((x.hi <= (4398046511104 : Int)) /\ ((inM x.by_ (0 : Int) (24000 : Int)) = true))))))))))))
theorem walk_vfact {x : Fct} {Post : Bool -> Prop} (hv : vc_vfact x Post) : FnP Try.prog 40 [.agg (e69 x)] (fun x => ∃ q0, x = .bool q0 /\ Post q0) := by
 refine FnP.of_walk (T := tt) (nt := 56) ttOk ttMix ⟨⟨Try.f40, Try.func40, rfl, rfl, rfl, rfl⟩⟩ (by simp) ?_
 unfold vc_vfact at hv
 change W _ _ _ ⟨56, look [(0, .agg [.int .i64 x.tr, .int .i64 x.sp, .int .i64 x.se, .int .i64 x.ver, .int .i64 x.op, .int .i64 x.pe, .int .i64 x.da, .int .i64 x.lo, .int .i64 x.hi, .int .i64 x.by_])], [], 0⟩ _
 refine W.ty [(0, .agg _)] rfl (W.rL (cL rfl (o_box (v := .agg _) (p := 0) rfl rfl rfl (aB rfl rfl (eL (W.ty [(1, .ptr _ _)] rfl ?_))))))
 obtain ⟨sd, hv⟩ := hv
 refine W.rLm ⟨56, look [(2, .bool (decide (((inM x.tr (0 : Int) (999 : Int)) = true) /\ (((inM x.sp (0 : Int) (9 : Int)) = true) /\ (((inM x.se (0 : Int) (7 : Int)) = true) /\ (((inM x.ver (0 : Int) (9 : Int)) = true) /\ (((inM x.op (0 : Int) (11 : Int)) = true) /\ (((inM x.pe (-1 : Int) (19 : Int)) = true) /\ ((x.da = x.tr.tdiv (10 : Int)) /\ (((inM x.lo (0 : Int) x.hi) = true) /\ ((x.hi <= (4398046511104 : Int)) /\ ((inM x.by_ (0 : Int) (24000 : Int)) = true))))))))))))], [.box 69 [.int .i64 x.tr, .int .i64 x.sp, .int .i64 x.se, .int .i64 x.ver, .int .i64 x.op, .int .i64 x.pe, .int .i64 x.da, .int .i64 x.lo, .int .i64 x.hi, .int .i64 x.by_]], 0⟩ ?_ ?_
 refine cL rfl (o_fa tt69 rfl tt3 rfl (cL rfl (zZx (v := .int _ _) tt3 rfl rfl ⟨_, rfl⟩ (cL rfl (zZu (k := 53) (fst := []) (caps := []) (ys := [.int _ _, .int _ _, .int _ _]) rfl rfl (spec_within x.tr (0 : Int) (999 : Int)) zk (mB rfl rfl ?_))))))
 by_cases c1 : (inM x.tr (0 : Int) (999 : Int)) = true
 have sd := sd.1 c1
 refine cLg rfl rfl (c1) (cL rfl (o_fa tt69 rfl tt3 rfl (cLg rfl rfl (c1) (cL rfl (zZx (v := .int _ _) tt3 rfl rfl ⟨_, rfl⟩ (cLg rfl rfl (c1) (cL rfl (zZu (k := 53) (fst := []) (caps := []) (ys := [.int _ _, .int _ _, .int _ _]) rfl rfl (spec_within x.sp (0 : Int) (9 : Int)) zk (cL rfl (zZv (v := .bool _) rfl c1 rfl (mB rfl rfl ?_)))))))))))
 by_cases c2 : (inM x.sp (0 : Int) (9 : Int)) = true
 have sd := sd.1 c2
 refine cLg rfl rfl (c2) (cL rfl (o_fa tt69 rfl tt3 rfl (cLg rfl rfl (c2) (cL rfl (zZx (v := .int _ _) tt3 rfl rfl ⟨_, rfl⟩ (cLg rfl rfl (c2) (cL rfl (zZu (k := 53) (fst := []) (caps := []) (ys := [.int _ _, .int _ _, .int _ _]) rfl rfl (spec_within x.se (0 : Int) (7 : Int)) zk (cL rfl (zZv (v := .bool _) rfl c2 rfl (mB rfl rfl ?_)))))))))))
 by_cases c3 : (inM x.se (0 : Int) (7 : Int)) = true
 have sd := sd.1 c3
 refine cLg rfl rfl (c3) (cL rfl (o_fa tt69 rfl tt3 rfl (cLg rfl rfl (c3) (cL rfl (zZx (v := .int _ _) tt3 rfl rfl ⟨_, rfl⟩ (cLg rfl rfl (c3) (cL rfl (zZu (k := 53) (fst := []) (caps := []) (ys := [.int _ _, .int _ _, .int _ _]) rfl rfl (spec_within x.ver (0 : Int) (9 : Int)) zk (cL rfl (zZv (v := .bool _) rfl c3 rfl (mB rfl rfl ?_)))))))))))
 by_cases c4 : (inM x.ver (0 : Int) (9 : Int)) = true
 have sd := sd.1 c4
 refine cLg rfl rfl (c4) (cL rfl (o_fa tt69 rfl tt3 rfl (cLg rfl rfl (c4) (cL rfl (zZx (v := .int _ _) tt3 rfl rfl ⟨_, rfl⟩ (cLg rfl rfl (c4) (cL rfl (zZu (k := 53) (fst := []) (caps := []) (ys := [.int _ _, .int _ _, .int _ _]) rfl rfl (spec_within x.op (0 : Int) (11 : Int)) zk (cL rfl (zZv (v := .bool _) rfl c4 rfl (mB rfl rfl ?_)))))))))))
 by_cases c5 : (inM x.op (0 : Int) (11 : Int)) = true
 have sd := sd.1 c5
 refine cLg rfl rfl (c5) (cL rfl (o_fa tt69 rfl tt3 rfl (cLg rfl rfl (c5) (cL rfl (zZx (v := .int _ _) tt3 rfl rfl ⟨_, rfl⟩ (cLg rfl rfl (c5) (cL rfl (zZu (k := 53) (fst := []) (caps := []) (ys := [.int _ _, .int _ _, .int _ _]) rfl rfl (spec_within x.pe (-1 : Int) (19 : Int)) zk (cL rfl (zZv (v := .bool _) rfl c5 rfl (mB rfl rfl ?_)))))))))))
 by_cases c6 : (inM x.pe (-1 : Int) (19 : Int)) = true
 have sd := sd.1 c6
 refine cLg rfl rfl (c6) (cL rfl (o_fa tt69 rfl tt3 rfl (cLg rfl rfl (c6) (cL rfl (zZx (v := .int _ _) tt3 rfl rfl ⟨_, rfl⟩ (cLg rfl rfl (c6) (cL rfl (o_fa tt69 rfl tt3 rfl (cLg rfl rfl (c6) (cL rfl (zZx (v := .int _ _) tt3 rfl rfl ⟨_, rfl⟩ (cLg rfl rfl (c6) ?_))))))))))))
 obtain ⟨s2, sd⟩ := sd
 refine cL rfl (o_quo rfl rfl (by decide) s2 (cLg rfl rfl (c6) (cL rfl (o_eqI rfl rfl rfl (cL rfl (zZv (v := .bool _) rfl c6 rfl (mB rfl rfl ?_)))))))
 by_cases c7 : x.da = x.tr.tdiv (10 : Int)
 refine cLg rfl rfl (dT c7) (cL rfl (o_fa tt69 rfl tt3 rfl (cLg rfl rfl (dT c7) (cL rfl (zZx (v := .int _ _) tt3 rfl rfl ⟨_, rfl⟩ (cLg rfl rfl (dT c7) (cL rfl (o_fa tt69 rfl tt3 rfl (cLg rfl rfl (dT c7) (cL rfl (zZx (v := .int _ _) tt3 rfl rfl ⟨_, rfl⟩ (cLg rfl rfl (dT c7) (cL rfl (zZu (k := 53) (fst := []) (caps := []) (ys := [.int _ _, .int _ _, .int _ _]) rfl rfl (spec_within x.lo (0 : Int) x.hi) zk (cL rfl (zZv (v := .bool _) rfl (dT c7) rfl (mB rfl rfl ?_)))))))))))))))))
 by_cases c8 : (inM x.lo (0 : Int) x.hi) = true
 refine cLg rfl rfl (c8) (cL rfl (o_fa tt69 rfl tt3 rfl (cLg rfl rfl (c8) (cL rfl (zZx (v := .int _ _) tt3 rfl rfl ⟨_, rfl⟩ (cLg rfl rfl (c8) (cL rfl (o_leq rfl rfl (cL rfl (zZv (v := .bool _) rfl c8 rfl (mB rfl rfl ?_)))))))))))
 by_cases c9 : x.hi <= (4398046511104 : Int)
 refine cLg rfl rfl (dT c9) (cL rfl (o_fa tt69 rfl tt3 rfl (cLg rfl rfl (dT c9) (cL rfl (zZx (v := .int _ _) tt3 rfl rfl ⟨_, rfl⟩ (cLg rfl rfl (dT c9) (cL rfl (zZu (k := 53) (fst := []) (caps := []) (ys := [.int _ _, .int _ _, .int _ _]) rfl rfl (spec_within x.by_ (0 : Int) (24000 : Int)) zk (cL rfl (zZv (v := .bool _) rfl (dT c9) rfl (aB rfl rfl (eL (zYz ⟨(congrArg AV.bool (zXv c1 (zXv c2 (zXv c3 (zXv c4 (zXv c5 (zXv c6 (zXv c7 (zXv c8 (zXv c9 (dVar _))))))))))).symm, trivial⟩ rfl)))))))))))))
 iterate 3 refine cLs rfl rfl rfl (dF c9) ?_
 refine cL rfl (zZy (v := .bool _) rfl (dF c9) rfl (aB rfl rfl (eL (zYz ⟨(congrArg AV.bool (zXv c1 (zXv c2 (zXv c3 (zXv c4 (zXv c5 (zXv c6 (zXv c7 (zXv c8 (dAndF c9)))))))))).symm, trivial⟩ rfl))))
 iterate 3 refine cLs rfl rfl rfl ((Bool.eq_false_iff.2 c8)) ?_
 refine cL rfl (zZy (v := .bool _) rfl (Bool.eq_false_iff.2 c8) rfl (mB rfl rfl ?_))
 iterate 3 refine cLs rfl rfl rfl (rfl) ?_
 refine cL rfl (zZy (v := .bool _) rfl rfl rfl (aB rfl rfl (eL (zYz ⟨(congrArg AV.bool (zXv c1 (zXv c2 (zXv c3 (zXv c4 (zXv c5 (zXv c6 (zXv c7 (dAndF c8))))))))).symm, trivial⟩ rfl))))
 iterate 5 refine cLs rfl rfl rfl (dF c7) ?_
 refine cL rfl (zZy (v := .bool _) rfl (dF c7) rfl (mB rfl rfl ?_))
 iterate 3 refine cLs rfl rfl rfl (rfl) ?_
 refine cL rfl (zZy (v := .bool _) rfl rfl rfl (mB rfl rfl ?_))
 iterate 3 refine cLs rfl rfl rfl (rfl) ?_
 refine cL rfl (zZy (v := .bool _) rfl rfl rfl (aB rfl rfl (eL (zYz ⟨(congrArg AV.bool (zXv c1 (zXv c2 (zXv c3 (zXv c4 (zXv c5 (zXv c6 (dAndF c7)))))))).symm, trivial⟩ rfl))))
 iterate 6 refine cLs rfl rfl rfl ((Bool.eq_false_iff.2 c6)) ?_
 refine cL rfl (zZy (v := .bool _) rfl (Bool.eq_false_iff.2 c6) rfl (mB rfl rfl ?_))
 iterate 5 refine cLs rfl rfl rfl (rfl) ?_
 refine cL rfl (zZy (v := .bool _) rfl rfl rfl (mB rfl rfl ?_))
 iterate 3 refine cLs rfl rfl rfl (rfl) ?_
 refine cL rfl (zZy (v := .bool _) rfl rfl rfl (mB rfl rfl ?_))
 iterate 3 refine cLs rfl rfl rfl (rfl) ?_
 refine cL rfl (zZy (v := .bool _) rfl rfl rfl (aB rfl rfl (eL (zYz ⟨(congrArg AV.bool (zXv c1 (zXv c2 (zXv c3 (zXv c4 (zXv c5 (dAndF c6))))))).symm, trivial⟩ rfl))))
 iterate 3 refine cLs rfl rfl rfl ((Bool.eq_false_iff.2 c5)) ?_
 refine cL rfl (zZy (v := .bool _) rfl (Bool.eq_false_iff.2 c5) rfl (mB rfl rfl ?_))
 iterate 6 refine cLs rfl rfl rfl (rfl) ?_
 refine cL rfl (zZy (v := .bool _) rfl rfl rfl (mB rfl rfl ?_))
 iterate 5 refine cLs rfl rfl rfl (rfl) ?_
 refine cL rfl (zZy (v := .bool _) rfl rfl rfl (mB rfl rfl ?_))
 iterate 3 refine cLs rfl rfl rfl (rfl) ?_
 refine cL rfl (zZy (v := .bool _) rfl rfl rfl (mB rfl rfl ?_))
 iterate 3 refine cLs rfl rfl rfl (rfl) ?_
 refine cL rfl (zZy (v := .bool _) rfl rfl rfl (aB rfl rfl (eL (zYz ⟨(congrArg AV.bool (zXv c1 (zXv c2 (zXv c3 (zXv c4 (dAndF c5)))))).symm, trivial⟩ rfl))))
 iterate 3 refine cLs rfl rfl rfl ((Bool.eq_false_iff.2 c4)) ?_
 refine cL rfl (zZy (v := .bool _) rfl (Bool.eq_false_iff.2 c4) rfl (mB rfl rfl ?_))
 iterate 3 refine cLs rfl rfl rfl (rfl) ?_
 refine cL rfl (zZy (v := .bool _) rfl rfl rfl (mB rfl rfl ?_))
 iterate 6 refine cLs rfl rfl rfl (rfl) ?_
 refine cL rfl (zZy (v := .bool _) rfl rfl rfl (mB rfl rfl ?_))
 iterate 5 refine cLs rfl rfl rfl (rfl) ?_
 refine cL rfl (zZy (v := .bool _) rfl rfl rfl (mB rfl rfl ?_))
 iterate 3 refine cLs rfl rfl rfl (rfl) ?_
 refine cL rfl (zZy (v := .bool _) rfl rfl rfl (mB rfl rfl ?_))
 iterate 3 refine cLs rfl rfl rfl (rfl) ?_
 refine cL rfl (zZy (v := .bool _) rfl rfl rfl (aB rfl rfl (eL (zYz ⟨(congrArg AV.bool (zXv c1 (zXv c2 (zXv c3 (dAndF c4))))).symm, trivial⟩ rfl))))
 iterate 3 refine cLs rfl rfl rfl ((Bool.eq_false_iff.2 c3)) ?_
 refine cL rfl (zZy (v := .bool _) rfl (Bool.eq_false_iff.2 c3) rfl (mB rfl rfl ?_))
 iterate 3 refine cLs rfl rfl rfl (rfl) ?_
 refine cL rfl (zZy (v := .bool _) rfl rfl rfl (mB rfl rfl ?_))
 iterate 3 refine cLs rfl rfl rfl (rfl) ?_
 refine cL rfl (zZy (v := .bool _) rfl rfl rfl (mB rfl rfl ?_))
 iterate 6 refine cLs rfl rfl rfl (rfl) ?_
 refine cL rfl (zZy (v := .bool _) rfl rfl rfl (mB rfl rfl ?_))
 iterate 5 refine cLs rfl rfl rfl (rfl) ?_
 refine cL rfl (zZy (v := .bool _) rfl rfl rfl (mB rfl rfl ?_))
 iterate 3 refine cLs rfl rfl rfl (rfl) ?_
 refine cL rfl (zZy (v := .bool _) rfl rfl rfl (mB rfl rfl ?_))
 iterate 3 refine cLs rfl rfl rfl (rfl) ?_
 refine cL rfl (zZy (v := .bool _) rfl rfl rfl (aB rfl rfl (eL (zYz ⟨(congrArg AV.bool (zXv c1 (zXv c2 (dAndF c3)))).symm, trivial⟩ rfl))))
 iterate 3 refine cLs rfl rfl rfl ((Bool.eq_false_iff.2 c2)) ?_
 refine cL rfl (zZy (v := .bool _) rfl (Bool.eq_false_iff.2 c2) rfl (mB rfl rfl ?_))
 iterate 3 refine cLs rfl rfl rfl (rfl) ?_
 refine cL rfl (zZy (v := .bool _) rfl rfl rfl (mB rfl rfl ?_))
 iterate 3 refine cLs rfl rfl rfl (rfl) ?_
 refine cL rfl (zZy (v := .bool _) rfl rfl rfl (mB rfl rfl ?_))
 iterate 3 refine cLs rfl rfl rfl (rfl) ?_
 refine cL rfl (zZy (v := .bool _) rfl rfl rfl (mB rfl rfl ?_))
 iterate 6 refine cLs rfl rfl rfl (rfl) ?_
 refine cL rfl (zZy (v := .bool _) rfl rfl rfl (mB rfl rfl ?_))
 iterate 5 refine cLs rfl rfl rfl (rfl) ?_
 refine cL rfl (zZy (v := .bool _) rfl rfl rfl (mB rfl rfl ?_))
 iterate 3 refine cLs rfl rfl rfl (rfl) ?_
 refine cL rfl (zZy (v := .bool _) rfl rfl rfl (mB rfl rfl ?_))
 iterate 3 refine cLs rfl rfl rfl (rfl) ?_
 refine cL rfl (zZy (v := .bool _) rfl rfl rfl (aB rfl rfl (eL (zYz ⟨(congrArg AV.bool (zXv c1 (dAndF c2))).symm, trivial⟩ rfl))))
 iterate 3 refine cLs rfl rfl rfl ((Bool.eq_false_iff.2 c1)) ?_
 refine cL rfl (zZy (v := .bool _) rfl (Bool.eq_false_iff.2 c1) rfl (mB rfl rfl ?_))
 iterate 3 refine cLs rfl rfl rfl (rfl) ?_
 refine cL rfl (zZy (v := .bool _) rfl rfl rfl (mB rfl rfl ?_))
 iterate 3 refine cLs rfl rfl rfl (rfl) ?_
 refine cL rfl (zZy (v := .bool _) rfl rfl rfl (mB rfl rfl ?_))
 iterate 3 refine cLs rfl rfl rfl (rfl) ?_
 refine cL rfl (zZy (v := .bool _) rfl rfl rfl (mB rfl rfl ?_))
 iterate 3 refine cLs rfl rfl rfl (rfl) ?_
 refine cL rfl (zZy (v := .bool _) rfl rfl rfl (mB rfl rfl ?_))
 iterate 6 refine cLs rfl rfl rfl (rfl) ?_
 refine cL rfl (zZy (v := .bool _) rfl rfl rfl (mB rfl rfl ?_))
 iterate 5 refine cLs rfl rfl rfl (rfl) ?_
 refine cL rfl (zZy (v := .bool _) rfl rfl rfl (mB rfl rfl ?_))
 iterate 3 refine cLs rfl rfl rfl (rfl) ?_
 refine cL rfl (zZy (v := .bool _) rfl rfl rfl (mB rfl rfl ?_))
 iterate 3 refine cLs rfl rfl rfl (rfl) ?_
 refine cL rfl (zZy (v := .bool _) rfl rfl rfl (aB rfl rfl (eL (zYz ⟨(congrArg AV.bool (dAndF c1)).symm, trivial⟩ rfl))))
 refine W.ret (rt (rt_t (v := .bool _) rfl (rt_n (⟨_, zYr _ _ _, (decide (((inM x.tr (0 : Int) (999 : Int)) = true) /\ (((inM x.sp (0 : Int) (9 : Int)) = true) /\ (((inM x.se (0 : Int) (7 : Int)) = true) /\ (((inM x.ver (0 : Int) (9 : Int)) = true) /\ (((inM x.op (0 : Int) (11 : Int)) = true) /\ (((inM x.pe (-1 : Int) (19 : Int)) = true) /\ ((x.da = x.tr.tdiv (10 : Int)) /\ (((inM x.lo (0 : Int) x.hi) = true) /\ ((x.hi <= (4398046511104 : Int)) /\ ((inM x.by_ (0 : Int) (24000 : Int)) = true))))))))))), rfl, hv⟩))))
set_option maxHeartbeats 4000000 in
theorem vcp_vfact (x : Fct)  : vc_vfact x (fun q0 => q0 = (factOk x)) := by
  have e1 : ∀ n lo hi : Int, (inM n lo hi = true) = (lo <= n /\ n <= hi) := fun n lo hi => by unfold inM; simp
  unfold vc_vfact
  simp only [e1]
  refine ⟨⟨fun h1 => ⟨fun _ => ⟨fun _ => ⟨fun _ => ⟨fun _ => ⟨fun _ => ⟨?_, trivial⟩, fun _ => trivial⟩, fun _ => trivial⟩, fun _ => trivial⟩, fun _ => trivial⟩, fun _ => trivial⟩, fun _ => trivial⟩, ?_⟩
  . have := inI_td (x := x.tr) (k := 10) (by omega) (by unfold inI; omega)
    exact this
  . rfl
theorem spec_vfact (x : Fct)  : FnP Try.prog 40 [.agg (e69 x)] (fun xR => xR = .bool (factOk x)) :=
  (walk_vfact (vcp_vfact x)).mono (by rintro _ ⟨_, rfl, rfl⟩; rfl)
def vc_isNaN (n : Int) (Post : Bool -> Prop) : Prop :=
  Post (decide (¬ n = n))
theorem walk_isNaN {n : Int} {Post : Bool -> Prop} (hv : vc_isNaN n Post) : FnP Try.prog 60 [.int .i64 n] (fun x => ∃ q0, x = .bool q0 /\ Post q0) := by
 refine FnP.of_walk (T := tt) (nt := 6) ttOk ttMix ⟨⟨Try.f60, Try.func60, rfl, rfl, rfl, rfl⟩⟩ (by simp) ?_
 unfold vc_isNaN at hv
 change W _ _ _ ⟨6, look [(0, .int .i64 n)], [], 0⟩ _
 refine W.ty [(0, .int _ _)] rfl (W.rL (aB rfl rfl (eL (W.ty [(0, .int _ _)] rfl (W.rL ?_)))))
 iterate 2 refine mI rfl rfl ?_
 refine cL rfl (o_neI rfl rfl rfl (aB rfl rfl (eL (W.ty [(2, .bool _)] rfl (W.ret (rt (rt_t (v := .bool _) rfl (rt_n (⟨_, zYr _ _ _, (decide (¬ n = n)), rfl, hv⟩)))))))))
set_option maxHeartbeats 4000000 in
theorem vcp_isNaN (n : Int)  : vc_isNaN n (fun q0 => q0 = (false)) := by
  show decide (¬ n = n) = false
  simp
theorem spec_isNaN (n : Int)  : FnP Try.prog 60 [.int .i64 n] (fun xR => xR = .bool (false)) :=
  (walk_isNaN (vcp_isNaN n)).mono (by rintro _ ⟨_, rfl, rfl⟩; rfl)
def vc_cmpI (x : Int) (y : Int) (Post : Int -> Prop) : Prop :=
  ((x < y) -> Post (-1 : Int)) /\ (¬ (x < y) -> ((y < x) -> Post (1 : Int)) /\ (¬ (y < x) -> Post (0 : Int)))
theorem walk_cmpI {x : Int} {y : Int} {Post : Int -> Prop} (hv : vc_cmpI x y Post) : FnP Try.prog 57 [.int .i64 x, .int .i64 y] (fun x => ∃ q0, x = .int .i64 q0 /\ Post q0) := by
 refine FnP.of_walk (T := tt) (nt := 20) ttOk ttMix ⟨⟨Try.f57, Try.func57, rfl, rfl, rfl, rfl⟩⟩ (by simp) ?_
 unfold vc_cmpI at hv
 change W _ _ _ ⟨20, look [(0, .int .i64 x), (1, .int .i64 y)], [], 0⟩ _
 refine W.ty [(0, .int _ _), (1, .int _ _)] rfl (W.rL (aI rfl rfl (eL (W.ty [(0, .int _ _), (1, .int _ _)] rfl (W.rL (mI rfl rfl (cL rfl (zZu (k := 60) (fst := []) (caps := []) (ys := [.int _ _]) rfl rfl (spec_isNaN x) zk (aB rfl rfl (eL (W.ty [(0, .int _ _), (1, .int _ _), (5, .bool _)] rfl (W.rL (mI rfl rfl (cL rfl (zZu (k := 60) (fst := []) (caps := []) (ys := [.int _ _]) rfl rfl (spec_isNaN y) zk (aB rfl rfl (eL (W.ty [(0, .int _ _), (1, .int _ _), (5, .bool _), (6, .bool _)] rfl (W.seq' (W.rL (mB rfl rfl (eL (W.ty [(0, .int _ _), (1, .int _ _), (6, .bool _), (11, .bool _)] rfl (W.cF rfl (W.skip (zZ (W.ty [(0, .int _ _), (1, .int _ _), (6, .bool _)] rfl ?_)))))))))))))))))))))))))))
 refine W.seq' (W.rL (mB rfl rfl (eL (W.ty [(0, .int _ _), (1, .int _ _), (13, .bool _)] rfl (W.cF rfl (W.skip (zZ (W.ty [(0, .int _ _), (1, .int _ _)] rfl (W.seq' (W.rL ?_))))))))))
 iterate 2 refine mI rfl rfl ?_
 refine cL rfl (zYq rfl rfl (eL (W.ty [(0, .int _ _), (1, .int _ _), (16, .bool _)] rfl (W.cn rfl (fun hc => ?_) (fun hc => ?_)))))
 have hv := hv.1 hc
 refine W.rL (aI rfl rfl (eL (W.ty [(4, .int _ _)] rfl (W.ret (zZr (rt (rt_t (v := .int _ _) rfl (rt_n (⟨_, zY _ _ _ _, (-1 : Int), rfl, hv⟩)))))))))
 have hv := hv.2 hc
 refine W.skip (zZ (W.ty [(0, .int _ _), (1, .int _ _)] rfl (W.seq' (W.rL ?_))))
 iterate 2 refine mI rfl rfl ?_
 refine cL rfl (o_gtr rfl rfl (eL (W.ty [(19, .bool _)] rfl (W.cn rfl (fun hc => ?_) (fun hc => ?_)))))
 have hv := hv.1 hc
 refine W.rL (aI rfl rfl (eL (W.ty [(4, .int _ _)] rfl (W.ret (zZr (rt (rt_t (v := .int _ _) rfl (rt_n (⟨_, zY _ _ _ _, (1 : Int), rfl, hv⟩)))))))))
 have hv := hv.2 hc
 refine W.skip (zZ (W.ty [] rfl (W.rL (aI rfl rfl (eL (W.ty [(4, .int _ _)] rfl (W.ret (rt (rt_t (v := .int _ _) rfl (rt_n (⟨_, zY _ _ _ _, (0 : Int), rfl, hv⟩)))))))))))
set_option maxHeartbeats 4000000 in
theorem vcp_cmpI (x : Int) (y : Int)  : vc_cmpI x y (fun q0 => q0 = (cmpM x y)) := by
  refine ⟨fun h => ?_, fun h => ⟨fun k => ?_, fun k => ?_⟩⟩
  . show -1 = cmpM x y
    unfold cmpM; rw [if_pos h]
  . show 1 = cmpM x y
    unfold cmpM; rw [if_neg h, if_pos k]
  . show 0 = cmpM x y
    unfold cmpM; rw [if_neg h, if_neg k]
theorem spec_cmpI (x : Int) (y : Int)  : FnP Try.prog 57 [.int .i64 x, .int .i64 y] (fun xR => xR = .int .i64 (cmpM x y)) :=
  (walk_cmpI (vcp_cmpI x y)).mono (by rintro _ ⟨_, rfl, rfl⟩; rfl)
def vc_orI (l : (List Int)) (Post : Int -> Prop) : Prop :=
  ∃ (I1 : Int -> Prop) (μ1 : Int -> Nat), I1 (0 : Int) /\ ∀ (v8 : Int), I1 v8 -> ((v8 < (l.length : Int)) -> (0 <= v8 /\ v8 < (l.length : Int)) /\ ((¬ lat l v8 = (0 : Int)) -> Post (lat l v8)) /\ (¬ (¬ lat l v8 = (0 : Int)) -> (inI (v8 + (1 : Int))) /\ (I1 (v8 + (1 : Int)) /\ μ1 (v8 + (1 : Int)) < μ1 v8))) /\ (¬ (v8 < (l.length : Int)) -> Post (0 : Int))
theorem walk_orI {l : (List Int)} {Post : Int -> Prop} (hv : vc_orI l Post) : FnP Try.prog 56 [.lst true l.length (zYy zYx l)] (fun x => ∃ q0, x = .int .i64 q0 /\ Post q0) := by
 refine FnP.of_walk (T := tt) (nt := 18) ttOk ttMix ⟨⟨Try.f56, Try.func56, rfl, rfl, rfl, rfl⟩⟩ (by simp) ?_
 unfold vc_orI at hv
 change W _ _ _ ⟨18, look [(0, .lst true l.length (zYy zYx l))], [], 0⟩ _
 refine W.ty [(0, .lst _ _ _)] rfl (W.rL (aI rfl rfl (eL (W.ty [(0, .lst _ _ _)] rfl (W.rL (aI rfl rfl (eL (W.ty [(0, .lst _ _ _), (3, .int _ _)] rfl (W.seq' (W.rL (mL rfl rfl (cL rfl (zXw (v := .lst _ _ _) tt24 rfl rfl (mI rfl rfl (eL (W.ty [(3, .int _ _), (6, .lst _ _ _), (7, .int _ _), (8, .int _ _)] rfl (W.block ?_)))))))))))))))))
 obtain ⟨I1, μ1, hp, hv⟩ := hv
 refine W.loop1 (fun v8 => ⟨18, look [(3, .int .i64 (0 : Int)), (6, .lst true l.length (zYy zYx l)), (7, .int .i64 (l.length : Int)), (8, .int .i64 v8)], [], 0⟩) I1 μ1 (0 : Int) (St.to_mk (φ := []) rfl (rfl) (zT rfl rfl) trivial) hp ?_
 clear hp
 intro v8 hI
 replace hv := hv v8 hI
 clear hI
 refine W.rL (cL rfl (zYq rfl rfl (eL (W.ty [(3, .int _ _), (6, .lst _ _ _), (7, .int _ _), (8, .int _ _), (9, .bool _)] rfl (W.seq' (W.cn rfl (fun hc => ?_) (fun hc => ?_)))))))
 have hv := hv.1 hc
 refine W.skip (zZ (W.ty [(3, .int _ _), (6, .lst _ _ _), (7, .int _ _), (8, .int _ _)] rfl (W.seq' (W.block (W.rL ?_)))))
 obtain ⟨s11, hv⟩ := hv
 refine cL rfl (zYu tt24 tt3 rfl rfl (zZw.wd true) rfl s11 ?_)
 intro rest11
 refine cL rfl (zZx (v := .int _ _) tt3 rfl rfl ⟨_, rfl⟩ (aI rfl rfl (eL (W.ty [(3, .int _ _), (5, .int _ _), (6, .lst _ _ _), (7, .int _ _), (8, .int _ _)] rfl (W.rL ?_)))))
 iterate 2 refine mI rfl rfl ?_
 refine cL rfl (o_neI rfl rfl rfl (eL (W.ty [(3, .int _ _), (5, .int _ _), (6, .lst _ _ _), (7, .int _ _), (8, .int _ _), (14, .bool _)] rfl (W.cn rfl (fun hc => ?_) (fun hc => ?_)))))
 have hv := hv.1 hc
 refine W.rL (mI rfl rfl (aI rfl rfl (eL (W.ty [(2, .int _ _)] rfl (W.ret (zYt (zZr (zZr (zYt (zZr (rt (rt_t (v := .int _ _) rfl (rt_n (⟨_, zY _ _ _ _, (lat l v8), rfl, hv⟩))))))))))))))
 have hv := hv.2 hc
 refine W.skip (zYv (zZ (W.ty [(3, .int _ _), (6, .lst _ _ _), (7, .int _ _), (8, .int _ _)] rfl (W.rL1 ?_))))
 obtain ⟨s12, hv⟩ := hv
 refine cL rfl (o_add rfl rfl s12 (mI rfl rfl (eL (zZ (⟨(), (v8 + (1 : Int)), hv, St.to_mk (φ := []) rfl (rfl) (zT rfl rfl) trivial⟩)))))
 have hv := hv.2 hc
 refine W.exit (zZt (zZt (zYs (zZ (W.ty [(3, .int _ _)] rfl (W.rL (mI rfl rfl (aI rfl rfl (eL (W.ty [(2, .int _ _)] rfl (W.ret (rt (rt_t (v := .int _ _) rfl (rt_n (⟨_, zY _ _ _ _, (0 : Int), rfl, hv⟩)))))))))))))))
set_option maxHeartbeats 4000000 in
theorem vcp_orI (l : (List Int)) (h0 : l.length <= 9223372036854775807) : vc_orI l (fun q0 => q0 = (orM l)) := by
  unfold vc_orI
  refine ⟨fun v => ∃ i : Nat, v = i /\ i <= l.length /\ orM l = orM (l.drop i), fun v => l.length - v.toNat, ⟨0, rfl, by omega, rfl⟩, ?_⟩
  rintro _ ⟨i, rfl, hi, he⟩
  refine ⟨fun k1 => ⟨⟨by omega, k1⟩, fun k2 => ?_, fun k2 => ⟨by unfold inI; omega, ⟨i + 1, by omega, by omega, ?_⟩, dec_lt k1⟩⟩, fun k1 => ?_⟩
  . have h : i < l.length := by omega
    show lat l (i : Int) = orM l
    rw [he, List.drop_eq_getElem_cons h, lat_get h]
    rw [lat_get h] at k2
    show _ = if ¬ l[i] = 0 then l[i] else _
    rw [if_pos k2]
  . have h : i < l.length := by omega
    rw [he, List.drop_eq_getElem_cons h]
    rw [lat_get h] at k2
    show (if ¬ l[i] = 0 then l[i] else _) = _
    rw [if_neg k2]; rfl
  . show 0 = orM l
    rw [he, List.drop_of_length_le (by omega)]; rfl
theorem spec_orI (l : (List Int)) (h0 : l.length <= 9223372036854775807) : FnP Try.prog 56 [.lst true l.length (zYy zYx l)] (fun xR => xR = .int .i64 (orM l)) :=
  (walk_orI (vcp_orI l h0)).mono (by rintro _ ⟨_, rfl, rfl⟩; rfl)
def vc_cmpR (a : Rg) (b : Rg) (Post : Int -> Prop) : Prop :=
  ([cmpM a.op b.op, cmpM a.ver b.ver].length <= 9223372036854775807) /\ Post (orM [cmpM a.op b.op, cmpM a.ver b.ver])
theorem walk_cmpR {a : Rg} {b : Rg} {Post : Int -> Prop} (hv : vc_cmpR a b Post) : FnP Try.prog 45 [.agg (e72 a), .agg (e72 b)] (fun x => ∃ q0, x = .int .i64 q0 /\ Post q0) := by
 refine FnP.of_walk (T := tt) (nt := 17) ttOk ttMix ⟨⟨Try.f45, Try.func45, rfl, rfl, rfl, rfl⟩⟩ (by simp) ?_
 unfold vc_cmpR at hv
 change W _ _ _ ⟨17, look [(0, .agg [.int .i64 a.op, .int .i64 a.ver, .int .i64 a.nu, .int .i64 a.le, .int .i64 a.mo]), (1, .agg [.int .i64 b.op, .int .i64 b.ver, .int .i64 b.nu, .int .i64 b.le, .int .i64 b.mo])], [], 0⟩ _
 refine W.ty [(0, .agg _), (1, .agg _)] rfl (W.rL (cL rfl (o_box (v := .agg _) (p := 0) rfl rfl rfl (cL rfl (o_box (v := .agg _) (p := 1) rfl rfl rfl (aI rfl rfl (eL (W.ty [(2, .ptr _ _), (3, .ptr _ _)] rfl (W.rP [0, 1, 2, 3, 5, 6, 7, 8, 4, 9, 10, 11, 12] (by decide +kernel) rfl (cL rfl (o_fa tt72 rfl tt3 rfl (cL rfl (zZx (v := .int _ _) tt3 rfl rfl ⟨_, rfl⟩ (cL rfl (o_fa tt72 rfl tt3 rfl (cL rfl (zZx (v := .int _ _) tt3 rfl rfl ⟨_, rfl⟩ (cL rfl (o_fa tt72 rfl tt3 rfl (cL rfl (zZx (v := .int _ _) tt3 rfl rfl ⟨_, rfl⟩ (cL rfl (o_fa tt72 rfl tt3 rfl (cL rfl (zZx (v := .int _ _) tt3 rfl rfl ⟨_, rfl⟩ (cL rfl (zZu (k := 57) (fst := []) (caps := []) (ys := [.int _ _, .int _ _]) rfl rfl (spec_cmpI a.op b.op) zk (cL rfl (zZu (k := 57) (fst := []) (caps := []) (ys := [.int _ _, .int _ _]) rfl rfl (spec_cmpI a.ver b.ver) zk (cL rfl (o_buildS (q := 2) (qs := [(0, .int _ _), (1, .int _ _)]) (cs := [.int _ _, .int _ _]) tt24 tt3 rfl rfl rfl rfl ?_)))))))))))))))))))))))))))))))
 obtain ⟨s1, hv⟩ := hv
 refine cL rfl (zZu (k := 56) (fst := []) (caps := []) (ys := [.ref _ _ _]) rfl rfl (spec_orI [cmpM a.op b.op, cmpM a.ver b.ver] s1) (Wks.cons (ag_ref (fl := false) (xs := [cmpM a.op b.op, cmpM a.ver b.ver]) zZw 4 _ rfl rfl) zk) (aI rfl rfl (eL (W.ty [(4, .int _ _)] rfl (W.ret (rt (rt_t (v := .int _ _) rfl (rt_n (⟨_, zY _ _ _ _, (orM [cmpM a.op b.op, cmpM a.ver b.ver]), rfl, hv⟩)))))))))
set_option maxHeartbeats 4000000 in
theorem vcp_cmpR (a : Rg) (b : Rg)  : vc_cmpR a b (fun q0 => q0 = (cmpR a b)) := by
  exact ⟨by simp, rfl⟩
theorem spec_cmpR (a : Rg) (b : Rg)  : FnP Try.prog 45 [.agg (e72 a), .agg (e72 b)] (fun xR => xR = .int .i64 (cmpR a b)) :=
  (walk_cmpR (vcp_cmpR a b)).mono (by rintro _ ⟨_, rfl, rfl⟩; rfl)
def vc_bsR (l : (List Rg)) (x : Rg) (Post : Int -> Bool -> Prop) : Prop :=
  ∃ (I1 : Int -> Int -> Prop) (μ1 : Int -> Int -> Nat), I1 (0 : Int) (l.length : Int) /\ ∀ (v9 : Int) (v10 : Int), I1 v9 v10 -> ((v9 < v10) -> (inI (v9 + v10)) /\ (0 <= (IntKind.i64.wrap ((IntKind.u64.wrap (v9 + v10)).fdiv (2 ^ (min (1 : Int).toNat 64)))) /\ (IntKind.i64.wrap ((IntKind.u64.wrap (v9 + v10)).fdiv (2 ^ (min (1 : Int).toNat 64)))) < (l.length : Int)) /\ (((cmpR (lat l (IntKind.i64.wrap ((IntKind.u64.wrap (v9 + v10)).fdiv (2 ^ (min (1 : Int).toNat 64))))) x) < (0 : Int)) -> (inI ((IntKind.i64.wrap ((IntKind.u64.wrap (v9 + v10)).fdiv (2 ^ (min (1 : Int).toNat 64)))) + (1 : Int))) /\ (I1 ((IntKind.i64.wrap ((IntKind.u64.wrap (v9 + v10)).fdiv (2 ^ (min (1 : Int).toNat 64)))) + (1 : Int)) v10 /\ μ1 ((IntKind.i64.wrap ((IntKind.u64.wrap (v9 + v10)).fdiv (2 ^ (min (1 : Int).toNat 64)))) + (1 : Int)) v10 < μ1 v9 v10)) /\ (¬ ((cmpR (lat l (IntKind.i64.wrap ((IntKind.u64.wrap (v9 + v10)).fdiv (2 ^ (min (1 : Int).toNat 64))))) x) < (0 : Int)) -> (I1 v9 (IntKind.i64.wrap ((IntKind.u64.wrap (v9 + v10)).fdiv (2 ^ (min (1 : Int).toNat 64)))) /\ μ1 v9 (IntKind.i64.wrap ((IntKind.u64.wrap (v9 + v10)).fdiv (2 ^ (min (1 : Int).toNat 64)))) < μ1 v9 v10))) /\ (¬ (v9 < v10) -> (((v9 < (l.length : Int)) -> (0 <= v9 /\ v9 < (l.length : Int)) /\ True) /\ (¬ (v9 < (l.length : Int)) -> True)) /\ (Post v9 (decide ((v9 < (l.length : Int)) /\ (cmpR (lat l v9) x = (0 : Int))))))
theorem walk_bsR {l : (List Rg)} {x : Rg} {Post : Int -> Bool -> Prop} (hv : vc_bsR l x Post) : FnP Try.prog 46 [.lst true l.length (zYy e72 l), .agg (e72 x), .clo 45 [] []] (fun x => ∃ q0 q1, x = .tup [.int .i64 q0, .bool q1] /\ Post q0 q1) := by
 refine FnP.of_walk (T := tt) (nt := 49) ttOk ttMix ⟨⟨Try.f46, Try.func46, rfl, rfl, rfl, rfl⟩⟩ (by simp) ?_
 unfold vc_bsR at hv
 change W _ _ _ ⟨49, look [(0, .lst true l.length (zYy e72 l)), (1, .agg [.int .i64 x.op, .int .i64 x.ver, .int .i64 x.nu, .int .i64 x.le, .int .i64 x.mo]), (2, .clo 45 [] [])], [], 0⟩ _
 refine W.ty [(0, .lst _ _ _), (1, .agg _), (2, .clo _ _ _)] rfl (W.rL (cL rfl (o_box (v := .agg _) (p := 0) rfl rfl rfl (aI rfl rfl (aB rfl rfl (eL (W.ty [(0, .lst _ _ _), (2, .clo _ _ _), (4, .ptr _ _)] rfl (W.rL (mL rfl rfl (cL rfl (zXw (v := .lst _ _ _) tt54 rfl rfl (aI rfl rfl (eL (W.ty [(0, .lst _ _ _), (2, .clo _ _ _), (4, .ptr _ _), (8, .int _ _)] rfl (W.rL (mI rfl rfl ?_))))))))))))))))
 iterate 2 refine aI rfl rfl ?_
 refine eL (W.ty [(0, .lst _ _ _), (2, .clo _ _ _), (4, .ptr _ _), (8, .int _ _), (9, .int _ _), (10, .int _ _)] rfl (W.seq' (W.block ?_)))
 obtain ⟨I1, μ1, hp, hv⟩ := hv
 refine W.loop2 (fun v9 v10 => ⟨49, look [(0, .lst true l.length (zYy e72 l)), (2, .clo 45 [] []), (4, .ptr 0 0), (8, .int .i64 (l.length : Int)), (9, .int .i64 v9), (10, .int .i64 v10)], [.box 72 [.int .i64 x.op, .int .i64 x.ver, .int .i64 x.nu, .int .i64 x.le, .int .i64 x.mo]], 0⟩) I1 μ1 (0 : Int) (l.length : Int) (St.to_mk (φ := [some 0]) rfl (rfl) ⟨Ren.lst _ _ _, Ren.clo _ (Rens.nil) (Rens.nil), Ren.ptr rfl, Ren.int _ _, Ren.int _ _, Ren.int _ _, trivial⟩ ⟨(zB rfl rfl), trivial⟩) hp ?_
 clear hp
 intro v9 v10 hI
 replace hv := hv v9 v10 hI
 clear hI
 refine W.seq' (W.rL ?_)
 iterate 2 refine mI rfl rfl ?_
 refine cL rfl (zYq rfl rfl (eL (W.ty [(0, .lst _ _ _), (2, .clo _ _ _), (4, .ptr _ _), (8, .int _ _), (9, .int _ _), (10, .int _ _), (17, .bool _)] rfl (W.cn rfl (fun hc => ?_) (fun hc => ?_)))))
 have hv := hv.1 hc
 refine W.skip (zZ (W.ty [(0, .lst _ _ _), (2, .clo _ _ _), (4, .ptr _ _), (8, .int _ _), (9, .int _ _), (10, .int _ _)] rfl (W.block (W.rL ?_))))
 iterate 2 refine mI rfl rfl ?_
 obtain ⟨s10, hv⟩ := hv
 refine cL rfl (o_add rfl rfl s10 (cL rfl (o_conv tt3 tt99 rfl rfl (cL rfl (o_shr rfl rfl (by decide) (cL rfl (o_conv tt99 tt3 rfl rfl (aI rfl rfl (eL (W.ty [(0, .lst _ _ _), (2, .clo _ _ _), (4, .ptr _ _), (8, .int _ _), (9, .int _ _), (10, .int _ _), (11, .int _ _)] rfl (W.rD [0, 1, 2, 3, 4, 5, 6, 7] (by decide +kernel) rfl (cL rfl (zZp (v := .clo _ _ _) rfl (mL rfl rfl (mI rfl rfl ?_)))))))))))))))
 obtain ⟨s11, hv⟩ := hv
 refine cL rfl (zYu tt54 tt72 rfl rfl (enc72.wd true) rfl s11 ?_)
 intro rest11
 iterate 2 refine cL rfl (zYp (cs := [.int _ _, .int _ _, .int _ _, .int _ _, .int _ _]) tt72 rfl rfl ⟨_, rfl⟩ rfl ?_)
 refine cL rfl (zZu (k := 45) (fst := []) (caps := []) (ys := [.agg _, .agg _]) rfl rfl (spec_cmpR (lat l (IntKind.i64.wrap ((IntKind.u64.wrap (v9 + v10)).fdiv (2 ^ (min (1 : Int).toNat 64))))) x) zk (cL rfl (zYq rfl rfl (eL (W.ty [(0, .lst _ _ _), (2, .clo _ _ _), (4, .ptr _ _), (8, .int _ _), (9, .int _ _), (10, .int _ _), (11, .int _ _), (31, .bool _)] rfl (W.cn rfl (fun hc => ?_) (fun hc => ?_)))))))
 have hv := hv.1 hc
 refine W.rL1 (mI rfl rfl ?_)
 obtain ⟨s12, hv⟩ := hv
 refine cL rfl (o_add rfl rfl s12 (aI rfl rfl (eL (zYv (zZ (⟨(), ((IntKind.i64.wrap ((IntKind.u64.wrap (v9 + v10)).fdiv (2 ^ (min (1 : Int).toNat 64)))) + (1 : Int)), v10, hv, St.to_mk (φ := [some 0]) rfl (rfl) ⟨Ren.lst _ _ _, Ren.clo _ (Rens.nil) (Rens.nil), Ren.ptr rfl, Ren.int _ _, Ren.int _ _, Ren.int _ _, trivial⟩ ⟨(zB rfl rfl), trivial⟩⟩))))))
 have hv := hv.2 hc
 refine W.rL1 (mI rfl rfl (aI rfl rfl (eL (zYv (zZ (⟨(), v9, (IntKind.i64.wrap ((IntKind.u64.wrap (v9 + v10)).fdiv (2 ^ (min (1 : Int).toNat 64)))), hv, St.to_mk (φ := [some 0]) rfl (rfl) ⟨Ren.lst _ _ _, Ren.clo _ (Rens.nil) (Rens.nil), Ren.ptr rfl, Ren.int _ _, Ren.int _ _, Ren.int _ _, trivial⟩ ⟨(zB rfl rfl), trivial⟩⟩))))))
 have hv := hv.2 hc
 refine W.exit (zZt (zZt (zYs (zZ (W.ty [(0, .lst _ _ _), (2, .clo _ _ _), (4, .ptr _ _), (8, .int _ _), (9, .int _ _)] rfl ?_)))))
 obtain ⟨sd, hv⟩ := hv
 refine W.rDm ⟨49, look [(6, .int .i64 v9), (7, .bool (decide ((v9 < (l.length : Int)) /\ (cmpR (lat l v9) x = (0 : Int)))))], [.box 72 [.int .i64 x.op, .int .i64 x.ver, .int .i64 x.nu, .int .i64 x.le, .int .i64 x.mo]], 0⟩ [0, 1, 2, 3, 4, 5, 6, 7, 8, 9, 10, 11, 12, 13, 14, 15] (by decide +kernel) rfl ?_ ?_
 iterate 3 refine mI rfl rfl ?_
 refine cL rfl (zYq rfl rfl (mB rfl rfl ?_))
 by_cases c1 : v9 < (l.length : Int)
 have sd := sd.1 c1
 refine cLg rfl rfl (dT c1) (cL rfl (zZp (v := .clo _ _ _) rfl (cLg rfl rfl (dT c1) (mL rfl rfl (cLg rfl rfl (dT c1) (mI rfl rfl (cLg rfl rfl (dT c1) ?_)))))))
 obtain ⟨s14, sd⟩ := sd
 refine cL rfl (zYu tt54 tt72 rfl rfl (enc72.wd true) rfl s14 ?_)
 intro rest14
 refine cLg rfl rfl (dT c1) (cL rfl (zYp (cs := [.int _ _, .int _ _, .int _ _, .int _ _, .int _ _]) tt72 rfl rfl ⟨_, rfl⟩ rfl (cLg rfl rfl (dT c1) (cL rfl (zYp (cs := [.int _ _, .int _ _, .int _ _, .int _ _, .int _ _]) tt72 rfl rfl ⟨_, rfl⟩ rfl (cLg rfl rfl (dT c1) (cL rfl (zZu (k := 45) (fst := []) (caps := []) (ys := [.agg _, .agg _]) rfl rfl (spec_cmpR (lat l v9) x) zk (cLg rfl rfl (dT c1) (cL rfl (o_eqI rfl rfl rfl (cL rfl (zZv (v := .bool _) rfl (dT c1) rfl (aI rfl rfl (aB rfl rfl (eL (zYz ⟨rfl, (congrArg AV.bool (zXv c1 (rfl))).symm, trivial⟩ rfl)))))))))))))))))
 iterate 8 refine cLs rfl rfl rfl (dF c1) ?_
 refine cL rfl (zZy (v := .bool _) rfl (dF c1) rfl (aI rfl rfl (aB rfl rfl (eL (zYz ⟨rfl, (congrArg AV.bool (dAndF c1)).symm, trivial⟩ rfl)))))
 refine W.ret (rt (rt_t (v := .int _ _) rfl (rt_t (v := .bool _) rfl (rt_n (⟨_, rs_tup 5 _ (Wks.cons (zY _ _ _ _) (Wks.cons (zYr _ _ _) zk)), v9, (decide ((v9 < (l.length : Int)) /\ (cmpR (lat l v9) x = (0 : Int)))), rfl, hv⟩)))))
set_option maxHeartbeats 4000000 in
theorem vcp_bsR (l : (List Rg)) (x : Rg) (h0 : l.length <= 1073741824) : vc_bsR l x (fun q0 q1 => q0 = (bsM l x).1 /\ q1 = (bsM l x).2) := by
  unfold vc_bsR
  refine ⟨fun i j => (0 <= i /\ i <= j /\ j <= (l.length : Int)) /\ ∀ n : Nat, j - i < n -> bsGo l x n i j = bsI l x, fun i j => (j - i).toNat, ⟨⟨by omega, by omega, by omega⟩, fun n hn => bsGo_fuel _ _ _ _ _ _ (by omega) hn (by omega)⟩, ?_⟩
  rintro i j ⟨⟨b1, b2, b3⟩, hI⟩
  refine ⟨fun k => ?_, fun k => ⟨⟨fun k2 => ⟨⟨b1, k2⟩, trivial⟩, fun _ => trivial⟩, ?_⟩⟩
  . rw [half_wrap ⟨by omega, by omega⟩]
    have ht : (i + j).tdiv 2 = (i + j) / 2 := Int.tdiv_eq_ediv_of_nonneg (by omega)
    have step : ∀ n : Nat, bsGo l x (n + 1) i j = if cmpR (lat l ((i + j).tdiv 2)) x < 0 then bsGo l x n ((i + j).tdiv 2 + 1) j else bsGo l x n i ((i + j).tdiv 2) := fun n => by
      conv => lhs; unfold bsGo
      rw [if_pos k]
    refine ⟨by unfold inI; omega, ⟨by omega, by omega⟩, fun c => ⟨by unfold inI; omega, ⟨⟨by omega, by omega, b3⟩, fun n hn => ?_⟩, by show (j - _).toNat < (j - i).toNat; omega⟩, fun c => ⟨⟨⟨b1, by omega, by omega⟩, fun n hn => ?_⟩, by show (_ - i).toNat < (j - i).toNat; omega⟩⟩
    . have := hI ((j - i).toNat + n + 1) (by omega)
      rw [step, if_pos c] at this
      rw [<- this]
      exact bsGo_fuel _ _ _ _ _ _ (by omega) hn (by omega)
    . have := hI ((j - i).toNat + n + 1) (by omega)
      rw [step, if_neg c] at this
      rw [<- this]
      exact bsGo_fuel _ _ _ _ _ _ (by omega) hn (by omega)
  . have := hI 1 (by omega)
    have e : bsGo l x 1 i j = i := by unfold bsGo; rw [if_neg k]
    rw [e] at this
    subst this
    exact ⟨rfl, rfl⟩
theorem spec_bsR (l : (List Rg)) (x : Rg) (h0 : l.length <= 1073741824) : FnP Try.prog 46 [.lst true l.length (zYy e72 l), .agg (e72 x), .clo 45 [] []] (fun xR => xR = .tup [.int .i64 ((bsM l x).1), .bool ((bsM l x).2)]) :=
  (walk_bsR (vcp_bsR l x h0)).mono (by rintro _ ⟨_, _, rfl, rfl, rfl⟩; rfl)
end Go.Lat
