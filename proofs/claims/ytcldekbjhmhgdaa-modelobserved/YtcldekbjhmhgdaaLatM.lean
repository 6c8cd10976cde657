/- The law latecomerlaw23.ModelObserved returns true for every input, and each argument reads afterwards as it read before. Part 13 of 16. No condition. -/
import Derived.Test.YtcldekbjhmhgdaaLatE
import Derived.Test.YtcldekbjhmhgdaaLatF
import Derived.Test.YtcldekbjhmhgdaaLatD
import Derived.Test.YtcldekbjhmhgdaaLatL
set_option linter.unusedVariables false
set_option linter.unusedSimpArgs false
set_option linter.unnecessarySimpa false
set_option maxRecDepth 100000
set_option maxHeartbeats 4000000
namespace Go.Lat
open Go.RowKit Go.Proofs
attribute [local irreducible] seqL opC
def vc_MadeFacts (x : (List (Vector Int 4))) (Post : (List Fct) -> Prop) : Prop :=
  ∃ (I1 : Int -> List Fct -> Prop) (μ1 : Int -> List Fct -> Nat), I1 (0 : Int) [] /\ ∀ (v4 : Int) (r0 : List Fct), I1 v4 r0 -> (((v4 < (x.length : Int)) /\ (v4 < (40 : Int))) -> ∃ J2 : List Fct -> Prop, (∀ (r0_1 : List Fct), J2 r0_1 -> (inI (v4 + (1 : Int))) /\ (I1 (v4 + (1 : Int)) r0_1 /\ μ1 (v4 + (1 : Int)) r0_1 < μ1 v4 r0)) /\ ((0 <= v4 /\ v4 < (x.length : Int)) /\ (0 <= (0 : Int) /\ (0 : Int) < ((4 : Nat) : Int)) /\ (0 <= v4 /\ v4 < (x.length : Int)) /\ (0 <= (0 : Int) /\ (0 : Int) < ((4 : Nat) : Int)) /\ (inI ((vat (lat x v4) (0 : Int).toNat).tdiv (30 : Int))) /\ (0 <= v4 /\ v4 < (x.length : Int)) /\ (0 <= (1 : Int) /\ (1 : Int) < ((4 : Nat) : Int)) /\ (0 <= v4 /\ v4 < (x.length : Int)) /\ (0 <= (1 : Int) /\ (1 : Int) < ((4 : Nat) : Int)) /\ (inI ((vat (lat x v4) (1 : Int).toNat).tdiv (2 : Int))) /\ (0 <= v4 /\ v4 < (x.length : Int)) /\ (0 <= (1 : Int) /\ (1 : Int) < ((4 : Nat) : Int)) /\ (inI ((vat (lat x v4) (1 : Int).toNat).tdiv (6 : Int))) /\ (0 <= v4 /\ v4 < (x.length : Int)) /\ (0 <= (2 : Int) /\ (2 : Int) < ((4 : Nat) : Int)) /\ (0 <= v4 /\ v4 < (x.length : Int)) /\ (0 <= (1 : Int) /\ (1 : Int) < ((4 : Nat) : Int)) /\ (inI ((vat (lat x v4) (1 : Int).toNat).tdiv (30 : Int))) /\ (1 <= (30 : Int)) /\ (inI (vat (lat x v4) (0 : Int).toNat)) /\ (1 <= (4 : Int)) /\ (inI ((vat (lat x v4) (0 : Int).toNat).tdiv (30 : Int))) /\ (1 <= (2 : Int)) /\ (inI (vat (lat x v4) (1 : Int).toNat)) /\ (1 <= (3 : Int)) /\ (inI ((vat (lat x v4) (1 : Int).toNat).tdiv (2 : Int))) /\ (1 <= (5 : Int)) /\ (inI ((vat (lat x v4) (1 : Int).toNat).tdiv (6 : Int))) /\ (inI ((pickM ((vat (lat x v4) (1 : Int).toNat).tdiv (6 : Int)) (5 : Int)) - (1 : Int))) /\ (1 <= (40 : Int)) /\ (inI (vat (lat x v4) (2 : Int).toNat)) /\ (1 <= (100 : Int)) /\ (inI ((vat (lat x v4) (1 : Int).toNat).tdiv (30 : Int))) /\ (inI ((2 : Int) * (pickM (vat (lat x v4) (1 : Int).toNat) (2 : Int)))) /\ (0 <= v4 /\ v4 < (x.length : Int)) /\ (0 <= (1 : Int) /\ (1 : Int) < ((4 : Nat) : Int)) /\ (inI ((vat (lat x v4) (1 : Int).toNat).tdiv (3000 : Int))) /\ (1 <= (2 : Int)) /\ (inI ((vat (lat x v4) (1 : Int).toNat).tdiv (3000 : Int))) /\ (inI (((2 : Int) * (pickM (vat (lat x v4) (1 : Int).toNat) (2 : Int))) + (pickM ((vat (lat x v4) (1 : Int).toNat).tdiv (3000 : Int)) (2 : Int)))) /\ ∃ J3 : Fct -> Prop, (∀ (b1 : Fct), J3 b1 -> (0 <= v4 /\ v4 < (x.length : Int)) /\ (0 <= (3 : Int) /\ (3 : Int) < ((4 : Nat) : Int)) /\ (inI ((vat (lat x v4) (3 : Int).toNat).tdiv (4 : Int))) /\ (0 <= v4 /\ v4 < (x.length : Int)) /\ (0 <= (3 : Int) /\ (3 : Int) < ((4 : Nat) : Int)) /\ (inI ((vat (lat x v4) (3 : Int).toNat).tdiv (12 : Int))) /\ (1 <= (3 : Int)) /\ (inI ((vat (lat x v4) (3 : Int).toNat).tdiv (4 : Int))) /\ (1 <= (30 : Int)) /\ (inI ((vat (lat x v4) (3 : Int).toNat).tdiv (12 : Int))) /\ (inI ((pickM ((vat (lat x v4) (3 : Int).toNat).tdiv (4 : Int)) (3 : Int)) * (pickM ((vat (lat x v4) (3 : Int).toNat).tdiv (12 : Int)) (30 : Int)))) /\ (inI (b1.lo + ((pickM ((vat (lat x v4) (3 : Int).toNat).tdiv (4 : Int)) (3 : Int)) * (pickM ((vat (lat x v4) (3 : Int).toNat).tdiv (12 : Int)) (30 : Int))))) /\ (inI (b1.tr.tdiv (10 : Int))) /\ ∃ (I4 : Int -> Prop) (μ4 : Int -> Nat), I4 (0 : Int) /\ ∀ (v6 : Int), I4 v6 -> (((v6 < (r0.length : Int)) -> (0 <= v6 /\ v6 < (r0.length : Int)) /\ ((((lat r0 v6).tr) < b1.tr) -> True) /\ (¬ (((lat r0 v6).tr) < b1.tr) -> (0 <= v6 /\ v6 < (r0.length : Int)) /\ (((lat r0 v6).tr = b1.tr) -> (0 <= v6 /\ v6 < (r0.length : Int)) /\ True) /\ (¬ ((lat r0 v6).tr = b1.tr) -> True))) /\ (¬ (v6 < (r0.length : Int)) -> True)) /\ ((((v6 < (r0.length : Int)) /\ ((((lat r0 v6).tr) < b1.tr) \/ (((lat r0 v6).tr = b1.tr) /\ (((lat r0 v6).sp) < b1.sp)))) -> (inI (v6 + (1 : Int))) /\ (I4 (v6 + (1 : Int)) /\ μ4 (v6 + (1 : Int)) < μ4 v6)) /\ (¬ ((v6 < (r0.length : Int)) /\ ((((lat r0 v6).tr) < b1.tr) \/ (((lat r0 v6).tr = b1.tr) /\ (((lat r0 v6).sp) < b1.sp)))) -> (((v6 < (r0.length : Int)) -> (0 <= v6 /\ v6 < (r0.length : Int)) /\ (((lat r0 v6).tr = b1.tr) -> (0 <= v6 /\ v6 < (r0.length : Int)) /\ True) /\ (¬ ((lat r0 v6).tr = b1.tr) -> True)) /\ (¬ (v6 < (r0.length : Int)) -> True)) /\ ((((v6 < (r0.length : Int)) /\ (((lat r0 v6).tr = b1.tr) /\ ((lat r0 v6).sp = b1.sp))) -> J2 r0) /\ (¬ ((v6 < (r0.length : Int)) /\ (((lat r0 v6).tr = b1.tr) /\ ((lat r0 v6).sp = b1.sp))) -> (r0.length = 0 -> (v6 = 0) /\ (v6 = 0 /\ ((0 : Nat) : Int) = 0) /\ (([(Fct.mk b1.tr b1.sp b1.se b1.ver b1.op b1.pe (b1.tr.tdiv (10 : Int)) b1.lo (b1.lo + ((pickM ((vat (lat x v4) (3 : Int).toNat).tdiv (4 : Int)) (3 : Int)) * (pickM ((vat (lat x v4) (3 : Int).toNat).tdiv (12 : Int)) (30 : Int)))) b1.by_)] ++ []).length <= 1073741824) /\ (([(Fct.mk b1.tr b1.sp b1.se b1.ver b1.op b1.pe (b1.tr.tdiv (10 : Int)) b1.lo (b1.lo + ((pickM ((vat (lat x v4) (3 : Int).toNat).tdiv (4 : Int)) (3 : Int)) * (pickM ((vat (lat x v4) (3 : Int).toNat).tdiv (12 : Int)) (30 : Int)))) b1.by_)] ++ []).length <= 1073741824) /\ J2 ([(Fct.mk b1.tr b1.sp b1.se b1.ver b1.op b1.pe (b1.tr.tdiv (10 : Int)) b1.lo (b1.lo + ((pickM ((vat (lat x v4) (3 : Int).toNat).tdiv (4 : Int)) (3 : Int)) * (pickM ((vat (lat x v4) (3 : Int).toNat).tdiv (12 : Int)) (30 : Int)))) b1.by_)] ++ [])) /\ (0 < r0.length -> (0 <= v6 /\ v6 <= (r0.length : Int)) /\ (0 < r0.length /\ 0 <= v6 /\ v6 <= (r0.length : Int) /\ (r0.length : Int) <= (r0.length : Int)) /\ (r0.length - v6.toNat = ((r0.drop v6.toNat).take (r0.length - v6.toNat)).length) /\ (([(Fct.mk b1.tr b1.sp b1.se b1.ver b1.op b1.pe (b1.tr.tdiv (10 : Int)) b1.lo (b1.lo + ((pickM ((vat (lat x v4) (3 : Int).toNat).tdiv (4 : Int)) (3 : Int)) * (pickM ((vat (lat x v4) (3 : Int).toNat).tdiv (12 : Int)) (30 : Int)))) b1.by_)] ++ ((r0.drop v6.toNat).take (r0.length - v6.toNat))).length <= 1073741824) /\ (v6.toNat <= r0.length) /\ (0 < ([(Fct.mk b1.tr b1.sp b1.se b1.ver b1.op b1.pe (b1.tr.tdiv (10 : Int)) b1.lo (b1.lo + ((pickM ((vat (lat x v4) (3 : Int).toNat).tdiv (4 : Int)) (3 : Int)) * (pickM ((vat (lat x v4) (3 : Int).toNat).tdiv (12 : Int)) (30 : Int)))) b1.by_)] ++ ((r0.drop v6.toNat).take (r0.length - v6.toNat))).length) /\ (v6.toNat + ([(Fct.mk b1.tr b1.sp b1.se b1.ver b1.op b1.pe (b1.tr.tdiv (10 : Int)) b1.lo (b1.lo + ((pickM ((vat (lat x v4) (3 : Int).toNat).tdiv (4 : Int)) (3 : Int)) * (pickM ((vat (lat x v4) (3 : Int).toNat).tdiv (12 : Int)) (30 : Int)))) b1.by_)] ++ ((r0.drop v6.toNat).take (r0.length - v6.toNat))).length <= 1073741824) /\ J2 (r0.take v6.toNat ++ ([(Fct.mk b1.tr b1.sp b1.se b1.ver b1.op b1.pe (b1.tr.tdiv (10 : Int)) b1.lo (b1.lo + ((pickM ((vat (lat x v4) (3 : Int).toNat).tdiv (4 : Int)) (3 : Int)) * (pickM ((vat (lat x v4) (3 : Int).toNat).tdiv (12 : Int)) (30 : Int)))) b1.by_)] ++ ((r0.drop v6.toNat).take (r0.length - v6.toNat)))))))))) /\ ((0 <= v4 /\ v4 < (x.length : Int)) /\ (0 <= (3 : Int) /\ (3 : Int) < ((4 : Nat) : Int)) /\ (1 <= (4 : Int)) /\ (inI (vat (lat x v4) (3 : Int).toNat)) /\ ((pickM (vat (lat x v4) (3 : Int).toNat) (4 : Int) = (3 : Int)) -> (0 <= v4 /\ v4 < (x.length : Int)) /\ (0 <= (2 : Int) /\ (2 : Int) < ((4 : Nat) : Int)) /\ (1 <= (2199023255552 : Int)) /\ (inI (vat (lat x v4) (2 : Int).toNat)) /\ J3 (Fct.mk (pickM (vat (lat x v4) (0 : Int).toNat) (30 : Int)) (pickM ((vat (lat x v4) (0 : Int).toNat).tdiv (30 : Int)) (4 : Int)) (pickM (vat (lat x v4) (1 : Int).toNat) (2 : Int)) (pickM ((vat (lat x v4) (1 : Int).toNat).tdiv (2 : Int)) (3 : Int)) (((2 : Int) * (pickM (vat (lat x v4) (1 : Int).toNat) (2 : Int))) + (pickM ((vat (lat x v4) (1 : Int).toNat).tdiv (3000 : Int)) (2 : Int))) ((pickM ((vat (lat x v4) (1 : Int).toNat).tdiv (6 : Int)) (5 : Int)) - (1 : Int)) (0 : Int) (pickM (vat (lat x v4) (2 : Int).toNat) (2199023255552 : Int)) (0 : Int) (pickM ((vat (lat x v4) (1 : Int).toNat).tdiv (30 : Int)) (100 : Int)))) /\ (¬ (pickM (vat (lat x v4) (3 : Int).toNat) (4 : Int) = (3 : Int)) -> J3 (Fct.mk (pickM (vat (lat x v4) (0 : Int).toNat) (30 : Int)) (pickM ((vat (lat x v4) (0 : Int).toNat).tdiv (30 : Int)) (4 : Int)) (pickM (vat (lat x v4) (1 : Int).toNat) (2 : Int)) (pickM ((vat (lat x v4) (1 : Int).toNat).tdiv (2 : Int)) (3 : Int)) (((2 : Int) * (pickM (vat (lat x v4) (1 : Int).toNat) (2 : Int))) + (pickM ((vat (lat x v4) (1 : Int).toNat).tdiv (3000 : Int)) (2 : Int))) ((pickM ((vat (lat x v4) (1 : Int).toNat).tdiv (6 : Int)) (5 : Int)) - (1 : Int)) (0 : Int) (pickM (vat (lat x v4) (2 : Int).toNat) (40 : Int)) (0 : Int) (pickM ((vat (lat x v4) (1 : Int).toNat).tdiv (30 : Int)) (100 : Int))))))) /\ (¬ ((v4 < (x.length : Int)) /\ (v4 < (40 : Int))) -> Post r0)
theorem walk_MadeFacts {x : (List (Vector Int 4))} {Post : (List Fct) -> Prop} (hv : vc_MadeFacts x Post) : FnP Try.prog 25 [.lst true x.length (zYy eV4 x)] (fun x => ∃ q0, x = .lst false q0.length (zYy e69 q0) /\ Post q0) := by
 refine FnP.of_walk (T := tt) (nt := 186) ttOk ttMix ⟨⟨Try.f25, Try.func25, rfl, rfl, rfl, rfl⟩⟩ (by simp) ?_
 unfold vc_MadeFacts at hv
 change W _ _ _ ⟨186, look [(0, .lst true x.length (zYy eV4 x))], [], 0⟩ _
 refine W.ty [(0, .lst _ _ _)] rfl (W.rL (cL rfl (zZq (v := .nilS) rfl (eL (W.ty [(0, .lst _ _ _)] rfl (W.rL (cL rfl (zZq (v := .nilS) rfl (eL (W.ty [(0, .lst _ _ _), (3, .nilS)] rfl (W.seq' (W.rL (aI rfl rfl (eL (W.ty [(0, .lst _ _ _), (3, .nilS), (4, .int _ _)] rfl (W.block ?_))))))))))))))))
 obtain ⟨I1, μ1, hp, hv⟩ := hv
 refine W.loop2 (fun v4 r0 => ⟨186, look [(0, .lst true x.length (zYy eV4 x)), (3, .ref true 0 r0.length), (4, .int .i64 v4)], [.row 69 10 (zYy e69 r0)], 0⟩) I1 μ1 (0 : Int) [] (St.to_mk (φ := [none]) rfl (rfl) ⟨Ren.lst _ _ _, Ren.nilR rfl rfl, Ren.int _ _, trivial⟩ ⟨rfl, trivial⟩) hp ?_
 clear hp
 intro v4 r0 hI
 replace hv := hv v4 r0 hI
 clear hI
 refine W.seq' (W.rLm ⟨186, look [(0, .lst true x.length (zYy eV4 x)), (3, .ref true 0 r0.length), (4, .int .i64 v4), (14, .bool (decide ((v4 < (x.length : Int)) /\ (v4 < (40 : Int)))))], [.row 69 10 (zYy e69 r0)], 0⟩ ?_ ?_)
 refine mI rfl rfl (mL rfl rfl (cL rfl (zXw (v := .lst _ _ _) tt22 rfl rfl (cL rfl (zYq rfl rfl (mB rfl rfl ?_))))))
 by_cases c1 : v4 < (x.length : Int)
 refine cLg rfl rfl (dT c1) (mI rfl rfl (cLg rfl rfl (dT c1) (cL rfl (zYq rfl rfl (cL rfl (zZv (v := .bool _) rfl (dT c1) rfl (eL (zYz ⟨rfl, rfl, rfl, (congrArg AV.bool (zXv c1 (rfl))).symm, trivial⟩ rfl))))))))
 iterate 2 refine cLs rfl rfl rfl (dF c1) ?_
 refine cL rfl (zZy (v := .bool _) rfl (dF c1) rfl (eL (zYz ⟨rfl, rfl, rfl, (congrArg AV.bool (dAndF c1)).symm, trivial⟩ rfl)))
 refine W.cn rfl (fun hc => ?_) (fun hc => ?_)
 have hv := hv.1 hc
 refine W.skip (zZ (W.ty [(0, .lst _ _ _), (3, .ref _ _ _), (4, .int _ _)] rfl ?_))
 obtain ⟨J2, hj, hv⟩ := hv
 refine W.mid1 (fun r0_1 => ⟨186, look [(0, .lst true x.length (zYy eV4 x)), (3, .ref true 0 r0_1.length), (4, .int .i64 v4)], [.row 69 10 (zYy e69 r0_1)], 0⟩) J2 ?_ ?_
 intro r0_1
 intro hv
 replace hv := hj r0_1 hv
 refine W.rL1 (mI rfl rfl ?_)
 obtain ⟨s1510, hv⟩ := hv
 refine cL rfl (o_add rfl rfl s1510 (aI rfl rfl (eL (zZ (⟨(), (v4 + (1 : Int)), r0_1, hv, St.to_mk (φ := [some 0]) rfl (rfl) ⟨Ren.lst _ _ _, Ren.ref rfl (fun h => rfl), Ren.int _ _, trivial⟩ ⟨zE enc69 false r0_1 rfl, trivial⟩⟩)))))
 clear hj
 refine W.block (W.rP [0, 1, 2, 3, 4, 6, 7, 8, 9, 10, 11, 13, 14, 15, 16, 17, 19, 20, 21, 22, 23, 24, 26, 27, 28, 29, 30, 31, 34, 35, 36, 37, 38, 40, 41, 42, 43, 44, 45, 48, 5, 12, 18, 25, 32, 33, 39, 46, 47, 49] (by decide +kernel) rfl (mL rfl rfl (mI rfl rfl ?_)))
 obtain ⟨s1511, hv⟩ := hv
 refine cL rfl (zYu tt22 tt73 rfl rfl (encV4.wd true) rfl s1511 ?_)
 intro rest1511
 obtain ⟨s1512, hv⟩ := hv
 refine cL rfl (o_iaPV tt73 tt3 rfl rfl s1512 ?_)
 intro rest1512
 refine cL rfl (zZx (v := .int _ _) tt3 rfl rfl ⟨_, rfl⟩ (mL rfl rfl (mI rfl rfl ?_)))
 obtain ⟨s1513, hv⟩ := hv
 refine cL rfl (zYu tt22 tt73 rfl rfl (encV4.wd true) rfl s1513 ?_)
 intro rest1513
 obtain ⟨s1514, hv⟩ := hv
 refine cL rfl (o_iaPV tt73 tt3 rfl rfl s1514 ?_)
 intro rest1514
 refine cL rfl (zZx (v := .int _ _) tt3 rfl rfl ⟨_, rfl⟩ ?_)
 obtain ⟨s1515, hv⟩ := hv
 refine cL rfl (o_quo rfl rfl (by decide) s1515 (mL rfl rfl (mI rfl rfl ?_)))
 obtain ⟨s1516, hv⟩ := hv
 refine cL rfl (zYu tt22 tt73 rfl rfl (encV4.wd true) rfl s1516 ?_)
 intro rest1516
 obtain ⟨s1517, hv⟩ := hv
 refine cL rfl (o_iaPV tt73 tt3 rfl rfl s1517 ?_)
 intro rest1517
 refine cL rfl (zZx (v := .int _ _) tt3 rfl rfl ⟨_, rfl⟩ (mL rfl rfl (mI rfl rfl ?_)))
 obtain ⟨s1518, hv⟩ := hv
 refine cL rfl (zYu tt22 tt73 rfl rfl (encV4.wd true) rfl s1518 ?_)
 intro rest1518
 obtain ⟨s1519, hv⟩ := hv
 refine cL rfl (o_iaPV tt73 tt3 rfl rfl s1519 ?_)
 intro rest1519
 refine cL rfl (zZx (v := .int _ _) tt3 rfl rfl ⟨_, rfl⟩ ?_)
 obtain ⟨s1520, hv⟩ := hv
 refine cL rfl (o_quo rfl rfl (by decide) s1520 (mL rfl rfl (mI rfl rfl ?_)))
 obtain ⟨s1521, hv⟩ := hv
 refine cL rfl (zYu tt22 tt73 rfl rfl (encV4.wd true) rfl s1521 ?_)
 intro rest1521
 obtain ⟨s1522, hv⟩ := hv
 refine cL rfl (o_iaPV tt73 tt3 rfl rfl s1522 ?_)
 intro rest1522
 refine cL rfl (zZx (v := .int _ _) tt3 rfl rfl ⟨_, rfl⟩ ?_)
 obtain ⟨s1523, hv⟩ := hv
 refine cL rfl (o_quo rfl rfl (by decide) s1523 (mL rfl rfl (mI rfl rfl ?_)))
 obtain ⟨s1524, hv⟩ := hv
 refine cL rfl (zYu tt22 tt73 rfl rfl (encV4.wd true) rfl s1524 ?_)
 intro rest1524
 obtain ⟨s1525, hv⟩ := hv
 refine cL rfl (o_iaPV tt73 tt3 rfl rfl s1525 ?_)
 intro rest1525
 refine cL rfl (zZx (v := .int _ _) tt3 rfl rfl ⟨_, rfl⟩ (mL rfl rfl (mI rfl rfl ?_)))
 obtain ⟨s1526, hv⟩ := hv
 refine cL rfl (zYu tt22 tt73 rfl rfl (encV4.wd true) rfl s1526 ?_)
 intro rest1526
 obtain ⟨s1527, hv⟩ := hv
 refine cL rfl (o_iaPV tt73 tt3 rfl rfl s1527 ?_)
 intro rest1527
 refine cL rfl (zZx (v := .int _ _) tt3 rfl rfl ⟨_, rfl⟩ ?_)
 obtain ⟨s1528, hv⟩ := hv
 refine cL rfl (o_quo rfl rfl (by decide) s1528 (cL rfl (zXy (p := 1) tt69 rfl rfl ?_)))
 obtain ⟨s1529, s1530, hv⟩ := hv
 refine cL rfl (zZu (k := 39) (fst := []) (caps := []) (ys := [.int _ _, .int _ _]) rfl rfl (spec_pick39 (vat (lat x v4) (0 : Int).toNat) (30 : Int) s1529 s1530) zk ?_)
 obtain ⟨s1531, s1532, hv⟩ := hv
 refine cL rfl (zZu (k := 39) (fst := []) (caps := []) (ys := [.int _ _, .int _ _]) rfl rfl (spec_pick39 ((vat (lat x v4) (0 : Int).toNat).tdiv (30 : Int)) (4 : Int) s1531 s1532) zk ?_)
 obtain ⟨s1533, s1534, hv⟩ := hv
 refine cL rfl (zZu (k := 39) (fst := []) (caps := []) (ys := [.int _ _, .int _ _]) rfl rfl (spec_pick39 (vat (lat x v4) (1 : Int).toNat) (2 : Int) s1533 s1534) zk ?_)
 obtain ⟨s1535, s1536, hv⟩ := hv
 refine cL rfl (zZu (k := 39) (fst := []) (caps := []) (ys := [.int _ _, .int _ _]) rfl rfl (spec_pick39 ((vat (lat x v4) (1 : Int).toNat).tdiv (2 : Int)) (3 : Int) s1535 s1536) zk ?_)
 obtain ⟨s1537, s1538, hv⟩ := hv
 refine cL rfl (zZu (k := 39) (fst := []) (caps := []) (ys := [.int _ _, .int _ _]) rfl rfl (spec_pick39 ((vat (lat x v4) (1 : Int).toNat).tdiv (6 : Int)) (5 : Int) s1537 s1538) zk ?_)
 obtain ⟨s1539, hv⟩ := hv
 refine cL rfl (o_sub rfl rfl s1539 ?_)
 obtain ⟨s1540, s1541, hv⟩ := hv
 refine cL rfl (zZu (k := 39) (fst := []) (caps := []) (ys := [.int _ _, .int _ _]) rfl rfl (spec_pick39 (vat (lat x v4) (2 : Int).toNat) (40 : Int) s1540 s1541) zk ?_)
 obtain ⟨s1542, s1543, hv⟩ := hv
 refine cL rfl (zZu (k := 39) (fst := []) (caps := []) (ys := [.int _ _, .int _ _]) rfl rfl (spec_pick39 ((vat (lat x v4) (1 : Int).toNat).tdiv (30 : Int)) (100 : Int) s1542 s1543) zk (cL rfl (o_build (qs := [(0, .int _ _), (1, .int _ _), (2, .int _ _), (3, .int _ _), (5, .int _ _), (7, .int _ _), (9, .int _ _)]) (cs := [.int _ _, .int _ _, .int _ _, .int _ _, .int _ _, .int _ _, .int _ _, .int _ _, .int _ _, .int _ _]) tt69 rfl rfl rfl (cLn (o_stB (v := .agg _) (vs := [.int _ _, .int _ _, .int _ _, .int _ _, .int _ _, .int _ _, .int _ _, .int _ _, .int _ _, .int _ _]) (cs2 := [.int _ _, .int _ _, .int _ _, .int _ _, .int _ _, .int _ _, .int _ _, .int _ _, .int _ _, .int _ _]) tt69 rfl rfl rfl rfl rfl (Nat.le_of_ble_eq_true rfl) rfl (eL (W.ty [(0, .lst _ _ _), (3, .ref _ _ _), (4, .int _ _), (5, .ptr _ _)] rfl (W.rD [0, 1, 2, 3, 4, 5, 6, 7, 8, 9, 10, 11, 12] (by decide +kernel) rfl (cL rfl (o_fa tt69 rfl tt3 rfl (cL rfl (zZx (v := .int _ _) tt3 rfl rfl ⟨_, rfl⟩ ?_))))))))))))
 obtain ⟨s1544, hv⟩ := hv
 refine cL rfl (o_mul rfl rfl s1544 (mL rfl rfl (mI rfl rfl ?_)))
 obtain ⟨s1545, hv⟩ := hv
 refine cL rfl (zYu tt22 tt73 rfl rfl (encV4.wd true) rfl s1545 ?_)
 intro rest1545
 obtain ⟨s1546, hv⟩ := hv
 refine cL rfl (o_iaPV tt73 tt3 rfl rfl s1546 ?_)
 intro rest1546
 refine cL rfl (zZx (v := .int _ _) tt3 rfl rfl ⟨_, rfl⟩ ?_)
 obtain ⟨s1547, hv⟩ := hv
 refine cL rfl (o_quo rfl rfl (by decide) s1547 ?_)
 obtain ⟨s1548, s1549, hv⟩ := hv
 refine cL rfl (zZu (k := 39) (fst := []) (caps := []) (ys := [.int _ _, .int _ _]) rfl rfl (spec_pick39 ((vat (lat x v4) (1 : Int).toNat).tdiv (3000 : Int)) (2 : Int) s1548 s1549) zk ?_)
 obtain ⟨s1550, hv⟩ := hv
 refine cL rfl (o_add rfl rfl s1550 (cL rfl (o_fa tt69 rfl tt3 rfl (cLn (o_stB (v := .int _ _) (vs := [.int _ _]) (cs2 := [.int _ _, .int _ _, .int _ _, .int _ _, .int _ _, .int _ _, .int _ _, .int _ _, .int _ _, .int _ _]) tt3 rfl rfl rfl rfl rfl (Nat.le_of_ble_eq_true rfl) rfl (eL (W.ty [(0, .lst _ _ _), (3, .ref _ _ _), (4, .int _ _), (5, .ptr _ _)] rfl ?_)))))))
 obtain ⟨J3, hj, hv⟩ := hv
 refine W.mid1 (fun b1 => ⟨186, look [(0, .lst true x.length (zYy eV4 x)), (3, .ref true 0 r0.length), (4, .int .i64 v4), (5, .ptr 1 0)], [.row 69 10 (zYy e69 r0), .box 69 [.int .i64 b1.tr, .int .i64 b1.sp, .int .i64 b1.se, .int .i64 b1.ver, .int .i64 b1.op, .int .i64 b1.pe, .int .i64 b1.da, .int .i64 b1.lo, .int .i64 b1.hi, .int .i64 b1.by_]], 0⟩) J3 ?_ ?_
 intro b1
 intro hv
 replace hv := hj b1 hv
 refine W.rP [0, 1, 2, 3, 4, 5, 6, 7, 9, 10, 11, 12, 13, 14, 8, 15, 16, 17, 18, 19] (by decide +kernel) rfl (cL rfl (o_fa tt69 rfl tt3 rfl (cL rfl (zZx (v := .int _ _) tt3 rfl rfl ⟨_, rfl⟩ (mL rfl rfl (mI rfl rfl ?_))))))
 obtain ⟨s1559, hv⟩ := hv
 refine cL rfl (zYu tt22 tt73 rfl rfl (encV4.wd true) rfl s1559 ?_)
 intro rest1559
 obtain ⟨s1560, hv⟩ := hv
 refine cL rfl (o_iaPV tt73 tt3 rfl rfl s1560 ?_)
 intro rest1560
 refine cL rfl (zZx (v := .int _ _) tt3 rfl rfl ⟨_, rfl⟩ ?_)
 obtain ⟨s1561, hv⟩ := hv
 refine cL rfl (o_quo rfl rfl (by decide) s1561 (mL rfl rfl (mI rfl rfl ?_)))
 obtain ⟨s1562, hv⟩ := hv
 refine cL rfl (zYu tt22 tt73 rfl rfl (encV4.wd true) rfl s1562 ?_)
 intro rest1562
 obtain ⟨s1563, hv⟩ := hv
 refine cL rfl (o_iaPV tt73 tt3 rfl rfl s1563 ?_)
 intro rest1563
 refine cL rfl (zZx (v := .int _ _) tt3 rfl rfl ⟨_, rfl⟩ ?_)
 obtain ⟨s1564, hv⟩ := hv
 refine cL rfl (o_quo rfl rfl (by decide) s1564 ?_)
 obtain ⟨s1565, s1566, hv⟩ := hv
 refine cL rfl (zZu (k := 39) (fst := []) (caps := []) (ys := [.int _ _, .int _ _]) rfl rfl (spec_pick39 ((vat (lat x v4) (3 : Int).toNat).tdiv (4 : Int)) (3 : Int) s1565 s1566) zk ?_)
 obtain ⟨s1567, s1568, hv⟩ := hv
 refine cL rfl (zZu (k := 39) (fst := []) (caps := []) (ys := [.int _ _, .int _ _]) rfl rfl (spec_pick39 ((vat (lat x v4) (3 : Int).toNat).tdiv (12 : Int)) (30 : Int) s1567 s1568) zk ?_)
 obtain ⟨s1569, hv⟩ := hv
 refine cL rfl (o_mul rfl rfl s1569 ?_)
 obtain ⟨s1570, hv⟩ := hv
 refine cL rfl (o_add rfl rfl s1570 (cL rfl (o_fa tt69 rfl tt3 rfl (cLn (o_stB (v := .int _ _) (vs := [.int _ _]) (cs2 := [.int _ _, .int _ _, .int _ _, .int _ _, .int _ _, .int _ _, .int _ _, .int _ _, .int _ _, .int _ _]) tt3 rfl rfl rfl rfl rfl (Nat.le_of_ble_eq_true rfl) rfl (eL (W.ty [(0, .lst _ _ _), (3, .ref _ _ _), (4, .int _ _), (5, .ptr _ _)] rfl (W.rL (cL rfl (o_fa tt69 rfl tt3 rfl (cL rfl (zZx (v := .int _ _) tt3 rfl rfl ⟨_, rfl⟩ ?_))))))))))))
 obtain ⟨s1571, hv⟩ := hv
 refine cL rfl (o_quo rfl rfl (by decide) s1571 (cL rfl (o_fa tt69 rfl tt3 rfl (cLn (o_stB (v := .int _ _) (vs := [.int _ _]) (cs2 := [.int _ _, .int _ _, .int _ _, .int _ _, .int _ _, .int _ _, .int _ _, .int _ _, .int _ _, .int _ _]) tt3 rfl rfl rfl rfl rfl (Nat.le_of_ble_eq_true rfl) rfl (eL (W.ty [(0, .lst _ _ _), (3, .ref _ _ _), (4, .int _ _), (5, .ptr _ _)] rfl (W.rL (aI rfl rfl (eL (W.ty [(0, .lst _ _ _), (3, .ref _ _ _), (4, .int _ _), (5, .ptr _ _), (6, .int _ _)] rfl (W.seq' (W.block ?_)))))))))))))
 obtain ⟨I4, μ4, hp, hv⟩ := hv
 refine W.loop1 (fun v6 => ⟨186, look [(0, .lst true x.length (zYy eV4 x)), (3, .ref true 0 r0.length), (4, .int .i64 v4), (5, .ptr 1 0), (6, .int .i64 v6)], [.row 69 10 (zYy e69 r0), .box 69 [.int .i64 b1.tr, .int .i64 b1.sp, .int .i64 b1.se, .int .i64 b1.ver, .int .i64 b1.op, .int .i64 b1.pe, .int .i64 (b1.tr.tdiv (10 : Int)), .int .i64 b1.lo, .int .i64 (b1.lo + ((pickM ((vat (lat x v4) (3 : Int).toNat).tdiv (4 : Int)) (3 : Int)) * (pickM ((vat (lat x v4) (3 : Int).toNat).tdiv (12 : Int)) (30 : Int)))), .int .i64 b1.by_]], 0⟩) I4 μ4 (0 : Int) (St.to_mk (φ := [some 0, some 1]) rfl (rfl) ⟨Ren.lst _ _ _, Ren.ref rfl (fun h => rfl), Ren.int _ _, Ren.ptr rfl, Ren.int _ _, trivial⟩ ⟨zE enc69 false r0 rfl, (zB rfl rfl), trivial⟩) hp ?_
 clear hp
 intro v6 hI
 replace hv := hv v6 hI
 clear hI
 refine W.seq' ?_
 obtain ⟨sd, hv⟩ := hv
 refine W.rDm ⟨186, look [(0, .lst true x.length (zYy eV4 x)), (3, .ref true 0 r0.length), (4, .int .i64 v4), (5, .ptr 1 0), (6, .int .i64 v6), (147, .bool (decide ((v6 < (r0.length : Int)) /\ ((((lat r0 v6).tr) < b1.tr) \/ (((lat r0 v6).tr = b1.tr) /\ (((lat r0 v6).sp) < b1.sp))))))], [.row 69 10 (zYy e69 r0), .box 69 [.int .i64 b1.tr, .int .i64 b1.sp, .int .i64 b1.se, .int .i64 b1.ver, .int .i64 b1.op, .int .i64 b1.pe, .int .i64 (b1.tr.tdiv (10 : Int)), .int .i64 b1.lo, .int .i64 (b1.lo + ((pickM ((vat (lat x v4) (3 : Int).toNat).tdiv (4 : Int)) (3 : Int)) * (pickM ((vat (lat x v4) (3 : Int).toNat).tdiv (12 : Int)) (30 : Int)))), .int .i64 b1.by_]], 0⟩ [0, 1, 2, 3, 4, 5, 6, 7, 8, 9, 10, 11, 12, 13, 14, 15, 16, 17, 18, 19, 20, 21, 22, 23, 24, 25, 26, 27, 28, 29, 30, 31, 32, 33] (by decide +kernel) rfl ?_ ?_
 refine mI rfl rfl (cL rfl (zZp (v := .ref _ _ _) rfl (cL rfl (zXw (v := .ref _ _ _) tt58 rfl rfl (cL rfl (zYq rfl rfl (mB rfl rfl ?_)))))))
 by_cases c1 : v6 < (r0.length : Int)
 have sd := sd.1 c1
 refine cLg rfl rfl (dT c1) (cL rfl (zZp (v := .ref _ _ _) rfl (cLg rfl rfl (dT c1) (mI rfl rfl (cLg rfl rfl (dT c1) ?_)))))
 obtain ⟨s1620, sd⟩ := sd
 refine cL rfl (o_iaR tt58 tt69 rfl rfl s1620 (cLg rfl rfl (dT c1) (cL rfl (o_fa tt69 rfl tt3 rfl (cLg rfl rfl (dT c1) (cL rfl (zZx (v := .int _ _) tt3 rfl rfl (cell_of (ca_rowF (xs := r0) (k := 0) rfl (enc69.wd false) s1620 rfl) rfl) (cLg rfl rfl (dT c1) (cL rfl (o_fa tt69 rfl tt3 rfl (cLg rfl rfl (dT c1) (cL rfl (zZx (v := .int _ _) tt3 rfl rfl ⟨_, rfl⟩ (cLg rfl rfl (dT c1) (cL rfl (zYq rfl rfl (cLg rfl rfl (dT c1) (mB rfl rfl ?_))))))))))))))))))
 by_cases c2 : ((lat r0 v6).tr) < b1.tr
 iterate 9 refine cLs rfl rfl rfl (dT c2) ?_
 iterate 4 refine cLu rfl rfl rfl ?_
 iterate 4 refine cLu rfl rfl (by kernel_rfl) ?_
 refine cLs rfl rfl rfl (dT c2) (cLg rfl rfl (dT c1) (cL rfl (zZv (v := .bool _) rfl (dT c2) rfl (cL rfl (zZv (v := .bool _) rfl (dT c1) rfl (eL (zYz ⟨rfl, rfl, rfl, rfl, rfl, (congrArg AV.bool (zXv c1 (dOrT c2))).symm, trivial⟩ rfl)))))))
 have sd := sd.2 c2
 refine cLg rfl rfl (dF c2) (cL rfl (zZp (v := .ref _ _ _) rfl (cLg rfl rfl (dF c2) (mI rfl rfl (cLg rfl rfl (dF c2) ?_)))))
 obtain ⟨s1621, sd⟩ := sd
 refine cL rfl (o_iaR tt58 tt69 rfl rfl s1621 (cLg rfl rfl (dF c2) (cL rfl (o_fa tt69 rfl tt3 rfl (cLg rfl rfl (dF c2) (cL rfl (zZx (v := .int _ _) tt3 rfl rfl (cell_of (ca_rowF (xs := r0) (k := 0) rfl (enc69.wd false) s1621 rfl) rfl) (cLg rfl rfl (dF c2) (cL rfl (o_fa tt69 rfl tt3 rfl (cLg rfl rfl (dF c2) (cL rfl (zZx (v := .int _ _) tt3 rfl rfl ⟨_, rfl⟩ (cLg rfl rfl (dF c2) (cL rfl (o_eqI rfl rfl rfl (cLg rfl rfl (dF c2) (mB rfl rfl ?_))))))))))))))))))
 by_cases c3 : (lat r0 v6).tr = b1.tr
 have sd := sd.1 c3
 refine cLg rfl rfl (dT c3) (cL rfl (zZp (v := .ref _ _ _) rfl (cLg rfl rfl (dT c3) (mI rfl rfl (cLg rfl rfl (dT c3) ?_)))))
 obtain ⟨s1622, sd⟩ := sd
 refine cL rfl (o_iaR tt58 tt69 rfl rfl s1622 (cLg rfl rfl (dT c3) (cL rfl (o_fa tt69 rfl tt3 rfl (cLg rfl rfl (dT c3) (cL rfl (zZx (v := .int _ _) tt3 rfl rfl (cell_of (ca_rowF (xs := r0) (k := 1) rfl (enc69.wd false) s1622 rfl) rfl) (cLg rfl rfl (dT c3) (cL rfl (o_fa tt69 rfl tt3 rfl (cLg rfl rfl (dT c3) (cL rfl (zZx (v := .int _ _) tt3 rfl rfl ⟨_, rfl⟩ (cLg rfl rfl (dT c3) (cL rfl (zYq rfl rfl (cLg rfl rfl (dF c2) (cL rfl (zZv (v := .bool _) rfl (dT c3) rfl (cLg rfl rfl (dT c1) (cL rfl (zZy (v := .bool _) rfl (dF c2) rfl (cL rfl (zZv (v := .bool _) rfl (dT c1) rfl (eL (zYz ⟨rfl, rfl, rfl, rfl, rfl, (congrArg AV.bool (zXv c1 (dOrF c2 (zXv c3 (rfl))))).symm, trivial⟩ rfl))))))))))))))))))))))))))
 iterate 8 refine cLs rfl rfl rfl (dF c3) ?_
 refine cLg rfl rfl (dF c2) (cL rfl (zZy (v := .bool _) rfl (dF c3) rfl (cLg rfl rfl (dT c1) (cL rfl (zZy (v := .bool _) rfl (dF c2) rfl (cL rfl (zZv (v := .bool _) rfl (dT c1) rfl (eL (zYz ⟨rfl, rfl, rfl, rfl, rfl, (congrArg AV.bool (zXv c1 (dOrF c2 (dAndF c3)))).symm, trivial⟩ rfl)))))))))
 iterate 9 refine cLs rfl rfl rfl (dF c1) ?_
 iterate 4 refine cLu rfl rfl rfl ?_
 iterate 14 refine cLu rfl rfl (by kernel_rfl) ?_
 refine cLs rfl rfl rfl (dF c1) (cL rfl (zZy (v := .bool _) rfl (dF c1) rfl (eL (zYz ⟨rfl, rfl, rfl, rfl, rfl, (congrArg AV.bool (dAndF c1)).symm, trivial⟩ rfl))))
 refine W.cn rfl (fun hc => ?_) (fun hc => ?_)
 have hv := hv.1 hc
 refine W.skip (zZ (W.ty [(0, .lst _ _ _), (3, .ref _ _ _), (4, .int _ _), (5, .ptr _ _), (6, .int _ _)] rfl (W.block (W.rL1 (mI rfl rfl ?_)))))
 obtain ⟨s1623, hv⟩ := hv
 refine cL rfl (o_add rfl rfl s1623 (aI rfl rfl (eL (zYv (zZ (⟨(), (v6 + (1 : Int)), hv, St.to_mk (φ := [some 0, some 1]) rfl (rfl) ⟨Ren.lst _ _ _, Ren.ref rfl (fun h => rfl), Ren.int _ _, Ren.ptr rfl, Ren.int _ _, trivial⟩ ⟨zE enc69 false r0 rfl, (zB rfl rfl), trivial⟩⟩))))))
 have hv := hv.2 hc
 refine W.exit (zZt (zZt (zYs (zZ (W.ty [(0, .lst _ _ _), (3, .ref _ _ _), (4, .int _ _), (5, .ptr _ _), (6, .int _ _)] rfl (W.seq' ?_))))))
 obtain ⟨sd, hv⟩ := hv
 refine W.rDm ⟨186, look [(0, .lst true x.length (zYy eV4 x)), (3, .ref true 0 r0.length), (4, .int .i64 v4), (5, .ptr 1 0), (6, .int .i64 v6), (173, .bool (decide ((v6 < (r0.length : Int)) /\ (((lat r0 v6).tr = b1.tr) /\ ((lat r0 v6).sp = b1.sp)))))], [.row 69 10 (zYy e69 r0), .box 69 [.int .i64 b1.tr, .int .i64 b1.sp, .int .i64 b1.se, .int .i64 b1.ver, .int .i64 b1.op, .int .i64 b1.pe, .int .i64 (b1.tr.tdiv (10 : Int)), .int .i64 b1.lo, .int .i64 (b1.lo + ((pickM ((vat (lat x v4) (3 : Int).toNat).tdiv (4 : Int)) (3 : Int)) * (pickM ((vat (lat x v4) (3 : Int).toNat).tdiv (12 : Int)) (30 : Int)))), .int .i64 b1.by_]], 0⟩ [0, 1, 2, 3, 4, 5, 6, 7, 8, 9, 10, 11, 12, 13, 14, 15, 16, 17, 18, 19, 20, 21, 22, 23] (by decide +kernel) rfl ?_ ?_
 refine mI rfl rfl (cL rfl (zZp (v := .ref _ _ _) rfl (cL rfl (zXw (v := .ref _ _ _) tt58 rfl rfl (cL rfl (zYq rfl rfl (mB rfl rfl ?_)))))))
 by_cases c1 : v6 < (r0.length : Int)
 have sd := sd.1 c1
 refine cLg rfl rfl (dT c1) (cL rfl (zZp (v := .ref _ _ _) rfl (cLg rfl rfl (dT c1) (mI rfl rfl (cLg rfl rfl (dT c1) ?_)))))
 obtain ⟨s1630, sd⟩ := sd
 refine cL rfl (o_iaR tt58 tt69 rfl rfl s1630 (cLg rfl rfl (dT c1) (cL rfl (o_fa tt69 rfl tt3 rfl (cLg rfl rfl (dT c1) (cL rfl (zZx (v := .int _ _) tt3 rfl rfl (cell_of (ca_rowF (xs := r0) (k := 0) rfl (enc69.wd false) s1630 rfl) rfl) (cLg rfl rfl (dT c1) (cL rfl (o_fa tt69 rfl tt3 rfl (cLg rfl rfl (dT c1) (cL rfl (zZx (v := .int _ _) tt3 rfl rfl ⟨_, rfl⟩ (cLg rfl rfl (dT c1) (cL rfl (o_eqI rfl rfl rfl (cL rfl (zZv (v := .bool _) rfl (dT c1) rfl (mB rfl rfl ?_)))))))))))))))))))
 by_cases c2 : (lat r0 v6).tr = b1.tr
 have sd := sd.1 c2
 refine cLg rfl rfl (dT c2) (cL rfl (zZp (v := .ref _ _ _) rfl (cLg rfl rfl (dT c2) (mI rfl rfl (cLg rfl rfl (dT c2) ?_)))))
 obtain ⟨s1631, sd⟩ := sd
 refine cL rfl (o_iaR tt58 tt69 rfl rfl s1631 (cLg rfl rfl (dT c2) (cL rfl (o_fa tt69 rfl tt3 rfl (cLg rfl rfl (dT c2) (cL rfl (zZx (v := .int _ _) tt3 rfl rfl (cell_of (ca_rowF (xs := r0) (k := 1) rfl (enc69.wd false) s1631 rfl) rfl) (cLg rfl rfl (dT c2) (cL rfl (o_fa tt69 rfl tt3 rfl (cLg rfl rfl (dT c2) (cL rfl (zZx (v := .int _ _) tt3 rfl rfl ⟨_, rfl⟩ (cLg rfl rfl (dT c2) (cL rfl (o_eqI rfl rfl rfl (cL rfl (zZv (v := .bool _) rfl (dT c2) rfl (eL (zYz ⟨rfl, rfl, rfl, rfl, rfl, (congrArg AV.bool (zXv c1 (zXv c2 (rfl)))).symm, trivial⟩ rfl))))))))))))))))))))
 iterate 8 refine cLs rfl rfl rfl (dF c2) ?_
 refine cL rfl (zZy (v := .bool _) rfl (dF c2) rfl (eL (zYz ⟨rfl, rfl, rfl, rfl, rfl, (congrArg AV.bool (zXv c1 (dAndF c2))).symm, trivial⟩ rfl)))
 iterate 8 refine cLs rfl rfl rfl (dF c1) ?_
 refine cL rfl (zZy (v := .bool _) rfl (dF c1) rfl (mB rfl rfl ?_))
 iterate 8 refine cLs rfl rfl rfl (rfl) ?_
 refine cL rfl (zZy (v := .bool _) rfl rfl rfl (eL (zYz ⟨rfl, rfl, rfl, rfl, rfl, (congrArg AV.bool (dAndF c1)).symm, trivial⟩ rfl)))
 refine W.cn rfl (fun hc => ?_) (fun hc => ?_)
 have hv := hv.1 hc
 refine W.exit (zZt (zYs (zZ (⟨(), r0, hv, St.to_mk (φ := [some 0]) rfl (rfl) ⟨Ren.lst _ _ _, Ren.ref rfl (fun h => rfl), Ren.int _ _, trivial⟩ ⟨zE enc69 false r0 rfl, trivial⟩⟩))))
 have hv := hv.2 hc
 refine W.skip (zZ (W.ty [(0, .lst _ _ _), (3, .ref _ _ _), (4, .int _ _), (5, .ptr _ _), (6, .int _ _)] rfl ?_))
 rcases Nat.eq_zero_or_pos r0.length with hz1631 | hz1631
 have hv := hv.1 hz1631
 refine W.to (st' := ⟨186, look [(0, .lst true x.length (zYy eV4 x)), (3, .nilS), (4, .int .i64 v4), (5, .ptr 1 0), (6, .int .i64 v6)], [.dead, .box 69 [.int .i64 b1.tr, .int .i64 b1.sp, .int .i64 b1.se, .int .i64 b1.ver, .int .i64 b1.op, .int .i64 b1.pe, .int .i64 (b1.tr.tdiv (10 : Int)), .int .i64 b1.lo, .int .i64 (b1.lo + ((pickM ((vat (lat x v4) (3 : Int).toNat).tdiv (4 : Int)) (3 : Int)) * (pickM ((vat (lat x v4) (3 : Int).toNat).tdiv (12 : Int)) (30 : Int)))), .int .i64 b1.by_]], 0⟩) (St.to_mk (φ := [some 0, some 1]) rfl rfl ⟨Ren.lst _ _ _, Ren.refNil hz1631, Ren.int _ _, Ren.ptr rfl, Ren.int _ _, trivial⟩ ⟨.inl rfl, (zB rfl rfl), trivial⟩) (W.rD1 [0, 1, 2, 3, 4, 5, 6, 7, 8, 9, 10, 11] (by decide +kernel) rfl (cL rfl (zZp (v := .nilS) rfl ?_)))
 iterate 2 refine mI rfl rfl ?_
 obtain ⟨s1632, hv⟩ := hv
 refine cL rfl (o_slMZ tt58 tt69 rfl rfl rfl s1632 (cL rfl (zYp (cs := [.int _ _, .int _ _, .int _ _, .int _ _, .int _ _, .int _ _, .int _ _, .int _ _, .int _ _, .int _ _]) tt69 rfl rfl ⟨_, rfl⟩ rfl (cL rfl (o_bs1 (v := .agg _) (q := 2) tt58 tt69 rfl rfl rfl rfl rfl rfl rfl rfl (cL rfl (zZp (v := .nilS) rfl (mI rfl rfl ?_))))))))
 obtain ⟨s1633, hv⟩ := hv
 refine cL rfl (o_slZ tt58 tt69 rfl rfl rfl s1633 ?_)
 obtain ⟨s1634, hv⟩ := hv
 refine cL rfl (o_apR (p := 3) (q := ([(Fct.mk b1.tr b1.sp b1.se b1.ver b1.op b1.pe (b1.tr.tdiv (10 : Int)) b1.lo (b1.lo + ((pickM ((vat (lat x v4) (3 : Int).toNat).tdiv (4 : Int)) (3 : Int)) * (pickM ((vat (lat x v4) (3 : Int).toNat).tdiv (12 : Int)) (30 : Int)))) b1.by_)] ++ []).length) tt58 tt69 rfl rfl (src_nil) (by simp) rfl rfl (Nat.le_trans (Nat.le_of_eq (@List.length_append _ ([(Fct.mk b1.tr b1.sp b1.se b1.ver b1.op b1.pe (b1.tr.tdiv (10 : Int)) b1.lo (b1.lo + ((pickM ((vat (lat x v4) (3 : Int).toNat).tdiv (4 : Int)) (3 : Int)) * (pickM ((vat (lat x v4) (3 : Int).toNat).tdiv (12 : Int)) (30 : Int)))) b1.by_)]) ([])).symm) s1634) rfl (@List.length_append _ ([(Fct.mk b1.tr b1.sp b1.se b1.ver b1.op b1.pe (b1.tr.tdiv (10 : Int)) b1.lo (b1.lo + ((pickM ((vat (lat x v4) (3 : Int).toNat).tdiv (4 : Int)) (3 : Int)) * (pickM ((vat (lat x v4) (3 : Int).toNat).tdiv (12 : Int)) (30 : Int)))) b1.by_)]) ([])).symm (encL_app e69 [(Fct.mk b1.tr b1.sp b1.se b1.ver b1.op b1.pe (b1.tr.tdiv (10 : Int)) b1.lo (b1.lo + ((pickM ((vat (lat x v4) (3 : Int).toNat).tdiv (4 : Int)) (3 : Int)) * (pickM ((vat (lat x v4) (3 : Int).toNat).tdiv (12 : Int)) (30 : Int)))) b1.by_)] []) ?_)
 obtain ⟨s1635, hv⟩ := hv
 refine cL rfl (o_apN (p := 4) (q := 0) (cc := []) tt58 tt69 rfl rfl (src_ref rfl (zYw (enc69.wd false) _)) (zYw (enc69.wd false) _) s1635 rfl (cL rfl (zZq (v := .ref _ _ _) rfl (eL (zYv (zZ (⟨(), ([(Fct.mk b1.tr b1.sp b1.se b1.ver b1.op b1.pe (b1.tr.tdiv (10 : Int)) b1.lo (b1.lo + ((pickM ((vat (lat x v4) (3 : Int).toNat).tdiv (4 : Int)) (3 : Int)) * (pickM ((vat (lat x v4) (3 : Int).toNat).tdiv (12 : Int)) (30 : Int)))) b1.by_)] ++ []), hv, St.to_mk (φ := [some 4]) rfl (rfl) ⟨Ren.lst _ _ _, Ren.ref rfl (fun h => rfl), Ren.int _ _, trivial⟩ ⟨zE enc69 false ([(Fct.mk b1.tr b1.sp b1.se b1.ver b1.op b1.pe (b1.tr.tdiv (10 : Int)) b1.lo (b1.lo + ((pickM ((vat (lat x v4) (3 : Int).toNat).tdiv (4 : Int)) (3 : Int)) * (pickM ((vat (lat x v4) (3 : Int).toNat).tdiv (12 : Int)) (30 : Int)))) b1.by_)] ++ []) rfl, trivial⟩⟩)))))))
 have hv := hv.2 hz1631
 refine W.rD1 [0, 1, 2, 3, 4, 5, 6, 7, 8, 9, 10, 11] (by decide +kernel) rfl (cL rfl (zZp (v := .ref _ _ _) rfl ?_))
 iterate 2 refine mI rfl rfl ?_
 obtain ⟨s1636, hv⟩ := hv
 refine cL rfl (o_slM tt58 tt69 rfl rfl rfl s1636 (cL rfl (zYp (cs := [.int _ _, .int _ _, .int _ _, .int _ _, .int _ _, .int _ _, .int _ _, .int _ _, .int _ _, .int _ _]) tt69 rfl rfl ⟨_, rfl⟩ rfl (cL rfl (o_bs1 (v := .agg _) (q := 2) tt58 tt69 rfl rfl rfl rfl rfl rfl rfl rfl (cL rfl (zZp (v := .ref _ _ _) rfl (mI rfl rfl ?_))))))))
 obtain ⟨s1637, hv⟩ := hv
 refine cL rfl (o_slR tt58 tt69 rfl rfl rfl s1637 (off := v6.toNat * 10) (c := r0.length - v6.toNat) (by simp) (by simp) ?_)
 obtain ⟨s1638, s1639, hv⟩ := hv
 refine cL rfl (o_apR (p := 3) (q := ([(Fct.mk b1.tr b1.sp b1.se b1.ver b1.op b1.pe (b1.tr.tdiv (10 : Int)) b1.lo (b1.lo + ((pickM ((vat (lat x v4) (3 : Int).toNat).tdiv (4 : Int)) (3 : Int)) * (pickM ((vat (lat x v4) (3 : Int).toNat).tdiv (12 : Int)) (30 : Int)))) b1.by_)] ++ ((r0.drop v6.toNat).take (r0.length - v6.toNat))).length) tt58 tt69 rfl rfl (src_subR (k := v6.toNat) (xs := r0) (ys := (r0.drop v6.toNat).take (r0.length - v6.toNat)) (enc69.wd false) rfl rfl rfl s1638) (zYw (enc69.wd false) _) rfl rfl (Nat.le_trans (Nat.le_of_eq (@List.length_append _ ([(Fct.mk b1.tr b1.sp b1.se b1.ver b1.op b1.pe (b1.tr.tdiv (10 : Int)) b1.lo (b1.lo + ((pickM ((vat (lat x v4) (3 : Int).toNat).tdiv (4 : Int)) (3 : Int)) * (pickM ((vat (lat x v4) (3 : Int).toNat).tdiv (12 : Int)) (30 : Int)))) b1.by_)]) ((r0.drop v6.toNat).take (r0.length - v6.toNat))).symm) s1639) rfl (@List.length_append _ ([(Fct.mk b1.tr b1.sp b1.se b1.ver b1.op b1.pe (b1.tr.tdiv (10 : Int)) b1.lo (b1.lo + ((pickM ((vat (lat x v4) (3 : Int).toNat).tdiv (4 : Int)) (3 : Int)) * (pickM ((vat (lat x v4) (3 : Int).toNat).tdiv (12 : Int)) (30 : Int)))) b1.by_)]) ((r0.drop v6.toNat).take (r0.length - v6.toNat))).symm (encL_app e69 [(Fct.mk b1.tr b1.sp b1.se b1.ver b1.op b1.pe (b1.tr.tdiv (10 : Int)) b1.lo (b1.lo + ((pickM ((vat (lat x v4) (3 : Int).toNat).tdiv (4 : Int)) (3 : Int)) * (pickM ((vat (lat x v4) (3 : Int).toNat).tdiv (12 : Int)) (30 : Int)))) b1.by_)] ((r0.drop v6.toNat).take (r0.length - v6.toNat))) ?_)
 obtain ⟨s1640, s1641, s1642, hv⟩ := hv
 refine cL rfl (o_apC (p := 4) (q := v6.toNat + ([(Fct.mk b1.tr b1.sp b1.se b1.ver b1.op b1.pe (b1.tr.tdiv (10 : Int)) b1.lo (b1.lo + ((pickM ((vat (lat x v4) (3 : Int).toNat).tdiv (4 : Int)) (3 : Int)) * (pickM ((vat (lat x v4) (3 : Int).toNat).tdiv (12 : Int)) (30 : Int)))) b1.by_)] ++ ((r0.drop v6.toNat).take (r0.length - v6.toNat))).length) tt58 tt69 rfl rfl (src_ref rfl (zYw (enc69.wd false) _)) (zYw (enc69.wd false) _) rfl s1641 (by rw [zYw (enc69.wd false)]; exact Nat.mul_le_mul_right _ s1640) (by omega) s1642 rfl rfl (by rw [encL_take (enc69.wd false), encL_app]) (cL rfl (zZq (v := .ref _ _ _) rfl (eL (zYv (zZ (⟨(), (r0.take v6.toNat ++ ([(Fct.mk b1.tr b1.sp b1.se b1.ver b1.op b1.pe (b1.tr.tdiv (10 : Int)) b1.lo (b1.lo + ((pickM ((vat (lat x v4) (3 : Int).toNat).tdiv (4 : Int)) (3 : Int)) * (pickM ((vat (lat x v4) (3 : Int).toNat).tdiv (12 : Int)) (30 : Int)))) b1.by_)] ++ ((r0.drop v6.toNat).take (r0.length - v6.toNat)))), hv, St.to_mk (φ := [some 4]) rfl (rfl) ⟨Ren.lst _ _ _, Ren.refL rfl (fun h => rfl) (by simp only [List.length_append, List.length_take]; omega), Ren.int _ _, trivial⟩ ⟨zE enc69 false (r0.take v6.toNat ++ ([(Fct.mk b1.tr b1.sp b1.se b1.ver b1.op b1.pe (b1.tr.tdiv (10 : Int)) b1.lo (b1.lo + ((pickM ((vat (lat x v4) (3 : Int).toNat).tdiv (4 : Int)) (3 : Int)) * (pickM ((vat (lat x v4) (3 : Int).toNat).tdiv (12 : Int)) (30 : Int)))) b1.by_)] ++ ((r0.drop v6.toNat).take (r0.length - v6.toNat)))) rfl, trivial⟩⟩)))))))
 clear hj
 refine W.rL (mL rfl rfl (mI rfl rfl ?_))
 obtain ⟨s1643, hv⟩ := hv
 refine cL rfl (zYu tt22 tt73 rfl rfl (encV4.wd true) rfl s1643 ?_)
 intro rest1643
 obtain ⟨s1644, hv⟩ := hv
 refine cL rfl (o_iaPV tt73 tt3 rfl rfl s1644 ?_)
 intro rest1644
 refine cL rfl (zZx (v := .int _ _) tt3 rfl rfl ⟨_, rfl⟩ ?_)
 obtain ⟨s1645, s1646, hv⟩ := hv
 refine cL rfl (zZu (k := 39) (fst := []) (caps := []) (ys := [.int _ _, .int _ _]) rfl rfl (spec_pick39 (vat (lat x v4) (3 : Int).toNat) (4 : Int) s1645 s1646) zk (cL rfl (o_eqI rfl rfl rfl (eL (W.ty [(0, .lst _ _ _), (3, .ref _ _ _), (4, .int _ _), (5, .ptr _ _), (83, .bool _)] rfl (W.cn rfl (fun hc => ?_) (fun hc => ?_)))))))
 have hv := hv.1 hc
 refine W.rL1 (mL rfl rfl (mI rfl rfl ?_))
 obtain ⟨s1647, hv⟩ := hv
 refine cL rfl (zYu tt22 tt73 rfl rfl (encV4.wd true) rfl s1647 ?_)
 intro rest1647
 obtain ⟨s1648, hv⟩ := hv
 refine cL rfl (o_iaPV tt73 tt3 rfl rfl s1648 ?_)
 intro rest1648
 refine cL rfl (zZx (v := .int _ _) tt3 rfl rfl ⟨_, rfl⟩ ?_)
 obtain ⟨s1649, s1650, hv⟩ := hv
 refine cL rfl (zZu (k := 39) (fst := []) (caps := []) (ys := [.int _ _, .int _ _]) rfl rfl (spec_pick39 (vat (lat x v4) (2 : Int).toNat) (2199023255552 : Int) s1649 s1650) zk (cL rfl (o_fa tt69 rfl tt3 rfl (cLn (o_stB (v := .int _ _) (vs := [.int _ _]) (cs2 := [.int _ _, .int _ _, .int _ _, .int _ _, .int _ _, .int _ _, .int _ _, .int _ _, .int _ _, .int _ _]) tt3 rfl rfl rfl rfl rfl (Nat.le_of_ble_eq_true rfl) rfl (eL (zZ (⟨(), (Fct.mk (pickM (vat (lat x v4) (0 : Int).toNat) (30 : Int)) (pickM ((vat (lat x v4) (0 : Int).toNat).tdiv (30 : Int)) (4 : Int)) (pickM (vat (lat x v4) (1 : Int).toNat) (2 : Int)) (pickM ((vat (lat x v4) (1 : Int).toNat).tdiv (2 : Int)) (3 : Int)) (((2 : Int) * (pickM (vat (lat x v4) (1 : Int).toNat) (2 : Int))) + (pickM ((vat (lat x v4) (1 : Int).toNat).tdiv (3000 : Int)) (2 : Int))) ((pickM ((vat (lat x v4) (1 : Int).toNat).tdiv (6 : Int)) (5 : Int)) - (1 : Int)) (0 : Int) (pickM (vat (lat x v4) (2 : Int).toNat) (2199023255552 : Int)) (0 : Int) (pickM ((vat (lat x v4) (1 : Int).toNat).tdiv (30 : Int)) (100 : Int))), hv, St.to_mk (φ := [some 0, some 1]) rfl (rfl) ⟨Ren.lst _ _ _, Ren.ref rfl (fun h => rfl), Ren.int _ _, Ren.ptr rfl, trivial⟩ ⟨zE enc69 false r0 rfl, (zB rfl rfl), trivial⟩⟩))))))))
 have hv := hv.2 hc
 refine W.skip (zZ (⟨(), (Fct.mk (pickM (vat (lat x v4) (0 : Int).toNat) (30 : Int)) (pickM ((vat (lat x v4) (0 : Int).toNat).tdiv (30 : Int)) (4 : Int)) (pickM (vat (lat x v4) (1 : Int).toNat) (2 : Int)) (pickM ((vat (lat x v4) (1 : Int).toNat).tdiv (2 : Int)) (3 : Int)) (((2 : Int) * (pickM (vat (lat x v4) (1 : Int).toNat) (2 : Int))) + (pickM ((vat (lat x v4) (1 : Int).toNat).tdiv (3000 : Int)) (2 : Int))) ((pickM ((vat (lat x v4) (1 : Int).toNat).tdiv (6 : Int)) (5 : Int)) - (1 : Int)) (0 : Int) (pickM (vat (lat x v4) (2 : Int).toNat) (40 : Int)) (0 : Int) (pickM ((vat (lat x v4) (1 : Int).toNat).tdiv (30 : Int)) (100 : Int))), hv, St.to_mk (φ := [some 0, some 1]) rfl (rfl) ⟨Ren.lst _ _ _, Ren.ref rfl (fun h => rfl), Ren.int _ _, Ren.ptr rfl, trivial⟩ ⟨zE enc69 false r0 rfl, (zB rfl rfl), trivial⟩⟩))
 have hv := hv.2 hc
 refine W.exit (zZt (zZt (zYs (zZ (W.ty [(3, .ref _ _ _)] rfl (W.rL (cL rfl (zZp (v := .ref _ _ _) rfl (cL rfl (zZq (v := .ref _ _ _) rfl (eL (W.ty [(2, .ref _ _ _)] rfl (W.ret (rt (rt_t (v := .ref _ _ _) rfl (rt_n (⟨_, rs_ref enc69 4 _ rfl rfl, r0, rfl, hv⟩)))))))))))))))))
set_option maxHeartbeats 4000000 in
theorem vcp_MadeFacts (x : (List (Vector Int 4))) (h0 : x.length <= 9223372036854775807) (h1 : ∀ y ∈ x, ∀ k, inI (vat y k)) : vc_MadeFacts x (fun q0 => q0 = (factsM x)) := by
  unfold vc_MadeFacts
  refine ⟨fun v r => ∃ i : Nat, v = i /\ i <= (x.take 40).length /\ r = ((x.take 40).take i).foldl factStep [], fun v _ => x.length - v.toNat, ⟨0, rfl, by omega, rfl⟩, ?_⟩
  have hl40 : (x.take 40).length = min 40 x.length := List.length_take
  rintro _ _ ⟨i, rfl, hi, rfl⟩
  refine ⟨fun k1 => ?_, fun k1 => ?_⟩
  rotate_left
  . have hil : i = (x.take 40).length := by omega
    subst hil
    rw [List.take_length]; rfl
  have hi1 : i < (x.take 40).length := by omega
  have hok := factsM_ok x i (by omega)
  have hnext : ((x.take 40).take (i + 1)).foldl factStep [] = factStep (((x.take 40).take i).foldl factStep []) (lat x (i : Int)) := by
    rw [take_succ_lat hi1, List.foldl_append]
    have : lat (x.take 40) (i : Int) = lat x (i : Int) := by rw [lat_get hi1, lat_get (by omega)]; simp
    rw [this]; rfl
  have hxi := h1 _ (lat_mem (xs := x) (i := (i : Int)) ⟨by omega, by omega⟩)
  obtain ⟨R, hR⟩ : ∃ R, R = ((x.take 40).take i).foldl factStep [] := ⟨_, rfl⟩
  obtain ⟨y, hy⟩ : ∃ y, y = lat x (i : Int) := ⟨_, rfl⟩
  rw [<- hR] at hok hnext ⊢
  rw [<- hy] at hnext hxi ⊢
  have a0 : (0 : Int) <= (i : Int) /\ (i : Int) < (x.length : Int) := ⟨by omega, by omega⟩
  have c0 : (0 : Int) <= 0 /\ (0 : Int) < ((4 : Nat) : Int) := by omega
  have c1 : (0 : Int) <= 1 /\ (1 : Int) < ((4 : Nat) : Int) := by omega
  have c2 : (0 : Int) <= 2 /\ (2 : Int) < ((4 : Nat) : Int) := by omega
  have c3 : (0 : Int) <= 3 /\ (3 : Int) < ((4 : Nat) : Int) := by omega
  have t0 : ∀ k : Int, 0 < k -> inI ((vat y 0).tdiv k) := fun k hk => inI_td hk (hxi 0)
  have t1 : ∀ k : Int, 0 < k -> inI ((vat y 1).tdiv k) := fun k hk => inI_td hk (hxi 1)
  have t3 : ∀ k : Int, 0 < k -> inI ((vat y 3).tdiv k) := fun k hk => inI_td hk (hxi 3)
  have p0 := zXz (c := vat y 0) (n := 30) (by omega)
  have p2 := zXz (c := vat y 1) (n := 2) (by omega)
  have p4 := zXz (c := (vat y 1).tdiv 3000) (n := 2) (by omega)
  have p5 := zXz (c := (vat y 1).tdiv 6) (n := 5) (by omega)
  have p7 := mul_2_29 (zXz (c := (vat y 3).tdiv 4) (n := 3) (by omega)) (zXz (c := (vat y 3).tdiv 12) (n := 30) (by omega))
  have p8 := factLo_in y
  have n0 : (0 : Int).toNat = 0 := rfl
  have n1 : (1 : Int).toNat = 1 := rfl
  have n2 : (2 : Int).toNat = 2 := rfl
  have n3 : (3 : Int).toNat = 3 := rfl
  simp only [n0, n1, n2, n3]
  refine ⟨fun r => r = factStep R y, ?_, a0, c0, a0, c0, t0 30 (by omega), a0, c1, a0, c1, t1 2 (by omega), a0, c1, t1 6 (by omega), a0, c2, a0, c1, t1 30 (by omega), by omega, hxi 0, by omega, t0 30 (by omega), by omega, hxi 1, by omega, t1 2 (by omega), by omega, t1 6 (by omega), by unfold inI; omega, by omega, hxi 2, by omega, t1 30 (by omega), by unfold inI; omega, a0, c1, t1 3000 (by omega), by omega, t1 3000 (by omega), by unfold inI; omega, ?_⟩
  . rintro _ rfl
    exact ⟨by unfold inI; omega, ⟨i + 1, by omega, by omega, hnext.symm⟩, by show x.length - ((i : Int) + 1).toNat < x.length - ((i : Int)).toNat; omega⟩
  refine ⟨fun b => b = ⟨(factM y).tr, (factM y).sp, (factM y).se, (factM y).ver, (factM y).op, (factM y).pe, 0, (factM y).lo, 0, (factM y).by_⟩, ?_, a0, c3, by omega, hxi 3, fun k2 => ⟨a0, c2, by omega, hxi 2, ?_⟩, fun k2 => ?_⟩
  rotate_left
  . show Fct.mk _ _ _ _ _ _ _ _ _ _ = _
    have : (factM y).lo = pickM (vat y 2) 2199023255552 := if_pos k2
    rw [this]; rfl
  . show Fct.mk _ _ _ _ _ _ _ _ _ _ = _
    have : (factM y).lo = pickM (vat y 2) 40 := if_neg k2
    rw [this]; rfl
  rintro _ rfl
  have hlo : (factM y).lo = factLo y := rfl
  have hbuild : (Fct.mk (factM y).tr (factM y).sp (factM y).se (factM y).ver (factM y).op (factM y).pe ((factM y).tr.tdiv 10) (factM y).lo ((factM y).lo + pickM ((vat y 3).tdiv 4) 3 * pickM ((vat y 3).tdiv 12) 30) (factM y).by_) = factM y := rfl
  dsimp only
  rw [hbuild]
  refine ⟨a0, c3, t3 4 (by omega), a0, c3, t3 12 (by omega), by omega, t3 4 (by omega), by omega, t3 12 (by omega), by unfold inI; omega, by rw [hlo]; unfold inI; omega, inI_td (by omega) (by show inI (pickM (vat y 0) 30); unfold inI; omega), ?_⟩
  refine ⟨fun v => ∃ k : Nat, v = k /\ k <= R.length /\ ∀ j : Nat, j < k -> lessF (lat R (j : Int)) (factM y), fun v => R.length - v.toNat, ⟨0, rfl, by omega, fun j hj => by omega⟩, ?_⟩
  rintro _ ⟨k, rfl, hk, hless⟩
  refine ⟨⟨fun k3 => ⟨⟨by omega, k3⟩, fun _ => trivial, fun _ => ⟨⟨by omega, k3⟩, fun _ => ⟨⟨by omega, k3⟩, trivial⟩, fun _ => trivial⟩⟩, fun _ => trivial⟩, fun k3 => ⟨by unfold inI; omega, ⟨k + 1, by omega, by omega, fun j hj => ?_⟩, by show R.length - ((k : Int) + 1).toNat < R.length - ((k : Int)).toNat; omega⟩, fun k3 => ?_⟩
  . rcases Nat.lt_or_ge j k with h | h
    . exact hless j h
    . rw [show j = k by omega]; exact k3.2
  have hpos : posF R (factM y) = k := posF_eq hk hless fun h => k3 ⟨by omega, h.2⟩
  have hst : factStep R y = if k < R.length /\ (lat R (k : Int)).tr = (factM y).tr /\ (lat R (k : Int)).sp = (factM y).sp then R else R.take k ++ ([factM y] ++ R.drop k) := by unfold factStep; rw [hpos]
  rw [hst]
  refine ⟨⟨fun k4 => ⟨⟨by omega, k4⟩, fun _ => ⟨⟨by omega, k4⟩, trivial⟩, fun _ => trivial⟩, fun _ => trivial⟩, fun k4 => ?_, fun k4 => ?_⟩
  . rw [if_pos ⟨by omega, k4.2⟩]
  have k5 : ¬ (k < R.length /\ (lat R (k : Int)).tr = (factM y).tr /\ (lat R (k : Int)).sp = (factM y).sp) := fun h => k4 ⟨by omega, h.2⟩
  rw [if_neg k5]
  have ek : ((k : Nat) : Int).toNat = k := Int.toNat_natCast k
  have hR40 : R.length <= 40 := by have := hok.1; omega
  refine ⟨fun k6 => ?_, fun k6 => ?_⟩
  . have hk0 : k = 0 := by omega
    subst hk0
    have : R = [] := List.eq_nil_of_length_eq_zero k6
    rw [this]
    exact ⟨rfl, ⟨rfl, rfl⟩, by simp, by simp, rfl⟩
  . rw [ek]
    have hdl : (R.drop k).take (R.length - k) = R.drop k := List.take_of_length_le (by rw [List.length_drop]; exact Nat.le_refl _)
    rw [hdl]
    refine ⟨⟨by omega, by omega⟩, ⟨k6, by omega, by omega, Int.le_refl _⟩, by rw [List.length_drop], by rw [List.length_append, List.length_drop, List.length_singleton]; omega, hk, by rw [List.length_append, List.length_singleton]; omega, by rw [List.length_append, List.length_drop, List.length_singleton]; omega, rfl⟩
theorem spec_MadeFacts (x : (List (Vector Int 4))) (h0 : x.length <= 9223372036854775807) (h1 : ∀ y ∈ x, ∀ k, inI (vat y k)) : FnP Try.prog 25 [.lst true x.length (zYy eV4 x)] (fun xR => xR = .lst false (factsM x).length (zYy e69 (factsM x))) :=
  (walk_MadeFacts (vcp_MadeFacts x h0 h1)).mono (by rintro _ ⟨_, rfl, rfl⟩; rfl)
end Go.Lat
