/- The law latecomerlaw10.BeliefMatchesReference returns true for every input, and each argument reads afterwards as it read before. Part 9 of 14. No condition. -/
import Derived.Test.YtoaaemmchnfilaaLatD
import Derived.Test.YtoaaemmchnfilaaLatE
import Derived.Test.YtoaaemmchnfilaaLatG
import Derived.Test.YtoaaemmchnfilaaLatH
set_option linter.unusedVariables false
set_option linter.unusedSimpArgs false
set_option linter.unnecessarySimpa false
set_option maxRecDepth 100000
set_option maxHeartbeats 4000000
namespace Go.Lat
open Go.RowKit Go.Proofs
attribute [local irreducible] cvalidM zX zYw partM chM liM zYv witM pcM inM allM inSet
attribute [local irreducible] zWy zWz pointM addBM cycleM holdsM validBM sameM madeM pickM zW validM possM firstM tableM longerM zYs ofM addM freeM
theorem bs1 : chM ⟨[0, 0, 0], 0, 1, [0], [0]⟩ 2 [⟨0, 1, 5, 1⟩, ⟨1, 0, -4, 2⟩, ⟨1, 0, -9, 4⟩] = ([3, 6], 0) := by decide +kernel
theorem bs2 : zYv ⟨[0, 0, 0], 0, 1, [0], [0]⟩ 2 [⟨0, 1, 5, 1⟩, ⟨1, 0, -4, 2⟩, ⟨1, 0, -9, 4⟩] 0 1 = (4, 1152921504606846976, 0) := by decide +kernel
theorem bs3 : liM ⟨[0, 0, 0], 0, 1, [0], [0]⟩ 2 [⟨0, 1, 5, 1⟩, ⟨1, 0, -4, 2⟩, ⟨1, 0, -9, 4⟩] = (0, 0) := by decide +kernel
theorem bs4 : witM ⟨[0, 0, 0], 0, 1, [0], [0]⟩ 2 [⟨0, 1, 5, 1⟩, ⟨1, 0, -4, 2⟩, ⟨1, 0, -9, 4⟩] 0 1 10 = ([0, 10], 6, 0) := by decide +kernel
theorem bs5 : chM ⟨[0, 0, 0], 0, 1, [0], [0]⟩ 2 [⟨0, 1, 5, 1⟩, ⟨1, 0, -4, 2⟩, ⟨1, 0, -9, 4⟩, ⟨0, 1, 6, 2⟩] = ([3], 0) := by decide +kernel
theorem bs6 : zYv ⟨[0, 0, 0], 0, 1, [0], [0]⟩ 2 [⟨0, 1, 5, 1⟩, ⟨1, 0, -4, 2⟩, ⟨1, 0, -9, 4⟩, ⟨0, 1, 6, 2⟩] 0 1 = (4, 5, 0) := by decide +kernel
theorem bs7 : liM ⟨[0, 0, 0], 0, 1, [0], [0]⟩ 2 [⟨0, 1, 5, 1⟩, ⟨1, 0, -4, 2⟩, ⟨1, 0, -9, 4⟩, ⟨0, 1, 6, 2⟩] = (4, 0) := by decide +kernel
theorem bs8 : chM ⟨[0, 0, 0], 0, 0, [0], [0]⟩ 2 [⟨0, 1, 5, 1⟩, ⟨1, 0, -4, 2⟩, ⟨1, 0, -9, 4⟩] = ([], 100) := by decide +kernel
theorem bs9 : chM ⟨[], 0, 0, [], []⟩ 2 [⟨0, 1, 5, 1⟩, ⟨1, 0, -4, 2⟩, ⟨1, 0, -9, 4⟩] = ([], 2) := by decide +kernel
theorem bs10 : partM [⟨0, 1, 5, 1⟩, ⟨1, 0, -4, 2⟩, ⟨1, 0, -9, 4⟩] 3 = [⟨0, 1, 5, 1⟩, ⟨1, 0, -4, 2⟩] := by decide +kernel
abbrev sF : Flt := Flt.mk [0, 0, 0] 0 1 [0] [0]
abbrev sL : List Con := [(Con.mk 0 1 5 1), (Con.mk 1 0 (-4) 2), (Con.mk 1 0 (-9) 4)]
abbrev sQ : List Con := [(Con.mk 0 1 6 2)]
def vc_bsane  (Post : Bool -> Prop) : Prop :=
  (sF.dr.length <= 9223372036854775807) /\ (sF.sv.length <= 9223372036854775807) /\ (sF.tm.length <= 9223372036854775807) /\ (sL.length <= 1073741824) /\ (sF.dr.length <= 9223372036854775807) /\ (sF.sv.length <= 9223372036854775807) /\ (sF.tm.length <= 9223372036854775807) /\ (sL.length <= 1073741824) /\ (sF.dr.length <= 9223372036854775807) /\ (sF.sv.length <= 9223372036854775807) /\ (sF.tm.length <= 9223372036854775807) /\ (sL.length <= 1073741824) /\ (sF.dr.length <= 9223372036854775807) /\ (sF.sv.length <= 9223372036854775807) /\ (sF.tm.length <= 9223372036854775807) /\ (sL.length <= 1073741824) /\ ((sL).length <= 1073741824) /\ ((sL ++ sQ).length <= 1073741824) /\ (sF.dr.length <= 9223372036854775807) /\ (sF.sv.length <= 9223372036854775807) /\ (sF.tm.length <= 9223372036854775807) /\ ((sL ++ sQ).length <= 1073741824) /\ (sF.dr.length <= 9223372036854775807) /\ (sF.sv.length <= 9223372036854775807) /\ (sF.tm.length <= 9223372036854775807) /\ ((sL ++ sQ).length <= 1073741824) /\ (sF.dr.length <= 9223372036854775807) /\ (sF.sv.length <= 9223372036854775807) /\ (sF.tm.length <= 9223372036854775807) /\ ((sL ++ sQ).length <= 1073741824) /\ ((Flt.mk [0, 0, 0] 0 0 [0] [0]).dr.length <= 9223372036854775807) /\ ((Flt.mk [0, 0, 0] 0 0 [0] [0]).sv.length <= 9223372036854775807) /\ ((Flt.mk [0, 0, 0] 0 0 [0] [0]).tm.length <= 9223372036854775807) /\ (sL.length <= 1073741824) /\ ((Flt.mk [] 0 0 [] []).dr.length <= 9223372036854775807) /\ ((Flt.mk [] 0 0 [] []).sv.length <= 9223372036854775807) /\ ((Flt.mk [] 0 0 [] []).tm.length <= 9223372036854775807) /\ (sL.length <= 1073741824) /\ ((((chM sF 2 sL).1).length <= 1073741824) /\ ((((chM sF 2 sL).1) = [3, 6]) -> (((zYv sF 2 sL 0 1).1 = 4) -> (((zYv sF 2 sL 0 1).2.1 = 1152921504606846976) -> (((liM sF 2 sL).1 = 0) -> (((witM sF 2 sL 0 1 10).1).length <= 1073741824) /\ True) /\ (¬ ((liM sF 2 sL).1 = 0) -> True)) /\ (¬ ((zYv sF 2 sL 0 1).2.1 = 1152921504606846976) -> True)) /\ (¬ ((zYv sF 2 sL 0 1).1 = 4) -> True)) /\ (¬ (((chM sF 2 sL).1) = [3, 6]) -> True)) /\ ((((((chM sF 2 sL).2 = 0) /\ (((zYv sF 2 sL 0 1).2.2 = 0) /\ (((liM sF 2 sL).2 = 0) /\ (((witM sF 2 sL 0 1 10).2.2 = 0) /\ (((chM sF 2 (sL ++ sQ)).2 = 0) /\ (((zYv sF 2 (sL ++ sQ) 0 1).2.2 = 0) /\ (((liM sF 2 (sL ++ sQ)).2 = 0) /\ (((chM (Flt.mk [0, 0, 0] 0 0 [0] [0]) 2 sL).2 = 100) /\ ((chM (Flt.mk [] 0 0 [] []) 2 sL).2 = 2))))))))) -> (((((chM sF 2 sL).1) = [3, 6]) /\ (((zYv sF 2 sL 0 1).1 = 4) /\ (((zYv sF 2 sL 0 1).2.1 = 1152921504606846976) /\ (((liM sF 2 sL).1 = 0) /\ ((((witM sF 2 sL 0 1 10).1) = [0, 10]) /\ ((witM sF 2 sL 0 1 10).2.1 = 6)))))) -> (((chM sF 2 (sL ++ sQ)).1).length <= 1073741824) /\ ((((chM sF 2 (sL ++ sQ)).1) = [3]) -> (((zYv sF 2 (sL ++ sQ) 0 1).1 = 4) -> (((zYv sF 2 (sL ++ sQ) 0 1).2.1 = 5) -> (((liM sF 2 (sL ++ sQ)).1 = 4) -> (0 < 3 /\ 0 <= ((0 : Nat) : Int) /\ ((0 : Nat) : Int) <= 2 /\ (2 : Int) <= 3) /\ (sL.length <= 1073741824) /\ ((partM sL 3).length <= 1073741824) /\ ((2 : Int).toNat = (sL.take ((2 : Int).toNat)).length) /\ True) /\ (¬ ((liM sF 2 (sL ++ sQ)).1 = 4) -> True)) /\ (¬ ((zYv sF 2 (sL ++ sQ) 0 1).2.1 = 5) -> True)) /\ (¬ ((zYv sF 2 (sL ++ sQ) 0 1).1 = 4) -> True)) /\ (¬ (((chM sF 2 (sL ++ sQ)).1) = [3]) -> True)) /\ (¬ ((((chM sF 2 sL).1) = [3, 6]) /\ (((zYv sF 2 sL 0 1).1 = 4) /\ (((zYv sF 2 sL 0 1).2.1 = 1152921504606846976) /\ (((liM sF 2 sL).1 = 0) /\ ((((witM sF 2 sL 0 1 10).1) = [0, 10]) /\ ((witM sF 2 sL 0 1 10).2.1 = 6)))))) -> True)) /\ (¬ (((chM sF 2 sL).2 = 0) /\ (((zYv sF 2 sL 0 1).2.2 = 0) /\ (((liM sF 2 sL).2 = 0) /\ (((witM sF 2 sL 0 1 10).2.2 = 0) /\ (((chM sF 2 (sL ++ sQ)).2 = 0) /\ (((zYv sF 2 (sL ++ sQ) 0 1).2.2 = 0) /\ (((liM sF 2 (sL ++ sQ)).2 = 0) /\ (((chM (Flt.mk [0, 0, 0] 0 0 [0] [0]) 2 sL).2 = 100) /\ ((chM (Flt.mk [] 0 0 [] []) 2 sL).2 = 2))))))))) -> True)) /\ (Post (decide ((((chM sF 2 sL).2 = 0) /\ (((zYv sF 2 sL 0 1).2.2 = 0) /\ (((liM sF 2 sL).2 = 0) /\ (((witM sF 2 sL 0 1 10).2.2 = 0) /\ (((chM sF 2 (sL ++ sQ)).2 = 0) /\ (((zYv sF 2 (sL ++ sQ) 0 1).2.2 = 0) /\ (((liM sF 2 (sL ++ sQ)).2 = 0) /\ (((chM (Flt.mk [0, 0, 0] 0 0 [0] [0]) 2 sL).2 = 100) /\ ((chM (Flt.mk [] 0 0 [] []) 2 sL).2 = 2))))))))) /\ (((((chM sF 2 sL).1) = [3, 6]) /\ (((zYv sF 2 sL 0 1).1 = 4) /\ (((zYv sF 2 sL 0 1).2.1 = 1152921504606846976) /\ (((liM sF 2 sL).1 = 0) /\ ((((witM sF 2 sL 0 1 10).1) = [0, 10]) /\ ((witM sF 2 sL 0 1 10).2.1 = 6)))))) /\ ((((chM sF 2 (sL ++ sQ)).1) = [3]) /\ (((zYv sF 2 (sL ++ sQ) 0 1).1 = 4) /\ (((zYv sF 2 (sL ++ sQ) 0 1).2.1 = 5) /\ (((liM sF 2 (sL ++ sQ)).1 = 4) /\ ((partM sL 3) = (sL.take ((2 : Int).toNat))))))))))))
theorem walk_bsane  {Post : Bool -> Prop} (hv : vc_bsane Post) : FnP Try.prog 10 [] (fun x => ∃ q0, x = .bool q0 /\ Post q0) := by
 refine FnP.of_walk (T := tt) (nt := 185) ttOk ttMix ⟨⟨Try.f10, Try.func10, rfl, rfl, rfl, rfl⟩⟩ (by simp) ?_
 unfold vc_bsane at hv
 change W _ _ _ ⟨185, look [], [], 0⟩ _
 refine W.rL (aB rfl rfl (eL (W.rL (cL rfl (o_buildS (q := 0) (qs := [(0, .int _ _), (1, .int _ _), (2, .int _ _)]) (cs := [.int _ _, .int _ _, .int _ _]) tt23 tt3 rfl rfl rfl rfl (cL rfl (o_bs1 (v := .int _ _) (q := 1) tt23 tt3 rfl rfl rfl rfl rfl rfl rfl rfl (cL rfl (o_bs1 (v := .int _ _) (q := 2) tt23 tt3 rfl rfl rfl rfl rfl rfl rfl rfl (cL rfl (o_build (qs := [(0, .ref _ _ _), (2, .int _ _), (3, .ref _ _ _), (4, .ref _ _ _)]) (cs := [.ref _ _ _, .int _ _, .int _ _, .ref _ _ _, .ref _ _ _]) tt27 rfl rfl rfl (cL rfl (zXs (p := 3) tt27 rfl rfl (cLn (o_stB (v := .agg _) (vs := [.ref _ _ _, .int _ _, .int _ _, .ref _ _ _, .ref _ _ _]) (cs2 := [.ref _ _ _, .int _ _, .int _ _, .ref _ _ _, .ref _ _ _]) tt27 rfl rfl rfl rfl rfl (Nat.le_of_ble_eq_true rfl) rfl (eL (W.tr [(1, .ptr _ _)] [.row _ _ _, .row _ _ _, .row _ _ _, .box _ [.ref _ _ _, .int _ _, .int _ _, .ref _ _ _, .ref _ _ _]] ⟨rfl, trivial⟩ rfl (W.rL ?_))))))))))))))))))
 iterate 3 refine cL rfl (o_build (qs := [(0, .int _ _), (1, .int _ _), (2, .int _ _), (3, .int _ _)]) (cs := [.int _ _, .int _ _, .int _ _, .int _ _]) tt66 rfl rfl rfl ?_)
 refine cL rfl (o_buildS (q := 4) (qs := [(0, .agg _), (1, .agg _), (2, .agg _)]) (cs := [.int _ _, .int _ _, .int _ _, .int _ _, .int _ _, .int _ _, .int _ _, .int _ _, .int _ _, .int _ _, .int _ _, .int _ _]) tt28 tt66 rfl rfl rfl rfl (cL rfl (zZq (v := .ref _ _ _) rfl (eL (W.tr [(1, .ptr _ _), (2, .ref _ _ _)] [.row _ _ _, .row _ _ _, .row _ _ _, .box _ [.ref _ _ _, .int _ _, .int _ _, .ref _ _ _, .ref _ _ _], .row _ _ _] ⟨rfl, rfl, trivial⟩ rfl (W.rL (cL rfl (zXv (cs := [.ref _ _ _, .int _ _, .int _ _, .ref _ _ _, .ref _ _ _]) tt27 rfl rfl ⟨_, rfl⟩ rfl (cL rfl (zZp (v := .ref _ _ _) rfl ?_))))))))))
 obtain ⟨s1, s2, s3, s4, hv⟩ := hv
 refine cL rfl (zZu (k := 13) (fst := []) (caps := []) (ys := [.agg _, .int _ _, .ref _ _ _]) rfl rfl (spec_choices sF 2 sL s1 s2 s3 s4) (Wks.cons (zXr 5 _ (Wks.cons (ag_ref (fl := false) (xs := [0, 0, 0]) zZw 3 _ rfl rfl) (Wks.cons (zZz _ _ _ _) (Wks.cons (zZz _ _ _ _) (Wks.cons (ag_ref (fl := false) (xs := [0]) zZw 3 _ rfl rfl) (Wks.cons (ag_ref (fl := false) (xs := [0]) zZw 3 _ rfl rfl) (Wks.refl _))))))) (Wks.cons (zZz _ _ _ _) (Wks.cons (ag_ref (fl := false) (xs := sL) enc66 4 _ rfl rfl) (Wks.refl _)))) (cL rfl (zZp (v := .tup _) rfl (cL rfl (o_ext (v := .lst _ _ _) rfl rfl (cL rfl (o_ext (v := .int _ _) rfl rfl (aL rfl rfl (aI rfl rfl (eL (W.tr [(1, .ptr _ _), (2, .ref _ _ _), (3, .lst _ _ _), (4, .int _ _)] [.row _ _ _, .row _ _ _, .row _ _ _, .box _ [.ref _ _ _, .int _ _, .int _ _, .ref _ _ _, .ref _ _ _], .row _ _ _] ⟨rfl, rfl, rfl, rfl, trivial⟩ rfl (W.rL (cL rfl (zXv (cs := [.ref _ _ _, .int _ _, .int _ _, .ref _ _ _, .ref _ _ _]) tt27 rfl rfl ⟨_, rfl⟩ rfl (cL rfl (zZp (v := .ref _ _ _) rfl ?_))))))))))))))))
 obtain ⟨s5, s6, s7, s8, hv⟩ := hv
 refine cL rfl (zZu (k := 22) (fst := []) (caps := []) (ys := [.agg _, .int _ _, .ref _ _ _, .int _ _, .int _ _]) rfl rfl (spec_brange sF 2 sL 0 1 s5 s6 s7 s8) (Wks.cons (zXr 5 _ (Wks.cons (ag_ref (fl := false) (xs := [0, 0, 0]) zZw 3 _ rfl rfl) (Wks.cons (zZz _ _ _ _) (Wks.cons (zZz _ _ _ _) (Wks.cons (ag_ref (fl := false) (xs := [0]) zZw 3 _ rfl rfl) (Wks.cons (ag_ref (fl := false) (xs := [0]) zZw 3 _ rfl rfl) (Wks.refl _))))))) (Wks.cons (zZz _ _ _ _) (Wks.cons (ag_ref (fl := false) (xs := sL) enc66 4 _ rfl rfl) (Wks.cons (zZz _ _ _ _) (Wks.cons (zZz _ _ _ _) (Wks.refl _)))))) (cL rfl (zZp (v := .tup _) rfl ?_)))
 iterate 3 refine cL rfl (o_ext (v := .int _ _) rfl rfl ?_)
 iterate 3 refine aI rfl rfl ?_
 refine eL (W.tr [(1, .ptr _ _), (2, .ref _ _ _), (3, .lst _ _ _), (4, .int _ _), (5, .int _ _), (6, .int _ _), (7, .int _ _)] [.row _ _ _, .row _ _ _, .row _ _ _, .box _ [.ref _ _ _, .int _ _, .int _ _, .ref _ _ _, .ref _ _ _], .row _ _ _] ⟨rfl, rfl, rfl, rfl, rfl, rfl, rfl, trivial⟩ rfl (W.rL (cL rfl (zXv (cs := [.ref _ _ _, .int _ _, .int _ _, .ref _ _ _, .ref _ _ _]) tt27 rfl rfl ⟨_, rfl⟩ rfl (cL rfl (zZp (v := .ref _ _ _) rfl ?_))))))
 obtain ⟨s9, s10, s11, s12, hv⟩ := hv
 refine cL rfl (zZu (k := 15) (fst := []) (caps := []) (ys := [.agg _, .int _ _, .ref _ _ _]) rfl rfl (spec_liars sF 2 sL s9 s10 s11 s12) (Wks.cons (zXr 5 _ (Wks.cons (ag_ref (fl := false) (xs := [0, 0, 0]) zZw 3 _ rfl rfl) (Wks.cons (zZz _ _ _ _) (Wks.cons (zZz _ _ _ _) (Wks.cons (ag_ref (fl := false) (xs := [0]) zZw 3 _ rfl rfl) (Wks.cons (ag_ref (fl := false) (xs := [0]) zZw 3 _ rfl rfl) (Wks.refl _))))))) (Wks.cons (zZz _ _ _ _) (Wks.cons (ag_ref (fl := false) (xs := sL) enc66 4 _ rfl rfl) (Wks.refl _)))) (cL rfl (zZp (v := .tup _) rfl ?_)))
 iterate 2 refine cL rfl (o_ext (v := .int _ _) rfl rfl ?_)
 iterate 2 refine aI rfl rfl ?_
 refine eL (W.tr [(1, .ptr _ _), (2, .ref _ _ _), (3, .lst _ _ _), (4, .int _ _), (5, .int _ _), (6, .int _ _), (7, .int _ _), (8, .int _ _), (9, .int _ _)] [.row _ _ _, .row _ _ _, .row _ _ _, .box _ [.ref _ _ _, .int _ _, .int _ _, .ref _ _ _, .ref _ _ _], .row _ _ _] ⟨rfl, rfl, rfl, rfl, rfl, rfl, rfl, rfl, rfl, trivial⟩ rfl (W.rL (cL rfl (zXv (cs := [.ref _ _ _, .int _ _, .int _ _, .ref _ _ _, .ref _ _ _]) tt27 rfl rfl ⟨_, rfl⟩ rfl (cL rfl (zZp (v := .ref _ _ _) rfl ?_))))))
 obtain ⟨s13, s14, s15, s16, hv⟩ := hv
 refine cL rfl (zZu (k := 24) (fst := []) (caps := []) (ys := [.agg _, .int _ _, .ref _ _ _, .int _ _, .int _ _, .int _ _]) rfl rfl (spec_witness sF 2 sL 0 1 10 s13 s14 s15 s16) (Wks.cons (zXr 5 _ (Wks.cons (ag_ref (fl := false) (xs := [0, 0, 0]) zZw 3 _ rfl rfl) (Wks.cons (zZz _ _ _ _) (Wks.cons (zZz _ _ _ _) (Wks.cons (ag_ref (fl := false) (xs := [0]) zZw 3 _ rfl rfl) (Wks.cons (ag_ref (fl := false) (xs := [0]) zZw 3 _ rfl rfl) (Wks.refl _))))))) (Wks.cons (zZz _ _ _ _) (Wks.cons (ag_ref (fl := false) (xs := sL) enc66 4 _ rfl rfl) (Wks.cons (zZz _ _ _ _) (Wks.cons (zZz _ _ _ _) (Wks.cons (zZz _ _ _ _) (Wks.refl _))))))) (cL rfl (zZp (v := .tup _) rfl (cL rfl (o_ext (v := .lst _ _ _) rfl rfl ?_)))))
 iterate 2 refine cL rfl (o_ext (v := .int _ _) rfl rfl ?_)
 refine aL rfl rfl ?_
 iterate 2 refine aI rfl rfl ?_
 refine eL (W.tr [(1, .ptr _ _), (2, .ref _ _ _), (3, .lst _ _ _), (4, .int _ _), (5, .int _ _), (6, .int _ _), (7, .int _ _), (8, .int _ _), (9, .int _ _), (10, .lst _ _ _), (11, .int _ _), (12, .int _ _)] [.row _ _ _, .row _ _ _, .row _ _ _, .box _ [.ref _ _ _, .int _ _, .int _ _, .ref _ _ _, .ref _ _ _], .row _ _ _] ⟨rfl, rfl, rfl, rfl, rfl, rfl, rfl, rfl, rfl, rfl, rfl, rfl, trivial⟩ rfl (W.rL (cL rfl (o_buildS (q := 5) (qs := []) (cs := []) tt28 tt66 rfl rfl rfl rfl (cL rfl (zZp (v := .ref _ _ _) rfl ?_))))))
 obtain ⟨s17, hv⟩ := hv
 refine cL rfl (o_apR (p := 6) (q := (sL).length) tt28 tt66 rfl rfl (src_ref rfl rfl) rfl rfl rfl (by simpa using s17) rfl (Nat.zero_add _) (List.nil_append _) (cL rfl (o_build (qs := [(0, .int _ _), (1, .int _ _), (2, .int _ _), (3, .int _ _)]) (cs := [.int _ _, .int _ _, .int _ _, .int _ _]) tt66 rfl rfl rfl (cL rfl (o_bs1 (v := .agg _) (q := 7) tt28 tt66 rfl rfl rfl rfl rfl rfl rfl rfl ?_)))))
 obtain ⟨s18, hv⟩ := hv
 refine cL rfl (o_apR (p := 8) (q := (sL ++ sQ).length) tt28 tt66 rfl rfl (src_ref rfl rfl) rfl rfl rfl (Nat.le_trans (Nat.le_of_eq (@List.length_append _ (sL) (sQ)).symm) s18) rfl (@List.length_append _ (sL) (sQ)).symm (encL_app e66 sL sQ) (cL rfl (zZq (v := .ref _ _ _) rfl (eL (W.tr [(1, .ptr _ _), (2, .ref _ _ _), (3, .lst _ _ _), (4, .int _ _), (5, .int _ _), (6, .int _ _), (7, .int _ _), (8, .int _ _), (9, .int _ _), (10, .lst _ _ _), (11, .int _ _), (12, .int _ _), (13, .ref _ _ _)] [.row _ _ _, .row _ _ _, .row _ _ _, .box _ [.ref _ _ _, .int _ _, .int _ _, .ref _ _ _, .ref _ _ _], .row _ _ _, .dead, .dead, .row _ _ _, .row _ _ _] ⟨rfl, rfl, rfl, rfl, rfl, rfl, rfl, rfl, rfl, rfl, rfl, rfl, rfl, trivial⟩ rfl (W.rL (cL rfl (zXv (cs := [.ref _ _ _, .int _ _, .int _ _, .ref _ _ _, .ref _ _ _]) tt27 rfl rfl ⟨_, rfl⟩ rfl (cL rfl (zZp (v := .ref _ _ _) rfl ?_))))))))))
 obtain ⟨s19, s20, s21, s22, hv⟩ := hv
 refine cL rfl (zZu (k := 13) (fst := []) (caps := []) (ys := [.agg _, .int _ _, .ref _ _ _]) rfl rfl (spec_choices sF 2 (sL ++ sQ) s19 s20 s21 s22) (Wks.cons (zXr 5 _ (Wks.cons (ag_ref (fl := false) (xs := [0, 0, 0]) zZw 3 _ rfl rfl) (Wks.cons (zZz _ _ _ _) (Wks.cons (zZz _ _ _ _) (Wks.cons (ag_ref (fl := false) (xs := [0]) zZw 3 _ rfl rfl) (Wks.cons (ag_ref (fl := false) (xs := [0]) zZw 3 _ rfl rfl) (Wks.refl _))))))) (Wks.cons (zZz _ _ _ _) (Wks.cons (ag_ref (fl := false) (xs := sL ++ sQ) enc66 4 _ rfl rfl) (Wks.refl _)))) (cL rfl (zZp (v := .tup _) rfl (cL rfl (o_ext (v := .lst _ _ _) rfl rfl (cL rfl (o_ext (v := .int _ _) rfl rfl (aL rfl rfl (aI rfl rfl (eL (W.tr [(1, .ptr _ _), (2, .ref _ _ _), (3, .lst _ _ _), (4, .int _ _), (5, .int _ _), (6, .int _ _), (7, .int _ _), (8, .int _ _), (9, .int _ _), (10, .lst _ _ _), (11, .int _ _), (12, .int _ _), (13, .ref _ _ _), (14, .lst _ _ _), (15, .int _ _)] [.row _ _ _, .row _ _ _, .row _ _ _, .box _ [.ref _ _ _, .int _ _, .int _ _, .ref _ _ _, .ref _ _ _], .row _ _ _, .dead, .dead, .row _ _ _, .row _ _ _] ⟨rfl, rfl, rfl, rfl, rfl, rfl, rfl, rfl, rfl, rfl, rfl, rfl, rfl, rfl, rfl, trivial⟩ rfl (W.rL (cL rfl (zXv (cs := [.ref _ _ _, .int _ _, .int _ _, .ref _ _ _, .ref _ _ _]) tt27 rfl rfl ⟨_, rfl⟩ rfl (cL rfl (zZp (v := .ref _ _ _) rfl ?_))))))))))))))))
 obtain ⟨s23, s24, s25, s26, hv⟩ := hv
 refine cL rfl (zZu (k := 22) (fst := []) (caps := []) (ys := [.agg _, .int _ _, .ref _ _ _, .int _ _, .int _ _]) rfl rfl (spec_brange sF 2 (sL ++ sQ) 0 1 s23 s24 s25 s26) (Wks.cons (zXr 5 _ (Wks.cons (ag_ref (fl := false) (xs := [0, 0, 0]) zZw 3 _ rfl rfl) (Wks.cons (zZz _ _ _ _) (Wks.cons (zZz _ _ _ _) (Wks.cons (ag_ref (fl := false) (xs := [0]) zZw 3 _ rfl rfl) (Wks.cons (ag_ref (fl := false) (xs := [0]) zZw 3 _ rfl rfl) (Wks.refl _))))))) (Wks.cons (zZz _ _ _ _) (Wks.cons (ag_ref (fl := false) (xs := sL ++ sQ) enc66 4 _ rfl rfl) (Wks.cons (zZz _ _ _ _) (Wks.cons (zZz _ _ _ _) (Wks.refl _)))))) (cL rfl (zZp (v := .tup _) rfl ?_)))
 iterate 3 refine cL rfl (o_ext (v := .int _ _) rfl rfl ?_)
 iterate 3 refine aI rfl rfl ?_
 refine eL (W.tr [(1, .ptr _ _), (2, .ref _ _ _), (3, .lst _ _ _), (4, .int _ _), (5, .int _ _), (6, .int _ _), (7, .int _ _), (8, .int _ _), (9, .int _ _), (10, .lst _ _ _), (11, .int _ _), (12, .int _ _), (13, .ref _ _ _), (14, .lst _ _ _), (15, .int _ _), (16, .int _ _), (17, .int _ _), (18, .int _ _)] [.row _ _ _, .row _ _ _, .row _ _ _, .box _ [.ref _ _ _, .int _ _, .int _ _, .ref _ _ _, .ref _ _ _], .row _ _ _, .dead, .dead, .row _ _ _, .row _ _ _] ⟨rfl, rfl, rfl, rfl, rfl, rfl, rfl, rfl, rfl, rfl, rfl, rfl, rfl, rfl, rfl, rfl, rfl, rfl, trivial⟩ rfl (W.rL (cL rfl (zXv (cs := [.ref _ _ _, .int _ _, .int _ _, .ref _ _ _, .ref _ _ _]) tt27 rfl rfl ⟨_, rfl⟩ rfl (cL rfl (zZp (v := .ref _ _ _) rfl ?_))))))
 obtain ⟨s27, s28, s29, s30, hv⟩ := hv
 refine cL rfl (zZu (k := 15) (fst := []) (caps := []) (ys := [.agg _, .int _ _, .ref _ _ _]) rfl rfl (spec_liars sF 2 (sL ++ sQ) s27 s28 s29 s30) (Wks.cons (zXr 5 _ (Wks.cons (ag_ref (fl := false) (xs := [0, 0, 0]) zZw 3 _ rfl rfl) (Wks.cons (zZz _ _ _ _) (Wks.cons (zZz _ _ _ _) (Wks.cons (ag_ref (fl := false) (xs := [0]) zZw 3 _ rfl rfl) (Wks.cons (ag_ref (fl := false) (xs := [0]) zZw 3 _ rfl rfl) (Wks.refl _))))))) (Wks.cons (zZz _ _ _ _) (Wks.cons (ag_ref (fl := false) (xs := sL ++ sQ) enc66 4 _ rfl rfl) (Wks.refl _)))) (cL rfl (zZp (v := .tup _) rfl ?_)))
 iterate 2 refine cL rfl (o_ext (v := .int _ _) rfl rfl ?_)
 iterate 2 refine aI rfl rfl ?_
 refine eL (W.tr [(1, .ptr _ _), (2, .ref _ _ _), (3, .lst _ _ _), (4, .int _ _), (5, .int _ _), (6, .int _ _), (7, .int _ _), (8, .int _ _), (9, .int _ _), (10, .lst _ _ _), (11, .int _ _), (12, .int _ _), (14, .lst _ _ _), (15, .int _ _), (16, .int _ _), (17, .int _ _), (18, .int _ _), (19, .int _ _), (20, .int _ _)] [.row _ _ _, .row _ _ _, .row _ _ _, .box _ [.ref _ _ _, .int _ _, .int _ _, .ref _ _ _, .ref _ _ _], .row _ _ _, .dead, .dead, .row _ _ _, .row _ _ _] ⟨rfl, rfl, rfl, rfl, rfl, rfl, rfl, rfl, rfl, rfl, rfl, rfl, rfl, rfl, rfl, rfl, rfl, rfl, rfl, trivial⟩ rfl (W.rL (cL rfl (o_fa tt27 rfl tt3 rfl (cLn (o_stB (v := .int _ _) (vs := [.int _ _]) (cs2 := [.ref _ _ _, .int _ _, .int _ _, .ref _ _ _, .ref _ _ _]) tt3 rfl rfl rfl rfl rfl (Nat.le_of_ble_eq_true rfl) rfl (eL (W.rL (cL rfl (zXv (cs := [.ref _ _ _, .int _ _, .int _ _, .ref _ _ _, .ref _ _ _]) tt27 rfl rfl ⟨_, rfl⟩ rfl (cL rfl (zZp (v := .ref _ _ _) rfl ?_))))))))))))
 obtain ⟨s31, s32, s33, s34, hv⟩ := hv
 refine cL rfl (zZu (k := 13) (fst := []) (caps := []) (ys := [.agg _, .int _ _, .ref _ _ _]) rfl rfl (spec_choices (Flt.mk [0, 0, 0] 0 0 [0] [0]) 2 sL s31 s32 s33 s34) (Wks.cons (zXr 5 _ (Wks.cons (ag_ref (fl := false) (xs := [0, 0, 0]) zZw 3 _ rfl rfl) (Wks.cons (zZz _ _ _ _) (Wks.cons (zZz _ _ _ _) (Wks.cons (ag_ref (fl := false) (xs := [0]) zZw 3 _ rfl rfl) (Wks.cons (ag_ref (fl := false) (xs := [0]) zZw 3 _ rfl rfl) (Wks.refl _))))))) (Wks.cons (zZz _ _ _ _) (Wks.cons (ag_ref (fl := false) (xs := sL) enc66 4 _ rfl rfl) (Wks.refl _)))) (cL rfl (zZp (v := .tup _) rfl (cL rfl (o_ext (v := .lst _ _ _) rfl rfl (cL rfl (o_ext (v := .int _ _) rfl rfl (aL rfl rfl (aI rfl rfl (eL (W.tr [(2, .ref _ _ _), (3, .lst _ _ _), (4, .int _ _), (5, .int _ _), (6, .int _ _), (7, .int _ _), (8, .int _ _), (9, .int _ _), (10, .lst _ _ _), (11, .int _ _), (12, .int _ _), (14, .lst _ _ _), (15, .int _ _), (16, .int _ _), (17, .int _ _), (18, .int _ _), (19, .int _ _), (20, .int _ _), (22, .int _ _)] [.row _ _ _, .row _ _ _, .row _ _ _, .box _ [.ref _ _ _, .int _ _, .int _ _, .ref _ _ _, .ref _ _ _], .row _ _ _, .dead, .dead, .row _ _ _, .row _ _ _] ⟨rfl, rfl, rfl, rfl, rfl, rfl, rfl, rfl, rfl, rfl, rfl, rfl, rfl, rfl, rfl, rfl, rfl, rfl, rfl, trivial⟩ rfl (W.rL (cL rfl (o_build (qs := []) (cs := [.nilS, .int _ _, .int _ _, .nilS, .nilS]) tt27 rfl rfl rfl (cL rfl (zZp (v := .ref _ _ _) rfl ?_))))))))))))))))
 obtain ⟨s35, s36, s37, s38, hv⟩ := hv
 refine cL rfl (zZu (k := 13) (fst := []) (caps := []) (ys := [.agg _, .int _ _, .ref _ _ _]) rfl rfl (spec_choices (Flt.mk [] 0 0 [] []) 2 sL s35 s36 s37 s38) (Wks.cons (zXr 5 _ (Wks.cons (ag_nil _ _ _ _ rfl) (Wks.cons (zZz _ _ _ _) (Wks.cons (zZz _ _ _ _) (Wks.cons (ag_nil _ _ _ _ rfl) (Wks.cons (ag_nil _ _ _ _ rfl) (Wks.refl _))))))) (Wks.cons (zZz _ _ _ _) (Wks.cons (ag_ref (fl := false) (xs := sL) enc66 4 _ rfl rfl) (Wks.refl _)))) (cL rfl (zZp (v := .tup _) rfl (cL rfl (o_ext (v := .lst _ _ _) rfl rfl (cL rfl (o_ext (v := .int _ _) rfl rfl (aL rfl rfl (aI rfl rfl (eL (W.tr [(2, .ref _ _ _), (3, .lst _ _ _), (4, .int _ _), (5, .int _ _), (6, .int _ _), (7, .int _ _), (8, .int _ _), (9, .int _ _), (10, .lst _ _ _), (11, .int _ _), (12, .int _ _), (14, .lst _ _ _), (15, .int _ _), (16, .int _ _), (17, .int _ _), (18, .int _ _), (19, .int _ _), (20, .int _ _), (22, .int _ _), (24, .int _ _)] [.row _ _ _, .row _ _ _, .row _ _ _, .box _ [.ref _ _ _, .int _ _, .int _ _, .ref _ _ _, .ref _ _ _], .row _ _ _, .dead, .dead, .row _ _ _, .row _ _ _] ⟨rfl, rfl, rfl, rfl, rfl, rfl, rfl, rfl, rfl, rfl, rfl, rfl, rfl, rfl, rfl, rfl, rfl, rfl, rfl, rfl, trivial⟩ rfl (W.rLm ⟨185, look [(2, .ref false 4 3), (3, .lst false ((chM sF 2 sL).1).length (zYy zYx ((chM sF 2 sL).1))), (5, .int .i64 ((zYv sF 2 sL 0 1).1)), (6, .int .i64 ((zYv sF 2 sL 0 1).2.1)), (8, .int .i64 ((liM sF 2 sL).1)), (10, .lst false ((witM sF 2 sL 0 1 10).1).length (zYy zYx ((witM sF 2 sL 0 1 10).1))), (11, .int .i64 ((witM sF 2 sL 0 1 10).2.1)), (14, .lst false ((chM sF 2 (sL ++ sQ)).1).length (zYy zYx ((chM sF 2 (sL ++ sQ)).1))), (16, .int .i64 ((zYv sF 2 (sL ++ sQ) 0 1).1)), (17, .int .i64 ((zYv sF 2 (sL ++ sQ) 0 1).2.1)), (19, .int .i64 ((liM sF 2 (sL ++ sQ)).1)), (25, .bool (decide (((chM sF 2 sL).2 = 0) /\ (((zYv sF 2 sL 0 1).2.2 = 0) /\ (((liM sF 2 sL).2 = 0) /\ (((witM sF 2 sL 0 1 10).2.2 = 0) /\ (((chM sF 2 (sL ++ sQ)).2 = 0) /\ (((zYv sF 2 (sL ++ sQ) 0 1).2.2 = 0) /\ (((liM sF 2 (sL ++ sQ)).2 = 0) /\ (((chM (Flt.mk [0, 0, 0] 0 0 [0] [0]) 2 sL).2 = 100) /\ ((chM (Flt.mk [] 0 0 [] []) 2 sL).2 = 2)))))))))))], [.row 3 1 (zYy zYx [0, 0, 0]), .row 3 1 (zYy zYx [0]), .row 3 1 (zYy zYx [0]), .box 27 [.ref false 0 3, .int .i64 0, .int .i64 0, .ref false 1 1, .ref false 2 1], .row 66 4 (zYy e66 sL), .dead, .dead, .row 66 4 (zYy e66 sQ), .row 66 4 (zYy e66 (sL ++ sQ))], 0⟩ ?_ ?_))))))))))))
 refine mI rfl rfl (cL rfl (o_eqI rfl rfl rfl (mB rfl rfl ?_)))
 by_cases c1 : (chM sF 2 sL).2 = 0
 refine cLg rfl rfl (dT c1) (mI rfl rfl (cLg rfl rfl (dT c1) (cL rfl (o_eqI rfl rfl rfl (cL rfl (zZv (v := .bool _) rfl (dT c1) rfl (mB rfl rfl ?_)))))))
 by_cases c2 : (zYv sF 2 sL 0 1).2.2 = 0
 refine cLg rfl rfl (dT c2) (mI rfl rfl (cLg rfl rfl (dT c2) (cL rfl (o_eqI rfl rfl rfl (cL rfl (zZv (v := .bool _) rfl (dT c2) rfl (mB rfl rfl ?_)))))))
 by_cases c3 : (liM sF 2 sL).2 = 0
 refine cLg rfl rfl (dT c3) (mI rfl rfl (cLg rfl rfl (dT c3) (cL rfl (o_eqI rfl rfl rfl (cL rfl (zZv (v := .bool _) rfl (dT c3) rfl (mB rfl rfl ?_)))))))
 by_cases c4 : (witM sF 2 sL 0 1 10).2.2 = 0
 refine cLg rfl rfl (dT c4) (mI rfl rfl (cLg rfl rfl (dT c4) (cL rfl (o_eqI rfl rfl rfl (cL rfl (zZv (v := .bool _) rfl (dT c4) rfl (mB rfl rfl ?_)))))))
 by_cases c5 : (chM sF 2 (sL ++ sQ)).2 = 0
 refine cLg rfl rfl (dT c5) (mI rfl rfl (cLg rfl rfl (dT c5) (cL rfl (o_eqI rfl rfl rfl (cL rfl (zZv (v := .bool _) rfl (dT c5) rfl (mB rfl rfl ?_)))))))
 by_cases c6 : (zYv sF 2 (sL ++ sQ) 0 1).2.2 = 0
 refine cLg rfl rfl (dT c6) (mI rfl rfl (cLg rfl rfl (dT c6) (cL rfl (o_eqI rfl rfl rfl (cL rfl (zZv (v := .bool _) rfl (dT c6) rfl (mB rfl rfl ?_)))))))
 by_cases c7 : (liM sF 2 (sL ++ sQ)).2 = 0
 refine cLg rfl rfl (dT c7) (mI rfl rfl (cLg rfl rfl (dT c7) (cL rfl (o_eqI rfl rfl rfl (cL rfl (zZv (v := .bool _) rfl (dT c7) rfl (mB rfl rfl ?_)))))))
 by_cases c8 : (chM (Flt.mk [0, 0, 0] 0 0 [0] [0]) 2 sL).2 = 100
 refine cLg rfl rfl (dT c8) (mI rfl rfl (cLg rfl rfl (dT c8) (cL rfl (o_eqI rfl rfl rfl (cL rfl (zZv (v := .bool _) rfl (dT c8) rfl (aB rfl rfl (eL (zYz ⟨rfl, rfl, rfl, rfl, rfl, rfl, rfl, rfl, rfl, rfl, rfl, (congrArg AV.bool (zXp c1 (zXp c2 (zXp c3 (zXp c4 (zXp c5 (zXp c6 (zXp c7 (zXp c8 (rfl)))))))))).symm, trivial⟩ rfl)))))))))
 iterate 2 refine cLs rfl rfl rfl (dF c8) ?_
 refine cL rfl (zZy (v := .bool _) rfl (dF c8) rfl (aB rfl rfl (eL (zYz ⟨rfl, rfl, rfl, rfl, rfl, rfl, rfl, rfl, rfl, rfl, rfl, (congrArg AV.bool (zXp c1 (zXp c2 (zXp c3 (zXp c4 (zXp c5 (zXp c6 (zXp c7 (dAndF c8))))))))).symm, trivial⟩ rfl))))
 iterate 2 refine cLs rfl rfl rfl (dF c7) ?_
 refine cL rfl (zZy (v := .bool _) rfl (dF c7) rfl (mB rfl rfl ?_))
 iterate 2 refine cLs rfl rfl rfl (rfl) ?_
 refine cL rfl (zZy (v := .bool _) rfl rfl rfl (aB rfl rfl (eL (zYz ⟨rfl, rfl, rfl, rfl, rfl, rfl, rfl, rfl, rfl, rfl, rfl, (congrArg AV.bool (zXp c1 (zXp c2 (zXp c3 (zXp c4 (zXp c5 (zXp c6 (dAndF c7)))))))).symm, trivial⟩ rfl))))
 iterate 2 refine cLs rfl rfl rfl (dF c6) ?_
 refine cL rfl (zZy (v := .bool _) rfl (dF c6) rfl (mB rfl rfl ?_))
 iterate 2 refine cLs rfl rfl rfl (rfl) ?_
 refine cL rfl (zZy (v := .bool _) rfl rfl rfl (mB rfl rfl ?_))
 iterate 2 refine cLs rfl rfl rfl (rfl) ?_
 refine cL rfl (zZy (v := .bool _) rfl rfl rfl (aB rfl rfl (eL (zYz ⟨rfl, rfl, rfl, rfl, rfl, rfl, rfl, rfl, rfl, rfl, rfl, (congrArg AV.bool (zXp c1 (zXp c2 (zXp c3 (zXp c4 (zXp c5 (dAndF c6))))))).symm, trivial⟩ rfl))))
 iterate 2 refine cLs rfl rfl rfl (dF c5) ?_
 refine cL rfl (zZy (v := .bool _) rfl (dF c5) rfl (mB rfl rfl ?_))
 iterate 2 refine cLs rfl rfl rfl (rfl) ?_
 refine cL rfl (zZy (v := .bool _) rfl rfl rfl (mB rfl rfl ?_))
 iterate 2 refine cLs rfl rfl rfl (rfl) ?_
 refine cL rfl (zZy (v := .bool _) rfl rfl rfl (mB rfl rfl ?_))
 iterate 2 refine cLs rfl rfl rfl (rfl) ?_
 refine cL rfl (zZy (v := .bool _) rfl rfl rfl (aB rfl rfl (eL (zYz ⟨rfl, rfl, rfl, rfl, rfl, rfl, rfl, rfl, rfl, rfl, rfl, (congrArg AV.bool (zXp c1 (zXp c2 (zXp c3 (zXp c4 (dAndF c5)))))).symm, trivial⟩ rfl))))
 iterate 2 refine cLs rfl rfl rfl (dF c4) ?_
 refine cL rfl (zZy (v := .bool _) rfl (dF c4) rfl (mB rfl rfl ?_))
 iterate 2 refine cLs rfl rfl rfl (rfl) ?_
 refine cL rfl (zZy (v := .bool _) rfl rfl rfl (mB rfl rfl ?_))
 iterate 2 refine cLs rfl rfl rfl (rfl) ?_
 refine cL rfl (zZy (v := .bool _) rfl rfl rfl (mB rfl rfl ?_))
 iterate 2 refine cLs rfl rfl rfl (rfl) ?_
 refine cL rfl (zZy (v := .bool _) rfl rfl rfl (mB rfl rfl ?_))
 iterate 2 refine cLs rfl rfl rfl (rfl) ?_
 refine cL rfl (zZy (v := .bool _) rfl rfl rfl (aB rfl rfl (eL (zYz ⟨rfl, rfl, rfl, rfl, rfl, rfl, rfl, rfl, rfl, rfl, rfl, (congrArg AV.bool (zXp c1 (zXp c2 (zXp c3 (dAndF c4))))).symm, trivial⟩ rfl))))
 iterate 2 refine cLs rfl rfl rfl (dF c3) ?_
 refine cL rfl (zZy (v := .bool _) rfl (dF c3) rfl (mB rfl rfl ?_))
 iterate 2 refine cLs rfl rfl rfl (rfl) ?_
 refine cL rfl (zZy (v := .bool _) rfl rfl rfl (mB rfl rfl ?_))
 iterate 2 refine cLs rfl rfl rfl (rfl) ?_
 refine cL rfl (zZy (v := .bool _) rfl rfl rfl (mB rfl rfl ?_))
 iterate 2 refine cLs rfl rfl rfl (rfl) ?_
 refine cL rfl (zZy (v := .bool _) rfl rfl rfl (mB rfl rfl ?_))
 iterate 2 refine cLs rfl rfl rfl (rfl) ?_
 refine cL rfl (zZy (v := .bool _) rfl rfl rfl (mB rfl rfl ?_))
 iterate 2 refine cLs rfl rfl rfl (rfl) ?_
 refine cL rfl (zZy (v := .bool _) rfl rfl rfl (aB rfl rfl (eL (zYz ⟨rfl, rfl, rfl, rfl, rfl, rfl, rfl, rfl, rfl, rfl, rfl, (congrArg AV.bool (zXp c1 (zXp c2 (dAndF c3)))).symm, trivial⟩ rfl))))
 iterate 2 refine cLs rfl rfl rfl (dF c2) ?_
 refine cL rfl (zZy (v := .bool _) rfl (dF c2) rfl (mB rfl rfl ?_))
 iterate 2 refine cLs rfl rfl rfl (rfl) ?_
 refine cL rfl (zZy (v := .bool _) rfl rfl rfl (mB rfl rfl ?_))
 iterate 2 refine cLs rfl rfl rfl (rfl) ?_
 refine cL rfl (zZy (v := .bool _) rfl rfl rfl (mB rfl rfl ?_))
 iterate 2 refine cLs rfl rfl rfl (rfl) ?_
 refine cL rfl (zZy (v := .bool _) rfl rfl rfl (mB rfl rfl ?_))
 iterate 2 refine cLs rfl rfl rfl (rfl) ?_
 refine cL rfl (zZy (v := .bool _) rfl rfl rfl (mB rfl rfl ?_))
 iterate 2 refine cLs rfl rfl rfl (rfl) ?_
 refine cL rfl (zZy (v := .bool _) rfl rfl rfl (mB rfl rfl ?_))
 iterate 2 refine cLs rfl rfl rfl (rfl) ?_
 refine cL rfl (zZy (v := .bool _) rfl rfl rfl (aB rfl rfl (eL (zYz ⟨rfl, rfl, rfl, rfl, rfl, rfl, rfl, rfl, rfl, rfl, rfl, (congrArg AV.bool (zXp c1 (dAndF c2))).symm, trivial⟩ rfl))))
 iterate 2 refine cLs rfl rfl rfl (dF c1) ?_
 refine cL rfl (zZy (v := .bool _) rfl (dF c1) rfl (mB rfl rfl ?_))
 iterate 2 refine cLs rfl rfl rfl (rfl) ?_
 refine cL rfl (zZy (v := .bool _) rfl rfl rfl (mB rfl rfl ?_))
 iterate 2 refine cLs rfl rfl rfl (rfl) ?_
 refine cL rfl (zZy (v := .bool _) rfl rfl rfl (mB rfl rfl ?_))
 iterate 2 refine cLs rfl rfl rfl (rfl) ?_
 refine cL rfl (zZy (v := .bool _) rfl rfl rfl (mB rfl rfl ?_))
 iterate 2 refine cLs rfl rfl rfl (rfl) ?_
 refine cL rfl (zZy (v := .bool _) rfl rfl rfl (mB rfl rfl ?_))
 iterate 2 refine cLs rfl rfl rfl (rfl) ?_
 refine cL rfl (zZy (v := .bool _) rfl rfl rfl (mB rfl rfl ?_))
 iterate 2 refine cLs rfl rfl rfl (rfl) ?_
 refine cL rfl (zZy (v := .bool _) rfl rfl rfl (mB rfl rfl ?_))
 iterate 2 refine cLs rfl rfl rfl (rfl) ?_
 refine cL rfl (zZy (v := .bool _) rfl rfl rfl (aB rfl rfl (eL (zYz ⟨rfl, rfl, rfl, rfl, rfl, rfl, rfl, rfl, rfl, rfl, rfl, (congrArg AV.bool (dAndF c1)).symm, trivial⟩ rfl))))
 obtain ⟨sd, hv⟩ := hv
 refine W.rLmT ⟨185, look [(2, .ref false 4 3), (14, .lst false ((chM sF 2 (sL ++ sQ)).1).length (zYy zYx ((chM sF 2 (sL ++ sQ)).1))), (16, .int .i64 ((zYv sF 2 (sL ++ sQ) 0 1).1)), (17, .int .i64 ((zYv sF 2 (sL ++ sQ) 0 1).2.1)), (19, .int .i64 ((liM sF 2 (sL ++ sQ)).1)), (25, .bool (decide (((chM sF 2 sL).2 = 0) /\ (((zYv sF 2 sL 0 1).2.2 = 0) /\ (((liM sF 2 sL).2 = 0) /\ (((witM sF 2 sL 0 1 10).2.2 = 0) /\ (((chM sF 2 (sL ++ sQ)).2 = 0) /\ (((zYv sF 2 (sL ++ sQ) 0 1).2.2 = 0) /\ (((liM sF 2 (sL ++ sQ)).2 = 0) /\ (((chM (Flt.mk [0, 0, 0] 0 0 [0] [0]) 2 sL).2 = 100) /\ ((chM (Flt.mk [] 0 0 [] []) 2 sL).2 = 2))))))))))), (26, .bool (decide ((((chM sF 2 sL).1) = [3, 6]) /\ (((zYv sF 2 sL 0 1).1 = 4) /\ (((zYv sF 2 sL 0 1).2.1 = 1152921504606846976) /\ (((liM sF 2 sL).1 = 0) /\ ((((witM sF 2 sL 0 1 10).1) = [0, 10]) /\ ((witM sF 2 sL 0 1 10).2.1 = 6))))))))], [.dead, .dead, .dead, .dead, .row 66 4 (zYy e66 sL)], 0⟩ ?_ ?_
 refine mL rfl rfl (cL rfl (o_buildS (q := 9) (qs := [(0, .int _ _), (1, .int _ _)]) (cs := [.int _ _, .int _ _]) tt23 tt3 rfl rfl rfl rfl ?_))
 obtain ⟨s41, sd⟩ := sd
 refine cL rfl (zZu (k := 17) (fst := []) (caps := []) (ys := [.lst _ _ _, .ref _ _ _]) rfl rfl (spec_ints ((chM sF 2 sL).1) [3, 6] s41) (Wks.cons (zZs _ _ _ _ _) (Wks.cons (ag_ref (fl := false) (xs := [3, 6]) zZw 4 _ rfl rfl) (Wks.refl _))) (mB rfl rfl ?_))
 by_cases c1 : ((chM sF 2 sL).1) = [3, 6]
 have sd := sd.1 c1
 refine cLg rfl rfl (dT c1) (mI rfl rfl (cLg rfl rfl (dT c1) (cL rfl (o_eqI rfl rfl rfl (cL rfl (zZv (v := .bool _) rfl (dT c1) rfl (mB rfl rfl ?_)))))))
 by_cases c2 : (zYv sF 2 sL 0 1).1 = 4
 have sd := sd.1 c2
 refine cLg rfl rfl (dT c2) (mI rfl rfl (cLg rfl rfl (dT c2) (cL rfl (o_eqI rfl rfl rfl (cL rfl (zZv (v := .bool _) rfl (dT c2) rfl (mB rfl rfl ?_)))))))
 by_cases c3 : (zYv sF 2 sL 0 1).2.1 = 1152921504606846976
 have sd := sd.1 c3
 refine cLg rfl rfl (dT c3) (mI rfl rfl (cLg rfl rfl (dT c3) (cL rfl (o_eqI rfl rfl rfl (cL rfl (zZv (v := .bool _) rfl (dT c3) rfl (mB rfl rfl ?_)))))))
 by_cases c4 : (liM sF 2 sL).1 = 0
 have sd := sd.1 c4
 refine cLg rfl rfl (dT c4) (mL rfl rfl (cLg rfl rfl (dT c4) (cL rfl (o_buildS (q := 10) (qs := [(0, .int _ _), (1, .int _ _)]) (cs := [.int _ _, .int _ _]) tt23 tt3 rfl rfl rfl rfl (cLg rfl rfl (dT c4) ?_)))))
 obtain ⟨s42, sd⟩ := sd
 refine cL rfl (zZu (k := 17) (fst := []) (caps := []) (ys := [.lst _ _ _, .ref _ _ _]) rfl rfl (spec_ints ((witM sF 2 sL 0 1 10).1) [0, 10] s42) (Wks.cons (zZs _ _ _ _ _) (Wks.cons (ag_ref (fl := false) (xs := [0, 10]) zZw 4 _ rfl rfl) (Wks.refl _))) (cL rfl (zZv (v := .bool _) rfl (dT c4) rfl (mB rfl rfl ?_))))
 by_cases c5 : ((witM sF 2 sL 0 1 10).1) = [0, 10]
 refine cLg rfl rfl (dT c5) (mI rfl rfl (cLg rfl rfl (dT c5) (cL rfl (o_eqI rfl rfl rfl (cL rfl (zZv (v := .bool _) rfl (dT c5) rfl (aB rfl rfl (eL (St.to_mk (φ := [none, none, none, none, some 4]) rfl (rfl) ⟨Ren.ref rfl (fun h => h), Ren.lst _ _ _, Ren.int _ _, Ren.int _ _, Ren.int _ _, Ren.bool _, Ren.boolE (zXp c1 (zXp c2 (zXp c3 (zXp c4 (zXp c5 (rfl)))))), trivial⟩ ⟨rfl, rfl, rfl, rfl, .inr ⟨_, rfl, rfl, rfl, rfl, Rens.enc enc66 false sL⟩, trivial⟩)))))))))
 iterate 2 refine cLs rfl rfl rfl (dF c5) ?_
 refine cL rfl (zZy (v := .bool _) rfl (dF c5) rfl (aB rfl rfl (eL (St.to_mk (φ := [none, none, none, none, some 4]) rfl (rfl) ⟨Ren.ref rfl (fun h => h), Ren.lst _ _ _, Ren.int _ _, Ren.int _ _, Ren.int _ _, Ren.bool _, Ren.boolE (zXp c1 (zXp c2 (zXp c3 (zXp c4 (dAndF c5))))), trivial⟩ ⟨rfl, rfl, rfl, rfl, .inr ⟨_, rfl, rfl, rfl, rfl, Rens.enc enc66 false sL⟩, trivial⟩))))
 iterate 3 refine cLs rfl rfl rfl (dF c4) ?_
 refine cL rfl (zZy (v := .bool _) rfl (dF c4) rfl (mB rfl rfl ?_))
 iterate 2 refine cLs rfl rfl rfl (rfl) ?_
 refine cL rfl (zZy (v := .bool _) rfl rfl rfl (aB rfl rfl (eL (St.to_mk (φ := [none, none, none, none, some 4]) rfl (rfl) ⟨Ren.ref rfl (fun h => h), Ren.lst _ _ _, Ren.int _ _, Ren.int _ _, Ren.int _ _, Ren.bool _, Ren.boolE (zXp c1 (zXp c2 (zXp c3 (dAndF c4)))), trivial⟩ ⟨rfl, rfl, rfl, rfl, .inr ⟨_, rfl, rfl, rfl, rfl, Rens.enc enc66 false sL⟩, trivial⟩))))
 iterate 2 refine cLs rfl rfl rfl (dF c3) ?_
 refine cL rfl (zZy (v := .bool _) rfl (dF c3) rfl (mB rfl rfl ?_))
 iterate 3 refine cLs rfl rfl rfl (rfl) ?_
 refine cL rfl (zZy (v := .bool _) rfl rfl rfl (mB rfl rfl ?_))
 iterate 2 refine cLs rfl rfl rfl (rfl) ?_
 refine cL rfl (zZy (v := .bool _) rfl rfl rfl (aB rfl rfl (eL (St.to_mk (φ := [none, none, none, none, some 4]) rfl (rfl) ⟨Ren.ref rfl (fun h => h), Ren.lst _ _ _, Ren.int _ _, Ren.int _ _, Ren.int _ _, Ren.bool _, Ren.boolE (zXp c1 (zXp c2 (dAndF c3))), trivial⟩ ⟨rfl, rfl, rfl, rfl, .inr ⟨_, rfl, rfl, rfl, rfl, Rens.enc enc66 false sL⟩, trivial⟩))))
 iterate 2 refine cLs rfl rfl rfl (dF c2) ?_
 refine cL rfl (zZy (v := .bool _) rfl (dF c2) rfl (mB rfl rfl ?_))
 iterate 2 refine cLs rfl rfl rfl (rfl) ?_
 refine cL rfl (zZy (v := .bool _) rfl rfl rfl (mB rfl rfl ?_))
 iterate 3 refine cLs rfl rfl rfl (rfl) ?_
 refine cL rfl (zZy (v := .bool _) rfl rfl rfl (mB rfl rfl ?_))
 iterate 2 refine cLs rfl rfl rfl (rfl) ?_
 refine cL rfl (zZy (v := .bool _) rfl rfl rfl (aB rfl rfl (eL (St.to_mk (φ := [none, none, none, none, some 4]) rfl (rfl) ⟨Ren.ref rfl (fun h => h), Ren.lst _ _ _, Ren.int _ _, Ren.int _ _, Ren.int _ _, Ren.bool _, Ren.boolE (zXp c1 (dAndF c2)), trivial⟩ ⟨rfl, rfl, rfl, rfl, .inr ⟨_, rfl, rfl, rfl, rfl, Rens.enc enc66 false sL⟩, trivial⟩))))
 iterate 2 refine cLs rfl rfl rfl (dF c1) ?_
 refine cL rfl (zZy (v := .bool _) rfl (dF c1) rfl (mB rfl rfl ?_))
 iterate 2 refine cLs rfl rfl rfl (rfl) ?_
 refine cL rfl (zZy (v := .bool _) rfl rfl rfl (mB rfl rfl ?_))
 iterate 2 refine cLs rfl rfl rfl (rfl) ?_
 refine cL rfl (zZy (v := .bool _) rfl rfl rfl (mB rfl rfl ?_))
 iterate 3 refine cLs rfl rfl rfl (rfl) ?_
 refine cL rfl (zZy (v := .bool _) rfl rfl rfl (mB rfl rfl ?_))
 iterate 2 refine cLs rfl rfl rfl (rfl) ?_
 refine cL rfl (zZy (v := .bool _) rfl rfl rfl (aB rfl rfl (eL (St.to_mk (φ := [none, none, none, none, some 4]) rfl (rfl) ⟨Ren.ref rfl (fun h => h), Ren.lst _ _ _, Ren.int _ _, Ren.int _ _, Ren.int _ _, Ren.bool _, Ren.boolE (dAndF c1), trivial⟩ ⟨rfl, rfl, rfl, rfl, .inr ⟨_, rfl, rfl, rfl, rfl, Rens.enc enc66 false sL⟩, trivial⟩))))
 obtain ⟨sd, hv⟩ := hv
 refine W.rPmT ⟨185, look [(0, .bool (decide ((((chM sF 2 sL).2 = 0) /\ (((zYv sF 2 sL 0 1).2.2 = 0) /\ (((liM sF 2 sL).2 = 0) /\ (((witM sF 2 sL 0 1 10).2.2 = 0) /\ (((chM sF 2 (sL ++ sQ)).2 = 0) /\ (((zYv sF 2 (sL ++ sQ) 0 1).2.2 = 0) /\ (((liM sF 2 (sL ++ sQ)).2 = 0) /\ (((chM (Flt.mk [0, 0, 0] 0 0 [0] [0]) 2 sL).2 = 100) /\ ((chM (Flt.mk [] 0 0 [] []) 2 sL).2 = 2))))))))) /\ (((((chM sF 2 sL).1) = [3, 6]) /\ (((zYv sF 2 sL 0 1).1 = 4) /\ (((zYv sF 2 sL 0 1).2.1 = 1152921504606846976) /\ (((liM sF 2 sL).1 = 0) /\ ((((witM sF 2 sL 0 1 10).1) = [0, 10]) /\ ((witM sF 2 sL 0 1 10).2.1 = 6)))))) /\ ((((chM sF 2 (sL ++ sQ)).1) = [3]) /\ (((zYv sF 2 (sL ++ sQ) 0 1).1 = 4) /\ (((zYv sF 2 (sL ++ sQ) 0 1).2.1 = 5) /\ (((liM sF 2 (sL ++ sQ)).1 = 4) /\ ((partM sL 3) = (sL.take ((2 : Int).toNat)))))))))))], [.dead], 0⟩ [0, 1, 2, 3, 4, 5, 6, 7, 8, 9, 10, 11, 12, 13, 14, 15, 16, 17, 18, 19, 20, 21, 22, 24, 25, 23, 26, 27, 28] (by decide +kernel) rfl ?_ ?_
 iterate 2 refine mB rfl rfl ?_
 by_cases c1 : ((chM sF 2 sL).2 = 0) /\ (((zYv sF 2 sL 0 1).2.2 = 0) /\ (((liM sF 2 sL).2 = 0) /\ (((witM sF 2 sL 0 1 10).2.2 = 0) /\ (((chM sF 2 (sL ++ sQ)).2 = 0) /\ (((zYv sF 2 (sL ++ sQ) 0 1).2.2 = 0) /\ (((liM sF 2 (sL ++ sQ)).2 = 0) /\ (((chM (Flt.mk [0, 0, 0] 0 0 [0] [0]) 2 sL).2 = 100) /\ ((chM (Flt.mk [] 0 0 [] []) 2 sL).2 = 2))))))))
 have sd := sd.1 c1
 refine cLg rfl rfl (dT c1) (mB rfl rfl (cL rfl (zZv (v := .bool _) rfl (dT c1) rfl (mB rfl rfl ?_))))
 by_cases c2 : (((chM sF 2 sL).1) = [3, 6]) /\ (((zYv sF 2 sL 0 1).1 = 4) /\ (((zYv sF 2 sL 0 1).2.1 = 1152921504606846976) /\ (((liM sF 2 sL).1 = 0) /\ ((((witM sF 2 sL 0 1 10).1) = [0, 10]) /\ ((witM sF 2 sL 0 1 10).2.1 = 6)))))
 have sd := sd.1 c2
 refine cLg rfl rfl (dT c2) (mL rfl rfl (cLg rfl rfl (dT c2) (cL rfl (o_bs1 (v := .int _ _) (q := 5) tt23 tt3 rfl rfl rfl rfl rfl rfl rfl rfl (cLg rfl rfl (dT c2) ?_)))))
 obtain ⟨s48, sd⟩ := sd
 refine cL rfl (zZu (k := 17) (fst := []) (caps := []) (ys := [.lst _ _ _, .ref _ _ _]) rfl rfl (spec_ints ((chM sF 2 (sL ++ sQ)).1) [3] s48) (Wks.cons (zZs _ _ _ _ _) (Wks.cons (ag_ref (fl := false) (xs := [3]) zZw 4 _ rfl rfl) (Wks.refl _))) (cL rfl (zZv (v := .bool _) rfl (dT c2) rfl (mB rfl rfl ?_))))
 by_cases c3 : ((chM sF 2 (sL ++ sQ)).1) = [3]
 have sd := sd.1 c3
 refine cLg rfl rfl (dT c3) (mI rfl rfl (cLg rfl rfl (dT c3) (cL rfl (o_eqI rfl rfl rfl (cL rfl (zZv (v := .bool _) rfl (dT c3) rfl (mB rfl rfl ?_)))))))
 by_cases c4 : (zYv sF 2 (sL ++ sQ) 0 1).1 = 4
 have sd := sd.1 c4
 refine cLg rfl rfl (dT c4) (mI rfl rfl (cLg rfl rfl (dT c4) (cL rfl (o_eqI rfl rfl rfl (cL rfl (zZv (v := .bool _) rfl (dT c4) rfl (mB rfl rfl ?_)))))))
 by_cases c5 : (zYv sF 2 (sL ++ sQ) 0 1).2.1 = 5
 have sd := sd.1 c5
 refine cLg rfl rfl (dT c5) (mI rfl rfl (cLg rfl rfl (dT c5) (cL rfl (o_eqI rfl rfl rfl (cL rfl (zZv (v := .bool _) rfl (dT c5) rfl (mB rfl rfl ?_)))))))
 by_cases c6 : (liM sF 2 (sL ++ sQ)).1 = 4
 have sd := sd.1 c6
 refine cLg rfl rfl (dT c6) (cL rfl (zZp (v := .ref _ _ _) rfl (cLg rfl rfl (dT c6) (cL rfl (zZp (v := .ref _ _ _) rfl (cLg rfl rfl (dT c6) ?_))))))
 obtain ⟨s49, sd⟩ := sd
 refine cL rfl (o_slR tt28 tt66 rfl rfl rfl s49 (off := 0) (c := (2 : Int).toNat) (by simp) (by simp) (cLg rfl rfl (dT c6) ?_))
 obtain ⟨s50, sd⟩ := sd
 refine cL rfl (zZu (k := 19) (fst := []) (caps := []) (ys := [.ref _ _ _, .int _ _]) rfl rfl (spec_part sL 3 s50) (Wks.cons (ag_ref (fl := false) (xs := sL) enc66 4 _ rfl rfl) (Wks.cons (zZz _ _ _ _) (Wks.refl _))) (cLg rfl rfl (dT c6) ?_))
 obtain ⟨s51, s52, sd⟩ := sd
 refine cL rfl (zZu (k := 18) (fst := []) (caps := []) (ys := [.lst _ _ _, .sub _ _ _]) rfl rfl (spec_csame (partM sL 3) (sL.take ((2 : Int).toNat)) s51) (Wks.cons (zZs _ _ _ _ _) (Wks.cons (ag_subR (fl := false) (xs := sL) enc66 4 (k := 0) (ys := sL.take ((2 : Int).toNat)) rfl (by simp) (by simp) s52) (Wks.refl _))) (cL rfl (zZv (v := .bool _) rfl (dT c6) rfl (aB rfl rfl (eL (St.to_mk (φ := [none]) rfl (rfl) ⟨Ren.boolE (zXp c1 (zXp c2 (zXp c3 (zXp c4 (zXp c5 (zXp c6 (rfl))))))), trivial⟩ ⟨rfl, trivial⟩))))))
 iterate 5 refine cLs rfl rfl rfl (dF c6) ?_
 refine cL rfl (zZy (v := .bool _) rfl (dF c6) rfl (aB rfl rfl (eL (St.to_mk (φ := [none]) rfl (rfl) ⟨Ren.boolE (zXp c1 (zXp c2 (zXp c3 (zXp c4 (zXp c5 (dAndF c6)))))), trivial⟩ ⟨rfl, trivial⟩))))
 iterate 2 refine cLs rfl rfl rfl (dF c5) ?_
 refine cL rfl (zZy (v := .bool _) rfl (dF c5) rfl (mB rfl rfl ?_))
 iterate 5 refine cLs rfl rfl rfl (rfl) ?_
 refine cL rfl (zZy (v := .bool _) rfl rfl rfl (aB rfl rfl (eL (St.to_mk (φ := [none]) rfl (rfl) ⟨Ren.boolE (zXp c1 (zXp c2 (zXp c3 (zXp c4 (dAndF c5))))), trivial⟩ ⟨rfl, trivial⟩))))
 iterate 2 refine cLs rfl rfl rfl (dF c4) ?_
 refine cL rfl (zZy (v := .bool _) rfl (dF c4) rfl (mB rfl rfl ?_))
 iterate 2 refine cLs rfl rfl rfl (rfl) ?_
 refine cL rfl (zZy (v := .bool _) rfl rfl rfl (mB rfl rfl ?_))
 iterate 5 refine cLs rfl rfl rfl (rfl) ?_
 refine cL rfl (zZy (v := .bool _) rfl rfl rfl (aB rfl rfl (eL (St.to_mk (φ := [none]) rfl (rfl) ⟨Ren.boolE (zXp c1 (zXp c2 (zXp c3 (dAndF c4)))), trivial⟩ ⟨rfl, trivial⟩))))
 iterate 2 refine cLs rfl rfl rfl (dF c3) ?_
 refine cL rfl (zZy (v := .bool _) rfl (dF c3) rfl (mB rfl rfl ?_))
 iterate 2 refine cLs rfl rfl rfl (rfl) ?_
 refine cL rfl (zZy (v := .bool _) rfl rfl rfl (mB rfl rfl ?_))
 iterate 2 refine cLs rfl rfl rfl (rfl) ?_
 refine cL rfl (zZy (v := .bool _) rfl rfl rfl (mB rfl rfl ?_))
 iterate 5 refine cLs rfl rfl rfl (rfl) ?_
 refine cL rfl (zZy (v := .bool _) rfl rfl rfl (aB rfl rfl (eL (St.to_mk (φ := [none]) rfl (rfl) ⟨Ren.boolE (zXp c1 (zXp c2 (dAndF c3))), trivial⟩ ⟨rfl, trivial⟩))))
 iterate 3 refine cLs rfl rfl rfl (dF c2) ?_
 refine cL rfl (zZy (v := .bool _) rfl (dF c2) rfl (mB rfl rfl ?_))
 iterate 2 refine cLs rfl rfl rfl (rfl) ?_
 refine cL rfl (zZy (v := .bool _) rfl rfl rfl (mB rfl rfl ?_))
 iterate 2 refine cLs rfl rfl rfl (rfl) ?_
 refine cL rfl (zZy (v := .bool _) rfl rfl rfl (mB rfl rfl ?_))
 iterate 2 refine cLs rfl rfl rfl (rfl) ?_
 refine cL rfl (zZy (v := .bool _) rfl rfl rfl (mB rfl rfl ?_))
 iterate 5 refine cLs rfl rfl rfl (rfl) ?_
 refine cL rfl (zZy (v := .bool _) rfl rfl rfl (aB rfl rfl (eL (St.to_mk (φ := [none]) rfl (rfl) ⟨Ren.boolE (zXp c1 (dAndF c2)), trivial⟩ ⟨rfl, trivial⟩))))
 refine cLs rfl rfl rfl (dF c1) (cL rfl (zZy (v := .bool _) rfl (dF c1) rfl (mB rfl rfl ?_)))
 iterate 3 refine cLs rfl rfl rfl (rfl) ?_
 refine cL rfl (zZy (v := .bool _) rfl rfl rfl (mB rfl rfl ?_))
 iterate 2 refine cLs rfl rfl rfl (rfl) ?_
 refine cL rfl (zZy (v := .bool _) rfl rfl rfl (mB rfl rfl ?_))
 iterate 2 refine cLs rfl rfl rfl (rfl) ?_
 refine cL rfl (zZy (v := .bool _) rfl rfl rfl (mB rfl rfl ?_))
 iterate 2 refine cLs rfl rfl rfl (rfl) ?_
 refine cL rfl (zZy (v := .bool _) rfl rfl rfl (mB rfl rfl ?_))
 iterate 5 refine cLs rfl rfl rfl (rfl) ?_
 refine cL rfl (zZy (v := .bool _) rfl rfl rfl (aB rfl rfl (eL (St.to_mk (φ := [none]) rfl (rfl) ⟨Ren.boolE (dAndF c1), trivial⟩ ⟨rfl, trivial⟩))))
 refine W.ret (rt (rt_t (v := .bool _) rfl (rt_n (⟨_, zXx _ _ _, (decide ((((chM sF 2 sL).2 = 0) /\ (((zYv sF 2 sL 0 1).2.2 = 0) /\ (((liM sF 2 sL).2 = 0) /\ (((witM sF 2 sL 0 1 10).2.2 = 0) /\ (((chM sF 2 (sL ++ sQ)).2 = 0) /\ (((zYv sF 2 (sL ++ sQ) 0 1).2.2 = 0) /\ (((liM sF 2 (sL ++ sQ)).2 = 0) /\ (((chM (Flt.mk [0, 0, 0] 0 0 [0] [0]) 2 sL).2 = 100) /\ ((chM (Flt.mk [] 0 0 [] []) 2 sL).2 = 2))))))))) /\ (((((chM sF 2 sL).1) = [3, 6]) /\ (((zYv sF 2 sL 0 1).1 = 4) /\ (((zYv sF 2 sL 0 1).2.1 = 1152921504606846976) /\ (((liM sF 2 sL).1 = 0) /\ ((((witM sF 2 sL 0 1 10).1) = [0, 10]) /\ ((witM sF 2 sL 0 1 10).2.1 = 6)))))) /\ ((((chM sF 2 (sL ++ sQ)).1) = [3]) /\ (((zYv sF 2 (sL ++ sQ) 0 1).1 = 4) /\ (((zYv sF 2 (sL ++ sQ) 0 1).2.1 = 5) /\ (((liM sF 2 (sL ++ sQ)).1 = 4) /\ ((partM sL 3) = (sL.take ((2 : Int).toNat)))))))))), rfl, hv⟩))))
theorem vcp_bsane   : vc_bsane (fun q0 => q0 = (true)) := by
  unfold vc_bsane
  have e1 : [(Con.mk 0 1 5 1), (Con.mk 1 0 (-4) 2), (Con.mk 1 0 (-9) 4)].take (2 : Int).toNat = [(Con.mk 0 1 5 1), (Con.mk 1 0 (-4) 2)] := rfl
  have e2 : [(Con.mk 0 1 5 1), (Con.mk 1 0 (-4) 2), (Con.mk 1 0 (-9) 4)] ++ [(Con.mk 0 1 6 2)] = [(Con.mk 0 1 5 1), (Con.mk 1 0 (-4) 2), (Con.mk 1 0 (-9) 4), (Con.mk 0 1 6 2)] := rfl
  simp only [e1, e2, bs1, bs2, bs3, bs4, bs5, bs6, bs7, bs8, bs9, bs10]
  simp
theorem spec_bsane   : FnP Try.prog 10 [] (fun xR => xR = .bool (true)) :=
  (walk_bsane (vcp_bsane)).mono (by rintro _ ⟨_, rfl, rfl⟩; rfl)
end Go.Lat
