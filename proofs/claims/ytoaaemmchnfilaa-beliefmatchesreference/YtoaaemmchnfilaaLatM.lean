/- The law latecomerlaw10.BeliefMatchesReference returns true for every input, and each argument reads afterwards as it read before. Part 13 of 14. No condition. -/
import Derived.Test.YtoaaemmchnfilaaLatE
import Derived.Test.YtoaaemmchnfilaaLatI
import Derived.Test.YtoaaemmchnfilaaLatJ
import Derived.Test.YtoaaemmchnfilaaLatG
import Derived.Test.YtoaaemmchnfilaaLatH
import Derived.Test.YtoaaemmchnfilaaLatK
import Derived.Test.YtoaaemmchnfilaaLatL
set_option linter.unusedVariables false
set_option linter.unusedSimpArgs false
set_option linter.unnecessarySimpa false
set_option maxRecDepth 100000
set_option maxHeartbeats 4000000
namespace Go.Lat
open Go.RowKit Go.Proofs
attribute [local irreducible] cvalidM zX zYw partM chM liM zYv witM pcM inM allM inSet
attribute [local irreducible] zWy zWz pointM addBM cycleM holdsM validBM sameM madeM pickM zW validM possM firstM tableM longerM zYs ofM addM freeM
theorem ch_small {f : Flt} {n : Int} {l : List Con} : ((chM f n l).1).length <= 64 := by
  unfold chM
  by_cases hb : zX f n l = true
  . rw [if_pos hb]
    by_cases hne : zYw f n l = []
    . rw [if_pos hne]; simp
    . rw [if_neg hne]
      show ((zYw f n l).map (·.s)).length <= 64
      rw [List.length_map]; exact choices_len hb
  . rw [if_neg hb]; simp
theorem br_small {f : Flt} {n : Int} {l : List Con} {a b : Int} : -1152921504606846976 <= (zYv f n l a b).2.1 /\ (zYv f n l a b).2.1 <= 1152921504606846976 := by
  have hnb := hNB
  by_cases h : zX f n l = true /\ 0 <= min a b /\ max a b < n
  . by_cases hne : zYw f n l = []
    . have e : zYv f n l a b = (0, 0, 100) := by
        unfold zYv
        rw [if_pos h, hne, if_pos (show hiM [] a b < loM [] a b by unfold hiM loM; simp only [List.foldl_nil]; omega)]
      rw [e]; dsimp only; omega
    . obtain ⟨h1, h2, h3⟩ := h
      obtain ⟨i, rfl⟩ : ∃ i : Nat, a = i := ⟨a.toNat, by omega⟩
      obtain ⟨j, rfl⟩ : ∃ j : Nat, b = j := ⟨b.toNat, by omega⟩
      obtain ⟨lo, hi, hr⟩ := rg_ok h1 hne (a := i) (b := j) (by omega) (by omega)
      have := (rg_bounds (by omega) (by omega) hr).2
      rw [hr.eq]; exact this
  . have e : zYv f n l a b = (0, 0, 2) := by unfold zYv; rw [if_neg h]
    rw [e]; dsimp only; omega
theorem wi_small {f : Flt} {n : Int} {l : List Con} {a b v : Int} : ((witM f n l a b v).1).length <= 1073741824 := by
  unfold witM
  split
  . split
    . exact point_small
    . simp
  . simp
def vc_bMatchesReference (c : Cas) (raw : Flt) (l : (List Con)) (mask : Int) (v : A3) (Post : Bool -> Prop) : Prop :=
  (CasOk c) /\ (0 <= ((0 : Nat) : Int) /\ ((0 : Nat) : Int) <= (min ((raw.dr.length : Nat) : Int) 7) /\ (min ((raw.dr.length : Nat) : Int) 7) <= (raw.dr.length : Int)) /\ ∃ (I1 : Int -> Prop) (μ1 : Int -> Nat), I1 0 /\ ∀ (v67 : Int), I1 v67 -> ((v67 < ((2 : Nat) : Int)) -> (0 <= v67 /\ v67 < (([(mkM c).1, (Flt.mk (raw.dr.take (min ((raw.dr.length : Nat) : Int) 7).toNat) raw.la raw.li raw.sv raw.tm)].length : Nat) : Int)) /\ (∀ y, lat [(mkM c).1, (Flt.mk (raw.dr.take (min ((raw.dr.length : Nat) : Int) 7).toNat) raw.la raw.li raw.sv raw.tm)] v67 = y -> ∃ (I2 : Int -> Prop) (μ2 : Int -> Nat), I2 0 /\ ∀ (v76 : Int), I2 v76 -> ((v76 < ((2 : Nat) : Int)) -> (0 <= v76 /\ v76 < (([(mkM c).2.2.1, l.take 40].length : Nat) : Int)) /\ (∀ y_1, lat [(mkM c).2.2.1, l.take 40] v76 = y_1 -> (y.dr.length <= 9223372036854775807) /\ (y.sv.length <= 9223372036854775807) /\ (y.tm.length <= 9223372036854775807) /\ (y_1.length <= 1073741824) /\ (y.dr.length <= 9223372036854775807) /\ (y.sv.length <= 9223372036854775807) /\ (y.tm.length <= 9223372036854775807) /\ (y_1.length <= 1073741824) /\ (∀ c ∈ y_1, inI c.a) /\ (y.dr.length <= 9223372036854775807) /\ (y.sv.length <= 9223372036854775807) /\ (y.tm.length <= 9223372036854775807) /\ (y_1.length <= 1073741824) /\ (y.dr.length <= 9223372036854775807) /\ (y.sv.length <= 9223372036854775807) /\ (y.tm.length <= 9223372036854775807) /\ (y_1.length <= 1073741824) /\ (∀ c ∈ y_1, inI c.a) /\ (((¬ (chM y ((mkM c).2.1) y_1).2 = (chM y ((mkM c).2.1) y_1).2) -> True) /\ (¬ (¬ (chM y ((mkM c).2.1) y_1).2 = (chM y ((mkM c).2.1) y_1).2) -> (((chM y ((mkM c).2.1) y_1).1).length <= 1073741824) /\ ((¬ (((chM y ((mkM c).2.1) y_1).1) = ((chM y ((mkM c).2.1) y_1).1))) -> True) /\ (¬ (¬ (((chM y ((mkM c).2.1) y_1).1) = ((chM y ((mkM c).2.1) y_1).1))) -> ((¬ (liM y ((mkM c).2.1) y_1).2 = (liM y ((mkM c).2.1) y_1).2) -> True) /\ (¬ (¬ (liM y ((mkM c).2.1) y_1).2 = (liM y ((mkM c).2.1) y_1).2) -> ((¬ (liM y ((mkM c).2.1) y_1).1 = (liM y ((mkM c).2.1) y_1).1) -> True) /\ (¬ (¬ (liM y ((mkM c).2.1) y_1).1 = (liM y ((mkM c).2.1) y_1).1) -> (y_1.length <= 1073741824) /\ (y_1.length <= 1073741824) /\ ((∀ c ∈ y_1, inI c.a) /\ inI mask) /\ ((partM y_1 mask).length <= 1073741824) /\ True))))) /\ ((((¬ (chM y ((mkM c).2.1) y_1).2 = (chM y ((mkM c).2.1) y_1).2) \/ ((¬ (((chM y ((mkM c).2.1) y_1).1) = ((chM y ((mkM c).2.1) y_1).1))) \/ ((¬ (liM y ((mkM c).2.1) y_1).2 = (liM y ((mkM c).2.1) y_1).2) \/ ((¬ (liM y ((mkM c).2.1) y_1).1 = (liM y ((mkM c).2.1) y_1).1) \/ (¬ ((partM y_1 mask) = (partM y_1 mask))))))) -> Post false) /\ (¬ ((¬ (chM y ((mkM c).2.1) y_1).2 = (chM y ((mkM c).2.1) y_1).2) \/ ((¬ (((chM y ((mkM c).2.1) y_1).1) = ((chM y ((mkM c).2.1) y_1).1))) \/ ((¬ (liM y ((mkM c).2.1) y_1).2 = (liM y ((mkM c).2.1) y_1).2) \/ ((¬ (liM y ((mkM c).2.1) y_1).1 = (liM y ((mkM c).2.1) y_1).1) \/ (¬ ((partM y_1 mask) = (partM y_1 mask))))))) -> (inI v.x1) /\ (1 <= ((mkM c).2.1)) /\ ∃ (I3 : Int -> Prop) (μ3 : Int -> Nat), I3 0 /\ ∀ (v145 : Int), I3 v145 -> ((v145 < ((2 : Nat) : Int)) -> (0 <= v145 /\ v145 < (([v.x1, pickM v.x1 ((mkM c).2.1)].length : Nat) : Int)) /\ (∀ y_2, lat [v.x1, pickM v.x1 ((mkM c).2.1)] v145 = y_2 -> (inI v.x0) /\ (1 <= ((mkM c).2.1)) /\ (y.dr.length <= 9223372036854775807) /\ (y.sv.length <= 9223372036854775807) /\ (y.tm.length <= 9223372036854775807) /\ (y_1.length <= 1073741824) /\ (∀ y_3, zYv y ((mkM c).2.1) y_1 (pickM v.x0 ((mkM c).2.1)) y_2 = y_3 -> (y.dr.length <= 9223372036854775807) /\ (y.sv.length <= 9223372036854775807) /\ (y.tm.length <= 9223372036854775807) /\ (y_1.length <= 1073741824) /\ (∀ c ∈ y_1, inI c.a) /\ (∀ y_4, zYv y ((mkM c).2.1) y_1 (pickM v.x0 ((mkM c).2.1)) y_2 = y_4 -> (((¬ y_3.2.2 = y_4.2.2) \/ ((¬ y_3.1 = y_4.1) \/ (¬ y_3.2.1 = y_4.2.1))) -> Post false) /\ (¬ ((¬ y_3.2.2 = y_4.2.2) \/ ((¬ y_3.1 = y_4.1) \/ (¬ y_3.2.1 = y_4.2.1))) -> (inI (y_3.2.1 + 1)) /\ ∃ (I4 : Int -> Prop) (μ4 : Int -> Nat), I4 0 /\ ∀ (v194 : Int), I4 v194 -> ((v194 < ((4 : Nat) : Int)) -> (0 <= v194 /\ v194 < (([v.x2, y_3.1, y_3.2.1, (y_3.2.1 + 1)].length : Nat) : Int)) /\ (∀ y_5, lat [v.x2, y_3.1, y_3.2.1, (y_3.2.1 + 1)] v194 = y_5 -> (y.dr.length <= 9223372036854775807) /\ (y.sv.length <= 9223372036854775807) /\ (y.tm.length <= 9223372036854775807) /\ (y_1.length <= 1073741824) /\ (∀ y_6, witM y ((mkM c).2.1) y_1 (pickM v.x0 ((mkM c).2.1)) y_2 y_5 = y_6 -> (y.dr.length <= 9223372036854775807) /\ (y.sv.length <= 9223372036854775807) /\ (y.tm.length <= 9223372036854775807) /\ (y_1.length <= 1073741824) /\ (∀ c ∈ y_1, inI c.a) /\ (∀ y_7, witM y ((mkM c).2.1) y_1 (pickM v.x0 ((mkM c).2.1)) y_2 y_5 = y_7 -> (((¬ y_6.2.2 = y_7.2.2) -> True) /\ (¬ (¬ y_6.2.2 = y_7.2.2) -> ((¬ y_6.2.1 = y_7.2.1) -> True) /\ (¬ (¬ y_6.2.1 = y_7.2.1) -> (y_6.1.length <= 1073741824) /\ True))) /\ ((((¬ y_6.2.2 = y_7.2.2) \/ ((¬ y_6.2.1 = y_7.2.1) \/ (¬ (y_6.1 = y_7.1)))) -> Post false) /\ (¬ ((¬ y_6.2.2 = y_7.2.2) \/ ((¬ y_6.2.1 = y_7.2.1) \/ (¬ (y_6.1 = y_7.1)))) -> (inI (v194 + 1)) /\ (I4 (v194 + 1) /\ μ4 (v194 + 1) < μ4 v194))))))) /\ (¬ (v194 < ((4 : Nat) : Int)) -> (inI (v145 + 1)) /\ (I3 (v145 + 1) /\ μ3 (v145 + 1) < μ3 v145))))))) /\ (¬ (v145 < ((2 : Nat) : Int)) -> (inI (v76 + 1)) /\ (I2 (v76 + 1) /\ μ2 (v76 + 1) < μ2 v76)))))) /\ (¬ (v76 < ((2 : Nat) : Int)) -> (inI (v67 + 1)) /\ (I1 (v67 + 1) /\ μ1 (v67 + 1) < μ1 v67)))) /\ (¬ (v67 < ((2 : Nat) : Int)) -> Post true)
theorem walk_bMatchesReference {c : Cas} {raw : Flt} {l : (List Con)} {mask : Int} {v : A3} {Post : Bool -> Prop} (hv : vc_bMatchesReference c raw l mask v Post) : FnP Try.prog 3 [.agg ((e25 true) c), .agg ((e27 true) raw), .lst true l.length (zYy e66 l), .int .i64 mask, .agg (e29 v)] (fun x => ∃ q0, x = .bool q0 /\ Post q0) := by
 refine FnP.of_walk (T := tt) (nt := 238) ttOk ttMix ⟨⟨Try.f3, Try.func3, rfl, rfl, rfl, rfl⟩⟩ (by simp) ?_
 unfold vc_bMatchesReference at hv
 change W _ _ _ ⟨238, look [(0, .agg [.int .i64 c.fl, .int .i64 c.n, .lst true c.x.length (zYy e29 c.x), .lst true c.tr.length (zYy zYx c.tr), .int .i64 c.ho]), (1, .agg [.lst true raw.dr.length (zYy zYx raw.dr), .int .i64 raw.la, .int .i64 raw.li, .lst true raw.sv.length (zYy zYx raw.sv), .lst true raw.tm.length (zYy zYx raw.tm)]), (2, .lst true l.length (zYy e66 l)), (3, .int .i64 mask), (4, .agg [.int .i64 v.x0, .int .i64 v.x1, .int .i64 v.x2])], [], 0⟩ _
 refine W.rL (cL rfl (o_box (v := .agg _) (p := 0) rfl rfl rfl (cL rfl (o_box (v := .agg _) (p := 1) rfl rfl rfl (cL rfl (o_box (v := .agg _) (p := 2) rfl rfl rfl (aB rfl rfl (eL (W.tr [(2, .lst _ _ _), (3, .int _ _), (5, .ptr _ _), (6, .ptr _ _), (9, .ptr _ _)] [.box _ [.int _ _, .int _ _, .lst _ _ _, .lst _ _ _, .int _ _], .box _ [.lst _ _ _, .int _ _, .int _ _, .lst _ _ _, .lst _ _ _], .box _ [.int _ _, .int _ _, .int _ _]] ⟨rfl, rfl, rfl, rfl, rfl, trivial⟩ rfl (W.seq' (W.rL (cL rfl (zZu (k := 10) (fst := []) (caps := []) (ys := []) rfl rfl (spec_bsane) (Wks.refl _) (cL rfl (o_notB rfl (eL (W.cF rfl (W.skip (zZ (W.rL (cL rfl (zXv (cs := [.int _ _, .int _ _, .lst _ _ _, .lst _ _ _, .int _ _]) tt25 rfl rfl ⟨_, rfl⟩ rfl ?_))))))))))))))))))))))
 obtain ⟨s1, hv⟩ := hv
 refine cL rfl (zZu (k := 11) (fst := []) (caps := []) (ys := [.agg _]) rfl rfl (spec_mk c s1) (Wks.cons (zXr 5 _ (Wks.cons (zZz _ _ _ _) (Wks.cons (zZz _ _ _ _) (Wks.cons (zZs _ _ _ _ _) (Wks.cons (zZs _ _ _ _ _) (Wks.cons (zZz _ _ _ _) (Wks.refl _))))))) (Wks.refl _)) (cL rfl (zZp (v := .tup _) rfl (cL rfl (o_ext (v := .agg _) rfl rfl (cL rfl (o_ext (v := .int _ _) rfl rfl ?_)))))))
 iterate 2 refine cL rfl (o_ext (v := .lst _ _ _) rfl rfl ?_)
 refine cL rfl (o_ext (v := .int _ _) rfl rfl (cL rfl (zXs (p := 3) tt27 rfl rfl (cLn (o_stB (v := .agg _) (vs := [.lst _ _ _, .int _ _, .int _ _, .lst _ _ _, .lst _ _ _]) (cs2 := [.lst _ _ _, .int _ _, .int _ _, .lst _ _ _, .lst _ _ _]) tt27 rfl rfl rfl rfl rfl (Nat.le_of_ble_eq_true rfl) rfl (aI rfl rfl ?_))))))
 iterate 2 refine aL rfl rfl ?_
 refine aI rfl rfl (eL (W.tr [(2, .lst _ _ _), (3, .int _ _), (6, .ptr _ _), (9, .ptr _ _), (11, .ptr _ _), (12, .int _ _), (13, .lst _ _ _)] [.box _ [.int _ _, .int _ _, .lst _ _ _, .lst _ _ _, .int _ _], .box _ [.lst _ _ _, .int _ _, .int _ _, .lst _ _ _, .lst _ _ _], .box _ [.int _ _, .int _ _, .int _ _], .box _ [.lst _ _ _, .int _ _, .int _ _, .lst _ _ _, .lst _ _ _]] ⟨rfl, rfl, rfl, rfl, rfl, rfl, rfl, trivial⟩ rfl (W.rL (cL rfl (o_fa tt27 rfl tt23 rfl (cL rfl (zZx (v := .lst _ _ _) tt23 rfl rfl ⟨_, rfl⟩ (cL rfl (o_fa tt27 rfl tt23 rfl (cL rfl (zZx (v := .lst _ _ _) tt23 rfl rfl ⟨_, rfl⟩ (cL rfl (zXq (v := .lst _ _ _) tt23 rfl rfl (cL rfl (o_min rfl rfl ?_)))))))))))))))
 obtain ⟨s2, hv⟩ := hv
 refine cL rfl (o_slL tt23 tt3 rfl (zZw.wd true) rfl rfl rfl s2 (ys := raw.dr.take (min ((raw.dr.length : Nat) : Int) 7).toNat) (by simp) (cL rfl (o_fa tt27 rfl tt23 rfl (cLn (o_stB (v := .lst _ _ _) (vs := [.lst _ _ _]) (cs2 := [.lst _ _ _, .int _ _, .int _ _, .lst _ _ _, .lst _ _ _]) tt23 rfl rfl rfl rfl rfl (Nat.le_of_ble_eq_true rfl) rfl (eL (W.seq' (W.rL ?_))))))))
 iterate 2 refine cL rfl (zXv (cs := [.lst _ _ _, .int _ _, .int _ _, .lst _ _ _, .lst _ _ _]) tt27 rfl rfl ⟨_, rfl⟩ rfl ?_)
 refine cL rfl (o_buildS (q := 4) (qs := [(0, .agg _), (1, .agg _)]) (cs := [.lst _ _ _, .int _ _, .int _ _, .lst _ _ _, .lst _ _ _, .lst _ _ _, .int _ _, .int _ _, .lst _ _ _, .lst _ _ _]) tt33 tt27 rfl rfl rfl rfl (cL rfl (zXq (v := .ref _ _ _) tt33 rfl rfl (mI rfl rfl (eL (W.tr [(2, .lst _ _ _), (3, .int _ _), (9, .ptr _ _), (12, .int _ _), (13, .lst _ _ _), (65, .ref _ _ _), (66, .int _ _), (67, .int _ _)] [.box _ [.int _ _, .int _ _, .lst _ _ _, .lst _ _ _, .int _ _], .box _ [.lst _ _ _, .int _ _, .int _ _, .lst _ _ _, .lst _ _ _], .box _ [.int _ _, .int _ _, .int _ _], .box _ [.lst _ _ _, .int _ _, .int _ _, .lst _ _ _, .lst _ _ _], .row _ _ _] ⟨rfl, rfl, rfl, rfl, rfl, rfl, rfl, rfl, trivial⟩ rfl (W.to (st' := ⟨238, look [(2, .lst true l.length (zYy e66 l)), (3, .int .i64 mask), (9, .ptr 2 0), (12, .int .i64 ((mkM c).2.1)), (13, .lst false ((mkM c).2.2.1).length (zYy e66 ((mkM c).2.2.1))), (65, .ref false 4 2), (66, .int .i64 ((2 : Nat) : Int)), (67, .int .i64 0)], [.box 25 [.int .i64 c.fl, .int .i64 c.n, .lst true c.x.length (zYy e29 c.x), .lst true c.tr.length (zYy zYx c.tr), .int .i64 c.ho], .box 27 [.lst true (raw.dr.take (min ((raw.dr.length : Nat) : Int) 7).toNat).length (zYy zYx (raw.dr.take (min ((raw.dr.length : Nat) : Int) 7).toNat)), .int .i64 raw.la, .int .i64 raw.li, .lst true raw.sv.length (zYy zYx raw.sv), .lst true raw.tm.length (zYy zYx raw.tm)], .box 29 [.int .i64 v.x0, .int .i64 v.x1, .int .i64 v.x2], .box 27 [.lst false (((mkM c).1).dr).length (zYy zYx (((mkM c).1).dr)), .int .i64 (((mkM c).1).la), .int .i64 (((mkM c).1).li), .lst false (((mkM c).1).sv).length (zYy zYx (((mkM c).1).sv)), .lst false (((mkM c).1).tm).length (zYy zYx (((mkM c).1).tm))], .row 27 5 (zYy (e27 true) [(mkM c).1, (Flt.mk (raw.dr.take (min ((raw.dr.length : Nat) : Int) 7).toNat) raw.la raw.li raw.sv raw.tm)])], 0⟩) (St.to_mk (φ := [some 0, some 1, some 2, some 3, some 4]) rfl (rfl) ⟨Ren.lst _ _ _, Ren.int _ _, Ren.ptr rfl, Ren.int _ _, Ren.lst _ _ _, Ren.ref rfl (fun h => h), Ren.int _ _, Ren.int _ _, trivial⟩ ⟨.inr ⟨_, rfl, rfl, Rens.cons (Ren.int _ _) (Rens.cons (Ren.int _ _) (Rens.cons (Ren.lst _ _ _) (Rens.cons (Ren.lst _ _ _) (Rens.cons (Ren.int _ _) (Rens.nil)))))⟩, .inr ⟨_, rfl, rfl, Rens.cons (Ren.lst _ _ _) (Rens.cons (Ren.int _ _) (Rens.cons (Ren.int _ _) (Rens.cons (Ren.lst _ _ _) (Rens.cons (Ren.lst _ _ _) (Rens.nil)))))⟩, .inr ⟨_, rfl, rfl, Rens.cons (Ren.int _ _) (Rens.cons (Ren.int _ _) (Rens.cons (Ren.int _ _) (Rens.nil)))⟩, .inr ⟨_, rfl, rfl, Rens.cons (Ren.lst _ _ _) (Rens.cons (Ren.int _ _) (Rens.cons (Ren.int _ _) (Rens.cons (Ren.lst _ _ _) (Rens.cons (Ren.lst _ _ _) (Rens.nil)))))⟩, .inr ⟨_, rfl, rfl, rfl, rfl, Rens.cons (Ren.lstT _ _ _) (Rens.cons (Ren.int _ _) (Rens.cons (Ren.int _ _) (Rens.cons (Ren.lstT _ _ _) (Rens.cons (Ren.lstT _ _ _) (Rens.cons (Ren.lstT _ _ _) (Rens.cons (Ren.int _ _) (Rens.cons (Ren.int _ _) (Rens.cons (Ren.lstT _ _ _) (Rens.cons (Ren.lstT _ _ _) (Rens.nil))))))))))⟩, trivial⟩) ?_)))))))
 refine W.block ?_
 obtain ⟨I1, μ1, hp, hv⟩ := hv
 refine W.loop1 (fun v67 => ⟨238, look [(2, .lst true l.length (zYy e66 l)), (3, .int .i64 mask), (9, .ptr 2 0), (12, .int .i64 ((mkM c).2.1)), (13, .lst false ((mkM c).2.2.1).length (zYy e66 ((mkM c).2.2.1))), (65, .ref false 4 ([(mkM c).1, (Flt.mk (raw.dr.take (min ((raw.dr.length : Nat) : Int) 7).toNat) raw.la raw.li raw.sv raw.tm)].length)), (66, .int .i64 ((2 : Nat) : Int)), (67, .int .i64 v67)], [.dead, .dead, .box 29 [.int .i64 v.x0, .int .i64 v.x1, .int .i64 v.x2], .dead, .row 27 5 (zYy (e27 true) [(mkM c).1, (Flt.mk (raw.dr.take (min ((raw.dr.length : Nat) : Int) 7).toNat) raw.la raw.li raw.sv raw.tm)])], 0⟩) I1 μ1 0 (St.to_mk (φ := [none, none, some 2, none, some 4]) rfl (rfl) ⟨Ren.lst _ _ _, Ren.int _ _, Ren.ptr rfl, Ren.int _ _, Ren.lst _ _ _, Ren.ref rfl (fun h => h), Ren.int _ _, Ren.int _ _, trivial⟩ ⟨rfl, rfl, .inr ⟨_, rfl, rfl, Rens.cons (Ren.int _ _) (Rens.cons (Ren.int _ _) (Rens.cons (Ren.int _ _) (Rens.nil)))⟩, rfl, .inr ⟨_, rfl, rfl, rfl, rfl, Rens.enc enc27 true [(mkM c).1, (Flt.mk (raw.dr.take (min ((raw.dr.length : Nat) : Int) 7).toNat) raw.la raw.li raw.sv raw.tm)]⟩, trivial⟩) hp ?_
 clear hp
 intro v67 hI
 replace hv := hv v67 hI
 clear hI
 refine W.rL (cL rfl (zXw rfl rfl (eL (W.seq' (W.cn rfl (fun hc => ?_) (fun hc => ?_))))))
 have hv := hv.1 hc
 refine W.skip (zZ (W.seq' (W.block (W.rL ?_))))
 obtain ⟨s8287, hv⟩ := hv
 refine cL rfl (o_iaR tt33 tt27 rfl rfl s8287 (cL rfl (zXv (cs := [.lst _ _ _, .int _ _, .int _ _, .lst _ _ _, .lst _ _ _]) tt27 rfl rfl (ca_row (xs := [(mkM c).1, (Flt.mk (raw.dr.take (min ((raw.dr.length : Nat) : Int) 7).toNat) raw.la raw.li raw.sv raw.tm)]) rfl (enc27.wd true) s8287) rfl (cL rfl (zXs (p := 5) tt27 rfl rfl (cLn (o_stB (v := .agg _) (vs := [.lst _ _ _, .int _ _, .int _ _, .lst _ _ _, .lst _ _ _]) (cs2 := [.lst _ _ _, .int _ _, .int _ _, .lst _ _ _, .lst _ _ _]) tt27 rfl rfl rfl rfl rfl (Nat.le_of_ble_eq_true rfl) rfl (eL (W.tr [(2, .lst _ _ _), (3, .int _ _), (9, .ptr _ _), (12, .int _ _), (13, .lst _ _ _), (17, .ptr _ _), (65, .ref _ _ _), (66, .int _ _), (67, .int _ _)] [.dead, .dead, .box _ [.int _ _, .int _ _, .int _ _], .dead, .row _ _ _, .box _ [.lst _ _ _, .int _ _, .int _ _, .lst _ _ _, .lst _ _ _]] ⟨rfl, rfl, rfl, rfl, rfl, rfl, rfl, rfl, rfl, trivial⟩ rfl ?_)))))))))
 generalize hy : lat [(mkM c).1, (Flt.mk (raw.dr.take (min ((raw.dr.length : Nat) : Int) 7).toNat) raw.la raw.li raw.sv raw.tm)] v67 = y
 replace hv := hv y hy
 clear hy
 refine W.rL ?_
 iterate 2 refine mL rfl rfl ?_
 refine cL rfl (o_callS1 (k := 12) (fst := []) (caps := []) (ys := [.lst _ _ _]) rfl rfl (spec_few l) (Wks.cons (zZs _ _ _ _ _) (Wks.refl _)) (cL rfl (o_buildS (q := 6) (qs := [(0, .lst _ _ _), (1, .lst _ _ _)]) (cs := [.lst _ _ _, .lst _ _ _]) tt35 tt28 rfl rfl rfl rfl (cL rfl (zXq (v := .ref _ _ _) tt35 rfl rfl (mI rfl rfl (eL (W.tr [(2, .lst _ _ _), (3, .int _ _), (9, .ptr _ _), (12, .int _ _), (13, .lst _ _ _), (17, .ptr _ _), (65, .ref _ _ _), (66, .int _ _), (67, .int _ _), (74, .ref _ _ _), (75, .int _ _), (76, .int _ _)] [.dead, .dead, .box _ [.int _ _, .int _ _, .int _ _], .dead, .row _ _ _, .box _ [.lst _ _ _, .int _ _, .int _ _, .lst _ _ _, .lst _ _ _], .row _ _ _] ⟨rfl, rfl, rfl, rfl, rfl, rfl, rfl, rfl, rfl, rfl, rfl, rfl, trivial⟩ rfl (W.to (st' := ⟨238, look [(2, .lst true l.length (zYy e66 l)), (3, .int .i64 mask), (9, .ptr 2 0), (12, .int .i64 ((mkM c).2.1)), (13, .lst false ((mkM c).2.2.1).length (zYy e66 ((mkM c).2.2.1))), (17, .ptr 5 0), (65, .ref false 4 ([(mkM c).1, (Flt.mk (raw.dr.take (min ((raw.dr.length : Nat) : Int) 7).toNat) raw.la raw.li raw.sv raw.tm)].length)), (66, .int .i64 ((2 : Nat) : Int)), (67, .int .i64 v67), (74, .ref false 6 2), (75, .int .i64 ((2 : Nat) : Int)), (76, .int .i64 0)], [.dead, .dead, .box 29 [.int .i64 v.x0, .int .i64 v.x1, .int .i64 v.x2], .dead, .row 27 5 (zYy (e27 true) [(mkM c).1, (Flt.mk (raw.dr.take (min ((raw.dr.length : Nat) : Int) 7).toNat) raw.la raw.li raw.sv raw.tm)]), .box 27 [.lst true y.dr.length (zYy zYx y.dr), .int .i64 y.la, .int .i64 y.li, .lst true y.sv.length (zYy zYx y.sv), .lst true y.tm.length (zYy zYx y.tm)], .row 28 1 (zYy (eSl e66 true) [(mkM c).2.2.1, l.take 40])], 0⟩) (St.to_mk (φ := [some 0, some 1, some 2, some 3, some 4, some 5, some 6]) rfl (rfl) ⟨Ren.lst _ _ _, Ren.int _ _, Ren.ptr rfl, Ren.int _ _, Ren.lst _ _ _, Ren.ptr rfl, Ren.ref rfl (fun h => h), Ren.int _ _, Ren.int _ _, Ren.ref rfl (fun h => h), Ren.int _ _, Ren.int _ _, trivial⟩ ⟨.inl rfl, .inl rfl, .inr ⟨_, rfl, rfl, Rens.cons (Ren.int _ _) (Rens.cons (Ren.int _ _) (Rens.cons (Ren.int _ _) (Rens.nil)))⟩, .inl rfl, .inr ⟨_, rfl, rfl, rfl, rfl, Rens.enc enc27 true [(mkM c).1, (Flt.mk (raw.dr.take (min ((raw.dr.length : Nat) : Int) 7).toNat) raw.la raw.li raw.sv raw.tm)]⟩, .inr ⟨_, rfl, rfl, Rens.cons (Ren.lst _ _ _) (Rens.cons (Ren.int _ _) (Rens.cons (Ren.int _ _) (Rens.cons (Ren.lst _ _ _) (Rens.cons (Ren.lst _ _ _) (Rens.nil)))))⟩, .inr ⟨_, rfl, rfl, rfl, rfl, Rens.cons (Ren.lstT _ _ _) (Rens.cons (Ren.lstT _ _ _) (Rens.nil))⟩, trivial⟩) ?_)))))))))
 refine W.block ?_
 obtain ⟨I2, μ2, hp, hv⟩ := hv
 refine W.loop1 (fun v76 => ⟨238, look [(2, .lst true l.length (zYy e66 l)), (3, .int .i64 mask), (9, .ptr 2 0), (12, .int .i64 ((mkM c).2.1)), (13, .lst false ((mkM c).2.2.1).length (zYy e66 ((mkM c).2.2.1))), (17, .ptr 5 0), (65, .ref false 4 ([(mkM c).1, (Flt.mk (raw.dr.take (min ((raw.dr.length : Nat) : Int) 7).toNat) raw.la raw.li raw.sv raw.tm)].length)), (66, .int .i64 ((2 : Nat) : Int)), (67, .int .i64 v67), (74, .ref false 6 ([(mkM c).2.2.1, l.take 40].length)), (75, .int .i64 ((2 : Nat) : Int)), (76, .int .i64 v76)], [.dead, .dead, .box 29 [.int .i64 v.x0, .int .i64 v.x1, .int .i64 v.x2], .dead, .row 27 5 (zYy (e27 true) [(mkM c).1, (Flt.mk (raw.dr.take (min ((raw.dr.length : Nat) : Int) 7).toNat) raw.la raw.li raw.sv raw.tm)]), .box 27 [.lst true y.dr.length (zYy zYx y.dr), .int .i64 y.la, .int .i64 y.li, .lst true y.sv.length (zYy zYx y.sv), .lst true y.tm.length (zYy zYx y.tm)], .row 28 1 (zYy (eSl e66 true) [(mkM c).2.2.1, l.take 40])], 0⟩) I2 μ2 0 (St.to_mk (φ := [none, none, some 2, none, some 4, some 5, some 6]) rfl (rfl) ⟨Ren.lst _ _ _, Ren.int _ _, Ren.ptr rfl, Ren.int _ _, Ren.lst _ _ _, Ren.ptr rfl, Ren.ref rfl (fun h => h), Ren.int _ _, Ren.int _ _, Ren.ref rfl (fun h => h), Ren.int _ _, Ren.int _ _, trivial⟩ ⟨rfl, rfl, .inr ⟨_, rfl, rfl, Rens.cons (Ren.int _ _) (Rens.cons (Ren.int _ _) (Rens.cons (Ren.int _ _) (Rens.nil)))⟩, rfl, .inr ⟨_, rfl, rfl, rfl, rfl, Rens.enc enc27 true [(mkM c).1, (Flt.mk (raw.dr.take (min ((raw.dr.length : Nat) : Int) 7).toNat) raw.la raw.li raw.sv raw.tm)]⟩, .inr ⟨_, rfl, rfl, Rens.cons (Ren.lst _ _ _) (Rens.cons (Ren.int _ _) (Rens.cons (Ren.int _ _) (Rens.cons (Ren.lst _ _ _) (Rens.cons (Ren.lst _ _ _) (Rens.nil)))))⟩, .inr ⟨_, rfl, rfl, rfl, rfl, Rens.enc (encSl e66) true [(mkM c).2.2.1, l.take 40]⟩, trivial⟩) hp ?_
 clear hp
 intro v76 hI
 replace hv := hv v76 hI
 clear hI
 refine W.rL (cL rfl (zXw rfl rfl (eL (W.seq' (W.cn rfl (fun hc => ?_) (fun hc => ?_))))))
 have hv := hv.1 hc
 refine W.skip (zZ (W.seq' (W.block (W.rL ?_))))
 obtain ⟨s9174, hv⟩ := hv
 refine cL rfl (o_iaR tt35 tt28 rfl rfl s9174 (cL rfl (zZx (v := .lst _ _ _) tt28 rfl rfl (cell_of (ca_row (xs := [(mkM c).2.2.1, l.take 40]) rfl ((encSl e66).wd true) s9174) rfl) (aL rfl rfl (eL (W.tr [(2, .lst _ _ _), (3, .int _ _), (9, .ptr _ _), (12, .int _ _), (13, .lst _ _ _), (17, .ptr _ _), (19, .lst _ _ _), (65, .ref _ _ _), (66, .int _ _), (67, .int _ _), (74, .ref _ _ _), (75, .int _ _), (76, .int _ _)] [.dead, .dead, .box _ [.int _ _, .int _ _, .int _ _], .dead, .row _ _ _, .box _ [.lst _ _ _, .int _ _, .int _ _, .lst _ _ _, .lst _ _ _], .row _ _ _] ⟨rfl, rfl, rfl, rfl, rfl, rfl, rfl, rfl, rfl, rfl, rfl, rfl, rfl, trivial⟩ rfl ?_))))))
 generalize hy : lat [(mkM c).2.2.1, l.take 40] v76 = y_1
 replace hv := hv y_1 hy
 clear hy
 refine W.rL (cL rfl (zXv (cs := [.lst _ _ _, .int _ _, .int _ _, .lst _ _ _, .lst _ _ _]) tt27 rfl rfl ⟨_, rfl⟩ rfl (mI rfl rfl (mL rfl rfl ?_))))
 obtain ⟨s9175, s9176, s9177, s9178, hv⟩ := hv
 refine cL rfl (zZu (k := 13) (fst := []) (caps := []) (ys := [.agg _, .int _ _, .lst _ _ _]) rfl rfl (spec_choices y ((mkM c).2.1) y_1 s9175 s9176 s9177 s9178) (Wks.cons (zXr 5 _ (Wks.cons (zZs _ _ _ _ _) (Wks.cons (zZz _ _ _ _) (Wks.cons (zZz _ _ _ _) (Wks.cons (zZs _ _ _ _ _) (Wks.cons (zZs _ _ _ _ _) (Wks.refl _))))))) (Wks.cons (zZz _ _ _ _) (Wks.cons (zZs _ _ _ _ _) (Wks.refl _)))) (cL rfl (zZp (v := .tup _) rfl (cL rfl (o_ext (v := .lst _ _ _) rfl rfl (cL rfl (o_ext (v := .int _ _) rfl rfl (aL rfl rfl (aI rfl rfl (eL (W.tr [(2, .lst _ _ _), (3, .int _ _), (9, .ptr _ _), (12, .int _ _), (13, .lst _ _ _), (17, .ptr _ _), (19, .lst _ _ _), (20, .lst _ _ _), (21, .int _ _), (65, .ref _ _ _), (66, .int _ _), (67, .int _ _), (74, .ref _ _ _), (75, .int _ _), (76, .int _ _)] [.dead, .dead, .box _ [.int _ _, .int _ _, .int _ _], .dead, .row _ _ _, .box _ [.lst _ _ _, .int _ _, .int _ _, .lst _ _ _, .lst _ _ _], .row _ _ _] ⟨rfl, rfl, rfl, rfl, rfl, rfl, rfl, rfl, rfl, rfl, rfl, rfl, rfl, rfl, rfl, trivial⟩ rfl (W.rL (cL rfl (zXv (cs := [.lst _ _ _, .int _ _, .int _ _, .lst _ _ _, .lst _ _ _]) tt27 rfl rfl ⟨_, rfl⟩ rfl (mI rfl rfl (mL rfl rfl ?_))))))))))))))))
 obtain ⟨s9179, s9180, s9181, s9182, s9183, hv⟩ := hv
 refine cL rfl (zZu (k := 14) (fst := []) (caps := []) (ys := [.agg _, .int _ _, .lst _ _ _]) rfl rfl (spec_rch y ((mkM c).2.1) y_1 s9179 s9180 s9181 s9182 s9183) (Wks.cons (zXr 5 _ (Wks.cons (zZs _ _ _ _ _) (Wks.cons (zZz _ _ _ _) (Wks.cons (zZz _ _ _ _) (Wks.cons (zZs _ _ _ _ _) (Wks.cons (zZs _ _ _ _ _) (Wks.refl _))))))) (Wks.cons (zZz _ _ _ _) (Wks.cons (zZs _ _ _ _ _) (Wks.refl _)))) (cL rfl (zZp (v := .tup _) rfl (cL rfl (o_ext (v := .lst _ _ _) rfl rfl (cL rfl (o_ext (v := .int _ _) rfl rfl (aL rfl rfl (aI rfl rfl (eL (W.tr [(2, .lst _ _ _), (3, .int _ _), (9, .ptr _ _), (12, .int _ _), (13, .lst _ _ _), (17, .ptr _ _), (19, .lst _ _ _), (20, .lst _ _ _), (21, .int _ _), (22, .lst _ _ _), (23, .int _ _), (65, .ref _ _ _), (66, .int _ _), (67, .int _ _), (74, .ref _ _ _), (75, .int _ _), (76, .int _ _)] [.dead, .dead, .box _ [.int _ _, .int _ _, .int _ _], .dead, .row _ _ _, .box _ [.lst _ _ _, .int _ _, .int _ _, .lst _ _ _, .lst _ _ _], .row _ _ _] ⟨rfl, rfl, rfl, rfl, rfl, rfl, rfl, rfl, rfl, rfl, rfl, rfl, rfl, rfl, rfl, rfl, rfl, trivial⟩ rfl (W.rL (cL rfl (zXv (cs := [.lst _ _ _, .int _ _, .int _ _, .lst _ _ _, .lst _ _ _]) tt27 rfl rfl ⟨_, rfl⟩ rfl (mI rfl rfl (mL rfl rfl ?_))))))))))))))))
 obtain ⟨s9184, s9185, s9186, s9187, hv⟩ := hv
 refine cL rfl (zZu (k := 15) (fst := []) (caps := []) (ys := [.agg _, .int _ _, .lst _ _ _]) rfl rfl (spec_liars y ((mkM c).2.1) y_1 s9184 s9185 s9186 s9187) (Wks.cons (zXr 5 _ (Wks.cons (zZs _ _ _ _ _) (Wks.cons (zZz _ _ _ _) (Wks.cons (zZz _ _ _ _) (Wks.cons (zZs _ _ _ _ _) (Wks.cons (zZs _ _ _ _ _) (Wks.refl _))))))) (Wks.cons (zZz _ _ _ _) (Wks.cons (zZs _ _ _ _ _) (Wks.refl _)))) (cL rfl (zZp (v := .tup _) rfl ?_)))
 iterate 2 refine cL rfl (o_ext (v := .int _ _) rfl rfl ?_)
 iterate 2 refine aI rfl rfl ?_
 refine eL (W.tr [(2, .lst _ _ _), (3, .int _ _), (9, .ptr _ _), (12, .int _ _), (13, .lst _ _ _), (17, .ptr _ _), (19, .lst _ _ _), (20, .lst _ _ _), (21, .int _ _), (22, .lst _ _ _), (23, .int _ _), (24, .int _ _), (25, .int _ _), (65, .ref _ _ _), (66, .int _ _), (67, .int _ _), (74, .ref _ _ _), (75, .int _ _), (76, .int _ _)] [.dead, .dead, .box _ [.int _ _, .int _ _, .int _ _], .dead, .row _ _ _, .box _ [.lst _ _ _, .int _ _, .int _ _, .lst _ _ _, .lst _ _ _], .row _ _ _] ⟨rfl, rfl, rfl, rfl, rfl, rfl, rfl, rfl, rfl, rfl, rfl, rfl, rfl, rfl, rfl, rfl, rfl, rfl, rfl, trivial⟩ rfl (W.rL (cL rfl (zXv (cs := [.lst _ _ _, .int _ _, .int _ _, .lst _ _ _, .lst _ _ _]) tt27 rfl rfl ⟨_, rfl⟩ rfl (mI rfl rfl (mL rfl rfl ?_))))))
 obtain ⟨s9188, s9189, s9190, s9191, s9192, hv⟩ := hv
 refine cL rfl (zZu (k := 16) (fst := []) (caps := []) (ys := [.agg _, .int _ _, .lst _ _ _]) rfl rfl (spec_rli y ((mkM c).2.1) y_1 s9188 s9189 s9190 s9191 s9192) (Wks.cons (zXr 5 _ (Wks.cons (zZs _ _ _ _ _) (Wks.cons (zZz _ _ _ _) (Wks.cons (zZz _ _ _ _) (Wks.cons (zZs _ _ _ _ _) (Wks.cons (zZs _ _ _ _ _) (Wks.refl _))))))) (Wks.cons (zZz _ _ _ _) (Wks.cons (zZs _ _ _ _ _) (Wks.refl _)))) (cL rfl (zZp (v := .tup _) rfl ?_)))
 iterate 2 refine cL rfl (o_ext (v := .int _ _) rfl rfl ?_)
 iterate 2 refine aI rfl rfl ?_
 refine eL (W.tr [(2, .lst _ _ _), (3, .int _ _), (9, .ptr _ _), (12, .int _ _), (13, .lst _ _ _), (17, .ptr _ _), (19, .lst _ _ _), (20, .lst _ _ _), (21, .int _ _), (22, .lst _ _ _), (23, .int _ _), (24, .int _ _), (25, .int _ _), (26, .int _ _), (27, .int _ _), (65, .ref _ _ _), (66, .int _ _), (67, .int _ _), (74, .ref _ _ _), (75, .int _ _), (76, .int _ _)] [.dead, .dead, .box _ [.int _ _, .int _ _, .int _ _], .dead, .row _ _ _, .box _ [.lst _ _ _, .int _ _, .int _ _, .lst _ _ _, .lst _ _ _], .row _ _ _] ⟨rfl, rfl, rfl, rfl, rfl, rfl, rfl, rfl, rfl, rfl, rfl, rfl, rfl, rfl, rfl, rfl, rfl, rfl, rfl, rfl, rfl, trivial⟩ rfl (W.seq' ?_))
 obtain ⟨sd, hv⟩ := hv
 refine W.rLm ⟨238, look [(2, .lst true l.length (zYy e66 l)), (3, .int .i64 mask), (9, .ptr 2 0), (12, .int .i64 ((mkM c).2.1)), (13, .lst false ((mkM c).2.2.1).length (zYy e66 ((mkM c).2.2.1))), (17, .ptr 5 0), (19, .lst true y_1.length (zYy e66 y_1)), (65, .ref false 4 ([(mkM c).1, (Flt.mk (raw.dr.take (min ((raw.dr.length : Nat) : Int) 7).toNat) raw.la raw.li raw.sv raw.tm)].length)), (66, .int .i64 ((2 : Nat) : Int)), (67, .int .i64 v67), (74, .ref false 6 ([(mkM c).2.2.1, l.take 40].length)), (75, .int .i64 ((2 : Nat) : Int)), (76, .int .i64 v76), (136, .bool (decide ((¬ (chM y ((mkM c).2.1) y_1).2 = (chM y ((mkM c).2.1) y_1).2) \/ ((¬ (((chM y ((mkM c).2.1) y_1).1) = ((chM y ((mkM c).2.1) y_1).1))) \/ ((¬ (liM y ((mkM c).2.1) y_1).2 = (liM y ((mkM c).2.1) y_1).2) \/ ((¬ (liM y ((mkM c).2.1) y_1).1 = (liM y ((mkM c).2.1) y_1).1) \/ (¬ ((partM y_1 mask) = (partM y_1 mask)))))))))], [.dead, .dead, .box 29 [.int .i64 v.x0, .int .i64 v.x1, .int .i64 v.x2], .dead, .row 27 5 (zYy (e27 true) [(mkM c).1, (Flt.mk (raw.dr.take (min ((raw.dr.length : Nat) : Int) 7).toNat) raw.la raw.li raw.sv raw.tm)]), .box 27 [.lst true y.dr.length (zYy zYx y.dr), .int .i64 y.la, .int .i64 y.li, .lst true y.sv.length (zYy zYx y.sv), .lst true y.tm.length (zYy zYx y.tm)], .row 28 1 (zYy (eSl e66 true) [(mkM c).2.2.1, l.take 40])], 0⟩ ?_ ?_
 iterate 2 refine mI rfl rfl ?_
 refine cL rfl (o_neI rfl rfl rfl (mB rfl rfl ?_))
 by_cases c1 : ¬ (chM y ((mkM c).2.1) y_1).2 = (chM y ((mkM c).2.1) y_1).2
 iterate 4 refine cLs rfl rfl rfl (dT c1) ?_
 refine cL rfl (zZv (v := .bool _) rfl (dT c1) rfl (mB rfl rfl ?_))
 iterate 3 refine cLs rfl rfl rfl (rfl) ?_
 refine cL rfl (zZv (v := .bool _) rfl rfl rfl (mB rfl rfl ?_))
 iterate 3 refine cLs rfl rfl rfl (rfl) ?_
 refine cL rfl (zZv (v := .bool _) rfl rfl rfl (mB rfl rfl ?_))
 iterate 8 refine cLs rfl rfl rfl (rfl) ?_
 refine cL rfl (zZv (v := .bool _) rfl rfl rfl (eL (zYz ⟨rfl, rfl, rfl, rfl, rfl, rfl, rfl, rfl, rfl, rfl, rfl, rfl, rfl, (congrArg AV.bool (dOrT c1)).symm, trivial⟩ rfl)))
 have sd := sd.2 c1
 refine cLg rfl rfl (dF c1) (mL rfl rfl (cLg rfl rfl (dF c1) (mL rfl rfl (cLg rfl rfl (dF c1) ?_))))
 obtain ⟨s9208, sd⟩ := sd
 refine cL rfl (zZu (k := 17) (fst := []) (caps := []) (ys := [.lst _ _ _, .lst _ _ _]) rfl rfl (spec_ints ((chM y ((mkM c).2.1) y_1).1) ((chM y ((mkM c).2.1) y_1).1) s9208) (Wks.cons (zZs _ _ _ _ _) (Wks.cons (zZs _ _ _ _ _) (Wks.refl _))) (cLg rfl rfl (dF c1) (cL rfl (o_not rfl (cL rfl (zZy (v := .bool _) rfl (dF c1) rfl (mB rfl rfl ?_)))))))
 by_cases c2 : ¬ (((chM y ((mkM c).2.1) y_1).1) = ((chM y ((mkM c).2.1) y_1).1))
 iterate 3 refine cLs rfl rfl rfl (dT c2) ?_
 refine cL rfl (zZv (v := .bool _) rfl (dT c2) rfl (mB rfl rfl ?_))
 iterate 3 refine cLs rfl rfl rfl (rfl) ?_
 refine cL rfl (zZv (v := .bool _) rfl rfl rfl (mB rfl rfl ?_))
 iterate 8 refine cLs rfl rfl rfl (rfl) ?_
 refine cL rfl (zZv (v := .bool _) rfl rfl rfl (eL (zYz ⟨rfl, rfl, rfl, rfl, rfl, rfl, rfl, rfl, rfl, rfl, rfl, rfl, rfl, (congrArg AV.bool (dOrF c1 (dOrT c2))).symm, trivial⟩ rfl)))
 have sd := sd.2 c2
 refine cLg rfl rfl (dF c2) (mI rfl rfl (cLg rfl rfl (dF c2) (mI rfl rfl (cLg rfl rfl (dF c2) (cL rfl (o_neI rfl rfl rfl (cL rfl (zZy (v := .bool _) rfl (dF c2) rfl (mB rfl rfl ?_)))))))))
 by_cases c3 : ¬ (liM y ((mkM c).2.1) y_1).2 = (liM y ((mkM c).2.1) y_1).2
 iterate 3 refine cLs rfl rfl rfl (dT c3) ?_
 refine cL rfl (zZv (v := .bool _) rfl (dT c3) rfl (mB rfl rfl ?_))
 iterate 8 refine cLs rfl rfl rfl (rfl) ?_
 refine cL rfl (zZv (v := .bool _) rfl rfl rfl (eL (zYz ⟨rfl, rfl, rfl, rfl, rfl, rfl, rfl, rfl, rfl, rfl, rfl, rfl, rfl, (congrArg AV.bool (dOrF c1 (dOrF c2 (dOrT c3)))).symm, trivial⟩ rfl)))
 have sd := sd.2 c3
 refine cLg rfl rfl (dF c3) (mI rfl rfl (cLg rfl rfl (dF c3) (mI rfl rfl (cLg rfl rfl (dF c3) (cL rfl (o_neI rfl rfl rfl (cL rfl (zZy (v := .bool _) rfl (dF c3) rfl (mB rfl rfl ?_)))))))))
 by_cases c4 : ¬ (liM y ((mkM c).2.1) y_1).1 = (liM y ((mkM c).2.1) y_1).1
 iterate 8 refine cLs rfl rfl rfl (dT c4) ?_
 refine cL rfl (zZv (v := .bool _) rfl (dT c4) rfl (eL (zYz ⟨rfl, rfl, rfl, rfl, rfl, rfl, rfl, rfl, rfl, rfl, rfl, rfl, rfl, (congrArg AV.bool (dOrF c1 (dOrF c2 (dOrF c3 (dOrT c4))))).symm, trivial⟩ rfl)))
 have sd := sd.2 c4
 refine cLg rfl rfl (dF c4) (mL rfl rfl (cLg rfl rfl (dF c4) (mI rfl rfl (cLg rfl rfl (dF c4) ?_))))
 obtain ⟨s9209, sd⟩ := sd
 refine cL rfl (zZu (k := 19) (fst := []) (caps := []) (ys := [.lst _ _ _, .int _ _]) rfl rfl (spec_part y_1 mask s9209) (Wks.cons (zZs _ _ _ _ _) (Wks.cons (zZz _ _ _ _) (Wks.refl _))) (cLg rfl rfl (dF c4) (mL rfl rfl (cLg rfl rfl (dF c4) (mI rfl rfl (cLg rfl rfl (dF c4) ?_))))))
 obtain ⟨s9210, s9211, sd⟩ := sd
 refine cL rfl (zZu (k := 20) (fst := []) (caps := []) (ys := [.lst _ _ _, .int _ _]) rfl rfl (spec_rpart y_1 mask s9210 s9211) (Wks.cons (zZs _ _ _ _ _) (Wks.cons (zZz _ _ _ _) (Wks.refl _))) (cLg rfl rfl (dF c4) ?_))
 obtain ⟨s9212, sd⟩ := sd
 refine cL rfl (zZu (k := 18) (fst := []) (caps := []) (ys := [.lst _ _ _, .lst _ _ _]) rfl rfl (spec_csame (partM y_1 mask) (partM y_1 mask) s9212) (Wks.cons (zZs _ _ _ _ _) (Wks.cons (zZs _ _ _ _ _) (Wks.refl _))) (cLg rfl rfl (dF c4) (cL rfl (o_not rfl (cL rfl (zZy (v := .bool _) rfl (dF c4) rfl (eL (zYz ⟨rfl, rfl, rfl, rfl, rfl, rfl, rfl, rfl, rfl, rfl, rfl, rfl, rfl, (congrArg AV.bool (dOrF c1 (dOrF c2 (dOrF c3 (dOrF c4 (rfl)))))).symm, trivial⟩ rfl))))))))
 refine W.cn rfl (fun hc => ?_) (fun hc => ?_)
 have hv := hv.1 hc
 refine W.rL (aB rfl rfl (eL (W.tr [(10, .bool _)] [.dead, .dead, .box _ [.int _ _, .int _ _, .int _ _], .dead, .row _ _ _, .box _ [.lst _ _ _, .int _ _, .int _ _, .lst _ _ _, .lst _ _ _], .row _ _ _] ⟨rfl, trivial⟩ rfl (W.ret (zZr (zXz (zZr (zZr (zXz (zXz (zZr (zZr (zXz (zZr (rt (rt_t (v := .bool _) rfl (rt_n (⟨_, zXx _ _ _, false, rfl, hv⟩))))))))))))))))))
 have hv := hv.2 hc
 refine W.skip (zZ (W.rP [0, 1, 2, 3, 4, 8, 5, 6, 7] (by decide +kernel) rfl (cL rfl (o_iaA tt29 tt3 rfl rfl ⟨by decide, by decide⟩ rfl (cL rfl (zZx (v := .int _ _) tt3 rfl rfl ⟨_, rfl⟩ (cL rfl (o_iaA tt29 tt3 rfl rfl ⟨by decide, by decide⟩ rfl (cL rfl (zZx (v := .int _ _) tt3 rfl rfl ⟨_, rfl⟩ ?_))))))))))
 iterate 2 refine mI rfl rfl ?_
 obtain ⟨s9213, s9214, hv⟩ := hv
 refine cL rfl (zZu (k := 21) (fst := []) (caps := []) (ys := [.int _ _, .int _ _]) rfl rfl (spec_pick v.x1 ((mkM c).2.1) s9213 s9214) (Wks.cons (zZz _ _ _ _) (Wks.cons (zZz _ _ _ _) (Wks.refl _))) (cL rfl (o_buildS (q := 7) (qs := [(0, .int _ _), (1, .int _ _)]) (cs := [.int _ _, .int _ _]) tt23 tt3 rfl rfl rfl rfl (cL rfl (zXq (v := .ref _ _ _) tt23 rfl rfl (eL (W.block ?_)))))))
 obtain ⟨I3, μ3, hp, hv⟩ := hv
 refine W.loop1 (fun v145 => ⟨238, look [(2, .lst true l.length (zYy e66 l)), (3, .int .i64 mask), (9, .ptr 2 0), (12, .int .i64 ((mkM c).2.1)), (13, .lst false ((mkM c).2.2.1).length (zYy e66 ((mkM c).2.2.1))), (17, .ptr 5 0), (19, .lst true y_1.length (zYy e66 y_1)), (65, .ref false 4 ([(mkM c).1, (Flt.mk (raw.dr.take (min ((raw.dr.length : Nat) : Int) 7).toNat) raw.la raw.li raw.sv raw.tm)].length)), (66, .int .i64 ((2 : Nat) : Int)), (67, .int .i64 v67), (74, .ref false 6 ([(mkM c).2.2.1, l.take 40].length)), (75, .int .i64 ((2 : Nat) : Int)), (76, .int .i64 v76), (143, .ref false 7 ([v.x1, pickM v.x1 ((mkM c).2.1)].length)), (144, .int .i64 ((2 : Nat) : Int)), (145, .int .i64 v145)], [.dead, .dead, .box 29 [.int .i64 v.x0, .int .i64 v.x1, .int .i64 v.x2], .dead, .row 27 5 (zYy (e27 true) [(mkM c).1, (Flt.mk (raw.dr.take (min ((raw.dr.length : Nat) : Int) 7).toNat) raw.la raw.li raw.sv raw.tm)]), .box 27 [.lst true y.dr.length (zYy zYx y.dr), .int .i64 y.la, .int .i64 y.li, .lst true y.sv.length (zYy zYx y.sv), .lst true y.tm.length (zYy zYx y.tm)], .row 28 1 (zYy (eSl e66 true) [(mkM c).2.2.1, l.take 40]), .row 3 1 (zYy zYx [v.x1, pickM v.x1 ((mkM c).2.1)])], 0⟩) I3 μ3 0 (St.to_mk (φ := [none, none, some 2, none, some 4, some 5, some 6, some 7]) rfl (rfl) ⟨Ren.lst _ _ _, Ren.int _ _, Ren.ptr rfl, Ren.int _ _, Ren.lst _ _ _, Ren.ptr rfl, Ren.lst _ _ _, Ren.ref rfl (fun h => h), Ren.int _ _, Ren.int _ _, Ren.ref rfl (fun h => h), Ren.int _ _, Ren.int _ _, Ren.ref rfl (fun h => h), Ren.int _ _, Ren.int _ _, trivial⟩ ⟨rfl, rfl, .inr ⟨_, rfl, rfl, Rens.cons (Ren.int _ _) (Rens.cons (Ren.int _ _) (Rens.cons (Ren.int _ _) (Rens.nil)))⟩, rfl, .inr ⟨_, rfl, rfl, rfl, rfl, Rens.enc enc27 true [(mkM c).1, (Flt.mk (raw.dr.take (min ((raw.dr.length : Nat) : Int) 7).toNat) raw.la raw.li raw.sv raw.tm)]⟩, .inr ⟨_, rfl, rfl, Rens.cons (Ren.lst _ _ _) (Rens.cons (Ren.int _ _) (Rens.cons (Ren.int _ _) (Rens.cons (Ren.lst _ _ _) (Rens.cons (Ren.lst _ _ _) (Rens.nil)))))⟩, .inr ⟨_, rfl, rfl, rfl, rfl, Rens.enc (encSl e66) true [(mkM c).2.2.1, l.take 40]⟩, .inr ⟨_, rfl, rfl, rfl, rfl, Rens.enc zZw false [v.x1, pickM v.x1 ((mkM c).2.1)]⟩, trivial⟩) hp ?_
 clear hp
 intro v145 hI
 replace hv := hv v145 hI
 clear hI
 refine W.rL (cL rfl (zXw rfl rfl (eL (W.seq' (W.cn rfl (fun hc => ?_) (fun hc => ?_))))))
 have hv := hv.1 hc
 refine W.skip (zZ (W.seq' (W.block (W.rL ?_))))
 obtain ⟨s9405, hv⟩ := hv
 refine cL rfl (o_iaR tt23 tt3 rfl rfl s9405 (cL rfl (zZx (v := .int _ _) tt3 rfl rfl (cell_of (ca_row (xs := [v.x1, pickM v.x1 ((mkM c).2.1)]) rfl (zZw.wd false) s9405) rfl) (aI rfl rfl (eL (W.tr [(2, .lst _ _ _), (3, .int _ _), (9, .ptr _ _), (12, .int _ _), (13, .lst _ _ _), (17, .ptr _ _), (19, .lst _ _ _), (29, .int _ _), (65, .ref _ _ _), (66, .int _ _), (67, .int _ _), (74, .ref _ _ _), (75, .int _ _), (76, .int _ _), (143, .ref _ _ _), (144, .int _ _), (145, .int _ _)] [.dead, .dead, .box _ [.int _ _, .int _ _, .int _ _], .dead, .row _ _ _, .box _ [.lst _ _ _, .int _ _, .int _ _, .lst _ _ _, .lst _ _ _], .row _ _ _, .row _ _ _] ⟨rfl, rfl, rfl, rfl, rfl, rfl, rfl, rfl, rfl, rfl, rfl, rfl, rfl, rfl, rfl, rfl, rfl, trivial⟩ rfl ?_))))))
 generalize hy : lat [v.x1, pickM v.x1 ((mkM c).2.1)] v145 = y_2
 replace hv := hv y_2 hy
 clear hy
 refine W.rL (cL rfl (o_iaA tt29 tt3 rfl rfl ⟨by decide, by decide⟩ rfl (cL rfl (zZx (v := .int _ _) tt3 rfl rfl ⟨_, rfl⟩ (mI rfl rfl ?_)))))
 obtain ⟨s9406, s9407, hv⟩ := hv
 refine cL rfl (zZu (k := 21) (fst := []) (caps := []) (ys := [.int _ _, .int _ _]) rfl rfl (spec_pick v.x0 ((mkM c).2.1) s9406 s9407) (Wks.cons (zZz _ _ _ _) (Wks.cons (zZz _ _ _ _) (Wks.refl _))) (aI rfl rfl (eL (W.rL (cL rfl (zXv (cs := [.lst _ _ _, .int _ _, .int _ _, .lst _ _ _, .lst _ _ _]) tt27 rfl rfl ⟨_, rfl⟩ rfl (mI rfl rfl (mL rfl rfl ?_))))))))
 iterate 2 refine mI rfl rfl ?_
 obtain ⟨s9408, s9409, s9410, s9411, hv⟩ := hv
 refine cL rfl (zZu (k := 22) (fst := []) (caps := []) (ys := [.agg _, .int _ _, .lst _ _ _, .int _ _, .int _ _]) rfl rfl (spec_brange y ((mkM c).2.1) y_1 (pickM v.x0 ((mkM c).2.1)) y_2 s9408 s9409 s9410 s9411) (Wks.cons (zXr 5 _ (Wks.cons (zZs _ _ _ _ _) (Wks.cons (zZz _ _ _ _) (Wks.cons (zZz _ _ _ _) (Wks.cons (zZs _ _ _ _ _) (Wks.cons (zZs _ _ _ _ _) (Wks.refl _))))))) (Wks.cons (zZz _ _ _ _) (Wks.cons (zZs _ _ _ _ _) (Wks.cons (zZz _ _ _ _) (Wks.cons (zZz _ _ _ _) (Wks.refl _)))))) (cL rfl (zZp (v := .tup _) rfl ?_)))
 iterate 3 refine cL rfl (o_ext (v := .int _ _) rfl rfl ?_)
 iterate 3 refine aI rfl rfl ?_
 refine eL (W.tr [(2, .lst _ _ _), (3, .int _ _), (9, .ptr _ _), (12, .int _ _), (13, .lst _ _ _), (17, .ptr _ _), (19, .lst _ _ _), (29, .int _ _), (30, .int _ _), (31, .int _ _), (32, .int _ _), (33, .int _ _), (65, .ref _ _ _), (66, .int _ _), (67, .int _ _), (74, .ref _ _ _), (75, .int _ _), (76, .int _ _), (143, .ref _ _ _), (144, .int _ _), (145, .int _ _)] [.dead, .dead, .box _ [.int _ _, .int _ _, .int _ _], .dead, .row _ _ _, .box _ [.lst _ _ _, .int _ _, .int _ _, .lst _ _ _, .lst _ _ _], .row _ _ _, .row _ _ _] ⟨rfl, rfl, rfl, rfl, rfl, rfl, rfl, rfl, rfl, rfl, rfl, rfl, rfl, rfl, rfl, rfl, rfl, rfl, rfl, rfl, rfl, trivial⟩ rfl ?_)
 generalize hy : zYv y ((mkM c).2.1) y_1 (pickM v.x0 ((mkM c).2.1)) y_2 = y_3
 replace hv := hv y_3 hy
 clear hy
 refine W.rL (cL rfl (zXv (cs := [.lst _ _ _, .int _ _, .int _ _, .lst _ _ _, .lst _ _ _]) tt27 rfl rfl ⟨_, rfl⟩ rfl (mI rfl rfl (mL rfl rfl ?_))))
 iterate 2 refine mI rfl rfl ?_
 obtain ⟨s9412, s9413, s9414, s9415, s9416, hv⟩ := hv
 refine cL rfl (zZu (k := 23) (fst := []) (caps := []) (ys := [.agg _, .int _ _, .lst _ _ _, .int _ _, .int _ _]) rfl rfl (spec_rbrange y ((mkM c).2.1) y_1 (pickM v.x0 ((mkM c).2.1)) y_2 s9412 s9413 s9414 s9415 s9416) (Wks.cons (zXr 5 _ (Wks.cons (zZs _ _ _ _ _) (Wks.cons (zZz _ _ _ _) (Wks.cons (zZz _ _ _ _) (Wks.cons (zZs _ _ _ _ _) (Wks.cons (zZs _ _ _ _ _) (Wks.refl _))))))) (Wks.cons (zZz _ _ _ _) (Wks.cons (zZs _ _ _ _ _) (Wks.cons (zZz _ _ _ _) (Wks.cons (zZz _ _ _ _) (Wks.refl _)))))) (cL rfl (zZp (v := .tup _) rfl ?_)))
 iterate 3 refine cL rfl (o_ext (v := .int _ _) rfl rfl ?_)
 iterate 3 refine aI rfl rfl ?_
 refine eL (W.tr [(2, .lst _ _ _), (3, .int _ _), (9, .ptr _ _), (12, .int _ _), (13, .lst _ _ _), (17, .ptr _ _), (19, .lst _ _ _), (29, .int _ _), (30, .int _ _), (31, .int _ _), (32, .int _ _), (33, .int _ _), (34, .int _ _), (35, .int _ _), (36, .int _ _), (65, .ref _ _ _), (66, .int _ _), (67, .int _ _), (74, .ref _ _ _), (75, .int _ _), (76, .int _ _), (143, .ref _ _ _), (144, .int _ _), (145, .int _ _)] [.dead, .dead, .box _ [.int _ _, .int _ _, .int _ _], .dead, .row _ _ _, .box _ [.lst _ _ _, .int _ _, .int _ _, .lst _ _ _, .lst _ _ _], .row _ _ _, .row _ _ _] ⟨rfl, rfl, rfl, rfl, rfl, rfl, rfl, rfl, rfl, rfl, rfl, rfl, rfl, rfl, rfl, rfl, rfl, rfl, rfl, rfl, rfl, rfl, rfl, rfl, trivial⟩ rfl ?_)
 generalize hy : zYv y ((mkM c).2.1) y_1 (pickM v.x0 ((mkM c).2.1)) y_2 = y_4
 replace hv := hv y_4 hy
 clear hy
 refine W.seq' (W.rLm ⟨238, look [(2, .lst true l.length (zYy e66 l)), (3, .int .i64 mask), (9, .ptr 2 0), (12, .int .i64 ((mkM c).2.1)), (13, .lst false ((mkM c).2.2.1).length (zYy e66 ((mkM c).2.2.1))), (17, .ptr 5 0), (19, .lst true y_1.length (zYy e66 y_1)), (29, .int .i64 y_2), (30, .int .i64 (pickM v.x0 ((mkM c).2.1))), (31, .int .i64 y_3.1), (32, .int .i64 y_3.2.1), (65, .ref false 4 ([(mkM c).1, (Flt.mk (raw.dr.take (min ((raw.dr.length : Nat) : Int) 7).toNat) raw.la raw.li raw.sv raw.tm)].length)), (66, .int .i64 ((2 : Nat) : Int)), (67, .int .i64 v67), (74, .ref false 6 ([(mkM c).2.2.1, l.take 40].length)), (75, .int .i64 ((2 : Nat) : Int)), (76, .int .i64 v76), (143, .ref false 7 ([v.x1, pickM v.x1 ((mkM c).2.1)].length)), (144, .int .i64 ((2 : Nat) : Int)), (145, .int .i64 v145), (185, .bool (decide ((¬ y_3.2.2 = y_4.2.2) \/ ((¬ y_3.1 = y_4.1) \/ (¬ y_3.2.1 = y_4.2.1)))))], [.dead, .dead, .box 29 [.int .i64 v.x0, .int .i64 v.x1, .int .i64 v.x2], .dead, .row 27 5 (zYy (e27 true) [(mkM c).1, (Flt.mk (raw.dr.take (min ((raw.dr.length : Nat) : Int) 7).toNat) raw.la raw.li raw.sv raw.tm)]), .box 27 [.lst true y.dr.length (zYy zYx y.dr), .int .i64 y.la, .int .i64 y.li, .lst true y.sv.length (zYy zYx y.sv), .lst true y.tm.length (zYy zYx y.tm)], .row 28 1 (zYy (eSl e66 true) [(mkM c).2.2.1, l.take 40]), .row 3 1 (zYy zYx [v.x1, pickM v.x1 ((mkM c).2.1)])], 0⟩ ?_ ?_)
 iterate 2 refine mI rfl rfl ?_
 refine cL rfl (o_neI rfl rfl rfl (mB rfl rfl ?_))
 by_cases c1 : ¬ y_3.2.2 = y_4.2.2
 iterate 3 refine cLs rfl rfl rfl (dT c1) ?_
 refine cL rfl (zZv (v := .bool _) rfl (dT c1) rfl (mB rfl rfl ?_))
 iterate 3 refine cLs rfl rfl rfl (rfl) ?_
 refine cL rfl (zZv (v := .bool _) rfl rfl rfl (eL (zYz ⟨rfl, rfl, rfl, rfl, rfl, rfl, rfl, rfl, rfl, rfl, rfl, rfl, rfl, rfl, rfl, rfl, rfl, rfl, rfl, rfl, (congrArg AV.bool (dOrT c1)).symm, trivial⟩ rfl)))
 refine cLg rfl rfl (dF c1) (mI rfl rfl (cLg rfl rfl (dF c1) (mI rfl rfl (cLg rfl rfl (dF c1) (cL rfl (o_neI rfl rfl rfl (cL rfl (zZy (v := .bool _) rfl (dF c1) rfl (mB rfl rfl ?_)))))))))
 by_cases c2 : ¬ y_3.1 = y_4.1
 iterate 3 refine cLs rfl rfl rfl (dT c2) ?_
 refine cL rfl (zZv (v := .bool _) rfl (dT c2) rfl (eL (zYz ⟨rfl, rfl, rfl, rfl, rfl, rfl, rfl, rfl, rfl, rfl, rfl, rfl, rfl, rfl, rfl, rfl, rfl, rfl, rfl, rfl, (congrArg AV.bool (dOrF c1 (dOrT c2))).symm, trivial⟩ rfl)))
 refine cLg rfl rfl (dF c2) (mI rfl rfl (cLg rfl rfl (dF c2) (mI rfl rfl (cLg rfl rfl (dF c2) (cL rfl (o_neI rfl rfl rfl (cL rfl (zZy (v := .bool _) rfl (dF c2) rfl (eL (zYz ⟨rfl, rfl, rfl, rfl, rfl, rfl, rfl, rfl, rfl, rfl, rfl, rfl, rfl, rfl, rfl, rfl, rfl, rfl, rfl, rfl, (congrArg AV.bool (dOrF c1 (dOrF c2 (rfl)))).symm, trivial⟩ rfl))))))))))
 refine W.cn rfl (fun hc => ?_) (fun hc => ?_)
 have hv := hv.1 hc
 refine W.rL (aB rfl rfl (eL (W.tr [(10, .bool _)] [.dead, .dead, .box _ [.int _ _, .int _ _, .int _ _], .dead, .row _ _ _, .box _ [.lst _ _ _, .int _ _, .int _ _, .lst _ _ _, .lst _ _ _], .row _ _ _, .row _ _ _] ⟨rfl, trivial⟩ rfl (W.ret (zZr (zXz (zZr (zZr (zXz (zXz (zZr (zZr (zXz (zXz (zZr (zZr (zXz (zZr (rt (rt_t (v := .bool _) rfl (rt_n (⟨_, zXx _ _ _, false, rfl, hv⟩))))))))))))))))))))))
 have hv := hv.2 hc
 refine W.skip (zZ (W.rL (cL rfl (o_iaA tt29 tt3 rfl rfl ⟨by decide, by decide⟩ rfl (cL rfl (zZx (v := .int _ _) tt3 rfl rfl ⟨_, rfl⟩ ?_))))))
 iterate 3 refine mI rfl rfl ?_
 obtain ⟨s9417, hv⟩ := hv
 refine cL rfl (o_add rfl rfl s9417 (cL rfl (o_buildS (q := 8) (qs := [(0, .int _ _), (1, .int _ _), (2, .int _ _), (3, .int _ _)]) (cs := [.int _ _, .int _ _, .int _ _, .int _ _]) tt23 tt3 rfl rfl rfl rfl (cL rfl (zXq (v := .ref _ _ _) tt23 rfl rfl (mI rfl rfl (eL (W.block ?_))))))))
 obtain ⟨I4, μ4, hp, hv⟩ := hv
 refine W.loop1 (fun v194 => ⟨238, look [(2, .lst true l.length (zYy e66 l)), (3, .int .i64 mask), (9, .ptr 2 0), (12, .int .i64 ((mkM c).2.1)), (13, .lst false ((mkM c).2.2.1).length (zYy e66 ((mkM c).2.2.1))), (17, .ptr 5 0), (19, .lst true y_1.length (zYy e66 y_1)), (29, .int .i64 y_2), (30, .int .i64 (pickM v.x0 ((mkM c).2.1))), (65, .ref false 4 ([(mkM c).1, (Flt.mk (raw.dr.take (min ((raw.dr.length : Nat) : Int) 7).toNat) raw.la raw.li raw.sv raw.tm)].length)), (66, .int .i64 ((2 : Nat) : Int)), (67, .int .i64 v67), (74, .ref false 6 ([(mkM c).2.2.1, l.take 40].length)), (75, .int .i64 ((2 : Nat) : Int)), (76, .int .i64 v76), (143, .ref false 7 ([v.x1, pickM v.x1 ((mkM c).2.1)].length)), (144, .int .i64 ((2 : Nat) : Int)), (145, .int .i64 v145), (192, .ref false 8 ([v.x2, y_3.1, y_3.2.1, (y_3.2.1 + 1)].length)), (193, .int .i64 ((4 : Nat) : Int)), (194, .int .i64 v194)], [.dead, .dead, .box 29 [.int .i64 v.x0, .int .i64 v.x1, .int .i64 v.x2], .dead, .row 27 5 (zYy (e27 true) [(mkM c).1, (Flt.mk (raw.dr.take (min ((raw.dr.length : Nat) : Int) 7).toNat) raw.la raw.li raw.sv raw.tm)]), .box 27 [.lst true y.dr.length (zYy zYx y.dr), .int .i64 y.la, .int .i64 y.li, .lst true y.sv.length (zYy zYx y.sv), .lst true y.tm.length (zYy zYx y.tm)], .row 28 1 (zYy (eSl e66 true) [(mkM c).2.2.1, l.take 40]), .row 3 1 (zYy zYx [v.x1, pickM v.x1 ((mkM c).2.1)]), .row 3 1 (zYy zYx [v.x2, y_3.1, y_3.2.1, (y_3.2.1 + 1)])], 0⟩) I4 μ4 0 (St.to_mk (φ := [none, none, some 2, none, some 4, some 5, some 6, some 7, some 8]) rfl (rfl) ⟨Ren.lst _ _ _, Ren.int _ _, Ren.ptr rfl, Ren.int _ _, Ren.lst _ _ _, Ren.ptr rfl, Ren.lst _ _ _, Ren.int _ _, Ren.int _ _, Ren.ref rfl (fun h => h), Ren.int _ _, Ren.int _ _, Ren.ref rfl (fun h => h), Ren.int _ _, Ren.int _ _, Ren.ref rfl (fun h => h), Ren.int _ _, Ren.int _ _, Ren.ref rfl (fun h => h), Ren.int _ _, Ren.int _ _, trivial⟩ ⟨rfl, rfl, .inr ⟨_, rfl, rfl, Rens.cons (Ren.int _ _) (Rens.cons (Ren.int _ _) (Rens.cons (Ren.int _ _) (Rens.nil)))⟩, rfl, .inr ⟨_, rfl, rfl, rfl, rfl, Rens.enc enc27 true [(mkM c).1, (Flt.mk (raw.dr.take (min ((raw.dr.length : Nat) : Int) 7).toNat) raw.la raw.li raw.sv raw.tm)]⟩, .inr ⟨_, rfl, rfl, Rens.cons (Ren.lst _ _ _) (Rens.cons (Ren.int _ _) (Rens.cons (Ren.int _ _) (Rens.cons (Ren.lst _ _ _) (Rens.cons (Ren.lst _ _ _) (Rens.nil)))))⟩, .inr ⟨_, rfl, rfl, rfl, rfl, Rens.enc (encSl e66) true [(mkM c).2.2.1, l.take 40]⟩, .inr ⟨_, rfl, rfl, rfl, rfl, Rens.enc zZw false [v.x1, pickM v.x1 ((mkM c).2.1)]⟩, .inr ⟨_, rfl, rfl, rfl, rfl, Rens.enc zZw false [v.x2, y_3.1, y_3.2.1, (y_3.2.1 + 1)]⟩, trivial⟩) hp ?_
 clear hp
 intro v194 hI
 replace hv := hv v194 hI
 clear hI
 refine W.rL (cL rfl (zXw rfl rfl (eL (W.seq' (W.cn rfl (fun hc => ?_) (fun hc => ?_))))))
 have hv := hv.1 hc
 refine W.skip (zZ (W.seq' (W.block (W.rL ?_))))
 obtain ⟨s9455, hv⟩ := hv
 refine cL rfl (o_iaR tt23 tt3 rfl rfl s9455 (cL rfl (zZx (v := .int _ _) tt3 rfl rfl (cell_of (ca_row (xs := [v.x2, y_3.1, y_3.2.1, (y_3.2.1 + 1)]) rfl (zZw.wd false) s9455) rfl) (aI rfl rfl (eL (W.tr [(2, .lst _ _ _), (3, .int _ _), (9, .ptr _ _), (12, .int _ _), (13, .lst _ _ _), (17, .ptr _ _), (19, .lst _ _ _), (29, .int _ _), (30, .int _ _), (38, .int _ _), (65, .ref _ _ _), (66, .int _ _), (67, .int _ _), (74, .ref _ _ _), (75, .int _ _), (76, .int _ _), (143, .ref _ _ _), (144, .int _ _), (145, .int _ _), (192, .ref _ _ _), (193, .int _ _), (194, .int _ _)] [.dead, .dead, .box _ [.int _ _, .int _ _, .int _ _], .dead, .row _ _ _, .box _ [.lst _ _ _, .int _ _, .int _ _, .lst _ _ _, .lst _ _ _], .row _ _ _, .row _ _ _, .row _ _ _] ⟨rfl, rfl, rfl, rfl, rfl, rfl, rfl, rfl, rfl, rfl, rfl, rfl, rfl, rfl, rfl, rfl, rfl, rfl, rfl, rfl, rfl, rfl, trivial⟩ rfl ?_))))))
 generalize hy : lat [v.x2, y_3.1, y_3.2.1, (y_3.2.1 + 1)] v194 = y_5
 replace hv := hv y_5 hy
 clear hy
 refine W.rL (cL rfl (zXv (cs := [.lst _ _ _, .int _ _, .int _ _, .lst _ _ _, .lst _ _ _]) tt27 rfl rfl ⟨_, rfl⟩ rfl (mI rfl rfl (mL rfl rfl ?_))))
 iterate 3 refine mI rfl rfl ?_
 obtain ⟨s9456, s9457, s9458, s9459, hv⟩ := hv
 refine cL rfl (zZu (k := 24) (fst := []) (caps := []) (ys := [.agg _, .int _ _, .lst _ _ _, .int _ _, .int _ _, .int _ _]) rfl rfl (spec_witness y ((mkM c).2.1) y_1 (pickM v.x0 ((mkM c).2.1)) y_2 y_5 s9456 s9457 s9458 s9459) (Wks.cons (zXr 5 _ (Wks.cons (zZs _ _ _ _ _) (Wks.cons (zZz _ _ _ _) (Wks.cons (zZz _ _ _ _) (Wks.cons (zZs _ _ _ _ _) (Wks.cons (zZs _ _ _ _ _) (Wks.refl _))))))) (Wks.cons (zZz _ _ _ _) (Wks.cons (zZs _ _ _ _ _) (Wks.cons (zZz _ _ _ _) (Wks.cons (zZz _ _ _ _) (Wks.cons (zZz _ _ _ _) (Wks.refl _))))))) (cL rfl (zZp (v := .tup _) rfl (cL rfl (o_ext (v := .lst _ _ _) rfl rfl ?_)))))
 iterate 2 refine cL rfl (o_ext (v := .int _ _) rfl rfl ?_)
 refine aL rfl rfl ?_
 iterate 2 refine aI rfl rfl ?_
 refine eL (W.tr [(2, .lst _ _ _), (3, .int _ _), (9, .ptr _ _), (12, .int _ _), (13, .lst _ _ _), (17, .ptr _ _), (19, .lst _ _ _), (29, .int _ _), (30, .int _ _), (38, .int _ _), (39, .lst _ _ _), (40, .int _ _), (41, .int _ _), (65, .ref _ _ _), (66, .int _ _), (67, .int _ _), (74, .ref _ _ _), (75, .int _ _), (76, .int _ _), (143, .ref _ _ _), (144, .int _ _), (145, .int _ _), (192, .ref _ _ _), (193, .int _ _), (194, .int _ _)] [.dead, .dead, .box _ [.int _ _, .int _ _, .int _ _], .dead, .row _ _ _, .box _ [.lst _ _ _, .int _ _, .int _ _, .lst _ _ _, .lst _ _ _], .row _ _ _, .row _ _ _, .row _ _ _] ⟨rfl, rfl, rfl, rfl, rfl, rfl, rfl, rfl, rfl, rfl, rfl, rfl, rfl, rfl, rfl, rfl, rfl, rfl, rfl, rfl, rfl, rfl, rfl, rfl, rfl, trivial⟩ rfl ?_)
 generalize hy : witM y ((mkM c).2.1) y_1 (pickM v.x0 ((mkM c).2.1)) y_2 y_5 = y_6
 replace hv := hv y_6 hy
 clear hy
 refine W.rL (cL rfl (zXv (cs := [.lst _ _ _, .int _ _, .int _ _, .lst _ _ _, .lst _ _ _]) tt27 rfl rfl ⟨_, rfl⟩ rfl (mI rfl rfl (mL rfl rfl ?_))))
 iterate 3 refine mI rfl rfl ?_
 obtain ⟨s9460, s9461, s9462, s9463, s9464, hv⟩ := hv
 refine cL rfl (zZu (k := 25) (fst := []) (caps := []) (ys := [.agg _, .int _ _, .lst _ _ _, .int _ _, .int _ _, .int _ _]) rfl rfl (spec_rwit y ((mkM c).2.1) y_1 (pickM v.x0 ((mkM c).2.1)) y_2 y_5 s9460 s9461 s9462 s9463 s9464) (Wks.cons (zXr 5 _ (Wks.cons (zZs _ _ _ _ _) (Wks.cons (zZz _ _ _ _) (Wks.cons (zZz _ _ _ _) (Wks.cons (zZs _ _ _ _ _) (Wks.cons (zZs _ _ _ _ _) (Wks.refl _))))))) (Wks.cons (zZz _ _ _ _) (Wks.cons (zZs _ _ _ _ _) (Wks.cons (zZz _ _ _ _) (Wks.cons (zZz _ _ _ _) (Wks.cons (zZz _ _ _ _) (Wks.refl _))))))) (cL rfl (zZp (v := .tup _) rfl (cL rfl (o_ext (v := .lst _ _ _) rfl rfl ?_)))))
 iterate 2 refine cL rfl (o_ext (v := .int _ _) rfl rfl ?_)
 refine aL rfl rfl ?_
 iterate 2 refine aI rfl rfl ?_
 refine eL (W.tr [(2, .lst _ _ _), (3, .int _ _), (9, .ptr _ _), (12, .int _ _), (13, .lst _ _ _), (17, .ptr _ _), (19, .lst _ _ _), (29, .int _ _), (30, .int _ _), (39, .lst _ _ _), (40, .int _ _), (41, .int _ _), (42, .lst _ _ _), (43, .int _ _), (44, .int _ _), (65, .ref _ _ _), (66, .int _ _), (67, .int _ _), (74, .ref _ _ _), (75, .int _ _), (76, .int _ _), (143, .ref _ _ _), (144, .int _ _), (145, .int _ _), (192, .ref _ _ _), (193, .int _ _), (194, .int _ _)] [.dead, .dead, .box _ [.int _ _, .int _ _, .int _ _], .dead, .row _ _ _, .box _ [.lst _ _ _, .int _ _, .int _ _, .lst _ _ _, .lst _ _ _], .row _ _ _, .row _ _ _, .row _ _ _] ⟨rfl, rfl, rfl, rfl, rfl, rfl, rfl, rfl, rfl, rfl, rfl, rfl, rfl, rfl, rfl, rfl, rfl, rfl, rfl, rfl, rfl, rfl, rfl, rfl, rfl, rfl, rfl, trivial⟩ rfl ?_)
 generalize hy : witM y ((mkM c).2.1) y_1 (pickM v.x0 ((mkM c).2.1)) y_2 y_5 = y_7
 replace hv := hv y_7 hy
 clear hy
 obtain ⟨sd, hv⟩ := hv
 refine W.rLm ⟨238, look [(2, .lst true l.length (zYy e66 l)), (3, .int .i64 mask), (9, .ptr 2 0), (12, .int .i64 ((mkM c).2.1)), (13, .lst false ((mkM c).2.2.1).length (zYy e66 ((mkM c).2.2.1))), (17, .ptr 5 0), (19, .lst true y_1.length (zYy e66 y_1)), (29, .int .i64 y_2), (30, .int .i64 (pickM v.x0 ((mkM c).2.1))), (65, .ref false 4 ([(mkM c).1, (Flt.mk (raw.dr.take (min ((raw.dr.length : Nat) : Int) 7).toNat) raw.la raw.li raw.sv raw.tm)].length)), (66, .int .i64 ((2 : Nat) : Int)), (67, .int .i64 v67), (74, .ref false 6 ([(mkM c).2.2.1, l.take 40].length)), (75, .int .i64 ((2 : Nat) : Int)), (76, .int .i64 v76), (143, .ref false 7 ([v.x1, pickM v.x1 ((mkM c).2.1)].length)), (144, .int .i64 ((2 : Nat) : Int)), (145, .int .i64 v145), (192, .ref false 8 ([v.x2, y_3.1, y_3.2.1, (y_3.2.1 + 1)].length)), (193, .int .i64 ((4 : Nat) : Int)), (194, .int .i64 v194), (233, .bool (decide ((¬ y_6.2.2 = y_7.2.2) \/ ((¬ y_6.2.1 = y_7.2.1) \/ (¬ (y_6.1 = y_7.1))))))], [.dead, .dead, .box 29 [.int .i64 v.x0, .int .i64 v.x1, .int .i64 v.x2], .dead, .row 27 5 (zYy (e27 true) [(mkM c).1, (Flt.mk (raw.dr.take (min ((raw.dr.length : Nat) : Int) 7).toNat) raw.la raw.li raw.sv raw.tm)]), .box 27 [.lst true y.dr.length (zYy zYx y.dr), .int .i64 y.la, .int .i64 y.li, .lst true y.sv.length (zYy zYx y.sv), .lst true y.tm.length (zYy zYx y.tm)], .row 28 1 (zYy (eSl e66 true) [(mkM c).2.2.1, l.take 40]), .row 3 1 (zYy zYx [v.x1, pickM v.x1 ((mkM c).2.1)]), .row 3 1 (zYy zYx [v.x2, y_3.1, y_3.2.1, (y_3.2.1 + 1)])], 0⟩ ?_ ?_
 iterate 2 refine mI rfl rfl ?_
 refine cL rfl (o_neI rfl rfl rfl (mB rfl rfl ?_))
 by_cases c1 : ¬ y_6.2.2 = y_7.2.2
 iterate 3 refine cLs rfl rfl rfl (dT c1) ?_
 refine cL rfl (zZv (v := .bool _) rfl (dT c1) rfl (mB rfl rfl ?_))
 iterate 4 refine cLs rfl rfl rfl (rfl) ?_
 refine cL rfl (zZv (v := .bool _) rfl rfl rfl (eL (zYz ⟨rfl, rfl, rfl, rfl, rfl, rfl, rfl, rfl, rfl, rfl, rfl, rfl, rfl, rfl, rfl, rfl, rfl, rfl, rfl, rfl, rfl, (congrArg AV.bool (dOrT c1)).symm, trivial⟩ rfl)))
 have sd := sd.2 c1
 refine cLg rfl rfl (dF c1) (mI rfl rfl (cLg rfl rfl (dF c1) (mI rfl rfl (cLg rfl rfl (dF c1) (cL rfl (o_neI rfl rfl rfl (cL rfl (zZy (v := .bool _) rfl (dF c1) rfl (mB rfl rfl ?_)))))))))
 by_cases c2 : ¬ y_6.2.1 = y_7.2.1
 iterate 4 refine cLs rfl rfl rfl (dT c2) ?_
 refine cL rfl (zZv (v := .bool _) rfl (dT c2) rfl (eL (zYz ⟨rfl, rfl, rfl, rfl, rfl, rfl, rfl, rfl, rfl, rfl, rfl, rfl, rfl, rfl, rfl, rfl, rfl, rfl, rfl, rfl, rfl, (congrArg AV.bool (dOrF c1 (dOrT c2))).symm, trivial⟩ rfl)))
 have sd := sd.2 c2
 refine cLg rfl rfl (dF c2) (mL rfl rfl (cLg rfl rfl (dF c2) (mL rfl rfl (cLg rfl rfl (dF c2) ?_))))
 obtain ⟨s9466, sd⟩ := sd
 refine cL rfl (zZu (k := 17) (fst := []) (caps := []) (ys := [.lst _ _ _, .lst _ _ _]) rfl rfl (spec_ints y_6.1 y_7.1 s9466) (Wks.cons (zZs _ _ _ _ _) (Wks.cons (zZs _ _ _ _ _) (Wks.refl _))) (cLg rfl rfl (dF c2) (cL rfl (o_not rfl (cL rfl (zZy (v := .bool _) rfl (dF c2) rfl (eL (zYz ⟨rfl, rfl, rfl, rfl, rfl, rfl, rfl, rfl, rfl, rfl, rfl, rfl, rfl, rfl, rfl, rfl, rfl, rfl, rfl, rfl, rfl, (congrArg AV.bool (dOrF c1 (dOrF c2 (rfl)))).symm, trivial⟩ rfl))))))))
 refine W.cn rfl (fun hc => ?_) (fun hc => ?_)
 have hv := hv.1 hc
 refine W.rL (aB rfl rfl (eL (W.tr [(10, .bool _)] [.dead, .dead, .box _ [.int _ _, .int _ _, .int _ _], .dead, .row _ _ _, .box _ [.lst _ _ _, .int _ _, .int _ _, .lst _ _ _, .lst _ _ _], .row _ _ _, .row _ _ _, .row _ _ _] ⟨rfl, trivial⟩ rfl (W.ret (zXz (zZr (zZr (zXz (zXz (zZr (zZr (zXz (zXz (zZr (zZr (zXz (zXz (zZr (zZr (zXz (zZr (rt (rt_t (v := .bool _) rfl (rt_n (⟨_, zXx _ _ _, false, rfl, hv⟩)))))))))))))))))))))))))
 have hv := hv.2 hc
 refine W.skip (zYq (zZ (W.rL1 ?_)))
 obtain ⟨s9467, hv⟩ := hv
 refine cL rfl (o_add rfl rfl s9467 (mI rfl rfl (eL (zZ (⟨(), (v194 + 1), hv, St.to_mk (φ := [none, none, some 2, none, some 4, some 5, some 6, some 7, some 8]) rfl (rfl) ⟨Ren.lst _ _ _, Ren.int _ _, Ren.ptr rfl, Ren.int _ _, Ren.lst _ _ _, Ren.ptr rfl, Ren.lst _ _ _, Ren.int _ _, Ren.int _ _, Ren.ref rfl (fun h => h), Ren.int _ _, Ren.int _ _, Ren.ref rfl (fun h => h), Ren.int _ _, Ren.int _ _, Ren.ref rfl (fun h => h), Ren.int _ _, Ren.int _ _, Ren.ref rfl (fun h => h), Ren.int _ _, Ren.int _ _, trivial⟩ ⟨rfl, rfl, .inr ⟨_, rfl, rfl, Rens.cons (Ren.int _ _) (Rens.cons (Ren.int _ _) (Rens.cons (Ren.int _ _) (Rens.nil)))⟩, rfl, .inr ⟨_, rfl, rfl, rfl, rfl, Rens.enc enc27 true [(mkM c).1, (Flt.mk (raw.dr.take (min ((raw.dr.length : Nat) : Int) 7).toNat) raw.la raw.li raw.sv raw.tm)]⟩, .inr ⟨_, rfl, rfl, Rens.cons (Ren.lst _ _ _) (Rens.cons (Ren.int _ _) (Rens.cons (Ren.int _ _) (Rens.cons (Ren.lst _ _ _) (Rens.cons (Ren.lst _ _ _) (Rens.nil)))))⟩, .inr ⟨_, rfl, rfl, rfl, rfl, Rens.enc (encSl e66) true [(mkM c).2.2.1, l.take 40]⟩, .inr ⟨_, rfl, rfl, rfl, rfl, Rens.enc zZw false [v.x1, pickM v.x1 ((mkM c).2.1)]⟩, .inr ⟨_, rfl, rfl, rfl, rfl, Rens.enc zZw false [v.x2, y_3.1, y_3.2.1, (y_3.2.1 + 1)]⟩, trivial⟩⟩)))))
 have hv := hv.2 hc
 refine W.exit (zZt (zZt (zXy (zYq (zZ (W.tr [(2, .lst _ _ _), (3, .int _ _), (9, .ptr _ _), (12, .int _ _), (13, .lst _ _ _), (17, .ptr _ _), (19, .lst _ _ _), (65, .ref _ _ _), (66, .int _ _), (67, .int _ _), (74, .ref _ _ _), (75, .int _ _), (76, .int _ _), (143, .ref _ _ _), (144, .int _ _), (145, .int _ _)] [.dead, .dead, .box _ [.int _ _, .int _ _, .int _ _], .dead, .row _ _ _, .box _ [.lst _ _ _, .int _ _, .int _ _, .lst _ _ _, .lst _ _ _], .row _ _ _, .row _ _ _, .row _ _ _] ⟨rfl, rfl, rfl, rfl, rfl, rfl, rfl, rfl, rfl, rfl, rfl, rfl, rfl, rfl, rfl, rfl, trivial⟩ rfl (W.rL1 ?_)))))))
 obtain ⟨s9468, hv⟩ := hv
 refine cL rfl (o_add rfl rfl s9468 (mI rfl rfl (eL (zZ (⟨(), (v145 + 1), hv, St.to_mk (φ := [none, none, some 2, none, some 4, some 5, some 6, some 7]) rfl (rfl) ⟨Ren.lst _ _ _, Ren.int _ _, Ren.ptr rfl, Ren.int _ _, Ren.lst _ _ _, Ren.ptr rfl, Ren.lst _ _ _, Ren.ref rfl (fun h => h), Ren.int _ _, Ren.int _ _, Ren.ref rfl (fun h => h), Ren.int _ _, Ren.int _ _, Ren.ref rfl (fun h => h), Ren.int _ _, Ren.int _ _, trivial⟩ ⟨rfl, rfl, .inr ⟨_, rfl, rfl, Rens.cons (Ren.int _ _) (Rens.cons (Ren.int _ _) (Rens.cons (Ren.int _ _) (Rens.nil)))⟩, rfl, .inr ⟨_, rfl, rfl, rfl, rfl, Rens.enc enc27 true [(mkM c).1, (Flt.mk (raw.dr.take (min ((raw.dr.length : Nat) : Int) 7).toNat) raw.la raw.li raw.sv raw.tm)]⟩, .inr ⟨_, rfl, rfl, Rens.cons (Ren.lst _ _ _) (Rens.cons (Ren.int _ _) (Rens.cons (Ren.int _ _) (Rens.cons (Ren.lst _ _ _) (Rens.cons (Ren.lst _ _ _) (Rens.nil)))))⟩, .inr ⟨_, rfl, rfl, rfl, rfl, Rens.enc (encSl e66) true [(mkM c).2.2.1, l.take 40]⟩, .inr ⟨_, rfl, rfl, rfl, rfl, Rens.enc zZw false [v.x1, pickM v.x1 ((mkM c).2.1)]⟩, trivial⟩⟩)))))
 have hv := hv.2 hc
 refine W.exit (zZt (zZt (zXy (zYq (zZ (W.tr [(2, .lst _ _ _), (3, .int _ _), (9, .ptr _ _), (12, .int _ _), (13, .lst _ _ _), (17, .ptr _ _), (65, .ref _ _ _), (66, .int _ _), (67, .int _ _), (74, .ref _ _ _), (75, .int _ _), (76, .int _ _)] [.dead, .dead, .box _ [.int _ _, .int _ _, .int _ _], .dead, .row _ _ _, .box _ [.lst _ _ _, .int _ _, .int _ _, .lst _ _ _, .lst _ _ _], .row _ _ _, .row _ _ _] ⟨rfl, rfl, rfl, rfl, rfl, rfl, rfl, rfl, rfl, rfl, rfl, rfl, trivial⟩ rfl (W.rL1 ?_)))))))
 obtain ⟨s9469, hv⟩ := hv
 refine cL rfl (o_add rfl rfl s9469 (mI rfl rfl (eL (zZ (⟨(), (v76 + 1), hv, St.to_mk (φ := [none, none, some 2, none, some 4, some 5, some 6]) rfl (rfl) ⟨Ren.lst _ _ _, Ren.int _ _, Ren.ptr rfl, Ren.int _ _, Ren.lst _ _ _, Ren.ptr rfl, Ren.ref rfl (fun h => h), Ren.int _ _, Ren.int _ _, Ren.ref rfl (fun h => h), Ren.int _ _, Ren.int _ _, trivial⟩ ⟨rfl, rfl, .inr ⟨_, rfl, rfl, Rens.cons (Ren.int _ _) (Rens.cons (Ren.int _ _) (Rens.cons (Ren.int _ _) (Rens.nil)))⟩, rfl, .inr ⟨_, rfl, rfl, rfl, rfl, Rens.enc enc27 true [(mkM c).1, (Flt.mk (raw.dr.take (min ((raw.dr.length : Nat) : Int) 7).toNat) raw.la raw.li raw.sv raw.tm)]⟩, .inr ⟨_, rfl, rfl, Rens.cons (Ren.lst _ _ _) (Rens.cons (Ren.int _ _) (Rens.cons (Ren.int _ _) (Rens.cons (Ren.lst _ _ _) (Rens.cons (Ren.lst _ _ _) (Rens.nil)))))⟩, .inr ⟨_, rfl, rfl, rfl, rfl, Rens.enc (encSl e66) true [(mkM c).2.2.1, l.take 40]⟩, trivial⟩⟩)))))
 have hv := hv.2 hc
 refine W.exit (zZt (zZt (zXy (zYq (zZ (W.tr [(2, .lst _ _ _), (3, .int _ _), (9, .ptr _ _), (12, .int _ _), (13, .lst _ _ _), (65, .ref _ _ _), (66, .int _ _), (67, .int _ _)] [.dead, .dead, .box _ [.int _ _, .int _ _, .int _ _], .dead, .row _ _ _, .box _ [.lst _ _ _, .int _ _, .int _ _, .lst _ _ _, .lst _ _ _], .row _ _ _] ⟨rfl, rfl, rfl, rfl, rfl, rfl, rfl, rfl, trivial⟩ rfl (W.rL1 ?_)))))))
 obtain ⟨s9470, hv⟩ := hv
 refine cL rfl (o_add rfl rfl s9470 (mI rfl rfl (eL (zZ (⟨(), (v67 + 1), hv, St.to_mk (φ := [none, none, some 2, none, some 4]) rfl (rfl) ⟨Ren.lst _ _ _, Ren.int _ _, Ren.ptr rfl, Ren.int _ _, Ren.lst _ _ _, Ren.ref rfl (fun h => h), Ren.int _ _, Ren.int _ _, trivial⟩ ⟨rfl, rfl, .inr ⟨_, rfl, rfl, Rens.cons (Ren.int _ _) (Rens.cons (Ren.int _ _) (Rens.cons (Ren.int _ _) (Rens.nil)))⟩, rfl, .inr ⟨_, rfl, rfl, rfl, rfl, Rens.enc enc27 true [(mkM c).1, (Flt.mk (raw.dr.take (min ((raw.dr.length : Nat) : Int) 7).toNat) raw.la raw.li raw.sv raw.tm)]⟩, trivial⟩⟩)))))
 have hv := hv.2 hc
 refine W.exit (zZt (zZt (zXy (zZ (W.tr [] [.dead, .dead, .box _ [.int _ _, .int _ _, .int _ _], .dead, .row _ _ _] trivial rfl (W.rL (aB rfl rfl (eL (W.ret (rt (rt_t (v := .bool _) rfl (rt_n (⟨_, zXx _ _ _, true, rfl, hv⟩)))))))))))))
theorem vcp_bMatchesReference (c : Cas) (raw : Flt) (l : (List Con)) (mask : Int) (v : A3) (h0 : CasOk c) (h1 : raw.dr.length <= 9223372036854775807 /\ raw.sv.length <= 9223372036854775807 /\ raw.tm.length <= 9223372036854775807) (h2 : ∀ d ∈ l, inI d.f /\ inI d.t /\ inI d.m /\ inI d.a) (h3 : inI mask) (h4 : inI v.x0 /\ inI v.x1 /\ inI v.x2) : vc_bMatchesReference c raw l mask v (fun q0 => q0 = (true)) := by
  unfold vc_bMatchesReference
  obtain ⟨ho, eho, hl24, hF, hn6, hB⟩ := mk_bel c
  generalize mkM c = p at *
  obtain ⟨F, N, L, TR, HO⟩ := p
  dsimp only at *
  obtain ⟨q1, q2, q3⟩ := hF.lens
  obtain ⟨b1, b2, b3⟩ := bvalid_ref.1 hB.bv
  have hn1 := (validM_iff.1 b2).1.1
  have hca : ∀ c ∈ L, inI c.a := fun c hc => by
    have h9 := (possM_iff.1 ((validM_iff.1 b2).2 c hc)).2.2.2.2.2.2
    have := b3 c hc
    have := pow_le64 hB.fo.len.2
    unfold inI; omega
  refine ⟨h0, by omega, fun v => ∃ i : Nat, v = i /\ i <= 2, fun v => 2 - v.toNat, ⟨0, rfl, by omega⟩, ?_⟩
  rintro _ ⟨i, rfl, hi⟩
  refine ⟨fun k1 => ⟨by simp; omega, ?_⟩, fun _ => rfl⟩
  have hy : ∀ y, lat [F, (Flt.mk (raw.dr.take (min ((raw.dr.length : Nat) : Int) 7).toNat) raw.la raw.li raw.sv raw.tm)] (i : Int) = y -> y.dr.length <= 9223372036854775807 /\ y.sv.length <= 9223372036854775807 /\ y.tm.length <= 9223372036854775807 := by
    match i, (show i < 2 by omega) with
    | 0, _ => rintro _ rfl; exact ⟨q1, q2, q3⟩
    | 1, _ => rintro _ rfl; exact ⟨by show (List.take _ _).length <= _; rw [List.length_take]; omega, h1.2⟩
  intro y ey
  obtain ⟨r1, r2, r3⟩ := hy y ey
  clear hy ey
  refine ⟨fun v => ∃ i : Nat, v = i /\ i <= 2, fun v => 2 - v.toNat, ⟨0, rfl, by omega⟩, ?_⟩
  rintro _ ⟨j, rfl, hj⟩
  refine ⟨fun k2 => ⟨by simp; omega, ?_⟩, fun _ => ⟨by unfold inI; omega, ⟨i + 1, by omega, by omega⟩, by dsimp only; omega⟩⟩
  have hz : ∀ z, lat [L, l.take 40] (j : Int) = z -> z.length <= 40 /\ ∀ c ∈ z, inI c.a := by
    match j, (show j < 2 by omega) with
    | 0, _ => rintro _ rfl; exact ⟨by show L.length <= 40; omega, hca⟩
    | 1, _ => rintro _ rfl; exact ⟨by show (l.take 40).length <= 40; rw [List.length_take]; omega, fun c hc => (h2 c (List.mem_of_mem_take hc)).2.2.2⟩
  intro z ez
  obtain ⟨z1, z2⟩ := hz z ez
  clear hz ez
  have z3 : z.length <= 1073741824 := by omega
  have cs := ch_small (f := y) (n := N) (l := z)
  have ps : (partM z mask).length <= 1073741824 := Nat.le_trans partM_len z3
  refine ⟨r1, r2, r3, z3, r1, r2, r3, z3, z2, r1, r2, r3, z3, r1, r2, r3, z3, z2, ⟨fun _ => trivial, fun _ => ⟨by omega, fun _ => trivial, fun _ => ⟨fun _ => trivial, fun _ => ⟨fun _ => trivial, fun _ => ⟨z3, z3, ⟨z2, h3⟩, ps, trivial⟩⟩⟩⟩⟩, fun h => ?_, fun _ => ⟨h4.2.1, hn1, fun v => ∃ i : Nat, v = i /\ i <= 2, fun v => 2 - v.toNat, ⟨0, rfl, by omega⟩, ?_⟩⟩
  . exfalso
    rcases h with h | h | h | h | h <;> exact h rfl
  rintro _ ⟨k, rfl, hk⟩
  refine ⟨fun k3 => ⟨by simp; omega, ?_⟩, fun _ => ⟨by unfold inI; omega, ⟨j + 1, by omega, by omega⟩, by dsimp only; omega⟩⟩
  intro b eb
  clear eb
  refine ⟨h4.1, hn1, r1, r2, r3, z3, ?_⟩
  rintro _ rfl
  refine ⟨r1, r2, r3, z3, z2, ?_⟩
  rintro _ rfl
  have bs := br_small (f := y) (n := N) (l := z) (a := pickM v.x0 N) (b := b)
  refine ⟨fun h => ?_, fun _ => ⟨by unfold inI; omega, fun v => ∃ i : Nat, v = i /\ i <= 4, fun v => 4 - v.toNat, ⟨0, rfl, by omega⟩, ?_⟩⟩
  . exfalso
    rcases h with h | h | h <;> exact h rfl
  rintro _ ⟨q, rfl, hq⟩
  refine ⟨fun k4 => ⟨by simp; omega, ?_⟩, fun _ => ⟨by unfold inI; omega, ⟨k + 1, by omega, by omega⟩, by dsimp only; omega⟩⟩
  intro e ee
  clear ee
  refine ⟨r1, r2, r3, z3, ?_⟩
  rintro _ rfl
  refine ⟨r1, r2, r3, z3, z2, ?_⟩
  rintro _ rfl
  refine ⟨⟨fun _ => trivial, fun _ => ⟨fun _ => trivial, fun _ => ⟨wi_small, trivial⟩⟩⟩, fun h => ?_, fun _ => ⟨by unfold inI; omega, ⟨q + 1, by omega, by omega⟩, by dsimp only; omega⟩⟩
  exfalso
  rcases h with h | h | h <;> exact h rfl
theorem spec_bMatchesReference (c : Cas) (raw : Flt) (l : (List Con)) (mask : Int) (v : A3) (h0 : CasOk c) (h1 : raw.dr.length <= 9223372036854775807 /\ raw.sv.length <= 9223372036854775807 /\ raw.tm.length <= 9223372036854775807) (h2 : ∀ d ∈ l, inI d.f /\ inI d.t /\ inI d.m /\ inI d.a) (h3 : inI mask) (h4 : inI v.x0 /\ inI v.x1 /\ inI v.x2) : FnP Try.prog 3 [.agg ((e25 true) c), .agg ((e27 true) raw), .lst true l.length (zYy e66 l), .int .i64 mask, .agg (e29 v)] (fun xR => xR = .bool (true)) :=
  (walk_bMatchesReference (vcp_bMatchesReference c raw l mask v h0 h1 h2 h3 h4)).mono (by rintro _ ⟨_, rfl, rfl⟩; rfl)
end Go.Lat
