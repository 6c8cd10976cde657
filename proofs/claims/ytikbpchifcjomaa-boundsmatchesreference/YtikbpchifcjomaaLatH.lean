/- The law latecomerlaw07.BoundsMatchesReference returns true for every input, and each argument reads afterwards as it read before. Part 8 of 13. No condition. -/
import Derived.Test.YtikbpchifcjomaaLatD
import Derived.Test.YtikbpchifcjomaaLatE
import Derived.Test.YtikbpchifcjomaaLatF
import Derived.Test.YtikbpchifcjomaaLatG
set_option linter.unusedVariables false
set_option linter.unusedSimpArgs false
set_option linter.unnecessarySimpa false
namespace Go.Lat
open Go.RowKit Go.Proofs
attribute [local irreducible] closeM rangeM pointM addBM cycleM holdsM validBM sameM madeM pickM plusM validM possM firstM tableM longerM boundsM ofM addM freeM
instance : DecidableEq Bd := fun a b => decidable_of_iff (a.n = b.n ∧ a.most = b.most) ⟨fun h => by cases a; cases b; simp_all, fun h => h ▸ ⟨rfl, rfl⟩⟩
theorem sane1 : closeM 3 [⟨0, 1, 5, 0⟩, ⟨1, 2, 3, 0⟩, ⟨2, 0, -6, 0⟩] = (⟨3, [[0, 5, 8], [-3, 0, 3], [-6, -1, 0]]⟩, [], 0) := by decide +kernel
theorem sane2 : closeM 3 [⟨0, 1, 5, 0⟩, ⟨1, 2, 3, 0⟩, ⟨2, 0, -6, 0⟩, ⟨1, 0, -6, 0⟩] = (⟨0, []⟩, [0, 3], 70) := by decide +kernel
theorem sane3 : closeM 3 [⟨0, 1, 5, 0⟩, ⟨1, 2, 3, 0⟩] = (⟨3, [[0, 5, 8], [1152921504606846976, 0, 3], [1152921504606846976, 1152921504606846976, 0]]⟩, [], 0) := by decide +kernel
theorem sane4 : closeM 0 [] = (⟨0, []⟩, [], 2) := by decide +kernel
theorem sane5 : rangeM ⟨3, [[0, 5, 8], [-3, 0, 3], [-6, -1, 0]]⟩ 0 1 = (3, 5, 0) := by decide +kernel
theorem sane6 : rangeM ⟨3, [[0, 5, 8], [-3, 0, 3], [-6, -1, 0]]⟩ 0 2 = (6, 8, 0) := by decide +kernel
theorem sane7 : rangeM ⟨3, [[0, 5, 8], [-3, 0, 3], [-6, -1, 0]]⟩ 1 2 = (1, 3, 0) := by decide +kernel
theorem sane8 : rangeM ⟨3, [[0, 5, 8], [1152921504606846976, 0, 3], [1152921504606846976, 1152921504606846976, 0]]⟩ 0 2 = (-1152921504606846976, 8, 0) := by decide +kernel
theorem sane9 : pointM ⟨3, [[0, 5, 8], [-3, 0, 3], [-6, -1, 0]]⟩ 0 2 7 = ([0, 5, 7], 0) := by decide +kernel
theorem sane10 : addBM ⟨3, [[0, 5, 8], [1152921504606846976, 0, 3], [1152921504606846976, 1152921504606846976, 0]]⟩ ⟨2, 0, -6, 0⟩ = (⟨3, [[0, 5, 8], [-3, 0, 3], [-6, -1, 0]]⟩, true, 0) := by decide +kernel
theorem sane11 : addBM ⟨3, [[0, 5, 8], [-3, 0, 3], [-6, -1, 0]]⟩ ⟨1, 0, -6, 0⟩ = (⟨0, []⟩, false, 0) := by decide +kernel
theorem sane12 : cycleM [⟨0, 1, 5, 0⟩, ⟨1, 2, 3, 0⟩, ⟨2, 0, -6, 0⟩, ⟨1, 0, -6, 0⟩] [0, 3] = true := by decide +kernel
theorem sane13 : cycleM [⟨0, 1, 5, 0⟩, ⟨1, 2, 3, 0⟩, ⟨2, 0, -6, 0⟩] [0, 1, 2] = false := by decide +kernel
theorem sane14 : holdsM [⟨0, 1, 5, 0⟩, ⟨1, 2, 3, 0⟩, ⟨2, 0, -6, 0⟩] [0, 5, 7] = true := by decide +kernel
theorem sane15 : holdsM [⟨0, 1, 5, 0⟩, ⟨1, 2, 3, 0⟩, ⟨2, 0, -6, 0⟩, ⟨1, 0, -6, 0⟩] [0, 5, 7] = false := by decide +kernel
theorem sane16 : validBM ⟨3, [[0, 5, 8], [-3, 0, 3], [-6, -1, 0]]⟩ = true := by decide +kernel
theorem sane17 : validBM ⟨0, []⟩ = false := by decide +kernel
theorem sane18 : sameM ⟨3, [[0, 5, 8], [-3, 0, 3], [-6, -1, 0]]⟩ ⟨3, [[0, 5, 8], [-3, 0, 3], [-6, -1, 0]]⟩ = true := by decide +kernel
theorem sane19 : sameM ⟨3, [[0, 5, 8], [-3, 0, 3], [-6, -1, 0]]⟩ ⟨3, [[0, 5, 8], [1152921504606846976, 0, 3], [1152921504606846976, 1152921504606846976, 0]]⟩ = false := by decide +kernel
theorem sane20 : lat [(⟨0, 1, 5, 0⟩ : Con), ⟨1, 2, 3, 0⟩, ⟨2, 0, -6, 0⟩] 2 = ⟨2, 0, -6, 0⟩ := rfl
theorem sane21 : lat [(⟨0, 1, 5, 0⟩ : Con), ⟨1, 2, 3, 0⟩, ⟨2, 0, -6, 0⟩, ⟨1, 0, -6, 0⟩] 3 = ⟨1, 0, -6, 0⟩ := rfl
def vc_sane  (Post : Bool → Prop) : Prop :=
  ([(Con.mk 0 1 5 0), (Con.mk 1 2 3 0), (Con.mk 2 0 (-6) 0)].length ≤ 1073741824) ∧ (∀ y, closeM (3 : Int) [(Con.mk 0 1 5 0), (Con.mk 1 2 3 0), (Con.mk 2 0 (-6) 0)] = y → (y.1.most.length ≤ 1073741824) ∧ (∀ r ∈ y.1.most, r.length ≤ 1073741824) ∧ (∀ y_1, rangeM y.1 (0 : Int) (1 : Int) = y_1 → (y.1.most.length ≤ 1073741824) ∧ (∀ r ∈ y.1.most, r.length ≤ 1073741824) ∧ (∀ y_2, rangeM y.1 (0 : Int) (2 : Int) = y_2 → (y.1.most.length ≤ 1073741824) ∧ (∀ r ∈ y.1.most, r.length ≤ 1073741824) ∧ (∀ y_3, rangeM y.1 (1 : Int) (2 : Int) = y_3 → (y.1.most.length ≤ 1073741824) ∧ (∀ r ∈ y.1.most, r.length ≤ 1073741824) ∧ (∀ y_4, pointM y.1 (0 : Int) (2 : Int) (7 : Int) = y_4 → (([(Con.mk 0 1 5 0), (Con.mk 1 2 3 0), (Con.mk 2 0 (-6) 0)]).length ≤ 1073741824) ∧ (([(Con.mk 0 1 5 0), (Con.mk 1 2 3 0), (Con.mk 2 0 (-6) 0)] ++ [(Con.mk 1 0 (-6) 0)]).length ≤ 1073741824) ∧ (([(Con.mk 0 1 5 0), (Con.mk 1 2 3 0), (Con.mk 2 0 (-6) 0)] ++ [(Con.mk 1 0 (-6) 0)]).length ≤ 1073741824) ∧ (∀ y_5, closeM (3 : Int) ([(Con.mk 0 1 5 0), (Con.mk 1 2 3 0), (Con.mk 2 0 (-6) 0)] ++ [(Con.mk 1 0 (-6) 0)]) = y_5 → (0 < 3 ∧ 0 ≤ ((0 : Nat) : Int) ∧ ((0 : Nat) : Int) ≤ (2 : Int) ∧ (2 : Int) ≤ (3 : Int)) ∧ (([(Con.mk 0 1 5 0), (Con.mk 1 2 3 0), (Con.mk 2 0 (-6) 0)].take ((2 : Int).toNat)).length ≤ 1073741824) ∧ ((2 : Int).toNat = ([(Con.mk 0 1 5 0), (Con.mk 1 2 3 0), (Con.mk 2 0 (-6) 0)].take ((2 : Int).toNat)).length) ∧ (∀ y_6, closeM (3 : Int) ([(Con.mk 0 1 5 0), (Con.mk 1 2 3 0), (Con.mk 2 0 (-6) 0)].take ((2 : Int).toNat)) = y_6 → (y_6.1.most.length ≤ 1073741824) ∧ (∀ r ∈ y_6.1.most, r.length ≤ 1073741824) ∧ (∀ y_7, rangeM y_6.1 (0 : Int) (2 : Int) = y_7 → (([] : (List Con)).length ≤ 1073741824) ∧ (∀ y_8, closeM (0 : Int) ([] : (List Con)) = y_8 → (0 ≤ (2 : Int) ∧ (2 : Int) < ((3 : Nat) : Int)) ∧ (y_6.1.most.length ≤ 1073741824) ∧ (∀ r ∈ y_6.1.most, r.length ≤ 1073741824) ∧ (∀ y_9, lat [(Con.mk 0 1 5 0), (Con.mk 1 2 3 0), (Con.mk 2 0 (-6) 0)] (2 : Int) = y_9 → (0 ≤ (3 : Int) ∧ (3 : Int) < ((([(Con.mk 0 1 5 0), (Con.mk 1 2 3 0), (Con.mk 2 0 (-6) 0)] ++ [(Con.mk 1 0 (-6) 0)]).length : Nat) : Int)) ∧ (y.1.most.length ≤ 1073741824) ∧ (∀ r ∈ y.1.most, r.length ≤ 1073741824) ∧ (∀ y_10, addBM y.1 (lat ([(Con.mk 0 1 5 0), (Con.mk 1 2 3 0), (Con.mk 2 0 (-6) 0)] ++ [(Con.mk 1 0 (-6) 0)]) (3 : Int)) = y_10 → (((¬ y.2.2 = (0 : Int)) ∨ ((¬ y_1.2.2 = (0 : Int)) ∨ ((¬ y_2.2.2 = (0 : Int)) ∨ ((¬ y_3.2.2 = (0 : Int)) ∨ ((¬ y_4.2 = (0 : Int)) ∨ ((¬ y_6.2.2 = (0 : Int)) ∨ ((¬ y_7.2.2 = (0 : Int)) ∨ ((¬ (addBM y_6.1 y_9).2.2 = (0 : Int)) ∨ ((¬ y_10.2.2 = (0 : Int)) ∨ ((¬ y_5.2.2 = (70 : Int)) ∨ (¬ y_8.2.2 = (2 : Int)))))))))))) → Post false) ∧ (¬ ((¬ y.2.2 = (0 : Int)) ∨ ((¬ y_1.2.2 = (0 : Int)) ∨ ((¬ y_2.2.2 = (0 : Int)) ∨ ((¬ y_3.2.2 = (0 : Int)) ∨ ((¬ y_4.2 = (0 : Int)) ∨ ((¬ y_6.2.2 = (0 : Int)) ∨ ((¬ y_7.2.2 = (0 : Int)) ∨ ((¬ (addBM y_6.1 y_9).2.2 = (0 : Int)) ∨ ((¬ y_10.2.2 = (0 : Int)) ∨ ((¬ y_5.2.2 = (70 : Int)) ∨ (¬ y_8.2.2 = (2 : Int)))))))))))) → ((y_5.2.1.length ≤ 1073741824) ∧ ((y_5.2.1 = [(0 : Int), (3 : Int)]) → (((y_5.1).n = (0 : Int)) → ((((y.2.1.length : Nat) : Int) = (0 : Int)) → (([(Con.mk 0 1 5 0), (Con.mk 1 2 3 0), (Con.mk 2 0 (-6) 0)] ++ [(Con.mk 1 0 (-6) 0)]).length ≤ 1073741824) ∧ (y_5.2.1.length ≤ 1073741824) ∧ (((cycleM ([(Con.mk 0 1 5 0), (Con.mk 1 2 3 0), (Con.mk 2 0 (-6) 0)] ++ [(Con.mk 1 0 (-6) 0)]) y_5.2.1) = true) → ([(Con.mk 0 1 5 0), (Con.mk 1 2 3 0), (Con.mk 2 0 (-6) 0)].length ≤ 1073741824) ∧ ([(0 : Int), (1 : Int), (2 : Int)].length ≤ 1073741824) ∧ True) ∧ (¬ ((cycleM ([(Con.mk 0 1 5 0), (Con.mk 1 2 3 0), (Con.mk 2 0 (-6) 0)] ++ [(Con.mk 1 0 (-6) 0)]) y_5.2.1) = true) → True)) ∧ (¬ (((y.2.1.length : Nat) : Int) = (0 : Int)) → True)) ∧ (¬ ((y_5.1).n = (0 : Int)) → True)) ∧ (¬ (y_5.2.1 = [(0 : Int), (3 : Int)]) → True)) ∧ (((((y_1.1 = (3 : Int)) ∧ ((y_1.2.1 = (5 : Int)) ∧ ((y_2.1 = (6 : Int)) ∧ ((y_2.2.1 = (8 : Int)) ∧ ((y_3.1 = (1 : Int)) ∧ ((y_3.2.1 = (3 : Int)) ∧ ((y_7.1 = (-1152921504606846976 : Int)) ∧ (y_7.2.1 = (8 : Int))))))))) → (((y_5.2.1 = [(0 : Int), (3 : Int)]) ∧ (((y_5.1).n = (0 : Int)) ∧ ((((y.2.1.length : Nat) : Int) = (0 : Int)) ∧ (((cycleM ([(Con.mk 0 1 5 0), (Con.mk 1 2 3 0), (Con.mk 2 0 (-6) 0)] ++ [(Con.mk 1 0 (-6) 0)]) y_5.2.1) = true) ∧ ((¬ ((cycleM [(Con.mk 0 1 5 0), (Con.mk 1 2 3 0), (Con.mk 2 0 (-6) 0)] [(0 : Int), (1 : Int), (2 : Int)]) = true)) ∧ ((((addBM y_6.1 y_9).2.1) = true) ∧ (¬ ((y_10.2.1) = true)))))))) → (y_4.1.length ≤ 1073741824) ∧ ((y_4.1 = [(0 : Int), (5 : Int), (7 : Int)]) → ([(Con.mk 0 1 5 0), (Con.mk 1 2 3 0), (Con.mk 2 0 (-6) 0)].length ≤ 1073741824) ∧ (y_4.1.length ≤ 1073741824) ∧ (((holdsM [(Con.mk 0 1 5 0), (Con.mk 1 2 3 0), (Con.mk 2 0 (-6) 0)] y_4.1) = true) → (([(Con.mk 0 1 5 0), (Con.mk 1 2 3 0), (Con.mk 2 0 (-6) 0)] ++ [(Con.mk 1 0 (-6) 0)]).length ≤ 1073741824) ∧ (y_4.1.length ≤ 1073741824) ∧ ((¬ ((holdsM ([(Con.mk 0 1 5 0), (Con.mk 1 2 3 0), (Con.mk 2 0 (-6) 0)] ++ [(Con.mk 1 0 (-6) 0)]) y_4.1) = true)) → (y.1.most.length ≤ 1073741824) ∧ (∀ r ∈ y.1.most, r.length ≤ 1073741824) ∧ (((validBM y.1) = true) → (y_5.1.most.length ≤ 1073741824) ∧ (∀ r ∈ y_5.1.most, r.length ≤ 1073741824) ∧ ((¬ ((validBM y_5.1) = true)) → (y.1.most.length ≤ 1073741824) ∧ (∀ r ∈ y.1.most, r.length ≤ 1073741824) ∧ (((sameM y.1 y.1) = true) → (y.1.most.length ≤ 1073741824) ∧ (∀ r ∈ y.1.most, r.length ≤ 1073741824) ∧ True) ∧ (¬ ((sameM y.1 y.1) = true) → True)) ∧ (¬ (¬ ((validBM y_5.1) = true)) → True)) ∧ (¬ ((validBM y.1) = true) → True)) ∧ (¬ (¬ ((holdsM ([(Con.mk 0 1 5 0), (Con.mk 1 2 3 0), (Con.mk 2 0 (-6) 0)] ++ [(Con.mk 1 0 (-6) 0)]) y_4.1) = true)) → True)) ∧ (¬ ((holdsM [(Con.mk 0 1 5 0), (Con.mk 1 2 3 0), (Con.mk 2 0 (-6) 0)] y_4.1) = true) → True)) ∧ (¬ (y_4.1 = [(0 : Int), (5 : Int), (7 : Int)]) → True)) ∧ (¬ ((y_5.2.1 = [(0 : Int), (3 : Int)]) ∧ (((y_5.1).n = (0 : Int)) ∧ ((((y.2.1.length : Nat) : Int) = (0 : Int)) ∧ (((cycleM ([(Con.mk 0 1 5 0), (Con.mk 1 2 3 0), (Con.mk 2 0 (-6) 0)] ++ [(Con.mk 1 0 (-6) 0)]) y_5.2.1) = true) ∧ ((¬ ((cycleM [(Con.mk 0 1 5 0), (Con.mk 1 2 3 0), (Con.mk 2 0 (-6) 0)] [(0 : Int), (1 : Int), (2 : Int)]) = true)) ∧ ((((addBM y_6.1 y_9).2.1) = true) ∧ (¬ ((y_10.2.1) = true)))))))) → True)) ∧ (¬ ((y_1.1 = (3 : Int)) ∧ ((y_1.2.1 = (5 : Int)) ∧ ((y_2.1 = (6 : Int)) ∧ ((y_2.2.1 = (8 : Int)) ∧ ((y_3.1 = (1 : Int)) ∧ ((y_3.2.1 = (3 : Int)) ∧ ((y_7.1 = (-1152921504606846976 : Int)) ∧ (y_7.2.1 = (8 : Int))))))))) → True)) ∧ (Post (decide (((y_1.1 = (3 : Int)) ∧ ((y_1.2.1 = (5 : Int)) ∧ ((y_2.1 = (6 : Int)) ∧ ((y_2.2.1 = (8 : Int)) ∧ ((y_3.1 = (1 : Int)) ∧ ((y_3.2.1 = (3 : Int)) ∧ ((y_7.1 = (-1152921504606846976 : Int)) ∧ (y_7.2.1 = (8 : Int))))))))) ∧ (((y_5.2.1 = [(0 : Int), (3 : Int)]) ∧ (((y_5.1).n = (0 : Int)) ∧ ((((y.2.1.length : Nat) : Int) = (0 : Int)) ∧ (((cycleM ([(Con.mk 0 1 5 0), (Con.mk 1 2 3 0), (Con.mk 2 0 (-6) 0)] ++ [(Con.mk 1 0 (-6) 0)]) y_5.2.1) = true) ∧ ((¬ ((cycleM [(Con.mk 0 1 5 0), (Con.mk 1 2 3 0), (Con.mk 2 0 (-6) 0)] [(0 : Int), (1 : Int), (2 : Int)]) = true)) ∧ ((((addBM y_6.1 y_9).2.1) = true) ∧ (¬ ((y_10.2.1) = true)))))))) ∧ ((y_4.1 = [(0 : Int), (5 : Int), (7 : Int)]) ∧ (((holdsM [(Con.mk 0 1 5 0), (Con.mk 1 2 3 0), (Con.mk 2 0 (-6) 0)] y_4.1) = true) ∧ ((¬ ((holdsM ([(Con.mk 0 1 5 0), (Con.mk 1 2 3 0), (Con.mk 2 0 (-6) 0)] ++ [(Con.mk 1 0 (-6) 0)]) y_4.1) = true)) ∧ (((validBM y.1) = true) ∧ ((¬ ((validBM y_5.1) = true)) ∧ (((sameM y.1 y.1) = true) ∧ (¬ ((sameM y.1 y_6.1) = true)))))))))))))))))))))))))
set_option maxRecDepth 100000 in
set_option maxHeartbeats 4000000 in
theorem walk_sane  {Post : Bool → Prop} (hv : vc_sane Post) : FnP Try.prog 11 [] (fun x => ∃ q0, x = .bool q0 ∧ Post q0) := by
 refine FnP.of_walk (T := tt) (nt := 261) ttOk ttMix ⟨⟨Try.f11, Try.func11, rfl, rfl, rfl, rfl⟩⟩ (by simp) ?_
 unfold vc_sane at hv
 change W _ _ _ ⟨261, look [], [], false⟩ _
 refine W.tr [] [] trivial rfl ?_
 refine W.rL ?_
 refine aB rfl rfl ?_
 refine eL ?_
 refine W.tr [] [] trivial rfl ?_
 refine W.rL ?_
 iterate 3 refine cL rfl (o_build (qs := [(0, .int _ _), (1, .int _ _), (2, .int _ _)]) (cs := [.int _ _, .int _ _, .int _ _, .int _ _]) tt25 rfl rfl rfl ?_)
 refine cL rfl (o_buildS (q := 0) (qs := [(0, .agg _), (1, .agg _), (2, .agg _)]) (cs := [.int _ _, .int _ _, .int _ _, .int _ _, .int _ _, .int _ _, .int _ _, .int _ _, .int _ _, .int _ _, .int _ _, .int _ _]) tt22 tt25 rfl rfl rfl rfl ?_)
 refine cL rfl (o_assign (v := .ref _ _ _) rfl ?_)
 refine eL ?_
 refine W.tr [(1, .ref _ _ _)] [.row _ _ _] ⟨rfl, trivial⟩ rfl ?_
 refine W.rL ?_
 refine cL rfl (o_move (v := .ref _ _ _) rfl ?_)
 obtain ⟨s1, hv⟩ := hv
 refine cL rfl (o_callP1 (k := 15) (fst := []) (caps := []) (ys := [.int _ _, .ref _ _ _]) rfl rfl (spec_close (3 : Int) [(Con.mk 0 1 5 0), (Con.mk 1 2 3 0), (Con.mk 2 0 (-6) 0)] s1) (Wks.cons (ag_int _ _ _ _) (Wks.cons (ag_ref (fl := false) (xs := [(Con.mk 0 1 5 0), (Con.mk 1 2 3 0), (Con.mk 2 0 (-6) 0)]) enc25 4 _ rfl rfl) (Wks.refl _))) ?_)
 refine cL rfl (o_move (v := .tup _) rfl ?_)
 refine cL rfl (o_ext (v := .agg _) rfl rfl ?_)
 refine cL rfl (o_ext (v := .lst _ _ _) rfl rfl ?_)
 refine cL rfl (o_ext (v := .int _ _) rfl rfl ?_)
 refine cL rfl (o_alloc (p := 1) tt34 rfl rfl ?_)
 refine cLn (o_stB (v := .agg _) (vs := [.int _ _, .lst _ _ _]) (cs2 := [.int _ _, .lst _ _ _]) tt34 rfl rfl rfl rfl rfl (Nat.le_of_ble_eq_true rfl) rfl ?_)
 refine aL rfl rfl ?_
 refine aI rfl rfl ?_
 refine eL ?_
 refine W.tr [(1, .ref _ _ _), (2, .ptr _ _), (3, .lst _ _ _), (4, .int _ _)] [.row _ _ _, .box _ [.int _ _, .lst _ _ _]] ⟨rfl, rfl, rfl, rfl, trivial⟩ rfl ?_
 generalize hy : closeM (3 : Int) [(Con.mk 0 1 5 0), (Con.mk 1 2 3 0), (Con.mk 2 0 (-6) 0)] = y
 replace hv := hv y hy
 clear hy
 refine W.rL ?_
 refine cL rfl (o_ldA (cs := [.int _ _, .lst _ _ _]) tt34 rfl rfl ⟨_, rfl⟩ rfl ?_)
 obtain ⟨s2, s3, hv⟩ := hv
 refine cL rfl (o_callP1 (k := 21) (fst := []) (caps := []) (ys := [.agg _, .int _ _, .int _ _]) rfl rfl (spec_range y.1 (0 : Int) (1 : Int) s2 s3) (Wks.cons (ag_agg 5 _ (Wks.cons (ag_int _ _ _ _) (Wks.cons (ag_lst _ _ _ _ _) (Wks.refl _)))) (Wks.cons (ag_int _ _ _ _) (Wks.cons (ag_int _ _ _ _) (Wks.refl _)))) ?_)
 refine cL rfl (o_move (v := .tup _) rfl ?_)
 iterate 3 refine cL rfl (o_ext (v := .int _ _) rfl rfl ?_)
 iterate 3 refine aI rfl rfl ?_
 refine eL ?_
 refine W.tr [(1, .ref _ _ _), (2, .ptr _ _), (3, .lst _ _ _), (4, .int _ _), (5, .int _ _), (6, .int _ _), (7, .int _ _)] [.row _ _ _, .box _ [.int _ _, .lst _ _ _]] ⟨rfl, rfl, rfl, rfl, rfl, rfl, rfl, trivial⟩ rfl ?_
 generalize hy : rangeM y.1 (0 : Int) (1 : Int) = y_1
 replace hv := hv y_1 hy
 clear hy
 refine W.rL ?_
 refine cL rfl (o_ldA (cs := [.int _ _, .lst _ _ _]) tt34 rfl rfl ⟨_, rfl⟩ rfl ?_)
 obtain ⟨s4, s5, hv⟩ := hv
 refine cL rfl (o_callP1 (k := 21) (fst := []) (caps := []) (ys := [.agg _, .int _ _, .int _ _]) rfl rfl (spec_range y.1 (0 : Int) (2 : Int) s4 s5) (Wks.cons (ag_agg 5 _ (Wks.cons (ag_int _ _ _ _) (Wks.cons (ag_lst _ _ _ _ _) (Wks.refl _)))) (Wks.cons (ag_int _ _ _ _) (Wks.cons (ag_int _ _ _ _) (Wks.refl _)))) ?_)
 refine cL rfl (o_move (v := .tup _) rfl ?_)
 iterate 3 refine cL rfl (o_ext (v := .int _ _) rfl rfl ?_)
 iterate 3 refine aI rfl rfl ?_
 refine eL ?_
 refine W.tr [(1, .ref _ _ _), (2, .ptr _ _), (3, .lst _ _ _), (4, .int _ _), (5, .int _ _), (6, .int _ _), (7, .int _ _), (8, .int _ _), (9, .int _ _), (10, .int _ _)] [.row _ _ _, .box _ [.int _ _, .lst _ _ _]] ⟨rfl, rfl, rfl, rfl, rfl, rfl, rfl, rfl, rfl, rfl, trivial⟩ rfl ?_
 generalize hy : rangeM y.1 (0 : Int) (2 : Int) = y_2
 replace hv := hv y_2 hy
 clear hy
 refine W.rL ?_
 refine cL rfl (o_ldA (cs := [.int _ _, .lst _ _ _]) tt34 rfl rfl ⟨_, rfl⟩ rfl ?_)
 obtain ⟨s6, s7, hv⟩ := hv
 refine cL rfl (o_callP1 (k := 21) (fst := []) (caps := []) (ys := [.agg _, .int _ _, .int _ _]) rfl rfl (spec_range y.1 (1 : Int) (2 : Int) s6 s7) (Wks.cons (ag_agg 5 _ (Wks.cons (ag_int _ _ _ _) (Wks.cons (ag_lst _ _ _ _ _) (Wks.refl _)))) (Wks.cons (ag_int _ _ _ _) (Wks.cons (ag_int _ _ _ _) (Wks.refl _)))) ?_)
 refine cL rfl (o_move (v := .tup _) rfl ?_)
 iterate 3 refine cL rfl (o_ext (v := .int _ _) rfl rfl ?_)
 iterate 3 refine aI rfl rfl ?_
 refine eL ?_
 refine W.tr [(1, .ref _ _ _), (2, .ptr _ _), (3, .lst _ _ _), (4, .int _ _), (5, .int _ _), (6, .int _ _), (7, .int _ _), (8, .int _ _), (9, .int _ _), (10, .int _ _), (11, .int _ _), (12, .int _ _), (13, .int _ _)] [.row _ _ _, .box _ [.int _ _, .lst _ _ _]] ⟨rfl, rfl, rfl, rfl, rfl, rfl, rfl, rfl, rfl, rfl, rfl, rfl, rfl, trivial⟩ rfl ?_
 generalize hy : rangeM y.1 (1 : Int) (2 : Int) = y_3
 replace hv := hv y_3 hy
 clear hy
 refine W.rL ?_
 refine cL rfl (o_ldA (cs := [.int _ _, .lst _ _ _]) tt34 rfl rfl ⟨_, rfl⟩ rfl ?_)
 obtain ⟨s8, s9, hv⟩ := hv
 refine cL rfl (o_callP1 (k := 23) (fst := []) (caps := []) (ys := [.agg _, .int _ _, .int _ _, .int _ _]) rfl rfl (spec_point y.1 (0 : Int) (2 : Int) (7 : Int) s8 s9) (Wks.cons (ag_agg 5 _ (Wks.cons (ag_int _ _ _ _) (Wks.cons (ag_lst _ _ _ _ _) (Wks.refl _)))) (Wks.cons (ag_int _ _ _ _) (Wks.cons (ag_int _ _ _ _) (Wks.cons (ag_int _ _ _ _) (Wks.refl _))))) ?_)
 refine cL rfl (o_move (v := .tup _) rfl ?_)
 refine cL rfl (o_ext (v := .lst _ _ _) rfl rfl ?_)
 refine cL rfl (o_ext (v := .int _ _) rfl rfl ?_)
 refine aL rfl rfl ?_
 refine aI rfl rfl ?_
 refine eL ?_
 refine W.tr [(1, .ref _ _ _), (2, .ptr _ _), (3, .lst _ _ _), (4, .int _ _), (5, .int _ _), (6, .int _ _), (7, .int _ _), (8, .int _ _), (9, .int _ _), (10, .int _ _), (11, .int _ _), (12, .int _ _), (13, .int _ _), (14, .lst _ _ _), (15, .int _ _)] [.row _ _ _, .box _ [.int _ _, .lst _ _ _]] ⟨rfl, rfl, rfl, rfl, rfl, rfl, rfl, rfl, rfl, rfl, rfl, rfl, rfl, rfl, rfl, trivial⟩ rfl ?_
 generalize hy : pointM y.1 (0 : Int) (2 : Int) (7 : Int) = y_4
 replace hv := hv y_4 hy
 clear hy
 refine W.rL ?_
 refine cL rfl (o_buildS (q := 2) (qs := []) (cs := []) tt22 tt25 rfl rfl rfl rfl ?_)
 refine cL rfl (o_move (v := .ref _ _ _) rfl ?_)
 obtain ⟨s10, hv⟩ := hv
 refine cL rfl (o_apR (p := 3) (q := ([(Con.mk 0 1 5 0), (Con.mk 1 2 3 0), (Con.mk 2 0 (-6) 0)]).length) tt22 tt25 rfl rfl (src_ref rfl rfl) rfl rfl rfl (by simpa using s10) rfl (Nat.zero_add _) (List.nil_append _) ?_)
 refine cL rfl (o_build (qs := [(0, .int _ _), (1, .int _ _), (2, .int _ _)]) (cs := [.int _ _, .int _ _, .int _ _, .int _ _]) tt25 rfl rfl rfl ?_)
 refine cL rfl (o_bs1 (v := .agg _) (q := 4) tt22 tt25 rfl rfl rfl rfl rfl rfl rfl rfl ?_)
 obtain ⟨s11, hv⟩ := hv
 refine cL rfl (o_apR (p := 5) (q := ([(Con.mk 0 1 5 0), (Con.mk 1 2 3 0), (Con.mk 2 0 (-6) 0)] ++ [(Con.mk 1 0 (-6) 0)]).length) tt22 tt25 rfl rfl (src_ref rfl rfl) rfl rfl rfl (Nat.le_trans (Nat.le_of_eq (@List.length_append _ ([(Con.mk 0 1 5 0), (Con.mk 1 2 3 0), (Con.mk 2 0 (-6) 0)]) ([(Con.mk 1 0 (-6) 0)])).symm) s11) rfl (@List.length_append _ ([(Con.mk 0 1 5 0), (Con.mk 1 2 3 0), (Con.mk 2 0 (-6) 0)]) ([(Con.mk 1 0 (-6) 0)])).symm (encL_app e25 [(Con.mk 0 1 5 0), (Con.mk 1 2 3 0), (Con.mk 2 0 (-6) 0)] [(Con.mk 1 0 (-6) 0)]) ?_)
 refine cL rfl (o_assign (v := .ref _ _ _) rfl ?_)
 refine eL ?_
 refine W.tr [(1, .ref _ _ _), (2, .ptr _ _), (3, .lst _ _ _), (4, .int _ _), (5, .int _ _), (6, .int _ _), (7, .int _ _), (8, .int _ _), (9, .int _ _), (10, .int _ _), (11, .int _ _), (12, .int _ _), (13, .int _ _), (14, .lst _ _ _), (15, .int _ _), (16, .ref _ _ _)] [.row _ _ _, .box _ [.int _ _, .lst _ _ _], .dead, .dead, .row _ _ _, .row _ _ _] ⟨rfl, rfl, rfl, rfl, rfl, rfl, rfl, rfl, rfl, rfl, rfl, rfl, rfl, rfl, rfl, rfl, trivial⟩ rfl ?_
 refine W.rL ?_
 refine cL rfl (o_move (v := .ref _ _ _) rfl ?_)
 obtain ⟨s12, hv⟩ := hv
 refine cL rfl (o_callP1 (k := 15) (fst := []) (caps := []) (ys := [.int _ _, .ref _ _ _]) rfl rfl (spec_close (3 : Int) ([(Con.mk 0 1 5 0), (Con.mk 1 2 3 0), (Con.mk 2 0 (-6) 0)] ++ [(Con.mk 1 0 (-6) 0)]) s12) (Wks.cons (ag_int _ _ _ _) (Wks.cons (ag_ref (fl := false) (xs := [(Con.mk 0 1 5 0), (Con.mk 1 2 3 0), (Con.mk 2 0 (-6) 0)] ++ [(Con.mk 1 0 (-6) 0)]) enc25 4 _ rfl rfl) (Wks.refl _))) ?_)
 refine cL rfl (o_move (v := .tup _) rfl ?_)
 refine cL rfl (o_ext (v := .agg _) rfl rfl ?_)
 refine cL rfl (o_ext (v := .lst _ _ _) rfl rfl ?_)
 refine cL rfl (o_ext (v := .int _ _) rfl rfl ?_)
 refine cL rfl (o_alloc (p := 6) tt34 rfl rfl ?_)
 refine cLn (o_stB (v := .agg _) (vs := [.int _ _, .lst _ _ _]) (cs2 := [.int _ _, .lst _ _ _]) tt34 rfl rfl rfl rfl rfl (Nat.le_of_ble_eq_true rfl) rfl ?_)
 refine aL rfl rfl ?_
 refine aI rfl rfl ?_
 refine eL ?_
 refine W.tr [(1, .ref _ _ _), (2, .ptr _ _), (3, .lst _ _ _), (4, .int _ _), (5, .int _ _), (6, .int _ _), (7, .int _ _), (8, .int _ _), (9, .int _ _), (10, .int _ _), (11, .int _ _), (12, .int _ _), (13, .int _ _), (14, .lst _ _ _), (15, .int _ _), (16, .ref _ _ _), (17, .ptr _ _), (18, .lst _ _ _), (19, .int _ _)] [.row _ _ _, .box _ [.int _ _, .lst _ _ _], .dead, .dead, .row _ _ _, .row _ _ _, .box _ [.int _ _, .lst _ _ _]] ⟨rfl, rfl, rfl, rfl, rfl, rfl, rfl, rfl, rfl, rfl, rfl, rfl, rfl, rfl, rfl, rfl, rfl, rfl, rfl, trivial⟩ rfl ?_
 generalize hy : closeM (3 : Int) ([(Con.mk 0 1 5 0), (Con.mk 1 2 3 0), (Con.mk 2 0 (-6) 0)] ++ [(Con.mk 1 0 (-6) 0)]) = y_5
 replace hv := hv y_5 hy
 clear hy
 refine W.rL ?_
 refine cL rfl (o_move (v := .ref _ _ _) rfl ?_)
 obtain ⟨s13, hv⟩ := hv
 refine cL rfl (o_slR tt22 tt25 rfl rfl rfl s13 (off := 0) (c := (2 : Int).toNat) (by simp) (by simp) ?_)
 obtain ⟨s14, s15, hv⟩ := hv
 refine cL rfl (o_callP1 (k := 15) (fst := []) (caps := []) (ys := [.int _ _, .sub _ _ _]) rfl rfl (spec_close (3 : Int) ([(Con.mk 0 1 5 0), (Con.mk 1 2 3 0), (Con.mk 2 0 (-6) 0)].take ((2 : Int).toNat)) s14) (Wks.cons (ag_int _ _ _ _) (Wks.cons (ag_subR (fl := false) (xs := [(Con.mk 0 1 5 0), (Con.mk 1 2 3 0), (Con.mk 2 0 (-6) 0)]) enc25 4 (k := 0) (ys := [(Con.mk 0 1 5 0), (Con.mk 1 2 3 0), (Con.mk 2 0 (-6) 0)].take ((2 : Int).toNat)) rfl (by simp) (by simp) s15) (Wks.refl _))) ?_)
 refine cL rfl (o_move (v := .tup _) rfl ?_)
 refine cL rfl (o_ext (v := .agg _) rfl rfl ?_)
 refine cL rfl (o_ext (v := .lst _ _ _) rfl rfl ?_)
 refine cL rfl (o_ext (v := .int _ _) rfl rfl ?_)
 refine cL rfl (o_alloc (p := 7) tt34 rfl rfl ?_)
 refine cLn (o_stB (v := .agg _) (vs := [.int _ _, .lst _ _ _]) (cs2 := [.int _ _, .lst _ _ _]) tt34 rfl rfl rfl rfl rfl (Nat.le_of_ble_eq_true rfl) rfl ?_)
 refine aL rfl rfl ?_
 refine aI rfl rfl ?_
 refine eL ?_
 refine W.tr [(1, .ref _ _ _), (2, .ptr _ _), (3, .lst _ _ _), (4, .int _ _), (5, .int _ _), (6, .int _ _), (7, .int _ _), (8, .int _ _), (9, .int _ _), (10, .int _ _), (11, .int _ _), (12, .int _ _), (13, .int _ _), (14, .lst _ _ _), (15, .int _ _), (16, .ref _ _ _), (17, .ptr _ _), (18, .lst _ _ _), (19, .int _ _), (20, .ptr _ _), (22, .int _ _)] [.row _ _ _, .box _ [.int _ _, .lst _ _ _], .dead, .dead, .row _ _ _, .row _ _ _, .box _ [.int _ _, .lst _ _ _], .box _ [.int _ _, .lst _ _ _]] ⟨rfl, rfl, rfl, rfl, rfl, rfl, rfl, rfl, rfl, rfl, rfl, rfl, rfl, rfl, rfl, rfl, rfl, rfl, rfl, rfl, rfl, trivial⟩ rfl ?_
 generalize hy : closeM (3 : Int) ([(Con.mk 0 1 5 0), (Con.mk 1 2 3 0), (Con.mk 2 0 (-6) 0)].take ((2 : Int).toNat)) = y_6
 replace hv := hv y_6 hy
 clear hy
 refine W.rL ?_
 refine cL rfl (o_ldA (cs := [.int _ _, .lst _ _ _]) tt34 rfl rfl ⟨_, rfl⟩ rfl ?_)
 obtain ⟨s16, s17, hv⟩ := hv
 refine cL rfl (o_callP1 (k := 21) (fst := []) (caps := []) (ys := [.agg _, .int _ _, .int _ _]) rfl rfl (spec_range y_6.1 (0 : Int) (2 : Int) s16 s17) (Wks.cons (ag_agg 5 _ (Wks.cons (ag_int _ _ _ _) (Wks.cons (ag_lst _ _ _ _ _) (Wks.refl _)))) (Wks.cons (ag_int _ _ _ _) (Wks.cons (ag_int _ _ _ _) (Wks.refl _)))) ?_)
 refine cL rfl (o_move (v := .tup _) rfl ?_)
 iterate 3 refine cL rfl (o_ext (v := .int _ _) rfl rfl ?_)
 iterate 3 refine aI rfl rfl ?_
 refine eL ?_
 refine W.tr [(1, .ref _ _ _), (2, .ptr _ _), (3, .lst _ _ _), (4, .int _ _), (5, .int _ _), (6, .int _ _), (7, .int _ _), (8, .int _ _), (9, .int _ _), (10, .int _ _), (11, .int _ _), (12, .int _ _), (13, .int _ _), (14, .lst _ _ _), (15, .int _ _), (16, .ref _ _ _), (17, .ptr _ _), (18, .lst _ _ _), (19, .int _ _), (20, .ptr _ _), (22, .int _ _), (23, .int _ _), (24, .int _ _), (25, .int _ _)] [.row _ _ _, .box _ [.int _ _, .lst _ _ _], .dead, .dead, .row _ _ _, .row _ _ _, .box _ [.int _ _, .lst _ _ _], .box _ [.int _ _, .lst _ _ _]] ⟨rfl, rfl, rfl, rfl, rfl, rfl, rfl, rfl, rfl, rfl, rfl, rfl, rfl, rfl, rfl, rfl, rfl, rfl, rfl, rfl, rfl, rfl, rfl, rfl, trivial⟩ rfl ?_
 generalize hy : rangeM y_6.1 (0 : Int) (2 : Int) = y_7
 replace hv := hv y_7 hy
 clear hy
 refine W.rL ?_
 obtain ⟨s18, hv⟩ := hv
 refine cL rfl (o_callP1 (k := 15) (fst := []) (caps := []) (ys := [.int _ _, .nilS]) rfl rfl (spec_close (0 : Int) ([] : (List Con)) s18) (Wks.cons (ag_int _ _ _ _) (Wks.cons (ag_nil _ _ _ _ rfl) (Wks.refl _))) ?_)
 refine cL rfl (o_move (v := .tup _) rfl ?_)
 refine cL rfl (o_ext (v := .agg _) rfl rfl ?_)
 refine cL rfl (o_ext (v := .lst _ _ _) rfl rfl ?_)
 refine cL rfl (o_ext (v := .int _ _) rfl rfl ?_)
 refine cL rfl (o_alloc (p := 8) tt34 rfl rfl ?_)
 refine cLn (o_stB (v := .agg _) (vs := [.int _ _, .lst _ _ _]) (cs2 := [.int _ _, .lst _ _ _]) tt34 rfl rfl rfl rfl rfl (Nat.le_of_ble_eq_true rfl) rfl ?_)
 refine aL rfl rfl ?_
 refine aI rfl rfl ?_
 refine eL ?_
 refine W.tr [(1, .ref _ _ _), (2, .ptr _ _), (3, .lst _ _ _), (4, .int _ _), (5, .int _ _), (6, .int _ _), (7, .int _ _), (8, .int _ _), (9, .int _ _), (10, .int _ _), (11, .int _ _), (12, .int _ _), (13, .int _ _), (14, .lst _ _ _), (15, .int _ _), (16, .ref _ _ _), (17, .ptr _ _), (18, .lst _ _ _), (19, .int _ _), (20, .ptr _ _), (22, .int _ _), (23, .int _ _), (24, .int _ _), (25, .int _ _), (28, .int _ _)] [.row _ _ _, .box _ [.int _ _, .lst _ _ _], .dead, .dead, .row _ _ _, .row _ _ _, .box _ [.int _ _, .lst _ _ _], .box _ [.int _ _, .lst _ _ _], .box _ [.int _ _, .lst _ _ _]] ⟨rfl, rfl, rfl, rfl, rfl, rfl, rfl, rfl, rfl, rfl, rfl, rfl, rfl, rfl, rfl, rfl, rfl, rfl, rfl, rfl, rfl, rfl, rfl, rfl, rfl, trivial⟩ rfl ?_
 generalize hy : closeM (0 : Int) ([] : (List Con)) = y_8
 replace hv := hv y_8 hy
 clear hy
 refine W.rP [0, 1, 2, 3, 9, 4, 5, 6, 7, 8, 10, 11, 12] (by decide +kernel) rfl ?_
 refine cL rfl (o_ldA (cs := [.int _ _, .lst _ _ _]) tt34 rfl rfl ⟨_, rfl⟩ rfl ?_)
 refine cL rfl (o_move (v := .ref _ _ _) rfl ?_)
 obtain ⟨s19, hv⟩ := hv
 refine cL rfl (o_iaR tt22 tt25 rfl rfl s19 ?_)
 refine cL rfl (o_ldA (cs := [.int _ _, .int _ _, .int _ _, .int _ _]) tt25 rfl rfl (ca_row (xs := [(Con.mk 0 1 5 0), (Con.mk 1 2 3 0), (Con.mk 2 0 (-6) 0)]) rfl (enc25.wd false) s19) rfl ?_)
 refine cL rfl (o_alloc (p := 9) tt34 rfl rfl ?_)
 obtain ⟨s20, s21, hv⟩ := hv
 refine cL rfl (o_callP1 (k := 19) (fst := []) (caps := []) (ys := [.agg _, .agg _]) rfl rfl (spec_addb y_6.1 (lat [(Con.mk 0 1 5 0), (Con.mk 1 2 3 0), (Con.mk 2 0 (-6) 0)] (2 : Int)) s20 s21) (Wks.cons (ag_agg 5 _ (Wks.cons (ag_int _ _ _ _) (Wks.cons (ag_lst _ _ _ _ _) (Wks.refl _)))) (Wks.cons (ag_agg 5 _ (Wks.cons (ag_int _ _ _ _) (Wks.cons (ag_int _ _ _ _) (Wks.cons (ag_int _ _ _ _) (Wks.cons (ag_int _ _ _ _) (Wks.refl _)))))) (Wks.refl _))) ?_)
 refine cL rfl (o_move (v := .tup _) rfl ?_)
 refine cL rfl (o_ext (v := .agg _) rfl rfl ?_)
 refine cL rfl (o_ext (v := .bool _) rfl rfl ?_)
 refine cL rfl (o_ext (v := .int _ _) rfl rfl ?_)
 refine cLn (o_stB (v := .agg _) (vs := [.int _ _, .lst _ _ _]) (cs2 := [.int _ _, .lst _ _ _]) tt34 rfl rfl rfl rfl rfl (Nat.le_of_ble_eq_true rfl) rfl ?_)
 refine aB rfl rfl ?_
 refine aI rfl rfl ?_
 refine eL ?_
 refine W.tr [(1, .ref _ _ _), (2, .ptr _ _), (3, .lst _ _ _), (4, .int _ _), (5, .int _ _), (6, .int _ _), (7, .int _ _), (8, .int _ _), (9, .int _ _), (10, .int _ _), (11, .int _ _), (12, .int _ _), (13, .int _ _), (14, .lst _ _ _), (15, .int _ _), (16, .ref _ _ _), (17, .ptr _ _), (18, .lst _ _ _), (19, .int _ _), (20, .ptr _ _), (22, .int _ _), (23, .int _ _), (24, .int _ _), (25, .int _ _), (28, .int _ _), (30, .bool _), (31, .int _ _)] [.row _ _ _, .box _ [.int _ _, .lst _ _ _], .dead, .dead, .row _ _ _, .row _ _ _, .box _ [.int _ _, .lst _ _ _], .box _ [.int _ _, .lst _ _ _], .box _ [.int _ _, .lst _ _ _], .box _ [.int _ _, .lst _ _ _]] ⟨rfl, rfl, rfl, rfl, rfl, rfl, rfl, rfl, rfl, rfl, rfl, rfl, rfl, rfl, rfl, rfl, rfl, rfl, rfl, rfl, rfl, rfl, rfl, rfl, rfl, rfl, rfl, trivial⟩ rfl ?_
 generalize hy : lat [(Con.mk 0 1 5 0), (Con.mk 1 2 3 0), (Con.mk 2 0 (-6) 0)] (2 : Int) = y_9
 replace hv := hv y_9 hy
 clear hy
 refine W.rP [0, 1, 2, 3, 9, 4, 5, 6, 7, 8, 10, 11, 12] (by decide +kernel) rfl ?_
 refine cL rfl (o_ldA (cs := [.int _ _, .lst _ _ _]) tt34 rfl rfl ⟨_, rfl⟩ rfl ?_)
 refine cL rfl (o_move (v := .ref _ _ _) rfl ?_)
 obtain ⟨s22, hv⟩ := hv
 refine cL rfl (o_iaR tt22 tt25 rfl rfl s22 ?_)
 refine cL rfl (o_ldA (cs := [.int _ _, .int _ _, .int _ _, .int _ _]) tt25 rfl rfl (ca_row (xs := [(Con.mk 0 1 5 0), (Con.mk 1 2 3 0), (Con.mk 2 0 (-6) 0)] ++ [(Con.mk 1 0 (-6) 0)]) rfl (enc25.wd false) s22) rfl ?_)
 refine cL rfl (o_alloc (p := 10) tt34 rfl rfl ?_)
 obtain ⟨s23, s24, hv⟩ := hv
 refine cL rfl (o_callP1 (k := 19) (fst := []) (caps := []) (ys := [.agg _, .agg _]) rfl rfl (spec_addb y.1 (lat ([(Con.mk 0 1 5 0), (Con.mk 1 2 3 0), (Con.mk 2 0 (-6) 0)] ++ [(Con.mk 1 0 (-6) 0)]) (3 : Int)) s23 s24) (Wks.cons (ag_agg 5 _ (Wks.cons (ag_int _ _ _ _) (Wks.cons (ag_lst _ _ _ _ _) (Wks.refl _)))) (Wks.cons (ag_agg 5 _ (Wks.cons (ag_int _ _ _ _) (Wks.cons (ag_int _ _ _ _) (Wks.cons (ag_int _ _ _ _) (Wks.cons (ag_int _ _ _ _) (Wks.refl _)))))) (Wks.refl _))) ?_)
 refine cL rfl (o_move (v := .tup _) rfl ?_)
 refine cL rfl (o_ext (v := .agg _) rfl rfl ?_)
 refine cL rfl (o_ext (v := .bool _) rfl rfl ?_)
 refine cL rfl (o_ext (v := .int _ _) rfl rfl ?_)
 refine cLn (o_stB (v := .agg _) (vs := [.int _ _, .lst _ _ _]) (cs2 := [.int _ _, .lst _ _ _]) tt34 rfl rfl rfl rfl rfl (Nat.le_of_ble_eq_true rfl) rfl ?_)
 refine aB rfl rfl ?_
 refine aI rfl rfl ?_
 refine eL ?_
 refine W.tr [(1, .ref _ _ _), (2, .ptr _ _), (3, .lst _ _ _), (4, .int _ _), (5, .int _ _), (6, .int _ _), (7, .int _ _), (8, .int _ _), (9, .int _ _), (10, .int _ _), (11, .int _ _), (12, .int _ _), (13, .int _ _), (14, .lst _ _ _), (15, .int _ _), (16, .ref _ _ _), (17, .ptr _ _), (18, .lst _ _ _), (19, .int _ _), (20, .ptr _ _), (22, .int _ _), (23, .int _ _), (24, .int _ _), (25, .int _ _), (28, .int _ _), (30, .bool _), (31, .int _ _), (33, .bool _), (34, .int _ _)] [.row _ _ _, .box _ [.int _ _, .lst _ _ _], .dead, .dead, .row _ _ _, .row _ _ _, .box _ [.int _ _, .lst _ _ _], .box _ [.int _ _, .lst _ _ _], .box _ [.int _ _, .lst _ _ _], .box _ [.int _ _, .lst _ _ _], .box _ [.int _ _, .lst _ _ _]] ⟨rfl, rfl, rfl, rfl, rfl, rfl, rfl, rfl, rfl, rfl, rfl, rfl, rfl, rfl, rfl, rfl, rfl, rfl, rfl, rfl, rfl, rfl, rfl, rfl, rfl, rfl, rfl, rfl, rfl, trivial⟩ rfl ?_
 generalize hy : addBM y.1 (lat ([(Con.mk 0 1 5 0), (Con.mk 1 2 3 0), (Con.mk 2 0 (-6) 0)] ++ [(Con.mk 1 0 (-6) 0)]) (3 : Int)) = y_10
 replace hv := hv y_10 hy
 clear hy
 refine W.seq' ?_
 refine W.rLm ⟨261, look [(1, .ref false 0 3), (2, .ptr 1 0), (3, .lst false y.2.1.length (encL eInt y.2.1)), (5, .int .i64 y_1.1), (6, .int .i64 y_1.2.1), (8, .int .i64 y_2.1), (9, .int .i64 y_2.2.1), (11, .int .i64 y_3.1), (12, .int .i64 y_3.2.1), (14, .lst false y_4.1.length (encL eInt y_4.1)), (16, .ref false 5 (([(Con.mk 0 1 5 0), (Con.mk 1 2 3 0), (Con.mk 2 0 (-6) 0)] ++ [(Con.mk 1 0 (-6) 0)]).length)), (17, .ptr 6 0), (18, .lst false y_5.2.1.length (encL eInt y_5.2.1)), (20, .ptr 7 0), (23, .int .i64 y_7.1), (24, .int .i64 y_7.2.1), (30, .bool ((addBM y_6.1 y_9).2.1)), (33, .bool (y_10.2.1)), (159, .bool (decide ((¬ y.2.2 = (0 : Int)) ∨ ((¬ y_1.2.2 = (0 : Int)) ∨ ((¬ y_2.2.2 = (0 : Int)) ∨ ((¬ y_3.2.2 = (0 : Int)) ∨ ((¬ y_4.2 = (0 : Int)) ∨ ((¬ y_6.2.2 = (0 : Int)) ∨ ((¬ y_7.2.2 = (0 : Int)) ∨ ((¬ (addBM y_6.1 y_9).2.2 = (0 : Int)) ∨ ((¬ y_10.2.2 = (0 : Int)) ∨ ((¬ y_5.2.2 = (70 : Int)) ∨ (¬ y_8.2.2 = (2 : Int))))))))))))))], [.row 25 4 (encL e25 [(Con.mk 0 1 5 0), (Con.mk 1 2 3 0), (Con.mk 2 0 (-6) 0)]), .box 34 [.int .i64 ((y.1).n), .lst false ((y.1).most).length (encL (eSl eInt true) ((y.1).most))], .dead, .dead, .row 25 4 (encL e25 [(Con.mk 1 0 (-6) 0)]), .row 25 4 (encL e25 ([(Con.mk 0 1 5 0), (Con.mk 1 2 3 0), (Con.mk 2 0 (-6) 0)] ++ [(Con.mk 1 0 (-6) 0)])), .box 34 [.int .i64 ((y_5.1).n), .lst false ((y_5.1).most).length (encL (eSl eInt true) ((y_5.1).most))], .box 34 [.int .i64 ((y_6.1).n), .lst false ((y_6.1).most).length (encL (eSl eInt true) ((y_6.1).most))], .box 34 [.int .i64 ((y_8.1).n), .lst false ((y_8.1).most).length (encL (eSl eInt true) ((y_8.1).most))], .box 34 [.int .i64 (((addBM y_6.1 y_9).1).n), .lst false (((addBM y_6.1 y_9).1).most).length (encL (eSl eInt true) (((addBM y_6.1 y_9).1).most))], .box 34 [.int .i64 ((y_10.1).n), .lst false ((y_10.1).most).length (encL (eSl eInt true) ((y_10.1).most))]], false⟩ ?_ ?_
 refine mI rfl rfl ?_
 refine cL rfl (o_neI rfl rfl rfl ?_)
 refine mB rfl rfl ?_
 by_cases c1 : ¬ y.2.2 = (0 : Int)
 iterate 2 refine cLs rfl rfl rfl (decide_eq_true c1) ?_
 refine cL rfl (o_pickT (v := .bool _) rfl (decide_eq_true c1) rfl ?_)
 refine mB rfl rfl ?_
 iterate 2 refine cLs rfl rfl rfl (rfl) ?_
 refine cL rfl (o_pickT (v := .bool _) rfl rfl rfl ?_)
 refine mB rfl rfl ?_
 iterate 2 refine cLs rfl rfl rfl (rfl) ?_
 refine cL rfl (o_pickT (v := .bool _) rfl rfl rfl ?_)
 refine mB rfl rfl ?_
 iterate 2 refine cLs rfl rfl rfl (rfl) ?_
 refine cL rfl (o_pickT (v := .bool _) rfl rfl rfl ?_)
 refine mB rfl rfl ?_
 iterate 2 refine cLs rfl rfl rfl (rfl) ?_
 refine cL rfl (o_pickT (v := .bool _) rfl rfl rfl ?_)
 refine mB rfl rfl ?_
 iterate 2 refine cLs rfl rfl rfl (rfl) ?_
 refine cL rfl (o_pickT (v := .bool _) rfl rfl rfl ?_)
 refine mB rfl rfl ?_
 iterate 2 refine cLs rfl rfl rfl (rfl) ?_
 refine cL rfl (o_pickT (v := .bool _) rfl rfl rfl ?_)
 refine mB rfl rfl ?_
 iterate 2 refine cLs rfl rfl rfl (rfl) ?_
 refine cL rfl (o_pickT (v := .bool _) rfl rfl rfl ?_)
 refine mB rfl rfl ?_
 iterate 2 refine cLs rfl rfl rfl (rfl) ?_
 refine cL rfl (o_pickT (v := .bool _) rfl rfl rfl ?_)
 refine mB rfl rfl ?_
 iterate 2 refine cLs rfl rfl rfl (rfl) ?_
 refine cL rfl (o_pickT (v := .bool _) rfl rfl rfl ?_)
 refine eL ?_
 exact le_mk ⟨rfl, rfl, rfl, rfl, rfl, rfl, rfl, rfl, rfl, rfl, rfl, rfl, rfl, rfl, rfl, rfl, rfl, rfl, (congrArg AV.bool (dOrT c1)).symm, trivial⟩ rfl
 refine cLg rfl rfl (decide_eq_false c1) ?_
 refine mI rfl rfl ?_
 refine cLg rfl rfl (decide_eq_false c1) ?_
 refine cL rfl (o_neI rfl rfl rfl ?_)
 refine cL rfl (o_pickF (v := .bool _) rfl (decide_eq_false c1) rfl ?_)
 refine mB rfl rfl ?_
 by_cases c2 : ¬ y_1.2.2 = (0 : Int)
 iterate 2 refine cLs rfl rfl rfl (decide_eq_true c2) ?_
 refine cL rfl (o_pickT (v := .bool _) rfl (decide_eq_true c2) rfl ?_)
 refine mB rfl rfl ?_
 iterate 2 refine cLs rfl rfl rfl (rfl) ?_
 refine cL rfl (o_pickT (v := .bool _) rfl rfl rfl ?_)
 refine mB rfl rfl ?_
 iterate 2 refine cLs rfl rfl rfl (rfl) ?_
 refine cL rfl (o_pickT (v := .bool _) rfl rfl rfl ?_)
 refine mB rfl rfl ?_
 iterate 2 refine cLs rfl rfl rfl (rfl) ?_
 refine cL rfl (o_pickT (v := .bool _) rfl rfl rfl ?_)
 refine mB rfl rfl ?_
 iterate 2 refine cLs rfl rfl rfl (rfl) ?_
 refine cL rfl (o_pickT (v := .bool _) rfl rfl rfl ?_)
 refine mB rfl rfl ?_
 iterate 2 refine cLs rfl rfl rfl (rfl) ?_
 refine cL rfl (o_pickT (v := .bool _) rfl rfl rfl ?_)
 refine mB rfl rfl ?_
 iterate 2 refine cLs rfl rfl rfl (rfl) ?_
 refine cL rfl (o_pickT (v := .bool _) rfl rfl rfl ?_)
 refine mB rfl rfl ?_
 iterate 2 refine cLs rfl rfl rfl (rfl) ?_
 refine cL rfl (o_pickT (v := .bool _) rfl rfl rfl ?_)
 refine mB rfl rfl ?_
 iterate 2 refine cLs rfl rfl rfl (rfl) ?_
 refine cL rfl (o_pickT (v := .bool _) rfl rfl rfl ?_)
 refine eL ?_
 exact le_mk ⟨rfl, rfl, rfl, rfl, rfl, rfl, rfl, rfl, rfl, rfl, rfl, rfl, rfl, rfl, rfl, rfl, rfl, rfl, (congrArg AV.bool (dOrF c1 (dOrT c2))).symm, trivial⟩ rfl
 refine cLg rfl rfl (decide_eq_false c2) ?_
 refine mI rfl rfl ?_
 refine cLg rfl rfl (decide_eq_false c2) ?_
 refine cL rfl (o_neI rfl rfl rfl ?_)
 refine cL rfl (o_pickF (v := .bool _) rfl (decide_eq_false c2) rfl ?_)
 refine mB rfl rfl ?_
 by_cases c3 : ¬ y_2.2.2 = (0 : Int)
 iterate 2 refine cLs rfl rfl rfl (decide_eq_true c3) ?_
 refine cL rfl (o_pickT (v := .bool _) rfl (decide_eq_true c3) rfl ?_)
 refine mB rfl rfl ?_
 iterate 2 refine cLs rfl rfl rfl (rfl) ?_
 refine cL rfl (o_pickT (v := .bool _) rfl rfl rfl ?_)
 refine mB rfl rfl ?_
 iterate 2 refine cLs rfl rfl rfl (rfl) ?_
 refine cL rfl (o_pickT (v := .bool _) rfl rfl rfl ?_)
 refine mB rfl rfl ?_
 iterate 2 refine cLs rfl rfl rfl (rfl) ?_
 refine cL rfl (o_pickT (v := .bool _) rfl rfl rfl ?_)
 refine mB rfl rfl ?_
 iterate 2 refine cLs rfl rfl rfl (rfl) ?_
 refine cL rfl (o_pickT (v := .bool _) rfl rfl rfl ?_)
 refine mB rfl rfl ?_
 iterate 2 refine cLs rfl rfl rfl (rfl) ?_
 refine cL rfl (o_pickT (v := .bool _) rfl rfl rfl ?_)
 refine mB rfl rfl ?_
 iterate 2 refine cLs rfl rfl rfl (rfl) ?_
 refine cL rfl (o_pickT (v := .bool _) rfl rfl rfl ?_)
 refine mB rfl rfl ?_
 iterate 2 refine cLs rfl rfl rfl (rfl) ?_
 refine cL rfl (o_pickT (v := .bool _) rfl rfl rfl ?_)
 refine eL ?_
 exact le_mk ⟨rfl, rfl, rfl, rfl, rfl, rfl, rfl, rfl, rfl, rfl, rfl, rfl, rfl, rfl, rfl, rfl, rfl, rfl, (congrArg AV.bool (dOrF c1 (dOrF c2 (dOrT c3)))).symm, trivial⟩ rfl
 refine cLg rfl rfl (decide_eq_false c3) ?_
 refine mI rfl rfl ?_
 refine cLg rfl rfl (decide_eq_false c3) ?_
 refine cL rfl (o_neI rfl rfl rfl ?_)
 refine cL rfl (o_pickF (v := .bool _) rfl (decide_eq_false c3) rfl ?_)
 refine mB rfl rfl ?_
 by_cases c4 : ¬ y_3.2.2 = (0 : Int)
 iterate 2 refine cLs rfl rfl rfl (decide_eq_true c4) ?_
 refine cL rfl (o_pickT (v := .bool _) rfl (decide_eq_true c4) rfl ?_)
 refine mB rfl rfl ?_
 iterate 2 refine cLs rfl rfl rfl (rfl) ?_
 refine cL rfl (o_pickT (v := .bool _) rfl rfl rfl ?_)
 refine mB rfl rfl ?_
 iterate 2 refine cLs rfl rfl rfl (rfl) ?_
 refine cL rfl (o_pickT (v := .bool _) rfl rfl rfl ?_)
 refine mB rfl rfl ?_
 iterate 2 refine cLs rfl rfl rfl (rfl) ?_
 refine cL rfl (o_pickT (v := .bool _) rfl rfl rfl ?_)
 refine mB rfl rfl ?_
 iterate 2 refine cLs rfl rfl rfl (rfl) ?_
 refine cL rfl (o_pickT (v := .bool _) rfl rfl rfl ?_)
 refine mB rfl rfl ?_
 iterate 2 refine cLs rfl rfl rfl (rfl) ?_
 refine cL rfl (o_pickT (v := .bool _) rfl rfl rfl ?_)
 refine mB rfl rfl ?_
 iterate 2 refine cLs rfl rfl rfl (rfl) ?_
 refine cL rfl (o_pickT (v := .bool _) rfl rfl rfl ?_)
 refine eL ?_
 exact le_mk ⟨rfl, rfl, rfl, rfl, rfl, rfl, rfl, rfl, rfl, rfl, rfl, rfl, rfl, rfl, rfl, rfl, rfl, rfl, (congrArg AV.bool (dOrF c1 (dOrF c2 (dOrF c3 (dOrT c4))))).symm, trivial⟩ rfl
 refine cLg rfl rfl (decide_eq_false c4) ?_
 refine mI rfl rfl ?_
 refine cLg rfl rfl (decide_eq_false c4) ?_
 refine cL rfl (o_neI rfl rfl rfl ?_)
 refine cL rfl (o_pickF (v := .bool _) rfl (decide_eq_false c4) rfl ?_)
 refine mB rfl rfl ?_
 by_cases c5 : ¬ y_4.2 = (0 : Int)
 iterate 2 refine cLs rfl rfl rfl (decide_eq_true c5) ?_
 refine cL rfl (o_pickT (v := .bool _) rfl (decide_eq_true c5) rfl ?_)
 refine mB rfl rfl ?_
 iterate 2 refine cLs rfl rfl rfl (rfl) ?_
 refine cL rfl (o_pickT (v := .bool _) rfl rfl rfl ?_)
 refine mB rfl rfl ?_
 iterate 2 refine cLs rfl rfl rfl (rfl) ?_
 refine cL rfl (o_pickT (v := .bool _) rfl rfl rfl ?_)
 refine mB rfl rfl ?_
 iterate 2 refine cLs rfl rfl rfl (rfl) ?_
 refine cL rfl (o_pickT (v := .bool _) rfl rfl rfl ?_)
 refine mB rfl rfl ?_
 iterate 2 refine cLs rfl rfl rfl (rfl) ?_
 refine cL rfl (o_pickT (v := .bool _) rfl rfl rfl ?_)
 refine mB rfl rfl ?_
 iterate 2 refine cLs rfl rfl rfl (rfl) ?_
 refine cL rfl (o_pickT (v := .bool _) rfl rfl rfl ?_)
 refine eL ?_
 exact le_mk ⟨rfl, rfl, rfl, rfl, rfl, rfl, rfl, rfl, rfl, rfl, rfl, rfl, rfl, rfl, rfl, rfl, rfl, rfl, (congrArg AV.bool (dOrF c1 (dOrF c2 (dOrF c3 (dOrF c4 (dOrT c5)))))).symm, trivial⟩ rfl
 refine cLg rfl rfl (decide_eq_false c5) ?_
 refine mI rfl rfl ?_
 refine cLg rfl rfl (decide_eq_false c5) ?_
 refine cL rfl (o_neI rfl rfl rfl ?_)
 refine cL rfl (o_pickF (v := .bool _) rfl (decide_eq_false c5) rfl ?_)
 refine mB rfl rfl ?_
 by_cases c6 : ¬ y_6.2.2 = (0 : Int)
 iterate 2 refine cLs rfl rfl rfl (decide_eq_true c6) ?_
 refine cL rfl (o_pickT (v := .bool _) rfl (decide_eq_true c6) rfl ?_)
 refine mB rfl rfl ?_
 iterate 2 refine cLs rfl rfl rfl (rfl) ?_
 refine cL rfl (o_pickT (v := .bool _) rfl rfl rfl ?_)
 refine mB rfl rfl ?_
 iterate 2 refine cLs rfl rfl rfl (rfl) ?_
 refine cL rfl (o_pickT (v := .bool _) rfl rfl rfl ?_)
 refine mB rfl rfl ?_
 iterate 2 refine cLs rfl rfl rfl (rfl) ?_
 refine cL rfl (o_pickT (v := .bool _) rfl rfl rfl ?_)
 refine mB rfl rfl ?_
 iterate 2 refine cLs rfl rfl rfl (rfl) ?_
 refine cL rfl (o_pickT (v := .bool _) rfl rfl rfl ?_)
 refine eL ?_
 exact le_mk ⟨rfl, rfl, rfl, rfl, rfl, rfl, rfl, rfl, rfl, rfl, rfl, rfl, rfl, rfl, rfl, rfl, rfl, rfl, (congrArg AV.bool (dOrF c1 (dOrF c2 (dOrF c3 (dOrF c4 (dOrF c5 (dOrT c6))))))).symm, trivial⟩ rfl
 refine cLg rfl rfl (decide_eq_false c6) ?_
 refine mI rfl rfl ?_
 refine cLg rfl rfl (decide_eq_false c6) ?_
 refine cL rfl (o_neI rfl rfl rfl ?_)
 refine cL rfl (o_pickF (v := .bool _) rfl (decide_eq_false c6) rfl ?_)
 refine mB rfl rfl ?_
 by_cases c7 : ¬ y_7.2.2 = (0 : Int)
 iterate 2 refine cLs rfl rfl rfl (decide_eq_true c7) ?_
 refine cL rfl (o_pickT (v := .bool _) rfl (decide_eq_true c7) rfl ?_)
 refine mB rfl rfl ?_
 iterate 2 refine cLs rfl rfl rfl (rfl) ?_
 refine cL rfl (o_pickT (v := .bool _) rfl rfl rfl ?_)
 refine mB rfl rfl ?_
 iterate 2 refine cLs rfl rfl rfl (rfl) ?_
 refine cL rfl (o_pickT (v := .bool _) rfl rfl rfl ?_)
 refine mB rfl rfl ?_
 iterate 2 refine cLs rfl rfl rfl (rfl) ?_
 refine cL rfl (o_pickT (v := .bool _) rfl rfl rfl ?_)
 refine eL ?_
 exact le_mk ⟨rfl, rfl, rfl, rfl, rfl, rfl, rfl, rfl, rfl, rfl, rfl, rfl, rfl, rfl, rfl, rfl, rfl, rfl, (congrArg AV.bool (dOrF c1 (dOrF c2 (dOrF c3 (dOrF c4 (dOrF c5 (dOrF c6 (dOrT c7)))))))).symm, trivial⟩ rfl
 refine cLg rfl rfl (decide_eq_false c7) ?_
 refine mI rfl rfl ?_
 refine cLg rfl rfl (decide_eq_false c7) ?_
 refine cL rfl (o_neI rfl rfl rfl ?_)
 refine cL rfl (o_pickF (v := .bool _) rfl (decide_eq_false c7) rfl ?_)
 refine mB rfl rfl ?_
 by_cases c8 : ¬ (addBM y_6.1 y_9).2.2 = (0 : Int)
 iterate 2 refine cLs rfl rfl rfl (decide_eq_true c8) ?_
 refine cL rfl (o_pickT (v := .bool _) rfl (decide_eq_true c8) rfl ?_)
 refine mB rfl rfl ?_
 iterate 2 refine cLs rfl rfl rfl (rfl) ?_
 refine cL rfl (o_pickT (v := .bool _) rfl rfl rfl ?_)
 refine mB rfl rfl ?_
 iterate 2 refine cLs rfl rfl rfl (rfl) ?_
 refine cL rfl (o_pickT (v := .bool _) rfl rfl rfl ?_)
 refine eL ?_
 exact le_mk ⟨rfl, rfl, rfl, rfl, rfl, rfl, rfl, rfl, rfl, rfl, rfl, rfl, rfl, rfl, rfl, rfl, rfl, rfl, (congrArg AV.bool (dOrF c1 (dOrF c2 (dOrF c3 (dOrF c4 (dOrF c5 (dOrF c6 (dOrF c7 (dOrT c8))))))))).symm, trivial⟩ rfl
 refine cLg rfl rfl (decide_eq_false c8) ?_
 refine mI rfl rfl ?_
 refine cLg rfl rfl (decide_eq_false c8) ?_
 refine cL rfl (o_neI rfl rfl rfl ?_)
 refine cL rfl (o_pickF (v := .bool _) rfl (decide_eq_false c8) rfl ?_)
 refine mB rfl rfl ?_
 by_cases c9 : ¬ y_10.2.2 = (0 : Int)
 iterate 2 refine cLs rfl rfl rfl (decide_eq_true c9) ?_
 refine cL rfl (o_pickT (v := .bool _) rfl (decide_eq_true c9) rfl ?_)
 refine mB rfl rfl ?_
 iterate 2 refine cLs rfl rfl rfl (rfl) ?_
 refine cL rfl (o_pickT (v := .bool _) rfl rfl rfl ?_)
 refine eL ?_
 exact le_mk ⟨rfl, rfl, rfl, rfl, rfl, rfl, rfl, rfl, rfl, rfl, rfl, rfl, rfl, rfl, rfl, rfl, rfl, rfl, (congrArg AV.bool (dOrF c1 (dOrF c2 (dOrF c3 (dOrF c4 (dOrF c5 (dOrF c6 (dOrF c7 (dOrF c8 (dOrT c9)))))))))).symm, trivial⟩ rfl
 refine cLg rfl rfl (decide_eq_false c9) ?_
 refine mI rfl rfl ?_
 refine cLg rfl rfl (decide_eq_false c9) ?_
 refine cL rfl (o_neI rfl rfl rfl ?_)
 refine cL rfl (o_pickF (v := .bool _) rfl (decide_eq_false c9) rfl ?_)
 refine mB rfl rfl ?_
 by_cases c10 : ¬ y_5.2.2 = (70 : Int)
 iterate 2 refine cLs rfl rfl rfl (decide_eq_true c10) ?_
 refine cL rfl (o_pickT (v := .bool _) rfl (decide_eq_true c10) rfl ?_)
 refine eL ?_
 exact le_mk ⟨rfl, rfl, rfl, rfl, rfl, rfl, rfl, rfl, rfl, rfl, rfl, rfl, rfl, rfl, rfl, rfl, rfl, rfl, (congrArg AV.bool (dOrF c1 (dOrF c2 (dOrF c3 (dOrF c4 (dOrF c5 (dOrF c6 (dOrF c7 (dOrF c8 (dOrF c9 (dOrT c10))))))))))).symm, trivial⟩ rfl
 refine cLg rfl rfl (decide_eq_false c10) ?_
 refine mI rfl rfl ?_
 refine cLg rfl rfl (decide_eq_false c10) ?_
 refine cL rfl (o_neI rfl rfl rfl ?_)
 refine cL rfl (o_pickF (v := .bool _) rfl (decide_eq_false c10) rfl ?_)
 refine eL ?_
 exact le_mk ⟨rfl, rfl, rfl, rfl, rfl, rfl, rfl, rfl, rfl, rfl, rfl, rfl, rfl, rfl, rfl, rfl, rfl, rfl, (congrArg AV.bool (dOrF c1 (dOrF c2 (dOrF c3 (dOrF c4 (dOrF c5 (dOrF c6 (dOrF c7 (dOrF c8 (dOrF c9 (dOrF c10 (rfl)))))))))))).symm, trivial⟩ rfl
 refine W.cn rfl (fun hc => ?_) (fun hc => ?_)
 have hv := hv.1 hc
 refine W.rL ?_
 refine aB rfl rfl ?_
 refine eL ?_
 refine W.tr [(0, .bool _)] [.row _ _ _, .box _ [.int _ _, .lst _ _ _], .dead, .dead, .row _ _ _, .row _ _ _, .box _ [.int _ _, .lst _ _ _], .box _ [.int _ _, .lst _ _ _], .box _ [.int _ _, .lst _ _ _], .box _ [.int _ _, .lst _ _ _], .box _ [.int _ _, .lst _ _ _]] ⟨rfl, trivial⟩ rfl ?_
 refine W.ret ?_
 refine th_ret (rt ?_)
 refine rt_t (v := .bool _) rfl ?_
 refine rt_n ?_
 exact ⟨_, rs_bool _ _ _, false, rfl, hv⟩
 have hv := hv.2 hc
 refine W.skip ?_
 refine th_nrm ?_
 refine W.tr [(1, .ref _ _ _), (2, .ptr _ _), (3, .lst _ _ _), (5, .int _ _), (6, .int _ _), (8, .int _ _), (9, .int _ _), (11, .int _ _), (12, .int _ _), (14, .lst _ _ _), (16, .ref _ _ _), (17, .ptr _ _), (18, .lst _ _ _), (20, .ptr _ _), (23, .int _ _), (24, .int _ _), (30, .bool _), (33, .bool _)] [.row _ _ _, .box _ [.int _ _, .lst _ _ _], .dead, .dead, .row _ _ _, .row _ _ _, .box _ [.int _ _, .lst _ _ _], .box _ [.int _ _, .lst _ _ _], .box _ [.int _ _, .lst _ _ _], .box _ [.int _ _, .lst _ _ _], .box _ [.int _ _, .lst _ _ _]] ⟨rfl, rfl, rfl, rfl, rfl, rfl, rfl, rfl, rfl, rfl, rfl, rfl, rfl, rfl, rfl, rfl, rfl, rfl, trivial⟩ rfl ?_
 refine W.rLm ⟨261, look [(1, .ref false 0 3), (2, .ptr 1 0), (3, .lst false y.2.1.length (encL eInt y.2.1)), (14, .lst false y_4.1.length (encL eInt y_4.1)), (16, .ref false 5 (([(Con.mk 0 1 5 0), (Con.mk 1 2 3 0), (Con.mk 2 0 (-6) 0)] ++ [(Con.mk 1 0 (-6) 0)]).length)), (17, .ptr 6 0), (18, .lst false y_5.2.1.length (encL eInt y_5.2.1)), (20, .ptr 7 0), (30, .bool ((addBM y_6.1 y_9).2.1)), (33, .bool (y_10.2.1)), (35, .bool (decide ((y_1.1 = (3 : Int)) ∧ ((y_1.2.1 = (5 : Int)) ∧ ((y_2.1 = (6 : Int)) ∧ ((y_2.2.1 = (8 : Int)) ∧ ((y_3.1 = (1 : Int)) ∧ ((y_3.2.1 = (3 : Int)) ∧ ((y_7.1 = (-1152921504606846976 : Int)) ∧ (y_7.2.1 = (8 : Int)))))))))))], [.row 25 4 (encL e25 [(Con.mk 0 1 5 0), (Con.mk 1 2 3 0), (Con.mk 2 0 (-6) 0)]), .box 34 [.int .i64 ((y.1).n), .lst false ((y.1).most).length (encL (eSl eInt true) ((y.1).most))], .dead, .dead, .row 25 4 (encL e25 [(Con.mk 1 0 (-6) 0)]), .row 25 4 (encL e25 ([(Con.mk 0 1 5 0), (Con.mk 1 2 3 0), (Con.mk 2 0 (-6) 0)] ++ [(Con.mk 1 0 (-6) 0)])), .box 34 [.int .i64 ((y_5.1).n), .lst false ((y_5.1).most).length (encL (eSl eInt true) ((y_5.1).most))], .box 34 [.int .i64 ((y_6.1).n), .lst false ((y_6.1).most).length (encL (eSl eInt true) ((y_6.1).most))], .box 34 [.int .i64 ((y_8.1).n), .lst false ((y_8.1).most).length (encL (eSl eInt true) ((y_8.1).most))], .box 34 [.int .i64 (((addBM y_6.1 y_9).1).n), .lst false (((addBM y_6.1 y_9).1).most).length (encL (eSl eInt true) (((addBM y_6.1 y_9).1).most))], .box 34 [.int .i64 ((y_10.1).n), .lst false ((y_10.1).most).length (encL (eSl eInt true) ((y_10.1).most))]], false⟩ ?_ ?_
 refine mI rfl rfl ?_
 refine cL rfl (o_eqI rfl rfl rfl ?_)
 refine mB rfl rfl ?_
 by_cases c1 : y_1.1 = (3 : Int)
 refine cLg rfl rfl (decide_eq_true c1) ?_
 refine mI rfl rfl ?_
 refine cLg rfl rfl (decide_eq_true c1) ?_
 refine cL rfl (o_eqI rfl rfl rfl ?_)
 refine cL rfl (o_pickT (v := .bool _) rfl (decide_eq_true c1) rfl ?_)
 refine mB rfl rfl ?_
 by_cases c2 : y_1.2.1 = (5 : Int)
 refine cLg rfl rfl (decide_eq_true c2) ?_
 refine mI rfl rfl ?_
 refine cLg rfl rfl (decide_eq_true c2) ?_
 refine cL rfl (o_eqI rfl rfl rfl ?_)
 refine cL rfl (o_pickT (v := .bool _) rfl (decide_eq_true c2) rfl ?_)
 refine mB rfl rfl ?_
 by_cases c3 : y_2.1 = (6 : Int)
 refine cLg rfl rfl (decide_eq_true c3) ?_
 refine mI rfl rfl ?_
 refine cLg rfl rfl (decide_eq_true c3) ?_
 refine cL rfl (o_eqI rfl rfl rfl ?_)
 refine cL rfl (o_pickT (v := .bool _) rfl (decide_eq_true c3) rfl ?_)
 refine mB rfl rfl ?_
 by_cases c4 : y_2.2.1 = (8 : Int)
 refine cLg rfl rfl (decide_eq_true c4) ?_
 refine mI rfl rfl ?_
 refine cLg rfl rfl (decide_eq_true c4) ?_
 refine cL rfl (o_eqI rfl rfl rfl ?_)
 refine cL rfl (o_pickT (v := .bool _) rfl (decide_eq_true c4) rfl ?_)
 refine mB rfl rfl ?_
 by_cases c5 : y_3.1 = (1 : Int)
 refine cLg rfl rfl (decide_eq_true c5) ?_
 refine mI rfl rfl ?_
 refine cLg rfl rfl (decide_eq_true c5) ?_
 refine cL rfl (o_eqI rfl rfl rfl ?_)
 refine cL rfl (o_pickT (v := .bool _) rfl (decide_eq_true c5) rfl ?_)
 refine mB rfl rfl ?_
 by_cases c6 : y_3.2.1 = (3 : Int)
 refine cLg rfl rfl (decide_eq_true c6) ?_
 refine mI rfl rfl ?_
 refine cLg rfl rfl (decide_eq_true c6) ?_
 refine cL rfl (o_eqI rfl rfl rfl ?_)
 refine cL rfl (o_pickT (v := .bool _) rfl (decide_eq_true c6) rfl ?_)
 refine mB rfl rfl ?_
 by_cases c7 : y_7.1 = (-1152921504606846976 : Int)
 refine cLg rfl rfl (decide_eq_true c7) ?_
 refine mI rfl rfl ?_
 refine cLg rfl rfl (decide_eq_true c7) ?_
 refine cL rfl (o_eqI rfl rfl rfl ?_)
 refine cL rfl (o_pickT (v := .bool _) rfl (decide_eq_true c7) rfl ?_)
 refine aB rfl rfl ?_
 refine eL ?_
 exact le_mk ⟨rfl, rfl, rfl, rfl, rfl, rfl, rfl, rfl, rfl, rfl, (congrArg AV.bool (dAndT c1 (dAndT c2 (dAndT c3 (dAndT c4 (dAndT c5 (dAndT c6 (dAndT c7 (rfl))))))))).symm, trivial⟩ rfl
 iterate 2 refine cLs rfl rfl rfl (decide_eq_false c7) ?_
 refine cL rfl (o_pickF (v := .bool _) rfl (decide_eq_false c7) rfl ?_)
 refine aB rfl rfl ?_
 refine eL ?_
 exact le_mk ⟨rfl, rfl, rfl, rfl, rfl, rfl, rfl, rfl, rfl, rfl, (congrArg AV.bool (dAndT c1 (dAndT c2 (dAndT c3 (dAndT c4 (dAndT c5 (dAndT c6 (dAndF c7)))))))).symm, trivial⟩ rfl
 iterate 2 refine cLs rfl rfl rfl (decide_eq_false c6) ?_
 refine cL rfl (o_pickF (v := .bool _) rfl (decide_eq_false c6) rfl ?_)
 refine mB rfl rfl ?_
 iterate 2 refine cLs rfl rfl rfl (rfl) ?_
 refine cL rfl (o_pickF (v := .bool _) rfl rfl rfl ?_)
 refine aB rfl rfl ?_
 refine eL ?_
 exact le_mk ⟨rfl, rfl, rfl, rfl, rfl, rfl, rfl, rfl, rfl, rfl, (congrArg AV.bool (dAndT c1 (dAndT c2 (dAndT c3 (dAndT c4 (dAndT c5 (dAndF c6))))))).symm, trivial⟩ rfl
 iterate 2 refine cLs rfl rfl rfl (decide_eq_false c5) ?_
 refine cL rfl (o_pickF (v := .bool _) rfl (decide_eq_false c5) rfl ?_)
 refine mB rfl rfl ?_
 iterate 2 refine cLs rfl rfl rfl (rfl) ?_
 refine cL rfl (o_pickF (v := .bool _) rfl rfl rfl ?_)
 refine mB rfl rfl ?_
 iterate 2 refine cLs rfl rfl rfl (rfl) ?_
 refine cL rfl (o_pickF (v := .bool _) rfl rfl rfl ?_)
 refine aB rfl rfl ?_
 refine eL ?_
 exact le_mk ⟨rfl, rfl, rfl, rfl, rfl, rfl, rfl, rfl, rfl, rfl, (congrArg AV.bool (dAndT c1 (dAndT c2 (dAndT c3 (dAndT c4 (dAndF c5)))))).symm, trivial⟩ rfl
 iterate 2 refine cLs rfl rfl rfl (decide_eq_false c4) ?_
 refine cL rfl (o_pickF (v := .bool _) rfl (decide_eq_false c4) rfl ?_)
 refine mB rfl rfl ?_
 iterate 2 refine cLs rfl rfl rfl (rfl) ?_
 refine cL rfl (o_pickF (v := .bool _) rfl rfl rfl ?_)
 refine mB rfl rfl ?_
 iterate 2 refine cLs rfl rfl rfl (rfl) ?_
 refine cL rfl (o_pickF (v := .bool _) rfl rfl rfl ?_)
 refine mB rfl rfl ?_
 iterate 2 refine cLs rfl rfl rfl (rfl) ?_
 refine cL rfl (o_pickF (v := .bool _) rfl rfl rfl ?_)
 refine aB rfl rfl ?_
 refine eL ?_
 exact le_mk ⟨rfl, rfl, rfl, rfl, rfl, rfl, rfl, rfl, rfl, rfl, (congrArg AV.bool (dAndT c1 (dAndT c2 (dAndT c3 (dAndF c4))))).symm, trivial⟩ rfl
 iterate 2 refine cLs rfl rfl rfl (decide_eq_false c3) ?_
 refine cL rfl (o_pickF (v := .bool _) rfl (decide_eq_false c3) rfl ?_)
 refine mB rfl rfl ?_
 iterate 2 refine cLs rfl rfl rfl (rfl) ?_
 refine cL rfl (o_pickF (v := .bool _) rfl rfl rfl ?_)
 refine mB rfl rfl ?_
 iterate 2 refine cLs rfl rfl rfl (rfl) ?_
 refine cL rfl (o_pickF (v := .bool _) rfl rfl rfl ?_)
 refine mB rfl rfl ?_
 iterate 2 refine cLs rfl rfl rfl (rfl) ?_
 refine cL rfl (o_pickF (v := .bool _) rfl rfl rfl ?_)
 refine mB rfl rfl ?_
 iterate 2 refine cLs rfl rfl rfl (rfl) ?_
 refine cL rfl (o_pickF (v := .bool _) rfl rfl rfl ?_)
 refine aB rfl rfl ?_
 refine eL ?_
 exact le_mk ⟨rfl, rfl, rfl, rfl, rfl, rfl, rfl, rfl, rfl, rfl, (congrArg AV.bool (dAndT c1 (dAndT c2 (dAndF c3)))).symm, trivial⟩ rfl
 iterate 2 refine cLs rfl rfl rfl (decide_eq_false c2) ?_
 refine cL rfl (o_pickF (v := .bool _) rfl (decide_eq_false c2) rfl ?_)
 refine mB rfl rfl ?_
 iterate 2 refine cLs rfl rfl rfl (rfl) ?_
 refine cL rfl (o_pickF (v := .bool _) rfl rfl rfl ?_)
 refine mB rfl rfl ?_
 iterate 2 refine cLs rfl rfl rfl (rfl) ?_
 refine cL rfl (o_pickF (v := .bool _) rfl rfl rfl ?_)
 refine mB rfl rfl ?_
 iterate 2 refine cLs rfl rfl rfl (rfl) ?_
 refine cL rfl (o_pickF (v := .bool _) rfl rfl rfl ?_)
 refine mB rfl rfl ?_
 iterate 2 refine cLs rfl rfl rfl (rfl) ?_
 refine cL rfl (o_pickF (v := .bool _) rfl rfl rfl ?_)
 refine mB rfl rfl ?_
 iterate 2 refine cLs rfl rfl rfl (rfl) ?_
 refine cL rfl (o_pickF (v := .bool _) rfl rfl rfl ?_)
 refine aB rfl rfl ?_
 refine eL ?_
 exact le_mk ⟨rfl, rfl, rfl, rfl, rfl, rfl, rfl, rfl, rfl, rfl, (congrArg AV.bool (dAndT c1 (dAndF c2))).symm, trivial⟩ rfl
 iterate 2 refine cLs rfl rfl rfl (decide_eq_false c1) ?_
 refine cL rfl (o_pickF (v := .bool _) rfl (decide_eq_false c1) rfl ?_)
 refine mB rfl rfl ?_
 iterate 2 refine cLs rfl rfl rfl (rfl) ?_
 refine cL rfl (o_pickF (v := .bool _) rfl rfl rfl ?_)
 refine mB rfl rfl ?_
 iterate 2 refine cLs rfl rfl rfl (rfl) ?_
 refine cL rfl (o_pickF (v := .bool _) rfl rfl rfl ?_)
 refine mB rfl rfl ?_
 iterate 2 refine cLs rfl rfl rfl (rfl) ?_
 refine cL rfl (o_pickF (v := .bool _) rfl rfl rfl ?_)
 refine mB rfl rfl ?_
 iterate 2 refine cLs rfl rfl rfl (rfl) ?_
 refine cL rfl (o_pickF (v := .bool _) rfl rfl rfl ?_)
 refine mB rfl rfl ?_
 iterate 2 refine cLs rfl rfl rfl (rfl) ?_
 refine cL rfl (o_pickF (v := .bool _) rfl rfl rfl ?_)
 refine mB rfl rfl ?_
 iterate 2 refine cLs rfl rfl rfl (rfl) ?_
 refine cL rfl (o_pickF (v := .bool _) rfl rfl rfl ?_)
 refine aB rfl rfl ?_
 refine eL ?_
 exact le_mk ⟨rfl, rfl, rfl, rfl, rfl, rfl, rfl, rfl, rfl, rfl, (congrArg AV.bool (dAndF c1)).symm, trivial⟩ rfl
 obtain ⟨sd, hv⟩ := hv
 refine W.rLmT ⟨261, look [(1, .ref false 0 3), (2, .ptr 1 0), (14, .lst false y_4.1.length (encL eInt y_4.1)), (16, .ref false 5 (([(Con.mk 0 1 5 0), (Con.mk 1 2 3 0), (Con.mk 2 0 (-6) 0)] ++ [(Con.mk 1 0 (-6) 0)]).length)), (17, .ptr 6 0), (20, .ptr 7 0), (35, .bool (decide ((y_1.1 = (3 : Int)) ∧ ((y_1.2.1 = (5 : Int)) ∧ ((y_2.1 = (6 : Int)) ∧ ((y_2.2.1 = (8 : Int)) ∧ ((y_3.1 = (1 : Int)) ∧ ((y_3.2.1 = (3 : Int)) ∧ ((y_7.1 = (-1152921504606846976 : Int)) ∧ (y_7.2.1 = (8 : Int))))))))))), (36, .bool (decide ((y_5.2.1 = [(0 : Int), (3 : Int)]) ∧ (((y_5.1).n = (0 : Int)) ∧ ((((y.2.1.length : Nat) : Int) = (0 : Int)) ∧ (((cycleM ([(Con.mk 0 1 5 0), (Con.mk 1 2 3 0), (Con.mk 2 0 (-6) 0)] ++ [(Con.mk 1 0 (-6) 0)]) y_5.2.1) = true) ∧ ((¬ ((cycleM [(Con.mk 0 1 5 0), (Con.mk 1 2 3 0), (Con.mk 2 0 (-6) 0)] [(0 : Int), (1 : Int), (2 : Int)]) = true)) ∧ ((((addBM y_6.1 y_9).2.1) = true) ∧ (¬ ((y_10.2.1) = true))))))))))], [.row 25 4 (encL e25 [(Con.mk 0 1 5 0), (Con.mk 1 2 3 0), (Con.mk 2 0 (-6) 0)]), .box 34 [.int .i64 ((y.1).n), .lst false ((y.1).most).length (encL (eSl eInt true) ((y.1).most))], .dead, .dead, .dead, .row 25 4 (encL e25 ([(Con.mk 0 1 5 0), (Con.mk 1 2 3 0), (Con.mk 2 0 (-6) 0)] ++ [(Con.mk 1 0 (-6) 0)])), .box 34 [.int .i64 ((y_5.1).n), .lst false ((y_5.1).most).length (encL (eSl eInt true) ((y_5.1).most))], .box 34 [.int .i64 ((y_6.1).n), .lst false ((y_6.1).most).length (encL (eSl eInt true) ((y_6.1).most))]], false⟩ ?_ ?_
 refine mL rfl rfl ?_
 refine cL rfl (o_buildS (q := 11) (qs := [(0, .int _ _), (1, .int _ _)]) (cs := [.int _ _, .int _ _]) tt35 tt3 rfl rfl rfl rfl ?_)
 obtain ⟨s30, sd⟩ := sd
 refine cL rfl (o_callP1 (k := 18) (fst := []) (caps := []) (ys := [.lst _ _ _, .ref _ _ _]) rfl rfl (spec_ints y_5.2.1 [(0 : Int), (3 : Int)] s30) (Wks.cons (ag_lst _ _ _ _ _) (Wks.cons (ag_ref (fl := false) (xs := [(0 : Int), (3 : Int)]) encInt 4 _ rfl rfl) (Wks.refl _))) ?_)
 refine mB rfl rfl ?_
 by_cases c1 : y_5.2.1 = [(0 : Int), (3 : Int)]
 have sd := sd.1 c1
 refine cLg rfl rfl (decide_eq_true c1) ?_
 refine cL rfl (o_fa tt34 rfl tt3 rfl ?_)
 refine cLg rfl rfl (decide_eq_true c1) ?_
 refine cL rfl (o_ldS (v := .int _ _) tt3 rfl rfl ⟨_, rfl⟩ ?_)
 refine cLg rfl rfl (decide_eq_true c1) ?_
 refine cL rfl (o_eqI rfl rfl rfl ?_)
 refine cL rfl (o_pickT (v := .bool _) rfl (decide_eq_true c1) rfl ?_)
 refine mB rfl rfl ?_
 by_cases c2 : (y_5.1).n = (0 : Int)
 have sd := sd.1 c2
 refine cLg rfl rfl (decide_eq_true c2) ?_
 refine mL rfl rfl ?_
 refine cLg rfl rfl (decide_eq_true c2) ?_
 refine cL rfl (o_len (v := .lst _ _ _) tt35 rfl rfl ?_)
 refine cLg rfl rfl (decide_eq_true c2) ?_
 refine cL rfl (o_eqI rfl rfl rfl ?_)
 refine cL rfl (o_pickT (v := .bool _) rfl (decide_eq_true c2) rfl ?_)
 refine mB rfl rfl ?_
 by_cases c3 : ((y.2.1.length : Nat) : Int) = (0 : Int)
 have sd := sd.1 c3
 refine cLg rfl rfl (decide_eq_true c3) ?_
 refine cL rfl (o_move (v := .ref _ _ _) rfl ?_)
 refine cLg rfl rfl (decide_eq_true c3) ?_
 refine mL rfl rfl ?_
 refine cLg rfl rfl (decide_eq_true c3) ?_
 obtain ⟨s31, s32, sd⟩ := sd
 refine cL rfl (o_callP1 (k := 31) (fst := []) (caps := []) (ys := [.ref _ _ _, .lst _ _ _]) rfl rfl (spec_cycle ([(Con.mk 0 1 5 0), (Con.mk 1 2 3 0), (Con.mk 2 0 (-6) 0)] ++ [(Con.mk 1 0 (-6) 0)]) y_5.2.1 s31 s32) (Wks.cons (ag_ref (fl := false) (xs := [(Con.mk 0 1 5 0), (Con.mk 1 2 3 0), (Con.mk 2 0 (-6) 0)] ++ [(Con.mk 1 0 (-6) 0)]) enc25 4 _ rfl rfl) (Wks.cons (ag_lst _ _ _ _ _) (Wks.refl _))) ?_)
 refine cL rfl (o_pickT (v := .bool _) rfl (decide_eq_true c3) rfl ?_)
 refine mB rfl rfl ?_
 by_cases c4 : (cycleM ([(Con.mk 0 1 5 0), (Con.mk 1 2 3 0), (Con.mk 2 0 (-6) 0)] ++ [(Con.mk 1 0 (-6) 0)]) y_5.2.1) = true
 have sd := sd.1 c4
 refine cLg rfl rfl (c4) ?_
 refine cL rfl (o_move (v := .ref _ _ _) rfl ?_)
 refine cLg rfl rfl (c4) ?_
 refine cL rfl (o_buildS (q := 12) (qs := [(0, .int _ _), (1, .int _ _), (2, .int _ _)]) (cs := [.int _ _, .int _ _, .int _ _]) tt35 tt3 rfl rfl rfl rfl ?_)
 refine cLg rfl rfl (c4) ?_
 obtain ⟨s33, s34, sd⟩ := sd
 refine cL rfl (o_callP1 (k := 31) (fst := []) (caps := []) (ys := [.ref _ _ _, .ref _ _ _]) rfl rfl (spec_cycle [(Con.mk 0 1 5 0), (Con.mk 1 2 3 0), (Con.mk 2 0 (-6) 0)] [(0 : Int), (1 : Int), (2 : Int)] s33 s34) (Wks.cons (ag_ref (fl := false) (xs := [(Con.mk 0 1 5 0), (Con.mk 1 2 3 0), (Con.mk 2 0 (-6) 0)]) enc25 4 _ rfl rfl) (Wks.cons (ag_ref (fl := false) (xs := [(0 : Int), (1 : Int), (2 : Int)]) encInt 4 _ rfl rfl) (Wks.refl _))) ?_)
 refine cLg rfl rfl (c4) ?_
 refine cL rfl (o_notB rfl ?_)
 refine cL rfl (o_pickT (v := .bool _) rfl c4 rfl ?_)
 refine mB rfl rfl ?_
 by_cases c5 : ¬ ((cycleM [(Con.mk 0 1 5 0), (Con.mk 1 2 3 0), (Con.mk 2 0 (-6) 0)] [(0 : Int), (1 : Int), (2 : Int)]) = true)
 refine cLg rfl rfl (decide_eq_true c5) ?_
 refine mB rfl rfl ?_
 refine cL rfl (o_pickT (v := .bool _) rfl (decide_eq_true c5) rfl ?_)
 refine mB rfl rfl ?_
 by_cases c6 : ((addBM y_6.1 y_9).2.1) = true
 refine cLg rfl rfl (c6) ?_
 refine mB rfl rfl ?_
 refine cLg rfl rfl (c6) ?_
 refine cL rfl (o_notB rfl ?_)
 refine cL rfl (o_pickT (v := .bool _) rfl c6 rfl ?_)
 refine aB rfl rfl ?_
 refine eL ?_
 exact St.to_mk (φ := [some 0, some 1, none, none, none, some 5, some 6, some 7]) rfl (.inl rfl) ⟨Ren.ref rfl (fun h => h), Ren.ptr rfl, Ren.lst _ _ _, Ren.ref rfl (fun h => h), Ren.ptr rfl, Ren.ptr rfl, Ren.bool _, Ren.boolE (dAndT c1 (dAndT c2 (dAndT c3 (dAndT c4 (dAndT c5 (dAndT c6 (rfl))))))), trivial⟩ ⟨.inr ⟨_, rfl, rfl, rfl, rfl, Rens.enc enc25 false [(Con.mk 0 1 5 0), (Con.mk 1 2 3 0), (Con.mk 2 0 (-6) 0)]⟩, .inr ⟨_, rfl, rfl, Rens.cons (Ren.int _ _) (Rens.cons (Ren.lst _ _ _) (Rens.nil))⟩, rfl, rfl, rfl, .inr ⟨_, rfl, rfl, rfl, rfl, Rens.enc enc25 false ([(Con.mk 0 1 5 0), (Con.mk 1 2 3 0), (Con.mk 2 0 (-6) 0)] ++ [(Con.mk 1 0 (-6) 0)])⟩, .inr ⟨_, rfl, rfl, Rens.cons (Ren.int _ _) (Rens.cons (Ren.lst _ _ _) (Rens.nil))⟩, .inr ⟨_, rfl, rfl, Rens.cons (Ren.int _ _) (Rens.cons (Ren.lst _ _ _) (Rens.nil))⟩, trivial⟩
 iterate 2 refine cLs rfl rfl rfl ((Bool.eq_false_iff.2 c6)) ?_
 refine cL rfl (o_pickF (v := .bool _) rfl (Bool.eq_false_iff.2 c6) rfl ?_)
 refine aB rfl rfl ?_
 refine eL ?_
 exact St.to_mk (φ := [some 0, some 1, none, none, none, some 5, some 6, some 7]) rfl (.inl rfl) ⟨Ren.ref rfl (fun h => h), Ren.ptr rfl, Ren.lst _ _ _, Ren.ref rfl (fun h => h), Ren.ptr rfl, Ren.ptr rfl, Ren.bool _, Ren.boolE (dAndT c1 (dAndT c2 (dAndT c3 (dAndT c4 (dAndT c5 (dAndF c6)))))), trivial⟩ ⟨.inr ⟨_, rfl, rfl, rfl, rfl, Rens.enc enc25 false [(Con.mk 0 1 5 0), (Con.mk 1 2 3 0), (Con.mk 2 0 (-6) 0)]⟩, .inr ⟨_, rfl, rfl, Rens.cons (Ren.int _ _) (Rens.cons (Ren.lst _ _ _) (Rens.nil))⟩, rfl, rfl, rfl, .inr ⟨_, rfl, rfl, rfl, rfl, Rens.enc enc25 false ([(Con.mk 0 1 5 0), (Con.mk 1 2 3 0), (Con.mk 2 0 (-6) 0)] ++ [(Con.mk 1 0 (-6) 0)])⟩, .inr ⟨_, rfl, rfl, Rens.cons (Ren.int _ _) (Rens.cons (Ren.lst _ _ _) (Rens.nil))⟩, .inr ⟨_, rfl, rfl, Rens.cons (Ren.int _ _) (Rens.cons (Ren.lst _ _ _) (Rens.nil))⟩, trivial⟩
 refine cLs rfl rfl rfl (decide_eq_false c5) ?_
 refine cL rfl (o_pickF (v := .bool _) rfl (decide_eq_false c5) rfl ?_)
 refine mB rfl rfl ?_
 iterate 2 refine cLs rfl rfl rfl (rfl) ?_
 refine cL rfl (o_pickF (v := .bool _) rfl rfl rfl ?_)
 refine aB rfl rfl ?_
 refine eL ?_
 exact St.to_mk (φ := [some 0, some 1, none, none, none, some 5, some 6, some 7]) rfl (.inl rfl) ⟨Ren.ref rfl (fun h => h), Ren.ptr rfl, Ren.lst _ _ _, Ren.ref rfl (fun h => h), Ren.ptr rfl, Ren.ptr rfl, Ren.bool _, Ren.boolE (dAndT c1 (dAndT c2 (dAndT c3 (dAndT c4 (dAndF c5))))), trivial⟩ ⟨.inr ⟨_, rfl, rfl, rfl, rfl, Rens.enc enc25 false [(Con.mk 0 1 5 0), (Con.mk 1 2 3 0), (Con.mk 2 0 (-6) 0)]⟩, .inr ⟨_, rfl, rfl, Rens.cons (Ren.int _ _) (Rens.cons (Ren.lst _ _ _) (Rens.nil))⟩, rfl, rfl, rfl, .inr ⟨_, rfl, rfl, rfl, rfl, Rens.enc enc25 false ([(Con.mk 0 1 5 0), (Con.mk 1 2 3 0), (Con.mk 2 0 (-6) 0)] ++ [(Con.mk 1 0 (-6) 0)])⟩, .inr ⟨_, rfl, rfl, Rens.cons (Ren.int _ _) (Rens.cons (Ren.lst _ _ _) (Rens.nil))⟩, .inr ⟨_, rfl, rfl, Rens.cons (Ren.int _ _) (Rens.cons (Ren.lst _ _ _) (Rens.nil))⟩, trivial⟩
 iterate 4 refine cLs rfl rfl rfl ((Bool.eq_false_iff.2 c4)) ?_
 refine cL rfl (o_pickF (v := .bool _) rfl (Bool.eq_false_iff.2 c4) rfl ?_)
 refine mB rfl rfl ?_
 refine cLs rfl rfl rfl (rfl) ?_
 refine cL rfl (o_pickF (v := .bool _) rfl rfl rfl ?_)
 refine mB rfl rfl ?_
 iterate 2 refine cLs rfl rfl rfl (rfl) ?_
 refine cL rfl (o_pickF (v := .bool _) rfl rfl rfl ?_)
 refine aB rfl rfl ?_
 refine eL ?_
 exact St.to_mk (φ := [some 0, some 1, none, none, none, some 5, some 6, some 7]) rfl (.inl rfl) ⟨Ren.ref rfl (fun h => h), Ren.ptr rfl, Ren.lst _ _ _, Ren.ref rfl (fun h => h), Ren.ptr rfl, Ren.ptr rfl, Ren.bool _, Ren.boolE (dAndT c1 (dAndT c2 (dAndT c3 (dAndF c4)))), trivial⟩ ⟨.inr ⟨_, rfl, rfl, rfl, rfl, Rens.enc enc25 false [(Con.mk 0 1 5 0), (Con.mk 1 2 3 0), (Con.mk 2 0 (-6) 0)]⟩, .inr ⟨_, rfl, rfl, Rens.cons (Ren.int _ _) (Rens.cons (Ren.lst _ _ _) (Rens.nil))⟩, rfl, rfl, rfl, .inr ⟨_, rfl, rfl, rfl, rfl, Rens.enc enc25 false ([(Con.mk 0 1 5 0), (Con.mk 1 2 3 0), (Con.mk 2 0 (-6) 0)] ++ [(Con.mk 1 0 (-6) 0)])⟩, .inr ⟨_, rfl, rfl, Rens.cons (Ren.int _ _) (Rens.cons (Ren.lst _ _ _) (Rens.nil))⟩, .inr ⟨_, rfl, rfl, Rens.cons (Ren.int _ _) (Rens.cons (Ren.lst _ _ _) (Rens.nil))⟩, trivial⟩
 iterate 3 refine cLs rfl rfl rfl (decide_eq_false c3) ?_
 refine cL rfl (o_pickF (v := .bool _) rfl (decide_eq_false c3) rfl ?_)
 refine mB rfl rfl ?_
 iterate 4 refine cLs rfl rfl rfl (rfl) ?_
 refine cL rfl (o_pickF (v := .bool _) rfl rfl rfl ?_)
 refine mB rfl rfl ?_
 refine cLs rfl rfl rfl (rfl) ?_
 refine cL rfl (o_pickF (v := .bool _) rfl rfl rfl ?_)
 refine mB rfl rfl ?_
 iterate 2 refine cLs rfl rfl rfl (rfl) ?_
 refine cL rfl (o_pickF (v := .bool _) rfl rfl rfl ?_)
 refine aB rfl rfl ?_
 refine eL ?_
 exact St.to_mk (φ := [some 0, some 1, none, none, none, some 5, some 6, some 7]) rfl (.inl rfl) ⟨Ren.ref rfl (fun h => h), Ren.ptr rfl, Ren.lst _ _ _, Ren.ref rfl (fun h => h), Ren.ptr rfl, Ren.ptr rfl, Ren.bool _, Ren.boolE (dAndT c1 (dAndT c2 (dAndF c3))), trivial⟩ ⟨.inr ⟨_, rfl, rfl, rfl, rfl, Rens.enc enc25 false [(Con.mk 0 1 5 0), (Con.mk 1 2 3 0), (Con.mk 2 0 (-6) 0)]⟩, .inr ⟨_, rfl, rfl, Rens.cons (Ren.int _ _) (Rens.cons (Ren.lst _ _ _) (Rens.nil))⟩, rfl, rfl, rfl, .inr ⟨_, rfl, rfl, rfl, rfl, Rens.enc enc25 false ([(Con.mk 0 1 5 0), (Con.mk 1 2 3 0), (Con.mk 2 0 (-6) 0)] ++ [(Con.mk 1 0 (-6) 0)])⟩, .inr ⟨_, rfl, rfl, Rens.cons (Ren.int _ _) (Rens.cons (Ren.lst _ _ _) (Rens.nil))⟩, .inr ⟨_, rfl, rfl, Rens.cons (Ren.int _ _) (Rens.cons (Ren.lst _ _ _) (Rens.nil))⟩, trivial⟩
 iterate 3 refine cLs rfl rfl rfl (decide_eq_false c2) ?_
 refine cL rfl (o_pickF (v := .bool _) rfl (decide_eq_false c2) rfl ?_)
 refine mB rfl rfl ?_
 iterate 3 refine cLs rfl rfl rfl (rfl) ?_
 refine cL rfl (o_pickF (v := .bool _) rfl rfl rfl ?_)
 refine mB rfl rfl ?_
 iterate 4 refine cLs rfl rfl rfl (rfl) ?_
 refine cL rfl (o_pickF (v := .bool _) rfl rfl rfl ?_)
 refine mB rfl rfl ?_
 refine cLs rfl rfl rfl (rfl) ?_
 refine cL rfl (o_pickF (v := .bool _) rfl rfl rfl ?_)
 refine mB rfl rfl ?_
 iterate 2 refine cLs rfl rfl rfl (rfl) ?_
 refine cL rfl (o_pickF (v := .bool _) rfl rfl rfl ?_)
 refine aB rfl rfl ?_
 refine eL ?_
 exact St.to_mk (φ := [some 0, some 1, none, none, none, some 5, some 6, some 7]) rfl (.inl rfl) ⟨Ren.ref rfl (fun h => h), Ren.ptr rfl, Ren.lst _ _ _, Ren.ref rfl (fun h => h), Ren.ptr rfl, Ren.ptr rfl, Ren.bool _, Ren.boolE (dAndT c1 (dAndF c2)), trivial⟩ ⟨.inr ⟨_, rfl, rfl, rfl, rfl, Rens.enc enc25 false [(Con.mk 0 1 5 0), (Con.mk 1 2 3 0), (Con.mk 2 0 (-6) 0)]⟩, .inr ⟨_, rfl, rfl, Rens.cons (Ren.int _ _) (Rens.cons (Ren.lst _ _ _) (Rens.nil))⟩, rfl, rfl, rfl, .inr ⟨_, rfl, rfl, rfl, rfl, Rens.enc enc25 false ([(Con.mk 0 1 5 0), (Con.mk 1 2 3 0), (Con.mk 2 0 (-6) 0)] ++ [(Con.mk 1 0 (-6) 0)])⟩, .inr ⟨_, rfl, rfl, Rens.cons (Ren.int _ _) (Rens.cons (Ren.lst _ _ _) (Rens.nil))⟩, .inr ⟨_, rfl, rfl, Rens.cons (Ren.int _ _) (Rens.cons (Ren.lst _ _ _) (Rens.nil))⟩, trivial⟩
 iterate 3 refine cLs rfl rfl rfl (decide_eq_false c1) ?_
 refine cL rfl (o_pickF (v := .bool _) rfl (decide_eq_false c1) rfl ?_)
 refine mB rfl rfl ?_
 iterate 3 refine cLs rfl rfl rfl (rfl) ?_
 refine cL rfl (o_pickF (v := .bool _) rfl rfl rfl ?_)
 refine mB rfl rfl ?_
 iterate 3 refine cLs rfl rfl rfl (rfl) ?_
 refine cL rfl (o_pickF (v := .bool _) rfl rfl rfl ?_)
 refine mB rfl rfl ?_
 iterate 4 refine cLs rfl rfl rfl (rfl) ?_
 refine cL rfl (o_pickF (v := .bool _) rfl rfl rfl ?_)
 refine mB rfl rfl ?_
 refine cLs rfl rfl rfl (rfl) ?_
 refine cL rfl (o_pickF (v := .bool _) rfl rfl rfl ?_)
 refine mB rfl rfl ?_
 iterate 2 refine cLs rfl rfl rfl (rfl) ?_
 refine cL rfl (o_pickF (v := .bool _) rfl rfl rfl ?_)
 refine aB rfl rfl ?_
 refine eL ?_
 exact St.to_mk (φ := [some 0, some 1, none, none, none, some 5, some 6, some 7]) rfl (.inl rfl) ⟨Ren.ref rfl (fun h => h), Ren.ptr rfl, Ren.lst _ _ _, Ren.ref rfl (fun h => h), Ren.ptr rfl, Ren.ptr rfl, Ren.bool _, Ren.boolE (dAndF c1), trivial⟩ ⟨.inr ⟨_, rfl, rfl, rfl, rfl, Rens.enc enc25 false [(Con.mk 0 1 5 0), (Con.mk 1 2 3 0), (Con.mk 2 0 (-6) 0)]⟩, .inr ⟨_, rfl, rfl, Rens.cons (Ren.int _ _) (Rens.cons (Ren.lst _ _ _) (Rens.nil))⟩, rfl, rfl, rfl, .inr ⟨_, rfl, rfl, rfl, rfl, Rens.enc enc25 false ([(Con.mk 0 1 5 0), (Con.mk 1 2 3 0), (Con.mk 2 0 (-6) 0)] ++ [(Con.mk 1 0 (-6) 0)])⟩, .inr ⟨_, rfl, rfl, Rens.cons (Ren.int _ _) (Rens.cons (Ren.lst _ _ _) (Rens.nil))⟩, .inr ⟨_, rfl, rfl, Rens.cons (Ren.int _ _) (Rens.cons (Ren.lst _ _ _) (Rens.nil))⟩, trivial⟩
 obtain ⟨sd, hv⟩ := hv
 refine W.rLmT ⟨261, look [(0, .bool (decide (((y_1.1 = (3 : Int)) ∧ ((y_1.2.1 = (5 : Int)) ∧ ((y_2.1 = (6 : Int)) ∧ ((y_2.2.1 = (8 : Int)) ∧ ((y_3.1 = (1 : Int)) ∧ ((y_3.2.1 = (3 : Int)) ∧ ((y_7.1 = (-1152921504606846976 : Int)) ∧ (y_7.2.1 = (8 : Int))))))))) ∧ (((y_5.2.1 = [(0 : Int), (3 : Int)]) ∧ (((y_5.1).n = (0 : Int)) ∧ ((((y.2.1.length : Nat) : Int) = (0 : Int)) ∧ (((cycleM ([(Con.mk 0 1 5 0), (Con.mk 1 2 3 0), (Con.mk 2 0 (-6) 0)] ++ [(Con.mk 1 0 (-6) 0)]) y_5.2.1) = true) ∧ ((¬ ((cycleM [(Con.mk 0 1 5 0), (Con.mk 1 2 3 0), (Con.mk 2 0 (-6) 0)] [(0 : Int), (1 : Int), (2 : Int)]) = true)) ∧ ((((addBM y_6.1 y_9).2.1) = true) ∧ (¬ ((y_10.2.1) = true)))))))) ∧ ((y_4.1 = [(0 : Int), (5 : Int), (7 : Int)]) ∧ (((holdsM [(Con.mk 0 1 5 0), (Con.mk 1 2 3 0), (Con.mk 2 0 (-6) 0)] y_4.1) = true) ∧ ((¬ ((holdsM ([(Con.mk 0 1 5 0), (Con.mk 1 2 3 0), (Con.mk 2 0 (-6) 0)] ++ [(Con.mk 1 0 (-6) 0)]) y_4.1) = true)) ∧ (((validBM y.1) = true) ∧ ((¬ ((validBM y_5.1) = true)) ∧ (((sameM y.1 y.1) = true) ∧ (¬ ((sameM y.1 y_6.1) = true))))))))))))], [.dead], false⟩ ?_ ?_
 iterate 2 refine mB rfl rfl ?_
 by_cases c1 : (y_1.1 = (3 : Int)) ∧ ((y_1.2.1 = (5 : Int)) ∧ ((y_2.1 = (6 : Int)) ∧ ((y_2.2.1 = (8 : Int)) ∧ ((y_3.1 = (1 : Int)) ∧ ((y_3.2.1 = (3 : Int)) ∧ ((y_7.1 = (-1152921504606846976 : Int)) ∧ (y_7.2.1 = (8 : Int))))))))
 have sd := sd.1 c1
 refine cLg rfl rfl (decide_eq_true c1) ?_
 refine mB rfl rfl ?_
 refine cL rfl (o_pickT (v := .bool _) rfl (decide_eq_true c1) rfl ?_)
 refine mB rfl rfl ?_
 by_cases c2 : (y_5.2.1 = [(0 : Int), (3 : Int)]) ∧ (((y_5.1).n = (0 : Int)) ∧ ((((y.2.1.length : Nat) : Int) = (0 : Int)) ∧ (((cycleM ([(Con.mk 0 1 5 0), (Con.mk 1 2 3 0), (Con.mk 2 0 (-6) 0)] ++ [(Con.mk 1 0 (-6) 0)]) y_5.2.1) = true) ∧ ((¬ ((cycleM [(Con.mk 0 1 5 0), (Con.mk 1 2 3 0), (Con.mk 2 0 (-6) 0)] [(0 : Int), (1 : Int), (2 : Int)]) = true)) ∧ ((((addBM y_6.1 y_9).2.1) = true) ∧ (¬ ((y_10.2.1) = true)))))))
 have sd := sd.1 c2
 refine cLg rfl rfl (decide_eq_true c2) ?_
 refine mL rfl rfl ?_
 refine cLg rfl rfl (decide_eq_true c2) ?_
 refine cL rfl (o_buildS (q := 8) (qs := [(0, .int _ _), (1, .int _ _), (2, .int _ _)]) (cs := [.int _ _, .int _ _, .int _ _]) tt35 tt3 rfl rfl rfl rfl ?_)
 refine cLg rfl rfl (decide_eq_true c2) ?_
 obtain ⟨s48, sd⟩ := sd
 refine cL rfl (o_callP1 (k := 18) (fst := []) (caps := []) (ys := [.lst _ _ _, .ref _ _ _]) rfl rfl (spec_ints y_4.1 [(0 : Int), (5 : Int), (7 : Int)] s48) (Wks.cons (ag_lst _ _ _ _ _) (Wks.cons (ag_ref (fl := false) (xs := [(0 : Int), (5 : Int), (7 : Int)]) encInt 4 _ rfl rfl) (Wks.refl _))) ?_)
 refine cL rfl (o_pickT (v := .bool _) rfl (decide_eq_true c2) rfl ?_)
 refine mB rfl rfl ?_
 by_cases c3 : y_4.1 = [(0 : Int), (5 : Int), (7 : Int)]
 have sd := sd.1 c3
 refine cLg rfl rfl (decide_eq_true c3) ?_
 refine cL rfl (o_move (v := .ref _ _ _) rfl ?_)
 refine cLg rfl rfl (decide_eq_true c3) ?_
 refine mL rfl rfl ?_
 refine cLg rfl rfl (decide_eq_true c3) ?_
 obtain ⟨s49, s50, sd⟩ := sd
 refine cL rfl (o_callP1 (k := 28) (fst := []) (caps := []) (ys := [.ref _ _ _, .lst _ _ _]) rfl rfl (spec_holds [(Con.mk 0 1 5 0), (Con.mk 1 2 3 0), (Con.mk 2 0 (-6) 0)] y_4.1 s49 s50) (Wks.cons (ag_ref (fl := false) (xs := [(Con.mk 0 1 5 0), (Con.mk 1 2 3 0), (Con.mk 2 0 (-6) 0)]) enc25 4 _ rfl rfl) (Wks.cons (ag_lst _ _ _ _ _) (Wks.refl _))) ?_)
 refine cL rfl (o_pickT (v := .bool _) rfl (decide_eq_true c3) rfl ?_)
 refine mB rfl rfl ?_
 by_cases c4 : (holdsM [(Con.mk 0 1 5 0), (Con.mk 1 2 3 0), (Con.mk 2 0 (-6) 0)] y_4.1) = true
 have sd := sd.1 c4
 refine cLg rfl rfl (c4) ?_
 refine cL rfl (o_move (v := .ref _ _ _) rfl ?_)
 refine cLg rfl rfl (c4) ?_
 refine mL rfl rfl ?_
 refine cLg rfl rfl (c4) ?_
 obtain ⟨s51, s52, sd⟩ := sd
 refine cL rfl (o_callP1 (k := 28) (fst := []) (caps := []) (ys := [.ref _ _ _, .lst _ _ _]) rfl rfl (spec_holds ([(Con.mk 0 1 5 0), (Con.mk 1 2 3 0), (Con.mk 2 0 (-6) 0)] ++ [(Con.mk 1 0 (-6) 0)]) y_4.1 s51 s52) (Wks.cons (ag_ref (fl := false) (xs := [(Con.mk 0 1 5 0), (Con.mk 1 2 3 0), (Con.mk 2 0 (-6) 0)] ++ [(Con.mk 1 0 (-6) 0)]) enc25 4 _ rfl rfl) (Wks.cons (ag_lst _ _ _ _ _) (Wks.refl _))) ?_)
 refine cLg rfl rfl (c4) ?_
 refine cL rfl (o_notB rfl ?_)
 refine cL rfl (o_pickT (v := .bool _) rfl c4 rfl ?_)
 refine mB rfl rfl ?_
 by_cases c5 : ¬ ((holdsM ([(Con.mk 0 1 5 0), (Con.mk 1 2 3 0), (Con.mk 2 0 (-6) 0)] ++ [(Con.mk 1 0 (-6) 0)]) y_4.1) = true)
 have sd := sd.1 c5
 refine cLg rfl rfl (decide_eq_true c5) ?_
 refine cL rfl (o_ldA (cs := [.int _ _, .lst _ _ _]) tt34 rfl rfl ⟨_, rfl⟩ rfl ?_)
 refine cLg rfl rfl (decide_eq_true c5) ?_
 obtain ⟨s53, s54, sd⟩ := sd
 refine cL rfl (o_callP1 (k := 25) (fst := []) (caps := []) (ys := [.agg _]) rfl rfl (spec_vald y.1 s53 s54) (Wks.cons (ag_agg 5 _ (Wks.cons (ag_int _ _ _ _) (Wks.cons (ag_lst _ _ _ _ _) (Wks.refl _)))) (Wks.refl _)) ?_)
 refine cL rfl (o_pickT (v := .bool _) rfl (decide_eq_true c5) rfl ?_)
 refine mB rfl rfl ?_
 by_cases c6 : (validBM y.1) = true
 have sd := sd.1 c6
 refine cLg rfl rfl (c6) ?_
 refine cL rfl (o_ldA (cs := [.int _ _, .lst _ _ _]) tt34 rfl rfl ⟨_, rfl⟩ rfl ?_)
 refine cLg rfl rfl (c6) ?_
 obtain ⟨s55, s56, sd⟩ := sd
 refine cL rfl (o_callP1 (k := 25) (fst := []) (caps := []) (ys := [.agg _]) rfl rfl (spec_vald y_5.1 s55 s56) (Wks.cons (ag_agg 5 _ (Wks.cons (ag_int _ _ _ _) (Wks.cons (ag_lst _ _ _ _ _) (Wks.refl _)))) (Wks.refl _)) ?_)
 refine cLg rfl rfl (c6) ?_
 refine cL rfl (o_notB rfl ?_)
 refine cL rfl (o_pickT (v := .bool _) rfl c6 rfl ?_)
 refine mB rfl rfl ?_
 by_cases c7 : ¬ ((validBM y_5.1) = true)
 have sd := sd.1 c7
 refine cLg rfl rfl (decide_eq_true c7) ?_
 refine cL rfl (o_ldA (cs := [.int _ _, .lst _ _ _]) tt34 rfl rfl ⟨_, rfl⟩ rfl ?_)
 refine cLg rfl rfl (decide_eq_true c7) ?_
 refine cL rfl (o_ldA (cs := [.int _ _, .lst _ _ _]) tt34 rfl rfl ⟨_, rfl⟩ rfl ?_)
 refine cLg rfl rfl (decide_eq_true c7) ?_
 obtain ⟨s57, s58, sd⟩ := sd
 refine cL rfl (o_callP1 (k := 27) (fst := []) (caps := []) (ys := [.agg _, .agg _]) rfl rfl (spec_same y.1 y.1 s57 s58) (Wks.cons (ag_agg 5 _ (Wks.cons (ag_int _ _ _ _) (Wks.cons (ag_lst _ _ _ _ _) (Wks.refl _)))) (Wks.cons (ag_agg 5 _ (Wks.cons (ag_int _ _ _ _) (Wks.cons (ag_lst _ _ _ _ _) (Wks.refl _)))) (Wks.refl _))) ?_)
 refine cL rfl (o_pickT (v := .bool _) rfl (decide_eq_true c7) rfl ?_)
 refine mB rfl rfl ?_
 by_cases c8 : (sameM y.1 y.1) = true
 have sd := sd.1 c8
 refine cLg rfl rfl (c8) ?_
 refine cL rfl (o_ldA (cs := [.int _ _, .lst _ _ _]) tt34 rfl rfl ⟨_, rfl⟩ rfl ?_)
 refine cLg rfl rfl (c8) ?_
 refine cL rfl (o_ldA (cs := [.int _ _, .lst _ _ _]) tt34 rfl rfl ⟨_, rfl⟩ rfl ?_)
 refine cLg rfl rfl (c8) ?_
 obtain ⟨s59, s60, sd⟩ := sd
 refine cL rfl (o_callP1 (k := 27) (fst := []) (caps := []) (ys := [.agg _, .agg _]) rfl rfl (spec_same y.1 y_6.1 s59 s60) (Wks.cons (ag_agg 5 _ (Wks.cons (ag_int _ _ _ _) (Wks.cons (ag_lst _ _ _ _ _) (Wks.refl _)))) (Wks.cons (ag_agg 5 _ (Wks.cons (ag_int _ _ _ _) (Wks.cons (ag_lst _ _ _ _ _) (Wks.refl _)))) (Wks.refl _))) ?_)
 refine cLg rfl rfl (c8) ?_
 refine cL rfl (o_notB rfl ?_)
 refine cL rfl (o_pickT (v := .bool _) rfl c8 rfl ?_)
 refine aB rfl rfl ?_
 refine eL ?_
 exact St.to_mk (φ := [none]) rfl (.inl rfl) ⟨Ren.boolE (dAndT c1 (dAndT c2 (dAndT c3 (dAndT c4 (dAndT c5 (dAndT c6 (dAndT c7 (dAndT c8 (rfl))))))))), trivial⟩ ⟨rfl, trivial⟩
 iterate 4 refine cLs rfl rfl rfl ((Bool.eq_false_iff.2 c8)) ?_
 refine cL rfl (o_pickF (v := .bool _) rfl (Bool.eq_false_iff.2 c8) rfl ?_)
 refine aB rfl rfl ?_
 refine eL ?_
 exact St.to_mk (φ := [none]) rfl (.inl rfl) ⟨Ren.boolE (dAndT c1 (dAndT c2 (dAndT c3 (dAndT c4 (dAndT c5 (dAndT c6 (dAndT c7 (dAndF c8)))))))), trivial⟩ ⟨rfl, trivial⟩
 iterate 3 refine cLs rfl rfl rfl (decide_eq_false c7) ?_
 refine cL rfl (o_pickF (v := .bool _) rfl (decide_eq_false c7) rfl ?_)
 refine mB rfl rfl ?_
 iterate 4 refine cLs rfl rfl rfl (rfl) ?_
 refine cL rfl (o_pickF (v := .bool _) rfl rfl rfl ?_)
 refine aB rfl rfl ?_
 refine eL ?_
 exact St.to_mk (φ := [none]) rfl (.inl rfl) ⟨Ren.boolE (dAndT c1 (dAndT c2 (dAndT c3 (dAndT c4 (dAndT c5 (dAndT c6 (dAndF c7))))))), trivial⟩ ⟨rfl, trivial⟩
 iterate 3 refine cLs rfl rfl rfl ((Bool.eq_false_iff.2 c6)) ?_
 refine cL rfl (o_pickF (v := .bool _) rfl (Bool.eq_false_iff.2 c6) rfl ?_)
 refine mB rfl rfl ?_
 iterate 3 refine cLs rfl rfl rfl (rfl) ?_
 refine cL rfl (o_pickF (v := .bool _) rfl rfl rfl ?_)
 refine mB rfl rfl ?_
 iterate 4 refine cLs rfl rfl rfl (rfl) ?_
 refine cL rfl (o_pickF (v := .bool _) rfl rfl rfl ?_)
 refine aB rfl rfl ?_
 refine eL ?_
 exact St.to_mk (φ := [none]) rfl (.inl rfl) ⟨Ren.boolE (dAndT c1 (dAndT c2 (dAndT c3 (dAndT c4 (dAndT c5 (dAndF c6)))))), trivial⟩ ⟨rfl, trivial⟩
 iterate 2 refine cLs rfl rfl rfl (decide_eq_false c5) ?_
 refine cL rfl (o_pickF (v := .bool _) rfl (decide_eq_false c5) rfl ?_)
 refine mB rfl rfl ?_
 iterate 3 refine cLs rfl rfl rfl (rfl) ?_
 refine cL rfl (o_pickF (v := .bool _) rfl rfl rfl ?_)
 refine mB rfl rfl ?_
 iterate 3 refine cLs rfl rfl rfl (rfl) ?_
 refine cL rfl (o_pickF (v := .bool _) rfl rfl rfl ?_)
 refine mB rfl rfl ?_
 iterate 4 refine cLs rfl rfl rfl (rfl) ?_
 refine cL rfl (o_pickF (v := .bool _) rfl rfl rfl ?_)
 refine aB rfl rfl ?_
 refine eL ?_
 exact St.to_mk (φ := [none]) rfl (.inl rfl) ⟨Ren.boolE (dAndT c1 (dAndT c2 (dAndT c3 (dAndT c4 (dAndF c5))))), trivial⟩ ⟨rfl, trivial⟩
 iterate 4 refine cLs rfl rfl rfl ((Bool.eq_false_iff.2 c4)) ?_
 refine cL rfl (o_pickF (v := .bool _) rfl (Bool.eq_false_iff.2 c4) rfl ?_)
 refine mB rfl rfl ?_
 iterate 2 refine cLs rfl rfl rfl (rfl) ?_
 refine cL rfl (o_pickF (v := .bool _) rfl rfl rfl ?_)
 refine mB rfl rfl ?_
 iterate 3 refine cLs rfl rfl rfl (rfl) ?_
 refine cL rfl (o_pickF (v := .bool _) rfl rfl rfl ?_)
 refine mB rfl rfl ?_
 iterate 3 refine cLs rfl rfl rfl (rfl) ?_
 refine cL rfl (o_pickF (v := .bool _) rfl rfl rfl ?_)
 refine mB rfl rfl ?_
 iterate 4 refine cLs rfl rfl rfl (rfl) ?_
 refine cL rfl (o_pickF (v := .bool _) rfl rfl rfl ?_)
 refine aB rfl rfl ?_
 refine eL ?_
 exact St.to_mk (φ := [none]) rfl (.inl rfl) ⟨Ren.boolE (dAndT c1 (dAndT c2 (dAndT c3 (dAndF c4)))), trivial⟩ ⟨rfl, trivial⟩
 iterate 3 refine cLs rfl rfl rfl (decide_eq_false c3) ?_
 refine cL rfl (o_pickF (v := .bool _) rfl (decide_eq_false c3) rfl ?_)
 refine mB rfl rfl ?_
 iterate 4 refine cLs rfl rfl rfl (rfl) ?_
 refine cL rfl (o_pickF (v := .bool _) rfl rfl rfl ?_)
 refine mB rfl rfl ?_
 iterate 2 refine cLs rfl rfl rfl (rfl) ?_
 refine cL rfl (o_pickF (v := .bool _) rfl rfl rfl ?_)
 refine mB rfl rfl ?_
 iterate 3 refine cLs rfl rfl rfl (rfl) ?_
 refine cL rfl (o_pickF (v := .bool _) rfl rfl rfl ?_)
 refine mB rfl rfl ?_
 iterate 3 refine cLs rfl rfl rfl (rfl) ?_
 refine cL rfl (o_pickF (v := .bool _) rfl rfl rfl ?_)
 refine mB rfl rfl ?_
 iterate 4 refine cLs rfl rfl rfl (rfl) ?_
 refine cL rfl (o_pickF (v := .bool _) rfl rfl rfl ?_)
 refine aB rfl rfl ?_
 refine eL ?_
 exact St.to_mk (φ := [none]) rfl (.inl rfl) ⟨Ren.boolE (dAndT c1 (dAndT c2 (dAndF c3))), trivial⟩ ⟨rfl, trivial⟩
 iterate 3 refine cLs rfl rfl rfl (decide_eq_false c2) ?_
 refine cL rfl (o_pickF (v := .bool _) rfl (decide_eq_false c2) rfl ?_)
 refine mB rfl rfl ?_
 iterate 3 refine cLs rfl rfl rfl (rfl) ?_
 refine cL rfl (o_pickF (v := .bool _) rfl rfl rfl ?_)
 refine mB rfl rfl ?_
 iterate 4 refine cLs rfl rfl rfl (rfl) ?_
 refine cL rfl (o_pickF (v := .bool _) rfl rfl rfl ?_)
 refine mB rfl rfl ?_
 iterate 2 refine cLs rfl rfl rfl (rfl) ?_
 refine cL rfl (o_pickF (v := .bool _) rfl rfl rfl ?_)
 refine mB rfl rfl ?_
 iterate 3 refine cLs rfl rfl rfl (rfl) ?_
 refine cL rfl (o_pickF (v := .bool _) rfl rfl rfl ?_)
 refine mB rfl rfl ?_
 iterate 3 refine cLs rfl rfl rfl (rfl) ?_
 refine cL rfl (o_pickF (v := .bool _) rfl rfl rfl ?_)
 refine mB rfl rfl ?_
 iterate 4 refine cLs rfl rfl rfl (rfl) ?_
 refine cL rfl (o_pickF (v := .bool _) rfl rfl rfl ?_)
 refine aB rfl rfl ?_
 refine eL ?_
 exact St.to_mk (φ := [none]) rfl (.inl rfl) ⟨Ren.boolE (dAndT c1 (dAndF c2)), trivial⟩ ⟨rfl, trivial⟩
 refine cLs rfl rfl rfl (decide_eq_false c1) ?_
 refine cL rfl (o_pickF (v := .bool _) rfl (decide_eq_false c1) rfl ?_)
 refine mB rfl rfl ?_
 iterate 3 refine cLs rfl rfl rfl (rfl) ?_
 refine cL rfl (o_pickF (v := .bool _) rfl rfl rfl ?_)
 refine mB rfl rfl ?_
 iterate 3 refine cLs rfl rfl rfl (rfl) ?_
 refine cL rfl (o_pickF (v := .bool _) rfl rfl rfl ?_)
 refine mB rfl rfl ?_
 iterate 4 refine cLs rfl rfl rfl (rfl) ?_
 refine cL rfl (o_pickF (v := .bool _) rfl rfl rfl ?_)
 refine mB rfl rfl ?_
 iterate 2 refine cLs rfl rfl rfl (rfl) ?_
 refine cL rfl (o_pickF (v := .bool _) rfl rfl rfl ?_)
 refine mB rfl rfl ?_
 iterate 3 refine cLs rfl rfl rfl (rfl) ?_
 refine cL rfl (o_pickF (v := .bool _) rfl rfl rfl ?_)
 refine mB rfl rfl ?_
 iterate 3 refine cLs rfl rfl rfl (rfl) ?_
 refine cL rfl (o_pickF (v := .bool _) rfl rfl rfl ?_)
 refine mB rfl rfl ?_
 iterate 4 refine cLs rfl rfl rfl (rfl) ?_
 refine cL rfl (o_pickF (v := .bool _) rfl rfl rfl ?_)
 refine aB rfl rfl ?_
 refine eL ?_
 exact St.to_mk (φ := [none]) rfl (.inl rfl) ⟨Ren.boolE (dAndF c1), trivial⟩ ⟨rfl, trivial⟩
 refine W.ret ?_
 refine rt ?_
 refine rt_t (v := .bool _) rfl ?_
 refine rt_n ?_
 exact ⟨_, rs_bool _ _ _, (decide (((y_1.1 = (3 : Int)) ∧ ((y_1.2.1 = (5 : Int)) ∧ ((y_2.1 = (6 : Int)) ∧ ((y_2.2.1 = (8 : Int)) ∧ ((y_3.1 = (1 : Int)) ∧ ((y_3.2.1 = (3 : Int)) ∧ ((y_7.1 = (-1152921504606846976 : Int)) ∧ (y_7.2.1 = (8 : Int))))))))) ∧ (((y_5.2.1 = [(0 : Int), (3 : Int)]) ∧ (((y_5.1).n = (0 : Int)) ∧ ((((y.2.1.length : Nat) : Int) = (0 : Int)) ∧ (((cycleM ([(Con.mk 0 1 5 0), (Con.mk 1 2 3 0), (Con.mk 2 0 (-6) 0)] ++ [(Con.mk 1 0 (-6) 0)]) y_5.2.1) = true) ∧ ((¬ ((cycleM [(Con.mk 0 1 5 0), (Con.mk 1 2 3 0), (Con.mk 2 0 (-6) 0)] [(0 : Int), (1 : Int), (2 : Int)]) = true)) ∧ ((((addBM y_6.1 y_9).2.1) = true) ∧ (¬ ((y_10.2.1) = true)))))))) ∧ ((y_4.1 = [(0 : Int), (5 : Int), (7 : Int)]) ∧ (((holdsM [(Con.mk 0 1 5 0), (Con.mk 1 2 3 0), (Con.mk 2 0 (-6) 0)] y_4.1) = true) ∧ ((¬ ((holdsM ([(Con.mk 0 1 5 0), (Con.mk 1 2 3 0), (Con.mk 2 0 (-6) 0)] ++ [(Con.mk 1 0 (-6) 0)]) y_4.1) = true)) ∧ (((validBM y.1) = true) ∧ ((¬ ((validBM y_5.1) = true)) ∧ (((sameM y.1 y.1) = true) ∧ (¬ ((sameM y.1 y_6.1) = true))))))))))), rfl, hv⟩
theorem vcp_sane   : vc_sane (fun q0 => q0 = (true)) := by
  unfold vc_sane
  simp only [forall_eq']
  have e1 : [(Con.mk 0 1 5 0), (Con.mk 1 2 3 0), (Con.mk 2 0 (-6) 0)].take (2 : Int).toNat = [(Con.mk 0 1 5 0), (Con.mk 1 2 3 0)] := rfl
  have e2 : [(Con.mk 0 1 5 0), (Con.mk 1 2 3 0), (Con.mk 2 0 (-6) 0)] ++ [(Con.mk 1 0 (-6) 0)] = [(Con.mk 0 1 5 0), (Con.mk 1 2 3 0), (Con.mk 2 0 (-6) 0), (Con.mk 1 0 (-6) 0)] := rfl
  simp only [e1, e2, sane1, sane2, sane3, sane4, sane5, sane6, sane7, sane8, sane9, sane10, sane11, sane12, sane13, sane14, sane15, sane16, sane17, sane18, sane19, sane20, sane21]
  simp
theorem spec_sane   : FnP Try.prog 11 [] (fun xR => xR = .bool (true)) :=
  (walk_sane (vcp_sane)).mono (by rintro _ ⟨_, rfl, rfl⟩; rfl)
end Go.Lat
