/- The law latecomerlaw07.BoundsExact returns true for every input, and each argument reads afterwards as it read before. Part 11 of 12. No condition. -/
import Derived.Test.YtikbpchifcjomaaLatD
import Derived.Test.YtikbpchifcjomaaLatE
import Derived.Test.YtikbpchifcjomaaLatF
import Derived.Test.YtikbpchifcjomaaLatG
import Derived.Test.YtikbpchifcjomaaLatH
import Derived.Test.YtikbpchifcjomaaLatI
import Derived.Test.YtikbpchifcjomaaLatJ
set_option linter.unusedVariables false
set_option linter.unusedSimpArgs false
set_option linter.unnecessarySimpa false
namespace Go.Lat
open Go.RowKit Go.Proofs
attribute [local irreducible] closeM rangeM pointM addBM cycleM holdsM validBM sameM madeM pickM plusM validM possM firstM tableM longerM boundsM ofM addM freeM
theorem nextX {m : Nat} (hm : 1 ≤ m ∧ m ≤ 3) {a b c : Int} (hb : -12 ≤ b ∧ b ≤ 12) (hc : -12 ≤ c ∧ c ≤ 12) :
    ∃ v' b' c', nextM [a, b, c] m 12 = (v', [a, b', c']) ∧ (-12 ≤ b' ∧ b' ≤ 12) ∧ (-12 ≤ c' ∧ c' ≤ 12) ∧ (v' = true → (12 - b') + 25 * (12 - c') < (12 - b) + 25 * (12 - c)) := by
  match m, hm with
  | 1, _ =>
    refine ⟨false, b, c, rfl, hb, hc, fun h => by cases h⟩
  | 2, _ =>
    by_cases e : b < 12
    · refine ⟨true, b + 1, c, ?_, by omega, hc, fun _ => by omega⟩
      unfold nextM nextFrom
      rw [if_pos (by omega), if_pos (show [a, b, c].getD 1 0 < 12 from e)]; rfl
    · refine ⟨false, -12, c, ?_, by omega, hc, fun h => by cases h⟩
      unfold nextM nextFrom
      rw [if_pos (by omega), if_neg (show ¬ [a, b, c].getD 1 0 < 12 from e)]; rfl
  | 3, _ =>
    by_cases e : b < 12
    · refine ⟨true, b + 1, c, ?_, by omega, hc, fun _ => by omega⟩
      unfold nextM nextFrom
      rw [if_pos (by omega), if_pos (show [a, b, c].getD 1 0 < 12 from e)]; rfl
    · by_cases e2 : c < 12
      · refine ⟨true, -12, c + 1, ?_, by omega, by omega, fun _ => by omega⟩
        unfold nextM nextFrom
        rw [if_pos (by omega), if_neg (show ¬ [a, b, c].getD 1 0 < 12 from e)]
        unfold nextFrom
        rw [if_pos (by omega), if_pos (show ([a, b, c].set 1 (-12)).getD 2 0 < 12 from e2)]; rfl
      · refine ⟨false, -12, -12, ?_, by omega, by omega, fun h => by cases h⟩
        unfold nextM nextFrom
        rw [if_pos (by omega), if_neg (show ¬ [a, b, c].getD 1 0 < 12 from e)]
        unfold nextFrom
        rw [if_pos (by omega), if_neg (show ¬ ([a, b, c].set 1 (-12)).getD 2 0 < 12 from e2)]; rfl
/-- What the walk through latecomerlaw07.BoundsExact asks. -/
def vc_Exact (n : Int) (x : (List A3)) (Post : Bool → Prop) : Prop :=
  ((¬ true = true) → Post false) ∧ (¬ (¬ true = true) → (inI n) ∧ (1 ≤ (3 : Int)) ∧ (inI ((1 : Int) + (pickM n (3 : Int)))) ∧ (1 ≤ ((1 : Int) + (pickM n (3 : Int)))) ∧ (((1 : Int) + (pickM n (3 : Int))) ≤ 1000) ∧ (∀ y ∈ x, inI y.x0 ∧ inI y.x1 ∧ inI y.x2) ∧ ((madeM ((1 : Int) + (pickM n (3 : Int))) x).length ≤ 1073741824) ∧ (((¬ (closeM ((1 : Int) + (pickM n (3 : Int))) (madeM ((1 : Int) + (pickM n (3 : Int))) x)).2.2 = (0 : Int)) ∧ (¬ (closeM ((1 : Int) + (pickM n (3 : Int))) (madeM ((1 : Int) + (pickM n (3 : Int))) x)).2.2 = (70 : Int))) → Post false) ∧ (¬ ((¬ (closeM ((1 : Int) + (pickM n (3 : Int))) (madeM ((1 : Int) + (pickM n (3 : Int))) x)).2.2 = (0 : Int)) ∧ (¬ (closeM ((1 : Int) + (pickM n (3 : Int))) (madeM ((1 : Int) + (pickM n (3 : Int))) x)).2.2 = (70 : Int))) → (0 < 3 ∧ 0 ≤ ((0 : Nat) : Int) ∧ ((0 : Nat) : Int) ≤ ((1 : Int) + (pickM n (3 : Int))) ∧ ((1 : Int) + (pickM n (3 : Int))) ≤ (3 : Int)) ∧ ∃ (I1 : Bool → List Int → Prop) (μ1 : Bool → List Int → Nat), I1 true [(0 : Int), (-12 : Int), (-12 : Int)] ∧ ∀ (v11 : Bool) (r1 : List Int), I1 v11 r1 → ((v11 = true) → ∃ J2 : Prop, (J2 → (NextOk r1 (((1 : Int) + (pickM n (3 : Int))).toNat) (12 : Int)) ∧ (0 < r1.length) ∧ (0 < ((nextM r1 (((1 : Int) + (pickM n (3 : Int))).toNat) (12 : Int)).2).length) ∧ (I1 ((nextM r1 (((1 : Int) + (pickM n (3 : Int))).toNat) (12 : Int)).1) ((nextM r1 (((1 : Int) + (pickM n (3 : Int))).toNat) (12 : Int)).2) ∧ μ1 ((nextM r1 (((1 : Int) + (pickM n (3 : Int))).toNat) (12 : Int)).1) ((nextM r1 (((1 : Int) + (pickM n (3 : Int))).toNat) (12 : Int)).2) < μ1 v11 r1)) ∧ (∃ (I3 : Bool → Int → Prop) (μ3 : Bool → Int → Nat), I3 true (0 : Int) ∧ ∀ (v12 : Bool) (v13 : Int), I3 v12 v13 → ((v13 < (((madeM ((1 : Int) + (pickM n (3 : Int))) x).length : Nat) : Int)) → (((v12 = true) → (0 ≤ v13 ∧ v13 < ((madeM ((1 : Int) + (pickM n (3 : Int))) x).length : Int)) ∧ (0 ≤ ((lat (madeM ((1 : Int) + (pickM n (3 : Int))) x) v13).t) ∧ ((lat (madeM ((1 : Int) + (pickM n (3 : Int))) x) v13).t) < ((((1 : Int) + (pickM n (3 : Int))).toNat : Nat) : Int)) ∧ (0 ≤ ((lat (madeM ((1 : Int) + (pickM n (3 : Int))) x) v13).t) ∧ ((lat (madeM ((1 : Int) + (pickM n (3 : Int))) x) v13).t) < ((r1.length : Nat) : Int)) ∧ (0 ≤ v13 ∧ v13 < ((madeM ((1 : Int) + (pickM n (3 : Int))) x).length : Int)) ∧ (0 ≤ ((lat (madeM ((1 : Int) + (pickM n (3 : Int))) x) v13).f) ∧ ((lat (madeM ((1 : Int) + (pickM n (3 : Int))) x) v13).f) < ((((1 : Int) + (pickM n (3 : Int))).toNat : Nat) : Int)) ∧ (0 ≤ ((lat (madeM ((1 : Int) + (pickM n (3 : Int))) x) v13).f) ∧ ((lat (madeM ((1 : Int) + (pickM n (3 : Int))) x) v13).f) < ((r1.length : Nat) : Int)) ∧ (inI ((lat r1 ((lat (madeM ((1 : Int) + (pickM n (3 : Int))) x) v13).t)) - (lat r1 ((lat (madeM ((1 : Int) + (pickM n (3 : Int))) x) v13).f)))) ∧ (0 ≤ v13 ∧ v13 < ((madeM ((1 : Int) + (pickM n (3 : Int))) x).length : Int)) ∧ True) ∧ (¬ (v12 = true) → True)) ∧ ((inI (v13 + (1 : Int))) ∧ (I3 (decide ((v12 = true) ∧ (((lat r1 ((lat (madeM ((1 : Int) + (pickM n (3 : Int))) x) v13).t)) - (lat r1 ((lat (madeM ((1 : Int) + (pickM n (3 : Int))) x) v13).f))) ≤ ((lat (madeM ((1 : Int) + (pickM n (3 : Int))) x) v13).m)))) (v13 + (1 : Int)) ∧ μ3 (decide ((v12 = true) ∧ (((lat r1 ((lat (madeM ((1 : Int) + (pickM n (3 : Int))) x) v13).t)) - (lat r1 ((lat (madeM ((1 : Int) + (pickM n (3 : Int))) x) v13).f))) ≤ ((lat (madeM ((1 : Int) + (pickM n (3 : Int))) x) v13).m)))) (v13 + (1 : Int)) < μ3 v12 v13))) ∧ (¬ (v13 < (((madeM ((1 : Int) + (pickM n (3 : Int))) x).length : Nat) : Int)) → (((madeM ((1 : Int) + (pickM n (3 : Int))) x).length ≤ 1073741824) ∧ ((r1.take (((1 : Int) + (pickM n (3 : Int))).toNat)).length ≤ 1073741824) ∧ (((1 : Int) + (pickM n (3 : Int))).toNat = (r1.take (((1 : Int) + (pickM n (3 : Int))).toNat)).length) ∧ True) ∧ ((((¬ (holdsM (madeM ((1 : Int) + (pickM n (3 : Int))) x) (r1.take (((1 : Int) + (pickM n (3 : Int))).toNat))) = v12) ∨ ((v12 = true) ∧ (¬ (closeM ((1 : Int) + (pickM n (3 : Int))) (madeM ((1 : Int) + (pickM n (3 : Int))) x)).2.2 = (0 : Int)))) → Post false) ∧ (¬ ((¬ (holdsM (madeM ((1 : Int) + (pickM n (3 : Int))) x) (r1.take (((1 : Int) + (pickM n (3 : Int))).toNat))) = v12) ∨ ((v12 = true) ∧ (¬ (closeM ((1 : Int) + (pickM n (3 : Int))) (madeM ((1 : Int) + (pickM n (3 : Int))) x)).2.2 = (0 : Int)))) → ((¬ (closeM ((1 : Int) + (pickM n (3 : Int))) (madeM ((1 : Int) + (pickM n (3 : Int))) x)).2.2 = (0 : Int)) → J2) ∧ (¬ (¬ (closeM ((1 : Int) + (pickM n (3 : Int))) (madeM ((1 : Int) + (pickM n (3 : Int))) x)).2.2 = (0 : Int)) → ∃ (I4 : Bool → Int → Prop) (μ4 : Bool → Int → Nat), I4 true (0 : Int) ∧ ∀ (v14 : Bool) (v15 : Int), I4 v14 v15 → ((v15 < ((1 : Int) + (pickM n (3 : Int)))) → ∃ (I5 : Bool → Int → Prop) (μ5 : Bool → Int → Nat), I5 v14 (0 : Int) ∧ ∀ (v14_1 : Bool) (v16 : Int), I5 v14_1 v16 → ((v16 < ((1 : Int) + (pickM n (3 : Int)))) → (((closeM ((1 : Int) + (pickM n (3 : Int))) (madeM ((1 : Int) + (pickM n (3 : Int))) x)).1).most.length ≤ 1073741824) ∧ (∀ r ∈ ((closeM ((1 : Int) + (pickM n (3 : Int))) (madeM ((1 : Int) + (pickM n (3 : Int))) x)).1).most, r.length ≤ 1073741824) ∧ ((¬ (rangeM ((closeM ((1 : Int) + (pickM n (3 : Int))) (madeM ((1 : Int) + (pickM n (3 : Int))) x)).1) v15 v16).2.2 = (0 : Int)) → Post false) ∧ (¬ (¬ (rangeM ((closeM ((1 : Int) + (pickM n (3 : Int))) (madeM ((1 : Int) + (pickM n (3 : Int))) x)).1) v15 v16).2.2 = (0 : Int)) → (((v14_1 = true) → (0 ≤ v16 ∧ v16 < ((((1 : Int) + (pickM n (3 : Int))).toNat : Nat) : Int)) ∧ (0 ≤ v16 ∧ v16 < ((r1.length : Nat) : Int)) ∧ (0 ≤ v15 ∧ v15 < ((((1 : Int) + (pickM n (3 : Int))).toNat : Nat) : Int)) ∧ (0 ≤ v15 ∧ v15 < ((r1.length : Nat) : Int)) ∧ (inI ((lat r1 v16) - (lat r1 v15))) ∧ ((((rangeM ((closeM ((1 : Int) + (pickM n (3 : Int))) (madeM ((1 : Int) + (pickM n (3 : Int))) x)).1) v15 v16).1) ≤ ((lat r1 v16) - (lat r1 v15))) → (0 ≤ v16 ∧ v16 < ((((1 : Int) + (pickM n (3 : Int))).toNat : Nat) : Int)) ∧ (0 ≤ v16 ∧ v16 < ((r1.length : Nat) : Int)) ∧ (0 ≤ v15 ∧ v15 < ((((1 : Int) + (pickM n (3 : Int))).toNat : Nat) : Int)) ∧ (0 ≤ v15 ∧ v15 < ((r1.length : Nat) : Int)) ∧ (inI ((lat r1 v16) - (lat r1 v15))) ∧ True) ∧ (¬ (((rangeM ((closeM ((1 : Int) + (pickM n (3 : Int))) (madeM ((1 : Int) + (pickM n (3 : Int))) x)).1) v15 v16).1) ≤ ((lat r1 v16) - (lat r1 v15))) → True)) ∧ (¬ (v14_1 = true) → True)) ∧ ((inI (v16 + (1 : Int))) ∧ (I5 (decide ((v14_1 = true) ∧ ((((rangeM ((closeM ((1 : Int) + (pickM n (3 : Int))) (madeM ((1 : Int) + (pickM n (3 : Int))) x)).1) v15 v16).1) ≤ ((lat r1 v16) - (lat r1 v15))) ∧ (((lat r1 v16) - (lat r1 v15)) ≤ ((rangeM ((closeM ((1 : Int) + (pickM n (3 : Int))) (madeM ((1 : Int) + (pickM n (3 : Int))) x)).1) v15 v16).2.1))))) (v16 + (1 : Int)) ∧ μ5 (decide ((v14_1 = true) ∧ ((((rangeM ((closeM ((1 : Int) + (pickM n (3 : Int))) (madeM ((1 : Int) + (pickM n (3 : Int))) x)).1) v15 v16).1) ≤ ((lat r1 v16) - (lat r1 v15))) ∧ (((lat r1 v16) - (lat r1 v15)) ≤ ((rangeM ((closeM ((1 : Int) + (pickM n (3 : Int))) (madeM ((1 : Int) + (pickM n (3 : Int))) x)).1) v15 v16).2.1))))) (v16 + (1 : Int)) < μ5 v14_1 v16)))) ∧ (¬ (v16 < ((1 : Int) + (pickM n (3 : Int)))) → (inI (v15 + (1 : Int))) ∧ (I4 v14_1 (v15 + (1 : Int)) ∧ μ4 v14_1 (v15 + (1 : Int)) < μ4 v14 v15))) ∧ (¬ (v15 < ((1 : Int) + (pickM n (3 : Int)))) → ((¬ v14 = v12) → Post false) ∧ (¬ (¬ v14 = v12) → J2)))))))) ∧ (¬ (v11 = true) → Post true)))
set_option maxRecDepth 100000 in
set_option maxHeartbeats 4000000 in
theorem walk_Exact {n : Int} {x : (List A3)} {Post : Bool → Prop} (hv : vc_Exact n x Post) : FnP Try.prog 5 [.int .i64 n, .lst true x.length (encL e26 x)] (fun x => ∃ q0, x = .bool q0 ∧ Post q0) := by
  refine FnP.of_walk (T := tt) (nt := 143) ttOk ttMix ⟨⟨Try.f5, Try.func5, rfl, rfl, rfl, rfl⟩⟩ (by simp) ?_
  unfold vc_Exact at hv
  change W _ _ _ ⟨143, look [(0, .int .i64 n), (1, .lst true x.length (encL e26 x))], [], false⟩ _
  refine W.tr [(0, .int _ _), (1, .lst _ _ _)] [] ⟨rfl, rfl, trivial⟩ rfl ?_
  refine W.rL ?_
  refine cL rfl (o_assign (v := .bool _) rfl ?_)
  refine eL ?_
  refine W.tr [(0, .int _ _), (1, .lst _ _ _)] [] ⟨rfl, rfl, trivial⟩ rfl ?_
  refine W.seq' ?_
  refine W.rL ?_
  refine cL rfl (o_callP1 (k := 11) (fst := []) (caps := []) (ys := []) rfl rfl (spec_sane) (Wks.refl _) ?_)
  refine cL rfl (o_notB rfl ?_)
  refine eL ?_
  refine W.tr [(0, .int _ _), (1, .lst _ _ _), (21, .bool _)] [] ⟨rfl, rfl, rfl, trivial⟩ rfl ?_
  refine W.cn rfl (fun hc => ?_) (fun hc => ?_)
  · have hv := hv.1 hc
    refine W.rL ?_
    refine cL rfl (o_assign (v := .bool _) rfl ?_)
    refine eL ?_
    refine W.tr [(4, .bool _)] [] ⟨rfl, trivial⟩ rfl ?_
    refine W.ret ?_
    refine th_ret (rt ?_)
    refine rt_t (v := .bool _) rfl ?_
    refine rt_n ?_
    exact ⟨_, rs_bool _ _ _, false, rfl, hv⟩
  · have hv := hv.2 hc
    refine W.skip ?_
    refine th_nrm ?_
    refine W.tr [(0, .int _ _), (1, .lst _ _ _)] [] ⟨rfl, rfl, trivial⟩ rfl ?_
    refine W.rL ?_
    refine cL rfl (o_move (v := .int _ _) rfl ?_)
    obtain ⟨s1, hv⟩ := hv
    obtain ⟨s2, hv⟩ := hv
    refine cL rfl (o_callP1 (k := 12) (fst := []) (caps := []) (ys := [.int _ _, .int _ _]) rfl rfl (spec_pick n (3 : Int) s1 s2) (Wks.cons (ag_int _ _ _ _) (Wks.cons (ag_int _ _ _ _) (Wks.refl _))) ?_)
    obtain ⟨s3, hv⟩ := hv
    refine cL rfl (o_add rfl rfl s3 ?_)
    refine cL rfl (o_assign (v := .int _ _) rfl ?_)
    refine eL ?_
    refine W.tr [(1, .lst _ _ _), (5, .int _ _)] [] ⟨rfl, rfl, trivial⟩ rfl ?_
    refine W.rL ?_
    refine cL rfl (o_move (v := .int _ _) rfl ?_)
    refine cL rfl (o_move (v := .lst _ _ _) rfl ?_)
    obtain ⟨s4, hv⟩ := hv
    obtain ⟨s5, hv⟩ := hv
    obtain ⟨s6, hv⟩ := hv
    refine cL rfl (o_callP1 (k := 14) (fst := []) (caps := []) (ys := [.int _ _, .lst _ _ _]) rfl rfl (spec_made ((1 : Int) + (pickM n (3 : Int))) x s4 s5 s6) (Wks.cons (ag_int _ _ _ _) (Wks.cons (ag_lst _ _ _ _ _) (Wks.refl _))) ?_)
    refine cL rfl (o_assign (v := .lst _ _ _) rfl ?_)
    refine eL ?_
    refine W.tr [(5, .int _ _), (6, .lst _ _ _)] [] ⟨rfl, rfl, trivial⟩ rfl ?_
    refine W.rL ?_
    refine cL rfl (o_move (v := .int _ _) rfl ?_)
    refine cL rfl (o_move (v := .lst _ _ _) rfl ?_)
    obtain ⟨s7, hv⟩ := hv
    refine cL rfl (o_callP1 (k := 15) (fst := []) (caps := []) (ys := [.int _ _, .lst _ _ _]) rfl rfl (spec_close ((1 : Int) + (pickM n (3 : Int))) (madeM ((1 : Int) + (pickM n (3 : Int))) x) s7) (Wks.cons (ag_int _ _ _ _) (Wks.cons (ag_lst _ _ _ _ _) (Wks.refl _))) ?_)
    refine cL rfl (o_move (v := .tup _) rfl ?_)
    refine cL rfl (o_ext (v := .agg _) rfl rfl ?_)
    refine cL rfl (o_ext (v := .lst _ _ _) rfl rfl ?_)
    refine cL rfl (o_ext (v := .int _ _) rfl rfl ?_)
    refine cL rfl (o_alloc (p := 0) tt34 rfl rfl ?_)
    refine cLn (o_stB (v := .agg _) (vs := [.int _ _, .lst _ _ _]) (cs2 := [.int _ _, .lst _ _ _]) tt34 rfl rfl rfl rfl rfl (Nat.le_of_ble_eq_true rfl) rfl ?_)
    refine cL rfl (o_assign (v := .lst _ _ _) rfl ?_)
    refine cL rfl (o_assign (v := .int _ _) rfl ?_)
    refine eL ?_
    refine W.tr [(5, .int _ _), (6, .lst _ _ _), (7, .ptr _ _), (9, .int _ _)] [.box _ [.int _ _, .lst _ _ _]] ⟨rfl, rfl, rfl, rfl, trivial⟩ rfl ?_
    refine W.seq' ?_
    refine W.rLm ⟨143, look [(5, .int .i64 ((1 : Int) + (pickM n (3 : Int)))), (6, .lst false (madeM ((1 : Int) + (pickM n (3 : Int))) x).length (encL e25 (madeM ((1 : Int) + (pickM n (3 : Int))) x))), (7, .ptr 0 0), (9, .int .i64 ((closeM ((1 : Int) + (pickM n (3 : Int))) (madeM ((1 : Int) + (pickM n (3 : Int))) x)).2.2)), (40, .bool (decide ((¬ (closeM ((1 : Int) + (pickM n (3 : Int))) (madeM ((1 : Int) + (pickM n (3 : Int))) x)).2.2 = (0 : Int)) ∧ (¬ (closeM ((1 : Int) + (pickM n (3 : Int))) (madeM ((1 : Int) + (pickM n (3 : Int))) x)).2.2 = (70 : Int)))))], [.box 34 [.int .i64 (((closeM ((1 : Int) + (pickM n (3 : Int))) (madeM ((1 : Int) + (pickM n (3 : Int))) x)).1).n), .lst false (((closeM ((1 : Int) + (pickM n (3 : Int))) (madeM ((1 : Int) + (pickM n (3 : Int))) x)).1).most).length (encL (eSl eInt true) (((closeM ((1 : Int) + (pickM n (3 : Int))) (madeM ((1 : Int) + (pickM n (3 : Int))) x)).1).most))]], false⟩ ?_ ?_
    · refine cL rfl (o_move (v := .int _ _) rfl ?_)
      refine cL rfl (o_neI rfl rfl rfl ?_)
      refine cL rfl (o_move (v := .bool _) rfl ?_)
      by_cases c1 : ¬ (closeM ((1 : Int) + (pickM n (3 : Int))) (madeM ((1 : Int) + (pickM n (3 : Int))) x)).2.2 = (0 : Int)
      · refine cLg rfl rfl (decide_eq_true c1) ?_
        refine cL rfl (o_move (v := .int _ _) rfl ?_)
        refine cLg rfl rfl (decide_eq_true c1) ?_
        refine cL rfl (o_neI rfl rfl rfl ?_)
        refine cL rfl (o_pickT (v := .bool _) rfl (decide_eq_true c1) rfl ?_)
        refine eL ?_
        exact le_mk ⟨rfl, rfl, rfl, rfl, (congrArg AV.bool (dAndT c1 (rfl))).symm, trivial⟩ rfl
      · refine cLs rfl rfl rfl (decide_eq_false c1) ?_
        refine cLs rfl rfl rfl (decide_eq_false c1) ?_
        refine cL rfl (o_pickF (v := .bool _) rfl (decide_eq_false c1) rfl ?_)
        refine eL ?_
        exact le_mk ⟨rfl, rfl, rfl, rfl, (congrArg AV.bool (dAndF c1)).symm, trivial⟩ rfl
    · refine W.cn rfl (fun hc => ?_) (fun hc => ?_)
      · have hv := hv.1 hc
        refine W.rL ?_
        refine cL rfl (o_assign (v := .bool _) rfl ?_)
        refine eL ?_
        refine W.tr [(4, .bool _)] [.box _ [.int _ _, .lst _ _ _]] ⟨rfl, trivial⟩ rfl ?_
        refine W.ret ?_
        refine th_ret (rt ?_)
        refine rt_t (v := .bool _) rfl ?_
        refine rt_n ?_
        exact ⟨_, rs_bool _ _ _, false, rfl, hv⟩
      · have hv := hv.2 hc
        refine W.skip ?_
        refine th_nrm ?_
        refine W.tr [(5, .int _ _), (6, .lst _ _ _), (7, .ptr _ _), (9, .int _ _)] [.box _ [.int _ _, .lst _ _ _]] ⟨rfl, rfl, rfl, rfl, trivial⟩ rfl ?_
        refine W.rL ?_
        refine cL rfl (o_buildS (q := 1) (qs := [(0, .int _ _), (1, .int _ _), (2, .int _ _)]) (cs := [.int _ _, .int _ _, .int _ _]) tt35 tt3 rfl rfl rfl rfl ?_)
        refine cL rfl (o_move (v := .int _ _) rfl ?_)
        obtain ⟨s8, hv⟩ := hv
        refine cL rfl (o_slR tt35 tt3 rfl rfl rfl s8 (off := 0) (c := ((1 : Int) + (pickM n (3 : Int))).toNat) (by simp) (by simp) ?_)
        refine cL rfl (o_assign (v := .sub _ _ _) rfl ?_)
        refine eL ?_
        refine W.tr [(5, .int _ _), (6, .lst _ _ _), (7, .ptr _ _), (9, .int _ _), (10, .sub _ _ _)] [.box _ [.int _ _, .lst _ _ _], .row _ _ _] ⟨rfl, rfl, rfl, rfl, rfl, trivial⟩ rfl ?_
        refine W.seq' ?_
        refine W.rL ?_
        refine cL rfl (o_assign (v := .bool _) rfl ?_)
        refine eL ?_
        refine W.tr [(5, .int _ _), (6, .lst _ _ _), (7, .ptr _ _), (9, .int _ _), (10, .sub _ _ _), (11, .bool _)] [.box _ [.int _ _, .lst _ _ _], .row _ _ _] ⟨rfl, rfl, rfl, rfl, rfl, rfl, trivial⟩ rfl ?_
        refine W.block ?_
        obtain ⟨I1, μ1, hp, hv⟩ := hv
        refine W.loop2 (fun v11 r1 => ⟨143, look [(5, .int .i64 ((1 : Int) + (pickM n (3 : Int)))), (6, .lst false (madeM ((1 : Int) + (pickM n (3 : Int))) x).length (encL e25 (madeM ((1 : Int) + (pickM n (3 : Int))) x))), (7, .ptr 0 0), (9, .int .i64 ((closeM ((1 : Int) + (pickM n (3 : Int))) (madeM ((1 : Int) + (pickM n (3 : Int))) x)).2.2)), (10, .sub 1 0 (((1 : Int) + (pickM n (3 : Int))).toNat)), (11, .bool v11)], [.box 34 [.int .i64 (((closeM ((1 : Int) + (pickM n (3 : Int))) (madeM ((1 : Int) + (pickM n (3 : Int))) x)).1).n), .lst false (((closeM ((1 : Int) + (pickM n (3 : Int))) (madeM ((1 : Int) + (pickM n (3 : Int))) x)).1).most).length (encL (eSl eInt true) (((closeM ((1 : Int) + (pickM n (3 : Int))) (madeM ((1 : Int) + (pickM n (3 : Int))) x)).1).most))], .row 3 1 (encL eInt r1)], false⟩) I1 μ1 true [(0 : Int), (-12 : Int), (-12 : Int)] (St.to_mk (φ := [some 0, some 1]) rfl (.inl rfl) ⟨Ren.int _ _, Ren.lst _ _ _, Ren.ptr rfl, Ren.int _ _, Ren.sub rfl, Ren.bool _, trivial⟩ ⟨.inr ⟨_, rfl, rfl, Rens.cons (Ren.int _ _) (Rens.cons (Ren.lst _ _ _) (Rens.nil))⟩, .inr ⟨_, rfl, rfl, rfl, rfl, Rens.enc encInt false [(0 : Int), (-12 : Int), (-12 : Int)]⟩, trivial⟩) hp ?_
        clear hp
        intro v11 r1 hI
        replace hv := hv v11 r1 hI
        clear hI
        refine W.seq' ?_
        refine W.rL ?_
        refine cL rfl (o_move (v := .bool _) rfl ?_)
        refine eL ?_
        refine W.tr [(5, .int _ _), (6, .lst _ _ _), (7, .ptr _ _), (9, .int _ _), (10, .sub _ _ _), (44, .bool _)] [.box _ [.int _ _, .lst _ _ _], .row _ _ _] ⟨rfl, rfl, rfl, rfl, rfl, rfl, trivial⟩ rfl ?_
        refine W.cb rfl (fun hc => ?_) (fun hc => ?_)
        · have hv := hv.1 hc
          refine W.skip ?_
          refine th_nrm ?_
          refine W.tr [(5, .int _ _), (6, .lst _ _ _), (7, .ptr _ _), (9, .int _ _), (10, .sub _ _ _)] [.box _ [.int _ _, .lst _ _ _], .row _ _ _] ⟨rfl, rfl, rfl, rfl, rfl, trivial⟩ rfl ?_
          obtain ⟨J2, hj, hv⟩ := hv
          refine W.mid0 (⟨143, look [(5, .int .i64 ((1 : Int) + (pickM n (3 : Int)))), (6, .lst false (madeM ((1 : Int) + (pickM n (3 : Int))) x).length (encL e25 (madeM ((1 : Int) + (pickM n (3 : Int))) x))), (7, .ptr 0 0), (9, .int .i64 ((closeM ((1 : Int) + (pickM n (3 : Int))) (madeM ((1 : Int) + (pickM n (3 : Int))) x)).2.2)), (10, .sub 1 0 (((1 : Int) + (pickM n (3 : Int))).toNat))], [.box 34 [.int .i64 (((closeM ((1 : Int) + (pickM n (3 : Int))) (madeM ((1 : Int) + (pickM n (3 : Int))) x)).1).n), .lst false (((closeM ((1 : Int) + (pickM n (3 : Int))) (madeM ((1 : Int) + (pickM n (3 : Int))) x)).1).most).length (encL (eSl eInt true) (((closeM ((1 : Int) + (pickM n (3 : Int))) (madeM ((1 : Int) + (pickM n (3 : Int))) x)).1).most))], .row 3 1 (encL eInt r1)], false⟩) J2 ?_ ?_
          · intro hv
            replace hv := hj hv
            refine W.rH1 ?_
            refine cH rfl (o_move (v := .sub _ _ _) rfl ?_)
            obtain ⟨s9572, hv⟩ := hv
            obtain ⟨s9573, hv⟩ := hv
            obtain ⟨s9574, hv⟩ := hv
            refine cHc rfl (callH_M1 (spec_next r1 (((1 : Int) + (pickM n (3 : Int))).toNat) (12 : Int) s9572) rfl ⟨by rw [encL_length wdInt, Nat.mul_one]; exact s9573, flatI⟩ ⟨by rw [encL_length wdInt, Nat.mul_one]; exact s9574, flatI⟩ rfl (.inr (.inr ⟨_, _, rfl, rfl⟩)) (Wks.cons (ag_int _ _ _ _) (Wks.refl _)) ?_)
            refine cH rfl (o_assign (v := .bool _) rfl ?_)
            refine eH ?_
            exact th_nrm (⟨(), ((nextM r1 (((1 : Int) + (pickM n (3 : Int))).toNat) (12 : Int)).1), ((nextM r1 (((1 : Int) + (pickM n (3 : Int))).toNat) (12 : Int)).2), hv, St.to_mk (φ := [some 0, some 1]) rfl (.inl rfl) ⟨Ren.int _ _, Ren.lst _ _ _, Ren.ptr rfl, Ren.int _ _, Ren.sub rfl, Ren.bool _, trivial⟩ ⟨.inr ⟨_, rfl, rfl, Rens.cons (Ren.int _ _) (Rens.cons (Ren.lst _ _ _) (Rens.nil))⟩, .inr ⟨_, rfl, rfl, rfl, rfl, Rens.enc encInt false ((nextM r1 (((1 : Int) + (pickM n (3 : Int))).toNat) (12 : Int)).2)⟩, trivial⟩⟩)
          · clear hj
            refine W.block ?_
            refine W.rL ?_
            refine cL rfl (o_assign (v := .bool _) rfl ?_)
            refine eL ?_
            refine W.tr [(5, .int _ _), (6, .lst _ _ _), (7, .ptr _ _), (9, .int _ _), (10, .sub _ _ _), (12, .bool _)] [.box _ [.int _ _, .lst _ _ _], .row _ _ _] ⟨rfl, rfl, rfl, rfl, rfl, rfl, trivial⟩ rfl ?_
            refine W.seq' ?_
            refine W.rL ?_
            refine cL rfl (o_assign (v := .int _ _) rfl ?_)
            refine eL ?_
            refine W.tr [(5, .int _ _), (6, .lst _ _ _), (7, .ptr _ _), (9, .int _ _), (10, .sub _ _ _), (12, .bool _), (13, .int _ _)] [.box _ [.int _ _, .lst _ _ _], .row _ _ _] ⟨rfl, rfl, rfl, rfl, rfl, rfl, rfl, trivial⟩ rfl ?_
            refine W.block ?_
            obtain ⟨I3, μ3, hp, hv⟩ := hv
            refine W.loop2 (fun v12 v13 => ⟨143, look [(5, .int .i64 ((1 : Int) + (pickM n (3 : Int)))), (6, .lst false (madeM ((1 : Int) + (pickM n (3 : Int))) x).length (encL e25 (madeM ((1 : Int) + (pickM n (3 : Int))) x))), (7, .ptr 0 0), (9, .int .i64 ((closeM ((1 : Int) + (pickM n (3 : Int))) (madeM ((1 : Int) + (pickM n (3 : Int))) x)).2.2)), (10, .sub 1 0 (((1 : Int) + (pickM n (3 : Int))).toNat)), (12, .bool v12), (13, .int .i64 v13)], [.box 34 [.int .i64 (((closeM ((1 : Int) + (pickM n (3 : Int))) (madeM ((1 : Int) + (pickM n (3 : Int))) x)).1).n), .lst false (((closeM ((1 : Int) + (pickM n (3 : Int))) (madeM ((1 : Int) + (pickM n (3 : Int))) x)).1).most).length (encL (eSl eInt true) (((closeM ((1 : Int) + (pickM n (3 : Int))) (madeM ((1 : Int) + (pickM n (3 : Int))) x)).1).most))], .row 3 1 (encL eInt r1)], false⟩) I3 μ3 true (0 : Int) (St.to_mk (φ := [some 0, some 1]) rfl (.inl rfl) ⟨Ren.int _ _, Ren.lst _ _ _, Ren.ptr rfl, Ren.int _ _, Ren.sub rfl, Ren.bool _, Ren.int _ _, trivial⟩ ⟨.inr ⟨_, rfl, rfl, Rens.cons (Ren.int _ _) (Rens.cons (Ren.lst _ _ _) (Rens.nil))⟩, .inr ⟨_, rfl, rfl, rfl, rfl, Rens.enc encInt false r1⟩, trivial⟩) hp ?_
            clear hp
            intro v12 v13 hI
            replace hv := hv v12 v13 hI
            clear hI
            refine W.seq' ?_
            refine W.rL ?_
            refine cL rfl (o_move (v := .int _ _) rfl ?_)
            refine cL rfl (o_move (v := .lst _ _ _) rfl ?_)
            refine cL rfl (o_len (v := .lst _ _ _) tt22 rfl rfl ?_)
            refine cL rfl (o_lss rfl rfl ?_)
            refine eL ?_
            refine W.tr [(5, .int _ _), (6, .lst _ _ _), (7, .ptr _ _), (9, .int _ _), (10, .sub _ _ _), (12, .bool _), (13, .int _ _), (50, .bool _)] [.box _ [.int _ _, .lst _ _ _], .row _ _ _] ⟨rfl, rfl, rfl, rfl, rfl, rfl, rfl, rfl, trivial⟩ rfl ?_
            refine W.cn rfl (fun hc => ?_) (fun hc => ?_)
            · have hv := hv.1 hc
              refine W.skip ?_
              refine th_nrm ?_
              refine W.tr [(5, .int _ _), (6, .lst _ _ _), (7, .ptr _ _), (9, .int _ _), (10, .sub _ _ _), (12, .bool _), (13, .int _ _)] [.box _ [.int _ _, .lst _ _ _], .row _ _ _] ⟨rfl, rfl, rfl, rfl, rfl, rfl, rfl, trivial⟩ rfl ?_
              refine W.seq' ?_
              refine W.block ?_
              obtain ⟨sd, hv⟩ := hv
              refine W.rDm1 ⟨143, look [(5, .int .i64 ((1 : Int) + (pickM n (3 : Int)))), (6, .lst false (madeM ((1 : Int) + (pickM n (3 : Int))) x).length (encL e25 (madeM ((1 : Int) + (pickM n (3 : Int))) x))), (7, .ptr 0 0), (9, .int .i64 ((closeM ((1 : Int) + (pickM n (3 : Int))) (madeM ((1 : Int) + (pickM n (3 : Int))) x)).2.2)), (10, .sub 1 0 (((1 : Int) + (pickM n (3 : Int))).toNat)), (12, .bool (decide ((v12 = true) ∧ (((lat r1 ((lat (madeM ((1 : Int) + (pickM n (3 : Int))) x) v13).t)) - (lat r1 ((lat (madeM ((1 : Int) + (pickM n (3 : Int))) x) v13).f))) ≤ ((lat (madeM ((1 : Int) + (pickM n (3 : Int))) x) v13).m))))), (13, .int .i64 v13)], [.box 34 [.int .i64 (((closeM ((1 : Int) + (pickM n (3 : Int))) (madeM ((1 : Int) + (pickM n (3 : Int))) x)).1).n), .lst false (((closeM ((1 : Int) + (pickM n (3 : Int))) (madeM ((1 : Int) + (pickM n (3 : Int))) x)).1).most).length (encL (eSl eInt true) (((closeM ((1 : Int) + (pickM n (3 : Int))) (madeM ((1 : Int) + (pickM n (3 : Int))) x)).1).most))], .row 3 1 (encL eInt r1)], false⟩ (fun s hl h => W.le hl h) [0, 1, 2, 3, 4, 5, 6, 7, 8, 9, 10, 11, 12, 13, 14, 15, 16, 17, 18, 19, 20, 21, 22, 23, 24, 25, 26] (by decide +kernel) rfl ?_ ?_
              · refine cL rfl (o_move (v := .bool _) rfl ?_)
                refine cL rfl (o_move (v := .bool _) rfl ?_)
                by_cases c1 : v12 = true
                · have sd := sd.1 c1
                  refine cLg rfl rfl (c1) ?_
                  refine cL rfl (o_move (v := .sub _ _ _) rfl ?_)
                  refine cLg rfl rfl (c1) ?_
                  refine cL rfl (o_move (v := .lst _ _ _) rfl ?_)
                  refine cLg rfl rfl (c1) ?_
                  refine cL rfl (o_move (v := .int _ _) rfl ?_)
                  refine cLg rfl rfl (c1) ?_
                  obtain ⟨s9698, sd⟩ := sd
                  refine cL rfl (o_iaL tt22 tt25 rfl rfl (enc25.wd true) rfl s9698 ?_)
                  intro rest9698
                  refine cLg rfl rfl (c1) ?_
                  refine cL rfl (o_faP tt25 rfl tt3 rfl ?_)
                  refine cLg rfl rfl (c1) ?_
                  refine cL rfl (o_ldS (v := .int _ _) tt3 rfl rfl ⟨_, rfl⟩ ?_)
                  refine cLg rfl rfl (c1) ?_
                  obtain ⟨s9699, sd⟩ := sd
                  obtain ⟨s9700, sd⟩ := sd
                  refine cL rfl (o_iaS tt35 tt3 rfl rfl s9699 (Nat.zero_add _) ?_)
                  refine cLg rfl rfl (c1) ?_
                  refine cL rfl (o_ldS (v := .int _ _) tt3 rfl rfl (cell_of (ca_row (xs := r1) rfl (encInt.wd false) s9700) rfl) ?_)
                  refine cLg rfl rfl (c1) ?_
                  refine cL rfl (o_move (v := .sub _ _ _) rfl ?_)
                  refine cLg rfl rfl (c1) ?_
                  refine cL rfl (o_move (v := .lst _ _ _) rfl ?_)
                  refine cLg rfl rfl (c1) ?_
                  refine cL rfl (o_move (v := .int _ _) rfl ?_)
                  refine cLg rfl rfl (c1) ?_
                  obtain ⟨s9701, sd⟩ := sd
                  refine cL rfl (o_iaL tt22 tt25 rfl rfl (enc25.wd true) rfl s9701 ?_)
                  intro rest9701
                  refine cLg rfl rfl (c1) ?_
                  refine cL rfl (o_faP tt25 rfl tt3 rfl ?_)
                  refine cLg rfl rfl (c1) ?_
                  refine cL rfl (o_ldS (v := .int _ _) tt3 rfl rfl ⟨_, rfl⟩ ?_)
                  refine cLg rfl rfl (c1) ?_
                  obtain ⟨s9702, sd⟩ := sd
                  obtain ⟨s9703, sd⟩ := sd
                  refine cL rfl (o_iaS tt35 tt3 rfl rfl s9702 (Nat.zero_add _) ?_)
                  refine cLg rfl rfl (c1) ?_
                  refine cL rfl (o_ldS (v := .int _ _) tt3 rfl rfl (cell_of (ca_row (xs := r1) rfl (encInt.wd false) s9703) rfl) ?_)
                  refine cLg rfl rfl (c1) ?_
                  obtain ⟨s9704, sd⟩ := sd
                  refine cL rfl (o_sub rfl rfl s9704 ?_)
                  refine cLg rfl rfl (c1) ?_
                  refine cL rfl (o_move (v := .lst _ _ _) rfl ?_)
                  refine cLg rfl rfl (c1) ?_
                  refine cL rfl (o_move (v := .int _ _) rfl ?_)
                  refine cLg rfl rfl (c1) ?_
                  obtain ⟨s9705, sd⟩ := sd
                  refine cL rfl (o_iaL tt22 tt25 rfl rfl (enc25.wd true) rfl s9705 ?_)
                  intro rest9705
                  refine cLg rfl rfl (c1) ?_
                  refine cL rfl (o_faP tt25 rfl tt3 rfl ?_)
                  refine cLg rfl rfl (c1) ?_
                  refine cL rfl (o_ldS (v := .int _ _) tt3 rfl rfl ⟨_, rfl⟩ ?_)
                  refine cLg rfl rfl (c1) ?_
                  refine cL rfl (o_leq rfl rfl ?_)
                  refine cL rfl (o_pickT (v := .bool _) rfl c1 rfl ?_)
                  refine cL rfl (o_assign (v := .bool _) rfl ?_)
                  refine eL ?_
                  exact le_mk ⟨rfl, rfl, rfl, rfl, rfl, (congrArg AV.bool (dAndT c1 (rfl))).symm, rfl, trivial⟩ rfl
                · refine cLs rfl rfl rfl ((Bool.eq_false_iff.2 c1)) ?_
                  refine cLs rfl rfl rfl ((Bool.eq_false_iff.2 c1)) ?_
                  refine cLs rfl rfl rfl ((Bool.eq_false_iff.2 c1)) ?_
                  refine cLs rfl rfl rfl ((Bool.eq_false_iff.2 c1)) ?_
                  refine cLs rfl rfl rfl ((Bool.eq_false_iff.2 c1)) ?_
                  refine cLs rfl rfl rfl ((Bool.eq_false_iff.2 c1)) ?_
                  refine cLs rfl rfl rfl ((Bool.eq_false_iff.2 c1)) ?_
                  refine cLs rfl rfl rfl ((Bool.eq_false_iff.2 c1)) ?_
                  refine cLs rfl rfl rfl ((Bool.eq_false_iff.2 c1)) ?_
                  refine cLs rfl rfl rfl ((Bool.eq_false_iff.2 c1)) ?_
                  refine cLs rfl rfl rfl ((Bool.eq_false_iff.2 c1)) ?_
                  refine cLs rfl rfl rfl ((Bool.eq_false_iff.2 c1)) ?_
                  refine cLs rfl rfl rfl ((Bool.eq_false_iff.2 c1)) ?_
                  refine cLs rfl rfl rfl ((Bool.eq_false_iff.2 c1)) ?_
                  refine cLs rfl rfl rfl ((Bool.eq_false_iff.2 c1)) ?_
                  refine cLs rfl rfl rfl ((Bool.eq_false_iff.2 c1)) ?_
                  refine cLs rfl rfl rfl ((Bool.eq_false_iff.2 c1)) ?_
                  refine cLs rfl rfl rfl ((Bool.eq_false_iff.2 c1)) ?_
                  refine cLs rfl rfl rfl ((Bool.eq_false_iff.2 c1)) ?_
                  refine cLs rfl rfl rfl ((Bool.eq_false_iff.2 c1)) ?_
                  refine cLs rfl rfl rfl ((Bool.eq_false_iff.2 c1)) ?_
                  refine cLs rfl rfl rfl ((Bool.eq_false_iff.2 c1)) ?_
                  refine cLs rfl rfl rfl ((Bool.eq_false_iff.2 c1)) ?_
                  refine cL rfl (o_pickF (v := .bool _) rfl (Bool.eq_false_iff.2 c1) rfl ?_)
                  refine cL rfl (o_assign (v := .bool _) rfl ?_)
                  refine eL ?_
                  exact le_mk ⟨rfl, rfl, rfl, rfl, rfl, (congrArg AV.bool (dAndF c1)).symm, rfl, trivial⟩ rfl
              · refine bl_nrm (th_nrm ?_)
                refine W.tr [(5, .int _ _), (6, .lst _ _ _), (7, .ptr _ _), (9, .int _ _), (10, .sub _ _ _), (12, .bool _), (13, .int _ _)] [.box _ [.int _ _, .lst _ _ _], .row _ _ _] ⟨rfl, rfl, rfl, rfl, rfl, rfl, rfl, trivial⟩ rfl ?_
                refine W.rL1 ?_
                refine cL rfl (o_move (v := .int _ _) rfl ?_)
                obtain ⟨s9706, hv⟩ := hv
                refine cL rfl (o_add rfl rfl s9706 ?_)
                refine cL rfl (o_assign (v := .int _ _) rfl ?_)
                refine eL ?_
                exact th_nrm (⟨(), (decide ((v12 = true) ∧ (((lat r1 ((lat (madeM ((1 : Int) + (pickM n (3 : Int))) x) v13).t)) - (lat r1 ((lat (madeM ((1 : Int) + (pickM n (3 : Int))) x) v13).f))) ≤ ((lat (madeM ((1 : Int) + (pickM n (3 : Int))) x) v13).m)))), (v13 + (1 : Int)), hv, St.to_mk (φ := [some 0, some 1]) rfl (.inl rfl) ⟨Ren.int _ _, Ren.lst _ _ _, Ren.ptr rfl, Ren.int _ _, Ren.sub rfl, Ren.bool _, Ren.int _ _, trivial⟩ ⟨.inr ⟨_, rfl, rfl, Rens.cons (Ren.int _ _) (Rens.cons (Ren.lst _ _ _) (Rens.nil))⟩, .inr ⟨_, rfl, rfl, rfl, rfl, Rens.enc encInt false r1⟩, trivial⟩⟩)
            · have hv := hv.2 hc
              refine W.exit ?_
              refine th_exit (th_exit (bl_hit (th_nrm ?_)))
              refine W.tr [(5, .int _ _), (6, .lst _ _ _), (7, .ptr _ _), (9, .int _ _), (10, .sub _ _ _), (12, .bool _)] [.box _ [.int _ _, .lst _ _ _], .row _ _ _] ⟨rfl, rfl, rfl, rfl, rfl, rfl, trivial⟩ rfl ?_
              refine W.seq' ?_
              obtain ⟨sd, hv⟩ := hv
              refine W.rLm ⟨143, look [(5, .int .i64 ((1 : Int) + (pickM n (3 : Int)))), (6, .lst false (madeM ((1 : Int) + (pickM n (3 : Int))) x).length (encL e25 (madeM ((1 : Int) + (pickM n (3 : Int))) x))), (7, .ptr 0 0), (9, .int .i64 ((closeM ((1 : Int) + (pickM n (3 : Int))) (madeM ((1 : Int) + (pickM n (3 : Int))) x)).2.2)), (10, .sub 1 0 (((1 : Int) + (pickM n (3 : Int))).toNat)), (12, .bool v12), (90, .bool (decide ((¬ (holdsM (madeM ((1 : Int) + (pickM n (3 : Int))) x) (r1.take (((1 : Int) + (pickM n (3 : Int))).toNat))) = v12) ∨ ((v12 = true) ∧ (¬ (closeM ((1 : Int) + (pickM n (3 : Int))) (madeM ((1 : Int) + (pickM n (3 : Int))) x)).2.2 = (0 : Int))))))], [.box 34 [.int .i64 (((closeM ((1 : Int) + (pickM n (3 : Int))) (madeM ((1 : Int) + (pickM n (3 : Int))) x)).1).n), .lst false (((closeM ((1 : Int) + (pickM n (3 : Int))) (madeM ((1 : Int) + (pickM n (3 : Int))) x)).1).most).length (encL (eSl eInt true) (((closeM ((1 : Int) + (pickM n (3 : Int))) (madeM ((1 : Int) + (pickM n (3 : Int))) x)).1).most))], .row 3 1 (encL eInt r1)], false⟩ ?_ ?_
              · refine cL rfl (o_move (v := .lst _ _ _) rfl ?_)
                refine cL rfl (o_move (v := .sub _ _ _) rfl ?_)
                obtain ⟨s9716, sd⟩ := sd
                obtain ⟨s9717, sd⟩ := sd
                obtain ⟨s9718, sd⟩ := sd
                refine cL rfl (o_callP1 (k := 28) (fst := []) (caps := []) (ys := [.lst _ _ _, .sub _ _ _]) rfl rfl (spec_holds (madeM ((1 : Int) + (pickM n (3 : Int))) x) (r1.take (((1 : Int) + (pickM n (3 : Int))).toNat)) s9716 s9717) (Wks.cons (ag_lst _ _ _ _ _) (Wks.cons (ag_subR (fl := false) (xs := r1) encInt 4 (k := 0) (ys := r1.take (((1 : Int) + (pickM n (3 : Int))).toNat)) rfl (by simp) (by simp) s9718) (Wks.refl _))) ?_)
                refine cL rfl (o_move (v := .bool _) rfl ?_)
                refine cL rfl (o_neB rfl tt4 rfl rfl ?_)
                refine cL rfl (o_move (v := .bool _) rfl ?_)
                by_cases c1 : ¬ (holdsM (madeM ((1 : Int) + (pickM n (3 : Int))) x) (r1.take (((1 : Int) + (pickM n (3 : Int))).toNat))) = v12
                · refine cLs rfl rfl rfl (decide_eq_true c1) ?_
                  refine cLs rfl rfl rfl (decide_eq_true c1) ?_
                  refine cLu rfl rfl rfl ?_
                  refine cLu rfl rfl rfl ?_
                  refine cLs rfl rfl rfl (decide_eq_true c1) ?_
                  refine cL rfl (o_pickT (v := .bool _) rfl (decide_eq_true c1) rfl ?_)
                  refine eL ?_
                  exact le_mk ⟨rfl, rfl, rfl, rfl, rfl, rfl, (congrArg AV.bool (dOrT c1)).symm, trivial⟩ rfl
                · refine cLg rfl rfl (decide_eq_false c1) ?_
                  refine cL rfl (o_move (v := .bool _) rfl ?_)
                  refine cLg rfl rfl (decide_eq_false c1) ?_
                  refine cL rfl (o_move (v := .bool _) rfl ?_)
                  by_cases c2 : v12 = true
                  · refine cLg rfl rfl (c2) ?_
                    refine cL rfl (o_move (v := .int _ _) rfl ?_)
                    refine cLg rfl rfl (c2) ?_
                    refine cL rfl (o_neI rfl rfl rfl ?_)
                    refine cLg rfl rfl (decide_eq_false c1) ?_
                    refine cL rfl (o_pickT (v := .bool _) rfl c2 rfl ?_)
                    refine cL rfl (o_pickF (v := .bool _) rfl (decide_eq_false c1) rfl ?_)
                    refine eL ?_
                    exact le_mk ⟨rfl, rfl, rfl, rfl, rfl, rfl, (congrArg AV.bool (dOrF c1 (dAndT c2 (rfl)))).symm, trivial⟩ rfl
                  · refine cLs rfl rfl rfl ((Bool.eq_false_iff.2 c2)) ?_
                    refine cLs rfl rfl rfl ((Bool.eq_false_iff.2 c2)) ?_
                    refine cLg rfl rfl (decide_eq_false c1) ?_
                    refine cL rfl (o_pickF (v := .bool _) rfl (Bool.eq_false_iff.2 c2) rfl ?_)
                    refine cL rfl (o_pickF (v := .bool _) rfl (decide_eq_false c1) rfl ?_)
                    refine eL ?_
                    exact le_mk ⟨rfl, rfl, rfl, rfl, rfl, rfl, (congrArg AV.bool (dOrF c1 (dAndF c2))).symm, trivial⟩ rfl
              · refine W.cn rfl (fun hc => ?_) (fun hc => ?_)
                · have hv := hv.1 hc
                  refine W.rL ?_
                  refine cL rfl (o_assign (v := .bool _) rfl ?_)
                  refine eL ?_
                  refine W.tr [(4, .bool _)] [.box _ [.int _ _, .lst _ _ _], .row _ _ _] ⟨rfl, trivial⟩ rfl ?_
                  refine W.ret ?_
                  refine th_ret (bl_ret (th_ret (th_ret (bl_ret (th_ret (rt ?_))))))
                  refine rt_t (v := .bool _) rfl ?_
                  refine rt_n ?_
                  exact ⟨_, rs_bool _ _ _, false, rfl, hv⟩
                · have hv := hv.2 hc
                  refine W.skip ?_
                  refine th_nrm ?_
                  refine W.tr [(5, .int _ _), (6, .lst _ _ _), (7, .ptr _ _), (9, .int _ _), (10, .sub _ _ _), (12, .bool _)] [.box _ [.int _ _, .lst _ _ _], .row _ _ _] ⟨rfl, rfl, rfl, rfl, rfl, rfl, trivial⟩ rfl ?_
                  refine W.seq' ?_
                  refine W.rL ?_
                  refine cL rfl (o_move (v := .int _ _) rfl ?_)
                  refine cL rfl (o_neI rfl rfl rfl ?_)
                  refine eL ?_
                  refine W.tr [(5, .int _ _), (6, .lst _ _ _), (7, .ptr _ _), (9, .int _ _), (10, .sub _ _ _), (12, .bool _), (92, .bool _)] [.box _ [.int _ _, .lst _ _ _], .row _ _ _] ⟨rfl, rfl, rfl, rfl, rfl, rfl, rfl, trivial⟩ rfl ?_
                  refine W.cn rfl (fun hc => ?_) (fun hc => ?_)
                  · have hv := hv.1 hc
                    refine W.exit ?_
                    exact th_exit (bl_hit (th_nrm (⟨(), hv, St.to_mk (φ := [some 0, some 1]) rfl (.inl rfl) ⟨Ren.int _ _, Ren.lst _ _ _, Ren.ptr rfl, Ren.int _ _, Ren.sub rfl, trivial⟩ ⟨.inr ⟨_, rfl, rfl, Rens.cons (Ren.int _ _) (Rens.cons (Ren.lst _ _ _) (Rens.nil))⟩, .inr ⟨_, rfl, rfl, rfl, rfl, Rens.enc encInt false r1⟩, trivial⟩⟩)))
                  · have hv := hv.2 hc
                    refine W.skip ?_
                    refine th_nrm ?_
                    refine W.tr [(5, .int _ _), (6, .lst _ _ _), (7, .ptr _ _), (9, .int _ _), (10, .sub _ _ _), (12, .bool _)] [.box _ [.int _ _, .lst _ _ _], .row _ _ _] ⟨rfl, rfl, rfl, rfl, rfl, rfl, trivial⟩ rfl ?_
                    refine W.rL ?_
                    refine cL rfl (o_assign (v := .bool _) rfl ?_)
                    refine eL ?_
                    refine W.tr [(5, .int _ _), (6, .lst _ _ _), (7, .ptr _ _), (9, .int _ _), (10, .sub _ _ _), (12, .bool _), (14, .bool _)] [.box _ [.int _ _, .lst _ _ _], .row _ _ _] ⟨rfl, rfl, rfl, rfl, rfl, rfl, rfl, trivial⟩ rfl ?_
                    refine W.seq' ?_
                    refine W.rL ?_
                    refine cL rfl (o_assign (v := .int _ _) rfl ?_)
                    refine eL ?_
                    refine W.tr [(5, .int _ _), (6, .lst _ _ _), (7, .ptr _ _), (9, .int _ _), (10, .sub _ _ _), (12, .bool _), (14, .bool _), (15, .int _ _)] [.box _ [.int _ _, .lst _ _ _], .row _ _ _] ⟨rfl, rfl, rfl, rfl, rfl, rfl, rfl, rfl, trivial⟩ rfl ?_
                    refine W.block ?_
                    obtain ⟨I4, μ4, hp, hv⟩ := hv
                    refine W.loop2 (fun v14 v15 => ⟨143, look [(5, .int .i64 ((1 : Int) + (pickM n (3 : Int)))), (6, .lst false (madeM ((1 : Int) + (pickM n (3 : Int))) x).length (encL e25 (madeM ((1 : Int) + (pickM n (3 : Int))) x))), (7, .ptr 0 0), (9, .int .i64 ((closeM ((1 : Int) + (pickM n (3 : Int))) (madeM ((1 : Int) + (pickM n (3 : Int))) x)).2.2)), (10, .sub 1 0 (((1 : Int) + (pickM n (3 : Int))).toNat)), (12, .bool v12), (14, .bool v14), (15, .int .i64 v15)], [.box 34 [.int .i64 (((closeM ((1 : Int) + (pickM n (3 : Int))) (madeM ((1 : Int) + (pickM n (3 : Int))) x)).1).n), .lst false (((closeM ((1 : Int) + (pickM n (3 : Int))) (madeM ((1 : Int) + (pickM n (3 : Int))) x)).1).most).length (encL (eSl eInt true) (((closeM ((1 : Int) + (pickM n (3 : Int))) (madeM ((1 : Int) + (pickM n (3 : Int))) x)).1).most))], .row 3 1 (encL eInt r1)], false⟩) I4 μ4 true (0 : Int) (St.to_mk (φ := [some 0, some 1]) rfl (.inl rfl) ⟨Ren.int _ _, Ren.lst _ _ _, Ren.ptr rfl, Ren.int _ _, Ren.sub rfl, Ren.bool _, Ren.bool _, Ren.int _ _, trivial⟩ ⟨.inr ⟨_, rfl, rfl, Rens.cons (Ren.int _ _) (Rens.cons (Ren.lst _ _ _) (Rens.nil))⟩, .inr ⟨_, rfl, rfl, rfl, rfl, Rens.enc encInt false r1⟩, trivial⟩) hp ?_
                    clear hp
                    intro v14 v15 hI
                    replace hv := hv v14 v15 hI
                    clear hI
                    refine W.seq' ?_
                    refine W.rL ?_
                    refine cL rfl (o_move (v := .int _ _) rfl ?_)
                    refine cL rfl (o_move (v := .int _ _) rfl ?_)
                    refine cL rfl (o_lss rfl rfl ?_)
                    refine eL ?_
                    refine W.tr [(5, .int _ _), (6, .lst _ _ _), (7, .ptr _ _), (9, .int _ _), (10, .sub _ _ _), (12, .bool _), (14, .bool _), (15, .int _ _), (95, .bool _)] [.box _ [.int _ _, .lst _ _ _], .row _ _ _] ⟨rfl, rfl, rfl, rfl, rfl, rfl, rfl, rfl, rfl, trivial⟩ rfl ?_
                    refine W.cn rfl (fun hc => ?_) (fun hc => ?_)
                    · have hv := hv.1 hc
                      refine W.skip ?_
                      refine th_nrm ?_
                      refine W.tr [(5, .int _ _), (6, .lst _ _ _), (7, .ptr _ _), (9, .int _ _), (10, .sub _ _ _), (12, .bool _), (14, .bool _), (15, .int _ _)] [.box _ [.int _ _, .lst _ _ _], .row _ _ _] ⟨rfl, rfl, rfl, rfl, rfl, rfl, rfl, rfl, trivial⟩ rfl ?_
                      refine W.seq' ?_
                      refine W.block ?_
                      refine W.rL ?_
                      refine cL rfl (o_assign (v := .int _ _) rfl ?_)
                      refine eL ?_
                      refine W.tr [(5, .int _ _), (6, .lst _ _ _), (7, .ptr _ _), (9, .int _ _), (10, .sub _ _ _), (12, .bool _), (14, .bool _), (15, .int _ _), (16, .int _ _)] [.box _ [.int _ _, .lst _ _ _], .row _ _ _] ⟨rfl, rfl, rfl, rfl, rfl, rfl, rfl, rfl, rfl, trivial⟩ rfl ?_
                      refine W.block ?_
                      obtain ⟨I5, μ5, hp, hv⟩ := hv
                      refine W.loop2 (fun v14_1 v16 => ⟨143, look [(5, .int .i64 ((1 : Int) + (pickM n (3 : Int)))), (6, .lst false (madeM ((1 : Int) + (pickM n (3 : Int))) x).length (encL e25 (madeM ((1 : Int) + (pickM n (3 : Int))) x))), (7, .ptr 0 0), (9, .int .i64 ((closeM ((1 : Int) + (pickM n (3 : Int))) (madeM ((1 : Int) + (pickM n (3 : Int))) x)).2.2)), (10, .sub 1 0 (((1 : Int) + (pickM n (3 : Int))).toNat)), (12, .bool v12), (14, .bool v14_1), (15, .int .i64 v15), (16, .int .i64 v16)], [.box 34 [.int .i64 (((closeM ((1 : Int) + (pickM n (3 : Int))) (madeM ((1 : Int) + (pickM n (3 : Int))) x)).1).n), .lst false (((closeM ((1 : Int) + (pickM n (3 : Int))) (madeM ((1 : Int) + (pickM n (3 : Int))) x)).1).most).length (encL (eSl eInt true) (((closeM ((1 : Int) + (pickM n (3 : Int))) (madeM ((1 : Int) + (pickM n (3 : Int))) x)).1).most))], .row 3 1 (encL eInt r1)], false⟩) I5 μ5 v14 (0 : Int) (St.to_mk (φ := [some 0, some 1]) rfl (.inl rfl) ⟨Ren.int _ _, Ren.lst _ _ _, Ren.ptr rfl, Ren.int _ _, Ren.sub rfl, Ren.bool _, Ren.bool _, Ren.int _ _, Ren.int _ _, trivial⟩ ⟨.inr ⟨_, rfl, rfl, Rens.cons (Ren.int _ _) (Rens.cons (Ren.lst _ _ _) (Rens.nil))⟩, .inr ⟨_, rfl, rfl, rfl, rfl, Rens.enc encInt false r1⟩, trivial⟩) hp ?_
                      clear hp
                      intro v14_1 v16 hI
                      replace hv := hv v14_1 v16 hI
                      clear hI
                      refine W.seq' ?_
                      refine W.rL ?_
                      refine cL rfl (o_move (v := .int _ _) rfl ?_)
                      refine cL rfl (o_move (v := .int _ _) rfl ?_)
                      refine cL rfl (o_lss rfl rfl ?_)
                      refine eL ?_
                      refine W.tr [(5, .int _ _), (6, .lst _ _ _), (7, .ptr _ _), (9, .int _ _), (10, .sub _ _ _), (12, .bool _), (14, .bool _), (15, .int _ _), (16, .int _ _), (100, .bool _)] [.box _ [.int _ _, .lst _ _ _], .row _ _ _] ⟨rfl, rfl, rfl, rfl, rfl, rfl, rfl, rfl, rfl, rfl, trivial⟩ rfl ?_
                      refine W.cn rfl (fun hc => ?_) (fun hc => ?_)
                      · have hv := hv.1 hc
                        refine W.skip ?_
                        refine th_nrm ?_
                        refine W.tr [(5, .int _ _), (6, .lst _ _ _), (7, .ptr _ _), (9, .int _ _), (10, .sub _ _ _), (12, .bool _), (14, .bool _), (15, .int _ _), (16, .int _ _)] [.box _ [.int _ _, .lst _ _ _], .row _ _ _] ⟨rfl, rfl, rfl, rfl, rfl, rfl, rfl, rfl, rfl, trivial⟩ rfl ?_
                        refine W.seq' ?_
                        refine W.block ?_
                        refine W.rL ?_
                        refine cL rfl (o_ldA (cs := [.int _ _, .lst _ _ _]) tt34 rfl rfl ⟨_, rfl⟩ rfl ?_)
                        refine cL rfl (o_move (v := .int _ _) rfl ?_)
                        refine cL rfl (o_move (v := .int _ _) rfl ?_)
                        obtain ⟨s10419, hv⟩ := hv
                        obtain ⟨s10420, hv⟩ := hv
                        refine cL rfl (o_callP1 (k := 21) (fst := []) (caps := []) (ys := [.agg _, .int _ _, .int _ _]) rfl rfl (spec_range ((closeM ((1 : Int) + (pickM n (3 : Int))) (madeM ((1 : Int) + (pickM n (3 : Int))) x)).1) v15 v16 s10419 s10420) (Wks.cons (ag_agg 5 _ (Wks.cons (ag_int _ _ _ _) (Wks.cons (ag_lst _ _ _ _ _) (Wks.refl _)))) (Wks.cons (ag_int _ _ _ _) (Wks.cons (ag_int _ _ _ _) (Wks.refl _)))) ?_)
                        refine cL rfl (o_move (v := .tup _) rfl ?_)
                        refine cL rfl (o_ext (v := .int _ _) rfl rfl ?_)
                        refine cL rfl (o_ext (v := .int _ _) rfl rfl ?_)
                        refine cL rfl (o_ext (v := .int _ _) rfl rfl ?_)
                        refine cL rfl (o_assign (v := .int _ _) rfl ?_)
                        refine cL rfl (o_assign (v := .int _ _) rfl ?_)
                        refine cL rfl (o_assign (v := .int _ _) rfl ?_)
                        refine eL ?_
                        refine W.tr [(5, .int _ _), (6, .lst _ _ _), (7, .ptr _ _), (9, .int _ _), (10, .sub _ _ _), (12, .bool _), (14, .bool _), (15, .int _ _), (16, .int _ _), (17, .int _ _), (18, .int _ _), (19, .int _ _)] [.box _ [.int _ _, .lst _ _ _], .row _ _ _] ⟨rfl, rfl, rfl, rfl, rfl, rfl, rfl, rfl, rfl, rfl, rfl, rfl, trivial⟩ rfl ?_
                        refine W.seq' ?_
                        refine W.rL ?_
                        refine cL rfl (o_move (v := .int _ _) rfl ?_)
                        refine cL rfl (o_neI rfl rfl rfl ?_)
                        refine eL ?_
                        refine W.tr [(5, .int _ _), (6, .lst _ _ _), (7, .ptr _ _), (9, .int _ _), (10, .sub _ _ _), (12, .bool _), (14, .bool _), (15, .int _ _), (16, .int _ _), (17, .int _ _), (18, .int _ _), (112, .bool _)] [.box _ [.int _ _, .lst _ _ _], .row _ _ _] ⟨rfl, rfl, rfl, rfl, rfl, rfl, rfl, rfl, rfl, rfl, rfl, rfl, trivial⟩ rfl ?_
                        refine W.cn rfl (fun hc => ?_) (fun hc => ?_)
                        · have hv := hv.1 hc
                          refine W.rL ?_
                          refine cL rfl (o_assign (v := .bool _) rfl ?_)
                          refine eL ?_
                          refine W.tr [(4, .bool _)] [.box _ [.int _ _, .lst _ _ _], .row _ _ _] ⟨rfl, trivial⟩ rfl ?_
                          refine W.ret ?_
                          refine th_ret (bl_ret (th_ret (th_ret (bl_ret (bl_ret (th_ret (th_ret (bl_ret (th_ret (bl_ret (th_ret (th_ret (bl_ret (th_ret (rt ?_)))))))))))))))
                          refine rt_t (v := .bool _) rfl ?_
                          refine rt_n ?_
                          exact ⟨_, rs_bool _ _ _, false, rfl, hv⟩
                        · have hv := hv.2 hc
                          refine W.skip ?_
                          refine th_nrm ?_
                          refine W.tr [(5, .int _ _), (6, .lst _ _ _), (7, .ptr _ _), (9, .int _ _), (10, .sub _ _ _), (12, .bool _), (14, .bool _), (15, .int _ _), (16, .int _ _), (17, .int _ _), (18, .int _ _)] [.box _ [.int _ _, .lst _ _ _], .row _ _ _] ⟨rfl, rfl, rfl, rfl, rfl, rfl, rfl, rfl, rfl, rfl, rfl, trivial⟩ rfl ?_
                          obtain ⟨sd, hv⟩ := hv
                          refine W.rDm1 ⟨143, look [(5, .int .i64 ((1 : Int) + (pickM n (3 : Int)))), (6, .lst false (madeM ((1 : Int) + (pickM n (3 : Int))) x).length (encL e25 (madeM ((1 : Int) + (pickM n (3 : Int))) x))), (7, .ptr 0 0), (9, .int .i64 ((closeM ((1 : Int) + (pickM n (3 : Int))) (madeM ((1 : Int) + (pickM n (3 : Int))) x)).2.2)), (10, .sub 1 0 (((1 : Int) + (pickM n (3 : Int))).toNat)), (12, .bool v12), (14, .bool (decide ((v14_1 = true) ∧ ((((rangeM ((closeM ((1 : Int) + (pickM n (3 : Int))) (madeM ((1 : Int) + (pickM n (3 : Int))) x)).1) v15 v16).1) ≤ ((lat r1 v16) - (lat r1 v15))) ∧ (((lat r1 v16) - (lat r1 v15)) ≤ ((rangeM ((closeM ((1 : Int) + (pickM n (3 : Int))) (madeM ((1 : Int) + (pickM n (3 : Int))) x)).1) v15 v16).2.1)))))), (15, .int .i64 v15), (16, .int .i64 v16)], [.box 34 [.int .i64 (((closeM ((1 : Int) + (pickM n (3 : Int))) (madeM ((1 : Int) + (pickM n (3 : Int))) x)).1).n), .lst false (((closeM ((1 : Int) + (pickM n (3 : Int))) (madeM ((1 : Int) + (pickM n (3 : Int))) x)).1).most).length (encL (eSl eInt true) (((closeM ((1 : Int) + (pickM n (3 : Int))) (madeM ((1 : Int) + (pickM n (3 : Int))) x)).1).most))], .row 3 1 (encL eInt r1)], false⟩ (fun s hl h => W.le hl h) [0, 1, 2, 3, 4, 5, 6, 7, 8, 9, 10, 11, 12, 13, 14, 15, 16, 17, 18, 19, 20, 21, 22, 23, 24, 25, 26, 27] (by decide +kernel) rfl ?_ ?_
                          · refine cL rfl (o_move (v := .bool _) rfl ?_)
                            refine cL rfl (o_move (v := .bool _) rfl ?_)
                            by_cases c1 : v14_1 = true
                            · have sd := sd.1 c1
                              refine cLg rfl rfl (c1) ?_
                              refine cL rfl (o_move (v := .sub _ _ _) rfl ?_)
                              refine cLg rfl rfl (c1) ?_
                              refine cL rfl (o_move (v := .int _ _) rfl ?_)
                              refine cLg rfl rfl (c1) ?_
                              obtain ⟨s10431, sd⟩ := sd
                              obtain ⟨s10432, sd⟩ := sd
                              refine cL rfl (o_iaS tt35 tt3 rfl rfl s10431 (Nat.zero_add _) ?_)
                              refine cLg rfl rfl (c1) ?_
                              refine cL rfl (o_ldS (v := .int _ _) tt3 rfl rfl (cell_of (ca_row (xs := r1) rfl (encInt.wd false) s10432) rfl) ?_)
                              refine cLg rfl rfl (c1) ?_
                              refine cL rfl (o_move (v := .sub _ _ _) rfl ?_)
                              refine cLg rfl rfl (c1) ?_
                              refine cL rfl (o_move (v := .int _ _) rfl ?_)
                              refine cLg rfl rfl (c1) ?_
                              obtain ⟨s10433, sd⟩ := sd
                              obtain ⟨s10434, sd⟩ := sd
                              refine cL rfl (o_iaS tt35 tt3 rfl rfl s10433 (Nat.zero_add _) ?_)
                              refine cLg rfl rfl (c1) ?_
                              refine cL rfl (o_ldS (v := .int _ _) tt3 rfl rfl (cell_of (ca_row (xs := r1) rfl (encInt.wd false) s10434) rfl) ?_)
                              refine cLg rfl rfl (c1) ?_
                              obtain ⟨s10435, sd⟩ := sd
                              refine cL rfl (o_sub rfl rfl s10435 ?_)
                              refine cLg rfl rfl (c1) ?_
                              refine cL rfl (o_move (v := .int _ _) rfl ?_)
                              refine cLg rfl rfl (c1) ?_
                              refine cL rfl (o_geq rfl rfl ?_)
                              refine cL rfl (o_pickT (v := .bool _) rfl c1 rfl ?_)
                              refine cL rfl (o_move (v := .bool _) rfl ?_)
                              by_cases c2 : ((rangeM ((closeM ((1 : Int) + (pickM n (3 : Int))) (madeM ((1 : Int) + (pickM n (3 : Int))) x)).1) v15 v16).1) ≤ ((lat r1 v16) - (lat r1 v15))
                              · have sd := sd.1 c2
                                refine cLg rfl rfl (decide_eq_true c2) ?_
                                refine cL rfl (o_move (v := .sub _ _ _) rfl ?_)
                                refine cLg rfl rfl (decide_eq_true c2) ?_
                                refine cL rfl (o_move (v := .int _ _) rfl ?_)
                                refine cLg rfl rfl (decide_eq_true c2) ?_
                                obtain ⟨s10436, sd⟩ := sd
                                obtain ⟨s10437, sd⟩ := sd
                                refine cL rfl (o_iaS tt35 tt3 rfl rfl s10436 (Nat.zero_add _) ?_)
                                refine cLg rfl rfl (decide_eq_true c2) ?_
                                refine cL rfl (o_ldS (v := .int _ _) tt3 rfl rfl (cell_of (ca_row (xs := r1) rfl (encInt.wd false) s10437) rfl) ?_)
                                refine cLg rfl rfl (decide_eq_true c2) ?_
                                refine cL rfl (o_move (v := .sub _ _ _) rfl ?_)
                                refine cLg rfl rfl (decide_eq_true c2) ?_
                                refine cL rfl (o_move (v := .int _ _) rfl ?_)
                                refine cLg rfl rfl (decide_eq_true c2) ?_
                                obtain ⟨s10438, sd⟩ := sd
                                obtain ⟨s10439, sd⟩ := sd
                                refine cL rfl (o_iaS tt35 tt3 rfl rfl s10438 (Nat.zero_add _) ?_)
                                refine cLg rfl rfl (decide_eq_true c2) ?_
                                refine cL rfl (o_ldS (v := .int _ _) tt3 rfl rfl (cell_of (ca_row (xs := r1) rfl (encInt.wd false) s10439) rfl) ?_)
                                refine cLg rfl rfl (decide_eq_true c2) ?_
                                obtain ⟨s10440, sd⟩ := sd
                                refine cL rfl (o_sub rfl rfl s10440 ?_)
                                refine cLg rfl rfl (decide_eq_true c2) ?_
                                refine cL rfl (o_move (v := .int _ _) rfl ?_)
                                refine cLg rfl rfl (decide_eq_true c2) ?_
                                refine cL rfl (o_leq rfl rfl ?_)
                                refine cL rfl (o_pickT (v := .bool _) rfl (decide_eq_true c2) rfl ?_)
                                refine cL rfl (o_assign (v := .bool _) rfl ?_)
                                refine eL ?_
                                exact le_mk ⟨rfl, rfl, rfl, rfl, rfl, rfl, (congrArg AV.bool (dAndT c1 (dAndT c2 (rfl)))).symm, rfl, rfl, trivial⟩ rfl
                              · refine cLs rfl rfl rfl (decide_eq_false c2) ?_
                                refine cLs rfl rfl rfl (decide_eq_false c2) ?_
                                refine cLs rfl rfl rfl (decide_eq_false c2) ?_
                                refine cLs rfl rfl rfl (decide_eq_false c2) ?_
                                refine cLs rfl rfl rfl (decide_eq_false c2) ?_
                                refine cLs rfl rfl rfl (decide_eq_false c2) ?_
                                refine cLs rfl rfl rfl (decide_eq_false c2) ?_
                                refine cLs rfl rfl rfl (decide_eq_false c2) ?_
                                refine cLs rfl rfl rfl (decide_eq_false c2) ?_
                                refine cLs rfl rfl rfl (decide_eq_false c2) ?_
                                refine cLs rfl rfl rfl (decide_eq_false c2) ?_
                                refine cL rfl (o_pickF (v := .bool _) rfl (decide_eq_false c2) rfl ?_)
                                refine cL rfl (o_assign (v := .bool _) rfl ?_)
                                refine eL ?_
                                exact le_mk ⟨rfl, rfl, rfl, rfl, rfl, rfl, (congrArg AV.bool (dAndT c1 (dAndF c2))).symm, rfl, rfl, trivial⟩ rfl
                            · refine cLs rfl rfl rfl ((Bool.eq_false_iff.2 c1)) ?_
                              refine cLs rfl rfl rfl ((Bool.eq_false_iff.2 c1)) ?_
                              refine cLs rfl rfl rfl ((Bool.eq_false_iff.2 c1)) ?_
                              refine cLs rfl rfl rfl ((Bool.eq_false_iff.2 c1)) ?_
                              refine cLs rfl rfl rfl ((Bool.eq_false_iff.2 c1)) ?_
                              refine cLs rfl rfl rfl ((Bool.eq_false_iff.2 c1)) ?_
                              refine cLs rfl rfl rfl ((Bool.eq_false_iff.2 c1)) ?_
                              refine cLs rfl rfl rfl ((Bool.eq_false_iff.2 c1)) ?_
                              refine cLs rfl rfl rfl ((Bool.eq_false_iff.2 c1)) ?_
                              refine cLs rfl rfl rfl ((Bool.eq_false_iff.2 c1)) ?_
                              refine cLs rfl rfl rfl ((Bool.eq_false_iff.2 c1)) ?_
                              refine cL rfl (o_pickF (v := .bool _) rfl (Bool.eq_false_iff.2 c1) rfl ?_)
                              refine cL rfl (o_move (v := .bool _) rfl ?_)
                              refine cLs rfl rfl rfl (rfl) ?_
                              refine cLs rfl rfl rfl (rfl) ?_
                              refine cLs rfl rfl rfl (rfl) ?_
                              refine cLs rfl rfl rfl (rfl) ?_
                              refine cLs rfl rfl rfl (rfl) ?_
                              refine cLs rfl rfl rfl (rfl) ?_
                              refine cLs rfl rfl rfl (rfl) ?_
                              refine cLs rfl rfl rfl (rfl) ?_
                              refine cLs rfl rfl rfl (rfl) ?_
                              refine cLs rfl rfl rfl (rfl) ?_
                              refine cLs rfl rfl rfl (rfl) ?_
                              refine cL rfl (o_pickF (v := .bool _) rfl rfl rfl ?_)
                              refine cL rfl (o_assign (v := .bool _) rfl ?_)
                              refine eL ?_
                              exact le_mk ⟨rfl, rfl, rfl, rfl, rfl, rfl, (congrArg AV.bool (dAndF c1)).symm, rfl, rfl, trivial⟩ rfl
                          · refine bl_nrm (th_nrm ?_)
                            refine W.tr [(5, .int _ _), (6, .lst _ _ _), (7, .ptr _ _), (9, .int _ _), (10, .sub _ _ _), (12, .bool _), (14, .bool _), (15, .int _ _), (16, .int _ _)] [.box _ [.int _ _, .lst _ _ _], .row _ _ _] ⟨rfl, rfl, rfl, rfl, rfl, rfl, rfl, rfl, rfl, trivial⟩ rfl ?_
                            refine W.rL1 ?_
                            refine cL rfl (o_move (v := .int _ _) rfl ?_)
                            obtain ⟨s10441, hv⟩ := hv
                            refine cL rfl (o_add rfl rfl s10441 ?_)
                            refine cL rfl (o_assign (v := .int _ _) rfl ?_)
                            refine eL ?_
                            exact th_nrm (⟨(), (decide ((v14_1 = true) ∧ ((((rangeM ((closeM ((1 : Int) + (pickM n (3 : Int))) (madeM ((1 : Int) + (pickM n (3 : Int))) x)).1) v15 v16).1) ≤ ((lat r1 v16) - (lat r1 v15))) ∧ (((lat r1 v16) - (lat r1 v15)) ≤ ((rangeM ((closeM ((1 : Int) + (pickM n (3 : Int))) (madeM ((1 : Int) + (pickM n (3 : Int))) x)).1) v15 v16).2.1))))), (v16 + (1 : Int)), hv, St.to_mk (φ := [some 0, some 1]) rfl (.inl rfl) ⟨Ren.int _ _, Ren.lst _ _ _, Ren.ptr rfl, Ren.int _ _, Ren.sub rfl, Ren.bool _, Ren.bool _, Ren.int _ _, Ren.int _ _, trivial⟩ ⟨.inr ⟨_, rfl, rfl, Rens.cons (Ren.int _ _) (Rens.cons (Ren.lst _ _ _) (Rens.nil))⟩, .inr ⟨_, rfl, rfl, rfl, rfl, Rens.enc encInt false r1⟩, trivial⟩⟩)
                      · have hv := hv.2 hc
                        refine W.exit ?_
                        refine th_exit (th_exit (bl_hit (bl_nrm (th_nrm ?_))))
                        refine W.tr [(5, .int _ _), (6, .lst _ _ _), (7, .ptr _ _), (9, .int _ _), (10, .sub _ _ _), (12, .bool _), (14, .bool _), (15, .int _ _)] [.box _ [.int _ _, .lst _ _ _], .row _ _ _] ⟨rfl, rfl, rfl, rfl, rfl, rfl, rfl, rfl, trivial⟩ rfl ?_
                        refine W.rL1 ?_
                        refine cL rfl (o_move (v := .int _ _) rfl ?_)
                        obtain ⟨s10442, hv⟩ := hv
                        refine cL rfl (o_add rfl rfl s10442 ?_)
                        refine cL rfl (o_assign (v := .int _ _) rfl ?_)
                        refine eL ?_
                        exact th_nrm (⟨(), v14_1, (v15 + (1 : Int)), hv, St.to_mk (φ := [some 0, some 1]) rfl (.inl rfl) ⟨Ren.int _ _, Ren.lst _ _ _, Ren.ptr rfl, Ren.int _ _, Ren.sub rfl, Ren.bool _, Ren.bool _, Ren.int _ _, trivial⟩ ⟨.inr ⟨_, rfl, rfl, Rens.cons (Ren.int _ _) (Rens.cons (Ren.lst _ _ _) (Rens.nil))⟩, .inr ⟨_, rfl, rfl, rfl, rfl, Rens.enc encInt false r1⟩, trivial⟩⟩)
                    · have hv := hv.2 hc
                      refine W.exit ?_
                      refine th_exit (th_exit (bl_hit (th_nrm ?_)))
                      refine W.tr [(5, .int _ _), (6, .lst _ _ _), (7, .ptr _ _), (9, .int _ _), (10, .sub _ _ _), (12, .bool _), (14, .bool _)] [.box _ [.int _ _, .lst _ _ _], .row _ _ _] ⟨rfl, rfl, rfl, rfl, rfl, rfl, rfl, trivial⟩ rfl ?_
                      refine W.rL ?_
                      refine cL rfl (o_move (v := .bool _) rfl ?_)
                      refine cL rfl (o_move (v := .bool _) rfl ?_)
                      refine cL rfl (o_neB rfl tt4 rfl rfl ?_)
                      refine eL ?_
                      refine W.tr [(5, .int _ _), (6, .lst _ _ _), (7, .ptr _ _), (9, .int _ _), (10, .sub _ _ _), (142, .bool _)] [.box _ [.int _ _, .lst _ _ _], .row _ _ _] ⟨rfl, rfl, rfl, rfl, rfl, rfl, trivial⟩ rfl ?_
                      refine W.cn rfl (fun hc => ?_) (fun hc => ?_)
                      · have hv := hv.1 hc
                        refine W.rL ?_
                        refine cL rfl (o_assign (v := .bool _) rfl ?_)
                        refine eL ?_
                        refine W.tr [(4, .bool _)] [.box _ [.int _ _, .lst _ _ _], .row _ _ _] ⟨rfl, trivial⟩ rfl ?_
                        refine W.ret ?_
                        refine bl_ret (th_ret (th_ret (bl_ret (th_ret (rt ?_)))))
                        refine rt_t (v := .bool _) rfl ?_
                        refine rt_n ?_
                        exact ⟨_, rs_bool _ _ _, false, rfl, hv⟩
                      · have hv := hv.2 hc
                        refine W.skip ?_
                        exact bl_nrm (th_nrm (⟨(), hv, St.to_mk (φ := [some 0, some 1]) rfl (.inl rfl) ⟨Ren.int _ _, Ren.lst _ _ _, Ren.ptr rfl, Ren.int _ _, Ren.sub rfl, trivial⟩ ⟨.inr ⟨_, rfl, rfl, Rens.cons (Ren.int _ _) (Rens.cons (Ren.lst _ _ _) (Rens.nil))⟩, .inr ⟨_, rfl, rfl, rfl, rfl, Rens.enc encInt false r1⟩, trivial⟩⟩))
        · have hv := hv.2 hc
          refine W.exit ?_
          refine th_exit (th_exit (bl_hit (th_nrm ?_)))
          refine W.tr [] [.box _ [.int _ _, .lst _ _ _], .row _ _ _] trivial rfl ?_
          refine W.rL ?_
          refine cL rfl (o_assign (v := .bool _) rfl ?_)
          refine eL ?_
          refine W.tr [(4, .bool _)] [.box _ [.int _ _, .lst _ _ _], .row _ _ _] ⟨rfl, trivial⟩ rfl ?_
          refine W.ret ?_
          refine rt ?_
          refine rt_t (v := .bool _) rfl ?_
          refine rt_n ?_
          exact ⟨_, rs_bool _ _ _, true, rfl, hv⟩
theorem vcp_Exact (n : Int) (x : (List A3)) (h0 : inI n) (h1 : ∀ y ∈ x, inI y.x0 ∧ inI y.x1 ∧ inI y.x2) : vc_Exact n x (fun q0 => q0 = (true)) := by
  unfold vc_Exact
  have hm := pickM_nonneg (c := n) (n := 3) (by omega)
  generalize hM : (1 : Int) + pickM n 3 = m
  have hm1 : 1 ≤ m ∧ m ≤ 24 := by omega
  have hm3 : m ≤ 3 := by omega
  clear hM hm
  obtain ⟨m, rfl⟩ : ∃ N : Nat, m = N := ⟨m.toNat, by omega⟩
  simp only [Int.toNat_natCast]
  have hvl := made_valid (x := x) hm1
  have hll := made_len (n := m) (x := x)
  generalize madeM m x = l at hvl hll
  have hgl := validM_goodn hvl
  rw [Int.toNat_natCast] at hgl
  have hgl24 := validM_good hvl
  refine ⟨fun h => (h trivial).elim, fun _ => ⟨h0, by omega, by unfold inI; omega, by omega, by omega, h1, by omega, fun h => ?_, fun _ => ⟨by omega, fun v r => ∃ a b c, r = [a, b, c] ∧ (-12 ≤ a ∧ a ≤ 12) ∧ (-12 ≤ b ∧ b ≤ 12) ∧ (-12 ≤ c ∧ c ≤ 12), fun v r => if v = true then (1 + (12 - lat r 1) + 25 * (12 - lat r 2)).toNat else 0, ⟨0, -12, -12, rfl, by omega, by omega, by omega⟩, ?_⟩⟩⟩
  · rcases close_cases hvl with ⟨mt, -, e⟩ | ⟨-, e⟩ <;> rw [e] at h <;> simp at h
  rintro more r ⟨a, b, c, hr, ha, hb, hc⟩
  refine ⟨fun hmore => ?_, fun _ => trivial⟩
  have hrl : r.length = 3 := by rw [hr]; rfl
  have hrb : ∀ i : Int, 0 ≤ i ∧ i < m → -12 ≤ lat r i ∧ lat r i ≤ 12 := fun i hi => by
    obtain ⟨i, rfl⟩ : ∃ N : Nat, i = N := ⟨i.toNat, by omega⟩
    subst hr
    match i, (show i < 3 by omega) with
    | 0, _ => exact ha
    | 1, _ => exact hb
    | 2, _ => exact hc
  have hco : ∀ i : Nat, i < l.length → (0 ≤ (lat l (i : Int)).t ∧ (lat l (i : Int)).t < m) ∧ (0 ≤ (lat l (i : Int)).f ∧ (lat l (i : Int)).f < m) := fun i hi => by
    have := hgl _ (lat_mem (xs := l) (i := i) ⟨by omega, by omega⟩)
    exact ⟨this.2.1, this.1⟩
  have htl : (r.take m).length = m := by rw [List.length_take]; omega
  have htk : ∀ i : Int, 0 ≤ i ∧ i < m → lat (r.take m) i = lat r i := fun i hi => by
    obtain ⟨i, rfl⟩ : ∃ N : Nat, i = N := ⟨i.toNat, by omega⟩
    rw [lat_nat, lat_nat, List.getD_eq_getElem?_getD, List.getD_eq_getElem?_getD, List.getElem?_take_of_lt (by omega)]
  have hholds : holdsM l (r.take m) = true ↔ ∀ c ∈ l, lat r c.t - lat r c.f ≤ c.m := by
    rw [holdsM_iff, htl]
    have h1 : ∀ v ∈ r.take m, -1152921504606846976 ≤ v ∧ v ≤ 1152921504606846976 := fun v hv => by
      obtain ⟨i, hi, rfl⟩ := List.getElem_of_mem hv
      have h2 : lat (r.take m) (i : Int) = (r.take m)[i] := lat_get hi
      rw [← h2, htk _ (by omega)]
      have := hrb i (by omega)
      omega
    have h2 : ∀ c ∈ l, lat (r.take m) c.t - lat (r.take m) c.f = lat r c.t - lat r c.f := fun c hc => by
      obtain ⟨c1, c2, -⟩ := hgl c hc
      rw [htk _ c1, htk _ c2]
    exact ⟨fun h c hc => by rw [← h2 c hc]; exact h.2 c hc, fun h => ⟨⟨hvl, h1⟩, fun c hc => by rw [h2 c hc]; exact h c hc⟩⟩
  have hS : (∀ c ∈ l, lat r c.t - lat r c.f ≤ c.m) ↔ SolL l (fun i => lat r (i : Int)) := by
    have e : ∀ c ∈ l, ((c.t.toNat : Nat) : Int) = c.t ∧ ((c.f.toNat : Nat) : Int) = c.f := fun c hc => by
      obtain ⟨c1, c2, -⟩ := hgl c hc; omega
    exact ⟨fun h c hc => by dsimp only; rw [(e c hc).1, (e c hc).2]; exact h c hc, fun h c hc => by have := h c hc; dsimp only at this; rw [(e c hc).1, (e c hc).2] at this; exact this⟩
  refine ⟨True, fun _ => ?_, fun v k => ∃ i : Nat, k = i ∧ i ≤ l.length ∧ (v = true ↔ ∀ j : Nat, j < i → lat r (lat l (j : Int)).t - lat r (lat l (j : Int)).f ≤ (lat l (j : Int)).m), fun _ k => l.length - k.toNat, ⟨0, rfl, by omega, by simp⟩, ?_⟩
  · obtain ⟨v', b', c', e, e1, e2, e3⟩ := nextX (m := m) (by omega) (a := a) hb hc
    rw [← hr] at e
    rw [e]
    refine ⟨⟨by omega, by omega, fun v hv => ?_, by omega⟩, by omega, by simp, ⟨a, b', c', rfl, ha, e1, e2⟩, ?_⟩
    · rw [hr] at hv
      simp at hv
      omega
    · dsimp only
      rw [if_pos hmore]
      have q1 : lat r 1 = b := by rw [hr]; rfl
      have q2 : lat r 2 = c := by rw [hr]; rfl
      rw [q1, q2]
      split
      · rename_i hv
        have := e3 hv
        have q3 : lat [a, b', c'] 1 = b' := rfl
        have q4 : lat [a, b', c'] 2 = c' := rfl
        rw [q3, q4]; omega
      · omega
  rintro v12 _ ⟨i, rfl, hi, hv⟩
  refine ⟨fun k1 => ⟨⟨fun _ => ?_, fun _ => trivial⟩, by unfold inI; omega, ⟨i + 1, by omega, by omega, ?_⟩, by dsimp only; omega⟩, fun k1 => ⟨⟨by omega, by omega, by omega, trivial⟩, fun h => ?_, fun _ => ⟨fun _ => trivial, fun k2 => ?_⟩⟩⟩
  · obtain ⟨q1, q2⟩ := hco i (by omega)
    have b1 := hrb _ q1
    have b2 := hrb _ q2
    exact ⟨by omega, q1, by omega, by omega, q2, by omega, by unfold inI; omega, by omega, trivial⟩
  · rw [decide_eq_true_iff, hv]
    constructor
    · rintro ⟨h1, h2⟩ j hj
      rcases Nat.lt_or_ge j i with h3 | h3
      · exact h1 j h3
      · have : j = i := by omega
        subst this; exact h2
    · exact fun h => ⟨fun j hj => h j (by omega), h i (by omega)⟩
  · exfalso
    have hie : i = l.length := by omega
    have hv2 : v12 = true ↔ ∀ c ∈ l, lat r c.t - lat r c.f ≤ c.m := by
      rw [hv]
      constructor
      · intro h c hc
        obtain ⟨j, hj, rfl⟩ := List.getElem_of_mem hc
        have := h j (by omega)
        rwa [lat_get hj] at this
      · intro h j hj
        exact h _ (lat_mem ⟨by omega, by omega⟩)
    rcases h with h | ⟨h, h'⟩
    · apply h
      have : holdsM l (r.take m) = true ↔ v12 = true := by rw [hholds, hv2]
      cases e1 : holdsM l (r.take m) <;> cases e2 : v12 <;> simp_all
    · rcases close_cases hvl with ⟨mt, -, e⟩ | ⟨s, -⟩
      · rw [e] at h'; exact h' rfl
      · exact s _ (hS.mp (hv2.mp h))
  have hie : i = l.length := by omega
  have hv2 : v12 = true ↔ ∀ c ∈ l, lat r c.t - lat r c.f ≤ c.m := by
    rw [hv]
    constructor
    · intro h c hc
      obtain ⟨j, hj, rfl⟩ := List.getElem_of_mem hc
      have := h j (by omega)
      rwa [lat_get hj] at this
    · intro h j hj
      exact h _ (lat_mem ⟨by omega, by omega⟩)
  obtain ⟨-, mt, hcm, e⟩ := close_ok (Classical.not_not.mp k2)
  have hbl := bounds_most_len (m := mt) hm1.2
  have hwit : v12 = true ↔ ∀ i j : Nat, i < m → j < m → -mm mt j i ≤ lat r (j : Int) - lat r (i : Int) ∧ lat r (j : Int) - lat r (i : Int) ≤ mm mt i j := by
    have hnb := hNB
    rw [hv2]
    constructor
    · intro h i j hi hj
      have s := (hcm.sol _).mpr (hS.mp h)
      have s1 := s i j (by omega) (by omega)
      have s2 := s j i (by omega) (by omega)
      have b1 := hrb i (by omega)
      have b2 := hrb j (by omega)
      dsimp only at s1 s2
      by_cases f1 : mm mt i j = NB <;> by_cases f2 : mm mt j i = NB
      · omega
      · have := s2 f2; omega
      · have := s1 f1; omega
      · have := s1 f1; have := s2 f2; omega
    · intro h c hc
      obtain ⟨c1, c2, -⟩ := hgl c hc
      have h2 := (h c.f.toNat c.t.toNat (by omega) (by omega)).2
      have h3 := hcm.le hgl24 hc
      rw [show ((c.t.toNat : Nat) : Int) = c.t by omega, show ((c.f.toNat : Nat) : Int) = c.f by omega] at h2
      omega
  rw [e]
  dsimp only
  refine ⟨fun v k => ∃ i : Nat, k = i ∧ i ≤ m ∧ (v = true ↔ ∀ i' j : Nat, i' < i → j < m → -mm mt j i' ≤ lat r (j : Int) - lat r (i' : Int) ∧ lat r (j : Int) - lat r (i' : Int) ≤ mm mt i' j), fun _ k => m - k.toNat, ⟨0, rfl, by omega, by simp⟩, ?_⟩
  rintro v14 _ ⟨i, rfl, hi, hv14⟩
  refine ⟨fun k3 => ⟨fun v k => ∃ j : Nat, k = j ∧ j ≤ m ∧ (v = true ↔ (∀ i' j : Nat, i' < i → j < m → -mm mt j i' ≤ lat r (j : Int) - lat r (i' : Int) ∧ lat r (j : Int) - lat r (i' : Int) ≤ mm mt i' j) ∧ ∀ j' : Nat, j' < j → -mm mt j' i ≤ lat r (j' : Int) - lat r (i : Int) ∧ lat r (j' : Int) - lat r (i : Int) ≤ mm mt i j'), fun _ k => m - k.toNat, ⟨0, rfl, by omega, by rw [hv14]; simp⟩, ?_⟩, fun k3 => ⟨fun h => ?_, fun _ => trivial⟩⟩
  · rintro v14 _ ⟨j, rfl, hj, hw⟩
    refine ⟨fun k4 => ?_, fun k4 => ⟨by unfold inI; omega, ⟨i + 1, by omega, by omega, ?_⟩, by dsimp only; omega⟩⟩
    · have b1 := hrb i (by omega)
      have b2 := hrb j (by omega)
      rw [hcm.range hm1 (by omega) (by omega)]
      dsimp only
      refine ⟨hbl.1, hbl.2, fun h => (h rfl).elim, fun _ => ⟨⟨fun _ => ⟨by omega, by omega, by omega, by omega, by unfold inI; omega, fun _ => ⟨by omega, by omega, by omega, by omega, by unfold inI; omega, trivial⟩, fun _ => trivial⟩, fun _ => trivial⟩, by unfold inI; omega, ⟨j + 1, by omega, by omega, ?_⟩, by omega⟩⟩
      rw [decide_eq_true_iff, hw]
      constructor
      · rintro ⟨⟨h1, h2⟩, h3⟩
        refine ⟨h1, fun j' hj' => ?_⟩
        rcases Nat.lt_or_ge j' j with h4 | h4
        · exact h2 j' h4
        · have : j' = j := by omega
          subst this; exact h3
      · rintro ⟨h1, h2⟩
        exact ⟨⟨h1, fun j' hj' => h2 j' (by omega)⟩, h2 j (by omega)⟩
    · rw [hw]
      constructor
      · rintro ⟨h1, h2⟩ i' j' hi' hj'
        rcases Nat.lt_or_ge i' i with h4 | h4
        · exact h1 i' j' h4 hj'
        · have : i' = i := by omega
          subst this; exact h2 j' (by omega)
      · intro h
        exact ⟨fun i' j' hi' hj' => h i' j' (by omega) hj', fun j' hj' => h i j' (by omega) (by omega)⟩
  · exfalso
    apply h
    have him : i = m := by omega
    have : v14 = true ↔ v12 = true := by
      rw [hv14, hwit, him]
    cases e1 : v14 <;> cases e2 : v12 <;> simp_all
theorem spec_Exact (n : Int) (x : (List A3)) (h0 : inI n) (h1 : ∀ y ∈ x, inI y.x0 ∧ inI y.x1 ∧ inI y.x2) : FnP Try.prog 5 [.int .i64 n, .lst true x.length (encL e26 x)] (fun xR => xR = .bool (true)) :=
  (walk_Exact (vcp_Exact n x h0 h1)).mono (by rintro _ ⟨_, rfl, rfl⟩; rfl)
end Go.Lat
