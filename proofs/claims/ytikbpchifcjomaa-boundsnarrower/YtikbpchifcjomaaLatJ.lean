/- The law latecomerlaw07.BoundsNarrower returns true for every input, and each argument reads afterwards as it read before. Part 10 of 11. No condition. -/
import Derived.Test.YtikbpchifcjomaaLatD
import Derived.Test.YtikbpchifcjomaaLatE
import Derived.Test.YtikbpchifcjomaaLatF
import Derived.Test.YtikbpchifcjomaaLatG
import Derived.Test.YtikbpchifcjomaaLatH
import Derived.Test.YtikbpchifcjomaaLatI
set_option linter.unusedVariables false
set_option linter.unusedSimpArgs false
set_option linter.unnecessarySimpa false
namespace Go.Lat
open Go.RowKit Go.Proofs
attribute [local irreducible] closeM rangeM pointM addBM cycleM holdsM validBM sameM madeM pickM plusM validM possM firstM tableM longerM boundsM ofM addM freeM
/-- What the walk through latecomerlaw07.BoundsNarrower asks. -/
def vc_Narrower (n : Int) (x : (List A3)) (one : A3) (Post : Bool → Prop) : Prop :=
  ((¬ true = true) → Post false) ∧ (¬ (¬ true = true) → (inI n) ∧ (1 ≤ (7 : Int)) ∧ (inI ((2 : Int) + (pickM n (7 : Int)))) ∧ (1 ≤ ((2 : Int) + (pickM n (7 : Int)))) ∧ (((2 : Int) + (pickM n (7 : Int))) ≤ 1000) ∧ (∀ y ∈ x, inI y.x0 ∧ inI y.x1 ∧ inI y.x2) ∧ (1 ≤ ((2 : Int) + (pickM n (7 : Int)))) ∧ (((2 : Int) + (pickM n (7 : Int))) ≤ 1000) ∧ (∀ y ∈ [one], inI y.x0 ∧ inI y.x1 ∧ inI y.x2) ∧ (0 ≤ (0 : Int) ∧ (0 : Int) < ((madeM ((2 : Int) + (pickM n (7 : Int))) [one]).length : Int)) ∧ ((madeM ((2 : Int) + (pickM n (7 : Int))) x).length ≤ 1073741824) ∧ ((madeM ((2 : Int) + (pickM n (7 : Int))) x).length ≤ 1073741824) ∧ (((madeM ((2 : Int) + (pickM n (7 : Int))) x) ++ [(lat (madeM ((2 : Int) + (pickM n (7 : Int))) [one]) (0 : Int))]).length ≤ 1073741824) ∧ ((¬ (closeM ((2 : Int) + (pickM n (7 : Int))) (madeM ((2 : Int) + (pickM n (7 : Int))) x)).2.2 = (0 : Int)) → Post (decide (((closeM ((2 : Int) + (pickM n (7 : Int))) (madeM ((2 : Int) + (pickM n (7 : Int))) x)).2.2 = (70 : Int)) ∧ ((closeM ((2 : Int) + (pickM n (7 : Int))) ((madeM ((2 : Int) + (pickM n (7 : Int))) x) ++ [(lat (madeM ((2 : Int) + (pickM n (7 : Int))) [one]) (0 : Int))])).2.2 = (70 : Int))))) ∧ (¬ (¬ (closeM ((2 : Int) + (pickM n (7 : Int))) (madeM ((2 : Int) + (pickM n (7 : Int))) x)).2.2 = (0 : Int)) → (((closeM ((2 : Int) + (pickM n (7 : Int))) (madeM ((2 : Int) + (pickM n (7 : Int))) x)).1).most.length ≤ 1073741824) ∧ (∀ r ∈ ((closeM ((2 : Int) + (pickM n (7 : Int))) (madeM ((2 : Int) + (pickM n (7 : Int))) x)).1).most, r.length ≤ 1073741824) ∧ ((¬ (rangeM ((closeM ((2 : Int) + (pickM n (7 : Int))) (madeM ((2 : Int) + (pickM n (7 : Int))) x)).1) ((lat (madeM ((2 : Int) + (pickM n (7 : Int))) [one]) (0 : Int)).f) ((lat (madeM ((2 : Int) + (pickM n (7 : Int))) [one]) (0 : Int)).t)).2.2 = (0 : Int)) → Post false) ∧ (¬ (¬ (rangeM ((closeM ((2 : Int) + (pickM n (7 : Int))) (madeM ((2 : Int) + (pickM n (7 : Int))) x)).1) ((lat (madeM ((2 : Int) + (pickM n (7 : Int))) [one]) (0 : Int)).f) ((lat (madeM ((2 : Int) + (pickM n (7 : Int))) [one]) (0 : Int)).t)).2.2 = (0 : Int)) → ((((rangeM ((closeM ((2 : Int) + (pickM n (7 : Int))) (madeM ((2 : Int) + (pickM n (7 : Int))) x)).1) ((lat (madeM ((2 : Int) + (pickM n (7 : Int))) [one]) (0 : Int)).f) ((lat (madeM ((2 : Int) + (pickM n (7 : Int))) [one]) (0 : Int)).t)).2.1) ≤ ((lat (madeM ((2 : Int) + (pickM n (7 : Int))) [one]) (0 : Int)).m)) → ((((closeM ((2 : Int) + (pickM n (7 : Int))) ((madeM ((2 : Int) + (pickM n (7 : Int))) x) ++ [(lat (madeM ((2 : Int) + (pickM n (7 : Int))) [one]) (0 : Int))])).2.2 = (0 : Int)) → (((closeM ((2 : Int) + (pickM n (7 : Int))) (madeM ((2 : Int) + (pickM n (7 : Int))) x)).1).most.length ≤ 1073741824) ∧ (∀ r ∈ ((closeM ((2 : Int) + (pickM n (7 : Int))) (madeM ((2 : Int) + (pickM n (7 : Int))) x)).1).most, r.length ≤ 1073741824) ∧ True) ∧ (¬ ((closeM ((2 : Int) + (pickM n (7 : Int))) ((madeM ((2 : Int) + (pickM n (7 : Int))) x) ++ [(lat (madeM ((2 : Int) + (pickM n (7 : Int))) [one]) (0 : Int))])).2.2 = (0 : Int)) → True)) ∧ (Post (decide (((closeM ((2 : Int) + (pickM n (7 : Int))) ((madeM ((2 : Int) + (pickM n (7 : Int))) x) ++ [(lat (madeM ((2 : Int) + (pickM n (7 : Int))) [one]) (0 : Int))])).2.2 = (0 : Int)) ∧ ((sameM ((closeM ((2 : Int) + (pickM n (7 : Int))) (madeM ((2 : Int) + (pickM n (7 : Int))) x)).1) ((closeM ((2 : Int) + (pickM n (7 : Int))) ((madeM ((2 : Int) + (pickM n (7 : Int))) x) ++ [(lat (madeM ((2 : Int) + (pickM n (7 : Int))) [one]) (0 : Int))])).1)) = true))))) ∧ (¬ (((rangeM ((closeM ((2 : Int) + (pickM n (7 : Int))) (madeM ((2 : Int) + (pickM n (7 : Int))) x)).1) ((lat (madeM ((2 : Int) + (pickM n (7 : Int))) [one]) (0 : Int)).f) ((lat (madeM ((2 : Int) + (pickM n (7 : Int))) [one]) (0 : Int)).t)).2.1) ≤ ((lat (madeM ((2 : Int) + (pickM n (7 : Int))) [one]) (0 : Int)).m)) → ∃ (I1 : Int → Prop) (μ1 : Int → Nat), I1 (0 : Int) ∧ ∀ (v19 : Int), I1 v19 → (((v19 < ((2 : Int) + (pickM n (7 : Int)))) ∧ ((closeM ((2 : Int) + (pickM n (7 : Int))) ((madeM ((2 : Int) + (pickM n (7 : Int))) x) ++ [(lat (madeM ((2 : Int) + (pickM n (7 : Int))) [one]) (0 : Int))])).2.2 = (0 : Int))) → ∃ (I2 : Int → Prop) (μ2 : Int → Nat), I2 (0 : Int) ∧ ∀ (v20 : Int), I2 v20 → ((v20 < ((2 : Int) + (pickM n (7 : Int)))) → (((closeM ((2 : Int) + (pickM n (7 : Int))) (madeM ((2 : Int) + (pickM n (7 : Int))) x)).1).most.length ≤ 1073741824) ∧ (∀ r ∈ ((closeM ((2 : Int) + (pickM n (7 : Int))) (madeM ((2 : Int) + (pickM n (7 : Int))) x)).1).most, r.length ≤ 1073741824) ∧ (((closeM ((2 : Int) + (pickM n (7 : Int))) ((madeM ((2 : Int) + (pickM n (7 : Int))) x) ++ [(lat (madeM ((2 : Int) + (pickM n (7 : Int))) [one]) (0 : Int))])).1).most.length ≤ 1073741824) ∧ (∀ r ∈ ((closeM ((2 : Int) + (pickM n (7 : Int))) ((madeM ((2 : Int) + (pickM n (7 : Int))) x) ++ [(lat (madeM ((2 : Int) + (pickM n (7 : Int))) [one]) (0 : Int))])).1).most, r.length ≤ 1073741824) ∧ (((¬ (rangeM ((closeM ((2 : Int) + (pickM n (7 : Int))) (madeM ((2 : Int) + (pickM n (7 : Int))) x)).1) v19 v20).2.2 = (0 : Int)) ∨ ((¬ (rangeM ((closeM ((2 : Int) + (pickM n (7 : Int))) ((madeM ((2 : Int) + (pickM n (7 : Int))) x) ++ [(lat (madeM ((2 : Int) + (pickM n (7 : Int))) [one]) (0 : Int))])).1) v19 v20).2.2 = (0 : Int)) ∨ ((((rangeM ((closeM ((2 : Int) + (pickM n (7 : Int))) ((madeM ((2 : Int) + (pickM n (7 : Int))) x) ++ [(lat (madeM ((2 : Int) + (pickM n (7 : Int))) [one]) (0 : Int))])).1) v19 v20).1) < ((rangeM ((closeM ((2 : Int) + (pickM n (7 : Int))) (madeM ((2 : Int) + (pickM n (7 : Int))) x)).1) v19 v20).1)) ∨ (((rangeM ((closeM ((2 : Int) + (pickM n (7 : Int))) (madeM ((2 : Int) + (pickM n (7 : Int))) x)).1) v19 v20).2.1) < ((rangeM ((closeM ((2 : Int) + (pickM n (7 : Int))) ((madeM ((2 : Int) + (pickM n (7 : Int))) x) ++ [(lat (madeM ((2 : Int) + (pickM n (7 : Int))) [one]) (0 : Int))])).1) v19 v20).2.1))))) → Post false) ∧ (¬ ((¬ (rangeM ((closeM ((2 : Int) + (pickM n (7 : Int))) (madeM ((2 : Int) + (pickM n (7 : Int))) x)).1) v19 v20).2.2 = (0 : Int)) ∨ ((¬ (rangeM ((closeM ((2 : Int) + (pickM n (7 : Int))) ((madeM ((2 : Int) + (pickM n (7 : Int))) x) ++ [(lat (madeM ((2 : Int) + (pickM n (7 : Int))) [one]) (0 : Int))])).1) v19 v20).2.2 = (0 : Int)) ∨ ((((rangeM ((closeM ((2 : Int) + (pickM n (7 : Int))) ((madeM ((2 : Int) + (pickM n (7 : Int))) x) ++ [(lat (madeM ((2 : Int) + (pickM n (7 : Int))) [one]) (0 : Int))])).1) v19 v20).1) < ((rangeM ((closeM ((2 : Int) + (pickM n (7 : Int))) (madeM ((2 : Int) + (pickM n (7 : Int))) x)).1) v19 v20).1)) ∨ (((rangeM ((closeM ((2 : Int) + (pickM n (7 : Int))) (madeM ((2 : Int) + (pickM n (7 : Int))) x)).1) v19 v20).2.1) < ((rangeM ((closeM ((2 : Int) + (pickM n (7 : Int))) ((madeM ((2 : Int) + (pickM n (7 : Int))) x) ++ [(lat (madeM ((2 : Int) + (pickM n (7 : Int))) [one]) (0 : Int))])).1) v19 v20).2.1))))) → (inI (v20 + (1 : Int))) ∧ (I2 (v20 + (1 : Int)) ∧ μ2 (v20 + (1 : Int)) < μ2 v20))) ∧ (¬ (v20 < ((2 : Int) + (pickM n (7 : Int)))) → (inI (v19 + (1 : Int))) ∧ (I1 (v19 + (1 : Int)) ∧ μ1 (v19 + (1 : Int)) < μ1 v19))) ∧ (¬ ((v19 < ((2 : Int) + (pickM n (7 : Int)))) ∧ ((closeM ((2 : Int) + (pickM n (7 : Int))) ((madeM ((2 : Int) + (pickM n (7 : Int))) x) ++ [(lat (madeM ((2 : Int) + (pickM n (7 : Int))) [one]) (0 : Int))])).2.2 = (0 : Int))) → Post (decide (((closeM ((2 : Int) + (pickM n (7 : Int))) ((madeM ((2 : Int) + (pickM n (7 : Int))) x) ++ [(lat (madeM ((2 : Int) + (pickM n (7 : Int))) [one]) (0 : Int))])).2.2 = (0 : Int)) ∨ ((closeM ((2 : Int) + (pickM n (7 : Int))) ((madeM ((2 : Int) + (pickM n (7 : Int))) x) ++ [(lat (madeM ((2 : Int) + (pickM n (7 : Int))) [one]) (0 : Int))])).2.2 = (70 : Int)))))))))
set_option maxRecDepth 100000 in
set_option maxHeartbeats 4000000 in
theorem walk_Narrower {n : Int} {x : (List A3)} {one : A3} {Post : Bool → Prop} (hv : vc_Narrower n x one Post) : FnP Try.prog 9 [.int .i64 n, .lst true x.length (encL e26 x), .agg (e26 one)] (fun x => ∃ q0, x = .bool q0 ∧ Post q0) := by
  refine FnP.of_walk (T := tt) (nt := 143) ttOk ttMix ⟨⟨Try.f9, Try.func9, rfl, rfl, rfl, rfl⟩⟩ (by simp) ?_
  unfold vc_Narrower at hv
  change W _ _ _ ⟨143, look [(0, .int .i64 n), (1, .lst true x.length (encL e26 x)), (2, .agg [.int .i64 one.x0, .int .i64 one.x1, .int .i64 one.x2])], [], false⟩ _
  refine W.tr [(0, .int _ _), (1, .lst _ _ _), (2, .agg _)] [] ⟨rfl, rfl, rfl, trivial⟩ rfl ?_
  refine W.rL ?_
  refine cL rfl (o_box (v := .agg _) (p := 0) rfl rfl rfl ?_)
  refine cL rfl (o_assign (v := .bool _) rfl ?_)
  refine eL ?_
  refine W.tr [(0, .int _ _), (1, .lst _ _ _), (5, .ptr _ _)] [.box _ [.int _ _, .int _ _, .int _ _]] ⟨rfl, rfl, rfl, trivial⟩ rfl ?_
  refine W.seq' ?_
  refine W.rL ?_
  refine cL rfl (o_callP1 (k := 11) (fst := []) (caps := []) (ys := []) rfl rfl (spec_sane) (Wks.refl _) ?_)
  refine cL rfl (o_notB rfl ?_)
  refine eL ?_
  refine W.tr [(0, .int _ _), (1, .lst _ _ _), (5, .ptr _ _), (28, .bool _)] [.box _ [.int _ _, .int _ _, .int _ _]] ⟨rfl, rfl, rfl, rfl, trivial⟩ rfl ?_
  refine W.cn rfl (fun hc => ?_) (fun hc => ?_)
  · have hv := hv.1 hc
    refine W.rL ?_
    refine cL rfl (o_assign (v := .bool _) rfl ?_)
    refine eL ?_
    refine W.tr [(6, .bool _)] [.box _ [.int _ _, .int _ _, .int _ _]] ⟨rfl, trivial⟩ rfl ?_
    refine W.ret ?_
    refine th_ret (rt ?_)
    refine rt_t (v := .bool _) rfl ?_
    refine rt_n ?_
    exact ⟨_, rs_bool _ _ _, false, rfl, hv⟩
  · have hv := hv.2 hc
    refine W.skip ?_
    refine th_nrm ?_
    refine W.tr [(0, .int _ _), (1, .lst _ _ _), (5, .ptr _ _)] [.box _ [.int _ _, .int _ _, .int _ _]] ⟨rfl, rfl, rfl, trivial⟩ rfl ?_
    refine W.rL ?_
    refine cL rfl (o_move (v := .int _ _) rfl ?_)
    obtain ⟨s1, hv⟩ := hv
    obtain ⟨s2, hv⟩ := hv
    refine cL rfl (o_callP1 (k := 12) (fst := []) (caps := []) (ys := [.int _ _, .int _ _]) rfl rfl (spec_pick n (7 : Int) s1 s2) (Wks.cons (ag_int _ _ _ _) (Wks.cons (ag_int _ _ _ _) (Wks.refl _))) ?_)
    obtain ⟨s3, hv⟩ := hv
    refine cL rfl (o_add rfl rfl s3 ?_)
    refine cL rfl (o_assign (v := .int _ _) rfl ?_)
    refine eL ?_
    refine W.tr [(1, .lst _ _ _), (5, .ptr _ _), (7, .int _ _)] [.box _ [.int _ _, .int _ _, .int _ _]] ⟨rfl, rfl, rfl, trivial⟩ rfl ?_
    refine W.rL ?_
    refine cL rfl (o_move (v := .int _ _) rfl ?_)
    refine cL rfl (o_move (v := .lst _ _ _) rfl ?_)
    obtain ⟨s4, hv⟩ := hv
    obtain ⟨s5, hv⟩ := hv
    obtain ⟨s6, hv⟩ := hv
    refine cL rfl (o_callP1 (k := 14) (fst := []) (caps := []) (ys := [.int _ _, .lst _ _ _]) rfl rfl (spec_made ((2 : Int) + (pickM n (7 : Int))) x s4 s5 s6) (Wks.cons (ag_int _ _ _ _) (Wks.cons (ag_lst _ _ _ _ _) (Wks.refl _))) ?_)
    refine cL rfl (o_assign (v := .lst _ _ _) rfl ?_)
    refine eL ?_
    refine W.tr [(5, .ptr _ _), (7, .int _ _), (8, .lst _ _ _)] [.box _ [.int _ _, .int _ _, .int _ _]] ⟨rfl, rfl, rfl, trivial⟩ rfl ?_
    refine W.rL ?_
    refine cL rfl (o_move (v := .int _ _) rfl ?_)
    refine cL rfl (o_ldA (cs := [.int _ _, .int _ _, .int _ _]) tt26 rfl rfl ⟨_, rfl⟩ rfl ?_)
    refine cL rfl (o_bs1 (v := .agg _) (q := 1) tt23 tt26 rfl rfl rfl rfl rfl rfl rfl rfl ?_)
    obtain ⟨s7, hv⟩ := hv
    obtain ⟨s8, hv⟩ := hv
    obtain ⟨s9, hv⟩ := hv
    refine cL rfl (o_callP1 (k := 14) (fst := []) (caps := []) (ys := [.int _ _, .ref _ _ _]) rfl rfl (spec_made ((2 : Int) + (pickM n (7 : Int))) [one] s7 s8 s9) (Wks.cons (ag_int _ _ _ _) (Wks.cons (ag_ref (fl := false) (xs := [one]) enc26 4 _ rfl rfl) (Wks.refl _))) ?_)
    obtain ⟨s10, hv⟩ := hv
    refine cL rfl (o_iaL tt22 tt25 rfl rfl (enc25.wd true) rfl s10 ?_)
    intro rest10
    refine cL rfl (o_ldA (cs := [.int _ _, .int _ _, .int _ _, .int _ _]) tt25 rfl rfl ⟨_, rfl⟩ rfl ?_)
    refine cL rfl (o_alloc (p := 2) tt25 rfl rfl ?_)
    refine cLn (o_stB (v := .agg _) (vs := [.int _ _, .int _ _, .int _ _, .int _ _]) (cs2 := [.int _ _, .int _ _, .int _ _, .int _ _]) tt25 rfl rfl rfl rfl rfl (Nat.le_of_ble_eq_true rfl) rfl ?_)
    refine eL ?_
    refine W.tr [(7, .int _ _), (8, .lst _ _ _), (9, .ptr _ _)] [.box _ [.int _ _, .int _ _, .int _ _], .row _ _ _, .box _ [.int _ _, .int _ _, .int _ _, .int _ _]] ⟨rfl, rfl, rfl, trivial⟩ rfl ?_
    refine W.rL ?_
    refine cL rfl (o_move (v := .int _ _) rfl ?_)
    refine cL rfl (o_move (v := .lst _ _ _) rfl ?_)
    obtain ⟨s11, hv⟩ := hv
    refine cL rfl (o_callP1 (k := 15) (fst := []) (caps := []) (ys := [.int _ _, .lst _ _ _]) rfl rfl (spec_close ((2 : Int) + (pickM n (7 : Int))) (madeM ((2 : Int) + (pickM n (7 : Int))) x) s11) (Wks.cons (ag_int _ _ _ _) (Wks.cons (ag_lst _ _ _ _ _) (Wks.refl _))) ?_)
    refine cL rfl (o_move (v := .tup _) rfl ?_)
    refine cL rfl (o_ext (v := .agg _) rfl rfl ?_)
    refine cL rfl (o_ext (v := .lst _ _ _) rfl rfl ?_)
    refine cL rfl (o_ext (v := .int _ _) rfl rfl ?_)
    refine cL rfl (o_alloc (p := 3) tt34 rfl rfl ?_)
    refine cLn (o_stB (v := .agg _) (vs := [.int _ _, .lst _ _ _]) (cs2 := [.int _ _, .lst _ _ _]) tt34 rfl rfl rfl rfl rfl (Nat.le_of_ble_eq_true rfl) rfl ?_)
    refine cL rfl (o_assign (v := .lst _ _ _) rfl ?_)
    refine cL rfl (o_assign (v := .int _ _) rfl ?_)
    refine eL ?_
    refine W.tr [(7, .int _ _), (8, .lst _ _ _), (9, .ptr _ _), (10, .ptr _ _), (12, .int _ _)] [.box _ [.int _ _, .int _ _, .int _ _], .row _ _ _, .box _ [.int _ _, .int _ _, .int _ _, .int _ _], .box _ [.int _ _, .lst _ _ _]] ⟨rfl, rfl, rfl, rfl, rfl, trivial⟩ rfl ?_
    obtain ⟨s12, hv⟩ := hv
    obtain ⟨s13, hv⟩ := hv
    refine W.rT ⟨143, look [(7, .int .i64 ((2 : Int) + (pickM n (7 : Int)))), (9, .ptr 2 0), (10, .ptr 3 0), (12, .int .i64 ((closeM ((2 : Int) + (pickM n (7 : Int))) (madeM ((2 : Int) + (pickM n (7 : Int))) x)).2.2)), (13, .ptr 8 0), (15, .int .i64 ((closeM ((2 : Int) + (pickM n (7 : Int))) ((madeM ((2 : Int) + (pickM n (7 : Int))) x) ++ [(lat (madeM ((2 : Int) + (pickM n (7 : Int))) [one]) (0 : Int))])).2.2))], [.dead, .dead, .box 25 [.int .i64 ((lat (madeM ((2 : Int) + (pickM n (7 : Int))) [one]) (0 : Int)).f), .int .i64 ((lat (madeM ((2 : Int) + (pickM n (7 : Int))) [one]) (0 : Int)).t), .int .i64 ((lat (madeM ((2 : Int) + (pickM n (7 : Int))) [one]) (0 : Int)).m), .int .i64 ((lat (madeM ((2 : Int) + (pickM n (7 : Int))) [one]) (0 : Int)).a)], .box 34 [.int .i64 (((closeM ((2 : Int) + (pickM n (7 : Int))) (madeM ((2 : Int) + (pickM n (7 : Int))) x)).1).n), .lst false (((closeM ((2 : Int) + (pickM n (7 : Int))) (madeM ((2 : Int) + (pickM n (7 : Int))) x)).1).most).length (encL (eSl eInt true) (((closeM ((2 : Int) + (pickM n (7 : Int))) (madeM ((2 : Int) + (pickM n (7 : Int))) x)).1).most))], .dead, .dead, .dead, .dead, .box 34 [.int .i64 (((closeM ((2 : Int) + (pickM n (7 : Int))) ((madeM ((2 : Int) + (pickM n (7 : Int))) x) ++ [(lat (madeM ((2 : Int) + (pickM n (7 : Int))) [one]) (0 : Int))])).1).n), .lst false (((closeM ((2 : Int) + (pickM n (7 : Int))) ((madeM ((2 : Int) + (pickM n (7 : Int))) x) ++ [(lat (madeM ((2 : Int) + (pickM n (7 : Int))) [one]) (0 : Int))])).1).most).length (encL (eSl eInt true) (((closeM ((2 : Int) + (pickM n (7 : Int))) ((madeM ((2 : Int) + (pickM n (7 : Int))) x) ++ [(lat (madeM ((2 : Int) + (pickM n (7 : Int))) [one]) (0 : Int))])).1).most))]], false⟩ (.node [0, 2] (.cons 1 (.node [] (.cons 3 (.node [4] (.cons 5 (.node [] (.cons 6 (.leaf [12, 7, 8, 9, 10, 11, 13, 14, 15]) (.cons 12 (.leaf [6, 7, 8, 9, 10, 11, 13, 14, 15]) .nil))) (.cons 12 (.leaf [5, 6, 7, 8, 9, 10, 11, 13, 14, 15]) .nil))) (.cons 4 (.node [] (.cons 3 (.node [] (.cons 5 (.node [] (.cons 6 (.leaf [12, 7, 8, 9, 10, 11, 13, 14, 15]) (.cons 12 (.leaf [6, 7, 8, 9, 10, 11, 13, 14, 15]) .nil))) (.cons 12 (.leaf [5, 6, 7, 8, 9, 10, 11, 13, 14, 15]) .nil))) (.cons 5 (.node [] (.cons 3 (.node [] (.cons 6 (.leaf [12, 7, 8, 9, 10, 11, 13, 14, 15]) (.cons 12 (.leaf [6, 7, 8, 9, 10, 11, 13, 14, 15]) .nil))) (.cons 12 (.leaf [3, 6, 7, 8, 9, 10, 11, 13, 14, 15]) .nil))) (.cons 12 (.node [] (.cons 3 (.leaf [5, 6, 7, 8, 9, 10, 11, 13, 14, 15]) (.cons 5 (.leaf [3, 6, 7, 8, 9, 10, 11, 13, 14, 15]) .nil))) .nil)))) (.cons 12 (.node [] (.cons 3 (.leaf [4, 5, 6, 7, 8, 9, 10, 11, 13, 14, 15]) (.cons 4 (.node [] (.cons 3 (.leaf [5, 6, 7, 8, 9, 10, 11, 13, 14, 15]) (.cons 5 (.leaf [3, 6, 7, 8, 9, 10, 11, 13, 14, 15]) .nil))) .nil))) .nil)))) (.cons 4 (.node [] (.cons 1 (.node [] (.cons 3 (.node [] (.cons 5 (.node [] (.cons 6 (.leaf [12, 7, 8, 9, 10, 11, 13, 14, 15]) (.cons 12 (.leaf [6, 7, 8, 9, 10, 11, 13, 14, 15]) .nil))) (.cons 12 (.leaf [5, 6, 7, 8, 9, 10, 11, 13, 14, 15]) .nil))) (.cons 5 (.node [] (.cons 3 (.node [] (.cons 6 (.leaf [12, 7, 8, 9, 10, 11, 13, 14, 15]) (.cons 12 (.leaf [6, 7, 8, 9, 10, 11, 13, 14, 15]) .nil))) (.cons 12 (.leaf [3, 6, 7, 8, 9, 10, 11, 13, 14, 15]) .nil))) (.cons 12 (.node [] (.cons 3 (.leaf [5, 6, 7, 8, 9, 10, 11, 13, 14, 15]) (.cons 5 (.leaf [3, 6, 7, 8, 9, 10, 11, 13, 14, 15]) .nil))) .nil)))) (.cons 5 (.node [] (.cons 1 (.node [] (.cons 3 (.node [] (.cons 6 (.leaf [12, 7, 8, 9, 10, 11, 13, 14, 15]) (.cons 12 (.leaf [6, 7, 8, 9, 10, 11, 13, 14, 15]) .nil))) (.cons 12 (.leaf [3, 6, 7, 8, 9, 10, 11, 13, 14, 15]) .nil))) (.cons 12 (.leaf [1, 3, 6, 7, 8, 9, 10, 11, 13, 14, 15]) .nil))) (.cons 12 (.node [] (.cons 1 (.node [] (.cons 3 (.leaf [5, 6, 7, 8, 9, 10, 11, 13, 14, 15]) (.cons 5 (.leaf [3, 6, 7, 8, 9, 10, 11, 13, 14, 15]) .nil))) (.cons 5 (.leaf [1, 3, 6, 7, 8, 9, 10, 11, 13, 14, 15]) .nil))) .nil)))) (.cons 12 (.node [] (.cons 1 (.node [] (.cons 3 (.leaf [4, 5, 6, 7, 8, 9, 10, 11, 13, 14, 15]) (.cons 4 (.node [] (.cons 3 (.leaf [5, 6, 7, 8, 9, 10, 11, 13, 14, 15]) (.cons 5 (.leaf [3, 6, 7, 8, 9, 10, 11, 13, 14, 15]) .nil))) .nil))) (.cons 4 (.node [] (.cons 1 (.node [] (.cons 3 (.leaf [5, 6, 7, 8, 9, 10, 11, 13, 14, 15]) (.cons 5 (.leaf [3, 6, 7, 8, 9, 10, 11, 13, 14, 15]) .nil))) (.cons 5 (.leaf [1, 3, 6, 7, 8, 9, 10, 11, 13, 14, 15]) .nil))) .nil))) .nil)))) (by decide +kernel) ?_ ?_
    · refine tN ?_
      refine cS rfl rfl (o_move (v := .int _ _) rfl ?_)
      refine cS rfl rfl (o_move (v := .lst _ _ _) rfl ?_)
      refine eS ?_
      refine tC ?_ ?_
      · refine cI rfl rfl (o_buildS (q := 4) (qs := []) (cs := []) tt22 tt25 rfl rfl rfl rfl ?_)
        refine tN ?_
        refine eS ?_
        refine tC ?_ ?_
        · refine cI rfl rfl (o_apR (p := 5) (q := (madeM ((2 : Int) + (pickM n (7 : Int))) x).length) tt22 tt25 rfl rfl (src_lst (enc25.wd true) _ _ rfl) (encL_length (enc25.wd true) _) rfl rfl (by simpa using s12) rfl (Nat.zero_add _) (List.nil_append _) ?_)
          refine tN ?_
          refine cS rfl rfl (o_ldA (cs := [.int _ _, .int _ _, .int _ _, .int _ _]) tt25 rfl rfl ⟨_, rfl⟩ rfl ?_)
          refine eS ?_
          refine tC ?_ ?_
          · refine cI rfl rfl (o_bs1 (v := .agg _) (q := 6) tt22 tt25 rfl rfl rfl rfl rfl rfl rfl rfl ?_)
            refine tN ?_
            refine eS ?_
            refine tC ?_ ?_
            · refine cI rfl rfl (o_apR (p := 7) (q := ((madeM ((2 : Int) + (pickM n (7 : Int))) x) ++ [(lat (madeM ((2 : Int) + (pickM n (7 : Int))) [one]) (0 : Int))]).length) tt22 tt25 rfl rfl (src_ref rfl rfl) rfl rfl (encL_length (enc25.wd false) _) (Nat.le_trans (Nat.le_of_eq (@List.length_append _ (madeM ((2 : Int) + (pickM n (7 : Int))) x) ([(lat (madeM ((2 : Int) + (pickM n (7 : Int))) [one]) (0 : Int))])).symm) s13) rfl (@List.length_append _ (madeM ((2 : Int) + (pickM n (7 : Int))) x) ([(lat (madeM ((2 : Int) + (pickM n (7 : Int))) [one]) (0 : Int))])).symm (encL_app e25 (madeM ((2 : Int) + (pickM n (7 : Int))) x) [(lat (madeM ((2 : Int) + (pickM n (7 : Int))) [one]) (0 : Int))]) ?_)
              refine tL ?_
              refine cS rfl rfl (o_alloc (p := 8) tt34 rfl rfl ?_)
              refine cS rfl rfl (o_callP1 (k := 15) (fst := []) (caps := []) (ys := [.int _ _, .ref _ _ _]) rfl rfl (spec_close ((2 : Int) + (pickM n (7 : Int))) ((madeM ((2 : Int) + (pickM n (7 : Int))) x) ++ [(lat (madeM ((2 : Int) + (pickM n (7 : Int))) [one]) (0 : Int))]) s13) (Wks.cons (ag_int _ _ _ _) (Wks.cons (ag_ref (fl := false) (xs := (madeM ((2 : Int) + (pickM n (7 : Int))) x) ++ [(lat (madeM ((2 : Int) + (pickM n (7 : Int))) [one]) (0 : Int))]) enc25 4 _ rfl rfl) (Wks.refl _))) ?_)
              refine cS rfl rfl (o_move (v := .tup _) rfl ?_)
              refine cS rfl rfl (o_ext (v := .agg _) rfl rfl ?_)
              refine cS rfl rfl (o_ext (v := .lst _ _ _) rfl rfl ?_)
              refine cS rfl rfl (o_ext (v := .int _ _) rfl rfl ?_)
              refine cSn rfl (o_stB (v := .agg _) (vs := [.int _ _, .lst _ _ _]) (cs2 := [.int _ _, .lst _ _ _]) tt34 rfl rfl rfl rfl rfl (Nat.le_of_ble_eq_true rfl) rfl ?_)
              refine cS rfl rfl (o_assign (v := .lst _ _ _) rfl ?_)
              refine cS rfl rfl (o_assign (v := .int _ _) rfl ?_)
              refine eS ?_
              exact St.to_mk (φ := [none, none, some 2, some 3, none, none, none, none, some 8]) rfl (.inl rfl) ⟨Ren.int _ _, Ren.ptr rfl, Ren.ptr rfl, Ren.int _ _, Ren.ptr rfl, Ren.int _ _, trivial⟩ ⟨rfl, rfl, .inr ⟨_, rfl, rfl, Rens.cons (Ren.int _ _) (Rens.cons (Ren.int _ _) (Rens.cons (Ren.int _ _) (Rens.cons (Ren.int _ _) (Rens.nil))))⟩, .inr ⟨_, rfl, rfl, Rens.cons (Ren.int _ _) (Rens.cons (Ren.lst _ _ _) (Rens.nil))⟩, rfl, rfl, rfl, rfl, .inr ⟨_, rfl, rfl, Rens.cons (Ren.int _ _) (Rens.cons (Ren.lst _ _ _) (Rens.nil))⟩, trivial⟩
            refine tC ?_ ?_
            · refine cI rfl rfl (o_alloc (p := 7) tt34 rfl rfl ?_)
              refine tL ?_
              refine cS rfl rfl (o_apR (p := 8) (q := ((madeM ((2 : Int) + (pickM n (7 : Int))) x) ++ [(lat (madeM ((2 : Int) + (pickM n (7 : Int))) [one]) (0 : Int))]).length) tt22 tt25 rfl rfl (src_ref rfl rfl) rfl rfl (encL_length (enc25.wd false) _) (Nat.le_trans (Nat.le_of_eq (@List.length_append _ (madeM ((2 : Int) + (pickM n (7 : Int))) x) ([(lat (madeM ((2 : Int) + (pickM n (7 : Int))) [one]) (0 : Int))])).symm) s13) rfl (@List.length_append _ (madeM ((2 : Int) + (pickM n (7 : Int))) x) ([(lat (madeM ((2 : Int) + (pickM n (7 : Int))) [one]) (0 : Int))])).symm (encL_app e25 (madeM ((2 : Int) + (pickM n (7 : Int))) x) [(lat (madeM ((2 : Int) + (pickM n (7 : Int))) [one]) (0 : Int))]) ?_)
              refine cS rfl rfl (o_callP1 (k := 15) (fst := []) (caps := []) (ys := [.int _ _, .ref _ _ _]) rfl rfl (spec_close ((2 : Int) + (pickM n (7 : Int))) ((madeM ((2 : Int) + (pickM n (7 : Int))) x) ++ [(lat (madeM ((2 : Int) + (pickM n (7 : Int))) [one]) (0 : Int))]) s13) (Wks.cons (ag_int _ _ _ _) (Wks.cons (ag_ref (fl := false) (xs := (madeM ((2 : Int) + (pickM n (7 : Int))) x) ++ [(lat (madeM ((2 : Int) + (pickM n (7 : Int))) [one]) (0 : Int))]) enc25 4 _ rfl rfl) (Wks.refl _))) ?_)
              refine cS rfl rfl (o_move (v := .tup _) rfl ?_)
              refine cS rfl rfl (o_ext (v := .agg _) rfl rfl ?_)
              refine cS rfl rfl (o_ext (v := .lst _ _ _) rfl rfl ?_)
              refine cS rfl rfl (o_ext (v := .int _ _) rfl rfl ?_)
              refine cSn rfl (o_stB (v := .agg _) (vs := [.int _ _, .lst _ _ _]) (cs2 := [.int _ _, .lst _ _ _]) tt34 rfl rfl rfl rfl rfl (Nat.le_of_ble_eq_true rfl) rfl ?_)
              refine cS rfl rfl (o_assign (v := .lst _ _ _) rfl ?_)
              refine cS rfl rfl (o_assign (v := .int _ _) rfl ?_)
              refine eS ?_
              exact St.to_mk (φ := [none, none, some 2, some 3, none, none, none, none, some 7]) rfl (.inl rfl) ⟨Ren.int _ _, Ren.ptr rfl, Ren.ptr rfl, Ren.int _ _, Ren.ptr rfl, Ren.int _ _, trivial⟩ ⟨rfl, rfl, .inr ⟨_, rfl, rfl, Rens.cons (Ren.int _ _) (Rens.cons (Ren.int _ _) (Rens.cons (Ren.int _ _) (Rens.cons (Ren.int _ _) (Rens.nil))))⟩, .inr ⟨_, rfl, rfl, Rens.cons (Ren.int _ _) (Rens.cons (Ren.lst _ _ _) (Rens.nil))⟩, rfl, rfl, rfl, rfl, .inr ⟨_, rfl, rfl, Rens.cons (Ren.int _ _) (Rens.cons (Ren.lst _ _ _) (Rens.nil))⟩, trivial⟩
            exact tE
          refine tC ?_ ?_
          · refine cI rfl rfl (o_alloc (p := 6) tt34 rfl rfl ?_)
            refine tL ?_
            refine cS rfl rfl (o_bs1 (v := .agg _) (q := 7) tt22 tt25 rfl rfl rfl rfl rfl rfl rfl rfl ?_)
            refine cS rfl rfl (o_apR (p := 8) (q := ((madeM ((2 : Int) + (pickM n (7 : Int))) x) ++ [(lat (madeM ((2 : Int) + (pickM n (7 : Int))) [one]) (0 : Int))]).length) tt22 tt25 rfl rfl (src_ref rfl rfl) rfl rfl (encL_length (enc25.wd false) _) (Nat.le_trans (Nat.le_of_eq (@List.length_append _ (madeM ((2 : Int) + (pickM n (7 : Int))) x) ([(lat (madeM ((2 : Int) + (pickM n (7 : Int))) [one]) (0 : Int))])).symm) s13) rfl (@List.length_append _ (madeM ((2 : Int) + (pickM n (7 : Int))) x) ([(lat (madeM ((2 : Int) + (pickM n (7 : Int))) [one]) (0 : Int))])).symm (encL_app e25 (madeM ((2 : Int) + (pickM n (7 : Int))) x) [(lat (madeM ((2 : Int) + (pickM n (7 : Int))) [one]) (0 : Int))]) ?_)
            refine cS rfl rfl (o_callP1 (k := 15) (fst := []) (caps := []) (ys := [.int _ _, .ref _ _ _]) rfl rfl (spec_close ((2 : Int) + (pickM n (7 : Int))) ((madeM ((2 : Int) + (pickM n (7 : Int))) x) ++ [(lat (madeM ((2 : Int) + (pickM n (7 : Int))) [one]) (0 : Int))]) s13) (Wks.cons (ag_int _ _ _ _) (Wks.cons (ag_ref (fl := false) (xs := (madeM ((2 : Int) + (pickM n (7 : Int))) x) ++ [(lat (madeM ((2 : Int) + (pickM n (7 : Int))) [one]) (0 : Int))]) enc25 4 _ rfl rfl) (Wks.refl _))) ?_)
            refine cS rfl rfl (o_move (v := .tup _) rfl ?_)
            refine cS rfl rfl (o_ext (v := .agg _) rfl rfl ?_)
            refine cS rfl rfl (o_ext (v := .lst _ _ _) rfl rfl ?_)
            refine cS rfl rfl (o_ext (v := .int _ _) rfl rfl ?_)
            refine cSn rfl (o_stB (v := .agg _) (vs := [.int _ _, .lst _ _ _]) (cs2 := [.int _ _, .lst _ _ _]) tt34 rfl rfl rfl rfl rfl (Nat.le_of_ble_eq_true rfl) rfl ?_)
            refine cS rfl rfl (o_assign (v := .lst _ _ _) rfl ?_)
            refine cS rfl rfl (o_assign (v := .int _ _) rfl ?_)
            refine eS ?_
            exact St.to_mk (φ := [none, none, some 2, some 3, none, none, none, none, some 6]) rfl (.inl rfl) ⟨Ren.int _ _, Ren.ptr rfl, Ren.ptr rfl, Ren.int _ _, Ren.ptr rfl, Ren.int _ _, trivial⟩ ⟨rfl, rfl, .inr ⟨_, rfl, rfl, Rens.cons (Ren.int _ _) (Rens.cons (Ren.int _ _) (Rens.cons (Ren.int _ _) (Rens.cons (Ren.int _ _) (Rens.nil))))⟩, .inr ⟨_, rfl, rfl, Rens.cons (Ren.int _ _) (Rens.cons (Ren.lst _ _ _) (Rens.nil))⟩, rfl, rfl, rfl, rfl, .inr ⟨_, rfl, rfl, Rens.cons (Ren.int _ _) (Rens.cons (Ren.lst _ _ _) (Rens.nil))⟩, trivial⟩
          exact tE
        refine tC ?_ ?_
        · refine cI rfl rfl (o_ldA (cs := [.int _ _, .int _ _, .int _ _, .int _ _]) tt25 rfl rfl ⟨_, rfl⟩ rfl ?_)
          refine tN ?_
          refine eS ?_
          refine tC ?_ ?_
          · refine cI rfl rfl (o_apR (p := 5) (q := (madeM ((2 : Int) + (pickM n (7 : Int))) x).length) tt22 tt25 rfl rfl (src_lst (enc25.wd true) _ _ rfl) (encL_length (enc25.wd true) _) rfl rfl (by simpa using s12) rfl (Nat.zero_add _) (List.nil_append _) ?_)
            refine tN ?_
            refine eS ?_
            refine tC ?_ ?_
            · refine cI rfl rfl (o_bs1 (v := .agg _) (q := 6) tt22 tt25 rfl rfl rfl rfl rfl rfl rfl rfl ?_)
              refine tN ?_
              refine eS ?_
              refine tC ?_ ?_
              · refine cI rfl rfl (o_apR (p := 7) (q := ((madeM ((2 : Int) + (pickM n (7 : Int))) x) ++ [(lat (madeM ((2 : Int) + (pickM n (7 : Int))) [one]) (0 : Int))]).length) tt22 tt25 rfl rfl (src_ref rfl rfl) rfl rfl (encL_length (enc25.wd false) _) (Nat.le_trans (Nat.le_of_eq (@List.length_append _ (madeM ((2 : Int) + (pickM n (7 : Int))) x) ([(lat (madeM ((2 : Int) + (pickM n (7 : Int))) [one]) (0 : Int))])).symm) s13) rfl (@List.length_append _ (madeM ((2 : Int) + (pickM n (7 : Int))) x) ([(lat (madeM ((2 : Int) + (pickM n (7 : Int))) [one]) (0 : Int))])).symm (encL_app e25 (madeM ((2 : Int) + (pickM n (7 : Int))) x) [(lat (madeM ((2 : Int) + (pickM n (7 : Int))) [one]) (0 : Int))]) ?_)
                refine tL ?_
                refine cS rfl rfl (o_alloc (p := 8) tt34 rfl rfl ?_)
                refine cS rfl rfl (o_callP1 (k := 15) (fst := []) (caps := []) (ys := [.int _ _, .ref _ _ _]) rfl rfl (spec_close ((2 : Int) + (pickM n (7 : Int))) ((madeM ((2 : Int) + (pickM n (7 : Int))) x) ++ [(lat (madeM ((2 : Int) + (pickM n (7 : Int))) [one]) (0 : Int))]) s13) (Wks.cons (ag_int _ _ _ _) (Wks.cons (ag_ref (fl := false) (xs := (madeM ((2 : Int) + (pickM n (7 : Int))) x) ++ [(lat (madeM ((2 : Int) + (pickM n (7 : Int))) [one]) (0 : Int))]) enc25 4 _ rfl rfl) (Wks.refl _))) ?_)
                refine cS rfl rfl (o_move (v := .tup _) rfl ?_)
                refine cS rfl rfl (o_ext (v := .agg _) rfl rfl ?_)
                refine cS rfl rfl (o_ext (v := .lst _ _ _) rfl rfl ?_)
                refine cS rfl rfl (o_ext (v := .int _ _) rfl rfl ?_)
                refine cSn rfl (o_stB (v := .agg _) (vs := [.int _ _, .lst _ _ _]) (cs2 := [.int _ _, .lst _ _ _]) tt34 rfl rfl rfl rfl rfl (Nat.le_of_ble_eq_true rfl) rfl ?_)
                refine cS rfl rfl (o_assign (v := .lst _ _ _) rfl ?_)
                refine cS rfl rfl (o_assign (v := .int _ _) rfl ?_)
                refine eS ?_
                exact St.to_mk (φ := [none, none, some 2, some 3, none, none, none, none, some 8]) rfl (.inl rfl) ⟨Ren.int _ _, Ren.ptr rfl, Ren.ptr rfl, Ren.int _ _, Ren.ptr rfl, Ren.int _ _, trivial⟩ ⟨rfl, rfl, .inr ⟨_, rfl, rfl, Rens.cons (Ren.int _ _) (Rens.cons (Ren.int _ _) (Rens.cons (Ren.int _ _) (Rens.cons (Ren.int _ _) (Rens.nil))))⟩, .inr ⟨_, rfl, rfl, Rens.cons (Ren.int _ _) (Rens.cons (Ren.lst _ _ _) (Rens.nil))⟩, rfl, rfl, rfl, rfl, .inr ⟨_, rfl, rfl, Rens.cons (Ren.int _ _) (Rens.cons (Ren.lst _ _ _) (Rens.nil))⟩, trivial⟩
              refine tC ?_ ?_
              · refine cI rfl rfl (o_alloc (p := 7) tt34 rfl rfl ?_)
                refine tL ?_
                refine cS rfl rfl (o_apR (p := 8) (q := ((madeM ((2 : Int) + (pickM n (7 : Int))) x) ++ [(lat (madeM ((2 : Int) + (pickM n (7 : Int))) [one]) (0 : Int))]).length) tt22 tt25 rfl rfl (src_ref rfl rfl) rfl rfl (encL_length (enc25.wd false) _) (Nat.le_trans (Nat.le_of_eq (@List.length_append _ (madeM ((2 : Int) + (pickM n (7 : Int))) x) ([(lat (madeM ((2 : Int) + (pickM n (7 : Int))) [one]) (0 : Int))])).symm) s13) rfl (@List.length_append _ (madeM ((2 : Int) + (pickM n (7 : Int))) x) ([(lat (madeM ((2 : Int) + (pickM n (7 : Int))) [one]) (0 : Int))])).symm (encL_app e25 (madeM ((2 : Int) + (pickM n (7 : Int))) x) [(lat (madeM ((2 : Int) + (pickM n (7 : Int))) [one]) (0 : Int))]) ?_)
                refine cS rfl rfl (o_callP1 (k := 15) (fst := []) (caps := []) (ys := [.int _ _, .ref _ _ _]) rfl rfl (spec_close ((2 : Int) + (pickM n (7 : Int))) ((madeM ((2 : Int) + (pickM n (7 : Int))) x) ++ [(lat (madeM ((2 : Int) + (pickM n (7 : Int))) [one]) (0 : Int))]) s13) (Wks.cons (ag_int _ _ _ _) (Wks.cons (ag_ref (fl := false) (xs := (madeM ((2 : Int) + (pickM n (7 : Int))) x) ++ [(lat (madeM ((2 : Int) + (pickM n (7 : Int))) [one]) (0 : Int))]) enc25 4 _ rfl rfl) (Wks.refl _))) ?_)
                refine cS rfl rfl (o_move (v := .tup _) rfl ?_)
                refine cS rfl rfl (o_ext (v := .agg _) rfl rfl ?_)
                refine cS rfl rfl (o_ext (v := .lst _ _ _) rfl rfl ?_)
                refine cS rfl rfl (o_ext (v := .int _ _) rfl rfl ?_)
                refine cSn rfl (o_stB (v := .agg _) (vs := [.int _ _, .lst _ _ _]) (cs2 := [.int _ _, .lst _ _ _]) tt34 rfl rfl rfl rfl rfl (Nat.le_of_ble_eq_true rfl) rfl ?_)
                refine cS rfl rfl (o_assign (v := .lst _ _ _) rfl ?_)
                refine cS rfl rfl (o_assign (v := .int _ _) rfl ?_)
                refine eS ?_
                exact St.to_mk (φ := [none, none, some 2, some 3, none, none, none, none, some 7]) rfl (.inl rfl) ⟨Ren.int _ _, Ren.ptr rfl, Ren.ptr rfl, Ren.int _ _, Ren.ptr rfl, Ren.int _ _, trivial⟩ ⟨rfl, rfl, .inr ⟨_, rfl, rfl, Rens.cons (Ren.int _ _) (Rens.cons (Ren.int _ _) (Rens.cons (Ren.int _ _) (Rens.cons (Ren.int _ _) (Rens.nil))))⟩, .inr ⟨_, rfl, rfl, Rens.cons (Ren.int _ _) (Rens.cons (Ren.lst _ _ _) (Rens.nil))⟩, rfl, rfl, rfl, rfl, .inr ⟨_, rfl, rfl, Rens.cons (Ren.int _ _) (Rens.cons (Ren.lst _ _ _) (Rens.nil))⟩, trivial⟩
              exact tE
            refine tC ?_ ?_
            · refine cI rfl rfl (o_alloc (p := 6) tt34 rfl rfl ?_)
              refine tL ?_
              refine cS rfl rfl (o_bs1 (v := .agg _) (q := 7) tt22 tt25 rfl rfl rfl rfl rfl rfl rfl rfl ?_)
              refine cS rfl rfl (o_apR (p := 8) (q := ((madeM ((2 : Int) + (pickM n (7 : Int))) x) ++ [(lat (madeM ((2 : Int) + (pickM n (7 : Int))) [one]) (0 : Int))]).length) tt22 tt25 rfl rfl (src_ref rfl rfl) rfl rfl (encL_length (enc25.wd false) _) (Nat.le_trans (Nat.le_of_eq (@List.length_append _ (madeM ((2 : Int) + (pickM n (7 : Int))) x) ([(lat (madeM ((2 : Int) + (pickM n (7 : Int))) [one]) (0 : Int))])).symm) s13) rfl (@List.length_append _ (madeM ((2 : Int) + (pickM n (7 : Int))) x) ([(lat (madeM ((2 : Int) + (pickM n (7 : Int))) [one]) (0 : Int))])).symm (encL_app e25 (madeM ((2 : Int) + (pickM n (7 : Int))) x) [(lat (madeM ((2 : Int) + (pickM n (7 : Int))) [one]) (0 : Int))]) ?_)
              refine cS rfl rfl (o_callP1 (k := 15) (fst := []) (caps := []) (ys := [.int _ _, .ref _ _ _]) rfl rfl (spec_close ((2 : Int) + (pickM n (7 : Int))) ((madeM ((2 : Int) + (pickM n (7 : Int))) x) ++ [(lat (madeM ((2 : Int) + (pickM n (7 : Int))) [one]) (0 : Int))]) s13) (Wks.cons (ag_int _ _ _ _) (Wks.cons (ag_ref (fl := false) (xs := (madeM ((2 : Int) + (pickM n (7 : Int))) x) ++ [(lat (madeM ((2 : Int) + (pickM n (7 : Int))) [one]) (0 : Int))]) enc25 4 _ rfl rfl) (Wks.refl _))) ?_)
              refine cS rfl rfl (o_move (v := .tup _) rfl ?_)
              refine cS rfl rfl (o_ext (v := .agg _) rfl rfl ?_)
              refine cS rfl rfl (o_ext (v := .lst _ _ _) rfl rfl ?_)
              refine cS rfl rfl (o_ext (v := .int _ _) rfl rfl ?_)
              refine cSn rfl (o_stB (v := .agg _) (vs := [.int _ _, .lst _ _ _]) (cs2 := [.int _ _, .lst _ _ _]) tt34 rfl rfl rfl rfl rfl (Nat.le_of_ble_eq_true rfl) rfl ?_)
              refine cS rfl rfl (o_assign (v := .lst _ _ _) rfl ?_)
              refine cS rfl rfl (o_assign (v := .int _ _) rfl ?_)
              refine eS ?_
              exact St.to_mk (φ := [none, none, some 2, some 3, none, none, none, none, some 6]) rfl (.inl rfl) ⟨Ren.int _ _, Ren.ptr rfl, Ren.ptr rfl, Ren.int _ _, Ren.ptr rfl, Ren.int _ _, trivial⟩ ⟨rfl, rfl, .inr ⟨_, rfl, rfl, Rens.cons (Ren.int _ _) (Rens.cons (Ren.int _ _) (Rens.cons (Ren.int _ _) (Rens.cons (Ren.int _ _) (Rens.nil))))⟩, .inr ⟨_, rfl, rfl, Rens.cons (Ren.int _ _) (Rens.cons (Ren.lst _ _ _) (Rens.nil))⟩, rfl, rfl, rfl, rfl, .inr ⟨_, rfl, rfl, Rens.cons (Ren.int _ _) (Rens.cons (Ren.lst _ _ _) (Rens.nil))⟩, trivial⟩
            exact tE
          refine tC ?_ ?_
          · refine cI rfl rfl (o_bs1 (v := .agg _) (q := 5) tt22 tt25 rfl rfl rfl rfl rfl rfl rfl rfl ?_)
            refine tN ?_
            refine eS ?_
            refine tC ?_ ?_
            · refine cI rfl rfl (o_apR (p := 6) (q := (madeM ((2 : Int) + (pickM n (7 : Int))) x).length) tt22 tt25 rfl rfl (src_lst (enc25.wd true) _ _ rfl) (encL_length (enc25.wd true) _) rfl rfl (by simpa using s12) rfl (Nat.zero_add _) (List.nil_append _) ?_)
              refine tN ?_
              refine eS ?_
              refine tC ?_ ?_
              · refine cI rfl rfl (o_apR (p := 7) (q := ((madeM ((2 : Int) + (pickM n (7 : Int))) x) ++ [(lat (madeM ((2 : Int) + (pickM n (7 : Int))) [one]) (0 : Int))]).length) tt22 tt25 rfl rfl (src_ref rfl rfl) rfl rfl (encL_length (enc25.wd false) _) (Nat.le_trans (Nat.le_of_eq (@List.length_append _ (madeM ((2 : Int) + (pickM n (7 : Int))) x) ([(lat (madeM ((2 : Int) + (pickM n (7 : Int))) [one]) (0 : Int))])).symm) s13) rfl (@List.length_append _ (madeM ((2 : Int) + (pickM n (7 : Int))) x) ([(lat (madeM ((2 : Int) + (pickM n (7 : Int))) [one]) (0 : Int))])).symm (encL_app e25 (madeM ((2 : Int) + (pickM n (7 : Int))) x) [(lat (madeM ((2 : Int) + (pickM n (7 : Int))) [one]) (0 : Int))]) ?_)
                refine tL ?_
                refine cS rfl rfl (o_alloc (p := 8) tt34 rfl rfl ?_)
                refine cS rfl rfl (o_callP1 (k := 15) (fst := []) (caps := []) (ys := [.int _ _, .ref _ _ _]) rfl rfl (spec_close ((2 : Int) + (pickM n (7 : Int))) ((madeM ((2 : Int) + (pickM n (7 : Int))) x) ++ [(lat (madeM ((2 : Int) + (pickM n (7 : Int))) [one]) (0 : Int))]) s13) (Wks.cons (ag_int _ _ _ _) (Wks.cons (ag_ref (fl := false) (xs := (madeM ((2 : Int) + (pickM n (7 : Int))) x) ++ [(lat (madeM ((2 : Int) + (pickM n (7 : Int))) [one]) (0 : Int))]) enc25 4 _ rfl rfl) (Wks.refl _))) ?_)
                refine cS rfl rfl (o_move (v := .tup _) rfl ?_)
                refine cS rfl rfl (o_ext (v := .agg _) rfl rfl ?_)
                refine cS rfl rfl (o_ext (v := .lst _ _ _) rfl rfl ?_)
                refine cS rfl rfl (o_ext (v := .int _ _) rfl rfl ?_)
                refine cSn rfl (o_stB (v := .agg _) (vs := [.int _ _, .lst _ _ _]) (cs2 := [.int _ _, .lst _ _ _]) tt34 rfl rfl rfl rfl rfl (Nat.le_of_ble_eq_true rfl) rfl ?_)
                refine cS rfl rfl (o_assign (v := .lst _ _ _) rfl ?_)
                refine cS rfl rfl (o_assign (v := .int _ _) rfl ?_)
                refine eS ?_
                exact St.to_mk (φ := [none, none, some 2, some 3, none, none, none, none, some 8]) rfl (.inl rfl) ⟨Ren.int _ _, Ren.ptr rfl, Ren.ptr rfl, Ren.int _ _, Ren.ptr rfl, Ren.int _ _, trivial⟩ ⟨rfl, rfl, .inr ⟨_, rfl, rfl, Rens.cons (Ren.int _ _) (Rens.cons (Ren.int _ _) (Rens.cons (Ren.int _ _) (Rens.cons (Ren.int _ _) (Rens.nil))))⟩, .inr ⟨_, rfl, rfl, Rens.cons (Ren.int _ _) (Rens.cons (Ren.lst _ _ _) (Rens.nil))⟩, rfl, rfl, rfl, rfl, .inr ⟨_, rfl, rfl, Rens.cons (Ren.int _ _) (Rens.cons (Ren.lst _ _ _) (Rens.nil))⟩, trivial⟩
              refine tC ?_ ?_
              · refine cI rfl rfl (o_alloc (p := 7) tt34 rfl rfl ?_)
                refine tL ?_
                refine cS rfl rfl (o_apR (p := 8) (q := ((madeM ((2 : Int) + (pickM n (7 : Int))) x) ++ [(lat (madeM ((2 : Int) + (pickM n (7 : Int))) [one]) (0 : Int))]).length) tt22 tt25 rfl rfl (src_ref rfl rfl) rfl rfl (encL_length (enc25.wd false) _) (Nat.le_trans (Nat.le_of_eq (@List.length_append _ (madeM ((2 : Int) + (pickM n (7 : Int))) x) ([(lat (madeM ((2 : Int) + (pickM n (7 : Int))) [one]) (0 : Int))])).symm) s13) rfl (@List.length_append _ (madeM ((2 : Int) + (pickM n (7 : Int))) x) ([(lat (madeM ((2 : Int) + (pickM n (7 : Int))) [one]) (0 : Int))])).symm (encL_app e25 (madeM ((2 : Int) + (pickM n (7 : Int))) x) [(lat (madeM ((2 : Int) + (pickM n (7 : Int))) [one]) (0 : Int))]) ?_)
                refine cS rfl rfl (o_callP1 (k := 15) (fst := []) (caps := []) (ys := [.int _ _, .ref _ _ _]) rfl rfl (spec_close ((2 : Int) + (pickM n (7 : Int))) ((madeM ((2 : Int) + (pickM n (7 : Int))) x) ++ [(lat (madeM ((2 : Int) + (pickM n (7 : Int))) [one]) (0 : Int))]) s13) (Wks.cons (ag_int _ _ _ _) (Wks.cons (ag_ref (fl := false) (xs := (madeM ((2 : Int) + (pickM n (7 : Int))) x) ++ [(lat (madeM ((2 : Int) + (pickM n (7 : Int))) [one]) (0 : Int))]) enc25 4 _ rfl rfl) (Wks.refl _))) ?_)
                refine cS rfl rfl (o_move (v := .tup _) rfl ?_)
                refine cS rfl rfl (o_ext (v := .agg _) rfl rfl ?_)
                refine cS rfl rfl (o_ext (v := .lst _ _ _) rfl rfl ?_)
                refine cS rfl rfl (o_ext (v := .int _ _) rfl rfl ?_)
                refine cSn rfl (o_stB (v := .agg _) (vs := [.int _ _, .lst _ _ _]) (cs2 := [.int _ _, .lst _ _ _]) tt34 rfl rfl rfl rfl rfl (Nat.le_of_ble_eq_true rfl) rfl ?_)
                refine cS rfl rfl (o_assign (v := .lst _ _ _) rfl ?_)
                refine cS rfl rfl (o_assign (v := .int _ _) rfl ?_)
                refine eS ?_
                exact St.to_mk (φ := [none, none, some 2, some 3, none, none, none, none, some 7]) rfl (.inl rfl) ⟨Ren.int _ _, Ren.ptr rfl, Ren.ptr rfl, Ren.int _ _, Ren.ptr rfl, Ren.int _ _, trivial⟩ ⟨rfl, rfl, .inr ⟨_, rfl, rfl, Rens.cons (Ren.int _ _) (Rens.cons (Ren.int _ _) (Rens.cons (Ren.int _ _) (Rens.cons (Ren.int _ _) (Rens.nil))))⟩, .inr ⟨_, rfl, rfl, Rens.cons (Ren.int _ _) (Rens.cons (Ren.lst _ _ _) (Rens.nil))⟩, rfl, rfl, rfl, rfl, .inr ⟨_, rfl, rfl, Rens.cons (Ren.int _ _) (Rens.cons (Ren.lst _ _ _) (Rens.nil))⟩, trivial⟩
              exact tE
            refine tC ?_ ?_
            · refine cI rfl rfl (o_alloc (p := 6) tt34 rfl rfl ?_)
              refine tL ?_
              refine cS rfl rfl (o_apR (p := 7) (q := (madeM ((2 : Int) + (pickM n (7 : Int))) x).length) tt22 tt25 rfl rfl (src_lst (enc25.wd true) _ _ rfl) (encL_length (enc25.wd true) _) rfl rfl (by simpa using s12) rfl (Nat.zero_add _) (List.nil_append _) ?_)
              refine cS rfl rfl (o_apR (p := 8) (q := ((madeM ((2 : Int) + (pickM n (7 : Int))) x) ++ [(lat (madeM ((2 : Int) + (pickM n (7 : Int))) [one]) (0 : Int))]).length) tt22 tt25 rfl rfl (src_ref rfl rfl) rfl rfl (encL_length (enc25.wd false) _) (Nat.le_trans (Nat.le_of_eq (@List.length_append _ (madeM ((2 : Int) + (pickM n (7 : Int))) x) ([(lat (madeM ((2 : Int) + (pickM n (7 : Int))) [one]) (0 : Int))])).symm) s13) rfl (@List.length_append _ (madeM ((2 : Int) + (pickM n (7 : Int))) x) ([(lat (madeM ((2 : Int) + (pickM n (7 : Int))) [one]) (0 : Int))])).symm (encL_app e25 (madeM ((2 : Int) + (pickM n (7 : Int))) x) [(lat (madeM ((2 : Int) + (pickM n (7 : Int))) [one]) (0 : Int))]) ?_)
              refine cS rfl rfl (o_callP1 (k := 15) (fst := []) (caps := []) (ys := [.int _ _, .ref _ _ _]) rfl rfl (spec_close ((2 : Int) + (pickM n (7 : Int))) ((madeM ((2 : Int) + (pickM n (7 : Int))) x) ++ [(lat (madeM ((2 : Int) + (pickM n (7 : Int))) [one]) (0 : Int))]) s13) (Wks.cons (ag_int _ _ _ _) (Wks.cons (ag_ref (fl := false) (xs := (madeM ((2 : Int) + (pickM n (7 : Int))) x) ++ [(lat (madeM ((2 : Int) + (pickM n (7 : Int))) [one]) (0 : Int))]) enc25 4 _ rfl rfl) (Wks.refl _))) ?_)
              refine cS rfl rfl (o_move (v := .tup _) rfl ?_)
              refine cS rfl rfl (o_ext (v := .agg _) rfl rfl ?_)
              refine cS rfl rfl (o_ext (v := .lst _ _ _) rfl rfl ?_)
              refine cS rfl rfl (o_ext (v := .int _ _) rfl rfl ?_)
              refine cSn rfl (o_stB (v := .agg _) (vs := [.int _ _, .lst _ _ _]) (cs2 := [.int _ _, .lst _ _ _]) tt34 rfl rfl rfl rfl rfl (Nat.le_of_ble_eq_true rfl) rfl ?_)
              refine cS rfl rfl (o_assign (v := .lst _ _ _) rfl ?_)
              refine cS rfl rfl (o_assign (v := .int _ _) rfl ?_)
              refine eS ?_
              exact St.to_mk (φ := [none, none, some 2, some 3, none, none, none, none, some 6]) rfl (.inl rfl) ⟨Ren.int _ _, Ren.ptr rfl, Ren.ptr rfl, Ren.int _ _, Ren.ptr rfl, Ren.int _ _, trivial⟩ ⟨rfl, rfl, .inr ⟨_, rfl, rfl, Rens.cons (Ren.int _ _) (Rens.cons (Ren.int _ _) (Rens.cons (Ren.int _ _) (Rens.cons (Ren.int _ _) (Rens.nil))))⟩, .inr ⟨_, rfl, rfl, Rens.cons (Ren.int _ _) (Rens.cons (Ren.lst _ _ _) (Rens.nil))⟩, rfl, rfl, rfl, rfl, .inr ⟨_, rfl, rfl, Rens.cons (Ren.int _ _) (Rens.cons (Ren.lst _ _ _) (Rens.nil))⟩, trivial⟩
            exact tE
          refine tC ?_ ?_
          · refine cI rfl rfl (o_alloc (p := 5) tt34 rfl rfl ?_)
            refine tN ?_
            refine eS ?_
            refine tC ?_ ?_
            · refine cI rfl rfl (o_apR (p := 6) (q := (madeM ((2 : Int) + (pickM n (7 : Int))) x).length) tt22 tt25 rfl rfl (src_lst (enc25.wd true) _ _ rfl) (encL_length (enc25.wd true) _) rfl rfl (by simpa using s12) rfl (Nat.zero_add _) (List.nil_append _) ?_)
              refine tL ?_
              refine cS rfl rfl (o_bs1 (v := .agg _) (q := 7) tt22 tt25 rfl rfl rfl rfl rfl rfl rfl rfl ?_)
              refine cS rfl rfl (o_apR (p := 8) (q := ((madeM ((2 : Int) + (pickM n (7 : Int))) x) ++ [(lat (madeM ((2 : Int) + (pickM n (7 : Int))) [one]) (0 : Int))]).length) tt22 tt25 rfl rfl (src_ref rfl rfl) rfl rfl (encL_length (enc25.wd false) _) (Nat.le_trans (Nat.le_of_eq (@List.length_append _ (madeM ((2 : Int) + (pickM n (7 : Int))) x) ([(lat (madeM ((2 : Int) + (pickM n (7 : Int))) [one]) (0 : Int))])).symm) s13) rfl (@List.length_append _ (madeM ((2 : Int) + (pickM n (7 : Int))) x) ([(lat (madeM ((2 : Int) + (pickM n (7 : Int))) [one]) (0 : Int))])).symm (encL_app e25 (madeM ((2 : Int) + (pickM n (7 : Int))) x) [(lat (madeM ((2 : Int) + (pickM n (7 : Int))) [one]) (0 : Int))]) ?_)
              refine cS rfl rfl (o_callP1 (k := 15) (fst := []) (caps := []) (ys := [.int _ _, .ref _ _ _]) rfl rfl (spec_close ((2 : Int) + (pickM n (7 : Int))) ((madeM ((2 : Int) + (pickM n (7 : Int))) x) ++ [(lat (madeM ((2 : Int) + (pickM n (7 : Int))) [one]) (0 : Int))]) s13) (Wks.cons (ag_int _ _ _ _) (Wks.cons (ag_ref (fl := false) (xs := (madeM ((2 : Int) + (pickM n (7 : Int))) x) ++ [(lat (madeM ((2 : Int) + (pickM n (7 : Int))) [one]) (0 : Int))]) enc25 4 _ rfl rfl) (Wks.refl _))) ?_)
              refine cS rfl rfl (o_move (v := .tup _) rfl ?_)
              refine cS rfl rfl (o_ext (v := .agg _) rfl rfl ?_)
              refine cS rfl rfl (o_ext (v := .lst _ _ _) rfl rfl ?_)
              refine cS rfl rfl (o_ext (v := .int _ _) rfl rfl ?_)
              refine cSn rfl (o_stB (v := .agg _) (vs := [.int _ _, .lst _ _ _]) (cs2 := [.int _ _, .lst _ _ _]) tt34 rfl rfl rfl rfl rfl (Nat.le_of_ble_eq_true rfl) rfl ?_)
              refine cS rfl rfl (o_assign (v := .lst _ _ _) rfl ?_)
              refine cS rfl rfl (o_assign (v := .int _ _) rfl ?_)
              refine eS ?_
              exact St.to_mk (φ := [none, none, some 2, some 3, none, none, none, none, some 5]) rfl (.inl rfl) ⟨Ren.int _ _, Ren.ptr rfl, Ren.ptr rfl, Ren.int _ _, Ren.ptr rfl, Ren.int _ _, trivial⟩ ⟨rfl, rfl, .inr ⟨_, rfl, rfl, Rens.cons (Ren.int _ _) (Rens.cons (Ren.int _ _) (Rens.cons (Ren.int _ _) (Rens.cons (Ren.int _ _) (Rens.nil))))⟩, .inr ⟨_, rfl, rfl, Rens.cons (Ren.int _ _) (Rens.cons (Ren.lst _ _ _) (Rens.nil))⟩, rfl, rfl, rfl, rfl, .inr ⟨_, rfl, rfl, Rens.cons (Ren.int _ _) (Rens.cons (Ren.lst _ _ _) (Rens.nil))⟩, trivial⟩
            refine tC ?_ ?_
            · refine cI rfl rfl (o_bs1 (v := .agg _) (q := 6) tt22 tt25 rfl rfl rfl rfl rfl rfl rfl rfl ?_)
              refine tL ?_
              refine cS rfl rfl (o_apR (p := 7) (q := (madeM ((2 : Int) + (pickM n (7 : Int))) x).length) tt22 tt25 rfl rfl (src_lst (enc25.wd true) _ _ rfl) (encL_length (enc25.wd true) _) rfl rfl (by simpa using s12) rfl (Nat.zero_add _) (List.nil_append _) ?_)
              refine cS rfl rfl (o_apR (p := 8) (q := ((madeM ((2 : Int) + (pickM n (7 : Int))) x) ++ [(lat (madeM ((2 : Int) + (pickM n (7 : Int))) [one]) (0 : Int))]).length) tt22 tt25 rfl rfl (src_ref rfl rfl) rfl rfl (encL_length (enc25.wd false) _) (Nat.le_trans (Nat.le_of_eq (@List.length_append _ (madeM ((2 : Int) + (pickM n (7 : Int))) x) ([(lat (madeM ((2 : Int) + (pickM n (7 : Int))) [one]) (0 : Int))])).symm) s13) rfl (@List.length_append _ (madeM ((2 : Int) + (pickM n (7 : Int))) x) ([(lat (madeM ((2 : Int) + (pickM n (7 : Int))) [one]) (0 : Int))])).symm (encL_app e25 (madeM ((2 : Int) + (pickM n (7 : Int))) x) [(lat (madeM ((2 : Int) + (pickM n (7 : Int))) [one]) (0 : Int))]) ?_)
              refine cS rfl rfl (o_callP1 (k := 15) (fst := []) (caps := []) (ys := [.int _ _, .ref _ _ _]) rfl rfl (spec_close ((2 : Int) + (pickM n (7 : Int))) ((madeM ((2 : Int) + (pickM n (7 : Int))) x) ++ [(lat (madeM ((2 : Int) + (pickM n (7 : Int))) [one]) (0 : Int))]) s13) (Wks.cons (ag_int _ _ _ _) (Wks.cons (ag_ref (fl := false) (xs := (madeM ((2 : Int) + (pickM n (7 : Int))) x) ++ [(lat (madeM ((2 : Int) + (pickM n (7 : Int))) [one]) (0 : Int))]) enc25 4 _ rfl rfl) (Wks.refl _))) ?_)
              refine cS rfl rfl (o_move (v := .tup _) rfl ?_)
              refine cS rfl rfl (o_ext (v := .agg _) rfl rfl ?_)
              refine cS rfl rfl (o_ext (v := .lst _ _ _) rfl rfl ?_)
              refine cS rfl rfl (o_ext (v := .int _ _) rfl rfl ?_)
              refine cSn rfl (o_stB (v := .agg _) (vs := [.int _ _, .lst _ _ _]) (cs2 := [.int _ _, .lst _ _ _]) tt34 rfl rfl rfl rfl rfl (Nat.le_of_ble_eq_true rfl) rfl ?_)
              refine cS rfl rfl (o_assign (v := .lst _ _ _) rfl ?_)
              refine cS rfl rfl (o_assign (v := .int _ _) rfl ?_)
              refine eS ?_
              exact St.to_mk (φ := [none, none, some 2, some 3, none, none, none, none, some 5]) rfl (.inl rfl) ⟨Ren.int _ _, Ren.ptr rfl, Ren.ptr rfl, Ren.int _ _, Ren.ptr rfl, Ren.int _ _, trivial⟩ ⟨rfl, rfl, .inr ⟨_, rfl, rfl, Rens.cons (Ren.int _ _) (Rens.cons (Ren.int _ _) (Rens.cons (Ren.int _ _) (Rens.cons (Ren.int _ _) (Rens.nil))))⟩, .inr ⟨_, rfl, rfl, Rens.cons (Ren.int _ _) (Rens.cons (Ren.lst _ _ _) (Rens.nil))⟩, rfl, rfl, rfl, rfl, .inr ⟨_, rfl, rfl, Rens.cons (Ren.int _ _) (Rens.cons (Ren.lst _ _ _) (Rens.nil))⟩, trivial⟩
            exact tE
          exact tE
        refine tC ?_ ?_
        · refine cI rfl rfl (o_alloc (p := 5) tt34 rfl rfl ?_)
          refine tN ?_
          refine eS ?_
          refine tC ?_ ?_
          · refine cI rfl rfl (o_apR (p := 6) (q := (madeM ((2 : Int) + (pickM n (7 : Int))) x).length) tt22 tt25 rfl rfl (src_lst (enc25.wd true) _ _ rfl) (encL_length (enc25.wd true) _) rfl rfl (by simpa using s12) rfl (Nat.zero_add _) (List.nil_append _) ?_)
            refine tL ?_
            refine cS rfl rfl (o_ldA (cs := [.int _ _, .int _ _, .int _ _, .int _ _]) tt25 rfl rfl ⟨_, rfl⟩ rfl ?_)
            refine cS rfl rfl (o_bs1 (v := .agg _) (q := 7) tt22 tt25 rfl rfl rfl rfl rfl rfl rfl rfl ?_)
            refine cS rfl rfl (o_apR (p := 8) (q := ((madeM ((2 : Int) + (pickM n (7 : Int))) x) ++ [(lat (madeM ((2 : Int) + (pickM n (7 : Int))) [one]) (0 : Int))]).length) tt22 tt25 rfl rfl (src_ref rfl rfl) rfl rfl (encL_length (enc25.wd false) _) (Nat.le_trans (Nat.le_of_eq (@List.length_append _ (madeM ((2 : Int) + (pickM n (7 : Int))) x) ([(lat (madeM ((2 : Int) + (pickM n (7 : Int))) [one]) (0 : Int))])).symm) s13) rfl (@List.length_append _ (madeM ((2 : Int) + (pickM n (7 : Int))) x) ([(lat (madeM ((2 : Int) + (pickM n (7 : Int))) [one]) (0 : Int))])).symm (encL_app e25 (madeM ((2 : Int) + (pickM n (7 : Int))) x) [(lat (madeM ((2 : Int) + (pickM n (7 : Int))) [one]) (0 : Int))]) ?_)
            refine cS rfl rfl (o_callP1 (k := 15) (fst := []) (caps := []) (ys := [.int _ _, .ref _ _ _]) rfl rfl (spec_close ((2 : Int) + (pickM n (7 : Int))) ((madeM ((2 : Int) + (pickM n (7 : Int))) x) ++ [(lat (madeM ((2 : Int) + (pickM n (7 : Int))) [one]) (0 : Int))]) s13) (Wks.cons (ag_int _ _ _ _) (Wks.cons (ag_ref (fl := false) (xs := (madeM ((2 : Int) + (pickM n (7 : Int))) x) ++ [(lat (madeM ((2 : Int) + (pickM n (7 : Int))) [one]) (0 : Int))]) enc25 4 _ rfl rfl) (Wks.refl _))) ?_)
            refine cS rfl rfl (o_move (v := .tup _) rfl ?_)
            refine cS rfl rfl (o_ext (v := .agg _) rfl rfl ?_)
            refine cS rfl rfl (o_ext (v := .lst _ _ _) rfl rfl ?_)
            refine cS rfl rfl (o_ext (v := .int _ _) rfl rfl ?_)
            refine cSn rfl (o_stB (v := .agg _) (vs := [.int _ _, .lst _ _ _]) (cs2 := [.int _ _, .lst _ _ _]) tt34 rfl rfl rfl rfl rfl (Nat.le_of_ble_eq_true rfl) rfl ?_)
            refine cS rfl rfl (o_assign (v := .lst _ _ _) rfl ?_)
            refine cS rfl rfl (o_assign (v := .int _ _) rfl ?_)
            refine eS ?_
            exact St.to_mk (φ := [none, none, some 2, some 3, none, none, none, none, some 5]) rfl (.inl rfl) ⟨Ren.int _ _, Ren.ptr rfl, Ren.ptr rfl, Ren.int _ _, Ren.ptr rfl, Ren.int _ _, trivial⟩ ⟨rfl, rfl, .inr ⟨_, rfl, rfl, Rens.cons (Ren.int _ _) (Rens.cons (Ren.int _ _) (Rens.cons (Ren.int _ _) (Rens.cons (Ren.int _ _) (Rens.nil))))⟩, .inr ⟨_, rfl, rfl, Rens.cons (Ren.int _ _) (Rens.cons (Ren.lst _ _ _) (Rens.nil))⟩, rfl, rfl, rfl, rfl, .inr ⟨_, rfl, rfl, Rens.cons (Ren.int _ _) (Rens.cons (Ren.lst _ _ _) (Rens.nil))⟩, trivial⟩
          refine tC ?_ ?_
          · refine cI rfl rfl (o_ldA (cs := [.int _ _, .int _ _, .int _ _, .int _ _]) tt25 rfl rfl ⟨_, rfl⟩ rfl ?_)
            refine tN ?_
            refine eS ?_
            refine tC ?_ ?_
            · refine cI rfl rfl (o_apR (p := 6) (q := (madeM ((2 : Int) + (pickM n (7 : Int))) x).length) tt22 tt25 rfl rfl (src_lst (enc25.wd true) _ _ rfl) (encL_length (enc25.wd true) _) rfl rfl (by simpa using s12) rfl (Nat.zero_add _) (List.nil_append _) ?_)
              refine tL ?_
              refine cS rfl rfl (o_bs1 (v := .agg _) (q := 7) tt22 tt25 rfl rfl rfl rfl rfl rfl rfl rfl ?_)
              refine cS rfl rfl (o_apR (p := 8) (q := ((madeM ((2 : Int) + (pickM n (7 : Int))) x) ++ [(lat (madeM ((2 : Int) + (pickM n (7 : Int))) [one]) (0 : Int))]).length) tt22 tt25 rfl rfl (src_ref rfl rfl) rfl rfl (encL_length (enc25.wd false) _) (Nat.le_trans (Nat.le_of_eq (@List.length_append _ (madeM ((2 : Int) + (pickM n (7 : Int))) x) ([(lat (madeM ((2 : Int) + (pickM n (7 : Int))) [one]) (0 : Int))])).symm) s13) rfl (@List.length_append _ (madeM ((2 : Int) + (pickM n (7 : Int))) x) ([(lat (madeM ((2 : Int) + (pickM n (7 : Int))) [one]) (0 : Int))])).symm (encL_app e25 (madeM ((2 : Int) + (pickM n (7 : Int))) x) [(lat (madeM ((2 : Int) + (pickM n (7 : Int))) [one]) (0 : Int))]) ?_)
              refine cS rfl rfl (o_callP1 (k := 15) (fst := []) (caps := []) (ys := [.int _ _, .ref _ _ _]) rfl rfl (spec_close ((2 : Int) + (pickM n (7 : Int))) ((madeM ((2 : Int) + (pickM n (7 : Int))) x) ++ [(lat (madeM ((2 : Int) + (pickM n (7 : Int))) [one]) (0 : Int))]) s13) (Wks.cons (ag_int _ _ _ _) (Wks.cons (ag_ref (fl := false) (xs := (madeM ((2 : Int) + (pickM n (7 : Int))) x) ++ [(lat (madeM ((2 : Int) + (pickM n (7 : Int))) [one]) (0 : Int))]) enc25 4 _ rfl rfl) (Wks.refl _))) ?_)
              refine cS rfl rfl (o_move (v := .tup _) rfl ?_)
              refine cS rfl rfl (o_ext (v := .agg _) rfl rfl ?_)
              refine cS rfl rfl (o_ext (v := .lst _ _ _) rfl rfl ?_)
              refine cS rfl rfl (o_ext (v := .int _ _) rfl rfl ?_)
              refine cSn rfl (o_stB (v := .agg _) (vs := [.int _ _, .lst _ _ _]) (cs2 := [.int _ _, .lst _ _ _]) tt34 rfl rfl rfl rfl rfl (Nat.le_of_ble_eq_true rfl) rfl ?_)
              refine cS rfl rfl (o_assign (v := .lst _ _ _) rfl ?_)
              refine cS rfl rfl (o_assign (v := .int _ _) rfl ?_)
              refine eS ?_
              exact St.to_mk (φ := [none, none, some 2, some 3, none, none, none, none, some 5]) rfl (.inl rfl) ⟨Ren.int _ _, Ren.ptr rfl, Ren.ptr rfl, Ren.int _ _, Ren.ptr rfl, Ren.int _ _, trivial⟩ ⟨rfl, rfl, .inr ⟨_, rfl, rfl, Rens.cons (Ren.int _ _) (Rens.cons (Ren.int _ _) (Rens.cons (Ren.int _ _) (Rens.cons (Ren.int _ _) (Rens.nil))))⟩, .inr ⟨_, rfl, rfl, Rens.cons (Ren.int _ _) (Rens.cons (Ren.lst _ _ _) (Rens.nil))⟩, rfl, rfl, rfl, rfl, .inr ⟨_, rfl, rfl, Rens.cons (Ren.int _ _) (Rens.cons (Ren.lst _ _ _) (Rens.nil))⟩, trivial⟩
            refine tC ?_ ?_
            · refine cI rfl rfl (o_bs1 (v := .agg _) (q := 6) tt22 tt25 rfl rfl rfl rfl rfl rfl rfl rfl ?_)
              refine tL ?_
              refine cS rfl rfl (o_apR (p := 7) (q := (madeM ((2 : Int) + (pickM n (7 : Int))) x).length) tt22 tt25 rfl rfl (src_lst (enc25.wd true) _ _ rfl) (encL_length (enc25.wd true) _) rfl rfl (by simpa using s12) rfl (Nat.zero_add _) (List.nil_append _) ?_)
              refine cS rfl rfl (o_apR (p := 8) (q := ((madeM ((2 : Int) + (pickM n (7 : Int))) x) ++ [(lat (madeM ((2 : Int) + (pickM n (7 : Int))) [one]) (0 : Int))]).length) tt22 tt25 rfl rfl (src_ref rfl rfl) rfl rfl (encL_length (enc25.wd false) _) (Nat.le_trans (Nat.le_of_eq (@List.length_append _ (madeM ((2 : Int) + (pickM n (7 : Int))) x) ([(lat (madeM ((2 : Int) + (pickM n (7 : Int))) [one]) (0 : Int))])).symm) s13) rfl (@List.length_append _ (madeM ((2 : Int) + (pickM n (7 : Int))) x) ([(lat (madeM ((2 : Int) + (pickM n (7 : Int))) [one]) (0 : Int))])).symm (encL_app e25 (madeM ((2 : Int) + (pickM n (7 : Int))) x) [(lat (madeM ((2 : Int) + (pickM n (7 : Int))) [one]) (0 : Int))]) ?_)
              refine cS rfl rfl (o_callP1 (k := 15) (fst := []) (caps := []) (ys := [.int _ _, .ref _ _ _]) rfl rfl (spec_close ((2 : Int) + (pickM n (7 : Int))) ((madeM ((2 : Int) + (pickM n (7 : Int))) x) ++ [(lat (madeM ((2 : Int) + (pickM n (7 : Int))) [one]) (0 : Int))]) s13) (Wks.cons (ag_int _ _ _ _) (Wks.cons (ag_ref (fl := false) (xs := (madeM ((2 : Int) + (pickM n (7 : Int))) x) ++ [(lat (madeM ((2 : Int) + (pickM n (7 : Int))) [one]) (0 : Int))]) enc25 4 _ rfl rfl) (Wks.refl _))) ?_)
              refine cS rfl rfl (o_move (v := .tup _) rfl ?_)
              refine cS rfl rfl (o_ext (v := .agg _) rfl rfl ?_)
              refine cS rfl rfl (o_ext (v := .lst _ _ _) rfl rfl ?_)
              refine cS rfl rfl (o_ext (v := .int _ _) rfl rfl ?_)
              refine cSn rfl (o_stB (v := .agg _) (vs := [.int _ _, .lst _ _ _]) (cs2 := [.int _ _, .lst _ _ _]) tt34 rfl rfl rfl rfl rfl (Nat.le_of_ble_eq_true rfl) rfl ?_)
              refine cS rfl rfl (o_assign (v := .lst _ _ _) rfl ?_)
              refine cS rfl rfl (o_assign (v := .int _ _) rfl ?_)
              refine eS ?_
              exact St.to_mk (φ := [none, none, some 2, some 3, none, none, none, none, some 5]) rfl (.inl rfl) ⟨Ren.int _ _, Ren.ptr rfl, Ren.ptr rfl, Ren.int _ _, Ren.ptr rfl, Ren.int _ _, trivial⟩ ⟨rfl, rfl, .inr ⟨_, rfl, rfl, Rens.cons (Ren.int _ _) (Rens.cons (Ren.int _ _) (Rens.cons (Ren.int _ _) (Rens.cons (Ren.int _ _) (Rens.nil))))⟩, .inr ⟨_, rfl, rfl, Rens.cons (Ren.int _ _) (Rens.cons (Ren.lst _ _ _) (Rens.nil))⟩, rfl, rfl, rfl, rfl, .inr ⟨_, rfl, rfl, Rens.cons (Ren.int _ _) (Rens.cons (Ren.lst _ _ _) (Rens.nil))⟩, trivial⟩
            exact tE
          exact tE
        exact tE
      refine tC ?_ ?_
      · refine cI rfl rfl (o_ldA (cs := [.int _ _, .int _ _, .int _ _, .int _ _]) tt25 rfl rfl ⟨_, rfl⟩ rfl ?_)
        refine tN ?_
        refine eS ?_
        refine tC ?_ ?_
        · refine cI rfl rfl (o_buildS (q := 4) (qs := []) (cs := []) tt22 tt25 rfl rfl rfl rfl ?_)
          refine tN ?_
          refine eS ?_
          refine tC ?_ ?_
          · refine cI rfl rfl (o_apR (p := 5) (q := (madeM ((2 : Int) + (pickM n (7 : Int))) x).length) tt22 tt25 rfl rfl (src_lst (enc25.wd true) _ _ rfl) (encL_length (enc25.wd true) _) rfl rfl (by simpa using s12) rfl (Nat.zero_add _) (List.nil_append _) ?_)
            refine tN ?_
            refine eS ?_
            refine tC ?_ ?_
            · refine cI rfl rfl (o_bs1 (v := .agg _) (q := 6) tt22 tt25 rfl rfl rfl rfl rfl rfl rfl rfl ?_)
              refine tN ?_
              refine eS ?_
              refine tC ?_ ?_
              · refine cI rfl rfl (o_apR (p := 7) (q := ((madeM ((2 : Int) + (pickM n (7 : Int))) x) ++ [(lat (madeM ((2 : Int) + (pickM n (7 : Int))) [one]) (0 : Int))]).length) tt22 tt25 rfl rfl (src_ref rfl rfl) rfl rfl (encL_length (enc25.wd false) _) (Nat.le_trans (Nat.le_of_eq (@List.length_append _ (madeM ((2 : Int) + (pickM n (7 : Int))) x) ([(lat (madeM ((2 : Int) + (pickM n (7 : Int))) [one]) (0 : Int))])).symm) s13) rfl (@List.length_append _ (madeM ((2 : Int) + (pickM n (7 : Int))) x) ([(lat (madeM ((2 : Int) + (pickM n (7 : Int))) [one]) (0 : Int))])).symm (encL_app e25 (madeM ((2 : Int) + (pickM n (7 : Int))) x) [(lat (madeM ((2 : Int) + (pickM n (7 : Int))) [one]) (0 : Int))]) ?_)
                refine tL ?_
                refine cS rfl rfl (o_alloc (p := 8) tt34 rfl rfl ?_)
                refine cS rfl rfl (o_callP1 (k := 15) (fst := []) (caps := []) (ys := [.int _ _, .ref _ _ _]) rfl rfl (spec_close ((2 : Int) + (pickM n (7 : Int))) ((madeM ((2 : Int) + (pickM n (7 : Int))) x) ++ [(lat (madeM ((2 : Int) + (pickM n (7 : Int))) [one]) (0 : Int))]) s13) (Wks.cons (ag_int _ _ _ _) (Wks.cons (ag_ref (fl := false) (xs := (madeM ((2 : Int) + (pickM n (7 : Int))) x) ++ [(lat (madeM ((2 : Int) + (pickM n (7 : Int))) [one]) (0 : Int))]) enc25 4 _ rfl rfl) (Wks.refl _))) ?_)
                refine cS rfl rfl (o_move (v := .tup _) rfl ?_)
                refine cS rfl rfl (o_ext (v := .agg _) rfl rfl ?_)
                refine cS rfl rfl (o_ext (v := .lst _ _ _) rfl rfl ?_)
                refine cS rfl rfl (o_ext (v := .int _ _) rfl rfl ?_)
                refine cSn rfl (o_stB (v := .agg _) (vs := [.int _ _, .lst _ _ _]) (cs2 := [.int _ _, .lst _ _ _]) tt34 rfl rfl rfl rfl rfl (Nat.le_of_ble_eq_true rfl) rfl ?_)
                refine cS rfl rfl (o_assign (v := .lst _ _ _) rfl ?_)
                refine cS rfl rfl (o_assign (v := .int _ _) rfl ?_)
                refine eS ?_
                exact St.to_mk (φ := [none, none, some 2, some 3, none, none, none, none, some 8]) rfl (.inl rfl) ⟨Ren.int _ _, Ren.ptr rfl, Ren.ptr rfl, Ren.int _ _, Ren.ptr rfl, Ren.int _ _, trivial⟩ ⟨rfl, rfl, .inr ⟨_, rfl, rfl, Rens.cons (Ren.int _ _) (Rens.cons (Ren.int _ _) (Rens.cons (Ren.int _ _) (Rens.cons (Ren.int _ _) (Rens.nil))))⟩, .inr ⟨_, rfl, rfl, Rens.cons (Ren.int _ _) (Rens.cons (Ren.lst _ _ _) (Rens.nil))⟩, rfl, rfl, rfl, rfl, .inr ⟨_, rfl, rfl, Rens.cons (Ren.int _ _) (Rens.cons (Ren.lst _ _ _) (Rens.nil))⟩, trivial⟩
              refine tC ?_ ?_
              · refine cI rfl rfl (o_alloc (p := 7) tt34 rfl rfl ?_)
                refine tL ?_
                refine cS rfl rfl (o_apR (p := 8) (q := ((madeM ((2 : Int) + (pickM n (7 : Int))) x) ++ [(lat (madeM ((2 : Int) + (pickM n (7 : Int))) [one]) (0 : Int))]).length) tt22 tt25 rfl rfl (src_ref rfl rfl) rfl rfl (encL_length (enc25.wd false) _) (Nat.le_trans (Nat.le_of_eq (@List.length_append _ (madeM ((2 : Int) + (pickM n (7 : Int))) x) ([(lat (madeM ((2 : Int) + (pickM n (7 : Int))) [one]) (0 : Int))])).symm) s13) rfl (@List.length_append _ (madeM ((2 : Int) + (pickM n (7 : Int))) x) ([(lat (madeM ((2 : Int) + (pickM n (7 : Int))) [one]) (0 : Int))])).symm (encL_app e25 (madeM ((2 : Int) + (pickM n (7 : Int))) x) [(lat (madeM ((2 : Int) + (pickM n (7 : Int))) [one]) (0 : Int))]) ?_)
                refine cS rfl rfl (o_callP1 (k := 15) (fst := []) (caps := []) (ys := [.int _ _, .ref _ _ _]) rfl rfl (spec_close ((2 : Int) + (pickM n (7 : Int))) ((madeM ((2 : Int) + (pickM n (7 : Int))) x) ++ [(lat (madeM ((2 : Int) + (pickM n (7 : Int))) [one]) (0 : Int))]) s13) (Wks.cons (ag_int _ _ _ _) (Wks.cons (ag_ref (fl := false) (xs := (madeM ((2 : Int) + (pickM n (7 : Int))) x) ++ [(lat (madeM ((2 : Int) + (pickM n (7 : Int))) [one]) (0 : Int))]) enc25 4 _ rfl rfl) (Wks.refl _))) ?_)
                refine cS rfl rfl (o_move (v := .tup _) rfl ?_)
                refine cS rfl rfl (o_ext (v := .agg _) rfl rfl ?_)
                refine cS rfl rfl (o_ext (v := .lst _ _ _) rfl rfl ?_)
                refine cS rfl rfl (o_ext (v := .int _ _) rfl rfl ?_)
                refine cSn rfl (o_stB (v := .agg _) (vs := [.int _ _, .lst _ _ _]) (cs2 := [.int _ _, .lst _ _ _]) tt34 rfl rfl rfl rfl rfl (Nat.le_of_ble_eq_true rfl) rfl ?_)
                refine cS rfl rfl (o_assign (v := .lst _ _ _) rfl ?_)
                refine cS rfl rfl (o_assign (v := .int _ _) rfl ?_)
                refine eS ?_
                exact St.to_mk (φ := [none, none, some 2, some 3, none, none, none, none, some 7]) rfl (.inl rfl) ⟨Ren.int _ _, Ren.ptr rfl, Ren.ptr rfl, Ren.int _ _, Ren.ptr rfl, Ren.int _ _, trivial⟩ ⟨rfl, rfl, .inr ⟨_, rfl, rfl, Rens.cons (Ren.int _ _) (Rens.cons (Ren.int _ _) (Rens.cons (Ren.int _ _) (Rens.cons (Ren.int _ _) (Rens.nil))))⟩, .inr ⟨_, rfl, rfl, Rens.cons (Ren.int _ _) (Rens.cons (Ren.lst _ _ _) (Rens.nil))⟩, rfl, rfl, rfl, rfl, .inr ⟨_, rfl, rfl, Rens.cons (Ren.int _ _) (Rens.cons (Ren.lst _ _ _) (Rens.nil))⟩, trivial⟩
              exact tE
            refine tC ?_ ?_
            · refine cI rfl rfl (o_alloc (p := 6) tt34 rfl rfl ?_)
              refine tL ?_
              refine cS rfl rfl (o_bs1 (v := .agg _) (q := 7) tt22 tt25 rfl rfl rfl rfl rfl rfl rfl rfl ?_)
              refine cS rfl rfl (o_apR (p := 8) (q := ((madeM ((2 : Int) + (pickM n (7 : Int))) x) ++ [(lat (madeM ((2 : Int) + (pickM n (7 : Int))) [one]) (0 : Int))]).length) tt22 tt25 rfl rfl (src_ref rfl rfl) rfl rfl (encL_length (enc25.wd false) _) (Nat.le_trans (Nat.le_of_eq (@List.length_append _ (madeM ((2 : Int) + (pickM n (7 : Int))) x) ([(lat (madeM ((2 : Int) + (pickM n (7 : Int))) [one]) (0 : Int))])).symm) s13) rfl (@List.length_append _ (madeM ((2 : Int) + (pickM n (7 : Int))) x) ([(lat (madeM ((2 : Int) + (pickM n (7 : Int))) [one]) (0 : Int))])).symm (encL_app e25 (madeM ((2 : Int) + (pickM n (7 : Int))) x) [(lat (madeM ((2 : Int) + (pickM n (7 : Int))) [one]) (0 : Int))]) ?_)
              refine cS rfl rfl (o_callP1 (k := 15) (fst := []) (caps := []) (ys := [.int _ _, .ref _ _ _]) rfl rfl (spec_close ((2 : Int) + (pickM n (7 : Int))) ((madeM ((2 : Int) + (pickM n (7 : Int))) x) ++ [(lat (madeM ((2 : Int) + (pickM n (7 : Int))) [one]) (0 : Int))]) s13) (Wks.cons (ag_int _ _ _ _) (Wks.cons (ag_ref (fl := false) (xs := (madeM ((2 : Int) + (pickM n (7 : Int))) x) ++ [(lat (madeM ((2 : Int) + (pickM n (7 : Int))) [one]) (0 : Int))]) enc25 4 _ rfl rfl) (Wks.refl _))) ?_)
              refine cS rfl rfl (o_move (v := .tup _) rfl ?_)
              refine cS rfl rfl (o_ext (v := .agg _) rfl rfl ?_)
              refine cS rfl rfl (o_ext (v := .lst _ _ _) rfl rfl ?_)
              refine cS rfl rfl (o_ext (v := .int _ _) rfl rfl ?_)
              refine cSn rfl (o_stB (v := .agg _) (vs := [.int _ _, .lst _ _ _]) (cs2 := [.int _ _, .lst _ _ _]) tt34 rfl rfl rfl rfl rfl (Nat.le_of_ble_eq_true rfl) rfl ?_)
              refine cS rfl rfl (o_assign (v := .lst _ _ _) rfl ?_)
              refine cS rfl rfl (o_assign (v := .int _ _) rfl ?_)
              refine eS ?_
              exact St.to_mk (φ := [none, none, some 2, some 3, none, none, none, none, some 6]) rfl (.inl rfl) ⟨Ren.int _ _, Ren.ptr rfl, Ren.ptr rfl, Ren.int _ _, Ren.ptr rfl, Ren.int _ _, trivial⟩ ⟨rfl, rfl, .inr ⟨_, rfl, rfl, Rens.cons (Ren.int _ _) (Rens.cons (Ren.int _ _) (Rens.cons (Ren.int _ _) (Rens.cons (Ren.int _ _) (Rens.nil))))⟩, .inr ⟨_, rfl, rfl, Rens.cons (Ren.int _ _) (Rens.cons (Ren.lst _ _ _) (Rens.nil))⟩, rfl, rfl, rfl, rfl, .inr ⟨_, rfl, rfl, Rens.cons (Ren.int _ _) (Rens.cons (Ren.lst _ _ _) (Rens.nil))⟩, trivial⟩
            exact tE
          refine tC ?_ ?_
          · refine cI rfl rfl (o_bs1 (v := .agg _) (q := 5) tt22 tt25 rfl rfl rfl rfl rfl rfl rfl rfl ?_)
            refine tN ?_
            refine eS ?_
            refine tC ?_ ?_
            · refine cI rfl rfl (o_apR (p := 6) (q := (madeM ((2 : Int) + (pickM n (7 : Int))) x).length) tt22 tt25 rfl rfl (src_lst (enc25.wd true) _ _ rfl) (encL_length (enc25.wd true) _) rfl rfl (by simpa using s12) rfl (Nat.zero_add _) (List.nil_append _) ?_)
              refine tN ?_
              refine eS ?_
              refine tC ?_ ?_
              · refine cI rfl rfl (o_apR (p := 7) (q := ((madeM ((2 : Int) + (pickM n (7 : Int))) x) ++ [(lat (madeM ((2 : Int) + (pickM n (7 : Int))) [one]) (0 : Int))]).length) tt22 tt25 rfl rfl (src_ref rfl rfl) rfl rfl (encL_length (enc25.wd false) _) (Nat.le_trans (Nat.le_of_eq (@List.length_append _ (madeM ((2 : Int) + (pickM n (7 : Int))) x) ([(lat (madeM ((2 : Int) + (pickM n (7 : Int))) [one]) (0 : Int))])).symm) s13) rfl (@List.length_append _ (madeM ((2 : Int) + (pickM n (7 : Int))) x) ([(lat (madeM ((2 : Int) + (pickM n (7 : Int))) [one]) (0 : Int))])).symm (encL_app e25 (madeM ((2 : Int) + (pickM n (7 : Int))) x) [(lat (madeM ((2 : Int) + (pickM n (7 : Int))) [one]) (0 : Int))]) ?_)
                refine tL ?_
                refine cS rfl rfl (o_alloc (p := 8) tt34 rfl rfl ?_)
                refine cS rfl rfl (o_callP1 (k := 15) (fst := []) (caps := []) (ys := [.int _ _, .ref _ _ _]) rfl rfl (spec_close ((2 : Int) + (pickM n (7 : Int))) ((madeM ((2 : Int) + (pickM n (7 : Int))) x) ++ [(lat (madeM ((2 : Int) + (pickM n (7 : Int))) [one]) (0 : Int))]) s13) (Wks.cons (ag_int _ _ _ _) (Wks.cons (ag_ref (fl := false) (xs := (madeM ((2 : Int) + (pickM n (7 : Int))) x) ++ [(lat (madeM ((2 : Int) + (pickM n (7 : Int))) [one]) (0 : Int))]) enc25 4 _ rfl rfl) (Wks.refl _))) ?_)
                refine cS rfl rfl (o_move (v := .tup _) rfl ?_)
                refine cS rfl rfl (o_ext (v := .agg _) rfl rfl ?_)
                refine cS rfl rfl (o_ext (v := .lst _ _ _) rfl rfl ?_)
                refine cS rfl rfl (o_ext (v := .int _ _) rfl rfl ?_)
                refine cSn rfl (o_stB (v := .agg _) (vs := [.int _ _, .lst _ _ _]) (cs2 := [.int _ _, .lst _ _ _]) tt34 rfl rfl rfl rfl rfl (Nat.le_of_ble_eq_true rfl) rfl ?_)
                refine cS rfl rfl (o_assign (v := .lst _ _ _) rfl ?_)
                refine cS rfl rfl (o_assign (v := .int _ _) rfl ?_)
                refine eS ?_
                exact St.to_mk (φ := [none, none, some 2, some 3, none, none, none, none, some 8]) rfl (.inl rfl) ⟨Ren.int _ _, Ren.ptr rfl, Ren.ptr rfl, Ren.int _ _, Ren.ptr rfl, Ren.int _ _, trivial⟩ ⟨rfl, rfl, .inr ⟨_, rfl, rfl, Rens.cons (Ren.int _ _) (Rens.cons (Ren.int _ _) (Rens.cons (Ren.int _ _) (Rens.cons (Ren.int _ _) (Rens.nil))))⟩, .inr ⟨_, rfl, rfl, Rens.cons (Ren.int _ _) (Rens.cons (Ren.lst _ _ _) (Rens.nil))⟩, rfl, rfl, rfl, rfl, .inr ⟨_, rfl, rfl, Rens.cons (Ren.int _ _) (Rens.cons (Ren.lst _ _ _) (Rens.nil))⟩, trivial⟩
              refine tC ?_ ?_
              · refine cI rfl rfl (o_alloc (p := 7) tt34 rfl rfl ?_)
                refine tL ?_
                refine cS rfl rfl (o_apR (p := 8) (q := ((madeM ((2 : Int) + (pickM n (7 : Int))) x) ++ [(lat (madeM ((2 : Int) + (pickM n (7 : Int))) [one]) (0 : Int))]).length) tt22 tt25 rfl rfl (src_ref rfl rfl) rfl rfl (encL_length (enc25.wd false) _) (Nat.le_trans (Nat.le_of_eq (@List.length_append _ (madeM ((2 : Int) + (pickM n (7 : Int))) x) ([(lat (madeM ((2 : Int) + (pickM n (7 : Int))) [one]) (0 : Int))])).symm) s13) rfl (@List.length_append _ (madeM ((2 : Int) + (pickM n (7 : Int))) x) ([(lat (madeM ((2 : Int) + (pickM n (7 : Int))) [one]) (0 : Int))])).symm (encL_app e25 (madeM ((2 : Int) + (pickM n (7 : Int))) x) [(lat (madeM ((2 : Int) + (pickM n (7 : Int))) [one]) (0 : Int))]) ?_)
                refine cS rfl rfl (o_callP1 (k := 15) (fst := []) (caps := []) (ys := [.int _ _, .ref _ _ _]) rfl rfl (spec_close ((2 : Int) + (pickM n (7 : Int))) ((madeM ((2 : Int) + (pickM n (7 : Int))) x) ++ [(lat (madeM ((2 : Int) + (pickM n (7 : Int))) [one]) (0 : Int))]) s13) (Wks.cons (ag_int _ _ _ _) (Wks.cons (ag_ref (fl := false) (xs := (madeM ((2 : Int) + (pickM n (7 : Int))) x) ++ [(lat (madeM ((2 : Int) + (pickM n (7 : Int))) [one]) (0 : Int))]) enc25 4 _ rfl rfl) (Wks.refl _))) ?_)
                refine cS rfl rfl (o_move (v := .tup _) rfl ?_)
                refine cS rfl rfl (o_ext (v := .agg _) rfl rfl ?_)
                refine cS rfl rfl (o_ext (v := .lst _ _ _) rfl rfl ?_)
                refine cS rfl rfl (o_ext (v := .int _ _) rfl rfl ?_)
                refine cSn rfl (o_stB (v := .agg _) (vs := [.int _ _, .lst _ _ _]) (cs2 := [.int _ _, .lst _ _ _]) tt34 rfl rfl rfl rfl rfl (Nat.le_of_ble_eq_true rfl) rfl ?_)
                refine cS rfl rfl (o_assign (v := .lst _ _ _) rfl ?_)
                refine cS rfl rfl (o_assign (v := .int _ _) rfl ?_)
                refine eS ?_
                exact St.to_mk (φ := [none, none, some 2, some 3, none, none, none, none, some 7]) rfl (.inl rfl) ⟨Ren.int _ _, Ren.ptr rfl, Ren.ptr rfl, Ren.int _ _, Ren.ptr rfl, Ren.int _ _, trivial⟩ ⟨rfl, rfl, .inr ⟨_, rfl, rfl, Rens.cons (Ren.int _ _) (Rens.cons (Ren.int _ _) (Rens.cons (Ren.int _ _) (Rens.cons (Ren.int _ _) (Rens.nil))))⟩, .inr ⟨_, rfl, rfl, Rens.cons (Ren.int _ _) (Rens.cons (Ren.lst _ _ _) (Rens.nil))⟩, rfl, rfl, rfl, rfl, .inr ⟨_, rfl, rfl, Rens.cons (Ren.int _ _) (Rens.cons (Ren.lst _ _ _) (Rens.nil))⟩, trivial⟩
              exact tE
            refine tC ?_ ?_
            · refine cI rfl rfl (o_alloc (p := 6) tt34 rfl rfl ?_)
              refine tL ?_
              refine cS rfl rfl (o_apR (p := 7) (q := (madeM ((2 : Int) + (pickM n (7 : Int))) x).length) tt22 tt25 rfl rfl (src_lst (enc25.wd true) _ _ rfl) (encL_length (enc25.wd true) _) rfl rfl (by simpa using s12) rfl (Nat.zero_add _) (List.nil_append _) ?_)
              refine cS rfl rfl (o_apR (p := 8) (q := ((madeM ((2 : Int) + (pickM n (7 : Int))) x) ++ [(lat (madeM ((2 : Int) + (pickM n (7 : Int))) [one]) (0 : Int))]).length) tt22 tt25 rfl rfl (src_ref rfl rfl) rfl rfl (encL_length (enc25.wd false) _) (Nat.le_trans (Nat.le_of_eq (@List.length_append _ (madeM ((2 : Int) + (pickM n (7 : Int))) x) ([(lat (madeM ((2 : Int) + (pickM n (7 : Int))) [one]) (0 : Int))])).symm) s13) rfl (@List.length_append _ (madeM ((2 : Int) + (pickM n (7 : Int))) x) ([(lat (madeM ((2 : Int) + (pickM n (7 : Int))) [one]) (0 : Int))])).symm (encL_app e25 (madeM ((2 : Int) + (pickM n (7 : Int))) x) [(lat (madeM ((2 : Int) + (pickM n (7 : Int))) [one]) (0 : Int))]) ?_)
              refine cS rfl rfl (o_callP1 (k := 15) (fst := []) (caps := []) (ys := [.int _ _, .ref _ _ _]) rfl rfl (spec_close ((2 : Int) + (pickM n (7 : Int))) ((madeM ((2 : Int) + (pickM n (7 : Int))) x) ++ [(lat (madeM ((2 : Int) + (pickM n (7 : Int))) [one]) (0 : Int))]) s13) (Wks.cons (ag_int _ _ _ _) (Wks.cons (ag_ref (fl := false) (xs := (madeM ((2 : Int) + (pickM n (7 : Int))) x) ++ [(lat (madeM ((2 : Int) + (pickM n (7 : Int))) [one]) (0 : Int))]) enc25 4 _ rfl rfl) (Wks.refl _))) ?_)
              refine cS rfl rfl (o_move (v := .tup _) rfl ?_)
              refine cS rfl rfl (o_ext (v := .agg _) rfl rfl ?_)
              refine cS rfl rfl (o_ext (v := .lst _ _ _) rfl rfl ?_)
              refine cS rfl rfl (o_ext (v := .int _ _) rfl rfl ?_)
              refine cSn rfl (o_stB (v := .agg _) (vs := [.int _ _, .lst _ _ _]) (cs2 := [.int _ _, .lst _ _ _]) tt34 rfl rfl rfl rfl rfl (Nat.le_of_ble_eq_true rfl) rfl ?_)
              refine cS rfl rfl (o_assign (v := .lst _ _ _) rfl ?_)
              refine cS rfl rfl (o_assign (v := .int _ _) rfl ?_)
              refine eS ?_
              exact St.to_mk (φ := [none, none, some 2, some 3, none, none, none, none, some 6]) rfl (.inl rfl) ⟨Ren.int _ _, Ren.ptr rfl, Ren.ptr rfl, Ren.int _ _, Ren.ptr rfl, Ren.int _ _, trivial⟩ ⟨rfl, rfl, .inr ⟨_, rfl, rfl, Rens.cons (Ren.int _ _) (Rens.cons (Ren.int _ _) (Rens.cons (Ren.int _ _) (Rens.cons (Ren.int _ _) (Rens.nil))))⟩, .inr ⟨_, rfl, rfl, Rens.cons (Ren.int _ _) (Rens.cons (Ren.lst _ _ _) (Rens.nil))⟩, rfl, rfl, rfl, rfl, .inr ⟨_, rfl, rfl, Rens.cons (Ren.int _ _) (Rens.cons (Ren.lst _ _ _) (Rens.nil))⟩, trivial⟩
            exact tE
          refine tC ?_ ?_
          · refine cI rfl rfl (o_alloc (p := 5) tt34 rfl rfl ?_)
            refine tN ?_
            refine eS ?_
            refine tC ?_ ?_
            · refine cI rfl rfl (o_apR (p := 6) (q := (madeM ((2 : Int) + (pickM n (7 : Int))) x).length) tt22 tt25 rfl rfl (src_lst (enc25.wd true) _ _ rfl) (encL_length (enc25.wd true) _) rfl rfl (by simpa using s12) rfl (Nat.zero_add _) (List.nil_append _) ?_)
              refine tL ?_
              refine cS rfl rfl (o_bs1 (v := .agg _) (q := 7) tt22 tt25 rfl rfl rfl rfl rfl rfl rfl rfl ?_)
              refine cS rfl rfl (o_apR (p := 8) (q := ((madeM ((2 : Int) + (pickM n (7 : Int))) x) ++ [(lat (madeM ((2 : Int) + (pickM n (7 : Int))) [one]) (0 : Int))]).length) tt22 tt25 rfl rfl (src_ref rfl rfl) rfl rfl (encL_length (enc25.wd false) _) (Nat.le_trans (Nat.le_of_eq (@List.length_append _ (madeM ((2 : Int) + (pickM n (7 : Int))) x) ([(lat (madeM ((2 : Int) + (pickM n (7 : Int))) [one]) (0 : Int))])).symm) s13) rfl (@List.length_append _ (madeM ((2 : Int) + (pickM n (7 : Int))) x) ([(lat (madeM ((2 : Int) + (pickM n (7 : Int))) [one]) (0 : Int))])).symm (encL_app e25 (madeM ((2 : Int) + (pickM n (7 : Int))) x) [(lat (madeM ((2 : Int) + (pickM n (7 : Int))) [one]) (0 : Int))]) ?_)
              refine cS rfl rfl (o_callP1 (k := 15) (fst := []) (caps := []) (ys := [.int _ _, .ref _ _ _]) rfl rfl (spec_close ((2 : Int) + (pickM n (7 : Int))) ((madeM ((2 : Int) + (pickM n (7 : Int))) x) ++ [(lat (madeM ((2 : Int) + (pickM n (7 : Int))) [one]) (0 : Int))]) s13) (Wks.cons (ag_int _ _ _ _) (Wks.cons (ag_ref (fl := false) (xs := (madeM ((2 : Int) + (pickM n (7 : Int))) x) ++ [(lat (madeM ((2 : Int) + (pickM n (7 : Int))) [one]) (0 : Int))]) enc25 4 _ rfl rfl) (Wks.refl _))) ?_)
              refine cS rfl rfl (o_move (v := .tup _) rfl ?_)
              refine cS rfl rfl (o_ext (v := .agg _) rfl rfl ?_)
              refine cS rfl rfl (o_ext (v := .lst _ _ _) rfl rfl ?_)
              refine cS rfl rfl (o_ext (v := .int _ _) rfl rfl ?_)
              refine cSn rfl (o_stB (v := .agg _) (vs := [.int _ _, .lst _ _ _]) (cs2 := [.int _ _, .lst _ _ _]) tt34 rfl rfl rfl rfl rfl (Nat.le_of_ble_eq_true rfl) rfl ?_)
              refine cS rfl rfl (o_assign (v := .lst _ _ _) rfl ?_)
              refine cS rfl rfl (o_assign (v := .int _ _) rfl ?_)
              refine eS ?_
              exact St.to_mk (φ := [none, none, some 2, some 3, none, none, none, none, some 5]) rfl (.inl rfl) ⟨Ren.int _ _, Ren.ptr rfl, Ren.ptr rfl, Ren.int _ _, Ren.ptr rfl, Ren.int _ _, trivial⟩ ⟨rfl, rfl, .inr ⟨_, rfl, rfl, Rens.cons (Ren.int _ _) (Rens.cons (Ren.int _ _) (Rens.cons (Ren.int _ _) (Rens.cons (Ren.int _ _) (Rens.nil))))⟩, .inr ⟨_, rfl, rfl, Rens.cons (Ren.int _ _) (Rens.cons (Ren.lst _ _ _) (Rens.nil))⟩, rfl, rfl, rfl, rfl, .inr ⟨_, rfl, rfl, Rens.cons (Ren.int _ _) (Rens.cons (Ren.lst _ _ _) (Rens.nil))⟩, trivial⟩
            refine tC ?_ ?_
            · refine cI rfl rfl (o_bs1 (v := .agg _) (q := 6) tt22 tt25 rfl rfl rfl rfl rfl rfl rfl rfl ?_)
              refine tL ?_
              refine cS rfl rfl (o_apR (p := 7) (q := (madeM ((2 : Int) + (pickM n (7 : Int))) x).length) tt22 tt25 rfl rfl (src_lst (enc25.wd true) _ _ rfl) (encL_length (enc25.wd true) _) rfl rfl (by simpa using s12) rfl (Nat.zero_add _) (List.nil_append _) ?_)
              refine cS rfl rfl (o_apR (p := 8) (q := ((madeM ((2 : Int) + (pickM n (7 : Int))) x) ++ [(lat (madeM ((2 : Int) + (pickM n (7 : Int))) [one]) (0 : Int))]).length) tt22 tt25 rfl rfl (src_ref rfl rfl) rfl rfl (encL_length (enc25.wd false) _) (Nat.le_trans (Nat.le_of_eq (@List.length_append _ (madeM ((2 : Int) + (pickM n (7 : Int))) x) ([(lat (madeM ((2 : Int) + (pickM n (7 : Int))) [one]) (0 : Int))])).symm) s13) rfl (@List.length_append _ (madeM ((2 : Int) + (pickM n (7 : Int))) x) ([(lat (madeM ((2 : Int) + (pickM n (7 : Int))) [one]) (0 : Int))])).symm (encL_app e25 (madeM ((2 : Int) + (pickM n (7 : Int))) x) [(lat (madeM ((2 : Int) + (pickM n (7 : Int))) [one]) (0 : Int))]) ?_)
              refine cS rfl rfl (o_callP1 (k := 15) (fst := []) (caps := []) (ys := [.int _ _, .ref _ _ _]) rfl rfl (spec_close ((2 : Int) + (pickM n (7 : Int))) ((madeM ((2 : Int) + (pickM n (7 : Int))) x) ++ [(lat (madeM ((2 : Int) + (pickM n (7 : Int))) [one]) (0 : Int))]) s13) (Wks.cons (ag_int _ _ _ _) (Wks.cons (ag_ref (fl := false) (xs := (madeM ((2 : Int) + (pickM n (7 : Int))) x) ++ [(lat (madeM ((2 : Int) + (pickM n (7 : Int))) [one]) (0 : Int))]) enc25 4 _ rfl rfl) (Wks.refl _))) ?_)
              refine cS rfl rfl (o_move (v := .tup _) rfl ?_)
              refine cS rfl rfl (o_ext (v := .agg _) rfl rfl ?_)
              refine cS rfl rfl (o_ext (v := .lst _ _ _) rfl rfl ?_)
              refine cS rfl rfl (o_ext (v := .int _ _) rfl rfl ?_)
              refine cSn rfl (o_stB (v := .agg _) (vs := [.int _ _, .lst _ _ _]) (cs2 := [.int _ _, .lst _ _ _]) tt34 rfl rfl rfl rfl rfl (Nat.le_of_ble_eq_true rfl) rfl ?_)
              refine cS rfl rfl (o_assign (v := .lst _ _ _) rfl ?_)
              refine cS rfl rfl (o_assign (v := .int _ _) rfl ?_)
              refine eS ?_
              exact St.to_mk (φ := [none, none, some 2, some 3, none, none, none, none, some 5]) rfl (.inl rfl) ⟨Ren.int _ _, Ren.ptr rfl, Ren.ptr rfl, Ren.int _ _, Ren.ptr rfl, Ren.int _ _, trivial⟩ ⟨rfl, rfl, .inr ⟨_, rfl, rfl, Rens.cons (Ren.int _ _) (Rens.cons (Ren.int _ _) (Rens.cons (Ren.int _ _) (Rens.cons (Ren.int _ _) (Rens.nil))))⟩, .inr ⟨_, rfl, rfl, Rens.cons (Ren.int _ _) (Rens.cons (Ren.lst _ _ _) (Rens.nil))⟩, rfl, rfl, rfl, rfl, .inr ⟨_, rfl, rfl, Rens.cons (Ren.int _ _) (Rens.cons (Ren.lst _ _ _) (Rens.nil))⟩, trivial⟩
            exact tE
          exact tE
        refine tC ?_ ?_
        · refine cI rfl rfl (o_bs1 (v := .agg _) (q := 4) tt22 tt25 rfl rfl rfl rfl rfl rfl rfl rfl ?_)
          refine tN ?_
          refine eS ?_
          refine tC ?_ ?_
          · refine cI rfl rfl (o_buildS (q := 5) (qs := []) (cs := []) tt22 tt25 rfl rfl rfl rfl ?_)
            refine tN ?_
            refine eS ?_
            refine tC ?_ ?_
            · refine cI rfl rfl (o_apR (p := 6) (q := (madeM ((2 : Int) + (pickM n (7 : Int))) x).length) tt22 tt25 rfl rfl (src_lst (enc25.wd true) _ _ rfl) (encL_length (enc25.wd true) _) rfl rfl (by simpa using s12) rfl (Nat.zero_add _) (List.nil_append _) ?_)
              refine tN ?_
              refine eS ?_
              refine tC ?_ ?_
              · refine cI rfl rfl (o_apR (p := 7) (q := ((madeM ((2 : Int) + (pickM n (7 : Int))) x) ++ [(lat (madeM ((2 : Int) + (pickM n (7 : Int))) [one]) (0 : Int))]).length) tt22 tt25 rfl rfl (src_ref rfl rfl) rfl rfl (encL_length (enc25.wd false) _) (Nat.le_trans (Nat.le_of_eq (@List.length_append _ (madeM ((2 : Int) + (pickM n (7 : Int))) x) ([(lat (madeM ((2 : Int) + (pickM n (7 : Int))) [one]) (0 : Int))])).symm) s13) rfl (@List.length_append _ (madeM ((2 : Int) + (pickM n (7 : Int))) x) ([(lat (madeM ((2 : Int) + (pickM n (7 : Int))) [one]) (0 : Int))])).symm (encL_app e25 (madeM ((2 : Int) + (pickM n (7 : Int))) x) [(lat (madeM ((2 : Int) + (pickM n (7 : Int))) [one]) (0 : Int))]) ?_)
                refine tL ?_
                refine cS rfl rfl (o_alloc (p := 8) tt34 rfl rfl ?_)
                refine cS rfl rfl (o_callP1 (k := 15) (fst := []) (caps := []) (ys := [.int _ _, .ref _ _ _]) rfl rfl (spec_close ((2 : Int) + (pickM n (7 : Int))) ((madeM ((2 : Int) + (pickM n (7 : Int))) x) ++ [(lat (madeM ((2 : Int) + (pickM n (7 : Int))) [one]) (0 : Int))]) s13) (Wks.cons (ag_int _ _ _ _) (Wks.cons (ag_ref (fl := false) (xs := (madeM ((2 : Int) + (pickM n (7 : Int))) x) ++ [(lat (madeM ((2 : Int) + (pickM n (7 : Int))) [one]) (0 : Int))]) enc25 4 _ rfl rfl) (Wks.refl _))) ?_)
                refine cS rfl rfl (o_move (v := .tup _) rfl ?_)
                refine cS rfl rfl (o_ext (v := .agg _) rfl rfl ?_)
                refine cS rfl rfl (o_ext (v := .lst _ _ _) rfl rfl ?_)
                refine cS rfl rfl (o_ext (v := .int _ _) rfl rfl ?_)
                refine cSn rfl (o_stB (v := .agg _) (vs := [.int _ _, .lst _ _ _]) (cs2 := [.int _ _, .lst _ _ _]) tt34 rfl rfl rfl rfl rfl (Nat.le_of_ble_eq_true rfl) rfl ?_)
                refine cS rfl rfl (o_assign (v := .lst _ _ _) rfl ?_)
                refine cS rfl rfl (o_assign (v := .int _ _) rfl ?_)
                refine eS ?_
                exact St.to_mk (φ := [none, none, some 2, some 3, none, none, none, none, some 8]) rfl (.inl rfl) ⟨Ren.int _ _, Ren.ptr rfl, Ren.ptr rfl, Ren.int _ _, Ren.ptr rfl, Ren.int _ _, trivial⟩ ⟨rfl, rfl, .inr ⟨_, rfl, rfl, Rens.cons (Ren.int _ _) (Rens.cons (Ren.int _ _) (Rens.cons (Ren.int _ _) (Rens.cons (Ren.int _ _) (Rens.nil))))⟩, .inr ⟨_, rfl, rfl, Rens.cons (Ren.int _ _) (Rens.cons (Ren.lst _ _ _) (Rens.nil))⟩, rfl, rfl, rfl, rfl, .inr ⟨_, rfl, rfl, Rens.cons (Ren.int _ _) (Rens.cons (Ren.lst _ _ _) (Rens.nil))⟩, trivial⟩
              refine tC ?_ ?_
              · refine cI rfl rfl (o_alloc (p := 7) tt34 rfl rfl ?_)
                refine tL ?_
                refine cS rfl rfl (o_apR (p := 8) (q := ((madeM ((2 : Int) + (pickM n (7 : Int))) x) ++ [(lat (madeM ((2 : Int) + (pickM n (7 : Int))) [one]) (0 : Int))]).length) tt22 tt25 rfl rfl (src_ref rfl rfl) rfl rfl (encL_length (enc25.wd false) _) (Nat.le_trans (Nat.le_of_eq (@List.length_append _ (madeM ((2 : Int) + (pickM n (7 : Int))) x) ([(lat (madeM ((2 : Int) + (pickM n (7 : Int))) [one]) (0 : Int))])).symm) s13) rfl (@List.length_append _ (madeM ((2 : Int) + (pickM n (7 : Int))) x) ([(lat (madeM ((2 : Int) + (pickM n (7 : Int))) [one]) (0 : Int))])).symm (encL_app e25 (madeM ((2 : Int) + (pickM n (7 : Int))) x) [(lat (madeM ((2 : Int) + (pickM n (7 : Int))) [one]) (0 : Int))]) ?_)
                refine cS rfl rfl (o_callP1 (k := 15) (fst := []) (caps := []) (ys := [.int _ _, .ref _ _ _]) rfl rfl (spec_close ((2 : Int) + (pickM n (7 : Int))) ((madeM ((2 : Int) + (pickM n (7 : Int))) x) ++ [(lat (madeM ((2 : Int) + (pickM n (7 : Int))) [one]) (0 : Int))]) s13) (Wks.cons (ag_int _ _ _ _) (Wks.cons (ag_ref (fl := false) (xs := (madeM ((2 : Int) + (pickM n (7 : Int))) x) ++ [(lat (madeM ((2 : Int) + (pickM n (7 : Int))) [one]) (0 : Int))]) enc25 4 _ rfl rfl) (Wks.refl _))) ?_)
                refine cS rfl rfl (o_move (v := .tup _) rfl ?_)
                refine cS rfl rfl (o_ext (v := .agg _) rfl rfl ?_)
                refine cS rfl rfl (o_ext (v := .lst _ _ _) rfl rfl ?_)
                refine cS rfl rfl (o_ext (v := .int _ _) rfl rfl ?_)
                refine cSn rfl (o_stB (v := .agg _) (vs := [.int _ _, .lst _ _ _]) (cs2 := [.int _ _, .lst _ _ _]) tt34 rfl rfl rfl rfl rfl (Nat.le_of_ble_eq_true rfl) rfl ?_)
                refine cS rfl rfl (o_assign (v := .lst _ _ _) rfl ?_)
                refine cS rfl rfl (o_assign (v := .int _ _) rfl ?_)
                refine eS ?_
                exact St.to_mk (φ := [none, none, some 2, some 3, none, none, none, none, some 7]) rfl (.inl rfl) ⟨Ren.int _ _, Ren.ptr rfl, Ren.ptr rfl, Ren.int _ _, Ren.ptr rfl, Ren.int _ _, trivial⟩ ⟨rfl, rfl, .inr ⟨_, rfl, rfl, Rens.cons (Ren.int _ _) (Rens.cons (Ren.int _ _) (Rens.cons (Ren.int _ _) (Rens.cons (Ren.int _ _) (Rens.nil))))⟩, .inr ⟨_, rfl, rfl, Rens.cons (Ren.int _ _) (Rens.cons (Ren.lst _ _ _) (Rens.nil))⟩, rfl, rfl, rfl, rfl, .inr ⟨_, rfl, rfl, Rens.cons (Ren.int _ _) (Rens.cons (Ren.lst _ _ _) (Rens.nil))⟩, trivial⟩
              exact tE
            refine tC ?_ ?_
            · refine cI rfl rfl (o_alloc (p := 6) tt34 rfl rfl ?_)
              refine tL ?_
              refine cS rfl rfl (o_apR (p := 7) (q := (madeM ((2 : Int) + (pickM n (7 : Int))) x).length) tt22 tt25 rfl rfl (src_lst (enc25.wd true) _ _ rfl) (encL_length (enc25.wd true) _) rfl rfl (by simpa using s12) rfl (Nat.zero_add _) (List.nil_append _) ?_)
              refine cS rfl rfl (o_apR (p := 8) (q := ((madeM ((2 : Int) + (pickM n (7 : Int))) x) ++ [(lat (madeM ((2 : Int) + (pickM n (7 : Int))) [one]) (0 : Int))]).length) tt22 tt25 rfl rfl (src_ref rfl rfl) rfl rfl (encL_length (enc25.wd false) _) (Nat.le_trans (Nat.le_of_eq (@List.length_append _ (madeM ((2 : Int) + (pickM n (7 : Int))) x) ([(lat (madeM ((2 : Int) + (pickM n (7 : Int))) [one]) (0 : Int))])).symm) s13) rfl (@List.length_append _ (madeM ((2 : Int) + (pickM n (7 : Int))) x) ([(lat (madeM ((2 : Int) + (pickM n (7 : Int))) [one]) (0 : Int))])).symm (encL_app e25 (madeM ((2 : Int) + (pickM n (7 : Int))) x) [(lat (madeM ((2 : Int) + (pickM n (7 : Int))) [one]) (0 : Int))]) ?_)
              refine cS rfl rfl (o_callP1 (k := 15) (fst := []) (caps := []) (ys := [.int _ _, .ref _ _ _]) rfl rfl (spec_close ((2 : Int) + (pickM n (7 : Int))) ((madeM ((2 : Int) + (pickM n (7 : Int))) x) ++ [(lat (madeM ((2 : Int) + (pickM n (7 : Int))) [one]) (0 : Int))]) s13) (Wks.cons (ag_int _ _ _ _) (Wks.cons (ag_ref (fl := false) (xs := (madeM ((2 : Int) + (pickM n (7 : Int))) x) ++ [(lat (madeM ((2 : Int) + (pickM n (7 : Int))) [one]) (0 : Int))]) enc25 4 _ rfl rfl) (Wks.refl _))) ?_)
              refine cS rfl rfl (o_move (v := .tup _) rfl ?_)
              refine cS rfl rfl (o_ext (v := .agg _) rfl rfl ?_)
              refine cS rfl rfl (o_ext (v := .lst _ _ _) rfl rfl ?_)
              refine cS rfl rfl (o_ext (v := .int _ _) rfl rfl ?_)
              refine cSn rfl (o_stB (v := .agg _) (vs := [.int _ _, .lst _ _ _]) (cs2 := [.int _ _, .lst _ _ _]) tt34 rfl rfl rfl rfl rfl (Nat.le_of_ble_eq_true rfl) rfl ?_)
              refine cS rfl rfl (o_assign (v := .lst _ _ _) rfl ?_)
              refine cS rfl rfl (o_assign (v := .int _ _) rfl ?_)
              refine eS ?_
              exact St.to_mk (φ := [none, none, some 2, some 3, none, none, none, none, some 6]) rfl (.inl rfl) ⟨Ren.int _ _, Ren.ptr rfl, Ren.ptr rfl, Ren.int _ _, Ren.ptr rfl, Ren.int _ _, trivial⟩ ⟨rfl, rfl, .inr ⟨_, rfl, rfl, Rens.cons (Ren.int _ _) (Rens.cons (Ren.int _ _) (Rens.cons (Ren.int _ _) (Rens.cons (Ren.int _ _) (Rens.nil))))⟩, .inr ⟨_, rfl, rfl, Rens.cons (Ren.int _ _) (Rens.cons (Ren.lst _ _ _) (Rens.nil))⟩, rfl, rfl, rfl, rfl, .inr ⟨_, rfl, rfl, Rens.cons (Ren.int _ _) (Rens.cons (Ren.lst _ _ _) (Rens.nil))⟩, trivial⟩
            exact tE
          refine tC ?_ ?_
          · refine cI rfl rfl (o_alloc (p := 5) tt34 rfl rfl ?_)
            refine tL ?_
            refine cS rfl rfl (o_buildS (q := 6) (qs := []) (cs := []) tt22 tt25 rfl rfl rfl rfl ?_)
            refine cS rfl rfl (o_apR (p := 7) (q := (madeM ((2 : Int) + (pickM n (7 : Int))) x).length) tt22 tt25 rfl rfl (src_lst (enc25.wd true) _ _ rfl) (encL_length (enc25.wd true) _) rfl rfl (by simpa using s12) rfl (Nat.zero_add _) (List.nil_append _) ?_)
            refine cS rfl rfl (o_apR (p := 8) (q := ((madeM ((2 : Int) + (pickM n (7 : Int))) x) ++ [(lat (madeM ((2 : Int) + (pickM n (7 : Int))) [one]) (0 : Int))]).length) tt22 tt25 rfl rfl (src_ref rfl rfl) rfl rfl (encL_length (enc25.wd false) _) (Nat.le_trans (Nat.le_of_eq (@List.length_append _ (madeM ((2 : Int) + (pickM n (7 : Int))) x) ([(lat (madeM ((2 : Int) + (pickM n (7 : Int))) [one]) (0 : Int))])).symm) s13) rfl (@List.length_append _ (madeM ((2 : Int) + (pickM n (7 : Int))) x) ([(lat (madeM ((2 : Int) + (pickM n (7 : Int))) [one]) (0 : Int))])).symm (encL_app e25 (madeM ((2 : Int) + (pickM n (7 : Int))) x) [(lat (madeM ((2 : Int) + (pickM n (7 : Int))) [one]) (0 : Int))]) ?_)
            refine cS rfl rfl (o_callP1 (k := 15) (fst := []) (caps := []) (ys := [.int _ _, .ref _ _ _]) rfl rfl (spec_close ((2 : Int) + (pickM n (7 : Int))) ((madeM ((2 : Int) + (pickM n (7 : Int))) x) ++ [(lat (madeM ((2 : Int) + (pickM n (7 : Int))) [one]) (0 : Int))]) s13) (Wks.cons (ag_int _ _ _ _) (Wks.cons (ag_ref (fl := false) (xs := (madeM ((2 : Int) + (pickM n (7 : Int))) x) ++ [(lat (madeM ((2 : Int) + (pickM n (7 : Int))) [one]) (0 : Int))]) enc25 4 _ rfl rfl) (Wks.refl _))) ?_)
            refine cS rfl rfl (o_move (v := .tup _) rfl ?_)
            refine cS rfl rfl (o_ext (v := .agg _) rfl rfl ?_)
            refine cS rfl rfl (o_ext (v := .lst _ _ _) rfl rfl ?_)
            refine cS rfl rfl (o_ext (v := .int _ _) rfl rfl ?_)
            refine cSn rfl (o_stB (v := .agg _) (vs := [.int _ _, .lst _ _ _]) (cs2 := [.int _ _, .lst _ _ _]) tt34 rfl rfl rfl rfl rfl (Nat.le_of_ble_eq_true rfl) rfl ?_)
            refine cS rfl rfl (o_assign (v := .lst _ _ _) rfl ?_)
            refine cS rfl rfl (o_assign (v := .int _ _) rfl ?_)
            refine eS ?_
            exact St.to_mk (φ := [none, none, some 2, some 3, none, none, none, none, some 5]) rfl (.inl rfl) ⟨Ren.int _ _, Ren.ptr rfl, Ren.ptr rfl, Ren.int _ _, Ren.ptr rfl, Ren.int _ _, trivial⟩ ⟨rfl, rfl, .inr ⟨_, rfl, rfl, Rens.cons (Ren.int _ _) (Rens.cons (Ren.int _ _) (Rens.cons (Ren.int _ _) (Rens.cons (Ren.int _ _) (Rens.nil))))⟩, .inr ⟨_, rfl, rfl, Rens.cons (Ren.int _ _) (Rens.cons (Ren.lst _ _ _) (Rens.nil))⟩, rfl, rfl, rfl, rfl, .inr ⟨_, rfl, rfl, Rens.cons (Ren.int _ _) (Rens.cons (Ren.lst _ _ _) (Rens.nil))⟩, trivial⟩
          exact tE
        refine tC ?_ ?_
        · refine cI rfl rfl (o_alloc (p := 4) tt34 rfl rfl ?_)
          refine tN ?_
          refine eS ?_
          refine tC ?_ ?_
          · refine cI rfl rfl (o_buildS (q := 5) (qs := []) (cs := []) tt22 tt25 rfl rfl rfl rfl ?_)
            refine tN ?_
            refine eS ?_
            refine tC ?_ ?_
            · refine cI rfl rfl (o_apR (p := 6) (q := (madeM ((2 : Int) + (pickM n (7 : Int))) x).length) tt22 tt25 rfl rfl (src_lst (enc25.wd true) _ _ rfl) (encL_length (enc25.wd true) _) rfl rfl (by simpa using s12) rfl (Nat.zero_add _) (List.nil_append _) ?_)
              refine tL ?_
              refine cS rfl rfl (o_bs1 (v := .agg _) (q := 7) tt22 tt25 rfl rfl rfl rfl rfl rfl rfl rfl ?_)
              refine cS rfl rfl (o_apR (p := 8) (q := ((madeM ((2 : Int) + (pickM n (7 : Int))) x) ++ [(lat (madeM ((2 : Int) + (pickM n (7 : Int))) [one]) (0 : Int))]).length) tt22 tt25 rfl rfl (src_ref rfl rfl) rfl rfl (encL_length (enc25.wd false) _) (Nat.le_trans (Nat.le_of_eq (@List.length_append _ (madeM ((2 : Int) + (pickM n (7 : Int))) x) ([(lat (madeM ((2 : Int) + (pickM n (7 : Int))) [one]) (0 : Int))])).symm) s13) rfl (@List.length_append _ (madeM ((2 : Int) + (pickM n (7 : Int))) x) ([(lat (madeM ((2 : Int) + (pickM n (7 : Int))) [one]) (0 : Int))])).symm (encL_app e25 (madeM ((2 : Int) + (pickM n (7 : Int))) x) [(lat (madeM ((2 : Int) + (pickM n (7 : Int))) [one]) (0 : Int))]) ?_)
              refine cS rfl rfl (o_callP1 (k := 15) (fst := []) (caps := []) (ys := [.int _ _, .ref _ _ _]) rfl rfl (spec_close ((2 : Int) + (pickM n (7 : Int))) ((madeM ((2 : Int) + (pickM n (7 : Int))) x) ++ [(lat (madeM ((2 : Int) + (pickM n (7 : Int))) [one]) (0 : Int))]) s13) (Wks.cons (ag_int _ _ _ _) (Wks.cons (ag_ref (fl := false) (xs := (madeM ((2 : Int) + (pickM n (7 : Int))) x) ++ [(lat (madeM ((2 : Int) + (pickM n (7 : Int))) [one]) (0 : Int))]) enc25 4 _ rfl rfl) (Wks.refl _))) ?_)
              refine cS rfl rfl (o_move (v := .tup _) rfl ?_)
              refine cS rfl rfl (o_ext (v := .agg _) rfl rfl ?_)
              refine cS rfl rfl (o_ext (v := .lst _ _ _) rfl rfl ?_)
              refine cS rfl rfl (o_ext (v := .int _ _) rfl rfl ?_)
              refine cSn rfl (o_stB (v := .agg _) (vs := [.int _ _, .lst _ _ _]) (cs2 := [.int _ _, .lst _ _ _]) tt34 rfl rfl rfl rfl rfl (Nat.le_of_ble_eq_true rfl) rfl ?_)
              refine cS rfl rfl (o_assign (v := .lst _ _ _) rfl ?_)
              refine cS rfl rfl (o_assign (v := .int _ _) rfl ?_)
              refine eS ?_
              exact St.to_mk (φ := [none, none, some 2, some 3, none, none, none, none, some 4]) rfl (.inl rfl) ⟨Ren.int _ _, Ren.ptr rfl, Ren.ptr rfl, Ren.int _ _, Ren.ptr rfl, Ren.int _ _, trivial⟩ ⟨rfl, rfl, .inr ⟨_, rfl, rfl, Rens.cons (Ren.int _ _) (Rens.cons (Ren.int _ _) (Rens.cons (Ren.int _ _) (Rens.cons (Ren.int _ _) (Rens.nil))))⟩, .inr ⟨_, rfl, rfl, Rens.cons (Ren.int _ _) (Rens.cons (Ren.lst _ _ _) (Rens.nil))⟩, rfl, rfl, rfl, rfl, .inr ⟨_, rfl, rfl, Rens.cons (Ren.int _ _) (Rens.cons (Ren.lst _ _ _) (Rens.nil))⟩, trivial⟩
            refine tC ?_ ?_
            · refine cI rfl rfl (o_bs1 (v := .agg _) (q := 6) tt22 tt25 rfl rfl rfl rfl rfl rfl rfl rfl ?_)
              refine tL ?_
              refine cS rfl rfl (o_apR (p := 7) (q := (madeM ((2 : Int) + (pickM n (7 : Int))) x).length) tt22 tt25 rfl rfl (src_lst (enc25.wd true) _ _ rfl) (encL_length (enc25.wd true) _) rfl rfl (by simpa using s12) rfl (Nat.zero_add _) (List.nil_append _) ?_)
              refine cS rfl rfl (o_apR (p := 8) (q := ((madeM ((2 : Int) + (pickM n (7 : Int))) x) ++ [(lat (madeM ((2 : Int) + (pickM n (7 : Int))) [one]) (0 : Int))]).length) tt22 tt25 rfl rfl (src_ref rfl rfl) rfl rfl (encL_length (enc25.wd false) _) (Nat.le_trans (Nat.le_of_eq (@List.length_append _ (madeM ((2 : Int) + (pickM n (7 : Int))) x) ([(lat (madeM ((2 : Int) + (pickM n (7 : Int))) [one]) (0 : Int))])).symm) s13) rfl (@List.length_append _ (madeM ((2 : Int) + (pickM n (7 : Int))) x) ([(lat (madeM ((2 : Int) + (pickM n (7 : Int))) [one]) (0 : Int))])).symm (encL_app e25 (madeM ((2 : Int) + (pickM n (7 : Int))) x) [(lat (madeM ((2 : Int) + (pickM n (7 : Int))) [one]) (0 : Int))]) ?_)
              refine cS rfl rfl (o_callP1 (k := 15) (fst := []) (caps := []) (ys := [.int _ _, .ref _ _ _]) rfl rfl (spec_close ((2 : Int) + (pickM n (7 : Int))) ((madeM ((2 : Int) + (pickM n (7 : Int))) x) ++ [(lat (madeM ((2 : Int) + (pickM n (7 : Int))) [one]) (0 : Int))]) s13) (Wks.cons (ag_int _ _ _ _) (Wks.cons (ag_ref (fl := false) (xs := (madeM ((2 : Int) + (pickM n (7 : Int))) x) ++ [(lat (madeM ((2 : Int) + (pickM n (7 : Int))) [one]) (0 : Int))]) enc25 4 _ rfl rfl) (Wks.refl _))) ?_)
              refine cS rfl rfl (o_move (v := .tup _) rfl ?_)
              refine cS rfl rfl (o_ext (v := .agg _) rfl rfl ?_)
              refine cS rfl rfl (o_ext (v := .lst _ _ _) rfl rfl ?_)
              refine cS rfl rfl (o_ext (v := .int _ _) rfl rfl ?_)
              refine cSn rfl (o_stB (v := .agg _) (vs := [.int _ _, .lst _ _ _]) (cs2 := [.int _ _, .lst _ _ _]) tt34 rfl rfl rfl rfl rfl (Nat.le_of_ble_eq_true rfl) rfl ?_)
              refine cS rfl rfl (o_assign (v := .lst _ _ _) rfl ?_)
              refine cS rfl rfl (o_assign (v := .int _ _) rfl ?_)
              refine eS ?_
              exact St.to_mk (φ := [none, none, some 2, some 3, none, none, none, none, some 4]) rfl (.inl rfl) ⟨Ren.int _ _, Ren.ptr rfl, Ren.ptr rfl, Ren.int _ _, Ren.ptr rfl, Ren.int _ _, trivial⟩ ⟨rfl, rfl, .inr ⟨_, rfl, rfl, Rens.cons (Ren.int _ _) (Rens.cons (Ren.int _ _) (Rens.cons (Ren.int _ _) (Rens.cons (Ren.int _ _) (Rens.nil))))⟩, .inr ⟨_, rfl, rfl, Rens.cons (Ren.int _ _) (Rens.cons (Ren.lst _ _ _) (Rens.nil))⟩, rfl, rfl, rfl, rfl, .inr ⟨_, rfl, rfl, Rens.cons (Ren.int _ _) (Rens.cons (Ren.lst _ _ _) (Rens.nil))⟩, trivial⟩
            exact tE
          refine tC ?_ ?_
          · refine cI rfl rfl (o_bs1 (v := .agg _) (q := 5) tt22 tt25 rfl rfl rfl rfl rfl rfl rfl rfl ?_)
            refine tL ?_
            refine cS rfl rfl (o_buildS (q := 6) (qs := []) (cs := []) tt22 tt25 rfl rfl rfl rfl ?_)
            refine cS rfl rfl (o_apR (p := 7) (q := (madeM ((2 : Int) + (pickM n (7 : Int))) x).length) tt22 tt25 rfl rfl (src_lst (enc25.wd true) _ _ rfl) (encL_length (enc25.wd true) _) rfl rfl (by simpa using s12) rfl (Nat.zero_add _) (List.nil_append _) ?_)
            refine cS rfl rfl (o_apR (p := 8) (q := ((madeM ((2 : Int) + (pickM n (7 : Int))) x) ++ [(lat (madeM ((2 : Int) + (pickM n (7 : Int))) [one]) (0 : Int))]).length) tt22 tt25 rfl rfl (src_ref rfl rfl) rfl rfl (encL_length (enc25.wd false) _) (Nat.le_trans (Nat.le_of_eq (@List.length_append _ (madeM ((2 : Int) + (pickM n (7 : Int))) x) ([(lat (madeM ((2 : Int) + (pickM n (7 : Int))) [one]) (0 : Int))])).symm) s13) rfl (@List.length_append _ (madeM ((2 : Int) + (pickM n (7 : Int))) x) ([(lat (madeM ((2 : Int) + (pickM n (7 : Int))) [one]) (0 : Int))])).symm (encL_app e25 (madeM ((2 : Int) + (pickM n (7 : Int))) x) [(lat (madeM ((2 : Int) + (pickM n (7 : Int))) [one]) (0 : Int))]) ?_)
            refine cS rfl rfl (o_callP1 (k := 15) (fst := []) (caps := []) (ys := [.int _ _, .ref _ _ _]) rfl rfl (spec_close ((2 : Int) + (pickM n (7 : Int))) ((madeM ((2 : Int) + (pickM n (7 : Int))) x) ++ [(lat (madeM ((2 : Int) + (pickM n (7 : Int))) [one]) (0 : Int))]) s13) (Wks.cons (ag_int _ _ _ _) (Wks.cons (ag_ref (fl := false) (xs := (madeM ((2 : Int) + (pickM n (7 : Int))) x) ++ [(lat (madeM ((2 : Int) + (pickM n (7 : Int))) [one]) (0 : Int))]) enc25 4 _ rfl rfl) (Wks.refl _))) ?_)
            refine cS rfl rfl (o_move (v := .tup _) rfl ?_)
            refine cS rfl rfl (o_ext (v := .agg _) rfl rfl ?_)
            refine cS rfl rfl (o_ext (v := .lst _ _ _) rfl rfl ?_)
            refine cS rfl rfl (o_ext (v := .int _ _) rfl rfl ?_)
            refine cSn rfl (o_stB (v := .agg _) (vs := [.int _ _, .lst _ _ _]) (cs2 := [.int _ _, .lst _ _ _]) tt34 rfl rfl rfl rfl rfl (Nat.le_of_ble_eq_true rfl) rfl ?_)
            refine cS rfl rfl (o_assign (v := .lst _ _ _) rfl ?_)
            refine cS rfl rfl (o_assign (v := .int _ _) rfl ?_)
            refine eS ?_
            exact St.to_mk (φ := [none, none, some 2, some 3, none, none, none, none, some 4]) rfl (.inl rfl) ⟨Ren.int _ _, Ren.ptr rfl, Ren.ptr rfl, Ren.int _ _, Ren.ptr rfl, Ren.int _ _, trivial⟩ ⟨rfl, rfl, .inr ⟨_, rfl, rfl, Rens.cons (Ren.int _ _) (Rens.cons (Ren.int _ _) (Rens.cons (Ren.int _ _) (Rens.cons (Ren.int _ _) (Rens.nil))))⟩, .inr ⟨_, rfl, rfl, Rens.cons (Ren.int _ _) (Rens.cons (Ren.lst _ _ _) (Rens.nil))⟩, rfl, rfl, rfl, rfl, .inr ⟨_, rfl, rfl, Rens.cons (Ren.int _ _) (Rens.cons (Ren.lst _ _ _) (Rens.nil))⟩, trivial⟩
          exact tE
        exact tE
      refine tC ?_ ?_
      · refine cI rfl rfl (o_alloc (p := 4) tt34 rfl rfl ?_)
        refine tN ?_
        refine eS ?_
        refine tC ?_ ?_
        · refine cI rfl rfl (o_buildS (q := 5) (qs := []) (cs := []) tt22 tt25 rfl rfl rfl rfl ?_)
          refine tN ?_
          refine eS ?_
          refine tC ?_ ?_
          · refine cI rfl rfl (o_apR (p := 6) (q := (madeM ((2 : Int) + (pickM n (7 : Int))) x).length) tt22 tt25 rfl rfl (src_lst (enc25.wd true) _ _ rfl) (encL_length (enc25.wd true) _) rfl rfl (by simpa using s12) rfl (Nat.zero_add _) (List.nil_append _) ?_)
            refine tL ?_
            refine cS rfl rfl (o_ldA (cs := [.int _ _, .int _ _, .int _ _, .int _ _]) tt25 rfl rfl ⟨_, rfl⟩ rfl ?_)
            refine cS rfl rfl (o_bs1 (v := .agg _) (q := 7) tt22 tt25 rfl rfl rfl rfl rfl rfl rfl rfl ?_)
            refine cS rfl rfl (o_apR (p := 8) (q := ((madeM ((2 : Int) + (pickM n (7 : Int))) x) ++ [(lat (madeM ((2 : Int) + (pickM n (7 : Int))) [one]) (0 : Int))]).length) tt22 tt25 rfl rfl (src_ref rfl rfl) rfl rfl (encL_length (enc25.wd false) _) (Nat.le_trans (Nat.le_of_eq (@List.length_append _ (madeM ((2 : Int) + (pickM n (7 : Int))) x) ([(lat (madeM ((2 : Int) + (pickM n (7 : Int))) [one]) (0 : Int))])).symm) s13) rfl (@List.length_append _ (madeM ((2 : Int) + (pickM n (7 : Int))) x) ([(lat (madeM ((2 : Int) + (pickM n (7 : Int))) [one]) (0 : Int))])).symm (encL_app e25 (madeM ((2 : Int) + (pickM n (7 : Int))) x) [(lat (madeM ((2 : Int) + (pickM n (7 : Int))) [one]) (0 : Int))]) ?_)
            refine cS rfl rfl (o_callP1 (k := 15) (fst := []) (caps := []) (ys := [.int _ _, .ref _ _ _]) rfl rfl (spec_close ((2 : Int) + (pickM n (7 : Int))) ((madeM ((2 : Int) + (pickM n (7 : Int))) x) ++ [(lat (madeM ((2 : Int) + (pickM n (7 : Int))) [one]) (0 : Int))]) s13) (Wks.cons (ag_int _ _ _ _) (Wks.cons (ag_ref (fl := false) (xs := (madeM ((2 : Int) + (pickM n (7 : Int))) x) ++ [(lat (madeM ((2 : Int) + (pickM n (7 : Int))) [one]) (0 : Int))]) enc25 4 _ rfl rfl) (Wks.refl _))) ?_)
            refine cS rfl rfl (o_move (v := .tup _) rfl ?_)
            refine cS rfl rfl (o_ext (v := .agg _) rfl rfl ?_)
            refine cS rfl rfl (o_ext (v := .lst _ _ _) rfl rfl ?_)
            refine cS rfl rfl (o_ext (v := .int _ _) rfl rfl ?_)
            refine cSn rfl (o_stB (v := .agg _) (vs := [.int _ _, .lst _ _ _]) (cs2 := [.int _ _, .lst _ _ _]) tt34 rfl rfl rfl rfl rfl (Nat.le_of_ble_eq_true rfl) rfl ?_)
            refine cS rfl rfl (o_assign (v := .lst _ _ _) rfl ?_)
            refine cS rfl rfl (o_assign (v := .int _ _) rfl ?_)
            refine eS ?_
            exact St.to_mk (φ := [none, none, some 2, some 3, none, none, none, none, some 4]) rfl (.inl rfl) ⟨Ren.int _ _, Ren.ptr rfl, Ren.ptr rfl, Ren.int _ _, Ren.ptr rfl, Ren.int _ _, trivial⟩ ⟨rfl, rfl, .inr ⟨_, rfl, rfl, Rens.cons (Ren.int _ _) (Rens.cons (Ren.int _ _) (Rens.cons (Ren.int _ _) (Rens.cons (Ren.int _ _) (Rens.nil))))⟩, .inr ⟨_, rfl, rfl, Rens.cons (Ren.int _ _) (Rens.cons (Ren.lst _ _ _) (Rens.nil))⟩, rfl, rfl, rfl, rfl, .inr ⟨_, rfl, rfl, Rens.cons (Ren.int _ _) (Rens.cons (Ren.lst _ _ _) (Rens.nil))⟩, trivial⟩
          refine tC ?_ ?_
          · refine cI rfl rfl (o_ldA (cs := [.int _ _, .int _ _, .int _ _, .int _ _]) tt25 rfl rfl ⟨_, rfl⟩ rfl ?_)
            refine tN ?_
            refine eS ?_
            refine tC ?_ ?_
            · refine cI rfl rfl (o_apR (p := 6) (q := (madeM ((2 : Int) + (pickM n (7 : Int))) x).length) tt22 tt25 rfl rfl (src_lst (enc25.wd true) _ _ rfl) (encL_length (enc25.wd true) _) rfl rfl (by simpa using s12) rfl (Nat.zero_add _) (List.nil_append _) ?_)
              refine tL ?_
              refine cS rfl rfl (o_bs1 (v := .agg _) (q := 7) tt22 tt25 rfl rfl rfl rfl rfl rfl rfl rfl ?_)
              refine cS rfl rfl (o_apR (p := 8) (q := ((madeM ((2 : Int) + (pickM n (7 : Int))) x) ++ [(lat (madeM ((2 : Int) + (pickM n (7 : Int))) [one]) (0 : Int))]).length) tt22 tt25 rfl rfl (src_ref rfl rfl) rfl rfl (encL_length (enc25.wd false) _) (Nat.le_trans (Nat.le_of_eq (@List.length_append _ (madeM ((2 : Int) + (pickM n (7 : Int))) x) ([(lat (madeM ((2 : Int) + (pickM n (7 : Int))) [one]) (0 : Int))])).symm) s13) rfl (@List.length_append _ (madeM ((2 : Int) + (pickM n (7 : Int))) x) ([(lat (madeM ((2 : Int) + (pickM n (7 : Int))) [one]) (0 : Int))])).symm (encL_app e25 (madeM ((2 : Int) + (pickM n (7 : Int))) x) [(lat (madeM ((2 : Int) + (pickM n (7 : Int))) [one]) (0 : Int))]) ?_)
              refine cS rfl rfl (o_callP1 (k := 15) (fst := []) (caps := []) (ys := [.int _ _, .ref _ _ _]) rfl rfl (spec_close ((2 : Int) + (pickM n (7 : Int))) ((madeM ((2 : Int) + (pickM n (7 : Int))) x) ++ [(lat (madeM ((2 : Int) + (pickM n (7 : Int))) [one]) (0 : Int))]) s13) (Wks.cons (ag_int _ _ _ _) (Wks.cons (ag_ref (fl := false) (xs := (madeM ((2 : Int) + (pickM n (7 : Int))) x) ++ [(lat (madeM ((2 : Int) + (pickM n (7 : Int))) [one]) (0 : Int))]) enc25 4 _ rfl rfl) (Wks.refl _))) ?_)
              refine cS rfl rfl (o_move (v := .tup _) rfl ?_)
              refine cS rfl rfl (o_ext (v := .agg _) rfl rfl ?_)
              refine cS rfl rfl (o_ext (v := .lst _ _ _) rfl rfl ?_)
              refine cS rfl rfl (o_ext (v := .int _ _) rfl rfl ?_)
              refine cSn rfl (o_stB (v := .agg _) (vs := [.int _ _, .lst _ _ _]) (cs2 := [.int _ _, .lst _ _ _]) tt34 rfl rfl rfl rfl rfl (Nat.le_of_ble_eq_true rfl) rfl ?_)
              refine cS rfl rfl (o_assign (v := .lst _ _ _) rfl ?_)
              refine cS rfl rfl (o_assign (v := .int _ _) rfl ?_)
              refine eS ?_
              exact St.to_mk (φ := [none, none, some 2, some 3, none, none, none, none, some 4]) rfl (.inl rfl) ⟨Ren.int _ _, Ren.ptr rfl, Ren.ptr rfl, Ren.int _ _, Ren.ptr rfl, Ren.int _ _, trivial⟩ ⟨rfl, rfl, .inr ⟨_, rfl, rfl, Rens.cons (Ren.int _ _) (Rens.cons (Ren.int _ _) (Rens.cons (Ren.int _ _) (Rens.cons (Ren.int _ _) (Rens.nil))))⟩, .inr ⟨_, rfl, rfl, Rens.cons (Ren.int _ _) (Rens.cons (Ren.lst _ _ _) (Rens.nil))⟩, rfl, rfl, rfl, rfl, .inr ⟨_, rfl, rfl, Rens.cons (Ren.int _ _) (Rens.cons (Ren.lst _ _ _) (Rens.nil))⟩, trivial⟩
            refine tC ?_ ?_
            · refine cI rfl rfl (o_bs1 (v := .agg _) (q := 6) tt22 tt25 rfl rfl rfl rfl rfl rfl rfl rfl ?_)
              refine tL ?_
              refine cS rfl rfl (o_apR (p := 7) (q := (madeM ((2 : Int) + (pickM n (7 : Int))) x).length) tt22 tt25 rfl rfl (src_lst (enc25.wd true) _ _ rfl) (encL_length (enc25.wd true) _) rfl rfl (by simpa using s12) rfl (Nat.zero_add _) (List.nil_append _) ?_)
              refine cS rfl rfl (o_apR (p := 8) (q := ((madeM ((2 : Int) + (pickM n (7 : Int))) x) ++ [(lat (madeM ((2 : Int) + (pickM n (7 : Int))) [one]) (0 : Int))]).length) tt22 tt25 rfl rfl (src_ref rfl rfl) rfl rfl (encL_length (enc25.wd false) _) (Nat.le_trans (Nat.le_of_eq (@List.length_append _ (madeM ((2 : Int) + (pickM n (7 : Int))) x) ([(lat (madeM ((2 : Int) + (pickM n (7 : Int))) [one]) (0 : Int))])).symm) s13) rfl (@List.length_append _ (madeM ((2 : Int) + (pickM n (7 : Int))) x) ([(lat (madeM ((2 : Int) + (pickM n (7 : Int))) [one]) (0 : Int))])).symm (encL_app e25 (madeM ((2 : Int) + (pickM n (7 : Int))) x) [(lat (madeM ((2 : Int) + (pickM n (7 : Int))) [one]) (0 : Int))]) ?_)
              refine cS rfl rfl (o_callP1 (k := 15) (fst := []) (caps := []) (ys := [.int _ _, .ref _ _ _]) rfl rfl (spec_close ((2 : Int) + (pickM n (7 : Int))) ((madeM ((2 : Int) + (pickM n (7 : Int))) x) ++ [(lat (madeM ((2 : Int) + (pickM n (7 : Int))) [one]) (0 : Int))]) s13) (Wks.cons (ag_int _ _ _ _) (Wks.cons (ag_ref (fl := false) (xs := (madeM ((2 : Int) + (pickM n (7 : Int))) x) ++ [(lat (madeM ((2 : Int) + (pickM n (7 : Int))) [one]) (0 : Int))]) enc25 4 _ rfl rfl) (Wks.refl _))) ?_)
              refine cS rfl rfl (o_move (v := .tup _) rfl ?_)
              refine cS rfl rfl (o_ext (v := .agg _) rfl rfl ?_)
              refine cS rfl rfl (o_ext (v := .lst _ _ _) rfl rfl ?_)
              refine cS rfl rfl (o_ext (v := .int _ _) rfl rfl ?_)
              refine cSn rfl (o_stB (v := .agg _) (vs := [.int _ _, .lst _ _ _]) (cs2 := [.int _ _, .lst _ _ _]) tt34 rfl rfl rfl rfl rfl (Nat.le_of_ble_eq_true rfl) rfl ?_)
              refine cS rfl rfl (o_assign (v := .lst _ _ _) rfl ?_)
              refine cS rfl rfl (o_assign (v := .int _ _) rfl ?_)
              refine eS ?_
              exact St.to_mk (φ := [none, none, some 2, some 3, none, none, none, none, some 4]) rfl (.inl rfl) ⟨Ren.int _ _, Ren.ptr rfl, Ren.ptr rfl, Ren.int _ _, Ren.ptr rfl, Ren.int _ _, trivial⟩ ⟨rfl, rfl, .inr ⟨_, rfl, rfl, Rens.cons (Ren.int _ _) (Rens.cons (Ren.int _ _) (Rens.cons (Ren.int _ _) (Rens.cons (Ren.int _ _) (Rens.nil))))⟩, .inr ⟨_, rfl, rfl, Rens.cons (Ren.int _ _) (Rens.cons (Ren.lst _ _ _) (Rens.nil))⟩, rfl, rfl, rfl, rfl, .inr ⟨_, rfl, rfl, Rens.cons (Ren.int _ _) (Rens.cons (Ren.lst _ _ _) (Rens.nil))⟩, trivial⟩
            exact tE
          exact tE
        refine tC ?_ ?_
        · refine cI rfl rfl (o_ldA (cs := [.int _ _, .int _ _, .int _ _, .int _ _]) tt25 rfl rfl ⟨_, rfl⟩ rfl ?_)
          refine tN ?_
          refine eS ?_
          refine tC ?_ ?_
          · refine cI rfl rfl (o_buildS (q := 5) (qs := []) (cs := []) tt22 tt25 rfl rfl rfl rfl ?_)
            refine tN ?_
            refine eS ?_
            refine tC ?_ ?_
            · refine cI rfl rfl (o_apR (p := 6) (q := (madeM ((2 : Int) + (pickM n (7 : Int))) x).length) tt22 tt25 rfl rfl (src_lst (enc25.wd true) _ _ rfl) (encL_length (enc25.wd true) _) rfl rfl (by simpa using s12) rfl (Nat.zero_add _) (List.nil_append _) ?_)
              refine tL ?_
              refine cS rfl rfl (o_bs1 (v := .agg _) (q := 7) tt22 tt25 rfl rfl rfl rfl rfl rfl rfl rfl ?_)
              refine cS rfl rfl (o_apR (p := 8) (q := ((madeM ((2 : Int) + (pickM n (7 : Int))) x) ++ [(lat (madeM ((2 : Int) + (pickM n (7 : Int))) [one]) (0 : Int))]).length) tt22 tt25 rfl rfl (src_ref rfl rfl) rfl rfl (encL_length (enc25.wd false) _) (Nat.le_trans (Nat.le_of_eq (@List.length_append _ (madeM ((2 : Int) + (pickM n (7 : Int))) x) ([(lat (madeM ((2 : Int) + (pickM n (7 : Int))) [one]) (0 : Int))])).symm) s13) rfl (@List.length_append _ (madeM ((2 : Int) + (pickM n (7 : Int))) x) ([(lat (madeM ((2 : Int) + (pickM n (7 : Int))) [one]) (0 : Int))])).symm (encL_app e25 (madeM ((2 : Int) + (pickM n (7 : Int))) x) [(lat (madeM ((2 : Int) + (pickM n (7 : Int))) [one]) (0 : Int))]) ?_)
              refine cS rfl rfl (o_callP1 (k := 15) (fst := []) (caps := []) (ys := [.int _ _, .ref _ _ _]) rfl rfl (spec_close ((2 : Int) + (pickM n (7 : Int))) ((madeM ((2 : Int) + (pickM n (7 : Int))) x) ++ [(lat (madeM ((2 : Int) + (pickM n (7 : Int))) [one]) (0 : Int))]) s13) (Wks.cons (ag_int _ _ _ _) (Wks.cons (ag_ref (fl := false) (xs := (madeM ((2 : Int) + (pickM n (7 : Int))) x) ++ [(lat (madeM ((2 : Int) + (pickM n (7 : Int))) [one]) (0 : Int))]) enc25 4 _ rfl rfl) (Wks.refl _))) ?_)
              refine cS rfl rfl (o_move (v := .tup _) rfl ?_)
              refine cS rfl rfl (o_ext (v := .agg _) rfl rfl ?_)
              refine cS rfl rfl (o_ext (v := .lst _ _ _) rfl rfl ?_)
              refine cS rfl rfl (o_ext (v := .int _ _) rfl rfl ?_)
              refine cSn rfl (o_stB (v := .agg _) (vs := [.int _ _, .lst _ _ _]) (cs2 := [.int _ _, .lst _ _ _]) tt34 rfl rfl rfl rfl rfl (Nat.le_of_ble_eq_true rfl) rfl ?_)
              refine cS rfl rfl (o_assign (v := .lst _ _ _) rfl ?_)
              refine cS rfl rfl (o_assign (v := .int _ _) rfl ?_)
              refine eS ?_
              exact St.to_mk (φ := [none, none, some 2, some 3, none, none, none, none, some 4]) rfl (.inl rfl) ⟨Ren.int _ _, Ren.ptr rfl, Ren.ptr rfl, Ren.int _ _, Ren.ptr rfl, Ren.int _ _, trivial⟩ ⟨rfl, rfl, .inr ⟨_, rfl, rfl, Rens.cons (Ren.int _ _) (Rens.cons (Ren.int _ _) (Rens.cons (Ren.int _ _) (Rens.cons (Ren.int _ _) (Rens.nil))))⟩, .inr ⟨_, rfl, rfl, Rens.cons (Ren.int _ _) (Rens.cons (Ren.lst _ _ _) (Rens.nil))⟩, rfl, rfl, rfl, rfl, .inr ⟨_, rfl, rfl, Rens.cons (Ren.int _ _) (Rens.cons (Ren.lst _ _ _) (Rens.nil))⟩, trivial⟩
            refine tC ?_ ?_
            · refine cI rfl rfl (o_bs1 (v := .agg _) (q := 6) tt22 tt25 rfl rfl rfl rfl rfl rfl rfl rfl ?_)
              refine tL ?_
              refine cS rfl rfl (o_apR (p := 7) (q := (madeM ((2 : Int) + (pickM n (7 : Int))) x).length) tt22 tt25 rfl rfl (src_lst (enc25.wd true) _ _ rfl) (encL_length (enc25.wd true) _) rfl rfl (by simpa using s12) rfl (Nat.zero_add _) (List.nil_append _) ?_)
              refine cS rfl rfl (o_apR (p := 8) (q := ((madeM ((2 : Int) + (pickM n (7 : Int))) x) ++ [(lat (madeM ((2 : Int) + (pickM n (7 : Int))) [one]) (0 : Int))]).length) tt22 tt25 rfl rfl (src_ref rfl rfl) rfl rfl (encL_length (enc25.wd false) _) (Nat.le_trans (Nat.le_of_eq (@List.length_append _ (madeM ((2 : Int) + (pickM n (7 : Int))) x) ([(lat (madeM ((2 : Int) + (pickM n (7 : Int))) [one]) (0 : Int))])).symm) s13) rfl (@List.length_append _ (madeM ((2 : Int) + (pickM n (7 : Int))) x) ([(lat (madeM ((2 : Int) + (pickM n (7 : Int))) [one]) (0 : Int))])).symm (encL_app e25 (madeM ((2 : Int) + (pickM n (7 : Int))) x) [(lat (madeM ((2 : Int) + (pickM n (7 : Int))) [one]) (0 : Int))]) ?_)
              refine cS rfl rfl (o_callP1 (k := 15) (fst := []) (caps := []) (ys := [.int _ _, .ref _ _ _]) rfl rfl (spec_close ((2 : Int) + (pickM n (7 : Int))) ((madeM ((2 : Int) + (pickM n (7 : Int))) x) ++ [(lat (madeM ((2 : Int) + (pickM n (7 : Int))) [one]) (0 : Int))]) s13) (Wks.cons (ag_int _ _ _ _) (Wks.cons (ag_ref (fl := false) (xs := (madeM ((2 : Int) + (pickM n (7 : Int))) x) ++ [(lat (madeM ((2 : Int) + (pickM n (7 : Int))) [one]) (0 : Int))]) enc25 4 _ rfl rfl) (Wks.refl _))) ?_)
              refine cS rfl rfl (o_move (v := .tup _) rfl ?_)
              refine cS rfl rfl (o_ext (v := .agg _) rfl rfl ?_)
              refine cS rfl rfl (o_ext (v := .lst _ _ _) rfl rfl ?_)
              refine cS rfl rfl (o_ext (v := .int _ _) rfl rfl ?_)
              refine cSn rfl (o_stB (v := .agg _) (vs := [.int _ _, .lst _ _ _]) (cs2 := [.int _ _, .lst _ _ _]) tt34 rfl rfl rfl rfl rfl (Nat.le_of_ble_eq_true rfl) rfl ?_)
              refine cS rfl rfl (o_assign (v := .lst _ _ _) rfl ?_)
              refine cS rfl rfl (o_assign (v := .int _ _) rfl ?_)
              refine eS ?_
              exact St.to_mk (φ := [none, none, some 2, some 3, none, none, none, none, some 4]) rfl (.inl rfl) ⟨Ren.int _ _, Ren.ptr rfl, Ren.ptr rfl, Ren.int _ _, Ren.ptr rfl, Ren.int _ _, trivial⟩ ⟨rfl, rfl, .inr ⟨_, rfl, rfl, Rens.cons (Ren.int _ _) (Rens.cons (Ren.int _ _) (Rens.cons (Ren.int _ _) (Rens.cons (Ren.int _ _) (Rens.nil))))⟩, .inr ⟨_, rfl, rfl, Rens.cons (Ren.int _ _) (Rens.cons (Ren.lst _ _ _) (Rens.nil))⟩, rfl, rfl, rfl, rfl, .inr ⟨_, rfl, rfl, Rens.cons (Ren.int _ _) (Rens.cons (Ren.lst _ _ _) (Rens.nil))⟩, trivial⟩
            exact tE
          refine tC ?_ ?_
          · refine cI rfl rfl (o_bs1 (v := .agg _) (q := 5) tt22 tt25 rfl rfl rfl rfl rfl rfl rfl rfl ?_)
            refine tL ?_
            refine cS rfl rfl (o_buildS (q := 6) (qs := []) (cs := []) tt22 tt25 rfl rfl rfl rfl ?_)
            refine cS rfl rfl (o_apR (p := 7) (q := (madeM ((2 : Int) + (pickM n (7 : Int))) x).length) tt22 tt25 rfl rfl (src_lst (enc25.wd true) _ _ rfl) (encL_length (enc25.wd true) _) rfl rfl (by simpa using s12) rfl (Nat.zero_add _) (List.nil_append _) ?_)
            refine cS rfl rfl (o_apR (p := 8) (q := ((madeM ((2 : Int) + (pickM n (7 : Int))) x) ++ [(lat (madeM ((2 : Int) + (pickM n (7 : Int))) [one]) (0 : Int))]).length) tt22 tt25 rfl rfl (src_ref rfl rfl) rfl rfl (encL_length (enc25.wd false) _) (Nat.le_trans (Nat.le_of_eq (@List.length_append _ (madeM ((2 : Int) + (pickM n (7 : Int))) x) ([(lat (madeM ((2 : Int) + (pickM n (7 : Int))) [one]) (0 : Int))])).symm) s13) rfl (@List.length_append _ (madeM ((2 : Int) + (pickM n (7 : Int))) x) ([(lat (madeM ((2 : Int) + (pickM n (7 : Int))) [one]) (0 : Int))])).symm (encL_app e25 (madeM ((2 : Int) + (pickM n (7 : Int))) x) [(lat (madeM ((2 : Int) + (pickM n (7 : Int))) [one]) (0 : Int))]) ?_)
            refine cS rfl rfl (o_callP1 (k := 15) (fst := []) (caps := []) (ys := [.int _ _, .ref _ _ _]) rfl rfl (spec_close ((2 : Int) + (pickM n (7 : Int))) ((madeM ((2 : Int) + (pickM n (7 : Int))) x) ++ [(lat (madeM ((2 : Int) + (pickM n (7 : Int))) [one]) (0 : Int))]) s13) (Wks.cons (ag_int _ _ _ _) (Wks.cons (ag_ref (fl := false) (xs := (madeM ((2 : Int) + (pickM n (7 : Int))) x) ++ [(lat (madeM ((2 : Int) + (pickM n (7 : Int))) [one]) (0 : Int))]) enc25 4 _ rfl rfl) (Wks.refl _))) ?_)
            refine cS rfl rfl (o_move (v := .tup _) rfl ?_)
            refine cS rfl rfl (o_ext (v := .agg _) rfl rfl ?_)
            refine cS rfl rfl (o_ext (v := .lst _ _ _) rfl rfl ?_)
            refine cS rfl rfl (o_ext (v := .int _ _) rfl rfl ?_)
            refine cSn rfl (o_stB (v := .agg _) (vs := [.int _ _, .lst _ _ _]) (cs2 := [.int _ _, .lst _ _ _]) tt34 rfl rfl rfl rfl rfl (Nat.le_of_ble_eq_true rfl) rfl ?_)
            refine cS rfl rfl (o_assign (v := .lst _ _ _) rfl ?_)
            refine cS rfl rfl (o_assign (v := .int _ _) rfl ?_)
            refine eS ?_
            exact St.to_mk (φ := [none, none, some 2, some 3, none, none, none, none, some 4]) rfl (.inl rfl) ⟨Ren.int _ _, Ren.ptr rfl, Ren.ptr rfl, Ren.int _ _, Ren.ptr rfl, Ren.int _ _, trivial⟩ ⟨rfl, rfl, .inr ⟨_, rfl, rfl, Rens.cons (Ren.int _ _) (Rens.cons (Ren.int _ _) (Rens.cons (Ren.int _ _) (Rens.cons (Ren.int _ _) (Rens.nil))))⟩, .inr ⟨_, rfl, rfl, Rens.cons (Ren.int _ _) (Rens.cons (Ren.lst _ _ _) (Rens.nil))⟩, rfl, rfl, rfl, rfl, .inr ⟨_, rfl, rfl, Rens.cons (Ren.int _ _) (Rens.cons (Ren.lst _ _ _) (Rens.nil))⟩, trivial⟩
          exact tE
        exact tE
      exact tE
    · refine W.seq' ?_
      refine W.rL ?_
      refine cL rfl (o_move (v := .int _ _) rfl ?_)
      refine cL rfl (o_neI rfl rfl rfl ?_)
      refine eL ?_
      refine W.tr [(7, .int _ _), (9, .ptr _ _), (10, .ptr _ _), (12, .int _ _), (13, .ptr _ _), (15, .int _ _), (61, .bool _)] [.dead, .dead, .box _ [.int _ _, .int _ _, .int _ _, .int _ _], .box _ [.int _ _, .lst _ _ _], .dead, .dead, .dead, .dead, .box _ [.int _ _, .lst _ _ _]] ⟨rfl, rfl, rfl, rfl, rfl, rfl, rfl, trivial⟩ rfl ?_
      refine W.cn rfl (fun hc => ?_) (fun hc => ?_)
      · have hv := hv.1 hc
        refine W.rLm ⟨143, look [(6, .bool (decide (((closeM ((2 : Int) + (pickM n (7 : Int))) (madeM ((2 : Int) + (pickM n (7 : Int))) x)).2.2 = (70 : Int)) ∧ ((closeM ((2 : Int) + (pickM n (7 : Int))) ((madeM ((2 : Int) + (pickM n (7 : Int))) x) ++ [(lat (madeM ((2 : Int) + (pickM n (7 : Int))) [one]) (0 : Int))])).2.2 = (70 : Int)))))], [.dead, .dead, .box 25 [.int .i64 ((lat (madeM ((2 : Int) + (pickM n (7 : Int))) [one]) (0 : Int)).f), .int .i64 ((lat (madeM ((2 : Int) + (pickM n (7 : Int))) [one]) (0 : Int)).t), .int .i64 ((lat (madeM ((2 : Int) + (pickM n (7 : Int))) [one]) (0 : Int)).m), .int .i64 ((lat (madeM ((2 : Int) + (pickM n (7 : Int))) [one]) (0 : Int)).a)], .box 34 [.int .i64 (((closeM ((2 : Int) + (pickM n (7 : Int))) (madeM ((2 : Int) + (pickM n (7 : Int))) x)).1).n), .lst false (((closeM ((2 : Int) + (pickM n (7 : Int))) (madeM ((2 : Int) + (pickM n (7 : Int))) x)).1).most).length (encL (eSl eInt true) (((closeM ((2 : Int) + (pickM n (7 : Int))) (madeM ((2 : Int) + (pickM n (7 : Int))) x)).1).most))], .dead, .dead, .dead, .dead, .box 34 [.int .i64 (((closeM ((2 : Int) + (pickM n (7 : Int))) ((madeM ((2 : Int) + (pickM n (7 : Int))) x) ++ [(lat (madeM ((2 : Int) + (pickM n (7 : Int))) [one]) (0 : Int))])).1).n), .lst false (((closeM ((2 : Int) + (pickM n (7 : Int))) ((madeM ((2 : Int) + (pickM n (7 : Int))) x) ++ [(lat (madeM ((2 : Int) + (pickM n (7 : Int))) [one]) (0 : Int))])).1).most).length (encL (eSl eInt true) (((closeM ((2 : Int) + (pickM n (7 : Int))) ((madeM ((2 : Int) + (pickM n (7 : Int))) x) ++ [(lat (madeM ((2 : Int) + (pickM n (7 : Int))) [one]) (0 : Int))])).1).most))]], false⟩ ?_ ?_
        · refine cL rfl (o_move (v := .int _ _) rfl ?_)
          refine cL rfl (o_eqI rfl rfl rfl ?_)
          refine cL rfl (o_move (v := .bool _) rfl ?_)
          by_cases c1 : (closeM ((2 : Int) + (pickM n (7 : Int))) (madeM ((2 : Int) + (pickM n (7 : Int))) x)).2.2 = (70 : Int)
          · refine cLg rfl rfl (decide_eq_true c1) ?_
            refine cL rfl (o_move (v := .int _ _) rfl ?_)
            refine cLg rfl rfl (decide_eq_true c1) ?_
            refine cL rfl (o_eqI rfl rfl rfl ?_)
            refine cL rfl (o_pickT (v := .bool _) rfl (decide_eq_true c1) rfl ?_)
            refine cL rfl (o_assign (v := .bool _) rfl ?_)
            refine eL ?_
            exact le_mk ⟨(congrArg AV.bool (dAndT c1 (rfl))).symm, trivial⟩ rfl
          · refine cLs rfl rfl rfl (decide_eq_false c1) ?_
            refine cLs rfl rfl rfl (decide_eq_false c1) ?_
            refine cL rfl (o_pickF (v := .bool _) rfl (decide_eq_false c1) rfl ?_)
            refine cL rfl (o_assign (v := .bool _) rfl ?_)
            refine eL ?_
            exact le_mk ⟨(congrArg AV.bool (dAndF c1)).symm, trivial⟩ rfl
        · refine W.ret ?_
          refine th_ret (rt ?_)
          refine rt_t (v := .bool _) rfl ?_
          refine rt_n ?_
          exact ⟨_, rs_bool _ _ _, (decide (((closeM ((2 : Int) + (pickM n (7 : Int))) (madeM ((2 : Int) + (pickM n (7 : Int))) x)).2.2 = (70 : Int)) ∧ ((closeM ((2 : Int) + (pickM n (7 : Int))) ((madeM ((2 : Int) + (pickM n (7 : Int))) x) ++ [(lat (madeM ((2 : Int) + (pickM n (7 : Int))) [one]) (0 : Int))])).2.2 = (70 : Int)))), rfl, hv⟩
      · have hv := hv.2 hc
        refine W.skip ?_
        refine th_nrm ?_
        refine W.tr [(7, .int _ _), (9, .ptr _ _), (10, .ptr _ _), (13, .ptr _ _), (15, .int _ _)] [.dead, .dead, .box _ [.int _ _, .int _ _, .int _ _, .int _ _], .box _ [.int _ _, .lst _ _ _], .dead, .dead, .dead, .dead, .box _ [.int _ _, .lst _ _ _]] ⟨rfl, rfl, rfl, rfl, rfl, trivial⟩ rfl ?_
        refine W.rL ?_
        refine cL rfl (o_ldA (cs := [.int _ _, .lst _ _ _]) tt34 rfl rfl ⟨_, rfl⟩ rfl ?_)
        refine cL rfl (o_fa tt25 rfl tt3 rfl ?_)
        refine cL rfl (o_ldS (v := .int _ _) tt3 rfl rfl ⟨_, rfl⟩ ?_)
        refine cL rfl (o_fa tt25 rfl tt3 rfl ?_)
        refine cL rfl (o_ldS (v := .int _ _) tt3 rfl rfl ⟨_, rfl⟩ ?_)
        obtain ⟨s14, hv⟩ := hv
        obtain ⟨s15, hv⟩ := hv
        refine cL rfl (o_callP1 (k := 21) (fst := []) (caps := []) (ys := [.agg _, .int _ _, .int _ _]) rfl rfl (spec_range ((closeM ((2 : Int) + (pickM n (7 : Int))) (madeM ((2 : Int) + (pickM n (7 : Int))) x)).1) ((lat (madeM ((2 : Int) + (pickM n (7 : Int))) [one]) (0 : Int)).f) ((lat (madeM ((2 : Int) + (pickM n (7 : Int))) [one]) (0 : Int)).t) s14 s15) (Wks.cons (ag_agg 5 _ (Wks.cons (ag_int _ _ _ _) (Wks.cons (ag_lst _ _ _ _ _) (Wks.refl _)))) (Wks.cons (ag_int _ _ _ _) (Wks.cons (ag_int _ _ _ _) (Wks.refl _)))) ?_)
        refine cL rfl (o_move (v := .tup _) rfl ?_)
        refine cL rfl (o_ext (v := .int _ _) rfl rfl ?_)
        refine cL rfl (o_ext (v := .int _ _) rfl rfl ?_)
        refine cL rfl (o_ext (v := .int _ _) rfl rfl ?_)
        refine cL rfl (o_assign (v := .int _ _) rfl ?_)
        refine cL rfl (o_assign (v := .int _ _) rfl ?_)
        refine cL rfl (o_assign (v := .int _ _) rfl ?_)
        refine eL ?_
        refine W.tr [(7, .int _ _), (9, .ptr _ _), (10, .ptr _ _), (13, .ptr _ _), (15, .int _ _), (17, .int _ _), (18, .int _ _)] [.dead, .dead, .box _ [.int _ _, .int _ _, .int _ _, .int _ _], .box _ [.int _ _, .lst _ _ _], .dead, .dead, .dead, .dead, .box _ [.int _ _, .lst _ _ _]] ⟨rfl, rfl, rfl, rfl, rfl, rfl, rfl, trivial⟩ rfl ?_
        refine W.seq' ?_
        refine W.rL ?_
        refine cL rfl (o_move (v := .int _ _) rfl ?_)
        refine cL rfl (o_neI rfl rfl rfl ?_)
        refine eL ?_
        refine W.tr [(7, .int _ _), (9, .ptr _ _), (10, .ptr _ _), (13, .ptr _ _), (15, .int _ _), (17, .int _ _), (79, .bool _)] [.dead, .dead, .box _ [.int _ _, .int _ _, .int _ _, .int _ _], .box _ [.int _ _, .lst _ _ _], .dead, .dead, .dead, .dead, .box _ [.int _ _, .lst _ _ _]] ⟨rfl, rfl, rfl, rfl, rfl, rfl, rfl, trivial⟩ rfl ?_
        refine W.cn rfl (fun hc => ?_) (fun hc => ?_)
        · have hv := hv.1 hc
          refine W.rL ?_
          refine cL rfl (o_assign (v := .bool _) rfl ?_)
          refine eL ?_
          refine W.tr [(6, .bool _)] [.dead, .dead, .box _ [.int _ _, .int _ _, .int _ _, .int _ _], .box _ [.int _ _, .lst _ _ _], .dead, .dead, .dead, .dead, .box _ [.int _ _, .lst _ _ _]] ⟨rfl, trivial⟩ rfl ?_
          refine W.ret ?_
          refine th_ret (rt ?_)
          refine rt_t (v := .bool _) rfl ?_
          refine rt_n ?_
          exact ⟨_, rs_bool _ _ _, false, rfl, hv⟩
        · have hv := hv.2 hc
          refine W.skip ?_
          refine th_nrm ?_
          refine W.tr [(7, .int _ _), (9, .ptr _ _), (10, .ptr _ _), (13, .ptr _ _), (15, .int _ _), (17, .int _ _)] [.dead, .dead, .box _ [.int _ _, .int _ _, .int _ _, .int _ _], .box _ [.int _ _, .lst _ _ _], .dead, .dead, .dead, .dead, .box _ [.int _ _, .lst _ _ _]] ⟨rfl, rfl, rfl, rfl, rfl, rfl, trivial⟩ rfl ?_
          refine W.seq' ?_
          refine W.rL ?_
          refine cL rfl (o_fa tt25 rfl tt3 rfl ?_)
          refine cL rfl (o_ldS (v := .int _ _) tt3 rfl rfl ⟨_, rfl⟩ ?_)
          refine cL rfl (o_move (v := .int _ _) rfl ?_)
          refine cL rfl (o_geq rfl rfl ?_)
          refine eL ?_
          refine W.tr [(7, .int _ _), (10, .ptr _ _), (13, .ptr _ _), (15, .int _ _), (83, .bool _)] [.dead, .dead, .box _ [.int _ _, .int _ _, .int _ _, .int _ _], .box _ [.int _ _, .lst _ _ _], .dead, .dead, .dead, .dead, .box _ [.int _ _, .lst _ _ _]] ⟨rfl, rfl, rfl, rfl, rfl, trivial⟩ rfl ?_
          refine W.cn rfl (fun hc => ?_) (fun hc => ?_)
          · have hv := hv.1 hc
            obtain ⟨sd, hv⟩ := hv
            refine W.rLm ⟨143, look [(6, .bool (decide (((closeM ((2 : Int) + (pickM n (7 : Int))) ((madeM ((2 : Int) + (pickM n (7 : Int))) x) ++ [(lat (madeM ((2 : Int) + (pickM n (7 : Int))) [one]) (0 : Int))])).2.2 = (0 : Int)) ∧ ((sameM ((closeM ((2 : Int) + (pickM n (7 : Int))) (madeM ((2 : Int) + (pickM n (7 : Int))) x)).1) ((closeM ((2 : Int) + (pickM n (7 : Int))) ((madeM ((2 : Int) + (pickM n (7 : Int))) x) ++ [(lat (madeM ((2 : Int) + (pickM n (7 : Int))) [one]) (0 : Int))])).1)) = true))))], [.dead, .dead, .box 25 [.int .i64 ((lat (madeM ((2 : Int) + (pickM n (7 : Int))) [one]) (0 : Int)).f), .int .i64 ((lat (madeM ((2 : Int) + (pickM n (7 : Int))) [one]) (0 : Int)).t), .int .i64 ((lat (madeM ((2 : Int) + (pickM n (7 : Int))) [one]) (0 : Int)).m), .int .i64 ((lat (madeM ((2 : Int) + (pickM n (7 : Int))) [one]) (0 : Int)).a)], .box 34 [.int .i64 (((closeM ((2 : Int) + (pickM n (7 : Int))) (madeM ((2 : Int) + (pickM n (7 : Int))) x)).1).n), .lst false (((closeM ((2 : Int) + (pickM n (7 : Int))) (madeM ((2 : Int) + (pickM n (7 : Int))) x)).1).most).length (encL (eSl eInt true) (((closeM ((2 : Int) + (pickM n (7 : Int))) (madeM ((2 : Int) + (pickM n (7 : Int))) x)).1).most))], .dead, .dead, .dead, .dead, .box 34 [.int .i64 (((closeM ((2 : Int) + (pickM n (7 : Int))) ((madeM ((2 : Int) + (pickM n (7 : Int))) x) ++ [(lat (madeM ((2 : Int) + (pickM n (7 : Int))) [one]) (0 : Int))])).1).n), .lst false (((closeM ((2 : Int) + (pickM n (7 : Int))) ((madeM ((2 : Int) + (pickM n (7 : Int))) x) ++ [(lat (madeM ((2 : Int) + (pickM n (7 : Int))) [one]) (0 : Int))])).1).most).length (encL (eSl eInt true) (((closeM ((2 : Int) + (pickM n (7 : Int))) ((madeM ((2 : Int) + (pickM n (7 : Int))) x) ++ [(lat (madeM ((2 : Int) + (pickM n (7 : Int))) [one]) (0 : Int))])).1).most))]], false⟩ ?_ ?_
            · refine cL rfl (o_move (v := .int _ _) rfl ?_)
              refine cL rfl (o_eqI rfl rfl rfl ?_)
              refine cL rfl (o_move (v := .bool _) rfl ?_)
              by_cases c1 : (closeM ((2 : Int) + (pickM n (7 : Int))) ((madeM ((2 : Int) + (pickM n (7 : Int))) x) ++ [(lat (madeM ((2 : Int) + (pickM n (7 : Int))) [one]) (0 : Int))])).2.2 = (0 : Int)
              · have sd := sd.1 c1
                refine cLg rfl rfl (decide_eq_true c1) ?_
                refine cL rfl (o_ldA (cs := [.int _ _, .lst _ _ _]) tt34 rfl rfl ⟨_, rfl⟩ rfl ?_)
                refine cLg rfl rfl (decide_eq_true c1) ?_
                refine cL rfl (o_ldA (cs := [.int _ _, .lst _ _ _]) tt34 rfl rfl ⟨_, rfl⟩ rfl ?_)
                refine cLg rfl rfl (decide_eq_true c1) ?_
                obtain ⟨s22, sd⟩ := sd
                obtain ⟨s23, sd⟩ := sd
                refine cL rfl (o_callP1 (k := 27) (fst := []) (caps := []) (ys := [.agg _, .agg _]) rfl rfl (spec_same ((closeM ((2 : Int) + (pickM n (7 : Int))) (madeM ((2 : Int) + (pickM n (7 : Int))) x)).1) ((closeM ((2 : Int) + (pickM n (7 : Int))) ((madeM ((2 : Int) + (pickM n (7 : Int))) x) ++ [(lat (madeM ((2 : Int) + (pickM n (7 : Int))) [one]) (0 : Int))])).1) s22 s23) (Wks.cons (ag_agg 5 _ (Wks.cons (ag_int _ _ _ _) (Wks.cons (ag_lst _ _ _ _ _) (Wks.refl _)))) (Wks.cons (ag_agg 5 _ (Wks.cons (ag_int _ _ _ _) (Wks.cons (ag_lst _ _ _ _ _) (Wks.refl _)))) (Wks.refl _))) ?_)
                refine cL rfl (o_pickT (v := .bool _) rfl (decide_eq_true c1) rfl ?_)
                refine cL rfl (o_assign (v := .bool _) rfl ?_)
                refine eL ?_
                exact le_mk ⟨(congrArg AV.bool (dAndT c1 (dVar _))).symm, trivial⟩ rfl
              · refine cLs rfl rfl rfl (decide_eq_false c1) ?_
                refine cLs rfl rfl rfl (decide_eq_false c1) ?_
                refine cLs rfl rfl rfl (decide_eq_false c1) ?_
                refine cL rfl (o_pickF (v := .bool _) rfl (decide_eq_false c1) rfl ?_)
                refine cL rfl (o_assign (v := .bool _) rfl ?_)
                refine eL ?_
                exact le_mk ⟨(congrArg AV.bool (dAndF c1)).symm, trivial⟩ rfl
            · refine W.ret ?_
              refine th_ret (rt ?_)
              refine rt_t (v := .bool _) rfl ?_
              refine rt_n ?_
              exact ⟨_, rs_bool _ _ _, (decide (((closeM ((2 : Int) + (pickM n (7 : Int))) ((madeM ((2 : Int) + (pickM n (7 : Int))) x) ++ [(lat (madeM ((2 : Int) + (pickM n (7 : Int))) [one]) (0 : Int))])).2.2 = (0 : Int)) ∧ ((sameM ((closeM ((2 : Int) + (pickM n (7 : Int))) (madeM ((2 : Int) + (pickM n (7 : Int))) x)).1) ((closeM ((2 : Int) + (pickM n (7 : Int))) ((madeM ((2 : Int) + (pickM n (7 : Int))) x) ++ [(lat (madeM ((2 : Int) + (pickM n (7 : Int))) [one]) (0 : Int))])).1)) = true))), rfl, hv⟩
          · have hv := hv.2 hc
            refine W.skip ?_
            refine th_nrm ?_
            refine W.tr [(7, .int _ _), (10, .ptr _ _), (13, .ptr _ _), (15, .int _ _)] [.dead, .dead, .box _ [.int _ _, .int _ _, .int _ _, .int _ _], .box _ [.int _ _, .lst _ _ _], .dead, .dead, .dead, .dead, .box _ [.int _ _, .lst _ _ _]] ⟨rfl, rfl, rfl, rfl, trivial⟩ rfl ?_
            refine W.seq' ?_
            refine W.rL ?_
            refine cL rfl (o_assign (v := .int _ _) rfl ?_)
            refine eL ?_
            refine W.tr [(7, .int _ _), (10, .ptr _ _), (13, .ptr _ _), (15, .int _ _), (19, .int _ _)] [.dead, .dead, .box _ [.int _ _, .int _ _, .int _ _, .int _ _], .box _ [.int _ _, .lst _ _ _], .dead, .dead, .dead, .dead, .box _ [.int _ _, .lst _ _ _]] ⟨rfl, rfl, rfl, rfl, rfl, trivial⟩ rfl ?_
            refine W.block ?_
            obtain ⟨I1, μ1, hp, hv⟩ := hv
            refine W.loop1 (fun v19 => ⟨143, look [(7, .int .i64 ((2 : Int) + (pickM n (7 : Int)))), (10, .ptr 3 0), (13, .ptr 8 0), (15, .int .i64 ((closeM ((2 : Int) + (pickM n (7 : Int))) ((madeM ((2 : Int) + (pickM n (7 : Int))) x) ++ [(lat (madeM ((2 : Int) + (pickM n (7 : Int))) [one]) (0 : Int))])).2.2)), (19, .int .i64 v19)], [.dead, .dead, .dead, .box 34 [.int .i64 (((closeM ((2 : Int) + (pickM n (7 : Int))) (madeM ((2 : Int) + (pickM n (7 : Int))) x)).1).n), .lst false (((closeM ((2 : Int) + (pickM n (7 : Int))) (madeM ((2 : Int) + (pickM n (7 : Int))) x)).1).most).length (encL (eSl eInt true) (((closeM ((2 : Int) + (pickM n (7 : Int))) (madeM ((2 : Int) + (pickM n (7 : Int))) x)).1).most))], .dead, .dead, .dead, .dead, .box 34 [.int .i64 (((closeM ((2 : Int) + (pickM n (7 : Int))) ((madeM ((2 : Int) + (pickM n (7 : Int))) x) ++ [(lat (madeM ((2 : Int) + (pickM n (7 : Int))) [one]) (0 : Int))])).1).n), .lst false (((closeM ((2 : Int) + (pickM n (7 : Int))) ((madeM ((2 : Int) + (pickM n (7 : Int))) x) ++ [(lat (madeM ((2 : Int) + (pickM n (7 : Int))) [one]) (0 : Int))])).1).most).length (encL (eSl eInt true) (((closeM ((2 : Int) + (pickM n (7 : Int))) ((madeM ((2 : Int) + (pickM n (7 : Int))) x) ++ [(lat (madeM ((2 : Int) + (pickM n (7 : Int))) [one]) (0 : Int))])).1).most))]], false⟩) I1 μ1 (0 : Int) (St.to_mk (φ := [none, none, none, some 3, none, none, none, none, some 8]) rfl (.inl rfl) ⟨Ren.int _ _, Ren.ptr rfl, Ren.ptr rfl, Ren.int _ _, Ren.int _ _, trivial⟩ ⟨rfl, rfl, rfl, .inr ⟨_, rfl, rfl, Rens.cons (Ren.int _ _) (Rens.cons (Ren.lst _ _ _) (Rens.nil))⟩, rfl, rfl, rfl, rfl, .inr ⟨_, rfl, rfl, Rens.cons (Ren.int _ _) (Rens.cons (Ren.lst _ _ _) (Rens.nil))⟩, trivial⟩) hp ?_
            clear hp
            intro v19 hI
            replace hv := hv v19 hI
            clear hI
            refine W.seq' ?_
            refine W.rLm ⟨143, look [(7, .int .i64 ((2 : Int) + (pickM n (7 : Int)))), (10, .ptr 3 0), (13, .ptr 8 0), (15, .int .i64 ((closeM ((2 : Int) + (pickM n (7 : Int))) ((madeM ((2 : Int) + (pickM n (7 : Int))) x) ++ [(lat (madeM ((2 : Int) + (pickM n (7 : Int))) [one]) (0 : Int))])).2.2)), (19, .int .i64 v19), (97, .bool (decide ((v19 < ((2 : Int) + (pickM n (7 : Int)))) ∧ ((closeM ((2 : Int) + (pickM n (7 : Int))) ((madeM ((2 : Int) + (pickM n (7 : Int))) x) ++ [(lat (madeM ((2 : Int) + (pickM n (7 : Int))) [one]) (0 : Int))])).2.2 = (0 : Int)))))], [.dead, .dead, .dead, .box 34 [.int .i64 (((closeM ((2 : Int) + (pickM n (7 : Int))) (madeM ((2 : Int) + (pickM n (7 : Int))) x)).1).n), .lst false (((closeM ((2 : Int) + (pickM n (7 : Int))) (madeM ((2 : Int) + (pickM n (7 : Int))) x)).1).most).length (encL (eSl eInt true) (((closeM ((2 : Int) + (pickM n (7 : Int))) (madeM ((2 : Int) + (pickM n (7 : Int))) x)).1).most))], .dead, .dead, .dead, .dead, .box 34 [.int .i64 (((closeM ((2 : Int) + (pickM n (7 : Int))) ((madeM ((2 : Int) + (pickM n (7 : Int))) x) ++ [(lat (madeM ((2 : Int) + (pickM n (7 : Int))) [one]) (0 : Int))])).1).n), .lst false (((closeM ((2 : Int) + (pickM n (7 : Int))) ((madeM ((2 : Int) + (pickM n (7 : Int))) x) ++ [(lat (madeM ((2 : Int) + (pickM n (7 : Int))) [one]) (0 : Int))])).1).most).length (encL (eSl eInt true) (((closeM ((2 : Int) + (pickM n (7 : Int))) ((madeM ((2 : Int) + (pickM n (7 : Int))) x) ++ [(lat (madeM ((2 : Int) + (pickM n (7 : Int))) [one]) (0 : Int))])).1).most))]], false⟩ ?_ ?_
            · refine cL rfl (o_move (v := .int _ _) rfl ?_)
              refine cL rfl (o_move (v := .int _ _) rfl ?_)
              refine cL rfl (o_lss rfl rfl ?_)
              refine cL rfl (o_move (v := .bool _) rfl ?_)
              by_cases c1 : v19 < ((2 : Int) + (pickM n (7 : Int)))
              · refine cLg rfl rfl (decide_eq_true c1) ?_
                refine cL rfl (o_move (v := .int _ _) rfl ?_)
                refine cLg rfl rfl (decide_eq_true c1) ?_
                refine cL rfl (o_eqI rfl rfl rfl ?_)
                refine cL rfl (o_pickT (v := .bool _) rfl (decide_eq_true c1) rfl ?_)
                refine eL ?_
                exact le_mk ⟨rfl, rfl, rfl, rfl, rfl, (congrArg AV.bool (dAndT c1 (rfl))).symm, trivial⟩ rfl
              · refine cLs rfl rfl rfl (decide_eq_false c1) ?_
                refine cLs rfl rfl rfl (decide_eq_false c1) ?_
                refine cL rfl (o_pickF (v := .bool _) rfl (decide_eq_false c1) rfl ?_)
                refine eL ?_
                exact le_mk ⟨rfl, rfl, rfl, rfl, rfl, (congrArg AV.bool (dAndF c1)).symm, trivial⟩ rfl
            · refine W.cn rfl (fun hc => ?_) (fun hc => ?_)
              · have hv := hv.1 hc
                refine W.skip ?_
                refine th_nrm ?_
                refine W.tr [(7, .int _ _), (10, .ptr _ _), (13, .ptr _ _), (15, .int _ _), (19, .int _ _)] [.dead, .dead, .dead, .box _ [.int _ _, .lst _ _ _], .dead, .dead, .dead, .dead, .box _ [.int _ _, .lst _ _ _]] ⟨rfl, rfl, rfl, rfl, rfl, trivial⟩ rfl ?_
                refine W.seq' ?_
                refine W.block ?_
                refine W.rL ?_
                refine cL rfl (o_assign (v := .int _ _) rfl ?_)
                refine eL ?_
                refine W.tr [(7, .int _ _), (10, .ptr _ _), (13, .ptr _ _), (15, .int _ _), (19, .int _ _), (20, .int _ _)] [.dead, .dead, .dead, .box _ [.int _ _, .lst _ _ _], .dead, .dead, .dead, .dead, .box _ [.int _ _, .lst _ _ _]] ⟨rfl, rfl, rfl, rfl, rfl, rfl, trivial⟩ rfl ?_
                refine W.block ?_
                obtain ⟨I2, μ2, hp, hv⟩ := hv
                refine W.loop1 (fun v20 => ⟨143, look [(7, .int .i64 ((2 : Int) + (pickM n (7 : Int)))), (10, .ptr 3 0), (13, .ptr 8 0), (15, .int .i64 ((closeM ((2 : Int) + (pickM n (7 : Int))) ((madeM ((2 : Int) + (pickM n (7 : Int))) x) ++ [(lat (madeM ((2 : Int) + (pickM n (7 : Int))) [one]) (0 : Int))])).2.2)), (19, .int .i64 v19), (20, .int .i64 v20)], [.dead, .dead, .dead, .box 34 [.int .i64 (((closeM ((2 : Int) + (pickM n (7 : Int))) (madeM ((2 : Int) + (pickM n (7 : Int))) x)).1).n), .lst false (((closeM ((2 : Int) + (pickM n (7 : Int))) (madeM ((2 : Int) + (pickM n (7 : Int))) x)).1).most).length (encL (eSl eInt true) (((closeM ((2 : Int) + (pickM n (7 : Int))) (madeM ((2 : Int) + (pickM n (7 : Int))) x)).1).most))], .dead, .dead, .dead, .dead, .box 34 [.int .i64 (((closeM ((2 : Int) + (pickM n (7 : Int))) ((madeM ((2 : Int) + (pickM n (7 : Int))) x) ++ [(lat (madeM ((2 : Int) + (pickM n (7 : Int))) [one]) (0 : Int))])).1).n), .lst false (((closeM ((2 : Int) + (pickM n (7 : Int))) ((madeM ((2 : Int) + (pickM n (7 : Int))) x) ++ [(lat (madeM ((2 : Int) + (pickM n (7 : Int))) [one]) (0 : Int))])).1).most).length (encL (eSl eInt true) (((closeM ((2 : Int) + (pickM n (7 : Int))) ((madeM ((2 : Int) + (pickM n (7 : Int))) x) ++ [(lat (madeM ((2 : Int) + (pickM n (7 : Int))) [one]) (0 : Int))])).1).most))]], false⟩) I2 μ2 (0 : Int) (St.to_mk (φ := [none, none, none, some 3, none, none, none, none, some 8]) rfl (.inl rfl) ⟨Ren.int _ _, Ren.ptr rfl, Ren.ptr rfl, Ren.int _ _, Ren.int _ _, Ren.int _ _, trivial⟩ ⟨rfl, rfl, rfl, .inr ⟨_, rfl, rfl, Rens.cons (Ren.int _ _) (Rens.cons (Ren.lst _ _ _) (Rens.nil))⟩, rfl, rfl, rfl, rfl, .inr ⟨_, rfl, rfl, Rens.cons (Ren.int _ _) (Rens.cons (Ren.lst _ _ _) (Rens.nil))⟩, trivial⟩) hp ?_
                clear hp
                intro v20 hI
                replace hv := hv v20 hI
                clear hI
                refine W.seq' ?_
                refine W.rL ?_
                refine cL rfl (o_move (v := .int _ _) rfl ?_)
                refine cL rfl (o_move (v := .int _ _) rfl ?_)
                refine cL rfl (o_lss rfl rfl ?_)
                refine eL ?_
                refine W.tr [(7, .int _ _), (10, .ptr _ _), (13, .ptr _ _), (15, .int _ _), (19, .int _ _), (20, .int _ _), (102, .bool _)] [.dead, .dead, .dead, .box _ [.int _ _, .lst _ _ _], .dead, .dead, .dead, .dead, .box _ [.int _ _, .lst _ _ _]] ⟨rfl, rfl, rfl, rfl, rfl, rfl, rfl, trivial⟩ rfl ?_
                refine W.cn rfl (fun hc => ?_) (fun hc => ?_)
                · have hv := hv.1 hc
                  refine W.skip ?_
                  refine th_nrm ?_
                  refine W.tr [(7, .int _ _), (10, .ptr _ _), (13, .ptr _ _), (15, .int _ _), (19, .int _ _), (20, .int _ _)] [.dead, .dead, .dead, .box _ [.int _ _, .lst _ _ _], .dead, .dead, .dead, .dead, .box _ [.int _ _, .lst _ _ _]] ⟨rfl, rfl, rfl, rfl, rfl, rfl, trivial⟩ rfl ?_
                  refine W.seq' ?_
                  refine W.block ?_
                  refine W.rL ?_
                  refine cL rfl (o_ldA (cs := [.int _ _, .lst _ _ _]) tt34 rfl rfl ⟨_, rfl⟩ rfl ?_)
                  refine cL rfl (o_move (v := .int _ _) rfl ?_)
                  refine cL rfl (o_move (v := .int _ _) rfl ?_)
                  obtain ⟨s166, hv⟩ := hv
                  obtain ⟨s167, hv⟩ := hv
                  refine cL rfl (o_callP1 (k := 21) (fst := []) (caps := []) (ys := [.agg _, .int _ _, .int _ _]) rfl rfl (spec_range ((closeM ((2 : Int) + (pickM n (7 : Int))) (madeM ((2 : Int) + (pickM n (7 : Int))) x)).1) v19 v20 s166 s167) (Wks.cons (ag_agg 5 _ (Wks.cons (ag_int _ _ _ _) (Wks.cons (ag_lst _ _ _ _ _) (Wks.refl _)))) (Wks.cons (ag_int _ _ _ _) (Wks.cons (ag_int _ _ _ _) (Wks.refl _)))) ?_)
                  refine cL rfl (o_move (v := .tup _) rfl ?_)
                  refine cL rfl (o_ext (v := .int _ _) rfl rfl ?_)
                  refine cL rfl (o_ext (v := .int _ _) rfl rfl ?_)
                  refine cL rfl (o_ext (v := .int _ _) rfl rfl ?_)
                  refine cL rfl (o_assign (v := .int _ _) rfl ?_)
                  refine cL rfl (o_assign (v := .int _ _) rfl ?_)
                  refine cL rfl (o_assign (v := .int _ _) rfl ?_)
                  refine eL ?_
                  refine W.tr [(7, .int _ _), (10, .ptr _ _), (13, .ptr _ _), (15, .int _ _), (19, .int _ _), (20, .int _ _), (21, .int _ _), (22, .int _ _), (23, .int _ _)] [.dead, .dead, .dead, .box _ [.int _ _, .lst _ _ _], .dead, .dead, .dead, .dead, .box _ [.int _ _, .lst _ _ _]] ⟨rfl, rfl, rfl, rfl, rfl, rfl, rfl, rfl, rfl, trivial⟩ rfl ?_
                  refine W.rL ?_
                  refine cL rfl (o_ldA (cs := [.int _ _, .lst _ _ _]) tt34 rfl rfl ⟨_, rfl⟩ rfl ?_)
                  refine cL rfl (o_move (v := .int _ _) rfl ?_)
                  refine cL rfl (o_move (v := .int _ _) rfl ?_)
                  obtain ⟨s168, hv⟩ := hv
                  obtain ⟨s169, hv⟩ := hv
                  refine cL rfl (o_callP1 (k := 21) (fst := []) (caps := []) (ys := [.agg _, .int _ _, .int _ _]) rfl rfl (spec_range ((closeM ((2 : Int) + (pickM n (7 : Int))) ((madeM ((2 : Int) + (pickM n (7 : Int))) x) ++ [(lat (madeM ((2 : Int) + (pickM n (7 : Int))) [one]) (0 : Int))])).1) v19 v20 s168 s169) (Wks.cons (ag_agg 5 _ (Wks.cons (ag_int _ _ _ _) (Wks.cons (ag_lst _ _ _ _ _) (Wks.refl _)))) (Wks.cons (ag_int _ _ _ _) (Wks.cons (ag_int _ _ _ _) (Wks.refl _)))) ?_)
                  refine cL rfl (o_move (v := .tup _) rfl ?_)
                  refine cL rfl (o_ext (v := .int _ _) rfl rfl ?_)
                  refine cL rfl (o_ext (v := .int _ _) rfl rfl ?_)
                  refine cL rfl (o_ext (v := .int _ _) rfl rfl ?_)
                  refine cL rfl (o_assign (v := .int _ _) rfl ?_)
                  refine cL rfl (o_assign (v := .int _ _) rfl ?_)
                  refine cL rfl (o_assign (v := .int _ _) rfl ?_)
                  refine eL ?_
                  refine W.tr [(7, .int _ _), (10, .ptr _ _), (13, .ptr _ _), (15, .int _ _), (19, .int _ _), (20, .int _ _), (21, .int _ _), (22, .int _ _), (23, .int _ _), (24, .int _ _), (25, .int _ _), (26, .int _ _)] [.dead, .dead, .dead, .box _ [.int _ _, .lst _ _ _], .dead, .dead, .dead, .dead, .box _ [.int _ _, .lst _ _ _]] ⟨rfl, rfl, rfl, rfl, rfl, rfl, rfl, rfl, rfl, rfl, rfl, rfl, trivial⟩ rfl ?_
                  refine W.rLm ⟨143, look [(7, .int .i64 ((2 : Int) + (pickM n (7 : Int)))), (10, .ptr 3 0), (13, .ptr 8 0), (15, .int .i64 ((closeM ((2 : Int) + (pickM n (7 : Int))) ((madeM ((2 : Int) + (pickM n (7 : Int))) x) ++ [(lat (madeM ((2 : Int) + (pickM n (7 : Int))) [one]) (0 : Int))])).2.2)), (19, .int .i64 v19), (20, .int .i64 v20), (136, .bool (decide ((¬ (rangeM ((closeM ((2 : Int) + (pickM n (7 : Int))) (madeM ((2 : Int) + (pickM n (7 : Int))) x)).1) v19 v20).2.2 = (0 : Int)) ∨ ((¬ (rangeM ((closeM ((2 : Int) + (pickM n (7 : Int))) ((madeM ((2 : Int) + (pickM n (7 : Int))) x) ++ [(lat (madeM ((2 : Int) + (pickM n (7 : Int))) [one]) (0 : Int))])).1) v19 v20).2.2 = (0 : Int)) ∨ ((((rangeM ((closeM ((2 : Int) + (pickM n (7 : Int))) ((madeM ((2 : Int) + (pickM n (7 : Int))) x) ++ [(lat (madeM ((2 : Int) + (pickM n (7 : Int))) [one]) (0 : Int))])).1) v19 v20).1) < ((rangeM ((closeM ((2 : Int) + (pickM n (7 : Int))) (madeM ((2 : Int) + (pickM n (7 : Int))) x)).1) v19 v20).1)) ∨ (((rangeM ((closeM ((2 : Int) + (pickM n (7 : Int))) (madeM ((2 : Int) + (pickM n (7 : Int))) x)).1) v19 v20).2.1) < ((rangeM ((closeM ((2 : Int) + (pickM n (7 : Int))) ((madeM ((2 : Int) + (pickM n (7 : Int))) x) ++ [(lat (madeM ((2 : Int) + (pickM n (7 : Int))) [one]) (0 : Int))])).1) v19 v20).2.1)))))))], [.dead, .dead, .dead, .box 34 [.int .i64 (((closeM ((2 : Int) + (pickM n (7 : Int))) (madeM ((2 : Int) + (pickM n (7 : Int))) x)).1).n), .lst false (((closeM ((2 : Int) + (pickM n (7 : Int))) (madeM ((2 : Int) + (pickM n (7 : Int))) x)).1).most).length (encL (eSl eInt true) (((closeM ((2 : Int) + (pickM n (7 : Int))) (madeM ((2 : Int) + (pickM n (7 : Int))) x)).1).most))], .dead, .dead, .dead, .dead, .box 34 [.int .i64 (((closeM ((2 : Int) + (pickM n (7 : Int))) ((madeM ((2 : Int) + (pickM n (7 : Int))) x) ++ [(lat (madeM ((2 : Int) + (pickM n (7 : Int))) [one]) (0 : Int))])).1).n), .lst false (((closeM ((2 : Int) + (pickM n (7 : Int))) ((madeM ((2 : Int) + (pickM n (7 : Int))) x) ++ [(lat (madeM ((2 : Int) + (pickM n (7 : Int))) [one]) (0 : Int))])).1).most).length (encL (eSl eInt true) (((closeM ((2 : Int) + (pickM n (7 : Int))) ((madeM ((2 : Int) + (pickM n (7 : Int))) x) ++ [(lat (madeM ((2 : Int) + (pickM n (7 : Int))) [one]) (0 : Int))])).1).most))]], false⟩ ?_ ?_
                  · refine cL rfl (o_move (v := .int _ _) rfl ?_)
                    refine cL rfl (o_neI rfl rfl rfl ?_)
                    refine cL rfl (o_move (v := .bool _) rfl ?_)
                    by_cases c1 : ¬ (rangeM ((closeM ((2 : Int) + (pickM n (7 : Int))) (madeM ((2 : Int) + (pickM n (7 : Int))) x)).1) v19 v20).2.2 = (0 : Int)
                    · refine cLs rfl rfl rfl (decide_eq_true c1) ?_
                      refine cLs rfl rfl rfl (decide_eq_true c1) ?_
                      refine cL rfl (o_pickT (v := .bool _) rfl (decide_eq_true c1) rfl ?_)
                      refine cL rfl (o_move (v := .bool _) rfl ?_)
                      refine cLs rfl rfl rfl (rfl) ?_
                      refine cLs rfl rfl rfl (rfl) ?_
                      refine cLs rfl rfl rfl (rfl) ?_
                      refine cL rfl (o_pickT (v := .bool _) rfl rfl rfl ?_)
                      refine cL rfl (o_move (v := .bool _) rfl ?_)
                      refine cLs rfl rfl rfl (rfl) ?_
                      refine cLs rfl rfl rfl (rfl) ?_
                      refine cLs rfl rfl rfl (rfl) ?_
                      refine cL rfl (o_pickT (v := .bool _) rfl rfl rfl ?_)
                      refine eL ?_
                      exact le_mk ⟨rfl, rfl, rfl, rfl, rfl, rfl, (congrArg AV.bool (dOrT c1)).symm, trivial⟩ rfl
                    · refine cLg rfl rfl (decide_eq_false c1) ?_
                      refine cL rfl (o_move (v := .int _ _) rfl ?_)
                      refine cLg rfl rfl (decide_eq_false c1) ?_
                      refine cL rfl (o_neI rfl rfl rfl ?_)
                      refine cL rfl (o_pickF (v := .bool _) rfl (decide_eq_false c1) rfl ?_)
                      refine cL rfl (o_move (v := .bool _) rfl ?_)
                      by_cases c2 : ¬ (rangeM ((closeM ((2 : Int) + (pickM n (7 : Int))) ((madeM ((2 : Int) + (pickM n (7 : Int))) x) ++ [(lat (madeM ((2 : Int) + (pickM n (7 : Int))) [one]) (0 : Int))])).1) v19 v20).2.2 = (0 : Int)
                      · refine cLs rfl rfl rfl (decide_eq_true c2) ?_
                        refine cLs rfl rfl rfl (decide_eq_true c2) ?_
                        refine cLs rfl rfl rfl (decide_eq_true c2) ?_
                        refine cL rfl (o_pickT (v := .bool _) rfl (decide_eq_true c2) rfl ?_)
                        refine cL rfl (o_move (v := .bool _) rfl ?_)
                        refine cLs rfl rfl rfl (rfl) ?_
                        refine cLs rfl rfl rfl (rfl) ?_
                        refine cLs rfl rfl rfl (rfl) ?_
                        refine cL rfl (o_pickT (v := .bool _) rfl rfl rfl ?_)
                        refine eL ?_
                        exact le_mk ⟨rfl, rfl, rfl, rfl, rfl, rfl, (congrArg AV.bool (dOrF c1 (dOrT c2))).symm, trivial⟩ rfl
                      · refine cLg rfl rfl (decide_eq_false c2) ?_
                        refine cL rfl (o_move (v := .int _ _) rfl ?_)
                        refine cLg rfl rfl (decide_eq_false c2) ?_
                        refine cL rfl (o_move (v := .int _ _) rfl ?_)
                        refine cLg rfl rfl (decide_eq_false c2) ?_
                        refine cL rfl (o_lss rfl rfl ?_)
                        refine cL rfl (o_pickF (v := .bool _) rfl (decide_eq_false c2) rfl ?_)
                        refine cL rfl (o_move (v := .bool _) rfl ?_)
                        by_cases c3 : ((rangeM ((closeM ((2 : Int) + (pickM n (7 : Int))) ((madeM ((2 : Int) + (pickM n (7 : Int))) x) ++ [(lat (madeM ((2 : Int) + (pickM n (7 : Int))) [one]) (0 : Int))])).1) v19 v20).1) < ((rangeM ((closeM ((2 : Int) + (pickM n (7 : Int))) (madeM ((2 : Int) + (pickM n (7 : Int))) x)).1) v19 v20).1)
                        · refine cLs rfl rfl rfl (decide_eq_true c3) ?_
                          refine cLs rfl rfl rfl (decide_eq_true c3) ?_
                          refine cLs rfl rfl rfl (decide_eq_true c3) ?_
                          refine cL rfl (o_pickT (v := .bool _) rfl (decide_eq_true c3) rfl ?_)
                          refine eL ?_
                          exact le_mk ⟨rfl, rfl, rfl, rfl, rfl, rfl, (congrArg AV.bool (dOrF c1 (dOrF c2 (dOrT c3)))).symm, trivial⟩ rfl
                        · refine cLg rfl rfl (decide_eq_false c3) ?_
                          refine cL rfl (o_move (v := .int _ _) rfl ?_)
                          refine cLg rfl rfl (decide_eq_false c3) ?_
                          refine cL rfl (o_move (v := .int _ _) rfl ?_)
                          refine cLg rfl rfl (decide_eq_false c3) ?_
                          refine cL rfl (o_gtr rfl rfl ?_)
                          refine cL rfl (o_pickF (v := .bool _) rfl (decide_eq_false c3) rfl ?_)
                          refine eL ?_
                          exact le_mk ⟨rfl, rfl, rfl, rfl, rfl, rfl, (congrArg AV.bool (dOrF c1 (dOrF c2 (dOrF c3 (rfl))))).symm, trivial⟩ rfl
                  · refine W.cn rfl (fun hc => ?_) (fun hc => ?_)
                    · have hv := hv.1 hc
                      refine W.rL ?_
                      refine cL rfl (o_assign (v := .bool _) rfl ?_)
                      refine eL ?_
                      refine W.tr [(6, .bool _)] [.dead, .dead, .dead, .box _ [.int _ _, .lst _ _ _], .dead, .dead, .dead, .dead, .box _ [.int _ _, .lst _ _ _]] ⟨rfl, trivial⟩ rfl ?_
                      refine W.ret ?_
                      refine bl_ret (th_ret (th_ret (bl_ret (bl_ret (th_ret (th_ret (bl_ret (th_ret (rt ?_)))))))))
                      refine rt_t (v := .bool _) rfl ?_
                      refine rt_n ?_
                      exact ⟨_, rs_bool _ _ _, false, rfl, hv⟩
                    · have hv := hv.2 hc
                      refine W.skip ?_
                      refine bl_nrm (th_nrm ?_)
                      refine W.tr [(7, .int _ _), (10, .ptr _ _), (13, .ptr _ _), (15, .int _ _), (19, .int _ _), (20, .int _ _)] [.dead, .dead, .dead, .box _ [.int _ _, .lst _ _ _], .dead, .dead, .dead, .dead, .box _ [.int _ _, .lst _ _ _]] ⟨rfl, rfl, rfl, rfl, rfl, rfl, trivial⟩ rfl ?_
                      refine W.rL1 ?_
                      refine cL rfl (o_move (v := .int _ _) rfl ?_)
                      obtain ⟨s170, hv⟩ := hv
                      refine cL rfl (o_add rfl rfl s170 ?_)
                      refine cL rfl (o_assign (v := .int _ _) rfl ?_)
                      refine eL ?_
                      exact th_nrm (⟨(), (v20 + (1 : Int)), hv, St.to_mk (φ := [none, none, none, some 3, none, none, none, none, some 8]) rfl (.inl rfl) ⟨Ren.int _ _, Ren.ptr rfl, Ren.ptr rfl, Ren.int _ _, Ren.int _ _, Ren.int _ _, trivial⟩ ⟨rfl, rfl, rfl, .inr ⟨_, rfl, rfl, Rens.cons (Ren.int _ _) (Rens.cons (Ren.lst _ _ _) (Rens.nil))⟩, rfl, rfl, rfl, rfl, .inr ⟨_, rfl, rfl, Rens.cons (Ren.int _ _) (Rens.cons (Ren.lst _ _ _) (Rens.nil))⟩, trivial⟩⟩)
                · have hv := hv.2 hc
                  refine W.exit ?_
                  refine th_exit (th_exit (bl_hit (bl_nrm (th_nrm ?_))))
                  refine W.tr [(7, .int _ _), (10, .ptr _ _), (13, .ptr _ _), (15, .int _ _), (19, .int _ _)] [.dead, .dead, .dead, .box _ [.int _ _, .lst _ _ _], .dead, .dead, .dead, .dead, .box _ [.int _ _, .lst _ _ _]] ⟨rfl, rfl, rfl, rfl, rfl, trivial⟩ rfl ?_
                  refine W.rL1 ?_
                  refine cL rfl (o_move (v := .int _ _) rfl ?_)
                  obtain ⟨s171, hv⟩ := hv
                  refine cL rfl (o_add rfl rfl s171 ?_)
                  refine cL rfl (o_assign (v := .int _ _) rfl ?_)
                  refine eL ?_
                  exact th_nrm (⟨(), (v19 + (1 : Int)), hv, St.to_mk (φ := [none, none, none, some 3, none, none, none, none, some 8]) rfl (.inl rfl) ⟨Ren.int _ _, Ren.ptr rfl, Ren.ptr rfl, Ren.int _ _, Ren.int _ _, trivial⟩ ⟨rfl, rfl, rfl, .inr ⟨_, rfl, rfl, Rens.cons (Ren.int _ _) (Rens.cons (Ren.lst _ _ _) (Rens.nil))⟩, rfl, rfl, rfl, rfl, .inr ⟨_, rfl, rfl, Rens.cons (Ren.int _ _) (Rens.cons (Ren.lst _ _ _) (Rens.nil))⟩, trivial⟩⟩)
              · have hv := hv.2 hc
                refine W.exit ?_
                refine th_exit (th_exit (bl_hit (th_nrm ?_)))
                refine W.tr [(15, .int _ _)] [.dead, .dead, .dead, .box _ [.int _ _, .lst _ _ _], .dead, .dead, .dead, .dead, .box _ [.int _ _, .lst _ _ _]] ⟨rfl, trivial⟩ rfl ?_
                refine W.rLm ⟨143, look [(6, .bool (decide (((closeM ((2 : Int) + (pickM n (7 : Int))) ((madeM ((2 : Int) + (pickM n (7 : Int))) x) ++ [(lat (madeM ((2 : Int) + (pickM n (7 : Int))) [one]) (0 : Int))])).2.2 = (0 : Int)) ∨ ((closeM ((2 : Int) + (pickM n (7 : Int))) ((madeM ((2 : Int) + (pickM n (7 : Int))) x) ++ [(lat (madeM ((2 : Int) + (pickM n (7 : Int))) [one]) (0 : Int))])).2.2 = (70 : Int)))))], [.dead, .dead, .dead, .box 34 [.int .i64 (((closeM ((2 : Int) + (pickM n (7 : Int))) (madeM ((2 : Int) + (pickM n (7 : Int))) x)).1).n), .lst false (((closeM ((2 : Int) + (pickM n (7 : Int))) (madeM ((2 : Int) + (pickM n (7 : Int))) x)).1).most).length (encL (eSl eInt true) (((closeM ((2 : Int) + (pickM n (7 : Int))) (madeM ((2 : Int) + (pickM n (7 : Int))) x)).1).most))], .dead, .dead, .dead, .dead, .box 34 [.int .i64 (((closeM ((2 : Int) + (pickM n (7 : Int))) ((madeM ((2 : Int) + (pickM n (7 : Int))) x) ++ [(lat (madeM ((2 : Int) + (pickM n (7 : Int))) [one]) (0 : Int))])).1).n), .lst false (((closeM ((2 : Int) + (pickM n (7 : Int))) ((madeM ((2 : Int) + (pickM n (7 : Int))) x) ++ [(lat (madeM ((2 : Int) + (pickM n (7 : Int))) [one]) (0 : Int))])).1).most).length (encL (eSl eInt true) (((closeM ((2 : Int) + (pickM n (7 : Int))) ((madeM ((2 : Int) + (pickM n (7 : Int))) x) ++ [(lat (madeM ((2 : Int) + (pickM n (7 : Int))) [one]) (0 : Int))])).1).most))]], false⟩ ?_ ?_
                · refine cL rfl (o_move (v := .int _ _) rfl ?_)
                  refine cL rfl (o_eqI rfl rfl rfl ?_)
                  refine cL rfl (o_move (v := .bool _) rfl ?_)
                  by_cases c1 : (closeM ((2 : Int) + (pickM n (7 : Int))) ((madeM ((2 : Int) + (pickM n (7 : Int))) x) ++ [(lat (madeM ((2 : Int) + (pickM n (7 : Int))) [one]) (0 : Int))])).2.2 = (0 : Int)
                  · refine cLs rfl rfl rfl (decide_eq_true c1) ?_
                    refine cLs rfl rfl rfl (decide_eq_true c1) ?_
                    refine cL rfl (o_pickT (v := .bool _) rfl (decide_eq_true c1) rfl ?_)
                    refine cL rfl (o_assign (v := .bool _) rfl ?_)
                    refine eL ?_
                    exact le_mk ⟨(congrArg AV.bool (dOrT c1)).symm, trivial⟩ rfl
                  · refine cLg rfl rfl (decide_eq_false c1) ?_
                    refine cL rfl (o_move (v := .int _ _) rfl ?_)
                    refine cLg rfl rfl (decide_eq_false c1) ?_
                    refine cL rfl (o_eqI rfl rfl rfl ?_)
                    refine cL rfl (o_pickF (v := .bool _) rfl (decide_eq_false c1) rfl ?_)
                    refine cL rfl (o_assign (v := .bool _) rfl ?_)
                    refine eL ?_
                    exact le_mk ⟨(congrArg AV.bool (dOrF c1 (rfl))).symm, trivial⟩ rfl
                · refine W.ret ?_
                  refine rt ?_
                  refine rt_t (v := .bool _) rfl ?_
                  refine rt_n ?_
                  exact ⟨_, rs_bool _ _ _, (decide (((closeM ((2 : Int) + (pickM n (7 : Int))) ((madeM ((2 : Int) + (pickM n (7 : Int))) x) ++ [(lat (madeM ((2 : Int) + (pickM n (7 : Int))) [one]) (0 : Int))])).2.2 = (0 : Int)) ∨ ((closeM ((2 : Int) + (pickM n (7 : Int))) ((madeM ((2 : Int) + (pickM n (7 : Int))) x) ++ [(lat (madeM ((2 : Int) + (pickM n (7 : Int))) [one]) (0 : Int))])).2.2 = (70 : Int)))), rfl, hv⟩
theorem vcp_Narrower (n : Int) (x : (List A3)) (one : A3) (h0 : inI n) (h1 : ∀ y ∈ x, inI y.x0 ∧ inI y.x1 ∧ inI y.x2) (h2 : inI one.x0 ∧ inI one.x1 ∧ inI one.x2) : vc_Narrower n x one (fun q0 => q0 = (true)) := by
  unfold vc_Narrower
  have hm := pickM_nonneg (c := n) (n := 7) (by omega)
  generalize hM : (2 : Int) + pickM n 7 = m
  have hm1 : 1 ≤ m ∧ m ≤ 24 := by omega
  have hv := made_valid (n := m) (x := x) hm1
  have hll := made_len (n := m) (x := x)
  generalize madeM m x = l at hv hll
  have hone : (madeM m [one]).length = 1 := by unfold madeM; rw [if_pos (by omega)]; simp
  have hc0 := lat_mem (xs := madeM m [one]) (i := 0) ⟨by omega, by omega⟩
  have hcp := (made_poss _ hc0).1
  generalize hcc : lat (madeM m [one]) 0 = c at hcp
  obtain ⟨m, rfl⟩ : ∃ k : Nat, m = k := ⟨m.toNat, by omega⟩
  have hg : Good m l := by simpa using validM_goodn hv
  have hg24 := validM_good hv
  have hvL : validM (m : Int) (l ++ [c]) = true := validM_iff.mpr ⟨⟨by omega, by omega, by simp; omega⟩, fun d hd => by
    rcases List.mem_append.mp hd with h | h
    · exact (validM_iff.mp hv).2 d h
    · rw [List.mem_singleton] at h; rw [h]; exact hcp⟩
  have hLl : (l ++ [c]).length ≤ 1073741824 := by simp; omega
  have hb0 := hB0
  have hnb := hNB
  have hcb := possM_iff.mp hcp
  refine ⟨fun h => (h rfl).elim, fun _ => ⟨h0, by omega, by unfold inI; omega, by omega, by omega, h1, by omega, by omega, fun y hy => by rw [List.mem_singleton] at hy; rw [hy]; exact h2, by omega, by omega, by omega, hLl, fun k1 => ?_, fun k1 => ?_⟩⟩
  · rcases close_cases hv with ⟨mt, hc, e⟩ | ⟨hno, e⟩
    · exact (k1 (by rw [e])).elim
    rcases close_cases hvL with ⟨mt, hc, e2⟩ | ⟨-, e2⟩
    · obtain ⟨z, hz⟩ := hc.sol_ex
      exact (hno z (SolL_append.mp hz).1).elim
    · rw [e, e2]; simp
  obtain ⟨mt, hc, e⟩ : ∃ mt, CM mt l ∧ closeM (m : Int) l = (boundsM mt m, [], 0) := by
    rcases close_cases hv with h | ⟨hno, e⟩
    · exact h
    · exact (k1 (by rw [e]; simp)).elim
  rw [e]
  dsimp only
  obtain ⟨f, hf⟩ : ∃ k : Nat, c.f = k := ⟨c.f.toNat, by omega⟩
  obtain ⟨t, ht⟩ : ∃ k : Nat, c.t = k := ⟨c.t.toNat, by omega⟩
  have hbl := bounds_most_len (m := mt) hm1.2
  rw [hf, ht, hc.range hm1 (by omega) (by omega)]
  dsimp only
  refine ⟨hbl.1, hbl.2, fun h => (h rfl).elim, fun _ => ⟨fun k2 => ?_, fun k2 => ?_⟩⟩
  · have himp : ∀ z, SolL l z → SolL (l ++ [c]) z := fun z hz => SolL_append.mpr ⟨hz, SolL_one.mpr (by
      have := (hc.sol z).mpr hz f t (by omega) (by omega) (by omega)
      rw [hf, ht]; simp only [Int.toNat_natCast]; omega)⟩
    rcases close_cases hvL with ⟨mt2, hc2, e2⟩ | ⟨hno, e2⟩
    · have eb : boundsM mt2 m = boundsM mt m := bounds_congr hm1.2 fun i j hi hj => hc2.congr hc (fun z => ⟨fun h => (SolL_append.mp h).1, himp z⟩) (by omega) (by omega)
      rw [e2, eb]
      dsimp only
      refine ⟨⟨fun _ => ⟨hbl.1, hbl.2, trivial⟩, fun _ => trivial⟩, ?_⟩
      simp [sameM_self]
    · obtain ⟨z, hz⟩ := hc.sol_ex
      exact (hno z (himp z hz)).elim
  · rcases close_cases hvL with ⟨mt2, hc2, e2⟩ | ⟨hno, e2⟩
    · rw [e2]
      dsimp only
      have hbl2 := bounds_most_len (m := mt2) hm1.2
      have hle : ∀ i j, i < 24 → j < 24 → mm mt2 i j ≤ mm mt i j := fun i j hi hj => hc2.cl.le_of_sol hc.cl (by omega) (fun z hz => (hc.sol z).mpr (SolL_append.mp ((hc2.sol z).mp hz)).1) hi hj
      refine ⟨fun v => ∃ i : Nat, v = i ∧ i ≤ m, fun v => m - v.toNat, ⟨0, rfl, by omega⟩, ?_⟩
      rintro _ ⟨i, rfl, hi⟩
      refine ⟨fun k3 => ⟨fun v => ∃ j : Nat, v = j ∧ j ≤ m, fun v => m - v.toNat, ⟨0, rfl, by omega⟩, ?_⟩, fun _ => by simp⟩
      rintro _ ⟨j, rfl, hj⟩
      refine ⟨fun k4 => ⟨hbl.1, hbl.2, hbl2.1, hbl2.2, fun h => ?_, fun _ => ⟨by unfold inI; omega, ⟨j + 1, by omega, by omega⟩, by dsimp only; omega⟩⟩, fun k4 => ⟨by unfold inI; omega, ⟨i + 1, by omega, by omega⟩, by dsimp only; omega⟩⟩
      have q1 := hle i j (by omega) (by omega)
      have q2 := hle j i (by omega) (by omega)
      rw [hc.range hm1 (by omega) (by omega), hc2.range hm1 (by omega) (by omega)] at h
      dsimp only at h
      rcases h with h | h | h | h
      · exact (h rfl).elim
      · exact (h rfl).elim
      · omega
      · omega
    · rw [e2]
      dsimp only
      refine ⟨fun v => True, fun _ => 0, trivial, fun v _ => ⟨fun h => ?_, fun _ => by simp⟩⟩
      have := h.2
      omega
theorem spec_Narrower (n : Int) (x : (List A3)) (one : A3) (h0 : inI n) (h1 : ∀ y ∈ x, inI y.x0 ∧ inI y.x1 ∧ inI y.x2) (h2 : inI one.x0 ∧ inI one.x1 ∧ inI one.x2) : FnP Try.prog 9 [.int .i64 n, .lst true x.length (encL e26 x), .agg (e26 one)] (fun xR => xR = .bool (true)) :=
  (walk_Narrower (vcp_Narrower n x one h0 h1 h2)).mono (by rintro _ ⟨_, rfl, rfl⟩; rfl)
end Go.Lat
