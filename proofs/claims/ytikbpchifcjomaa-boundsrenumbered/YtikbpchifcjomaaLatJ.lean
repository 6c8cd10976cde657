/- The law latecomerlaw07.BoundsRenumbered returns true for every input, and each argument reads afterwards as it read before. Part 10 of 11. No condition. -/
import Derived.Test.YtikbpchifcjomaaLatD
import Derived.Test.YtikbpchifcjomaaLatE
import Derived.Test.YtikbpchifcjomaaLatF
import Derived.Test.YtikbpchifcjomaaLatG
import Derived.Test.YtikbpchifcjomaaLatH
import Derived.Test.YtikbpchifcjomaaLatI
set_option linter.unusedVariables false
set_option linter.unusedSimpArgs false
set_option linter.unnecessarySimpa false
namespace Go.Lat
open Go.RowKit Go.Proofs
attribute [local irreducible] closeM rangeM pointM addBM cycleM holdsM validBM sameM madeM pickM plusM validM possM firstM tableM longerM boundsM ofM addM freeM
/-- What the walk through latecomerlaw07.BoundsRenumbered asks. -/
def vc_Renumbered (n : Int) (x : (List A3)) (by_ : Int) (values : (List Int)) (shift : Int) (Post : Bool → Prop) : Prop :=
  ((¬ true = true) → Post false) ∧ (¬ (¬ true = true) → (inI n) ∧ (1 ≤ (8 : Int)) ∧ (inI ((1 : Int) + (pickM n (8 : Int)))) ∧ (1 ≤ ((1 : Int) + (pickM n (8 : Int)))) ∧ (((1 : Int) + (pickM n (8 : Int))) ≤ 1000) ∧ (∀ y ∈ x, inI y.x0 ∧ inI y.x1 ∧ inI y.x2) ∧ (inI by_) ∧ (1 ≤ ((1 : Int) + (pickM n (8 : Int)))) ∧ ∃ (I1 : Int → List Con → Prop) (μ1 : Int → List Con → Nat), I1 (0 : Int) [] ∧ ∀ (v15 : Int) (r0 : List Con), I1 v15 r0 → ((v15 < (((madeM ((1 : Int) + (pickM n (8 : Int))) x).length : Nat) : Int)) → (0 ≤ v15 ∧ v15 < ((madeM ((1 : Int) + (pickM n (8 : Int))) x).length : Int)) ∧ (inI (((lat (madeM ((1 : Int) + (pickM n (8 : Int))) x) v15).f) + (pickM by_ ((1 : Int) + (pickM n (8 : Int)))))) ∧ (((1 : Int) + (pickM n (8 : Int))) ≠ 0) ∧ (inI (((lat (madeM ((1 : Int) + (pickM n (8 : Int))) x) v15).t) + (pickM by_ ((1 : Int) + (pickM n (8 : Int)))))) ∧ (((1 : Int) + (pickM n (8 : Int))) ≠ 0) ∧ ((r0 ++ [(Con.mk ((((lat (madeM ((1 : Int) + (pickM n (8 : Int))) x) v15).f) + (pickM by_ ((1 : Int) + (pickM n (8 : Int))))).tmod ((1 : Int) + (pickM n (8 : Int)))) ((((lat (madeM ((1 : Int) + (pickM n (8 : Int))) x) v15).t) + (pickM by_ ((1 : Int) + (pickM n (8 : Int))))).tmod ((1 : Int) + (pickM n (8 : Int)))) ((lat (madeM ((1 : Int) + (pickM n (8 : Int))) x) v15).m) ((lat (madeM ((1 : Int) + (pickM n (8 : Int))) x) v15).a))]).length ≤ 1073741824) ∧ (inI (v15 + (1 : Int))) ∧ (I1 (v15 + (1 : Int)) (r0 ++ [(Con.mk ((((lat (madeM ((1 : Int) + (pickM n (8 : Int))) x) v15).f) + (pickM by_ ((1 : Int) + (pickM n (8 : Int))))).tmod ((1 : Int) + (pickM n (8 : Int)))) ((((lat (madeM ((1 : Int) + (pickM n (8 : Int))) x) v15).t) + (pickM by_ ((1 : Int) + (pickM n (8 : Int))))).tmod ((1 : Int) + (pickM n (8 : Int)))) ((lat (madeM ((1 : Int) + (pickM n (8 : Int))) x) v15).m) ((lat (madeM ((1 : Int) + (pickM n (8 : Int))) x) v15).a))]) ∧ μ1 (v15 + (1 : Int)) (r0 ++ [(Con.mk ((((lat (madeM ((1 : Int) + (pickM n (8 : Int))) x) v15).f) + (pickM by_ ((1 : Int) + (pickM n (8 : Int))))).tmod ((1 : Int) + (pickM n (8 : Int)))) ((((lat (madeM ((1 : Int) + (pickM n (8 : Int))) x) v15).t) + (pickM by_ ((1 : Int) + (pickM n (8 : Int))))).tmod ((1 : Int) + (pickM n (8 : Int)))) ((lat (madeM ((1 : Int) + (pickM n (8 : Int))) x) v15).m) ((lat (madeM ((1 : Int) + (pickM n (8 : Int))) x) v15).a))]) < μ1 v15 r0)) ∧ (¬ (v15 < (((madeM ((1 : Int) + (pickM n (8 : Int))) x).length : Nat) : Int)) → ((madeM ((1 : Int) + (pickM n (8 : Int))) x).length ≤ 1073741824) ∧ (r0.length ≤ 1073741824) ∧ (((¬ (closeM ((1 : Int) + (pickM n (8 : Int))) (madeM ((1 : Int) + (pickM n (8 : Int))) x)).2.2 = (closeM ((1 : Int) + (pickM n (8 : Int))) r0).2.2) → True) ∧ (¬ (¬ (closeM ((1 : Int) + (pickM n (8 : Int))) (madeM ((1 : Int) + (pickM n (8 : Int))) x)).2.2 = (closeM ((1 : Int) + (pickM n (8 : Int))) r0).2.2) → (((closeM ((1 : Int) + (pickM n (8 : Int))) (madeM ((1 : Int) + (pickM n (8 : Int))) x)).2.1).length ≤ 1073741824) ∧ True)) ∧ ((((¬ (closeM ((1 : Int) + (pickM n (8 : Int))) (madeM ((1 : Int) + (pickM n (8 : Int))) x)).2.2 = (closeM ((1 : Int) + (pickM n (8 : Int))) r0).2.2) ∨ (¬ (((closeM ((1 : Int) + (pickM n (8 : Int))) (madeM ((1 : Int) + (pickM n (8 : Int))) x)).2.1) = ((closeM ((1 : Int) + (pickM n (8 : Int))) r0).2.1)))) → Post false) ∧ (¬ ((¬ (closeM ((1 : Int) + (pickM n (8 : Int))) (madeM ((1 : Int) + (pickM n (8 : Int))) x)).2.2 = (closeM ((1 : Int) + (pickM n (8 : Int))) r0).2.2) ∨ (¬ (((closeM ((1 : Int) + (pickM n (8 : Int))) (madeM ((1 : Int) + (pickM n (8 : Int))) x)).2.1) = ((closeM ((1 : Int) + (pickM n (8 : Int))) r0).2.1)))) → ∃ (I2 : Int → Prop) (μ2 : Int → Nat), I2 (0 : Int) ∧ ∀ (v23 : Int), I2 v23 → (((v23 < ((1 : Int) + (pickM n (8 : Int)))) ∧ ((closeM ((1 : Int) + (pickM n (8 : Int))) (madeM ((1 : Int) + (pickM n (8 : Int))) x)).2.2 = (0 : Int))) → ∃ (I3 : Int → Prop) (μ3 : Int → Nat), I3 (0 : Int) ∧ ∀ (v24 : Int), I3 v24 → ((v24 < ((1 : Int) + (pickM n (8 : Int)))) → (((closeM ((1 : Int) + (pickM n (8 : Int))) (madeM ((1 : Int) + (pickM n (8 : Int))) x)).1).most.length ≤ 1073741824) ∧ (∀ r ∈ ((closeM ((1 : Int) + (pickM n (8 : Int))) (madeM ((1 : Int) + (pickM n (8 : Int))) x)).1).most, r.length ≤ 1073741824) ∧ (inI (v23 + (pickM by_ ((1 : Int) + (pickM n (8 : Int)))))) ∧ (((1 : Int) + (pickM n (8 : Int))) ≠ 0) ∧ (inI (v24 + (pickM by_ ((1 : Int) + (pickM n (8 : Int)))))) ∧ (((1 : Int) + (pickM n (8 : Int))) ≠ 0) ∧ (((closeM ((1 : Int) + (pickM n (8 : Int))) r0).1).most.length ≤ 1073741824) ∧ (∀ r ∈ ((closeM ((1 : Int) + (pickM n (8 : Int))) r0).1).most, r.length ≤ 1073741824) ∧ (((¬ (rangeM ((closeM ((1 : Int) + (pickM n (8 : Int))) (madeM ((1 : Int) + (pickM n (8 : Int))) x)).1) v23 v24).2.2 = (0 : Int)) ∨ ((¬ (rangeM ((closeM ((1 : Int) + (pickM n (8 : Int))) r0).1) ((v23 + (pickM by_ ((1 : Int) + (pickM n (8 : Int))))).tmod ((1 : Int) + (pickM n (8 : Int)))) ((v24 + (pickM by_ ((1 : Int) + (pickM n (8 : Int))))).tmod ((1 : Int) + (pickM n (8 : Int))))).2.2 = (0 : Int)) ∨ ((¬ (rangeM ((closeM ((1 : Int) + (pickM n (8 : Int))) (madeM ((1 : Int) + (pickM n (8 : Int))) x)).1) v23 v24).1 = (rangeM ((closeM ((1 : Int) + (pickM n (8 : Int))) r0).1) ((v23 + (pickM by_ ((1 : Int) + (pickM n (8 : Int))))).tmod ((1 : Int) + (pickM n (8 : Int)))) ((v24 + (pickM by_ ((1 : Int) + (pickM n (8 : Int))))).tmod ((1 : Int) + (pickM n (8 : Int))))).1) ∨ (¬ (rangeM ((closeM ((1 : Int) + (pickM n (8 : Int))) (madeM ((1 : Int) + (pickM n (8 : Int))) x)).1) v23 v24).2.1 = (rangeM ((closeM ((1 : Int) + (pickM n (8 : Int))) r0).1) ((v23 + (pickM by_ ((1 : Int) + (pickM n (8 : Int))))).tmod ((1 : Int) + (pickM n (8 : Int)))) ((v24 + (pickM by_ ((1 : Int) + (pickM n (8 : Int))))).tmod ((1 : Int) + (pickM n (8 : Int))))).2.1)))) → Post false) ∧ (¬ ((¬ (rangeM ((closeM ((1 : Int) + (pickM n (8 : Int))) (madeM ((1 : Int) + (pickM n (8 : Int))) x)).1) v23 v24).2.2 = (0 : Int)) ∨ ((¬ (rangeM ((closeM ((1 : Int) + (pickM n (8 : Int))) r0).1) ((v23 + (pickM by_ ((1 : Int) + (pickM n (8 : Int))))).tmod ((1 : Int) + (pickM n (8 : Int)))) ((v24 + (pickM by_ ((1 : Int) + (pickM n (8 : Int))))).tmod ((1 : Int) + (pickM n (8 : Int))))).2.2 = (0 : Int)) ∨ ((¬ (rangeM ((closeM ((1 : Int) + (pickM n (8 : Int))) (madeM ((1 : Int) + (pickM n (8 : Int))) x)).1) v23 v24).1 = (rangeM ((closeM ((1 : Int) + (pickM n (8 : Int))) r0).1) ((v23 + (pickM by_ ((1 : Int) + (pickM n (8 : Int))))).tmod ((1 : Int) + (pickM n (8 : Int)))) ((v24 + (pickM by_ ((1 : Int) + (pickM n (8 : Int))))).tmod ((1 : Int) + (pickM n (8 : Int))))).1) ∨ (¬ (rangeM ((closeM ((1 : Int) + (pickM n (8 : Int))) (madeM ((1 : Int) + (pickM n (8 : Int))) x)).1) v23 v24).2.1 = (rangeM ((closeM ((1 : Int) + (pickM n (8 : Int))) r0).1) ((v23 + (pickM by_ ((1 : Int) + (pickM n (8 : Int))))).tmod ((1 : Int) + (pickM n (8 : Int)))) ((v24 + (pickM by_ ((1 : Int) + (pickM n (8 : Int))))).tmod ((1 : Int) + (pickM n (8 : Int))))).2.1)))) → (inI (v24 + (1 : Int))) ∧ (I3 (v24 + (1 : Int)) ∧ μ3 (v24 + (1 : Int)) < μ3 v24))) ∧ (¬ (v24 < ((1 : Int) + (pickM n (8 : Int)))) → (inI (v23 + (1 : Int))) ∧ (I2 (v23 + (1 : Int)) ∧ μ2 (v23 + (1 : Int)) < μ2 v23))) ∧ (¬ ((v23 < ((1 : Int) + (pickM n (8 : Int)))) ∧ ((closeM ((1 : Int) + (pickM n (8 : Int))) (madeM ((1 : Int) + (pickM n (8 : Int))) x)).2.2 = (0 : Int))) → ∃ (I4 : Int → List Int → List Int → Prop) (μ4 : Int → List Int → List Int → Nat), I4 (0 : Int) [] [] ∧ ∀ (v33 : Int) (r1 : List Int) (r2 : List Int), I4 v33 r1 r2 → ((v33 < ((1 : Int) + (pickM n (8 : Int)))) → ∃ J5 : Int → Prop, (∀ (v34 : Int), J5 v34 → ((r1 ++ [v34]).length ≤ 1073741824) ∧ (inI shift) ∧ (1 ≤ (1000 : Int)) ∧ (inI (v34 + (pickM shift (1000 : Int)))) ∧ (inI ((v34 + (pickM shift (1000 : Int))) - (500 : Int))) ∧ ((r2 ++ [((v34 + (pickM shift (1000 : Int))) - (500 : Int))]).length ≤ 1073741824) ∧ (inI (v33 + (1 : Int))) ∧ (I4 (v33 + (1 : Int)) (r1 ++ [v34]) (r2 ++ [((v34 + (pickM shift (1000 : Int))) - (500 : Int))]) ∧ μ4 (v33 + (1 : Int)) (r1 ++ [v34]) (r2 ++ [((v34 + (pickM shift (1000 : Int))) - (500 : Int))]) < μ4 v33 r1 r2)) ∧ (((v33 < ((values.length : Nat) : Int)) → (0 ≤ v33 ∧ v33 < (values.length : Int)) ∧ (inI (lat values v33)) ∧ (1 ≤ (15 : Int)) ∧ J5 (pickM (lat values v33) (15 : Int))) ∧ (¬ (v33 < ((values.length : Nat) : Int)) → J5 (0 : Int)))) ∧ (¬ (v33 < ((1 : Int) + (pickM n (8 : Int)))) → ((madeM ((1 : Int) + (pickM n (8 : Int))) x).length ≤ 1073741824) ∧ (r1.length ≤ 1073741824) ∧ ((madeM ((1 : Int) + (pickM n (8 : Int))) x).length ≤ 1073741824) ∧ (r2.length ≤ 1073741824) ∧ Post (decide ((holdsM (madeM ((1 : Int) + (pickM n (8 : Int))) x) r1) = (holdsM (madeM ((1 : Int) + (pickM n (8 : Int))) x) r2)))))))))
set_option maxRecDepth 100000 in
set_option maxHeartbeats 4000000 in
theorem walk_Renumbered {n : Int} {x : (List A3)} {by_ : Int} {values : (List Int)} {shift : Int} {Post : Bool → Prop} (hv : vc_Renumbered n x by_ values shift Post) : FnP Try.prog 10 [.int .i64 n, .lst true x.length (encL e26 x), .int .i64 by_, .lst true values.length (encL eInt values), .int .i64 shift] (fun x => ∃ q0, x = .bool q0 ∧ Post q0) := by
  refine FnP.of_walk (T := tt) (nt := 184) ttOk ttMix ⟨⟨Try.f10, Try.func10, rfl, rfl, rfl, rfl⟩⟩ (by simp) ?_
  unfold vc_Renumbered at hv
  change W _ _ _ ⟨184, look [(0, .int .i64 n), (1, .lst true x.length (encL e26 x)), (2, .int .i64 by_), (3, .lst true values.length (encL eInt values)), (4, .int .i64 shift)], [], false⟩ _
  refine W.tr [(0, .int _ _), (1, .lst _ _ _), (2, .int _ _), (3, .lst _ _ _), (4, .int _ _)] [] ⟨rfl, rfl, rfl, rfl, rfl, trivial⟩ rfl ?_
  refine W.rL ?_
  refine cL rfl (o_assign (v := .bool _) rfl ?_)
  refine eL ?_
  refine W.tr [(0, .int _ _), (1, .lst _ _ _), (2, .int _ _), (3, .lst _ _ _), (4, .int _ _)] [] ⟨rfl, rfl, rfl, rfl, rfl, trivial⟩ rfl ?_
  refine W.seq' ?_
  refine W.rL ?_
  refine cL rfl (o_callP1 (k := 11) (fst := []) (caps := []) (ys := []) rfl rfl (spec_sane) (Wks.refl _) ?_)
  refine cL rfl (o_notB rfl ?_)
  refine eL ?_
  refine W.tr [(0, .int _ _), (1, .lst _ _ _), (2, .int _ _), (3, .lst _ _ _), (4, .int _ _), (36, .bool _)] [] ⟨rfl, rfl, rfl, rfl, rfl, rfl, trivial⟩ rfl ?_
  refine W.cn rfl (fun hc => ?_) (fun hc => ?_)
  · have hv := hv.1 hc
    refine W.rL ?_
    refine cL rfl (o_assign (v := .bool _) rfl ?_)
    refine eL ?_
    refine W.tr [(10, .bool _)] [] ⟨rfl, trivial⟩ rfl ?_
    refine W.ret ?_
    refine th_ret (rt ?_)
    refine rt_t (v := .bool _) rfl ?_
    refine rt_n ?_
    exact ⟨_, rs_bool _ _ _, false, rfl, hv⟩
  · have hv := hv.2 hc
    refine W.skip ?_
    refine th_nrm ?_
    refine W.tr [(0, .int _ _), (1, .lst _ _ _), (2, .int _ _), (3, .lst _ _ _), (4, .int _ _)] [] ⟨rfl, rfl, rfl, rfl, rfl, trivial⟩ rfl ?_
    refine W.rL ?_
    refine cL rfl (o_move (v := .int _ _) rfl ?_)
    obtain ⟨s1, hv⟩ := hv
    obtain ⟨s2, hv⟩ := hv
    refine cL rfl (o_callP1 (k := 12) (fst := []) (caps := []) (ys := [.int _ _, .int _ _]) rfl rfl (spec_pick n (8 : Int) s1 s2) (Wks.cons (ag_int _ _ _ _) (Wks.cons (ag_int _ _ _ _) (Wks.refl _))) ?_)
    obtain ⟨s3, hv⟩ := hv
    refine cL rfl (o_add rfl rfl s3 ?_)
    refine cL rfl (o_assign (v := .int _ _) rfl ?_)
    refine eL ?_
    refine W.tr [(1, .lst _ _ _), (2, .int _ _), (3, .lst _ _ _), (4, .int _ _), (11, .int _ _)] [] ⟨rfl, rfl, rfl, rfl, rfl, trivial⟩ rfl ?_
    refine W.rL ?_
    refine cL rfl (o_move (v := .int _ _) rfl ?_)
    refine cL rfl (o_move (v := .lst _ _ _) rfl ?_)
    obtain ⟨s4, hv⟩ := hv
    obtain ⟨s5, hv⟩ := hv
    obtain ⟨s6, hv⟩ := hv
    refine cL rfl (o_callP1 (k := 14) (fst := []) (caps := []) (ys := [.int _ _, .lst _ _ _]) rfl rfl (spec_made ((1 : Int) + (pickM n (8 : Int))) x s4 s5 s6) (Wks.cons (ag_int _ _ _ _) (Wks.cons (ag_lst _ _ _ _ _) (Wks.refl _))) ?_)
    refine cL rfl (o_assign (v := .lst _ _ _) rfl ?_)
    refine eL ?_
    refine W.tr [(2, .int _ _), (3, .lst _ _ _), (4, .int _ _), (11, .int _ _), (12, .lst _ _ _)] [] ⟨rfl, rfl, rfl, rfl, rfl, trivial⟩ rfl ?_
    refine W.rL ?_
    refine cL rfl (o_move (v := .int _ _) rfl ?_)
    refine cL rfl (o_move (v := .int _ _) rfl ?_)
    obtain ⟨s7, hv⟩ := hv
    obtain ⟨s8, hv⟩ := hv
    refine cL rfl (o_callP1 (k := 12) (fst := []) (caps := []) (ys := [.int _ _, .int _ _]) rfl rfl (spec_pick by_ ((1 : Int) + (pickM n (8 : Int))) s7 s8) (Wks.cons (ag_int _ _ _ _) (Wks.cons (ag_int _ _ _ _) (Wks.refl _))) ?_)
    refine cL rfl (o_assign (v := .int _ _) rfl ?_)
    refine eL ?_
    refine W.tr [(3, .lst _ _ _), (4, .int _ _), (11, .int _ _), (12, .lst _ _ _), (13, .int _ _)] [] ⟨rfl, rfl, rfl, rfl, rfl, trivial⟩ rfl ?_
    refine W.rL ?_
    refine cL rfl (o_assign (v := .nilS) rfl ?_)
    refine eL ?_
    refine W.tr [(3, .lst _ _ _), (4, .int _ _), (11, .int _ _), (12, .lst _ _ _), (13, .int _ _), (14, .nilS)] [] ⟨rfl, rfl, rfl, rfl, rfl, rfl, trivial⟩ rfl ?_
    refine W.seq' ?_
    refine W.rL ?_
    refine cL rfl (o_assign (v := .int _ _) rfl ?_)
    refine eL ?_
    refine W.tr [(3, .lst _ _ _), (4, .int _ _), (11, .int _ _), (12, .lst _ _ _), (13, .int _ _), (14, .nilS), (15, .int _ _)] [] ⟨rfl, rfl, rfl, rfl, rfl, rfl, rfl, trivial⟩ rfl ?_
    refine W.block ?_
    obtain ⟨I1, μ1, hp, hv⟩ := hv
    refine W.loop2 (fun v15 r0 => ⟨184, look [(3, .lst true values.length (encL eInt values)), (4, .int .i64 shift), (11, .int .i64 ((1 : Int) + (pickM n (8 : Int)))), (12, .lst false (madeM ((1 : Int) + (pickM n (8 : Int))) x).length (encL e25 (madeM ((1 : Int) + (pickM n (8 : Int))) x))), (13, .int .i64 (pickM by_ ((1 : Int) + (pickM n (8 : Int))))), (14, .ref true 0 r0.length), (15, .int .i64 v15)], [.row 25 4 (encL e25 r0)], false⟩) I1 μ1 (0 : Int) [] (St.to_mk (φ := [none]) rfl (.inl rfl) ⟨Ren.lst _ _ _, Ren.int _ _, Ren.int _ _, Ren.lst _ _ _, Ren.int _ _, Ren.nilR rfl rfl, Ren.int _ _, trivial⟩ ⟨rfl, trivial⟩) hp ?_
    clear hp
    intro v15 r0 hI
    replace hv := hv v15 r0 hI
    clear hI
    refine W.seq' ?_
    refine W.rL ?_
    refine cL rfl (o_move (v := .int _ _) rfl ?_)
    refine cL rfl (o_move (v := .lst _ _ _) rfl ?_)
    refine cL rfl (o_len (v := .lst _ _ _) tt22 rfl rfl ?_)
    refine cL rfl (o_lss rfl rfl ?_)
    refine eL ?_
    refine W.tr [(3, .lst _ _ _), (4, .int _ _), (11, .int _ _), (12, .lst _ _ _), (13, .int _ _), (14, .ref _ _ _), (15, .int _ _), (49, .bool _)] [.row _ _ _] ⟨rfl, rfl, rfl, rfl, rfl, rfl, rfl, rfl, trivial⟩ rfl ?_
    refine W.cn rfl (fun hc => ?_) (fun hc => ?_)
    · have hv := hv.1 hc
      refine W.skip ?_
      refine th_nrm ?_
      refine W.tr [(3, .lst _ _ _), (4, .int _ _), (11, .int _ _), (12, .lst _ _ _), (13, .int _ _), (14, .ref _ _ _), (15, .int _ _)] [.row _ _ _] ⟨rfl, rfl, rfl, rfl, rfl, rfl, rfl, trivial⟩ rfl ?_
      refine W.seq' ?_
      refine W.block ?_
      refine W.rL ?_
      refine cL rfl (o_move (v := .lst _ _ _) rfl ?_)
      refine cL rfl (o_move (v := .int _ _) rfl ?_)
      obtain ⟨s76, hv⟩ := hv
      refine cL rfl (o_iaL tt22 tt25 rfl rfl (enc25.wd true) rfl s76 ?_)
      intro rest76
      refine cL rfl (o_ldA (cs := [.int _ _, .int _ _, .int _ _, .int _ _]) tt25 rfl rfl ⟨_, rfl⟩ rfl ?_)
      refine cL rfl (o_alloc (p := 1) tt25 rfl rfl ?_)
      refine cLn (o_stB (v := .agg _) (vs := [.int _ _, .int _ _, .int _ _, .int _ _]) (cs2 := [.int _ _, .int _ _, .int _ _, .int _ _]) tt25 rfl rfl rfl rfl rfl (Nat.le_of_ble_eq_true rfl) rfl ?_)
      refine eL ?_
      refine W.tr [(3, .lst _ _ _), (4, .int _ _), (11, .int _ _), (12, .lst _ _ _), (13, .int _ _), (14, .ref _ _ _), (15, .int _ _), (16, .ptr _ _)] [.row _ _ _, .box _ [.int _ _, .int _ _, .int _ _, .int _ _]] ⟨rfl, rfl, rfl, rfl, rfl, rfl, rfl, rfl, trivial⟩ rfl ?_
      refine W.rL ?_
      refine cL rfl (o_fa tt25 rfl tt3 rfl ?_)
      refine cL rfl (o_ldS (v := .int _ _) tt3 rfl rfl ⟨_, rfl⟩ ?_)
      refine cL rfl (o_move (v := .int _ _) rfl ?_)
      obtain ⟨s77, hv⟩ := hv
      refine cL rfl (o_add rfl rfl s77 ?_)
      refine cL rfl (o_move (v := .int _ _) rfl ?_)
      obtain ⟨s78, hv⟩ := hv
      refine cL rfl (o_rem rfl rfl s78 ?_)
      refine cL rfl (o_fa tt25 rfl tt3 rfl ?_)
      refine cLn (o_stB (v := .int _ _) (vs := [.int _ _]) (cs2 := [.int _ _, .int _ _, .int _ _, .int _ _]) tt3 rfl rfl rfl rfl rfl (Nat.le_of_ble_eq_true rfl) rfl ?_)
      refine eL ?_
      refine W.tr [(3, .lst _ _ _), (4, .int _ _), (11, .int _ _), (12, .lst _ _ _), (13, .int _ _), (14, .ref _ _ _), (15, .int _ _), (16, .ptr _ _)] [.row _ _ _, .box _ [.int _ _, .int _ _, .int _ _, .int _ _]] ⟨rfl, rfl, rfl, rfl, rfl, rfl, rfl, rfl, trivial⟩ rfl ?_
      refine W.rL ?_
      refine cL rfl (o_fa tt25 rfl tt3 rfl ?_)
      refine cL rfl (o_ldS (v := .int _ _) tt3 rfl rfl ⟨_, rfl⟩ ?_)
      refine cL rfl (o_move (v := .int _ _) rfl ?_)
      obtain ⟨s79, hv⟩ := hv
      refine cL rfl (o_add rfl rfl s79 ?_)
      refine cL rfl (o_move (v := .int _ _) rfl ?_)
      obtain ⟨s80, hv⟩ := hv
      refine cL rfl (o_rem rfl rfl s80 ?_)
      refine cL rfl (o_fa tt25 rfl tt3 rfl ?_)
      refine cLn (o_stB (v := .int _ _) (vs := [.int _ _]) (cs2 := [.int _ _, .int _ _, .int _ _, .int _ _]) tt3 rfl rfl rfl rfl rfl (Nat.le_of_ble_eq_true rfl) rfl ?_)
      refine eL ?_
      refine W.tr [(3, .lst _ _ _), (4, .int _ _), (11, .int _ _), (12, .lst _ _ _), (13, .int _ _), (14, .ref _ _ _), (15, .int _ _), (16, .ptr _ _)] [.row _ _ _, .box _ [.int _ _, .int _ _, .int _ _, .int _ _]] ⟨rfl, rfl, rfl, rfl, rfl, rfl, rfl, rfl, trivial⟩ rfl ?_
      refine W.rL1 ?_
      refine cL rfl (o_move (v := .ref _ _ _) rfl ?_)
      refine cL rfl (o_ldA (cs := [.int _ _, .int _ _, .int _ _, .int _ _]) tt25 rfl rfl ⟨_, rfl⟩ rfl ?_)
      refine cL rfl (o_bs1 (v := .agg _) (q := 2) tt22 tt25 rfl rfl rfl rfl rfl rfl rfl rfl ?_)
      obtain ⟨s81, hv⟩ := hv
      refine cL rfl (o_apR (p := 3) (q := (r0 ++ [(Con.mk ((((lat (madeM ((1 : Int) + (pickM n (8 : Int))) x) v15).f) + (pickM by_ ((1 : Int) + (pickM n (8 : Int))))).tmod ((1 : Int) + (pickM n (8 : Int)))) ((((lat (madeM ((1 : Int) + (pickM n (8 : Int))) x) v15).t) + (pickM by_ ((1 : Int) + (pickM n (8 : Int))))).tmod ((1 : Int) + (pickM n (8 : Int)))) ((lat (madeM ((1 : Int) + (pickM n (8 : Int))) x) v15).m) ((lat (madeM ((1 : Int) + (pickM n (8 : Int))) x) v15).a))]).length) tt22 tt25 rfl rfl (src_ref rfl rfl) rfl rfl (encL_length (enc25.wd false) _) (Nat.le_trans (Nat.le_of_eq (@List.length_append _ (r0) ([(Con.mk ((((lat (madeM ((1 : Int) + (pickM n (8 : Int))) x) v15).f) + (pickM by_ ((1 : Int) + (pickM n (8 : Int))))).tmod ((1 : Int) + (pickM n (8 : Int)))) ((((lat (madeM ((1 : Int) + (pickM n (8 : Int))) x) v15).t) + (pickM by_ ((1 : Int) + (pickM n (8 : Int))))).tmod ((1 : Int) + (pickM n (8 : Int)))) ((lat (madeM ((1 : Int) + (pickM n (8 : Int))) x) v15).m) ((lat (madeM ((1 : Int) + (pickM n (8 : Int))) x) v15).a))])).symm) s81) rfl (@List.length_append _ (r0) ([(Con.mk ((((lat (madeM ((1 : Int) + (pickM n (8 : Int))) x) v15).f) + (pickM by_ ((1 : Int) + (pickM n (8 : Int))))).tmod ((1 : Int) + (pickM n (8 : Int)))) ((((lat (madeM ((1 : Int) + (pickM n (8 : Int))) x) v15).t) + (pickM by_ ((1 : Int) + (pickM n (8 : Int))))).tmod ((1 : Int) + (pickM n (8 : Int)))) ((lat (madeM ((1 : Int) + (pickM n (8 : Int))) x) v15).m) ((lat (madeM ((1 : Int) + (pickM n (8 : Int))) x) v15).a))])).symm (encL_app e25 r0 [(Con.mk ((((lat (madeM ((1 : Int) + (pickM n (8 : Int))) x) v15).f) + (pickM by_ ((1 : Int) + (pickM n (8 : Int))))).tmod ((1 : Int) + (pickM n (8 : Int)))) ((((lat (madeM ((1 : Int) + (pickM n (8 : Int))) x) v15).t) + (pickM by_ ((1 : Int) + (pickM n (8 : Int))))).tmod ((1 : Int) + (pickM n (8 : Int)))) ((lat (madeM ((1 : Int) + (pickM n (8 : Int))) x) v15).m) ((lat (madeM ((1 : Int) + (pickM n (8 : Int))) x) v15).a))]) ?_)
      refine cL rfl (o_assign (v := .ref _ _ _) rfl ?_)
      refine eL ?_
      refine bl_nrm (th_nrm ?_)
      refine W.tr [(3, .lst _ _ _), (4, .int _ _), (11, .int _ _), (12, .lst _ _ _), (13, .int _ _), (14, .ref _ _ _), (15, .int _ _)] [.dead, .box _ [.int _ _, .int _ _, .int _ _, .int _ _], .row _ _ _, .row _ _ _] ⟨rfl, rfl, rfl, rfl, rfl, rfl, rfl, trivial⟩ rfl ?_
      refine W.rL1 ?_
      refine cL rfl (o_move (v := .int _ _) rfl ?_)
      obtain ⟨s82, hv⟩ := hv
      refine cL rfl (o_add rfl rfl s82 ?_)
      refine cL rfl (o_assign (v := .int _ _) rfl ?_)
      refine eL ?_
      exact th_nrm (⟨(), (v15 + (1 : Int)), (r0 ++ [(Con.mk ((((lat (madeM ((1 : Int) + (pickM n (8 : Int))) x) v15).f) + (pickM by_ ((1 : Int) + (pickM n (8 : Int))))).tmod ((1 : Int) + (pickM n (8 : Int)))) ((((lat (madeM ((1 : Int) + (pickM n (8 : Int))) x) v15).t) + (pickM by_ ((1 : Int) + (pickM n (8 : Int))))).tmod ((1 : Int) + (pickM n (8 : Int)))) ((lat (madeM ((1 : Int) + (pickM n (8 : Int))) x) v15).m) ((lat (madeM ((1 : Int) + (pickM n (8 : Int))) x) v15).a))]), hv, St.to_mk (φ := [some 3]) rfl (.inl rfl) ⟨Ren.lst _ _ _, Ren.int _ _, Ren.int _ _, Ren.lst _ _ _, Ren.int _ _, Ren.ref rfl (fun h => rfl), Ren.int _ _, trivial⟩ ⟨.inr ⟨_, rfl, rfl, rfl, rfl, Rens.enc enc25 false (r0 ++ [(Con.mk ((((lat (madeM ((1 : Int) + (pickM n (8 : Int))) x) v15).f) + (pickM by_ ((1 : Int) + (pickM n (8 : Int))))).tmod ((1 : Int) + (pickM n (8 : Int)))) ((((lat (madeM ((1 : Int) + (pickM n (8 : Int))) x) v15).t) + (pickM by_ ((1 : Int) + (pickM n (8 : Int))))).tmod ((1 : Int) + (pickM n (8 : Int)))) ((lat (madeM ((1 : Int) + (pickM n (8 : Int))) x) v15).m) ((lat (madeM ((1 : Int) + (pickM n (8 : Int))) x) v15).a))])⟩, trivial⟩⟩)
    · have hv := hv.2 hc
      refine W.exit ?_
      refine th_exit (th_exit (bl_hit (th_nrm ?_)))
      refine W.tr [(3, .lst _ _ _), (4, .int _ _), (11, .int _ _), (12, .lst _ _ _), (13, .int _ _), (14, .ref _ _ _)] [.row _ _ _] ⟨rfl, rfl, rfl, rfl, rfl, rfl, trivial⟩ rfl ?_
      refine W.rL ?_
      refine cL rfl (o_move (v := .int _ _) rfl ?_)
      refine cL rfl (o_move (v := .lst _ _ _) rfl ?_)
      obtain ⟨s83, hv⟩ := hv
      refine cL rfl (o_callP1 (k := 15) (fst := []) (caps := []) (ys := [.int _ _, .lst _ _ _]) rfl rfl (spec_close ((1 : Int) + (pickM n (8 : Int))) (madeM ((1 : Int) + (pickM n (8 : Int))) x) s83) (Wks.cons (ag_int _ _ _ _) (Wks.cons (ag_lst _ _ _ _ _) (Wks.refl _))) ?_)
      refine cL rfl (o_move (v := .tup _) rfl ?_)
      refine cL rfl (o_ext (v := .agg _) rfl rfl ?_)
      refine cL rfl (o_ext (v := .lst _ _ _) rfl rfl ?_)
      refine cL rfl (o_ext (v := .int _ _) rfl rfl ?_)
      refine cL rfl (o_alloc (p := 1) tt34 rfl rfl ?_)
      refine cLn (o_stB (v := .agg _) (vs := [.int _ _, .lst _ _ _]) (cs2 := [.int _ _, .lst _ _ _]) tt34 rfl rfl rfl rfl rfl (Nat.le_of_ble_eq_true rfl) rfl ?_)
      refine cL rfl (o_assign (v := .lst _ _ _) rfl ?_)
      refine cL rfl (o_assign (v := .int _ _) rfl ?_)
      refine eL ?_
      refine W.tr [(3, .lst _ _ _), (4, .int _ _), (11, .int _ _), (12, .lst _ _ _), (13, .int _ _), (14, .ref _ _ _), (17, .ptr _ _), (18, .lst _ _ _), (19, .int _ _)] [.row _ _ _, .box _ [.int _ _, .lst _ _ _]] ⟨rfl, rfl, rfl, rfl, rfl, rfl, rfl, rfl, rfl, trivial⟩ rfl ?_
      refine W.rL ?_
      refine cL rfl (o_move (v := .int _ _) rfl ?_)
      refine cL rfl (o_move (v := .ref _ _ _) rfl ?_)
      obtain ⟨s84, hv⟩ := hv
      refine cL rfl (o_callP1 (k := 15) (fst := []) (caps := []) (ys := [.int _ _, .ref _ _ _]) rfl rfl (spec_close ((1 : Int) + (pickM n (8 : Int))) r0 s84) (Wks.cons (ag_int _ _ _ _) (Wks.cons (ag_ref (fl := false) (xs := r0) enc25 4 _ rfl rfl) (Wks.refl _))) ?_)
      refine cL rfl (o_move (v := .tup _) rfl ?_)
      refine cL rfl (o_ext (v := .agg _) rfl rfl ?_)
      refine cL rfl (o_ext (v := .lst _ _ _) rfl rfl ?_)
      refine cL rfl (o_ext (v := .int _ _) rfl rfl ?_)
      refine cL rfl (o_alloc (p := 2) tt34 rfl rfl ?_)
      refine cLn (o_stB (v := .agg _) (vs := [.int _ _, .lst _ _ _]) (cs2 := [.int _ _, .lst _ _ _]) tt34 rfl rfl rfl rfl rfl (Nat.le_of_ble_eq_true rfl) rfl ?_)
      refine cL rfl (o_assign (v := .lst _ _ _) rfl ?_)
      refine cL rfl (o_assign (v := .int _ _) rfl ?_)
      refine eL ?_
      refine W.tr [(3, .lst _ _ _), (4, .int _ _), (11, .int _ _), (12, .lst _ _ _), (13, .int _ _), (17, .ptr _ _), (18, .lst _ _ _), (19, .int _ _), (20, .ptr _ _), (21, .lst _ _ _), (22, .int _ _)] [.row _ _ _, .box _ [.int _ _, .lst _ _ _], .box _ [.int _ _, .lst _ _ _]] ⟨rfl, rfl, rfl, rfl, rfl, rfl, rfl, rfl, rfl, rfl, rfl, trivial⟩ rfl ?_
      refine W.seq' ?_
      obtain ⟨sd, hv⟩ := hv
      refine W.rLm ⟨184, look [(3, .lst true values.length (encL eInt values)), (4, .int .i64 shift), (11, .int .i64 ((1 : Int) + (pickM n (8 : Int)))), (12, .lst false (madeM ((1 : Int) + (pickM n (8 : Int))) x).length (encL e25 (madeM ((1 : Int) + (pickM n (8 : Int))) x))), (13, .int .i64 (pickM by_ ((1 : Int) + (pickM n (8 : Int))))), (17, .ptr 1 0), (19, .int .i64 ((closeM ((1 : Int) + (pickM n (8 : Int))) (madeM ((1 : Int) + (pickM n (8 : Int))) x)).2.2)), (20, .ptr 2 0), (96, .bool (decide ((¬ (closeM ((1 : Int) + (pickM n (8 : Int))) (madeM ((1 : Int) + (pickM n (8 : Int))) x)).2.2 = (closeM ((1 : Int) + (pickM n (8 : Int))) r0).2.2) ∨ (¬ (((closeM ((1 : Int) + (pickM n (8 : Int))) (madeM ((1 : Int) + (pickM n (8 : Int))) x)).2.1) = ((closeM ((1 : Int) + (pickM n (8 : Int))) r0).2.1))))))], [.row 25 4 (encL e25 r0), .box 34 [.int .i64 (((closeM ((1 : Int) + (pickM n (8 : Int))) (madeM ((1 : Int) + (pickM n (8 : Int))) x)).1).n), .lst false (((closeM ((1 : Int) + (pickM n (8 : Int))) (madeM ((1 : Int) + (pickM n (8 : Int))) x)).1).most).length (encL (eSl eInt true) (((closeM ((1 : Int) + (pickM n (8 : Int))) (madeM ((1 : Int) + (pickM n (8 : Int))) x)).1).most))], .box 34 [.int .i64 (((closeM ((1 : Int) + (pickM n (8 : Int))) r0).1).n), .lst false (((closeM ((1 : Int) + (pickM n (8 : Int))) r0).1).most).length (encL (eSl eInt true) (((closeM ((1 : Int) + (pickM n (8 : Int))) r0).1).most))]], false⟩ ?_ ?_
      · refine cL rfl (o_move (v := .int _ _) rfl ?_)
        refine cL rfl (o_move (v := .int _ _) rfl ?_)
        refine cL rfl (o_neI rfl rfl rfl ?_)
        refine cL rfl (o_move (v := .bool _) rfl ?_)
        by_cases c1 : ¬ (closeM ((1 : Int) + (pickM n (8 : Int))) (madeM ((1 : Int) + (pickM n (8 : Int))) x)).2.2 = (closeM ((1 : Int) + (pickM n (8 : Int))) r0).2.2
        · refine cLs rfl rfl rfl (decide_eq_true c1) ?_
          refine cLs rfl rfl rfl (decide_eq_true c1) ?_
          refine cLs rfl rfl rfl (decide_eq_true c1) ?_
          refine cLs rfl rfl rfl (decide_eq_true c1) ?_
          refine cL rfl (o_pickT (v := .bool _) rfl (decide_eq_true c1) rfl ?_)
          refine eL ?_
          exact le_mk ⟨rfl, rfl, rfl, rfl, rfl, rfl, rfl, rfl, (congrArg AV.bool (dOrT c1)).symm, trivial⟩ rfl
        · have sd := sd.2 c1
          refine cLg rfl rfl (decide_eq_false c1) ?_
          refine cL rfl (o_move (v := .lst _ _ _) rfl ?_)
          refine cLg rfl rfl (decide_eq_false c1) ?_
          refine cL rfl (o_move (v := .lst _ _ _) rfl ?_)
          refine cLg rfl rfl (decide_eq_false c1) ?_
          obtain ⟨s88, sd⟩ := sd
          refine cL rfl (o_callP1 (k := 18) (fst := []) (caps := []) (ys := [.lst _ _ _, .lst _ _ _]) rfl rfl (spec_ints ((closeM ((1 : Int) + (pickM n (8 : Int))) (madeM ((1 : Int) + (pickM n (8 : Int))) x)).2.1) ((closeM ((1 : Int) + (pickM n (8 : Int))) r0).2.1) s88) (Wks.cons (ag_lst _ _ _ _ _) (Wks.cons (ag_lst _ _ _ _ _) (Wks.refl _))) ?_)
          refine cLg rfl rfl (decide_eq_false c1) ?_
          refine cL rfl (o_not rfl ?_)
          refine cL rfl (o_pickF (v := .bool _) rfl (decide_eq_false c1) rfl ?_)
          refine eL ?_
          exact le_mk ⟨rfl, rfl, rfl, rfl, rfl, rfl, rfl, rfl, (congrArg AV.bool (dOrF c1 (rfl))).symm, trivial⟩ rfl
      · refine W.cn rfl (fun hc => ?_) (fun hc => ?_)
        · have hv := hv.1 hc
          refine W.rL ?_
          refine cL rfl (o_assign (v := .bool _) rfl ?_)
          refine eL ?_
          refine W.tr [(10, .bool _)] [.row _ _ _, .box _ [.int _ _, .lst _ _ _], .box _ [.int _ _, .lst _ _ _]] ⟨rfl, trivial⟩ rfl ?_
          refine W.ret ?_
          refine th_ret (rt ?_)
          refine rt_t (v := .bool _) rfl ?_
          refine rt_n ?_
          exact ⟨_, rs_bool _ _ _, false, rfl, hv⟩
        · have hv := hv.2 hc
          refine W.skip ?_
          refine th_nrm ?_
          refine W.tr [(3, .lst _ _ _), (4, .int _ _), (11, .int _ _), (12, .lst _ _ _), (13, .int _ _), (17, .ptr _ _), (19, .int _ _), (20, .ptr _ _)] [.row _ _ _, .box _ [.int _ _, .lst _ _ _], .box _ [.int _ _, .lst _ _ _]] ⟨rfl, rfl, rfl, rfl, rfl, rfl, rfl, rfl, trivial⟩ rfl ?_
          refine W.seq' ?_
          refine W.rL ?_
          refine cL rfl (o_assign (v := .int _ _) rfl ?_)
          refine eL ?_
          refine W.tr [(3, .lst _ _ _), (4, .int _ _), (11, .int _ _), (12, .lst _ _ _), (13, .int _ _), (17, .ptr _ _), (19, .int _ _), (20, .ptr _ _), (23, .int _ _)] [.row _ _ _, .box _ [.int _ _, .lst _ _ _], .box _ [.int _ _, .lst _ _ _]] ⟨rfl, rfl, rfl, rfl, rfl, rfl, rfl, rfl, rfl, trivial⟩ rfl ?_
          refine W.block ?_
          obtain ⟨I2, μ2, hp, hv⟩ := hv
          refine W.loop1 (fun v23 => ⟨184, look [(3, .lst true values.length (encL eInt values)), (4, .int .i64 shift), (11, .int .i64 ((1 : Int) + (pickM n (8 : Int)))), (12, .lst false (madeM ((1 : Int) + (pickM n (8 : Int))) x).length (encL e25 (madeM ((1 : Int) + (pickM n (8 : Int))) x))), (13, .int .i64 (pickM by_ ((1 : Int) + (pickM n (8 : Int))))), (17, .ptr 1 0), (19, .int .i64 ((closeM ((1 : Int) + (pickM n (8 : Int))) (madeM ((1 : Int) + (pickM n (8 : Int))) x)).2.2)), (20, .ptr 2 0), (23, .int .i64 v23)], [.dead, .box 34 [.int .i64 (((closeM ((1 : Int) + (pickM n (8 : Int))) (madeM ((1 : Int) + (pickM n (8 : Int))) x)).1).n), .lst false (((closeM ((1 : Int) + (pickM n (8 : Int))) (madeM ((1 : Int) + (pickM n (8 : Int))) x)).1).most).length (encL (eSl eInt true) (((closeM ((1 : Int) + (pickM n (8 : Int))) (madeM ((1 : Int) + (pickM n (8 : Int))) x)).1).most))], .box 34 [.int .i64 (((closeM ((1 : Int) + (pickM n (8 : Int))) r0).1).n), .lst false (((closeM ((1 : Int) + (pickM n (8 : Int))) r0).1).most).length (encL (eSl eInt true) (((closeM ((1 : Int) + (pickM n (8 : Int))) r0).1).most))]], false⟩) I2 μ2 (0 : Int) (St.to_mk (φ := [none, some 1, some 2]) rfl (.inl rfl) ⟨Ren.lst _ _ _, Ren.int _ _, Ren.int _ _, Ren.lst _ _ _, Ren.int _ _, Ren.ptr rfl, Ren.int _ _, Ren.ptr rfl, Ren.int _ _, trivial⟩ ⟨rfl, .inr ⟨_, rfl, rfl, Rens.cons (Ren.int _ _) (Rens.cons (Ren.lst _ _ _) (Rens.nil))⟩, .inr ⟨_, rfl, rfl, Rens.cons (Ren.int _ _) (Rens.cons (Ren.lst _ _ _) (Rens.nil))⟩, trivial⟩) hp ?_
          clear hp
          intro v23 hI
          replace hv := hv v23 hI
          clear hI
          refine W.seq' ?_
          refine W.rLm ⟨184, look [(3, .lst true values.length (encL eInt values)), (4, .int .i64 shift), (11, .int .i64 ((1 : Int) + (pickM n (8 : Int)))), (12, .lst false (madeM ((1 : Int) + (pickM n (8 : Int))) x).length (encL e25 (madeM ((1 : Int) + (pickM n (8 : Int))) x))), (13, .int .i64 (pickM by_ ((1 : Int) + (pickM n (8 : Int))))), (17, .ptr 1 0), (19, .int .i64 ((closeM ((1 : Int) + (pickM n (8 : Int))) (madeM ((1 : Int) + (pickM n (8 : Int))) x)).2.2)), (20, .ptr 2 0), (23, .int .i64 v23), (103, .bool (decide ((v23 < ((1 : Int) + (pickM n (8 : Int)))) ∧ ((closeM ((1 : Int) + (pickM n (8 : Int))) (madeM ((1 : Int) + (pickM n (8 : Int))) x)).2.2 = (0 : Int)))))], [.dead, .box 34 [.int .i64 (((closeM ((1 : Int) + (pickM n (8 : Int))) (madeM ((1 : Int) + (pickM n (8 : Int))) x)).1).n), .lst false (((closeM ((1 : Int) + (pickM n (8 : Int))) (madeM ((1 : Int) + (pickM n (8 : Int))) x)).1).most).length (encL (eSl eInt true) (((closeM ((1 : Int) + (pickM n (8 : Int))) (madeM ((1 : Int) + (pickM n (8 : Int))) x)).1).most))], .box 34 [.int .i64 (((closeM ((1 : Int) + (pickM n (8 : Int))) r0).1).n), .lst false (((closeM ((1 : Int) + (pickM n (8 : Int))) r0).1).most).length (encL (eSl eInt true) (((closeM ((1 : Int) + (pickM n (8 : Int))) r0).1).most))]], false⟩ ?_ ?_
          · refine cL rfl (o_move (v := .int _ _) rfl ?_)
            refine cL rfl (o_move (v := .int _ _) rfl ?_)
            refine cL rfl (o_lss rfl rfl ?_)
            refine cL rfl (o_move (v := .bool _) rfl ?_)
            by_cases c1 : v23 < ((1 : Int) + (pickM n (8 : Int)))
            · refine cLg rfl rfl (decide_eq_true c1) ?_
              refine cL rfl (o_move (v := .int _ _) rfl ?_)
              refine cLg rfl rfl (decide_eq_true c1) ?_
              refine cL rfl (o_eqI rfl rfl rfl ?_)
              refine cL rfl (o_pickT (v := .bool _) rfl (decide_eq_true c1) rfl ?_)
              refine eL ?_
              exact le_mk ⟨rfl, rfl, rfl, rfl, rfl, rfl, rfl, rfl, rfl, (congrArg AV.bool (dAndT c1 (rfl))).symm, trivial⟩ rfl
            · refine cLs rfl rfl rfl (decide_eq_false c1) ?_
              refine cLs rfl rfl rfl (decide_eq_false c1) ?_
              refine cL rfl (o_pickF (v := .bool _) rfl (decide_eq_false c1) rfl ?_)
              refine eL ?_
              exact le_mk ⟨rfl, rfl, rfl, rfl, rfl, rfl, rfl, rfl, rfl, (congrArg AV.bool (dAndF c1)).symm, trivial⟩ rfl
          · refine W.cn rfl (fun hc => ?_) (fun hc => ?_)
            · have hv := hv.1 hc
              refine W.skip ?_
              refine th_nrm ?_
              refine W.tr [(3, .lst _ _ _), (4, .int _ _), (11, .int _ _), (12, .lst _ _ _), (13, .int _ _), (17, .ptr _ _), (19, .int _ _), (20, .ptr _ _), (23, .int _ _)] [.dead, .box _ [.int _ _, .lst _ _ _], .box _ [.int _ _, .lst _ _ _]] ⟨rfl, rfl, rfl, rfl, rfl, rfl, rfl, rfl, rfl, trivial⟩ rfl ?_
              refine W.seq' ?_
              refine W.block ?_
              refine W.rL ?_
              refine cL rfl (o_assign (v := .int _ _) rfl ?_)
              refine eL ?_
              refine W.tr [(3, .lst _ _ _), (4, .int _ _), (11, .int _ _), (12, .lst _ _ _), (13, .int _ _), (17, .ptr _ _), (19, .int _ _), (20, .ptr _ _), (23, .int _ _), (24, .int _ _)] [.dead, .box _ [.int _ _, .lst _ _ _], .box _ [.int _ _, .lst _ _ _]] ⟨rfl, rfl, rfl, rfl, rfl, rfl, rfl, rfl, rfl, rfl, trivial⟩ rfl ?_
              refine W.block ?_
              obtain ⟨I3, μ3, hp, hv⟩ := hv
              refine W.loop1 (fun v24 => ⟨184, look [(3, .lst true values.length (encL eInt values)), (4, .int .i64 shift), (11, .int .i64 ((1 : Int) + (pickM n (8 : Int)))), (12, .lst false (madeM ((1 : Int) + (pickM n (8 : Int))) x).length (encL e25 (madeM ((1 : Int) + (pickM n (8 : Int))) x))), (13, .int .i64 (pickM by_ ((1 : Int) + (pickM n (8 : Int))))), (17, .ptr 1 0), (19, .int .i64 ((closeM ((1 : Int) + (pickM n (8 : Int))) (madeM ((1 : Int) + (pickM n (8 : Int))) x)).2.2)), (20, .ptr 2 0), (23, .int .i64 v23), (24, .int .i64 v24)], [.dead, .box 34 [.int .i64 (((closeM ((1 : Int) + (pickM n (8 : Int))) (madeM ((1 : Int) + (pickM n (8 : Int))) x)).1).n), .lst false (((closeM ((1 : Int) + (pickM n (8 : Int))) (madeM ((1 : Int) + (pickM n (8 : Int))) x)).1).most).length (encL (eSl eInt true) (((closeM ((1 : Int) + (pickM n (8 : Int))) (madeM ((1 : Int) + (pickM n (8 : Int))) x)).1).most))], .box 34 [.int .i64 (((closeM ((1 : Int) + (pickM n (8 : Int))) r0).1).n), .lst false (((closeM ((1 : Int) + (pickM n (8 : Int))) r0).1).most).length (encL (eSl eInt true) (((closeM ((1 : Int) + (pickM n (8 : Int))) r0).1).most))]], false⟩) I3 μ3 (0 : Int) (St.to_mk (φ := [none, some 1, some 2]) rfl (.inl rfl) ⟨Ren.lst _ _ _, Ren.int _ _, Ren.int _ _, Ren.lst _ _ _, Ren.int _ _, Ren.ptr rfl, Ren.int _ _, Ren.ptr rfl, Ren.int _ _, Ren.int _ _, trivial⟩ ⟨rfl, .inr ⟨_, rfl, rfl, Rens.cons (Ren.int _ _) (Rens.cons (Ren.lst _ _ _) (Rens.nil))⟩, .inr ⟨_, rfl, rfl, Rens.cons (Ren.int _ _) (Rens.cons (Ren.lst _ _ _) (Rens.nil))⟩, trivial⟩) hp ?_
              clear hp
              intro v24 hI
              replace hv := hv v24 hI
              clear hI
              refine W.seq' ?_
              refine W.rL ?_
              refine cL rfl (o_move (v := .int _ _) rfl ?_)
              refine cL rfl (o_move (v := .int _ _) rfl ?_)
              refine cL rfl (o_lss rfl rfl ?_)
              refine eL ?_
              refine W.tr [(3, .lst _ _ _), (4, .int _ _), (11, .int _ _), (12, .lst _ _ _), (13, .int _ _), (17, .ptr _ _), (19, .int _ _), (20, .ptr _ _), (23, .int _ _), (24, .int _ _), (108, .bool _)] [.dead, .box _ [.int _ _, .lst _ _ _], .box _ [.int _ _, .lst _ _ _]] ⟨rfl, rfl, rfl, rfl, rfl, rfl, rfl, rfl, rfl, rfl, rfl, trivial⟩ rfl ?_
              refine W.cn rfl (fun hc => ?_) (fun hc => ?_)
              · have hv := hv.1 hc
                refine W.skip ?_
                refine th_nrm ?_
                refine W.tr [(3, .lst _ _ _), (4, .int _ _), (11, .int _ _), (12, .lst _ _ _), (13, .int _ _), (17, .ptr _ _), (19, .int _ _), (20, .ptr _ _), (23, .int _ _), (24, .int _ _)] [.dead, .box _ [.int _ _, .lst _ _ _], .box _ [.int _ _, .lst _ _ _]] ⟨rfl, rfl, rfl, rfl, rfl, rfl, rfl, rfl, rfl, rfl, trivial⟩ rfl ?_
                refine W.seq' ?_
                refine W.block ?_
                refine W.rL ?_
                refine cL rfl (o_ldA (cs := [.int _ _, .lst _ _ _]) tt34 rfl rfl ⟨_, rfl⟩ rfl ?_)
                refine cL rfl (o_move (v := .int _ _) rfl ?_)
                refine cL rfl (o_move (v := .int _ _) rfl ?_)
                obtain ⟨s355, hv⟩ := hv
                obtain ⟨s356, hv⟩ := hv
                refine cL rfl (o_callP1 (k := 21) (fst := []) (caps := []) (ys := [.agg _, .int _ _, .int _ _]) rfl rfl (spec_range ((closeM ((1 : Int) + (pickM n (8 : Int))) (madeM ((1 : Int) + (pickM n (8 : Int))) x)).1) v23 v24 s355 s356) (Wks.cons (ag_agg 5 _ (Wks.cons (ag_int _ _ _ _) (Wks.cons (ag_lst _ _ _ _ _) (Wks.refl _)))) (Wks.cons (ag_int _ _ _ _) (Wks.cons (ag_int _ _ _ _) (Wks.refl _)))) ?_)
                refine cL rfl (o_move (v := .tup _) rfl ?_)
                refine cL rfl (o_ext (v := .int _ _) rfl rfl ?_)
                refine cL rfl (o_ext (v := .int _ _) rfl rfl ?_)
                refine cL rfl (o_ext (v := .int _ _) rfl rfl ?_)
                refine cL rfl (o_assign (v := .int _ _) rfl ?_)
                refine cL rfl (o_assign (v := .int _ _) rfl ?_)
                refine cL rfl (o_assign (v := .int _ _) rfl ?_)
                refine eL ?_
                refine W.tr [(3, .lst _ _ _), (4, .int _ _), (11, .int _ _), (12, .lst _ _ _), (13, .int _ _), (17, .ptr _ _), (19, .int _ _), (20, .ptr _ _), (23, .int _ _), (24, .int _ _), (25, .int _ _), (26, .int _ _), (27, .int _ _)] [.dead, .box _ [.int _ _, .lst _ _ _], .box _ [.int _ _, .lst _ _ _]] ⟨rfl, rfl, rfl, rfl, rfl, rfl, rfl, rfl, rfl, rfl, rfl, rfl, rfl, trivial⟩ rfl ?_
                refine W.rD [0, 1, 2, 3, 4, 5, 6, 7, 8, 9, 10, 11, 12, 13, 14, 15, 16, 17, 18] (by decide +kernel) rfl ?_
                refine cL rfl (o_ldA (cs := [.int _ _, .lst _ _ _]) tt34 rfl rfl ⟨_, rfl⟩ rfl ?_)
                refine cL rfl (o_move (v := .int _ _) rfl ?_)
                refine cL rfl (o_move (v := .int _ _) rfl ?_)
                obtain ⟨s357, hv⟩ := hv
                refine cL rfl (o_add rfl rfl s357 ?_)
                refine cL rfl (o_move (v := .int _ _) rfl ?_)
                obtain ⟨s358, hv⟩ := hv
                refine cL rfl (o_rem rfl rfl s358 ?_)
                refine cL rfl (o_move (v := .int _ _) rfl ?_)
                refine cL rfl (o_move (v := .int _ _) rfl ?_)
                obtain ⟨s359, hv⟩ := hv
                refine cL rfl (o_add rfl rfl s359 ?_)
                refine cL rfl (o_move (v := .int _ _) rfl ?_)
                obtain ⟨s360, hv⟩ := hv
                refine cL rfl (o_rem rfl rfl s360 ?_)
                obtain ⟨s361, hv⟩ := hv
                obtain ⟨s362, hv⟩ := hv
                refine cL rfl (o_callP1 (k := 21) (fst := []) (caps := []) (ys := [.agg _, .int _ _, .int _ _]) rfl rfl (spec_range ((closeM ((1 : Int) + (pickM n (8 : Int))) r0).1) ((v23 + (pickM by_ ((1 : Int) + (pickM n (8 : Int))))).tmod ((1 : Int) + (pickM n (8 : Int)))) ((v24 + (pickM by_ ((1 : Int) + (pickM n (8 : Int))))).tmod ((1 : Int) + (pickM n (8 : Int)))) s361 s362) (Wks.cons (ag_agg 5 _ (Wks.cons (ag_int _ _ _ _) (Wks.cons (ag_lst _ _ _ _ _) (Wks.refl _)))) (Wks.cons (ag_int _ _ _ _) (Wks.cons (ag_int _ _ _ _) (Wks.refl _)))) ?_)
                refine cL rfl (o_move (v := .tup _) rfl ?_)
                refine cL rfl (o_ext (v := .int _ _) rfl rfl ?_)
                refine cL rfl (o_ext (v := .int _ _) rfl rfl ?_)
                refine cL rfl (o_ext (v := .int _ _) rfl rfl ?_)
                refine cL rfl (o_assign (v := .int _ _) rfl ?_)
                refine cL rfl (o_assign (v := .int _ _) rfl ?_)
                refine cL rfl (o_assign (v := .int _ _) rfl ?_)
                refine eL ?_
                refine W.tr [(3, .lst _ _ _), (4, .int _ _), (11, .int _ _), (12, .lst _ _ _), (13, .int _ _), (17, .ptr _ _), (19, .int _ _), (20, .ptr _ _), (23, .int _ _), (24, .int _ _), (25, .int _ _), (26, .int _ _), (27, .int _ _), (28, .int _ _), (29, .int _ _), (30, .int _ _)] [.dead, .box _ [.int _ _, .lst _ _ _], .box _ [.int _ _, .lst _ _ _]] ⟨rfl, rfl, rfl, rfl, rfl, rfl, rfl, rfl, rfl, rfl, rfl, rfl, rfl, rfl, rfl, rfl, trivial⟩ rfl ?_
                refine W.rLm ⟨184, look [(3, .lst true values.length (encL eInt values)), (4, .int .i64 shift), (11, .int .i64 ((1 : Int) + (pickM n (8 : Int)))), (12, .lst false (madeM ((1 : Int) + (pickM n (8 : Int))) x).length (encL e25 (madeM ((1 : Int) + (pickM n (8 : Int))) x))), (13, .int .i64 (pickM by_ ((1 : Int) + (pickM n (8 : Int))))), (17, .ptr 1 0), (19, .int .i64 ((closeM ((1 : Int) + (pickM n (8 : Int))) (madeM ((1 : Int) + (pickM n (8 : Int))) x)).2.2)), (20, .ptr 2 0), (23, .int .i64 v23), (24, .int .i64 v24), (150, .bool (decide ((¬ (rangeM ((closeM ((1 : Int) + (pickM n (8 : Int))) (madeM ((1 : Int) + (pickM n (8 : Int))) x)).1) v23 v24).2.2 = (0 : Int)) ∨ ((¬ (rangeM ((closeM ((1 : Int) + (pickM n (8 : Int))) r0).1) ((v23 + (pickM by_ ((1 : Int) + (pickM n (8 : Int))))).tmod ((1 : Int) + (pickM n (8 : Int)))) ((v24 + (pickM by_ ((1 : Int) + (pickM n (8 : Int))))).tmod ((1 : Int) + (pickM n (8 : Int))))).2.2 = (0 : Int)) ∨ ((¬ (rangeM ((closeM ((1 : Int) + (pickM n (8 : Int))) (madeM ((1 : Int) + (pickM n (8 : Int))) x)).1) v23 v24).1 = (rangeM ((closeM ((1 : Int) + (pickM n (8 : Int))) r0).1) ((v23 + (pickM by_ ((1 : Int) + (pickM n (8 : Int))))).tmod ((1 : Int) + (pickM n (8 : Int)))) ((v24 + (pickM by_ ((1 : Int) + (pickM n (8 : Int))))).tmod ((1 : Int) + (pickM n (8 : Int))))).1) ∨ (¬ (rangeM ((closeM ((1 : Int) + (pickM n (8 : Int))) (madeM ((1 : Int) + (pickM n (8 : Int))) x)).1) v23 v24).2.1 = (rangeM ((closeM ((1 : Int) + (pickM n (8 : Int))) r0).1) ((v23 + (pickM by_ ((1 : Int) + (pickM n (8 : Int))))).tmod ((1 : Int) + (pickM n (8 : Int)))) ((v24 + (pickM by_ ((1 : Int) + (pickM n (8 : Int))))).tmod ((1 : Int) + (pickM n (8 : Int))))).2.1))))))], [.dead, .box 34 [.int .i64 (((closeM ((1 : Int) + (pickM n (8 : Int))) (madeM ((1 : Int) + (pickM n (8 : Int))) x)).1).n), .lst false (((closeM ((1 : Int) + (pickM n (8 : Int))) (madeM ((1 : Int) + (pickM n (8 : Int))) x)).1).most).length (encL (eSl eInt true) (((closeM ((1 : Int) + (pickM n (8 : Int))) (madeM ((1 : Int) + (pickM n (8 : Int))) x)).1).most))], .box 34 [.int .i64 (((closeM ((1 : Int) + (pickM n (8 : Int))) r0).1).n), .lst false (((closeM ((1 : Int) + (pickM n (8 : Int))) r0).1).most).length (encL (eSl eInt true) (((closeM ((1 : Int) + (pickM n (8 : Int))) r0).1).most))]], false⟩ ?_ ?_
                · refine cL rfl (o_move (v := .int _ _) rfl ?_)
                  refine cL rfl (o_neI rfl rfl rfl ?_)
                  refine cL rfl (o_move (v := .bool _) rfl ?_)
                  by_cases c1 : ¬ (rangeM ((closeM ((1 : Int) + (pickM n (8 : Int))) (madeM ((1 : Int) + (pickM n (8 : Int))) x)).1) v23 v24).2.2 = (0 : Int)
                  · refine cLs rfl rfl rfl (decide_eq_true c1) ?_
                    refine cLs rfl rfl rfl (decide_eq_true c1) ?_
                    refine cL rfl (o_pickT (v := .bool _) rfl (decide_eq_true c1) rfl ?_)
                    refine cL rfl (o_move (v := .bool _) rfl ?_)
                    refine cLs rfl rfl rfl (rfl) ?_
                    refine cLs rfl rfl rfl (rfl) ?_
                    refine cLs rfl rfl rfl (rfl) ?_
                    refine cL rfl (o_pickT (v := .bool _) rfl rfl rfl ?_)
                    refine cL rfl (o_move (v := .bool _) rfl ?_)
                    refine cLs rfl rfl rfl (rfl) ?_
                    refine cLs rfl rfl rfl (rfl) ?_
                    refine cLs rfl rfl rfl (rfl) ?_
                    refine cL rfl (o_pickT (v := .bool _) rfl rfl rfl ?_)
                    refine eL ?_
                    exact le_mk ⟨rfl, rfl, rfl, rfl, rfl, rfl, rfl, rfl, rfl, rfl, (congrArg AV.bool (dOrT c1)).symm, trivial⟩ rfl
                  · refine cLg rfl rfl (decide_eq_false c1) ?_
                    refine cL rfl (o_move (v := .int _ _) rfl ?_)
                    refine cLg rfl rfl (decide_eq_false c1) ?_
                    refine cL rfl (o_neI rfl rfl rfl ?_)
                    refine cL rfl (o_pickF (v := .bool _) rfl (decide_eq_false c1) rfl ?_)
                    refine cL rfl (o_move (v := .bool _) rfl ?_)
                    by_cases c2 : ¬ (rangeM ((closeM ((1 : Int) + (pickM n (8 : Int))) r0).1) ((v23 + (pickM by_ ((1 : Int) + (pickM n (8 : Int))))).tmod ((1 : Int) + (pickM n (8 : Int)))) ((v24 + (pickM by_ ((1 : Int) + (pickM n (8 : Int))))).tmod ((1 : Int) + (pickM n (8 : Int))))).2.2 = (0 : Int)
                    · refine cLs rfl rfl rfl (decide_eq_true c2) ?_
                      refine cLs rfl rfl rfl (decide_eq_true c2) ?_
                      refine cLs rfl rfl rfl (decide_eq_true c2) ?_
                      refine cL rfl (o_pickT (v := .bool _) rfl (decide_eq_true c2) rfl ?_)
                      refine cL rfl (o_move (v := .bool _) rfl ?_)
                      refine cLs rfl rfl rfl (rfl) ?_
                      refine cLs rfl rfl rfl (rfl) ?_
                      refine cLs rfl rfl rfl (rfl) ?_
                      refine cL rfl (o_pickT (v := .bool _) rfl rfl rfl ?_)
                      refine eL ?_
                      exact le_mk ⟨rfl, rfl, rfl, rfl, rfl, rfl, rfl, rfl, rfl, rfl, (congrArg AV.bool (dOrF c1 (dOrT c2))).symm, trivial⟩ rfl
                    · refine cLg rfl rfl (decide_eq_false c2) ?_
                      refine cL rfl (o_move (v := .int _ _) rfl ?_)
                      refine cLg rfl rfl (decide_eq_false c2) ?_
                      refine cL rfl (o_move (v := .int _ _) rfl ?_)
                      refine cLg rfl rfl (decide_eq_false c2) ?_
                      refine cL rfl (o_neI rfl rfl rfl ?_)
                      refine cL rfl (o_pickF (v := .bool _) rfl (decide_eq_false c2) rfl ?_)
                      refine cL rfl (o_move (v := .bool _) rfl ?_)
                      by_cases c3 : ¬ (rangeM ((closeM ((1 : Int) + (pickM n (8 : Int))) (madeM ((1 : Int) + (pickM n (8 : Int))) x)).1) v23 v24).1 = (rangeM ((closeM ((1 : Int) + (pickM n (8 : Int))) r0).1) ((v23 + (pickM by_ ((1 : Int) + (pickM n (8 : Int))))).tmod ((1 : Int) + (pickM n (8 : Int)))) ((v24 + (pickM by_ ((1 : Int) + (pickM n (8 : Int))))).tmod ((1 : Int) + (pickM n (8 : Int))))).1
                      · refine cLs rfl rfl rfl (decide_eq_true c3) ?_
                        refine cLs rfl rfl rfl (decide_eq_true c3) ?_
                        refine cLs rfl rfl rfl (decide_eq_true c3) ?_
                        refine cL rfl (o_pickT (v := .bool _) rfl (decide_eq_true c3) rfl ?_)
                        refine eL ?_
                        exact le_mk ⟨rfl, rfl, rfl, rfl, rfl, rfl, rfl, rfl, rfl, rfl, (congrArg AV.bool (dOrF c1 (dOrF c2 (dOrT c3)))).symm, trivial⟩ rfl
                      · refine cLg rfl rfl (decide_eq_false c3) ?_
                        refine cL rfl (o_move (v := .int _ _) rfl ?_)
                        refine cLg rfl rfl (decide_eq_false c3) ?_
                        refine cL rfl (o_move (v := .int _ _) rfl ?_)
                        refine cLg rfl rfl (decide_eq_false c3) ?_
                        refine cL rfl (o_neI rfl rfl rfl ?_)
                        refine cL rfl (o_pickF (v := .bool _) rfl (decide_eq_false c3) rfl ?_)
                        refine eL ?_
                        exact le_mk ⟨rfl, rfl, rfl, rfl, rfl, rfl, rfl, rfl, rfl, rfl, (congrArg AV.bool (dOrF c1 (dOrF c2 (dOrF c3 (rfl))))).symm, trivial⟩ rfl
                · refine W.cn rfl (fun hc => ?_) (fun hc => ?_)
                  · have hv := hv.1 hc
                    refine W.rL ?_
                    refine cL rfl (o_assign (v := .bool _) rfl ?_)
                    refine eL ?_
                    refine W.tr [(10, .bool _)] [.dead, .box _ [.int _ _, .lst _ _ _], .box _ [.int _ _, .lst _ _ _]] ⟨rfl, trivial⟩ rfl ?_
                    refine W.ret ?_
                    refine bl_ret (th_ret (th_ret (bl_ret (bl_ret (th_ret (th_ret (bl_ret (th_ret (rt ?_)))))))))
                    refine rt_t (v := .bool _) rfl ?_
                    refine rt_n ?_
                    exact ⟨_, rs_bool _ _ _, false, rfl, hv⟩
                  · have hv := hv.2 hc
                    refine W.skip ?_
                    refine bl_nrm (th_nrm ?_)
                    refine W.tr [(3, .lst _ _ _), (4, .int _ _), (11, .int _ _), (12, .lst _ _ _), (13, .int _ _), (17, .ptr _ _), (19, .int _ _), (20, .ptr _ _), (23, .int _ _), (24, .int _ _)] [.dead, .box _ [.int _ _, .lst _ _ _], .box _ [.int _ _, .lst _ _ _]] ⟨rfl, rfl, rfl, rfl, rfl, rfl, rfl, rfl, rfl, rfl, trivial⟩ rfl ?_
                    refine W.rL1 ?_
                    refine cL rfl (o_move (v := .int _ _) rfl ?_)
                    obtain ⟨s363, hv⟩ := hv
                    refine cL rfl (o_add rfl rfl s363 ?_)
                    refine cL rfl (o_assign (v := .int _ _) rfl ?_)
                    refine eL ?_
                    exact th_nrm (⟨(), (v24 + (1 : Int)), hv, St.to_mk (φ := [none, some 1, some 2]) rfl (.inl rfl) ⟨Ren.lst _ _ _, Ren.int _ _, Ren.int _ _, Ren.lst _ _ _, Ren.int _ _, Ren.ptr rfl, Ren.int _ _, Ren.ptr rfl, Ren.int _ _, Ren.int _ _, trivial⟩ ⟨rfl, .inr ⟨_, rfl, rfl, Rens.cons (Ren.int _ _) (Rens.cons (Ren.lst _ _ _) (Rens.nil))⟩, .inr ⟨_, rfl, rfl, Rens.cons (Ren.int _ _) (Rens.cons (Ren.lst _ _ _) (Rens.nil))⟩, trivial⟩⟩)
              · have hv := hv.2 hc
                refine W.exit ?_
                refine th_exit (th_exit (bl_hit (bl_nrm (th_nrm ?_))))
                refine W.tr [(3, .lst _ _ _), (4, .int _ _), (11, .int _ _), (12, .lst _ _ _), (13, .int _ _), (17, .ptr _ _), (19, .int _ _), (20, .ptr _ _), (23, .int _ _)] [.dead, .box _ [.int _ _, .lst _ _ _], .box _ [.int _ _, .lst _ _ _]] ⟨rfl, rfl, rfl, rfl, rfl, rfl, rfl, rfl, rfl, trivial⟩ rfl ?_
                refine W.rL1 ?_
                refine cL rfl (o_move (v := .int _ _) rfl ?_)
                obtain ⟨s364, hv⟩ := hv
                refine cL rfl (o_add rfl rfl s364 ?_)
                refine cL rfl (o_assign (v := .int _ _) rfl ?_)
                refine eL ?_
                exact th_nrm (⟨(), (v23 + (1 : Int)), hv, St.to_mk (φ := [none, some 1, some 2]) rfl (.inl rfl) ⟨Ren.lst _ _ _, Ren.int _ _, Ren.int _ _, Ren.lst _ _ _, Ren.int _ _, Ren.ptr rfl, Ren.int _ _, Ren.ptr rfl, Ren.int _ _, trivial⟩ ⟨rfl, .inr ⟨_, rfl, rfl, Rens.cons (Ren.int _ _) (Rens.cons (Ren.lst _ _ _) (Rens.nil))⟩, .inr ⟨_, rfl, rfl, Rens.cons (Ren.int _ _) (Rens.cons (Ren.lst _ _ _) (Rens.nil))⟩, trivial⟩⟩)
            · have hv := hv.2 hc
              refine W.exit ?_
              refine th_exit (th_exit (bl_hit (th_nrm ?_)))
              refine W.tr [(3, .lst _ _ _), (4, .int _ _), (11, .int _ _), (12, .lst _ _ _)] [.dead, .box _ [.int _ _, .lst _ _ _], .box _ [.int _ _, .lst _ _ _]] ⟨rfl, rfl, rfl, rfl, trivial⟩ rfl ?_
              refine W.rL ?_
              refine cL rfl (o_assign (v := .nilS) rfl ?_)
              refine eL ?_
              refine W.tr [(3, .lst _ _ _), (4, .int _ _), (11, .int _ _), (12, .lst _ _ _), (31, .nilS)] [.dead, .box _ [.int _ _, .lst _ _ _], .box _ [.int _ _, .lst _ _ _]] ⟨rfl, rfl, rfl, rfl, rfl, trivial⟩ rfl ?_
              refine W.rL ?_
              refine cL rfl (o_assign (v := .nilS) rfl ?_)
              refine eL ?_
              refine W.tr [(3, .lst _ _ _), (4, .int _ _), (11, .int _ _), (12, .lst _ _ _), (31, .nilS), (32, .nilS)] [.dead, .box _ [.int _ _, .lst _ _ _], .box _ [.int _ _, .lst _ _ _]] ⟨rfl, rfl, rfl, rfl, rfl, rfl, trivial⟩ rfl ?_
              refine W.seq' ?_
              refine W.rL ?_
              refine cL rfl (o_assign (v := .int _ _) rfl ?_)
              refine eL ?_
              refine W.tr [(3, .lst _ _ _), (4, .int _ _), (11, .int _ _), (12, .lst _ _ _), (31, .nilS), (32, .nilS), (33, .int _ _)] [.dead, .box _ [.int _ _, .lst _ _ _], .box _ [.int _ _, .lst _ _ _]] ⟨rfl, rfl, rfl, rfl, rfl, rfl, rfl, trivial⟩ rfl ?_
              refine W.block ?_
              obtain ⟨I4, μ4, hp, hv⟩ := hv
              refine W.loop3 (fun v33 r1 r2 => ⟨184, look [(3, .lst true values.length (encL eInt values)), (4, .int .i64 shift), (11, .int .i64 ((1 : Int) + (pickM n (8 : Int)))), (12, .lst false (madeM ((1 : Int) + (pickM n (8 : Int))) x).length (encL e25 (madeM ((1 : Int) + (pickM n (8 : Int))) x))), (31, .ref true 1 r1.length), (32, .ref true 2 r2.length), (33, .int .i64 v33)], [.dead, .row 3 1 (encL eInt r1), .row 3 1 (encL eInt r2)], false⟩) I4 μ4 (0 : Int) [] [] (St.to_mk (φ := [none, none, none]) rfl (.inl rfl) ⟨Ren.lst _ _ _, Ren.int _ _, Ren.int _ _, Ren.lst _ _ _, Ren.nilR rfl rfl, Ren.nilR rfl rfl, Ren.int _ _, trivial⟩ ⟨rfl, rfl, rfl, trivial⟩) hp ?_
              clear hp
              intro v33 r1 r2 hI
              replace hv := hv v33 r1 r2 hI
              clear hI
              refine W.seq' ?_
              refine W.rL ?_
              refine cL rfl (o_move (v := .int _ _) rfl ?_)
              refine cL rfl (o_move (v := .int _ _) rfl ?_)
              refine cL rfl (o_lss rfl rfl ?_)
              refine eL ?_
              refine W.tr [(3, .lst _ _ _), (4, .int _ _), (11, .int _ _), (12, .lst _ _ _), (31, .ref _ _ _), (32, .ref _ _ _), (33, .int _ _), (153, .bool _)] [.dead, .row _ _ _, .row _ _ _] ⟨rfl, rfl, rfl, rfl, rfl, rfl, rfl, rfl, trivial⟩ rfl ?_
              refine W.cn rfl (fun hc => ?_) (fun hc => ?_)
              · have hv := hv.1 hc
                refine W.skip ?_
                refine th_nrm ?_
                refine W.tr [(3, .lst _ _ _), (4, .int _ _), (11, .int _ _), (12, .lst _ _ _), (31, .ref _ _ _), (32, .ref _ _ _), (33, .int _ _)] [.dead, .row _ _ _, .row _ _ _] ⟨rfl, rfl, rfl, rfl, rfl, rfl, rfl, trivial⟩ rfl ?_
                refine W.seq' ?_
                refine W.block ?_
                refine W.rL ?_
                refine cL rfl (o_assign (v := .int _ _) rfl ?_)
                refine eL ?_
                refine W.tr [(3, .lst _ _ _), (4, .int _ _), (11, .int _ _), (12, .lst _ _ _), (31, .ref _ _ _), (32, .ref _ _ _), (33, .int _ _), (34, .int _ _)] [.dead, .row _ _ _, .row _ _ _] ⟨rfl, rfl, rfl, rfl, rfl, rfl, rfl, rfl, trivial⟩ rfl ?_
                obtain ⟨J5, hj, hv⟩ := hv
                refine W.mid1 (fun v34 => ⟨184, look [(3, .lst true values.length (encL eInt values)), (4, .int .i64 shift), (11, .int .i64 ((1 : Int) + (pickM n (8 : Int)))), (12, .lst false (madeM ((1 : Int) + (pickM n (8 : Int))) x).length (encL e25 (madeM ((1 : Int) + (pickM n (8 : Int))) x))), (31, .ref true 1 r1.length), (32, .ref true 2 r2.length), (33, .int .i64 v33), (34, .int .i64 v34)], [.dead, .row 3 1 (encL eInt r1), .row 3 1 (encL eInt r2)], false⟩) J5 ?_ ?_
                · intro v34
                  intro hv
                  replace hv := hj v34 hv
                  refine W.rL ?_
                  refine cL rfl (o_move (v := .ref _ _ _) rfl ?_)
                  refine cL rfl (o_move (v := .int _ _) rfl ?_)
                  refine cL rfl (o_bs1 (v := .int _ _) (q := 3) tt35 tt3 rfl rfl rfl rfl rfl rfl rfl rfl ?_)
                  obtain ⟨s497, hv⟩ := hv
                  refine cL rfl (o_apR (p := 4) (q := (r1 ++ [v34]).length) tt35 tt3 rfl rfl (src_ref rfl rfl) rfl rfl (encL_length (encInt.wd false) _) (Nat.le_trans (Nat.le_of_eq (@List.length_append _ (r1) ([v34])).symm) s497) rfl (@List.length_append _ (r1) ([v34])).symm (encL_app eInt r1 [v34]) ?_)
                  refine cL rfl (o_assign (v := .ref _ _ _) rfl ?_)
                  refine eL ?_
                  refine W.tr [(3, .lst _ _ _), (4, .int _ _), (11, .int _ _), (12, .lst _ _ _), (31, .ref _ _ _), (32, .ref _ _ _), (33, .int _ _), (34, .int _ _)] [.dead, .dead, .row _ _ _, .row _ _ _, .row _ _ _] ⟨rfl, rfl, rfl, rfl, rfl, rfl, rfl, rfl, trivial⟩ rfl ?_
                  refine W.rL1 ?_
                  refine cL rfl (o_move (v := .ref _ _ _) rfl ?_)
                  refine cL rfl (o_move (v := .int _ _) rfl ?_)
                  refine cL rfl (o_move (v := .int _ _) rfl ?_)
                  obtain ⟨s498, hv⟩ := hv
                  obtain ⟨s499, hv⟩ := hv
                  refine cL rfl (o_callP1 (k := 12) (fst := []) (caps := []) (ys := [.int _ _, .int _ _]) rfl rfl (spec_pick shift (1000 : Int) s498 s499) (Wks.cons (ag_int _ _ _ _) (Wks.cons (ag_int _ _ _ _) (Wks.refl _))) ?_)
                  obtain ⟨s500, hv⟩ := hv
                  refine cL rfl (o_add rfl rfl s500 ?_)
                  obtain ⟨s501, hv⟩ := hv
                  refine cL rfl (o_sub rfl rfl s501 ?_)
                  refine cL rfl (o_bs1 (v := .int _ _) (q := 5) tt35 tt3 rfl rfl rfl rfl rfl rfl rfl rfl ?_)
                  obtain ⟨s502, hv⟩ := hv
                  refine cL rfl (o_apR (p := 6) (q := (r2 ++ [((v34 + (pickM shift (1000 : Int))) - (500 : Int))]).length) tt35 tt3 rfl rfl (src_ref rfl rfl) rfl rfl (encL_length (encInt.wd false) _) (Nat.le_trans (Nat.le_of_eq (@List.length_append _ (r2) ([((v34 + (pickM shift (1000 : Int))) - (500 : Int))])).symm) s502) rfl (@List.length_append _ (r2) ([((v34 + (pickM shift (1000 : Int))) - (500 : Int))])).symm (encL_app eInt r2 [((v34 + (pickM shift (1000 : Int))) - (500 : Int))]) ?_)
                  refine cL rfl (o_assign (v := .ref _ _ _) rfl ?_)
                  refine eL ?_
                  refine bl_nrm (th_nrm ?_)
                  refine W.tr [(3, .lst _ _ _), (4, .int _ _), (11, .int _ _), (12, .lst _ _ _), (31, .ref _ _ _), (32, .ref _ _ _), (33, .int _ _)] [.dead, .dead, .dead, .row _ _ _, .row _ _ _, .row _ _ _, .row _ _ _] ⟨rfl, rfl, rfl, rfl, rfl, rfl, rfl, trivial⟩ rfl ?_
                  refine W.rL1 ?_
                  refine cL rfl (o_move (v := .int _ _) rfl ?_)
                  obtain ⟨s503, hv⟩ := hv
                  refine cL rfl (o_add rfl rfl s503 ?_)
                  refine cL rfl (o_assign (v := .int _ _) rfl ?_)
                  refine eL ?_
                  exact th_nrm (⟨(), (v33 + (1 : Int)), (r1 ++ [v34]), (r2 ++ [((v34 + (pickM shift (1000 : Int))) - (500 : Int))]), hv, St.to_mk (φ := [none, some 4, some 6]) rfl (.inl rfl) ⟨Ren.lst _ _ _, Ren.int _ _, Ren.int _ _, Ren.lst _ _ _, Ren.ref rfl (fun h => rfl), Ren.ref rfl (fun h => rfl), Ren.int _ _, trivial⟩ ⟨rfl, .inr ⟨_, rfl, rfl, rfl, rfl, Rens.enc encInt false (r1 ++ [v34])⟩, .inr ⟨_, rfl, rfl, rfl, rfl, Rens.enc encInt false (r2 ++ [((v34 + (pickM shift (1000 : Int))) - (500 : Int))])⟩, trivial⟩⟩)
                · clear hj
                  refine W.rL ?_
                  refine cL rfl (o_move (v := .int _ _) rfl ?_)
                  refine cL rfl (o_move (v := .lst _ _ _) rfl ?_)
                  refine cL rfl (o_len (v := .lst _ _ _) tt35 rfl rfl ?_)
                  refine cL rfl (o_lss rfl rfl ?_)
                  refine eL ?_
                  refine W.tr [(3, .lst _ _ _), (4, .int _ _), (11, .int _ _), (12, .lst _ _ _), (31, .ref _ _ _), (32, .ref _ _ _), (33, .int _ _), (34, .int _ _), (159, .bool _)] [.dead, .row _ _ _, .row _ _ _] ⟨rfl, rfl, rfl, rfl, rfl, rfl, rfl, rfl, rfl, trivial⟩ rfl ?_
                  refine W.cn rfl (fun hc => ?_) (fun hc => ?_)
                  · have hv := hv.1 hc
                    refine W.rL1 ?_
                    refine cL rfl (o_move (v := .lst _ _ _) rfl ?_)
                    refine cL rfl (o_move (v := .int _ _) rfl ?_)
                    obtain ⟨s504, hv⟩ := hv
                    refine cL rfl (o_iaL tt35 tt3 rfl rfl (encInt.wd true) rfl s504 ?_)
                    intro rest504
                    refine cL rfl (o_ldS (v := .int _ _) tt3 rfl rfl ⟨_, rfl⟩ ?_)
                    obtain ⟨s505, hv⟩ := hv
                    obtain ⟨s506, hv⟩ := hv
                    refine cL rfl (o_callP1 (k := 12) (fst := []) (caps := []) (ys := [.int _ _, .int _ _]) rfl rfl (spec_pick (lat values v33) (15 : Int) s505 s506) (Wks.cons (ag_int _ _ _ _) (Wks.cons (ag_int _ _ _ _) (Wks.refl _))) ?_)
                    refine cL rfl (o_assign (v := .int _ _) rfl ?_)
                    refine eL ?_
                    exact th_nrm (⟨(), (pickM (lat values v33) (15 : Int)), hv, St.to_mk (φ := [none, some 1, some 2]) rfl (.inl rfl) ⟨Ren.lst _ _ _, Ren.int _ _, Ren.int _ _, Ren.lst _ _ _, Ren.ref rfl (fun h => rfl), Ren.ref rfl (fun h => rfl), Ren.int _ _, Ren.int _ _, trivial⟩ ⟨rfl, .inr ⟨_, rfl, rfl, rfl, rfl, Rens.enc encInt false r1⟩, .inr ⟨_, rfl, rfl, rfl, rfl, Rens.enc encInt false r2⟩, trivial⟩⟩)
                  · have hv := hv.2 hc
                    refine W.skip ?_
                    exact th_nrm (⟨(), (0 : Int), hv, St.to_mk (φ := [none, some 1, some 2]) rfl (.inl rfl) ⟨Ren.lst _ _ _, Ren.int _ _, Ren.int _ _, Ren.lst _ _ _, Ren.ref rfl (fun h => rfl), Ren.ref rfl (fun h => rfl), Ren.int _ _, Ren.int _ _, trivial⟩ ⟨rfl, .inr ⟨_, rfl, rfl, rfl, rfl, Rens.enc encInt false r1⟩, .inr ⟨_, rfl, rfl, rfl, rfl, Rens.enc encInt false r2⟩, trivial⟩⟩)
              · have hv := hv.2 hc
                refine W.exit ?_
                refine th_exit (th_exit (bl_hit (th_nrm ?_)))
                refine W.tr [(12, .lst _ _ _), (31, .ref _ _ _), (32, .ref _ _ _)] [.dead, .row _ _ _, .row _ _ _] ⟨rfl, rfl, rfl, trivial⟩ rfl ?_
                refine W.rL ?_
                refine cL rfl (o_move (v := .lst _ _ _) rfl ?_)
                refine cL rfl (o_move (v := .ref _ _ _) rfl ?_)
                obtain ⟨s507, hv⟩ := hv
                obtain ⟨s508, hv⟩ := hv
                refine cL rfl (o_callP1 (k := 28) (fst := []) (caps := []) (ys := [.lst _ _ _, .ref _ _ _]) rfl rfl (spec_holds (madeM ((1 : Int) + (pickM n (8 : Int))) x) r1 s507 s508) (Wks.cons (ag_lst _ _ _ _ _) (Wks.cons (ag_ref (fl := false) (xs := r1) encInt 4 _ rfl rfl) (Wks.refl _))) ?_)
                refine cL rfl (o_move (v := .lst _ _ _) rfl ?_)
                refine cL rfl (o_move (v := .ref _ _ _) rfl ?_)
                obtain ⟨s509, hv⟩ := hv
                obtain ⟨s510, hv⟩ := hv
                refine cL rfl (o_callP1 (k := 28) (fst := []) (caps := []) (ys := [.lst _ _ _, .ref _ _ _]) rfl rfl (spec_holds (madeM ((1 : Int) + (pickM n (8 : Int))) x) r2 s509 s510) (Wks.cons (ag_lst _ _ _ _ _) (Wks.cons (ag_ref (fl := false) (xs := r2) encInt 4 _ rfl rfl) (Wks.refl _))) ?_)
                refine cL rfl (o_eqB rfl tt4 rfl rfl ?_)
                refine cL rfl (o_assign (v := .bool _) rfl ?_)
                refine eL ?_
                refine W.tr [(10, .bool _)] [.dead, .row _ _ _, .row _ _ _] ⟨rfl, trivial⟩ rfl ?_
                refine W.ret ?_
                refine rt ?_
                refine rt_t (v := .bool _) rfl ?_
                refine rt_n ?_
                exact ⟨_, rs_bool _ _ _, (decide ((holdsM (madeM ((1 : Int) + (pickM n (8 : Int))) x) r1) = (holdsM (madeM ((1 : Int) + (pickM n (8 : Int))) x) r2))), rfl, hv⟩
theorem vcp_Renumbered (n : Int) (x : (List A3)) (by_ : Int) (values : (List Int)) (shift : Int) (h0 : inI n) (h1 : ∀ y ∈ x, inI y.x0 ∧ inI y.x1 ∧ inI y.x2) (h2 : inI by_) (h3 : ∀ v ∈ values, inI v) (h4 : inI shift) : vc_Renumbered n x by_ values shift (fun q0 => q0 = (true)) := by
  unfold vc_Renumbered
  have hm := pickM_nonneg (c := n) (n := 8) (by omega)
  generalize hM : (1 : Int) + pickM n 8 = m
  have hm1 : 1 ≤ m ∧ m ≤ 24 := by omega
  have hm8 : m ≤ 8 := by omega
  clear hM hm
  obtain ⟨m, rfl⟩ : ∃ N : Nat, m = N := ⟨m.toNat, by omega⟩
  have hvl := made_valid (x := x) hm1
  have hll := made_len (n := m) (x := x)
  generalize madeM m x = l at hvl hll
  have hk := pickM_nonneg (c := by_) (n := (m : Int)) (by omega)
  generalize pickM by_ m = k at hk
  obtain ⟨k, rfl⟩ : ∃ N : Nat, k = N := ⟨k.toNat, by omega⟩
  have hkm : k < m := by omega
  have hgl := validM_goodn hvl
  rw [Int.toNat_natCast] at hgl
  have hposs := (validM_iff.mp hvl).2
  refine ⟨fun h => (h rfl).elim, fun _ => ⟨h0, by omega, by unfold inI; omega, by omega, by omega, h1, h2, by omega, fun v r => ∃ i : Nat, v = i ∧ i ≤ l.length ∧ r = (l.take i).map (renC m k), fun v _ => l.length - v.toNat, ⟨0, rfl, by omega, rfl⟩, ?_⟩⟩
  rintro _ r ⟨i, rfl, hi, hr⟩
  refine ⟨fun k1 => ?_, fun k1 => ?_⟩
  · have hlt : i < l.length := by omega
    have hc := hgl _ (lat_mem (xs := l) (i := i) ⟨by omega, by omega⟩)
    refine ⟨by omega, by unfold inI; omega, by omega, by unfold inI; omega, by omega, ?_, by unfold inI; omega, ⟨i + 1, by omega, by omega, ?_⟩, by dsimp only; omega⟩
    · rw [hr]; simp; omega
    · rw [take_succ_lat hlt, List.map_append, ← hr]; rfl
  have hie : i = l.length := by omega
  rw [hie, List.take_length] at hr
  subst hr
  have hvr := ren_valid hkm hvl
  have hfirst := first_ren hkm (by omega) hgl
  have hsol := ren_sol hkm hgl
  have hlen : (l.map (renC m k)).length = l.length := List.length_map _
  have hcase : (∃ mt mt', CM mt l ∧ CM mt' (l.map (renC m k)) ∧ closeM m l = (boundsM mt m, [], 0) ∧ closeM m (l.map (renC m k)) = (boundsM mt' m, [], 0)) ∨ (closeM m l = (⟨0, []⟩, firstM m l, 70) ∧ closeM m (l.map (renC m k)) = (⟨0, []⟩, firstM m l, 70)) := by
    rcases close_cases hvl with ⟨mt, c1, e1⟩ | ⟨s1, e1⟩ <;> rcases close_cases hvr with ⟨mt', c2, e2⟩ | ⟨s2, e2⟩
    · exact .inl ⟨mt, mt', c1, c2, e1, e2⟩
    · obtain ⟨y, hy⟩ := c1.sol_ex
      refine (s2 (fun q => y (sgi m k q)) ?_).elim
      rw [hsol]
      exact (SolL_local hgl fun i hi => by rw [sgi_sg hkm hi]).mp hy
    · obtain ⟨y, hy⟩ := c2.sol_ex
      exact (s1 _ ((hsol y).mp hy)).elim
    · rw [hfirst] at e2; exact .inr ⟨e1, e2⟩
  have hfl := first_len (l := l) hm1
  refine ⟨by omega, by omega, ⟨fun _ => trivial, fun _ => ⟨?_, trivial⟩⟩, fun h => ?_, fun _ => ?_⟩
  · rcases hcase with ⟨mt, mt', c1, c2, e1, e2⟩ | ⟨e1, e2⟩
    · rw [e1]; simp
    · rw [e1]
      show (firstM m l).length ≤ _
      omega
  · exfalso
    rcases hcase with ⟨mt, mt', c1, c2, e1, e2⟩ | ⟨e1, e2⟩ <;> rw [e1, e2] at h <;> simp at h
  refine ⟨fun v => ∃ i : Nat, v = i ∧ i ≤ m, fun v => m - v.toNat, ⟨0, rfl, by omega⟩, ?_⟩
  rintro _ ⟨i, rfl, hi⟩
  refine ⟨fun k2 => ⟨fun v => ∃ j : Nat, v = j ∧ j ≤ m, fun v => m - v.toNat, ⟨0, rfl, by omega⟩, ?_⟩, fun _ => ⟨fun v r1 r2 => ∃ i : Nat, v = i ∧ i ≤ m ∧ r1.length = i ∧ (∀ y ∈ r1, 0 ≤ y ∧ y < 15) ∧ r2 = r1.map fun y => y + pickM shift 1000 - 500, fun v _ _ => m - v.toNat, ⟨0, rfl, by omega, rfl, by simp, rfl⟩, ?_⟩⟩
  · rintro _ ⟨j, rfl, hj⟩
    obtain ⟨k3, k4⟩ := k2
    rcases hcase with ⟨mt, mt', c1, c2, e1, e2⟩ | ⟨e1, -⟩
    · have b1 := bounds_most_len (m := mt) hm1.2
      have b2 := bounds_most_len (m := mt') hm1.2
      rw [e1, e2]
      dsimp only
      refine ⟨fun k5 => ⟨b1.1, b1.2, by unfold inI; omega, by omega, by unfold inI; omega, by omega, b2.1, b2.2, fun h => ?_, fun _ => ⟨by unfold inI; omega, ⟨j + 1, by omega, by omega⟩, by omega⟩⟩, fun k5 => ⟨by unfold inI; omega, ⟨i + 1, by omega, by omega⟩, by omega⟩⟩
      exfalso
      have s1 := sg_lt hkm (i := i) (by omega)
      have s2 := sg_lt hkm (i := j) (by omega)
      rw [sg_int hkm (a := (i : Int)) (by omega), sg_int hkm (a := (j : Int)) (by omega), Int.toNat_natCast, Int.toNat_natCast, c1.range hm1 (by omega) (by omega), c2.range hm1 (by omega) (by omega),
        ren_entry hkm (by omega) hgl c1 c2 (by omega) (by omega), ren_entry hkm (by omega) hgl c1 c2 (by omega) (by omega)] at h
      simp at h
    · rw [e1] at k4; simp at k4
  · rintro _ r1 r2 ⟨i, rfl, hi, hr1, hr15, hr2⟩
    have hps := pickM_nonneg (c := shift) (n := 1000) (by omega)
    refine ⟨fun k3 => ⟨fun v => 0 ≤ v ∧ v < 15, fun v hv => ?_, fun k4 => ⟨by omega, h3 _ (lat_mem ⟨by omega, by omega⟩), by omega, pickM_nonneg (by omega)⟩, fun _ => by omega⟩, fun k3 => ?_⟩
    · refine ⟨by simp; omega, h4, by omega, by unfold inI; omega, by unfold inI; omega, by rw [hr2]; simp; omega, by unfold inI; omega, ⟨i + 1, by omega, by omega, by simp; omega, fun y hy => ?_, ?_⟩, by dsimp only; omega⟩
      · rcases List.mem_append.mp hy with h | h
        · exact hr15 y h
        · rw [List.mem_singleton] at h; omega
      · rw [hr2, List.map_append]; rfl
    · have him : i = m := by omega
      have hl2 : r2.length = r1.length := by rw [hr2]; simp
      refine ⟨by omega, by omega, by omega, by omega, decide_eq_true ?_⟩
      have hlat : ∀ c : Int, 0 ≤ c ∧ c < m → lat r2 c = lat r1 c + pickM shift 1000 - 500 := fun c hc => by
        obtain ⟨c, rfl⟩ : ∃ N : Nat, c = N := ⟨c.toNat, by omega⟩
        rw [lat_get (by omega), lat_get (by omega)]
        subst hr2
        simp
      have hiff : holdsM l r1 = true ↔ holdsM l r2 = true := by
        rw [holdsM_iff, holdsM_iff, hl2]
        have hb1 : ∀ v ∈ r1, -1152921504606846976 ≤ v ∧ v ≤ 1152921504606846976 := fun v hv => by have := hr15 v hv; omega
        have hb2 : ∀ v ∈ r2, -1152921504606846976 ≤ v ∧ v ≤ 1152921504606846976 := fun v hv => by
          rw [hr2, List.mem_map] at hv
          obtain ⟨y, hy, rfl⟩ := hv
          have := hr15 y hy; omega
        have hd : ∀ c ∈ l, lat r2 c.t - lat r2 c.f = lat r1 c.t - lat r1 c.f := fun c hc => by
          obtain ⟨c1, c2, -⟩ := hgl c hc
          rw [hlat _ c1, hlat _ c2]; omega
        exact ⟨fun h => ⟨⟨h.1.1, hb2⟩, fun c hc => by rw [hd c hc]; exact h.2 c hc⟩, fun h => ⟨⟨h.1.1, hb1⟩, fun c hc => by rw [← hd c hc]; exact h.2 c hc⟩⟩
      cases e1 : holdsM l r1 with
      | true => exact (hiff.mp e1).symm
      | false => cases e2 : holdsM l r2 with
        | true => rw [hiff.mpr e2] at e1; cases e1
        | false => rfl
theorem spec_Renumbered (n : Int) (x : (List A3)) (by_ : Int) (values : (List Int)) (shift : Int) (h0 : inI n) (h1 : ∀ y ∈ x, inI y.x0 ∧ inI y.x1 ∧ inI y.x2) (h2 : inI by_) (h3 : ∀ v ∈ values, inI v) (h4 : inI shift) : FnP Try.prog 10 [.int .i64 n, .lst true x.length (encL e26 x), .int .i64 by_, .lst true values.length (encL eInt values), .int .i64 shift] (fun xR => xR = .bool (true)) :=
  (walk_Renumbered (vcp_Renumbered n x by_ values shift h0 h1 h2 h3 h4)).mono (by rintro _ ⟨_, rfl, rfl⟩; rfl)
end Go.Lat
