/- The law latecomerlaw07.BoundsIncrements returns true for every input, and each argument reads afterwards as it read before. Part 10 of 11. No condition. -/
import Derived.Test.YtikbpchifcjomaaLatD
import Derived.Test.YtikbpchifcjomaaLatF
import Derived.Test.YtikbpchifcjomaaLatG
import Derived.Test.YtikbpchifcjomaaLatH
import Derived.Test.YtikbpchifcjomaaLatI
set_option linter.unusedVariables false
set_option linter.unusedSimpArgs false
set_option linter.unnecessarySimpa false
namespace Go.Lat
open Go.RowKit Go.Proofs
attribute [local irreducible] closeM rangeM pointM addBM cycleM holdsM validBM sameM madeM pickM plusM validM possM firstM tableM longerM boundsM ofM addM freeM
/-- What the walk through latecomerlaw07.BoundsIncrements asks. -/
def vc_Increments (n : Int) (x : (List A3)) (swaps : (List Int)) (Post : Bool → Prop) : Prop :=
  ((¬ true = true) → Post false) ∧ (¬ (¬ true = true) → (inI n) ∧ (1 ≤ (8 : Int)) ∧ (inI ((1 : Int) + (pickM n (8 : Int)))) ∧ (1 ≤ ((1 : Int) + (pickM n (8 : Int)))) ∧ (((1 : Int) + (pickM n (8 : Int))) ≤ 1000) ∧ (∀ y ∈ x, inI y.x0 ∧ inI y.x1 ∧ inI y.x2) ∧ ((madeM ((1 : Int) + (pickM n (8 : Int))) x).length ≤ 1073741824) ∧ (([] : (List Con)).length ≤ 1073741824) ∧ ((¬ (closeM ((1 : Int) + (pickM n (8 : Int))) ([] : (List Con))).2.2 = (0 : Int)) → Post false) ∧ (¬ (¬ (closeM ((1 : Int) + (pickM n (8 : Int))) ([] : (List Con))).2.2 = (0 : Int)) → ((madeM ((1 : Int) + (pickM n (8 : Int))) x).length ≤ 1073741824) ∧ ∃ (I1 : Int → List Con → Prop) (μ1 : Int → List Con → Nat), I1 (0 : Int) (madeM ((1 : Int) + (pickM n (8 : Int))) x) ∧ ∀ (v16 : Int) (r3 : List Con), I1 v16 r3 → (((v16 < ((swaps.length : Nat) : Int)) ∧ ((v16 < (40 : Int)) ∧ ((0 : Int) < ((r3.length : Nat) : Int)))) → (((r3.length : Nat) : Int) ≠ 0) ∧ (0 ≤ v16 ∧ v16 < (swaps.length : Int)) ∧ (inI (lat swaps v16)) ∧ (1 ≤ ((r3.length : Nat) : Int)) ∧ (0 ≤ (pickM (lat swaps v16) ((r3.length : Nat) : Int)) ∧ (pickM (lat swaps v16) ((r3.length : Nat) : Int)) < ((r3.length : Nat) : Int)) ∧ (0 ≤ (v16.tmod ((r3.length : Nat) : Int)) ∧ (v16.tmod ((r3.length : Nat) : Int)) < ((r3.length : Nat) : Int)) ∧ (0 ≤ (v16.tmod ((r3.length : Nat) : Int)) ∧ (v16.tmod ((r3.length : Nat) : Int)) < ((r3.length : Nat) : Int)) ∧ (0 ≤ (pickM (lat swaps v16) ((r3.length : Nat) : Int)) ∧ (pickM (lat swaps v16) ((r3.length : Nat) : Int)) < ((r3.length : Nat) : Int)) ∧ (inI (v16 + (1 : Int))) ∧ (I1 (v16 + (1 : Int)) ((r3.set (v16.tmod ((r3.length : Nat) : Int)).toNat (lat r3 (pickM (lat swaps v16) ((r3.length : Nat) : Int)))).set (pickM (lat swaps v16) ((r3.length : Nat) : Int)).toNat (lat r3 (v16.tmod ((r3.length : Nat) : Int)))) ∧ μ1 (v16 + (1 : Int)) ((r3.set (v16.tmod ((r3.length : Nat) : Int)).toNat (lat r3 (pickM (lat swaps v16) ((r3.length : Nat) : Int)))).set (pickM (lat swaps v16) ((r3.length : Nat) : Int)).toNat (lat r3 (v16.tmod ((r3.length : Nat) : Int)))) < μ1 v16 r3)) ∧ (¬ ((v16 < ((swaps.length : Nat) : Int)) ∧ ((v16 < (40 : Int)) ∧ ((0 : Int) < ((r3.length : Nat) : Int)))) → ∃ (I2 : Int → Int → List (List Int) → Prop) (μ2 : Int → Int → List (List Int) → Nat), I2 (0 : Int) (((closeM ((1 : Int) + (pickM n (8 : Int))) ([] : (List Con))).1).n) (((closeM ((1 : Int) + (pickM n (8 : Int))) ([] : (List Con))).1).most) ∧ ∀ (v19 : Int) (b1n : Int) (b1most : List (List Int)), I2 v19 b1n b1most → ((v19 < ((r3.length : Nat) : Int)) → (0 ≤ v19 ∧ v19 < ((r3.length : Nat) : Int)) ∧ ((Bd.mk b1n b1most).most.length ≤ 1073741824) ∧ (∀ r ∈ (Bd.mk b1n b1most).most, r.length ≤ 1073741824) ∧ ((¬ (addBM (Bd.mk b1n b1most) (lat r3 v19)).2.2 = (0 : Int)) → Post false) ∧ (¬ (¬ (addBM (Bd.mk b1n b1most) (lat r3 v19)).2.2 = (0 : Int)) → ((¬ (((addBM (Bd.mk b1n b1most) (lat r3 v19)).2.1) = true)) → Post (decide (((closeM ((1 : Int) + (pickM n (8 : Int))) (madeM ((1 : Int) + (pickM n (8 : Int))) x)).2.2 = (70 : Int)) ∧ (((addBM (Bd.mk b1n b1most) (lat r3 v19)).1).n = (0 : Int))))) ∧ (¬ (¬ (((addBM (Bd.mk b1n b1most) (lat r3 v19)).2.1) = true)) → (inI (v19 + (1 : Int))) ∧ (I2 (v19 + (1 : Int)) (((addBM (Bd.mk b1n b1most) (lat r3 v19)).1).n) (((addBM (Bd.mk b1n b1most) (lat r3 v19)).1).most) ∧ μ2 (v19 + (1 : Int)) (((addBM (Bd.mk b1n b1most) (lat r3 v19)).1).n) (((addBM (Bd.mk b1n b1most) (lat r3 v19)).1).most) < μ2 v19 b1n b1most)))) ∧ (¬ (v19 < ((r3.length : Nat) : Int)) → ((((closeM ((1 : Int) + (pickM n (8 : Int))) (madeM ((1 : Int) + (pickM n (8 : Int))) x)).2.2 = (0 : Int)) → ((Bd.mk b1n b1most).most.length ≤ 1073741824) ∧ (∀ r ∈ (Bd.mk b1n b1most).most, r.length ≤ 1073741824) ∧ (((sameM (Bd.mk b1n b1most) ((closeM ((1 : Int) + (pickM n (8 : Int))) (madeM ((1 : Int) + (pickM n (8 : Int))) x)).1)) = true) → ((Bd.mk b1n b1most).most.length ≤ 1073741824) ∧ (∀ r ∈ (Bd.mk b1n b1most).most, r.length ≤ 1073741824) ∧ True) ∧ (¬ ((sameM (Bd.mk b1n b1most) ((closeM ((1 : Int) + (pickM n (8 : Int))) (madeM ((1 : Int) + (pickM n (8 : Int))) x)).1)) = true) → True)) ∧ (¬ ((closeM ((1 : Int) + (pickM n (8 : Int))) (madeM ((1 : Int) + (pickM n (8 : Int))) x)).2.2 = (0 : Int)) → True)) ∧ (Post (decide (((closeM ((1 : Int) + (pickM n (8 : Int))) (madeM ((1 : Int) + (pickM n (8 : Int))) x)).2.2 = (0 : Int)) ∧ (((sameM (Bd.mk b1n b1most) ((closeM ((1 : Int) + (pickM n (8 : Int))) (madeM ((1 : Int) + (pickM n (8 : Int))) x)).1)) = true) ∧ ((validBM (Bd.mk b1n b1most)) = true)))))))))
set_option maxRecDepth 100000 in
set_option maxHeartbeats 4000000 in
theorem walk_Increments {n : Int} {x : (List A3)} {swaps : (List Int)} {Post : Bool → Prop} (hv : vc_Increments n x swaps Post) : FnP Try.prog 8 [.int .i64 n, .lst true x.length (encL e26 x), .lst true swaps.length (encL eInt swaps)] (fun x => ∃ q0, x = .bool q0 ∧ Post q0) := by
  refine FnP.of_walk (T := tt) (nt := 128) ttOk ttMix ⟨⟨Try.f8, Try.func8, rfl, rfl, rfl, rfl⟩⟩ (by simp) ?_
  unfold vc_Increments at hv
  change W _ _ _ ⟨128, look [(0, .int .i64 n), (1, .lst true x.length (encL e26 x)), (2, .lst true swaps.length (encL eInt swaps))], [], false⟩ _
  refine W.tr [(0, .int _ _), (1, .lst _ _ _), (2, .lst _ _ _)] [] ⟨rfl, rfl, rfl, trivial⟩ rfl ?_
  refine W.rL ?_
  refine cL rfl (o_assign (v := .bool _) rfl ?_)
  refine eL ?_
  refine W.tr [(0, .int _ _), (1, .lst _ _ _), (2, .lst _ _ _)] [] ⟨rfl, rfl, rfl, trivial⟩ rfl ?_
  refine W.seq' ?_
  refine W.rL ?_
  refine cL rfl (o_callP1 (k := 11) (fst := []) (caps := []) (ys := []) rfl rfl (spec_sane) (Wks.refl _) ?_)
  refine cL rfl (o_notB rfl ?_)
  refine eL ?_
  refine W.tr [(0, .int _ _), (1, .lst _ _ _), (2, .lst _ _ _), (24, .bool _)] [] ⟨rfl, rfl, rfl, rfl, trivial⟩ rfl ?_
  refine W.cn rfl (fun hc => ?_) (fun hc => ?_)
  · have hv := hv.1 hc
    refine W.rL ?_
    refine cL rfl (o_assign (v := .bool _) rfl ?_)
    refine eL ?_
    refine W.tr [(6, .bool _)] [] ⟨rfl, trivial⟩ rfl ?_
    refine W.ret ?_
    refine th_ret (rt ?_)
    refine rt_t (v := .bool _) rfl ?_
    refine rt_n ?_
    exact ⟨_, rs_bool _ _ _, false, rfl, hv⟩
  · have hv := hv.2 hc
    refine W.skip ?_
    refine th_nrm ?_
    refine W.tr [(0, .int _ _), (1, .lst _ _ _), (2, .lst _ _ _)] [] ⟨rfl, rfl, rfl, trivial⟩ rfl ?_
    refine W.rL ?_
    refine cL rfl (o_move (v := .int _ _) rfl ?_)
    obtain ⟨s1, hv⟩ := hv
    obtain ⟨s2, hv⟩ := hv
    refine cL rfl (o_callP1 (k := 12) (fst := []) (caps := []) (ys := [.int _ _, .int _ _]) rfl rfl (spec_pick n (8 : Int) s1 s2) (Wks.cons (ag_int _ _ _ _) (Wks.cons (ag_int _ _ _ _) (Wks.refl _))) ?_)
    obtain ⟨s3, hv⟩ := hv
    refine cL rfl (o_add rfl rfl s3 ?_)
    refine cL rfl (o_assign (v := .int _ _) rfl ?_)
    refine eL ?_
    refine W.tr [(1, .lst _ _ _), (2, .lst _ _ _), (7, .int _ _)] [] ⟨rfl, rfl, rfl, trivial⟩ rfl ?_
    refine W.rL ?_
    refine cL rfl (o_move (v := .int _ _) rfl ?_)
    refine cL rfl (o_move (v := .lst _ _ _) rfl ?_)
    obtain ⟨s4, hv⟩ := hv
    obtain ⟨s5, hv⟩ := hv
    obtain ⟨s6, hv⟩ := hv
    refine cL rfl (o_callP1 (k := 14) (fst := []) (caps := []) (ys := [.int _ _, .lst _ _ _]) rfl rfl (spec_made ((1 : Int) + (pickM n (8 : Int))) x s4 s5 s6) (Wks.cons (ag_int _ _ _ _) (Wks.cons (ag_lst _ _ _ _ _) (Wks.refl _))) ?_)
    refine cL rfl (o_assign (v := .lst _ _ _) rfl ?_)
    refine eL ?_
    refine W.tr [(2, .lst _ _ _), (7, .int _ _), (8, .lst _ _ _)] [] ⟨rfl, rfl, rfl, trivial⟩ rfl ?_
    refine W.rL ?_
    refine cL rfl (o_move (v := .int _ _) rfl ?_)
    refine cL rfl (o_move (v := .lst _ _ _) rfl ?_)
    obtain ⟨s7, hv⟩ := hv
    refine cL rfl (o_callP1 (k := 15) (fst := []) (caps := []) (ys := [.int _ _, .lst _ _ _]) rfl rfl (spec_close ((1 : Int) + (pickM n (8 : Int))) (madeM ((1 : Int) + (pickM n (8 : Int))) x) s7) (Wks.cons (ag_int _ _ _ _) (Wks.cons (ag_lst _ _ _ _ _) (Wks.refl _))) ?_)
    refine cL rfl (o_move (v := .tup _) rfl ?_)
    refine cL rfl (o_ext (v := .agg _) rfl rfl ?_)
    refine cL rfl (o_ext (v := .lst _ _ _) rfl rfl ?_)
    refine cL rfl (o_ext (v := .int _ _) rfl rfl ?_)
    refine cL rfl (o_alloc (p := 0) tt34 rfl rfl ?_)
    refine cLn (o_stB (v := .agg _) (vs := [.int _ _, .lst _ _ _]) (cs2 := [.int _ _, .lst _ _ _]) tt34 rfl rfl rfl rfl rfl (Nat.le_of_ble_eq_true rfl) rfl ?_)
    refine cL rfl (o_assign (v := .lst _ _ _) rfl ?_)
    refine cL rfl (o_assign (v := .int _ _) rfl ?_)
    refine eL ?_
    refine W.tr [(2, .lst _ _ _), (7, .int _ _), (8, .lst _ _ _), (9, .ptr _ _), (11, .int _ _)] [.box _ [.int _ _, .lst _ _ _]] ⟨rfl, rfl, rfl, rfl, rfl, trivial⟩ rfl ?_
    refine W.rL ?_
    refine cL rfl (o_move (v := .int _ _) rfl ?_)
    obtain ⟨s8, hv⟩ := hv
    refine cL rfl (o_callP1 (k := 15) (fst := []) (caps := []) (ys := [.int _ _, .nilS]) rfl rfl (spec_close ((1 : Int) + (pickM n (8 : Int))) ([] : (List Con)) s8) (Wks.cons (ag_int _ _ _ _) (Wks.cons (ag_nil _ _ _ _ rfl) (Wks.refl _))) ?_)
    refine cL rfl (o_move (v := .tup _) rfl ?_)
    refine cL rfl (o_ext (v := .agg _) rfl rfl ?_)
    refine cL rfl (o_ext (v := .lst _ _ _) rfl rfl ?_)
    refine cL rfl (o_ext (v := .int _ _) rfl rfl ?_)
    refine cL rfl (o_alloc (p := 1) tt34 rfl rfl ?_)
    refine cLn (o_stB (v := .agg _) (vs := [.int _ _, .lst _ _ _]) (cs2 := [.int _ _, .lst _ _ _]) tt34 rfl rfl rfl rfl rfl (Nat.le_of_ble_eq_true rfl) rfl ?_)
    refine cL rfl (o_assign (v := .lst _ _ _) rfl ?_)
    refine cL rfl (o_assign (v := .int _ _) rfl ?_)
    refine eL ?_
    refine W.tr [(2, .lst _ _ _), (8, .lst _ _ _), (9, .ptr _ _), (11, .int _ _), (12, .ptr _ _), (14, .int _ _)] [.box _ [.int _ _, .lst _ _ _], .box _ [.int _ _, .lst _ _ _]] ⟨rfl, rfl, rfl, rfl, rfl, rfl, trivial⟩ rfl ?_
    refine W.seq' ?_
    refine W.rL ?_
    refine cL rfl (o_move (v := .int _ _) rfl ?_)
    refine cL rfl (o_neI rfl rfl rfl ?_)
    refine eL ?_
    refine W.tr [(2, .lst _ _ _), (8, .lst _ _ _), (9, .ptr _ _), (11, .int _ _), (12, .ptr _ _), (45, .bool _)] [.box _ [.int _ _, .lst _ _ _], .box _ [.int _ _, .lst _ _ _]] ⟨rfl, rfl, rfl, rfl, rfl, rfl, trivial⟩ rfl ?_
    refine W.cn rfl (fun hc => ?_) (fun hc => ?_)
    · have hv := hv.1 hc
      refine W.rL ?_
      refine cL rfl (o_assign (v := .bool _) rfl ?_)
      refine eL ?_
      refine W.tr [(6, .bool _)] [.box _ [.int _ _, .lst _ _ _], .box _ [.int _ _, .lst _ _ _]] ⟨rfl, trivial⟩ rfl ?_
      refine W.ret ?_
      refine th_ret (rt ?_)
      refine rt_t (v := .bool _) rfl ?_
      refine rt_n ?_
      exact ⟨_, rs_bool _ _ _, false, rfl, hv⟩
    · have hv := hv.2 hc
      refine W.skip ?_
      refine th_nrm ?_
      refine W.tr [(2, .lst _ _ _), (8, .lst _ _ _), (9, .ptr _ _), (11, .int _ _), (12, .ptr _ _)] [.box _ [.int _ _, .lst _ _ _], .box _ [.int _ _, .lst _ _ _]] ⟨rfl, rfl, rfl, rfl, rfl, trivial⟩ rfl ?_
      refine W.rL ?_
      refine cL rfl (o_buildS (q := 2) (qs := []) (cs := []) tt22 tt25 rfl rfl rfl rfl ?_)
      refine cL rfl (o_move (v := .lst _ _ _) rfl ?_)
      obtain ⟨s9, hv⟩ := hv
      refine cL rfl (o_apR (p := 3) (q := (madeM ((1 : Int) + (pickM n (8 : Int))) x).length) tt22 tt25 rfl rfl (src_lst (enc25.wd true) _ _ rfl) (encL_length (enc25.wd true) _) rfl rfl (by simpa using s9) rfl (Nat.zero_add _) (List.nil_append _) ?_)
      refine cL rfl (o_assign (v := .ref _ _ _) rfl ?_)
      refine eL ?_
      refine W.tr [(2, .lst _ _ _), (9, .ptr _ _), (11, .int _ _), (12, .ptr _ _), (15, .ref _ _ _)] [.box _ [.int _ _, .lst _ _ _], .box _ [.int _ _, .lst _ _ _], .dead, .row _ _ _] ⟨rfl, rfl, rfl, rfl, rfl, trivial⟩ rfl ?_
      refine W.seq' ?_
      refine W.rL ?_
      refine cL rfl (o_assign (v := .int _ _) rfl ?_)
      refine eL ?_
      refine W.tr [(2, .lst _ _ _), (9, .ptr _ _), (11, .int _ _), (12, .ptr _ _), (15, .ref _ _ _), (16, .int _ _)] [.box _ [.int _ _, .lst _ _ _], .box _ [.int _ _, .lst _ _ _], .dead, .row _ _ _] ⟨rfl, rfl, rfl, rfl, rfl, rfl, trivial⟩ rfl ?_
      refine W.block ?_
      obtain ⟨I1, μ1, hp, hv⟩ := hv
      refine W.loop2 (fun v16 r3 => ⟨128, look [(2, .lst true swaps.length (encL eInt swaps)), (9, .ptr 0 0), (11, .int .i64 ((closeM ((1 : Int) + (pickM n (8 : Int))) (madeM ((1 : Int) + (pickM n (8 : Int))) x)).2.2)), (12, .ptr 1 0), (15, .ref false 3 r3.length), (16, .int .i64 v16)], [.box 34 [.int .i64 (((closeM ((1 : Int) + (pickM n (8 : Int))) (madeM ((1 : Int) + (pickM n (8 : Int))) x)).1).n), .lst false (((closeM ((1 : Int) + (pickM n (8 : Int))) (madeM ((1 : Int) + (pickM n (8 : Int))) x)).1).most).length (encL (eSl eInt true) (((closeM ((1 : Int) + (pickM n (8 : Int))) (madeM ((1 : Int) + (pickM n (8 : Int))) x)).1).most))], .box 34 [.int .i64 (((closeM ((1 : Int) + (pickM n (8 : Int))) ([] : (List Con))).1).n), .lst false (((closeM ((1 : Int) + (pickM n (8 : Int))) ([] : (List Con))).1).most).length (encL (eSl eInt true) (((closeM ((1 : Int) + (pickM n (8 : Int))) ([] : (List Con))).1).most))], .dead, .row 25 4 (encL e25 r3)], false⟩) I1 μ1 (0 : Int) (madeM ((1 : Int) + (pickM n (8 : Int))) x) (St.to_mk (φ := [some 0, some 1, none, some 3]) rfl (.inl rfl) ⟨Ren.lst _ _ _, Ren.ptr rfl, Ren.int _ _, Ren.ptr rfl, Ren.ref rfl (fun h => h), Ren.int _ _, trivial⟩ ⟨.inr ⟨_, rfl, rfl, Rens.cons (Ren.int _ _) (Rens.cons (Ren.lst _ _ _) (Rens.nil))⟩, .inr ⟨_, rfl, rfl, Rens.cons (Ren.int _ _) (Rens.cons (Ren.lst _ _ _) (Rens.nil))⟩, rfl, .inr ⟨_, rfl, rfl, rfl, rfl, Rens.enc enc25 false (madeM ((1 : Int) + (pickM n (8 : Int))) x)⟩, trivial⟩) hp ?_
      clear hp
      intro v16 r3 hI
      replace hv := hv v16 r3 hI
      clear hI
      refine W.seq' ?_
      refine W.rLm ⟨128, look [(2, .lst true swaps.length (encL eInt swaps)), (9, .ptr 0 0), (11, .int .i64 ((closeM ((1 : Int) + (pickM n (8 : Int))) (madeM ((1 : Int) + (pickM n (8 : Int))) x)).2.2)), (12, .ptr 1 0), (15, .ref false 3 r3.length), (16, .int .i64 v16), (61, .bool (decide ((v16 < ((swaps.length : Nat) : Int)) ∧ ((v16 < (40 : Int)) ∧ ((0 : Int) < ((r3.length : Nat) : Int))))))], [.box 34 [.int .i64 (((closeM ((1 : Int) + (pickM n (8 : Int))) (madeM ((1 : Int) + (pickM n (8 : Int))) x)).1).n), .lst false (((closeM ((1 : Int) + (pickM n (8 : Int))) (madeM ((1 : Int) + (pickM n (8 : Int))) x)).1).most).length (encL (eSl eInt true) (((closeM ((1 : Int) + (pickM n (8 : Int))) (madeM ((1 : Int) + (pickM n (8 : Int))) x)).1).most))], .box 34 [.int .i64 (((closeM ((1 : Int) + (pickM n (8 : Int))) ([] : (List Con))).1).n), .lst false (((closeM ((1 : Int) + (pickM n (8 : Int))) ([] : (List Con))).1).most).length (encL (eSl eInt true) (((closeM ((1 : Int) + (pickM n (8 : Int))) ([] : (List Con))).1).most))], .dead, .row 25 4 (encL e25 r3)], false⟩ ?_ ?_
      · refine cL rfl (o_move (v := .int _ _) rfl ?_)
        refine cL rfl (o_move (v := .lst _ _ _) rfl ?_)
        refine cL rfl (o_len (v := .lst _ _ _) tt35 rfl rfl ?_)
        refine cL rfl (o_lss rfl rfl ?_)
        refine cL rfl (o_move (v := .bool _) rfl ?_)
        by_cases c1 : v16 < ((swaps.length : Nat) : Int)
        · refine cLg rfl rfl (decide_eq_true c1) ?_
          refine cL rfl (o_move (v := .int _ _) rfl ?_)
          refine cLg rfl rfl (decide_eq_true c1) ?_
          refine cL rfl (o_lss rfl rfl ?_)
          refine cL rfl (o_pickT (v := .bool _) rfl (decide_eq_true c1) rfl ?_)
          refine cL rfl (o_move (v := .bool _) rfl ?_)
          by_cases c2 : v16 < (40 : Int)
          · refine cLg rfl rfl (decide_eq_true c2) ?_
            refine cL rfl (o_move (v := .ref _ _ _) rfl ?_)
            refine cLg rfl rfl (decide_eq_true c2) ?_
            refine cL rfl (o_len (v := .ref _ _ _) tt22 rfl rfl ?_)
            refine cLg rfl rfl (decide_eq_true c2) ?_
            refine cL rfl (o_gtr rfl rfl ?_)
            refine cL rfl (o_pickT (v := .bool _) rfl (decide_eq_true c2) rfl ?_)
            refine eL ?_
            exact le_mk ⟨rfl, rfl, rfl, rfl, rfl, rfl, (congrArg AV.bool (dAndT c1 (dAndT c2 (rfl)))).symm, trivial⟩ rfl
          · refine cLs rfl rfl rfl (decide_eq_false c2) ?_
            refine cLs rfl rfl rfl (decide_eq_false c2) ?_
            refine cLs rfl rfl rfl (decide_eq_false c2) ?_
            refine cL rfl (o_pickF (v := .bool _) rfl (decide_eq_false c2) rfl ?_)
            refine eL ?_
            exact le_mk ⟨rfl, rfl, rfl, rfl, rfl, rfl, (congrArg AV.bool (dAndT c1 (dAndF c2))).symm, trivial⟩ rfl
        · refine cLs rfl rfl rfl (decide_eq_false c1) ?_
          refine cLs rfl rfl rfl (decide_eq_false c1) ?_
          refine cL rfl (o_pickF (v := .bool _) rfl (decide_eq_false c1) rfl ?_)
          refine cL rfl (o_move (v := .bool _) rfl ?_)
          refine cLs rfl rfl rfl (rfl) ?_
          refine cLs rfl rfl rfl (rfl) ?_
          refine cLs rfl rfl rfl (rfl) ?_
          refine cL rfl (o_pickF (v := .bool _) rfl rfl rfl ?_)
          refine eL ?_
          exact le_mk ⟨rfl, rfl, rfl, rfl, rfl, rfl, (congrArg AV.bool (dAndF c1)).symm, trivial⟩ rfl
      · refine W.cn rfl (fun hc => ?_) (fun hc => ?_)
        · have hv := hv.1 hc
          refine W.skip ?_
          refine th_nrm ?_
          refine W.tr [(2, .lst _ _ _), (9, .ptr _ _), (11, .int _ _), (12, .ptr _ _), (15, .ref _ _ _), (16, .int _ _)] [.box _ [.int _ _, .lst _ _ _], .box _ [.int _ _, .lst _ _ _], .dead, .row _ _ _] ⟨rfl, rfl, rfl, rfl, rfl, rfl, trivial⟩ rfl ?_
          refine W.seq' ?_
          refine W.block ?_
          refine W.rL ?_
          refine cL rfl (o_move (v := .int _ _) rfl ?_)
          refine cL rfl (o_move (v := .ref _ _ _) rfl ?_)
          refine cL rfl (o_len (v := .ref _ _ _) tt22 rfl rfl ?_)
          obtain ⟨s103, hv⟩ := hv
          refine cL rfl (o_rem rfl rfl s103 ?_)
          refine cL rfl (o_assign (v := .int _ _) rfl ?_)
          refine eL ?_
          refine W.tr [(2, .lst _ _ _), (9, .ptr _ _), (11, .int _ _), (12, .ptr _ _), (15, .ref _ _ _), (16, .int _ _), (17, .int _ _)] [.box _ [.int _ _, .lst _ _ _], .box _ [.int _ _, .lst _ _ _], .dead, .row _ _ _] ⟨rfl, rfl, rfl, rfl, rfl, rfl, rfl, trivial⟩ rfl ?_
          refine W.rL ?_
          refine cL rfl (o_move (v := .lst _ _ _) rfl ?_)
          refine cL rfl (o_move (v := .int _ _) rfl ?_)
          obtain ⟨s104, hv⟩ := hv
          refine cL rfl (o_iaL tt35 tt3 rfl rfl (encInt.wd true) rfl s104 ?_)
          intro rest104
          refine cL rfl (o_ldS (v := .int _ _) tt3 rfl rfl ⟨_, rfl⟩ ?_)
          refine cL rfl (o_move (v := .ref _ _ _) rfl ?_)
          refine cL rfl (o_len (v := .ref _ _ _) tt22 rfl rfl ?_)
          obtain ⟨s105, hv⟩ := hv
          obtain ⟨s106, hv⟩ := hv
          refine cL rfl (o_callP1 (k := 12) (fst := []) (caps := []) (ys := [.int _ _, .int _ _]) rfl rfl (spec_pick (lat swaps v16) ((r3.length : Nat) : Int) s105 s106) (Wks.cons (ag_int _ _ _ _) (Wks.cons (ag_int _ _ _ _) (Wks.refl _))) ?_)
          refine cL rfl (o_assign (v := .int _ _) rfl ?_)
          refine eL ?_
          refine W.tr [(2, .lst _ _ _), (9, .ptr _ _), (11, .int _ _), (12, .ptr _ _), (15, .ref _ _ _), (16, .int _ _), (17, .int _ _), (18, .int _ _)] [.box _ [.int _ _, .lst _ _ _], .box _ [.int _ _, .lst _ _ _], .dead, .row _ _ _] ⟨rfl, rfl, rfl, rfl, rfl, rfl, rfl, rfl, trivial⟩ rfl ?_
          refine W.rD1 [0, 1, 2, 3, 4, 5, 6, 7, 8, 9, 10, 11, 12, 13, 14, 15] (by decide +kernel) rfl ?_
          refine cL rfl (o_move (v := .ref _ _ _) rfl ?_)
          refine cL rfl (o_move (v := .int _ _) rfl ?_)
          refine cL rfl (o_move (v := .ref _ _ _) rfl ?_)
          refine cL rfl (o_move (v := .int _ _) rfl ?_)
          refine cL rfl (o_move (v := .ref _ _ _) rfl ?_)
          refine cL rfl (o_move (v := .int _ _) rfl ?_)
          obtain ⟨s107, hv⟩ := hv
          refine cL rfl (o_iaR tt22 tt25 rfl rfl s107 ?_)
          refine cL rfl (o_ldA (cs := [.int _ _, .int _ _, .int _ _, .int _ _]) tt25 rfl rfl (ca_row (xs := r3) rfl (enc25.wd false) s107) rfl ?_)
          refine cL rfl (o_move (v := .ref _ _ _) rfl ?_)
          refine cL rfl (o_move (v := .int _ _) rfl ?_)
          obtain ⟨s108, hv⟩ := hv
          refine cL rfl (o_iaR tt22 tt25 rfl rfl s108 ?_)
          refine cL rfl (o_ldA (cs := [.int _ _, .int _ _, .int _ _, .int _ _]) tt25 rfl rfl (ca_row (xs := r3) rfl (enc25.wd false) s108) rfl ?_)
          obtain ⟨s109, hv⟩ := hv
          refine cL rfl (o_iaR tt22 tt25 rfl rfl s109 ?_)
          refine cLn (o_stR (v := .agg _) tt25 rfl rfl rfl rfl rfl (row_in (xs := r3) (enc25.wd false) s109 rfl) (row_set (e := e25) (enc25.wd false) _ _ (lat r3 (pickM (lat swaps v16) ((r3.length : Nat) : Int))) rfl s109.1 s109.2) ?_)
          obtain ⟨s110, hv⟩ := hv
          refine cL rfl (o_iaR tt22 tt25 rfl rfl s110 ?_)
          have s110q : 0 ≤ (pickM (lat swaps v16) ((r3.length : Nat) : Int)) ∧ (pickM (lat swaps v16) ((r3.length : Nat) : Int)) < (((r3.set (v16.tmod ((r3.length : Nat) : Int)).toNat (lat r3 (pickM (lat swaps v16) ((r3.length : Nat) : Int)))).length : Nat) : Int) := by simpa using s110
          refine cLn (o_stR (v := .agg _) tt25 rfl rfl rfl rfl rfl (row_in (xs := r3.set (v16.tmod ((r3.length : Nat) : Int)).toNat (lat r3 (pickM (lat swaps v16) ((r3.length : Nat) : Int)))) (enc25.wd false) s110q rfl) (row_set (e := e25) (enc25.wd false) _ _ (lat r3 (v16.tmod ((r3.length : Nat) : Int))) rfl s110q.1 s110q.2) ?_)
          refine eL ?_
          refine bl_nrm (th_nrm ?_)
          refine W.tr [(2, .lst _ _ _), (9, .ptr _ _), (11, .int _ _), (12, .ptr _ _), (15, .ref _ _ _), (16, .int _ _)] [.box _ [.int _ _, .lst _ _ _], .box _ [.int _ _, .lst _ _ _], .dead, .row _ _ _] ⟨rfl, rfl, rfl, rfl, rfl, rfl, trivial⟩ rfl ?_
          refine W.rL1 ?_
          refine cL rfl (o_move (v := .int _ _) rfl ?_)
          obtain ⟨s111, hv⟩ := hv
          refine cL rfl (o_add rfl rfl s111 ?_)
          refine cL rfl (o_assign (v := .int _ _) rfl ?_)
          refine eL ?_
          exact th_nrm (⟨(), (v16 + (1 : Int)), ((r3.set (v16.tmod ((r3.length : Nat) : Int)).toNat (lat r3 (pickM (lat swaps v16) ((r3.length : Nat) : Int)))).set (pickM (lat swaps v16) ((r3.length : Nat) : Int)).toNat (lat r3 (v16.tmod ((r3.length : Nat) : Int)))), hv, St.to_mk (φ := [some 0, some 1, none, some 3]) rfl (.inl rfl) ⟨Ren.lst _ _ _, Ren.ptr rfl, Ren.int _ _, Ren.ptr rfl, Ren.refL rfl (fun h => h) (by simp), Ren.int _ _, trivial⟩ ⟨.inr ⟨_, rfl, rfl, Rens.cons (Ren.int _ _) (Rens.cons (Ren.lst _ _ _) (Rens.nil))⟩, .inr ⟨_, rfl, rfl, Rens.cons (Ren.int _ _) (Rens.cons (Ren.lst _ _ _) (Rens.nil))⟩, rfl, .inr ⟨_, rfl, rfl, rfl, rfl, Rens.enc enc25 false ((r3.set (v16.tmod ((r3.length : Nat) : Int)).toNat (lat r3 (pickM (lat swaps v16) ((r3.length : Nat) : Int)))).set (pickM (lat swaps v16) ((r3.length : Nat) : Int)).toNat (lat r3 (v16.tmod ((r3.length : Nat) : Int))))⟩, trivial⟩⟩)
        · have hv := hv.2 hc
          refine W.exit ?_
          refine th_exit (th_exit (bl_hit (th_nrm ?_)))
          refine W.tr [(9, .ptr _ _), (11, .int _ _), (12, .ptr _ _), (15, .ref _ _ _)] [.box _ [.int _ _, .lst _ _ _], .box _ [.int _ _, .lst _ _ _], .dead, .row _ _ _] ⟨rfl, rfl, rfl, rfl, trivial⟩ rfl ?_
          refine W.seq' ?_
          refine W.rL ?_
          refine cL rfl (o_assign (v := .int _ _) rfl ?_)
          refine eL ?_
          refine W.tr [(9, .ptr _ _), (11, .int _ _), (12, .ptr _ _), (15, .ref _ _ _), (19, .int _ _)] [.box _ [.int _ _, .lst _ _ _], .box _ [.int _ _, .lst _ _ _], .dead, .row _ _ _] ⟨rfl, rfl, rfl, rfl, rfl, trivial⟩ rfl ?_
          refine W.block ?_
          obtain ⟨I2, μ2, hp, hv⟩ := hv
          refine W.loop3 (fun v19 b1n b1most => ⟨128, look [(9, .ptr 0 0), (11, .int .i64 ((closeM ((1 : Int) + (pickM n (8 : Int))) (madeM ((1 : Int) + (pickM n (8 : Int))) x)).2.2)), (12, .ptr 1 0), (15, .ref false 3 r3.length), (19, .int .i64 v19)], [.box 34 [.int .i64 (((closeM ((1 : Int) + (pickM n (8 : Int))) (madeM ((1 : Int) + (pickM n (8 : Int))) x)).1).n), .lst false (((closeM ((1 : Int) + (pickM n (8 : Int))) (madeM ((1 : Int) + (pickM n (8 : Int))) x)).1).most).length (encL (eSl eInt true) (((closeM ((1 : Int) + (pickM n (8 : Int))) (madeM ((1 : Int) + (pickM n (8 : Int))) x)).1).most))], .box 34 [.int .i64 b1n, .lst false b1most.length (encL (eSl eInt true) b1most)], .dead, .row 25 4 (encL e25 r3)], false⟩) I2 μ2 (0 : Int) (((closeM ((1 : Int) + (pickM n (8 : Int))) ([] : (List Con))).1).n) (((closeM ((1 : Int) + (pickM n (8 : Int))) ([] : (List Con))).1).most) (St.to_mk (φ := [some 0, some 1, none, some 3]) rfl (.inl rfl) ⟨Ren.ptr rfl, Ren.int _ _, Ren.ptr rfl, Ren.ref rfl (fun h => h), Ren.int _ _, trivial⟩ ⟨.inr ⟨_, rfl, rfl, Rens.cons (Ren.int _ _) (Rens.cons (Ren.lst _ _ _) (Rens.nil))⟩, .inr ⟨_, rfl, rfl, Rens.cons (Ren.int _ _) (Rens.cons (Ren.lst _ _ _) (Rens.nil))⟩, rfl, .inr ⟨_, rfl, rfl, rfl, rfl, Rens.enc enc25 false r3⟩, trivial⟩) hp ?_
          clear hp
          intro v19 b1n b1most hI
          replace hv := hv v19 b1n b1most hI
          clear hI
          refine W.seq' ?_
          refine W.rL ?_
          refine cL rfl (o_move (v := .int _ _) rfl ?_)
          refine cL rfl (o_move (v := .ref _ _ _) rfl ?_)
          refine cL rfl (o_len (v := .ref _ _ _) tt22 rfl rfl ?_)
          refine cL rfl (o_lss rfl rfl ?_)
          refine eL ?_
          refine W.tr [(9, .ptr _ _), (11, .int _ _), (12, .ptr _ _), (15, .ref _ _ _), (19, .int _ _), (92, .bool _)] [.box _ [.int _ _, .lst _ _ _], .box _ [.int _ _, .lst _ _ _], .dead, .row _ _ _] ⟨rfl, rfl, rfl, rfl, rfl, rfl, trivial⟩ rfl ?_
          refine W.cn rfl (fun hc => ?_) (fun hc => ?_)
          · have hv := hv.1 hc
            refine W.skip ?_
            refine th_nrm ?_
            refine W.tr [(9, .ptr _ _), (11, .int _ _), (12, .ptr _ _), (15, .ref _ _ _), (19, .int _ _)] [.box _ [.int _ _, .lst _ _ _], .box _ [.int _ _, .lst _ _ _], .dead, .row _ _ _] ⟨rfl, rfl, rfl, rfl, rfl, trivial⟩ rfl ?_
            refine W.seq' ?_
            refine W.block ?_
            refine W.rP [0, 1, 2, 3, 4, 10, 5, 6, 7, 8, 9, 11, 12, 13] (by decide +kernel) rfl ?_
            refine cL rfl (o_ldA (cs := [.int _ _, .lst _ _ _]) tt34 rfl rfl ⟨_, rfl⟩ rfl ?_)
            refine cL rfl (o_move (v := .ref _ _ _) rfl ?_)
            refine cL rfl (o_move (v := .int _ _) rfl ?_)
            obtain ⟨s150, hv⟩ := hv
            refine cL rfl (o_iaR tt22 tt25 rfl rfl s150 ?_)
            refine cL rfl (o_ldA (cs := [.int _ _, .int _ _, .int _ _, .int _ _]) tt25 rfl rfl (ca_row (xs := r3) rfl (enc25.wd false) s150) rfl ?_)
            refine cL rfl (o_alloc (p := 4) tt34 rfl rfl ?_)
            obtain ⟨s151, hv⟩ := hv
            obtain ⟨s152, hv⟩ := hv
            refine cL rfl (o_callP1 (k := 19) (fst := []) (caps := []) (ys := [.agg _, .agg _]) rfl rfl (spec_addb (Bd.mk b1n b1most) (lat r3 v19) s151 s152) (Wks.cons (ag_agg 5 _ (Wks.cons (ag_int _ _ _ _) (Wks.cons (ag_lst _ _ _ _ _) (Wks.refl _)))) (Wks.cons (ag_agg 5 _ (Wks.cons (ag_int _ _ _ _) (Wks.cons (ag_int _ _ _ _) (Wks.cons (ag_int _ _ _ _) (Wks.cons (ag_int _ _ _ _) (Wks.refl _)))))) (Wks.refl _))) ?_)
            refine cL rfl (o_move (v := .tup _) rfl ?_)
            refine cL rfl (o_ext (v := .agg _) rfl rfl ?_)
            refine cL rfl (o_ext (v := .bool _) rfl rfl ?_)
            refine cL rfl (o_ext (v := .int _ _) rfl rfl ?_)
            refine cLn (o_stB (v := .agg _) (vs := [.int _ _, .lst _ _ _]) (cs2 := [.int _ _, .lst _ _ _]) tt34 rfl rfl rfl rfl rfl (Nat.le_of_ble_eq_true rfl) rfl ?_)
            refine cL rfl (o_assign (v := .bool _) rfl ?_)
            refine cL rfl (o_assign (v := .int _ _) rfl ?_)
            refine eL ?_
            refine W.tr [(9, .ptr _ _), (11, .int _ _), (12, .ptr _ _), (15, .ref _ _ _), (19, .int _ _), (20, .ptr _ _), (21, .bool _), (22, .int _ _)] [.box _ [.int _ _, .lst _ _ _], .box _ [.int _ _, .lst _ _ _], .dead, .row _ _ _, .box _ [.int _ _, .lst _ _ _]] ⟨rfl, rfl, rfl, rfl, rfl, rfl, rfl, rfl, trivial⟩ rfl ?_
            refine W.seq' ?_
            refine W.rL ?_
            refine cL rfl (o_move (v := .int _ _) rfl ?_)
            refine cL rfl (o_neI rfl rfl rfl ?_)
            refine eL ?_
            refine W.tr [(9, .ptr _ _), (11, .int _ _), (12, .ptr _ _), (15, .ref _ _ _), (19, .int _ _), (20, .ptr _ _), (21, .bool _), (106, .bool _)] [.box _ [.int _ _, .lst _ _ _], .box _ [.int _ _, .lst _ _ _], .dead, .row _ _ _, .box _ [.int _ _, .lst _ _ _]] ⟨rfl, rfl, rfl, rfl, rfl, rfl, rfl, rfl, trivial⟩ rfl ?_
            refine W.cn rfl (fun hc => ?_) (fun hc => ?_)
            · have hv := hv.1 hc
              refine W.rL ?_
              refine cL rfl (o_assign (v := .bool _) rfl ?_)
              refine eL ?_
              refine W.tr [(6, .bool _)] [.box _ [.int _ _, .lst _ _ _], .box _ [.int _ _, .lst _ _ _], .dead, .row _ _ _, .box _ [.int _ _, .lst _ _ _]] ⟨rfl, trivial⟩ rfl ?_
              refine W.ret ?_
              refine th_ret (bl_ret (th_ret (th_ret (bl_ret (th_ret (rt ?_))))))
              refine rt_t (v := .bool _) rfl ?_
              refine rt_n ?_
              exact ⟨_, rs_bool _ _ _, false, rfl, hv⟩
            · have hv := hv.2 hc
              refine W.skip ?_
              refine th_nrm ?_
              refine W.tr [(9, .ptr _ _), (11, .int _ _), (12, .ptr _ _), (15, .ref _ _ _), (19, .int _ _), (20, .ptr _ _), (21, .bool _)] [.box _ [.int _ _, .lst _ _ _], .box _ [.int _ _, .lst _ _ _], .dead, .row _ _ _, .box _ [.int _ _, .lst _ _ _]] ⟨rfl, rfl, rfl, rfl, rfl, rfl, rfl, trivial⟩ rfl ?_
              refine W.seq' ?_
              refine W.rL ?_
              refine cL rfl (o_move (v := .bool _) rfl ?_)
              refine cL rfl (o_notB rfl ?_)
              refine eL ?_
              refine W.tr [(9, .ptr _ _), (11, .int _ _), (12, .ptr _ _), (15, .ref _ _ _), (19, .int _ _), (20, .ptr _ _), (108, .bool _)] [.box _ [.int _ _, .lst _ _ _], .box _ [.int _ _, .lst _ _ _], .dead, .row _ _ _, .box _ [.int _ _, .lst _ _ _]] ⟨rfl, rfl, rfl, rfl, rfl, rfl, rfl, trivial⟩ rfl ?_
              refine W.cn rfl (fun hc => ?_) (fun hc => ?_)
              · have hv := hv.1 hc
                refine W.rLm ⟨128, look [(6, .bool (decide (((closeM ((1 : Int) + (pickM n (8 : Int))) (madeM ((1 : Int) + (pickM n (8 : Int))) x)).2.2 = (70 : Int)) ∧ (((addBM (Bd.mk b1n b1most) (lat r3 v19)).1).n = (0 : Int)))))], [.box 34 [.int .i64 (((closeM ((1 : Int) + (pickM n (8 : Int))) (madeM ((1 : Int) + (pickM n (8 : Int))) x)).1).n), .lst false (((closeM ((1 : Int) + (pickM n (8 : Int))) (madeM ((1 : Int) + (pickM n (8 : Int))) x)).1).most).length (encL (eSl eInt true) (((closeM ((1 : Int) + (pickM n (8 : Int))) (madeM ((1 : Int) + (pickM n (8 : Int))) x)).1).most))], .box 34 [.int .i64 b1n, .lst false b1most.length (encL (eSl eInt true) b1most)], .dead, .row 25 4 (encL e25 r3), .box 34 [.int .i64 (((addBM (Bd.mk b1n b1most) (lat r3 v19)).1).n), .lst false (((addBM (Bd.mk b1n b1most) (lat r3 v19)).1).most).length (encL (eSl eInt true) (((addBM (Bd.mk b1n b1most) (lat r3 v19)).1).most))]], false⟩ ?_ ?_
                · refine cL rfl (o_move (v := .int _ _) rfl ?_)
                  refine cL rfl (o_eqI rfl rfl rfl ?_)
                  refine cL rfl (o_move (v := .bool _) rfl ?_)
                  by_cases c1 : (closeM ((1 : Int) + (pickM n (8 : Int))) (madeM ((1 : Int) + (pickM n (8 : Int))) x)).2.2 = (70 : Int)
                  · refine cLg rfl rfl (decide_eq_true c1) ?_
                    refine cL rfl (o_fa tt34 rfl tt3 rfl ?_)
                    refine cLg rfl rfl (decide_eq_true c1) ?_
                    refine cL rfl (o_ldS (v := .int _ _) tt3 rfl rfl ⟨_, rfl⟩ ?_)
                    refine cLg rfl rfl (decide_eq_true c1) ?_
                    refine cL rfl (o_eqI rfl rfl rfl ?_)
                    refine cL rfl (o_pickT (v := .bool _) rfl (decide_eq_true c1) rfl ?_)
                    refine cL rfl (o_assign (v := .bool _) rfl ?_)
                    refine eL ?_
                    exact le_mk ⟨(congrArg AV.bool (dAndT c1 (rfl))).symm, trivial⟩ rfl
                  · refine cLs rfl rfl rfl (decide_eq_false c1) ?_
                    refine cLs rfl rfl rfl (decide_eq_false c1) ?_
                    refine cLs rfl rfl rfl (decide_eq_false c1) ?_
                    refine cL rfl (o_pickF (v := .bool _) rfl (decide_eq_false c1) rfl ?_)
                    refine cL rfl (o_assign (v := .bool _) rfl ?_)
                    refine eL ?_
                    exact le_mk ⟨(congrArg AV.bool (dAndF c1)).symm, trivial⟩ rfl
                · refine W.ret ?_
                  refine th_ret (bl_ret (th_ret (th_ret (bl_ret (th_ret (rt ?_))))))
                  refine rt_t (v := .bool _) rfl ?_
                  refine rt_n ?_
                  exact ⟨_, rs_bool _ _ _, (decide (((closeM ((1 : Int) + (pickM n (8 : Int))) (madeM ((1 : Int) + (pickM n (8 : Int))) x)).2.2 = (70 : Int)) ∧ (((addBM (Bd.mk b1n b1most) (lat r3 v19)).1).n = (0 : Int)))), rfl, hv⟩
              · have hv := hv.2 hc
                refine W.skip ?_
                refine th_nrm ?_
                refine W.tr [(9, .ptr _ _), (11, .int _ _), (12, .ptr _ _), (15, .ref _ _ _), (19, .int _ _), (20, .ptr _ _)] [.box _ [.int _ _, .lst _ _ _], .box _ [.int _ _, .lst _ _ _], .dead, .row _ _ _, .box _ [.int _ _, .lst _ _ _]] ⟨rfl, rfl, rfl, rfl, rfl, rfl, trivial⟩ rfl ?_
                refine W.rL1 ?_
                refine cL rfl (o_ldA (cs := [.int _ _, .lst _ _ _]) tt34 rfl rfl ⟨_, rfl⟩ rfl ?_)
                refine cLn (o_stB (v := .agg _) (vs := [.int _ _, .lst _ _ _]) (cs2 := [.int _ _, .lst _ _ _]) tt34 rfl rfl rfl rfl rfl (Nat.le_of_ble_eq_true rfl) rfl ?_)
                refine eL ?_
                refine bl_nrm (th_nrm ?_)
                refine W.tr [(9, .ptr _ _), (11, .int _ _), (12, .ptr _ _), (15, .ref _ _ _), (19, .int _ _)] [.box _ [.int _ _, .lst _ _ _], .box _ [.int _ _, .lst _ _ _], .dead, .row _ _ _, .box _ [.int _ _, .lst _ _ _]] ⟨rfl, rfl, rfl, rfl, rfl, trivial⟩ rfl ?_
                refine W.rL1 ?_
                refine cL rfl (o_move (v := .int _ _) rfl ?_)
                obtain ⟨s153, hv⟩ := hv
                refine cL rfl (o_add rfl rfl s153 ?_)
                refine cL rfl (o_assign (v := .int _ _) rfl ?_)
                refine eL ?_
                exact th_nrm (⟨(), (v19 + (1 : Int)), (((addBM (Bd.mk b1n b1most) (lat r3 v19)).1).n), (((addBM (Bd.mk b1n b1most) (lat r3 v19)).1).most), hv, St.to_mk (φ := [some 0, some 1, none, some 3]) rfl (.inl rfl) ⟨Ren.ptr rfl, Ren.int _ _, Ren.ptr rfl, Ren.ref rfl (fun h => h), Ren.int _ _, trivial⟩ ⟨.inr ⟨_, rfl, rfl, Rens.cons (Ren.int _ _) (Rens.cons (Ren.lst _ _ _) (Rens.nil))⟩, .inr ⟨_, rfl, rfl, Rens.cons (Ren.int _ _) (Rens.cons (Ren.lst _ _ _) (Rens.nil))⟩, rfl, .inr ⟨_, rfl, rfl, rfl, rfl, Rens.enc enc25 false r3⟩, trivial⟩⟩)
          · have hv := hv.2 hc
            refine W.exit ?_
            refine th_exit (th_exit (bl_hit (th_nrm ?_)))
            refine W.tr [(9, .ptr _ _), (11, .int _ _), (12, .ptr _ _)] [.box _ [.int _ _, .lst _ _ _], .box _ [.int _ _, .lst _ _ _], .dead, .row _ _ _] ⟨rfl, rfl, rfl, trivial⟩ rfl ?_
            obtain ⟨sd, hv⟩ := hv
            refine W.rLm ⟨128, look [(6, .bool (decide (((closeM ((1 : Int) + (pickM n (8 : Int))) (madeM ((1 : Int) + (pickM n (8 : Int))) x)).2.2 = (0 : Int)) ∧ (((sameM (Bd.mk b1n b1most) ((closeM ((1 : Int) + (pickM n (8 : Int))) (madeM ((1 : Int) + (pickM n (8 : Int))) x)).1)) = true) ∧ ((validBM (Bd.mk b1n b1most)) = true)))))], [.box 34 [.int .i64 (((closeM ((1 : Int) + (pickM n (8 : Int))) (madeM ((1 : Int) + (pickM n (8 : Int))) x)).1).n), .lst false (((closeM ((1 : Int) + (pickM n (8 : Int))) (madeM ((1 : Int) + (pickM n (8 : Int))) x)).1).most).length (encL (eSl eInt true) (((closeM ((1 : Int) + (pickM n (8 : Int))) (madeM ((1 : Int) + (pickM n (8 : Int))) x)).1).most))], .box 34 [.int .i64 b1n, .lst false b1most.length (encL (eSl eInt true) b1most)], .dead, .row 25 4 (encL e25 r3)], false⟩ ?_ ?_
            · refine cL rfl (o_move (v := .int _ _) rfl ?_)
              refine cL rfl (o_eqI rfl rfl rfl ?_)
              refine cL rfl (o_move (v := .bool _) rfl ?_)
              by_cases c1 : (closeM ((1 : Int) + (pickM n (8 : Int))) (madeM ((1 : Int) + (pickM n (8 : Int))) x)).2.2 = (0 : Int)
              · have sd := sd.1 c1
                refine cLg rfl rfl (decide_eq_true c1) ?_
                refine cL rfl (o_ldA (cs := [.int _ _, .lst _ _ _]) tt34 rfl rfl ⟨_, rfl⟩ rfl ?_)
                refine cLg rfl rfl (decide_eq_true c1) ?_
                refine cL rfl (o_ldA (cs := [.int _ _, .lst _ _ _]) tt34 rfl rfl ⟨_, rfl⟩ rfl ?_)
                refine cLg rfl rfl (decide_eq_true c1) ?_
                obtain ⟨s158, sd⟩ := sd
                obtain ⟨s159, sd⟩ := sd
                refine cL rfl (o_callP1 (k := 27) (fst := []) (caps := []) (ys := [.agg _, .agg _]) rfl rfl (spec_same (Bd.mk b1n b1most) ((closeM ((1 : Int) + (pickM n (8 : Int))) (madeM ((1 : Int) + (pickM n (8 : Int))) x)).1) s158 s159) (Wks.cons (ag_agg 5 _ (Wks.cons (ag_int _ _ _ _) (Wks.cons (ag_lst _ _ _ _ _) (Wks.refl _)))) (Wks.cons (ag_agg 5 _ (Wks.cons (ag_int _ _ _ _) (Wks.cons (ag_lst _ _ _ _ _) (Wks.refl _)))) (Wks.refl _))) ?_)
                refine cL rfl (o_pickT (v := .bool _) rfl (decide_eq_true c1) rfl ?_)
                refine cL rfl (o_move (v := .bool _) rfl ?_)
                by_cases c2 : (sameM (Bd.mk b1n b1most) ((closeM ((1 : Int) + (pickM n (8 : Int))) (madeM ((1 : Int) + (pickM n (8 : Int))) x)).1)) = true
                · have sd := sd.1 c2
                  refine cLg rfl rfl (c2) ?_
                  refine cL rfl (o_ldA (cs := [.int _ _, .lst _ _ _]) tt34 rfl rfl ⟨_, rfl⟩ rfl ?_)
                  refine cLg rfl rfl (c2) ?_
                  obtain ⟨s160, sd⟩ := sd
                  obtain ⟨s161, sd⟩ := sd
                  refine cL rfl (o_callP1 (k := 25) (fst := []) (caps := []) (ys := [.agg _]) rfl rfl (spec_vald (Bd.mk b1n b1most) s160 s161) (Wks.cons (ag_agg 5 _ (Wks.cons (ag_int _ _ _ _) (Wks.cons (ag_lst _ _ _ _ _) (Wks.refl _)))) (Wks.refl _)) ?_)
                  refine cL rfl (o_pickT (v := .bool _) rfl c2 rfl ?_)
                  refine cL rfl (o_assign (v := .bool _) rfl ?_)
                  refine eL ?_
                  exact le_mk ⟨(congrArg AV.bool (dAndT c1 (dAndT c2 (dVar _)))).symm, trivial⟩ rfl
                · refine cLs rfl rfl rfl ((Bool.eq_false_iff.2 c2)) ?_
                  refine cLs rfl rfl rfl ((Bool.eq_false_iff.2 c2)) ?_
                  refine cL rfl (o_pickF (v := .bool _) rfl (Bool.eq_false_iff.2 c2) rfl ?_)
                  refine cL rfl (o_assign (v := .bool _) rfl ?_)
                  refine eL ?_
                  exact le_mk ⟨(congrArg AV.bool (dAndT c1 (dAndF c2))).symm, trivial⟩ rfl
              · refine cLs rfl rfl rfl (decide_eq_false c1) ?_
                refine cLs rfl rfl rfl (decide_eq_false c1) ?_
                refine cLs rfl rfl rfl (decide_eq_false c1) ?_
                refine cL rfl (o_pickF (v := .bool _) rfl (decide_eq_false c1) rfl ?_)
                refine cL rfl (o_move (v := .bool _) rfl ?_)
                refine cLs rfl rfl rfl (rfl) ?_
                refine cLs rfl rfl rfl (rfl) ?_
                refine cL rfl (o_pickF (v := .bool _) rfl rfl rfl ?_)
                refine cL rfl (o_assign (v := .bool _) rfl ?_)
                refine eL ?_
                exact le_mk ⟨(congrArg AV.bool (dAndF c1)).symm, trivial⟩ rfl
            · refine W.ret ?_
              refine rt ?_
              refine rt_t (v := .bool _) rfl ?_
              refine rt_n ?_
              exact ⟨_, rs_bool _ _ _, (decide (((closeM ((1 : Int) + (pickM n (8 : Int))) (madeM ((1 : Int) + (pickM n (8 : Int))) x)).2.2 = (0 : Int)) ∧ (((sameM (Bd.mk b1n b1most) ((closeM ((1 : Int) + (pickM n (8 : Int))) (madeM ((1 : Int) + (pickM n (8 : Int))) x)).1)) = true) ∧ ((validBM (Bd.mk b1n b1most)) = true)))), rfl, hv⟩
theorem vcp_Increments (n : Int) (x : (List A3)) (swaps : (List Int)) (h0 : inI n) (h1 : ∀ y ∈ x, inI y.x0 ∧ inI y.x1 ∧ inI y.x2) (h2 : ∀ v ∈ swaps, inI v) : vc_Increments n x swaps (fun q0 => q0 = (true)) := by
  unfold vc_Increments
  have hm := pickM_nonneg (c := n) (n := 8) (by omega)
  generalize hM : (1 : Int) + pickM n 8 = m
  have hm1 : 1 ≤ m ∧ m ≤ 24 := by omega
  have hvl := made_valid (x := x) hm1
  have hll := made_len (n := m) (x := x)
  generalize madeM m x = l at hvl hll
  have hgl := validM_goodn hvl
  have hposs := (validM_iff.mp hvl).2
  have hve : validM m [] = true := validM_iff.mpr ⟨⟨hm1.1, hm1.2, by simp⟩, fun c hc => by cases hc⟩
  refine ⟨fun h => (h rfl).elim, fun _ => ⟨h0, by omega, by unfold inI; omega, by omega, by omega, h1, by omega, by simp, fun h => ?_, fun _ => ⟨by omega, ?_⟩⟩⟩
  · rcases close_cases hve with ⟨mt, -, e⟩ | ⟨hs, -⟩
    · rw [e] at h; exact (h rfl).elim
    · exact (hs (fun _ => 0) (fun c hc => by cases hc)).elim
  refine ⟨fun v r => ∃ i : Nat, v = i ∧ i ≤ 40 ∧ r.length = l.length ∧ ∀ c, c ∈ r ↔ c ∈ l, fun v _ => 40 - v.toNat, ⟨0, rfl, by omega, rfl, fun _ => Iff.rfl⟩, ?_⟩
  rintro _ r ⟨i, rfl, hi, hr, hmem⟩
  refine ⟨fun ⟨k1, k2, k3⟩ => ?_, fun _ => ?_⟩
  · have a1 := pickM_nonneg (c := lat swaps (i : Int)) (n := (r.length : Int)) (by omega)
    have a2 := tmod_bd (a := (i : Int)) (n := (r.length : Int)) (by omega) (by omega)
    refine ⟨by omega, by omega, h2 _ (lat_mem ⟨by omega, by omega⟩), by omega, a1, a2, a2, a1, by unfold inI; omega, ⟨i + 1, by omega, by omega, by simpa using hr, fun c => ?_⟩, by dsimp only; omega⟩
    rw [swap_mem a2 a1, hmem]
  have hgr : Good m.toNat r := fun c hc => hgl c ((hmem c).mp hc)
  have hS := SolL_congr hmem
  refine ⟨fun v bn bm => ∃ i : Nat, v = i ∧ i ≤ r.length ∧ ∃ mt, CM mt (r.take i) ∧ Bd.mk bn bm = boundsM mt m, fun v _ _ => r.length - v.toNat, ⟨0, rfl, by omega, ?_⟩, ?_⟩
  · rcases close_cases hve with ⟨mt, hc, e⟩ | ⟨hs, -⟩
    · rw [e]; exact ⟨mt, hc, rfl⟩
    · exact (hs (fun _ => 0) (fun c hc => by cases hc)).elim
  rintro _ bn bm ⟨i, rfl, hi, mt, hc, hb⟩
  rw [hb]
  have hbl := bounds_most_len (m := mt) hm1.2
  refine ⟨fun k1 => ?_, fun k1 => ?_⟩
  · have hlt : i < r.length := by omega
    have hp := hposs _ ((hmem _).mp (lat_mem (xs := r) (i := i) ⟨by omega, by omega⟩))
    have hstep := hc.addB hm1 (fun c hc => hgr c (List.mem_of_mem_take hc)) hp
    rw [← take_succ_lat hlt] at hstep
    refine ⟨by omega, hbl.1, hbl.2, ?_⟩
    rcases hstep with ⟨mt', hc', e⟩ | ⟨hs, e⟩
    · rw [e]
      refine ⟨fun h => (h rfl).elim, fun _ => ⟨fun h => (h rfl).elim, fun _ => ⟨by unfold inI; omega, ⟨i + 1, by omega, by omega, mt', hc', rfl⟩, by dsimp only; omega⟩⟩⟩
    · rw [e]
      refine ⟨fun h => (h rfl).elim, fun _ => ⟨fun _ => ?_, fun h => (h (by simp)).elim⟩⟩
      show decide _ = true
      rcases close_cases hvl with ⟨mt2, hc2, e2⟩ | ⟨hs2, e2⟩
      · obtain ⟨y, hy⟩ := hc2.sol_ex
        rw [← hS] at hy
        exact (hs y (fun c hc => hy c (List.mem_of_mem_take hc))).elim
      · rw [e2]; rfl
  · have hie : i = r.length := by omega
    rw [hie, List.take_length] at hc
    rcases close_cases hvl with ⟨mt2, hc2, e2⟩ | ⟨hs2, e2⟩
    · have hbe : boundsM mt m = boundsM mt2 m := bounds_congr hm1.2 fun a b ha hb => hc.congr hc2 hS (by omega) (by omega)
      rw [e2, ← hbe]
      refine ⟨⟨fun _ => ⟨hbl.1, hbl.2, ⟨fun _ => ⟨hbl.1, hbl.2, trivial⟩, fun _ => trivial⟩⟩, fun _ => trivial⟩, ?_⟩
      exact decide_eq_true ⟨rfl, sameM_self, validBM_iff.mpr (hc.vb hm1)⟩
    · obtain ⟨y, hy⟩ := hc.sol_ex
      rw [hS] at hy
      exact (hs2 y hy).elim
theorem spec_Increments (n : Int) (x : (List A3)) (swaps : (List Int)) (h0 : inI n) (h1 : ∀ y ∈ x, inI y.x0 ∧ inI y.x1 ∧ inI y.x2) (h2 : ∀ v ∈ swaps, inI v) : FnP Try.prog 8 [.int .i64 n, .lst true x.length (encL e26 x), .lst true swaps.length (encL eInt swaps)] (fun xR => xR = .bool (true)) :=
  (walk_Increments (vcp_Increments n x swaps h0 h1 h2)).mono (by rintro _ ⟨_, rfl, rfl⟩; rfl)
end Go.Lat
