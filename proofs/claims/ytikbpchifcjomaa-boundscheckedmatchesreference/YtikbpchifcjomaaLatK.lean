/- The law latecomerlaw07.BoundsCheckedMatchesReference returns true for every input, and each argument reads afterwards as it read before. Part 11 of 13. No condition. -/
import Derived.Test.YtikbpchifcjomaaLatE
import Derived.Test.YtikbpchifcjomaaLatJ
set_option linter.unusedVariables false
set_option linter.unusedSimpArgs false
set_option linter.unnecessarySimpa false
namespace Go.Lat
open Go.RowKit Go.Proofs
attribute [local irreducible] closeM rangeM pointM addBM cycleM holdsM validBM sameM madeM pickM plusM validM possM firstM tableM longerM boundsM ofM addM freeM
/-- What the walk through latecomerref07.First asks. -/
def vc_rfirst (n : Int) (l : (List Con)) (Post : (List Int) → Prop) : Prop :=
  ∃ (I1 : Int → Int → Prop) (μ1 : Int → Int → Nat), I1 (0 : Int) (0 : Int) ∧ ∀ (v5 : Int) (v6 : Int), I1 v5 v6 → ((v6 < n) → (LeastOk n l (-1 : Int) v6 n) ∧ ∃ (I2 : Int → Int → Prop) (μ2 : Int → Int → Nat), I2 v5 (1 : Int) ∧ ∀ (v5_1 : Int) (v8 : Int), I2 v5_1 v8 → ((v8 ≤ n) → ∃ J3 : Int → Prop, (∀ (v5_2 : Int), J3 v5_2 → (inI (v8 + (1 : Int))) ∧ (I2 v5_2 (v8 + (1 : Int)) ∧ μ2 v5_2 (v8 + (1 : Int)) < μ2 v5_1 v8)) ∧ (((0 ≤ v8 ∧ v8 < ((leastM n l (-1 : Int) v6 n).length : Int)) ∧ (0 ≤ v6 ∧ v6 < ((lat (leastM n l (-1 : Int) v6 n) v8).length : Int)) ∧ ((¬ lat (lat (leastM n l (-1 : Int) v6 n) v8) v6 = (1152921504606846976 : Int)) → (0 ≤ v8 ∧ v8 < ((leastM n l (-1 : Int) v6 n).length : Int)) ∧ (0 ≤ v6 ∧ v6 < ((lat (leastM n l (-1 : Int) v6 n) v8).length : Int)) ∧ True) ∧ (¬ (¬ lat (lat (leastM n l (-1 : Int) v6 n) v8) v6 = (1152921504606846976 : Int)) → True)) ∧ ((((¬ lat (lat (leastM n l (-1 : Int) v6 n) v8) v6 = (1152921504606846976 : Int)) ∧ (((lat (lat (leastM n l (-1 : Int) v6 n) v8) v6) < (0 : Int)) ∧ ((v5_1 = (0 : Int)) ∨ (v8 < v5_1)))) → J3 v8) ∧ (¬ ((¬ lat (lat (leastM n l (-1 : Int) v6 n) v8) v6 = (1152921504606846976 : Int)) ∧ (((lat (lat (leastM n l (-1 : Int) v6 n) v8) v6) < (0 : Int)) ∧ ((v5_1 = (0 : Int)) ∨ (v8 < v5_1)))) → J3 v5_1)))) ∧ (¬ (v8 ≤ n) → (inI (v6 + (1 : Int))) ∧ (I1 v5_1 (v6 + (1 : Int)) ∧ μ1 v5_1 (v6 + (1 : Int)) < μ1 v5 v6))) ∧ (¬ (v6 < n) → ∃ (I4 : Int → Prop) (μ4 : Int → Nat), I4 (0 : Int) ∧ ∀ (v9 : Int), I4 v9 → (((v9 < ((l.length : Nat) : Int)) ∧ ((0 : Int) < v5)) → (0 ≤ v9 ∧ v9 < (l.length : Int)) ∧ (inI (v5 - (1 : Int))) ∧ (LeastOk n l v9 ((lat l v9).f) (v5 - (1 : Int))) ∧ (0 ≤ v9 ∧ v9 < (l.length : Int)) ∧ (0 ≤ v9 ∧ v9 < (l.length : Int)) ∧ ∃ J5 : List Int → Int → Int → Prop, (∀ (r0 : List Int) (v11 : Int) (v12 : Int), J5 r0 v11 v12 → (((((r0.length : Nat) : Int) = v5) → (0 ≤ v9 ∧ v9 < (l.length : Int)) ∧ True) ∧ (¬ (((r0.length : Nat) : Int) = v5) → True)) ∧ ((((((r0.length : Nat) : Int) = v5) ∧ ((v11 = (lat l v9).f) ∧ (v12 < (0 : Int)))) → Post r0) ∧ (¬ ((((r0.length : Nat) : Int) = v5) ∧ ((v11 = (lat l v9).f) ∧ (v12 < (0 : Int)))) → (inI (v9 + (1 : Int))) ∧ (I4 (v9 + (1 : Int)) ∧ μ4 (v9 + (1 : Int)) < μ4 v9)))) ∧ (∃ (I6 : Int → Int → List Int → Prop) (μ6 : Int → Int → List Int → Nat), I6 ((lat l v9).t) ((lat l v9).m) [v9] ∧ ∀ (v11 : Int) (v12 : Int) (r0 : List Int), I6 v11 v12 r0 → ((((r0.length : Nat) : Int) < v5) → (inI (v9 + (1 : Int))) ∧ ∃ (I7 : Int → Int → Prop) (μ7 : Int → Int → Nat), I7 (-1 : Int) (v9 + (1 : Int)) ∧ ∀ (v14 : Int) (v15 : Int), I7 v14 v15 → (((v15 < ((l.length : Nat) : Int)) ∧ (v14 < (0 : Int))) → ∃ J8 : Int → Prop, (∀ (v14_1 : Int), J8 v14_1 → (inI (v15 + (1 : Int))) ∧ (I7 v14_1 (v15 + (1 : Int)) ∧ μ7 v14_1 (v15 + (1 : Int)) < μ7 v14 v15)) ∧ ((0 ≤ v15 ∧ v15 < (l.length : Int)) ∧ (inI (v12 + ((lat l v15).m))) ∧ (inI (v5 - ((r0.length : Nat) : Int))) ∧ (inI ((v5 - ((r0.length : Nat) : Int)) - (1 : Int))) ∧ (0 ≤ ((v5 - ((r0.length : Nat) : Int)) - (1 : Int)) ∧ ((v5 - ((r0.length : Nat) : Int)) - (1 : Int)) < ((leastM n l v9 ((lat l v9).f) (v5 - (1 : Int))).length : Int)) ∧ (0 ≤ v15 ∧ v15 < (l.length : Int)) ∧ (0 ≤ ((lat l v15).t) ∧ ((lat l v15).t) < ((lat (leastM n l v9 ((lat l v9).f) (v5 - (1 : Int))) ((v5 - ((r0.length : Nat) : Int)) - (1 : Int))).length : Int)) ∧ (¬ (v12 + ((lat l v15).m)) = NB → ¬ (lat (lat (leastM n l v9 ((lat l v9).f) (v5 - (1 : Int))) ((v5 - ((r0.length : Nat) : Int)) - (1 : Int))) ((lat l v15).t)) = NB → inI ((v12 + ((lat l v15).m)) + (lat (lat (leastM n l v9 ((lat l v9).f) (v5 - (1 : Int))) ((v5 - ((r0.length : Nat) : Int)) - (1 : Int))) ((lat l v15).t)))) ∧ ((0 ≤ v15 ∧ v15 < (l.length : Int)) ∧ True) ∧ (((((lat l v15).f = v11) ∧ ((¬ plusM (v12 + ((lat l v15).m)) (lat (lat (leastM n l v9 ((lat l v9).f) (v5 - (1 : Int))) ((v5 - ((r0.length : Nat) : Int)) - (1 : Int))) ((lat l v15).t)) = (1152921504606846976 : Int)) ∧ ((plusM (v12 + ((lat l v15).m)) (lat (lat (leastM n l v9 ((lat l v9).f) (v5 - (1 : Int))) ((v5 - ((r0.length : Nat) : Int)) - (1 : Int))) ((lat l v15).t))) < (0 : Int)))) → J8 v15) ∧ (¬ (((lat l v15).f = v11) ∧ ((¬ plusM (v12 + ((lat l v15).m)) (lat (lat (leastM n l v9 ((lat l v9).f) (v5 - (1 : Int))) ((v5 - ((r0.length : Nat) : Int)) - (1 : Int))) ((lat l v15).t)) = (1152921504606846976 : Int)) ∧ ((plusM (v12 + ((lat l v15).m)) (lat (lat (leastM n l v9 ((lat l v9).f) (v5 - (1 : Int))) ((v5 - ((r0.length : Nat) : Int)) - (1 : Int))) ((lat l v15).t))) < (0 : Int)))) → J8 v14)))) ∧ (¬ ((v15 < ((l.length : Nat) : Int)) ∧ (v14 < (0 : Int))) → ((v14 < (0 : Int)) → J5 r0 v11 v12) ∧ (¬ (v14 < (0 : Int)) → (0 ≤ v14 ∧ v14 < (l.length : Int)) ∧ (inI (v12 + ((lat l v14).m))) ∧ (0 ≤ v14 ∧ v14 < (l.length : Int)) ∧ ((r0 ++ [v14]).length ≤ 1073741824) ∧ (I6 ((lat l v14).t) (v12 + ((lat l v14).m)) (r0 ++ [v14]) ∧ μ6 ((lat l v14).t) (v12 + ((lat l v14).m)) (r0 ++ [v14]) < μ6 v11 v12 r0)))) ∧ (¬ (((r0.length : Nat) : Int) < v5) → J5 r0 v11 v12))) ∧ (¬ ((v9 < ((l.length : Nat) : Int)) ∧ ((0 : Int) < v5)) → Post []))
set_option maxRecDepth 100000 in
set_option maxHeartbeats 4000000 in
theorem walk_rfirst {n : Int} {l : (List Con)} {Post : (List Int) → Prop} (hv : vc_rfirst n l Post) : FnP Try.prog 30 [.int .i64 n, .lst true l.length (encL e25 l)] (fun x => ∃ q0, x = .lst false q0.length (encL eInt q0) ∧ Post q0) := by
  refine FnP.of_walk (T := tt) (nt := 184) ttOk ttMix ⟨⟨Try.f30, Try.func30, rfl, rfl, rfl, rfl⟩⟩ (by simp) ?_
  unfold vc_rfirst at hv
  change W _ _ _ ⟨184, look [(0, .int .i64 n), (1, .lst true l.length (encL e25 l))], [], false⟩ _
  refine W.tr [(0, .int _ _), (1, .lst _ _ _)] [] ⟨rfl, rfl, trivial⟩ rfl ?_
  refine W.rL ?_
  refine cL rfl (o_assign (v := .nilS) rfl ?_)
  refine eL ?_
  refine W.tr [(0, .int _ _), (1, .lst _ _ _)] [] ⟨rfl, rfl, trivial⟩ rfl ?_
  refine W.rL ?_
  refine cL rfl (o_assign (v := .int _ _) rfl ?_)
  refine eL ?_
  refine W.tr [(0, .int _ _), (1, .lst _ _ _), (5, .int _ _)] [] ⟨rfl, rfl, rfl, trivial⟩ rfl ?_
  refine W.seq' ?_
  refine W.rL ?_
  refine cL rfl (o_assign (v := .int _ _) rfl ?_)
  refine eL ?_
  refine W.tr [(0, .int _ _), (1, .lst _ _ _), (5, .int _ _), (6, .int _ _)] [] ⟨rfl, rfl, rfl, rfl, trivial⟩ rfl ?_
  refine W.block ?_
  obtain ⟨I1, μ1, hp, hv⟩ := hv
  refine W.loop2 (fun v5 v6 => ⟨184, look [(0, .int .i64 n), (1, .lst true l.length (encL e25 l)), (5, .int .i64 v5), (6, .int .i64 v6)], [], false⟩) I1 μ1 (0 : Int) (0 : Int) (St.to_mk (φ := []) rfl (.inl rfl) ⟨Ren.int _ _, Ren.lst _ _ _, Ren.int _ _, Ren.int _ _, trivial⟩ trivial) hp ?_
  clear hp
  intro v5 v6 hI
  replace hv := hv v5 v6 hI
  clear hI
  refine W.seq' ?_
  refine W.rL ?_
  refine cL rfl (o_move (v := .int _ _) rfl ?_)
  refine cL rfl (o_move (v := .int _ _) rfl ?_)
  refine cL rfl (o_lss rfl rfl ?_)
  refine eL ?_
  refine W.tr [(0, .int _ _), (1, .lst _ _ _), (5, .int _ _), (6, .int _ _), (19, .bool _)] [] ⟨rfl, rfl, rfl, rfl, rfl, trivial⟩ rfl ?_
  refine W.cn rfl (fun hc => ?_) (fun hc => ?_)
  · have hv := hv.1 hc
    refine W.skip ?_
    refine th_nrm ?_
    refine W.tr [(0, .int _ _), (1, .lst _ _ _), (5, .int _ _), (6, .int _ _)] [] ⟨rfl, rfl, rfl, rfl, trivial⟩ rfl ?_
    refine W.seq' ?_
    refine W.block ?_
    refine W.rL ?_
    refine cL rfl (o_move (v := .int _ _) rfl ?_)
    refine cL rfl (o_move (v := .lst _ _ _) rfl ?_)
    refine cL rfl (o_move (v := .int _ _) rfl ?_)
    refine cL rfl (o_move (v := .int _ _) rfl ?_)
    obtain ⟨s249, hv⟩ := hv
    refine cL rfl (o_callP1 (k := 56) (fst := []) (caps := []) (ys := [.int _ _, .lst _ _ _, .int _ _, .int _ _, .int _ _]) rfl rfl (spec_least n l (-1 : Int) v6 n s249) (Wks.cons (ag_int _ _ _ _) (Wks.cons (ag_lst _ _ _ _ _) (Wks.cons (ag_int _ _ _ _) (Wks.cons (ag_int _ _ _ _) (Wks.cons (ag_int _ _ _ _) (Wks.refl _)))))) ?_)
    refine cL rfl (o_assign (v := .lst _ _ _) rfl ?_)
    refine eL ?_
    refine W.tr [(0, .int _ _), (1, .lst _ _ _), (5, .int _ _), (6, .int _ _), (7, .lst _ _ _)] [] ⟨rfl, rfl, rfl, rfl, rfl, trivial⟩ rfl ?_
    refine W.rL ?_
    refine cL rfl (o_assign (v := .int _ _) rfl ?_)
    refine eL ?_
    refine W.tr [(0, .int _ _), (1, .lst _ _ _), (5, .int _ _), (6, .int _ _), (7, .lst _ _ _), (8, .int _ _)] [] ⟨rfl, rfl, rfl, rfl, rfl, rfl, trivial⟩ rfl ?_
    refine W.block ?_
    obtain ⟨I2, μ2, hp, hv⟩ := hv
    refine W.loop2 (fun v5_1 v8 => ⟨184, look [(0, .int .i64 n), (1, .lst true l.length (encL e25 l)), (5, .int .i64 v5_1), (6, .int .i64 v6), (7, .lst false (leastM n l (-1 : Int) v6 n).length (encL (eSl eInt true) (leastM n l (-1 : Int) v6 n))), (8, .int .i64 v8)], [], false⟩) I2 μ2 v5 (1 : Int) (St.to_mk (φ := []) rfl (.inl rfl) ⟨Ren.int _ _, Ren.lst _ _ _, Ren.int _ _, Ren.int _ _, Ren.lst _ _ _, Ren.int _ _, trivial⟩ trivial) hp ?_
    clear hp
    intro v5_1 v8 hI
    replace hv := hv v5_1 v8 hI
    clear hI
    refine W.seq' ?_
    refine W.rL ?_
    refine cL rfl (o_move (v := .int _ _) rfl ?_)
    refine cL rfl (o_move (v := .int _ _) rfl ?_)
    refine cL rfl (o_leq rfl rfl ?_)
    refine eL ?_
    refine W.tr [(0, .int _ _), (1, .lst _ _ _), (5, .int _ _), (6, .int _ _), (7, .lst _ _ _), (8, .int _ _), (29, .bool _)] [] ⟨rfl, rfl, rfl, rfl, rfl, rfl, rfl, trivial⟩ rfl ?_
    refine W.cn rfl (fun hc => ?_) (fun hc => ?_)
    · have hv := hv.1 hc
      refine W.skip ?_
      refine th_nrm ?_
      refine W.tr [(0, .int _ _), (1, .lst _ _ _), (5, .int _ _), (6, .int _ _), (7, .lst _ _ _), (8, .int _ _)] [] ⟨rfl, rfl, rfl, rfl, rfl, rfl, trivial⟩ rfl ?_
      obtain ⟨J3, hj, hv⟩ := hv
      refine W.mid1 (fun v5_2 => ⟨184, look [(0, .int .i64 n), (1, .lst true l.length (encL e25 l)), (5, .int .i64 v5_2), (6, .int .i64 v6), (7, .lst false (leastM n l (-1 : Int) v6 n).length (encL (eSl eInt true) (leastM n l (-1 : Int) v6 n))), (8, .int .i64 v8)], [], false⟩) J3 ?_ ?_
      · intro v5_2
        intro hv
        replace hv := hj v5_2 hv
        refine W.rL1 ?_
        refine cL rfl (o_move (v := .int _ _) rfl ?_)
        obtain ⟨s275, hv⟩ := hv
        refine cL rfl (o_add rfl rfl s275 ?_)
        refine cL rfl (o_assign (v := .int _ _) rfl ?_)
        refine eL ?_
        exact th_nrm (⟨(), v5_2, (v8 + (1 : Int)), hv, St.to_mk (φ := []) rfl (.inl rfl) ⟨Ren.int _ _, Ren.lst _ _ _, Ren.int _ _, Ren.int _ _, Ren.lst _ _ _, Ren.int _ _, trivial⟩ trivial⟩)
      · clear hj
        refine W.block ?_
        obtain ⟨sd, hv⟩ := hv
        refine W.rLm ⟨184, look [(0, .int .i64 n), (1, .lst true l.length (encL e25 l)), (5, .int .i64 v5_1), (6, .int .i64 v6), (7, .lst false (leastM n l (-1 : Int) v6 n).length (encL (eSl eInt true) (leastM n l (-1 : Int) v6 n))), (8, .int .i64 v8), (58, .bool (decide ((¬ lat (lat (leastM n l (-1 : Int) v6 n) v8) v6 = (1152921504606846976 : Int)) ∧ (((lat (lat (leastM n l (-1 : Int) v6 n) v8) v6) < (0 : Int)) ∧ ((v5_1 = (0 : Int)) ∨ (v8 < v5_1))))))], [], false⟩ ?_ ?_
        · refine cL rfl (o_move (v := .lst _ _ _) rfl ?_)
          refine cL rfl (o_move (v := .int _ _) rfl ?_)
          obtain ⟨s280, sd⟩ := sd
          refine cL rfl (o_iaL tt32 tt35 rfl rfl ((encSl eInt).wd true) rfl s280 ?_)
          intro rest280
          refine cL rfl (o_ldS (v := .lst _ _ _) tt35 rfl rfl ⟨_, rfl⟩ ?_)
          refine cL rfl (o_move (v := .int _ _) rfl ?_)
          obtain ⟨s281, sd⟩ := sd
          refine cL rfl (o_iaL tt35 tt3 rfl rfl (encInt.wd true) rfl s281 ?_)
          intro rest281
          refine cL rfl (o_ldS (v := .int _ _) tt3 rfl rfl ⟨_, rfl⟩ ?_)
          refine cL rfl (o_neI rfl rfl rfl ?_)
          refine cL rfl (o_move (v := .bool _) rfl ?_)
          by_cases c1 : ¬ lat (lat (leastM n l (-1 : Int) v6 n) v8) v6 = (1152921504606846976 : Int)
          · have sd := sd.1 c1
            refine cLg rfl rfl (decide_eq_true c1) ?_
            refine cL rfl (o_move (v := .lst _ _ _) rfl ?_)
            refine cLg rfl rfl (decide_eq_true c1) ?_
            refine cL rfl (o_move (v := .int _ _) rfl ?_)
            refine cLg rfl rfl (decide_eq_true c1) ?_
            obtain ⟨s282, sd⟩ := sd
            refine cL rfl (o_iaL tt32 tt35 rfl rfl ((encSl eInt).wd true) rfl s282 ?_)
            intro rest282
            refine cLg rfl rfl (decide_eq_true c1) ?_
            refine cL rfl (o_ldS (v := .lst _ _ _) tt35 rfl rfl ⟨_, rfl⟩ ?_)
            refine cLg rfl rfl (decide_eq_true c1) ?_
            refine cL rfl (o_move (v := .int _ _) rfl ?_)
            refine cLg rfl rfl (decide_eq_true c1) ?_
            obtain ⟨s283, sd⟩ := sd
            refine cL rfl (o_iaL tt35 tt3 rfl rfl (encInt.wd true) rfl s283 ?_)
            intro rest283
            refine cLg rfl rfl (decide_eq_true c1) ?_
            refine cL rfl (o_ldS (v := .int _ _) tt3 rfl rfl ⟨_, rfl⟩ ?_)
            refine cLg rfl rfl (decide_eq_true c1) ?_
            refine cL rfl (o_lss rfl rfl ?_)
            refine cL rfl (o_pickT (v := .bool _) rfl (decide_eq_true c1) rfl ?_)
            refine cL rfl (o_move (v := .bool _) rfl ?_)
            by_cases c2 : (lat (lat (leastM n l (-1 : Int) v6 n) v8) v6) < (0 : Int)
            · refine cLg rfl rfl (decide_eq_true c2) ?_
              refine cL rfl (o_move (v := .int _ _) rfl ?_)
              refine cLg rfl rfl (decide_eq_true c2) ?_
              refine cL rfl (o_eqI rfl rfl rfl ?_)
              refine cLg rfl rfl (decide_eq_true c2) ?_
              refine cL rfl (o_move (v := .bool _) rfl ?_)
              by_cases c3 : v5_1 = (0 : Int)
              · refine cLs rfl rfl rfl (decide_eq_true c3) ?_
                refine cLs rfl rfl rfl (decide_eq_true c3) ?_
                refine cLs rfl rfl rfl (decide_eq_true c3) ?_
                refine cLg rfl rfl (decide_eq_true c2) ?_
                refine cL rfl (o_pickT (v := .bool _) rfl (decide_eq_true c3) rfl ?_)
                refine cL rfl (o_pickT (v := .bool _) rfl (decide_eq_true c2) rfl ?_)
                refine eL ?_
                exact le_mk ⟨rfl, rfl, rfl, rfl, rfl, rfl, (congrArg AV.bool (dAndT c1 (dAndT c2 (dOrT c3)))).symm, trivial⟩ rfl
              · refine cLg rfl rfl (decide_eq_false c3) ?_
                refine cL rfl (o_move (v := .int _ _) rfl ?_)
                refine cLg rfl rfl (decide_eq_false c3) ?_
                refine cL rfl (o_move (v := .int _ _) rfl ?_)
                refine cLg rfl rfl (decide_eq_false c3) ?_
                refine cL rfl (o_lss rfl rfl ?_)
                refine cLg rfl rfl (decide_eq_true c2) ?_
                refine cL rfl (o_pickF (v := .bool _) rfl (decide_eq_false c3) rfl ?_)
                refine cL rfl (o_pickT (v := .bool _) rfl (decide_eq_true c2) rfl ?_)
                refine eL ?_
                exact le_mk ⟨rfl, rfl, rfl, rfl, rfl, rfl, (congrArg AV.bool (dAndT c1 (dAndT c2 (dOrF c3 (rfl))))).symm, trivial⟩ rfl
            · refine cLs rfl rfl rfl (decide_eq_false c2) ?_
              refine cLs rfl rfl rfl (decide_eq_false c2) ?_
              refine cLs rfl rfl rfl (decide_eq_false c2) ?_
              refine cLu rfl rfl rfl ?_
              refine cLu rfl rfl rfl ?_
              refine cLu rfl rfl rfl ?_
              refine cLs rfl rfl rfl (decide_eq_false c2) ?_
              refine cL rfl (o_pickF (v := .bool _) rfl (decide_eq_false c2) rfl ?_)
              refine eL ?_
              exact le_mk ⟨rfl, rfl, rfl, rfl, rfl, rfl, (congrArg AV.bool (dAndT c1 (dAndF c2))).symm, trivial⟩ rfl
          · refine cLs rfl rfl rfl (decide_eq_false c1) ?_
            refine cLs rfl rfl rfl (decide_eq_false c1) ?_
            refine cLs rfl rfl rfl (decide_eq_false c1) ?_
            refine cLs rfl rfl rfl (decide_eq_false c1) ?_
            refine cLs rfl rfl rfl (decide_eq_false c1) ?_
            refine cLs rfl rfl rfl (decide_eq_false c1) ?_
            refine cLs rfl rfl rfl (decide_eq_false c1) ?_
            refine cLs rfl rfl rfl (decide_eq_false c1) ?_
            refine cL rfl (o_pickF (v := .bool _) rfl (decide_eq_false c1) rfl ?_)
            refine cL rfl (o_move (v := .bool _) rfl ?_)
            refine cLs rfl rfl rfl (rfl) ?_
            refine cLs rfl rfl rfl (rfl) ?_
            refine cLs rfl rfl rfl (rfl) ?_
            refine cLu rfl rfl rfl ?_
            refine cLu rfl rfl rfl ?_
            refine cLu rfl rfl rfl ?_
            refine cLs rfl rfl rfl (rfl) ?_
            refine cL rfl (o_pickF (v := .bool _) rfl rfl rfl ?_)
            refine eL ?_
            exact le_mk ⟨rfl, rfl, rfl, rfl, rfl, rfl, (congrArg AV.bool (dAndF c1)).symm, trivial⟩ rfl
        · refine W.cn rfl (fun hc => ?_) (fun hc => ?_)
          · have hv := hv.1 hc
            refine W.rL1 ?_
            refine cL rfl (o_move (v := .int _ _) rfl ?_)
            refine cL rfl (o_assign (v := .int _ _) rfl ?_)
            refine eL ?_
            exact bl_nrm (th_nrm (⟨(), v8, hv, St.to_mk (φ := []) rfl (.inl rfl) ⟨Ren.int _ _, Ren.lst _ _ _, Ren.int _ _, Ren.int _ _, Ren.lst _ _ _, Ren.int _ _, trivial⟩ trivial⟩))
          · have hv := hv.2 hc
            refine W.skip ?_
            exact bl_nrm (th_nrm (⟨(), v5_1, hv, St.to_mk (φ := []) rfl (.inl rfl) ⟨Ren.int _ _, Ren.lst _ _ _, Ren.int _ _, Ren.int _ _, Ren.lst _ _ _, Ren.int _ _, trivial⟩ trivial⟩))
    · have hv := hv.2 hc
      refine W.exit ?_
      refine th_exit (th_exit (bl_hit (bl_nrm (th_nrm ?_))))
      refine W.tr [(0, .int _ _), (1, .lst _ _ _), (5, .int _ _), (6, .int _ _)] [] ⟨rfl, rfl, rfl, rfl, trivial⟩ rfl ?_
      refine W.rL1 ?_
      refine cL rfl (o_move (v := .int _ _) rfl ?_)
      obtain ⟨s284, hv⟩ := hv
      refine cL rfl (o_add rfl rfl s284 ?_)
      refine cL rfl (o_assign (v := .int _ _) rfl ?_)
      refine eL ?_
      exact th_nrm (⟨(), v5_1, (v6 + (1 : Int)), hv, St.to_mk (φ := []) rfl (.inl rfl) ⟨Ren.int _ _, Ren.lst _ _ _, Ren.int _ _, Ren.int _ _, trivial⟩ trivial⟩)
  · have hv := hv.2 hc
    refine W.exit ?_
    refine th_exit (th_exit (bl_hit (th_nrm ?_)))
    refine W.tr [(0, .int _ _), (1, .lst _ _ _), (5, .int _ _)] [] ⟨rfl, rfl, rfl, trivial⟩ rfl ?_
    refine W.seq' ?_
    refine W.rL ?_
    refine cL rfl (o_assign (v := .int _ _) rfl ?_)
    refine eL ?_
    refine W.tr [(0, .int _ _), (1, .lst _ _ _), (5, .int _ _), (9, .int _ _)] [] ⟨rfl, rfl, rfl, rfl, trivial⟩ rfl ?_
    refine W.block ?_
    obtain ⟨I4, μ4, hp, hv⟩ := hv
    refine W.loop1 (fun v9 => ⟨184, look [(0, .int .i64 n), (1, .lst true l.length (encL e25 l)), (5, .int .i64 v5), (9, .int .i64 v9)], [], false⟩) I4 μ4 (0 : Int) (St.to_mk (φ := []) rfl (.inl rfl) ⟨Ren.int _ _, Ren.lst _ _ _, Ren.int _ _, Ren.int _ _, trivial⟩ trivial) hp ?_
    clear hp
    intro v9 hI
    replace hv := hv v9 hI
    clear hI
    refine W.seq' ?_
    refine W.rLm ⟨184, look [(0, .int .i64 n), (1, .lst true l.length (encL e25 l)), (5, .int .i64 v5), (9, .int .i64 v9), (67, .bool (decide ((v9 < ((l.length : Nat) : Int)) ∧ ((0 : Int) < v5))))], [], false⟩ ?_ ?_
    · refine cL rfl (o_move (v := .int _ _) rfl ?_)
      refine cL rfl (o_move (v := .lst _ _ _) rfl ?_)
      refine cL rfl (o_len (v := .lst _ _ _) tt22 rfl rfl ?_)
      refine cL rfl (o_lss rfl rfl ?_)
      refine cL rfl (o_move (v := .bool _) rfl ?_)
      by_cases c1 : v9 < ((l.length : Nat) : Int)
      · refine cLg rfl rfl (decide_eq_true c1) ?_
        refine cL rfl (o_move (v := .int _ _) rfl ?_)
        refine cLg rfl rfl (decide_eq_true c1) ?_
        refine cL rfl (o_gtr rfl rfl ?_)
        refine cL rfl (o_pickT (v := .bool _) rfl (decide_eq_true c1) rfl ?_)
        refine eL ?_
        exact le_mk ⟨rfl, rfl, rfl, rfl, (congrArg AV.bool (dAndT c1 (rfl))).symm, trivial⟩ rfl
      · refine cLs rfl rfl rfl (decide_eq_false c1) ?_
        refine cLs rfl rfl rfl (decide_eq_false c1) ?_
        refine cL rfl (o_pickF (v := .bool _) rfl (decide_eq_false c1) rfl ?_)
        refine eL ?_
        exact le_mk ⟨rfl, rfl, rfl, rfl, (congrArg AV.bool (dAndF c1)).symm, trivial⟩ rfl
    · refine W.cn rfl (fun hc => ?_) (fun hc => ?_)
      · have hv := hv.1 hc
        refine W.skip ?_
        refine th_nrm ?_
        refine W.tr [(0, .int _ _), (1, .lst _ _ _), (5, .int _ _), (9, .int _ _)] [] ⟨rfl, rfl, rfl, rfl, trivial⟩ rfl ?_
        refine W.seq' ?_
        refine W.block ?_
        refine W.rL ?_
        refine cL rfl (o_move (v := .int _ _) rfl ?_)
        refine cL rfl (o_move (v := .lst _ _ _) rfl ?_)
        refine cL rfl (o_move (v := .int _ _) rfl ?_)
        refine cL rfl (o_move (v := .lst _ _ _) rfl ?_)
        refine cL rfl (o_move (v := .int _ _) rfl ?_)
        obtain ⟨s4117, hv⟩ := hv
        refine cL rfl (o_iaL tt22 tt25 rfl rfl (enc25.wd true) rfl s4117 ?_)
        intro rest4117
        refine cL rfl (o_faP tt25 rfl tt3 rfl ?_)
        refine cL rfl (o_ldS (v := .int _ _) tt3 rfl rfl ⟨_, rfl⟩ ?_)
        refine cL rfl (o_move (v := .int _ _) rfl ?_)
        obtain ⟨s4118, hv⟩ := hv
        refine cL rfl (o_sub rfl rfl s4118 ?_)
        obtain ⟨s4119, hv⟩ := hv
        refine cL rfl (o_callP1 (k := 56) (fst := []) (caps := []) (ys := [.int _ _, .lst _ _ _, .int _ _, .int _ _, .int _ _]) rfl rfl (spec_least n l v9 ((lat l v9).f) (v5 - (1 : Int)) s4119) (Wks.cons (ag_int _ _ _ _) (Wks.cons (ag_lst _ _ _ _ _) (Wks.cons (ag_int _ _ _ _) (Wks.cons (ag_int _ _ _ _) (Wks.cons (ag_int _ _ _ _) (Wks.refl _)))))) ?_)
        refine cL rfl (o_assign (v := .lst _ _ _) rfl ?_)
        refine eL ?_
        refine W.tr [(0, .int _ _), (1, .lst _ _ _), (5, .int _ _), (9, .int _ _), (10, .lst _ _ _)] [] ⟨rfl, rfl, rfl, rfl, rfl, trivial⟩ rfl ?_
        refine W.rL ?_
        refine cL rfl (o_move (v := .lst _ _ _) rfl ?_)
        refine cL rfl (o_move (v := .int _ _) rfl ?_)
        obtain ⟨s4120, hv⟩ := hv
        refine cL rfl (o_iaL tt22 tt25 rfl rfl (enc25.wd true) rfl s4120 ?_)
        intro rest4120
        refine cL rfl (o_faP tt25 rfl tt3 rfl ?_)
        refine cL rfl (o_ldS (v := .int _ _) tt3 rfl rfl ⟨_, rfl⟩ ?_)
        refine cL rfl (o_assign (v := .int _ _) rfl ?_)
        refine eL ?_
        refine W.tr [(0, .int _ _), (1, .lst _ _ _), (5, .int _ _), (9, .int _ _), (10, .lst _ _ _), (11, .int _ _)] [] ⟨rfl, rfl, rfl, rfl, rfl, rfl, trivial⟩ rfl ?_
        refine W.rL ?_
        refine cL rfl (o_move (v := .lst _ _ _) rfl ?_)
        refine cL rfl (o_move (v := .int _ _) rfl ?_)
        obtain ⟨s4121, hv⟩ := hv
        refine cL rfl (o_iaL tt22 tt25 rfl rfl (enc25.wd true) rfl s4121 ?_)
        intro rest4121
        refine cL rfl (o_faP tt25 rfl tt3 rfl ?_)
        refine cL rfl (o_ldS (v := .int _ _) tt3 rfl rfl ⟨_, rfl⟩ ?_)
        refine cL rfl (o_assign (v := .int _ _) rfl ?_)
        refine eL ?_
        refine W.tr [(0, .int _ _), (1, .lst _ _ _), (5, .int _ _), (9, .int _ _), (10, .lst _ _ _), (11, .int _ _), (12, .int _ _)] [] ⟨rfl, rfl, rfl, rfl, rfl, rfl, rfl, trivial⟩ rfl ?_
        refine W.rL ?_
        refine cL rfl (o_move (v := .int _ _) rfl ?_)
        refine cL rfl (o_bs1 (v := .int _ _) (q := 0) tt35 tt3 rfl rfl rfl rfl rfl rfl rfl rfl ?_)
        refine cL rfl (o_assign (v := .ref _ _ _) rfl ?_)
        refine eL ?_
        refine W.tr [(0, .int _ _), (1, .lst _ _ _), (5, .int _ _), (9, .int _ _), (10, .lst _ _ _), (11, .int _ _), (12, .int _ _), (13, .ref _ _ _)] [.row _ _ _] ⟨rfl, rfl, rfl, rfl, rfl, rfl, rfl, rfl, trivial⟩ rfl ?_
        obtain ⟨J5, hj, hv⟩ := hv
        refine W.mid3 (fun r0 v11 v12 => ⟨184, look [(0, .int .i64 n), (1, .lst true l.length (encL e25 l)), (5, .int .i64 v5), (9, .int .i64 v9), (11, .int .i64 v11), (12, .int .i64 v12), (13, .ref false 0 r0.length)], [.row 3 1 (encL eInt r0)], false⟩) J5 ?_ ?_
        · intro r0 v11 v12
          intro hv
          replace hv := hj r0 v11 v12 hv
          obtain ⟨sd, hv⟩ := hv
          refine W.rLm ⟨184, look [(0, .int .i64 n), (1, .lst true l.length (encL e25 l)), (5, .int .i64 v5), (9, .int .i64 v9), (13, .ref false 0 r0.length), (182, .bool (decide ((((r0.length : Nat) : Int) = v5) ∧ ((v11 = (lat l v9).f) ∧ (v12 < (0 : Int))))))], [.row 3 1 (encL eInt r0)], false⟩ ?_ ?_
          · refine cL rfl (o_move (v := .ref _ _ _) rfl ?_)
            refine cL rfl (o_len (v := .ref _ _ _) tt35 rfl rfl ?_)
            refine cL rfl (o_move (v := .int _ _) rfl ?_)
            refine cL rfl (o_eqI rfl rfl rfl ?_)
            refine cL rfl (o_move (v := .bool _) rfl ?_)
            by_cases c1 : ((r0.length : Nat) : Int) = v5
            · have sd := sd.1 c1
              refine cLg rfl rfl (decide_eq_true c1) ?_
              refine cL rfl (o_move (v := .int _ _) rfl ?_)
              refine cLg rfl rfl (decide_eq_true c1) ?_
              refine cL rfl (o_move (v := .lst _ _ _) rfl ?_)
              refine cLg rfl rfl (decide_eq_true c1) ?_
              refine cL rfl (o_move (v := .int _ _) rfl ?_)
              refine cLg rfl rfl (decide_eq_true c1) ?_
              obtain ⟨s4393, sd⟩ := sd
              refine cL rfl (o_iaL tt22 tt25 rfl rfl (enc25.wd true) rfl s4393 ?_)
              intro rest4393
              refine cLg rfl rfl (decide_eq_true c1) ?_
              refine cL rfl (o_faP tt25 rfl tt3 rfl ?_)
              refine cLg rfl rfl (decide_eq_true c1) ?_
              refine cL rfl (o_ldS (v := .int _ _) tt3 rfl rfl ⟨_, rfl⟩ ?_)
              refine cLg rfl rfl (decide_eq_true c1) ?_
              refine cL rfl (o_eqI rfl rfl rfl ?_)
              refine cL rfl (o_pickT (v := .bool _) rfl (decide_eq_true c1) rfl ?_)
              refine cL rfl (o_move (v := .bool _) rfl ?_)
              by_cases c2 : v11 = (lat l v9).f
              · refine cLg rfl rfl (decide_eq_true c2) ?_
                refine cL rfl (o_move (v := .int _ _) rfl ?_)
                refine cLg rfl rfl (decide_eq_true c2) ?_
                refine cL rfl (o_lss rfl rfl ?_)
                refine cL rfl (o_pickT (v := .bool _) rfl (decide_eq_true c2) rfl ?_)
                refine eL ?_
                exact le_mk ⟨rfl, rfl, rfl, rfl, rfl, (congrArg AV.bool (dAndT c1 (dAndT c2 (rfl)))).symm, trivial⟩ rfl
              · refine cLs rfl rfl rfl (decide_eq_false c2) ?_
                refine cLs rfl rfl rfl (decide_eq_false c2) ?_
                refine cL rfl (o_pickF (v := .bool _) rfl (decide_eq_false c2) rfl ?_)
                refine eL ?_
                exact le_mk ⟨rfl, rfl, rfl, rfl, rfl, (congrArg AV.bool (dAndT c1 (dAndF c2))).symm, trivial⟩ rfl
            · refine cLs rfl rfl rfl (decide_eq_false c1) ?_
              refine cLs rfl rfl rfl (decide_eq_false c1) ?_
              refine cLs rfl rfl rfl (decide_eq_false c1) ?_
              refine cLs rfl rfl rfl (decide_eq_false c1) ?_
              refine cLs rfl rfl rfl (decide_eq_false c1) ?_
              refine cLs rfl rfl rfl (decide_eq_false c1) ?_
              refine cLs rfl rfl rfl (decide_eq_false c1) ?_
              refine cL rfl (o_pickF (v := .bool _) rfl (decide_eq_false c1) rfl ?_)
              refine cL rfl (o_move (v := .bool _) rfl ?_)
              refine cLs rfl rfl rfl (rfl) ?_
              refine cLs rfl rfl rfl (rfl) ?_
              refine cL rfl (o_pickF (v := .bool _) rfl rfl rfl ?_)
              refine eL ?_
              exact le_mk ⟨rfl, rfl, rfl, rfl, rfl, (congrArg AV.bool (dAndF c1)).symm, trivial⟩ rfl
          · refine W.cn rfl (fun hc => ?_) (fun hc => ?_)
            · have hv := hv.1 hc
              refine W.rL ?_
              refine cL rfl (o_move (v := .ref _ _ _) rfl ?_)
              refine cL rfl (o_assign (v := .ref _ _ _) rfl ?_)
              refine eL ?_
              refine W.tr [(4, .ref _ _ _)] [.row _ _ _] ⟨rfl, trivial⟩ rfl ?_
              refine W.ret ?_
              refine bl_ret (th_ret (th_ret (bl_ret (th_ret (rt ?_)))))
              refine rt_t (v := .ref _ _ _) rfl ?_
              refine rt_n ?_
              exact ⟨_, rs_ref encInt 4 _ rfl rfl, r0, rfl, hv⟩
            · have hv := hv.2 hc
              refine W.skip ?_
              refine bl_nrm (th_nrm ?_)
              refine W.tr [(0, .int _ _), (1, .lst _ _ _), (5, .int _ _), (9, .int _ _)] [.row _ _ _] ⟨rfl, rfl, rfl, rfl, trivial⟩ rfl ?_
              refine W.rL1 ?_
              refine cL rfl (o_move (v := .int _ _) rfl ?_)
              obtain ⟨s4394, hv⟩ := hv
              refine cL rfl (o_add rfl rfl s4394 ?_)
              refine cL rfl (o_assign (v := .int _ _) rfl ?_)
              refine eL ?_
              exact th_nrm (⟨(), (v9 + (1 : Int)), hv, St.to_mk (φ := []) rfl (.inl rfl) ⟨Ren.int _ _, Ren.lst _ _ _, Ren.int _ _, Ren.int _ _, trivial⟩ trivial⟩)
        · clear hj
          refine W.block ?_
          obtain ⟨I6, μ6, hp, hv⟩ := hv
          refine W.loop3 (fun v11 v12 r0 => ⟨184, look [(0, .int .i64 n), (1, .lst true l.length (encL e25 l)), (5, .int .i64 v5), (9, .int .i64 v9), (10, .lst false (leastM n l v9 ((lat l v9).f) (v5 - (1 : Int))).length (encL (eSl eInt true) (leastM n l v9 ((lat l v9).f) (v5 - (1 : Int))))), (11, .int .i64 v11), (12, .int .i64 v12), (13, .ref false 0 r0.length)], [.row 3 1 (encL eInt r0)], false⟩) I6 μ6 ((lat l v9).t) ((lat l v9).m) [v9] (St.to_mk (φ := [some 0]) rfl (.inl rfl) ⟨Ren.int _ _, Ren.lst _ _ _, Ren.int _ _, Ren.int _ _, Ren.lst _ _ _, Ren.int _ _, Ren.int _ _, Ren.ref rfl (fun h => h), trivial⟩ ⟨.inr ⟨_, rfl, rfl, rfl, rfl, Rens.enc encInt false [v9]⟩, trivial⟩) hp ?_
          clear hp
          intro v11 v12 r0 hI
          replace hv := hv v11 v12 r0 hI
          clear hI
          refine W.seq' ?_
          refine W.rL ?_
          refine cL rfl (o_move (v := .ref _ _ _) rfl ?_)
          refine cL rfl (o_len (v := .ref _ _ _) tt35 rfl rfl ?_)
          refine cL rfl (o_move (v := .int _ _) rfl ?_)
          refine cL rfl (o_lss rfl rfl ?_)
          refine eL ?_
          refine W.tr [(0, .int _ _), (1, .lst _ _ _), (5, .int _ _), (9, .int _ _), (10, .lst _ _ _), (11, .int _ _), (12, .int _ _), (13, .ref _ _ _), (96, .bool _)] [.row _ _ _] ⟨rfl, rfl, rfl, rfl, rfl, rfl, rfl, rfl, rfl, trivial⟩ rfl ?_
          refine W.cn rfl (fun hc => ?_) (fun hc => ?_)
          · have hv := hv.1 hc
            refine W.skip ?_
            refine th_nrm ?_
            refine W.tr [(0, .int _ _), (1, .lst _ _ _), (5, .int _ _), (9, .int _ _), (10, .lst _ _ _), (11, .int _ _), (12, .int _ _), (13, .ref _ _ _)] [.row _ _ _] ⟨rfl, rfl, rfl, rfl, rfl, rfl, rfl, rfl, trivial⟩ rfl ?_
            refine W.block ?_
            refine W.rL ?_
            refine cL rfl (o_assign (v := .int _ _) rfl ?_)
            refine eL ?_
            refine W.tr [(0, .int _ _), (1, .lst _ _ _), (5, .int _ _), (9, .int _ _), (10, .lst _ _ _), (11, .int _ _), (12, .int _ _), (13, .ref _ _ _), (14, .int _ _)] [.row _ _ _] ⟨rfl, rfl, rfl, rfl, rfl, rfl, rfl, rfl, rfl, trivial⟩ rfl ?_
            refine W.seq' ?_
            refine W.rL ?_
            refine cL rfl (o_move (v := .int _ _) rfl ?_)
            obtain ⟨s4618, hv⟩ := hv
            refine cL rfl (o_add rfl rfl s4618 ?_)
            refine cL rfl (o_assign (v := .int _ _) rfl ?_)
            refine eL ?_
            refine W.tr [(0, .int _ _), (1, .lst _ _ _), (5, .int _ _), (9, .int _ _), (10, .lst _ _ _), (11, .int _ _), (12, .int _ _), (13, .ref _ _ _), (14, .int _ _), (15, .int _ _)] [.row _ _ _] ⟨rfl, rfl, rfl, rfl, rfl, rfl, rfl, rfl, rfl, rfl, trivial⟩ rfl ?_
            refine W.block ?_
            obtain ⟨I7, μ7, hp, hv⟩ := hv
            refine W.loop2 (fun v14 v15 => ⟨184, look [(0, .int .i64 n), (1, .lst true l.length (encL e25 l)), (5, .int .i64 v5), (9, .int .i64 v9), (10, .lst false (leastM n l v9 ((lat l v9).f) (v5 - (1 : Int))).length (encL (eSl eInt true) (leastM n l v9 ((lat l v9).f) (v5 - (1 : Int))))), (11, .int .i64 v11), (12, .int .i64 v12), (13, .ref false 0 r0.length), (14, .int .i64 v14), (15, .int .i64 v15)], [.row 3 1 (encL eInt r0)], false⟩) I7 μ7 (-1 : Int) (v9 + (1 : Int)) (St.to_mk (φ := [some 0]) rfl (.inl rfl) ⟨Ren.int _ _, Ren.lst _ _ _, Ren.int _ _, Ren.int _ _, Ren.lst _ _ _, Ren.int _ _, Ren.int _ _, Ren.ref rfl (fun h => h), Ren.int _ _, Ren.int _ _, trivial⟩ ⟨.inr ⟨_, rfl, rfl, rfl, rfl, Rens.enc encInt false r0⟩, trivial⟩) hp ?_
            clear hp
            intro v14 v15 hI
            replace hv := hv v14 v15 hI
            clear hI
            refine W.seq' ?_
            refine W.rLm ⟨184, look [(0, .int .i64 n), (1, .lst true l.length (encL e25 l)), (5, .int .i64 v5), (9, .int .i64 v9), (10, .lst false (leastM n l v9 ((lat l v9).f) (v5 - (1 : Int))).length (encL (eSl eInt true) (leastM n l v9 ((lat l v9).f) (v5 - (1 : Int))))), (11, .int .i64 v11), (12, .int .i64 v12), (13, .ref false 0 r0.length), (14, .int .i64 v14), (15, .int .i64 v15), (106, .bool (decide ((v15 < ((l.length : Nat) : Int)) ∧ (v14 < (0 : Int)))))], [.row 3 1 (encL eInt r0)], false⟩ ?_ ?_
            · refine cL rfl (o_move (v := .int _ _) rfl ?_)
              refine cL rfl (o_move (v := .lst _ _ _) rfl ?_)
              refine cL rfl (o_len (v := .lst _ _ _) tt22 rfl rfl ?_)
              refine cL rfl (o_lss rfl rfl ?_)
              refine cL rfl (o_move (v := .bool _) rfl ?_)
              by_cases c1 : v15 < ((l.length : Nat) : Int)
              · refine cLg rfl rfl (decide_eq_true c1) ?_
                refine cL rfl (o_move (v := .int _ _) rfl ?_)
                refine cLg rfl rfl (decide_eq_true c1) ?_
                refine cL rfl (o_lss rfl rfl ?_)
                refine cL rfl (o_pickT (v := .bool _) rfl (decide_eq_true c1) rfl ?_)
                refine eL ?_
                exact le_mk ⟨rfl, rfl, rfl, rfl, rfl, rfl, rfl, rfl, rfl, rfl, (congrArg AV.bool (dAndT c1 (rfl))).symm, trivial⟩ rfl
              · refine cLs rfl rfl rfl (decide_eq_false c1) ?_
                refine cLs rfl rfl rfl (decide_eq_false c1) ?_
                refine cL rfl (o_pickF (v := .bool _) rfl (decide_eq_false c1) rfl ?_)
                refine eL ?_
                exact le_mk ⟨rfl, rfl, rfl, rfl, rfl, rfl, rfl, rfl, rfl, rfl, (congrArg AV.bool (dAndF c1)).symm, trivial⟩ rfl
            · refine W.cn rfl (fun hc => ?_) (fun hc => ?_)
              · have hv := hv.1 hc
                refine W.skip ?_
                refine th_nrm ?_
                refine W.tr [(0, .int _ _), (1, .lst _ _ _), (5, .int _ _), (9, .int _ _), (10, .lst _ _ _), (11, .int _ _), (12, .int _ _), (13, .ref _ _ _), (14, .int _ _), (15, .int _ _)] [.row _ _ _] ⟨rfl, rfl, rfl, rfl, rfl, rfl, rfl, rfl, rfl, rfl, trivial⟩ rfl ?_
                obtain ⟨J8, hj, hv⟩ := hv
                refine W.mid1 (fun v14_1 => ⟨184, look [(0, .int .i64 n), (1, .lst true l.length (encL e25 l)), (5, .int .i64 v5), (9, .int .i64 v9), (10, .lst false (leastM n l v9 ((lat l v9).f) (v5 - (1 : Int))).length (encL (eSl eInt true) (leastM n l v9 ((lat l v9).f) (v5 - (1 : Int))))), (11, .int .i64 v11), (12, .int .i64 v12), (13, .ref false 0 r0.length), (14, .int .i64 v14_1), (15, .int .i64 v15)], [.row 3 1 (encL eInt r0)], false⟩) J8 ?_ ?_
                · intro v14_1
                  intro hv
                  replace hv := hj v14_1 hv
                  refine W.rL1 ?_
                  refine cL rfl (o_move (v := .int _ _) rfl ?_)
                  obtain ⟨s4650, hv⟩ := hv
                  refine cL rfl (o_add rfl rfl s4650 ?_)
                  refine cL rfl (o_assign (v := .int _ _) rfl ?_)
                  refine eL ?_
                  exact th_nrm (⟨(), v14_1, (v15 + (1 : Int)), hv, St.to_mk (φ := [some 0]) rfl (.inl rfl) ⟨Ren.int _ _, Ren.lst _ _ _, Ren.int _ _, Ren.int _ _, Ren.lst _ _ _, Ren.int _ _, Ren.int _ _, Ren.ref rfl (fun h => h), Ren.int _ _, Ren.int _ _, trivial⟩ ⟨.inr ⟨_, rfl, rfl, rfl, rfl, Rens.enc encInt false r0⟩, trivial⟩⟩)
                · clear hj
                  refine W.block ?_
                  refine W.rD [0, 1, 2, 3, 4, 5, 6, 7, 8, 9, 10, 11, 12, 13, 14, 15, 16, 17, 18, 19, 20, 21, 22, 23] (by decide +kernel) rfl ?_
                  refine cL rfl (o_move (v := .int _ _) rfl ?_)
                  refine cL rfl (o_move (v := .lst _ _ _) rfl ?_)
                  refine cL rfl (o_move (v := .int _ _) rfl ?_)
                  obtain ⟨s4651, hv⟩ := hv
                  refine cL rfl (o_iaL tt22 tt25 rfl rfl (enc25.wd true) rfl s4651 ?_)
                  intro rest4651
                  refine cL rfl (o_faP tt25 rfl tt3 rfl ?_)
                  refine cL rfl (o_ldS (v := .int _ _) tt3 rfl rfl ⟨_, rfl⟩ ?_)
                  obtain ⟨s4652, hv⟩ := hv
                  refine cL rfl (o_add rfl rfl s4652 ?_)
                  refine cL rfl (o_move (v := .lst _ _ _) rfl ?_)
                  refine cL rfl (o_move (v := .int _ _) rfl ?_)
                  refine cL rfl (o_move (v := .ref _ _ _) rfl ?_)
                  refine cL rfl (o_len (v := .ref _ _ _) tt35 rfl rfl ?_)
                  obtain ⟨s4653, hv⟩ := hv
                  refine cL rfl (o_sub rfl rfl s4653 ?_)
                  obtain ⟨s4654, hv⟩ := hv
                  refine cL rfl (o_sub rfl rfl s4654 ?_)
                  obtain ⟨s4655, hv⟩ := hv
                  refine cL rfl (o_iaL tt32 tt35 rfl rfl ((encSl eInt).wd true) rfl s4655 ?_)
                  intro rest4655
                  refine cL rfl (o_ldS (v := .lst _ _ _) tt35 rfl rfl ⟨_, rfl⟩ ?_)
                  refine cL rfl (o_move (v := .lst _ _ _) rfl ?_)
                  refine cL rfl (o_move (v := .int _ _) rfl ?_)
                  obtain ⟨s4656, hv⟩ := hv
                  refine cL rfl (o_iaL tt22 tt25 rfl rfl (enc25.wd true) rfl s4656 ?_)
                  intro rest4656
                  refine cL rfl (o_faP tt25 rfl tt3 rfl ?_)
                  refine cL rfl (o_ldS (v := .int _ _) tt3 rfl rfl ⟨_, rfl⟩ ?_)
                  obtain ⟨s4657, hv⟩ := hv
                  refine cL rfl (o_iaL tt35 tt3 rfl rfl (encInt.wd true) rfl s4657 ?_)
                  intro rest4657
                  refine cL rfl (o_ldS (v := .int _ _) tt3 rfl rfl ⟨_, rfl⟩ ?_)
                  obtain ⟨s4658, hv⟩ := hv
                  refine cL rfl (o_callP1 (k := 48) (fst := []) (caps := []) (ys := [.int _ _, .int _ _]) rfl rfl (spec_rsum (v12 + ((lat l v15).m)) (lat (lat (leastM n l v9 ((lat l v9).f) (v5 - (1 : Int))) ((v5 - ((r0.length : Nat) : Int)) - (1 : Int))) ((lat l v15).t)) s4658) (Wks.cons (ag_int _ _ _ _) (Wks.cons (ag_int _ _ _ _) (Wks.refl _))) ?_)
                  refine cL rfl (o_assign (v := .int _ _) rfl ?_)
                  refine eL ?_
                  refine W.tr [(0, .int _ _), (1, .lst _ _ _), (5, .int _ _), (9, .int _ _), (10, .lst _ _ _), (11, .int _ _), (12, .int _ _), (13, .ref _ _ _), (14, .int _ _), (15, .int _ _), (16, .int _ _)] [.row _ _ _] ⟨rfl, rfl, rfl, rfl, rfl, rfl, rfl, rfl, rfl, rfl, rfl, trivial⟩ rfl ?_
                  obtain ⟨sd, hv⟩ := hv
                  refine W.rLm ⟨184, look [(0, .int .i64 n), (1, .lst true l.length (encL e25 l)), (5, .int .i64 v5), (9, .int .i64 v9), (10, .lst false (leastM n l v9 ((lat l v9).f) (v5 - (1 : Int))).length (encL (eSl eInt true) (leastM n l v9 ((lat l v9).f) (v5 - (1 : Int))))), (11, .int .i64 v11), (12, .int .i64 v12), (13, .ref false 0 r0.length), (14, .int .i64 v14), (15, .int .i64 v15), (146, .bool (decide (((lat l v15).f = v11) ∧ ((¬ plusM (v12 + ((lat l v15).m)) (lat (lat (leastM n l v9 ((lat l v9).f) (v5 - (1 : Int))) ((v5 - ((r0.length : Nat) : Int)) - (1 : Int))) ((lat l v15).t)) = (1152921504606846976 : Int)) ∧ ((plusM (v12 + ((lat l v15).m)) (lat (lat (leastM n l v9 ((lat l v9).f) (v5 - (1 : Int))) ((v5 - ((r0.length : Nat) : Int)) - (1 : Int))) ((lat l v15).t))) < (0 : Int))))))], [.row 3 1 (encL eInt r0)], false⟩ ?_ ?_
                  · refine cL rfl (o_move (v := .lst _ _ _) rfl ?_)
                    refine cL rfl (o_move (v := .int _ _) rfl ?_)
                    obtain ⟨s4660, sd⟩ := sd
                    refine cL rfl (o_iaL tt22 tt25 rfl rfl (enc25.wd true) rfl s4660 ?_)
                    intro rest4660
                    refine cL rfl (o_faP tt25 rfl tt3 rfl ?_)
                    refine cL rfl (o_ldS (v := .int _ _) tt3 rfl rfl ⟨_, rfl⟩ ?_)
                    refine cL rfl (o_move (v := .int _ _) rfl ?_)
                    refine cL rfl (o_eqI rfl rfl rfl ?_)
                    refine cL rfl (o_move (v := .bool _) rfl ?_)
                    by_cases c1 : (lat l v15).f = v11
                    · refine cLg rfl rfl (decide_eq_true c1) ?_
                      refine cL rfl (o_move (v := .int _ _) rfl ?_)
                      refine cLg rfl rfl (decide_eq_true c1) ?_
                      refine cL rfl (o_neI rfl rfl rfl ?_)
                      refine cL rfl (o_pickT (v := .bool _) rfl (decide_eq_true c1) rfl ?_)
                      refine cL rfl (o_move (v := .bool _) rfl ?_)
                      by_cases c2 : ¬ plusM (v12 + ((lat l v15).m)) (lat (lat (leastM n l v9 ((lat l v9).f) (v5 - (1 : Int))) ((v5 - ((r0.length : Nat) : Int)) - (1 : Int))) ((lat l v15).t)) = (1152921504606846976 : Int)
                      · refine cLg rfl rfl (decide_eq_true c2) ?_
                        refine cL rfl (o_move (v := .int _ _) rfl ?_)
                        refine cLg rfl rfl (decide_eq_true c2) ?_
                        refine cL rfl (o_lss rfl rfl ?_)
                        refine cL rfl (o_pickT (v := .bool _) rfl (decide_eq_true c2) rfl ?_)
                        refine eL ?_
                        exact le_mk ⟨rfl, rfl, rfl, rfl, rfl, rfl, rfl, rfl, rfl, rfl, (congrArg AV.bool (dAndT c1 (dAndT c2 (rfl)))).symm, trivial⟩ rfl
                      · refine cLs rfl rfl rfl (decide_eq_false c2) ?_
                        refine cLs rfl rfl rfl (decide_eq_false c2) ?_
                        refine cL rfl (o_pickF (v := .bool _) rfl (decide_eq_false c2) rfl ?_)
                        refine eL ?_
                        exact le_mk ⟨rfl, rfl, rfl, rfl, rfl, rfl, rfl, rfl, rfl, rfl, (congrArg AV.bool (dAndT c1 (dAndF c2))).symm, trivial⟩ rfl
                    · refine cLs rfl rfl rfl (decide_eq_false c1) ?_
                      refine cLs rfl rfl rfl (decide_eq_false c1) ?_
                      refine cL rfl (o_pickF (v := .bool _) rfl (decide_eq_false c1) rfl ?_)
                      refine cL rfl (o_move (v := .bool _) rfl ?_)
                      refine cLs rfl rfl rfl (rfl) ?_
                      refine cLs rfl rfl rfl (rfl) ?_
                      refine cL rfl (o_pickF (v := .bool _) rfl rfl rfl ?_)
                      refine eL ?_
                      exact le_mk ⟨rfl, rfl, rfl, rfl, rfl, rfl, rfl, rfl, rfl, rfl, (congrArg AV.bool (dAndF c1)).symm, trivial⟩ rfl
                  · refine W.cn rfl (fun hc => ?_) (fun hc => ?_)
                    · have hv := hv.1 hc
                      refine W.rL1 ?_
                      refine cL rfl (o_move (v := .int _ _) rfl ?_)
                      refine cL rfl (o_assign (v := .int _ _) rfl ?_)
                      refine eL ?_
                      exact bl_nrm (th_nrm (⟨(), v15, hv, St.to_mk (φ := [some 0]) rfl (.inl rfl) ⟨Ren.int _ _, Ren.lst _ _ _, Ren.int _ _, Ren.int _ _, Ren.lst _ _ _, Ren.int _ _, Ren.int _ _, Ren.ref rfl (fun h => h), Ren.int _ _, Ren.int _ _, trivial⟩ ⟨.inr ⟨_, rfl, rfl, rfl, rfl, Rens.enc encInt false r0⟩, trivial⟩⟩))
                    · have hv := hv.2 hc
                      refine W.skip ?_
                      exact bl_nrm (th_nrm (⟨(), v14, hv, St.to_mk (φ := [some 0]) rfl (.inl rfl) ⟨Ren.int _ _, Ren.lst _ _ _, Ren.int _ _, Ren.int _ _, Ren.lst _ _ _, Ren.int _ _, Ren.int _ _, Ren.ref rfl (fun h => h), Ren.int _ _, Ren.int _ _, trivial⟩ ⟨.inr ⟨_, rfl, rfl, rfl, rfl, Rens.enc encInt false r0⟩, trivial⟩⟩))
              · have hv := hv.2 hc
                refine W.exit ?_
                refine th_exit (th_exit (bl_hit (th_nrm ?_)))
                refine W.tr [(0, .int _ _), (1, .lst _ _ _), (5, .int _ _), (9, .int _ _), (10, .lst _ _ _), (11, .int _ _), (12, .int _ _), (13, .ref _ _ _), (14, .int _ _)] [.row _ _ _] ⟨rfl, rfl, rfl, rfl, rfl, rfl, rfl, rfl, rfl, trivial⟩ rfl ?_
                refine W.seq' ?_
                refine W.rL ?_
                refine cL rfl (o_move (v := .int _ _) rfl ?_)
                refine cL rfl (o_lss rfl rfl ?_)
                refine eL ?_
                refine W.tr [(0, .int _ _), (1, .lst _ _ _), (5, .int _ _), (9, .int _ _), (10, .lst _ _ _), (11, .int _ _), (12, .int _ _), (13, .ref _ _ _), (14, .int _ _), (149, .bool _)] [.row _ _ _] ⟨rfl, rfl, rfl, rfl, rfl, rfl, rfl, rfl, rfl, rfl, trivial⟩ rfl ?_
                refine W.cn rfl (fun hc => ?_) (fun hc => ?_)
                · have hv := hv.1 hc
                  refine W.exit ?_
                  exact th_exit (bl_miss rfl (th_exit (bl_hit (th_nrm (⟨(), r0, v11, v12, hv, St.to_mk (φ := [some 0]) rfl (.inl rfl) ⟨Ren.int _ _, Ren.lst _ _ _, Ren.int _ _, Ren.int _ _, Ren.int _ _, Ren.int _ _, Ren.ref rfl (fun h => h), trivial⟩ ⟨.inr ⟨_, rfl, rfl, rfl, rfl, Rens.enc encInt false r0⟩, trivial⟩⟩)))))
                · have hv := hv.2 hc
                  refine W.skip ?_
                  refine th_nrm ?_
                  refine W.tr [(0, .int _ _), (1, .lst _ _ _), (5, .int _ _), (9, .int _ _), (10, .lst _ _ _), (12, .int _ _), (13, .ref _ _ _), (14, .int _ _)] [.row _ _ _] ⟨rfl, rfl, rfl, rfl, rfl, rfl, rfl, rfl, trivial⟩ rfl ?_
                  refine W.rL ?_
                  refine cL rfl (o_move (v := .int _ _) rfl ?_)
                  refine cL rfl (o_move (v := .lst _ _ _) rfl ?_)
                  refine cL rfl (o_move (v := .int _ _) rfl ?_)
                  obtain ⟨s4661, hv⟩ := hv
                  refine cL rfl (o_iaL tt22 tt25 rfl rfl (enc25.wd true) rfl s4661 ?_)
                  intro rest4661
                  refine cL rfl (o_faP tt25 rfl tt3 rfl ?_)
                  refine cL rfl (o_ldS (v := .int _ _) tt3 rfl rfl ⟨_, rfl⟩ ?_)
                  obtain ⟨s4662, hv⟩ := hv
                  refine cL rfl (o_add rfl rfl s4662 ?_)
                  refine cL rfl (o_assign (v := .int _ _) rfl ?_)
                  refine eL ?_
                  refine W.tr [(0, .int _ _), (1, .lst _ _ _), (5, .int _ _), (9, .int _ _), (10, .lst _ _ _), (12, .int _ _), (13, .ref _ _ _), (14, .int _ _)] [.row _ _ _] ⟨rfl, rfl, rfl, rfl, rfl, rfl, rfl, rfl, trivial⟩ rfl ?_
                  refine W.rL ?_
                  refine cL rfl (o_move (v := .lst _ _ _) rfl ?_)
                  refine cL rfl (o_move (v := .int _ _) rfl ?_)
                  obtain ⟨s4663, hv⟩ := hv
                  refine cL rfl (o_iaL tt22 tt25 rfl rfl (enc25.wd true) rfl s4663 ?_)
                  intro rest4663
                  refine cL rfl (o_faP tt25 rfl tt3 rfl ?_)
                  refine cL rfl (o_ldS (v := .int _ _) tt3 rfl rfl ⟨_, rfl⟩ ?_)
                  refine cL rfl (o_assign (v := .int _ _) rfl ?_)
                  refine eL ?_
                  refine W.tr [(0, .int _ _), (1, .lst _ _ _), (5, .int _ _), (9, .int _ _), (10, .lst _ _ _), (11, .int _ _), (12, .int _ _), (13, .ref _ _ _), (14, .int _ _)] [.row _ _ _] ⟨rfl, rfl, rfl, rfl, rfl, rfl, rfl, rfl, rfl, trivial⟩ rfl ?_
                  refine W.rL1 ?_
                  refine cL rfl (o_move (v := .ref _ _ _) rfl ?_)
                  refine cL rfl (o_move (v := .int _ _) rfl ?_)
                  refine cL rfl (o_bs1 (v := .int _ _) (q := 1) tt35 tt3 rfl rfl rfl rfl rfl rfl rfl rfl ?_)
                  obtain ⟨s4664, hv⟩ := hv
                  refine cL rfl (o_apR (p := 2) (q := (r0 ++ [v14]).length) tt35 tt3 rfl rfl (src_ref rfl rfl) rfl rfl (encL_length (encInt.wd false) _) (Nat.le_trans (Nat.le_of_eq (@List.length_append _ (r0) ([v14])).symm) s4664) rfl (@List.length_append _ (r0) ([v14])).symm (encL_app eInt r0 [v14]) ?_)
                  refine cL rfl (o_assign (v := .ref _ _ _) rfl ?_)
                  refine eL ?_
                  exact bl_nrm (th_nrm (⟨(), ((lat l v14).t), (v12 + ((lat l v14).m)), (r0 ++ [v14]), hv, St.to_mk (φ := [some 2]) rfl (.inl rfl) ⟨Ren.int _ _, Ren.lst _ _ _, Ren.int _ _, Ren.int _ _, Ren.lst _ _ _, Ren.int _ _, Ren.int _ _, Ren.ref rfl (fun h => h), trivial⟩ ⟨.inr ⟨_, rfl, rfl, rfl, rfl, Rens.enc encInt false (r0 ++ [v14])⟩, trivial⟩⟩))
          · have hv := hv.2 hc
            refine W.exit ?_
            exact th_exit (th_exit (bl_hit (th_nrm (⟨(), r0, v11, v12, hv, St.to_mk (φ := [some 0]) rfl (.inl rfl) ⟨Ren.int _ _, Ren.lst _ _ _, Ren.int _ _, Ren.int _ _, Ren.int _ _, Ren.int _ _, Ren.ref rfl (fun h => h), trivial⟩ ⟨.inr ⟨_, rfl, rfl, rfl, rfl, Rens.enc encInt false r0⟩, trivial⟩⟩))))
      · have hv := hv.2 hc
        refine W.exit ?_
        refine th_exit (th_exit (bl_hit (th_nrm ?_)))
        refine W.tr [] [] trivial rfl ?_
        refine W.rL ?_
        refine cL rfl (o_assign (v := .nilS) rfl ?_)
        refine eL ?_
        refine W.tr [(4, .nilS)] [] ⟨rfl, trivial⟩ rfl ?_
        refine W.ret ?_
        refine rt ?_
        refine rt_t (v := .nilS) rfl ?_
        refine rt_n ?_
        exact ⟨_, rs_nil _ _ _ _ rfl, [], rfl, hv⟩
theorem vcp_rfirst (n : Int) (l : (List Con)) (h0 : FirstOk n l) : vc_rfirst n l (fun q0 => q0 = (rfirstM n l)) := by
  unfold vc_rfirst
  have hnb := hNB
  change validM n l = true at h0
  obtain ⟨⟨hn1, hn2, hlen⟩, hp⟩ := validM_iff.mp h0
  have hg := validM_goodn h0
  have hl : ∀ c ∈ l, (0 ≤ c.f ∧ c.f < n) ∧ (0 ≤ c.t ∧ c.t < n) ∧ -1125899906842624 ≤ c.m ∧ c.m ≤ 1125899906842624 := fun c hc => by
    have := possM_iff.mp (hp c hc); omega
  have hbd : ∀ to above : Int, 0 ≤ to ∧ to < n → ∀ k e : Nat, k ≤ 25 → -28147497671065600 ≤ vat (tabD l to above k) e ∧ vat (tabD l to above k) e ≤ 1152921504606846976 := fun to above ht k e hk => by
    have := tabD_bd (l := l) (to := to) (above := above) (fun c hc => ⟨⟨(hl c hc).1.1, by have := (hl c hc).1.2; omega⟩, (hl c hc).2.2.1⟩) ⟨ht.1, by omega⟩ k e
    omega
  refine ⟨fun z v => ∃ i : Nat, v = i ∧ i ≤ n.toNat ∧ z = zenc n ((List.range i).foldl (sizeStep n l) (n + 1)), fun _ v => n.toNat - v.toNat, ⟨0, rfl, by omega, by unfold zenc; simp⟩, ?_⟩
  rintro z _ ⟨i, rfl, hi, hz⟩
  have hSb := sizeM_bd (l := l) ⟨hn1, hn2⟩ i (by omega)
  refine ⟨fun k1 => ⟨⟨h0, by omega, by omega, by omega⟩, fun z' r => ∃ k : Nat, r = k ∧ 1 ≤ k ∧ k ≤ n.toNat + 1 ∧ ((z' = z ∧ ∀ j, 1 ≤ j → j < k → ¬ vat (tabD l i (-1) j) i < 0) ∨ ∃ r0 : Nat, 1 ≤ r0 ∧ r0 < k ∧ vat (tabD l i (-1) r0) i < 0 ∧ (∀ j, 1 ≤ j → j < r0 → ¬ vat (tabD l i (-1) j) i < 0) ∧ z' = zenc n (min ((List.range i).foldl (sizeStep n l) (n + 1)) r0)), fun _ r => n.toNat + 1 - r.toNat, ⟨1, rfl, by omega, by omega, .inl ⟨rfl, fun j h1 h2 => by omega⟩⟩, ?_⟩, fun k1 => ?_⟩
  · generalize hS : (List.range i).foldl (sizeStep n l) (n + 1) = S at hz hSb
    rintro z' _ ⟨k, rfl, hk1, hk2, hkz⟩
    refine ⟨fun k2 => ?_, fun k2 => ⟨by unfold inI; omega, ⟨i + 1, by omega, by omega, ?_⟩, by first | omega | (dsimp only; omega)⟩⟩
    · rw [least_at ⟨by omega, by omega⟩ ⟨by omega, by omega⟩]
      simp only [Int.toNat_natCast]
      have hll := least_len (n := n) (l := l) (a := -1) (t := i) (k := n) (by omega)
      have hlr := least_rlen (n := n) (l := l) (a := -1) (t := i) (k := n) (q := (k : Int)) (by omega) ⟨by omega, by omega⟩
      have e1 : inI ((k : Int) + 1) := by unfold inI; omega
      have e2 : ((k : Int) + 1) = ((k + 1 : Nat) : Int) := by omega
      have e3 : 1 ≤ k + 1 := by omega
      have e4 : k + 1 ≤ n.toNat + 1 := by omega
      have e5 : n.toNat + 1 - ((k : Int) + 1).toNat < n.toNat + 1 - (k : Int).toNat := by omega
      refine ⟨fun z2 => (z2 = z ∧ ∀ j, 1 ≤ j → j < k + 1 → ¬ vat (tabD l i (-1) j) i < 0) ∨ ∃ r0 : Nat, 1 ≤ r0 ∧ r0 < k + 1 ∧ vat (tabD l i (-1) r0) i < 0 ∧ (∀ j, 1 ≤ j → j < r0 → ¬ vat (tabD l i (-1) j) i < 0) ∧ z2 = zenc n (min S r0), fun z2 h2 => ⟨e1, ⟨k + 1, e2, e3, e4, h2⟩, e5⟩, ⟨by omega, by omega, fun _ => ⟨by omega, by omega, trivial⟩, fun _ => trivial⟩, fun k3 => ?_, fun k3 => ?_⟩
      · rcases hkz with ⟨rfl, hno⟩ | ⟨r0, a1, a2, a3, a4, a5⟩
        · refine .inr ⟨k, by omega, by omega, k3.2.1, hno, ?_⟩
          have hzc : z' = 0 ∨ (k : Int) < z' := k3.2.2
          unfold zenc at hz ⊢
          split at hz <;> split <;> omega
        · exfalso
          have hzc : z' = 0 ∨ (k : Int) < z' := k3.2.2
          unfold zenc at a5
          split at a5 <;> omega
      · rcases hkz with ⟨rfl, hno⟩ | ⟨r0, a1, a2, a3, a4, a5⟩
        · by_cases hneg : vat (tabD l i (-1) k) i < 0
          · refine .inr ⟨k, by omega, by omega, hneg, hno, ?_⟩
            have hzc : ¬ (z' = 0 ∨ (k : Int) < z') := fun h => k3 ⟨by omega, hneg, h⟩
            unfold zenc at hz ⊢
            split at hz <;> split <;> omega
          · refine .inl ⟨rfl, fun j h1 h2 => ?_⟩
            rcases Nat.lt_or_ge j k with h6 | h6
            · exact hno j h1 h6
            · have : j = k := by omega
              subst this; exact hneg
        · exact .inr ⟨r0, a1, by omega, a3, a4, a5⟩
    · have hk : k = n.toNat + 1 := by omega
      have hd0 : ¬ vat (tabD l i (-1) 0) i < 0 := by
        show ¬ vat (vset _ _ _) _ < 0
        rw [vat_vset (by omega)]; simp
      rw [List.range_succ, List.foldl_append, hS]
      simp only [List.foldl_cons, List.foldl_nil]
      rcases hkz with ⟨rfl, hno⟩ | ⟨r0, a1, a2, a3, a4, a5⟩
      · have : sizeAt n l i = none := find_drop_none (a := 0) (fun j _ hj h => by
          rcases Nat.eq_zero_or_pos j with h1 | h1
          · rw [h1] at h; exact hd0 (of_decide_eq_true h)
          · exact hno j h1 (by omega) (of_decide_eq_true h))
        unfold sizeStep; rw [this]; exact hz
      · have : sizeAt n l i = some r0 := find_drop_some (a := 0) ⟨by omega, by omega⟩ (decide_eq_true a3) (fun j _ hj h => by
          rcases Nat.eq_zero_or_pos j with h1 | h1
          · rw [h1] at h; exact hd0 (of_decide_eq_true h)
          · exact a4 j h1 hj (of_decide_eq_true h))
        unfold sizeStep; rw [this]; exact a5
  have hin : i = n.toNat := by omega
  have hzs : z = zenc n (sizeM n l) := by rw [hz, hin, sizeM_eq]
  have hSM : 1 ≤ sizeM n l ∧ sizeM n l ≤ n + 1 := by
    have := sizeM_bd (l := l) ⟨hn1, hn2⟩ n.toNat (by omega)
    rw [← sizeM_eq] at this; exact this
  clear hz hSb k1 hi
  have hz1 : 0 < z → z = sizeM n l ∧ z ≤ n := fun h => by unfold zenc at hzs; split at hzs <;> omega
  refine ⟨fun v => ∃ s : Nat, v = s ∧ s ≤ l.length ∧ (0 < z → ∀ j, j < s → firstAt l z j = none), fun v => l.length - v.toNat, ⟨0, rfl, by omega, fun _ j hj => by omega⟩, ?_⟩
  rintro _ ⟨s, rfl, hs, hsn⟩
  refine ⟨fun k2 => ?_, fun k2 => ?_⟩
  rotate_left
  · show [] = rfirstM n l
    unfold rfirstM
    split
    · rename_i h
      have hzz : z = sizeM n l := by unfold zenc at hzs; rw [if_neg (by omega)] at hzs; exact hzs
      unfold firstM
      rw [← hzz, findSome_range_none fun j hj => hsn (by omega) j (by omega)]; rfl
    · rfl
  have hsn := hsn k2.2
  obtain ⟨hz2, hz3⟩ := hz1 k2.2
  have hslt : s < l.length := by omega
  have hc := hl _ (lat_mem (xs := l) (i := s) ⟨by omega, by omega⟩)
  have hcl : lat l (s : Int) = l.getD s default := lat_nat l s
  rw [hcl] at hc ⊢
  have hlt := fun q (hq : 0 ≤ q ∧ q ≤ z - 1) u (hu : 0 ≤ u ∧ u < n) => least_at (n := n) (l := l) (a := (s : Int)) (t := (l.getD s default).f) (k := z - 1) (q := q) (u := u) hq hu
  have hll := least_len (n := n) (l := l) (a := (s : Int)) (t := (l.getD s default).f) (k := z - 1) (by omega)
  have hlr := fun q (hq : 0 ≤ q ∧ q ≤ z - 1) => least_rlen (n := n) (l := l) (a := (s : Int)) (t := (l.getD s default).f) (k := z - 1) (q := q) (by omega) hq
  have hd0 := fun k e => hbd (l.getD s default).f s hc.1 k e
  generalize hTL : leastM n l (s : Int) (l.getD s default).f (z - 1) = TL at hlt hll hlr ⊢
  refine ⟨by omega, by unfold inI; omega, ⟨h0, by omega, hc.1, by omega⟩, by omega, by omega, fun out a t => ((out.length : Int) = z ∧ (a = (l.getD s default).f ∧ t < 0) → firstAt l z s = some out) ∧ (¬ ((out.length : Int) = z ∧ (a = (l.getD s default).f ∧ t < 0)) → firstAt l z s = none), fun out a t hJ => ⟨⟨fun _ => ⟨by omega, trivial⟩, fun _ => trivial⟩, fun k3 => ?_, fun k3 => ⟨by unfold inI; omega, ⟨s + 1, by omega, by omega, fun _ j hj => ?_⟩, by first | omega | (dsimp only; omega)⟩⟩, ?_⟩
  · show out = rfirstM n l
    unfold rfirstM
    rw [if_pos (by omega)]
    unfold firstM
    rw [← hz2, findSome_range_some (i := s) (by omega) (hJ.1 k3) hsn]; rfl
  · rcases Nat.lt_or_ge j s with h6 | h6
    · exact hsn j h6
    · have : j = s := by omega
      subst this; exact hJ.2 k3
  refine ⟨fun a t out => ∃ (k : Nat) (e : List Int), out = (s : Int) :: e ∧ chainC l (tabD l (l.getD s default).f s) z s z.toNat [(s : Int)] (l.getD s default).t (l.getD s default).m = chainC l (tabD l (l.getD s default).f s) z s k out a t ∧ z ≤ k + out.length ∧ (out.length : Int) ≤ z ∧ (∀ i ∈ e, (s : Int) + 1 ≤ i ∧ i < (l.length : Int)) ∧ Wk2 (l.getD s default).t.toNat (e.map (lat l)) a.toNat ∧ t = (l.getD s default).m + wt (e.map (lat l)) ∧ (0 ≤ a ∧ a < n), fun _ _ out => z.toNat - out.length, ⟨z.toNat, [], rfl, rfl, by simp; omega, by simp; omega, fun i hi => by (cases hi), rfl, by simp [wt_nil], hc.2.1⟩, ?_⟩
  rintro a t out ⟨k, e, ho, hk, hkz, hoz, hem, hew, het, hea⟩
  have hemb : ∀ d ∈ e.map (lat l), d ∈ l := fun d hd => by
    rw [List.mem_map] at hd
    obtain ⟨i, hi, rfl⟩ := hd
    have := hem i hi
    exact lat_mem ⟨by omega, by omega⟩
  have htb := wt_bd hg hemb
  have hol : out.length = e.length + 1 := by rw [ho]; simp
  have hml : (e.map (lat l)).length = e.length := by simp
  have hnone : chainC l (tabD l (l.getD s default).f s) z s z.toNat [(s : Int)] (l.getD s default).t (l.getD s default).m = none → firstAt l z s = none := fun hC => by
    rcases firstAt_spec (by omega) hg (by omega) (size := z) (by omega) hslt with h | ⟨ext, h, -⟩
    · exact h.2
    · have hP : ¬ 0 ≤ plusM (l.getD s default).m (vat (tabD l (l.getD s default).f s (z - 1).toNat) (l.getD s default).t.toNat) := fun hp => by
        rw [firstAt_none hp] at h; cases h
      rw [firstAt_some hP] at h ⊢
      exact hC
  refine ⟨fun h4 => ⟨by unfold inI; omega, fun v w => ∃ i : Nat, w = i ∧ s + 1 ≤ i ∧ i ≤ l.length ∧ ((v = -1 ∧ ∀ j, s + 1 ≤ j → j < i → ¬ ((l.getD j default).f = a ∧ plusM (t + (l.getD j default).m) (vat (tabD l (l.getD s default).f s (z - out.length - 1).toNat) (l.getD j default).t.toNat) < 0)) ∨ ∃ j : Nat, v = j ∧ s + 1 ≤ j ∧ j < l.length ∧ nextC l (tabD l (l.getD s default).f s) z s out.length a t = some j), fun _ w => l.length - w.toNat, ⟨s + 1, by omega, by omega, by omega, .inl ⟨rfl, fun j h1 h2 => by omega⟩⟩, ?_⟩, fun h4 => ?_⟩
  · rintro v _ ⟨i, rfl, hi1, hi2, hv⟩
    refine ⟨fun h5 => ?_, fun h5 => ⟨fun h6 => ?_, fun h6 => ?_⟩⟩
    · have hvm : v = -1 ∧ ∀ j, s + 1 ≤ j → j < i → ¬ ((l.getD j default).f = a ∧ plusM (t + (l.getD j default).m) (vat (tabD l (l.getD s default).f s (z - out.length - 1).toNat) (l.getD j default).t.toNat) < 0) := by
        rcases hv with h | ⟨j, rfl, -⟩
        · exact h
        · omega
      obtain ⟨rfl, hno⟩ := hvm
      have hci := hl _ (lat_mem (xs := l) (i := i) ⟨by omega, by omega⟩)
      rw [lat_nat] at hci ⊢
      rw [hlt (z - out.length - 1) ⟨by omega, by omega⟩ _ hci.2.1]
      have hd2 := hd0 (z - out.length - 1).toNat (l.getD i default).t.toNat (by omega)
      have hlrq := hlr (z - out.length - 1) ⟨by omega, by omega⟩
      refine ⟨fun w => (w = -1 ∧ ∀ j, s + 1 ≤ j → j < i + 1 → ¬ ((l.getD j default).f = a ∧ plusM (t + (l.getD j default).m) (vat (tabD l (l.getD s default).f s (z - out.length - 1).toNat) (l.getD j default).t.toNat) < 0)) ∨ ∃ j : Nat, w = j ∧ s + 1 ≤ j ∧ j < l.length ∧ nextC l (tabD l (l.getD s default).f s) z s out.length a t = some j, fun w hw => ⟨by unfold inI; omega, ⟨i + 1, by omega, by omega, by omega, hw⟩, by first | omega | (dsimp only; omega)⟩, by omega, by unfold inI; omega, by unfold inI; omega, by unfold inI; omega, by omega, by omega, by omega, fun _ _ => by unfold inI; omega, ⟨by omega, trivial⟩, fun h6 => ?_, fun h6 => ?_⟩
      · exact .inr ⟨i, rfl, by omega, by omega, find_drop_some ⟨hi1, by omega⟩ (decide_eq_true ⟨h6.1, h6.2.2⟩) fun j hj1 hj2 h => hno j hj1 hj2 (of_decide_eq_true h)⟩
      · refine .inl ⟨rfl, fun j hj1 hj2 h => ?_⟩
        rcases Nat.lt_or_ge j i with h7 | h7
        · exact hno j hj1 h7 h
        · have : j = i := by omega
          subst this; exact h6 ⟨h.1, by omega, h.2⟩
    · -- no constraint leads on
      have hv : ∀ j, s + 1 ≤ j → j < i → ¬ ((l.getD j default).f = a ∧ plusM (t + (l.getD j default).m) (vat (tabD l (l.getD s default).f s (z - out.length - 1).toNat) (l.getD j default).t.toNat) < 0) := by
        rcases hv with h | ⟨j, rfl, -⟩
        · exact h.2
        · omega
      have hx : nextC l (tabD l (l.getD s default).f s) z s out.length a t = none := find_drop_none fun j hj1 hj2 h => hv j hj1 (by omega) (of_decide_eq_true h)
      obtain ⟨k, rfl⟩ : ∃ k', k = k' + 1 := ⟨k - 1, by omega⟩
      have hC := hk.trans (chain_none h4 hx)
      exact ⟨fun h7 => by omega, fun _ => hnone hC⟩
    · rcases hv with ⟨rfl, -⟩ | ⟨j, rfl, hj1, hj2, hx⟩
      · omega
      · obtain ⟨k, rfl⟩ : ∃ k', k = k' + 1 := ⟨k - 1, by omega⟩
        have hcj := hl _ (lat_mem (xs := l) (i := j) ⟨by omega, by omega⟩)
        have hcf : (l.getD j default).f = a := by
          unfold nextC at hx
          have h0 := List.find?_some hx
          exact (of_decide_eq_true h0).1
        have hlj : lat l (j : Int) = l.getD j default := lat_nat l j
        rw [hlj] at hcj ⊢
        have hoa : ((out ++ [(j : Int)]).length : Int) = out.length + 1 := by simp
        refine ⟨by omega, by unfold inI; omega, by omega, by omega, ⟨k, e ++ [(j : Int)], by rw [ho]; rfl, by rw [hk, chain_some h4 hx], by omega, by omega, fun q hq => ?_, ?_, ?_, hcj.2.1⟩, by first | omega | (dsimp only; omega)⟩
        · rcases List.mem_append.mp hq with h | h
          · exact hem q h
          · rw [List.mem_singleton] at h; omega
        · rw [List.map_append]
          refine hew.app ?_
          show Wk2 _ [lat l (j : Int)] _
          rw [hlj]
          exact ⟨by rw [hcf], rfl⟩
        · rw [List.map_append, wt_append, het]
          show _ = _ + (_ + wt [lat l (j : Int)])
          rw [wt_cons, wt_nil, hlj]; omega
  · have hC : chainC l (tabD l (l.getD s default).f s) z s z.toNat [(s : Int)] (l.getD s default).t (l.getD s default).m = some out := by
      rw [hk]
      rcases k with _ | k
      · rfl
      · exact chain_done h4
    have := chain_all (by omega) hg (size := z) ⟨by omega, by omega⟩ hslt ho hew het hea.1 hem hC (by omega)
    exact ⟨fun h7 => this.1 h7.2, fun h7 => this.2 fun h8 => h7 ⟨by omega, h8⟩⟩
theorem spec_rfirst (n : Int) (l : (List Con)) (h0 : FirstOk n l) : FnP Try.prog 30 [.int .i64 n, .lst true l.length (encL e25 l)] (fun xR => xR = .lst false (rfirstM n l).length (encL eInt (rfirstM n l))) :=
  (walk_rfirst (vcp_rfirst n l h0)).mono (by rintro _ ⟨_, rfl, rfl⟩; rfl)
end Go.Lat
