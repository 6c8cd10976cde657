/- The law latecomerlaw07.BoundsCheckedMatchesReference returns true for every input, and each argument reads afterwards as it read before. Part 10 of 13. No condition. -/
import Derived.Test.YtikbpchifcjomaaLatD
import Derived.Test.YtikbpchifcjomaaLatE
set_option linter.unusedVariables false
set_option linter.unusedSimpArgs false
set_option linter.unnecessarySimpa false
namespace Go.Lat
open Go.RowKit Go.Proofs
attribute [local irreducible] closeM rangeM pointM addBM cycleM holdsM validBM sameM madeM pickM plusM validM possM firstM tableM longerM boundsM ofM addM freeM
/-- What the walk through latecomerref07.Possible asks. -/
def vc_rposs (n : Int) (c : Con) (Post : Bool → Prop) : Prop :=
  Post (decide (((0 : Int) ≤ c.f) ∧ ((c.f < n) ∧ (((0 : Int) ≤ c.t) ∧ ((c.t < n) ∧ ((¬ c.f = c.t) ∧ (((-1125899906842624 : Int) ≤ c.m) ∧ ((c.m ≤ (1125899906842624 : Int)) ∧ (((0 : Int) ≤ c.a) ∧ (c.a < (64 : Int)))))))))))
set_option maxRecDepth 100000 in
set_option maxHeartbeats 4000000 in
theorem walk_rposs {n : Int} {c : Con} {Post : Bool → Prop} (hv : vc_rposs n c Post) : FnP Try.prog 45 [.int .i64 n, .agg (e25 c)] (fun x => ∃ q0, x = .bool q0 ∧ Post q0) := by
  refine FnP.of_walk (T := tt) (nt := 52) ttOk ttMix ⟨⟨Try.f45, Try.func45, rfl, rfl, rfl, rfl⟩⟩ (by simp) ?_
  unfold vc_rposs at hv
  change W _ _ _ ⟨52, look [(0, .int .i64 n), (1, .agg [.int .i64 c.f, .int .i64 c.t, .int .i64 c.m, .int .i64 c.a])], [], false⟩ _
  refine W.tr [(0, .int _ _), (1, .agg _)] [] ⟨rfl, rfl, trivial⟩ rfl ?_
  refine W.rL ?_
  refine cL rfl (o_box (v := .agg _) (p := 0) rfl rfl rfl ?_)
  refine cL rfl (o_assign (v := .bool _) rfl ?_)
  refine eL ?_
  refine W.tr [(0, .int _ _), (3, .ptr _ _)] [.box _ [.int _ _, .int _ _, .int _ _, .int _ _]] ⟨rfl, rfl, trivial⟩ rfl ?_
  refine W.rLm ⟨52, look [(4, .bool (decide (((0 : Int) ≤ c.f) ∧ ((c.f < n) ∧ (((0 : Int) ≤ c.t) ∧ ((c.t < n) ∧ ((¬ c.f = c.t) ∧ (((-1125899906842624 : Int) ≤ c.m) ∧ ((c.m ≤ (1125899906842624 : Int)) ∧ (((0 : Int) ≤ c.a) ∧ (c.a < (64 : Int))))))))))))], [.box 25 [.int .i64 c.f, .int .i64 c.t, .int .i64 c.m, .int .i64 c.a]], false⟩ ?_ ?_
  · refine cL rfl (o_fa tt25 rfl tt3 rfl ?_)
    refine cL rfl (o_ldS (v := .int _ _) tt3 rfl rfl ⟨_, rfl⟩ ?_)
    refine cL rfl (o_geq rfl rfl ?_)
    refine cL rfl (o_move (v := .bool _) rfl ?_)
    by_cases c1 : (0 : Int) ≤ c.f
    · refine cLg rfl rfl (decide_eq_true c1) ?_
      refine cL rfl (o_fa tt25 rfl tt3 rfl ?_)
      refine cLg rfl rfl (decide_eq_true c1) ?_
      refine cL rfl (o_ldS (v := .int _ _) tt3 rfl rfl ⟨_, rfl⟩ ?_)
      refine cLg rfl rfl (decide_eq_true c1) ?_
      refine cL rfl (o_move (v := .int _ _) rfl ?_)
      refine cLg rfl rfl (decide_eq_true c1) ?_
      refine cL rfl (o_lss rfl rfl ?_)
      refine cL rfl (o_pickT (v := .bool _) rfl (decide_eq_true c1) rfl ?_)
      refine cL rfl (o_move (v := .bool _) rfl ?_)
      by_cases c2 : c.f < n
      · refine cLg rfl rfl (decide_eq_true c2) ?_
        refine cL rfl (o_fa tt25 rfl tt3 rfl ?_)
        refine cLg rfl rfl (decide_eq_true c2) ?_
        refine cL rfl (o_ldS (v := .int _ _) tt3 rfl rfl ⟨_, rfl⟩ ?_)
        refine cLg rfl rfl (decide_eq_true c2) ?_
        refine cL rfl (o_geq rfl rfl ?_)
        refine cL rfl (o_pickT (v := .bool _) rfl (decide_eq_true c2) rfl ?_)
        refine cL rfl (o_move (v := .bool _) rfl ?_)
        by_cases c3 : (0 : Int) ≤ c.t
        · refine cLg rfl rfl (decide_eq_true c3) ?_
          refine cL rfl (o_fa tt25 rfl tt3 rfl ?_)
          refine cLg rfl rfl (decide_eq_true c3) ?_
          refine cL rfl (o_ldS (v := .int _ _) tt3 rfl rfl ⟨_, rfl⟩ ?_)
          refine cLg rfl rfl (decide_eq_true c3) ?_
          refine cL rfl (o_move (v := .int _ _) rfl ?_)
          refine cLg rfl rfl (decide_eq_true c3) ?_
          refine cL rfl (o_lss rfl rfl ?_)
          refine cL rfl (o_pickT (v := .bool _) rfl (decide_eq_true c3) rfl ?_)
          refine cL rfl (o_move (v := .bool _) rfl ?_)
          by_cases c4 : c.t < n
          · refine cLg rfl rfl (decide_eq_true c4) ?_
            refine cL rfl (o_fa tt25 rfl tt3 rfl ?_)
            refine cLg rfl rfl (decide_eq_true c4) ?_
            refine cL rfl (o_ldS (v := .int _ _) tt3 rfl rfl ⟨_, rfl⟩ ?_)
            refine cLg rfl rfl (decide_eq_true c4) ?_
            refine cL rfl (o_fa tt25 rfl tt3 rfl ?_)
            refine cLg rfl rfl (decide_eq_true c4) ?_
            refine cL rfl (o_ldS (v := .int _ _) tt3 rfl rfl ⟨_, rfl⟩ ?_)
            refine cLg rfl rfl (decide_eq_true c4) ?_
            refine cL rfl (o_neI rfl rfl rfl ?_)
            refine cL rfl (o_pickT (v := .bool _) rfl (decide_eq_true c4) rfl ?_)
            refine cL rfl (o_move (v := .bool _) rfl ?_)
            by_cases c5 : ¬ c.f = c.t
            · refine cLg rfl rfl (decide_eq_true c5) ?_
              refine cL rfl (o_fa tt25 rfl tt3 rfl ?_)
              refine cLg rfl rfl (decide_eq_true c5) ?_
              refine cL rfl (o_ldS (v := .int _ _) tt3 rfl rfl ⟨_, rfl⟩ ?_)
              refine cLg rfl rfl (decide_eq_true c5) ?_
              refine cL rfl (o_geq rfl rfl ?_)
              refine cL rfl (o_pickT (v := .bool _) rfl (decide_eq_true c5) rfl ?_)
              refine cL rfl (o_move (v := .bool _) rfl ?_)
              by_cases c6 : (-1125899906842624 : Int) ≤ c.m
              · refine cLg rfl rfl (decide_eq_true c6) ?_
                refine cL rfl (o_fa tt25 rfl tt3 rfl ?_)
                refine cLg rfl rfl (decide_eq_true c6) ?_
                refine cL rfl (o_ldS (v := .int _ _) tt3 rfl rfl ⟨_, rfl⟩ ?_)
                refine cLg rfl rfl (decide_eq_true c6) ?_
                refine cL rfl (o_leq rfl rfl ?_)
                refine cL rfl (o_pickT (v := .bool _) rfl (decide_eq_true c6) rfl ?_)
                refine cL rfl (o_move (v := .bool _) rfl ?_)
                by_cases c7 : c.m ≤ (1125899906842624 : Int)
                · refine cLg rfl rfl (decide_eq_true c7) ?_
                  refine cL rfl (o_fa tt25 rfl tt3 rfl ?_)
                  refine cLg rfl rfl (decide_eq_true c7) ?_
                  refine cL rfl (o_ldS (v := .int _ _) tt3 rfl rfl ⟨_, rfl⟩ ?_)
                  refine cLg rfl rfl (decide_eq_true c7) ?_
                  refine cL rfl (o_geq rfl rfl ?_)
                  refine cL rfl (o_pickT (v := .bool _) rfl (decide_eq_true c7) rfl ?_)
                  refine cL rfl (o_move (v := .bool _) rfl ?_)
                  by_cases c8 : (0 : Int) ≤ c.a
                  · refine cLg rfl rfl (decide_eq_true c8) ?_
                    refine cL rfl (o_fa tt25 rfl tt3 rfl ?_)
                    refine cLg rfl rfl (decide_eq_true c8) ?_
                    refine cL rfl (o_ldS (v := .int _ _) tt3 rfl rfl ⟨_, rfl⟩ ?_)
                    refine cLg rfl rfl (decide_eq_true c8) ?_
                    refine cL rfl (o_lss rfl rfl ?_)
                    refine cL rfl (o_pickT (v := .bool _) rfl (decide_eq_true c8) rfl ?_)
                    refine cL rfl (o_assign (v := .bool _) rfl ?_)
                    refine eL ?_
                    exact le_mk ⟨(congrArg AV.bool (dAndT c1 (dAndT c2 (dAndT c3 (dAndT c4 (dAndT c5 (dAndT c6 (dAndT c7 (dAndT c8 (rfl)))))))))).symm, trivial⟩ rfl
                  · refine cLs rfl rfl rfl (decide_eq_false c8) ?_
                    refine cLs rfl rfl rfl (decide_eq_false c8) ?_
                    refine cLs rfl rfl rfl (decide_eq_false c8) ?_
                    refine cL rfl (o_pickF (v := .bool _) rfl (decide_eq_false c8) rfl ?_)
                    refine cL rfl (o_assign (v := .bool _) rfl ?_)
                    refine eL ?_
                    exact le_mk ⟨(congrArg AV.bool (dAndT c1 (dAndT c2 (dAndT c3 (dAndT c4 (dAndT c5 (dAndT c6 (dAndT c7 (dAndF c8))))))))).symm, trivial⟩ rfl
                · refine cLs rfl rfl rfl (decide_eq_false c7) ?_
                  refine cLs rfl rfl rfl (decide_eq_false c7) ?_
                  refine cLs rfl rfl rfl (decide_eq_false c7) ?_
                  refine cL rfl (o_pickF (v := .bool _) rfl (decide_eq_false c7) rfl ?_)
                  refine cL rfl (o_move (v := .bool _) rfl ?_)
                  refine cLs rfl rfl rfl (rfl) ?_
                  refine cLs rfl rfl rfl (rfl) ?_
                  refine cLs rfl rfl rfl (rfl) ?_
                  refine cL rfl (o_pickF (v := .bool _) rfl rfl rfl ?_)
                  refine cL rfl (o_assign (v := .bool _) rfl ?_)
                  refine eL ?_
                  exact le_mk ⟨(congrArg AV.bool (dAndT c1 (dAndT c2 (dAndT c3 (dAndT c4 (dAndT c5 (dAndT c6 (dAndF c7)))))))).symm, trivial⟩ rfl
              · refine cLs rfl rfl rfl (decide_eq_false c6) ?_
                refine cLs rfl rfl rfl (decide_eq_false c6) ?_
                refine cLs rfl rfl rfl (decide_eq_false c6) ?_
                refine cL rfl (o_pickF (v := .bool _) rfl (decide_eq_false c6) rfl ?_)
                refine cL rfl (o_move (v := .bool _) rfl ?_)
                refine cLs rfl rfl rfl (rfl) ?_
                refine cLs rfl rfl rfl (rfl) ?_
                refine cLs rfl rfl rfl (rfl) ?_
                refine cL rfl (o_pickF (v := .bool _) rfl rfl rfl ?_)
                refine cL rfl (o_move (v := .bool _) rfl ?_)
                refine cLs rfl rfl rfl (rfl) ?_
                refine cLs rfl rfl rfl (rfl) ?_
                refine cLs rfl rfl rfl (rfl) ?_
                refine cL rfl (o_pickF (v := .bool _) rfl rfl rfl ?_)
                refine cL rfl (o_assign (v := .bool _) rfl ?_)
                refine eL ?_
                exact le_mk ⟨(congrArg AV.bool (dAndT c1 (dAndT c2 (dAndT c3 (dAndT c4 (dAndT c5 (dAndF c6))))))).symm, trivial⟩ rfl
            · refine cLs rfl rfl rfl (decide_eq_false c5) ?_
              refine cLs rfl rfl rfl (decide_eq_false c5) ?_
              refine cLs rfl rfl rfl (decide_eq_false c5) ?_
              refine cL rfl (o_pickF (v := .bool _) rfl (decide_eq_false c5) rfl ?_)
              refine cL rfl (o_move (v := .bool _) rfl ?_)
              refine cLs rfl rfl rfl (rfl) ?_
              refine cLs rfl rfl rfl (rfl) ?_
              refine cLs rfl rfl rfl (rfl) ?_
              refine cL rfl (o_pickF (v := .bool _) rfl rfl rfl ?_)
              refine cL rfl (o_move (v := .bool _) rfl ?_)
              refine cLs rfl rfl rfl (rfl) ?_
              refine cLs rfl rfl rfl (rfl) ?_
              refine cLs rfl rfl rfl (rfl) ?_
              refine cL rfl (o_pickF (v := .bool _) rfl rfl rfl ?_)
              refine cL rfl (o_move (v := .bool _) rfl ?_)
              refine cLs rfl rfl rfl (rfl) ?_
              refine cLs rfl rfl rfl (rfl) ?_
              refine cLs rfl rfl rfl (rfl) ?_
              refine cL rfl (o_pickF (v := .bool _) rfl rfl rfl ?_)
              refine cL rfl (o_assign (v := .bool _) rfl ?_)
              refine eL ?_
              exact le_mk ⟨(congrArg AV.bool (dAndT c1 (dAndT c2 (dAndT c3 (dAndT c4 (dAndF c5)))))).symm, trivial⟩ rfl
          · refine cLs rfl rfl rfl (decide_eq_false c4) ?_
            refine cLs rfl rfl rfl (decide_eq_false c4) ?_
            refine cLs rfl rfl rfl (decide_eq_false c4) ?_
            refine cLs rfl rfl rfl (decide_eq_false c4) ?_
            refine cLs rfl rfl rfl (decide_eq_false c4) ?_
            refine cL rfl (o_pickF (v := .bool _) rfl (decide_eq_false c4) rfl ?_)
            refine cL rfl (o_move (v := .bool _) rfl ?_)
            refine cLs rfl rfl rfl (rfl) ?_
            refine cLs rfl rfl rfl (rfl) ?_
            refine cLs rfl rfl rfl (rfl) ?_
            refine cL rfl (o_pickF (v := .bool _) rfl rfl rfl ?_)
            refine cL rfl (o_move (v := .bool _) rfl ?_)
            refine cLs rfl rfl rfl (rfl) ?_
            refine cLs rfl rfl rfl (rfl) ?_
            refine cLs rfl rfl rfl (rfl) ?_
            refine cL rfl (o_pickF (v := .bool _) rfl rfl rfl ?_)
            refine cL rfl (o_move (v := .bool _) rfl ?_)
            refine cLs rfl rfl rfl (rfl) ?_
            refine cLs rfl rfl rfl (rfl) ?_
            refine cLs rfl rfl rfl (rfl) ?_
            refine cL rfl (o_pickF (v := .bool _) rfl rfl rfl ?_)
            refine cL rfl (o_move (v := .bool _) rfl ?_)
            refine cLs rfl rfl rfl (rfl) ?_
            refine cLs rfl rfl rfl (rfl) ?_
            refine cLs rfl rfl rfl (rfl) ?_
            refine cL rfl (o_pickF (v := .bool _) rfl rfl rfl ?_)
            refine cL rfl (o_assign (v := .bool _) rfl ?_)
            refine eL ?_
            exact le_mk ⟨(congrArg AV.bool (dAndT c1 (dAndT c2 (dAndT c3 (dAndF c4))))).symm, trivial⟩ rfl
        · refine cLs rfl rfl rfl (decide_eq_false c3) ?_
          refine cLs rfl rfl rfl (decide_eq_false c3) ?_
          refine cLs rfl rfl rfl (decide_eq_false c3) ?_
          refine cLs rfl rfl rfl (decide_eq_false c3) ?_
          refine cL rfl (o_pickF (v := .bool _) rfl (decide_eq_false c3) rfl ?_)
          refine cL rfl (o_move (v := .bool _) rfl ?_)
          refine cLs rfl rfl rfl (rfl) ?_
          refine cLs rfl rfl rfl (rfl) ?_
          refine cLs rfl rfl rfl (rfl) ?_
          refine cLs rfl rfl rfl (rfl) ?_
          refine cLs rfl rfl rfl (rfl) ?_
          refine cL rfl (o_pickF (v := .bool _) rfl rfl rfl ?_)
          refine cL rfl (o_move (v := .bool _) rfl ?_)
          refine cLs rfl rfl rfl (rfl) ?_
          refine cLs rfl rfl rfl (rfl) ?_
          refine cLs rfl rfl rfl (rfl) ?_
          refine cL rfl (o_pickF (v := .bool _) rfl rfl rfl ?_)
          refine cL rfl (o_move (v := .bool _) rfl ?_)
          refine cLs rfl rfl rfl (rfl) ?_
          refine cLs rfl rfl rfl (rfl) ?_
          refine cLs rfl rfl rfl (rfl) ?_
          refine cL rfl (o_pickF (v := .bool _) rfl rfl rfl ?_)
          refine cL rfl (o_move (v := .bool _) rfl ?_)
          refine cLs rfl rfl rfl (rfl) ?_
          refine cLs rfl rfl rfl (rfl) ?_
          refine cLs rfl rfl rfl (rfl) ?_
          refine cL rfl (o_pickF (v := .bool _) rfl rfl rfl ?_)
          refine cL rfl (o_move (v := .bool _) rfl ?_)
          refine cLs rfl rfl rfl (rfl) ?_
          refine cLs rfl rfl rfl (rfl) ?_
          refine cLs rfl rfl rfl (rfl) ?_
          refine cL rfl (o_pickF (v := .bool _) rfl rfl rfl ?_)
          refine cL rfl (o_assign (v := .bool _) rfl ?_)
          refine eL ?_
          exact le_mk ⟨(congrArg AV.bool (dAndT c1 (dAndT c2 (dAndF c3)))).symm, trivial⟩ rfl
      · refine cLs rfl rfl rfl (decide_eq_false c2) ?_
        refine cLs rfl rfl rfl (decide_eq_false c2) ?_
        refine cLs rfl rfl rfl (decide_eq_false c2) ?_
        refine cL rfl (o_pickF (v := .bool _) rfl (decide_eq_false c2) rfl ?_)
        refine cL rfl (o_move (v := .bool _) rfl ?_)
        refine cLs rfl rfl rfl (rfl) ?_
        refine cLs rfl rfl rfl (rfl) ?_
        refine cLs rfl rfl rfl (rfl) ?_
        refine cLs rfl rfl rfl (rfl) ?_
        refine cL rfl (o_pickF (v := .bool _) rfl rfl rfl ?_)
        refine cL rfl (o_move (v := .bool _) rfl ?_)
        refine cLs rfl rfl rfl (rfl) ?_
        refine cLs rfl rfl rfl (rfl) ?_
        refine cLs rfl rfl rfl (rfl) ?_
        refine cLs rfl rfl rfl (rfl) ?_
        refine cLs rfl rfl rfl (rfl) ?_
        refine cL rfl (o_pickF (v := .bool _) rfl rfl rfl ?_)
        refine cL rfl (o_move (v := .bool _) rfl ?_)
        refine cLs rfl rfl rfl (rfl) ?_
        refine cLs rfl rfl rfl (rfl) ?_
        refine cLs rfl rfl rfl (rfl) ?_
        refine cL rfl (o_pickF (v := .bool _) rfl rfl rfl ?_)
        refine cL rfl (o_move (v := .bool _) rfl ?_)
        refine cLs rfl rfl rfl (rfl) ?_
        refine cLs rfl rfl rfl (rfl) ?_
        refine cLs rfl rfl rfl (rfl) ?_
        refine cL rfl (o_pickF (v := .bool _) rfl rfl rfl ?_)
        refine cL rfl (o_move (v := .bool _) rfl ?_)
        refine cLs rfl rfl rfl (rfl) ?_
        refine cLs rfl rfl rfl (rfl) ?_
        refine cLs rfl rfl rfl (rfl) ?_
        refine cL rfl (o_pickF (v := .bool _) rfl rfl rfl ?_)
        refine cL rfl (o_move (v := .bool _) rfl ?_)
        refine cLs rfl rfl rfl (rfl) ?_
        refine cLs rfl rfl rfl (rfl) ?_
        refine cLs rfl rfl rfl (rfl) ?_
        refine cL rfl (o_pickF (v := .bool _) rfl rfl rfl ?_)
        refine cL rfl (o_assign (v := .bool _) rfl ?_)
        refine eL ?_
        exact le_mk ⟨(congrArg AV.bool (dAndT c1 (dAndF c2))).symm, trivial⟩ rfl
    · refine cLs rfl rfl rfl (decide_eq_false c1) ?_
      refine cLs rfl rfl rfl (decide_eq_false c1) ?_
      refine cLs rfl rfl rfl (decide_eq_false c1) ?_
      refine cLs rfl rfl rfl (decide_eq_false c1) ?_
      refine cL rfl (o_pickF (v := .bool _) rfl (decide_eq_false c1) rfl ?_)
      refine cL rfl (o_move (v := .bool _) rfl ?_)
      refine cLs rfl rfl rfl (rfl) ?_
      refine cLs rfl rfl rfl (rfl) ?_
      refine cLs rfl rfl rfl (rfl) ?_
      refine cL rfl (o_pickF (v := .bool _) rfl rfl rfl ?_)
      refine cL rfl (o_move (v := .bool _) rfl ?_)
      refine cLs rfl rfl rfl (rfl) ?_
      refine cLs rfl rfl rfl (rfl) ?_
      refine cLs rfl rfl rfl (rfl) ?_
      refine cLs rfl rfl rfl (rfl) ?_
      refine cL rfl (o_pickF (v := .bool _) rfl rfl rfl ?_)
      refine cL rfl (o_move (v := .bool _) rfl ?_)
      refine cLs rfl rfl rfl (rfl) ?_
      refine cLs rfl rfl rfl (rfl) ?_
      refine cLs rfl rfl rfl (rfl) ?_
      refine cLs rfl rfl rfl (rfl) ?_
      refine cLs rfl rfl rfl (rfl) ?_
      refine cL rfl (o_pickF (v := .bool _) rfl rfl rfl ?_)
      refine cL rfl (o_move (v := .bool _) rfl ?_)
      refine cLs rfl rfl rfl (rfl) ?_
      refine cLs rfl rfl rfl (rfl) ?_
      refine cLs rfl rfl rfl (rfl) ?_
      refine cL rfl (o_pickF (v := .bool _) rfl rfl rfl ?_)
      refine cL rfl (o_move (v := .bool _) rfl ?_)
      refine cLs rfl rfl rfl (rfl) ?_
      refine cLs rfl rfl rfl (rfl) ?_
      refine cLs rfl rfl rfl (rfl) ?_
      refine cL rfl (o_pickF (v := .bool _) rfl rfl rfl ?_)
      refine cL rfl (o_move (v := .bool _) rfl ?_)
      refine cLs rfl rfl rfl (rfl) ?_
      refine cLs rfl rfl rfl (rfl) ?_
      refine cLs rfl rfl rfl (rfl) ?_
      refine cL rfl (o_pickF (v := .bool _) rfl rfl rfl ?_)
      refine cL rfl (o_move (v := .bool _) rfl ?_)
      refine cLs rfl rfl rfl (rfl) ?_
      refine cLs rfl rfl rfl (rfl) ?_
      refine cLs rfl rfl rfl (rfl) ?_
      refine cL rfl (o_pickF (v := .bool _) rfl rfl rfl ?_)
      refine cL rfl (o_assign (v := .bool _) rfl ?_)
      refine eL ?_
      exact le_mk ⟨(congrArg AV.bool (dAndF c1)).symm, trivial⟩ rfl
  · refine W.ret ?_
    refine rt ?_
    refine rt_t (v := .bool _) rfl ?_
    refine rt_n ?_
    exact ⟨_, rs_bool _ _ _, (decide (((0 : Int) ≤ c.f) ∧ ((c.f < n) ∧ (((0 : Int) ≤ c.t) ∧ ((c.t < n) ∧ ((¬ c.f = c.t) ∧ (((-1125899906842624 : Int) ≤ c.m) ∧ ((c.m ≤ (1125899906842624 : Int)) ∧ (((0 : Int) ≤ c.a) ∧ (c.a < (64 : Int))))))))))), rfl, hv⟩
theorem vcp_rposs (n : Int) (c : Con)  : vc_rposs n c (fun q0 => q0 = (possM n c)) := by
  unfold vc_rposs possM
  exact decide_eq_decide.mpr (by omega)
theorem spec_rposs (n : Int) (c : Con)  : FnP Try.prog 45 [.int .i64 n, .agg (e25 c)] (fun xR => xR = .bool (possM n c)) :=
  (walk_rposs (vcp_rposs n c)).mono (by rintro _ ⟨_, rfl, rfl⟩; rfl)
end Go.Lat
namespace Go.Lat
open Go.RowKit Go.Proofs
attribute [local irreducible] closeM rangeM pointM addBM cycleM holdsM validBM sameM madeM pickM plusM validM possM firstM tableM longerM boundsM ofM addM freeM
/-- What the walk through latecomerref07.Constraints asks. -/
def vc_rvalid (n : Int) (l : (List Con)) (Post : Bool → Prop) : Prop :=
  (((n < (1 : Int)) ∨ (((24 : Int) < n) ∨ ((2000 : Int) < ((l.length : Nat) : Int)))) → Post false) ∧ (¬ ((n < (1 : Int)) ∨ (((24 : Int) < n) ∨ ((2000 : Int) < ((l.length : Nat) : Int)))) → ∃ (I1 : Int → Prop) (μ1 : Int → Nat), I1 (0 : Int) ∧ ∀ (v5 : Int), I1 v5 → ((v5 < ((l.length : Nat) : Int)) → (0 ≤ v5 ∧ v5 < (l.length : Int)) ∧ ((¬ ((possM n (lat l v5)) = true)) → Post false) ∧ (¬ (¬ ((possM n (lat l v5)) = true)) → (inI (v5 + (1 : Int))) ∧ (I1 (v5 + (1 : Int)) ∧ μ1 (v5 + (1 : Int)) < μ1 v5))) ∧ (¬ (v5 < ((l.length : Nat) : Int)) → Post true))
set_option maxRecDepth 100000 in
set_option maxHeartbeats 4000000 in
theorem walk_rvalid {n : Int} {l : (List Con)} {Post : Bool → Prop} (hv : vc_rvalid n l Post) : FnP Try.prog 40 [.int .i64 n, .lst true l.length (encL e25 l)] (fun x => ∃ q0, x = .bool q0 ∧ Post q0) := by
  refine FnP.of_walk (T := tt) (nt := 30) ttOk ttMix ⟨⟨Try.f40, Try.func40, rfl, rfl, rfl, rfl⟩⟩ (by simp) ?_
  unfold vc_rvalid at hv
  change W _ _ _ ⟨30, look [(0, .int .i64 n), (1, .lst true l.length (encL e25 l))], [], false⟩ _
  refine W.tr [(0, .int _ _), (1, .lst _ _ _)] [] ⟨rfl, rfl, trivial⟩ rfl ?_
  refine W.rL ?_
  refine cL rfl (o_assign (v := .bool _) rfl ?_)
  refine eL ?_
  refine W.tr [(0, .int _ _), (1, .lst _ _ _)] [] ⟨rfl, rfl, trivial⟩ rfl ?_
  refine W.seq' ?_
  refine W.rLm ⟨30, look [(0, .int .i64 n), (1, .lst true l.length (encL e25 l)), (16, .bool (decide ((n < (1 : Int)) ∨ (((24 : Int) < n) ∨ ((2000 : Int) < ((l.length : Nat) : Int))))))], [], false⟩ ?_ ?_
  · refine cL rfl (o_move (v := .int _ _) rfl ?_)
    refine cL rfl (o_lss rfl rfl ?_)
    refine cL rfl (o_move (v := .bool _) rfl ?_)
    by_cases c1 : n < (1 : Int)
    · refine cLs rfl rfl rfl (decide_eq_true c1) ?_
      refine cLs rfl rfl rfl (decide_eq_true c1) ?_
      refine cL rfl (o_pickT (v := .bool _) rfl (decide_eq_true c1) rfl ?_)
      refine cL rfl (o_move (v := .bool _) rfl ?_)
      refine cLs rfl rfl rfl (rfl) ?_
      refine cLs rfl rfl rfl (rfl) ?_
      refine cLs rfl rfl rfl (rfl) ?_
      refine cL rfl (o_pickT (v := .bool _) rfl rfl rfl ?_)
      refine eL ?_
      exact le_mk ⟨rfl, rfl, (congrArg AV.bool (dOrT c1)).symm, trivial⟩ rfl
    · refine cLg rfl rfl (decide_eq_false c1) ?_
      refine cL rfl (o_move (v := .int _ _) rfl ?_)
      refine cLg rfl rfl (decide_eq_false c1) ?_
      refine cL rfl (o_gtr rfl rfl ?_)
      refine cL rfl (o_pickF (v := .bool _) rfl (decide_eq_false c1) rfl ?_)
      refine cL rfl (o_move (v := .bool _) rfl ?_)
      by_cases c2 : (24 : Int) < n
      · refine cLs rfl rfl rfl (decide_eq_true c2) ?_
        refine cLs rfl rfl rfl (decide_eq_true c2) ?_
        refine cLs rfl rfl rfl (decide_eq_true c2) ?_
        refine cL rfl (o_pickT (v := .bool _) rfl (decide_eq_true c2) rfl ?_)
        refine eL ?_
        exact le_mk ⟨rfl, rfl, (congrArg AV.bool (dOrF c1 (dOrT c2))).symm, trivial⟩ rfl
      · refine cLg rfl rfl (decide_eq_false c2) ?_
        refine cL rfl (o_move (v := .lst _ _ _) rfl ?_)
        refine cLg rfl rfl (decide_eq_false c2) ?_
        refine cL rfl (o_len (v := .lst _ _ _) tt22 rfl rfl ?_)
        refine cLg rfl rfl (decide_eq_false c2) ?_
        refine cL rfl (o_gtr rfl rfl ?_)
        refine cL rfl (o_pickF (v := .bool _) rfl (decide_eq_false c2) rfl ?_)
        refine eL ?_
        exact le_mk ⟨rfl, rfl, (congrArg AV.bool (dOrF c1 (dOrF c2 (rfl)))).symm, trivial⟩ rfl
  · refine W.cn rfl (fun hc => ?_) (fun hc => ?_)
    · have hv := hv.1 hc
      refine W.rL ?_
      refine cL rfl (o_assign (v := .bool _) rfl ?_)
      refine eL ?_
      refine W.tr [(4, .bool _)] [] ⟨rfl, trivial⟩ rfl ?_
      refine W.ret ?_
      refine th_ret (rt ?_)
      refine rt_t (v := .bool _) rfl ?_
      refine rt_n ?_
      exact ⟨_, rs_bool _ _ _, false, rfl, hv⟩
    · have hv := hv.2 hc
      refine W.skip ?_
      refine th_nrm ?_
      refine W.tr [(0, .int _ _), (1, .lst _ _ _)] [] ⟨rfl, rfl, trivial⟩ rfl ?_
      refine W.seq' ?_
      refine W.rL ?_
      refine cL rfl (o_assign (v := .int _ _) rfl ?_)
      refine eL ?_
      refine W.tr [(0, .int _ _), (1, .lst _ _ _), (5, .int _ _)] [] ⟨rfl, rfl, rfl, trivial⟩ rfl ?_
      refine W.block ?_
      obtain ⟨I1, μ1, hp, hv⟩ := hv
      refine W.loop1 (fun v5 => ⟨30, look [(0, .int .i64 n), (1, .lst true l.length (encL e25 l)), (5, .int .i64 v5)], [], false⟩) I1 μ1 (0 : Int) (St.to_mk (φ := []) rfl (.inl rfl) ⟨Ren.int _ _, Ren.lst _ _ _, Ren.int _ _, trivial⟩ trivial) hp ?_
      clear hp
      intro v5 hI
      replace hv := hv v5 hI
      clear hI
      refine W.seq' ?_
      refine W.rL ?_
      refine cL rfl (o_move (v := .int _ _) rfl ?_)
      refine cL rfl (o_move (v := .lst _ _ _) rfl ?_)
      refine cL rfl (o_len (v := .lst _ _ _) tt22 rfl rfl ?_)
      refine cL rfl (o_lss rfl rfl ?_)
      refine eL ?_
      refine W.tr [(0, .int _ _), (1, .lst _ _ _), (5, .int _ _), (20, .bool _)] [] ⟨rfl, rfl, rfl, rfl, trivial⟩ rfl ?_
      refine W.cn rfl (fun hc => ?_) (fun hc => ?_)
      · have hv := hv.1 hc
        refine W.skip ?_
        refine th_nrm ?_
        refine W.tr [(0, .int _ _), (1, .lst _ _ _), (5, .int _ _)] [] ⟨rfl, rfl, rfl, trivial⟩ rfl ?_
        refine W.seq' ?_
        refine W.block ?_
        refine W.rL ?_
        refine cL rfl (o_move (v := .int _ _) rfl ?_)
        refine cL rfl (o_move (v := .lst _ _ _) rfl ?_)
        refine cL rfl (o_move (v := .int _ _) rfl ?_)
        obtain ⟨s11, hv⟩ := hv
        refine cL rfl (o_iaL tt22 tt25 rfl rfl (enc25.wd true) rfl s11 ?_)
        intro rest11
        refine cL rfl (o_ldA (cs := [.int _ _, .int _ _, .int _ _, .int _ _]) tt25 rfl rfl ⟨_, rfl⟩ rfl ?_)
        refine cL rfl (o_callP1 (k := 45) (fst := []) (caps := []) (ys := [.int _ _, .agg _]) rfl rfl (spec_rposs n (lat l v5)) (Wks.cons (ag_int _ _ _ _) (Wks.cons (ag_agg 5 _ (Wks.cons (ag_int _ _ _ _) (Wks.cons (ag_int _ _ _ _) (Wks.cons (ag_int _ _ _ _) (Wks.cons (ag_int _ _ _ _) (Wks.refl _)))))) (Wks.refl _))) ?_)
        refine cL rfl (o_notB rfl ?_)
        refine eL ?_
        refine W.tr [(0, .int _ _), (1, .lst _ _ _), (5, .int _ _), (29, .bool _)] [] ⟨rfl, rfl, rfl, rfl, trivial⟩ rfl ?_
        refine W.cn rfl (fun hc => ?_) (fun hc => ?_)
        · have hv := hv.1 hc
          refine W.rL ?_
          refine cL rfl (o_assign (v := .bool _) rfl ?_)
          refine eL ?_
          refine W.tr [(4, .bool _)] [] ⟨rfl, trivial⟩ rfl ?_
          refine W.ret ?_
          refine bl_ret (th_ret (th_ret (bl_ret (th_ret (rt ?_)))))
          refine rt_t (v := .bool _) rfl ?_
          refine rt_n ?_
          exact ⟨_, rs_bool _ _ _, false, rfl, hv⟩
        · have hv := hv.2 hc
          refine W.skip ?_
          refine bl_nrm (th_nrm ?_)
          refine W.tr [(0, .int _ _), (1, .lst _ _ _), (5, .int _ _)] [] ⟨rfl, rfl, rfl, trivial⟩ rfl ?_
          refine W.rL1 ?_
          refine cL rfl (o_move (v := .int _ _) rfl ?_)
          obtain ⟨s12, hv⟩ := hv
          refine cL rfl (o_add rfl rfl s12 ?_)
          refine cL rfl (o_assign (v := .int _ _) rfl ?_)
          refine eL ?_
          exact th_nrm (⟨(), (v5 + (1 : Int)), hv, St.to_mk (φ := []) rfl (.inl rfl) ⟨Ren.int _ _, Ren.lst _ _ _, Ren.int _ _, trivial⟩ trivial⟩)
      · have hv := hv.2 hc
        refine W.exit ?_
        refine th_exit (th_exit (bl_hit (th_nrm ?_)))
        refine W.tr [] [] trivial rfl ?_
        refine W.rL ?_
        refine cL rfl (o_assign (v := .bool _) rfl ?_)
        refine eL ?_
        refine W.tr [(4, .bool _)] [] ⟨rfl, trivial⟩ rfl ?_
        refine W.ret ?_
        refine rt ?_
        refine rt_t (v := .bool _) rfl ?_
        refine rt_n ?_
        exact ⟨_, rs_bool _ _ _, true, rfl, hv⟩
theorem vcp_rvalid (n : Int) (l : (List Con)) (h0 : l.length ≤ 1073741824) : vc_rvalid n l (fun q0 => q0 = (validM n l)) := by
  unfold vc_rvalid
  refine ⟨fun h => ?_, fun h => ⟨fun v => ∃ i : Nat, v = i ∧ i ≤ l.length ∧ ∀ j : Nat, j < i → possM n (lat l j) = true, fun v => l.length - v.toNat, ⟨0, rfl, by omega, fun j hj => by omega⟩, ?_⟩⟩
  · refine (Bool.eq_false_iff.mpr fun e => ?_).symm
    obtain ⟨e, -⟩ := validM_iff.mp e
    omega
  rintro _ ⟨i, rfl, hi, hp⟩
  refine ⟨fun k1 => ⟨by omega, fun k2 => ?_, fun k2 => ⟨by unfold inI; omega, ⟨i + 1, by omega, by omega, fun j hj => ?_⟩, by dsimp only; omega⟩⟩, fun k1 => ?_⟩
  · refine (Bool.eq_false_iff.mpr fun e => k2 ?_).symm
    exact (validM_iff.mp e).2 _ (lat_mem ⟨by omega, by omega⟩)
  · rcases Nat.lt_or_ge j i with h6 | h6
    · exact hp j h6
    · have : j = i := by omega
      subst this; exact Classical.not_not.mp k2
  · refine (validM_iff.mpr ⟨by omega, fun c hc => ?_⟩).symm
    obtain ⟨j, hj, rfl⟩ := List.getElem_of_mem hc
    have := hp j (by omega)
    rwa [lat_get hj] at this
theorem spec_rvalid (n : Int) (l : (List Con)) (h0 : l.length ≤ 1073741824) : FnP Try.prog 40 [.int .i64 n, .lst true l.length (encL e25 l)] (fun xR => xR = .bool (validM n l)) :=
  (walk_rvalid (vcp_rvalid n l h0)).mono (by rintro _ ⟨_, rfl, rfl⟩; rfl)
end Go.Lat
namespace Go.Lat
open Go.RowKit Go.Proofs
attribute [local irreducible] closeM rangeM pointM addBM cycleM holdsM validBM sameM madeM pickM plusM validM possM firstM tableM longerM boundsM ofM addM freeM
/-- What the walk through latecomerref07.Holds asks. -/
def vc_rholds (l : (List Con)) (x : (List Int)) (Post : Bool → Prop) : Prop :=
  (l.length ≤ 1073741824) ∧ ((¬ ((validM ((x.length : Nat) : Int) l) = true)) → Post false) ∧ (¬ (¬ ((validM ((x.length : Nat) : Int) l) = true)) → ∃ (I1 : Int → Prop) (μ1 : Int → Nat), I1 (0 : Int) ∧ ∀ (v5 : Int), I1 v5 → ((v5 < ((x.length : Nat) : Int)) → ((0 ≤ v5 ∧ v5 < (x.length : Int)) ∧ (((lat x v5) < (-1152921504606846976 : Int)) → True) ∧ (¬ ((lat x v5) < (-1152921504606846976 : Int)) → (0 ≤ v5 ∧ v5 < (x.length : Int)) ∧ True)) ∧ (((((lat x v5) < (-1152921504606846976 : Int)) ∨ ((1152921504606846976 : Int) < (lat x v5))) → Post false) ∧ (¬ (((lat x v5) < (-1152921504606846976 : Int)) ∨ ((1152921504606846976 : Int) < (lat x v5))) → (inI (v5 + (1 : Int))) ∧ (I1 (v5 + (1 : Int)) ∧ μ1 (v5 + (1 : Int)) < μ1 v5)))) ∧ (¬ (v5 < ((x.length : Nat) : Int)) → ∃ (I2 : Int → Prop) (μ2 : Int → Nat), I2 (0 : Int) ∧ ∀ (v6 : Int), I2 v6 → ((v6 < ((l.length : Nat) : Int)) → (0 ≤ v6 ∧ v6 < (l.length : Int)) ∧ (0 ≤ ((lat l v6).t) ∧ ((lat l v6).t) < (x.length : Int)) ∧ (0 ≤ v6 ∧ v6 < (l.length : Int)) ∧ (0 ≤ ((lat l v6).f) ∧ ((lat l v6).f) < (x.length : Int)) ∧ (inI ((lat x ((lat l v6).t)) - (lat x ((lat l v6).f)))) ∧ (0 ≤ v6 ∧ v6 < (l.length : Int)) ∧ ((((lat l v6).m) < ((lat x ((lat l v6).t)) - (lat x ((lat l v6).f)))) → Post false) ∧ (¬ (((lat l v6).m) < ((lat x ((lat l v6).t)) - (lat x ((lat l v6).f)))) → (inI (v6 + (1 : Int))) ∧ (I2 (v6 + (1 : Int)) ∧ μ2 (v6 + (1 : Int)) < μ2 v6))) ∧ (¬ (v6 < ((l.length : Nat) : Int)) → Post true)))
set_option maxRecDepth 100000 in
set_option maxHeartbeats 4000000 in
theorem walk_rholds {l : (List Con)} {x : (List Int)} {Post : Bool → Prop} (hv : vc_rholds l x Post) : FnP Try.prog 29 [.lst true l.length (encL e25 l), .lst true x.length (encL eInt x)] (fun x => ∃ q0, x = .bool q0 ∧ Post q0) := by
  refine FnP.of_walk (T := tt) (nt := 59) ttOk ttMix ⟨⟨Try.f29, Try.func29, rfl, rfl, rfl, rfl⟩⟩ (by simp) ?_
  unfold vc_rholds at hv
  change W _ _ _ ⟨59, look [(0, .lst true l.length (encL e25 l)), (1, .lst true x.length (encL eInt x))], [], false⟩ _
  refine W.tr [(0, .lst _ _ _), (1, .lst _ _ _)] [] ⟨rfl, rfl, trivial⟩ rfl ?_
  refine W.rL ?_
  refine cL rfl (o_assign (v := .bool _) rfl ?_)
  refine eL ?_
  refine W.tr [(0, .lst _ _ _), (1, .lst _ _ _)] [] ⟨rfl, rfl, trivial⟩ rfl ?_
  refine W.seq' ?_
  refine W.rL ?_
  refine cL rfl (o_move (v := .lst _ _ _) rfl ?_)
  refine cL rfl (o_len (v := .lst _ _ _) tt35 rfl rfl ?_)
  refine cL rfl (o_move (v := .lst _ _ _) rfl ?_)
  obtain ⟨s2, hv⟩ := hv
  refine cL rfl (o_callP1 (k := 40) (fst := []) (caps := []) (ys := [.int _ _, .lst _ _ _]) rfl rfl (spec_rvalid ((x.length : Nat) : Int) l s2) (Wks.cons (ag_int _ _ _ _) (Wks.cons (ag_lst _ _ _ _ _) (Wks.refl _))) ?_)
  refine cL rfl (o_notB rfl ?_)
  refine eL ?_
  refine W.tr [(0, .lst _ _ _), (1, .lst _ _ _), (11, .bool _)] [] ⟨rfl, rfl, rfl, trivial⟩ rfl ?_
  refine W.cn rfl (fun hc => ?_) (fun hc => ?_)
  · have hv := hv.1 hc
    refine W.rL ?_
    refine cL rfl (o_assign (v := .bool _) rfl ?_)
    refine eL ?_
    refine W.tr [(4, .bool _)] [] ⟨rfl, trivial⟩ rfl ?_
    refine W.ret ?_
    refine th_ret (rt ?_)
    refine rt_t (v := .bool _) rfl ?_
    refine rt_n ?_
    exact ⟨_, rs_bool _ _ _, false, rfl, hv⟩
  · have hv := hv.2 hc
    refine W.skip ?_
    refine th_nrm ?_
    refine W.tr [(0, .lst _ _ _), (1, .lst _ _ _)] [] ⟨rfl, rfl, trivial⟩ rfl ?_
    refine W.seq' ?_
    refine W.rL ?_
    refine cL rfl (o_assign (v := .int _ _) rfl ?_)
    refine eL ?_
    refine W.tr [(0, .lst _ _ _), (1, .lst _ _ _), (5, .int _ _)] [] ⟨rfl, rfl, rfl, trivial⟩ rfl ?_
    refine W.block ?_
    obtain ⟨I1, μ1, hp, hv⟩ := hv
    refine W.loop1 (fun v5 => ⟨59, look [(0, .lst true l.length (encL e25 l)), (1, .lst true x.length (encL eInt x)), (5, .int .i64 v5)], [], false⟩) I1 μ1 (0 : Int) (St.to_mk (φ := []) rfl (.inl rfl) ⟨Ren.lst _ _ _, Ren.lst _ _ _, Ren.int _ _, trivial⟩ trivial) hp ?_
    clear hp
    intro v5 hI
    replace hv := hv v5 hI
    clear hI
    refine W.seq' ?_
    refine W.rL ?_
    refine cL rfl (o_move (v := .int _ _) rfl ?_)
    refine cL rfl (o_move (v := .lst _ _ _) rfl ?_)
    refine cL rfl (o_len (v := .lst _ _ _) tt35 rfl rfl ?_)
    refine cL rfl (o_lss rfl rfl ?_)
    refine eL ?_
    refine W.tr [(0, .lst _ _ _), (1, .lst _ _ _), (5, .int _ _), (15, .bool _)] [] ⟨rfl, rfl, rfl, rfl, trivial⟩ rfl ?_
    refine W.cn rfl (fun hc => ?_) (fun hc => ?_)
    · have hv := hv.1 hc
      refine W.skip ?_
      refine th_nrm ?_
      refine W.tr [(0, .lst _ _ _), (1, .lst _ _ _), (5, .int _ _)] [] ⟨rfl, rfl, rfl, trivial⟩ rfl ?_
      refine W.seq' ?_
      refine W.block ?_
      obtain ⟨sd, hv⟩ := hv
      refine W.rLm ⟨59, look [(0, .lst true l.length (encL e25 l)), (1, .lst true x.length (encL eInt x)), (5, .int .i64 v5), (29, .bool (decide (((lat x v5) < (-1152921504606846976 : Int)) ∨ ((1152921504606846976 : Int) < (lat x v5)))))], [], false⟩ ?_ ?_
      · refine cL rfl (o_move (v := .lst _ _ _) rfl ?_)
        refine cL rfl (o_move (v := .int _ _) rfl ?_)
        obtain ⟨s36, sd⟩ := sd
        refine cL rfl (o_iaL tt35 tt3 rfl rfl (encInt.wd true) rfl s36 ?_)
        intro rest36
        refine cL rfl (o_ldS (v := .int _ _) tt3 rfl rfl ⟨_, rfl⟩ ?_)
        refine cL rfl (o_lss rfl rfl ?_)
        refine cL rfl (o_move (v := .bool _) rfl ?_)
        by_cases c1 : (lat x v5) < (-1152921504606846976 : Int)
        · refine cLs rfl rfl rfl (decide_eq_true c1) ?_
          refine cLs rfl rfl rfl (decide_eq_true c1) ?_
          refine cLs rfl rfl rfl (decide_eq_true c1) ?_
          refine cLs rfl rfl rfl (decide_eq_true c1) ?_
          refine cLs rfl rfl rfl (decide_eq_true c1) ?_
          refine cL rfl (o_pickT (v := .bool _) rfl (decide_eq_true c1) rfl ?_)
          refine eL ?_
          exact le_mk ⟨rfl, rfl, rfl, (congrArg AV.bool (dOrT c1)).symm, trivial⟩ rfl
        · have sd := sd.2 c1
          refine cLg rfl rfl (decide_eq_false c1) ?_
          refine cL rfl (o_move (v := .lst _ _ _) rfl ?_)
          refine cLg rfl rfl (decide_eq_false c1) ?_
          refine cL rfl (o_move (v := .int _ _) rfl ?_)
          refine cLg rfl rfl (decide_eq_false c1) ?_
          obtain ⟨s37, sd⟩ := sd
          refine cL rfl (o_iaL tt35 tt3 rfl rfl (encInt.wd true) rfl s37 ?_)
          intro rest37
          refine cLg rfl rfl (decide_eq_false c1) ?_
          refine cL rfl (o_ldS (v := .int _ _) tt3 rfl rfl ⟨_, rfl⟩ ?_)
          refine cLg rfl rfl (decide_eq_false c1) ?_
          refine cL rfl (o_gtr rfl rfl ?_)
          refine cL rfl (o_pickF (v := .bool _) rfl (decide_eq_false c1) rfl ?_)
          refine eL ?_
          exact le_mk ⟨rfl, rfl, rfl, (congrArg AV.bool (dOrF c1 (rfl))).symm, trivial⟩ rfl
      · refine W.cn rfl (fun hc => ?_) (fun hc => ?_)
        · have hv := hv.1 hc
          refine W.rL ?_
          refine cL rfl (o_assign (v := .bool _) rfl ?_)
          refine eL ?_
          refine W.tr [(4, .bool _)] [] ⟨rfl, trivial⟩ rfl ?_
          refine W.ret ?_
          refine bl_ret (th_ret (th_ret (bl_ret (th_ret (rt ?_)))))
          refine rt_t (v := .bool _) rfl ?_
          refine rt_n ?_
          exact ⟨_, rs_bool _ _ _, false, rfl, hv⟩
        · have hv := hv.2 hc
          refine W.skip ?_
          refine bl_nrm (th_nrm ?_)
          refine W.tr [(0, .lst _ _ _), (1, .lst _ _ _), (5, .int _ _)] [] ⟨rfl, rfl, rfl, trivial⟩ rfl ?_
          refine W.rL1 ?_
          refine cL rfl (o_move (v := .int _ _) rfl ?_)
          obtain ⟨s38, hv⟩ := hv
          refine cL rfl (o_add rfl rfl s38 ?_)
          refine cL rfl (o_assign (v := .int _ _) rfl ?_)
          refine eL ?_
          exact th_nrm (⟨(), (v5 + (1 : Int)), hv, St.to_mk (φ := []) rfl (.inl rfl) ⟨Ren.lst _ _ _, Ren.lst _ _ _, Ren.int _ _, trivial⟩ trivial⟩)
    · have hv := hv.2 hc
      refine W.exit ?_
      refine th_exit (th_exit (bl_hit (th_nrm ?_)))
      refine W.tr [(0, .lst _ _ _), (1, .lst _ _ _)] [] ⟨rfl, rfl, trivial⟩ rfl ?_
      refine W.seq' ?_
      refine W.rL ?_
      refine cL rfl (o_assign (v := .int _ _) rfl ?_)
      refine eL ?_
      refine W.tr [(0, .lst _ _ _), (1, .lst _ _ _), (6, .int _ _)] [] ⟨rfl, rfl, rfl, trivial⟩ rfl ?_
      refine W.block ?_
      obtain ⟨I2, μ2, hp, hv⟩ := hv
      refine W.loop1 (fun v6 => ⟨59, look [(0, .lst true l.length (encL e25 l)), (1, .lst true x.length (encL eInt x)), (6, .int .i64 v6)], [], false⟩) I2 μ2 (0 : Int) (St.to_mk (φ := []) rfl (.inl rfl) ⟨Ren.lst _ _ _, Ren.lst _ _ _, Ren.int _ _, trivial⟩ trivial) hp ?_
      clear hp
      intro v6 hI
      replace hv := hv v6 hI
      clear hI
      refine W.seq' ?_
      refine W.rL ?_
      refine cL rfl (o_move (v := .int _ _) rfl ?_)
      refine cL rfl (o_move (v := .lst _ _ _) rfl ?_)
      refine cL rfl (o_len (v := .lst _ _ _) tt22 rfl rfl ?_)
      refine cL rfl (o_lss rfl rfl ?_)
      refine eL ?_
      refine W.tr [(0, .lst _ _ _), (1, .lst _ _ _), (6, .int _ _), (33, .bool _)] [] ⟨rfl, rfl, rfl, rfl, trivial⟩ rfl ?_
      refine W.cn rfl (fun hc => ?_) (fun hc => ?_)
      · have hv := hv.1 hc
        refine W.skip ?_
        refine th_nrm ?_
        refine W.tr [(0, .lst _ _ _), (1, .lst _ _ _), (6, .int _ _)] [] ⟨rfl, rfl, rfl, trivial⟩ rfl ?_
        refine W.seq' ?_
        refine W.block ?_
        refine W.rD [0, 1, 2, 3, 4, 5, 6, 7, 8, 9, 10, 11, 12, 13, 14, 15, 16, 17, 18, 19, 20, 21, 22] (by decide +kernel) rfl ?_
        refine cL rfl (o_move (v := .lst _ _ _) rfl ?_)
        refine cL rfl (o_move (v := .lst _ _ _) rfl ?_)
        refine cL rfl (o_move (v := .int _ _) rfl ?_)
        obtain ⟨s84, hv⟩ := hv
        refine cL rfl (o_iaL tt22 tt25 rfl rfl (enc25.wd true) rfl s84 ?_)
        intro rest84
        refine cL rfl (o_faP tt25 rfl tt3 rfl ?_)
        refine cL rfl (o_ldS (v := .int _ _) tt3 rfl rfl ⟨_, rfl⟩ ?_)
        obtain ⟨s85, hv⟩ := hv
        refine cL rfl (o_iaL tt35 tt3 rfl rfl (encInt.wd true) rfl s85 ?_)
        intro rest85
        refine cL rfl (o_ldS (v := .int _ _) tt3 rfl rfl ⟨_, rfl⟩ ?_)
        refine cL rfl (o_move (v := .lst _ _ _) rfl ?_)
        refine cL rfl (o_move (v := .lst _ _ _) rfl ?_)
        refine cL rfl (o_move (v := .int _ _) rfl ?_)
        obtain ⟨s86, hv⟩ := hv
        refine cL rfl (o_iaL tt22 tt25 rfl rfl (enc25.wd true) rfl s86 ?_)
        intro rest86
        refine cL rfl (o_faP tt25 rfl tt3 rfl ?_)
        refine cL rfl (o_ldS (v := .int _ _) tt3 rfl rfl ⟨_, rfl⟩ ?_)
        obtain ⟨s87, hv⟩ := hv
        refine cL rfl (o_iaL tt35 tt3 rfl rfl (encInt.wd true) rfl s87 ?_)
        intro rest87
        refine cL rfl (o_ldS (v := .int _ _) tt3 rfl rfl ⟨_, rfl⟩ ?_)
        obtain ⟨s88, hv⟩ := hv
        refine cL rfl (o_sub rfl rfl s88 ?_)
        refine cL rfl (o_move (v := .lst _ _ _) rfl ?_)
        refine cL rfl (o_move (v := .int _ _) rfl ?_)
        obtain ⟨s89, hv⟩ := hv
        refine cL rfl (o_iaL tt22 tt25 rfl rfl (enc25.wd true) rfl s89 ?_)
        intro rest89
        refine cL rfl (o_faP tt25 rfl tt3 rfl ?_)
        refine cL rfl (o_ldS (v := .int _ _) tt3 rfl rfl ⟨_, rfl⟩ ?_)
        refine cL rfl (o_gtr rfl rfl ?_)
        refine eL ?_
        refine W.tr [(0, .lst _ _ _), (1, .lst _ _ _), (6, .int _ _), (58, .bool _)] [] ⟨rfl, rfl, rfl, rfl, trivial⟩ rfl ?_
        refine W.cn rfl (fun hc => ?_) (fun hc => ?_)
        · have hv := hv.1 hc
          refine W.rL ?_
          refine cL rfl (o_assign (v := .bool _) rfl ?_)
          refine eL ?_
          refine W.tr [(4, .bool _)] [] ⟨rfl, trivial⟩ rfl ?_
          refine W.ret ?_
          refine bl_ret (th_ret (th_ret (bl_ret (th_ret (rt ?_)))))
          refine rt_t (v := .bool _) rfl ?_
          refine rt_n ?_
          exact ⟨_, rs_bool _ _ _, false, rfl, hv⟩
        · have hv := hv.2 hc
          refine W.skip ?_
          refine bl_nrm (th_nrm ?_)
          refine W.tr [(0, .lst _ _ _), (1, .lst _ _ _), (6, .int _ _)] [] ⟨rfl, rfl, rfl, trivial⟩ rfl ?_
          refine W.rL1 ?_
          refine cL rfl (o_move (v := .int _ _) rfl ?_)
          obtain ⟨s90, hv⟩ := hv
          refine cL rfl (o_add rfl rfl s90 ?_)
          refine cL rfl (o_assign (v := .int _ _) rfl ?_)
          refine eL ?_
          exact th_nrm (⟨(), (v6 + (1 : Int)), hv, St.to_mk (φ := []) rfl (.inl rfl) ⟨Ren.lst _ _ _, Ren.lst _ _ _, Ren.int _ _, trivial⟩ trivial⟩)
      · have hv := hv.2 hc
        refine W.exit ?_
        refine th_exit (th_exit (bl_hit (th_nrm ?_)))
        refine W.tr [] [] trivial rfl ?_
        refine W.rL ?_
        refine cL rfl (o_assign (v := .bool _) rfl ?_)
        refine eL ?_
        refine W.tr [(4, .bool _)] [] ⟨rfl, trivial⟩ rfl ?_
        refine W.ret ?_
        refine rt ?_
        refine rt_t (v := .bool _) rfl ?_
        refine rt_n ?_
        exact ⟨_, rs_bool _ _ _, true, rfl, hv⟩
theorem vcp_rholds (l : (List Con)) (x : (List Int)) (h0 : l.length ≤ 1073741824) (h1 : x.length ≤ 1073741824) : vc_rholds l x (fun q0 => q0 = (holdsM l x)) := by
  unfold vc_rholds
  refine ⟨h0, fun h => ?_, fun h => ?_⟩
  · exact (Bool.eq_false_iff.mpr fun e => h (holdsM_iff.mp e).1.1).symm
  have hv := Classical.not_not.mp h
  have hp := (validM_iff.mp hv).2
  have hn := (validM_iff.mp hv).1
  refine ⟨fun v => ∃ i : Nat, v = i ∧ i ≤ x.length ∧ ∀ j : Nat, j < i → -1152921504606846976 ≤ lat x j ∧ lat x j ≤ 1152921504606846976, fun v => x.length - v.toNat, ⟨0, rfl, by omega, fun j hj => by omega⟩, ?_⟩
  rintro _ ⟨i, rfl, hi, hb⟩
  refine ⟨fun k1 => ⟨⟨by omega, fun _ => trivial, fun _ => ⟨by omega, trivial⟩⟩, fun k2 => ?_, fun k2 => ⟨by unfold inI; omega, ⟨i + 1, by omega, by omega, fun j hj => ?_⟩, by dsimp only; omega⟩⟩, fun k1 => ?_⟩
  · refine (Bool.eq_false_iff.mpr fun e => ?_).symm
    have := (holdsM_iff.mp e).1.2 _ (lat_mem (xs := x) (i := (i : Int)) ⟨by omega, by omega⟩)
    omega
  · rcases Nat.lt_or_ge j i with h6 | h6
    · exact hb j h6
    · have : j = i := by omega
      subst this; omega
  have hall : ∀ v ∈ x, -1152921504606846976 ≤ v ∧ v ≤ 1152921504606846976 := fun v hv => by
    obtain ⟨j, hj, rfl⟩ := List.getElem_of_mem hv
    have := hb j (by omega)
    rwa [lat_get hj] at this
  refine ⟨fun v => ∃ i : Nat, v = i ∧ i ≤ l.length ∧ ∀ j : Nat, j < i → lat x (lat l j).t - lat x (lat l j).f ≤ (lat l j).m, fun v => l.length - v.toNat, ⟨0, rfl, by omega, fun j hj => by omega⟩, ?_⟩
  rintro _ ⟨i, rfl, hi, hs⟩
  refine ⟨fun k3 => ?_, fun k3 => ?_⟩
  · have hc := possM_iff.mp (hp _ (lat_mem (xs := l) (i := (i : Int)) ⟨by omega, by omega⟩))
    have a1 := hall _ (lat_mem (xs := x) (i := (lat l i).f) ⟨by omega, by omega⟩)
    have a2 := hall _ (lat_mem (xs := x) (i := (lat l i).t) ⟨by omega, by omega⟩)
    refine ⟨by omega, by omega, by omega, by omega, by unfold inI; omega, by omega, fun k4 => ?_, fun k4 => ⟨by unfold inI; omega, ⟨i + 1, by omega, by omega, fun j hj => ?_⟩, by dsimp only; omega⟩⟩
    · refine (Bool.eq_false_iff.mpr fun e => ?_).symm
      have := (holdsM_iff.mp e).2 _ (lat_mem (xs := l) (i := (i : Int)) ⟨by omega, by omega⟩)
      omega
    · rcases Nat.lt_or_ge j i with h6 | h6
      · exact hs j h6
      · have : j = i := by omega
        subst this; omega
  · refine (holdsM_iff.mpr ⟨⟨hv, hall⟩, fun c hc => ?_⟩).symm
    obtain ⟨j, hj, rfl⟩ := List.getElem_of_mem hc
    have := hs j (by omega)
    rwa [lat_get hj] at this
theorem spec_rholds (l : (List Con)) (x : (List Int)) (h0 : l.length ≤ 1073741824) (h1 : x.length ≤ 1073741824) : FnP Try.prog 29 [.lst true l.length (encL e25 l), .lst true x.length (encL eInt x)] (fun xR => xR = .bool (holdsM l x)) :=
  (walk_rholds (vcp_rholds l x h0 h1)).mono (by rintro _ ⟨_, rfl, rfl⟩; rfl)
end Go.Lat
namespace Go.Lat
open Go.RowKit Go.Proofs
attribute [local irreducible] closeM rangeM pointM addBM cycleM holdsM validBM sameM madeM pickM plusM validM possM firstM tableM longerM boundsM ofM addM freeM
/-- What the walk through latecomerref07.Cycle asks. -/
def vc_rcycle (l : (List Con)) (c : (List Int)) (Post : Bool → Prop) : Prop :=
  ((l.length ≤ 1073741824) ∧ True) ∧ ((((¬ ((validM (24 : Int) l) = true)) ∨ ((((c.length : Nat) : Int) < (1 : Int)) ∨ ((24 : Int) < ((c.length : Nat) : Int)))) → Post false) ∧ (¬ ((¬ ((validM (24 : Int) l) = true)) ∨ ((((c.length : Nat) : Int) < (1 : Int)) ∨ ((24 : Int) < ((c.length : Nat) : Int)))) → ∃ (I1 : Int → Int → Prop) (μ1 : Int → Int → Nat), I1 (0 : Int) (0 : Int) ∧ ∀ (v5 : Int) (v6 : Int), I1 v5 v6 → ((v6 < ((c.length : Nat) : Int)) → ((0 ≤ v6 ∧ v6 < (c.length : Int)) ∧ (((lat c v6) < (0 : Int)) → True) ∧ (¬ ((lat c v6) < (0 : Int)) → (0 ≤ v6 ∧ v6 < (c.length : Int)) ∧ True)) ∧ (((((lat c v6) < (0 : Int)) ∨ (((l.length : Nat) : Int) ≤ (lat c v6))) → Post false) ∧ (¬ (((lat c v6) < (0 : Int)) ∨ (((l.length : Nat) : Int) ≤ (lat c v6))) → (0 ≤ v6 ∧ v6 < (c.length : Int)) ∧ (0 ≤ (lat c v6) ∧ (lat c v6) < (l.length : Int)) ∧ (inI (v5 + ((lat l (lat c v6)).m))) ∧ (inI (v6 + (1 : Int))) ∧ (I1 (v5 + ((lat l (lat c v6)).m)) (v6 + (1 : Int)) ∧ μ1 (v5 + ((lat l (lat c v6)).m)) (v6 + (1 : Int)) < μ1 v5 v6)))) ∧ (¬ (v6 < ((c.length : Nat) : Int)) → ∃ (I2 : Int → Prop) (μ2 : Int → Nat), I2 (0 : Int) ∧ ∀ (v7 : Int), I2 v7 → ((v7 < ((c.length : Nat) : Int)) → ∃ (I3 : Int → Prop) (μ3 : Int → Nat), I3 (0 : Int) ∧ ∀ (v8 : Int), I3 v8 → ((v8 < v7) → (0 ≤ v8 ∧ v8 < (c.length : Int)) ∧ (0 ≤ (lat c v8) ∧ (lat c v8) < (l.length : Int)) ∧ (0 ≤ v7 ∧ v7 < (c.length : Int)) ∧ (0 ≤ (lat c v7) ∧ (lat c v7) < (l.length : Int)) ∧ (((lat l (lat c v8)).f = (lat l (lat c v7)).f) → Post false) ∧ (¬ ((lat l (lat c v8)).f = (lat l (lat c v7)).f) → (inI (v8 + (1 : Int))) ∧ (I3 (v8 + (1 : Int)) ∧ μ3 (v8 + (1 : Int)) < μ3 v8))) ∧ (¬ (v8 < v7) → (0 ≤ v7 ∧ v7 < (c.length : Int)) ∧ (0 ≤ (lat c v7) ∧ (lat c v7) < (l.length : Int)) ∧ (inI (v7 + (1 : Int))) ∧ (((c.length : Nat) : Int) ≠ 0) ∧ (0 ≤ ((v7 + (1 : Int)).tmod ((c.length : Nat) : Int)) ∧ ((v7 + (1 : Int)).tmod ((c.length : Nat) : Int)) < (c.length : Int)) ∧ (0 ≤ (lat c ((v7 + (1 : Int)).tmod ((c.length : Nat) : Int))) ∧ (lat c ((v7 + (1 : Int)).tmod ((c.length : Nat) : Int))) < (l.length : Int)) ∧ ((¬ (lat l (lat c v7)).t = (lat l (lat c ((v7 + (1 : Int)).tmod ((c.length : Nat) : Int)))).f) → Post false) ∧ (¬ (¬ (lat l (lat c v7)).t = (lat l (lat c ((v7 + (1 : Int)).tmod ((c.length : Nat) : Int)))).f) → (inI (v7 + (1 : Int))) ∧ (I2 (v7 + (1 : Int)) ∧ μ2 (v7 + (1 : Int)) < μ2 v7)))) ∧ (¬ (v7 < ((c.length : Nat) : Int)) → Post (decide (v5 < (0 : Int)))))))
set_option maxRecDepth 100000 in
set_option maxHeartbeats 4000000 in
theorem walk_rcycle {l : (List Con)} {c : (List Int)} {Post : Bool → Prop} (hv : vc_rcycle l c Post) : FnP Try.prog 32 [.lst true l.length (encL e25 l), .lst true c.length (encL eInt c)] (fun x => ∃ q0, x = .bool q0 ∧ Post q0) := by
  refine FnP.of_walk (T := tt) (nt := 103) ttOk ttMix ⟨⟨Try.f32, Try.func32, rfl, rfl, rfl, rfl⟩⟩ (by simp) ?_
  unfold vc_rcycle at hv
  change W _ _ _ ⟨103, look [(0, .lst true l.length (encL e25 l)), (1, .lst true c.length (encL eInt c))], [], false⟩ _
  refine W.tr [(0, .lst _ _ _), (1, .lst _ _ _)] [] ⟨rfl, rfl, trivial⟩ rfl ?_
  refine W.rL ?_
  refine cL rfl (o_assign (v := .bool _) rfl ?_)
  refine eL ?_
  refine W.tr [(0, .lst _ _ _), (1, .lst _ _ _)] [] ⟨rfl, rfl, trivial⟩ rfl ?_
  refine W.seq' ?_
  obtain ⟨sd, hv⟩ := hv
  refine W.rLm ⟨103, look [(0, .lst true l.length (encL e25 l)), (1, .lst true c.length (encL eInt c)), (21, .bool (decide ((¬ ((validM (24 : Int) l) = true)) ∨ ((((c.length : Nat) : Int) < (1 : Int)) ∨ ((24 : Int) < ((c.length : Nat) : Int))))))], [], false⟩ ?_ ?_
  · refine cL rfl (o_move (v := .lst _ _ _) rfl ?_)
    obtain ⟨s4, sd⟩ := sd
    refine cL rfl (o_callP1 (k := 40) (fst := []) (caps := []) (ys := [.int _ _, .lst _ _ _]) rfl rfl (spec_rvalid (24 : Int) l s4) (Wks.cons (ag_int _ _ _ _) (Wks.cons (ag_lst _ _ _ _ _) (Wks.refl _))) ?_)
    refine cL rfl (o_notB rfl ?_)
    refine cL rfl (o_move (v := .bool _) rfl ?_)
    by_cases c1 : ¬ ((validM (24 : Int) l) = true)
    · refine cLs rfl rfl rfl (decide_eq_true c1) ?_
      refine cLs rfl rfl rfl (decide_eq_true c1) ?_
      refine cLs rfl rfl rfl (decide_eq_true c1) ?_
      refine cL rfl (o_pickT (v := .bool _) rfl (decide_eq_true c1) rfl ?_)
      refine cL rfl (o_move (v := .bool _) rfl ?_)
      refine cLs rfl rfl rfl (rfl) ?_
      refine cLs rfl rfl rfl (rfl) ?_
      refine cLs rfl rfl rfl (rfl) ?_
      refine cL rfl (o_pickT (v := .bool _) rfl rfl rfl ?_)
      refine eL ?_
      exact le_mk ⟨rfl, rfl, (congrArg AV.bool (dOrT c1)).symm, trivial⟩ rfl
    · refine cLg rfl rfl (decide_eq_false c1) ?_
      refine cL rfl (o_move (v := .lst _ _ _) rfl ?_)
      refine cLg rfl rfl (decide_eq_false c1) ?_
      refine cL rfl (o_len (v := .lst _ _ _) tt35 rfl rfl ?_)
      refine cLg rfl rfl (decide_eq_false c1) ?_
      refine cL rfl (o_lss rfl rfl ?_)
      refine cL rfl (o_pickF (v := .bool _) rfl (decide_eq_false c1) rfl ?_)
      refine cL rfl (o_move (v := .bool _) rfl ?_)
      by_cases c2 : ((c.length : Nat) : Int) < (1 : Int)
      · refine cLs rfl rfl rfl (decide_eq_true c2) ?_
        refine cLs rfl rfl rfl (decide_eq_true c2) ?_
        refine cLs rfl rfl rfl (decide_eq_true c2) ?_
        refine cL rfl (o_pickT (v := .bool _) rfl (decide_eq_true c2) rfl ?_)
        refine eL ?_
        exact le_mk ⟨rfl, rfl, (congrArg AV.bool (dOrF c1 (dOrT c2))).symm, trivial⟩ rfl
      · refine cLg rfl rfl (decide_eq_false c2) ?_
        refine cL rfl (o_move (v := .lst _ _ _) rfl ?_)
        refine cLg rfl rfl (decide_eq_false c2) ?_
        refine cL rfl (o_len (v := .lst _ _ _) tt35 rfl rfl ?_)
        refine cLg rfl rfl (decide_eq_false c2) ?_
        refine cL rfl (o_gtr rfl rfl ?_)
        refine cL rfl (o_pickF (v := .bool _) rfl (decide_eq_false c2) rfl ?_)
        refine eL ?_
        exact le_mk ⟨rfl, rfl, (congrArg AV.bool (dOrF c1 (dOrF c2 (rfl)))).symm, trivial⟩ rfl
  · refine W.cn rfl (fun hc => ?_) (fun hc => ?_)
    · have hv := hv.1 hc
      refine W.rL ?_
      refine cL rfl (o_assign (v := .bool _) rfl ?_)
      refine eL ?_
      refine W.tr [(4, .bool _)] [] ⟨rfl, trivial⟩ rfl ?_
      refine W.ret ?_
      refine th_ret (rt ?_)
      refine rt_t (v := .bool _) rfl ?_
      refine rt_n ?_
      exact ⟨_, rs_bool _ _ _, false, rfl, hv⟩
    · have hv := hv.2 hc
      refine W.skip ?_
      refine th_nrm ?_
      refine W.tr [(0, .lst _ _ _), (1, .lst _ _ _)] [] ⟨rfl, rfl, trivial⟩ rfl ?_
      refine W.rL ?_
      refine cL rfl (o_assign (v := .int _ _) rfl ?_)
      refine eL ?_
      refine W.tr [(0, .lst _ _ _), (1, .lst _ _ _), (5, .int _ _)] [] ⟨rfl, rfl, rfl, trivial⟩ rfl ?_
      refine W.seq' ?_
      refine W.rL ?_
      refine cL rfl (o_assign (v := .int _ _) rfl ?_)
      refine eL ?_
      refine W.tr [(0, .lst _ _ _), (1, .lst _ _ _), (5, .int _ _), (6, .int _ _)] [] ⟨rfl, rfl, rfl, rfl, trivial⟩ rfl ?_
      refine W.block ?_
      obtain ⟨I1, μ1, hp, hv⟩ := hv
      refine W.loop2 (fun v5 v6 => ⟨103, look [(0, .lst true l.length (encL e25 l)), (1, .lst true c.length (encL eInt c)), (5, .int .i64 v5), (6, .int .i64 v6)], [], false⟩) I1 μ1 (0 : Int) (0 : Int) (St.to_mk (φ := []) rfl (.inl rfl) ⟨Ren.lst _ _ _, Ren.lst _ _ _, Ren.int _ _, Ren.int _ _, trivial⟩ trivial) hp ?_
      clear hp
      intro v5 v6 hI
      replace hv := hv v5 v6 hI
      clear hI
      refine W.seq' ?_
      refine W.rL ?_
      refine cL rfl (o_move (v := .int _ _) rfl ?_)
      refine cL rfl (o_move (v := .lst _ _ _) rfl ?_)
      refine cL rfl (o_len (v := .lst _ _ _) tt35 rfl rfl ?_)
      refine cL rfl (o_lss rfl rfl ?_)
      refine eL ?_
      refine W.tr [(0, .lst _ _ _), (1, .lst _ _ _), (5, .int _ _), (6, .int _ _), (25, .bool _)] [] ⟨rfl, rfl, rfl, rfl, rfl, trivial⟩ rfl ?_
      refine W.cn rfl (fun hc => ?_) (fun hc => ?_)
      · have hv := hv.1 hc
        refine W.skip ?_
        refine th_nrm ?_
        refine W.tr [(0, .lst _ _ _), (1, .lst _ _ _), (5, .int _ _), (6, .int _ _)] [] ⟨rfl, rfl, rfl, rfl, trivial⟩ rfl ?_
        refine W.seq' ?_
        refine W.block ?_
        refine W.seq' ?_
        obtain ⟨sd, hv⟩ := hv
        refine W.rLm ⟨103, look [(0, .lst true l.length (encL e25 l)), (1, .lst true c.length (encL eInt c)), (5, .int .i64 v5), (6, .int .i64 v6), (41, .bool (decide (((lat c v6) < (0 : Int)) ∨ (((l.length : Nat) : Int) ≤ (lat c v6)))))], [], false⟩ ?_ ?_
        · refine cL rfl (o_move (v := .lst _ _ _) rfl ?_)
          refine cL rfl (o_move (v := .int _ _) rfl ?_)
          obtain ⟨s91, sd⟩ := sd
          refine cL rfl (o_iaL tt35 tt3 rfl rfl (encInt.wd true) rfl s91 ?_)
          intro rest91
          refine cL rfl (o_ldS (v := .int _ _) tt3 rfl rfl ⟨_, rfl⟩ ?_)
          refine cL rfl (o_lss rfl rfl ?_)
          refine cL rfl (o_move (v := .bool _) rfl ?_)
          by_cases c1 : (lat c v6) < (0 : Int)
          · refine cLs rfl rfl rfl (decide_eq_true c1) ?_
            refine cLs rfl rfl rfl (decide_eq_true c1) ?_
            refine cLs rfl rfl rfl (decide_eq_true c1) ?_
            refine cLs rfl rfl rfl (decide_eq_true c1) ?_
            refine cLs rfl rfl rfl (decide_eq_true c1) ?_
            refine cLs rfl rfl rfl (decide_eq_true c1) ?_
            refine cLs rfl rfl rfl (decide_eq_true c1) ?_
            refine cL rfl (o_pickT (v := .bool _) rfl (decide_eq_true c1) rfl ?_)
            refine eL ?_
            exact le_mk ⟨rfl, rfl, rfl, rfl, (congrArg AV.bool (dOrT c1)).symm, trivial⟩ rfl
          · have sd := sd.2 c1
            refine cLg rfl rfl (decide_eq_false c1) ?_
            refine cL rfl (o_move (v := .lst _ _ _) rfl ?_)
            refine cLg rfl rfl (decide_eq_false c1) ?_
            refine cL rfl (o_move (v := .int _ _) rfl ?_)
            refine cLg rfl rfl (decide_eq_false c1) ?_
            obtain ⟨s92, sd⟩ := sd
            refine cL rfl (o_iaL tt35 tt3 rfl rfl (encInt.wd true) rfl s92 ?_)
            intro rest92
            refine cLg rfl rfl (decide_eq_false c1) ?_
            refine cL rfl (o_ldS (v := .int _ _) tt3 rfl rfl ⟨_, rfl⟩ ?_)
            refine cLg rfl rfl (decide_eq_false c1) ?_
            refine cL rfl (o_move (v := .lst _ _ _) rfl ?_)
            refine cLg rfl rfl (decide_eq_false c1) ?_
            refine cL rfl (o_len (v := .lst _ _ _) tt22 rfl rfl ?_)
            refine cLg rfl rfl (decide_eq_false c1) ?_
            refine cL rfl (o_geq rfl rfl ?_)
            refine cL rfl (o_pickF (v := .bool _) rfl (decide_eq_false c1) rfl ?_)
            refine eL ?_
            exact le_mk ⟨rfl, rfl, rfl, rfl, (congrArg AV.bool (dOrF c1 (rfl))).symm, trivial⟩ rfl
        · refine W.cn rfl (fun hc => ?_) (fun hc => ?_)
          · have hv := hv.1 hc
            refine W.rL ?_
            refine cL rfl (o_assign (v := .bool _) rfl ?_)
            refine eL ?_
            refine W.tr [(4, .bool _)] [] ⟨rfl, trivial⟩ rfl ?_
            refine W.ret ?_
            refine th_ret (bl_ret (th_ret (th_ret (bl_ret (th_ret (rt ?_))))))
            refine rt_t (v := .bool _) rfl ?_
            refine rt_n ?_
            exact ⟨_, rs_bool _ _ _, false, rfl, hv⟩
          · have hv := hv.2 hc
            refine W.skip ?_
            refine th_nrm ?_
            refine W.tr [(0, .lst _ _ _), (1, .lst _ _ _), (5, .int _ _), (6, .int _ _)] [] ⟨rfl, rfl, rfl, rfl, trivial⟩ rfl ?_
            refine W.rL1 ?_
            refine cL rfl (o_move (v := .int _ _) rfl ?_)
            refine cL rfl (o_move (v := .lst _ _ _) rfl ?_)
            refine cL rfl (o_move (v := .lst _ _ _) rfl ?_)
            refine cL rfl (o_move (v := .int _ _) rfl ?_)
            obtain ⟨s93, hv⟩ := hv
            refine cL rfl (o_iaL tt35 tt3 rfl rfl (encInt.wd true) rfl s93 ?_)
            intro rest93
            refine cL rfl (o_ldS (v := .int _ _) tt3 rfl rfl ⟨_, rfl⟩ ?_)
            obtain ⟨s94, hv⟩ := hv
            refine cL rfl (o_iaL tt22 tt25 rfl rfl (enc25.wd true) rfl s94 ?_)
            intro rest94
            refine cL rfl (o_faP tt25 rfl tt3 rfl ?_)
            refine cL rfl (o_ldS (v := .int _ _) tt3 rfl rfl ⟨_, rfl⟩ ?_)
            obtain ⟨s95, hv⟩ := hv
            refine cL rfl (o_add rfl rfl s95 ?_)
            refine cL rfl (o_assign (v := .int _ _) rfl ?_)
            refine eL ?_
            refine bl_nrm (th_nrm ?_)
            refine W.tr [(0, .lst _ _ _), (1, .lst _ _ _), (5, .int _ _), (6, .int _ _)] [] ⟨rfl, rfl, rfl, rfl, trivial⟩ rfl ?_
            refine W.rL1 ?_
            refine cL rfl (o_move (v := .int _ _) rfl ?_)
            obtain ⟨s96, hv⟩ := hv
            refine cL rfl (o_add rfl rfl s96 ?_)
            refine cL rfl (o_assign (v := .int _ _) rfl ?_)
            refine eL ?_
            exact th_nrm (⟨(), (v5 + ((lat l (lat c v6)).m)), (v6 + (1 : Int)), hv, St.to_mk (φ := []) rfl (.inl rfl) ⟨Ren.lst _ _ _, Ren.lst _ _ _, Ren.int _ _, Ren.int _ _, trivial⟩ trivial⟩)
      · have hv := hv.2 hc
        refine W.exit ?_
        refine th_exit (th_exit (bl_hit (th_nrm ?_)))
        refine W.tr [(0, .lst _ _ _), (1, .lst _ _ _), (5, .int _ _)] [] ⟨rfl, rfl, rfl, trivial⟩ rfl ?_
        refine W.seq' ?_
        refine W.rL ?_
        refine cL rfl (o_assign (v := .int _ _) rfl ?_)
        refine eL ?_
        refine W.tr [(0, .lst _ _ _), (1, .lst _ _ _), (5, .int _ _), (7, .int _ _)] [] ⟨rfl, rfl, rfl, rfl, trivial⟩ rfl ?_
        refine W.block ?_
        obtain ⟨I2, μ2, hp, hv⟩ := hv
        refine W.loop1 (fun v7 => ⟨103, look [(0, .lst true l.length (encL e25 l)), (1, .lst true c.length (encL eInt c)), (5, .int .i64 v5), (7, .int .i64 v7)], [], false⟩) I2 μ2 (0 : Int) (St.to_mk (φ := []) rfl (.inl rfl) ⟨Ren.lst _ _ _, Ren.lst _ _ _, Ren.int _ _, Ren.int _ _, trivial⟩ trivial) hp ?_
        clear hp
        intro v7 hI
        replace hv := hv v7 hI
        clear hI
        refine W.seq' ?_
        refine W.rL ?_
        refine cL rfl (o_move (v := .int _ _) rfl ?_)
        refine cL rfl (o_move (v := .lst _ _ _) rfl ?_)
        refine cL rfl (o_len (v := .lst _ _ _) tt35 rfl rfl ?_)
        refine cL rfl (o_lss rfl rfl ?_)
        refine eL ?_
        refine W.tr [(0, .lst _ _ _), (1, .lst _ _ _), (5, .int _ _), (7, .int _ _), (55, .bool _)] [] ⟨rfl, rfl, rfl, rfl, rfl, trivial⟩ rfl ?_
        refine W.cn rfl (fun hc => ?_) (fun hc => ?_)
        · have hv := hv.1 hc
          refine W.skip ?_
          refine th_nrm ?_
          refine W.tr [(0, .lst _ _ _), (1, .lst _ _ _), (5, .int _ _), (7, .int _ _)] [] ⟨rfl, rfl, rfl, rfl, trivial⟩ rfl ?_
          refine W.seq' ?_
          refine W.block ?_
          refine W.seq' ?_
          refine W.rL ?_
          refine cL rfl (o_assign (v := .int _ _) rfl ?_)
          refine eL ?_
          refine W.tr [(0, .lst _ _ _), (1, .lst _ _ _), (5, .int _ _), (7, .int _ _), (8, .int _ _)] [] ⟨rfl, rfl, rfl, rfl, rfl, trivial⟩ rfl ?_
          refine W.block ?_
          obtain ⟨I3, μ3, hp, hv⟩ := hv
          refine W.loop1 (fun v8 => ⟨103, look [(0, .lst true l.length (encL e25 l)), (1, .lst true c.length (encL eInt c)), (5, .int .i64 v5), (7, .int .i64 v7), (8, .int .i64 v8)], [], false⟩) I3 μ3 (0 : Int) (St.to_mk (φ := []) rfl (.inl rfl) ⟨Ren.lst _ _ _, Ren.lst _ _ _, Ren.int _ _, Ren.int _ _, Ren.int _ _, trivial⟩ trivial) hp ?_
          clear hp
          intro v8 hI
          replace hv := hv v8 hI
          clear hI
          refine W.seq' ?_
          refine W.rL ?_
          refine cL rfl (o_move (v := .int _ _) rfl ?_)
          refine cL rfl (o_move (v := .int _ _) rfl ?_)
          refine cL rfl (o_lss rfl rfl ?_)
          refine eL ?_
          refine W.tr [(0, .lst _ _ _), (1, .lst _ _ _), (5, .int _ _), (7, .int _ _), (8, .int _ _), (60, .bool _)] [] ⟨rfl, rfl, rfl, rfl, rfl, rfl, trivial⟩ rfl ?_
          refine W.cn rfl (fun hc => ?_) (fun hc => ?_)
          · have hv := hv.1 hc
            refine W.skip ?_
            refine th_nrm ?_
            refine W.tr [(0, .lst _ _ _), (1, .lst _ _ _), (5, .int _ _), (7, .int _ _), (8, .int _ _)] [] ⟨rfl, rfl, rfl, rfl, rfl, trivial⟩ rfl ?_
            refine W.seq' ?_
            refine W.block ?_
            refine W.rD [0, 1, 2, 3, 4, 5, 6, 7, 8, 9, 10, 11, 12, 13, 14, 15, 16] (by decide +kernel) rfl ?_
            refine cL rfl (o_move (v := .lst _ _ _) rfl ?_)
            refine cL rfl (o_move (v := .lst _ _ _) rfl ?_)
            refine cL rfl (o_move (v := .int _ _) rfl ?_)
            obtain ⟨s425, hv⟩ := hv
            refine cL rfl (o_iaL tt35 tt3 rfl rfl (encInt.wd true) rfl s425 ?_)
            intro rest425
            refine cL rfl (o_ldS (v := .int _ _) tt3 rfl rfl ⟨_, rfl⟩ ?_)
            obtain ⟨s426, hv⟩ := hv
            refine cL rfl (o_iaL tt22 tt25 rfl rfl (enc25.wd true) rfl s426 ?_)
            intro rest426
            refine cL rfl (o_faP tt25 rfl tt3 rfl ?_)
            refine cL rfl (o_ldS (v := .int _ _) tt3 rfl rfl ⟨_, rfl⟩ ?_)
            refine cL rfl (o_move (v := .lst _ _ _) rfl ?_)
            refine cL rfl (o_move (v := .lst _ _ _) rfl ?_)
            refine cL rfl (o_move (v := .int _ _) rfl ?_)
            obtain ⟨s427, hv⟩ := hv
            refine cL rfl (o_iaL tt35 tt3 rfl rfl (encInt.wd true) rfl s427 ?_)
            intro rest427
            refine cL rfl (o_ldS (v := .int _ _) tt3 rfl rfl ⟨_, rfl⟩ ?_)
            obtain ⟨s428, hv⟩ := hv
            refine cL rfl (o_iaL tt22 tt25 rfl rfl (enc25.wd true) rfl s428 ?_)
            intro rest428
            refine cL rfl (o_faP tt25 rfl tt3 rfl ?_)
            refine cL rfl (o_ldS (v := .int _ _) tt3 rfl rfl ⟨_, rfl⟩ ?_)
            refine cL rfl (o_eqI rfl rfl rfl ?_)
            refine eL ?_
            refine W.tr [(0, .lst _ _ _), (1, .lst _ _ _), (5, .int _ _), (7, .int _ _), (8, .int _ _), (79, .bool _)] [] ⟨rfl, rfl, rfl, rfl, rfl, rfl, trivial⟩ rfl ?_
            refine W.cn rfl (fun hc => ?_) (fun hc => ?_)
            · have hv := hv.1 hc
              refine W.rL ?_
              refine cL rfl (o_assign (v := .bool _) rfl ?_)
              refine eL ?_
              refine W.tr [(4, .bool _)] [] ⟨rfl, trivial⟩ rfl ?_
              refine W.ret ?_
              refine bl_ret (th_ret (th_ret (bl_ret (th_ret (bl_ret (th_ret (th_ret (bl_ret (th_ret (rt ?_))))))))))
              refine rt_t (v := .bool _) rfl ?_
              refine rt_n ?_
              exact ⟨_, rs_bool _ _ _, false, rfl, hv⟩
            · have hv := hv.2 hc
              refine W.skip ?_
              refine bl_nrm (th_nrm ?_)
              refine W.tr [(0, .lst _ _ _), (1, .lst _ _ _), (5, .int _ _), (7, .int _ _), (8, .int _ _)] [] ⟨rfl, rfl, rfl, rfl, rfl, trivial⟩ rfl ?_
              refine W.rL1 ?_
              refine cL rfl (o_move (v := .int _ _) rfl ?_)
              obtain ⟨s429, hv⟩ := hv
              refine cL rfl (o_add rfl rfl s429 ?_)
              refine cL rfl (o_assign (v := .int _ _) rfl ?_)
              refine eL ?_
              exact th_nrm (⟨(), (v8 + (1 : Int)), hv, St.to_mk (φ := []) rfl (.inl rfl) ⟨Ren.lst _ _ _, Ren.lst _ _ _, Ren.int _ _, Ren.int _ _, Ren.int _ _, trivial⟩ trivial⟩)
          · have hv := hv.2 hc
            refine W.exit ?_
            refine th_exit (th_exit (bl_hit (th_nrm ?_)))
            refine W.tr [(0, .lst _ _ _), (1, .lst _ _ _), (5, .int _ _), (7, .int _ _)] [] ⟨rfl, rfl, rfl, rfl, trivial⟩ rfl ?_
            refine W.rD [0, 1, 2, 3, 4, 5, 6, 7, 8, 9, 10, 11, 12, 13, 14, 15, 16, 17, 18, 19, 20] (by decide +kernel) rfl ?_
            refine cL rfl (o_move (v := .lst _ _ _) rfl ?_)
            refine cL rfl (o_move (v := .lst _ _ _) rfl ?_)
            refine cL rfl (o_move (v := .int _ _) rfl ?_)
            obtain ⟨s430, hv⟩ := hv
            refine cL rfl (o_iaL tt35 tt3 rfl rfl (encInt.wd true) rfl s430 ?_)
            intro rest430
            refine cL rfl (o_ldS (v := .int _ _) tt3 rfl rfl ⟨_, rfl⟩ ?_)
            obtain ⟨s431, hv⟩ := hv
            refine cL rfl (o_iaL tt22 tt25 rfl rfl (enc25.wd true) rfl s431 ?_)
            intro rest431
            refine cL rfl (o_faP tt25 rfl tt3 rfl ?_)
            refine cL rfl (o_ldS (v := .int _ _) tt3 rfl rfl ⟨_, rfl⟩ ?_)
            refine cL rfl (o_move (v := .lst _ _ _) rfl ?_)
            refine cL rfl (o_move (v := .lst _ _ _) rfl ?_)
            refine cL rfl (o_move (v := .int _ _) rfl ?_)
            obtain ⟨s432, hv⟩ := hv
            refine cL rfl (o_add rfl rfl s432 ?_)
            refine cL rfl (o_move (v := .lst _ _ _) rfl ?_)
            refine cL rfl (o_len (v := .lst _ _ _) tt35 rfl rfl ?_)
            obtain ⟨s433, hv⟩ := hv
            refine cL rfl (o_rem rfl rfl s433 ?_)
            obtain ⟨s434, hv⟩ := hv
            refine cL rfl (o_iaL tt35 tt3 rfl rfl (encInt.wd true) rfl s434 ?_)
            intro rest434
            refine cL rfl (o_ldS (v := .int _ _) tt3 rfl rfl ⟨_, rfl⟩ ?_)
            obtain ⟨s435, hv⟩ := hv
            refine cL rfl (o_iaL tt22 tt25 rfl rfl (enc25.wd true) rfl s435 ?_)
            intro rest435
            refine cL rfl (o_faP tt25 rfl tt3 rfl ?_)
            refine cL rfl (o_ldS (v := .int _ _) tt3 rfl rfl ⟨_, rfl⟩ ?_)
            refine cL rfl (o_neI rfl rfl rfl ?_)
            refine eL ?_
            refine W.tr [(0, .lst _ _ _), (1, .lst _ _ _), (5, .int _ _), (7, .int _ _), (100, .bool _)] [] ⟨rfl, rfl, rfl, rfl, rfl, trivial⟩ rfl ?_
            refine W.cn rfl (fun hc => ?_) (fun hc => ?_)
            · have hv := hv.1 hc
              refine W.rL ?_
              refine cL rfl (o_assign (v := .bool _) rfl ?_)
              refine eL ?_
              refine W.tr [(4, .bool _)] [] ⟨rfl, trivial⟩ rfl ?_
              refine W.ret ?_
              refine bl_ret (th_ret (th_ret (bl_ret (th_ret (rt ?_)))))
              refine rt_t (v := .bool _) rfl ?_
              refine rt_n ?_
              exact ⟨_, rs_bool _ _ _, false, rfl, hv⟩
            · have hv := hv.2 hc
              refine W.skip ?_
              refine bl_nrm (th_nrm ?_)
              refine W.tr [(0, .lst _ _ _), (1, .lst _ _ _), (5, .int _ _), (7, .int _ _)] [] ⟨rfl, rfl, rfl, rfl, trivial⟩ rfl ?_
              refine W.rL1 ?_
              refine cL rfl (o_move (v := .int _ _) rfl ?_)
              obtain ⟨s436, hv⟩ := hv
              refine cL rfl (o_add rfl rfl s436 ?_)
              refine cL rfl (o_assign (v := .int _ _) rfl ?_)
              refine eL ?_
              exact th_nrm (⟨(), (v7 + (1 : Int)), hv, St.to_mk (φ := []) rfl (.inl rfl) ⟨Ren.lst _ _ _, Ren.lst _ _ _, Ren.int _ _, Ren.int _ _, trivial⟩ trivial⟩)
        · have hv := hv.2 hc
          refine W.exit ?_
          refine th_exit (th_exit (bl_hit (th_nrm ?_)))
          refine W.tr [(5, .int _ _)] [] ⟨rfl, trivial⟩ rfl ?_
          refine W.rL ?_
          refine cL rfl (o_move (v := .int _ _) rfl ?_)
          refine cL rfl (o_lss rfl rfl ?_)
          refine cL rfl (o_assign (v := .bool _) rfl ?_)
          refine eL ?_
          refine W.tr [(4, .bool _)] [] ⟨rfl, trivial⟩ rfl ?_
          refine W.ret ?_
          refine rt ?_
          refine rt_t (v := .bool _) rfl ?_
          refine rt_n ?_
          exact ⟨_, rs_bool _ _ _, (decide (v5 < (0 : Int))), rfl, hv⟩
theorem vcp_rcycle (l : (List Con)) (c : (List Int)) (h0 : l.length ≤ 1073741824) (h1 : c.length ≤ 1073741824) : vc_rcycle l c (fun q0 => q0 = (cycleM l c)) := by
  unfold vc_rcycle
  refine ⟨⟨h0, trivial⟩, fun h => ?_, fun h => ?_⟩
  · refine (Bool.eq_false_iff.mpr fun e => ?_).symm
    obtain ⟨⟨⟨e1, e2⟩, -⟩, -⟩ := cycleM_iff.mp e
    rcases h with h | h
    · exact h e1
    · omega
  have hv : validM 24 l = true := Classical.not_not.mp fun e => h (.inl e)
  have hc := fun e => h (.inr e)
  have hg := validM_good hv
  refine ⟨fun s v => ∃ i : Nat, v = i ∧ i ≤ c.length ∧ s = ((c.take i).map fun k => (lat l k).m).sum ∧ (∀ j : Nat, j < i → 0 ≤ lat c j ∧ lat c j < (l.length : Int)) ∧ -(i * 1125899906842624 : Int) ≤ s ∧ s ≤ i * 1125899906842624, fun _ v => c.length - v.toNat, ⟨0, rfl, by omega, rfl, fun j hj => by omega, by omega, by omega⟩, ?_⟩
  rintro s _ ⟨i, rfl, hi, hs, hj, hs1, hs2⟩
  refine ⟨fun k1 => ⟨⟨by omega, fun _ => trivial, fun _ => ⟨by omega, trivial⟩⟩, fun k2 => ?_, fun k2 => ?_⟩, fun k1 => ?_⟩
  · refine (Bool.eq_false_iff.mpr fun e => ?_).symm
    obtain ⟨⟨-, e2⟩, -⟩ := cycleM_iff.mp e
    have := (cycStep_iff.mp (e2 i (by omega))).1.1
    omega
  · have hlt : i < c.length := by omega
    have hcg := hg _ (lat_mem (xs := l) (i := lat c (i : Int)) ⟨by omega, by omega⟩)
    refine ⟨by omega, by omega, by unfold inI; omega, by unfold inI; omega, ⟨i + 1, by omega, by omega, ?_, fun j hj1 => ?_, by omega, by omega⟩, by dsimp only; omega⟩
    · rw [List.take_add_one, List.map_append, List.sum_append, ← hs, List.getElem?_eq_getElem hlt, lat_get hlt]; simp
    · rcases Nat.lt_or_ge j i with h6 | h6
      · exact hj j h6
      · have : j = i := by omega
        subst this; omega
  have hic : i = c.length := by omega
  rw [hic, List.take_length] at hs
  refine ⟨fun v => ∃ q : Nat, v = q ∧ q ≤ c.length ∧ ∀ a : Nat, a < q → (∀ b : Nat, b < a → ¬ (lat l (lat c b)).f = (lat l (lat c a)).f) ∧ (a + 1 < c.length → (lat l (lat c a)).t = (lat l (lat c ((a + 1 : Nat) : Int))).f) ∧ (a + 1 = c.length → (lat l (lat c a)).t = (lat l (lat c 0)).f), fun v => c.length - v.toNat, ⟨0, rfl, by omega, fun j hj => by omega⟩, ?_⟩
  rintro _ ⟨q, rfl, hq, hqs⟩
  have htm : q < c.length → (((q : Int) + 1).tmod ((c.length : Nat) : Int) = if q + 1 < c.length then ((q + 1 : Nat) : Int) else 0) := fun h => by
    rw [tmod_wrap (by omega) (by omega)]
    split <;> split <;> omega
  have hlast : c.length - 1 < c.length := by omega
  refine ⟨fun k2 => ⟨fun v => ∃ b : Nat, v = b ∧ b ≤ q ∧ ∀ a : Nat, a < b → ¬ (lat l (lat c a)).f = (lat l (lat c q)).f, fun v => q - v.toNat, ⟨0, rfl, by omega, fun j hj => by omega⟩, ?_⟩, fun k2 => ?_⟩
  · rintro _ ⟨b, rfl, hb, hbs⟩
    refine ⟨fun k3 => ⟨by omega, hj b (by omega), by omega, hj q (by omega), fun k4 => ?_, fun k4 => ⟨by unfold inI; omega, ⟨b + 1, by omega, by omega, fun a ha => ?_⟩, by dsimp only; omega⟩⟩, fun k3 => ?_⟩
    · refine (Bool.eq_false_iff.mpr fun e => ?_).symm
      obtain ⟨⟨-, e2⟩, -⟩ := cycleM_iff.mp e
      exact (cycStep_iff.mp (e2 q (by omega))).1.2 b (by omega) k4
    · rcases Nat.lt_or_ge a b with h6 | h6
      · exact hbs a h6
      · have : a = b := by omega
        subst this; exact k4
    · rw [htm (by omega)]
      have hnx : 0 ≤ (if q + 1 < c.length then ((q + 1 : Nat) : Int) else 0) ∧ (if q + 1 < c.length then ((q + 1 : Nat) : Int) else 0) < c.length := by split <;> omega
      have hnj : 0 ≤ lat c (if q + 1 < c.length then ((q + 1 : Nat) : Int) else 0) ∧ lat c (if q + 1 < c.length then ((q + 1 : Nat) : Int) else 0) < (l.length : Int) := by
        split
        · exact hj (q + 1) (by omega)
        · exact hj 0 (by omega)
      refine ⟨by omega, hj q (by omega), by unfold inI; omega, by omega, hnx, hnj, fun k4 => ?_, fun k4 => ⟨by unfold inI; omega, ⟨q + 1, by omega, by omega, fun a ha => ?_⟩, by dsimp only; omega⟩⟩
      · refine (Bool.eq_false_iff.mpr fun e => ?_).symm
        obtain ⟨⟨-, e2⟩, e3, e4⟩ := cycleM_iff.mp e
        by_cases h7 : q + 1 < c.length
        · rw [if_pos h7] at k4
          have := ((cycStep_iff.mp (e2 (q + 1) h7)).2).resolve_left (by omega)
          rw [show (((q + 1 : Nat) : Int) - 1) = (q : Int) by omega] at this
          exact k4 this
        · rw [if_neg h7] at k4
          rw [show ((c.length : Int) - 1) = (q : Int) by omega] at e4
          exact k4 e4
      · rcases Nat.lt_or_ge a q with h6 | h6
        · exact hqs a h6
        · have : a = q := by omega
          subst this
          have k5 := Classical.not_not.mp k4
          refine ⟨fun b' hb' => hbs b' (by omega), fun h7 => ?_, fun h7 => ?_⟩
          · rw [if_pos h7] at k5; exact k5
          · rw [if_neg (by omega)] at k5; exact k5
  · have hqc : q = c.length := by omega
    subst hqc
    have key : cycleM l c = true ↔ s < 0 := by
      rw [cycleM_iff, ← hs]
      refine ⟨fun h => h.2.1, fun h => ⟨⟨⟨hv, by omega, by omega⟩, fun a ha => cycStep_iff.mpr ⟨⟨hj a (by omega), fun b hb => (hqs a ha).1 b hb⟩, ?_⟩⟩, h, ?_⟩⟩
      · rcases a with _ | a
        · exact .inl rfl
        · refine .inr ?_
          rw [show (((a + 1 : Nat) : Int) - 1) = (a : Int) by omega]
          exact (hqs a (by omega)).2.1 ha
      · have := (hqs (c.length - 1) hlast).2.2 (by omega)
        rw [show ((c.length - 1 : Nat) : Int) = (c.length : Int) - 1 by omega] at this
        exact this
    cases e : cycleM l c with
    | true => exact decide_eq_true (key.mp e)
    | false => exact decide_eq_false fun h => by rw [key.mpr h] at e; cases e
theorem spec_rcycle (l : (List Con)) (c : (List Int)) (h0 : l.length ≤ 1073741824) (h1 : c.length ≤ 1073741824) : FnP Try.prog 32 [.lst true l.length (encL e25 l), .lst true c.length (encL eInt c)] (fun xR => xR = .bool (cycleM l c)) :=
  (walk_rcycle (vcp_rcycle l c h0 h1)).mono (by rintro _ ⟨_, rfl, rfl⟩; rfl)
end Go.Lat
namespace Go.Lat
open Go.RowKit Go.Proofs
attribute [local irreducible] closeM rangeM pointM addBM cycleM holdsM validBM sameM madeM pickM plusM validM possM firstM tableM longerM boundsM ofM addM freeM
/-- What the walk through latecomerref07.sum asks. -/
def vc_rsum (a : Int) (b : Int) (Post : Int → Prop) : Prop :=
  (((a = (1152921504606846976 : Int)) ∨ (b = (1152921504606846976 : Int))) → Post (1152921504606846976 : Int)) ∧ (¬ ((a = (1152921504606846976 : Int)) ∨ (b = (1152921504606846976 : Int))) → (inI (a + b)) ∧ Post (a + b))
set_option maxRecDepth 100000 in
set_option maxHeartbeats 4000000 in
theorem walk_rsum {a : Int} {b : Int} {Post : Int → Prop} (hv : vc_rsum a b Post) : FnP Try.prog 48 [.int .i64 a, .int .i64 b] (fun x => ∃ q0, x = .int .i64 q0 ∧ Post q0) := by
  refine FnP.of_walk (T := tt) (nt := 14) ttOk ttMix ⟨⟨Try.f48, Try.func48, rfl, rfl, rfl, rfl⟩⟩ (by simp) ?_
  unfold vc_rsum at hv
  change W _ _ _ ⟨14, look [(0, .int .i64 a), (1, .int .i64 b)], [], false⟩ _
  refine W.tr [(0, .int _ _), (1, .int _ _)] [] ⟨rfl, rfl, trivial⟩ rfl ?_
  refine W.rL ?_
  refine cL rfl (o_assign (v := .int _ _) rfl ?_)
  refine eL ?_
  refine W.tr [(0, .int _ _), (1, .int _ _)] [] ⟨rfl, rfl, trivial⟩ rfl ?_
  refine W.seq' ?_
  refine W.rLm ⟨14, look [(0, .int .i64 a), (1, .int .i64 b), (10, .bool (decide ((a = (1152921504606846976 : Int)) ∨ (b = (1152921504606846976 : Int)))))], [], false⟩ ?_ ?_
  · refine cL rfl (o_move (v := .int _ _) rfl ?_)
    refine cL rfl (o_eqI rfl rfl rfl ?_)
    refine cL rfl (o_move (v := .bool _) rfl ?_)
    by_cases c1 : a = (1152921504606846976 : Int)
    · refine cLs rfl rfl rfl (decide_eq_true c1) ?_
      refine cLs rfl rfl rfl (decide_eq_true c1) ?_
      refine cL rfl (o_pickT (v := .bool _) rfl (decide_eq_true c1) rfl ?_)
      refine eL ?_
      exact le_mk ⟨rfl, rfl, (congrArg AV.bool (dOrT c1)).symm, trivial⟩ rfl
    · refine cLg rfl rfl (decide_eq_false c1) ?_
      refine cL rfl (o_move (v := .int _ _) rfl ?_)
      refine cLg rfl rfl (decide_eq_false c1) ?_
      refine cL rfl (o_eqI rfl rfl rfl ?_)
      refine cL rfl (o_pickF (v := .bool _) rfl (decide_eq_false c1) rfl ?_)
      refine eL ?_
      exact le_mk ⟨rfl, rfl, (congrArg AV.bool (dOrF c1 (rfl))).symm, trivial⟩ rfl
  · refine W.cn rfl (fun hc => ?_) (fun hc => ?_)
    · have hv := hv.1 hc
      refine W.rL ?_
      refine cL rfl (o_assign (v := .int _ _) rfl ?_)
      refine eL ?_
      refine W.tr [(4, .int _ _)] [] ⟨rfl, trivial⟩ rfl ?_
      refine W.ret ?_
      refine th_ret (rt ?_)
      refine rt_t (v := .int _ _) rfl ?_
      refine rt_n ?_
      exact ⟨_, rs_int _ _ _ _, (1152921504606846976 : Int), rfl, hv⟩
    · have hv := hv.2 hc
      refine W.skip ?_
      refine th_nrm ?_
      refine W.tr [(0, .int _ _), (1, .int _ _)] [] ⟨rfl, rfl, trivial⟩ rfl ?_
      refine W.rL ?_
      refine cL rfl (o_move (v := .int _ _) rfl ?_)
      refine cL rfl (o_move (v := .int _ _) rfl ?_)
      obtain ⟨s1, hv⟩ := hv
      refine cL rfl (o_add rfl rfl s1 ?_)
      refine cL rfl (o_assign (v := .int _ _) rfl ?_)
      refine eL ?_
      refine W.tr [(4, .int _ _)] [] ⟨rfl, trivial⟩ rfl ?_
      refine W.ret ?_
      refine rt ?_
      refine rt_t (v := .int _ _) rfl ?_
      refine rt_n ?_
      exact ⟨_, rs_int _ _ _ _, (a + b), rfl, hv⟩
theorem vcp_rsum (a : Int) (b : Int) (h0 : ¬ a = NB → ¬ b = NB → inI (a + b)) : vc_rsum a b (fun q0 => q0 = (plusM a b)) := by
  unfold vc_rsum plusM
  refine ⟨fun h => by simp only [h, if_true, NB], fun h => ?_⟩
  have ha : ¬ a = NB := fun e => h (.inl e)
  have hb : ¬ b = NB := fun e => h (.inr e)
  exact ⟨h0 ha hb, by simp only [ha, hb, or_self, if_false]⟩
theorem spec_rsum (a : Int) (b : Int) (h0 : ¬ a = NB → ¬ b = NB → inI (a + b)) : FnP Try.prog 48 [.int .i64 a, .int .i64 b] (fun xR => xR = .int .i64 (plusM a b)) :=
  (walk_rsum (vcp_rsum a b h0)).mono (by rintro _ ⟨_, rfl, rfl⟩; rfl)
end Go.Lat
namespace Go.Lat
open Go.RowKit Go.Proofs
attribute [local irreducible] closeM rangeM pointM addBM cycleM holdsM validBM sameM madeM pickM plusM validM possM firstM tableM longerM boundsM ofM addM freeM
/-- What the walk through latecomerref07.least asks. -/
def vc_least (n : Int) (l : (List Con)) (above : Int) (to : Int) (most : Int) (Post : (List (List Int)) → Prop) : Prop :=
  ∃ (I1 : Int → List (List Int) → Prop) (μ1 : Int → List (List Int) → Nat), I1 (0 : Int) [] ∧ ∀ (v12 : Int) (r0 : List (List Int)), I1 v12 r0 → ((v12 ≤ most) → ∃ (I2 : Int → List Int → Prop) (μ2 : Int → List Int → Nat), I2 (0 : Int) [] ∧ ∀ (v14 : Int) (r1 : List Int), I2 v14 r1 → ((v14 < n) → ∃ J3 : List Int → Prop, (∀ (r3 : List Int), J3 r3 → (inI (v14 + (1 : Int))) ∧ (I2 (v14 + (1 : Int)) r3 ∧ μ2 (v14 + (1 : Int)) r3 < μ2 v14 r1)) ∧ ((((v12 = (0 : Int)) ∧ (v14 = to)) → ((r1 ++ [(0 : Int)]).length ≤ 1073741824) ∧ J3 (r1 ++ [(0 : Int)])) ∧ (¬ ((v12 = (0 : Int)) ∧ (v14 = to)) → ((r1 ++ [(1152921504606846976 : Int)]).length ≤ 1073741824) ∧ J3 (r1 ++ [(1152921504606846976 : Int)])))) ∧ (¬ (v14 < n) → (inI (above + (1 : Int))) ∧ ∃ (I4 : Int → List Int → Prop) (μ4 : Int → List Int → Nat), I4 (above + (1 : Int)) r1 ∧ ∀ (v15 : Int) (r1_1 : List Int), I4 v15 r1_1 → (((v15 < ((l.length : Nat) : Int)) ∧ ((0 : Int) < v12)) → ∃ J5 : List Int → Prop, (∀ (r1_2 : List Int), J5 r1_2 → (inI (v15 + (1 : Int))) ∧ (I4 (v15 + (1 : Int)) r1_2 ∧ μ4 (v15 + (1 : Int)) r1_2 < μ4 v15 r1_1)) ∧ ((0 ≤ v15 ∧ v15 < (l.length : Int)) ∧ (inI (v12 - (1 : Int))) ∧ (0 ≤ (v12 - (1 : Int)) ∧ (v12 - (1 : Int)) < ((r0.length : Nat) : Int)) ∧ (0 ≤ v15 ∧ v15 < (l.length : Int)) ∧ (0 ≤ ((lat l v15).t) ∧ ((lat l v15).t) < ((lat r0 (v12 - (1 : Int))).length : Int)) ∧ (¬ ((lat l v15).m) = NB → ¬ (lat (lat r0 (v12 - (1 : Int))) ((lat l v15).t)) = NB → inI (((lat l v15).m) + (lat (lat r0 (v12 - (1 : Int))) ((lat l v15).t)))) ∧ (((¬ plusM ((lat l v15).m) (lat (lat r0 (v12 - (1 : Int))) ((lat l v15).t)) = (1152921504606846976 : Int)) → (0 ≤ v15 ∧ v15 < (l.length : Int)) ∧ (0 ≤ ((lat l v15).f) ∧ ((lat l v15).f) < ((r1_1.length : Nat) : Int)) ∧ ((lat r1_1 ((lat l v15).f) = (1152921504606846976 : Int)) → True) ∧ (¬ (lat r1_1 ((lat l v15).f) = (1152921504606846976 : Int)) → (0 ≤ v15 ∧ v15 < (l.length : Int)) ∧ (0 ≤ ((lat l v15).f) ∧ ((lat l v15).f) < ((r1_1.length : Nat) : Int)) ∧ True)) ∧ (¬ (¬ plusM ((lat l v15).m) (lat (lat r0 (v12 - (1 : Int))) ((lat l v15).t)) = (1152921504606846976 : Int)) → True)) ∧ ((((¬ plusM ((lat l v15).m) (lat (lat r0 (v12 - (1 : Int))) ((lat l v15).t)) = (1152921504606846976 : Int)) ∧ ((lat r1_1 ((lat l v15).f) = (1152921504606846976 : Int)) ∨ ((plusM ((lat l v15).m) (lat (lat r0 (v12 - (1 : Int))) ((lat l v15).t))) < (lat r1_1 ((lat l v15).f))))) → (0 ≤ v15 ∧ v15 < (l.length : Int)) ∧ (0 ≤ ((lat l v15).f) ∧ ((lat l v15).f) < ((r1_1.length : Nat) : Int)) ∧ J5 (r1_1.set ((lat l v15).f).toNat (plusM ((lat l v15).m) (lat (lat r0 (v12 - (1 : Int))) ((lat l v15).t))))) ∧ (¬ ((¬ plusM ((lat l v15).m) (lat (lat r0 (v12 - (1 : Int))) ((lat l v15).t)) = (1152921504606846976 : Int)) ∧ ((lat r1_1 ((lat l v15).f) = (1152921504606846976 : Int)) ∨ ((plusM ((lat l v15).m) (lat (lat r0 (v12 - (1 : Int))) ((lat l v15).t))) < (lat r1_1 ((lat l v15).f))))) → J5 r1_1)))) ∧ (¬ ((v15 < ((l.length : Nat) : Int)) ∧ ((0 : Int) < v12)) → ((r0 ++ [r1_1]).length ≤ 1073741824) ∧ (inI (v12 + (1 : Int))) ∧ (I1 (v12 + (1 : Int)) (r0 ++ [r1_1]) ∧ μ1 (v12 + (1 : Int)) (r0 ++ [r1_1]) < μ1 v12 r0)))) ∧ (¬ (v12 ≤ most) → Post r0)
set_option maxRecDepth 100000 in
set_option maxHeartbeats 4000000 in
theorem walk_least {n : Int} {l : (List Con)} {above : Int} {to : Int} {most : Int} {Post : (List (List Int)) → Prop} (hv : vc_least n l above to most Post) : FnP Try.prog 56 [.int .i64 n, .lst true l.length (encL e25 l), .int .i64 above, .int .i64 to, .int .i64 most] (fun x => ∃ q0, x = .lst false q0.length (encL (eSl eInt true) q0) ∧ Post q0) := by
  refine FnP.of_walk (T := tt) (nt := 108) ttOk ttMix ⟨⟨Try.f56, Try.func56, rfl, rfl, rfl, rfl⟩⟩ (by simp) ?_
  unfold vc_least at hv
  change W _ _ _ ⟨108, look [(0, .int .i64 n), (1, .lst true l.length (encL e25 l)), (2, .int .i64 above), (3, .int .i64 to), (4, .int .i64 most)], [], false⟩ _
  refine W.tr [(0, .int _ _), (1, .lst _ _ _), (2, .int _ _), (3, .int _ _), (4, .int _ _)] [] ⟨rfl, rfl, rfl, rfl, rfl, trivial⟩ rfl ?_
  refine W.rL ?_
  refine cL rfl (o_assign (v := .nilS) rfl ?_)
  refine eL ?_
  refine W.tr [(0, .int _ _), (1, .lst _ _ _), (2, .int _ _), (3, .int _ _), (4, .int _ _)] [] ⟨rfl, rfl, rfl, rfl, rfl, trivial⟩ rfl ?_
  refine W.rL ?_
  refine cL rfl (o_assign (v := .nilS) rfl ?_)
  refine eL ?_
  refine W.tr [(0, .int _ _), (1, .lst _ _ _), (2, .int _ _), (3, .int _ _), (4, .int _ _), (11, .nilS)] [] ⟨rfl, rfl, rfl, rfl, rfl, rfl, trivial⟩ rfl ?_
  refine W.seq' ?_
  refine W.rL ?_
  refine cL rfl (o_assign (v := .int _ _) rfl ?_)
  refine eL ?_
  refine W.tr [(0, .int _ _), (1, .lst _ _ _), (2, .int _ _), (3, .int _ _), (4, .int _ _), (11, .nilS), (12, .int _ _)] [] ⟨rfl, rfl, rfl, rfl, rfl, rfl, rfl, trivial⟩ rfl ?_
  refine W.block ?_
  obtain ⟨I1, μ1, hp, hv⟩ := hv
  refine W.loop2 (fun v12 r0 => ⟨108, look [(0, .int .i64 n), (1, .lst true l.length (encL e25 l)), (2, .int .i64 above), (3, .int .i64 to), (4, .int .i64 most), (11, .ref true 0 r0.length), (12, .int .i64 v12)], [.row 35 1 (encL (eSl eInt false) r0)], false⟩) I1 μ1 (0 : Int) [] (St.to_mk (φ := [none]) rfl (.inl rfl) ⟨Ren.int _ _, Ren.lst _ _ _, Ren.int _ _, Ren.int _ _, Ren.int _ _, Ren.nilR rfl rfl, Ren.int _ _, trivial⟩ ⟨rfl, trivial⟩) hp ?_
  clear hp
  intro v12 r0 hI
  replace hv := hv v12 r0 hI
  clear hI
  refine W.seq' ?_
  refine W.rL ?_
  refine cL rfl (o_move (v := .int _ _) rfl ?_)
  refine cL rfl (o_move (v := .int _ _) rfl ?_)
  refine cL rfl (o_leq rfl rfl ?_)
  refine eL ?_
  refine W.tr [(0, .int _ _), (1, .lst _ _ _), (2, .int _ _), (3, .int _ _), (4, .int _ _), (11, .ref _ _ _), (12, .int _ _), (19, .bool _)] [.row _ _ _] ⟨rfl, rfl, rfl, rfl, rfl, rfl, rfl, rfl, trivial⟩ rfl ?_
  refine W.cn rfl (fun hc => ?_) (fun hc => ?_)
  · have hv := hv.1 hc
    refine W.skip ?_
    refine th_nrm ?_
    refine W.tr [(0, .int _ _), (1, .lst _ _ _), (2, .int _ _), (3, .int _ _), (4, .int _ _), (11, .ref _ _ _), (12, .int _ _)] [.row _ _ _] ⟨rfl, rfl, rfl, rfl, rfl, rfl, rfl, trivial⟩ rfl ?_
    refine W.seq' ?_
    refine W.block ?_
    refine W.rL ?_
    refine cL rfl (o_assign (v := .nilS) rfl ?_)
    refine eL ?_
    refine W.tr [(0, .int _ _), (1, .lst _ _ _), (2, .int _ _), (3, .int _ _), (4, .int _ _), (11, .ref _ _ _), (12, .int _ _), (13, .nilS)] [.row _ _ _] ⟨rfl, rfl, rfl, rfl, rfl, rfl, rfl, rfl, trivial⟩ rfl ?_
    refine W.seq' ?_
    refine W.rL ?_
    refine cL rfl (o_assign (v := .int _ _) rfl ?_)
    refine eL ?_
    refine W.tr [(0, .int _ _), (1, .lst _ _ _), (2, .int _ _), (3, .int _ _), (4, .int _ _), (11, .ref _ _ _), (12, .int _ _), (13, .nilS), (14, .int _ _)] [.row _ _ _] ⟨rfl, rfl, rfl, rfl, rfl, rfl, rfl, rfl, rfl, trivial⟩ rfl ?_
    refine W.block ?_
    obtain ⟨I2, μ2, hp, hv⟩ := hv
    refine W.loop2 (fun v14 r1 => ⟨108, look [(0, .int .i64 n), (1, .lst true l.length (encL e25 l)), (2, .int .i64 above), (3, .int .i64 to), (4, .int .i64 most), (11, .ref true 0 r0.length), (12, .int .i64 v12), (13, .ref true 1 r1.length), (14, .int .i64 v14)], [.row 35 1 (encL (eSl eInt false) r0), .row 3 1 (encL eInt r1)], false⟩) I2 μ2 (0 : Int) [] (St.to_mk (φ := [some 0, none]) rfl (.inl rfl) ⟨Ren.int _ _, Ren.lst _ _ _, Ren.int _ _, Ren.int _ _, Ren.int _ _, Ren.ref rfl (fun h => rfl), Ren.int _ _, Ren.nilR rfl rfl, Ren.int _ _, trivial⟩ ⟨.inr ⟨_, rfl, rfl, rfl, rfl, Rens.enc (encSl eInt) false r0⟩, rfl, trivial⟩) hp ?_
    clear hp
    intro v14 r1 hI
    replace hv := hv v14 r1 hI
    clear hI
    refine W.seq' ?_
    refine W.rL ?_
    refine cL rfl (o_move (v := .int _ _) rfl ?_)
    refine cL rfl (o_move (v := .int _ _) rfl ?_)
    refine cL rfl (o_lss rfl rfl ?_)
    refine eL ?_
    refine W.tr [(0, .int _ _), (1, .lst _ _ _), (2, .int _ _), (3, .int _ _), (4, .int _ _), (11, .ref _ _ _), (12, .int _ _), (13, .ref _ _ _), (14, .int _ _), (24, .bool _)] [.row _ _ _, .row _ _ _] ⟨rfl, rfl, rfl, rfl, rfl, rfl, rfl, rfl, rfl, rfl, trivial⟩ rfl ?_
    refine W.cn rfl (fun hc => ?_) (fun hc => ?_)
    · have hv := hv.1 hc
      refine W.skip ?_
      refine th_nrm ?_
      refine W.tr [(0, .int _ _), (1, .lst _ _ _), (2, .int _ _), (3, .int _ _), (4, .int _ _), (11, .ref _ _ _), (12, .int _ _), (13, .ref _ _ _), (14, .int _ _)] [.row _ _ _, .row _ _ _] ⟨rfl, rfl, rfl, rfl, rfl, rfl, rfl, rfl, rfl, trivial⟩ rfl ?_
      obtain ⟨J3, hj, hv⟩ := hv
      refine W.mid1 (fun r3 => ⟨108, look [(0, .int .i64 n), (1, .lst true l.length (encL e25 l)), (2, .int .i64 above), (3, .int .i64 to), (4, .int .i64 most), (11, .ref true 0 r0.length), (12, .int .i64 v12), (13, .ref true 3 r3.length), (14, .int .i64 v14)], [.row 35 1 (encL (eSl eInt false) r0), .dead, .dead, .row 3 1 (encL eInt r3)], false⟩) J3 ?_ ?_
      · intro r3
        intro hv
        replace hv := hj r3 hv
        refine W.rL1 ?_
        refine cL rfl (o_move (v := .int _ _) rfl ?_)
        obtain ⟨s2474, hv⟩ := hv
        refine cL rfl (o_add rfl rfl s2474 ?_)
        refine cL rfl (o_assign (v := .int _ _) rfl ?_)
        refine eL ?_
        exact th_nrm (⟨(), (v14 + (1 : Int)), r3, hv, St.to_mk (φ := [some 0, some 3]) rfl (.inl rfl) ⟨Ren.int _ _, Ren.lst _ _ _, Ren.int _ _, Ren.int _ _, Ren.int _ _, Ren.ref rfl (fun h => rfl), Ren.int _ _, Ren.ref rfl (fun h => rfl), Ren.int _ _, trivial⟩ ⟨.inr ⟨_, rfl, rfl, rfl, rfl, Rens.enc (encSl eInt) false r0⟩, .inr ⟨_, rfl, rfl, rfl, rfl, Rens.enc encInt false r3⟩, trivial⟩⟩)
      · clear hj
        refine W.block ?_
        refine W.rLm ⟨108, look [(0, .int .i64 n), (1, .lst true l.length (encL e25 l)), (2, .int .i64 above), (3, .int .i64 to), (4, .int .i64 most), (11, .ref true 0 r0.length), (12, .int .i64 v12), (13, .ref true 1 r1.length), (14, .int .i64 v14), (33, .bool (decide ((v12 = (0 : Int)) ∧ (v14 = to))))], [.row 35 1 (encL (eSl eInt false) r0), .row 3 1 (encL eInt r1)], false⟩ ?_ ?_
        · refine cL rfl (o_move (v := .int _ _) rfl ?_)
          refine cL rfl (o_eqI rfl rfl rfl ?_)
          refine cL rfl (o_move (v := .bool _) rfl ?_)
          by_cases c1 : v12 = (0 : Int)
          · refine cLg rfl rfl (decide_eq_true c1) ?_
            refine cL rfl (o_move (v := .int _ _) rfl ?_)
            refine cLg rfl rfl (decide_eq_true c1) ?_
            refine cL rfl (o_move (v := .int _ _) rfl ?_)
            refine cLg rfl rfl (decide_eq_true c1) ?_
            refine cL rfl (o_eqI rfl rfl rfl ?_)
            refine cL rfl (o_pickT (v := .bool _) rfl (decide_eq_true c1) rfl ?_)
            refine eL ?_
            exact le_mk ⟨rfl, rfl, rfl, rfl, rfl, rfl, rfl, rfl, rfl, (congrArg AV.bool (dAndT c1 (rfl))).symm, trivial⟩ rfl
          · refine cLs rfl rfl rfl (decide_eq_false c1) ?_
            refine cLs rfl rfl rfl (decide_eq_false c1) ?_
            refine cLs rfl rfl rfl (decide_eq_false c1) ?_
            refine cL rfl (o_pickF (v := .bool _) rfl (decide_eq_false c1) rfl ?_)
            refine eL ?_
            exact le_mk ⟨rfl, rfl, rfl, rfl, rfl, rfl, rfl, rfl, rfl, (congrArg AV.bool (dAndF c1)).symm, trivial⟩ rfl
        · refine W.cn rfl (fun hc => ?_) (fun hc => ?_)
          · have hv := hv.1 hc
            refine W.rL1 ?_
            refine cL rfl (o_move (v := .ref _ _ _) rfl ?_)
            refine cL rfl (o_bs1 (v := .int _ _) (q := 2) tt35 tt3 rfl rfl rfl rfl rfl rfl rfl rfl ?_)
            obtain ⟨s2475, hv⟩ := hv
            refine cL rfl (o_apR (p := 3) (q := (r1 ++ [(0 : Int)]).length) tt35 tt3 rfl rfl (src_ref rfl rfl) rfl rfl (encL_length (encInt.wd false) _) (Nat.le_trans (Nat.le_of_eq (@List.length_append _ (r1) ([(0 : Int)])).symm) s2475) rfl (@List.length_append _ (r1) ([(0 : Int)])).symm (encL_app eInt r1 [(0 : Int)]) ?_)
            refine cL rfl (o_assign (v := .ref _ _ _) rfl ?_)
            refine eL ?_
            exact bl_nrm (th_nrm (⟨(), (r1 ++ [(0 : Int)]), hv, St.to_mk (φ := [some 0, none, none, some 3]) rfl (.inl rfl) ⟨Ren.int _ _, Ren.lst _ _ _, Ren.int _ _, Ren.int _ _, Ren.int _ _, Ren.ref rfl (fun h => rfl), Ren.int _ _, Ren.ref rfl (fun h => rfl), Ren.int _ _, trivial⟩ ⟨.inr ⟨_, rfl, rfl, rfl, rfl, Rens.enc (encSl eInt) false r0⟩, rfl, rfl, .inr ⟨_, rfl, rfl, rfl, rfl, Rens.enc encInt false (r1 ++ [(0 : Int)])⟩, trivial⟩⟩))
          · have hv := hv.2 hc
            refine W.rL1 ?_
            refine cL rfl (o_move (v := .ref _ _ _) rfl ?_)
            refine cL rfl (o_bs1 (v := .int _ _) (q := 2) tt35 tt3 rfl rfl rfl rfl rfl rfl rfl rfl ?_)
            obtain ⟨s2476, hv⟩ := hv
            refine cL rfl (o_apR (p := 3) (q := (r1 ++ [(1152921504606846976 : Int)]).length) tt35 tt3 rfl rfl (src_ref rfl rfl) rfl rfl (encL_length (encInt.wd false) _) (Nat.le_trans (Nat.le_of_eq (@List.length_append _ (r1) ([(1152921504606846976 : Int)])).symm) s2476) rfl (@List.length_append _ (r1) ([(1152921504606846976 : Int)])).symm (encL_app eInt r1 [(1152921504606846976 : Int)]) ?_)
            refine cL rfl (o_assign (v := .ref _ _ _) rfl ?_)
            refine eL ?_
            exact bl_nrm (th_nrm (⟨(), (r1 ++ [(1152921504606846976 : Int)]), hv, St.to_mk (φ := [some 0, none, none, some 3]) rfl (.inl rfl) ⟨Ren.int _ _, Ren.lst _ _ _, Ren.int _ _, Ren.int _ _, Ren.int _ _, Ren.ref rfl (fun h => rfl), Ren.int _ _, Ren.ref rfl (fun h => rfl), Ren.int _ _, trivial⟩ ⟨.inr ⟨_, rfl, rfl, rfl, rfl, Rens.enc (encSl eInt) false r0⟩, rfl, rfl, .inr ⟨_, rfl, rfl, rfl, rfl, Rens.enc encInt false (r1 ++ [(1152921504606846976 : Int)])⟩, trivial⟩⟩))
    · have hv := hv.2 hc
      refine W.exit ?_
      refine th_exit (th_exit (bl_hit (th_nrm ?_)))
      refine W.tr [(0, .int _ _), (1, .lst _ _ _), (2, .int _ _), (3, .int _ _), (4, .int _ _), (11, .ref _ _ _), (12, .int _ _), (13, .ref _ _ _)] [.row _ _ _, .row _ _ _] ⟨rfl, rfl, rfl, rfl, rfl, rfl, rfl, rfl, trivial⟩ rfl ?_
      refine W.seq' ?_
      refine W.rL ?_
      refine cL rfl (o_move (v := .int _ _) rfl ?_)
      obtain ⟨s2577, hv⟩ := hv
      refine cL rfl (o_add rfl rfl s2577 ?_)
      refine cL rfl (o_assign (v := .int _ _) rfl ?_)
      refine eL ?_
      refine W.tr [(0, .int _ _), (1, .lst _ _ _), (2, .int _ _), (3, .int _ _), (4, .int _ _), (11, .ref _ _ _), (12, .int _ _), (13, .ref _ _ _), (15, .int _ _)] [.row _ _ _, .row _ _ _] ⟨rfl, rfl, rfl, rfl, rfl, rfl, rfl, rfl, rfl, trivial⟩ rfl ?_
      refine W.block ?_
      obtain ⟨I4, μ4, hp, hv⟩ := hv
      refine W.loop2 (fun v15 r1_1 => ⟨108, look [(0, .int .i64 n), (1, .lst true l.length (encL e25 l)), (2, .int .i64 above), (3, .int .i64 to), (4, .int .i64 most), (11, .ref true 0 r0.length), (12, .int .i64 v12), (13, .ref true 1 r1_1.length), (15, .int .i64 v15)], [.row 35 1 (encL (eSl eInt false) r0), .row 3 1 (encL eInt r1_1)], false⟩) I4 μ4 (above + (1 : Int)) r1 (St.to_mk (φ := [some 0, some 1]) rfl (.inl rfl) ⟨Ren.int _ _, Ren.lst _ _ _, Ren.int _ _, Ren.int _ _, Ren.int _ _, Ren.ref rfl (fun h => rfl), Ren.int _ _, Ren.ref rfl (fun h => rfl), Ren.int _ _, trivial⟩ ⟨.inr ⟨_, rfl, rfl, rfl, rfl, Rens.enc (encSl eInt) false r0⟩, .inr ⟨_, rfl, rfl, rfl, rfl, Rens.enc encInt false r1⟩, trivial⟩) hp ?_
      clear hp
      intro v15 r1_1 hI
      replace hv := hv v15 r1_1 hI
      clear hI
      refine W.seq' ?_
      refine W.rLm ⟨108, look [(0, .int .i64 n), (1, .lst true l.length (encL e25 l)), (2, .int .i64 above), (3, .int .i64 to), (4, .int .i64 most), (11, .ref true 0 r0.length), (12, .int .i64 v12), (13, .ref true 1 r1_1.length), (15, .int .i64 v15), (49, .bool (decide ((v15 < ((l.length : Nat) : Int)) ∧ ((0 : Int) < v12))))], [.row 35 1 (encL (eSl eInt false) r0), .row 3 1 (encL eInt r1_1)], false⟩ ?_ ?_
      · refine cL rfl (o_move (v := .int _ _) rfl ?_)
        refine cL rfl (o_move (v := .lst _ _ _) rfl ?_)
        refine cL rfl (o_len (v := .lst _ _ _) tt22 rfl rfl ?_)
        refine cL rfl (o_lss rfl rfl ?_)
        refine cL rfl (o_move (v := .bool _) rfl ?_)
        by_cases c1 : v15 < ((l.length : Nat) : Int)
        · refine cLg rfl rfl (decide_eq_true c1) ?_
          refine cL rfl (o_move (v := .int _ _) rfl ?_)
          refine cLg rfl rfl (decide_eq_true c1) ?_
          refine cL rfl (o_gtr rfl rfl ?_)
          refine cL rfl (o_pickT (v := .bool _) rfl (decide_eq_true c1) rfl ?_)
          refine eL ?_
          exact le_mk ⟨rfl, rfl, rfl, rfl, rfl, rfl, rfl, rfl, rfl, (congrArg AV.bool (dAndT c1 (rfl))).symm, trivial⟩ rfl
        · refine cLs rfl rfl rfl (decide_eq_false c1) ?_
          refine cLs rfl rfl rfl (decide_eq_false c1) ?_
          refine cL rfl (o_pickF (v := .bool _) rfl (decide_eq_false c1) rfl ?_)
          refine eL ?_
          exact le_mk ⟨rfl, rfl, rfl, rfl, rfl, rfl, rfl, rfl, rfl, (congrArg AV.bool (dAndF c1)).symm, trivial⟩ rfl
      · refine W.cn rfl (fun hc => ?_) (fun hc => ?_)
        · have hv := hv.1 hc
          refine W.skip ?_
          refine th_nrm ?_
          refine W.tr [(0, .int _ _), (1, .lst _ _ _), (2, .int _ _), (3, .int _ _), (4, .int _ _), (11, .ref _ _ _), (12, .int _ _), (13, .ref _ _ _), (15, .int _ _)] [.row _ _ _, .row _ _ _] ⟨rfl, rfl, rfl, rfl, rfl, rfl, rfl, rfl, rfl, trivial⟩ rfl ?_
          obtain ⟨J5, hj, hv⟩ := hv
          refine W.mid1 (fun r1_2 => ⟨108, look [(0, .int .i64 n), (1, .lst true l.length (encL e25 l)), (2, .int .i64 above), (3, .int .i64 to), (4, .int .i64 most), (11, .ref true 0 r0.length), (12, .int .i64 v12), (13, .ref true 1 r1_2.length), (15, .int .i64 v15)], [.row 35 1 (encL (eSl eInt false) r0), .row 3 1 (encL eInt r1_2)], false⟩) J5 ?_ ?_
          · intro r1_2
            intro hv
            replace hv := hj r1_2 hv
            refine W.rL1 ?_
            refine cL rfl (o_move (v := .int _ _) rfl ?_)
            obtain ⟨s2660, hv⟩ := hv
            refine cL rfl (o_add rfl rfl s2660 ?_)
            refine cL rfl (o_assign (v := .int _ _) rfl ?_)
            refine eL ?_
            exact th_nrm (⟨(), (v15 + (1 : Int)), r1_2, hv, St.to_mk (φ := [some 0, some 1]) rfl (.inl rfl) ⟨Ren.int _ _, Ren.lst _ _ _, Ren.int _ _, Ren.int _ _, Ren.int _ _, Ren.ref rfl (fun h => rfl), Ren.int _ _, Ren.ref rfl (fun h => rfl), Ren.int _ _, trivial⟩ ⟨.inr ⟨_, rfl, rfl, rfl, rfl, Rens.enc (encSl eInt) false r0⟩, .inr ⟨_, rfl, rfl, rfl, rfl, Rens.enc encInt false r1_2⟩, trivial⟩⟩)
          · clear hj
            refine W.block ?_
            refine W.rD [0, 1, 2, 3, 4, 5, 6, 7, 8, 9, 10, 11, 12, 13, 14, 15, 16, 17, 18] (by decide +kernel) rfl ?_
            refine cL rfl (o_move (v := .lst _ _ _) rfl ?_)
            refine cL rfl (o_move (v := .int _ _) rfl ?_)
            obtain ⟨s2661, hv⟩ := hv
            refine cL rfl (o_iaL tt22 tt25 rfl rfl (enc25.wd true) rfl s2661 ?_)
            intro rest2661
            refine cL rfl (o_faP tt25 rfl tt3 rfl ?_)
            refine cL rfl (o_ldS (v := .int _ _) tt3 rfl rfl ⟨_, rfl⟩ ?_)
            refine cL rfl (o_move (v := .ref _ _ _) rfl ?_)
            refine cL rfl (o_move (v := .int _ _) rfl ?_)
            obtain ⟨s2662, hv⟩ := hv
            refine cL rfl (o_sub rfl rfl s2662 ?_)
            obtain ⟨s2663, hv⟩ := hv
            refine cL rfl (o_iaR tt32 tt35 rfl rfl s2663 ?_)
            refine cL rfl (o_ldS (v := .lst _ _ _) tt35 rfl rfl (cell_of (ca_row (xs := r0) rfl ((encSl eInt).wd false) s2663) rfl) ?_)
            refine cL rfl (o_move (v := .lst _ _ _) rfl ?_)
            refine cL rfl (o_move (v := .int _ _) rfl ?_)
            obtain ⟨s2664, hv⟩ := hv
            refine cL rfl (o_iaL tt22 tt25 rfl rfl (enc25.wd true) rfl s2664 ?_)
            intro rest2664
            refine cL rfl (o_faP tt25 rfl tt3 rfl ?_)
            refine cL rfl (o_ldS (v := .int _ _) tt3 rfl rfl ⟨_, rfl⟩ ?_)
            obtain ⟨s2665, hv⟩ := hv
            refine cL rfl (o_iaL tt35 tt3 rfl rfl (encInt.wd true) rfl s2665 ?_)
            intro rest2665
            refine cL rfl (o_ldS (v := .int _ _) tt3 rfl rfl ⟨_, rfl⟩ ?_)
            obtain ⟨s2666, hv⟩ := hv
            refine cL rfl (o_callP1 (k := 48) (fst := []) (caps := []) (ys := [.int _ _, .int _ _]) rfl rfl (spec_rsum ((lat l v15).m) (lat (lat r0 (v12 - (1 : Int))) ((lat l v15).t)) s2666) (Wks.cons (ag_int _ _ _ _) (Wks.cons (ag_int _ _ _ _) (Wks.refl _))) ?_)
            refine cL rfl (o_assign (v := .int _ _) rfl ?_)
            refine eL ?_
            refine W.tr [(0, .int _ _), (1, .lst _ _ _), (2, .int _ _), (3, .int _ _), (4, .int _ _), (11, .ref _ _ _), (12, .int _ _), (13, .ref _ _ _), (15, .int _ _), (16, .int _ _)] [.row _ _ _, .row _ _ _] ⟨rfl, rfl, rfl, rfl, rfl, rfl, rfl, rfl, rfl, rfl, trivial⟩ rfl ?_
            obtain ⟨sd, hv⟩ := hv
            refine W.rLm ⟨108, look [(0, .int .i64 n), (1, .lst true l.length (encL e25 l)), (2, .int .i64 above), (3, .int .i64 to), (4, .int .i64 most), (11, .ref true 0 r0.length), (12, .int .i64 v12), (13, .ref true 1 r1_1.length), (15, .int .i64 v15), (16, .int .i64 (plusM ((lat l v15).m) (lat (lat r0 (v12 - (1 : Int))) ((lat l v15).t)))), (94, .bool (decide ((¬ plusM ((lat l v15).m) (lat (lat r0 (v12 - (1 : Int))) ((lat l v15).t)) = (1152921504606846976 : Int)) ∧ ((lat r1_1 ((lat l v15).f) = (1152921504606846976 : Int)) ∨ ((plusM ((lat l v15).m) (lat (lat r0 (v12 - (1 : Int))) ((lat l v15).t))) < (lat r1_1 ((lat l v15).f)))))))], [.row 35 1 (encL (eSl eInt false) r0), .row 3 1 (encL eInt r1_1)], false⟩ ?_ ?_
            · refine cL rfl (o_move (v := .int _ _) rfl ?_)
              refine cL rfl (o_neI rfl rfl rfl ?_)
              refine cL rfl (o_move (v := .bool _) rfl ?_)
              by_cases c1 : ¬ plusM ((lat l v15).m) (lat (lat r0 (v12 - (1 : Int))) ((lat l v15).t)) = (1152921504606846976 : Int)
              · have sd := sd.1 c1
                refine cLg rfl rfl (decide_eq_true c1) ?_
                refine cL rfl (o_move (v := .ref _ _ _) rfl ?_)
                refine cLg rfl rfl (decide_eq_true c1) ?_
                refine cL rfl (o_move (v := .lst _ _ _) rfl ?_)
                refine cLg rfl rfl (decide_eq_true c1) ?_
                refine cL rfl (o_move (v := .int _ _) rfl ?_)
                refine cLg rfl rfl (decide_eq_true c1) ?_
                obtain ⟨s2671, sd⟩ := sd
                refine cL rfl (o_iaL tt22 tt25 rfl rfl (enc25.wd true) rfl s2671 ?_)
                intro rest2671
                refine cLg rfl rfl (decide_eq_true c1) ?_
                refine cL rfl (o_faP tt25 rfl tt3 rfl ?_)
                refine cLg rfl rfl (decide_eq_true c1) ?_
                refine cL rfl (o_ldS (v := .int _ _) tt3 rfl rfl ⟨_, rfl⟩ ?_)
                refine cLg rfl rfl (decide_eq_true c1) ?_
                obtain ⟨s2672, sd⟩ := sd
                refine cL rfl (o_iaR tt35 tt3 rfl rfl s2672 ?_)
                refine cLg rfl rfl (decide_eq_true c1) ?_
                refine cL rfl (o_ldS (v := .int _ _) tt3 rfl rfl (cell_of (ca_row (xs := r1_1) rfl (encInt.wd false) s2672) rfl) ?_)
                refine cLg rfl rfl (decide_eq_true c1) ?_
                refine cL rfl (o_eqI rfl rfl rfl ?_)
                refine cLg rfl rfl (decide_eq_true c1) ?_
                refine cL rfl (o_move (v := .bool _) rfl ?_)
                by_cases c2 : lat r1_1 ((lat l v15).f) = (1152921504606846976 : Int)
                · refine cLs rfl rfl rfl (decide_eq_true c2) ?_
                  refine cLs rfl rfl rfl (decide_eq_true c2) ?_
                  refine cLs rfl rfl rfl (decide_eq_true c2) ?_
                  refine cLs rfl rfl rfl (decide_eq_true c2) ?_
                  refine cLs rfl rfl rfl (decide_eq_true c2) ?_
                  refine cLs rfl rfl rfl (decide_eq_true c2) ?_
                  refine cLs rfl rfl rfl (decide_eq_true c2) ?_
                  refine cLs rfl rfl rfl (decide_eq_true c2) ?_
                  refine cLs rfl rfl rfl (decide_eq_true c2) ?_
                  refine cLs rfl rfl rfl (decide_eq_true c2) ?_
                  refine cLg rfl rfl (decide_eq_true c1) ?_
                  refine cL rfl (o_pickT (v := .bool _) rfl (decide_eq_true c2) rfl ?_)
                  refine cL rfl (o_pickT (v := .bool _) rfl (decide_eq_true c1) rfl ?_)
                  refine eL ?_
                  exact le_mk ⟨rfl, rfl, rfl, rfl, rfl, rfl, rfl, rfl, rfl, rfl, (congrArg AV.bool (dAndT c1 (dOrT c2))).symm, trivial⟩ rfl
                · have sd := sd.2 c2
                  refine cLg rfl rfl (decide_eq_false c2) ?_
                  refine cL rfl (o_move (v := .int _ _) rfl ?_)
                  refine cLg rfl rfl (decide_eq_false c2) ?_
                  refine cL rfl (o_move (v := .ref _ _ _) rfl ?_)
                  refine cLg rfl rfl (decide_eq_false c2) ?_
                  refine cL rfl (o_move (v := .lst _ _ _) rfl ?_)
                  refine cLg rfl rfl (decide_eq_false c2) ?_
                  refine cL rfl (o_move (v := .int _ _) rfl ?_)
                  refine cLg rfl rfl (decide_eq_false c2) ?_
                  obtain ⟨s2673, sd⟩ := sd
                  refine cL rfl (o_iaL tt22 tt25 rfl rfl (enc25.wd true) rfl s2673 ?_)
                  intro rest2673
                  refine cLg rfl rfl (decide_eq_false c2) ?_
                  refine cL rfl (o_faP tt25 rfl tt3 rfl ?_)
                  refine cLg rfl rfl (decide_eq_false c2) ?_
                  refine cL rfl (o_ldS (v := .int _ _) tt3 rfl rfl ⟨_, rfl⟩ ?_)
                  refine cLg rfl rfl (decide_eq_false c2) ?_
                  obtain ⟨s2674, sd⟩ := sd
                  refine cL rfl (o_iaR tt35 tt3 rfl rfl s2674 ?_)
                  refine cLg rfl rfl (decide_eq_false c2) ?_
                  refine cL rfl (o_ldS (v := .int _ _) tt3 rfl rfl (cell_of (ca_row (xs := r1_1) rfl (encInt.wd false) s2674) rfl) ?_)
                  refine cLg rfl rfl (decide_eq_false c2) ?_
                  refine cL rfl (o_lss rfl rfl ?_)
                  refine cLg rfl rfl (decide_eq_true c1) ?_
                  refine cL rfl (o_pickF (v := .bool _) rfl (decide_eq_false c2) rfl ?_)
                  refine cL rfl (o_pickT (v := .bool _) rfl (decide_eq_true c1) rfl ?_)
                  refine eL ?_
                  exact le_mk ⟨rfl, rfl, rfl, rfl, rfl, rfl, rfl, rfl, rfl, rfl, (congrArg AV.bool (dAndT c1 (dOrF c2 (rfl)))).symm, trivial⟩ rfl
              · refine cLs rfl rfl rfl (decide_eq_false c1) ?_
                refine cLs rfl rfl rfl (decide_eq_false c1) ?_
                refine cLs rfl rfl rfl (decide_eq_false c1) ?_
                refine cLs rfl rfl rfl (decide_eq_false c1) ?_
                refine cLs rfl rfl rfl (decide_eq_false c1) ?_
                refine cLs rfl rfl rfl (decide_eq_false c1) ?_
                refine cLs rfl rfl rfl (decide_eq_false c1) ?_
                refine cLs rfl rfl rfl (decide_eq_false c1) ?_
                refine cLs rfl rfl rfl (decide_eq_false c1) ?_
                refine cLs rfl rfl rfl (decide_eq_false c1) ?_
                refine cLu rfl rfl rfl ?_
                refine cLu rfl rfl rfl ?_
                refine cLu rfl rfl rfl ?_
                refine cLu rfl rfl rfl ?_
                refine cLu rfl rfl rfl ?_
                refine cLu rfl rfl rfl ?_
                refine cLu rfl rfl rfl ?_
                refine cLu rfl rfl rfl ?_
                refine cLu rfl rfl rfl ?_
                refine cLu rfl rfl rfl ?_
                refine cLs rfl rfl rfl (decide_eq_false c1) ?_
                refine cL rfl (o_pickF (v := .bool _) rfl (decide_eq_false c1) rfl ?_)
                refine eL ?_
                exact le_mk ⟨rfl, rfl, rfl, rfl, rfl, rfl, rfl, rfl, rfl, rfl, (congrArg AV.bool (dAndF c1)).symm, trivial⟩ rfl
            · refine W.cn rfl (fun hc => ?_) (fun hc => ?_)
              · have hv := hv.1 hc
                refine W.rL1 ?_
                refine cL rfl (o_move (v := .ref _ _ _) rfl ?_)
                refine cL rfl (o_move (v := .lst _ _ _) rfl ?_)
                refine cL rfl (o_move (v := .int _ _) rfl ?_)
                obtain ⟨s2675, hv⟩ := hv
                refine cL rfl (o_iaL tt22 tt25 rfl rfl (enc25.wd true) rfl s2675 ?_)
                intro rest2675
                refine cL rfl (o_faP tt25 rfl tt3 rfl ?_)
                refine cL rfl (o_ldS (v := .int _ _) tt3 rfl rfl ⟨_, rfl⟩ ?_)
                refine cL rfl (o_move (v := .int _ _) rfl ?_)
                obtain ⟨s2676, hv⟩ := hv
                refine cL rfl (o_iaR tt35 tt3 rfl rfl s2676 ?_)
                refine cLn (o_stR (v := .int _ _) tt3 rfl rfl rfl rfl rfl (row_in (xs := r1_1) (encInt.wd false) s2676 rfl) (row_set (e := eInt) (encInt.wd false) _ _ (plusM ((lat l v15).m) (lat (lat r0 (v12 - (1 : Int))) ((lat l v15).t))) rfl s2676.1 s2676.2) ?_)
                refine eL ?_
                exact bl_nrm (th_nrm (⟨(), (r1_1.set ((lat l v15).f).toNat (plusM ((lat l v15).m) (lat (lat r0 (v12 - (1 : Int))) ((lat l v15).t)))), hv, St.to_mk (φ := [some 0, some 1]) rfl (.inl rfl) ⟨Ren.int _ _, Ren.lst _ _ _, Ren.int _ _, Ren.int _ _, Ren.int _ _, Ren.ref rfl (fun h => rfl), Ren.int _ _, Ren.refL rfl (fun h => rfl) (by simp), Ren.int _ _, trivial⟩ ⟨.inr ⟨_, rfl, rfl, rfl, rfl, Rens.enc (encSl eInt) false r0⟩, .inr ⟨_, rfl, rfl, rfl, rfl, Rens.enc encInt false (r1_1.set ((lat l v15).f).toNat (plusM ((lat l v15).m) (lat (lat r0 (v12 - (1 : Int))) ((lat l v15).t))))⟩, trivial⟩⟩))
              · have hv := hv.2 hc
                refine W.skip ?_
                exact bl_nrm (th_nrm (⟨(), r1_1, hv, St.to_mk (φ := [some 0, some 1]) rfl (.inl rfl) ⟨Ren.int _ _, Ren.lst _ _ _, Ren.int _ _, Ren.int _ _, Ren.int _ _, Ren.ref rfl (fun h => rfl), Ren.int _ _, Ren.ref rfl (fun h => rfl), Ren.int _ _, trivial⟩ ⟨.inr ⟨_, rfl, rfl, rfl, rfl, Rens.enc (encSl eInt) false r0⟩, .inr ⟨_, rfl, rfl, rfl, rfl, Rens.enc encInt false r1_1⟩, trivial⟩⟩))
        · have hv := hv.2 hc
          refine W.exit ?_
          refine th_exit (th_exit (bl_hit (th_nrm ?_)))
          refine W.tr [(0, .int _ _), (1, .lst _ _ _), (2, .int _ _), (3, .int _ _), (4, .int _ _), (11, .ref _ _ _), (12, .int _ _), (13, .ref _ _ _)] [.row _ _ _, .row _ _ _] ⟨rfl, rfl, rfl, rfl, rfl, rfl, rfl, rfl, trivial⟩ rfl ?_
          refine W.sealH false 1 (l := [(0, .int .i64 n), (1, .lst true l.length (encL e25 l)), (2, .int .i64 above), (3, .int .i64 to), (4, .int .i64 most), (11, .ref true 0 r0.length), (12, .int .i64 v12), (13, .lst false r1_1.length (encL eInt r1_1))]) rfl (encL_sl encInt false r1_1) ⟨.inl rfl, .inl rfl, .inl rfl, .inl rfl, .inl rfl, .inl rfl, .inl rfl, .inr ⟨_, _, rfl, (encL_length (encInt.wd false) _), rfl⟩, trivial⟩ rfl ?_
          refine W.rL1 ?_
          refine cL rfl (o_move (v := .ref _ _ _) rfl ?_)
          refine cL rfl (o_move (v := .lst _ _ _) rfl ?_)
          refine cL rfl (o_bs1 (v := .lst _ _ _) (q := 2) tt32 tt35 rfl rfl rfl rfl rfl rfl rfl rfl ?_)
          obtain ⟨s2677, hv⟩ := hv
          refine cL rfl (o_apR (p := 3) (q := (r0 ++ [r1_1]).length) tt32 tt35 rfl rfl (src_ref rfl rfl) rfl rfl (encL_length ((encSl eInt).wd false) _) (Nat.le_trans (Nat.le_of_eq (@List.length_append _ (r0) ([r1_1])).symm) s2677) rfl (@List.length_append _ (r0) ([r1_1])).symm (encL_app (eSl eInt false) r0 [r1_1]) ?_)
          refine cL rfl (o_assign (v := .ref _ _ _) rfl ?_)
          refine eL ?_
          refine bl_nrm (th_nrm ?_)
          refine W.tr [(0, .int _ _), (1, .lst _ _ _), (2, .int _ _), (3, .int _ _), (4, .int _ _), (11, .ref _ _ _), (12, .int _ _)] [.dead, .dead, .row _ _ _, .row _ _ _] ⟨rfl, rfl, rfl, rfl, rfl, rfl, rfl, trivial⟩ rfl ?_
          refine W.rL1 ?_
          refine cL rfl (o_move (v := .int _ _) rfl ?_)
          obtain ⟨s2678, hv⟩ := hv
          refine cL rfl (o_add rfl rfl s2678 ?_)
          refine cL rfl (o_assign (v := .int _ _) rfl ?_)
          refine eL ?_
          exact th_nrm (⟨(), (v12 + (1 : Int)), (r0 ++ [r1_1]), hv, St.to_mk (φ := [some 3]) rfl (.inl rfl) ⟨Ren.int _ _, Ren.lst _ _ _, Ren.int _ _, Ren.int _ _, Ren.int _ _, Ren.ref rfl (fun h => rfl), Ren.int _ _, trivial⟩ ⟨.inr ⟨_, rfl, rfl, rfl, rfl, Rens.enc (encSl eInt) false (r0 ++ [r1_1])⟩, trivial⟩⟩)
  · have hv := hv.2 hc
    refine W.exit ?_
    refine th_exit (th_exit (bl_hit (th_nrm ?_)))
    refine W.tr [(11, .ref _ _ _)] [.row _ _ _] ⟨rfl, trivial⟩ rfl ?_
    refine W.rL ?_
    refine cL rfl (o_move (v := .ref _ _ _) rfl ?_)
    refine cL rfl (o_assign (v := .ref _ _ _) rfl ?_)
    refine eL ?_
    refine W.tr [(10, .ref _ _ _)] [.row _ _ _] ⟨rfl, trivial⟩ rfl ?_
    refine W.ret ?_
    refine rt ?_
    refine rt_t (v := .ref _ _ _) rfl ?_
    refine rt_n ?_
    exact ⟨_, rs_ref (encSl eInt) 4 _ rfl rfl, r0, rfl, hv⟩
theorem vcp_least (n : Int) (l : (List Con)) (above : Int) (to : Int) (most : Int) (h0 : LeastOk n l above to most) : vc_least n l above to most (fun q0 => q0 = (leastM n l above to most)) := by
  unfold vc_least
  obtain ⟨hv, ha, ht, hk⟩ := h0
  have hnb := hNB
  have hg := validM_goodn hv
  obtain ⟨⟨hn1, hn2, hl2⟩, hp⟩ := validM_iff.mp hv
  obtain ⟨n, rfl⟩ : ∃ k : Nat, n = k := ⟨n.toNat, by omega⟩
  simp only [Int.toNat_natCast] at hg
  obtain ⟨a, haa⟩ : ∃ a : Nat, above + 1 = a := ⟨(above + 1).toNat, by omega⟩
  have hta : (above + 1).toNat = a := by omega
  have hR : ∀ r : Nat, tabD l to above (r + 1) = longerM l (tabD l to above r) above := fun r => rfl
  refine ⟨fun v r0 => ∃ r : Nat, v = r ∧ r ≤ most + 1 ∧ r0 = (List.range r).map fun q => rowL n (tabD l to above q), fun v _ => (most + 1).toNat - v.toNat, ⟨0, rfl, by omega, rfl⟩, ?_⟩
  rintro _ _ ⟨r, rfl, hr, rfl⟩
  refine ⟨fun k1 => ⟨fun v r1 => ∃ i : Nat, v = i ∧ i ≤ n ∧ r1 = (List.range i).map fun u => if r = 0 ∧ u = to.toNat then 0 else NB, fun v _ => n - v.toNat, ⟨0, rfl, by omega, rfl⟩, ?_⟩, fun k1 => ?_⟩
  · rintro _ _ ⟨i, rfl, hi, rfl⟩
    refine ⟨fun k2 => ⟨fun r3 => r3 = (List.range (i + 1)).map fun u => if r = 0 ∧ u = to.toNat then 0 else NB, fun r3 h3 => ⟨by unfold inI; omega, ⟨i + 1, by omega, by omega, h3⟩, by first | omega | (dsimp only; omega)⟩, fun k3 => ⟨by simp; omega, ?_⟩, fun k3 => ⟨by simp; omega, ?_⟩⟩, fun k2 => ?_⟩
    · rw [List.range_succ, List.map_append]
      simp only [List.map_cons, List.map_nil]
      rw [if_pos (by omega)]
    · rw [List.range_succ, List.map_append]
      simp only [List.map_cons, List.map_nil]
      rw [if_neg (by omega)]
    have hin : i = n := by omega
    subst hin
    rw [haa]
    refine ⟨by unfold inI; omega, fun v r1 => ∃ j : Nat, v = j ∧ a ≤ j ∧ j ≤ l.length ∧ (r = 0 → r1 = rowL i (tabD l to above 0)) ∧ ∀ q, r = q + 1 → r1 = rowL i (partR l a (tabD l to above q) j), fun v _ => l.length - v.toNat, ⟨a, rfl, Nat.le_refl _, by omega, fun e => ?_, fun q e => ?_⟩, ?_⟩
    · unfold rowL
      refine List.map_congr_left fun u hu => ?_
      have := List.mem_range.mp hu
      show _ = vat (vset _ _ _) _
      rw [vat_vset (by omega), vat_rep (by omega)]
      simp [e]
    · unfold rowL
      refine List.map_congr_left fun u hu => ?_
      have := List.mem_range.mp hu
      rw [partR_start, vat_rep (by omega), if_neg (by omega)]
    rintro _ r1 ⟨j, rfl, hj1, hj2, hz, hs⟩
    refine ⟨fun k3 => ?_, fun k3 => ?_⟩
    · obtain ⟨q, rfl⟩ : ∃ q, r = q + 1 := ⟨r - 1, by omega⟩
      have hs := hs q rfl
      subst hs
      have hc := possM_iff.mp (hp _ (lat_mem (xs := l) (i := (j : Int)) ⟨by omega, by omega⟩))
      have hq : (((q + 1 : Nat) : Int) - 1) = (q : Int) := by omega
      have hro : lat ((List.range (q + 1)).map fun q => rowL i (tabD l to above q)) (q : Int) = rowL i (tabD l to above q) := by
        rw [lat_nat]; simp [List.getD_eq_getElem?_getD]
      rw [hq, hro, lat_rowL (v := (lat l j).t) (by omega)]
      have hfin := tab_fin (by omega) hg (v := to) ht (above := above) (r := q) (u := (lat l j).t.toNat) (by omega) (by omega)
      have hpf := plus_fin (c := lat l j) (by omega) hfin
      have hle := partR_le (by omega) hg (a := a) (i := j) (d := tabD l to above q) (lat l j).f.toNat (by omega)
      have hst := partR_step (d := tabD l to above q) hj1 (i := j) (l := l) (by omega)
      simp only [lat_rowL (o := partR l a (tabD l to above q) j) (v := (lat l j).f) (n := i) (by omega)]
      have hlr : (rowL i (partR l a (tabD l to above q) j)).length = i := rowL_len
      have hlt : (rowL i (tabD l to above q)).length = i := rowL_len
      refine ⟨fun r3 => r3 = rowL i (partR l a (tabD l to above q) (j + 1)), fun r3 h3 => ⟨by unfold inI; omega, ⟨j + 1, by omega, by omega, by omega, fun e => by omega, fun q' e => ?_⟩, by first | omega | (dsimp only; omega)⟩, by omega, by unfold inI; omega, by simp; omega, by omega, by omega, fun h5 h6 => by unfold inI; omega, ⟨fun _ => ⟨by omega, by omega, fun _ => trivial, fun _ => ⟨by omega, by omega, trivial⟩⟩, fun _ => trivial⟩, fun k4 => ⟨by omega, by omega, ?_⟩, fun k4 => ?_⟩
      · obtain rfl : q = q' := by omega
        exact h3
      · rw [set_row (by omega) (by omega), hst, relStep_set (by omega) hle k4]
      · rw [hst, relStep_keep (by omega) hle k4]
    · have key : r1 = rowL i (tabD l to above r) := by
        rcases r with _ | q
        · exact hz rfl
        · rw [hs q rfl, hR, ← partR_end (i := j) (by omega), hta]
      refine ⟨by simp; omega, by unfold inI; omega, ⟨r + 1, by omega, by omega, ?_⟩, by first | omega | (dsimp only; omega)⟩
      rw [key, List.range_succ, List.map_append]; rfl
  · have : r = most.toNat + 1 := by omega
    subst this
    rfl
theorem spec_least (n : Int) (l : (List Con)) (above : Int) (to : Int) (most : Int) (h0 : LeastOk n l above to most) : FnP Try.prog 56 [.int .i64 n, .lst true l.length (encL e25 l), .int .i64 above, .int .i64 to, .int .i64 most] (fun xR => xR = .lst false (leastM n l above to most).length (encL (eSl eInt true) (leastM n l above to most))) :=
  (walk_least (vcp_least n l above to most h0)).mono (by rintro _ ⟨_, rfl, rfl⟩; rfl)
end Go.Lat
