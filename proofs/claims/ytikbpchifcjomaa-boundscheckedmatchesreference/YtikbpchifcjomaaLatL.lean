/- The law latecomerlaw07.BoundsCheckedMatchesReference returns true for every input, and each argument reads afterwards as it read before. Part 12 of 13. No condition. -/
import Derived.Test.YtikbpchifcjomaaLatE
import Derived.Test.YtikbpchifcjomaaLatF
import Derived.Test.YtikbpchifcjomaaLatG
import Derived.Test.YtikbpchifcjomaaLatH
import Derived.Test.YtikbpchifcjomaaLatI
import Derived.Test.YtikbpchifcjomaaLatJ
import Derived.Test.YtikbpchifcjomaaLatK
set_option linter.unusedVariables false
set_option linter.unusedSimpArgs false
set_option linter.unnecessarySimpa false
namespace Go.Lat
open Go.RowKit Go.Proofs
attribute [local irreducible] closeM rangeM pointM addBM cycleM holdsM validBM sameM madeM pickM plusM validM possM firstM tableM longerM boundsM ofM addM freeM
/-- What the walk through latecomerlaw07.BoundsCheckedMatchesReference asks. -/
def vc_CheckedMatchesReference (raw : (List Con)) (n : Int) (x : (List A3)) (values : (List Int)) (c : (List Int)) (Post : Bool → Prop) : Prop :=
  ((¬ true = true) → Post false) ∧ (¬ (¬ true = true) → (0 ≤ ((0 : Nat) : Int) ∧ ((0 : Nat) : Int) ≤ (min ((values.length : Nat) : Int) (25 : Int)) ∧ (min ((values.length : Nat) : Int) (25 : Int)) ≤ (values.length : Int)) ∧ (inI n) ∧ (1 ≤ (6 : Int)) ∧ (inI ((1 : Int) + (pickM n (6 : Int)))) ∧ (1 ≤ ((1 : Int) + (pickM n (6 : Int)))) ∧ (((1 : Int) + (pickM n (6 : Int))) ≤ 1000) ∧ (∀ y ∈ x, inI y.x0 ∧ inI y.x1 ∧ inI y.x2) ∧ ∃ (I1 : Int → List Int → Prop) (μ1 : Int → List Int → Nat), I1 (0 : Int) [] ∧ ∀ (v16 : Int) (r0 : List Int), I1 v16 r0 → ((v16 < ((1 : Int) + (pickM n (6 : Int)))) → ∃ J2 : Int → Prop, (∀ (v17 : Int), J2 v17 → ((r0 ++ [v17]).length ≤ 1073741824) ∧ (inI (v16 + (1 : Int))) ∧ (I1 (v16 + (1 : Int)) (r0 ++ [v17]) ∧ μ1 (v16 + (1 : Int)) (r0 ++ [v17]) < μ1 v16 r0)) ∧ (((v16 < (((values.take (min ((values.length : Nat) : Int) (25 : Int)).toNat).length : Nat) : Int)) → (0 ≤ v16 ∧ v16 < ((values.take (min ((values.length : Nat) : Int) (25 : Int)).toNat).length : Int)) ∧ (inI (lat (values.take (min ((values.length : Nat) : Int) (25 : Int)).toNat) v16)) ∧ (1 ≤ (12 : Int)) ∧ J2 (pickM (lat (values.take (min ((values.length : Nat) : Int) (25 : Int)).toNat) v16) (12 : Int))) ∧ (¬ (v16 < (((values.take (min ((values.length : Nat) : Int) (25 : Int)).toNat).length : Nat) : Int)) → J2 (0 : Int)))) ∧ (¬ (v16 < ((1 : Int) + (pickM n (6 : Int)))) → ∃ (I3 : Int → List Int → Prop) (μ3 : Int → List Int → Nat), I3 (0 : Int) [] ∧ ∀ (v18 : Int) (r1 : List Int), I3 v18 r1 → (((v18 < ((c.length : Nat) : Int)) ∧ ((v18 < (25 : Int)) ∧ ((0 : Int) < (((madeM ((1 : Int) + (pickM n (6 : Int))) x).length : Nat) : Int)))) → (0 ≤ v18 ∧ v18 < (c.length : Int)) ∧ (inI (lat c v18)) ∧ (1 ≤ (((madeM ((1 : Int) + (pickM n (6 : Int))) x).length : Nat) : Int)) ∧ ((r1 ++ [pickM (lat c v18) (((madeM ((1 : Int) + (pickM n (6 : Int))) x).length : Nat) : Int)]).length ≤ 1073741824) ∧ (inI (v18 + (1 : Int))) ∧ (I3 (v18 + (1 : Int)) (r1 ++ [pickM (lat c v18) (((madeM ((1 : Int) + (pickM n (6 : Int))) x).length : Nat) : Int)]) ∧ μ3 (v18 + (1 : Int)) (r1 ++ [pickM (lat c v18) (((madeM ((1 : Int) + (pickM n (6 : Int))) x).length : Nat) : Int)]) < μ3 v18 r1)) ∧ (¬ ((v18 < ((c.length : Nat) : Int)) ∧ ((v18 < (25 : Int)) ∧ ((0 : Int) < (((madeM ((1 : Int) + (pickM n (6 : Int))) x).length : Nat) : Int)))) → ∃ (I4 : Int → Prop) (μ4 : Int → Nat), I4 (0 : Int) ∧ ∀ (v86 : Int), I4 v86 → ((v86 < ((2 : Nat) : Int)) → (0 ≤ v86 ∧ v86 < (([raw.take 40, madeM ((1 : Int) + (pickM n (6 : Int))) x].length : Nat) : Int)) ∧ ∃ (I5 : Int → Prop) (μ5 : Int → Nat), I5 (0 : Int) ∧ ∀ (v94 : Int), I5 v94 → ((v94 < ((2 : Nat) : Int)) → (0 ≤ v94 ∧ v94 < (([values.take (min ((values.length : Nat) : Int) (25 : Int)).toNat, r0].length : Nat) : Int)) ∧ ((lat [raw.take 40, madeM ((1 : Int) + (pickM n (6 : Int))) x] v86).length ≤ 1073741824) ∧ ((lat [values.take (min ((values.length : Nat) : Int) (25 : Int)).toNat, r0] v94).length ≤ 1073741824) ∧ ((lat [raw.take 40, madeM ((1 : Int) + (pickM n (6 : Int))) x] v86).length ≤ 1073741824) ∧ ((lat [values.take (min ((values.length : Nat) : Int) (25 : Int)).toNat, r0] v94).length ≤ 1073741824) ∧ ((¬ (holdsM (lat [raw.take 40, madeM ((1 : Int) + (pickM n (6 : Int))) x] v86) (lat [values.take (min ((values.length : Nat) : Int) (25 : Int)).toNat, r0] v94)) = (holdsM (lat [raw.take 40, madeM ((1 : Int) + (pickM n (6 : Int))) x] v86) (lat [values.take (min ((values.length : Nat) : Int) (25 : Int)).toNat, r0] v94))) → Post false) ∧ (¬ (¬ (holdsM (lat [raw.take 40, madeM ((1 : Int) + (pickM n (6 : Int))) x] v86) (lat [values.take (min ((values.length : Nat) : Int) (25 : Int)).toNat, r0] v94)) = (holdsM (lat [raw.take 40, madeM ((1 : Int) + (pickM n (6 : Int))) x] v86) (lat [values.take (min ((values.length : Nat) : Int) (25 : Int)).toNat, r0] v94))) → (inI (v94 + (1 : Int))) ∧ (I5 (v94 + (1 : Int)) ∧ μ5 (v94 + (1 : Int)) < μ5 v94))) ∧ (¬ (v94 < ((2 : Nat) : Int)) → (0 ≤ ((0 : Nat) : Int) ∧ ((0 : Nat) : Int) ≤ (min ((c.length : Nat) : Int) (25 : Int)) ∧ (min ((c.length : Nat) : Int) (25 : Int)) ≤ (c.length : Int)) ∧ (FirstOk ((1 : Int) + (pickM n (6 : Int))) (madeM ((1 : Int) + (pickM n (6 : Int))) x)) ∧ ∃ (I6 : Int → Prop) (μ6 : Int → Nat), I6 (0 : Int) ∧ ∀ (v117 : Int), I6 v117 → ((v117 < ((3 : Nat) : Int)) → (0 ≤ v117 ∧ v117 < (([c.take (min ((c.length : Nat) : Int) (25 : Int)).toNat, r1, rfirstM ((1 : Int) + (pickM n (6 : Int))) (madeM ((1 : Int) + (pickM n (6 : Int))) x)].length : Nat) : Int)) ∧ ((lat [raw.take 40, madeM ((1 : Int) + (pickM n (6 : Int))) x] v86).length ≤ 1073741824) ∧ ((lat [c.take (min ((c.length : Nat) : Int) (25 : Int)).toNat, r1, rfirstM ((1 : Int) + (pickM n (6 : Int))) (madeM ((1 : Int) + (pickM n (6 : Int))) x)] v117).length ≤ 1073741824) ∧ ((lat [raw.take 40, madeM ((1 : Int) + (pickM n (6 : Int))) x] v86).length ≤ 1073741824) ∧ ((lat [c.take (min ((c.length : Nat) : Int) (25 : Int)).toNat, r1, rfirstM ((1 : Int) + (pickM n (6 : Int))) (madeM ((1 : Int) + (pickM n (6 : Int))) x)] v117).length ≤ 1073741824) ∧ ((¬ (cycleM (lat [raw.take 40, madeM ((1 : Int) + (pickM n (6 : Int))) x] v86) (lat [c.take (min ((c.length : Nat) : Int) (25 : Int)).toNat, r1, rfirstM ((1 : Int) + (pickM n (6 : Int))) (madeM ((1 : Int) + (pickM n (6 : Int))) x)] v117)) = (cycleM (lat [raw.take 40, madeM ((1 : Int) + (pickM n (6 : Int))) x] v86) (lat [c.take (min ((c.length : Nat) : Int) (25 : Int)).toNat, r1, rfirstM ((1 : Int) + (pickM n (6 : Int))) (madeM ((1 : Int) + (pickM n (6 : Int))) x)] v117))) → Post false) ∧ (¬ (¬ (cycleM (lat [raw.take 40, madeM ((1 : Int) + (pickM n (6 : Int))) x] v86) (lat [c.take (min ((c.length : Nat) : Int) (25 : Int)).toNat, r1, rfirstM ((1 : Int) + (pickM n (6 : Int))) (madeM ((1 : Int) + (pickM n (6 : Int))) x)] v117)) = (cycleM (lat [raw.take 40, madeM ((1 : Int) + (pickM n (6 : Int))) x] v86) (lat [c.take (min ((c.length : Nat) : Int) (25 : Int)).toNat, r1, rfirstM ((1 : Int) + (pickM n (6 : Int))) (madeM ((1 : Int) + (pickM n (6 : Int))) x)] v117))) → (inI (v117 + (1 : Int))) ∧ (I6 (v117 + (1 : Int)) ∧ μ6 (v117 + (1 : Int)) < μ6 v117))) ∧ (¬ (v117 < ((3 : Nat) : Int)) → (inI (v86 + (1 : Int))) ∧ (I4 (v86 + (1 : Int)) ∧ μ4 (v86 + (1 : Int)) < μ4 v86)))) ∧ (¬ (v86 < ((2 : Nat) : Int)) → Post true))))
set_option maxRecDepth 100000 in
set_option maxHeartbeats 4000000 in
theorem walk_CheckedMatchesReference {raw : (List Con)} {n : Int} {x : (List A3)} {values : (List Int)} {c : (List Int)} {Post : Bool → Prop} (hv : vc_CheckedMatchesReference raw n x values c Post) : FnP Try.prog 4 [.lst true raw.length (encL e25 raw), .int .i64 n, .lst true x.length (encL e26 x), .lst true values.length (encL eInt values), .lst true c.length (encL eInt c)] (fun x => ∃ q0, x = .bool q0 ∧ Post q0) := by
  refine FnP.of_walk (T := tt) (nt := 130) ttOk ttMix ⟨⟨Try.f4, Try.func4, rfl, rfl, rfl, rfl⟩⟩ (by simp) ?_
  unfold vc_CheckedMatchesReference at hv
  change W _ _ _ ⟨130, look [(0, .lst true raw.length (encL e25 raw)), (1, .int .i64 n), (2, .lst true x.length (encL e26 x)), (3, .lst true values.length (encL eInt values)), (4, .lst true c.length (encL eInt c))], [], false⟩ _
  refine W.tr [(0, .lst _ _ _), (1, .int _ _), (2, .lst _ _ _), (3, .lst _ _ _), (4, .lst _ _ _)] [] ⟨rfl, rfl, rfl, rfl, rfl, trivial⟩ rfl ?_
  refine W.rL ?_
  refine cL rfl (o_assign (v := .bool _) rfl ?_)
  refine eL ?_
  refine W.tr [(0, .lst _ _ _), (1, .int _ _), (2, .lst _ _ _), (3, .lst _ _ _), (4, .lst _ _ _)] [] ⟨rfl, rfl, rfl, rfl, rfl, trivial⟩ rfl ?_
  refine W.seq' ?_
  refine W.rL ?_
  refine cL rfl (o_callP1 (k := 11) (fst := []) (caps := []) (ys := []) rfl rfl (spec_sane) (Wks.refl _) ?_)
  refine cL rfl (o_notB rfl ?_)
  refine eL ?_
  refine W.tr [(0, .lst _ _ _), (1, .int _ _), (2, .lst _ _ _), (3, .lst _ _ _), (4, .lst _ _ _), (26, .bool _)] [] ⟨rfl, rfl, rfl, rfl, rfl, rfl, trivial⟩ rfl ?_
  refine W.cn rfl (fun hc => ?_) (fun hc => ?_)
  · have hv := hv.1 hc
    refine W.rL ?_
    refine cL rfl (o_assign (v := .bool _) rfl ?_)
    refine eL ?_
    refine W.tr [(10, .bool _)] [] ⟨rfl, trivial⟩ rfl ?_
    refine W.ret ?_
    refine th_ret (rt ?_)
    refine rt_t (v := .bool _) rfl ?_
    refine rt_n ?_
    exact ⟨_, rs_bool _ _ _, false, rfl, hv⟩
  · have hv := hv.2 hc
    refine W.skip ?_
    refine th_nrm ?_
    refine W.tr [(0, .lst _ _ _), (1, .int _ _), (2, .lst _ _ _), (3, .lst _ _ _), (4, .lst _ _ _)] [] ⟨rfl, rfl, rfl, rfl, rfl, trivial⟩ rfl ?_
    refine W.rL ?_
    refine cL rfl (o_move (v := .lst _ _ _) rfl ?_)
    refine cL rfl (o_move (v := .lst _ _ _) rfl ?_)
    refine cL rfl (o_len (v := .lst _ _ _) tt35 rfl rfl ?_)
    refine cL rfl (o_min rfl rfl ?_)
    obtain ⟨s1, hv⟩ := hv
    refine cL rfl (o_slL tt35 tt3 rfl (encInt.wd true) rfl rfl rfl s1 (ys := values.take (min ((values.length : Nat) : Int) (25 : Int)).toNat) (by simp) ?_)
    refine cL rfl (o_assign (v := .lst _ _ _) rfl ?_)
    refine eL ?_
    refine W.tr [(0, .lst _ _ _), (1, .int _ _), (2, .lst _ _ _), (4, .lst _ _ _), (11, .lst _ _ _)] [] ⟨rfl, rfl, rfl, rfl, rfl, trivial⟩ rfl ?_
    refine W.rL ?_
    refine cL rfl (o_move (v := .int _ _) rfl ?_)
    obtain ⟨s2, hv⟩ := hv
    obtain ⟨s3, hv⟩ := hv
    refine cL rfl (o_callP1 (k := 12) (fst := []) (caps := []) (ys := [.int _ _, .int _ _]) rfl rfl (spec_pick n (6 : Int) s2 s3) (Wks.cons (ag_int _ _ _ _) (Wks.cons (ag_int _ _ _ _) (Wks.refl _))) ?_)
    obtain ⟨s4, hv⟩ := hv
    refine cL rfl (o_add rfl rfl s4 ?_)
    refine cL rfl (o_assign (v := .int _ _) rfl ?_)
    refine eL ?_
    refine W.tr [(0, .lst _ _ _), (2, .lst _ _ _), (4, .lst _ _ _), (11, .lst _ _ _), (12, .int _ _)] [] ⟨rfl, rfl, rfl, rfl, rfl, trivial⟩ rfl ?_
    refine W.rL ?_
    refine cL rfl (o_assign (v := .nilS) rfl ?_)
    refine eL ?_
    refine W.tr [(0, .lst _ _ _), (2, .lst _ _ _), (4, .lst _ _ _), (11, .lst _ _ _), (12, .int _ _), (13, .nilS)] [] ⟨rfl, rfl, rfl, rfl, rfl, rfl, trivial⟩ rfl ?_
    refine W.rL ?_
    refine cL rfl (o_assign (v := .nilS) rfl ?_)
    refine eL ?_
    refine W.tr [(0, .lst _ _ _), (2, .lst _ _ _), (4, .lst _ _ _), (11, .lst _ _ _), (12, .int _ _), (13, .nilS), (14, .nilS)] [] ⟨rfl, rfl, rfl, rfl, rfl, rfl, rfl, trivial⟩ rfl ?_
    refine W.rL ?_
    refine cL rfl (o_move (v := .int _ _) rfl ?_)
    refine cL rfl (o_move (v := .lst _ _ _) rfl ?_)
    obtain ⟨s5, hv⟩ := hv
    obtain ⟨s6, hv⟩ := hv
    obtain ⟨s7, hv⟩ := hv
    refine cL rfl (o_callP1 (k := 14) (fst := []) (caps := []) (ys := [.int _ _, .lst _ _ _]) rfl rfl (spec_made ((1 : Int) + (pickM n (6 : Int))) x s5 s6 s7) (Wks.cons (ag_int _ _ _ _) (Wks.cons (ag_lst _ _ _ _ _) (Wks.refl _))) ?_)
    refine cL rfl (o_assign (v := .lst _ _ _) rfl ?_)
    refine eL ?_
    refine W.tr [(0, .lst _ _ _), (4, .lst _ _ _), (11, .lst _ _ _), (12, .int _ _), (13, .nilS), (14, .nilS), (15, .lst _ _ _)] [] ⟨rfl, rfl, rfl, rfl, rfl, rfl, rfl, trivial⟩ rfl ?_
    refine W.seq' ?_
    refine W.rL ?_
    refine cL rfl (o_assign (v := .int _ _) rfl ?_)
    refine eL ?_
    refine W.tr [(0, .lst _ _ _), (4, .lst _ _ _), (11, .lst _ _ _), (12, .int _ _), (13, .nilS), (14, .nilS), (15, .lst _ _ _), (16, .int _ _)] [] ⟨rfl, rfl, rfl, rfl, rfl, rfl, rfl, rfl, trivial⟩ rfl ?_
    refine W.block ?_
    obtain ⟨I1, μ1, hp, hv⟩ := hv
    refine W.loop2 (fun v16 r0 => ⟨130, look [(0, .lst true raw.length (encL e25 raw)), (4, .lst true c.length (encL eInt c)), (11, .lst true (values.take (min ((values.length : Nat) : Int) (25 : Int)).toNat).length (encL eInt (values.take (min ((values.length : Nat) : Int) (25 : Int)).toNat))), (12, .int .i64 ((1 : Int) + (pickM n (6 : Int)))), (13, .ref true 0 r0.length), (14, .nilS), (15, .lst false (madeM ((1 : Int) + (pickM n (6 : Int))) x).length (encL e25 (madeM ((1 : Int) + (pickM n (6 : Int))) x))), (16, .int .i64 v16)], [.row 3 1 (encL eInt r0)], false⟩) I1 μ1 (0 : Int) [] (St.to_mk (φ := [none]) rfl (.inl rfl) ⟨Ren.lst _ _ _, Ren.lst _ _ _, Ren.lst _ _ _, Ren.int _ _, Ren.nilR rfl rfl, Ren.nilS, Ren.lst _ _ _, Ren.int _ _, trivial⟩ ⟨rfl, trivial⟩) hp ?_
    clear hp
    intro v16 r0 hI
    replace hv := hv v16 r0 hI
    clear hI
    refine W.seq' ?_
    refine W.rL ?_
    refine cL rfl (o_move (v := .int _ _) rfl ?_)
    refine cL rfl (o_move (v := .int _ _) rfl ?_)
    refine cL rfl (o_lss rfl rfl ?_)
    refine eL ?_
    refine W.tr [(0, .lst _ _ _), (4, .lst _ _ _), (11, .lst _ _ _), (12, .int _ _), (13, .ref _ _ _), (14, .nilS), (15, .lst _ _ _), (16, .int _ _), (40, .bool _)] [.row _ _ _] ⟨rfl, rfl, rfl, rfl, rfl, rfl, rfl, rfl, rfl, trivial⟩ rfl ?_
    refine W.cn rfl (fun hc => ?_) (fun hc => ?_)
    · have hv := hv.1 hc
      refine W.skip ?_
      refine th_nrm ?_
      refine W.tr [(0, .lst _ _ _), (4, .lst _ _ _), (11, .lst _ _ _), (12, .int _ _), (13, .ref _ _ _), (14, .nilS), (15, .lst _ _ _), (16, .int _ _)] [.row _ _ _] ⟨rfl, rfl, rfl, rfl, rfl, rfl, rfl, rfl, trivial⟩ rfl ?_
      refine W.seq' ?_
      refine W.block ?_
      refine W.rL ?_
      refine cL rfl (o_assign (v := .int _ _) rfl ?_)
      refine eL ?_
      refine W.tr [(0, .lst _ _ _), (4, .lst _ _ _), (11, .lst _ _ _), (12, .int _ _), (13, .ref _ _ _), (14, .nilS), (15, .lst _ _ _), (16, .int _ _), (17, .int _ _)] [.row _ _ _] ⟨rfl, rfl, rfl, rfl, rfl, rfl, rfl, rfl, rfl, trivial⟩ rfl ?_
      obtain ⟨J2, hj, hv⟩ := hv
      refine W.mid1 (fun v17 => ⟨130, look [(0, .lst true raw.length (encL e25 raw)), (4, .lst true c.length (encL eInt c)), (11, .lst true (values.take (min ((values.length : Nat) : Int) (25 : Int)).toNat).length (encL eInt (values.take (min ((values.length : Nat) : Int) (25 : Int)).toNat))), (12, .int .i64 ((1 : Int) + (pickM n (6 : Int)))), (13, .ref true 0 r0.length), (14, .nilS), (15, .lst false (madeM ((1 : Int) + (pickM n (6 : Int))) x).length (encL e25 (madeM ((1 : Int) + (pickM n (6 : Int))) x))), (16, .int .i64 v16), (17, .int .i64 v17)], [.row 3 1 (encL eInt r0)], false⟩) J2 ?_ ?_
      · intro v17
        intro hv
        replace hv := hj v17 hv
        refine W.rL1 ?_
        refine cL rfl (o_move (v := .ref _ _ _) rfl ?_)
        refine cL rfl (o_move (v := .int _ _) rfl ?_)
        refine cL rfl (o_bs1 (v := .int _ _) (q := 1) tt35 tt3 rfl rfl rfl rfl rfl rfl rfl rfl ?_)
        obtain ⟨s89, hv⟩ := hv
        refine cL rfl (o_apR (p := 2) (q := (r0 ++ [v17]).length) tt35 tt3 rfl rfl (src_ref rfl rfl) rfl rfl (encL_length (encInt.wd false) _) (Nat.le_trans (Nat.le_of_eq (@List.length_append _ (r0) ([v17])).symm) s89) rfl (@List.length_append _ (r0) ([v17])).symm (encL_app eInt r0 [v17]) ?_)
        refine cL rfl (o_assign (v := .ref _ _ _) rfl ?_)
        refine eL ?_
        refine bl_nrm (th_nrm ?_)
        refine W.tr [(0, .lst _ _ _), (4, .lst _ _ _), (11, .lst _ _ _), (12, .int _ _), (13, .ref _ _ _), (14, .nilS), (15, .lst _ _ _), (16, .int _ _)] [.dead, .row _ _ _, .row _ _ _] ⟨rfl, rfl, rfl, rfl, rfl, rfl, rfl, rfl, trivial⟩ rfl ?_
        refine W.rL1 ?_
        refine cL rfl (o_move (v := .int _ _) rfl ?_)
        obtain ⟨s90, hv⟩ := hv
        refine cL rfl (o_add rfl rfl s90 ?_)
        refine cL rfl (o_assign (v := .int _ _) rfl ?_)
        refine eL ?_
        exact th_nrm (⟨(), (v16 + (1 : Int)), (r0 ++ [v17]), hv, St.to_mk (φ := [some 2]) rfl (.inl rfl) ⟨Ren.lst _ _ _, Ren.lst _ _ _, Ren.lst _ _ _, Ren.int _ _, Ren.ref rfl (fun h => rfl), Ren.nilS, Ren.lst _ _ _, Ren.int _ _, trivial⟩ ⟨.inr ⟨_, rfl, rfl, rfl, rfl, Rens.enc encInt false (r0 ++ [v17])⟩, trivial⟩⟩)
      · clear hj
        refine W.rL ?_
        refine cL rfl (o_move (v := .int _ _) rfl ?_)
        refine cL rfl (o_move (v := .lst _ _ _) rfl ?_)
        refine cL rfl (o_len (v := .lst _ _ _) tt35 rfl rfl ?_)
        refine cL rfl (o_lss rfl rfl ?_)
        refine eL ?_
        refine W.tr [(0, .lst _ _ _), (4, .lst _ _ _), (11, .lst _ _ _), (12, .int _ _), (13, .ref _ _ _), (14, .nilS), (15, .lst _ _ _), (16, .int _ _), (17, .int _ _), (46, .bool _)] [.row _ _ _] ⟨rfl, rfl, rfl, rfl, rfl, rfl, rfl, rfl, rfl, rfl, trivial⟩ rfl ?_
        refine W.cn rfl (fun hc => ?_) (fun hc => ?_)
        · have hv := hv.1 hc
          refine W.rL1 ?_
          refine cL rfl (o_move (v := .lst _ _ _) rfl ?_)
          refine cL rfl (o_move (v := .int _ _) rfl ?_)
          obtain ⟨s91, hv⟩ := hv
          refine cL rfl (o_iaL tt35 tt3 rfl rfl (encInt.wd true) rfl s91 ?_)
          intro rest91
          refine cL rfl (o_ldS (v := .int _ _) tt3 rfl rfl ⟨_, rfl⟩ ?_)
          obtain ⟨s92, hv⟩ := hv
          obtain ⟨s93, hv⟩ := hv
          refine cL rfl (o_callP1 (k := 12) (fst := []) (caps := []) (ys := [.int _ _, .int _ _]) rfl rfl (spec_pick (lat (values.take (min ((values.length : Nat) : Int) (25 : Int)).toNat) v16) (12 : Int) s92 s93) (Wks.cons (ag_int _ _ _ _) (Wks.cons (ag_int _ _ _ _) (Wks.refl _))) ?_)
          refine cL rfl (o_assign (v := .int _ _) rfl ?_)
          refine eL ?_
          exact th_nrm (⟨(), (pickM (lat (values.take (min ((values.length : Nat) : Int) (25 : Int)).toNat) v16) (12 : Int)), hv, St.to_mk (φ := [some 0]) rfl (.inl rfl) ⟨Ren.lst _ _ _, Ren.lst _ _ _, Ren.lst _ _ _, Ren.int _ _, Ren.ref rfl (fun h => rfl), Ren.nilS, Ren.lst _ _ _, Ren.int _ _, Ren.int _ _, trivial⟩ ⟨.inr ⟨_, rfl, rfl, rfl, rfl, Rens.enc encInt false r0⟩, trivial⟩⟩)
        · have hv := hv.2 hc
          refine W.skip ?_
          exact th_nrm (⟨(), (0 : Int), hv, St.to_mk (φ := [some 0]) rfl (.inl rfl) ⟨Ren.lst _ _ _, Ren.lst _ _ _, Ren.lst _ _ _, Ren.int _ _, Ren.ref rfl (fun h => rfl), Ren.nilS, Ren.lst _ _ _, Ren.int _ _, Ren.int _ _, trivial⟩ ⟨.inr ⟨_, rfl, rfl, rfl, rfl, Rens.enc encInt false r0⟩, trivial⟩⟩)
    · have hv := hv.2 hc
      refine W.exit ?_
      refine th_exit (th_exit (bl_hit (th_nrm ?_)))
      refine W.tr [(0, .lst _ _ _), (4, .lst _ _ _), (11, .lst _ _ _), (12, .int _ _), (13, .ref _ _ _), (14, .nilS), (15, .lst _ _ _)] [.row _ _ _] ⟨rfl, rfl, rfl, rfl, rfl, rfl, rfl, trivial⟩ rfl ?_
      refine W.seq' ?_
      refine W.rL ?_
      refine cL rfl (o_assign (v := .int _ _) rfl ?_)
      refine eL ?_
      refine W.tr [(0, .lst _ _ _), (4, .lst _ _ _), (11, .lst _ _ _), (12, .int _ _), (13, .ref _ _ _), (14, .nilS), (15, .lst _ _ _), (18, .int _ _)] [.row _ _ _] ⟨rfl, rfl, rfl, rfl, rfl, rfl, rfl, rfl, trivial⟩ rfl ?_
      refine W.block ?_
      obtain ⟨I3, μ3, hp, hv⟩ := hv
      refine W.loop2 (fun v18 r1 => ⟨130, look [(0, .lst true raw.length (encL e25 raw)), (4, .lst true c.length (encL eInt c)), (11, .lst true (values.take (min ((values.length : Nat) : Int) (25 : Int)).toNat).length (encL eInt (values.take (min ((values.length : Nat) : Int) (25 : Int)).toNat))), (12, .int .i64 ((1 : Int) + (pickM n (6 : Int)))), (13, .ref true 0 r0.length), (14, .ref true 1 r1.length), (15, .lst false (madeM ((1 : Int) + (pickM n (6 : Int))) x).length (encL e25 (madeM ((1 : Int) + (pickM n (6 : Int))) x))), (18, .int .i64 v18)], [.row 3 1 (encL eInt r0), .row 3 1 (encL eInt r1)], false⟩) I3 μ3 (0 : Int) [] (St.to_mk (φ := [some 0, none]) rfl (.inl rfl) ⟨Ren.lst _ _ _, Ren.lst _ _ _, Ren.lst _ _ _, Ren.int _ _, Ren.ref rfl (fun h => rfl), Ren.nilR rfl rfl, Ren.lst _ _ _, Ren.int _ _, trivial⟩ ⟨.inr ⟨_, rfl, rfl, rfl, rfl, Rens.enc encInt false r0⟩, rfl, trivial⟩) hp ?_
      clear hp
      intro v18 r1 hI
      replace hv := hv v18 r1 hI
      clear hI
      refine W.seq' ?_
      refine W.rLm ⟨130, look [(0, .lst true raw.length (encL e25 raw)), (4, .lst true c.length (encL eInt c)), (11, .lst true (values.take (min ((values.length : Nat) : Int) (25 : Int)).toNat).length (encL eInt (values.take (min ((values.length : Nat) : Int) (25 : Int)).toNat))), (12, .int .i64 ((1 : Int) + (pickM n (6 : Int)))), (13, .ref true 0 r0.length), (14, .ref true 1 r1.length), (15, .lst false (madeM ((1 : Int) + (pickM n (6 : Int))) x).length (encL e25 (madeM ((1 : Int) + (pickM n (6 : Int))) x))), (18, .int .i64 v18), (68, .bool (decide ((v18 < ((c.length : Nat) : Int)) ∧ ((v18 < (25 : Int)) ∧ ((0 : Int) < (((madeM ((1 : Int) + (pickM n (6 : Int))) x).length : Nat) : Int))))))], [.row 3 1 (encL eInt r0), .row 3 1 (encL eInt r1)], false⟩ ?_ ?_
      · refine cL rfl (o_move (v := .int _ _) rfl ?_)
        refine cL rfl (o_move (v := .lst _ _ _) rfl ?_)
        refine cL rfl (o_len (v := .lst _ _ _) tt35 rfl rfl ?_)
        refine cL rfl (o_lss rfl rfl ?_)
        refine cL rfl (o_move (v := .bool _) rfl ?_)
        by_cases c1 : v18 < ((c.length : Nat) : Int)
        · refine cLg rfl rfl (decide_eq_true c1) ?_
          refine cL rfl (o_move (v := .int _ _) rfl ?_)
          refine cLg rfl rfl (decide_eq_true c1) ?_
          refine cL rfl (o_lss rfl rfl ?_)
          refine cL rfl (o_pickT (v := .bool _) rfl (decide_eq_true c1) rfl ?_)
          refine cL rfl (o_move (v := .bool _) rfl ?_)
          by_cases c2 : v18 < (25 : Int)
          · refine cLg rfl rfl (decide_eq_true c2) ?_
            refine cL rfl (o_move (v := .lst _ _ _) rfl ?_)
            refine cLg rfl rfl (decide_eq_true c2) ?_
            refine cL rfl (o_len (v := .lst _ _ _) tt22 rfl rfl ?_)
            refine cLg rfl rfl (decide_eq_true c2) ?_
            refine cL rfl (o_gtr rfl rfl ?_)
            refine cL rfl (o_pickT (v := .bool _) rfl (decide_eq_true c2) rfl ?_)
            refine eL ?_
            exact le_mk ⟨rfl, rfl, rfl, rfl, rfl, rfl, rfl, rfl, (congrArg AV.bool (dAndT c1 (dAndT c2 (rfl)))).symm, trivial⟩ rfl
          · refine cLs rfl rfl rfl (decide_eq_false c2) ?_
            refine cLs rfl rfl rfl (decide_eq_false c2) ?_
            refine cLs rfl rfl rfl (decide_eq_false c2) ?_
            refine cL rfl (o_pickF (v := .bool _) rfl (decide_eq_false c2) rfl ?_)
            refine eL ?_
            exact le_mk ⟨rfl, rfl, rfl, rfl, rfl, rfl, rfl, rfl, (congrArg AV.bool (dAndT c1 (dAndF c2))).symm, trivial⟩ rfl
        · refine cLs rfl rfl rfl (decide_eq_false c1) ?_
          refine cLs rfl rfl rfl (decide_eq_false c1) ?_
          refine cL rfl (o_pickF (v := .bool _) rfl (decide_eq_false c1) rfl ?_)
          refine cL rfl (o_move (v := .bool _) rfl ?_)
          refine cLs rfl rfl rfl (rfl) ?_
          refine cLs rfl rfl rfl (rfl) ?_
          refine cLs rfl rfl rfl (rfl) ?_
          refine cL rfl (o_pickF (v := .bool _) rfl rfl rfl ?_)
          refine eL ?_
          exact le_mk ⟨rfl, rfl, rfl, rfl, rfl, rfl, rfl, rfl, (congrArg AV.bool (dAndF c1)).symm, trivial⟩ rfl
      · refine W.cn rfl (fun hc => ?_) (fun hc => ?_)
        · have hv := hv.1 hc
          refine W.skip ?_
          refine th_nrm ?_
          refine W.tr [(0, .lst _ _ _), (4, .lst _ _ _), (11, .lst _ _ _), (12, .int _ _), (13, .ref _ _ _), (14, .ref _ _ _), (15, .lst _ _ _), (18, .int _ _)] [.row _ _ _, .row _ _ _] ⟨rfl, rfl, rfl, rfl, rfl, rfl, rfl, rfl, trivial⟩ rfl ?_
          refine W.seq' ?_
          refine W.block ?_
          refine W.rL1 ?_
          refine cL rfl (o_move (v := .ref _ _ _) rfl ?_)
          refine cL rfl (o_move (v := .lst _ _ _) rfl ?_)
          refine cL rfl (o_move (v := .int _ _) rfl ?_)
          obtain ⟨s139, hv⟩ := hv
          refine cL rfl (o_iaL tt35 tt3 rfl rfl (encInt.wd true) rfl s139 ?_)
          intro rest139
          refine cL rfl (o_ldS (v := .int _ _) tt3 rfl rfl ⟨_, rfl⟩ ?_)
          refine cL rfl (o_move (v := .lst _ _ _) rfl ?_)
          refine cL rfl (o_len (v := .lst _ _ _) tt22 rfl rfl ?_)
          obtain ⟨s140, hv⟩ := hv
          obtain ⟨s141, hv⟩ := hv
          refine cL rfl (o_callP1 (k := 12) (fst := []) (caps := []) (ys := [.int _ _, .int _ _]) rfl rfl (spec_pick (lat c v18) (((madeM ((1 : Int) + (pickM n (6 : Int))) x).length : Nat) : Int) s140 s141) (Wks.cons (ag_int _ _ _ _) (Wks.cons (ag_int _ _ _ _) (Wks.refl _))) ?_)
          refine cL rfl (o_bs1 (v := .int _ _) (q := 2) tt35 tt3 rfl rfl rfl rfl rfl rfl rfl rfl ?_)
          obtain ⟨s142, hv⟩ := hv
          refine cL rfl (o_apR (p := 3) (q := (r1 ++ [pickM (lat c v18) (((madeM ((1 : Int) + (pickM n (6 : Int))) x).length : Nat) : Int)]).length) tt35 tt3 rfl rfl (src_ref rfl rfl) rfl rfl (encL_length (encInt.wd false) _) (Nat.le_trans (Nat.le_of_eq (@List.length_append _ (r1) ([pickM (lat c v18) (((madeM ((1 : Int) + (pickM n (6 : Int))) x).length : Nat) : Int)])).symm) s142) rfl (@List.length_append _ (r1) ([pickM (lat c v18) (((madeM ((1 : Int) + (pickM n (6 : Int))) x).length : Nat) : Int)])).symm (encL_app eInt r1 [pickM (lat c v18) (((madeM ((1 : Int) + (pickM n (6 : Int))) x).length : Nat) : Int)]) ?_)
          refine cL rfl (o_assign (v := .ref _ _ _) rfl ?_)
          refine eL ?_
          refine bl_nrm (th_nrm ?_)
          refine W.tr [(0, .lst _ _ _), (4, .lst _ _ _), (11, .lst _ _ _), (12, .int _ _), (13, .ref _ _ _), (14, .ref _ _ _), (15, .lst _ _ _), (18, .int _ _)] [.row _ _ _, .dead, .row _ _ _, .row _ _ _] ⟨rfl, rfl, rfl, rfl, rfl, rfl, rfl, rfl, trivial⟩ rfl ?_
          refine W.rL1 ?_
          refine cL rfl (o_move (v := .int _ _) rfl ?_)
          obtain ⟨s143, hv⟩ := hv
          refine cL rfl (o_add rfl rfl s143 ?_)
          refine cL rfl (o_assign (v := .int _ _) rfl ?_)
          refine eL ?_
          exact th_nrm (⟨(), (v18 + (1 : Int)), (r1 ++ [pickM (lat c v18) (((madeM ((1 : Int) + (pickM n (6 : Int))) x).length : Nat) : Int)]), hv, St.to_mk (φ := [some 0, some 3]) rfl (.inl rfl) ⟨Ren.lst _ _ _, Ren.lst _ _ _, Ren.lst _ _ _, Ren.int _ _, Ren.ref rfl (fun h => rfl), Ren.ref rfl (fun h => rfl), Ren.lst _ _ _, Ren.int _ _, trivial⟩ ⟨.inr ⟨_, rfl, rfl, rfl, rfl, Rens.enc encInt false r0⟩, .inr ⟨_, rfl, rfl, rfl, rfl, Rens.enc encInt false (r1 ++ [pickM (lat c v18) (((madeM ((1 : Int) + (pickM n (6 : Int))) x).length : Nat) : Int)])⟩, trivial⟩⟩)
        · have hv := hv.2 hc
          refine W.exit ?_
          refine th_exit (th_exit (bl_hit (th_nrm ?_)))
          refine W.tr [(0, .lst _ _ _), (4, .lst _ _ _), (11, .lst _ _ _), (12, .int _ _), (13, .ref _ _ _), (14, .ref _ _ _), (15, .lst _ _ _)] [.row _ _ _, .row _ _ _] ⟨rfl, rfl, rfl, rfl, rfl, rfl, rfl, trivial⟩ rfl ?_
          refine W.seq' ?_
          refine W.rL ?_
          refine cL rfl (o_move (v := .lst _ _ _) rfl ?_)
          refine cL rfl (o_callS1 (k := 13) (fst := []) (caps := []) (ys := [.lst _ _ _]) rfl rfl (spec_few raw) (Wks.cons (ag_lst _ _ _ _ _) (Wks.refl _)) ?_)
          refine cL rfl (o_move (v := .lst _ _ _) rfl ?_)
          refine cL rfl (o_buildS (q := 2) (qs := [(0, .lst _ _ _), (1, .lst _ _ _)]) (cs := [.lst _ _ _, .lst _ _ _]) tt31 tt22 rfl rfl rfl rfl ?_)
          refine cL rfl (o_len (v := .ref _ _ _) tt31 rfl rfl ?_)
          refine cL rfl (o_move (v := .int _ _) rfl ?_)
          refine eL ?_
          refine W.tr [(4, .lst _ _ _), (11, .lst _ _ _), (12, .int _ _), (13, .ref _ _ _), (14, .ref _ _ _), (15, .lst _ _ _), (84, .ref _ _ _), (85, .int _ _), (86, .int _ _)] [.row _ _ _, .row _ _ _, .row _ _ _] ⟨rfl, rfl, rfl, rfl, rfl, rfl, rfl, rfl, rfl, trivial⟩ rfl ?_
          refine W.to (st' := ⟨130, look [(4, .lst true c.length (encL eInt c)), (11, .lst true (values.take (min ((values.length : Nat) : Int) (25 : Int)).toNat).length (encL eInt (values.take (min ((values.length : Nat) : Int) (25 : Int)).toNat))), (12, .int .i64 ((1 : Int) + (pickM n (6 : Int)))), (13, .ref true 0 r0.length), (14, .ref true 1 r1.length), (15, .lst false (madeM ((1 : Int) + (pickM n (6 : Int))) x).length (encL e25 (madeM ((1 : Int) + (pickM n (6 : Int))) x))), (84, .ref false 2 2), (85, .int .i64 ((2 : Nat) : Int)), (86, .int .i64 (0 : Int))], [.row 3 1 (encL eInt r0), .row 3 1 (encL eInt r1), .row 22 1 (encL (eSl e25 true) [raw.take 40, madeM ((1 : Int) + (pickM n (6 : Int))) x])], false⟩) (St.to_mk (φ := [some 0, some 1, some 2]) rfl (.inl rfl) ⟨Ren.lst _ _ _, Ren.lst _ _ _, Ren.int _ _, Ren.ref rfl (fun h => h), Ren.ref rfl (fun h => h), Ren.lst _ _ _, Ren.ref rfl (fun h => h), Ren.int _ _, Ren.int _ _, trivial⟩ ⟨.inr ⟨_, rfl, rfl, rfl, rfl, Rens.enc encInt false r0⟩, .inr ⟨_, rfl, rfl, rfl, rfl, Rens.enc encInt false r1⟩, .inr ⟨_, rfl, rfl, rfl, rfl, Rens.cons (Ren.lstT _ _ _) (Rens.cons (Ren.lstT _ _ _) (Rens.nil))⟩, trivial⟩) ?_
          refine W.block ?_
          refine W.sealH false 0 (l := [(4, .lst true c.length (encL eInt c)), (11, .lst true (values.take (min ((values.length : Nat) : Int) (25 : Int)).toNat).length (encL eInt (values.take (min ((values.length : Nat) : Int) (25 : Int)).toNat))), (12, .int .i64 ((1 : Int) + (pickM n (6 : Int)))), (13, .lst false r0.length (encL eInt r0)), (14, .ref true 1 r1.length), (15, .lst false (madeM ((1 : Int) + (pickM n (6 : Int))) x).length (encL e25 (madeM ((1 : Int) + (pickM n (6 : Int))) x))), (84, .ref false 2 2), (85, .int .i64 ((2 : Nat) : Int)), (86, .int .i64 (0 : Int))]) rfl (encL_sl encInt false r0) ⟨.inl rfl, .inl rfl, .inl rfl, .inr ⟨_, _, rfl, (encL_length (encInt.wd false) _), rfl⟩, .inl rfl, .inl rfl, .inl rfl, .inl rfl, .inl rfl, trivial⟩ rfl ?_
          refine W.sealH false 1 (l := [(4, .lst true c.length (encL eInt c)), (11, .lst true (values.take (min ((values.length : Nat) : Int) (25 : Int)).toNat).length (encL eInt (values.take (min ((values.length : Nat) : Int) (25 : Int)).toNat))), (12, .int .i64 ((1 : Int) + (pickM n (6 : Int)))), (13, .lst false r0.length (encL eInt r0)), (14, .lst false r1.length (encL eInt r1)), (15, .lst false (madeM ((1 : Int) + (pickM n (6 : Int))) x).length (encL e25 (madeM ((1 : Int) + (pickM n (6 : Int))) x))), (84, .ref false 2 2), (85, .int .i64 ((2 : Nat) : Int)), (86, .int .i64 (0 : Int))]) rfl (encL_sl encInt false r1) ⟨.inl rfl, .inl rfl, .inl rfl, .inl rfl, .inr ⟨_, _, rfl, (encL_length (encInt.wd false) _), rfl⟩, .inl rfl, .inl rfl, .inl rfl, .inl rfl, trivial⟩ rfl ?_
          obtain ⟨I4, μ4, hp, hv⟩ := hv
          refine W.loop1 (fun v86 => ⟨130, look [(4, .lst true c.length (encL eInt c)), (11, .lst true (values.take (min ((values.length : Nat) : Int) (25 : Int)).toNat).length (encL eInt (values.take (min ((values.length : Nat) : Int) (25 : Int)).toNat))), (12, .int .i64 ((1 : Int) + (pickM n (6 : Int)))), (13, .lst false r0.length (encL eInt r0)), (14, .lst false r1.length (encL eInt r1)), (15, .lst false (madeM ((1 : Int) + (pickM n (6 : Int))) x).length (encL e25 (madeM ((1 : Int) + (pickM n (6 : Int))) x))), (84, .ref false 2 ([raw.take 40, madeM ((1 : Int) + (pickM n (6 : Int))) x].length)), (85, .int .i64 ((2 : Nat) : Int)), (86, .int .i64 v86)], [.dead, .dead, .row 22 1 (encL (eSl e25 true) [raw.take 40, madeM ((1 : Int) + (pickM n (6 : Int))) x])], false⟩) I4 μ4 (0 : Int) (St.to_mk (φ := [none, none, some 2]) rfl (.inl rfl) ⟨Ren.lst _ _ _, Ren.lst _ _ _, Ren.int _ _, Ren.lst _ _ _, Ren.lst _ _ _, Ren.lst _ _ _, Ren.ref rfl (fun h => h), Ren.int _ _, Ren.int _ _, trivial⟩ ⟨rfl, rfl, .inr ⟨_, rfl, rfl, rfl, rfl, Rens.enc (encSl e25) true [raw.take 40, madeM ((1 : Int) + (pickM n (6 : Int))) x]⟩, trivial⟩) hp ?_
          clear hp
          intro v86 hI
          replace hv := hv v86 hI
          clear hI
          refine W.rL ?_
          refine cL rfl (o_lss rfl rfl ?_)
          refine eL ?_
          refine W.tr [(4, .lst _ _ _), (11, .lst _ _ _), (12, .int _ _), (13, .lst _ _ _), (14, .lst _ _ _), (15, .lst _ _ _), (84, .ref _ _ _), (85, .int _ _), (86, .int _ _), (87, .bool _)] [.dead, .dead, .row _ _ _] ⟨rfl, rfl, rfl, rfl, rfl, rfl, rfl, rfl, rfl, rfl, trivial⟩ rfl ?_
          refine W.seq' ?_
          refine W.cn rfl (fun hc => ?_) (fun hc => ?_)
          · have hv := hv.1 hc
            refine W.skip ?_
            refine th_nrm ?_
            refine W.tr [(4, .lst _ _ _), (11, .lst _ _ _), (12, .int _ _), (13, .lst _ _ _), (14, .lst _ _ _), (15, .lst _ _ _), (84, .ref _ _ _), (85, .int _ _), (86, .int _ _)] [.dead, .dead, .row _ _ _] ⟨rfl, rfl, rfl, rfl, rfl, rfl, rfl, rfl, rfl, trivial⟩ rfl ?_
            refine W.seq' ?_
            refine W.block ?_
            refine W.rL ?_
            obtain ⟨s630, hv⟩ := hv
            refine cL rfl (o_iaR tt31 tt22 rfl rfl s630 ?_)
            refine cL rfl (o_ldS (v := .lst _ _ _) tt22 rfl rfl (cell_of (ca_row (xs := [raw.take 40, madeM ((1 : Int) + (pickM n (6 : Int))) x]) rfl ((encSl e25).wd true) s630) rfl) ?_)
            refine cL rfl (o_assign (v := .lst _ _ _) rfl ?_)
            refine eL ?_
            refine W.tr [(4, .lst _ _ _), (11, .lst _ _ _), (12, .int _ _), (13, .lst _ _ _), (14, .lst _ _ _), (15, .lst _ _ _), (20, .lst _ _ _), (84, .ref _ _ _), (85, .int _ _), (86, .int _ _)] [.dead, .dead, .row _ _ _] ⟨rfl, rfl, rfl, rfl, rfl, rfl, rfl, rfl, rfl, rfl, trivial⟩ rfl ?_
            refine W.seq' ?_
            refine W.rL ?_
            refine cL rfl (o_move (v := .lst _ _ _) rfl ?_)
            refine cL rfl (o_move (v := .lst _ _ _) rfl ?_)
            refine cL rfl (o_buildS (q := 3) (qs := [(0, .lst _ _ _), (1, .lst _ _ _)]) (cs := [.lst _ _ _, .lst _ _ _]) tt32 tt35 rfl rfl rfl rfl ?_)
            refine cL rfl (o_len (v := .ref _ _ _) tt32 rfl rfl ?_)
            refine cL rfl (o_move (v := .int _ _) rfl ?_)
            refine eL ?_
            refine W.tr [(4, .lst _ _ _), (11, .lst _ _ _), (12, .int _ _), (13, .lst _ _ _), (14, .lst _ _ _), (15, .lst _ _ _), (20, .lst _ _ _), (84, .ref _ _ _), (85, .int _ _), (86, .int _ _), (92, .ref _ _ _), (93, .int _ _), (94, .int _ _)] [.dead, .dead, .row _ _ _, .row _ _ _] ⟨rfl, rfl, rfl, rfl, rfl, rfl, rfl, rfl, rfl, rfl, rfl, rfl, rfl, trivial⟩ rfl ?_
            refine W.to (st' := ⟨130, look [(4, .lst true c.length (encL eInt c)), (11, .lst true (values.take (min ((values.length : Nat) : Int) (25 : Int)).toNat).length (encL eInt (values.take (min ((values.length : Nat) : Int) (25 : Int)).toNat))), (12, .int .i64 ((1 : Int) + (pickM n (6 : Int)))), (13, .lst false r0.length (encL eInt r0)), (14, .lst false r1.length (encL eInt r1)), (15, .lst false (madeM ((1 : Int) + (pickM n (6 : Int))) x).length (encL e25 (madeM ((1 : Int) + (pickM n (6 : Int))) x))), (20, .lst true (lat [raw.take 40, madeM ((1 : Int) + (pickM n (6 : Int))) x] v86).length (encL e25 (lat [raw.take 40, madeM ((1 : Int) + (pickM n (6 : Int))) x] v86))), (84, .ref false 2 ([raw.take 40, madeM ((1 : Int) + (pickM n (6 : Int))) x].length)), (85, .int .i64 ((2 : Nat) : Int)), (86, .int .i64 v86), (92, .ref false 3 2), (93, .int .i64 ((2 : Nat) : Int)), (94, .int .i64 (0 : Int))], [.dead, .dead, .row 22 1 (encL (eSl e25 true) [raw.take 40, madeM ((1 : Int) + (pickM n (6 : Int))) x]), .row 35 1 (encL (eSl eInt true) [values.take (min ((values.length : Nat) : Int) (25 : Int)).toNat, r0])], false⟩) (St.to_mk (φ := [some 0, some 1, some 2, some 3]) rfl (.inl rfl) ⟨Ren.lst _ _ _, Ren.lst _ _ _, Ren.int _ _, Ren.lst _ _ _, Ren.lst _ _ _, Ren.lst _ _ _, Ren.lst _ _ _, Ren.ref rfl (fun h => h), Ren.int _ _, Ren.int _ _, Ren.ref rfl (fun h => h), Ren.int _ _, Ren.int _ _, trivial⟩ ⟨.inl rfl, .inl rfl, .inr ⟨_, rfl, rfl, rfl, rfl, Rens.enc (encSl e25) true [raw.take 40, madeM ((1 : Int) + (pickM n (6 : Int))) x]⟩, .inr ⟨_, rfl, rfl, rfl, rfl, Rens.cons (Ren.lstT _ _ _) (Rens.cons (Ren.lstT _ _ _) (Rens.nil))⟩, trivial⟩) ?_
            refine W.block ?_
            obtain ⟨I5, μ5, hp, hv⟩ := hv
            refine W.loop1 (fun v94 => ⟨130, look [(4, .lst true c.length (encL eInt c)), (11, .lst true (values.take (min ((values.length : Nat) : Int) (25 : Int)).toNat).length (encL eInt (values.take (min ((values.length : Nat) : Int) (25 : Int)).toNat))), (12, .int .i64 ((1 : Int) + (pickM n (6 : Int)))), (13, .lst false r0.length (encL eInt r0)), (14, .lst false r1.length (encL eInt r1)), (15, .lst false (madeM ((1 : Int) + (pickM n (6 : Int))) x).length (encL e25 (madeM ((1 : Int) + (pickM n (6 : Int))) x))), (20, .lst true (lat [raw.take 40, madeM ((1 : Int) + (pickM n (6 : Int))) x] v86).length (encL e25 (lat [raw.take 40, madeM ((1 : Int) + (pickM n (6 : Int))) x] v86))), (84, .ref false 2 ([raw.take 40, madeM ((1 : Int) + (pickM n (6 : Int))) x].length)), (85, .int .i64 ((2 : Nat) : Int)), (86, .int .i64 v86), (92, .ref false 3 ([values.take (min ((values.length : Nat) : Int) (25 : Int)).toNat, r0].length)), (93, .int .i64 ((2 : Nat) : Int)), (94, .int .i64 v94)], [.dead, .dead, .row 22 1 (encL (eSl e25 true) [raw.take 40, madeM ((1 : Int) + (pickM n (6 : Int))) x]), .row 35 1 (encL (eSl eInt true) [values.take (min ((values.length : Nat) : Int) (25 : Int)).toNat, r0])], false⟩) I5 μ5 (0 : Int) (St.to_mk (φ := [none, none, some 2, some 3]) rfl (.inl rfl) ⟨Ren.lst _ _ _, Ren.lst _ _ _, Ren.int _ _, Ren.lst _ _ _, Ren.lst _ _ _, Ren.lst _ _ _, Ren.lst _ _ _, Ren.ref rfl (fun h => h), Ren.int _ _, Ren.int _ _, Ren.ref rfl (fun h => h), Ren.int _ _, Ren.int _ _, trivial⟩ ⟨rfl, rfl, .inr ⟨_, rfl, rfl, rfl, rfl, Rens.enc (encSl e25) true [raw.take 40, madeM ((1 : Int) + (pickM n (6 : Int))) x]⟩, .inr ⟨_, rfl, rfl, rfl, rfl, Rens.enc (encSl eInt) true [values.take (min ((values.length : Nat) : Int) (25 : Int)).toNat, r0]⟩, trivial⟩) hp ?_
            clear hp
            intro v94 hI
            replace hv := hv v94 hI
            clear hI
            refine W.rL ?_
            refine cL rfl (o_lss rfl rfl ?_)
            refine eL ?_
            refine W.tr [(4, .lst _ _ _), (11, .lst _ _ _), (12, .int _ _), (13, .lst _ _ _), (14, .lst _ _ _), (15, .lst _ _ _), (20, .lst _ _ _), (84, .ref _ _ _), (85, .int _ _), (86, .int _ _), (92, .ref _ _ _), (93, .int _ _), (94, .int _ _), (95, .bool _)] [.dead, .dead, .row _ _ _, .row _ _ _] ⟨rfl, rfl, rfl, rfl, rfl, rfl, rfl, rfl, rfl, rfl, rfl, rfl, rfl, rfl, trivial⟩ rfl ?_
            refine W.seq' ?_
            refine W.cn rfl (fun hc => ?_) (fun hc => ?_)
            · have hv := hv.1 hc
              refine W.skip ?_
              refine th_nrm ?_
              refine W.tr [(4, .lst _ _ _), (11, .lst _ _ _), (12, .int _ _), (13, .lst _ _ _), (14, .lst _ _ _), (15, .lst _ _ _), (20, .lst _ _ _), (84, .ref _ _ _), (85, .int _ _), (86, .int _ _), (92, .ref _ _ _), (93, .int _ _), (94, .int _ _)] [.dead, .dead, .row _ _ _, .row _ _ _] ⟨rfl, rfl, rfl, rfl, rfl, rfl, rfl, rfl, rfl, rfl, rfl, rfl, rfl, trivial⟩ rfl ?_
              refine W.seq' ?_
              refine W.block ?_
              refine W.rL ?_
              obtain ⟨s669, hv⟩ := hv
              refine cL rfl (o_iaR tt32 tt35 rfl rfl s669 ?_)
              refine cL rfl (o_ldS (v := .lst _ _ _) tt35 rfl rfl (cell_of (ca_row (xs := [values.take (min ((values.length : Nat) : Int) (25 : Int)).toNat, r0]) rfl ((encSl eInt).wd true) s669) rfl) ?_)
              refine cL rfl (o_assign (v := .lst _ _ _) rfl ?_)
              refine eL ?_
              refine W.tr [(4, .lst _ _ _), (11, .lst _ _ _), (12, .int _ _), (13, .lst _ _ _), (14, .lst _ _ _), (15, .lst _ _ _), (20, .lst _ _ _), (22, .lst _ _ _), (84, .ref _ _ _), (85, .int _ _), (86, .int _ _), (92, .ref _ _ _), (93, .int _ _), (94, .int _ _)] [.dead, .dead, .row _ _ _, .row _ _ _] ⟨rfl, rfl, rfl, rfl, rfl, rfl, rfl, rfl, rfl, rfl, rfl, rfl, rfl, rfl, trivial⟩ rfl ?_
              refine W.rL ?_
              refine cL rfl (o_move (v := .lst _ _ _) rfl ?_)
              refine cL rfl (o_move (v := .lst _ _ _) rfl ?_)
              obtain ⟨s670, hv⟩ := hv
              obtain ⟨s671, hv⟩ := hv
              refine cL rfl (o_callP1 (k := 28) (fst := []) (caps := []) (ys := [.lst _ _ _, .lst _ _ _]) rfl rfl (spec_holds (lat [raw.take 40, madeM ((1 : Int) + (pickM n (6 : Int))) x] v86) (lat [values.take (min ((values.length : Nat) : Int) (25 : Int)).toNat, r0] v94) s670 s671) (Wks.cons (ag_lst _ _ _ _ _) (Wks.cons (ag_lst _ _ _ _ _) (Wks.refl _))) ?_)
              refine cL rfl (o_move (v := .lst _ _ _) rfl ?_)
              refine cL rfl (o_move (v := .lst _ _ _) rfl ?_)
              obtain ⟨s672, hv⟩ := hv
              obtain ⟨s673, hv⟩ := hv
              refine cL rfl (o_callP1 (k := 29) (fst := []) (caps := []) (ys := [.lst _ _ _, .lst _ _ _]) rfl rfl (spec_rholds (lat [raw.take 40, madeM ((1 : Int) + (pickM n (6 : Int))) x] v86) (lat [values.take (min ((values.length : Nat) : Int) (25 : Int)).toNat, r0] v94) s672 s673) (Wks.cons (ag_lst _ _ _ _ _) (Wks.cons (ag_lst _ _ _ _ _) (Wks.refl _))) ?_)
              refine cL rfl (o_neB rfl tt4 rfl rfl ?_)
              refine eL ?_
              refine W.tr [(4, .lst _ _ _), (11, .lst _ _ _), (12, .int _ _), (13, .lst _ _ _), (14, .lst _ _ _), (15, .lst _ _ _), (20, .lst _ _ _), (84, .ref _ _ _), (85, .int _ _), (86, .int _ _), (92, .ref _ _ _), (93, .int _ _), (94, .int _ _), (104, .bool _)] [.dead, .dead, .row _ _ _, .row _ _ _] ⟨rfl, rfl, rfl, rfl, rfl, rfl, rfl, rfl, rfl, rfl, rfl, rfl, rfl, rfl, trivial⟩ rfl ?_
              refine W.cn rfl (fun hc => ?_) (fun hc => ?_)
              · have hv := hv.1 hc
                refine W.rL ?_
                refine cL rfl (o_assign (v := .bool _) rfl ?_)
                refine eL ?_
                refine W.tr [(10, .bool _)] [.dead, .dead, .row _ _ _, .row _ _ _] ⟨rfl, trivial⟩ rfl ?_
                refine W.ret ?_
                refine bl_ret (th_ret (th_ret (bl_ret (th_ret (bl_ret (th_ret (th_ret (bl_ret (th_ret (rt ?_))))))))))
                refine rt_t (v := .bool _) rfl ?_
                refine rt_n ?_
                exact ⟨_, rs_bool _ _ _, false, rfl, hv⟩
              · have hv := hv.2 hc
                refine W.skip ?_
                refine bl_nrm (th_nrm ?_)
                refine W.tr [(4, .lst _ _ _), (11, .lst _ _ _), (12, .int _ _), (13, .lst _ _ _), (14, .lst _ _ _), (15, .lst _ _ _), (20, .lst _ _ _), (84, .ref _ _ _), (85, .int _ _), (86, .int _ _), (92, .ref _ _ _), (93, .int _ _), (94, .int _ _)] [.dead, .dead, .row _ _ _, .row _ _ _] ⟨rfl, rfl, rfl, rfl, rfl, rfl, rfl, rfl, rfl, rfl, rfl, rfl, rfl, trivial⟩ rfl ?_
                refine W.rL1 ?_
                obtain ⟨s674, hv⟩ := hv
                refine cL rfl (o_add rfl rfl s674 ?_)
                refine cL rfl (o_move (v := .int _ _) rfl ?_)
                refine eL ?_
                exact th_nrm (⟨(), (v94 + (1 : Int)), hv, St.to_mk (φ := [none, none, some 2, some 3]) rfl (.inl rfl) ⟨Ren.lst _ _ _, Ren.lst _ _ _, Ren.int _ _, Ren.lst _ _ _, Ren.lst _ _ _, Ren.lst _ _ _, Ren.lst _ _ _, Ren.ref rfl (fun h => h), Ren.int _ _, Ren.int _ _, Ren.ref rfl (fun h => h), Ren.int _ _, Ren.int _ _, trivial⟩ ⟨rfl, rfl, .inr ⟨_, rfl, rfl, rfl, rfl, Rens.enc (encSl e25) true [raw.take 40, madeM ((1 : Int) + (pickM n (6 : Int))) x]⟩, .inr ⟨_, rfl, rfl, rfl, rfl, Rens.enc (encSl eInt) true [values.take (min ((values.length : Nat) : Int) (25 : Int)).toNat, r0]⟩, trivial⟩⟩)
            · have hv := hv.2 hc
              refine W.exit ?_
              refine th_exit (th_exit (bl_hit (th_nrm ?_)))
              refine W.tr [(4, .lst _ _ _), (11, .lst _ _ _), (12, .int _ _), (13, .lst _ _ _), (14, .lst _ _ _), (15, .lst _ _ _), (20, .lst _ _ _), (84, .ref _ _ _), (85, .int _ _), (86, .int _ _)] [.dead, .dead, .row _ _ _, .row _ _ _] ⟨rfl, rfl, rfl, rfl, rfl, rfl, rfl, rfl, rfl, rfl, trivial⟩ rfl ?_
              refine W.rP [0, 1, 2, 3, 4, 5, 6, 7, 11, 8, 9, 10] (by decide +kernel) rfl ?_
              refine cL rfl (o_move (v := .lst _ _ _) rfl ?_)
              refine cL rfl (o_move (v := .lst _ _ _) rfl ?_)
              refine cL rfl (o_len (v := .lst _ _ _) tt35 rfl rfl ?_)
              refine cL rfl (o_min rfl rfl ?_)
              obtain ⟨s675, hv⟩ := hv
              refine cL rfl (o_slL tt35 tt3 rfl (encInt.wd true) rfl rfl rfl s675 (ys := c.take (min ((c.length : Nat) : Int) (25 : Int)).toNat) (by simp) ?_)
              refine cL rfl (o_move (v := .lst _ _ _) rfl ?_)
              refine cL rfl (o_move (v := .int _ _) rfl ?_)
              refine cL rfl (o_move (v := .lst _ _ _) rfl ?_)
              refine cL rfl (o_move (v := .int _ _) rfl ?_)
              obtain ⟨s676, hv⟩ := hv
              refine cL rfl (o_callP1 (k := 30) (fst := []) (caps := []) (ys := [.int _ _, .lst _ _ _]) rfl rfl (spec_rfirst ((1 : Int) + (pickM n (6 : Int))) (madeM ((1 : Int) + (pickM n (6 : Int))) x) s676) (Wks.cons (ag_int _ _ _ _) (Wks.cons (ag_lst _ _ _ _ _) (Wks.refl _))) ?_)
              refine cL rfl (o_buildS (q := 4) (qs := [(0, .lst _ _ _), (1, .lst _ _ _), (2, .lst _ _ _)]) (cs := [.lst _ _ _, .lst _ _ _, .lst _ _ _]) tt32 tt35 rfl rfl rfl rfl ?_)
              refine cL rfl (o_len (v := .ref _ _ _) tt32 rfl rfl ?_)
              refine eL ?_
              refine W.tr [(4, .lst _ _ _), (11, .lst _ _ _), (12, .int _ _), (13, .lst _ _ _), (14, .lst _ _ _), (15, .lst _ _ _), (20, .lst _ _ _), (84, .ref _ _ _), (85, .int _ _), (86, .int _ _), (115, .ref _ _ _), (116, .int _ _), (117, .int _ _)] [.dead, .dead, .row _ _ _, .row _ _ _, .row _ _ _] ⟨rfl, rfl, rfl, rfl, rfl, rfl, rfl, rfl, rfl, rfl, rfl, rfl, rfl, trivial⟩ rfl ?_
              refine W.to (st' := ⟨130, look [(4, .lst true c.length (encL eInt c)), (11, .lst true (values.take (min ((values.length : Nat) : Int) (25 : Int)).toNat).length (encL eInt (values.take (min ((values.length : Nat) : Int) (25 : Int)).toNat))), (12, .int .i64 ((1 : Int) + (pickM n (6 : Int)))), (13, .lst false r0.length (encL eInt r0)), (14, .lst false r1.length (encL eInt r1)), (15, .lst false (madeM ((1 : Int) + (pickM n (6 : Int))) x).length (encL e25 (madeM ((1 : Int) + (pickM n (6 : Int))) x))), (20, .lst true (lat [raw.take 40, madeM ((1 : Int) + (pickM n (6 : Int))) x] v86).length (encL e25 (lat [raw.take 40, madeM ((1 : Int) + (pickM n (6 : Int))) x] v86))), (84, .ref false 2 ([raw.take 40, madeM ((1 : Int) + (pickM n (6 : Int))) x].length)), (85, .int .i64 ((2 : Nat) : Int)), (86, .int .i64 v86), (115, .ref false 4 3), (116, .int .i64 ((3 : Nat) : Int)), (117, .int .i64 (0 : Int))], [.dead, .dead, .row 22 1 (encL (eSl e25 true) [raw.take 40, madeM ((1 : Int) + (pickM n (6 : Int))) x]), .row 35 1 (encL (eSl eInt true) [values.take (min ((values.length : Nat) : Int) (25 : Int)).toNat, r0]), .row 35 1 (encL (eSl eInt true) [c.take (min ((c.length : Nat) : Int) (25 : Int)).toNat, r1, rfirstM ((1 : Int) + (pickM n (6 : Int))) (madeM ((1 : Int) + (pickM n (6 : Int))) x)])], false⟩) (St.to_mk (φ := [some 0, some 1, some 2, some 3, some 4]) rfl (.inl rfl) ⟨Ren.lst _ _ _, Ren.lst _ _ _, Ren.int _ _, Ren.lst _ _ _, Ren.lst _ _ _, Ren.lst _ _ _, Ren.lst _ _ _, Ren.ref rfl (fun h => h), Ren.int _ _, Ren.int _ _, Ren.ref rfl (fun h => h), Ren.int _ _, Ren.int _ _, trivial⟩ ⟨.inl rfl, .inl rfl, .inr ⟨_, rfl, rfl, rfl, rfl, Rens.enc (encSl e25) true [raw.take 40, madeM ((1 : Int) + (pickM n (6 : Int))) x]⟩, .inr ⟨_, rfl, rfl, rfl, rfl, Rens.enc (encSl eInt) true [values.take (min ((values.length : Nat) : Int) (25 : Int)).toNat, r0]⟩, .inr ⟨_, rfl, rfl, rfl, rfl, Rens.cons (Ren.lstT _ _ _) (Rens.cons (Ren.lstT _ _ _) (Rens.cons (Ren.lstT _ _ _) (Rens.nil)))⟩, trivial⟩) ?_
              refine W.block ?_
              obtain ⟨I6, μ6, hp, hv⟩ := hv
              refine W.loop1 (fun v117 => ⟨130, look [(4, .lst true c.length (encL eInt c)), (11, .lst true (values.take (min ((values.length : Nat) : Int) (25 : Int)).toNat).length (encL eInt (values.take (min ((values.length : Nat) : Int) (25 : Int)).toNat))), (12, .int .i64 ((1 : Int) + (pickM n (6 : Int)))), (13, .lst false r0.length (encL eInt r0)), (14, .lst false r1.length (encL eInt r1)), (15, .lst false (madeM ((1 : Int) + (pickM n (6 : Int))) x).length (encL e25 (madeM ((1 : Int) + (pickM n (6 : Int))) x))), (20, .lst true (lat [raw.take 40, madeM ((1 : Int) + (pickM n (6 : Int))) x] v86).length (encL e25 (lat [raw.take 40, madeM ((1 : Int) + (pickM n (6 : Int))) x] v86))), (84, .ref false 2 ([raw.take 40, madeM ((1 : Int) + (pickM n (6 : Int))) x].length)), (85, .int .i64 ((2 : Nat) : Int)), (86, .int .i64 v86), (115, .ref false 4 ([c.take (min ((c.length : Nat) : Int) (25 : Int)).toNat, r1, rfirstM ((1 : Int) + (pickM n (6 : Int))) (madeM ((1 : Int) + (pickM n (6 : Int))) x)].length)), (116, .int .i64 ((3 : Nat) : Int)), (117, .int .i64 v117)], [.dead, .dead, .row 22 1 (encL (eSl e25 true) [raw.take 40, madeM ((1 : Int) + (pickM n (6 : Int))) x]), .dead, .row 35 1 (encL (eSl eInt true) [c.take (min ((c.length : Nat) : Int) (25 : Int)).toNat, r1, rfirstM ((1 : Int) + (pickM n (6 : Int))) (madeM ((1 : Int) + (pickM n (6 : Int))) x)])], false⟩) I6 μ6 (0 : Int) (St.to_mk (φ := [none, none, some 2, none, some 4]) rfl (.inl rfl) ⟨Ren.lst _ _ _, Ren.lst _ _ _, Ren.int _ _, Ren.lst _ _ _, Ren.lst _ _ _, Ren.lst _ _ _, Ren.lst _ _ _, Ren.ref rfl (fun h => h), Ren.int _ _, Ren.int _ _, Ren.ref rfl (fun h => h), Ren.int _ _, Ren.int _ _, trivial⟩ ⟨rfl, rfl, .inr ⟨_, rfl, rfl, rfl, rfl, Rens.enc (encSl e25) true [raw.take 40, madeM ((1 : Int) + (pickM n (6 : Int))) x]⟩, rfl, .inr ⟨_, rfl, rfl, rfl, rfl, Rens.enc (encSl eInt) true [c.take (min ((c.length : Nat) : Int) (25 : Int)).toNat, r1, rfirstM ((1 : Int) + (pickM n (6 : Int))) (madeM ((1 : Int) + (pickM n (6 : Int))) x)]⟩, trivial⟩) hp ?_
              clear hp
              intro v117 hI
              replace hv := hv v117 hI
              clear hI
              refine W.rL ?_
              refine cL rfl (o_lss rfl rfl ?_)
              refine eL ?_
              refine W.tr [(4, .lst _ _ _), (11, .lst _ _ _), (12, .int _ _), (13, .lst _ _ _), (14, .lst _ _ _), (15, .lst _ _ _), (20, .lst _ _ _), (84, .ref _ _ _), (85, .int _ _), (86, .int _ _), (115, .ref _ _ _), (116, .int _ _), (117, .int _ _), (118, .bool _)] [.dead, .dead, .row _ _ _, .dead, .row _ _ _] ⟨rfl, rfl, rfl, rfl, rfl, rfl, rfl, rfl, rfl, rfl, rfl, rfl, rfl, rfl, trivial⟩ rfl ?_
              refine W.seq' ?_
              refine W.cn rfl (fun hc => ?_) (fun hc => ?_)
              · have hv := hv.1 hc
                refine W.skip ?_
                refine th_nrm ?_
                refine W.tr [(4, .lst _ _ _), (11, .lst _ _ _), (12, .int _ _), (13, .lst _ _ _), (14, .lst _ _ _), (15, .lst _ _ _), (20, .lst _ _ _), (84, .ref _ _ _), (85, .int _ _), (86, .int _ _), (115, .ref _ _ _), (116, .int _ _), (117, .int _ _)] [.dead, .dead, .row _ _ _, .dead, .row _ _ _] ⟨rfl, rfl, rfl, rfl, rfl, rfl, rfl, rfl, rfl, rfl, rfl, rfl, rfl, trivial⟩ rfl ?_
                refine W.seq' ?_
                refine W.block ?_
                refine W.rL ?_
                obtain ⟨s693, hv⟩ := hv
                refine cL rfl (o_iaR tt32 tt35 rfl rfl s693 ?_)
                refine cL rfl (o_ldS (v := .lst _ _ _) tt35 rfl rfl (cell_of (ca_row (xs := [c.take (min ((c.length : Nat) : Int) (25 : Int)).toNat, r1, rfirstM ((1 : Int) + (pickM n (6 : Int))) (madeM ((1 : Int) + (pickM n (6 : Int))) x)]) rfl ((encSl eInt).wd true) s693) rfl) ?_)
                refine cL rfl (o_assign (v := .lst _ _ _) rfl ?_)
                refine eL ?_
                refine W.tr [(4, .lst _ _ _), (11, .lst _ _ _), (12, .int _ _), (13, .lst _ _ _), (14, .lst _ _ _), (15, .lst _ _ _), (20, .lst _ _ _), (24, .lst _ _ _), (84, .ref _ _ _), (85, .int _ _), (86, .int _ _), (115, .ref _ _ _), (116, .int _ _), (117, .int _ _)] [.dead, .dead, .row _ _ _, .dead, .row _ _ _] ⟨rfl, rfl, rfl, rfl, rfl, rfl, rfl, rfl, rfl, rfl, rfl, rfl, rfl, rfl, trivial⟩ rfl ?_
                refine W.rL ?_
                refine cL rfl (o_move (v := .lst _ _ _) rfl ?_)
                refine cL rfl (o_move (v := .lst _ _ _) rfl ?_)
                obtain ⟨s694, hv⟩ := hv
                obtain ⟨s695, hv⟩ := hv
                refine cL rfl (o_callP1 (k := 31) (fst := []) (caps := []) (ys := [.lst _ _ _, .lst _ _ _]) rfl rfl (spec_cycle (lat [raw.take 40, madeM ((1 : Int) + (pickM n (6 : Int))) x] v86) (lat [c.take (min ((c.length : Nat) : Int) (25 : Int)).toNat, r1, rfirstM ((1 : Int) + (pickM n (6 : Int))) (madeM ((1 : Int) + (pickM n (6 : Int))) x)] v117) s694 s695) (Wks.cons (ag_lst _ _ _ _ _) (Wks.cons (ag_lst _ _ _ _ _) (Wks.refl _))) ?_)
                refine cL rfl (o_move (v := .lst _ _ _) rfl ?_)
                refine cL rfl (o_move (v := .lst _ _ _) rfl ?_)
                obtain ⟨s696, hv⟩ := hv
                obtain ⟨s697, hv⟩ := hv
                refine cL rfl (o_callP1 (k := 32) (fst := []) (caps := []) (ys := [.lst _ _ _, .lst _ _ _]) rfl rfl (spec_rcycle (lat [raw.take 40, madeM ((1 : Int) + (pickM n (6 : Int))) x] v86) (lat [c.take (min ((c.length : Nat) : Int) (25 : Int)).toNat, r1, rfirstM ((1 : Int) + (pickM n (6 : Int))) (madeM ((1 : Int) + (pickM n (6 : Int))) x)] v117) s696 s697) (Wks.cons (ag_lst _ _ _ _ _) (Wks.cons (ag_lst _ _ _ _ _) (Wks.refl _))) ?_)
                refine cL rfl (o_neB rfl tt4 rfl rfl ?_)
                refine eL ?_
                refine W.tr [(4, .lst _ _ _), (11, .lst _ _ _), (12, .int _ _), (13, .lst _ _ _), (14, .lst _ _ _), (15, .lst _ _ _), (20, .lst _ _ _), (84, .ref _ _ _), (85, .int _ _), (86, .int _ _), (115, .ref _ _ _), (116, .int _ _), (117, .int _ _), (127, .bool _)] [.dead, .dead, .row _ _ _, .dead, .row _ _ _] ⟨rfl, rfl, rfl, rfl, rfl, rfl, rfl, rfl, rfl, rfl, rfl, rfl, rfl, rfl, trivial⟩ rfl ?_
                refine W.cn rfl (fun hc => ?_) (fun hc => ?_)
                · have hv := hv.1 hc
                  refine W.rL ?_
                  refine cL rfl (o_assign (v := .bool _) rfl ?_)
                  refine eL ?_
                  refine W.tr [(10, .bool _)] [.dead, .dead, .row _ _ _, .dead, .row _ _ _] ⟨rfl, trivial⟩ rfl ?_
                  refine W.ret ?_
                  refine bl_ret (th_ret (th_ret (bl_ret (bl_ret (th_ret (th_ret (bl_ret (th_ret (rt ?_)))))))))
                  refine rt_t (v := .bool _) rfl ?_
                  refine rt_n ?_
                  exact ⟨_, rs_bool _ _ _, false, rfl, hv⟩
                · have hv := hv.2 hc
                  refine W.skip ?_
                  refine bl_nrm (th_nrm ?_)
                  refine W.tr [(4, .lst _ _ _), (11, .lst _ _ _), (12, .int _ _), (13, .lst _ _ _), (14, .lst _ _ _), (15, .lst _ _ _), (20, .lst _ _ _), (84, .ref _ _ _), (85, .int _ _), (86, .int _ _), (115, .ref _ _ _), (116, .int _ _), (117, .int _ _)] [.dead, .dead, .row _ _ _, .dead, .row _ _ _] ⟨rfl, rfl, rfl, rfl, rfl, rfl, rfl, rfl, rfl, rfl, rfl, rfl, rfl, trivial⟩ rfl ?_
                  refine W.rL1 ?_
                  obtain ⟨s698, hv⟩ := hv
                  refine cL rfl (o_add rfl rfl s698 ?_)
                  refine cL rfl (o_move (v := .int _ _) rfl ?_)
                  refine eL ?_
                  exact th_nrm (⟨(), (v117 + (1 : Int)), hv, St.to_mk (φ := [none, none, some 2, none, some 4]) rfl (.inl rfl) ⟨Ren.lst _ _ _, Ren.lst _ _ _, Ren.int _ _, Ren.lst _ _ _, Ren.lst _ _ _, Ren.lst _ _ _, Ren.lst _ _ _, Ren.ref rfl (fun h => h), Ren.int _ _, Ren.int _ _, Ren.ref rfl (fun h => h), Ren.int _ _, Ren.int _ _, trivial⟩ ⟨rfl, rfl, .inr ⟨_, rfl, rfl, rfl, rfl, Rens.enc (encSl e25) true [raw.take 40, madeM ((1 : Int) + (pickM n (6 : Int))) x]⟩, rfl, .inr ⟨_, rfl, rfl, rfl, rfl, Rens.enc (encSl eInt) true [c.take (min ((c.length : Nat) : Int) (25 : Int)).toNat, r1, rfirstM ((1 : Int) + (pickM n (6 : Int))) (madeM ((1 : Int) + (pickM n (6 : Int))) x)]⟩, trivial⟩⟩)
              · have hv := hv.2 hc
                refine W.exit ?_
                refine th_exit (th_exit (bl_hit (bl_nrm (th_nrm ?_))))
                refine W.tr [(4, .lst _ _ _), (11, .lst _ _ _), (12, .int _ _), (13, .lst _ _ _), (14, .lst _ _ _), (15, .lst _ _ _), (84, .ref _ _ _), (85, .int _ _), (86, .int _ _)] [.dead, .dead, .row _ _ _, .dead, .row _ _ _] ⟨rfl, rfl, rfl, rfl, rfl, rfl, rfl, rfl, rfl, trivial⟩ rfl ?_
                refine W.rL1 ?_
                obtain ⟨s699, hv⟩ := hv
                refine cL rfl (o_add rfl rfl s699 ?_)
                refine cL rfl (o_move (v := .int _ _) rfl ?_)
                refine eL ?_
                exact th_nrm (⟨(), (v86 + (1 : Int)), hv, St.to_mk (φ := [none, none, some 2]) rfl (.inl rfl) ⟨Ren.lst _ _ _, Ren.lst _ _ _, Ren.int _ _, Ren.lst _ _ _, Ren.lst _ _ _, Ren.lst _ _ _, Ren.ref rfl (fun h => h), Ren.int _ _, Ren.int _ _, trivial⟩ ⟨rfl, rfl, .inr ⟨_, rfl, rfl, rfl, rfl, Rens.enc (encSl e25) true [raw.take 40, madeM ((1 : Int) + (pickM n (6 : Int))) x]⟩, trivial⟩⟩)
          · have hv := hv.2 hc
            refine W.exit ?_
            refine th_exit (th_exit (bl_hit (th_nrm ?_)))
            refine W.tr [] [.dead, .dead, .row _ _ _] trivial rfl ?_
            refine W.rL ?_
            refine cL rfl (o_assign (v := .bool _) rfl ?_)
            refine eL ?_
            refine W.tr [(10, .bool _)] [.dead, .dead, .row _ _ _] ⟨rfl, trivial⟩ rfl ?_
            refine W.ret ?_
            refine rt ?_
            refine rt_t (v := .bool _) rfl ?_
            refine rt_n ?_
            exact ⟨_, rs_bool _ _ _, true, rfl, hv⟩
theorem vcp_CheckedMatchesReference (raw : (List Con)) (n : Int) (x : (List A3)) (values : (List Int)) (c : (List Int)) (h0 : ∀ c ∈ raw, inI c.f ∧ inI c.t ∧ inI c.m ∧ inI c.a) (h1 : inI n) (h2 : ∀ y ∈ x, inI y.x0 ∧ inI y.x1 ∧ inI y.x2) (h3 : ∀ v ∈ values, inI v) (h4 : ∀ v ∈ c, inI v) : vc_CheckedMatchesReference raw n x values c (fun q0 => q0 = (true)) := by
  unfold vc_CheckedMatchesReference
  have hm := pickM_nonneg (c := n) (n := 6) (by omega)
  generalize hM : (1 : Int) + pickM n 6 = m
  have hm1 : 1 ≤ m ∧ m ≤ 24 := by omega
  have hv := made_valid (n := m) (x := x) hm1
  have hll := made_len (n := m) (x := x)
  have hrf := rfirst_len hv
  have hfo : FirstOk m (madeM m x) := hv
  generalize rfirstM m (madeM m x) = rf at hrf
  generalize madeM m x = l at hv hll hfo
  have hrl : (raw.take 40).length ≤ 40 := by rw [List.length_take]; omega
  generalize raw.take 40 = rw0 at hrl
  have hvl : (values.take (min ((values.length : Nat) : Int) 25).toNat).length ≤ 25 := by rw [List.length_take]; omega
  have hvm : ∀ v ∈ values.take (min ((values.length : Nat) : Int) 25).toNat, inI v := fun v hv => h3 v (List.mem_of_mem_take hv)
  have hcl : (c.take (min ((c.length : Nat) : Int) 25).toNat).length ≤ 25 := by rw [List.length_take]; omega
  generalize values.take (min ((values.length : Nat) : Int) 25).toNat = vs at hvl hvm
  generalize c.take (min ((c.length : Nat) : Int) 25).toNat = cs at hcl
  refine ⟨fun h => (h rfl).elim, fun _ => ⟨by omega, h1, by omega, by unfold inI; omega, by omega, by omega, h2, fun i r => ∃ k : Nat, i = k ∧ k ≤ m ∧ r.length = k, fun i _ => m.toNat - i.toNat, ⟨0, rfl, by omega, rfl⟩, ?_⟩⟩
  rintro _ r0 ⟨k, rfl, hk, hr0⟩
  refine ⟨fun k1 => ⟨fun _ => True, fun v _ => ⟨by simp; omega, by unfold inI; omega, ⟨k + 1, by omega, by omega, by simp; omega⟩, by dsimp only; omega⟩, fun k2 => ⟨by omega, hvm _ (lat_mem ⟨by omega, by omega⟩), by omega, trivial⟩, fun _ => trivial⟩, fun k1 => ⟨fun i r => ∃ k : Nat, i = k ∧ k ≤ 25 ∧ r.length = k, fun i _ => 25 - i.toNat, ⟨0, rfl, by omega, rfl⟩, ?_⟩⟩
  rintro _ r1 ⟨q, rfl, hq, hr1⟩
  refine ⟨fun k2 => ⟨by omega, h4 _ (lat_mem ⟨by omega, by omega⟩), by omega, by simp; omega, by unfold inI; omega, ⟨q + 1, by omega, by omega, by simp; omega⟩, by dsimp only; omega⟩, fun k2 => ⟨fun i => ∃ k : Nat, i = k ∧ k ≤ 2, fun i => 2 - i.toNat, ⟨0, rfl, by omega⟩, ?_⟩⟩
  rintro _ ⟨i, rfl, hi⟩
  refine ⟨fun k3 => ⟨by simp; omega, fun i => ∃ k : Nat, i = k ∧ k ≤ 2, fun i => 2 - i.toNat, ⟨0, rfl, by omega⟩, ?_⟩, fun _ => rfl⟩
  have hy : (lat [rw0, l] (i : Int)).length ≤ 40 := by
    match i, hi with
    | 0, _ => exact hrl
    | 1, _ => exact Nat.le_trans hll (by omega)
    | 2, _ => omega
  rintro _ ⟨j, rfl, hj⟩
  refine ⟨fun k4 => ?_, fun k4 => ⟨by omega, hfo, fun i => ∃ k : Nat, i = k ∧ k ≤ 3, fun i => 3 - i.toNat, ⟨0, rfl, by omega⟩, ?_⟩⟩
  · have hz : (lat [vs, r0] (j : Int)).length ≤ 1073741824 := by
      match j, hj with
      | 0, _ => exact Nat.le_trans hvl (by omega)
      | 1, _ => show r0.length ≤ _; omega
      | 2, _ => omega
    refine ⟨by simp; omega, by omega, hz, by omega, hz, fun h => (h rfl).elim, fun _ => ⟨by unfold inI; omega, ⟨j + 1, by omega, by omega⟩, by dsimp only; omega⟩⟩
  · rintro _ ⟨w, rfl, hw⟩
    refine ⟨fun k5 => ?_, fun k5 => ⟨by unfold inI; omega, ⟨i + 1, by omega, by omega⟩, by dsimp only; omega⟩⟩
    have hz : (lat [cs, r1, rf] (w : Int)).length ≤ 1073741824 := by
      match w, hw with
      | 0, _ => exact Nat.le_trans hcl (by omega)
      | 1, _ => show r1.length ≤ _; omega
      | 2, _ => exact Nat.le_trans hrf (by omega)
      | 3, _ => omega
    refine ⟨by simp; omega, by omega, hz, by omega, hz, fun h => (h rfl).elim, fun _ => ⟨by unfold inI; omega, ⟨w + 1, by omega, by omega⟩, by dsimp only; omega⟩⟩
theorem spec_CheckedMatchesReference (raw : (List Con)) (n : Int) (x : (List A3)) (values : (List Int)) (c : (List Int)) (h0 : ∀ c ∈ raw, inI c.f ∧ inI c.t ∧ inI c.m ∧ inI c.a) (h1 : inI n) (h2 : ∀ y ∈ x, inI y.x0 ∧ inI y.x1 ∧ inI y.x2) (h3 : ∀ v ∈ values, inI v) (h4 : ∀ v ∈ c, inI v) : FnP Try.prog 4 [.lst true raw.length (encL e25 raw), .int .i64 n, .lst true x.length (encL e26 x), .lst true values.length (encL eInt values), .lst true c.length (encL eInt c)] (fun xR => xR = .bool (true)) :=
  (walk_CheckedMatchesReference (vcp_CheckedMatchesReference raw n x values c h0 h1 h2 h3 h4)).mono (by rintro _ ⟨_, rfl, rfl⟩; rfl)
end Go.Lat
