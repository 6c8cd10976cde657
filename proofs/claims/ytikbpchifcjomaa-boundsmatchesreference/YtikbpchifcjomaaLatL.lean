/- The law latecomerlaw07.BoundsMatchesReference returns true for every input, and each argument reads afterwards as it read before. Part 12 of 13. No condition. -/
import Derived.Test.YtikbpchifcjomaaLatD
import Derived.Test.YtikbpchifcjomaaLatE
import Derived.Test.YtikbpchifcjomaaLatF
import Derived.Test.YtikbpchifcjomaaLatG
import Derived.Test.YtikbpchifcjomaaLatH
import Derived.Test.YtikbpchifcjomaaLatI
import Derived.Test.YtikbpchifcjomaaLatJ
import Derived.Test.YtikbpchifcjomaaLatK
set_option linter.unusedVariables false
set_option linter.unusedSimpArgs false
set_option linter.unnecessarySimpa false
namespace Go.Lat
open Go.RowKit Go.Proofs
attribute [local irreducible] closeM rangeM pointM addBM cycleM holdsM validBM sameM madeM pickM plusM validM possM firstM tableM longerM boundsM ofM addM freeM
def vc_MatchesReference (n : Int) (raw : (List Con)) (x : (List A3)) (c : Con) (v : A3) (most : Int) (Post : Bool → Prop) : Prop :=
  ((¬ true = true) → Post false) ∧ (¬ (¬ true = true) → ∃ J1 : Int → Prop, (∀ (v13 : Int), J1 v13 → (1 ≤ (max v13 (1 : Int))) ∧ ((max v13 (1 : Int)) ≤ 1000) ∧ (∀ y ∈ x, inI y.x0 ∧ inI y.x1 ∧ inI y.x2) ∧ (∀ y, madeM (max v13 (1 : Int)) x = y → ∃ (I2 : Int → Prop) (μ2 : Int → Nat), I2 (0 : Int) ∧ ∀ (v67 : Int), I2 v67 → ((v67 < ((2 : Nat) : Int)) → ∃ J3 : Prop, (J3 → (inI (v67 + (1 : Int))) ∧ (I2 (v67 + (1 : Int)) ∧ μ2 (v67 + (1 : Int)) < μ2 v67)) ∧ ((0 ≤ v67 ∧ v67 < (([raw.take 40, y].length : Nat) : Int)) ∧ ((lat [raw.take 40, y] v67).length ≤ 1073741824) ∧ (∀ y_1, closeM v13 (lat [raw.take 40, y] v67) = y_1 → ((lat [raw.take 40, y] v67).length ≤ 1073741824) ∧ (∀ y_2, closeM v13 (lat [raw.take 40, y] v67) = y_2 → (((¬ y_1.2.2 = y_2.2.2) → True) ∧ (¬ (¬ y_1.2.2 = y_2.2.2) → (y_1.1.most.length ≤ 1073741824) ∧ (∀ r ∈ y_1.1.most, r.length ≤ 1073741824) ∧ ((¬ ((sameM y_1.1 y_2.1) = true)) → True) ∧ (¬ (¬ ((sameM y_1.1 y_2.1) = true)) → (y_1.2.1.length ≤ 1073741824) ∧ True))) ∧ ((((¬ y_1.2.2 = y_2.2.2) ∨ ((¬ ((sameM y_1.1 y_2.1) = true)) ∨ (¬ (y_1.2.1 = y_2.2.1)))) → Post false) ∧ (¬ ((¬ y_1.2.2 = y_2.2.2) ∨ ((¬ ((sameM y_1.1 y_2.1) = true)) ∨ (¬ (y_1.2.1 = y_2.2.1)))) → ((¬ y_1.2.2 = (0 : Int)) → J3) ∧ (¬ (¬ y_1.2.2 = (0 : Int)) → (inI v.x0) ∧ (1 ≤ ((y_2.1).n)) ∧ (inI v.x1) ∧ (1 ≤ ((y_2.1).n)) ∧ ∃ (I4 : Int → Int → List (List Int) → Prop) (μ4 : Int → Int → List (List Int) → Nat), I4 (0 : Int) ((y_2.1).n) [] ∧ ∀ (v25 : Int) (b5n : Int) (r6 : List (List Int)), I4 v25 b5n r6 → ((v25 < ((((y_2.1).most).length : Nat) : Int)) → (0 ≤ v25 ∧ v25 < (((y_2.1).most).length : Int)) ∧ ((lat ((y_2.1).most) v25).length ≤ 1073741824) ∧ ∃ J5 : List Int → Prop, (∀ (r8 : List Int), J5 r8 → ((r6 ++ [r8]).length ≤ 1073741824) ∧ (inI (v25 + (1 : Int))) ∧ (I4 (v25 + (1 : Int)) b5n (r6 ++ [r8]) ∧ μ4 (v25 + (1 : Int)) b5n (r6 ++ [r8]) < μ4 v25 b5n r6)) ∧ (((v25 = pickM v.x0 ((y_2.1).n)) → (0 ≤ (pickM v.x1 ((y_2.1).n)) ∧ (pickM v.x1 ((y_2.1).n)) < (((lat ((y_2.1).most) v25).length : Nat) : Int)) ∧ J5 ((lat ((y_2.1).most) v25).set (pickM v.x1 ((y_2.1).n)).toNat most)) ∧ (¬ (v25 = pickM v.x0 ((y_2.1).n)) → J5 (lat ((y_2.1).most) v25)))) ∧ (¬ (v25 < ((((y_2.1).most).length : Nat) : Int)) → (0 ≤ (1 : Int) ∧ (1 : Int) ≤ (((y_2.1).most).length : Int) ∧ (((y_2.1).most).length : Int) ≤ (((y_2.1).most).length : Int)) ∧ ∃ (I6 : Int → Prop) (μ6 : Int → Nat), I6 (0 : Int) ∧ ∀ (v152 : Int), I6 v152 → ((v152 < ((3 : Nat) : Int)) → (0 ≤ v152 ∧ v152 < (([y_2.1, (Bd.mk b5n r6), (Bd.mk ((y_2.1).n) (((y_2.1).most).drop (1 : Int).toNat))].length : Nat) : Int)) ∧ (∀ y_3, lat [y_2.1, (Bd.mk b5n r6), (Bd.mk ((y_2.1).n) (((y_2.1).most).drop (1 : Int).toNat))] v152 = y_3 → (inI c.m) ∧ (1 ≤ (40 : Int)) ∧ (inI ((pickM c.m (40 : Int)) - (20 : Int))) ∧ ∃ (I7 : Int → Prop) (μ7 : Int → Nat), I7 (0 : Int) ∧ ∀ (v170 : Int), I7 v170 → ((v170 < ((2 : Nat) : Int)) → (0 ≤ v170 ∧ v170 < (([c, (Con.mk (pickM v.x0 ((y_2.1).n)) (pickM v.x1 ((y_2.1).n)) ((pickM c.m (40 : Int)) - (20 : Int)) c.a)].length : Nat) : Int)) ∧ (∀ y_4, lat [c, (Con.mk (pickM v.x0 ((y_2.1).n)) (pickM v.x1 ((y_2.1).n)) ((pickM c.m (40 : Int)) - (20 : Int)) c.a)] v170 = y_4 → (y_3.most.length ≤ 1073741824) ∧ (∀ r ∈ y_3.most, r.length ≤ 1073741824) ∧ (y_3.most.length ≤ 1073741824) ∧ (∀ r ∈ y_3.most, r.length ≤ 1073741824) ∧ (((¬ (addBM y_3 y_4).2.2 = (addBM y_3 y_4).2.2) → True) ∧ (¬ (¬ (addBM y_3 y_4).2.2 = (addBM y_3 y_4).2.2) → ((¬ ((addBM y_3 y_4).2.1) = ((addBM y_3 y_4).2.1)) → True) ∧ (¬ (¬ ((addBM y_3 y_4).2.1) = ((addBM y_3 y_4).2.1)) → (((addBM y_3 y_4).1).most.length ≤ 1073741824) ∧ (∀ r ∈ ((addBM y_3 y_4).1).most, r.length ≤ 1073741824) ∧ True))) ∧ ((((¬ (addBM y_3 y_4).2.2 = (addBM y_3 y_4).2.2) ∨ ((¬ ((addBM y_3 y_4).2.1) = ((addBM y_3 y_4).2.1)) ∨ (¬ ((sameM ((addBM y_3 y_4).1) ((addBM y_3 y_4).1)) = true)))) → Post false) ∧ (¬ ((¬ (addBM y_3 y_4).2.2 = (addBM y_3 y_4).2.2) ∨ ((¬ ((addBM y_3 y_4).2.1) = ((addBM y_3 y_4).2.1)) ∨ (¬ ((sameM ((addBM y_3 y_4).1) ((addBM y_3 y_4).1)) = true)))) → (inI (v170 + (1 : Int))) ∧ (I7 (v170 + (1 : Int)) ∧ μ7 (v170 + (1 : Int)) < μ7 v170))))) ∧ (¬ (v170 < ((2 : Nat) : Int)) → ∃ (I8 : Int → Prop) (μ8 : Int → Nat), I8 (0 : Int) ∧ ∀ (v208 : Int), I8 v208 → ((v208 < ((2 : Nat) : Int)) → (0 ≤ v208 ∧ v208 < (([pickM v.x1 ((y_2.1).n), v.x1].length : Nat) : Int)) ∧ (∀ y_4, lat [pickM v.x1 ((y_2.1).n), v.x1] v208 = y_4 → (y_3.most.length ≤ 1073741824) ∧ (∀ r ∈ y_3.most, r.length ≤ 1073741824) ∧ (∀ y_5, rangeM y_3 (pickM v.x0 ((y_2.1).n)) y_4 = y_5 → (y_3.most.length ≤ 1073741824) ∧ (∀ r ∈ y_3.most, r.length ≤ 1073741824) ∧ (∀ y_6, rangeM y_3 (pickM v.x0 ((y_2.1).n)) y_4 = y_6 → (((¬ y_5.2.2 = y_6.2.2) ∨ ((¬ y_5.1 = y_6.1) ∨ (¬ y_5.2.1 = y_6.2.1))) → Post false) ∧ (¬ ((¬ y_5.2.2 = y_6.2.2) ∨ ((¬ y_5.1 = y_6.1) ∨ (¬ y_5.2.1 = y_6.2.1))) → (inI (y_5.1 - (1 : Int))) ∧ ∃ (I9 : Int → Prop) (μ9 : Int → Nat), I9 (0 : Int) ∧ ∀ (v249 : Int), I9 v249 → ((v249 < ((4 : Nat) : Int)) → (0 ≤ v249 ∧ v249 < (([v.x2, y_5.1, y_5.2.1, (y_5.1 - (1 : Int))].length : Nat) : Int)) ∧ (∀ y_7, lat [v.x2, y_5.1, y_5.2.1, (y_5.1 - (1 : Int))] v249 = y_7 → (y_3.most.length ≤ 1073741824) ∧ (∀ r ∈ y_3.most, r.length ≤ 1073741824) ∧ (∀ y_8, pointM y_3 (pickM v.x0 ((y_2.1).n)) y_4 y_7 = y_8 → (y_3.most.length ≤ 1073741824) ∧ (∀ r ∈ y_3.most, r.length ≤ 1073741824) ∧ (∀ y_9, pointM y_3 (pickM v.x0 ((y_2.1).n)) y_4 y_7 = y_9 → (((¬ y_8.2 = y_9.2) → True) ∧ (¬ (¬ y_8.2 = y_9.2) → (y_8.1.length ≤ 1073741824) ∧ True)) ∧ ((((¬ y_8.2 = y_9.2) ∨ (¬ (y_8.1 = y_9.1))) → Post false) ∧ (¬ ((¬ y_8.2 = y_9.2) ∨ (¬ (y_8.1 = y_9.1))) → (inI (v249 + (1 : Int))) ∧ (I9 (v249 + (1 : Int)) ∧ μ9 (v249 + (1 : Int)) < μ9 v249))))))) ∧ (¬ (v249 < ((4 : Nat) : Int)) → (inI (v208 + (1 : Int))) ∧ (I8 (v208 + (1 : Int)) ∧ μ8 (v208 + (1 : Int)) < μ8 v208))))))) ∧ (¬ (v208 < ((2 : Nat) : Int)) → ((y_3.most.length ≤ 1073741824) ∧ (∀ r ∈ y_3.most, r.length ≤ 1073741824) ∧ (y_3.most.length ≤ 1073741824) ∧ (∀ r ∈ y_3.most, r.length ≤ 1073741824) ∧ ((¬ (validBM y_3) = (validBM y_3)) → True) ∧ (¬ (¬ (validBM y_3) = (validBM y_3)) → (y_3.most.length ≤ 1073741824) ∧ (∀ r ∈ y_3.most, r.length ≤ 1073741824) ∧ (y_3.most.length ≤ 1073741824) ∧ (∀ r ∈ y_3.most, r.length ≤ 1073741824) ∧ True)) ∧ ((((¬ (validBM y_3) = (validBM y_3)) ∨ (¬ (sameM y_3 y_2.1) = (sameM y_3 y_2.1))) → Post false) ∧ (¬ ((¬ (validBM y_3) = (validBM y_3)) ∨ (¬ (sameM y_3 y_2.1) = (sameM y_3 y_2.1))) → (inI (v152 + (1 : Int))) ∧ (I6 (v152 + (1 : Int)) ∧ μ6 (v152 + (1 : Int)) < μ6 v152))))))) ∧ (¬ (v152 < ((3 : Nat) : Int)) → J3))))))))) ∧ (¬ (v67 < ((2 : Nat) : Int)) → Post true))) ∧ ((((0 : Int) < n) → (inI n) ∧ (1 ≤ (40 : Int)) ∧ J1 (pickM n (40 : Int))) ∧ (¬ ((0 : Int) < n) → J1 n)))
set_option maxRecDepth 100000 in
set_option maxHeartbeats 4000000 in
theorem walk_MatchesReference {n : Int} {raw : (List Con)} {x : (List A3)} {c : Con} {v : A3} {most : Int} {Post : Bool → Prop} (hv : vc_MatchesReference n raw x c v most Post) : FnP Try.prog 3 [.int .i64 n, .lst true raw.length (encL e25 raw), .lst true x.length (encL e26 x), .agg (e25 c), .agg (e26 v), .int .i64 most] (fun x => ∃ q0, x = .bool q0 ∧ Post q0) := by
 refine FnP.of_walk (T := tt) (nt := 296) ttOk ttMix ⟨⟨Try.f3, Try.func3, rfl, rfl, rfl, rfl⟩⟩ (by simp) ?_
 unfold vc_MatchesReference at hv
 change W _ _ _ ⟨296, look [(0, .int .i64 n), (1, .lst true raw.length (encL e25 raw)), (2, .lst true x.length (encL e26 x)), (3, .agg [.int .i64 c.f, .int .i64 c.t, .int .i64 c.m, .int .i64 c.a]), (4, .agg [.int .i64 v.x0, .int .i64 v.x1, .int .i64 v.x2]), (5, .int .i64 most)], [], false⟩ _
 refine W.tr [(0, .int _ _), (1, .lst _ _ _), (2, .lst _ _ _), (3, .agg _), (4, .agg _), (5, .int _ _)] [] ⟨rfl, rfl, rfl, rfl, rfl, rfl, trivial⟩ rfl ?_
 refine W.rL ?_
 refine cL rfl (o_box (v := .agg _) (p := 0) rfl rfl rfl ?_)
 refine cL rfl (o_box (v := .agg _) (p := 1) rfl rfl rfl ?_)
 refine aB rfl rfl ?_
 refine eL ?_
 refine W.tr [(0, .int _ _), (1, .lst _ _ _), (2, .lst _ _ _), (5, .int _ _), (9, .ptr _ _), (10, .ptr _ _)] [.box _ [.int _ _, .int _ _, .int _ _, .int _ _], .box _ [.int _ _, .int _ _, .int _ _]] ⟨rfl, rfl, rfl, rfl, rfl, rfl, trivial⟩ rfl ?_
 refine W.seq' ?_
 refine W.rL ?_
 refine cL rfl (o_callP1 (k := 11) (fst := []) (caps := []) (ys := []) rfl rfl (spec_sane) (Wks.refl _) ?_)
 refine cL rfl (o_notB rfl ?_)
 refine eL ?_
 refine W.tr [(0, .int _ _), (1, .lst _ _ _), (2, .lst _ _ _), (5, .int _ _), (9, .ptr _ _), (10, .ptr _ _), (53, .bool _)] [.box _ [.int _ _, .int _ _, .int _ _, .int _ _], .box _ [.int _ _, .int _ _, .int _ _]] ⟨rfl, rfl, rfl, rfl, rfl, rfl, rfl, trivial⟩ rfl ?_
 refine W.cn rfl (fun hc => ?_) (fun hc => ?_)
 have hv := hv.1 hc
 refine W.rL ?_
 refine aB rfl rfl ?_
 refine eL ?_
 refine W.tr [(12, .bool _)] [.box _ [.int _ _, .int _ _, .int _ _, .int _ _], .box _ [.int _ _, .int _ _, .int _ _]] ⟨rfl, trivial⟩ rfl ?_
 refine W.ret ?_
 refine th_ret (rt ?_)
 refine rt_t (v := .bool _) rfl ?_
 refine rt_n ?_
 exact ⟨_, rs_bool _ _ _, false, rfl, hv⟩
 have hv := hv.2 hc
 refine W.skip ?_
 refine th_nrm ?_
 refine W.tr [(0, .int _ _), (1, .lst _ _ _), (2, .lst _ _ _), (5, .int _ _), (9, .ptr _ _), (10, .ptr _ _)] [.box _ [.int _ _, .int _ _, .int _ _, .int _ _], .box _ [.int _ _, .int _ _, .int _ _]] ⟨rfl, rfl, rfl, rfl, rfl, rfl, trivial⟩ rfl ?_
 refine W.rL ?_
 refine mI rfl rfl ?_
 refine aI rfl rfl ?_
 refine eL ?_
 refine W.tr [(0, .int _ _), (1, .lst _ _ _), (2, .lst _ _ _), (5, .int _ _), (9, .ptr _ _), (10, .ptr _ _), (13, .int _ _)] [.box _ [.int _ _, .int _ _, .int _ _, .int _ _], .box _ [.int _ _, .int _ _, .int _ _]] ⟨rfl, rfl, rfl, rfl, rfl, rfl, rfl, trivial⟩ rfl ?_
 obtain ⟨J1, hj, hv⟩ := hv
 refine W.mid1 (fun v13 => ⟨296, look [(1, .lst true raw.length (encL e25 raw)), (2, .lst true x.length (encL e26 x)), (5, .int .i64 most), (9, .ptr 0 0), (10, .ptr 1 0), (13, .int .i64 v13)], [.box 25 [.int .i64 c.f, .int .i64 c.t, .int .i64 c.m, .int .i64 c.a], .box 26 [.int .i64 v.x0, .int .i64 v.x1, .int .i64 v.x2]], false⟩) J1 ?_ ?_
 intro v13
 intro hv
 replace hv := hj v13 hv
 refine W.seq' ?_
 refine W.rL ?_
 refine mL rfl rfl ?_
 refine cL rfl (o_callS1 (k := 13) (fst := []) (caps := []) (ys := [.lst _ _ _]) rfl rfl (spec_few raw) (Wks.cons (ag_lst _ _ _ _ _) (Wks.refl _)) ?_)
 refine mI rfl rfl ?_
 refine cL rfl (o_max rfl rfl ?_)
 refine mL rfl rfl ?_
 obtain ⟨s6552, s6553, s6554, hv⟩ := hv
 refine cL rfl (o_callP1 (k := 14) (fst := []) (caps := []) (ys := [.int _ _, .lst _ _ _]) rfl rfl (spec_made (max v13 (1 : Int)) x s6552 s6553 s6554) (Wks.cons (ag_int _ _ _ _) (Wks.cons (ag_lst _ _ _ _ _) (Wks.refl _))) ?_)
 refine cL rfl (o_buildS (q := 2) (qs := [(0, .lst _ _ _), (1, .lst _ _ _)]) (cs := [.lst _ _ _, .lst _ _ _]) tt31 tt22 rfl rfl rfl rfl ?_)
 refine cL rfl (o_len (v := .ref _ _ _) tt31 rfl rfl ?_)
 refine mI rfl rfl ?_
 refine eL ?_
 refine W.tr [(5, .int _ _), (9, .ptr _ _), (10, .ptr _ _), (13, .int _ _), (65, .ref _ _ _), (66, .int _ _), (67, .int _ _)] [.box _ [.int _ _, .int _ _, .int _ _, .int _ _], .box _ [.int _ _, .int _ _, .int _ _], .row _ _ _] ⟨rfl, rfl, rfl, rfl, rfl, rfl, rfl, trivial⟩ rfl ?_
 refine W.to (st' := ⟨296, look [(5, .int .i64 most), (9, .ptr 0 0), (10, .ptr 1 0), (13, .int .i64 v13), (65, .ref false 2 2), (66, .int .i64 ((2 : Nat) : Int)), (67, .int .i64 (0 : Int))], [.box 25 [.int .i64 c.f, .int .i64 c.t, .int .i64 c.m, .int .i64 c.a], .box 26 [.int .i64 v.x0, .int .i64 v.x1, .int .i64 v.x2], .row 22 1 (encL (eSl e25 true) [raw.take 40, madeM (max v13 (1 : Int)) x])], false⟩) (St.to_mk (φ := [some 0, some 1, some 2]) rfl (.inl rfl) ⟨Ren.int _ _, Ren.ptr rfl, Ren.ptr rfl, Ren.int _ _, Ren.ref rfl (fun h => h), Ren.int _ _, Ren.int _ _, trivial⟩ ⟨.inr ⟨_, rfl, rfl, Rens.cons (Ren.int _ _) (Rens.cons (Ren.int _ _) (Rens.cons (Ren.int _ _) (Rens.cons (Ren.int _ _) (Rens.nil))))⟩, .inr ⟨_, rfl, rfl, Rens.cons (Ren.int _ _) (Rens.cons (Ren.int _ _) (Rens.cons (Ren.int _ _) (Rens.nil)))⟩, .inr ⟨_, rfl, rfl, rfl, rfl, Rens.cons (Ren.lstT _ _ _) (Rens.cons (Ren.lstT _ _ _) (Rens.nil))⟩, trivial⟩) ?_
 generalize hy : madeM (max v13 (1 : Int)) x = y
 replace hv := hv y hy
 clear hy
 refine W.block ?_
 obtain ⟨I2, μ2, hp, hv⟩ := hv
 refine W.loop1 (fun v67 => ⟨296, look [(5, .int .i64 most), (9, .ptr 0 0), (10, .ptr 1 0), (13, .int .i64 v13), (65, .ref false 2 ([raw.take 40, y].length)), (66, .int .i64 ((2 : Nat) : Int)), (67, .int .i64 v67)], [.box 25 [.int .i64 c.f, .int .i64 c.t, .int .i64 c.m, .int .i64 c.a], .box 26 [.int .i64 v.x0, .int .i64 v.x1, .int .i64 v.x2], .row 22 1 (encL (eSl e25 true) [raw.take 40, y])], false⟩) I2 μ2 (0 : Int) (St.to_mk (φ := [some 0, some 1, some 2]) rfl (.inl rfl) ⟨Ren.int _ _, Ren.ptr rfl, Ren.ptr rfl, Ren.int _ _, Ren.ref rfl (fun h => h), Ren.int _ _, Ren.int _ _, trivial⟩ ⟨.inr ⟨_, rfl, rfl, Rens.cons (Ren.int _ _) (Rens.cons (Ren.int _ _) (Rens.cons (Ren.int _ _) (Rens.cons (Ren.int _ _) (Rens.nil))))⟩, .inr ⟨_, rfl, rfl, Rens.cons (Ren.int _ _) (Rens.cons (Ren.int _ _) (Rens.cons (Ren.int _ _) (Rens.nil)))⟩, .inr ⟨_, rfl, rfl, rfl, rfl, Rens.enc (encSl e25) true [raw.take 40, y]⟩, trivial⟩) hp ?_
 clear hp
 intro v67 hI
 replace hv := hv v67 hI
 clear hI
 refine W.rL ?_
 refine cL rfl (o_lss rfl rfl ?_)
 refine eL ?_
 refine W.tr [(5, .int _ _), (9, .ptr _ _), (10, .ptr _ _), (13, .int _ _), (65, .ref _ _ _), (66, .int _ _), (67, .int _ _), (68, .bool _)] [.box _ [.int _ _, .int _ _, .int _ _, .int _ _], .box _ [.int _ _, .int _ _, .int _ _], .row _ _ _] ⟨rfl, rfl, rfl, rfl, rfl, rfl, rfl, rfl, trivial⟩ rfl ?_
 refine W.seq' ?_
 refine W.cn rfl (fun hc => ?_) (fun hc => ?_)
 have hv := hv.1 hc
 refine W.skip ?_
 refine th_nrm ?_
 refine W.tr [(5, .int _ _), (9, .ptr _ _), (10, .ptr _ _), (13, .int _ _), (65, .ref _ _ _), (66, .int _ _), (67, .int _ _)] [.box _ [.int _ _, .int _ _, .int _ _, .int _ _], .box _ [.int _ _, .int _ _, .int _ _], .row _ _ _] ⟨rfl, rfl, rfl, rfl, rfl, rfl, rfl, trivial⟩ rfl ?_
 obtain ⟨J3, hj, hv⟩ := hv
 refine W.mid0 (⟨296, look [(5, .int .i64 most), (9, .ptr 0 0), (10, .ptr 1 0), (13, .int .i64 v13), (65, .ref false 2 ([raw.take 40, y].length)), (66, .int .i64 ((2 : Nat) : Int)), (67, .int .i64 v67)], [.box 25 [.int .i64 c.f, .int .i64 c.t, .int .i64 c.m, .int .i64 c.a], .box 26 [.int .i64 v.x0, .int .i64 v.x1, .int .i64 v.x2], .row 22 1 (encL (eSl e25 true) [raw.take 40, y])], false⟩) J3 ?_ ?_
 intro hv
 replace hv := hj hv
 refine W.rL1 ?_
 obtain ⟨s11464, hv⟩ := hv
 refine cL rfl (o_add rfl rfl s11464 ?_)
 refine mI rfl rfl ?_
 refine eL ?_
 exact th_nrm (⟨(), (v67 + (1 : Int)), hv, St.to_mk (φ := [some 0, some 1, some 2]) rfl (.inl rfl) ⟨Ren.int _ _, Ren.ptr rfl, Ren.ptr rfl, Ren.int _ _, Ren.ref rfl (fun h => h), Ren.int _ _, Ren.int _ _, trivial⟩ ⟨.inr ⟨_, rfl, rfl, Rens.cons (Ren.int _ _) (Rens.cons (Ren.int _ _) (Rens.cons (Ren.int _ _) (Rens.cons (Ren.int _ _) (Rens.nil))))⟩, .inr ⟨_, rfl, rfl, Rens.cons (Ren.int _ _) (Rens.cons (Ren.int _ _) (Rens.cons (Ren.int _ _) (Rens.nil)))⟩, .inr ⟨_, rfl, rfl, rfl, rfl, Rens.enc (encSl e25) true [raw.take 40, y]⟩, trivial⟩⟩)
 clear hj
 refine W.block ?_
 refine W.rL ?_
 obtain ⟨s11465, hv⟩ := hv
 refine cL rfl (o_iaR tt31 tt22 rfl rfl s11465 ?_)
 refine cL rfl (o_ldS (v := .lst _ _ _) tt22 rfl rfl (cell_of (ca_row (xs := [raw.take 40, y]) rfl ((encSl e25).wd true) s11465) rfl) ?_)
 refine aL rfl rfl ?_
 refine eL ?_
 refine W.tr [(5, .int _ _), (9, .ptr _ _), (10, .ptr _ _), (13, .int _ _), (15, .lst _ _ _), (65, .ref _ _ _), (66, .int _ _), (67, .int _ _)] [.box _ [.int _ _, .int _ _, .int _ _, .int _ _], .box _ [.int _ _, .int _ _, .int _ _], .row _ _ _] ⟨rfl, rfl, rfl, rfl, rfl, rfl, rfl, rfl, trivial⟩ rfl ?_
 refine W.rL ?_
 refine mI rfl rfl ?_
 refine mL rfl rfl ?_
 obtain ⟨s11466, hv⟩ := hv
 refine cL rfl (o_callP1 (k := 15) (fst := []) (caps := []) (ys := [.int _ _, .lst _ _ _]) rfl rfl (spec_close v13 (lat [raw.take 40, y] v67) s11466) (Wks.cons (ag_int _ _ _ _) (Wks.cons (ag_lst _ _ _ _ _) (Wks.refl _))) ?_)
 refine cL rfl (o_move (v := .tup _) rfl ?_)
 refine cL rfl (o_ext (v := .agg _) rfl rfl ?_)
 refine cL rfl (o_ext (v := .lst _ _ _) rfl rfl ?_)
 refine cL rfl (o_ext (v := .int _ _) rfl rfl ?_)
 refine cL rfl (o_alloc (p := 3) tt34 rfl rfl ?_)
 refine cLn (o_stB (v := .agg _) (vs := [.int _ _, .lst _ _ _]) (cs2 := [.int _ _, .lst _ _ _]) tt34 rfl rfl rfl rfl rfl (Nat.le_of_ble_eq_true rfl) rfl ?_)
 refine aL rfl rfl ?_
 refine aI rfl rfl ?_
 refine eL ?_
 refine W.tr [(5, .int _ _), (9, .ptr _ _), (10, .ptr _ _), (13, .int _ _), (15, .lst _ _ _), (16, .ptr _ _), (17, .lst _ _ _), (18, .int _ _), (65, .ref _ _ _), (66, .int _ _), (67, .int _ _)] [.box _ [.int _ _, .int _ _, .int _ _, .int _ _], .box _ [.int _ _, .int _ _, .int _ _], .row _ _ _, .box _ [.int _ _, .lst _ _ _]] ⟨rfl, rfl, rfl, rfl, rfl, rfl, rfl, rfl, rfl, rfl, rfl, trivial⟩ rfl ?_
 generalize hy : closeM v13 (lat [raw.take 40, y] v67) = y_1
 replace hv := hv y_1 hy
 clear hy
 refine W.rL ?_
 refine mI rfl rfl ?_
 refine mL rfl rfl ?_
 obtain ⟨s11467, hv⟩ := hv
 refine cL rfl (o_callP1 (k := 16) (fst := []) (caps := []) (ys := [.int _ _, .lst _ _ _]) rfl rfl (spec_rclose v13 (lat [raw.take 40, y] v67) s11467) (Wks.cons (ag_int _ _ _ _) (Wks.cons (ag_lst _ _ _ _ _) (Wks.refl _))) ?_)
 refine cL rfl (o_move (v := .tup _) rfl ?_)
 refine cL rfl (o_ext (v := .agg _) rfl rfl ?_)
 refine cL rfl (o_ext (v := .lst _ _ _) rfl rfl ?_)
 refine cL rfl (o_ext (v := .int _ _) rfl rfl ?_)
 refine cL rfl (o_alloc (p := 4) tt34 rfl rfl ?_)
 refine cLn (o_stB (v := .agg _) (vs := [.int _ _, .lst _ _ _]) (cs2 := [.int _ _, .lst _ _ _]) tt34 rfl rfl rfl rfl rfl (Nat.le_of_ble_eq_true rfl) rfl ?_)
 refine aL rfl rfl ?_
 refine aI rfl rfl ?_
 refine eL ?_
 refine W.tr [(5, .int _ _), (9, .ptr _ _), (10, .ptr _ _), (13, .int _ _), (16, .ptr _ _), (17, .lst _ _ _), (18, .int _ _), (19, .ptr _ _), (20, .lst _ _ _), (21, .int _ _), (65, .ref _ _ _), (66, .int _ _), (67, .int _ _)] [.box _ [.int _ _, .int _ _, .int _ _, .int _ _], .box _ [.int _ _, .int _ _, .int _ _], .row _ _ _, .box _ [.int _ _, .lst _ _ _], .box _ [.int _ _, .lst _ _ _]] ⟨rfl, rfl, rfl, rfl, rfl, rfl, rfl, rfl, rfl, rfl, rfl, rfl, rfl, trivial⟩ rfl ?_
 generalize hy : closeM v13 (lat [raw.take 40, y] v67) = y_2
 replace hv := hv y_2 hy
 clear hy
 refine W.seq' ?_
 obtain ⟨sd, hv⟩ := hv
 refine W.rLm ⟨296, look [(5, .int .i64 most), (9, .ptr 0 0), (10, .ptr 1 0), (13, .int .i64 v13), (18, .int .i64 y_1.2.2), (19, .ptr 4 0), (65, .ref false 2 ([raw.take 40, y].length)), (66, .int .i64 ((2 : Nat) : Int)), (67, .int .i64 v67), (99, .bool (decide ((¬ y_1.2.2 = y_2.2.2) ∨ ((¬ ((sameM y_1.1 y_2.1) = true)) ∨ (¬ (y_1.2.1 = y_2.2.1))))))], [.box 25 [.int .i64 c.f, .int .i64 c.t, .int .i64 c.m, .int .i64 c.a], .box 26 [.int .i64 v.x0, .int .i64 v.x1, .int .i64 v.x2], .row 22 1 (encL (eSl e25 true) [raw.take 40, y]), .box 34 [.int .i64 ((y_1.1).n), .lst false ((y_1.1).most).length (encL (eSl eInt true) ((y_1.1).most))], .box 34 [.int .i64 ((y_2.1).n), .lst false ((y_2.1).most).length (encL (eSl eInt true) ((y_2.1).most))]], false⟩ ?_ ?_
 iterate 2 refine mI rfl rfl ?_
 refine cL rfl (o_neI rfl rfl rfl ?_)
 refine mB rfl rfl ?_
 by_cases c1 : ¬ y_1.2.2 = y_2.2.2
 iterate 4 refine cLs rfl rfl rfl (decide_eq_true c1) ?_
 refine cL rfl (o_pickT (v := .bool _) rfl (decide_eq_true c1) rfl ?_)
 refine mB rfl rfl ?_
 iterate 4 refine cLs rfl rfl rfl (rfl) ?_
 refine cL rfl (o_pickT (v := .bool _) rfl rfl rfl ?_)
 refine eL ?_
 exact le_mk ⟨rfl, rfl, rfl, rfl, rfl, rfl, rfl, rfl, rfl, (congrArg AV.bool (dOrT c1)).symm, trivial⟩ rfl
 have sd := sd.2 c1
 refine cLg rfl rfl (decide_eq_false c1) ?_
 refine cL rfl (o_ldA (cs := [.int _ _, .lst _ _ _]) tt34 rfl rfl ⟨_, rfl⟩ rfl ?_)
 refine cLg rfl rfl (decide_eq_false c1) ?_
 refine cL rfl (o_ldA (cs := [.int _ _, .lst _ _ _]) tt34 rfl rfl ⟨_, rfl⟩ rfl ?_)
 refine cLg rfl rfl (decide_eq_false c1) ?_
 obtain ⟨s11477, s11478, sd⟩ := sd
 refine cL rfl (o_callP1 (k := 17) (fst := []) (caps := []) (ys := [.agg _, .agg _]) rfl rfl (spec_rsame y_1.1 y_2.1 s11477 s11478) (Wks.cons (ag_agg 5 _ (Wks.cons (ag_int _ _ _ _) (Wks.cons (ag_lst _ _ _ _ _) (Wks.refl _)))) (Wks.cons (ag_agg 5 _ (Wks.cons (ag_int _ _ _ _) (Wks.cons (ag_lst _ _ _ _ _) (Wks.refl _)))) (Wks.refl _))) ?_)
 refine cLg rfl rfl (decide_eq_false c1) ?_
 refine cL rfl (o_notB rfl ?_)
 refine cL rfl (o_pickF (v := .bool _) rfl (decide_eq_false c1) rfl ?_)
 refine mB rfl rfl ?_
 by_cases c2 : ¬ ((sameM y_1.1 y_2.1) = true)
 iterate 4 refine cLs rfl rfl rfl (decide_eq_true c2) ?_
 refine cL rfl (o_pickT (v := .bool _) rfl (decide_eq_true c2) rfl ?_)
 refine eL ?_
 exact le_mk ⟨rfl, rfl, rfl, rfl, rfl, rfl, rfl, rfl, rfl, (congrArg AV.bool (dOrF c1 (dOrT c2))).symm, trivial⟩ rfl
 have sd := sd.2 c2
 refine cLg rfl rfl (decide_eq_false c2) ?_
 refine mL rfl rfl ?_
 refine cLg rfl rfl (decide_eq_false c2) ?_
 refine mL rfl rfl ?_
 refine cLg rfl rfl (decide_eq_false c2) ?_
 obtain ⟨s11479, sd⟩ := sd
 refine cL rfl (o_callP1 (k := 18) (fst := []) (caps := []) (ys := [.lst _ _ _, .lst _ _ _]) rfl rfl (spec_ints y_1.2.1 y_2.2.1 s11479) (Wks.cons (ag_lst _ _ _ _ _) (Wks.cons (ag_lst _ _ _ _ _) (Wks.refl _))) ?_)
 refine cLg rfl rfl (decide_eq_false c2) ?_
 refine cL rfl (o_not rfl ?_)
 refine cL rfl (o_pickF (v := .bool _) rfl (decide_eq_false c2) rfl ?_)
 refine eL ?_
 exact le_mk ⟨rfl, rfl, rfl, rfl, rfl, rfl, rfl, rfl, rfl, (congrArg AV.bool (dOrF c1 (dOrF c2 (rfl)))).symm, trivial⟩ rfl
 refine W.cn rfl (fun hc => ?_) (fun hc => ?_)
 have hv := hv.1 hc
 refine W.rL ?_
 refine aB rfl rfl ?_
 refine eL ?_
 refine W.tr [(12, .bool _)] [.box _ [.int _ _, .int _ _, .int _ _, .int _ _], .box _ [.int _ _, .int _ _, .int _ _], .row _ _ _, .box _ [.int _ _, .lst _ _ _], .box _ [.int _ _, .lst _ _ _]] ⟨rfl, trivial⟩ rfl ?_
 refine W.ret ?_
 refine th_ret (bl_ret (th_ret (th_ret (bl_ret (th_ret (rt ?_))))))
 refine rt_t (v := .bool _) rfl ?_
 refine rt_n ?_
 exact ⟨_, rs_bool _ _ _, false, rfl, hv⟩
 have hv := hv.2 hc
 refine W.skip ?_
 refine th_nrm ?_
 refine W.tr [(5, .int _ _), (9, .ptr _ _), (10, .ptr _ _), (13, .int _ _), (18, .int _ _), (19, .ptr _ _), (65, .ref _ _ _), (66, .int _ _), (67, .int _ _)] [.box _ [.int _ _, .int _ _, .int _ _, .int _ _], .box _ [.int _ _, .int _ _, .int _ _], .row _ _ _, .box _ [.int _ _, .lst _ _ _], .box _ [.int _ _, .lst _ _ _]] ⟨rfl, rfl, rfl, rfl, rfl, rfl, rfl, rfl, rfl, trivial⟩ rfl ?_
 refine W.seq' ?_
 refine W.rL ?_
 refine mI rfl rfl ?_
 refine cL rfl (o_neI rfl rfl rfl ?_)
 refine eL ?_
 refine W.tr [(5, .int _ _), (9, .ptr _ _), (10, .ptr _ _), (13, .int _ _), (19, .ptr _ _), (65, .ref _ _ _), (66, .int _ _), (67, .int _ _), (101, .bool _)] [.box _ [.int _ _, .int _ _, .int _ _, .int _ _], .box _ [.int _ _, .int _ _, .int _ _], .row _ _ _, .box _ [.int _ _, .lst _ _ _], .box _ [.int _ _, .lst _ _ _]] ⟨rfl, rfl, rfl, rfl, rfl, rfl, rfl, rfl, rfl, trivial⟩ rfl ?_
 refine W.cn rfl (fun hc => ?_) (fun hc => ?_)
 have hv := hv.1 hc
 refine W.exit ?_
 exact th_exit (bl_hit (th_nrm (⟨(), hv, St.to_mk (φ := [some 0, some 1, some 2]) rfl (.inl rfl) ⟨Ren.int _ _, Ren.ptr rfl, Ren.ptr rfl, Ren.int _ _, Ren.ref rfl (fun h => h), Ren.int _ _, Ren.int _ _, trivial⟩ ⟨.inr ⟨_, rfl, rfl, Rens.cons (Ren.int _ _) (Rens.cons (Ren.int _ _) (Rens.cons (Ren.int _ _) (Rens.cons (Ren.int _ _) (Rens.nil))))⟩, .inr ⟨_, rfl, rfl, Rens.cons (Ren.int _ _) (Rens.cons (Ren.int _ _) (Rens.cons (Ren.int _ _) (Rens.nil)))⟩, .inr ⟨_, rfl, rfl, rfl, rfl, Rens.enc (encSl e25) true [raw.take 40, y]⟩, trivial⟩⟩)))
 have hv := hv.2 hc
 refine W.skip ?_
 refine th_nrm ?_
 refine W.tr [(5, .int _ _), (9, .ptr _ _), (10, .ptr _ _), (13, .int _ _), (19, .ptr _ _), (65, .ref _ _ _), (66, .int _ _), (67, .int _ _)] [.box _ [.int _ _, .int _ _, .int _ _, .int _ _], .box _ [.int _ _, .int _ _, .int _ _], .row _ _ _, .box _ [.int _ _, .lst _ _ _], .box _ [.int _ _, .lst _ _ _]] ⟨rfl, rfl, rfl, rfl, rfl, rfl, rfl, rfl, trivial⟩ rfl ?_
 refine W.rL ?_
 refine cL rfl (o_iaA tt26 tt3 rfl rfl ⟨by decide, by decide⟩ rfl ?_)
 refine cL rfl (o_ldS (v := .int _ _) tt3 rfl rfl ⟨_, rfl⟩ ?_)
 refine cL rfl (o_fa tt34 rfl tt3 rfl ?_)
 refine cL rfl (o_ldS (v := .int _ _) tt3 rfl rfl ⟨_, rfl⟩ ?_)
 obtain ⟨s11480, s11481, hv⟩ := hv
 refine cL rfl (o_callP1 (k := 12) (fst := []) (caps := []) (ys := [.int _ _, .int _ _]) rfl rfl (spec_pick v.x0 ((y_2.1).n) s11480 s11481) (Wks.cons (ag_int _ _ _ _) (Wks.cons (ag_int _ _ _ _) (Wks.refl _))) ?_)
 refine aI rfl rfl ?_
 refine eL ?_
 refine W.tr [(5, .int _ _), (9, .ptr _ _), (10, .ptr _ _), (13, .int _ _), (19, .ptr _ _), (22, .int _ _), (65, .ref _ _ _), (66, .int _ _), (67, .int _ _)] [.box _ [.int _ _, .int _ _, .int _ _, .int _ _], .box _ [.int _ _, .int _ _, .int _ _], .row _ _ _, .box _ [.int _ _, .lst _ _ _], .box _ [.int _ _, .lst _ _ _]] ⟨rfl, rfl, rfl, rfl, rfl, rfl, rfl, rfl, rfl, trivial⟩ rfl ?_
 refine W.rL ?_
 refine cL rfl (o_iaA tt26 tt3 rfl rfl ⟨by decide, by decide⟩ rfl ?_)
 refine cL rfl (o_ldS (v := .int _ _) tt3 rfl rfl ⟨_, rfl⟩ ?_)
 refine cL rfl (o_fa tt34 rfl tt3 rfl ?_)
 refine cL rfl (o_ldS (v := .int _ _) tt3 rfl rfl ⟨_, rfl⟩ ?_)
 obtain ⟨s11482, s11483, hv⟩ := hv
 refine cL rfl (o_callP1 (k := 12) (fst := []) (caps := []) (ys := [.int _ _, .int _ _]) rfl rfl (spec_pick v.x1 ((y_2.1).n) s11482 s11483) (Wks.cons (ag_int _ _ _ _) (Wks.cons (ag_int _ _ _ _) (Wks.refl _))) ?_)
 refine aI rfl rfl ?_
 refine eL ?_
 refine W.tr [(5, .int _ _), (9, .ptr _ _), (10, .ptr _ _), (13, .int _ _), (19, .ptr _ _), (22, .int _ _), (23, .int _ _), (65, .ref _ _ _), (66, .int _ _), (67, .int _ _)] [.box _ [.int _ _, .int _ _, .int _ _, .int _ _], .box _ [.int _ _, .int _ _, .int _ _], .row _ _ _, .box _ [.int _ _, .lst _ _ _], .box _ [.int _ _, .lst _ _ _]] ⟨rfl, rfl, rfl, rfl, rfl, rfl, rfl, rfl, rfl, rfl, trivial⟩ rfl ?_
 refine W.rL ?_
 refine cL rfl (o_fa tt34 rfl tt3 rfl ?_)
 refine cL rfl (o_ldS (v := .int _ _) tt3 rfl rfl ⟨_, rfl⟩ ?_)
 refine cL rfl (o_build (qs := [(0, .int _ _)]) (cs := [.int _ _, .nilS]) tt34 rfl rfl rfl ?_)
 refine cL rfl (o_alloc (p := 5) tt34 rfl rfl ?_)
 refine cLn (o_stB (v := .agg _) (vs := [.int _ _, .nilS]) (cs2 := [.int _ _, .nilS]) tt34 rfl rfl rfl rfl rfl (Nat.le_of_ble_eq_true rfl) rfl ?_)
 refine eL ?_
 refine W.tr [(5, .int _ _), (9, .ptr _ _), (10, .ptr _ _), (13, .int _ _), (19, .ptr _ _), (22, .int _ _), (23, .int _ _), (24, .ptr _ _), (65, .ref _ _ _), (66, .int _ _), (67, .int _ _)] [.box _ [.int _ _, .int _ _, .int _ _, .int _ _], .box _ [.int _ _, .int _ _, .int _ _], .row _ _ _, .box _ [.int _ _, .lst _ _ _], .box _ [.int _ _, .lst _ _ _], .box _ [.int _ _, .nilS]] ⟨rfl, rfl, rfl, rfl, rfl, rfl, rfl, rfl, rfl, rfl, rfl, trivial⟩ rfl ?_
 refine W.seq' ?_
 refine W.rL ?_
 refine aI rfl rfl ?_
 refine eL ?_
 refine W.tr [(5, .int _ _), (9, .ptr _ _), (10, .ptr _ _), (13, .int _ _), (19, .ptr _ _), (22, .int _ _), (23, .int _ _), (24, .ptr _ _), (25, .int _ _), (65, .ref _ _ _), (66, .int _ _), (67, .int _ _)] [.box _ [.int _ _, .int _ _, .int _ _, .int _ _], .box _ [.int _ _, .int _ _, .int _ _], .row _ _ _, .box _ [.int _ _, .lst _ _ _], .box _ [.int _ _, .lst _ _ _], .box _ [.int _ _, .nilS]] ⟨rfl, rfl, rfl, rfl, rfl, rfl, rfl, rfl, rfl, rfl, rfl, rfl, trivial⟩ rfl ?_
 refine W.block ?_
 obtain ⟨I4, μ4, hp, hv⟩ := hv
 refine W.loop3 (fun v25 b5n r6 => ⟨296, look [(5, .int .i64 most), (9, .ptr 0 0), (10, .ptr 1 0), (13, .int .i64 v13), (19, .ptr 4 0), (22, .int .i64 (pickM v.x0 ((y_2.1).n))), (23, .int .i64 (pickM v.x1 ((y_2.1).n))), (24, .ptr 5 0), (25, .int .i64 v25), (65, .ref false 2 ([raw.take 40, y].length)), (66, .int .i64 ((2 : Nat) : Int)), (67, .int .i64 v67)], [.box 25 [.int .i64 c.f, .int .i64 c.t, .int .i64 c.m, .int .i64 c.a], .box 26 [.int .i64 v.x0, .int .i64 v.x1, .int .i64 v.x2], .row 22 1 (encL (eSl e25 true) [raw.take 40, y]), .dead, .box 34 [.int .i64 ((y_2.1).n), .lst false ((y_2.1).most).length (encL (eSl eInt true) ((y_2.1).most))], .box 34 [.int .i64 b5n, .ref true 6 r6.length], .row 35 1 (encL (eSl eInt false) r6)], false⟩) I4 μ4 (0 : Int) ((y_2.1).n) [] (St.to_mk (φ := [some 0, some 1, some 2, none, some 4, some 5, none]) rfl (.inl rfl) ⟨Ren.int _ _, Ren.ptr rfl, Ren.ptr rfl, Ren.int _ _, Ren.ptr rfl, Ren.int _ _, Ren.int _ _, Ren.ptr rfl, Ren.int _ _, Ren.ref rfl (fun h => h), Ren.int _ _, Ren.int _ _, trivial⟩ ⟨.inr ⟨_, rfl, rfl, Rens.cons (Ren.int _ _) (Rens.cons (Ren.int _ _) (Rens.cons (Ren.int _ _) (Rens.cons (Ren.int _ _) (Rens.nil))))⟩, .inr ⟨_, rfl, rfl, Rens.cons (Ren.int _ _) (Rens.cons (Ren.int _ _) (Rens.cons (Ren.int _ _) (Rens.nil)))⟩, .inr ⟨_, rfl, rfl, rfl, rfl, Rens.enc (encSl e25) true [raw.take 40, y]⟩, rfl, .inr ⟨_, rfl, rfl, Rens.cons (Ren.int _ _) (Rens.cons (Ren.lst _ _ _) (Rens.nil))⟩, .inr ⟨_, rfl, rfl, Rens.cons (Ren.int _ _) (Rens.cons (Ren.nilR rfl rfl) (Rens.nil))⟩, rfl, trivial⟩) hp ?_
 clear hp
 intro v25 b5n r6 hI
 replace hv := hv v25 b5n r6 hI
 clear hI
 refine W.seq' ?_
 refine W.rL ?_
 refine mI rfl rfl ?_
 refine cL rfl (o_fa tt34 rfl tt32 rfl ?_)
 refine cL rfl (o_ldS (v := .lst _ _ _) tt32 rfl rfl ⟨_, rfl⟩ ?_)
 refine cL rfl (o_len (v := .lst _ _ _) tt32 rfl rfl ?_)
 refine cL rfl (o_lss rfl rfl ?_)
 refine eL ?_
 refine W.tr [(5, .int _ _), (9, .ptr _ _), (10, .ptr _ _), (13, .int _ _), (19, .ptr _ _), (22, .int _ _), (23, .int _ _), (24, .ptr _ _), (25, .int _ _), (65, .ref _ _ _), (66, .int _ _), (67, .int _ _), (119, .bool _)] [.box _ [.int _ _, .int _ _, .int _ _, .int _ _], .box _ [.int _ _, .int _ _, .int _ _], .row _ _ _, .dead, .box _ [.int _ _, .lst _ _ _], .box _ [.int _ _, .ref _ _ _], .row _ _ _] ⟨rfl, rfl, rfl, rfl, rfl, rfl, rfl, rfl, rfl, rfl, rfl, rfl, rfl, trivial⟩ rfl ?_
 refine W.cn rfl (fun hc => ?_) (fun hc => ?_)
 have hv := hv.1 hc
 refine W.skip ?_
 refine th_nrm ?_
 refine W.tr [(5, .int _ _), (9, .ptr _ _), (10, .ptr _ _), (13, .int _ _), (19, .ptr _ _), (22, .int _ _), (23, .int _ _), (24, .ptr _ _), (25, .int _ _), (65, .ref _ _ _), (66, .int _ _), (67, .int _ _)] [.box _ [.int _ _, .int _ _, .int _ _, .int _ _], .box _ [.int _ _, .int _ _, .int _ _], .row _ _ _, .dead, .box _ [.int _ _, .lst _ _ _], .box _ [.int _ _, .ref _ _ _], .row _ _ _] ⟨rfl, rfl, rfl, rfl, rfl, rfl, rfl, rfl, rfl, rfl, rfl, rfl, trivial⟩ rfl ?_
 refine W.seq' ?_
 refine W.block ?_
 refine W.rL ?_
 refine cL rfl (o_buildS (q := 7) (qs := []) (cs := []) tt35 tt3 rfl rfl rfl rfl ?_)
 refine cL rfl (o_fa tt34 rfl tt32 rfl ?_)
 refine cL rfl (o_ldS (v := .lst _ _ _) tt32 rfl rfl ⟨_, rfl⟩ ?_)
 refine mI rfl rfl ?_
 obtain ⟨s11540, hv⟩ := hv
 refine cL rfl (o_iaL tt32 tt35 rfl rfl ((encSl eInt).wd true) rfl s11540 ?_)
 intro rest11540
 refine cL rfl (o_ldS (v := .lst _ _ _) tt35 rfl rfl ⟨_, rfl⟩ ?_)
 obtain ⟨s11541, hv⟩ := hv
 refine cL rfl (o_apR (p := 8) (q := (lat ((y_2.1).most) v25).length) tt35 tt3 rfl rfl (src_lst (encInt.wd true) _ _ rfl) (encL_length (encInt.wd true) _) rfl rfl (by simpa using s11541) rfl (Nat.zero_add _) (List.nil_append _) ?_)
 refine cL rfl (o_assign (v := .ref _ _ _) rfl ?_)
 refine eL ?_
 refine W.tr [(5, .int _ _), (9, .ptr _ _), (10, .ptr _ _), (13, .int _ _), (19, .ptr _ _), (22, .int _ _), (23, .int _ _), (24, .ptr _ _), (25, .int _ _), (26, .ref _ _ _), (65, .ref _ _ _), (66, .int _ _), (67, .int _ _)] [.box _ [.int _ _, .int _ _, .int _ _, .int _ _], .box _ [.int _ _, .int _ _, .int _ _], .row _ _ _, .dead, .box _ [.int _ _, .lst _ _ _], .box _ [.int _ _, .ref _ _ _], .row _ _ _, .dead, .row _ _ _] ⟨rfl, rfl, rfl, rfl, rfl, rfl, rfl, rfl, rfl, rfl, rfl, rfl, rfl, trivial⟩ rfl ?_
 obtain ⟨J5, hj, hv⟩ := hv
 refine W.mid1 (fun r8 => ⟨296, look [(5, .int .i64 most), (9, .ptr 0 0), (10, .ptr 1 0), (13, .int .i64 v13), (19, .ptr 4 0), (22, .int .i64 (pickM v.x0 ((y_2.1).n))), (23, .int .i64 (pickM v.x1 ((y_2.1).n))), (24, .ptr 5 0), (25, .int .i64 v25), (26, .ref false 8 r8.length), (65, .ref false 2 ([raw.take 40, y].length)), (66, .int .i64 ((2 : Nat) : Int)), (67, .int .i64 v67)], [.box 25 [.int .i64 c.f, .int .i64 c.t, .int .i64 c.m, .int .i64 c.a], .box 26 [.int .i64 v.x0, .int .i64 v.x1, .int .i64 v.x2], .row 22 1 (encL (eSl e25 true) [raw.take 40, y]), .dead, .box 34 [.int .i64 ((y_2.1).n), .lst false ((y_2.1).most).length (encL (eSl eInt true) ((y_2.1).most))], .box 34 [.int .i64 b5n, .ref true 6 r6.length], .row 35 1 (encL (eSl eInt false) r6), .dead, .row 3 1 (encL eInt r8)], false⟩) J5 ?_ ?_
 intro r8
 intro hv
 replace hv := hj r8 hv
 refine W.sealH false 8 (l := [(5, .int .i64 most), (9, .ptr 0 0), (10, .ptr 1 0), (13, .int .i64 v13), (19, .ptr 4 0), (22, .int .i64 (pickM v.x0 ((y_2.1).n))), (23, .int .i64 (pickM v.x1 ((y_2.1).n))), (24, .ptr 5 0), (25, .int .i64 v25), (26, .lst false r8.length (encL eInt r8)), (65, .ref false 2 ([raw.take 40, y].length)), (66, .int .i64 ((2 : Nat) : Int)), (67, .int .i64 v67)]) rfl (encL_sl encInt false r8) ⟨.inl rfl, .inl rfl, .inl rfl, .inl rfl, .inl rfl, .inl rfl, .inl rfl, .inl rfl, .inl rfl, .inr ⟨_, _, rfl, (encL_length (encInt.wd false) _), rfl⟩, .inl rfl, .inl rfl, .inl rfl, trivial⟩ rfl ?_
 refine W.rL1 ?_
 refine cL rfl (o_fa tt34 rfl tt32 rfl ?_)
 refine cL rfl (o_ldS (v := .ref _ _ _) tt32 rfl rfl ⟨_, rfl⟩ ?_)
 refine mL rfl rfl ?_
 refine cL rfl (o_bs1 (v := .lst _ _ _) (q := 9) tt32 tt35 rfl rfl rfl rfl rfl rfl rfl rfl ?_)
 obtain ⟨s11543, hv⟩ := hv
 refine cL rfl (o_apR (p := 10) (q := (r6 ++ [r8]).length) tt32 tt35 rfl rfl (src_ref rfl rfl) rfl rfl (encL_length ((encSl eInt).wd false) _) (Nat.le_trans (Nat.le_of_eq (@List.length_append _ (r6) ([r8])).symm) s11543) rfl (@List.length_append _ (r6) ([r8])).symm (encL_app (eSl eInt false) r6 [r8]) ?_)
 refine cL rfl (o_fa tt34 rfl tt32 rfl ?_)
 refine cLn (o_stB (v := .ref _ _ _) (vs := [.ref _ _ _]) (cs2 := [.int _ _, .ref _ _ _]) tt32 rfl rfl rfl rfl rfl (Nat.le_of_ble_eq_true rfl) rfl ?_)
 refine eL ?_
 refine bl_nrm (th_nrm ?_)
 refine W.tr [(5, .int _ _), (9, .ptr _ _), (10, .ptr _ _), (13, .int _ _), (19, .ptr _ _), (22, .int _ _), (23, .int _ _), (24, .ptr _ _), (25, .int _ _), (65, .ref _ _ _), (66, .int _ _), (67, .int _ _)] [.box _ [.int _ _, .int _ _, .int _ _, .int _ _], .box _ [.int _ _, .int _ _, .int _ _], .row _ _ _, .dead, .box _ [.int _ _, .lst _ _ _], .box _ [.int _ _, .ref _ _ _], .dead, .dead, .dead, .row _ _ _, .row _ _ _] ⟨rfl, rfl, rfl, rfl, rfl, rfl, rfl, rfl, rfl, rfl, rfl, rfl, trivial⟩ rfl ?_
 refine W.rL1 ?_
 refine mI rfl rfl ?_
 obtain ⟨s11544, hv⟩ := hv
 refine cL rfl (o_add rfl rfl s11544 ?_)
 refine aI rfl rfl ?_
 refine eL ?_
 exact th_nrm (⟨(), (v25 + (1 : Int)), b5n, (r6 ++ [r8]), hv, St.to_mk (φ := [some 0, some 1, some 2, none, some 4, some 5, some 10]) rfl (.inl rfl) ⟨Ren.int _ _, Ren.ptr rfl, Ren.ptr rfl, Ren.int _ _, Ren.ptr rfl, Ren.int _ _, Ren.int _ _, Ren.ptr rfl, Ren.int _ _, Ren.ref rfl (fun h => h), Ren.int _ _, Ren.int _ _, trivial⟩ ⟨.inr ⟨_, rfl, rfl, Rens.cons (Ren.int _ _) (Rens.cons (Ren.int _ _) (Rens.cons (Ren.int _ _) (Rens.cons (Ren.int _ _) (Rens.nil))))⟩, .inr ⟨_, rfl, rfl, Rens.cons (Ren.int _ _) (Rens.cons (Ren.int _ _) (Rens.cons (Ren.int _ _) (Rens.nil)))⟩, .inr ⟨_, rfl, rfl, rfl, rfl, Rens.enc (encSl e25) true [raw.take 40, y]⟩, rfl, .inr ⟨_, rfl, rfl, Rens.cons (Ren.int _ _) (Rens.cons (Ren.lst _ _ _) (Rens.nil))⟩, .inr ⟨_, rfl, rfl, Rens.cons (Ren.int _ _) (Rens.cons (Ren.ref rfl (fun h => rfl)) (Rens.nil))⟩, .inr ⟨_, rfl, rfl, rfl, rfl, Rens.enc (encSl eInt) false (r6 ++ [r8])⟩, trivial⟩⟩)
 clear hj
 refine W.rL ?_
 iterate 2 refine mI rfl rfl ?_
 refine cL rfl (o_eqI rfl rfl rfl ?_)
 refine eL ?_
 refine W.tr [(5, .int _ _), (9, .ptr _ _), (10, .ptr _ _), (13, .int _ _), (19, .ptr _ _), (22, .int _ _), (23, .int _ _), (24, .ptr _ _), (25, .int _ _), (26, .ref _ _ _), (65, .ref _ _ _), (66, .int _ _), (67, .int _ _), (131, .bool _)] [.box _ [.int _ _, .int _ _, .int _ _, .int _ _], .box _ [.int _ _, .int _ _, .int _ _], .row _ _ _, .dead, .box _ [.int _ _, .lst _ _ _], .box _ [.int _ _, .ref _ _ _], .row _ _ _, .dead, .row _ _ _] ⟨rfl, rfl, rfl, rfl, rfl, rfl, rfl, rfl, rfl, rfl, rfl, rfl, rfl, rfl, trivial⟩ rfl ?_
 refine W.cn rfl (fun hc => ?_) (fun hc => ?_)
 have hv := hv.1 hc
 refine W.rL1 ?_
 refine cL rfl (o_move (v := .ref _ _ _) rfl ?_)
 iterate 2 refine mI rfl rfl ?_
 obtain ⟨s11545, hv⟩ := hv
 refine cL rfl (o_iaR tt35 tt3 rfl rfl s11545 ?_)
 refine cLn (o_stR (v := .int _ _) tt3 rfl rfl rfl rfl rfl (row_in (xs := lat ((y_2.1).most) v25) (encInt.wd false) s11545 rfl) (row_set (e := eInt) (encInt.wd false) _ _ most rfl s11545.1 s11545.2) ?_)
 refine eL ?_
 exact th_nrm (⟨(), ((lat ((y_2.1).most) v25).set (pickM v.x1 ((y_2.1).n)).toNat most), hv, St.to_mk (φ := [some 0, some 1, some 2, none, some 4, some 5, some 6, none, some 8]) rfl (.inl rfl) ⟨Ren.int _ _, Ren.ptr rfl, Ren.ptr rfl, Ren.int _ _, Ren.ptr rfl, Ren.int _ _, Ren.int _ _, Ren.ptr rfl, Ren.int _ _, Ren.refL rfl (fun h => h) (by simp), Ren.ref rfl (fun h => h), Ren.int _ _, Ren.int _ _, trivial⟩ ⟨.inr ⟨_, rfl, rfl, Rens.cons (Ren.int _ _) (Rens.cons (Ren.int _ _) (Rens.cons (Ren.int _ _) (Rens.cons (Ren.int _ _) (Rens.nil))))⟩, .inr ⟨_, rfl, rfl, Rens.cons (Ren.int _ _) (Rens.cons (Ren.int _ _) (Rens.cons (Ren.int _ _) (Rens.nil)))⟩, .inr ⟨_, rfl, rfl, rfl, rfl, Rens.enc (encSl e25) true [raw.take 40, y]⟩, rfl, .inr ⟨_, rfl, rfl, Rens.cons (Ren.int _ _) (Rens.cons (Ren.lst _ _ _) (Rens.nil))⟩, .inr ⟨_, rfl, rfl, Rens.cons (Ren.int _ _) (Rens.cons (Ren.ref rfl (fun h => rfl)) (Rens.nil))⟩, .inr ⟨_, rfl, rfl, rfl, rfl, Rens.enc (encSl eInt) false r6⟩, rfl, .inr ⟨_, rfl, rfl, rfl, rfl, Rens.enc encInt false ((lat ((y_2.1).most) v25).set (pickM v.x1 ((y_2.1).n)).toNat most)⟩, trivial⟩⟩)
 have hv := hv.2 hc
 refine W.skip ?_
 exact th_nrm (⟨(), (lat ((y_2.1).most) v25), hv, St.to_mk (φ := [some 0, some 1, some 2, none, some 4, some 5, some 6, none, some 8]) rfl (.inl rfl) ⟨Ren.int _ _, Ren.ptr rfl, Ren.ptr rfl, Ren.int _ _, Ren.ptr rfl, Ren.int _ _, Ren.int _ _, Ren.ptr rfl, Ren.int _ _, Ren.ref rfl (fun h => h), Ren.ref rfl (fun h => h), Ren.int _ _, Ren.int _ _, trivial⟩ ⟨.inr ⟨_, rfl, rfl, Rens.cons (Ren.int _ _) (Rens.cons (Ren.int _ _) (Rens.cons (Ren.int _ _) (Rens.cons (Ren.int _ _) (Rens.nil))))⟩, .inr ⟨_, rfl, rfl, Rens.cons (Ren.int _ _) (Rens.cons (Ren.int _ _) (Rens.cons (Ren.int _ _) (Rens.nil)))⟩, .inr ⟨_, rfl, rfl, rfl, rfl, Rens.enc (encSl e25) true [raw.take 40, y]⟩, rfl, .inr ⟨_, rfl, rfl, Rens.cons (Ren.int _ _) (Rens.cons (Ren.lst _ _ _) (Rens.nil))⟩, .inr ⟨_, rfl, rfl, Rens.cons (Ren.int _ _) (Rens.cons (Ren.ref rfl (fun h => rfl)) (Rens.nil))⟩, .inr ⟨_, rfl, rfl, rfl, rfl, Rens.enc (encSl eInt) false r6⟩, rfl, .inr ⟨_, rfl, rfl, rfl, rfl, Rens.enc encInt false (lat ((y_2.1).most) v25)⟩, trivial⟩⟩)
 have hv := hv.2 hc
 refine W.exit ?_
 refine th_exit (th_exit (bl_hit (th_nrm ?_)))
 refine W.tr [(5, .int _ _), (9, .ptr _ _), (10, .ptr _ _), (13, .int _ _), (19, .ptr _ _), (22, .int _ _), (23, .int _ _), (24, .ptr _ _), (65, .ref _ _ _), (66, .int _ _), (67, .int _ _)] [.box _ [.int _ _, .int _ _, .int _ _, .int _ _], .box _ [.int _ _, .int _ _, .int _ _], .row _ _ _, .dead, .box _ [.int _ _, .lst _ _ _], .box _ [.int _ _, .ref _ _ _], .row _ _ _] ⟨rfl, rfl, rfl, rfl, rfl, rfl, rfl, rfl, rfl, rfl, rfl, trivial⟩ rfl ?_
 refine W.sealB false 6 5 (bcs' := [.int .i64 b5n, .lst false r6.length (encL (eSl eInt true) r6)]) (l := [(5, .int .i64 most), (9, .ptr 0 0), (10, .ptr 1 0), (13, .int .i64 v13), (19, .ptr 4 0), (22, .int .i64 (pickM v.x0 ((y_2.1).n))), (23, .int .i64 (pickM v.x1 ((y_2.1).n))), (24, .ptr 5 0), (65, .ref false 2 ([raw.take 40, y].length)), (66, .int .i64 ((2 : Nat) : Int)), (67, .int .i64 v67)]) rfl rfl (encL_sl (encSl eInt) false r6) ⟨.inl rfl, .inl rfl, .inl rfl, .inl rfl, .inl rfl, .inl rfl, .inl rfl, .inl rfl, .inl rfl, .inl rfl, .inl rfl, trivial⟩ ⟨.inl rfl, .inr ⟨_, _, rfl, (encL_length ((encSl eInt).wd false) _), rfl⟩, trivial⟩ rfl ?_
 refine W.rD [0, 1, 2, 3, 4, 5, 6, 7, 8, 9, 10] (by decide +kernel) rfl ?_
 iterate 2 refine cL rfl (o_ldA (cs := [.int _ _, .lst _ _ _]) tt34 rfl rfl ⟨_, rfl⟩ rfl ?_)
 refine cL rfl (o_fa tt34 rfl tt3 rfl ?_)
 refine cL rfl (o_ldS (v := .int _ _) tt3 rfl rfl ⟨_, rfl⟩ ?_)
 refine cL rfl (o_fa tt34 rfl tt32 rfl ?_)
 refine cL rfl (o_ldS (v := .lst _ _ _) tt32 rfl rfl ⟨_, rfl⟩ ?_)
 obtain ⟨s11546, hv⟩ := hv
 refine cL rfl (o_slL tt32 tt35 rfl ((encSl eInt).wd true) rfl rfl rfl s11546 (ys := ((y_2.1).most).drop (1 : Int).toNat) (sl_end _ _) ?_)
 refine cL rfl (o_build (qs := [(0, .int _ _), (1, .lst _ _ _)]) (cs := [.int _ _, .lst _ _ _]) tt34 rfl rfl rfl ?_)
 refine cL rfl (o_buildS (q := 7) (qs := [(0, .agg _), (1, .agg _), (2, .agg _)]) (cs := [.int _ _, .lst _ _ _, .int _ _, .lst _ _ _, .int _ _, .lst _ _ _]) tt41 tt34 rfl rfl rfl rfl ?_)
 refine cL rfl (o_len (v := .ref _ _ _) tt41 rfl rfl ?_)
 refine mI rfl rfl ?_
 refine eL ?_
 refine W.tr [(5, .int _ _), (9, .ptr _ _), (10, .ptr _ _), (13, .int _ _), (19, .ptr _ _), (22, .int _ _), (23, .int _ _), (65, .ref _ _ _), (66, .int _ _), (67, .int _ _), (150, .ref _ _ _), (151, .int _ _), (152, .int _ _)] [.box _ [.int _ _, .int _ _, .int _ _, .int _ _], .box _ [.int _ _, .int _ _, .int _ _], .row _ _ _, .dead, .box _ [.int _ _, .lst _ _ _], .box _ [.int _ _, .lst _ _ _], .dead, .row _ _ _] ⟨rfl, rfl, rfl, rfl, rfl, rfl, rfl, rfl, rfl, rfl, rfl, rfl, rfl, trivial⟩ rfl ?_
 refine W.block ?_
 obtain ⟨I6, μ6, hp, hv⟩ := hv
 refine W.loop1 (fun v152 => ⟨296, look [(5, .int .i64 most), (9, .ptr 0 0), (10, .ptr 1 0), (13, .int .i64 v13), (19, .ptr 4 0), (22, .int .i64 (pickM v.x0 ((y_2.1).n))), (23, .int .i64 (pickM v.x1 ((y_2.1).n))), (65, .ref false 2 ([raw.take 40, y].length)), (66, .int .i64 ((2 : Nat) : Int)), (67, .int .i64 v67), (150, .ref false 7 ([y_2.1, (Bd.mk b5n r6), (Bd.mk ((y_2.1).n) (((y_2.1).most).drop (1 : Int).toNat))].length)), (151, .int .i64 ((3 : Nat) : Int)), (152, .int .i64 v152)], [.box 25 [.int .i64 c.f, .int .i64 c.t, .int .i64 c.m, .int .i64 c.a], .box 26 [.int .i64 v.x0, .int .i64 v.x1, .int .i64 v.x2], .row 22 1 (encL (eSl e25 true) [raw.take 40, y]), .dead, .box 34 [.int .i64 ((y_2.1).n), .lst false ((y_2.1).most).length (encL (eSl eInt true) ((y_2.1).most))], .dead, .dead, .row 34 2 (encL (e34 false) [y_2.1, (Bd.mk b5n r6), (Bd.mk ((y_2.1).n) (((y_2.1).most).drop (1 : Int).toNat))])], false⟩) I6 μ6 (0 : Int) (St.to_mk (φ := [some 0, some 1, some 2, none, some 4, none, none, some 7]) rfl (.inl rfl) ⟨Ren.int _ _, Ren.ptr rfl, Ren.ptr rfl, Ren.int _ _, Ren.ptr rfl, Ren.int _ _, Ren.int _ _, Ren.ref rfl (fun h => h), Ren.int _ _, Ren.int _ _, Ren.ref rfl (fun h => h), Ren.int _ _, Ren.int _ _, trivial⟩ ⟨.inr ⟨_, rfl, rfl, Rens.cons (Ren.int _ _) (Rens.cons (Ren.int _ _) (Rens.cons (Ren.int _ _) (Rens.cons (Ren.int _ _) (Rens.nil))))⟩, .inr ⟨_, rfl, rfl, Rens.cons (Ren.int _ _) (Rens.cons (Ren.int _ _) (Rens.cons (Ren.int _ _) (Rens.nil)))⟩, .inr ⟨_, rfl, rfl, rfl, rfl, Rens.enc (encSl e25) true [raw.take 40, y]⟩, rfl, .inr ⟨_, rfl, rfl, Rens.cons (Ren.int _ _) (Rens.cons (Ren.lst _ _ _) (Rens.nil))⟩, rfl, rfl, .inr ⟨_, rfl, rfl, rfl, rfl, Rens.enc enc34 false [y_2.1, (Bd.mk b5n r6), (Bd.mk ((y_2.1).n) (((y_2.1).most).drop (1 : Int).toNat))]⟩, trivial⟩) hp ?_
 clear hp
 intro v152 hI
 replace hv := hv v152 hI
 clear hI
 refine W.rL ?_
 refine cL rfl (o_lss rfl rfl ?_)
 refine eL ?_
 refine W.tr [(5, .int _ _), (9, .ptr _ _), (10, .ptr _ _), (13, .int _ _), (19, .ptr _ _), (22, .int _ _), (23, .int _ _), (65, .ref _ _ _), (66, .int _ _), (67, .int _ _), (150, .ref _ _ _), (151, .int _ _), (152, .int _ _), (153, .bool _)] [.box _ [.int _ _, .int _ _, .int _ _, .int _ _], .box _ [.int _ _, .int _ _, .int _ _], .row _ _ _, .dead, .box _ [.int _ _, .lst _ _ _], .dead, .dead, .row _ _ _] ⟨rfl, rfl, rfl, rfl, rfl, rfl, rfl, rfl, rfl, rfl, rfl, rfl, rfl, rfl, trivial⟩ rfl ?_
 refine W.seq' ?_
 refine W.cn rfl (fun hc => ?_) (fun hc => ?_)
 have hv := hv.1 hc
 refine W.skip ?_
 refine th_nrm ?_
 refine W.tr [(5, .int _ _), (9, .ptr _ _), (10, .ptr _ _), (13, .int _ _), (19, .ptr _ _), (22, .int _ _), (23, .int _ _), (65, .ref _ _ _), (66, .int _ _), (67, .int _ _), (150, .ref _ _ _), (151, .int _ _), (152, .int _ _)] [.box _ [.int _ _, .int _ _, .int _ _, .int _ _], .box _ [.int _ _, .int _ _, .int _ _], .row _ _ _, .dead, .box _ [.int _ _, .lst _ _ _], .dead, .dead, .row _ _ _] ⟨rfl, rfl, rfl, rfl, rfl, rfl, rfl, rfl, rfl, rfl, rfl, rfl, rfl, trivial⟩ rfl ?_
 refine W.seq' ?_
 refine W.block ?_
 refine W.rL ?_
 obtain ⟨s12712, hv⟩ := hv
 refine cL rfl (o_iaR tt41 tt34 rfl rfl s12712 ?_)
 refine cL rfl (o_ldA (cs := [.int _ _, .lst _ _ _]) tt34 rfl rfl (ca_row (xs := [y_2.1, (Bd.mk b5n r6), (Bd.mk ((y_2.1).n) (((y_2.1).most).drop (1 : Int).toNat))]) rfl (enc34.wd false) s12712) rfl ?_)
 refine cL rfl (o_alloc (p := 8) tt34 rfl rfl ?_)
 refine cLn (o_stB (v := .agg _) (vs := [.int _ _, .lst _ _ _]) (cs2 := [.int _ _, .lst _ _ _]) tt34 rfl rfl rfl rfl rfl (Nat.le_of_ble_eq_true rfl) rfl ?_)
 refine eL ?_
 refine W.tr [(5, .int _ _), (9, .ptr _ _), (10, .ptr _ _), (13, .int _ _), (19, .ptr _ _), (22, .int _ _), (23, .int _ _), (28, .ptr _ _), (65, .ref _ _ _), (66, .int _ _), (67, .int _ _), (150, .ref _ _ _), (151, .int _ _), (152, .int _ _)] [.box _ [.int _ _, .int _ _, .int _ _, .int _ _], .box _ [.int _ _, .int _ _, .int _ _], .row _ _ _, .dead, .box _ [.int _ _, .lst _ _ _], .dead, .dead, .row _ _ _, .box _ [.int _ _, .lst _ _ _]] ⟨rfl, rfl, rfl, rfl, rfl, rfl, rfl, rfl, rfl, rfl, rfl, rfl, rfl, rfl, trivial⟩ rfl ?_
 generalize hy : lat [y_2.1, (Bd.mk b5n r6), (Bd.mk ((y_2.1).n) (((y_2.1).most).drop (1 : Int).toNat))] v152 = y_3
 replace hv := hv y_3 hy
 clear hy
 refine W.rL ?_
 refine cL rfl (o_ldA (cs := [.int _ _, .int _ _, .int _ _, .int _ _]) tt25 rfl rfl ⟨_, rfl⟩ rfl ?_)
 refine cL rfl (o_alloc (p := 9) tt25 rfl rfl ?_)
 refine cLn (o_stB (v := .agg _) (vs := [.int _ _, .int _ _, .int _ _, .int _ _]) (cs2 := [.int _ _, .int _ _, .int _ _, .int _ _]) tt25 rfl rfl rfl rfl rfl (Nat.le_of_ble_eq_true rfl) rfl ?_)
 refine eL ?_
 refine W.tr [(5, .int _ _), (9, .ptr _ _), (10, .ptr _ _), (13, .int _ _), (19, .ptr _ _), (22, .int _ _), (23, .int _ _), (28, .ptr _ _), (29, .ptr _ _), (65, .ref _ _ _), (66, .int _ _), (67, .int _ _), (150, .ref _ _ _), (151, .int _ _), (152, .int _ _)] [.box _ [.int _ _, .int _ _, .int _ _, .int _ _], .box _ [.int _ _, .int _ _, .int _ _], .row _ _ _, .dead, .box _ [.int _ _, .lst _ _ _], .dead, .dead, .row _ _ _, .box _ [.int _ _, .lst _ _ _], .box _ [.int _ _, .int _ _, .int _ _, .int _ _]] ⟨rfl, rfl, rfl, rfl, rfl, rfl, rfl, rfl, rfl, rfl, rfl, rfl, rfl, rfl, rfl, trivial⟩ rfl ?_
 refine W.rL ?_
 refine mI rfl rfl ?_
 refine cL rfl (o_fa tt25 rfl tt3 rfl ?_)
 refine cLn (o_stB (v := .int _ _) (vs := [.int _ _]) (cs2 := [.int _ _, .int _ _, .int _ _, .int _ _]) tt3 rfl rfl rfl rfl rfl (Nat.le_of_ble_eq_true rfl) rfl ?_)
 refine eL ?_
 refine W.tr [(5, .int _ _), (9, .ptr _ _), (10, .ptr _ _), (13, .int _ _), (19, .ptr _ _), (22, .int _ _), (23, .int _ _), (28, .ptr _ _), (29, .ptr _ _), (65, .ref _ _ _), (66, .int _ _), (67, .int _ _), (150, .ref _ _ _), (151, .int _ _), (152, .int _ _)] [.box _ [.int _ _, .int _ _, .int _ _, .int _ _], .box _ [.int _ _, .int _ _, .int _ _], .row _ _ _, .dead, .box _ [.int _ _, .lst _ _ _], .dead, .dead, .row _ _ _, .box _ [.int _ _, .lst _ _ _], .box _ [.int _ _, .int _ _, .int _ _, .int _ _]] ⟨rfl, rfl, rfl, rfl, rfl, rfl, rfl, rfl, rfl, rfl, rfl, rfl, rfl, rfl, rfl, trivial⟩ rfl ?_
 refine W.rL ?_
 refine mI rfl rfl ?_
 refine cL rfl (o_fa tt25 rfl tt3 rfl ?_)
 refine cLn (o_stB (v := .int _ _) (vs := [.int _ _]) (cs2 := [.int _ _, .int _ _, .int _ _, .int _ _]) tt3 rfl rfl rfl rfl rfl (Nat.le_of_ble_eq_true rfl) rfl ?_)
 refine eL ?_
 refine W.tr [(5, .int _ _), (9, .ptr _ _), (10, .ptr _ _), (13, .int _ _), (19, .ptr _ _), (22, .int _ _), (23, .int _ _), (28, .ptr _ _), (29, .ptr _ _), (65, .ref _ _ _), (66, .int _ _), (67, .int _ _), (150, .ref _ _ _), (151, .int _ _), (152, .int _ _)] [.box _ [.int _ _, .int _ _, .int _ _, .int _ _], .box _ [.int _ _, .int _ _, .int _ _], .row _ _ _, .dead, .box _ [.int _ _, .lst _ _ _], .dead, .dead, .row _ _ _, .box _ [.int _ _, .lst _ _ _], .box _ [.int _ _, .int _ _, .int _ _, .int _ _]] ⟨rfl, rfl, rfl, rfl, rfl, rfl, rfl, rfl, rfl, rfl, rfl, rfl, rfl, rfl, rfl, trivial⟩ rfl ?_
 refine W.rL ?_
 refine cL rfl (o_fa tt25 rfl tt3 rfl ?_)
 refine cL rfl (o_ldS (v := .int _ _) tt3 rfl rfl ⟨_, rfl⟩ ?_)
 obtain ⟨s12713, s12714, hv⟩ := hv
 refine cL rfl (o_callP1 (k := 12) (fst := []) (caps := []) (ys := [.int _ _, .int _ _]) rfl rfl (spec_pick c.m (40 : Int) s12713 s12714) (Wks.cons (ag_int _ _ _ _) (Wks.cons (ag_int _ _ _ _) (Wks.refl _))) ?_)
 obtain ⟨s12715, hv⟩ := hv
 refine cL rfl (o_sub rfl rfl s12715 ?_)
 refine cL rfl (o_fa tt25 rfl tt3 rfl ?_)
 refine cLn (o_stB (v := .int _ _) (vs := [.int _ _]) (cs2 := [.int _ _, .int _ _, .int _ _, .int _ _]) tt3 rfl rfl rfl rfl rfl (Nat.le_of_ble_eq_true rfl) rfl ?_)
 refine eL ?_
 refine W.tr [(5, .int _ _), (9, .ptr _ _), (10, .ptr _ _), (13, .int _ _), (19, .ptr _ _), (22, .int _ _), (23, .int _ _), (28, .ptr _ _), (29, .ptr _ _), (65, .ref _ _ _), (66, .int _ _), (67, .int _ _), (150, .ref _ _ _), (151, .int _ _), (152, .int _ _)] [.box _ [.int _ _, .int _ _, .int _ _, .int _ _], .box _ [.int _ _, .int _ _, .int _ _], .row _ _ _, .dead, .box _ [.int _ _, .lst _ _ _], .dead, .dead, .row _ _ _, .box _ [.int _ _, .lst _ _ _], .box _ [.int _ _, .int _ _, .int _ _, .int _ _]] ⟨rfl, rfl, rfl, rfl, rfl, rfl, rfl, rfl, rfl, rfl, rfl, rfl, rfl, rfl, rfl, trivial⟩ rfl ?_
 refine W.seq' ?_
 refine W.rL ?_
 iterate 2 refine cL rfl (o_ldA (cs := [.int _ _, .int _ _, .int _ _, .int _ _]) tt25 rfl rfl ⟨_, rfl⟩ rfl ?_)
 refine cL rfl (o_buildS (q := 10) (qs := [(0, .agg _), (1, .agg _)]) (cs := [.int _ _, .int _ _, .int _ _, .int _ _, .int _ _, .int _ _, .int _ _, .int _ _]) tt22 tt25 rfl rfl rfl rfl ?_)
 refine cL rfl (o_len (v := .ref _ _ _) tt22 rfl rfl ?_)
 refine mI rfl rfl ?_
 refine eL ?_
 refine W.tr [(5, .int _ _), (9, .ptr _ _), (10, .ptr _ _), (13, .int _ _), (19, .ptr _ _), (22, .int _ _), (23, .int _ _), (28, .ptr _ _), (65, .ref _ _ _), (66, .int _ _), (67, .int _ _), (150, .ref _ _ _), (151, .int _ _), (152, .int _ _), (168, .ref _ _ _), (169, .int _ _), (170, .int _ _)] [.box _ [.int _ _, .int _ _, .int _ _, .int _ _], .box _ [.int _ _, .int _ _, .int _ _], .row _ _ _, .dead, .box _ [.int _ _, .lst _ _ _], .dead, .dead, .row _ _ _, .box _ [.int _ _, .lst _ _ _], .box _ [.int _ _, .int _ _, .int _ _, .int _ _], .row _ _ _] ⟨rfl, rfl, rfl, rfl, rfl, rfl, rfl, rfl, rfl, rfl, rfl, rfl, rfl, rfl, rfl, rfl, rfl, trivial⟩ rfl ?_
 refine W.block ?_
 obtain ⟨I7, μ7, hp, hv⟩ := hv
 refine W.loop1 (fun v170 => ⟨296, look [(5, .int .i64 most), (9, .ptr 0 0), (10, .ptr 1 0), (13, .int .i64 v13), (19, .ptr 4 0), (22, .int .i64 (pickM v.x0 ((y_2.1).n))), (23, .int .i64 (pickM v.x1 ((y_2.1).n))), (28, .ptr 8 0), (65, .ref false 2 ([raw.take 40, y].length)), (66, .int .i64 ((2 : Nat) : Int)), (67, .int .i64 v67), (150, .ref false 7 ([y_2.1, (Bd.mk b5n r6), (Bd.mk ((y_2.1).n) (((y_2.1).most).drop (1 : Int).toNat))].length)), (151, .int .i64 ((3 : Nat) : Int)), (152, .int .i64 v152), (168, .ref false 10 ([c, (Con.mk (pickM v.x0 ((y_2.1).n)) (pickM v.x1 ((y_2.1).n)) ((pickM c.m (40 : Int)) - (20 : Int)) c.a)].length)), (169, .int .i64 ((2 : Nat) : Int)), (170, .int .i64 v170)], [.box 25 [.int .i64 c.f, .int .i64 c.t, .int .i64 c.m, .int .i64 c.a], .box 26 [.int .i64 v.x0, .int .i64 v.x1, .int .i64 v.x2], .row 22 1 (encL (eSl e25 true) [raw.take 40, y]), .dead, .box 34 [.int .i64 ((y_2.1).n), .lst false ((y_2.1).most).length (encL (eSl eInt true) ((y_2.1).most))], .dead, .dead, .row 34 2 (encL (e34 false) [y_2.1, (Bd.mk b5n r6), (Bd.mk ((y_2.1).n) (((y_2.1).most).drop (1 : Int).toNat))]), .box 34 [.int .i64 y_3.n, .lst false y_3.most.length (encL (eSl eInt true) y_3.most)], .dead, .row 25 4 (encL e25 [c, (Con.mk (pickM v.x0 ((y_2.1).n)) (pickM v.x1 ((y_2.1).n)) ((pickM c.m (40 : Int)) - (20 : Int)) c.a)])], false⟩) I7 μ7 (0 : Int) (St.to_mk (φ := [some 0, some 1, some 2, none, some 4, none, none, some 7, some 8, none, some 10]) rfl (.inl rfl) ⟨Ren.int _ _, Ren.ptr rfl, Ren.ptr rfl, Ren.int _ _, Ren.ptr rfl, Ren.int _ _, Ren.int _ _, Ren.ptr rfl, Ren.ref rfl (fun h => h), Ren.int _ _, Ren.int _ _, Ren.ref rfl (fun h => h), Ren.int _ _, Ren.int _ _, Ren.ref rfl (fun h => h), Ren.int _ _, Ren.int _ _, trivial⟩ ⟨.inr ⟨_, rfl, rfl, Rens.cons (Ren.int _ _) (Rens.cons (Ren.int _ _) (Rens.cons (Ren.int _ _) (Rens.cons (Ren.int _ _) (Rens.nil))))⟩, .inr ⟨_, rfl, rfl, Rens.cons (Ren.int _ _) (Rens.cons (Ren.int _ _) (Rens.cons (Ren.int _ _) (Rens.nil)))⟩, .inr ⟨_, rfl, rfl, rfl, rfl, Rens.enc (encSl e25) true [raw.take 40, y]⟩, rfl, .inr ⟨_, rfl, rfl, Rens.cons (Ren.int _ _) (Rens.cons (Ren.lst _ _ _) (Rens.nil))⟩, rfl, rfl, .inr ⟨_, rfl, rfl, rfl, rfl, Rens.enc enc34 false [y_2.1, (Bd.mk b5n r6), (Bd.mk ((y_2.1).n) (((y_2.1).most).drop (1 : Int).toNat))]⟩, .inr ⟨_, rfl, rfl, Rens.cons (Ren.int _ _) (Rens.cons (Ren.lst _ _ _) (Rens.nil))⟩, rfl, .inr ⟨_, rfl, rfl, rfl, rfl, Rens.enc enc25 false [c, (Con.mk (pickM v.x0 ((y_2.1).n)) (pickM v.x1 ((y_2.1).n)) ((pickM c.m (40 : Int)) - (20 : Int)) c.a)]⟩, trivial⟩) hp ?_
 clear hp
 intro v170 hI
 replace hv := hv v170 hI
 clear hI
 refine W.rL ?_
 refine cL rfl (o_lss rfl rfl ?_)
 refine eL ?_
 refine W.tr [(5, .int _ _), (9, .ptr _ _), (10, .ptr _ _), (13, .int _ _), (19, .ptr _ _), (22, .int _ _), (23, .int _ _), (28, .ptr _ _), (65, .ref _ _ _), (66, .int _ _), (67, .int _ _), (150, .ref _ _ _), (151, .int _ _), (152, .int _ _), (168, .ref _ _ _), (169, .int _ _), (170, .int _ _), (171, .bool _)] [.box _ [.int _ _, .int _ _, .int _ _, .int _ _], .box _ [.int _ _, .int _ _, .int _ _], .row _ _ _, .dead, .box _ [.int _ _, .lst _ _ _], .dead, .dead, .row _ _ _, .box _ [.int _ _, .lst _ _ _], .dead, .row _ _ _] ⟨rfl, rfl, rfl, rfl, rfl, rfl, rfl, rfl, rfl, rfl, rfl, rfl, rfl, rfl, rfl, rfl, rfl, rfl, trivial⟩ rfl ?_
 refine W.seq' ?_
 refine W.cn rfl (fun hc => ?_) (fun hc => ?_)
 have hv := hv.1 hc
 refine W.skip ?_
 refine th_nrm ?_
 refine W.tr [(5, .int _ _), (9, .ptr _ _), (10, .ptr _ _), (13, .int _ _), (19, .ptr _ _), (22, .int _ _), (23, .int _ _), (28, .ptr _ _), (65, .ref _ _ _), (66, .int _ _), (67, .int _ _), (150, .ref _ _ _), (151, .int _ _), (152, .int _ _), (168, .ref _ _ _), (169, .int _ _), (170, .int _ _)] [.box _ [.int _ _, .int _ _, .int _ _, .int _ _], .box _ [.int _ _, .int _ _, .int _ _], .row _ _ _, .dead, .box _ [.int _ _, .lst _ _ _], .dead, .dead, .row _ _ _, .box _ [.int _ _, .lst _ _ _], .dead, .row _ _ _] ⟨rfl, rfl, rfl, rfl, rfl, rfl, rfl, rfl, rfl, rfl, rfl, rfl, rfl, rfl, rfl, rfl, rfl, trivial⟩ rfl ?_
 refine W.seq' ?_
 refine W.block ?_
 refine W.rL ?_
 obtain ⟨s12782, hv⟩ := hv
 refine cL rfl (o_iaR tt22 tt25 rfl rfl s12782 ?_)
 refine cL rfl (o_ldA (cs := [.int _ _, .int _ _, .int _ _, .int _ _]) tt25 rfl rfl (ca_row (xs := [c, (Con.mk (pickM v.x0 ((y_2.1).n)) (pickM v.x1 ((y_2.1).n)) ((pickM c.m (40 : Int)) - (20 : Int)) c.a)]) rfl (enc25.wd false) s12782) rfl ?_)
 refine cL rfl (o_alloc (p := 11) tt25 rfl rfl ?_)
 refine cLn (o_stB (v := .agg _) (vs := [.int _ _, .int _ _, .int _ _, .int _ _]) (cs2 := [.int _ _, .int _ _, .int _ _, .int _ _]) tt25 rfl rfl rfl rfl rfl (Nat.le_of_ble_eq_true rfl) rfl ?_)
 refine eL ?_
 refine W.tr [(5, .int _ _), (9, .ptr _ _), (10, .ptr _ _), (13, .int _ _), (19, .ptr _ _), (22, .int _ _), (23, .int _ _), (28, .ptr _ _), (31, .ptr _ _), (65, .ref _ _ _), (66, .int _ _), (67, .int _ _), (150, .ref _ _ _), (151, .int _ _), (152, .int _ _), (168, .ref _ _ _), (169, .int _ _), (170, .int _ _)] [.box _ [.int _ _, .int _ _, .int _ _, .int _ _], .box _ [.int _ _, .int _ _, .int _ _], .row _ _ _, .dead, .box _ [.int _ _, .lst _ _ _], .dead, .dead, .row _ _ _, .box _ [.int _ _, .lst _ _ _], .dead, .row _ _ _, .box _ [.int _ _, .int _ _, .int _ _, .int _ _]] ⟨rfl, rfl, rfl, rfl, rfl, rfl, rfl, rfl, rfl, rfl, rfl, rfl, rfl, rfl, rfl, rfl, rfl, rfl, trivial⟩ rfl ?_
 generalize hy : lat [c, (Con.mk (pickM v.x0 ((y_2.1).n)) (pickM v.x1 ((y_2.1).n)) ((pickM c.m (40 : Int)) - (20 : Int)) c.a)] v170 = y_4
 replace hv := hv y_4 hy
 clear hy
 refine W.rL ?_
 refine cL rfl (o_ldA (cs := [.int _ _, .lst _ _ _]) tt34 rfl rfl ⟨_, rfl⟩ rfl ?_)
 refine cL rfl (o_ldA (cs := [.int _ _, .int _ _, .int _ _, .int _ _]) tt25 rfl rfl ⟨_, rfl⟩ rfl ?_)
 obtain ⟨s12783, s12784, hv⟩ := hv
 refine cL rfl (o_callP1 (k := 19) (fst := []) (caps := []) (ys := [.agg _, .agg _]) rfl rfl (spec_addb y_3 y_4 s12783 s12784) (Wks.cons (ag_agg 5 _ (Wks.cons (ag_int _ _ _ _) (Wks.cons (ag_lst _ _ _ _ _) (Wks.refl _)))) (Wks.cons (ag_agg 5 _ (Wks.cons (ag_int _ _ _ _) (Wks.cons (ag_int _ _ _ _) (Wks.cons (ag_int _ _ _ _) (Wks.cons (ag_int _ _ _ _) (Wks.refl _)))))) (Wks.refl _))) ?_)
 refine cL rfl (o_move (v := .tup _) rfl ?_)
 refine cL rfl (o_ext (v := .agg _) rfl rfl ?_)
 refine cL rfl (o_ext (v := .bool _) rfl rfl ?_)
 refine cL rfl (o_ext (v := .int _ _) rfl rfl ?_)
 refine cL rfl (o_alloc (p := 12) tt34 rfl rfl ?_)
 refine cLn (o_stB (v := .agg _) (vs := [.int _ _, .lst _ _ _]) (cs2 := [.int _ _, .lst _ _ _]) tt34 rfl rfl rfl rfl rfl (Nat.le_of_ble_eq_true rfl) rfl ?_)
 refine aB rfl rfl ?_
 refine aI rfl rfl ?_
 refine eL ?_
 refine W.tr [(5, .int _ _), (9, .ptr _ _), (10, .ptr _ _), (13, .int _ _), (19, .ptr _ _), (22, .int _ _), (23, .int _ _), (28, .ptr _ _), (31, .ptr _ _), (32, .ptr _ _), (33, .bool _), (34, .int _ _), (65, .ref _ _ _), (66, .int _ _), (67, .int _ _), (150, .ref _ _ _), (151, .int _ _), (152, .int _ _), (168, .ref _ _ _), (169, .int _ _), (170, .int _ _)] [.box _ [.int _ _, .int _ _, .int _ _, .int _ _], .box _ [.int _ _, .int _ _, .int _ _], .row _ _ _, .dead, .box _ [.int _ _, .lst _ _ _], .dead, .dead, .row _ _ _, .box _ [.int _ _, .lst _ _ _], .dead, .row _ _ _, .box _ [.int _ _, .int _ _, .int _ _, .int _ _], .box _ [.int _ _, .lst _ _ _]] ⟨rfl, rfl, rfl, rfl, rfl, rfl, rfl, rfl, rfl, rfl, rfl, rfl, rfl, rfl, rfl, rfl, rfl, rfl, rfl, rfl, rfl, trivial⟩ rfl ?_
 refine W.rL ?_
 refine cL rfl (o_ldA (cs := [.int _ _, .lst _ _ _]) tt34 rfl rfl ⟨_, rfl⟩ rfl ?_)
 refine cL rfl (o_ldA (cs := [.int _ _, .int _ _, .int _ _, .int _ _]) tt25 rfl rfl ⟨_, rfl⟩ rfl ?_)
 obtain ⟨s12785, s12786, hv⟩ := hv
 refine cL rfl (o_callP1 (k := 20) (fst := []) (caps := []) (ys := [.agg _, .agg _]) rfl rfl (spec_radd y_3 y_4 s12785 s12786) (Wks.cons (ag_agg 5 _ (Wks.cons (ag_int _ _ _ _) (Wks.cons (ag_lst _ _ _ _ _) (Wks.refl _)))) (Wks.cons (ag_agg 5 _ (Wks.cons (ag_int _ _ _ _) (Wks.cons (ag_int _ _ _ _) (Wks.cons (ag_int _ _ _ _) (Wks.cons (ag_int _ _ _ _) (Wks.refl _)))))) (Wks.refl _))) ?_)
 refine cL rfl (o_move (v := .tup _) rfl ?_)
 refine cL rfl (o_ext (v := .agg _) rfl rfl ?_)
 refine cL rfl (o_ext (v := .bool _) rfl rfl ?_)
 refine cL rfl (o_ext (v := .int _ _) rfl rfl ?_)
 refine cL rfl (o_alloc (p := 13) tt34 rfl rfl ?_)
 refine cLn (o_stB (v := .agg _) (vs := [.int _ _, .lst _ _ _]) (cs2 := [.int _ _, .lst _ _ _]) tt34 rfl rfl rfl rfl rfl (Nat.le_of_ble_eq_true rfl) rfl ?_)
 refine aB rfl rfl ?_
 refine aI rfl rfl ?_
 refine eL ?_
 refine W.tr [(5, .int _ _), (9, .ptr _ _), (10, .ptr _ _), (13, .int _ _), (19, .ptr _ _), (22, .int _ _), (23, .int _ _), (28, .ptr _ _), (32, .ptr _ _), (33, .bool _), (34, .int _ _), (35, .ptr _ _), (36, .bool _), (37, .int _ _), (65, .ref _ _ _), (66, .int _ _), (67, .int _ _), (150, .ref _ _ _), (151, .int _ _), (152, .int _ _), (168, .ref _ _ _), (169, .int _ _), (170, .int _ _)] [.box _ [.int _ _, .int _ _, .int _ _, .int _ _], .box _ [.int _ _, .int _ _, .int _ _], .row _ _ _, .dead, .box _ [.int _ _, .lst _ _ _], .dead, .dead, .row _ _ _, .box _ [.int _ _, .lst _ _ _], .dead, .row _ _ _, .box _ [.int _ _, .int _ _, .int _ _, .int _ _], .box _ [.int _ _, .lst _ _ _], .box _ [.int _ _, .lst _ _ _]] ⟨rfl, rfl, rfl, rfl, rfl, rfl, rfl, rfl, rfl, rfl, rfl, rfl, rfl, rfl, rfl, rfl, rfl, rfl, rfl, rfl, rfl, rfl, rfl, trivial⟩ rfl ?_
 obtain ⟨sd, hv⟩ := hv
 refine W.rLm ⟨296, look [(5, .int .i64 most), (9, .ptr 0 0), (10, .ptr 1 0), (13, .int .i64 v13), (19, .ptr 4 0), (22, .int .i64 (pickM v.x0 ((y_2.1).n))), (23, .int .i64 (pickM v.x1 ((y_2.1).n))), (28, .ptr 8 0), (65, .ref false 2 ([raw.take 40, y].length)), (66, .int .i64 ((2 : Nat) : Int)), (67, .int .i64 v67), (150, .ref false 7 ([y_2.1, (Bd.mk b5n r6), (Bd.mk ((y_2.1).n) (((y_2.1).most).drop (1 : Int).toNat))].length)), (151, .int .i64 ((3 : Nat) : Int)), (152, .int .i64 v152), (168, .ref false 10 ([c, (Con.mk (pickM v.x0 ((y_2.1).n)) (pickM v.x1 ((y_2.1).n)) ((pickM c.m (40 : Int)) - (20 : Int)) c.a)].length)), (169, .int .i64 ((2 : Nat) : Int)), (170, .int .i64 v170), (201, .bool (decide ((¬ (addBM y_3 y_4).2.2 = (addBM y_3 y_4).2.2) ∨ ((¬ ((addBM y_3 y_4).2.1) = ((addBM y_3 y_4).2.1)) ∨ (¬ ((sameM ((addBM y_3 y_4).1) ((addBM y_3 y_4).1)) = true))))))], [.box 25 [.int .i64 c.f, .int .i64 c.t, .int .i64 c.m, .int .i64 c.a], .box 26 [.int .i64 v.x0, .int .i64 v.x1, .int .i64 v.x2], .row 22 1 (encL (eSl e25 true) [raw.take 40, y]), .dead, .box 34 [.int .i64 ((y_2.1).n), .lst false ((y_2.1).most).length (encL (eSl eInt true) ((y_2.1).most))], .dead, .dead, .row 34 2 (encL (e34 false) [y_2.1, (Bd.mk b5n r6), (Bd.mk ((y_2.1).n) (((y_2.1).most).drop (1 : Int).toNat))]), .box 34 [.int .i64 y_3.n, .lst false y_3.most.length (encL (eSl eInt true) y_3.most)], .dead, .row 25 4 (encL e25 [c, (Con.mk (pickM v.x0 ((y_2.1).n)) (pickM v.x1 ((y_2.1).n)) ((pickM c.m (40 : Int)) - (20 : Int)) c.a)]), .box 25 [.int .i64 y_4.f, .int .i64 y_4.t, .int .i64 y_4.m, .int .i64 y_4.a], .box 34 [.int .i64 (((addBM y_3 y_4).1).n), .lst false (((addBM y_3 y_4).1).most).length (encL (eSl eInt true) (((addBM y_3 y_4).1).most))], .box 34 [.int .i64 (((addBM y_3 y_4).1).n), .lst false (((addBM y_3 y_4).1).most).length (encL (eSl eInt true) (((addBM y_3 y_4).1).most))]], false⟩ ?_ ?_
 iterate 2 refine mI rfl rfl ?_
 refine cL rfl (o_neI rfl rfl rfl ?_)
 refine mB rfl rfl ?_
 by_cases c1 : ¬ (addBM y_3 y_4).2.2 = (addBM y_3 y_4).2.2
 iterate 3 refine cLs rfl rfl rfl (decide_eq_true c1) ?_
 refine cL rfl (o_pickT (v := .bool _) rfl (decide_eq_true c1) rfl ?_)
 refine mB rfl rfl ?_
 iterate 4 refine cLs rfl rfl rfl (rfl) ?_
 refine cL rfl (o_pickT (v := .bool _) rfl rfl rfl ?_)
 refine eL ?_
 exact le_mk ⟨rfl, rfl, rfl, rfl, rfl, rfl, rfl, rfl, rfl, rfl, rfl, rfl, rfl, rfl, rfl, rfl, rfl, (congrArg AV.bool (dOrT c1)).symm, trivial⟩ rfl
 have sd := sd.2 c1
 refine cLg rfl rfl (decide_eq_false c1) ?_
 refine mB rfl rfl ?_
 refine cLg rfl rfl (decide_eq_false c1) ?_
 refine mB rfl rfl ?_
 refine cLg rfl rfl (decide_eq_false c1) ?_
 refine cL rfl (o_neB rfl tt4 rfl rfl ?_)
 refine cL rfl (o_pickF (v := .bool _) rfl (decide_eq_false c1) rfl ?_)
 refine mB rfl rfl ?_
 by_cases c2 : ¬ ((addBM y_3 y_4).2.1) = ((addBM y_3 y_4).2.1)
 iterate 4 refine cLs rfl rfl rfl (decide_eq_true c2) ?_
 refine cL rfl (o_pickT (v := .bool _) rfl (decide_eq_true c2) rfl ?_)
 refine eL ?_
 exact le_mk ⟨rfl, rfl, rfl, rfl, rfl, rfl, rfl, rfl, rfl, rfl, rfl, rfl, rfl, rfl, rfl, rfl, rfl, (congrArg AV.bool (dOrF c1 (dOrT c2))).symm, trivial⟩ rfl
 have sd := sd.2 c2
 refine cLg rfl rfl (decide_eq_false c2) ?_
 refine cL rfl (o_ldA (cs := [.int _ _, .lst _ _ _]) tt34 rfl rfl ⟨_, rfl⟩ rfl ?_)
 refine cLg rfl rfl (decide_eq_false c2) ?_
 refine cL rfl (o_ldA (cs := [.int _ _, .lst _ _ _]) tt34 rfl rfl ⟨_, rfl⟩ rfl ?_)
 refine cLg rfl rfl (decide_eq_false c2) ?_
 obtain ⟨s12789, s12790, sd⟩ := sd
 refine cL rfl (o_callP1 (k := 17) (fst := []) (caps := []) (ys := [.agg _, .agg _]) rfl rfl (spec_rsame ((addBM y_3 y_4).1) ((addBM y_3 y_4).1) s12789 s12790) (Wks.cons (ag_agg 5 _ (Wks.cons (ag_int _ _ _ _) (Wks.cons (ag_lst _ _ _ _ _) (Wks.refl _)))) (Wks.cons (ag_agg 5 _ (Wks.cons (ag_int _ _ _ _) (Wks.cons (ag_lst _ _ _ _ _) (Wks.refl _)))) (Wks.refl _))) ?_)
 refine cLg rfl rfl (decide_eq_false c2) ?_
 refine cL rfl (o_notB rfl ?_)
 refine cL rfl (o_pickF (v := .bool _) rfl (decide_eq_false c2) rfl ?_)
 refine eL ?_
 exact le_mk ⟨rfl, rfl, rfl, rfl, rfl, rfl, rfl, rfl, rfl, rfl, rfl, rfl, rfl, rfl, rfl, rfl, rfl, (congrArg AV.bool (dOrF c1 (dOrF c2 (rfl)))).symm, trivial⟩ rfl
 refine W.cn rfl (fun hc => ?_) (fun hc => ?_)
 have hv := hv.1 hc
 refine W.rL ?_
 refine aB rfl rfl ?_
 refine eL ?_
 refine W.tr [(12, .bool _)] [.box _ [.int _ _, .int _ _, .int _ _, .int _ _], .box _ [.int _ _, .int _ _, .int _ _], .row _ _ _, .dead, .box _ [.int _ _, .lst _ _ _], .dead, .dead, .row _ _ _, .box _ [.int _ _, .lst _ _ _], .dead, .row _ _ _, .box _ [.int _ _, .int _ _, .int _ _, .int _ _], .box _ [.int _ _, .lst _ _ _], .box _ [.int _ _, .lst _ _ _]] ⟨rfl, trivial⟩ rfl ?_
 refine W.ret ?_
 refine bl_ret (th_ret (th_ret (bl_ret (th_ret (bl_ret (th_ret (th_ret (bl_ret (bl_ret (th_ret (th_ret (bl_ret (th_ret (rt ?_))))))))))))))
 refine rt_t (v := .bool _) rfl ?_
 refine rt_n ?_
 exact ⟨_, rs_bool _ _ _, false, rfl, hv⟩
 have hv := hv.2 hc
 refine W.skip ?_
 refine bl_nrm (th_nrm ?_)
 refine W.tr [(5, .int _ _), (9, .ptr _ _), (10, .ptr _ _), (13, .int _ _), (19, .ptr _ _), (22, .int _ _), (23, .int _ _), (28, .ptr _ _), (65, .ref _ _ _), (66, .int _ _), (67, .int _ _), (150, .ref _ _ _), (151, .int _ _), (152, .int _ _), (168, .ref _ _ _), (169, .int _ _), (170, .int _ _)] [.box _ [.int _ _, .int _ _, .int _ _, .int _ _], .box _ [.int _ _, .int _ _, .int _ _], .row _ _ _, .dead, .box _ [.int _ _, .lst _ _ _], .dead, .dead, .row _ _ _, .box _ [.int _ _, .lst _ _ _], .dead, .row _ _ _, .box _ [.int _ _, .int _ _, .int _ _, .int _ _], .box _ [.int _ _, .lst _ _ _], .box _ [.int _ _, .lst _ _ _]] ⟨rfl, rfl, rfl, rfl, rfl, rfl, rfl, rfl, rfl, rfl, rfl, rfl, rfl, rfl, rfl, rfl, rfl, trivial⟩ rfl ?_
 refine W.rL1 ?_
 obtain ⟨s12791, hv⟩ := hv
 refine cL rfl (o_add rfl rfl s12791 ?_)
 refine mI rfl rfl ?_
 refine eL ?_
 exact th_nrm (⟨(), (v170 + (1 : Int)), hv, St.to_mk (φ := [some 0, some 1, some 2, none, some 4, none, none, some 7, some 8, none, some 10]) rfl (.inl rfl) ⟨Ren.int _ _, Ren.ptr rfl, Ren.ptr rfl, Ren.int _ _, Ren.ptr rfl, Ren.int _ _, Ren.int _ _, Ren.ptr rfl, Ren.ref rfl (fun h => h), Ren.int _ _, Ren.int _ _, Ren.ref rfl (fun h => h), Ren.int _ _, Ren.int _ _, Ren.ref rfl (fun h => h), Ren.int _ _, Ren.int _ _, trivial⟩ ⟨.inr ⟨_, rfl, rfl, Rens.cons (Ren.int _ _) (Rens.cons (Ren.int _ _) (Rens.cons (Ren.int _ _) (Rens.cons (Ren.int _ _) (Rens.nil))))⟩, .inr ⟨_, rfl, rfl, Rens.cons (Ren.int _ _) (Rens.cons (Ren.int _ _) (Rens.cons (Ren.int _ _) (Rens.nil)))⟩, .inr ⟨_, rfl, rfl, rfl, rfl, Rens.enc (encSl e25) true [raw.take 40, y]⟩, rfl, .inr ⟨_, rfl, rfl, Rens.cons (Ren.int _ _) (Rens.cons (Ren.lst _ _ _) (Rens.nil))⟩, rfl, rfl, .inr ⟨_, rfl, rfl, rfl, rfl, Rens.enc enc34 false [y_2.1, (Bd.mk b5n r6), (Bd.mk ((y_2.1).n) (((y_2.1).most).drop (1 : Int).toNat))]⟩, .inr ⟨_, rfl, rfl, Rens.cons (Ren.int _ _) (Rens.cons (Ren.lst _ _ _) (Rens.nil))⟩, rfl, .inr ⟨_, rfl, rfl, rfl, rfl, Rens.enc enc25 false [c, (Con.mk (pickM v.x0 ((y_2.1).n)) (pickM v.x1 ((y_2.1).n)) ((pickM c.m (40 : Int)) - (20 : Int)) c.a)]⟩, trivial⟩⟩)
 have hv := hv.2 hc
 refine W.exit ?_
 refine th_exit (th_exit (bl_hit (th_nrm ?_)))
 refine W.tr [(5, .int _ _), (9, .ptr _ _), (10, .ptr _ _), (13, .int _ _), (19, .ptr _ _), (22, .int _ _), (23, .int _ _), (28, .ptr _ _), (65, .ref _ _ _), (66, .int _ _), (67, .int _ _), (150, .ref _ _ _), (151, .int _ _), (152, .int _ _)] [.box _ [.int _ _, .int _ _, .int _ _, .int _ _], .box _ [.int _ _, .int _ _, .int _ _], .row _ _ _, .dead, .box _ [.int _ _, .lst _ _ _], .dead, .dead, .row _ _ _, .box _ [.int _ _, .lst _ _ _], .dead, .row _ _ _] ⟨rfl, rfl, rfl, rfl, rfl, rfl, rfl, rfl, rfl, rfl, rfl, rfl, rfl, rfl, trivial⟩ rfl ?_
 refine W.seq' ?_
 refine W.rL ?_
 refine mI rfl rfl ?_
 refine cL rfl (o_iaA tt26 tt3 rfl rfl ⟨by decide, by decide⟩ rfl ?_)
 refine cL rfl (o_ldS (v := .int _ _) tt3 rfl rfl ⟨_, rfl⟩ ?_)
 refine cL rfl (o_buildS (q := 11) (qs := [(0, .int _ _), (1, .int _ _)]) (cs := [.int _ _, .int _ _]) tt35 tt3 rfl rfl rfl rfl ?_)
 refine cL rfl (o_len (v := .ref _ _ _) tt35 rfl rfl ?_)
 refine mI rfl rfl ?_
 refine eL ?_
 refine W.tr [(5, .int _ _), (9, .ptr _ _), (10, .ptr _ _), (13, .int _ _), (19, .ptr _ _), (22, .int _ _), (23, .int _ _), (28, .ptr _ _), (65, .ref _ _ _), (66, .int _ _), (67, .int _ _), (150, .ref _ _ _), (151, .int _ _), (152, .int _ _), (206, .ref _ _ _), (207, .int _ _), (208, .int _ _)] [.box _ [.int _ _, .int _ _, .int _ _, .int _ _], .box _ [.int _ _, .int _ _, .int _ _], .row _ _ _, .dead, .box _ [.int _ _, .lst _ _ _], .dead, .dead, .row _ _ _, .box _ [.int _ _, .lst _ _ _], .dead, .row _ _ _, .row _ _ _] ⟨rfl, rfl, rfl, rfl, rfl, rfl, rfl, rfl, rfl, rfl, rfl, rfl, rfl, rfl, rfl, rfl, rfl, trivial⟩ rfl ?_
 refine W.block ?_
 obtain ⟨I8, μ8, hp, hv⟩ := hv
 refine W.loop1 (fun v208 => ⟨296, look [(5, .int .i64 most), (9, .ptr 0 0), (10, .ptr 1 0), (13, .int .i64 v13), (19, .ptr 4 0), (22, .int .i64 (pickM v.x0 ((y_2.1).n))), (23, .int .i64 (pickM v.x1 ((y_2.1).n))), (28, .ptr 8 0), (65, .ref false 2 ([raw.take 40, y].length)), (66, .int .i64 ((2 : Nat) : Int)), (67, .int .i64 v67), (150, .ref false 7 ([y_2.1, (Bd.mk b5n r6), (Bd.mk ((y_2.1).n) (((y_2.1).most).drop (1 : Int).toNat))].length)), (151, .int .i64 ((3 : Nat) : Int)), (152, .int .i64 v152), (206, .ref false 11 ([pickM v.x1 ((y_2.1).n), v.x1].length)), (207, .int .i64 ((2 : Nat) : Int)), (208, .int .i64 v208)], [.box 25 [.int .i64 c.f, .int .i64 c.t, .int .i64 c.m, .int .i64 c.a], .box 26 [.int .i64 v.x0, .int .i64 v.x1, .int .i64 v.x2], .row 22 1 (encL (eSl e25 true) [raw.take 40, y]), .dead, .box 34 [.int .i64 ((y_2.1).n), .lst false ((y_2.1).most).length (encL (eSl eInt true) ((y_2.1).most))], .dead, .dead, .row 34 2 (encL (e34 false) [y_2.1, (Bd.mk b5n r6), (Bd.mk ((y_2.1).n) (((y_2.1).most).drop (1 : Int).toNat))]), .box 34 [.int .i64 y_3.n, .lst false y_3.most.length (encL (eSl eInt true) y_3.most)], .dead, .dead, .row 3 1 (encL eInt [pickM v.x1 ((y_2.1).n), v.x1])], false⟩) I8 μ8 (0 : Int) (St.to_mk (φ := [some 0, some 1, some 2, none, some 4, none, none, some 7, some 8, none, none, some 11]) rfl (.inl rfl) ⟨Ren.int _ _, Ren.ptr rfl, Ren.ptr rfl, Ren.int _ _, Ren.ptr rfl, Ren.int _ _, Ren.int _ _, Ren.ptr rfl, Ren.ref rfl (fun h => h), Ren.int _ _, Ren.int _ _, Ren.ref rfl (fun h => h), Ren.int _ _, Ren.int _ _, Ren.ref rfl (fun h => h), Ren.int _ _, Ren.int _ _, trivial⟩ ⟨.inr ⟨_, rfl, rfl, Rens.cons (Ren.int _ _) (Rens.cons (Ren.int _ _) (Rens.cons (Ren.int _ _) (Rens.cons (Ren.int _ _) (Rens.nil))))⟩, .inr ⟨_, rfl, rfl, Rens.cons (Ren.int _ _) (Rens.cons (Ren.int _ _) (Rens.cons (Ren.int _ _) (Rens.nil)))⟩, .inr ⟨_, rfl, rfl, rfl, rfl, Rens.enc (encSl e25) true [raw.take 40, y]⟩, rfl, .inr ⟨_, rfl, rfl, Rens.cons (Ren.int _ _) (Rens.cons (Ren.lst _ _ _) (Rens.nil))⟩, rfl, rfl, .inr ⟨_, rfl, rfl, rfl, rfl, Rens.enc enc34 false [y_2.1, (Bd.mk b5n r6), (Bd.mk ((y_2.1).n) (((y_2.1).most).drop (1 : Int).toNat))]⟩, .inr ⟨_, rfl, rfl, Rens.cons (Ren.int _ _) (Rens.cons (Ren.lst _ _ _) (Rens.nil))⟩, rfl, rfl, .inr ⟨_, rfl, rfl, rfl, rfl, Rens.enc encInt false [pickM v.x1 ((y_2.1).n), v.x1]⟩, trivial⟩) hp ?_
 clear hp
 intro v208 hI
 replace hv := hv v208 hI
 clear hI
 refine W.rL ?_
 refine cL rfl (o_lss rfl rfl ?_)
 refine eL ?_
 refine W.tr [(5, .int _ _), (9, .ptr _ _), (10, .ptr _ _), (13, .int _ _), (19, .ptr _ _), (22, .int _ _), (23, .int _ _), (28, .ptr _ _), (65, .ref _ _ _), (66, .int _ _), (67, .int _ _), (150, .ref _ _ _), (151, .int _ _), (152, .int _ _), (206, .ref _ _ _), (207, .int _ _), (208, .int _ _), (209, .bool _)] [.box _ [.int _ _, .int _ _, .int _ _, .int _ _], .box _ [.int _ _, .int _ _, .int _ _], .row _ _ _, .dead, .box _ [.int _ _, .lst _ _ _], .dead, .dead, .row _ _ _, .box _ [.int _ _, .lst _ _ _], .dead, .dead, .row _ _ _] ⟨rfl, rfl, rfl, rfl, rfl, rfl, rfl, rfl, rfl, rfl, rfl, rfl, rfl, rfl, rfl, rfl, rfl, rfl, trivial⟩ rfl ?_
 refine W.seq' ?_
 refine W.cn rfl (fun hc => ?_) (fun hc => ?_)
 have hv := hv.1 hc
 refine W.skip ?_
 refine th_nrm ?_
 refine W.tr [(5, .int _ _), (9, .ptr _ _), (10, .ptr _ _), (13, .int _ _), (19, .ptr _ _), (22, .int _ _), (23, .int _ _), (28, .ptr _ _), (65, .ref _ _ _), (66, .int _ _), (67, .int _ _), (150, .ref _ _ _), (151, .int _ _), (152, .int _ _), (206, .ref _ _ _), (207, .int _ _), (208, .int _ _)] [.box _ [.int _ _, .int _ _, .int _ _, .int _ _], .box _ [.int _ _, .int _ _, .int _ _], .row _ _ _, .dead, .box _ [.int _ _, .lst _ _ _], .dead, .dead, .row _ _ _, .box _ [.int _ _, .lst _ _ _], .dead, .dead, .row _ _ _] ⟨rfl, rfl, rfl, rfl, rfl, rfl, rfl, rfl, rfl, rfl, rfl, rfl, rfl, rfl, rfl, rfl, rfl, trivial⟩ rfl ?_
 refine W.seq' ?_
 refine W.block ?_
 refine W.rL ?_
 obtain ⟨s13047, hv⟩ := hv
 refine cL rfl (o_iaR tt35 tt3 rfl rfl s13047 ?_)
 refine cL rfl (o_ldS (v := .int _ _) tt3 rfl rfl (cell_of (ca_row (xs := [pickM v.x1 ((y_2.1).n), v.x1]) rfl (encInt.wd false) s13047) rfl) ?_)
 refine aI rfl rfl ?_
 refine eL ?_
 refine W.tr [(5, .int _ _), (9, .ptr _ _), (10, .ptr _ _), (13, .int _ _), (19, .ptr _ _), (22, .int _ _), (23, .int _ _), (28, .ptr _ _), (39, .int _ _), (65, .ref _ _ _), (66, .int _ _), (67, .int _ _), (150, .ref _ _ _), (151, .int _ _), (152, .int _ _), (206, .ref _ _ _), (207, .int _ _), (208, .int _ _)] [.box _ [.int _ _, .int _ _, .int _ _, .int _ _], .box _ [.int _ _, .int _ _, .int _ _], .row _ _ _, .dead, .box _ [.int _ _, .lst _ _ _], .dead, .dead, .row _ _ _, .box _ [.int _ _, .lst _ _ _], .dead, .dead, .row _ _ _] ⟨rfl, rfl, rfl, rfl, rfl, rfl, rfl, rfl, rfl, rfl, rfl, rfl, rfl, rfl, rfl, rfl, rfl, rfl, trivial⟩ rfl ?_
 generalize hy : lat [pickM v.x1 ((y_2.1).n), v.x1] v208 = y_4
 replace hv := hv y_4 hy
 clear hy
 refine W.rL ?_
 refine cL rfl (o_ldA (cs := [.int _ _, .lst _ _ _]) tt34 rfl rfl ⟨_, rfl⟩ rfl ?_)
 iterate 2 refine mI rfl rfl ?_
 obtain ⟨s13048, s13049, hv⟩ := hv
 refine cL rfl (o_callP1 (k := 21) (fst := []) (caps := []) (ys := [.agg _, .int _ _, .int _ _]) rfl rfl (spec_range y_3 (pickM v.x0 ((y_2.1).n)) y_4 s13048 s13049) (Wks.cons (ag_agg 5 _ (Wks.cons (ag_int _ _ _ _) (Wks.cons (ag_lst _ _ _ _ _) (Wks.refl _)))) (Wks.cons (ag_int _ _ _ _) (Wks.cons (ag_int _ _ _ _) (Wks.refl _)))) ?_)
 refine cL rfl (o_move (v := .tup _) rfl ?_)
 iterate 3 refine cL rfl (o_ext (v := .int _ _) rfl rfl ?_)
 iterate 3 refine aI rfl rfl ?_
 refine eL ?_
 refine W.tr [(5, .int _ _), (9, .ptr _ _), (10, .ptr _ _), (13, .int _ _), (19, .ptr _ _), (22, .int _ _), (23, .int _ _), (28, .ptr _ _), (39, .int _ _), (40, .int _ _), (41, .int _ _), (42, .int _ _), (65, .ref _ _ _), (66, .int _ _), (67, .int _ _), (150, .ref _ _ _), (151, .int _ _), (152, .int _ _), (206, .ref _ _ _), (207, .int _ _), (208, .int _ _)] [.box _ [.int _ _, .int _ _, .int _ _, .int _ _], .box _ [.int _ _, .int _ _, .int _ _], .row _ _ _, .dead, .box _ [.int _ _, .lst _ _ _], .dead, .dead, .row _ _ _, .box _ [.int _ _, .lst _ _ _], .dead, .dead, .row _ _ _] ⟨rfl, rfl, rfl, rfl, rfl, rfl, rfl, rfl, rfl, rfl, rfl, rfl, rfl, rfl, rfl, rfl, rfl, rfl, rfl, rfl, rfl, trivial⟩ rfl ?_
 generalize hy : rangeM y_3 (pickM v.x0 ((y_2.1).n)) y_4 = y_5
 replace hv := hv y_5 hy
 clear hy
 refine W.rL ?_
 refine cL rfl (o_ldA (cs := [.int _ _, .lst _ _ _]) tt34 rfl rfl ⟨_, rfl⟩ rfl ?_)
 iterate 2 refine mI rfl rfl ?_
 obtain ⟨s13050, s13051, hv⟩ := hv
 refine cL rfl (o_callP1 (k := 22) (fst := []) (caps := []) (ys := [.agg _, .int _ _, .int _ _]) rfl rfl (spec_rrange y_3 (pickM v.x0 ((y_2.1).n)) y_4 s13050 s13051) (Wks.cons (ag_agg 5 _ (Wks.cons (ag_int _ _ _ _) (Wks.cons (ag_lst _ _ _ _ _) (Wks.refl _)))) (Wks.cons (ag_int _ _ _ _) (Wks.cons (ag_int _ _ _ _) (Wks.refl _)))) ?_)
 refine cL rfl (o_move (v := .tup _) rfl ?_)
 iterate 3 refine cL rfl (o_ext (v := .int _ _) rfl rfl ?_)
 iterate 3 refine aI rfl rfl ?_
 refine eL ?_
 refine W.tr [(5, .int _ _), (9, .ptr _ _), (10, .ptr _ _), (13, .int _ _), (19, .ptr _ _), (22, .int _ _), (23, .int _ _), (28, .ptr _ _), (39, .int _ _), (40, .int _ _), (41, .int _ _), (42, .int _ _), (43, .int _ _), (44, .int _ _), (45, .int _ _), (65, .ref _ _ _), (66, .int _ _), (67, .int _ _), (150, .ref _ _ _), (151, .int _ _), (152, .int _ _), (206, .ref _ _ _), (207, .int _ _), (208, .int _ _)] [.box _ [.int _ _, .int _ _, .int _ _, .int _ _], .box _ [.int _ _, .int _ _, .int _ _], .row _ _ _, .dead, .box _ [.int _ _, .lst _ _ _], .dead, .dead, .row _ _ _, .box _ [.int _ _, .lst _ _ _], .dead, .dead, .row _ _ _] ⟨rfl, rfl, rfl, rfl, rfl, rfl, rfl, rfl, rfl, rfl, rfl, rfl, rfl, rfl, rfl, rfl, rfl, rfl, rfl, rfl, rfl, rfl, rfl, rfl, trivial⟩ rfl ?_
 generalize hy : rangeM y_3 (pickM v.x0 ((y_2.1).n)) y_4 = y_6
 replace hv := hv y_6 hy
 clear hy
 refine W.seq' ?_
 refine W.rLm ⟨296, look [(5, .int .i64 most), (9, .ptr 0 0), (10, .ptr 1 0), (13, .int .i64 v13), (19, .ptr 4 0), (22, .int .i64 (pickM v.x0 ((y_2.1).n))), (23, .int .i64 (pickM v.x1 ((y_2.1).n))), (28, .ptr 8 0), (39, .int .i64 y_4), (40, .int .i64 y_5.1), (41, .int .i64 y_5.2.1), (65, .ref false 2 ([raw.take 40, y].length)), (66, .int .i64 ((2 : Nat) : Int)), (67, .int .i64 v67), (150, .ref false 7 ([y_2.1, (Bd.mk b5n r6), (Bd.mk ((y_2.1).n) (((y_2.1).most).drop (1 : Int).toNat))].length)), (151, .int .i64 ((3 : Nat) : Int)), (152, .int .i64 v152), (206, .ref false 11 ([pickM v.x1 ((y_2.1).n), v.x1].length)), (207, .int .i64 ((2 : Nat) : Int)), (208, .int .i64 v208), (240, .bool (decide ((¬ y_5.2.2 = y_6.2.2) ∨ ((¬ y_5.1 = y_6.1) ∨ (¬ y_5.2.1 = y_6.2.1)))))], [.box 25 [.int .i64 c.f, .int .i64 c.t, .int .i64 c.m, .int .i64 c.a], .box 26 [.int .i64 v.x0, .int .i64 v.x1, .int .i64 v.x2], .row 22 1 (encL (eSl e25 true) [raw.take 40, y]), .dead, .box 34 [.int .i64 ((y_2.1).n), .lst false ((y_2.1).most).length (encL (eSl eInt true) ((y_2.1).most))], .dead, .dead, .row 34 2 (encL (e34 false) [y_2.1, (Bd.mk b5n r6), (Bd.mk ((y_2.1).n) (((y_2.1).most).drop (1 : Int).toNat))]), .box 34 [.int .i64 y_3.n, .lst false y_3.most.length (encL (eSl eInt true) y_3.most)], .dead, .dead, .row 3 1 (encL eInt [pickM v.x1 ((y_2.1).n), v.x1])], false⟩ ?_ ?_
 iterate 2 refine mI rfl rfl ?_
 refine cL rfl (o_neI rfl rfl rfl ?_)
 refine mB rfl rfl ?_
 by_cases c1 : ¬ y_5.2.2 = y_6.2.2
 iterate 3 refine cLs rfl rfl rfl (decide_eq_true c1) ?_
 refine cL rfl (o_pickT (v := .bool _) rfl (decide_eq_true c1) rfl ?_)
 refine mB rfl rfl ?_
 iterate 3 refine cLs rfl rfl rfl (rfl) ?_
 refine cL rfl (o_pickT (v := .bool _) rfl rfl rfl ?_)
 refine eL ?_
 exact le_mk ⟨rfl, rfl, rfl, rfl, rfl, rfl, rfl, rfl, rfl, rfl, rfl, rfl, rfl, rfl, rfl, rfl, rfl, rfl, rfl, rfl, (congrArg AV.bool (dOrT c1)).symm, trivial⟩ rfl
 refine cLg rfl rfl (decide_eq_false c1) ?_
 refine mI rfl rfl ?_
 refine cLg rfl rfl (decide_eq_false c1) ?_
 refine mI rfl rfl ?_
 refine cLg rfl rfl (decide_eq_false c1) ?_
 refine cL rfl (o_neI rfl rfl rfl ?_)
 refine cL rfl (o_pickF (v := .bool _) rfl (decide_eq_false c1) rfl ?_)
 refine mB rfl rfl ?_
 by_cases c2 : ¬ y_5.1 = y_6.1
 iterate 3 refine cLs rfl rfl rfl (decide_eq_true c2) ?_
 refine cL rfl (o_pickT (v := .bool _) rfl (decide_eq_true c2) rfl ?_)
 refine eL ?_
 exact le_mk ⟨rfl, rfl, rfl, rfl, rfl, rfl, rfl, rfl, rfl, rfl, rfl, rfl, rfl, rfl, rfl, rfl, rfl, rfl, rfl, rfl, (congrArg AV.bool (dOrF c1 (dOrT c2))).symm, trivial⟩ rfl
 refine cLg rfl rfl (decide_eq_false c2) ?_
 refine mI rfl rfl ?_
 refine cLg rfl rfl (decide_eq_false c2) ?_
 refine mI rfl rfl ?_
 refine cLg rfl rfl (decide_eq_false c2) ?_
 refine cL rfl (o_neI rfl rfl rfl ?_)
 refine cL rfl (o_pickF (v := .bool _) rfl (decide_eq_false c2) rfl ?_)
 refine eL ?_
 exact le_mk ⟨rfl, rfl, rfl, rfl, rfl, rfl, rfl, rfl, rfl, rfl, rfl, rfl, rfl, rfl, rfl, rfl, rfl, rfl, rfl, rfl, (congrArg AV.bool (dOrF c1 (dOrF c2 (rfl)))).symm, trivial⟩ rfl
 refine W.cn rfl (fun hc => ?_) (fun hc => ?_)
 have hv := hv.1 hc
 refine W.rL ?_
 refine aB rfl rfl ?_
 refine eL ?_
 refine W.tr [(12, .bool _)] [.box _ [.int _ _, .int _ _, .int _ _, .int _ _], .box _ [.int _ _, .int _ _, .int _ _], .row _ _ _, .dead, .box _ [.int _ _, .lst _ _ _], .dead, .dead, .row _ _ _, .box _ [.int _ _, .lst _ _ _], .dead, .dead, .row _ _ _] ⟨rfl, trivial⟩ rfl ?_
 refine W.ret ?_
 refine th_ret (bl_ret (th_ret (th_ret (bl_ret (th_ret (bl_ret (th_ret (th_ret (bl_ret (bl_ret (th_ret (th_ret (bl_ret (th_ret (rt ?_)))))))))))))))
 refine rt_t (v := .bool _) rfl ?_
 refine rt_n ?_
 exact ⟨_, rs_bool _ _ _, false, rfl, hv⟩
 have hv := hv.2 hc
 refine W.skip ?_
 refine th_nrm ?_
 refine W.tr [(5, .int _ _), (9, .ptr _ _), (10, .ptr _ _), (13, .int _ _), (19, .ptr _ _), (22, .int _ _), (23, .int _ _), (28, .ptr _ _), (39, .int _ _), (40, .int _ _), (41, .int _ _), (65, .ref _ _ _), (66, .int _ _), (67, .int _ _), (150, .ref _ _ _), (151, .int _ _), (152, .int _ _), (206, .ref _ _ _), (207, .int _ _), (208, .int _ _)] [.box _ [.int _ _, .int _ _, .int _ _, .int _ _], .box _ [.int _ _, .int _ _, .int _ _], .row _ _ _, .dead, .box _ [.int _ _, .lst _ _ _], .dead, .dead, .row _ _ _, .box _ [.int _ _, .lst _ _ _], .dead, .dead, .row _ _ _] ⟨rfl, rfl, rfl, rfl, rfl, rfl, rfl, rfl, rfl, rfl, rfl, rfl, rfl, rfl, rfl, rfl, rfl, rfl, rfl, rfl, trivial⟩ rfl ?_
 refine W.rL ?_
 refine cL rfl (o_iaA tt26 tt3 rfl rfl ⟨by decide, by decide⟩ rfl ?_)
 refine cL rfl (o_ldS (v := .int _ _) tt3 rfl rfl ⟨_, rfl⟩ ?_)
 iterate 3 refine mI rfl rfl ?_
 obtain ⟨s13052, hv⟩ := hv
 refine cL rfl (o_sub rfl rfl s13052 ?_)
 refine cL rfl (o_buildS (q := 12) (qs := [(0, .int _ _), (1, .int _ _), (2, .int _ _), (3, .int _ _)]) (cs := [.int _ _, .int _ _, .int _ _, .int _ _]) tt35 tt3 rfl rfl rfl rfl ?_)
 refine cL rfl (o_len (v := .ref _ _ _) tt35 rfl rfl ?_)
 refine mI rfl rfl ?_
 refine eL ?_
 refine W.tr [(5, .int _ _), (9, .ptr _ _), (10, .ptr _ _), (13, .int _ _), (19, .ptr _ _), (22, .int _ _), (23, .int _ _), (28, .ptr _ _), (39, .int _ _), (65, .ref _ _ _), (66, .int _ _), (67, .int _ _), (150, .ref _ _ _), (151, .int _ _), (152, .int _ _), (206, .ref _ _ _), (207, .int _ _), (208, .int _ _), (247, .ref _ _ _), (248, .int _ _), (249, .int _ _)] [.box _ [.int _ _, .int _ _, .int _ _, .int _ _], .box _ [.int _ _, .int _ _, .int _ _], .row _ _ _, .dead, .box _ [.int _ _, .lst _ _ _], .dead, .dead, .row _ _ _, .box _ [.int _ _, .lst _ _ _], .dead, .dead, .row _ _ _, .row _ _ _] ⟨rfl, rfl, rfl, rfl, rfl, rfl, rfl, rfl, rfl, rfl, rfl, rfl, rfl, rfl, rfl, rfl, rfl, rfl, rfl, rfl, rfl, trivial⟩ rfl ?_
 refine W.block ?_
 obtain ⟨I9, μ9, hp, hv⟩ := hv
 refine W.loop1 (fun v249 => ⟨296, look [(5, .int .i64 most), (9, .ptr 0 0), (10, .ptr 1 0), (13, .int .i64 v13), (19, .ptr 4 0), (22, .int .i64 (pickM v.x0 ((y_2.1).n))), (23, .int .i64 (pickM v.x1 ((y_2.1).n))), (28, .ptr 8 0), (39, .int .i64 y_4), (65, .ref false 2 ([raw.take 40, y].length)), (66, .int .i64 ((2 : Nat) : Int)), (67, .int .i64 v67), (150, .ref false 7 ([y_2.1, (Bd.mk b5n r6), (Bd.mk ((y_2.1).n) (((y_2.1).most).drop (1 : Int).toNat))].length)), (151, .int .i64 ((3 : Nat) : Int)), (152, .int .i64 v152), (206, .ref false 11 ([pickM v.x1 ((y_2.1).n), v.x1].length)), (207, .int .i64 ((2 : Nat) : Int)), (208, .int .i64 v208), (247, .ref false 12 ([v.x2, y_5.1, y_5.2.1, (y_5.1 - (1 : Int))].length)), (248, .int .i64 ((4 : Nat) : Int)), (249, .int .i64 v249)], [.box 25 [.int .i64 c.f, .int .i64 c.t, .int .i64 c.m, .int .i64 c.a], .box 26 [.int .i64 v.x0, .int .i64 v.x1, .int .i64 v.x2], .row 22 1 (encL (eSl e25 true) [raw.take 40, y]), .dead, .box 34 [.int .i64 ((y_2.1).n), .lst false ((y_2.1).most).length (encL (eSl eInt true) ((y_2.1).most))], .dead, .dead, .row 34 2 (encL (e34 false) [y_2.1, (Bd.mk b5n r6), (Bd.mk ((y_2.1).n) (((y_2.1).most).drop (1 : Int).toNat))]), .box 34 [.int .i64 y_3.n, .lst false y_3.most.length (encL (eSl eInt true) y_3.most)], .dead, .dead, .row 3 1 (encL eInt [pickM v.x1 ((y_2.1).n), v.x1]), .row 3 1 (encL eInt [v.x2, y_5.1, y_5.2.1, (y_5.1 - (1 : Int))])], false⟩) I9 μ9 (0 : Int) (St.to_mk (φ := [some 0, some 1, some 2, none, some 4, none, none, some 7, some 8, none, none, some 11, some 12]) rfl (.inl rfl) ⟨Ren.int _ _, Ren.ptr rfl, Ren.ptr rfl, Ren.int _ _, Ren.ptr rfl, Ren.int _ _, Ren.int _ _, Ren.ptr rfl, Ren.int _ _, Ren.ref rfl (fun h => h), Ren.int _ _, Ren.int _ _, Ren.ref rfl (fun h => h), Ren.int _ _, Ren.int _ _, Ren.ref rfl (fun h => h), Ren.int _ _, Ren.int _ _, Ren.ref rfl (fun h => h), Ren.int _ _, Ren.int _ _, trivial⟩ ⟨.inr ⟨_, rfl, rfl, Rens.cons (Ren.int _ _) (Rens.cons (Ren.int _ _) (Rens.cons (Ren.int _ _) (Rens.cons (Ren.int _ _) (Rens.nil))))⟩, .inr ⟨_, rfl, rfl, Rens.cons (Ren.int _ _) (Rens.cons (Ren.int _ _) (Rens.cons (Ren.int _ _) (Rens.nil)))⟩, .inr ⟨_, rfl, rfl, rfl, rfl, Rens.enc (encSl e25) true [raw.take 40, y]⟩, rfl, .inr ⟨_, rfl, rfl, Rens.cons (Ren.int _ _) (Rens.cons (Ren.lst _ _ _) (Rens.nil))⟩, rfl, rfl, .inr ⟨_, rfl, rfl, rfl, rfl, Rens.enc enc34 false [y_2.1, (Bd.mk b5n r6), (Bd.mk ((y_2.1).n) (((y_2.1).most).drop (1 : Int).toNat))]⟩, .inr ⟨_, rfl, rfl, Rens.cons (Ren.int _ _) (Rens.cons (Ren.lst _ _ _) (Rens.nil))⟩, rfl, rfl, .inr ⟨_, rfl, rfl, rfl, rfl, Rens.enc encInt false [pickM v.x1 ((y_2.1).n), v.x1]⟩, .inr ⟨_, rfl, rfl, rfl, rfl, Rens.enc encInt false [v.x2, y_5.1, y_5.2.1, (y_5.1 - (1 : Int))]⟩, trivial⟩) hp ?_
 clear hp
 intro v249 hI
 replace hv := hv v249 hI
 clear hI
 refine W.rL ?_
 refine cL rfl (o_lss rfl rfl ?_)
 refine eL ?_
 refine W.tr [(5, .int _ _), (9, .ptr _ _), (10, .ptr _ _), (13, .int _ _), (19, .ptr _ _), (22, .int _ _), (23, .int _ _), (28, .ptr _ _), (39, .int _ _), (65, .ref _ _ _), (66, .int _ _), (67, .int _ _), (150, .ref _ _ _), (151, .int _ _), (152, .int _ _), (206, .ref _ _ _), (207, .int _ _), (208, .int _ _), (247, .ref _ _ _), (248, .int _ _), (249, .int _ _), (250, .bool _)] [.box _ [.int _ _, .int _ _, .int _ _, .int _ _], .box _ [.int _ _, .int _ _, .int _ _], .row _ _ _, .dead, .box _ [.int _ _, .lst _ _ _], .dead, .dead, .row _ _ _, .box _ [.int _ _, .lst _ _ _], .dead, .dead, .row _ _ _, .row _ _ _] ⟨rfl, rfl, rfl, rfl, rfl, rfl, rfl, rfl, rfl, rfl, rfl, rfl, rfl, rfl, rfl, rfl, rfl, rfl, rfl, rfl, rfl, rfl, trivial⟩ rfl ?_
 refine W.seq' ?_
 refine W.cn rfl (fun hc => ?_) (fun hc => ?_)
 have hv := hv.1 hc
 refine W.skip ?_
 refine th_nrm ?_
 refine W.tr [(5, .int _ _), (9, .ptr _ _), (10, .ptr _ _), (13, .int _ _), (19, .ptr _ _), (22, .int _ _), (23, .int _ _), (28, .ptr _ _), (39, .int _ _), (65, .ref _ _ _), (66, .int _ _), (67, .int _ _), (150, .ref _ _ _), (151, .int _ _), (152, .int _ _), (206, .ref _ _ _), (207, .int _ _), (208, .int _ _), (247, .ref _ _ _), (248, .int _ _), (249, .int _ _)] [.box _ [.int _ _, .int _ _, .int _ _, .int _ _], .box _ [.int _ _, .int _ _, .int _ _], .row _ _ _, .dead, .box _ [.int _ _, .lst _ _ _], .dead, .dead, .row _ _ _, .box _ [.int _ _, .lst _ _ _], .dead, .dead, .row _ _ _, .row _ _ _] ⟨rfl, rfl, rfl, rfl, rfl, rfl, rfl, rfl, rfl, rfl, rfl, rfl, rfl, rfl, rfl, rfl, rfl, rfl, rfl, rfl, rfl, trivial⟩ rfl ?_
 refine W.seq' ?_
 refine W.block ?_
 refine W.rL ?_
 obtain ⟨s13075, hv⟩ := hv
 refine cL rfl (o_iaR tt35 tt3 rfl rfl s13075 ?_)
 refine cL rfl (o_ldS (v := .int _ _) tt3 rfl rfl (cell_of (ca_row (xs := [v.x2, y_5.1, y_5.2.1, (y_5.1 - (1 : Int))]) rfl (encInt.wd false) s13075) rfl) ?_)
 refine aI rfl rfl ?_
 refine eL ?_
 refine W.tr [(5, .int _ _), (9, .ptr _ _), (10, .ptr _ _), (13, .int _ _), (19, .ptr _ _), (22, .int _ _), (23, .int _ _), (28, .ptr _ _), (39, .int _ _), (47, .int _ _), (65, .ref _ _ _), (66, .int _ _), (67, .int _ _), (150, .ref _ _ _), (151, .int _ _), (152, .int _ _), (206, .ref _ _ _), (207, .int _ _), (208, .int _ _), (247, .ref _ _ _), (248, .int _ _), (249, .int _ _)] [.box _ [.int _ _, .int _ _, .int _ _, .int _ _], .box _ [.int _ _, .int _ _, .int _ _], .row _ _ _, .dead, .box _ [.int _ _, .lst _ _ _], .dead, .dead, .row _ _ _, .box _ [.int _ _, .lst _ _ _], .dead, .dead, .row _ _ _, .row _ _ _] ⟨rfl, rfl, rfl, rfl, rfl, rfl, rfl, rfl, rfl, rfl, rfl, rfl, rfl, rfl, rfl, rfl, rfl, rfl, rfl, rfl, rfl, rfl, trivial⟩ rfl ?_
 generalize hy : lat [v.x2, y_5.1, y_5.2.1, (y_5.1 - (1 : Int))] v249 = y_7
 replace hv := hv y_7 hy
 clear hy
 refine W.rL ?_
 refine cL rfl (o_ldA (cs := [.int _ _, .lst _ _ _]) tt34 rfl rfl ⟨_, rfl⟩ rfl ?_)
 iterate 3 refine mI rfl rfl ?_
 obtain ⟨s13076, s13077, hv⟩ := hv
 refine cL rfl (o_callP1 (k := 23) (fst := []) (caps := []) (ys := [.agg _, .int _ _, .int _ _, .int _ _]) rfl rfl (spec_point y_3 (pickM v.x0 ((y_2.1).n)) y_4 y_7 s13076 s13077) (Wks.cons (ag_agg 5 _ (Wks.cons (ag_int _ _ _ _) (Wks.cons (ag_lst _ _ _ _ _) (Wks.refl _)))) (Wks.cons (ag_int _ _ _ _) (Wks.cons (ag_int _ _ _ _) (Wks.cons (ag_int _ _ _ _) (Wks.refl _))))) ?_)
 refine cL rfl (o_move (v := .tup _) rfl ?_)
 refine cL rfl (o_ext (v := .lst _ _ _) rfl rfl ?_)
 refine cL rfl (o_ext (v := .int _ _) rfl rfl ?_)
 refine aL rfl rfl ?_
 refine aI rfl rfl ?_
 refine eL ?_
 refine W.tr [(5, .int _ _), (9, .ptr _ _), (10, .ptr _ _), (13, .int _ _), (19, .ptr _ _), (22, .int _ _), (23, .int _ _), (28, .ptr _ _), (39, .int _ _), (47, .int _ _), (48, .lst _ _ _), (49, .int _ _), (65, .ref _ _ _), (66, .int _ _), (67, .int _ _), (150, .ref _ _ _), (151, .int _ _), (152, .int _ _), (206, .ref _ _ _), (207, .int _ _), (208, .int _ _), (247, .ref _ _ _), (248, .int _ _), (249, .int _ _)] [.box _ [.int _ _, .int _ _, .int _ _, .int _ _], .box _ [.int _ _, .int _ _, .int _ _], .row _ _ _, .dead, .box _ [.int _ _, .lst _ _ _], .dead, .dead, .row _ _ _, .box _ [.int _ _, .lst _ _ _], .dead, .dead, .row _ _ _, .row _ _ _] ⟨rfl, rfl, rfl, rfl, rfl, rfl, rfl, rfl, rfl, rfl, rfl, rfl, rfl, rfl, rfl, rfl, rfl, rfl, rfl, rfl, rfl, rfl, rfl, rfl, trivial⟩ rfl ?_
 generalize hy : pointM y_3 (pickM v.x0 ((y_2.1).n)) y_4 y_7 = y_8
 replace hv := hv y_8 hy
 clear hy
 refine W.rL ?_
 refine cL rfl (o_ldA (cs := [.int _ _, .lst _ _ _]) tt34 rfl rfl ⟨_, rfl⟩ rfl ?_)
 iterate 3 refine mI rfl rfl ?_
 obtain ⟨s13078, s13079, hv⟩ := hv
 refine cL rfl (o_callP1 (k := 24) (fst := []) (caps := []) (ys := [.agg _, .int _ _, .int _ _, .int _ _]) rfl rfl (spec_rpoint y_3 (pickM v.x0 ((y_2.1).n)) y_4 y_7 s13078 s13079) (Wks.cons (ag_agg 5 _ (Wks.cons (ag_int _ _ _ _) (Wks.cons (ag_lst _ _ _ _ _) (Wks.refl _)))) (Wks.cons (ag_int _ _ _ _) (Wks.cons (ag_int _ _ _ _) (Wks.cons (ag_int _ _ _ _) (Wks.refl _))))) ?_)
 refine cL rfl (o_move (v := .tup _) rfl ?_)
 refine cL rfl (o_ext (v := .lst _ _ _) rfl rfl ?_)
 refine cL rfl (o_ext (v := .int _ _) rfl rfl ?_)
 refine aL rfl rfl ?_
 refine aI rfl rfl ?_
 refine eL ?_
 refine W.tr [(5, .int _ _), (9, .ptr _ _), (10, .ptr _ _), (13, .int _ _), (19, .ptr _ _), (22, .int _ _), (23, .int _ _), (28, .ptr _ _), (39, .int _ _), (48, .lst _ _ _), (49, .int _ _), (50, .lst _ _ _), (51, .int _ _), (65, .ref _ _ _), (66, .int _ _), (67, .int _ _), (150, .ref _ _ _), (151, .int _ _), (152, .int _ _), (206, .ref _ _ _), (207, .int _ _), (208, .int _ _), (247, .ref _ _ _), (248, .int _ _), (249, .int _ _)] [.box _ [.int _ _, .int _ _, .int _ _, .int _ _], .box _ [.int _ _, .int _ _, .int _ _], .row _ _ _, .dead, .box _ [.int _ _, .lst _ _ _], .dead, .dead, .row _ _ _, .box _ [.int _ _, .lst _ _ _], .dead, .dead, .row _ _ _, .row _ _ _] ⟨rfl, rfl, rfl, rfl, rfl, rfl, rfl, rfl, rfl, rfl, rfl, rfl, rfl, rfl, rfl, rfl, rfl, rfl, rfl, rfl, rfl, rfl, rfl, rfl, rfl, trivial⟩ rfl ?_
 generalize hy : pointM y_3 (pickM v.x0 ((y_2.1).n)) y_4 y_7 = y_9
 replace hv := hv y_9 hy
 clear hy
 obtain ⟨sd, hv⟩ := hv
 refine W.rLm ⟨296, look [(5, .int .i64 most), (9, .ptr 0 0), (10, .ptr 1 0), (13, .int .i64 v13), (19, .ptr 4 0), (22, .int .i64 (pickM v.x0 ((y_2.1).n))), (23, .int .i64 (pickM v.x1 ((y_2.1).n))), (28, .ptr 8 0), (39, .int .i64 y_4), (65, .ref false 2 ([raw.take 40, y].length)), (66, .int .i64 ((2 : Nat) : Int)), (67, .int .i64 v67), (150, .ref false 7 ([y_2.1, (Bd.mk b5n r6), (Bd.mk ((y_2.1).n) (((y_2.1).most).drop (1 : Int).toNat))].length)), (151, .int .i64 ((3 : Nat) : Int)), (152, .int .i64 v152), (206, .ref false 11 ([pickM v.x1 ((y_2.1).n), v.x1].length)), (207, .int .i64 ((2 : Nat) : Int)), (208, .int .i64 v208), (247, .ref false 12 ([v.x2, y_5.1, y_5.2.1, (y_5.1 - (1 : Int))].length)), (248, .int .i64 ((4 : Nat) : Int)), (249, .int .i64 v249), (277, .bool (decide ((¬ y_8.2 = y_9.2) ∨ (¬ (y_8.1 = y_9.1)))))], [.box 25 [.int .i64 c.f, .int .i64 c.t, .int .i64 c.m, .int .i64 c.a], .box 26 [.int .i64 v.x0, .int .i64 v.x1, .int .i64 v.x2], .row 22 1 (encL (eSl e25 true) [raw.take 40, y]), .dead, .box 34 [.int .i64 ((y_2.1).n), .lst false ((y_2.1).most).length (encL (eSl eInt true) ((y_2.1).most))], .dead, .dead, .row 34 2 (encL (e34 false) [y_2.1, (Bd.mk b5n r6), (Bd.mk ((y_2.1).n) (((y_2.1).most).drop (1 : Int).toNat))]), .box 34 [.int .i64 y_3.n, .lst false y_3.most.length (encL (eSl eInt true) y_3.most)], .dead, .dead, .row 3 1 (encL eInt [pickM v.x1 ((y_2.1).n), v.x1]), .row 3 1 (encL eInt [v.x2, y_5.1, y_5.2.1, (y_5.1 - (1 : Int))])], false⟩ ?_ ?_
 iterate 2 refine mI rfl rfl ?_
 refine cL rfl (o_neI rfl rfl rfl ?_)
 refine mB rfl rfl ?_
 by_cases c1 : ¬ y_8.2 = y_9.2
 iterate 4 refine cLs rfl rfl rfl (decide_eq_true c1) ?_
 refine cL rfl (o_pickT (v := .bool _) rfl (decide_eq_true c1) rfl ?_)
 refine eL ?_
 exact le_mk ⟨rfl, rfl, rfl, rfl, rfl, rfl, rfl, rfl, rfl, rfl, rfl, rfl, rfl, rfl, rfl, rfl, rfl, rfl, rfl, rfl, rfl, (congrArg AV.bool (dOrT c1)).symm, trivial⟩ rfl
 have sd := sd.2 c1
 refine cLg rfl rfl (decide_eq_false c1) ?_
 refine mL rfl rfl ?_
 refine cLg rfl rfl (decide_eq_false c1) ?_
 refine mL rfl rfl ?_
 refine cLg rfl rfl (decide_eq_false c1) ?_
 obtain ⟨s13081, sd⟩ := sd
 refine cL rfl (o_callP1 (k := 18) (fst := []) (caps := []) (ys := [.lst _ _ _, .lst _ _ _]) rfl rfl (spec_ints y_8.1 y_9.1 s13081) (Wks.cons (ag_lst _ _ _ _ _) (Wks.cons (ag_lst _ _ _ _ _) (Wks.refl _))) ?_)
 refine cLg rfl rfl (decide_eq_false c1) ?_
 refine cL rfl (o_not rfl ?_)
 refine cL rfl (o_pickF (v := .bool _) rfl (decide_eq_false c1) rfl ?_)
 refine eL ?_
 exact le_mk ⟨rfl, rfl, rfl, rfl, rfl, rfl, rfl, rfl, rfl, rfl, rfl, rfl, rfl, rfl, rfl, rfl, rfl, rfl, rfl, rfl, rfl, (congrArg AV.bool (dOrF c1 (rfl))).symm, trivial⟩ rfl
 refine W.cn rfl (fun hc => ?_) (fun hc => ?_)
 have hv := hv.1 hc
 refine W.rL ?_
 refine aB rfl rfl ?_
 refine eL ?_
 refine W.tr [(12, .bool _)] [.box _ [.int _ _, .int _ _, .int _ _, .int _ _], .box _ [.int _ _, .int _ _, .int _ _], .row _ _ _, .dead, .box _ [.int _ _, .lst _ _ _], .dead, .dead, .row _ _ _, .box _ [.int _ _, .lst _ _ _], .dead, .dead, .row _ _ _, .row _ _ _] ⟨rfl, trivial⟩ rfl ?_
 refine W.ret ?_
 refine bl_ret (th_ret (th_ret (bl_ret (bl_ret (th_ret (th_ret (bl_ret (th_ret (bl_ret (th_ret (th_ret (bl_ret (bl_ret (th_ret (th_ret (bl_ret (th_ret (rt ?_))))))))))))))))))
 refine rt_t (v := .bool _) rfl ?_
 refine rt_n ?_
 exact ⟨_, rs_bool _ _ _, false, rfl, hv⟩
 have hv := hv.2 hc
 refine W.skip ?_
 refine bl_nrm (th_nrm ?_)
 refine W.tr [(5, .int _ _), (9, .ptr _ _), (10, .ptr _ _), (13, .int _ _), (19, .ptr _ _), (22, .int _ _), (23, .int _ _), (28, .ptr _ _), (39, .int _ _), (65, .ref _ _ _), (66, .int _ _), (67, .int _ _), (150, .ref _ _ _), (151, .int _ _), (152, .int _ _), (206, .ref _ _ _), (207, .int _ _), (208, .int _ _), (247, .ref _ _ _), (248, .int _ _), (249, .int _ _)] [.box _ [.int _ _, .int _ _, .int _ _, .int _ _], .box _ [.int _ _, .int _ _, .int _ _], .row _ _ _, .dead, .box _ [.int _ _, .lst _ _ _], .dead, .dead, .row _ _ _, .box _ [.int _ _, .lst _ _ _], .dead, .dead, .row _ _ _, .row _ _ _] ⟨rfl, rfl, rfl, rfl, rfl, rfl, rfl, rfl, rfl, rfl, rfl, rfl, rfl, rfl, rfl, rfl, rfl, rfl, rfl, rfl, rfl, trivial⟩ rfl ?_
 refine W.rL1 ?_
 obtain ⟨s13082, hv⟩ := hv
 refine cL rfl (o_add rfl rfl s13082 ?_)
 refine mI rfl rfl ?_
 refine eL ?_
 exact th_nrm (⟨(), (v249 + (1 : Int)), hv, St.to_mk (φ := [some 0, some 1, some 2, none, some 4, none, none, some 7, some 8, none, none, some 11, some 12]) rfl (.inl rfl) ⟨Ren.int _ _, Ren.ptr rfl, Ren.ptr rfl, Ren.int _ _, Ren.ptr rfl, Ren.int _ _, Ren.int _ _, Ren.ptr rfl, Ren.int _ _, Ren.ref rfl (fun h => h), Ren.int _ _, Ren.int _ _, Ren.ref rfl (fun h => h), Ren.int _ _, Ren.int _ _, Ren.ref rfl (fun h => h), Ren.int _ _, Ren.int _ _, Ren.ref rfl (fun h => h), Ren.int _ _, Ren.int _ _, trivial⟩ ⟨.inr ⟨_, rfl, rfl, Rens.cons (Ren.int _ _) (Rens.cons (Ren.int _ _) (Rens.cons (Ren.int _ _) (Rens.cons (Ren.int _ _) (Rens.nil))))⟩, .inr ⟨_, rfl, rfl, Rens.cons (Ren.int _ _) (Rens.cons (Ren.int _ _) (Rens.cons (Ren.int _ _) (Rens.nil)))⟩, .inr ⟨_, rfl, rfl, rfl, rfl, Rens.enc (encSl e25) true [raw.take 40, y]⟩, rfl, .inr ⟨_, rfl, rfl, Rens.cons (Ren.int _ _) (Rens.cons (Ren.lst _ _ _) (Rens.nil))⟩, rfl, rfl, .inr ⟨_, rfl, rfl, rfl, rfl, Rens.enc enc34 false [y_2.1, (Bd.mk b5n r6), (Bd.mk ((y_2.1).n) (((y_2.1).most).drop (1 : Int).toNat))]⟩, .inr ⟨_, rfl, rfl, Rens.cons (Ren.int _ _) (Rens.cons (Ren.lst _ _ _) (Rens.nil))⟩, rfl, rfl, .inr ⟨_, rfl, rfl, rfl, rfl, Rens.enc encInt false [pickM v.x1 ((y_2.1).n), v.x1]⟩, .inr ⟨_, rfl, rfl, rfl, rfl, Rens.enc encInt false [v.x2, y_5.1, y_5.2.1, (y_5.1 - (1 : Int))]⟩, trivial⟩⟩)
 have hv := hv.2 hc
 refine W.exit ?_
 refine th_exit (th_exit (bl_hit (bl_nrm (th_nrm ?_))))
 refine W.tr [(5, .int _ _), (9, .ptr _ _), (10, .ptr _ _), (13, .int _ _), (19, .ptr _ _), (22, .int _ _), (23, .int _ _), (28, .ptr _ _), (65, .ref _ _ _), (66, .int _ _), (67, .int _ _), (150, .ref _ _ _), (151, .int _ _), (152, .int _ _), (206, .ref _ _ _), (207, .int _ _), (208, .int _ _)] [.box _ [.int _ _, .int _ _, .int _ _, .int _ _], .box _ [.int _ _, .int _ _, .int _ _], .row _ _ _, .dead, .box _ [.int _ _, .lst _ _ _], .dead, .dead, .row _ _ _, .box _ [.int _ _, .lst _ _ _], .dead, .dead, .row _ _ _, .row _ _ _] ⟨rfl, rfl, rfl, rfl, rfl, rfl, rfl, rfl, rfl, rfl, rfl, rfl, rfl, rfl, rfl, rfl, rfl, trivial⟩ rfl ?_
 refine W.rL1 ?_
 obtain ⟨s13083, hv⟩ := hv
 refine cL rfl (o_add rfl rfl s13083 ?_)
 refine mI rfl rfl ?_
 refine eL ?_
 exact th_nrm (⟨(), (v208 + (1 : Int)), hv, St.to_mk (φ := [some 0, some 1, some 2, none, some 4, none, none, some 7, some 8, none, none, some 11]) rfl (.inl rfl) ⟨Ren.int _ _, Ren.ptr rfl, Ren.ptr rfl, Ren.int _ _, Ren.ptr rfl, Ren.int _ _, Ren.int _ _, Ren.ptr rfl, Ren.ref rfl (fun h => h), Ren.int _ _, Ren.int _ _, Ren.ref rfl (fun h => h), Ren.int _ _, Ren.int _ _, Ren.ref rfl (fun h => h), Ren.int _ _, Ren.int _ _, trivial⟩ ⟨.inr ⟨_, rfl, rfl, Rens.cons (Ren.int _ _) (Rens.cons (Ren.int _ _) (Rens.cons (Ren.int _ _) (Rens.cons (Ren.int _ _) (Rens.nil))))⟩, .inr ⟨_, rfl, rfl, Rens.cons (Ren.int _ _) (Rens.cons (Ren.int _ _) (Rens.cons (Ren.int _ _) (Rens.nil)))⟩, .inr ⟨_, rfl, rfl, rfl, rfl, Rens.enc (encSl e25) true [raw.take 40, y]⟩, rfl, .inr ⟨_, rfl, rfl, Rens.cons (Ren.int _ _) (Rens.cons (Ren.lst _ _ _) (Rens.nil))⟩, rfl, rfl, .inr ⟨_, rfl, rfl, rfl, rfl, Rens.enc enc34 false [y_2.1, (Bd.mk b5n r6), (Bd.mk ((y_2.1).n) (((y_2.1).most).drop (1 : Int).toNat))]⟩, .inr ⟨_, rfl, rfl, Rens.cons (Ren.int _ _) (Rens.cons (Ren.lst _ _ _) (Rens.nil))⟩, rfl, rfl, .inr ⟨_, rfl, rfl, rfl, rfl, Rens.enc encInt false [pickM v.x1 ((y_2.1).n), v.x1]⟩, trivial⟩⟩)
 have hv := hv.2 hc
 refine W.exit ?_
 refine th_exit (th_exit (bl_hit (th_nrm ?_)))
 refine W.tr [(5, .int _ _), (9, .ptr _ _), (10, .ptr _ _), (13, .int _ _), (19, .ptr _ _), (22, .int _ _), (23, .int _ _), (28, .ptr _ _), (65, .ref _ _ _), (66, .int _ _), (67, .int _ _), (150, .ref _ _ _), (151, .int _ _), (152, .int _ _)] [.box _ [.int _ _, .int _ _, .int _ _, .int _ _], .box _ [.int _ _, .int _ _, .int _ _], .row _ _ _, .dead, .box _ [.int _ _, .lst _ _ _], .dead, .dead, .row _ _ _, .box _ [.int _ _, .lst _ _ _], .dead, .dead, .row _ _ _] ⟨rfl, rfl, rfl, rfl, rfl, rfl, rfl, rfl, rfl, rfl, rfl, rfl, rfl, rfl, trivial⟩ rfl ?_
 obtain ⟨sd, hv⟩ := hv
 refine W.rPm ⟨296, look [(5, .int .i64 most), (9, .ptr 0 0), (10, .ptr 1 0), (13, .int .i64 v13), (19, .ptr 4 0), (22, .int .i64 (pickM v.x0 ((y_2.1).n))), (23, .int .i64 (pickM v.x1 ((y_2.1).n))), (65, .ref false 2 ([raw.take 40, y].length)), (66, .int .i64 ((2 : Nat) : Int)), (67, .int .i64 v67), (150, .ref false 7 ([y_2.1, (Bd.mk b5n r6), (Bd.mk ((y_2.1).n) (((y_2.1).most).drop (1 : Int).toNat))].length)), (151, .int .i64 ((3 : Nat) : Int)), (152, .int .i64 v152), (293, .bool (decide ((¬ (validBM y_3) = (validBM y_3)) ∨ (¬ (sameM y_3 y_2.1) = (sameM y_3 y_2.1)))))], [.box 25 [.int .i64 c.f, .int .i64 c.t, .int .i64 c.m, .int .i64 c.a], .box 26 [.int .i64 v.x0, .int .i64 v.x1, .int .i64 v.x2], .row 22 1 (encL (eSl e25 true) [raw.take 40, y]), .dead, .box 34 [.int .i64 ((y_2.1).n), .lst false ((y_2.1).most).length (encL (eSl eInt true) ((y_2.1).most))], .dead, .dead, .row 34 2 (encL (e34 false) [y_2.1, (Bd.mk b5n r6), (Bd.mk ((y_2.1).n) (((y_2.1).most).drop (1 : Int).toNat))]), .box 34 [.int .i64 y_3.n, .lst false y_3.most.length (encL (eSl eInt true) y_3.most)], .dead, .dead, .row 3 1 (encL eInt [pickM v.x1 ((y_2.1).n), v.x1])], false⟩ [0, 2, 1, 3, 4, 5, 6, 7, 9, 10, 8, 11, 12, 13] (by decide +kernel) rfl ?_ ?_
 iterate 2 refine cL rfl (o_ldA (cs := [.int _ _, .lst _ _ _]) tt34 rfl rfl ⟨_, rfl⟩ rfl ?_)
 obtain ⟨s13092, s13093, sd⟩ := sd
 refine cL rfl (o_callP1 (k := 25) (fst := []) (caps := []) (ys := [.agg _]) rfl rfl (spec_vald y_3 s13092 s13093) (Wks.cons (ag_agg 5 _ (Wks.cons (ag_int _ _ _ _) (Wks.cons (ag_lst _ _ _ _ _) (Wks.refl _)))) (Wks.refl _)) ?_)
 obtain ⟨s13094, s13095, sd⟩ := sd
 refine cL rfl (o_callP1 (k := 26) (fst := []) (caps := []) (ys := [.agg _]) rfl rfl (spec_rvald y_3 s13094 s13095) (Wks.cons (ag_agg 5 _ (Wks.cons (ag_int _ _ _ _) (Wks.cons (ag_lst _ _ _ _ _) (Wks.refl _)))) (Wks.refl _)) ?_)
 refine cL rfl (o_neB rfl tt4 rfl rfl ?_)
 refine mB rfl rfl ?_
 by_cases c1 : ¬ (validBM y_3) = (validBM y_3)
 iterate 7 refine cLs rfl rfl rfl (decide_eq_true c1) ?_
 refine cL rfl (o_pickT (v := .bool _) rfl (decide_eq_true c1) rfl ?_)
 refine eL ?_
 exact le_mk ⟨rfl, rfl, rfl, rfl, rfl, rfl, rfl, rfl, rfl, rfl, rfl, rfl, rfl, (congrArg AV.bool (dOrT c1)).symm, trivial⟩ rfl
 have sd := sd.2 c1
 refine cLg rfl rfl (decide_eq_false c1) ?_
 refine cL rfl (o_ldA (cs := [.int _ _, .lst _ _ _]) tt34 rfl rfl ⟨_, rfl⟩ rfl ?_)
 refine cLg rfl rfl (decide_eq_false c1) ?_
 refine cL rfl (o_ldA (cs := [.int _ _, .lst _ _ _]) tt34 rfl rfl ⟨_, rfl⟩ rfl ?_)
 refine cLg rfl rfl (decide_eq_false c1) ?_
 refine cL rfl (o_ldA (cs := [.int _ _, .lst _ _ _]) tt34 rfl rfl ⟨_, rfl⟩ rfl ?_)
 refine cLg rfl rfl (decide_eq_false c1) ?_
 refine cL rfl (o_ldA (cs := [.int _ _, .lst _ _ _]) tt34 rfl rfl ⟨_, rfl⟩ rfl ?_)
 refine cLg rfl rfl (decide_eq_false c1) ?_
 obtain ⟨s13096, s13097, sd⟩ := sd
 refine cL rfl (o_callP1 (k := 27) (fst := []) (caps := []) (ys := [.agg _, .agg _]) rfl rfl (spec_same y_3 y_2.1 s13096 s13097) (Wks.cons (ag_agg 5 _ (Wks.cons (ag_int _ _ _ _) (Wks.cons (ag_lst _ _ _ _ _) (Wks.refl _)))) (Wks.cons (ag_agg 5 _ (Wks.cons (ag_int _ _ _ _) (Wks.cons (ag_lst _ _ _ _ _) (Wks.refl _)))) (Wks.refl _))) ?_)
 refine cLg rfl rfl (decide_eq_false c1) ?_
 obtain ⟨s13098, s13099, sd⟩ := sd
 refine cL rfl (o_callP1 (k := 17) (fst := []) (caps := []) (ys := [.agg _, .agg _]) rfl rfl (spec_rsame y_3 y_2.1 s13098 s13099) (Wks.cons (ag_agg 5 _ (Wks.cons (ag_int _ _ _ _) (Wks.cons (ag_lst _ _ _ _ _) (Wks.refl _)))) (Wks.cons (ag_agg 5 _ (Wks.cons (ag_int _ _ _ _) (Wks.cons (ag_lst _ _ _ _ _) (Wks.refl _)))) (Wks.refl _))) ?_)
 refine cLg rfl rfl (decide_eq_false c1) ?_
 refine cL rfl (o_neB rfl tt4 rfl rfl ?_)
 refine cL rfl (o_pickF (v := .bool _) rfl (decide_eq_false c1) rfl ?_)
 refine eL ?_
 exact le_mk ⟨rfl, rfl, rfl, rfl, rfl, rfl, rfl, rfl, rfl, rfl, rfl, rfl, rfl, (congrArg AV.bool (dOrF c1 (rfl))).symm, trivial⟩ rfl
 refine W.cn rfl (fun hc => ?_) (fun hc => ?_)
 have hv := hv.1 hc
 refine W.rL ?_
 refine aB rfl rfl ?_
 refine eL ?_
 refine W.tr [(12, .bool _)] [.box _ [.int _ _, .int _ _, .int _ _, .int _ _], .box _ [.int _ _, .int _ _, .int _ _], .row _ _ _, .dead, .box _ [.int _ _, .lst _ _ _], .dead, .dead, .row _ _ _, .box _ [.int _ _, .lst _ _ _], .dead, .dead, .row _ _ _] ⟨rfl, trivial⟩ rfl ?_
 refine W.ret ?_
 refine bl_ret (th_ret (th_ret (bl_ret (bl_ret (th_ret (th_ret (bl_ret (th_ret (rt ?_)))))))))
 refine rt_t (v := .bool _) rfl ?_
 refine rt_n ?_
 exact ⟨_, rs_bool _ _ _, false, rfl, hv⟩
 have hv := hv.2 hc
 refine W.skip ?_
 refine bl_nrm (th_nrm ?_)
 refine W.tr [(5, .int _ _), (9, .ptr _ _), (10, .ptr _ _), (13, .int _ _), (19, .ptr _ _), (22, .int _ _), (23, .int _ _), (65, .ref _ _ _), (66, .int _ _), (67, .int _ _), (150, .ref _ _ _), (151, .int _ _), (152, .int _ _)] [.box _ [.int _ _, .int _ _, .int _ _, .int _ _], .box _ [.int _ _, .int _ _, .int _ _], .row _ _ _, .dead, .box _ [.int _ _, .lst _ _ _], .dead, .dead, .row _ _ _, .box _ [.int _ _, .lst _ _ _], .dead, .dead, .row _ _ _] ⟨rfl, rfl, rfl, rfl, rfl, rfl, rfl, rfl, rfl, rfl, rfl, rfl, rfl, trivial⟩ rfl ?_
 refine W.rL1 ?_
 obtain ⟨s13100, hv⟩ := hv
 refine cL rfl (o_add rfl rfl s13100 ?_)
 refine mI rfl rfl ?_
 refine eL ?_
 exact th_nrm (⟨(), (v152 + (1 : Int)), hv, St.to_mk (φ := [some 0, some 1, some 2, none, some 4, none, none, some 7]) rfl (.inl rfl) ⟨Ren.int _ _, Ren.ptr rfl, Ren.ptr rfl, Ren.int _ _, Ren.ptr rfl, Ren.int _ _, Ren.int _ _, Ren.ref rfl (fun h => h), Ren.int _ _, Ren.int _ _, Ren.ref rfl (fun h => h), Ren.int _ _, Ren.int _ _, trivial⟩ ⟨.inr ⟨_, rfl, rfl, Rens.cons (Ren.int _ _) (Rens.cons (Ren.int _ _) (Rens.cons (Ren.int _ _) (Rens.cons (Ren.int _ _) (Rens.nil))))⟩, .inr ⟨_, rfl, rfl, Rens.cons (Ren.int _ _) (Rens.cons (Ren.int _ _) (Rens.cons (Ren.int _ _) (Rens.nil)))⟩, .inr ⟨_, rfl, rfl, rfl, rfl, Rens.enc (encSl e25) true [raw.take 40, y]⟩, rfl, .inr ⟨_, rfl, rfl, Rens.cons (Ren.int _ _) (Rens.cons (Ren.lst _ _ _) (Rens.nil))⟩, rfl, rfl, .inr ⟨_, rfl, rfl, rfl, rfl, Rens.enc enc34 false [y_2.1, (Bd.mk b5n r6), (Bd.mk ((y_2.1).n) (((y_2.1).most).drop (1 : Int).toNat))]⟩, trivial⟩⟩)
 have hv := hv.2 hc
 refine W.exit ?_
 exact th_exit (th_exit (bl_hit (bl_nrm (th_nrm (⟨(), hv, St.to_mk (φ := [some 0, some 1, some 2]) rfl (.inl rfl) ⟨Ren.int _ _, Ren.ptr rfl, Ren.ptr rfl, Ren.int _ _, Ren.ref rfl (fun h => h), Ren.int _ _, Ren.int _ _, trivial⟩ ⟨.inr ⟨_, rfl, rfl, Rens.cons (Ren.int _ _) (Rens.cons (Ren.int _ _) (Rens.cons (Ren.int _ _) (Rens.cons (Ren.int _ _) (Rens.nil))))⟩, .inr ⟨_, rfl, rfl, Rens.cons (Ren.int _ _) (Rens.cons (Ren.int _ _) (Rens.cons (Ren.int _ _) (Rens.nil)))⟩, .inr ⟨_, rfl, rfl, rfl, rfl, Rens.enc (encSl e25) true [raw.take 40, y]⟩, trivial⟩⟩)))))
 have hv := hv.2 hc
 refine W.exit ?_
 refine th_exit (th_exit (bl_hit (th_nrm ?_)))
 refine W.tr [] [.box _ [.int _ _, .int _ _, .int _ _, .int _ _], .box _ [.int _ _, .int _ _, .int _ _], .row _ _ _] trivial rfl ?_
 refine W.rL ?_
 refine aB rfl rfl ?_
 refine eL ?_
 refine W.tr [(12, .bool _)] [.box _ [.int _ _, .int _ _, .int _ _, .int _ _], .box _ [.int _ _, .int _ _, .int _ _], .row _ _ _] ⟨rfl, trivial⟩ rfl ?_
 refine W.ret ?_
 refine rt ?_
 refine rt_t (v := .bool _) rfl ?_
 refine rt_n ?_
 exact ⟨_, rs_bool _ _ _, true, rfl, hv⟩
 clear hj
 refine W.rL ?_
 refine mI rfl rfl ?_
 refine cL rfl (o_gtr rfl rfl ?_)
 refine eL ?_
 refine W.tr [(0, .int _ _), (1, .lst _ _ _), (2, .lst _ _ _), (5, .int _ _), (9, .ptr _ _), (10, .ptr _ _), (13, .int _ _), (56, .bool _)] [.box _ [.int _ _, .int _ _, .int _ _, .int _ _], .box _ [.int _ _, .int _ _, .int _ _]] ⟨rfl, rfl, rfl, rfl, rfl, rfl, rfl, rfl, trivial⟩ rfl ?_
 refine W.cn rfl (fun hc => ?_) (fun hc => ?_)
 have hv := hv.1 hc
 refine W.rL1 ?_
 refine mI rfl rfl ?_
 obtain ⟨s13101, s13102, hv⟩ := hv
 refine cL rfl (o_callP1 (k := 12) (fst := []) (caps := []) (ys := [.int _ _, .int _ _]) rfl rfl (spec_pick n (40 : Int) s13101 s13102) (Wks.cons (ag_int _ _ _ _) (Wks.cons (ag_int _ _ _ _) (Wks.refl _))) ?_)
 refine aI rfl rfl ?_
 refine eL ?_
 exact th_nrm (⟨(), (pickM n (40 : Int)), hv, St.to_mk (φ := [some 0, some 1]) rfl (.inl rfl) ⟨Ren.lst _ _ _, Ren.lst _ _ _, Ren.int _ _, Ren.ptr rfl, Ren.ptr rfl, Ren.int _ _, trivial⟩ ⟨.inr ⟨_, rfl, rfl, Rens.cons (Ren.int _ _) (Rens.cons (Ren.int _ _) (Rens.cons (Ren.int _ _) (Rens.cons (Ren.int _ _) (Rens.nil))))⟩, .inr ⟨_, rfl, rfl, Rens.cons (Ren.int _ _) (Rens.cons (Ren.int _ _) (Rens.cons (Ren.int _ _) (Rens.nil)))⟩, trivial⟩⟩)
 have hv := hv.2 hc
 refine W.skip ?_
 exact th_nrm (⟨(), n, hv, St.to_mk (φ := [some 0, some 1]) rfl (.inl rfl) ⟨Ren.lst _ _ _, Ren.lst _ _ _, Ren.int _ _, Ren.ptr rfl, Ren.ptr rfl, Ren.int _ _, trivial⟩ ⟨.inr ⟨_, rfl, rfl, Rens.cons (Ren.int _ _) (Rens.cons (Ren.int _ _) (Rens.cons (Ren.int _ _) (Rens.cons (Ren.int _ _) (Rens.nil))))⟩, .inr ⟨_, rfl, rfl, Rens.cons (Ren.int _ _) (Rens.cons (Ren.int _ _) (Rens.cons (Ren.int _ _) (Rens.nil)))⟩, trivial⟩⟩)
theorem vcp_MatchesReference (n : Int) (raw : (List Con)) (x : (List A3)) (c : Con) (v : A3) (most : Int) (h0 : inI n) (h1 : ∀ c ∈ raw, inI c.f ∧ inI c.t ∧ inI c.m ∧ inI c.a) (h2 : ∀ y ∈ x, inI y.x0 ∧ inI y.x1 ∧ inI y.x2) (h3 : inI c.f ∧ inI c.t ∧ inI c.m ∧ inI c.a) (h4 : inI v.x0 ∧ inI v.x1 ∧ inI v.x2) (h5 : inI most) : vc_MatchesReference n raw x c v most (fun q0 => q0 = (true)) := by
  unfold vc_MatchesReference
  have hp40 := pickM_nonneg (c := n) (n := 40) (by omega)
  refine ⟨fun h => (h rfl).elim, fun _ => ⟨fun v => v ≤ 39, ?_, fun _ => ⟨h0, by omega, by omega⟩, fun _ => by omega⟩⟩
  intro m hm
  have hrl : (raw.take 40).length ≤ 40 := by rw [List.length_take]; omega
  generalize raw.take 40 = rw0 at hrl
  refine ⟨by omega, by omega, h2, ?_⟩
  intro l0 hl0
  have hll := made_len (n := max m 1) (x := x)
  rw [hl0] at hll
  clear hl0
  refine ⟨fun v => ∃ i : Nat, v = i ∧ i ≤ 2, fun v => 2 - v.toNat, ⟨0, rfl, by omega⟩, ?_⟩
  rintro _ ⟨i, rfl, hi⟩
  refine ⟨fun k1 => ⟨True, fun _ => ⟨by unfold inI; omega, ⟨i + 1, by omega, by omega⟩, by dsimp only; omega⟩, by simp; omega, ?_⟩, fun _ => rfl⟩
  have hy : (lat [rw0, l0] (i : Int)).length ≤ 40 := by
    match i, hi with
    | 0, _ => exact hrl
    | 1, _ => exact Nat.le_trans hll (by omega)
    | 2, _ => omega
  generalize lat [rw0, l0] (i : Int) = l at hy
  refine ⟨by omega, ?_⟩
  rintro y1 rfl
  refine ⟨by omega, ?_⟩
  rintro y2 rfl
  obtain ⟨hs, hc2⟩ := close_small (n := m) (l := l)
  refine ⟨⟨fun _ => trivial, fun _ => ⟨hs.1, hs.2, fun _ => trivial, fun _ => ⟨hc2, trivial⟩⟩⟩, fun h => ?_, fun _ => ⟨fun _ => trivial, fun k2 => ?_⟩⟩
  · rcases h with h | h | h
    · exact (h rfl).elim
    · exact (h sameM_self).elim
    · exact (h rfl).elim
  obtain ⟨hvl, mt, hc, e⟩ := close_ok (Classical.not_not.mp k2)
  have hn1 : 1 ≤ m ∧ m ≤ 24 := by have := (validM_iff.mp hvl).1; omega
  have hbl := bounds_len (m := mt) (n := m)
  have hrow : ∀ i : Nat, (i : Int) < m → ((lat (boundsM mt m).most (i : Int)).length : Int) = m := fun i hi => by
    have := bounds_row (m := mt) (n := m) (by omega) (i := i) (by omega)
    rw [lat_nat]
    show (((boundsM mt m).most.getD i []).length : Int) = _
    omega
  rw [e] at hs ⊢
  dsimp only at hs ⊢
  rw [bounds_n]
  have hf := pickM_nonneg (c := v.x0) (n := m) (by omega)
  have ht := pickM_nonneg (c := v.x1) (n := m) (by omega)
  generalize pickM v.x0 m = f at hf
  generalize pickM v.x1 m = t at ht
  refine ⟨h4.1, by omega, h4.2.1, by omega, fun v q r => ∃ i : Nat, v = i ∧ (i : Int) ≤ m ∧ r.length = i ∧ ∀ z ∈ r, z.length ≤ 1073741824, fun v _ _ => m.toNat - v.toNat, ⟨0, rfl, by omega, rfl, fun z hz => by cases hz⟩, ?_⟩
  rintro _ q r ⟨j, rfl, hj, hr, hz⟩
  refine ⟨fun k3 => ?_, fun k3 => ?_⟩
  · have hrj := hrow j (by omega)
    refine ⟨by omega, by omega, fun z => z.length ≤ 1073741824, fun z hz2 => ⟨by simp; omega, by unfold inI; omega, ⟨j + 1, by omega, by omega, by simp; omega, fun z' h' => ?_⟩, by first | omega | (dsimp only; omega)⟩, fun _ => ⟨by omega, by simp; omega⟩, fun _ => by omega⟩
    rcases List.mem_append.mp h' with h | h
    · exact hz z' h
    · rw [List.mem_singleton] at h; rw [h]; exact hz2
  refine ⟨by omega, fun v => ∃ i : Nat, v = i ∧ i ≤ 3, fun v => 3 - v.toNat, ⟨0, rfl, by omega⟩, ?_⟩
  rintro _ ⟨w, rfl, hw⟩
  refine ⟨fun k4 => ⟨by simp; omega, ?_⟩, fun _ => trivial⟩
  intro y3 hy3
  have hs3 : SmallB y3 := by
    rw [← hy3]
    match w, hw with
    | 0, _ => exact hs
    | 1, _ => exact ⟨by show r.length ≤ _; omega, hz⟩
    | 2, _ => exact ⟨by show (List.drop _ _).length ≤ _; rw [List.length_drop]; omega, fun z hz => hs.2 z (List.mem_of_mem_drop hz)⟩
    | 3, _ => omega
  have hcm := pickM_nonneg (c := c.m) (n := 40) (by omega)
  refine ⟨h3.2.2.1, by omega, by unfold inI; omega, fun v => ∃ i : Nat, v = i ∧ i ≤ 2, fun v => 2 - v.toNat, ⟨0, rfl, by omega⟩, ?_⟩
  rintro _ ⟨u, rfl, hu⟩
  refine ⟨fun k5 => ⟨by simp; omega, ?_⟩, fun k5 => ⟨fun v => ∃ i : Nat, v = i ∧ i ≤ 2, fun v => 2 - v.toNat, ⟨0, rfl, by omega⟩, ?_⟩⟩
  · intro y4 hy4
    have hsa := addB_small (b := y3) (c := y4)
    refine ⟨hs3.1, hs3.2, hs3.1, hs3.2, ⟨fun _ => trivial, fun _ => ⟨fun _ => trivial, fun _ => ⟨hsa.1, hsa.2, trivial⟩⟩⟩, fun h => ?_, fun _ => ⟨by unfold inI; omega, ⟨u + 1, by omega, by omega⟩, by dsimp only; omega⟩⟩
    rcases h with h | h | h
    · exact (h rfl).elim
    · exact (h rfl).elim
    · exact (h sameM_self).elim
  · rintro _ ⟨p, rfl, hp⟩
    refine ⟨fun k6 => ⟨by simp; omega, ?_⟩, fun k6 => ⟨⟨hs3.1, hs3.2, hs3.1, hs3.2, fun _ => trivial, fun _ => ⟨hs3.1, hs3.2, hs3.1, hs3.2, trivial⟩⟩, fun h => ?_, fun _ => ⟨by unfold inI; omega, ⟨w + 1, by omega, by omega⟩, by dsimp only; omega⟩⟩⟩
    · intro y4 hy4
      refine ⟨hs3.1, hs3.2, ?_⟩
      rintro y5 rfl
      refine ⟨hs3.1, hs3.2, ?_⟩
      rintro y6 rfl
      refine ⟨fun h => ?_, fun _ => ⟨range_in, fun v => ∃ i : Nat, v = i ∧ i ≤ 4, fun v => 4 - v.toNat, ⟨0, rfl, by omega⟩, ?_⟩⟩
      · rcases h with h | h | h
        · exact (h rfl).elim
        · exact (h rfl).elim
        · exact (h rfl).elim
      rintro _ ⟨o, rfl, ho⟩
      refine ⟨fun k7 => ⟨by simp; omega, ?_⟩, fun k7 => ⟨by unfold inI; omega, ⟨p + 1, by omega, by omega⟩, by dsimp only; omega⟩⟩
      intro y7 hy7
      refine ⟨hs3.1, hs3.2, ?_⟩
      rintro y8 rfl
      refine ⟨hs3.1, hs3.2, ?_⟩
      rintro y9 rfl
      refine ⟨⟨fun _ => trivial, fun _ => ⟨point_small, trivial⟩⟩, fun h => ?_, fun _ => ⟨by unfold inI; omega, ⟨o + 1, by omega, by omega⟩, by dsimp only; omega⟩⟩
      rcases h with h | h
      · exact (h rfl).elim
      · exact (h rfl).elim
    · rcases h with h | h
      · exact (h rfl).elim
      · exact (h rfl).elim
theorem spec_MatchesReference (n : Int) (raw : (List Con)) (x : (List A3)) (c : Con) (v : A3) (most : Int) (h0 : inI n) (h1 : ∀ c ∈ raw, inI c.f ∧ inI c.t ∧ inI c.m ∧ inI c.a) (h2 : ∀ y ∈ x, inI y.x0 ∧ inI y.x1 ∧ inI y.x2) (h3 : inI c.f ∧ inI c.t ∧ inI c.m ∧ inI c.a) (h4 : inI v.x0 ∧ inI v.x1 ∧ inI v.x2) (h5 : inI most) : FnP Try.prog 3 [.int .i64 n, .lst true raw.length (encL e25 raw), .lst true x.length (encL e26 x), .agg (e25 c), .agg (e26 v), .int .i64 most] (fun xR => xR = .bool (true)) :=
  (walk_MatchesReference (vcp_MatchesReference n raw x c v most h0 h1 h2 h3 h4 h5)).mono (by rintro _ ⟨_, rfl, rfl⟩; rfl)
end Go.Lat
