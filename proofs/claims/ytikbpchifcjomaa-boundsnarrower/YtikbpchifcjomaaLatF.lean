/- The law latecomerlaw07.BoundsNarrower returns true for every input, and each argument reads afterwards as it read before. Part 6 of 11. No condition. -/
import Derived.Test.YtikbpchifcjomaaLatD
import Derived.Test.YtikbpchifcjomaaLatE
set_option linter.unusedVariables false
set_option linter.unusedSimpArgs false
set_option linter.unnecessarySimpa false
namespace Go.Lat
open Go.RowKit Go.Proofs
attribute [local irreducible] closeM rangeM pointM addBM cycleM holdsM validBM sameM madeM pickM plusM validM possM firstM tableM longerM boundsM ofM addM freeM
/-- What the walk through bounds.walks).first asks. -/
def vc_first (w : Wlk) (Post : (List Int) → Prop) : Prop :=
  (inI (w.n + (1 : Int))) ∧ ∃ (I1 : Int → Int → Prop) (μ1 : Int → Int → Nat), I1 (w.n + (1 : Int)) (0 : Int) ∧ ∀ (v3 : Int) (v20 : Int), I1 v3 v20 → ((v20 < w.n) → ∃ J2 : Int → Prop, (∀ (v3_1 : Int), J2 v3_1 → (inI (v20 + (1 : Int))) ∧ (I1 v3_1 (v20 + (1 : Int)) ∧ μ1 v3_1 (v20 + (1 : Int)) < μ1 v3 v20)) ∧ ((TabOk w.l v20 (-1 : Int) w.n) ∧ ∃ (I3 : Int → Int → Prop) (μ3 : Int → Int → Nat), I3 v3 (0 : Int) ∧ ∀ (v3_1 : Int) (v29 : Int), I3 v3_1 v29 → ((v29 < (((tableM w.l v20 (-1 : Int) w.n).length : Nat) : Int)) → (0 ≤ v29 ∧ v29 < ((tableM w.l v20 (-1 : Int) w.n).length : Int)) ∧ (0 ≤ v20 ∧ v20 < ((24 : Nat) : Int)) ∧ (v20.toNat < 24) ∧ (((vat (lat (tableM w.l v20 (-1 : Int) w.n) v29) v20.toNat) < (0 : Int)) → J2 (min v3_1 v29)) ∧ (¬ ((vat (lat (tableM w.l v20 (-1 : Int) w.n) v29) v20.toNat) < (0 : Int)) → (inI (v29 + (1 : Int))) ∧ (I3 v3_1 (v29 + (1 : Int)) ∧ μ3 v3_1 (v29 + (1 : Int)) < μ3 v3_1 v29))) ∧ (¬ (v29 < (((tableM w.l v20 (-1 : Int) w.n).length : Nat) : Int)) → J2 v3_1))) ∧ (¬ (v20 < w.n) → ∃ (I4 : Int → Prop) (μ4 : Int → Nat), I4 (0 : Int) ∧ ∀ (v46 : Int), I4 v46 → ((v46 < ((w.l.length : Nat) : Int)) → ∃ J5 : Prop, (J5 → (inI (v46 + (1 : Int))) ∧ (I4 (v46 + (1 : Int)) ∧ μ4 (v46 + (1 : Int)) < μ4 v46)) ∧ ((0 ≤ v46 ∧ v46 < (w.l.length : Int)) ∧ (inI (v3 - (1 : Int))) ∧ (TabOk w.l ((lat w.l v46).f) v46 (v3 - (1 : Int))) ∧ (inI (v3 - (1 : Int))) ∧ (0 ≤ (v3 - (1 : Int)) ∧ (v3 - (1 : Int)) < ((tableM w.l ((lat w.l v46).f) v46 (v3 - (1 : Int))).length : Int)) ∧ (0 ≤ ((lat w.l v46).t) ∧ ((lat w.l v46).t) < ((24 : Nat) : Int)) ∧ (¬ ((lat w.l v46).m) = NB → ¬ (vat (lat (tableM w.l ((lat w.l v46).f) v46 (v3 - (1 : Int))) (v3 - (1 : Int))) ((lat w.l v46).t).toNat) = NB → inI (((lat w.l v46).m) + (vat (lat (tableM w.l ((lat w.l v46).f) v46 (v3 - (1 : Int))) (v3 - (1 : Int))) ((lat w.l v46).t).toNat))) ∧ (((0 : Int) ≤ (plusM ((lat w.l v46).m) (vat (lat (tableM w.l ((lat w.l v46).f) v46 (v3 - (1 : Int))) (v3 - (1 : Int))) ((lat w.l v46).t).toNat))) → J5) ∧ (¬ ((0 : Int) ≤ (plusM ((lat w.l v46).m) (vat (lat (tableM w.l ((lat w.l v46).f) v46 (v3 - (1 : Int))) (v3 - (1 : Int))) ((lat w.l v46).t).toNat))) → ∃ (I6 : Int → Int → List Int → Prop) (μ6 : Int → Int → List Int → Nat), I6 ((lat w.l v46).t) ((lat w.l v46).m) [v46] ∧ ∀ (v11 : Int) (v12 : Int) (r2 : List Int), I6 v11 v12 r2 → ((((r2.length : Nat) : Int) < v3) → (inI (v46 + (1 : Int))) ∧ ∃ J7 : Int → Prop, (∀ (v13 : Int), J7 v13 → ((v13 = ((w.l.length : Nat) : Int)) → J5) ∧ (¬ (v13 = ((w.l.length : Nat) : Int)) → ((r2 ++ [v13]).length ≤ 1073741824) ∧ (0 ≤ v13 ∧ v13 < (w.l.length : Int)) ∧ (0 ≤ v13 ∧ v13 < (w.l.length : Int)) ∧ (inI (v12 + ((lat w.l v13).m))) ∧ (I6 ((lat w.l v13).t) (v12 + ((lat w.l v13).m)) (r2 ++ [v13]) ∧ μ6 ((lat w.l v13).t) (v12 + ((lat w.l v13).m)) (r2 ++ [v13]) < μ6 v11 v12 r2))) ∧ (∃ (I8 : Int → Prop) (μ8 : Int → Nat), I8 (v46 + (1 : Int)) ∧ ∀ (v13 : Int), I8 v13 → ((v13 < ((w.l.length : Nat) : Int)) → (0 ≤ v13 ∧ v13 < (w.l.length : Int)) ∧ ((((lat w.l v13).f = v11) → (inI (v12 + ((lat w.l v13).m))) ∧ (inI (v3 - ((r2.length : Nat) : Int))) ∧ (inI ((v3 - ((r2.length : Nat) : Int)) - (1 : Int))) ∧ (0 ≤ ((v3 - ((r2.length : Nat) : Int)) - (1 : Int)) ∧ ((v3 - ((r2.length : Nat) : Int)) - (1 : Int)) < ((tableM w.l ((lat w.l v46).f) v46 (v3 - (1 : Int))).length : Int)) ∧ (0 ≤ ((lat w.l v13).t) ∧ ((lat w.l v13).t) < ((24 : Nat) : Int)) ∧ (¬ (v12 + ((lat w.l v13).m)) = NB → ¬ (vat (lat (tableM w.l ((lat w.l v46).f) v46 (v3 - (1 : Int))) ((v3 - ((r2.length : Nat) : Int)) - (1 : Int))) ((lat w.l v13).t).toNat) = NB → inI ((v12 + ((lat w.l v13).m)) + (vat (lat (tableM w.l ((lat w.l v46).f) v46 (v3 - (1 : Int))) ((v3 - ((r2.length : Nat) : Int)) - (1 : Int))) ((lat w.l v13).t).toNat))) ∧ True) ∧ (¬ ((lat w.l v13).f = v11) → True)) ∧ (((((lat w.l v13).f = v11) ∧ ((plusM (v12 + ((lat w.l v13).m)) (vat (lat (tableM w.l ((lat w.l v46).f) v46 (v3 - (1 : Int))) ((v3 - ((r2.length : Nat) : Int)) - (1 : Int))) ((lat w.l v13).t).toNat)) < (0 : Int))) → J7 v13) ∧ (¬ (((lat w.l v13).f = v11) ∧ ((plusM (v12 + ((lat w.l v13).m)) (vat (lat (tableM w.l ((lat w.l v46).f) v46 (v3 - (1 : Int))) ((v3 - ((r2.length : Nat) : Int)) - (1 : Int))) ((lat w.l v13).t).toNat)) < (0 : Int))) → (inI (v13 + (1 : Int))) ∧ (I8 (v13 + (1 : Int)) ∧ μ8 (v13 + (1 : Int)) < μ8 v13)))) ∧ (¬ (v13 < ((w.l.length : Nat) : Int)) → J7 v13))) ∧ (¬ (((r2.length : Nat) : Int) < v3) → Post r2)))) ∧ (¬ (v46 < ((w.l.length : Nat) : Int)) → Post []))
set_option maxRecDepth 100000 in
set_option maxHeartbeats 4000000 in
theorem walk_first {w : Wlk} {Post : (List Int) → Prop} (hv : vc_first w Post) : FnP Try.prog 38 [.agg ((e65 true) w)] (fun x => ∃ q0, x = .lst false q0.length (encL eInt q0) ∧ Post q0) := by
  refine FnP.of_walk (T := tt) (nt := 142) ttOk ttMix ⟨⟨Try.f38, Try.func38, rfl, rfl, rfl, rfl⟩⟩ (by simp) ?_
  unfold vc_first at hv
  change W _ _ _ ⟨142, look [(0, .agg [.int .i64 w.n, .lst true w.l.length (encL e25 w.l)])], [], false⟩ _
  refine W.tr [(0, .agg _)] [] ⟨rfl, trivial⟩ rfl ?_
  refine W.rL ?_
  refine cL rfl (o_box (v := .agg _) (p := 0) rfl rfl rfl ?_)
  refine cL rfl (o_assign (v := .nilS) rfl ?_)
  refine eL ?_
  refine W.tr [(1, .ptr _ _)] [.box _ [.int _ _, .lst _ _ _]] ⟨rfl, trivial⟩ rfl ?_
  refine W.scope ?_
  refine W.rL ?_
  refine cL rfl (o_fa tt65 rfl tt3 rfl ?_)
  refine cL rfl (o_ldS (v := .int _ _) tt3 rfl rfl ⟨_, rfl⟩ ?_)
  obtain ⟨s1, hv⟩ := hv
  refine cL rfl (o_add rfl rfl s1 ?_)
  refine cL rfl (o_assign (v := .int _ _) rfl ?_)
  refine eL ?_
  refine W.tr [(1, .ptr _ _), (3, .int _ _)] [.box _ [.int _ _, .lst _ _ _]] ⟨rfl, rfl, trivial⟩ rfl ?_
  refine W.seq' ?_
  refine W.rL ?_
  refine cL rfl (o_fa tt65 rfl tt3 rfl ?_)
  refine cL rfl (o_ldS (v := .int _ _) tt3 rfl rfl ⟨_, rfl⟩ ?_)
  refine cL rfl (o_move (v := .int _ _) rfl ?_)
  refine eL ?_
  refine W.tr [(1, .ptr _ _), (3, .int _ _), (19, .int _ _), (20, .int _ _)] [.box _ [.int _ _, .lst _ _ _]] ⟨rfl, rfl, rfl, rfl, trivial⟩ rfl ?_
  refine W.block ?_
  obtain ⟨I1, μ1, hp, hv⟩ := hv
  refine W.loop2 (fun v3 v20 => ⟨142, look [(1, .ptr 0 0), (3, .int .i64 v3), (19, .int .i64 w.n), (20, .int .i64 v20)], [.box 65 [.int .i64 w.n, .lst true w.l.length (encL e25 w.l)]], false⟩) I1 μ1 (w.n + (1 : Int)) (0 : Int) (St.to_mk (φ := [some 0]) rfl (.inl rfl) ⟨Ren.ptr rfl, Ren.int _ _, Ren.int _ _, Ren.int _ _, trivial⟩ ⟨.inr ⟨_, rfl, rfl, Rens.cons (Ren.int _ _) (Rens.cons (Ren.lst _ _ _) (Rens.nil))⟩, trivial⟩) hp ?_
  clear hp
  intro v3 v20 hI
  replace hv := hv v3 v20 hI
  clear hI
  refine W.rL ?_
  refine cL rfl (o_lss rfl rfl ?_)
  refine eL ?_
  refine W.tr [(1, .ptr _ _), (3, .int _ _), (19, .int _ _), (20, .int _ _), (21, .bool _)] [.box _ [.int _ _, .lst _ _ _]] ⟨rfl, rfl, rfl, rfl, rfl, trivial⟩ rfl ?_
  refine W.seq' ?_
  refine W.cn rfl (fun hc => ?_) (fun hc => ?_)
  · have hv := hv.1 hc
    refine W.skip ?_
    refine th_nrm ?_
    refine W.tr [(1, .ptr _ _), (3, .int _ _), (19, .int _ _), (20, .int _ _)] [.box _ [.int _ _, .lst _ _ _]] ⟨rfl, rfl, rfl, rfl, trivial⟩ rfl ?_
    obtain ⟨J2, hj, hv⟩ := hv
    refine W.mid1 (fun v3_1 => ⟨142, look [(1, .ptr 0 0), (3, .int .i64 v3_1), (19, .int .i64 w.n), (20, .int .i64 v20)], [.box 65 [.int .i64 w.n, .lst true w.l.length (encL e25 w.l)]], false⟩) J2 ?_ ?_
    · intro v3_1
      intro hv
      replace hv := hj v3_1 hv
      refine W.rL1 ?_
      obtain ⟨s110, hv⟩ := hv
      refine cL rfl (o_add rfl rfl s110 ?_)
      refine cL rfl (o_move (v := .int _ _) rfl ?_)
      refine eL ?_
      exact th_nrm (⟨(), v3_1, (v20 + (1 : Int)), hv, St.to_mk (φ := [some 0]) rfl (.inl rfl) ⟨Ren.ptr rfl, Ren.int _ _, Ren.int _ _, Ren.int _ _, trivial⟩ ⟨.inr ⟨_, rfl, rfl, Rens.cons (Ren.int _ _) (Rens.cons (Ren.lst _ _ _) (Rens.nil))⟩, trivial⟩⟩)
    · clear hj
      refine W.block ?_
      refine W.rL ?_
      refine cL rfl (o_move (v := .int _ _) rfl ?_)
      refine cL rfl (o_assign (v := .int _ _) rfl ?_)
      refine eL ?_
      refine W.tr [(1, .ptr _ _), (3, .int _ _), (4, .int _ _), (19, .int _ _), (20, .int _ _)] [.box _ [.int _ _, .lst _ _ _]] ⟨rfl, rfl, rfl, rfl, rfl, trivial⟩ rfl ?_
      refine W.rL ?_
      refine cL rfl (o_ldA (cs := [.int _ _, .lst _ _ _]) tt65 rfl rfl ⟨_, rfl⟩ rfl ?_)
      refine cL rfl (o_move (v := .int _ _) rfl ?_)
      refine cL rfl (o_fa tt65 rfl tt3 rfl ?_)
      refine cL rfl (o_ldS (v := .int _ _) tt3 rfl rfl ⟨_, rfl⟩ ?_)
      obtain ⟨s111, hv⟩ := hv
      refine cL rfl (o_callP1 (k := 58) (fst := []) (caps := []) (ys := [.agg _, .int _ _, .int _ _, .int _ _]) rfl rfl (spec_table w v20 (-1 : Int) w.n s111) (Wks.cons (ag_agg 5 _ (Wks.cons (ag_int _ _ _ _) (Wks.cons (ag_lst _ _ _ _ _) (Wks.refl _)))) (Wks.cons (ag_int _ _ _ _) (Wks.cons (ag_int _ _ _ _) (Wks.cons (ag_int _ _ _ _) (Wks.refl _))))) ?_)
      refine cL rfl (o_len (v := .lst _ _ _) tt83 rfl rfl ?_)
      refine cL rfl (o_move (v := .int _ _) rfl ?_)
      refine eL ?_
      refine W.tr [(1, .ptr _ _), (3, .int _ _), (4, .int _ _), (19, .int _ _), (20, .int _ _), (27, .lst _ _ _), (28, .int _ _), (29, .int _ _)] [.box _ [.int _ _, .lst _ _ _]] ⟨rfl, rfl, rfl, rfl, rfl, rfl, rfl, rfl, trivial⟩ rfl ?_
      refine W.block ?_
      obtain ⟨I3, μ3, hp, hv⟩ := hv
      refine W.loop2 (fun v3_1 v29 => ⟨142, look [(1, .ptr 0 0), (3, .int .i64 v3_1), (4, .int .i64 v20), (19, .int .i64 w.n), (20, .int .i64 v20), (27, .lst false (tableM w.l v20 (-1 : Int) w.n).length (encL eV24 (tableM w.l v20 (-1 : Int) w.n))), (28, .int .i64 (((tableM w.l v20 (-1 : Int) w.n).length : Nat) : Int)), (29, .int .i64 v29)], [.box 65 [.int .i64 w.n, .lst true w.l.length (encL e25 w.l)]], false⟩) I3 μ3 v3 (0 : Int) (St.to_mk (φ := [some 0]) rfl (.inl rfl) ⟨Ren.ptr rfl, Ren.int _ _, Ren.int _ _, Ren.int _ _, Ren.int _ _, Ren.lst _ _ _, Ren.int _ _, Ren.int _ _, trivial⟩ ⟨.inr ⟨_, rfl, rfl, Rens.cons (Ren.int _ _) (Rens.cons (Ren.lst _ _ _) (Rens.nil))⟩, trivial⟩) hp ?_
      clear hp
      intro v3_1 v29 hI
      replace hv := hv v3_1 v29 hI
      clear hI
      refine W.rL ?_
      refine cL rfl (o_lss rfl rfl ?_)
      refine eL ?_
      refine W.tr [(1, .ptr _ _), (3, .int _ _), (4, .int _ _), (19, .int _ _), (20, .int _ _), (27, .lst _ _ _), (28, .int _ _), (29, .int _ _), (30, .bool _)] [.box _ [.int _ _, .lst _ _ _]] ⟨rfl, rfl, rfl, rfl, rfl, rfl, rfl, rfl, rfl, trivial⟩ rfl ?_
      refine W.seq' ?_
      refine W.cn rfl (fun hc => ?_) (fun hc => ?_)
      · have hv := hv.1 hc
        refine W.skip ?_
        refine th_nrm ?_
        refine W.tr [(1, .ptr _ _), (3, .int _ _), (4, .int _ _), (19, .int _ _), (20, .int _ _), (27, .lst _ _ _), (28, .int _ _), (29, .int _ _)] [.box _ [.int _ _, .lst _ _ _]] ⟨rfl, rfl, rfl, rfl, rfl, rfl, rfl, rfl, trivial⟩ rfl ?_
        refine W.seq' ?_
        refine W.block ?_
        refine W.rL ?_
        refine cL rfl (o_move (v := .int _ _) rfl ?_)
        obtain ⟨s122, hv⟩ := hv
        refine cL rfl (o_iaL tt83 tt73 rfl rfl (encV24.wd true) rfl s122 ?_)
        intro rest122
        refine cL rfl (o_ldA (cs := encL eInt _) tt73 rfl rfl ⟨_, rfl⟩ (ints_len _) ?_)
        refine cL rfl (o_alloc (p := 1) tt73 rfl (ints_zero 24) ?_)
        refine cL rfl (o_assign (v := .int _ _) rfl ?_)
        refine cLn (o_stB (v := .agg _) tt73 rfl rfl rfl (ints_len _) rfl (vec_in (ints_len _) (ints_len _)) (spl_all _ _ ((ints_len _).trans (ints_len _).symm)) ?_)
        refine eL ?_
        refine W.tr [(1, .ptr _ _), (3, .int _ _), (4, .int _ _), (5, .int _ _), (6, .ptr _ _), (19, .int _ _), (20, .int _ _), (27, .lst _ _ _), (28, .int _ _), (29, .int _ _)] [.box _ [.int _ _, .lst _ _ _], .box _ _] ⟨rfl, rfl, rfl, rfl, rfl, rfl, rfl, rfl, rfl, rfl, trivial⟩ rfl ?_
        refine W.rL ?_
        refine cL rfl (o_move (v := .int _ _) rfl ?_)
        obtain ⟨s123, hv⟩ := hv
        refine cL rfl (o_iaA tt73 tt3 rfl rfl s123 (by rw [Nat.mul_one, Nat.zero_add]) ?_)
        obtain ⟨s124, hv⟩ := hv
        refine cL rfl (o_ldS tt3 rfl rfl (ca_vec rfl s124) ?_)
        refine cL rfl (o_lss rfl rfl ?_)
        refine eL ?_
        refine W.tr [(1, .ptr _ _), (3, .int _ _), (4, .int _ _), (5, .int _ _), (19, .int _ _), (20, .int _ _), (27, .lst _ _ _), (28, .int _ _), (29, .int _ _), (37, .bool _)] [.box _ [.int _ _, .lst _ _ _], .box _ _] ⟨rfl, rfl, rfl, rfl, rfl, rfl, rfl, rfl, rfl, rfl, trivial⟩ rfl ?_
        refine W.cn rfl (fun hc => ?_) (fun hc => ?_)
        · have hv := hv.1 hc
          refine W.rL ?_
          refine cL rfl (o_move (v := .int _ _) rfl ?_)
          refine cL rfl (o_move (v := .int _ _) rfl ?_)
          refine cL rfl (o_min rfl rfl ?_)
          refine cL rfl (o_assign (v := .int _ _) rfl ?_)
          refine eL ?_
          refine W.tr [(1, .ptr _ _), (3, .int _ _), (19, .int _ _), (20, .int _ _)] [.box _ [.int _ _, .lst _ _ _], .box _ _] ⟨rfl, rfl, rfl, rfl, trivial⟩ rfl ?_
          refine W.exit ?_
          exact bl_miss rfl (th_exit (th_exit (bl_hit (bl_nrm (th_nrm (⟨(), (min v3_1 v29), hv, St.to_mk (φ := [some 0]) rfl (.inl rfl) ⟨Ren.ptr rfl, Ren.int _ _, Ren.int _ _, Ren.int _ _, trivial⟩ ⟨.inr ⟨_, rfl, rfl, Rens.cons (Ren.int _ _) (Rens.cons (Ren.lst _ _ _) (Rens.nil))⟩, trivial⟩⟩))))))
        · have hv := hv.2 hc
          refine W.skip ?_
          refine bl_nrm (th_nrm ?_)
          refine W.tr [(1, .ptr _ _), (3, .int _ _), (4, .int _ _), (19, .int _ _), (20, .int _ _), (27, .lst _ _ _), (28, .int _ _), (29, .int _ _)] [.box _ [.int _ _, .lst _ _ _], .box _ _] ⟨rfl, rfl, rfl, rfl, rfl, rfl, rfl, rfl, trivial⟩ rfl ?_
          refine W.rL1 ?_
          obtain ⟨s125, hv⟩ := hv
          refine cL rfl (o_add rfl rfl s125 ?_)
          refine cL rfl (o_move (v := .int _ _) rfl ?_)
          refine eL ?_
          exact th_nrm (⟨(), v3_1, (v29 + (1 : Int)), hv, St.to_mk (φ := [some 0]) rfl (.inl rfl) ⟨Ren.ptr rfl, Ren.int _ _, Ren.int _ _, Ren.int _ _, Ren.int _ _, Ren.lst _ _ _, Ren.int _ _, Ren.int _ _, trivial⟩ ⟨.inr ⟨_, rfl, rfl, Rens.cons (Ren.int _ _) (Rens.cons (Ren.lst _ _ _) (Rens.nil))⟩, trivial⟩⟩)
      · have hv := hv.2 hc
        refine W.exit ?_
        exact th_exit (th_exit (bl_hit (bl_nrm (th_nrm (⟨(), v3_1, hv, St.to_mk (φ := [some 0]) rfl (.inl rfl) ⟨Ren.ptr rfl, Ren.int _ _, Ren.int _ _, Ren.int _ _, trivial⟩ ⟨.inr ⟨_, rfl, rfl, Rens.cons (Ren.int _ _) (Rens.cons (Ren.lst _ _ _) (Rens.nil))⟩, trivial⟩⟩)))))
  · have hv := hv.2 hc
    refine W.exit ?_
    refine th_exit (th_exit (bl_hit (th_nrm ?_)))
    refine W.tr [(1, .ptr _ _), (3, .int _ _)] [.box _ [.int _ _, .lst _ _ _]] ⟨rfl, rfl, trivial⟩ rfl ?_
    refine W.seq' ?_
    refine W.label ?_
    refine th_nrm ?_
    refine W.tr [(1, .ptr _ _), (3, .int _ _)] [.box _ [.int _ _, .lst _ _ _]] ⟨rfl, rfl, trivial⟩ rfl ?_
    refine W.seq' ?_
    refine W.rL ?_
    refine cL rfl (o_fa tt65 rfl tt22 rfl ?_)
    refine cL rfl (o_ldS (v := .lst _ _ _) tt22 rfl rfl ⟨_, rfl⟩ ?_)
    refine cL rfl (o_len (v := .lst _ _ _) tt22 rfl rfl ?_)
    refine cL rfl (o_move (v := .int _ _) rfl ?_)
    refine eL ?_
    refine W.tr [(1, .ptr _ _), (3, .int _ _), (44, .lst _ _ _), (45, .int _ _), (46, .int _ _)] [.box _ [.int _ _, .lst _ _ _]] ⟨rfl, rfl, rfl, rfl, rfl, trivial⟩ rfl ?_
    refine W.block ?_
    obtain ⟨I4, μ4, hp, hv⟩ := hv
    refine W.loop1 (fun v46 => ⟨142, look [(1, .ptr 0 0), (3, .int .i64 v3), (44, .lst true w.l.length (encL e25 w.l)), (45, .int .i64 ((w.l.length : Nat) : Int)), (46, .int .i64 v46)], [.box 65 [.int .i64 w.n, .lst true w.l.length (encL e25 w.l)]], false⟩) I4 μ4 (0 : Int) (St.to_mk (φ := [some 0]) rfl (.inl rfl) ⟨Ren.ptr rfl, Ren.int _ _, Ren.lst _ _ _, Ren.int _ _, Ren.int _ _, trivial⟩ ⟨.inr ⟨_, rfl, rfl, Rens.cons (Ren.int _ _) (Rens.cons (Ren.lst _ _ _) (Rens.nil))⟩, trivial⟩) hp ?_
    clear hp
    intro v46 hI
    replace hv := hv v46 hI
    clear hI
    refine W.rL ?_
    refine cL rfl (o_lss rfl rfl ?_)
    refine eL ?_
    refine W.tr [(1, .ptr _ _), (3, .int _ _), (44, .lst _ _ _), (45, .int _ _), (46, .int _ _), (47, .bool _)] [.box _ [.int _ _, .lst _ _ _]] ⟨rfl, rfl, rfl, rfl, rfl, rfl, trivial⟩ rfl ?_
    refine W.seq' ?_
    refine W.cn rfl (fun hc => ?_) (fun hc => ?_)
    · have hv := hv.1 hc
      refine W.skip ?_
      refine th_nrm ?_
      refine W.tr [(1, .ptr _ _), (3, .int _ _), (44, .lst _ _ _), (45, .int _ _), (46, .int _ _)] [.box _ [.int _ _, .lst _ _ _]] ⟨rfl, rfl, rfl, rfl, rfl, trivial⟩ rfl ?_
      obtain ⟨J5, hj, hv⟩ := hv
      refine W.mid0 (⟨142, look [(1, .ptr 0 0), (3, .int .i64 v3), (44, .lst true w.l.length (encL e25 w.l)), (45, .int .i64 ((w.l.length : Nat) : Int)), (46, .int .i64 v46)], [.box 65 [.int .i64 w.n, .lst true w.l.length (encL e25 w.l)]], false⟩) J5 ?_ ?_
      · intro hv
        replace hv := hj hv
        refine W.rL1 ?_
        obtain ⟨s4952, hv⟩ := hv
        refine cL rfl (o_add rfl rfl s4952 ?_)
        refine cL rfl (o_move (v := .int _ _) rfl ?_)
        refine eL ?_
        exact th_nrm (⟨(), (v46 + (1 : Int)), hv, St.to_mk (φ := [some 0]) rfl (.inl rfl) ⟨Ren.ptr rfl, Ren.int _ _, Ren.lst _ _ _, Ren.int _ _, Ren.int _ _, trivial⟩ ⟨.inr ⟨_, rfl, rfl, Rens.cons (Ren.int _ _) (Rens.cons (Ren.lst _ _ _) (Rens.nil))⟩, trivial⟩⟩)
      · clear hj
        refine W.block ?_
        refine W.rL ?_
        refine cL rfl (o_move (v := .int _ _) rfl ?_)
        obtain ⟨s4953, hv⟩ := hv
        refine cL rfl (o_iaL tt22 tt25 rfl rfl (enc25.wd true) rfl s4953 ?_)
        intro rest4953
        refine cL rfl (o_ldA (cs := [.int _ _, .int _ _, .int _ _, .int _ _]) tt25 rfl rfl ⟨_, rfl⟩ rfl ?_)
        refine cL rfl (o_alloc (p := 1) tt25 rfl rfl ?_)
        refine cL rfl (o_assign (v := .int _ _) rfl ?_)
        refine cLn (o_stB (v := .agg _) (vs := [.int _ _, .int _ _, .int _ _, .int _ _]) (cs2 := [.int _ _, .int _ _, .int _ _, .int _ _]) tt25 rfl rfl rfl rfl rfl (Nat.le_of_ble_eq_true rfl) rfl ?_)
        refine eL ?_
        refine W.tr [(1, .ptr _ _), (3, .int _ _), (7, .int _ _), (8, .ptr _ _), (44, .lst _ _ _), (45, .int _ _), (46, .int _ _)] [.box _ [.int _ _, .lst _ _ _], .box _ [.int _ _, .int _ _, .int _ _, .int _ _]] ⟨rfl, rfl, rfl, rfl, rfl, rfl, rfl, trivial⟩ rfl ?_
        refine W.rL ?_
        refine cL rfl (o_ldA (cs := [.int _ _, .lst _ _ _]) tt65 rfl rfl ⟨_, rfl⟩ rfl ?_)
        refine cL rfl (o_fa tt25 rfl tt3 rfl ?_)
        refine cL rfl (o_ldS (v := .int _ _) tt3 rfl rfl ⟨_, rfl⟩ ?_)
        refine cL rfl (o_move (v := .int _ _) rfl ?_)
        refine cL rfl (o_move (v := .int _ _) rfl ?_)
        obtain ⟨s4954, hv⟩ := hv
        refine cL rfl (o_sub rfl rfl s4954 ?_)
        obtain ⟨s4955, hv⟩ := hv
        refine cL rfl (o_callP1 (k := 58) (fst := []) (caps := []) (ys := [.agg _, .int _ _, .int _ _, .int _ _]) rfl rfl (spec_table w ((lat w.l v46).f) v46 (v3 - (1 : Int)) s4955) (Wks.cons (ag_agg 5 _ (Wks.cons (ag_int _ _ _ _) (Wks.cons (ag_lst _ _ _ _ _) (Wks.refl _)))) (Wks.cons (ag_int _ _ _ _) (Wks.cons (ag_int _ _ _ _) (Wks.cons (ag_int _ _ _ _) (Wks.refl _))))) ?_)
        refine cL rfl (o_assign (v := .lst _ _ _) rfl ?_)
        refine eL ?_
        refine W.tr [(1, .ptr _ _), (3, .int _ _), (7, .int _ _), (8, .ptr _ _), (9, .lst _ _ _), (44, .lst _ _ _), (45, .int _ _), (46, .int _ _)] [.box _ [.int _ _, .lst _ _ _], .box _ [.int _ _, .int _ _, .int _ _, .int _ _]] ⟨rfl, rfl, rfl, rfl, rfl, rfl, rfl, rfl, trivial⟩ rfl ?_
        refine W.seq' ?_
        refine W.rD [0, 1, 2, 3, 4, 5, 6, 7, 8, 9, 10, 11] (by decide +kernel) rfl ?_
        refine cL rfl (o_fa tt25 rfl tt3 rfl ?_)
        refine cL rfl (o_ldS (v := .int _ _) tt3 rfl rfl ⟨_, rfl⟩ ?_)
        refine cL rfl (o_move (v := .lst _ _ _) rfl ?_)
        refine cL rfl (o_move (v := .int _ _) rfl ?_)
        obtain ⟨s4960, hv⟩ := hv
        refine cL rfl (o_sub rfl rfl s4960 ?_)
        refine cL rfl (o_fa tt25 rfl tt3 rfl ?_)
        refine cL rfl (o_ldS (v := .int _ _) tt3 rfl rfl ⟨_, rfl⟩ ?_)
        obtain ⟨s4961, hv⟩ := hv
        refine cL rfl (o_iaL tt83 tt73 rfl rfl (encV24.wd true) rfl s4961 ?_)
        intro rest4961
        obtain ⟨s4962, hv⟩ := hv
        refine cL rfl (o_iaPV tt73 tt3 rfl rfl s4962 ?_)
        intro rest4962
        refine cL rfl (o_ldS (v := .int _ _) tt3 rfl rfl ⟨_, rfl⟩ ?_)
        obtain ⟨s4963, hv⟩ := hv
        refine cL rfl (o_callP1 (k := 47) (fst := []) (caps := []) (ys := [.int _ _, .int _ _]) rfl rfl (spec_plus ((lat w.l v46).m) (vat (lat (tableM w.l ((lat w.l v46).f) v46 (v3 - (1 : Int))) (v3 - (1 : Int))) ((lat w.l v46).t).toNat) s4963) (Wks.cons (ag_int _ _ _ _) (Wks.cons (ag_int _ _ _ _) (Wks.refl _))) ?_)
        refine cL rfl (o_geq rfl rfl ?_)
        refine eL ?_
        refine W.tr [(1, .ptr _ _), (3, .int _ _), (7, .int _ _), (8, .ptr _ _), (9, .lst _ _ _), (44, .lst _ _ _), (45, .int _ _), (46, .int _ _), (69, .bool _)] [.box _ [.int _ _, .lst _ _ _], .box _ [.int _ _, .int _ _, .int _ _, .int _ _]] ⟨rfl, rfl, rfl, rfl, rfl, rfl, rfl, rfl, rfl, trivial⟩ rfl ?_
        refine W.cn rfl (fun hc => ?_) (fun hc => ?_)
        · have hv := hv.1 hc
          refine W.exit ?_
          exact th_exit (bl_hit (th_nrm (⟨(), hv, St.to_mk (φ := [some 0]) rfl (.inl rfl) ⟨Ren.ptr rfl, Ren.int _ _, Ren.lst _ _ _, Ren.int _ _, Ren.int _ _, trivial⟩ ⟨.inr ⟨_, rfl, rfl, Rens.cons (Ren.int _ _) (Rens.cons (Ren.lst _ _ _) (Rens.nil))⟩, trivial⟩⟩)))
        · have hv := hv.2 hc
          refine W.skip ?_
          refine th_nrm ?_
          refine W.tr [(1, .ptr _ _), (3, .int _ _), (7, .int _ _), (8, .ptr _ _), (9, .lst _ _ _), (44, .lst _ _ _), (45, .int _ _), (46, .int _ _)] [.box _ [.int _ _, .lst _ _ _], .box _ [.int _ _, .int _ _, .int _ _, .int _ _]] ⟨rfl, rfl, rfl, rfl, rfl, rfl, rfl, rfl, trivial⟩ rfl ?_
          refine W.rD [0, 1, 2, 3, 4, 5, 6, 7, 8] (by decide +kernel) rfl ?_
          refine cL rfl (o_move (v := .int _ _) rfl ?_)
          refine cL rfl (o_bs1 (v := .int _ _) (q := 2) tt35 tt3 rfl rfl rfl rfl rfl rfl rfl rfl ?_)
          refine cL rfl (o_fa tt25 rfl tt3 rfl ?_)
          refine cL rfl (o_ldS (v := .int _ _) tt3 rfl rfl ⟨_, rfl⟩ ?_)
          refine cL rfl (o_fa tt25 rfl tt3 rfl ?_)
          refine cL rfl (o_ldS (v := .int _ _) tt3 rfl rfl ⟨_, rfl⟩ ?_)
          refine cL rfl (o_assign (v := .ref _ _ _) rfl ?_)
          refine cL rfl (o_assign (v := .int _ _) rfl ?_)
          refine cL rfl (o_assign (v := .int _ _) rfl ?_)
          refine eL ?_
          refine W.tr [(1, .ptr _ _), (3, .int _ _), (7, .int _ _), (9, .lst _ _ _), (10, .ref _ _ _), (11, .int _ _), (12, .int _ _), (44, .lst _ _ _), (45, .int _ _), (46, .int _ _)] [.box _ [.int _ _, .lst _ _ _], .box _ [.int _ _, .int _ _, .int _ _, .int _ _], .row _ _ _] ⟨rfl, rfl, rfl, rfl, rfl, rfl, rfl, rfl, rfl, rfl, trivial⟩ rfl ?_
          refine W.seq' ?_
          refine W.block ?_
          obtain ⟨I6, μ6, hp, hv⟩ := hv
          refine W.loop3 (fun v11 v12 r2 => ⟨142, look [(1, .ptr 0 0), (3, .int .i64 v3), (7, .int .i64 v46), (9, .lst false (tableM w.l ((lat w.l v46).f) v46 (v3 - (1 : Int))).length (encL eV24 (tableM w.l ((lat w.l v46).f) v46 (v3 - (1 : Int))))), (10, .ref false 2 r2.length), (11, .int .i64 v11), (12, .int .i64 v12), (44, .lst true w.l.length (encL e25 w.l)), (45, .int .i64 ((w.l.length : Nat) : Int)), (46, .int .i64 v46)], [.box 65 [.int .i64 w.n, .lst true w.l.length (encL e25 w.l)], .dead, .row 3 1 (encL eInt r2)], false⟩) I6 μ6 ((lat w.l v46).t) ((lat w.l v46).m) [v46] (St.to_mk (φ := [some 0, none, some 2]) rfl (.inl rfl) ⟨Ren.ptr rfl, Ren.int _ _, Ren.int _ _, Ren.lst _ _ _, Ren.ref rfl (fun h => h), Ren.int _ _, Ren.int _ _, Ren.lst _ _ _, Ren.int _ _, Ren.int _ _, trivial⟩ ⟨.inr ⟨_, rfl, rfl, Rens.cons (Ren.int _ _) (Rens.cons (Ren.lst _ _ _) (Rens.nil))⟩, rfl, .inr ⟨_, rfl, rfl, rfl, rfl, Rens.enc encInt false [v46]⟩, trivial⟩) hp ?_
          clear hp
          intro v11 v12 r2 hI
          replace hv := hv v11 v12 r2 hI
          clear hI
          refine W.seq' ?_
          refine W.rL ?_
          refine cL rfl (o_move (v := .ref _ _ _) rfl ?_)
          refine cL rfl (o_len (v := .ref _ _ _) tt35 rfl rfl ?_)
          refine cL rfl (o_move (v := .int _ _) rfl ?_)
          refine cL rfl (o_lss rfl rfl ?_)
          refine eL ?_
          refine W.tr [(1, .ptr _ _), (3, .int _ _), (7, .int _ _), (9, .lst _ _ _), (10, .ref _ _ _), (11, .int _ _), (12, .int _ _), (44, .lst _ _ _), (45, .int _ _), (46, .int _ _), (79, .bool _)] [.box _ [.int _ _, .lst _ _ _], .dead, .row _ _ _] ⟨rfl, rfl, rfl, rfl, rfl, rfl, rfl, rfl, rfl, rfl, rfl, trivial⟩ rfl ?_
          refine W.cn rfl (fun hc => ?_) (fun hc => ?_)
          · have hv := hv.1 hc
            refine W.skip ?_
            refine th_nrm ?_
            refine W.tr [(1, .ptr _ _), (3, .int _ _), (7, .int _ _), (9, .lst _ _ _), (10, .ref _ _ _), (11, .int _ _), (12, .int _ _), (44, .lst _ _ _), (45, .int _ _), (46, .int _ _)] [.box _ [.int _ _, .lst _ _ _], .dead, .row _ _ _] ⟨rfl, rfl, rfl, rfl, rfl, rfl, rfl, rfl, rfl, rfl, trivial⟩ rfl ?_
            refine W.block ?_
            refine W.rL ?_
            refine cL rfl (o_move (v := .int _ _) rfl ?_)
            obtain ⟨s5529, hv⟩ := hv
            refine cL rfl (o_add rfl rfl s5529 ?_)
            refine cL rfl (o_assign (v := .int _ _) rfl ?_)
            refine eL ?_
            refine W.tr [(1, .ptr _ _), (3, .int _ _), (7, .int _ _), (9, .lst _ _ _), (10, .ref _ _ _), (11, .int _ _), (12, .int _ _), (13, .int _ _), (44, .lst _ _ _), (45, .int _ _), (46, .int _ _)] [.box _ [.int _ _, .lst _ _ _], .dead, .row _ _ _] ⟨rfl, rfl, rfl, rfl, rfl, rfl, rfl, rfl, rfl, rfl, rfl, trivial⟩ rfl ?_
            obtain ⟨J7, hj, hv⟩ := hv
            refine W.mid1 (fun v13 => ⟨142, look [(1, .ptr 0 0), (3, .int .i64 v3), (7, .int .i64 v46), (9, .lst false (tableM w.l ((lat w.l v46).f) v46 (v3 - (1 : Int))).length (encL eV24 (tableM w.l ((lat w.l v46).f) v46 (v3 - (1 : Int))))), (10, .ref false 2 r2.length), (12, .int .i64 v12), (13, .int .i64 v13), (44, .lst true w.l.length (encL e25 w.l)), (45, .int .i64 ((w.l.length : Nat) : Int)), (46, .int .i64 v46)], [.box 65 [.int .i64 w.n, .lst true w.l.length (encL e25 w.l)], .dead, .row 3 1 (encL eInt r2)], false⟩) J7 ?_ ?_
            · intro v13
              intro hv
              replace hv := hj v13 hv
              refine W.seq' ?_
              refine W.rL ?_
              refine cL rfl (o_move (v := .int _ _) rfl ?_)
              refine cL rfl (o_fa tt65 rfl tt22 rfl ?_)
              refine cL rfl (o_ldS (v := .lst _ _ _) tt22 rfl rfl ⟨_, rfl⟩ ?_)
              refine cL rfl (o_len (v := .lst _ _ _) tt22 rfl rfl ?_)
              refine cL rfl (o_eqI rfl rfl rfl ?_)
              refine eL ?_
              refine W.tr [(1, .ptr _ _), (3, .int _ _), (7, .int _ _), (9, .lst _ _ _), (10, .ref _ _ _), (12, .int _ _), (13, .int _ _), (44, .lst _ _ _), (45, .int _ _), (46, .int _ _), (121, .bool _)] [.box _ [.int _ _, .lst _ _ _], .dead, .row _ _ _] ⟨rfl, rfl, rfl, rfl, rfl, rfl, rfl, rfl, rfl, rfl, rfl, trivial⟩ rfl ?_
              refine W.cn rfl (fun hc => ?_) (fun hc => ?_)
              · have hv := hv.1 hc
                refine W.exit ?_
                exact th_exit (bl_miss rfl (th_exit (bl_miss rfl (th_exit (bl_hit (th_nrm (⟨(), hv, St.to_mk (φ := [some 0]) rfl (.inl rfl) ⟨Ren.ptr rfl, Ren.int _ _, Ren.lst _ _ _, Ren.int _ _, Ren.int _ _, trivial⟩ ⟨.inr ⟨_, rfl, rfl, Rens.cons (Ren.int _ _) (Rens.cons (Ren.lst _ _ _) (Rens.nil))⟩, trivial⟩⟩)))))))
              · have hv := hv.2 hc
                refine W.skip ?_
                refine th_nrm ?_
                refine W.tr [(1, .ptr _ _), (3, .int _ _), (7, .int _ _), (9, .lst _ _ _), (10, .ref _ _ _), (12, .int _ _), (13, .int _ _), (44, .lst _ _ _), (45, .int _ _), (46, .int _ _)] [.box _ [.int _ _, .lst _ _ _], .dead, .row _ _ _] ⟨rfl, rfl, rfl, rfl, rfl, rfl, rfl, rfl, rfl, rfl, trivial⟩ rfl ?_
                refine W.rD1 [0, 1, 2, 3, 4, 5, 6, 7, 8, 9, 10, 11, 12, 13, 14, 15, 16, 17, 18, 19, 20] (by decide +kernel) rfl ?_
                refine cL rfl (o_move (v := .ref _ _ _) rfl ?_)
                refine cL rfl (o_move (v := .int _ _) rfl ?_)
                refine cL rfl (o_bs1 (v := .int _ _) (q := 3) tt35 tt3 rfl rfl rfl rfl rfl rfl rfl rfl ?_)
                obtain ⟨s5584, hv⟩ := hv
                refine cL rfl (o_apR (p := 4) (q := (r2 ++ [v13]).length) tt35 tt3 rfl rfl (src_ref rfl rfl) rfl rfl (encL_length (encInt.wd false) _) (Nat.le_trans (Nat.le_of_eq (@List.length_append _ (r2) ([v13])).symm) s5584) rfl (@List.length_append _ (r2) ([v13])).symm (encL_app eInt r2 [v13]) ?_)
                refine cL rfl (o_fa tt65 rfl tt22 rfl ?_)
                refine cL rfl (o_ldS (v := .lst _ _ _) tt22 rfl rfl ⟨_, rfl⟩ ?_)
                refine cL rfl (o_move (v := .int _ _) rfl ?_)
                obtain ⟨s5585, hv⟩ := hv
                refine cL rfl (o_iaL tt22 tt25 rfl rfl (enc25.wd true) rfl s5585 ?_)
                intro rest5585
                refine cL rfl (o_faP tt25 rfl tt3 rfl ?_)
                refine cL rfl (o_ldS (v := .int _ _) tt3 rfl rfl ⟨_, rfl⟩ ?_)
                refine cL rfl (o_move (v := .int _ _) rfl ?_)
                refine cL rfl (o_fa tt65 rfl tt22 rfl ?_)
                refine cL rfl (o_ldS (v := .lst _ _ _) tt22 rfl rfl ⟨_, rfl⟩ ?_)
                refine cL rfl (o_move (v := .int _ _) rfl ?_)
                obtain ⟨s5586, hv⟩ := hv
                refine cL rfl (o_iaL tt22 tt25 rfl rfl (enc25.wd true) rfl s5586 ?_)
                intro rest5586
                refine cL rfl (o_faP tt25 rfl tt3 rfl ?_)
                refine cL rfl (o_ldS (v := .int _ _) tt3 rfl rfl ⟨_, rfl⟩ ?_)
                obtain ⟨s5587, hv⟩ := hv
                refine cL rfl (o_add rfl rfl s5587 ?_)
                refine cL rfl (o_assign (v := .ref _ _ _) rfl ?_)
                refine cL rfl (o_assign (v := .int _ _) rfl ?_)
                refine cL rfl (o_assign (v := .int _ _) rfl ?_)
                refine eL ?_
                exact bl_nrm (th_nrm (⟨(), ((lat w.l v13).t), (v12 + ((lat w.l v13).m)), (r2 ++ [v13]), hv, St.to_mk (φ := [some 0, none, some 4]) rfl (.inl rfl) ⟨Ren.ptr rfl, Ren.int _ _, Ren.int _ _, Ren.lst _ _ _, Ren.ref rfl (fun h => h), Ren.int _ _, Ren.int _ _, Ren.lst _ _ _, Ren.int _ _, Ren.int _ _, trivial⟩ ⟨.inr ⟨_, rfl, rfl, Rens.cons (Ren.int _ _) (Rens.cons (Ren.lst _ _ _) (Rens.nil))⟩, rfl, .inr ⟨_, rfl, rfl, rfl, rfl, Rens.enc encInt false (r2 ++ [v13])⟩, trivial⟩⟩))
            · clear hj
              refine W.block ?_
              obtain ⟨I8, μ8, hp, hv⟩ := hv
              refine W.loop1 (fun v13 => ⟨142, look [(1, .ptr 0 0), (3, .int .i64 v3), (7, .int .i64 v46), (9, .lst false (tableM w.l ((lat w.l v46).f) v46 (v3 - (1 : Int))).length (encL eV24 (tableM w.l ((lat w.l v46).f) v46 (v3 - (1 : Int))))), (10, .ref false 2 r2.length), (11, .int .i64 v11), (12, .int .i64 v12), (13, .int .i64 v13), (44, .lst true w.l.length (encL e25 w.l)), (45, .int .i64 ((w.l.length : Nat) : Int)), (46, .int .i64 v46)], [.box 65 [.int .i64 w.n, .lst true w.l.length (encL e25 w.l)], .dead, .row 3 1 (encL eInt r2)], false⟩) I8 μ8 (v46 + (1 : Int)) (St.to_mk (φ := [some 0, none, some 2]) rfl (.inl rfl) ⟨Ren.ptr rfl, Ren.int _ _, Ren.int _ _, Ren.lst _ _ _, Ren.ref rfl (fun h => h), Ren.int _ _, Ren.int _ _, Ren.int _ _, Ren.lst _ _ _, Ren.int _ _, Ren.int _ _, trivial⟩ ⟨.inr ⟨_, rfl, rfl, Rens.cons (Ren.int _ _) (Rens.cons (Ren.lst _ _ _) (Rens.nil))⟩, rfl, .inr ⟨_, rfl, rfl, rfl, rfl, Rens.enc encInt false r2⟩, trivial⟩) hp ?_
              clear hp
              intro v13 hI
              replace hv := hv v13 hI
              clear hI
              refine W.seq' ?_
              refine W.rL ?_
              refine cL rfl (o_move (v := .int _ _) rfl ?_)
              refine cL rfl (o_fa tt65 rfl tt22 rfl ?_)
              refine cL rfl (o_ldS (v := .lst _ _ _) tt22 rfl rfl ⟨_, rfl⟩ ?_)
              refine cL rfl (o_len (v := .lst _ _ _) tt22 rfl rfl ?_)
              refine cL rfl (o_lss rfl rfl ?_)
              refine eL ?_
              refine W.tr [(1, .ptr _ _), (3, .int _ _), (7, .int _ _), (9, .lst _ _ _), (10, .ref _ _ _), (11, .int _ _), (12, .int _ _), (13, .int _ _), (44, .lst _ _ _), (45, .int _ _), (46, .int _ _), (86, .bool _)] [.box _ [.int _ _, .lst _ _ _], .dead, .row _ _ _] ⟨rfl, rfl, rfl, rfl, rfl, rfl, rfl, rfl, rfl, rfl, rfl, rfl, trivial⟩ rfl ?_
              refine W.cn rfl (fun hc => ?_) (fun hc => ?_)
              · have hv := hv.1 hc
                refine W.skip ?_
                refine th_nrm ?_
                refine W.tr [(1, .ptr _ _), (3, .int _ _), (7, .int _ _), (9, .lst _ _ _), (10, .ref _ _ _), (11, .int _ _), (12, .int _ _), (13, .int _ _), (44, .lst _ _ _), (45, .int _ _), (46, .int _ _)] [.box _ [.int _ _, .lst _ _ _], .dead, .row _ _ _] ⟨rfl, rfl, rfl, rfl, rfl, rfl, rfl, rfl, rfl, rfl, rfl, trivial⟩ rfl ?_
                refine W.seq' ?_
                refine W.block ?_
                refine W.rL ?_
                refine cL rfl (o_fa tt65 rfl tt22 rfl ?_)
                refine cL rfl (o_ldS (v := .lst _ _ _) tt22 rfl rfl ⟨_, rfl⟩ ?_)
                refine cL rfl (o_move (v := .int _ _) rfl ?_)
                obtain ⟨s5628, hv⟩ := hv
                refine cL rfl (o_iaL tt22 tt25 rfl rfl (enc25.wd true) rfl s5628 ?_)
                intro rest5628
                refine cL rfl (o_ldA (cs := [.int _ _, .int _ _, .int _ _, .int _ _]) tt25 rfl rfl ⟨_, rfl⟩ rfl ?_)
                refine cL rfl (o_alloc (p := 3) tt25 rfl rfl ?_)
                refine cLn (o_stB (v := .agg _) (vs := [.int _ _, .int _ _, .int _ _, .int _ _]) (cs2 := [.int _ _, .int _ _, .int _ _, .int _ _]) tt25 rfl rfl rfl rfl rfl (Nat.le_of_ble_eq_true rfl) rfl ?_)
                refine eL ?_
                refine W.tr [(1, .ptr _ _), (3, .int _ _), (7, .int _ _), (9, .lst _ _ _), (10, .ref _ _ _), (11, .int _ _), (12, .int _ _), (13, .int _ _), (14, .ptr _ _), (44, .lst _ _ _), (45, .int _ _), (46, .int _ _)] [.box _ [.int _ _, .lst _ _ _], .dead, .row _ _ _, .box _ [.int _ _, .int _ _, .int _ _, .int _ _]] ⟨rfl, rfl, rfl, rfl, rfl, rfl, rfl, rfl, rfl, rfl, rfl, rfl, trivial⟩ rfl ?_
                obtain ⟨sd, hv⟩ := hv
                refine W.rDm ⟨142, look [(1, .ptr 0 0), (3, .int .i64 v3), (7, .int .i64 v46), (9, .lst false (tableM w.l ((lat w.l v46).f) v46 (v3 - (1 : Int))).length (encL eV24 (tableM w.l ((lat w.l v46).f) v46 (v3 - (1 : Int))))), (10, .ref false 2 r2.length), (11, .int .i64 v11), (12, .int .i64 v12), (13, .int .i64 v13), (44, .lst true w.l.length (encL e25 w.l)), (45, .int .i64 ((w.l.length : Nat) : Int)), (46, .int .i64 v46), (116, .bool (decide (((lat w.l v13).f = v11) ∧ ((plusM (v12 + ((lat w.l v13).m)) (vat (lat (tableM w.l ((lat w.l v46).f) v46 (v3 - (1 : Int))) ((v3 - ((r2.length : Nat) : Int)) - (1 : Int))) ((lat w.l v13).t).toNat)) < (0 : Int)))))], [.box 65 [.int .i64 w.n, .lst true w.l.length (encL e25 w.l)], .dead, .row 3 1 (encL eInt r2), .box 25 [.int .i64 ((lat w.l v13).f), .int .i64 ((lat w.l v13).t), .int .i64 ((lat w.l v13).m), .int .i64 ((lat w.l v13).a)]], false⟩ [0, 1, 2, 3, 4, 5, 6, 7, 8, 9, 10, 11, 12, 13, 14, 15, 16, 17, 18, 19, 20, 21, 22] (by decide +kernel) rfl ?_ ?_
                · refine cL rfl (o_fa tt25 rfl tt3 rfl ?_)
                  refine cL rfl (o_ldS (v := .int _ _) tt3 rfl rfl ⟨_, rfl⟩ ?_)
                  refine cL rfl (o_move (v := .int _ _) rfl ?_)
                  refine cL rfl (o_eqI rfl rfl rfl ?_)
                  refine cL rfl (o_move (v := .bool _) rfl ?_)
                  by_cases c1 : (lat w.l v13).f = v11
                  · have sd := sd.1 c1
                    refine cLg rfl rfl (decide_eq_true c1) ?_
                    refine cL rfl (o_move (v := .int _ _) rfl ?_)
                    refine cLg rfl rfl (decide_eq_true c1) ?_
                    refine cL rfl (o_fa tt25 rfl tt3 rfl ?_)
                    refine cLg rfl rfl (decide_eq_true c1) ?_
                    refine cL rfl (o_ldS (v := .int _ _) tt3 rfl rfl ⟨_, rfl⟩ ?_)
                    refine cLg rfl rfl (decide_eq_true c1) ?_
                    obtain ⟨s5635, sd⟩ := sd
                    refine cL rfl (o_add rfl rfl s5635 ?_)
                    refine cLg rfl rfl (decide_eq_true c1) ?_
                    refine cL rfl (o_move (v := .lst _ _ _) rfl ?_)
                    refine cLg rfl rfl (decide_eq_true c1) ?_
                    refine cL rfl (o_move (v := .int _ _) rfl ?_)
                    refine cLg rfl rfl (decide_eq_true c1) ?_
                    refine cL rfl (o_move (v := .ref _ _ _) rfl ?_)
                    refine cLg rfl rfl (decide_eq_true c1) ?_
                    refine cL rfl (o_len (v := .ref _ _ _) tt35 rfl rfl ?_)
                    refine cLg rfl rfl (decide_eq_true c1) ?_
                    obtain ⟨s5636, sd⟩ := sd
                    refine cL rfl (o_sub rfl rfl s5636 ?_)
                    refine cLg rfl rfl (decide_eq_true c1) ?_
                    obtain ⟨s5637, sd⟩ := sd
                    refine cL rfl (o_sub rfl rfl s5637 ?_)
                    refine cLg rfl rfl (decide_eq_true c1) ?_
                    refine cL rfl (o_fa tt25 rfl tt3 rfl ?_)
                    refine cLg rfl rfl (decide_eq_true c1) ?_
                    refine cL rfl (o_ldS (v := .int _ _) tt3 rfl rfl ⟨_, rfl⟩ ?_)
                    refine cLg rfl rfl (decide_eq_true c1) ?_
                    obtain ⟨s5638, sd⟩ := sd
                    refine cL rfl (o_iaL tt83 tt73 rfl rfl (encV24.wd true) rfl s5638 ?_)
                    intro rest5638
                    refine cLg rfl rfl (decide_eq_true c1) ?_
                    obtain ⟨s5639, sd⟩ := sd
                    refine cL rfl (o_iaPV tt73 tt3 rfl rfl s5639 ?_)
                    intro rest5639
                    refine cLg rfl rfl (decide_eq_true c1) ?_
                    refine cL rfl (o_ldS (v := .int _ _) tt3 rfl rfl ⟨_, rfl⟩ ?_)
                    refine cLg rfl rfl (decide_eq_true c1) ?_
                    obtain ⟨s5640, sd⟩ := sd
                    refine cL rfl (o_callP1 (k := 47) (fst := []) (caps := []) (ys := [.int _ _, .int _ _]) rfl rfl (spec_plus (v12 + ((lat w.l v13).m)) (vat (lat (tableM w.l ((lat w.l v46).f) v46 (v3 - (1 : Int))) ((v3 - ((r2.length : Nat) : Int)) - (1 : Int))) ((lat w.l v13).t).toNat) s5640) (Wks.cons (ag_int _ _ _ _) (Wks.cons (ag_int _ _ _ _) (Wks.refl _))) ?_)
                    refine cLg rfl rfl (decide_eq_true c1) ?_
                    refine cL rfl (o_lss rfl rfl ?_)
                    refine cL rfl (o_pickT (v := .bool _) rfl (decide_eq_true c1) rfl ?_)
                    refine eL ?_
                    exact le_mk ⟨rfl, rfl, rfl, rfl, rfl, rfl, rfl, rfl, rfl, rfl, rfl, (congrArg AV.bool (dAndT c1 (rfl))).symm, trivial⟩ rfl
                  · refine cLs rfl rfl rfl (decide_eq_false c1) ?_
                    refine cLs rfl rfl rfl (decide_eq_false c1) ?_
                    refine cLs rfl rfl rfl (decide_eq_false c1) ?_
                    refine cLs rfl rfl rfl (decide_eq_false c1) ?_
                    refine cLs rfl rfl rfl (decide_eq_false c1) ?_
                    refine cLs rfl rfl rfl (decide_eq_false c1) ?_
                    refine cLs rfl rfl rfl (decide_eq_false c1) ?_
                    refine cLs rfl rfl rfl (decide_eq_false c1) ?_
                    refine cLs rfl rfl rfl (decide_eq_false c1) ?_
                    refine cLs rfl rfl rfl (decide_eq_false c1) ?_
                    refine cLs rfl rfl rfl (decide_eq_false c1) ?_
                    refine cLs rfl rfl rfl (decide_eq_false c1) ?_
                    refine cLs rfl rfl rfl (decide_eq_false c1) ?_
                    refine cLs rfl rfl rfl (decide_eq_false c1) ?_
                    refine cLs rfl rfl rfl (decide_eq_false c1) ?_
                    refine cLs rfl rfl rfl (decide_eq_false c1) ?_
                    refine cLs rfl rfl rfl (decide_eq_false c1) ?_
                    refine cL rfl (o_pickF (v := .bool _) rfl (decide_eq_false c1) rfl ?_)
                    refine eL ?_
                    exact le_mk ⟨rfl, rfl, rfl, rfl, rfl, rfl, rfl, rfl, rfl, rfl, rfl, (congrArg AV.bool (dAndF c1)).symm, trivial⟩ rfl
                · refine W.cn rfl (fun hc => ?_) (fun hc => ?_)
                  · have hv := hv.1 hc
                    refine W.exit ?_
                    exact bl_miss rfl (th_exit (th_exit (bl_hit (th_nrm (⟨(), v13, hv, St.to_mk (φ := [some 0, none, some 2]) rfl (.inl rfl) ⟨Ren.ptr rfl, Ren.int _ _, Ren.int _ _, Ren.lst _ _ _, Ren.ref rfl (fun h => h), Ren.int _ _, Ren.int _ _, Ren.lst _ _ _, Ren.int _ _, Ren.int _ _, trivial⟩ ⟨.inr ⟨_, rfl, rfl, Rens.cons (Ren.int _ _) (Rens.cons (Ren.lst _ _ _) (Rens.nil))⟩, rfl, .inr ⟨_, rfl, rfl, rfl, rfl, Rens.enc encInt false r2⟩, trivial⟩⟩)))))
                  · have hv := hv.2 hc
                    refine W.skip ?_
                    refine bl_nrm (th_nrm ?_)
                    refine W.tr [(1, .ptr _ _), (3, .int _ _), (7, .int _ _), (9, .lst _ _ _), (10, .ref _ _ _), (11, .int _ _), (12, .int _ _), (13, .int _ _), (44, .lst _ _ _), (45, .int _ _), (46, .int _ _)] [.box _ [.int _ _, .lst _ _ _], .dead, .row _ _ _, .box _ [.int _ _, .int _ _, .int _ _, .int _ _]] ⟨rfl, rfl, rfl, rfl, rfl, rfl, rfl, rfl, rfl, rfl, rfl, trivial⟩ rfl ?_
                    refine W.rL1 ?_
                    refine cL rfl (o_move (v := .int _ _) rfl ?_)
                    obtain ⟨s5641, hv⟩ := hv
                    refine cL rfl (o_add rfl rfl s5641 ?_)
                    refine cL rfl (o_assign (v := .int _ _) rfl ?_)
                    refine eL ?_
                    exact th_nrm (⟨(), (v13 + (1 : Int)), hv, St.to_mk (φ := [some 0, none, some 2]) rfl (.inl rfl) ⟨Ren.ptr rfl, Ren.int _ _, Ren.int _ _, Ren.lst _ _ _, Ren.ref rfl (fun h => h), Ren.int _ _, Ren.int _ _, Ren.int _ _, Ren.lst _ _ _, Ren.int _ _, Ren.int _ _, trivial⟩ ⟨.inr ⟨_, rfl, rfl, Rens.cons (Ren.int _ _) (Rens.cons (Ren.lst _ _ _) (Rens.nil))⟩, rfl, .inr ⟨_, rfl, rfl, rfl, rfl, Rens.enc encInt false r2⟩, trivial⟩⟩)
              · have hv := hv.2 hc
                refine W.exit ?_
                exact th_exit (th_exit (bl_hit (th_nrm (⟨(), v13, hv, St.to_mk (φ := [some 0, none, some 2]) rfl (.inl rfl) ⟨Ren.ptr rfl, Ren.int _ _, Ren.int _ _, Ren.lst _ _ _, Ren.ref rfl (fun h => h), Ren.int _ _, Ren.int _ _, Ren.lst _ _ _, Ren.int _ _, Ren.int _ _, trivial⟩ ⟨.inr ⟨_, rfl, rfl, Rens.cons (Ren.int _ _) (Rens.cons (Ren.lst _ _ _) (Rens.nil))⟩, rfl, .inr ⟨_, rfl, rfl, rfl, rfl, Rens.enc encInt false r2⟩, trivial⟩⟩))))
          · have hv := hv.2 hc
            refine W.exit ?_
            refine th_exit (th_exit (bl_hit (th_nrm ?_)))
            refine W.tr [(10, .ref _ _ _)] [.box _ [.int _ _, .lst _ _ _], .dead, .row _ _ _] ⟨rfl, trivial⟩ rfl ?_
            refine W.rL ?_
            refine cL rfl (o_move (v := .ref _ _ _) rfl ?_)
            refine cL rfl (o_assign (v := .ref _ _ _) rfl ?_)
            refine eL ?_
            refine W.tr [(2, .ref _ _ _)] [.box _ [.int _ _, .lst _ _ _], .dead, .row _ _ _] ⟨rfl, trivial⟩ rfl ?_
            refine W.ret ?_
            refine bl_ret (th_ret (th_ret (bl_ret (th_ret (rt ?_)))))
            refine rt_t (v := .ref _ _ _) rfl ?_
            refine rt_n ?_
            exact ⟨_, rs_ref encInt 4 _ rfl rfl, r2, rfl, hv⟩
    · have hv := hv.2 hc
      refine W.exit ?_
      refine th_exit (th_exit (bl_hit (th_nrm ?_)))
      refine W.tr [] [.box _ [.int _ _, .lst _ _ _]] trivial rfl ?_
      refine W.rL ?_
      refine cL rfl (o_assign (v := .nilS) rfl ?_)
      refine eL ?_
      refine W.tr [(2, .nilS)] [.box _ [.int _ _, .lst _ _ _]] ⟨rfl, trivial⟩ rfl ?_
      refine W.ret ?_
      refine rt ?_
      refine rt_t (v := .nilS) rfl ?_
      refine rt_n ?_
      exact ⟨_, rs_nil _ _ _ _ rfl, [], rfl, hv⟩
theorem vcp_first (w : Wlk) (h0 : FirstOk w.n w.l) : vc_first w (fun q0 => q0 = (firstM w.n w.l)) := by
  unfold vc_first
  have hnb := hNB
  obtain ⟨n, l⟩ := w
  change validM n l = true at h0
  dsimp only
  obtain ⟨⟨hn1, hn2, hlen⟩, hp⟩ := validM_iff.mp h0
  have hl : ∀ c ∈ l, (0 ≤ c.f ∧ c.f < 24) ∧ (0 ≤ c.t ∧ c.t < 24) ∧ -1125899906842624 ≤ c.m ∧ c.m ≤ 1125899906842624 := fun c hc => by
    have := possM_iff.mp (hp c hc); omega
  have hbd : ∀ to above : Int, 0 ≤ to ∧ to < 24 → ∀ k e : Nat, k ≤ 25 → -28147497671065600 ≤ vat (tabD l to above k) e ∧ vat (tabD l to above k) e ≤ 1152921504606846976 := fun to above ht k e hk => by
    have := tabD_bd (l := l) (to := to) (above := above) (fun c hc => ⟨(hl c hc).1, (hl c hc).2.2.1⟩) ht k e
    omega
  refine ⟨by unfold inI; omega, fun z v => ∃ i : Nat, v = i ∧ i ≤ n.toNat ∧ z = (List.range i).foldl (sizeStep n l) (n + 1), fun _ v => n.toNat - v.toNat, ⟨0, rfl, by omega, rfl⟩, ?_⟩
  rintro z _ ⟨i, rfl, hi, hz⟩
  refine ⟨fun h1 => ⟨fun z' => z' = sizeStep n l z i, fun z' hz' => ⟨by unfold inI; omega, ⟨i + 1, by omega, by omega, ?_⟩, by dsimp only; omega⟩, ⟨by omega, hlen, hl, by omega, by omega⟩, fun z' r => ∃ k : Nat, r = k ∧ z' = z ∧ k ≤ n.toNat + 1 ∧ ∀ j, j < k → ¬ vat (tabD l i (-1) j) i < 0, fun _ r => n.toNat + 1 - r.toNat, ⟨0, rfl, rfl, by omega, by omega⟩, ?_⟩, fun h1 => ?_⟩
  · rw [hz', hz, List.range_succ, List.foldl_append]; rfl
  · rintro z' _ ⟨k, rfl, rfl, hk, hkn⟩
    rw [tableM_len]
    refine ⟨fun h2 => ?_, fun h2 => ?_⟩
    · rw [tableM_at ⟨by omega, by omega⟩]
      simp only [Int.toNat_natCast]
      refine ⟨by omega, by omega, by omega, fun h3 => ?_, fun h3 => ⟨by unfold inI; omega, ⟨k + 1, by omega, trivial, by omega, fun j hj => ?_⟩, by omega⟩⟩
      · have : sizeAt n l i = some k := find_drop_some (a := 0) ⟨by omega, by omega⟩ (decide_eq_true h3) (fun j _ hj h => hkn j hj (of_decide_eq_true h))
        unfold sizeStep; rw [this]
      · rcases Nat.lt_or_ge j k with h6 | h6
        · exact hkn j h6
        · have : j = k := by omega
          subst this; exact h3
    · have : sizeAt n l i = none := find_drop_none (a := 0) (fun j _ hj h => hkn j (by omega) (of_decide_eq_true h))
      unfold sizeStep; rw [this]
  have hi' : i = n.toNat := by omega
  have hzb := sizeM_bd (l := l) ⟨hn1, hn2⟩ i (by omega)
  rw [← hz] at hzb
  have hzs : z = sizeM n l := by rw [hz, hi', sizeM_eq]
  clear hz h1 hi hi'
  refine ⟨fun v => ∃ s : Nat, v = s ∧ s ≤ l.length ∧ ∀ j, j < s → firstAt l z j = none, fun v => l.length - v.toNat, ⟨0, rfl, by omega, by omega⟩, ?_⟩
  rintro _ ⟨s, rfl, hs, hsn⟩
  refine ⟨fun h2 => ?_, fun h2 => ?_⟩
  rotate_left
  · show [] = firstM n l
    unfold firstM
    rw [← hzs, findSome_range_none fun j hj => hsn j (by omega)]; rfl
  have hc := hl _ (lat_mem (xs := l) (i := s) ⟨by omega, by omega⟩)
  rw [lat_nat] at hc ⊢
  rw [tableM_at ⟨by omega, by omega⟩]
  have hd0 := fun k e => hbd (l.getD s default).f s hc.1 k e
  have hd1 := hd0 (z - 1).toNat (l.getD s default).t.toNat (by omega)
  refine ⟨firstAt l z s = none, fun hJ => ⟨by unfold inI; omega, ⟨s + 1, by omega, by omega, fun j hj => ?_⟩, by dsimp only; omega⟩, by omega, by unfold inI; omega, ⟨by omega, hlen, hl, hc.1, by omega⟩, by unfold inI; omega, by rw [tableM_len]; omega, by omega, fun _ _ => by unfold inI; omega, fun h3 => firstAt_none h3, fun h3 => ?_⟩
  · rcases Nat.lt_or_ge j s with h6 | h6
    · exact hsn j h6
    · have : j = s := by omega
      subst this; exact hJ
  have hfs := firstAt_some h3
  refine ⟨fun a t out => ∃ k : Nat, firstAt l z s = chainC l (tabD l (l.getD s default).f s) z s k out a t ∧ z ≤ k + out.length ∧ 1 ≤ out.length ∧ (out.length : Int) ≤ z ∧ -(out.length * 1125899906842624) ≤ t ∧ t ≤ out.length * 1125899906842624, fun _ _ out => z.toNat - out.length, ⟨z.toNat, hfs, by omega, by simp only [List.length_append, List.length_cons, List.length_nil]; omega, by simp only [List.length_append, List.length_cons, List.length_nil]; omega, by simp only [List.length_append, List.length_cons, List.length_nil]; omega, by simp only [List.length_append, List.length_cons, List.length_nil]; omega⟩, ?_⟩
  rintro a t out ⟨k, hk, hkz, ho1, hoz, ht1, ht2⟩
  refine ⟨fun h4 => ⟨by unfold inI; omega, fun v => (∃ i : Nat, v = i ∧ i < l.length ∧ nextC l (tabD l (l.getD s default).f s) z s out.length a t = some i) ∨ (v = l.length ∧ nextC l (tabD l (l.getD s default).f s) z s out.length a t = none), fun v hv => ⟨fun h5 => ?_, fun h5 => ?_⟩, fun v => ∃ i : Nat, v = i ∧ s + 1 ≤ i ∧ i ≤ l.length ∧ ∀ j, s + 1 ≤ j → j < i → ¬ ((l.getD j default).f = a ∧ plusM (t + (l.getD j default).m) (vat (tabD l (l.getD s default).f s (z - out.length - 1).toNat) (l.getD j default).t.toNat) < 0), fun v => l.length - v.toNat, ⟨s + 1, by omega, by omega, by omega, by omega⟩, ?_⟩, fun h4 => ?_⟩
  · obtain ⟨k, rfl⟩ : ∃ k', k = k' + 1 := ⟨k - 1, by omega⟩
    rcases hv with ⟨i, rfl, hi, hx⟩ | ⟨-, hx⟩
    · omega
    · rw [hk, chain_none h4 hx]
  · obtain ⟨k, rfl⟩ : ∃ k', k = k' + 1 := ⟨k - 1, by omega⟩
    rcases hv with ⟨i, rfl, hi, hx⟩ | ⟨hx, -⟩
    · have hci := hl _ (lat_mem (xs := l) (i := i) ⟨by omega, by omega⟩)
      rw [lat_nat] at hci ⊢
      refine ⟨by simp only [List.length_append, List.length_cons, List.length_nil]; omega, by omega, by omega, by unfold inI; omega, ⟨k, by rw [hk, chain_some h4 hx], by simp only [List.length_append, List.length_cons, List.length_nil]; omega, by simp only [List.length_append, List.length_cons, List.length_nil]; omega, by simp only [List.length_append, List.length_cons, List.length_nil]; omega, by simp only [List.length_append, List.length_cons, List.length_nil]; omega, by simp only [List.length_append, List.length_cons, List.length_nil]; omega⟩, by simp only [List.length_append, List.length_cons, List.length_nil]; omega⟩
    · exact (h5 hx).elim
  · rintro _ ⟨i, rfl, hi1, hi2, hin⟩
    refine ⟨fun h5 => ?_, fun h5 => .inr ⟨by omega, find_drop_none fun j hj1 hj2 h => hin j hj1 (by omega) (of_decide_eq_true h)⟩⟩
    have hci := hl _ (lat_mem (xs := l) (i := i) ⟨by omega, by omega⟩)
    rw [lat_nat] at hci ⊢
    rw [tableM_at ⟨by omega, by omega⟩]
    have hd2 := hd0 (z - out.length - 1).toNat (l.getD i default).t.toNat (by omega)
    refine ⟨by omega, ⟨fun h6 => ⟨by unfold inI; omega, by unfold inI; omega, by unfold inI; omega, by rw [tableM_len]; omega, by omega, fun _ _ => by unfold inI; omega, trivial⟩, fun _ => trivial⟩, fun h6 => .inl ⟨i, rfl, by omega, find_drop_some ⟨hi1, by omega⟩ (decide_eq_true h6) fun j hj1 hj2 h => hin j hj1 hj2 (of_decide_eq_true h)⟩, fun h6 => ⟨by unfold inI; omega, ⟨i + 1, by omega, by omega, by omega, fun j hj1 hj2 => ?_⟩, by dsimp only; omega⟩⟩
    rcases Nat.lt_or_ge j i with h7 | h7
    · exact hin j hj1 h7
    · have : j = i := by omega
      subst this; exact h6
  · show out = firstM n l
    unfold firstM
    rw [← hzs, findSome_range_some (i := s) (by omega) (by rw [hk, chain_done h4]) hsn]; rfl
theorem spec_first (w : Wlk) (h0 : FirstOk w.n w.l) : FnP Try.prog 38 [.agg ((e65 true) w)] (fun xR => xR = .lst false (firstM w.n w.l).length (encL eInt (firstM w.n w.l))) :=
  (walk_first (vcp_first w h0)).mono (by rintro _ ⟨_, rfl, rfl⟩; rfl)
end Go.Lat
namespace Go.Lat
open Go.RowKit Go.Proofs
attribute [local irreducible] closeM rangeM pointM addBM cycleM holdsM validBM sameM madeM pickM plusM validM possM firstM tableM longerM boundsM ofM addM freeM
/-- What the walk through slices.Clone[[]int,int] asks. -/
def vc_clone (s : (List Int)) (Post : (List Int) → Prop) : Prop :=
  ∃ J1 : Prop, (J1 → ((s).length ≤ 1073741824) ∧ Post s) ∧ ((0 < s.length → J1) ∧ (s.length = 0 → (Post []) ∧ (J1)))
set_option maxRecDepth 100000 in
set_option maxHeartbeats 4000000 in
theorem walk_clone {s : (List Int)} {Post : (List Int) → Prop} (hv : vc_clone s Post) : FnP Try.prog 46 [.lst true s.length (encL eInt s)] (fun x => ∃ q0, x = .lst false q0.length (encL eInt q0) ∧ Post q0) := by
  refine FnP.of_walk (T := tt) (nt := 8) ttOk ttMix ⟨⟨Try.f46, Try.func46, rfl, rfl, rfl, rfl⟩⟩ (by simp) ?_
  unfold vc_clone at hv
  change W _ _ _ ⟨8, look [(0, .lst true s.length (encL eInt s))], [], false⟩ _
  refine W.tr [(0, .lst _ _ _)] [] ⟨rfl, trivial⟩ rfl ?_
  refine W.rL ?_
  refine cL rfl (o_assign (v := .nilS) rfl ?_)
  refine eL ?_
  refine W.tr [(0, .lst _ _ _)] [] ⟨rfl, trivial⟩ rfl ?_
  obtain ⟨J1, hj, hv⟩ := hv
  refine W.mid0 (⟨8, look [(0, .lst true s.length (encL eInt s))], [], false⟩) J1 ?_ ?_
  · intro hv
    replace hv := hj hv
    refine W.rL ?_
    refine cL rfl (o_buildS (q := 0) (qs := []) (cs := []) tt35 tt3 rfl rfl rfl rfl ?_)
    refine cL rfl (o_move (v := .lst _ _ _) rfl ?_)
    obtain ⟨s1, hv⟩ := hv
    refine cL rfl (o_apR (p := 1) (q := (s).length) tt35 tt3 rfl rfl (src_lst (encInt.wd true) _ _ rfl) (encL_length (encInt.wd true) _) rfl rfl (by simpa using s1) rfl (Nat.zero_add _) (List.nil_append _) ?_)
    refine cL rfl (o_assign (v := .ref _ _ _) rfl ?_)
    refine eL ?_
    refine W.tr [(2, .ref _ _ _)] [.dead, .row _ _ _] ⟨rfl, trivial⟩ rfl ?_
    refine W.ret ?_
    refine rt ?_
    refine rt_t (v := .ref _ _ _) rfl ?_
    refine rt_n ?_
    exact ⟨_, rs_ref encInt 4 _ rfl rfl, s, rfl, hv⟩
  · clear hj
    refine W.rL ?_
    refine cL rfl (o_move (v := .lst _ _ _) rfl ?_)
    refine cL rfl (o_nilEL tt35 rfl ⟨fun hz => ?_, fun hz => ⟨?_, ?_⟩⟩)
    · have hv := hv.1 hz
      refine eL ?_
      refine W.tr [(0, .lst _ _ _), (4, .bool _)] [] ⟨rfl, rfl, trivial⟩ rfl ?_
      refine W.cF rfl ?_
      refine W.skip ?_
      exact th_nrm (⟨(), hv, St.to_mk (φ := []) rfl (.inl rfl) ⟨Ren.lst _ _ _, trivial⟩ trivial⟩)
    · have hv := (hv.2 hz).1
      refine eL ?_
      refine W.tr [(0, .lst _ _ _), (4, .bool _)] [] ⟨rfl, rfl, trivial⟩ rfl ?_
      refine W.cT rfl ?_
      refine W.rL ?_
      refine cL rfl (o_assign (v := .nilS) rfl ?_)
      refine eL ?_
      refine W.tr [(2, .nilS)] [] ⟨rfl, trivial⟩ rfl ?_
      refine W.ret ?_
      refine th_ret (rt ?_)
      refine rt_t (v := .nilS) rfl ?_
      refine rt_n ?_
      exact ⟨_, rs_nil _ _ _ _ rfl, [], rfl, hv⟩
    · have hv := (hv.2 hz).2
      refine eL ?_
      refine W.tr [(0, .lst _ _ _), (4, .bool _)] [] ⟨rfl, rfl, trivial⟩ rfl ?_
      refine W.cF rfl ?_
      refine W.skip ?_
      exact th_nrm (⟨(), hv, St.to_mk (φ := []) rfl (.inl rfl) ⟨Ren.lst _ _ _, trivial⟩ trivial⟩)
theorem vcp_clone (s : (List Int)) (h0 : s.length ≤ 1073741824) : vc_clone s (fun q0 => q0 = (s)) := by
  unfold vc_clone
  exact ⟨True, fun _ => ⟨h0, rfl⟩, fun _ => trivial, fun h => ⟨(List.eq_nil_of_length_eq_zero h).symm, trivial⟩⟩
theorem spec_clone (s : (List Int)) (h0 : s.length ≤ 1073741824) : FnP Try.prog 46 [.lst true s.length (encL eInt s)] (fun xR => xR = .lst false (s).length (encL eInt (s))) :=
  (walk_clone (vcp_clone s h0)).mono (by rintro _ ⟨_, rfl, rfl⟩; rfl)
end Go.Lat
namespace Go.Lat
open Go.RowKit Go.Proofs
attribute [local irreducible] closeM rangeM pointM addBM cycleM holdsM validBM sameM madeM pickM plusM validM possM firstM tableM longerM boundsM ofM addM freeM
/-- What the walk through bounds.matrix).bounds asks. -/
def vc_bounds (m : (Vector Int 576)) (n : Int) (Post : Bd → Prop) : Prop :=
  ∃ (I1 : Int → Int → List (List Int) → Prop) (μ1 : Int → Int → List (List Int) → Nat), I1 (0 : Int) n [] ∧ ∀ (v10 : Int) (b1n : Int) (r2 : List (List Int)), I1 v10 b1n r2 → ((v10 < n) → (0 ≤ v10 ∧ v10 < ((24 : Nat) : Int)) ∧ (0 ≤ ((0 : Nat) : Int) ∧ ((0 : Nat) : Int) ≤ n ∧ n ≤ ((24 : Nat) : Int)) ∧ (v10.toNat * 24 + 24 ≤ 576) ∧ (((m.toList.drop (v10.toNat * 24)).take n.toNat).length ≤ 1073741824) ∧ ((r2 ++ [((m.toList.drop (v10.toNat * 24)).take n.toNat)]).length ≤ 1073741824) ∧ (inI (v10 + (1 : Int))) ∧ (I1 (v10 + (1 : Int)) b1n (r2 ++ [((m.toList.drop (v10.toNat * 24)).take n.toNat)]) ∧ μ1 (v10 + (1 : Int)) b1n (r2 ++ [((m.toList.drop (v10.toNat * 24)).take n.toNat)]) < μ1 v10 b1n r2)) ∧ (¬ (v10 < n) → Post (Bd.mk b1n r2))
set_option maxRecDepth 100000 in
set_option maxHeartbeats 4000000 in
theorem walk_bounds {m : (Vector Int 576)} {n : Int} {Post : Bd → Prop} (hv : vc_bounds m n Post) : FnP Try.prog 39 [.ipt true (encL eInt m.toList), .int .i64 n] (fun x => ∃ q0, x = .agg ((e34 false) q0) ∧ Post q0) := by
  refine FnP.of_walk (T := tt) (nt := 27) ttOk ttMix ⟨⟨Try.f39, Try.func39, rfl, rfl, rfl, rfl⟩⟩ (by simp) ?_
  unfold vc_bounds at hv
  change W _ _ _ ⟨27, look [(0, .ipt true (encL eInt m.toList)), (1, .int .i64 n)], [], false⟩ _
  refine W.tr [(0, .ipt _ _), (1, .int _ _)] [] ⟨rfl, rfl, trivial⟩ rfl ?_
  refine W.rL ?_
  refine cL rfl (o_alloc (p := 0) tt34 rfl rfl ?_)
  refine eL ?_
  refine W.tr [(0, .ipt _ _), (1, .int _ _), (4, .ptr _ _)] [.box _ [.int _ _, .nilS]] ⟨rfl, rfl, rfl, trivial⟩ rfl ?_
  refine W.rL ?_
  refine cL rfl (o_move (v := .int _ _) rfl ?_)
  refine cL rfl (o_build (qs := [(0, .int _ _)]) (cs := [.int _ _, .nilS]) tt34 rfl rfl rfl ?_)
  refine cL rfl (o_alloc (p := 1) tt34 rfl rfl ?_)
  refine cLn (o_stB (v := .agg _) (vs := [.int _ _, .nilS]) (cs2 := [.int _ _, .nilS]) tt34 rfl rfl rfl rfl rfl (Nat.le_of_ble_eq_true rfl) rfl ?_)
  refine eL ?_
  refine W.tr [(0, .ipt _ _), (1, .int _ _), (4, .ptr _ _), (5, .ptr _ _)] [.box _ [.int _ _, .nilS], .box _ [.int _ _, .nilS]] ⟨rfl, rfl, rfl, rfl, trivial⟩ rfl ?_
  refine W.seq' ?_
  refine W.rL ?_
  refine cL rfl (o_move (v := .int _ _) rfl ?_)
  refine cL rfl (o_move (v := .int _ _) rfl ?_)
  refine eL ?_
  refine W.tr [(0, .ipt _ _), (1, .int _ _), (4, .ptr _ _), (5, .ptr _ _), (9, .int _ _), (10, .int _ _)] [.box _ [.int _ _, .nilS], .box _ [.int _ _, .nilS]] ⟨rfl, rfl, rfl, rfl, rfl, rfl, trivial⟩ rfl ?_
  refine W.block ?_
  obtain ⟨I1, μ1, hp, hv⟩ := hv
  refine W.loop3 (fun v10 b1n r2 => ⟨27, look [(0, .ipt true (encL eInt m.toList)), (1, .int .i64 n), (4, .ptr 0 0), (5, .ptr 1 0), (9, .int .i64 n), (10, .int .i64 v10)], [.box 34 [.int .i64 (0 : Int), .nilS], .box 34 [.int .i64 b1n, .ref true 2 r2.length], .row 35 1 (encL (eSl eInt false) r2)], false⟩) I1 μ1 (0 : Int) n [] (St.to_mk (φ := [some 0, some 1, none]) rfl (.inl rfl) ⟨Ren.ipt _ _, Ren.int _ _, Ren.ptr rfl, Ren.ptr rfl, Ren.int _ _, Ren.int _ _, trivial⟩ ⟨.inr ⟨_, rfl, rfl, Rens.cons (Ren.int _ _) (Rens.cons (Ren.nilS) (Rens.nil))⟩, .inr ⟨_, rfl, rfl, Rens.cons (Ren.int _ _) (Rens.cons (Ren.nilR rfl rfl) (Rens.nil))⟩, rfl, trivial⟩) hp ?_
  clear hp
  intro v10 b1n r2 hI
  replace hv := hv v10 b1n r2 hI
  clear hI
  refine W.rL ?_
  refine cL rfl (o_lss rfl rfl ?_)
  refine eL ?_
  refine W.tr [(0, .ipt _ _), (1, .int _ _), (4, .ptr _ _), (5, .ptr _ _), (9, .int _ _), (10, .int _ _), (11, .bool _)] [.box _ [.int _ _, .nilS], .box _ [.int _ _, .ref _ _ _], .row _ _ _] ⟨rfl, rfl, rfl, rfl, rfl, rfl, rfl, trivial⟩ rfl ?_
  refine W.seq' ?_
  refine W.cn rfl (fun hc => ?_) (fun hc => ?_)
  · have hv := hv.1 hc
    refine W.skip ?_
    refine th_nrm ?_
    refine W.tr [(0, .ipt _ _), (1, .int _ _), (4, .ptr _ _), (5, .ptr _ _), (9, .int _ _), (10, .int _ _)] [.box _ [.int _ _, .nilS], .box _ [.int _ _, .ref _ _ _], .row _ _ _] ⟨rfl, rfl, rfl, rfl, rfl, rfl, trivial⟩ rfl ?_
    refine W.seq' ?_
    refine W.block ?_
    refine W.rL ?_
    refine cL rfl (o_move (v := .int _ _) rfl ?_)
    refine cL rfl (o_assign (v := .int _ _) rfl ?_)
    refine eL ?_
    refine W.tr [(0, .ipt _ _), (1, .int _ _), (4, .ptr _ _), (5, .ptr _ _), (6, .int _ _), (9, .int _ _), (10, .int _ _)] [.box _ [.int _ _, .nilS], .box _ [.int _ _, .ref _ _ _], .row _ _ _] ⟨rfl, rfl, rfl, rfl, rfl, rfl, rfl, trivial⟩ rfl ?_
    refine W.rD1 [0, 1, 2, 3, 4, 5, 6, 7, 8, 9, 10, 11, 12] (by decide +kernel) rfl ?_
    refine cL rfl (o_fa tt34 rfl tt32 rfl ?_)
    refine cL rfl (o_ldS (v := .ref _ _ _) tt32 rfl rfl ⟨_, rfl⟩ ?_)
    refine cL rfl (o_move (v := .ipt _ _) rfl ?_)
    refine cL rfl (o_move (v := .int _ _) rfl ?_)
    refine cL rfl (o_nilP (fl := true) rfl ?_)
    obtain ⟨s57, hv⟩ := hv
    refine cL rfl (o_iaP tt82 tt73 rfl rfl s57 ?_)
    refine cL rfl (o_move (v := .int _ _) rfl ?_)
    obtain ⟨s58, hv⟩ := hv
    obtain ⟨s59, hv⟩ := hv
    refine cL rfl (o_slW (ys := (m.toList.drop (v10.toNat * 24)).take n.toNat) tt73 tt3 rfl rfl s58 s59 rfl ?_)
    obtain ⟨s60, hv⟩ := hv
    refine cL rfl (o_callP1 (k := 46) (fst := []) (caps := []) (ys := [.lst _ _ _]) rfl rfl (spec_clone ((m.toList.drop (v10.toNat * 24)).take n.toNat) s60) (Wks.cons (ag_lst _ _ _ _ _) (Wks.refl _)) ?_)
    refine cL rfl (o_bs1 (v := .lst _ _ _) (q := 3) tt32 tt35 rfl rfl rfl rfl rfl rfl rfl rfl ?_)
    obtain ⟨s61, hv⟩ := hv
    refine cL rfl (o_apR (p := 4) (q := (r2 ++ [((m.toList.drop (v10.toNat * 24)).take n.toNat)]).length) tt32 tt35 rfl rfl (src_ref rfl rfl) rfl rfl (encL_length ((encSl eInt).wd false) _) (Nat.le_trans (Nat.le_of_eq (@List.length_append _ (r2) ([((m.toList.drop (v10.toNat * 24)).take n.toNat)])).symm) s61) rfl (@List.length_append _ (r2) ([((m.toList.drop (v10.toNat * 24)).take n.toNat)])).symm (encL_app (eSl eInt false) r2 [((m.toList.drop (v10.toNat * 24)).take n.toNat)]) ?_)
    refine cL rfl (o_fa tt34 rfl tt32 rfl ?_)
    refine cLn (o_stB (v := .ref _ _ _) (vs := [.ref _ _ _]) (cs2 := [.int _ _, .ref _ _ _]) tt32 rfl rfl rfl rfl rfl (Nat.le_of_ble_eq_true rfl) rfl ?_)
    refine eL ?_
    refine bl_nrm (th_nrm ?_)
    refine W.tr [(0, .ipt _ _), (1, .int _ _), (4, .ptr _ _), (5, .ptr _ _), (9, .int _ _), (10, .int _ _)] [.box _ [.int _ _, .nilS], .box _ [.int _ _, .ref _ _ _], .dead, .row _ _ _, .row _ _ _] ⟨rfl, rfl, rfl, rfl, rfl, rfl, trivial⟩ rfl ?_
    refine W.rL1 ?_
    obtain ⟨s62, hv⟩ := hv
    refine cL rfl (o_add rfl rfl s62 ?_)
    refine cL rfl (o_move (v := .int _ _) rfl ?_)
    refine eL ?_
    exact th_nrm (⟨(), (v10 + (1 : Int)), b1n, (r2 ++ [((m.toList.drop (v10.toNat * 24)).take n.toNat)]), hv, St.to_mk (φ := [some 0, some 1, some 4]) rfl (.inl rfl) ⟨Ren.ipt _ _, Ren.int _ _, Ren.ptr rfl, Ren.ptr rfl, Ren.int _ _, Ren.int _ _, trivial⟩ ⟨.inr ⟨_, rfl, rfl, Rens.cons (Ren.int _ _) (Rens.cons (Ren.nilS) (Rens.nil))⟩, .inr ⟨_, rfl, rfl, Rens.cons (Ren.int _ _) (Rens.cons (Ren.ref rfl (fun h => rfl)) (Rens.nil))⟩, .inr ⟨_, rfl, rfl, rfl, rfl, Rens.enc (encSl eInt) false (r2 ++ [((m.toList.drop (v10.toNat * 24)).take n.toNat)])⟩, trivial⟩⟩)
  · have hv := hv.2 hc
    refine W.exit ?_
    refine th_exit (th_exit (bl_hit (th_nrm ?_)))
    refine W.tr [(4, .ptr _ _), (5, .ptr _ _)] [.box _ [.int _ _, .nilS], .box _ [.int _ _, .ref _ _ _], .row _ _ _] ⟨rfl, rfl, trivial⟩ rfl ?_
    refine W.rL ?_
    refine cL rfl (o_ldA (cs := [.int _ _, .ref _ _ _]) tt34 rfl rfl ⟨_, rfl⟩ rfl ?_)
    refine cLn (o_stB (v := .agg _) (vs := [.int _ _, .ref _ _ _]) (cs2 := [.int _ _, .ref _ _ _]) tt34 rfl rfl rfl rfl rfl (Nat.le_of_ble_eq_true rfl) rfl ?_)
    refine eL ?_
    refine W.tr [(4, .ptr _ _)] [.box _ [.int _ _, .ref _ _ _], .box _ [.int _ _, .ref _ _ _], .row _ _ _] ⟨rfl, trivial⟩ rfl ?_
    refine W.ret ?_
    refine rt ?_
    refine rt_c (x := .ptr _ _) rfl (ldA (cs := [.int _ _, .ref _ _ _]) tt34 rfl ⟨_, rfl⟩ rfl ?_)
    refine rt_n ?_
    exact ⟨_, rs_agg 5 _ (Wks.cons (rs_int _ _ _ _) (Wks.cons (rs_ref (encSl eInt) 3 _ rfl rfl) (Wks.refl _))), (Bd.mk b1n r2), rfl, hv⟩
theorem vcp_bounds (m : (Vector Int 576)) (n : Int) (h0 : 1 ≤ n ∧ n ≤ 24) : vc_bounds m n (fun q0 => q0 = (boundsM m n)) := by
  unfold vc_bounds
  refine ⟨fun v b l => ∃ i : Nat, v = i ∧ i ≤ n.toNat ∧ b = n ∧ l = (List.range i).map fun i => (m.toList.drop (i * 24)).take n.toNat, fun v _ _ => n.toNat - v.toNat, ⟨0, rfl, by omega, rfl, rfl⟩, ?_⟩
  rintro _ _ _ ⟨i, rfl, hi, hb, rfl⟩
  refine ⟨fun h1 => ⟨by omega, by omega, by omega, by simp; omega, by simp; omega, by unfold inI; omega, ⟨i + 1, by omega, by omega, hb, ?_⟩, by dsimp only; omega⟩, fun h1 => ?_⟩
  · rw [List.range_succ, List.map_append]; simp
  · have : i = n.toNat := by omega
    subst this; subst hb; unfold boundsM; rfl
theorem spec_bounds (m : (Vector Int 576)) (n : Int) (h0 : 1 ≤ n ∧ n ≤ 24) : FnP Try.prog 39 [.ipt true (encL eInt m.toList), .int .i64 n] (fun xR => xR = .agg ((e34 false) (boundsM m n))) :=
  (walk_bounds (vcp_bounds m n h0)).mono (by rintro _ ⟨_, rfl, rfl⟩; rfl)
end Go.Lat
namespace Go.Lat
open Go.RowKit Go.Proofs
attribute [local irreducible] closeM rangeM pointM addBM cycleM holdsM validBM sameM madeM pickM plusM validM possM firstM tableM longerM boundsM ofM addM freeM
/-- What the walk through bounds.Close asks. -/
def vc_close (n : Int) (l : (List Con)) (Post : Bd → (List Int) → Int → Prop) : Prop :=
  (l.length ≤ 1073741824) ∧ ((¬ ((validM n l) = true)) → Post (Bd.mk (0 : Int) []) [] (2 : Int)) ∧ (¬ (¬ ((validM n l) = true)) → ∃ (I1 : Int → (Vector Int 576) → Prop) (μ1 : Int → (Vector Int 576) → Nat), I1 (0 : Int) freeM ∧ ∀ (v18 : Int) (m1 : (Vector Int 576)), I1 v18 m1 → ((v18 < ((l.length : Nat) : Int)) → (0 ≤ v18 ∧ v18 < (l.length : Int)) ∧ (AddOk m1 ((lat l v18).f) ((lat l v18).t) ((lat l v18).m)) ∧ ((¬ (((addM m1 ((lat l v18).f) ((lat l v18).t) ((lat l v18).m)).1) = true)) → (FirstOk (Wlk.mk n l).n (Wlk.mk n l).l) ∧ Post (Bd.mk (0 : Int) []) (firstM (Wlk.mk n l).n (Wlk.mk n l).l) (70 : Int)) ∧ (¬ (¬ (((addM m1 ((lat l v18).f) ((lat l v18).t) ((lat l v18).m)).1) = true)) → (inI (v18 + (1 : Int))) ∧ (I1 (v18 + (1 : Int)) ((addM m1 ((lat l v18).f) ((lat l v18).t) ((lat l v18).m)).2) ∧ μ1 (v18 + (1 : Int)) ((addM m1 ((lat l v18).f) ((lat l v18).t) ((lat l v18).m)).2) < μ1 v18 m1))) ∧ (¬ (v18 < ((l.length : Nat) : Int)) → (1 ≤ n ∧ n ≤ 24) ∧ Post (boundsM m1 n) [] (0 : Int)))
set_option maxRecDepth 100000 in
set_option maxHeartbeats 4000000 in
theorem walk_close {n : Int} {l : (List Con)} {Post : Bd → (List Int) → Int → Prop} (hv : vc_close n l Post) : FnP Try.prog 15 [.int .i64 n, .lst true l.length (encL e25 l)] (fun x => ∃ q0 q1 q2, x = .tup [.agg ((e34 false) q0), .lst false q1.length (encL eInt q1), .int .i64 q2] ∧ Post q0 q1 q2) := by
  refine FnP.of_walk (T := tt) (nt := 40) ttOk ttMix ⟨⟨Try.f15, Try.func15, rfl, rfl, rfl, rfl⟩⟩ (by simp) ?_
  unfold vc_close at hv
  change W _ _ _ ⟨40, look [(0, .int .i64 n), (1, .lst true l.length (encL e25 l))], [], false⟩ _
  refine W.tr [(0, .int _ _), (1, .lst _ _ _)] [] ⟨rfl, rfl, trivial⟩ rfl ?_
  refine W.rL ?_
  refine cL rfl (o_alloc (p := 0) tt34 rfl rfl ?_)
  refine cL rfl (o_assign (v := .nilS) rfl ?_)
  refine cL rfl (o_assign (v := .int _ _) rfl ?_)
  refine eL ?_
  refine W.tr [(0, .int _ _), (1, .lst _ _ _), (4, .ptr _ _)] [.box _ [.int _ _, .nilS]] ⟨rfl, rfl, rfl, trivial⟩ rfl ?_
  refine W.seq' ?_
  refine W.rL ?_
  refine cL rfl (o_move (v := .int _ _) rfl ?_)
  refine cL rfl (o_move (v := .lst _ _ _) rfl ?_)
  obtain ⟨s2, hv⟩ := hv
  refine cL rfl (o_callP1 (k := 35) (fst := []) (caps := []) (ys := [.int _ _, .lst _ _ _]) rfl rfl (spec_valid n l s2) (Wks.cons (ag_int _ _ _ _) (Wks.cons (ag_lst _ _ _ _ _) (Wks.refl _))) ?_)
  refine cL rfl (o_notB rfl ?_)
  refine eL ?_
  refine W.tr [(0, .int _ _), (1, .lst _ _ _), (4, .ptr _ _), (13, .bool _)] [.box _ [.int _ _, .nilS]] ⟨rfl, rfl, rfl, rfl, trivial⟩ rfl ?_
  refine W.cn rfl (fun hc => ?_) (fun hc => ?_)
  · have hv := hv.1 hc
    refine W.rL ?_
    refine cL rfl (o_build (qs := []) (cs := [.int _ _, .nilS]) tt34 rfl rfl rfl ?_)
    refine cLn (o_stB (v := .agg _) (vs := [.int _ _, .nilS]) (cs2 := [.int _ _, .nilS]) tt34 rfl rfl rfl rfl rfl (Nat.le_of_ble_eq_true rfl) rfl ?_)
    refine cL rfl (o_assign (v := .nilS) rfl ?_)
    refine cL rfl (o_assign (v := .int _ _) rfl ?_)
    refine eL ?_
    refine W.tr [(4, .ptr _ _), (5, .nilS), (6, .int _ _)] [.box _ [.int _ _, .nilS]] ⟨rfl, rfl, rfl, trivial⟩ rfl ?_
    refine W.ret ?_
    refine th_ret (rt ?_)
    refine rt_c (x := .ptr _ _) rfl (ldA (cs := [.int _ _, .nilS]) tt34 rfl ⟨_, rfl⟩ rfl ?_)
    refine rt_t (v := .nilS) rfl ?_
    refine rt_t (v := .int _ _) rfl ?_
    refine rt_n ?_
    exact ⟨_, rs_tup 5 _ (Wks.cons (rs_agg 4 _ (Wks.cons (rs_int _ _ _ _) (Wks.cons (rs_nil _ _ _ _ rfl) (Wks.refl _)))) (Wks.cons (rs_nil _ _ _ _ rfl) (Wks.cons (rs_int _ _ _ _) (Wks.refl _)))), (Bd.mk (0 : Int) []), [], (2 : Int), rfl, hv⟩
  · have hv := hv.2 hc
    refine W.skip ?_
    refine th_nrm ?_
    refine W.tr [(0, .int _ _), (1, .lst _ _ _), (4, .ptr _ _)] [.box _ [.int _ _, .nilS]] ⟨rfl, rfl, rfl, trivial⟩ rfl ?_
    refine W.rH ?_
    refine cHc rfl (callH_N1 (xs := _) (spec_free) (Wks.refl _) flatI rfl ?_)
    refine cH rfl (o_assign (v := .ptr _ _) rfl ?_)
    refine eH ?_
    refine W.tr [(0, .int _ _), (1, .lst _ _ _), (4, .ptr _ _), (7, .ptr _ _)] [.box _ [.int _ _, .nilS], .box _ _] ⟨rfl, rfl, rfl, rfl, trivial⟩ rfl ?_
    refine W.seq' ?_
    refine W.rL ?_
    refine cL rfl (o_move (v := .lst _ _ _) rfl ?_)
    refine cL rfl (o_len (v := .lst _ _ _) tt22 rfl rfl ?_)
    refine cL rfl (o_move (v := .int _ _) rfl ?_)
    refine eL ?_
    refine W.tr [(0, .int _ _), (1, .lst _ _ _), (4, .ptr _ _), (7, .ptr _ _), (16, .lst _ _ _), (17, .int _ _), (18, .int _ _)] [.box _ [.int _ _, .nilS], .box _ _] ⟨rfl, rfl, rfl, rfl, rfl, rfl, rfl, trivial⟩ rfl ?_
    refine W.block ?_
    obtain ⟨I1, μ1, hp, hv⟩ := hv
    refine W.loop2 (fun v18 m1 => ⟨40, look [(0, .int .i64 n), (1, .lst true l.length (encL e25 l)), (4, .ptr 0 0), (7, .ptr 1 0), (16, .lst true l.length (encL e25 l)), (17, .int .i64 ((l.length : Nat) : Int)), (18, .int .i64 v18)], [.box 34 [.int .i64 (0 : Int), .nilS], .box 82 (encL eInt m1.toList)], false⟩) I1 μ1 (0 : Int) freeM (St.to_mk (φ := [some 0, some 1]) rfl (.inl rfl) ⟨Ren.int _ _, Ren.lst _ _ _, Ren.ptr rfl, Ren.ptr rfl, Ren.lst _ _ _, Ren.int _ _, Ren.int _ _, trivial⟩ ⟨.inr ⟨_, rfl, rfl, Rens.cons (Ren.int _ _) (Rens.cons (Ren.nilS) (Rens.nil))⟩, .inr ⟨_, rfl, rfl, Rens.enc encInt true _⟩, trivial⟩) hp ?_
    clear hp
    intro v18 m1 hI
    replace hv := hv v18 m1 hI
    clear hI
    refine W.rL ?_
    refine cL rfl (o_lss rfl rfl ?_)
    refine eL ?_
    refine W.tr [(0, .int _ _), (1, .lst _ _ _), (4, .ptr _ _), (7, .ptr _ _), (16, .lst _ _ _), (17, .int _ _), (18, .int _ _), (19, .bool _)] [.box _ [.int _ _, .nilS], .box _ _] ⟨rfl, rfl, rfl, rfl, rfl, rfl, rfl, rfl, trivial⟩ rfl ?_
    refine W.seq' ?_
    refine W.cn rfl (fun hc => ?_) (fun hc => ?_)
    · have hv := hv.1 hc
      refine W.skip ?_
      refine th_nrm ?_
      refine W.tr [(0, .int _ _), (1, .lst _ _ _), (4, .ptr _ _), (7, .ptr _ _), (16, .lst _ _ _), (17, .int _ _), (18, .int _ _)] [.box _ [.int _ _, .nilS], .box _ _] ⟨rfl, rfl, rfl, rfl, rfl, rfl, rfl, trivial⟩ rfl ?_
      refine W.seq' ?_
      refine W.block ?_
      refine W.rL ?_
      obtain ⟨s41, hv⟩ := hv
      refine cL rfl (o_iaL tt22 tt25 rfl rfl (enc25.wd true) rfl s41 ?_)
      intro rest41
      refine cL rfl (o_ldA (cs := [.int _ _, .int _ _, .int _ _, .int _ _]) tt25 rfl rfl ⟨_, rfl⟩ rfl ?_)
      refine cL rfl (o_alloc (p := 2) tt25 rfl rfl ?_)
      refine cLn (o_stB (v := .agg _) (vs := [.int _ _, .int _ _, .int _ _, .int _ _]) (cs2 := [.int _ _, .int _ _, .int _ _, .int _ _]) tt25 rfl rfl rfl rfl rfl (Nat.le_of_ble_eq_true rfl) rfl ?_)
      refine eL ?_
      refine W.tr [(0, .int _ _), (1, .lst _ _ _), (4, .ptr _ _), (7, .ptr _ _), (9, .ptr _ _), (16, .lst _ _ _), (17, .int _ _), (18, .int _ _)] [.box _ [.int _ _, .nilS], .box _ _, .box _ [.int _ _, .int _ _, .int _ _, .int _ _]] ⟨rfl, rfl, rfl, rfl, rfl, rfl, rfl, rfl, trivial⟩ rfl ?_
      refine W.rH ?_
      refine cH rfl (o_move (v := .ptr _ _) rfl ?_)
      refine cH rfl (o_fa tt25 rfl tt3 rfl ?_)
      refine cH rfl (o_ldS (v := .int _ _) tt3 rfl rfl ⟨_, rfl⟩ ?_)
      refine cH rfl (o_fa tt25 rfl tt3 rfl ?_)
      refine cH rfl (o_ldS (v := .int _ _) tt3 rfl rfl ⟨_, rfl⟩ ?_)
      refine cH rfl (o_fa tt25 rfl tt3 rfl ?_)
      refine cH rfl (o_ldS (v := .int _ _) tt3 rfl rfl ⟨_, rfl⟩ ?_)
      obtain ⟨s42, hv⟩ := hv
      refine cHc rfl (callH_M1 (spec_add m1 ((lat l v18).f) ((lat l v18).t) ((lat l v18).m) s42) rfl flatI flatI rfl (.inl ⟨_, rfl, rfl⟩) (Wks.cons (ag_int _ _ _ _) (Wks.cons (ag_int _ _ _ _) (Wks.cons (ag_int _ _ _ _) (Wks.refl _)))) ?_)
      refine cH rfl (o_notB rfl ?_)
      refine eH ?_
      refine W.tr [(0, .int _ _), (1, .lst _ _ _), (4, .ptr _ _), (7, .ptr _ _), (16, .lst _ _ _), (17, .int _ _), (18, .int _ _), (30, .bool _)] [.box _ [.int _ _, .nilS], .box _ _, .box _ [.int _ _, .int _ _, .int _ _, .int _ _]] ⟨rfl, rfl, rfl, rfl, rfl, rfl, rfl, rfl, trivial⟩ rfl ?_
      refine W.cn rfl (fun hc => ?_) (fun hc => ?_)
      · have hv := hv.1 hc
        refine W.rL ?_
        refine cL rfl (o_build (qs := []) (cs := [.int _ _, .nilS]) tt34 rfl rfl rfl ?_)
        refine cL rfl (o_move (v := .int _ _) rfl ?_)
        refine cL rfl (o_move (v := .lst _ _ _) rfl ?_)
        refine cL rfl (o_build (qs := [(0, .int _ _), (1, .lst _ _ _)]) (cs := [.int _ _, .lst _ _ _]) tt65 rfl rfl rfl ?_)
        obtain ⟨s43, hv⟩ := hv
        refine cL rfl (o_callP1 (k := 38) (fst := []) (caps := []) (ys := [.agg _]) rfl rfl (spec_first (Wlk.mk n l) s43) (Wks.cons (ag_agg 5 _ (Wks.cons (ag_int _ _ _ _) (Wks.cons (ag_lst _ _ _ _ _) (Wks.refl _)))) (Wks.refl _)) ?_)
        refine cLn (o_stB (v := .agg _) (vs := [.int _ _, .nilS]) (cs2 := [.int _ _, .nilS]) tt34 rfl rfl rfl rfl rfl (Nat.le_of_ble_eq_true rfl) rfl ?_)
        refine cL rfl (o_assign (v := .lst _ _ _) rfl ?_)
        refine cL rfl (o_assign (v := .int _ _) rfl ?_)
        refine eL ?_
        refine W.tr [(4, .ptr _ _), (5, .lst _ _ _), (6, .int _ _)] [.box _ [.int _ _, .nilS], .box _ _, .box _ [.int _ _, .int _ _, .int _ _, .int _ _]] ⟨rfl, rfl, rfl, trivial⟩ rfl ?_
        refine W.ret ?_
        refine bl_ret (th_ret (th_ret (bl_ret (th_ret (rt ?_)))))
        refine rt_c (x := .ptr _ _) rfl (ldA (cs := [.int _ _, .nilS]) tt34 rfl ⟨_, rfl⟩ rfl ?_)
        refine rt_t (v := .lst _ _ _) rfl ?_
        refine rt_t (v := .int _ _) rfl ?_
        refine rt_n ?_
        exact ⟨_, rs_tup 5 _ (Wks.cons (rs_agg 4 _ (Wks.cons (rs_int _ _ _ _) (Wks.cons (rs_nil _ _ _ _ rfl) (Wks.refl _)))) (Wks.cons (rs_lst _ _ _ _) (Wks.cons (rs_int _ _ _ _) (Wks.refl _)))), (Bd.mk (0 : Int) []), (firstM (Wlk.mk n l).n (Wlk.mk n l).l), (70 : Int), rfl, hv⟩
      · have hv := hv.2 hc
        refine W.skip ?_
        refine bl_nrm (th_nrm ?_)
        refine W.tr [(0, .int _ _), (1, .lst _ _ _), (4, .ptr _ _), (7, .ptr _ _), (16, .lst _ _ _), (17, .int _ _), (18, .int _ _)] [.box _ [.int _ _, .nilS], .box _ _, .box _ [.int _ _, .int _ _, .int _ _, .int _ _]] ⟨rfl, rfl, rfl, rfl, rfl, rfl, rfl, trivial⟩ rfl ?_
        refine W.rL1 ?_
        obtain ⟨s44, hv⟩ := hv
        refine cL rfl (o_add rfl rfl s44 ?_)
        refine cL rfl (o_move (v := .int _ _) rfl ?_)
        refine eL ?_
        exact th_nrm (⟨(), (v18 + (1 : Int)), ((addM m1 ((lat l v18).f) ((lat l v18).t) ((lat l v18).m)).2), hv, St.to_mk (φ := [some 0, some 1]) rfl (.inl rfl) ⟨Ren.int _ _, Ren.lst _ _ _, Ren.ptr rfl, Ren.ptr rfl, Ren.lst _ _ _, Ren.int _ _, Ren.int _ _, trivial⟩ ⟨.inr ⟨_, rfl, rfl, Rens.cons (Ren.int _ _) (Rens.cons (Ren.nilS) (Rens.nil))⟩, .inr ⟨_, rfl, rfl, Rens.enc encInt true _⟩, trivial⟩⟩)
    · have hv := hv.2 hc
      refine W.exit ?_
      refine th_exit (th_exit (bl_hit (th_nrm ?_)))
      refine W.tr [(0, .int _ _), (4, .ptr _ _), (7, .ptr _ _)] [.box _ [.int _ _, .nilS], .box _ _] ⟨rfl, rfl, rfl, trivial⟩ rfl ?_
      refine W.rL ?_
      refine cL rfl (o_move (v := .ptr _ _) rfl ?_)
      refine cL rfl (o_move (v := .int _ _) rfl ?_)
      obtain ⟨s45, hv⟩ := hv
      refine cL rfl (o_callP1 (k := 39) (fst := []) (caps := []) (ys := [.ptr _ _, .int _ _]) rfl rfl (spec_bounds m1 n s45) (Wks.cons (ag_box 5 rfl (ag_vec 4 _ _)) (Wks.cons (ag_int _ _ _ _) (Wks.refl _))) ?_)
      refine cLn (o_stB (v := .agg _) (vs := [.int _ _, .lst _ _ _]) (cs2 := [.int _ _, .lst _ _ _]) tt34 rfl rfl rfl rfl rfl (Nat.le_of_ble_eq_true rfl) rfl ?_)
      refine cL rfl (o_assign (v := .nilS) rfl ?_)
      refine cL rfl (o_assign (v := .int _ _) rfl ?_)
      refine eL ?_
      refine W.tr [(4, .ptr _ _), (5, .nilS), (6, .int _ _)] [.box _ [.int _ _, .lst _ _ _], .box _ _] ⟨rfl, rfl, rfl, trivial⟩ rfl ?_
      refine W.ret ?_
      refine rt ?_
      refine rt_c (x := .ptr _ _) rfl (ldA (cs := [.int _ _, .lst _ _ _]) tt34 rfl ⟨_, rfl⟩ rfl ?_)
      refine rt_t (v := .nilS) rfl ?_
      refine rt_t (v := .int _ _) rfl ?_
      refine rt_n ?_
      exact ⟨_, rs_tup 5 _ (Wks.cons (rs_agg 4 _ (Wks.cons (rs_int _ _ _ _) (Wks.cons (rs_lst _ _ _ _) (Wks.refl _)))) (Wks.cons (rs_nil _ _ _ _ rfl) (Wks.cons (rs_int _ _ _ _) (Wks.refl _)))), (boundsM m1 n), [], (0 : Int), rfl, hv⟩
theorem vcp_close (n : Int) (l : (List Con)) (h0 : l.length ≤ 1073741824) : vc_close n l (fun q0 q1 q2 => q0 = (closeM n l).1 ∧ q1 = (closeM n l).2.1 ∧ q2 = (closeM n l).2.2) := by
  unfold vc_close
  refine ⟨h0, fun h => ?_, fun h => ⟨fun v m => ∃ i : Nat, v = i ∧ i ≤ l.length ∧ CM m (l.take i) ∧ addAll freeM l = addAll m (l.drop i), fun v _ => l.length - v.toNat, ⟨0, rfl, by omega, CM.free, rfl⟩, ?_⟩⟩
  · rw [close_inv h]; exact ⟨rfl, rfl, rfl⟩
  have hv : validM n l = true := Classical.not_not.mp h
  have hg := validM_good hv
  have hvv := (validM_iff.mp hv).1
  rintro _ m ⟨i, rfl, hi, hc, ha⟩
  refine ⟨fun h1 => ?_, fun h1 => ⟨by omega, ?_⟩⟩
  · have hlt : i < l.length := by omega
    have hci : Good 24 [lat l (i : Int)] := fun c hc => by
      rw [List.mem_singleton] at hc; subst hc; exact hg _ (lat_mem ⟨by omega, by omega⟩)
    have hd : l.drop i = lat l (i : Int) :: l.drop (i + 1) := by rw [lat_get hlt]; exact List.drop_eq_getElem_cons hlt
    have ht : l.take (i + 1) = l.take i ++ [lat l (i : Int)] := by rw [lat_get hlt, List.take_add_one, List.getElem?_eq_getElem hlt]; rfl
    rw [hd, addAll_cons] at ha
    refine ⟨by omega, hc.addOk hci, fun h2 => ⟨hv, ?_⟩, fun h2 => ⟨by unfold inI; omega, ⟨i + 1, by omega, by omega, ?_, ?_⟩, by dsimp only; omega⟩⟩
    · rw [if_neg h2] at ha
      rw [close_none hv ha]; exact ⟨rfl, rfl, rfl⟩
    · rw [ht]
      exact hc.step (fun c hc => hg c (List.mem_of_mem_take hc)) hci (Classical.not_not.mp h2)
    · rw [ha, if_pos (Classical.not_not.mp h2)]
  · rw [List.drop_of_length_le (by omega)] at ha
    rw [close_some hv ha]; exact ⟨rfl, rfl, rfl⟩
theorem spec_close (n : Int) (l : (List Con)) (h0 : l.length ≤ 1073741824) : FnP Try.prog 15 [.int .i64 n, .lst true l.length (encL e25 l)] (fun xR => xR = .tup [.agg ((e34 false) ((closeM n l).1)), .lst false ((closeM n l).2.1).length (encL eInt ((closeM n l).2.1)), .int .i64 ((closeM n l).2.2)]) :=
  (walk_close (vcp_close n l h0)).mono (by rintro _ ⟨_, _, _, rfl, rfl, rfl, rfl⟩; rfl)
end Go.Lat
namespace Go.Lat
open Go.RowKit Go.Proofs
attribute [local irreducible] closeM rangeM pointM addBM cycleM holdsM validBM sameM madeM pickM plusM validM possM firstM tableM longerM boundsM ofM addM freeM
/-- What the walk through bounds.Valid asks. -/
def vc_vald (b : Bd) (Post : Bool → Prop) : Prop :=
  (((b.n < (1 : Int)) ∨ (((24 : Int) < b.n) ∨ (¬ ((b.most.length : Nat) : Int) = b.n))) → Post false) ∧ (¬ ((b.n < (1 : Int)) ∨ (((24 : Int) < b.n) ∨ (¬ ((b.most.length : Nat) : Int) = b.n))) → ∃ (I1 : Int → Prop) (μ1 : Int → Nat), I1 (0 : Int) ∧ ∀ (v32 : Int), I1 v32 → ((v32 < ((b.most.length : Nat) : Int)) → (0 ≤ v32 ∧ v32 < (b.most.length : Int)) ∧ (((¬ (((lat b.most v32).length : Nat) : Int) = b.n) → True) ∧ (¬ (¬ (((lat b.most v32).length : Nat) : Int) = b.n) → (0 ≤ v32 ∧ v32 < ((lat b.most v32).length : Int)) ∧ True)) ∧ ((((¬ (((lat b.most v32).length : Nat) : Int) = b.n) ∨ (¬ lat (lat b.most v32) v32 = (0 : Int))) → Post false) ∧ (¬ ((¬ (((lat b.most v32).length : Nat) : Int) = b.n) ∨ (¬ lat (lat b.most v32) v32 = (0 : Int))) → ∃ (I2 : Int → Prop) (μ2 : Int → Nat), I2 (0 : Int) ∧ ∀ (v51 : Int), I2 v51 → ((v51 < (((lat b.most v32).length : Nat) : Int)) → (0 ≤ v51 ∧ v51 < ((lat b.most v32).length : Int)) ∧ (((¬ lat (lat b.most v32) v51 = (1152921504606846976 : Int)) ∧ (((lat (lat b.most v32) v51) < (-36028797018963968 : Int)) ∨ ((36028797018963968 : Int) < (lat (lat b.most v32) v51)))) → Post false) ∧ (¬ ((¬ lat (lat b.most v32) v51 = (1152921504606846976 : Int)) ∧ (((lat (lat b.most v32) v51) < (-36028797018963968 : Int)) ∨ ((36028797018963968 : Int) < (lat (lat b.most v32) v51)))) → (inI (v51 + (1 : Int))) ∧ (I2 (v51 + (1 : Int)) ∧ μ2 (v51 + (1 : Int)) < μ2 v51))) ∧ (¬ (v51 < (((lat b.most v32).length : Nat) : Int)) → (inI (v32 + (1 : Int))) ∧ (I1 (v32 + (1 : Int)) ∧ μ1 (v32 + (1 : Int)) < μ1 v32))))) ∧ (¬ (v32 < ((b.most.length : Nat) : Int)) → ∃ (I3 : Int → Prop) (μ3 : Int → Nat), I3 (0 : Int) ∧ ∀ (v70 : Int), I3 v70 → ((v70 < ((b.most.length : Nat) : Int)) → (0 ≤ v70 ∧ v70 < (b.most.length : Int)) ∧ ∃ (I4 : Int → Prop) (μ4 : Int → Nat), I4 (0 : Int) ∧ ∀ (v77 : Int), I4 v77 → ((v77 < (((lat b.most v70).length : Nat) : Int)) → ∃ J5 : Prop, (J5 → (inI (v77 + (1 : Int))) ∧ (I4 (v77 + (1 : Int)) ∧ μ4 (v77 + (1 : Int)) < μ4 v77)) ∧ ((0 ≤ v77 ∧ v77 < ((lat b.most v70).length : Int)) ∧ ((lat (lat b.most v70) v77 = (1152921504606846976 : Int)) → J5) ∧ (¬ (lat (lat b.most v70) v77 = (1152921504606846976 : Int)) → (0 ≤ v77 ∧ v77 < (b.most.length : Int)) ∧ ∃ (I6 : Int → Prop) (μ6 : Int → Nat), I6 (0 : Int) ∧ ∀ (v90 : Int), I6 v90 → ((v90 < (((lat b.most v77).length : Nat) : Int)) → (0 ≤ v90 ∧ v90 < ((lat b.most v77).length : Int)) ∧ (0 ≤ v70 ∧ v70 < (b.most.length : Int)) ∧ (0 ≤ v90 ∧ v90 < ((lat b.most v70).length : Int)) ∧ (¬ (lat (lat b.most v70) v77) = NB → ¬ (lat (lat b.most v77) v90) = NB → inI ((lat (lat b.most v70) v77) + (lat (lat b.most v77) v90))) ∧ (((plusM (lat (lat b.most v70) v77) (lat (lat b.most v77) v90)) < (lat (lat b.most v70) v90)) → Post false) ∧ (¬ ((plusM (lat (lat b.most v70) v77) (lat (lat b.most v77) v90)) < (lat (lat b.most v70) v90)) → (inI (v90 + (1 : Int))) ∧ (I6 (v90 + (1 : Int)) ∧ μ6 (v90 + (1 : Int)) < μ6 v90))) ∧ (¬ (v90 < (((lat b.most v77).length : Nat) : Int)) → J5)))) ∧ (¬ (v77 < (((lat b.most v70).length : Nat) : Int)) → (inI (v70 + (1 : Int))) ∧ (I3 (v70 + (1 : Int)) ∧ μ3 (v70 + (1 : Int)) < μ3 v70))) ∧ (¬ (v70 < ((b.most.length : Nat) : Int)) → Post true)))
set_option maxRecDepth 100000 in
set_option maxHeartbeats 4000000 in
theorem walk_vald {b : Bd} {Post : Bool → Prop} (hv : vc_vald b Post) : FnP Try.prog 25 [.agg ((e34 true) b)] (fun x => ∃ q0, x = .bool q0 ∧ Post q0) := by
  refine FnP.of_walk (T := tt) (nt := 110) ttOk ttMix ⟨⟨Try.f25, Try.func25, rfl, rfl, rfl, rfl⟩⟩ (by simp) ?_
  unfold vc_vald at hv
  change W _ _ _ ⟨110, look [(0, .agg [.int .i64 b.n, .lst true b.most.length (encL (eSl eInt true) b.most)])], [], false⟩ _
  refine W.tr [(0, .agg _)] [] ⟨rfl, trivial⟩ rfl ?_
  refine W.rL ?_
  refine cL rfl (o_box (v := .agg _) (p := 0) rfl rfl rfl ?_)
  refine cL rfl (o_assign (v := .bool _) rfl ?_)
  refine eL ?_
  refine W.tr [(1, .ptr _ _)] [.box _ [.int _ _, .lst _ _ _]] ⟨rfl, trivial⟩ rfl ?_
  refine W.seq' ?_
  refine W.rLm ⟨110, look [(1, .ptr 0 0), (28, .bool (decide ((b.n < (1 : Int)) ∨ (((24 : Int) < b.n) ∨ (¬ ((b.most.length : Nat) : Int) = b.n)))))], [.box 34 [.int .i64 b.n, .lst true b.most.length (encL (eSl eInt true) b.most)]], false⟩ ?_ ?_
  · refine cL rfl (o_fa tt34 rfl tt3 rfl ?_)
    refine cL rfl (o_ldS (v := .int _ _) tt3 rfl rfl ⟨_, rfl⟩ ?_)
    refine cL rfl (o_lss rfl rfl ?_)
    refine cL rfl (o_move (v := .bool _) rfl ?_)
    by_cases c1 : b.n < (1 : Int)
    · refine cLs rfl rfl rfl (decide_eq_true c1) ?_
      refine cLs rfl rfl rfl (decide_eq_true c1) ?_
      refine cLs rfl rfl rfl (decide_eq_true c1) ?_
      refine cL rfl (o_pickT (v := .bool _) rfl (decide_eq_true c1) rfl ?_)
      refine cL rfl (o_move (v := .bool _) rfl ?_)
      refine cLs rfl rfl rfl (rfl) ?_
      refine cLs rfl rfl rfl (rfl) ?_
      refine cLs rfl rfl rfl (rfl) ?_
      refine cLs rfl rfl rfl (rfl) ?_
      refine cLs rfl rfl rfl (rfl) ?_
      refine cLs rfl rfl rfl (rfl) ?_
      refine cL rfl (o_pickT (v := .bool _) rfl rfl rfl ?_)
      refine eL ?_
      exact le_mk ⟨rfl, (congrArg AV.bool (dOrT c1)).symm, trivial⟩ rfl
    · refine cLg rfl rfl (decide_eq_false c1) ?_
      refine cL rfl (o_fa tt34 rfl tt3 rfl ?_)
      refine cLg rfl rfl (decide_eq_false c1) ?_
      refine cL rfl (o_ldS (v := .int _ _) tt3 rfl rfl ⟨_, rfl⟩ ?_)
      refine cLg rfl rfl (decide_eq_false c1) ?_
      refine cL rfl (o_gtr rfl rfl ?_)
      refine cL rfl (o_pickF (v := .bool _) rfl (decide_eq_false c1) rfl ?_)
      refine cL rfl (o_move (v := .bool _) rfl ?_)
      by_cases c2 : (24 : Int) < b.n
      · refine cLs rfl rfl rfl (decide_eq_true c2) ?_
        refine cLs rfl rfl rfl (decide_eq_true c2) ?_
        refine cLs rfl rfl rfl (decide_eq_true c2) ?_
        refine cLs rfl rfl rfl (decide_eq_true c2) ?_
        refine cLs rfl rfl rfl (decide_eq_true c2) ?_
        refine cLs rfl rfl rfl (decide_eq_true c2) ?_
        refine cL rfl (o_pickT (v := .bool _) rfl (decide_eq_true c2) rfl ?_)
        refine eL ?_
        exact le_mk ⟨rfl, (congrArg AV.bool (dOrF c1 (dOrT c2))).symm, trivial⟩ rfl
      · refine cLg rfl rfl (decide_eq_false c2) ?_
        refine cL rfl (o_fa tt34 rfl tt32 rfl ?_)
        refine cLg rfl rfl (decide_eq_false c2) ?_
        refine cL rfl (o_ldS (v := .lst _ _ _) tt32 rfl rfl ⟨_, rfl⟩ ?_)
        refine cLg rfl rfl (decide_eq_false c2) ?_
        refine cL rfl (o_len (v := .lst _ _ _) tt32 rfl rfl ?_)
        refine cLg rfl rfl (decide_eq_false c2) ?_
        refine cL rfl (o_fa tt34 rfl tt3 rfl ?_)
        refine cLg rfl rfl (decide_eq_false c2) ?_
        refine cL rfl (o_ldS (v := .int _ _) tt3 rfl rfl ⟨_, rfl⟩ ?_)
        refine cLg rfl rfl (decide_eq_false c2) ?_
        refine cL rfl (o_neI rfl rfl rfl ?_)
        refine cL rfl (o_pickF (v := .bool _) rfl (decide_eq_false c2) rfl ?_)
        refine eL ?_
        exact le_mk ⟨rfl, (congrArg AV.bool (dOrF c1 (dOrF c2 (rfl)))).symm, trivial⟩ rfl
  · refine W.cn rfl (fun hc => ?_) (fun hc => ?_)
    · have hv := hv.1 hc
      refine W.rL ?_
      refine cL rfl (o_assign (v := .bool _) rfl ?_)
      refine eL ?_
      refine W.tr [(2, .bool _)] [.box _ [.int _ _, .lst _ _ _]] ⟨rfl, trivial⟩ rfl ?_
      refine W.ret ?_
      refine th_ret (rt ?_)
      refine rt_t (v := .bool _) rfl ?_
      refine rt_n ?_
      exact ⟨_, rs_bool _ _ _, false, rfl, hv⟩
    · have hv := hv.2 hc
      refine W.skip ?_
      refine th_nrm ?_
      refine W.tr [(1, .ptr _ _)] [.box _ [.int _ _, .lst _ _ _]] ⟨rfl, trivial⟩ rfl ?_
      refine W.seq' ?_
      refine W.rL ?_
      refine cL rfl (o_fa tt34 rfl tt32 rfl ?_)
      refine cL rfl (o_ldS (v := .lst _ _ _) tt32 rfl rfl ⟨_, rfl⟩ ?_)
      refine cL rfl (o_len (v := .lst _ _ _) tt32 rfl rfl ?_)
      refine cL rfl (o_move (v := .int _ _) rfl ?_)
      refine eL ?_
      refine W.tr [(1, .ptr _ _), (30, .lst _ _ _), (31, .int _ _), (32, .int _ _)] [.box _ [.int _ _, .lst _ _ _]] ⟨rfl, rfl, rfl, rfl, trivial⟩ rfl ?_
      refine W.block ?_
      obtain ⟨I1, μ1, hp, hv⟩ := hv
      refine W.loop1 (fun v32 => ⟨110, look [(1, .ptr 0 0), (30, .lst true b.most.length (encL (eSl eInt true) b.most)), (31, .int .i64 ((b.most.length : Nat) : Int)), (32, .int .i64 v32)], [.box 34 [.int .i64 b.n, .lst true b.most.length (encL (eSl eInt true) b.most)]], false⟩) I1 μ1 (0 : Int) (St.to_mk (φ := [some 0]) rfl (.inl rfl) ⟨Ren.ptr rfl, Ren.lst _ _ _, Ren.int _ _, Ren.int _ _, trivial⟩ ⟨.inr ⟨_, rfl, rfl, Rens.cons (Ren.int _ _) (Rens.cons (Ren.lst _ _ _) (Rens.nil))⟩, trivial⟩) hp ?_
      clear hp
      intro v32 hI
      replace hv := hv v32 hI
      clear hI
      refine W.rL ?_
      refine cL rfl (o_lss rfl rfl ?_)
      refine eL ?_
      refine W.tr [(1, .ptr _ _), (30, .lst _ _ _), (31, .int _ _), (32, .int _ _), (33, .bool _)] [.box _ [.int _ _, .lst _ _ _]] ⟨rfl, rfl, rfl, rfl, rfl, trivial⟩ rfl ?_
      refine W.seq' ?_
      refine W.cn rfl (fun hc => ?_) (fun hc => ?_)
      · have hv := hv.1 hc
        refine W.skip ?_
        refine th_nrm ?_
        refine W.tr [(1, .ptr _ _), (30, .lst _ _ _), (31, .int _ _), (32, .int _ _)] [.box _ [.int _ _, .lst _ _ _]] ⟨rfl, rfl, rfl, rfl, trivial⟩ rfl ?_
        refine W.seq' ?_
        refine W.block ?_
        refine W.rL ?_
        refine cL rfl (o_move (v := .int _ _) rfl ?_)
        obtain ⟨s81, hv⟩ := hv
        refine cL rfl (o_iaL tt32 tt35 rfl rfl ((encSl eInt).wd true) rfl s81 ?_)
        intro rest81
        refine cL rfl (o_ldS (v := .lst _ _ _) tt35 rfl rfl ⟨_, rfl⟩ ?_)
        refine cL rfl (o_assign (v := .int _ _) rfl ?_)
        refine cL rfl (o_assign (v := .lst _ _ _) rfl ?_)
        refine eL ?_
        refine W.tr [(1, .ptr _ _), (3, .int _ _), (4, .lst _ _ _), (30, .lst _ _ _), (31, .int _ _), (32, .int _ _)] [.box _ [.int _ _, .lst _ _ _]] ⟨rfl, rfl, rfl, rfl, rfl, rfl, trivial⟩ rfl ?_
        refine W.seq' ?_
        obtain ⟨sd, hv⟩ := hv
        refine W.rLm ⟨110, look [(1, .ptr 0 0), (4, .lst true (lat b.most v32).length (encL eInt (lat b.most v32))), (30, .lst true b.most.length (encL (eSl eInt true) b.most)), (31, .int .i64 ((b.most.length : Nat) : Int)), (32, .int .i64 v32), (48, .bool (decide ((¬ (((lat b.most v32).length : Nat) : Int) = b.n) ∨ (¬ lat (lat b.most v32) v32 = (0 : Int)))))], [.box 34 [.int .i64 b.n, .lst true b.most.length (encL (eSl eInt true) b.most)]], false⟩ ?_ ?_
        · refine cL rfl (o_move (v := .lst _ _ _) rfl ?_)
          refine cL rfl (o_len (v := .lst _ _ _) tt35 rfl rfl ?_)
          refine cL rfl (o_fa tt34 rfl tt3 rfl ?_)
          refine cL rfl (o_ldS (v := .int _ _) tt3 rfl rfl ⟨_, rfl⟩ ?_)
          refine cL rfl (o_neI rfl rfl rfl ?_)
          refine cL rfl (o_move (v := .bool _) rfl ?_)
          by_cases c1 : ¬ (((lat b.most v32).length : Nat) : Int) = b.n
          · refine cLs rfl rfl rfl (decide_eq_true c1) ?_
            refine cLs rfl rfl rfl (decide_eq_true c1) ?_
            refine cLs rfl rfl rfl (decide_eq_true c1) ?_
            refine cLs rfl rfl rfl (decide_eq_true c1) ?_
            refine cLs rfl rfl rfl (decide_eq_true c1) ?_
            refine cL rfl (o_pickT (v := .bool _) rfl (decide_eq_true c1) rfl ?_)
            refine eL ?_
            exact le_mk ⟨rfl, rfl, rfl, rfl, rfl, (congrArg AV.bool (dOrT c1)).symm, trivial⟩ rfl
          · have sd := sd.2 c1
            refine cLg rfl rfl (decide_eq_false c1) ?_
            refine cL rfl (o_move (v := .lst _ _ _) rfl ?_)
            refine cLg rfl rfl (decide_eq_false c1) ?_
            refine cL rfl (o_move (v := .int _ _) rfl ?_)
            refine cLg rfl rfl (decide_eq_false c1) ?_
            obtain ⟨s85, sd⟩ := sd
            refine cL rfl (o_iaL tt35 tt3 rfl rfl (encInt.wd true) rfl s85 ?_)
            intro rest85
            refine cLg rfl rfl (decide_eq_false c1) ?_
            refine cL rfl (o_ldS (v := .int _ _) tt3 rfl rfl ⟨_, rfl⟩ ?_)
            refine cLg rfl rfl (decide_eq_false c1) ?_
            refine cL rfl (o_neI rfl rfl rfl ?_)
            refine cL rfl (o_pickF (v := .bool _) rfl (decide_eq_false c1) rfl ?_)
            refine eL ?_
            exact le_mk ⟨rfl, rfl, rfl, rfl, rfl, (congrArg AV.bool (dOrF c1 (rfl))).symm, trivial⟩ rfl
        · refine W.cn rfl (fun hc => ?_) (fun hc => ?_)
          · have hv := hv.1 hc
            refine W.rL ?_
            refine cL rfl (o_assign (v := .bool _) rfl ?_)
            refine eL ?_
            refine W.tr [(2, .bool _)] [.box _ [.int _ _, .lst _ _ _]] ⟨rfl, trivial⟩ rfl ?_
            refine W.ret ?_
            refine th_ret (bl_ret (th_ret (th_ret (bl_ret (th_ret (rt ?_))))))
            refine rt_t (v := .bool _) rfl ?_
            refine rt_n ?_
            exact ⟨_, rs_bool _ _ _, false, rfl, hv⟩
          · have hv := hv.2 hc
            refine W.skip ?_
            refine th_nrm ?_
            refine W.tr [(1, .ptr _ _), (4, .lst _ _ _), (30, .lst _ _ _), (31, .int _ _), (32, .int _ _)] [.box _ [.int _ _, .lst _ _ _]] ⟨rfl, rfl, rfl, rfl, rfl, trivial⟩ rfl ?_
            refine W.rL ?_
            refine cL rfl (o_move (v := .lst _ _ _) rfl ?_)
            refine cL rfl (o_len (v := .lst _ _ _) tt35 rfl rfl ?_)
            refine cL rfl (o_move (v := .int _ _) rfl ?_)
            refine eL ?_
            refine W.tr [(1, .ptr _ _), (30, .lst _ _ _), (31, .int _ _), (32, .int _ _), (49, .lst _ _ _), (50, .int _ _), (51, .int _ _)] [.box _ [.int _ _, .lst _ _ _]] ⟨rfl, rfl, rfl, rfl, rfl, rfl, rfl, trivial⟩ rfl ?_
            refine W.block ?_
            obtain ⟨I2, μ2, hp, hv⟩ := hv
            refine W.loop1 (fun v51 => ⟨110, look [(1, .ptr 0 0), (30, .lst true b.most.length (encL (eSl eInt true) b.most)), (31, .int .i64 ((b.most.length : Nat) : Int)), (32, .int .i64 v32), (49, .lst true (lat b.most v32).length (encL eInt (lat b.most v32))), (50, .int .i64 (((lat b.most v32).length : Nat) : Int)), (51, .int .i64 v51)], [.box 34 [.int .i64 b.n, .lst true b.most.length (encL (eSl eInt true) b.most)]], false⟩) I2 μ2 (0 : Int) (St.to_mk (φ := [some 0]) rfl (.inl rfl) ⟨Ren.ptr rfl, Ren.lst _ _ _, Ren.int _ _, Ren.int _ _, Ren.lst _ _ _, Ren.int _ _, Ren.int _ _, trivial⟩ ⟨.inr ⟨_, rfl, rfl, Rens.cons (Ren.int _ _) (Rens.cons (Ren.lst _ _ _) (Rens.nil))⟩, trivial⟩) hp ?_
            clear hp
            intro v51 hI
            replace hv := hv v51 hI
            clear hI
            refine W.rL ?_
            refine cL rfl (o_lss rfl rfl ?_)
            refine eL ?_
            refine W.tr [(1, .ptr _ _), (30, .lst _ _ _), (31, .int _ _), (32, .int _ _), (49, .lst _ _ _), (50, .int _ _), (51, .int _ _), (52, .bool _)] [.box _ [.int _ _, .lst _ _ _]] ⟨rfl, rfl, rfl, rfl, rfl, rfl, rfl, rfl, trivial⟩ rfl ?_
            refine W.seq' ?_
            refine W.cn rfl (fun hc => ?_) (fun hc => ?_)
            · have hv := hv.1 hc
              refine W.skip ?_
              refine th_nrm ?_
              refine W.tr [(1, .ptr _ _), (30, .lst _ _ _), (31, .int _ _), (32, .int _ _), (49, .lst _ _ _), (50, .int _ _), (51, .int _ _)] [.box _ [.int _ _, .lst _ _ _]] ⟨rfl, rfl, rfl, rfl, rfl, rfl, rfl, trivial⟩ rfl ?_
              refine W.seq' ?_
              refine W.block ?_
              refine W.rL ?_
              obtain ⟨s90, hv⟩ := hv
              refine cL rfl (o_iaL tt35 tt3 rfl rfl (encInt.wd true) rfl s90 ?_)
              intro rest90
              refine cL rfl (o_ldS (v := .int _ _) tt3 rfl rfl ⟨_, rfl⟩ ?_)
              refine cL rfl (o_assign (v := .int _ _) rfl ?_)
              refine eL ?_
              refine W.tr [(1, .ptr _ _), (6, .int _ _), (30, .lst _ _ _), (31, .int _ _), (32, .int _ _), (49, .lst _ _ _), (50, .int _ _), (51, .int _ _)] [.box _ [.int _ _, .lst _ _ _]] ⟨rfl, rfl, rfl, rfl, rfl, rfl, rfl, rfl, trivial⟩ rfl ?_
              refine W.rLm ⟨110, look [(1, .ptr 0 0), (30, .lst true b.most.length (encL (eSl eInt true) b.most)), (31, .int .i64 ((b.most.length : Nat) : Int)), (32, .int .i64 v32), (49, .lst true (lat b.most v32).length (encL eInt (lat b.most v32))), (50, .int .i64 (((lat b.most v32).length : Nat) : Int)), (51, .int .i64 v51), (64, .bool (decide ((¬ lat (lat b.most v32) v51 = (1152921504606846976 : Int)) ∧ (((lat (lat b.most v32) v51) < (-36028797018963968 : Int)) ∨ ((36028797018963968 : Int) < (lat (lat b.most v32) v51))))))], [.box 34 [.int .i64 b.n, .lst true b.most.length (encL (eSl eInt true) b.most)]], false⟩ ?_ ?_
              · refine cL rfl (o_move (v := .int _ _) rfl ?_)
                refine cL rfl (o_neI rfl rfl rfl ?_)
                refine cL rfl (o_move (v := .bool _) rfl ?_)
                by_cases c1 : ¬ lat (lat b.most v32) v51 = (1152921504606846976 : Int)
                · refine cLg rfl rfl (decide_eq_true c1) ?_
                  refine cL rfl (o_move (v := .int _ _) rfl ?_)
                  refine cLg rfl rfl (decide_eq_true c1) ?_
                  refine cL rfl (o_lss rfl rfl ?_)
                  refine cLg rfl rfl (decide_eq_true c1) ?_
                  refine cL rfl (o_move (v := .bool _) rfl ?_)
                  by_cases c2 : (lat (lat b.most v32) v51) < (-36028797018963968 : Int)
                  · refine cLs rfl rfl rfl (decide_eq_true c2) ?_
                    refine cLs rfl rfl rfl (decide_eq_true c2) ?_
                    refine cLg rfl rfl (decide_eq_true c1) ?_
                    refine cL rfl (o_pickT (v := .bool _) rfl (decide_eq_true c2) rfl ?_)
                    refine cL rfl (o_pickT (v := .bool _) rfl (decide_eq_true c1) rfl ?_)
                    refine eL ?_
                    exact le_mk ⟨rfl, rfl, rfl, rfl, rfl, rfl, rfl, (congrArg AV.bool (dAndT c1 (dOrT c2))).symm, trivial⟩ rfl
                  · refine cLg rfl rfl (decide_eq_false c2) ?_
                    refine cL rfl (o_move (v := .int _ _) rfl ?_)
                    refine cLg rfl rfl (decide_eq_false c2) ?_
                    refine cL rfl (o_gtr rfl rfl ?_)
                    refine cLg rfl rfl (decide_eq_true c1) ?_
                    refine cL rfl (o_pickF (v := .bool _) rfl (decide_eq_false c2) rfl ?_)
                    refine cL rfl (o_pickT (v := .bool _) rfl (decide_eq_true c1) rfl ?_)
                    refine eL ?_
                    exact le_mk ⟨rfl, rfl, rfl, rfl, rfl, rfl, rfl, (congrArg AV.bool (dAndT c1 (dOrF c2 (rfl)))).symm, trivial⟩ rfl
                · refine cLs rfl rfl rfl (decide_eq_false c1) ?_
                  refine cLs rfl rfl rfl (decide_eq_false c1) ?_
                  refine cLs rfl rfl rfl (decide_eq_false c1) ?_
                  refine cLu rfl rfl rfl ?_
                  refine cLu rfl rfl rfl ?_
                  refine cLs rfl rfl rfl (decide_eq_false c1) ?_
                  refine cL rfl (o_pickF (v := .bool _) rfl (decide_eq_false c1) rfl ?_)
                  refine eL ?_
                  exact le_mk ⟨rfl, rfl, rfl, rfl, rfl, rfl, rfl, (congrArg AV.bool (dAndF c1)).symm, trivial⟩ rfl
              · refine W.cn rfl (fun hc => ?_) (fun hc => ?_)
                · have hv := hv.1 hc
                  refine W.rL ?_
                  refine cL rfl (o_assign (v := .bool _) rfl ?_)
                  refine eL ?_
                  refine W.tr [(2, .bool _)] [.box _ [.int _ _, .lst _ _ _]] ⟨rfl, trivial⟩ rfl ?_
                  refine W.ret ?_
                  refine bl_ret (th_ret (th_ret (bl_ret (bl_ret (th_ret (th_ret (bl_ret (th_ret (rt ?_)))))))))
                  refine rt_t (v := .bool _) rfl ?_
                  refine rt_n ?_
                  exact ⟨_, rs_bool _ _ _, false, rfl, hv⟩
                · have hv := hv.2 hc
                  refine W.skip ?_
                  refine bl_nrm (th_nrm ?_)
                  refine W.tr [(1, .ptr _ _), (30, .lst _ _ _), (31, .int _ _), (32, .int _ _), (49, .lst _ _ _), (50, .int _ _), (51, .int _ _)] [.box _ [.int _ _, .lst _ _ _]] ⟨rfl, rfl, rfl, rfl, rfl, rfl, rfl, trivial⟩ rfl ?_
                  refine W.rL1 ?_
                  obtain ⟨s91, hv⟩ := hv
                  refine cL rfl (o_add rfl rfl s91 ?_)
                  refine cL rfl (o_move (v := .int _ _) rfl ?_)
                  refine eL ?_
                  exact th_nrm (⟨(), (v51 + (1 : Int)), hv, St.to_mk (φ := [some 0]) rfl (.inl rfl) ⟨Ren.ptr rfl, Ren.lst _ _ _, Ren.int _ _, Ren.int _ _, Ren.lst _ _ _, Ren.int _ _, Ren.int _ _, trivial⟩ ⟨.inr ⟨_, rfl, rfl, Rens.cons (Ren.int _ _) (Rens.cons (Ren.lst _ _ _) (Rens.nil))⟩, trivial⟩⟩)
            · have hv := hv.2 hc
              refine W.exit ?_
              refine th_exit (th_exit (bl_hit (bl_nrm (th_nrm ?_))))
              refine W.tr [(1, .ptr _ _), (30, .lst _ _ _), (31, .int _ _), (32, .int _ _)] [.box _ [.int _ _, .lst _ _ _]] ⟨rfl, rfl, rfl, rfl, trivial⟩ rfl ?_
              refine W.rL1 ?_
              obtain ⟨s92, hv⟩ := hv
              refine cL rfl (o_add rfl rfl s92 ?_)
              refine cL rfl (o_move (v := .int _ _) rfl ?_)
              refine eL ?_
              exact th_nrm (⟨(), (v32 + (1 : Int)), hv, St.to_mk (φ := [some 0]) rfl (.inl rfl) ⟨Ren.ptr rfl, Ren.lst _ _ _, Ren.int _ _, Ren.int _ _, trivial⟩ ⟨.inr ⟨_, rfl, rfl, Rens.cons (Ren.int _ _) (Rens.cons (Ren.lst _ _ _) (Rens.nil))⟩, trivial⟩⟩)
      · have hv := hv.2 hc
        refine W.exit ?_
        refine th_exit (th_exit (bl_hit (th_nrm ?_)))
        refine W.tr [(1, .ptr _ _)] [.box _ [.int _ _, .lst _ _ _]] ⟨rfl, trivial⟩ rfl ?_
        refine W.seq' ?_
        refine W.rL ?_
        refine cL rfl (o_fa tt34 rfl tt32 rfl ?_)
        refine cL rfl (o_ldS (v := .lst _ _ _) tt32 rfl rfl ⟨_, rfl⟩ ?_)
        refine cL rfl (o_len (v := .lst _ _ _) tt32 rfl rfl ?_)
        refine cL rfl (o_move (v := .int _ _) rfl ?_)
        refine eL ?_
        refine W.tr [(1, .ptr _ _), (68, .lst _ _ _), (69, .int _ _), (70, .int _ _)] [.box _ [.int _ _, .lst _ _ _]] ⟨rfl, rfl, rfl, rfl, trivial⟩ rfl ?_
        refine W.block ?_
        obtain ⟨I3, μ3, hp, hv⟩ := hv
        refine W.loop1 (fun v70 => ⟨110, look [(1, .ptr 0 0), (68, .lst true b.most.length (encL (eSl eInt true) b.most)), (69, .int .i64 ((b.most.length : Nat) : Int)), (70, .int .i64 v70)], [.box 34 [.int .i64 b.n, .lst true b.most.length (encL (eSl eInt true) b.most)]], false⟩) I3 μ3 (0 : Int) (St.to_mk (φ := [some 0]) rfl (.inl rfl) ⟨Ren.ptr rfl, Ren.lst _ _ _, Ren.int _ _, Ren.int _ _, trivial⟩ ⟨.inr ⟨_, rfl, rfl, Rens.cons (Ren.int _ _) (Rens.cons (Ren.lst _ _ _) (Rens.nil))⟩, trivial⟩) hp ?_
        clear hp
        intro v70 hI
        replace hv := hv v70 hI
        clear hI
        refine W.rL ?_
        refine cL rfl (o_lss rfl rfl ?_)
        refine eL ?_
        refine W.tr [(1, .ptr _ _), (68, .lst _ _ _), (69, .int _ _), (70, .int _ _), (71, .bool _)] [.box _ [.int _ _, .lst _ _ _]] ⟨rfl, rfl, rfl, rfl, rfl, trivial⟩ rfl ?_
        refine W.seq' ?_
        refine W.cn rfl (fun hc => ?_) (fun hc => ?_)
        · have hv := hv.1 hc
          refine W.skip ?_
          refine th_nrm ?_
          refine W.tr [(1, .ptr _ _), (68, .lst _ _ _), (69, .int _ _), (70, .int _ _)] [.box _ [.int _ _, .lst _ _ _]] ⟨rfl, rfl, rfl, rfl, trivial⟩ rfl ?_
          refine W.seq' ?_
          refine W.block ?_
          refine W.rL ?_
          refine cL rfl (o_move (v := .int _ _) rfl ?_)
          obtain ⟨s677, hv⟩ := hv
          refine cL rfl (o_iaL tt32 tt35 rfl rfl ((encSl eInt).wd true) rfl s677 ?_)
          intro rest677
          refine cL rfl (o_ldS (v := .lst _ _ _) tt35 rfl rfl ⟨_, rfl⟩ ?_)
          refine cL rfl (o_assign (v := .int _ _) rfl ?_)
          refine cL rfl (o_assign (v := .lst _ _ _) rfl ?_)
          refine eL ?_
          refine W.tr [(1, .ptr _ _), (7, .int _ _), (8, .lst _ _ _), (68, .lst _ _ _), (69, .int _ _), (70, .int _ _)] [.box _ [.int _ _, .lst _ _ _]] ⟨rfl, rfl, rfl, rfl, rfl, rfl, trivial⟩ rfl ?_
          refine W.rL ?_
          refine cL rfl (o_move (v := .lst _ _ _) rfl ?_)
          refine cL rfl (o_len (v := .lst _ _ _) tt35 rfl rfl ?_)
          refine cL rfl (o_move (v := .int _ _) rfl ?_)
          refine eL ?_
          refine W.tr [(1, .ptr _ _), (7, .int _ _), (68, .lst _ _ _), (69, .int _ _), (70, .int _ _), (75, .lst _ _ _), (76, .int _ _), (77, .int _ _)] [.box _ [.int _ _, .lst _ _ _]] ⟨rfl, rfl, rfl, rfl, rfl, rfl, rfl, rfl, trivial⟩ rfl ?_
          refine W.block ?_
          obtain ⟨I4, μ4, hp, hv⟩ := hv
          refine W.loop1 (fun v77 => ⟨110, look [(1, .ptr 0 0), (7, .int .i64 v70), (68, .lst true b.most.length (encL (eSl eInt true) b.most)), (69, .int .i64 ((b.most.length : Nat) : Int)), (70, .int .i64 v70), (75, .lst true (lat b.most v70).length (encL eInt (lat b.most v70))), (76, .int .i64 (((lat b.most v70).length : Nat) : Int)), (77, .int .i64 v77)], [.box 34 [.int .i64 b.n, .lst true b.most.length (encL (eSl eInt true) b.most)]], false⟩) I4 μ4 (0 : Int) (St.to_mk (φ := [some 0]) rfl (.inl rfl) ⟨Ren.ptr rfl, Ren.int _ _, Ren.lst _ _ _, Ren.int _ _, Ren.int _ _, Ren.lst _ _ _, Ren.int _ _, Ren.int _ _, trivial⟩ ⟨.inr ⟨_, rfl, rfl, Rens.cons (Ren.int _ _) (Rens.cons (Ren.lst _ _ _) (Rens.nil))⟩, trivial⟩) hp ?_
          clear hp
          intro v77 hI
          replace hv := hv v77 hI
          clear hI
          refine W.rL ?_
          refine cL rfl (o_lss rfl rfl ?_)
          refine eL ?_
          refine W.tr [(1, .ptr _ _), (7, .int _ _), (68, .lst _ _ _), (69, .int _ _), (70, .int _ _), (75, .lst _ _ _), (76, .int _ _), (77, .int _ _), (78, .bool _)] [.box _ [.int _ _, .lst _ _ _]] ⟨rfl, rfl, rfl, rfl, rfl, rfl, rfl, rfl, rfl, trivial⟩ rfl ?_
          refine W.seq' ?_
          refine W.cn rfl (fun hc => ?_) (fun hc => ?_)
          · have hv := hv.1 hc
            refine W.skip ?_
            refine th_nrm ?_
            refine W.tr [(1, .ptr _ _), (7, .int _ _), (68, .lst _ _ _), (69, .int _ _), (70, .int _ _), (75, .lst _ _ _), (76, .int _ _), (77, .int _ _)] [.box _ [.int _ _, .lst _ _ _]] ⟨rfl, rfl, rfl, rfl, rfl, rfl, rfl, rfl, trivial⟩ rfl ?_
            obtain ⟨J5, hj, hv⟩ := hv
            refine W.mid0 (⟨110, look [(1, .ptr 0 0), (7, .int .i64 v70), (68, .lst true b.most.length (encL (eSl eInt true) b.most)), (69, .int .i64 ((b.most.length : Nat) : Int)), (70, .int .i64 v70), (75, .lst true (lat b.most v70).length (encL eInt (lat b.most v70))), (76, .int .i64 (((lat b.most v70).length : Nat) : Int)), (77, .int .i64 v77)], [.box 34 [.int .i64 b.n, .lst true b.most.length (encL (eSl eInt true) b.most)]], false⟩) J5 ?_ ?_
            · intro hv
              replace hv := hj hv
              refine W.rL1 ?_
              obtain ⟨s739, hv⟩ := hv
              refine cL rfl (o_add rfl rfl s739 ?_)
              refine cL rfl (o_move (v := .int _ _) rfl ?_)
              refine eL ?_
              exact th_nrm (⟨(), (v77 + (1 : Int)), hv, St.to_mk (φ := [some 0]) rfl (.inl rfl) ⟨Ren.ptr rfl, Ren.int _ _, Ren.lst _ _ _, Ren.int _ _, Ren.int _ _, Ren.lst _ _ _, Ren.int _ _, Ren.int _ _, trivial⟩ ⟨.inr ⟨_, rfl, rfl, Rens.cons (Ren.int _ _) (Rens.cons (Ren.lst _ _ _) (Rens.nil))⟩, trivial⟩⟩)
            · clear hj
              refine W.block ?_
              refine W.rL ?_
              refine cL rfl (o_move (v := .int _ _) rfl ?_)
              obtain ⟨s740, hv⟩ := hv
              refine cL rfl (o_iaL tt35 tt3 rfl rfl (encInt.wd true) rfl s740 ?_)
              intro rest740
              refine cL rfl (o_ldS (v := .int _ _) tt3 rfl rfl ⟨_, rfl⟩ ?_)
              refine cL rfl (o_assign (v := .int _ _) rfl ?_)
              refine cL rfl (o_assign (v := .int _ _) rfl ?_)
              refine eL ?_
              refine W.tr [(1, .ptr _ _), (7, .int _ _), (9, .int _ _), (10, .int _ _), (68, .lst _ _ _), (69, .int _ _), (70, .int _ _), (75, .lst _ _ _), (76, .int _ _), (77, .int _ _)] [.box _ [.int _ _, .lst _ _ _]] ⟨rfl, rfl, rfl, rfl, rfl, rfl, rfl, rfl, rfl, rfl, trivial⟩ rfl ?_
              refine W.seq' ?_
              refine W.rL ?_
              refine cL rfl (o_move (v := .int _ _) rfl ?_)
              refine cL rfl (o_eqI rfl rfl rfl ?_)
              refine eL ?_
              refine W.tr [(1, .ptr _ _), (7, .int _ _), (9, .int _ _), (10, .int _ _), (68, .lst _ _ _), (69, .int _ _), (70, .int _ _), (75, .lst _ _ _), (76, .int _ _), (77, .int _ _), (83, .bool _)] [.box _ [.int _ _, .lst _ _ _]] ⟨rfl, rfl, rfl, rfl, rfl, rfl, rfl, rfl, rfl, rfl, rfl, trivial⟩ rfl ?_
              refine W.cn rfl (fun hc => ?_) (fun hc => ?_)
              · have hv := hv.1 hc
                refine W.exit ?_
                exact th_exit (bl_hit (th_nrm (⟨(), hv, St.to_mk (φ := [some 0]) rfl (.inl rfl) ⟨Ren.ptr rfl, Ren.int _ _, Ren.lst _ _ _, Ren.int _ _, Ren.int _ _, Ren.lst _ _ _, Ren.int _ _, Ren.int _ _, trivial⟩ ⟨.inr ⟨_, rfl, rfl, Rens.cons (Ren.int _ _) (Rens.cons (Ren.lst _ _ _) (Rens.nil))⟩, trivial⟩⟩)))
              · have hv := hv.2 hc
                refine W.skip ?_
                refine th_nrm ?_
                refine W.tr [(1, .ptr _ _), (7, .int _ _), (9, .int _ _), (10, .int _ _), (68, .lst _ _ _), (69, .int _ _), (70, .int _ _), (75, .lst _ _ _), (76, .int _ _), (77, .int _ _)] [.box _ [.int _ _, .lst _ _ _]] ⟨rfl, rfl, rfl, rfl, rfl, rfl, rfl, rfl, rfl, rfl, trivial⟩ rfl ?_
                refine W.rL ?_
                refine cL rfl (o_fa tt34 rfl tt32 rfl ?_)
                refine cL rfl (o_ldS (v := .lst _ _ _) tt32 rfl rfl ⟨_, rfl⟩ ?_)
                refine cL rfl (o_move (v := .int _ _) rfl ?_)
                obtain ⟨s741, hv⟩ := hv
                refine cL rfl (o_iaL tt32 tt35 rfl rfl ((encSl eInt).wd true) rfl s741 ?_)
                intro rest741
                refine cL rfl (o_ldS (v := .lst _ _ _) tt35 rfl rfl ⟨_, rfl⟩ ?_)
                refine cL rfl (o_len (v := .lst _ _ _) tt35 rfl rfl ?_)
                refine cL rfl (o_move (v := .int _ _) rfl ?_)
                refine eL ?_
                refine W.tr [(1, .ptr _ _), (7, .int _ _), (10, .int _ _), (68, .lst _ _ _), (69, .int _ _), (70, .int _ _), (75, .lst _ _ _), (76, .int _ _), (77, .int _ _), (88, .lst _ _ _), (89, .int _ _), (90, .int _ _)] [.box _ [.int _ _, .lst _ _ _]] ⟨rfl, rfl, rfl, rfl, rfl, rfl, rfl, rfl, rfl, rfl, rfl, rfl, trivial⟩ rfl ?_
                refine W.block ?_
                obtain ⟨I6, μ6, hp, hv⟩ := hv
                refine W.loop1 (fun v90 => ⟨110, look [(1, .ptr 0 0), (7, .int .i64 v70), (10, .int .i64 (lat (lat b.most v70) v77)), (68, .lst true b.most.length (encL (eSl eInt true) b.most)), (69, .int .i64 ((b.most.length : Nat) : Int)), (70, .int .i64 v70), (75, .lst true (lat b.most v70).length (encL eInt (lat b.most v70))), (76, .int .i64 (((lat b.most v70).length : Nat) : Int)), (77, .int .i64 v77), (88, .lst true (lat b.most v77).length (encL eInt (lat b.most v77))), (89, .int .i64 (((lat b.most v77).length : Nat) : Int)), (90, .int .i64 v90)], [.box 34 [.int .i64 b.n, .lst true b.most.length (encL (eSl eInt true) b.most)]], false⟩) I6 μ6 (0 : Int) (St.to_mk (φ := [some 0]) rfl (.inl rfl) ⟨Ren.ptr rfl, Ren.int _ _, Ren.int _ _, Ren.lst _ _ _, Ren.int _ _, Ren.int _ _, Ren.lst _ _ _, Ren.int _ _, Ren.int _ _, Ren.lst _ _ _, Ren.int _ _, Ren.int _ _, trivial⟩ ⟨.inr ⟨_, rfl, rfl, Rens.cons (Ren.int _ _) (Rens.cons (Ren.lst _ _ _) (Rens.nil))⟩, trivial⟩) hp ?_
                clear hp
                intro v90 hI
                replace hv := hv v90 hI
                clear hI
                refine W.rL ?_
                refine cL rfl (o_lss rfl rfl ?_)
                refine eL ?_
                refine W.tr [(1, .ptr _ _), (7, .int _ _), (10, .int _ _), (68, .lst _ _ _), (69, .int _ _), (70, .int _ _), (75, .lst _ _ _), (76, .int _ _), (77, .int _ _), (88, .lst _ _ _), (89, .int _ _), (90, .int _ _), (91, .bool _)] [.box _ [.int _ _, .lst _ _ _]] ⟨rfl, rfl, rfl, rfl, rfl, rfl, rfl, rfl, rfl, rfl, rfl, rfl, rfl, trivial⟩ rfl ?_
                refine W.seq' ?_
                refine W.cn rfl (fun hc => ?_) (fun hc => ?_)
                · have hv := hv.1 hc
                  refine W.skip ?_
                  refine th_nrm ?_
                  refine W.tr [(1, .ptr _ _), (7, .int _ _), (10, .int _ _), (68, .lst _ _ _), (69, .int _ _), (70, .int _ _), (75, .lst _ _ _), (76, .int _ _), (77, .int _ _), (88, .lst _ _ _), (89, .int _ _), (90, .int _ _)] [.box _ [.int _ _, .lst _ _ _]] ⟨rfl, rfl, rfl, rfl, rfl, rfl, rfl, rfl, rfl, rfl, rfl, rfl, trivial⟩ rfl ?_
                  refine W.seq' ?_
                  refine W.block ?_
                  refine W.rL ?_
                  refine cL rfl (o_move (v := .int _ _) rfl ?_)
                  obtain ⟨s755, hv⟩ := hv
                  refine cL rfl (o_iaL tt35 tt3 rfl rfl (encInt.wd true) rfl s755 ?_)
                  intro rest755
                  refine cL rfl (o_ldS (v := .int _ _) tt3 rfl rfl ⟨_, rfl⟩ ?_)
                  refine cL rfl (o_assign (v := .int _ _) rfl ?_)
                  refine cL rfl (o_assign (v := .int _ _) rfl ?_)
                  refine eL ?_
                  refine W.tr [(1, .ptr _ _), (7, .int _ _), (10, .int _ _), (11, .int _ _), (12, .int _ _), (68, .lst _ _ _), (69, .int _ _), (70, .int _ _), (75, .lst _ _ _), (76, .int _ _), (77, .int _ _), (88, .lst _ _ _), (89, .int _ _), (90, .int _ _)] [.box _ [.int _ _, .lst _ _ _]] ⟨rfl, rfl, rfl, rfl, rfl, rfl, rfl, rfl, rfl, rfl, rfl, rfl, rfl, rfl, trivial⟩ rfl ?_
                  refine W.rD [0, 1, 2, 3, 4, 5, 6, 7, 8, 9, 10, 11] (by decide +kernel) rfl ?_
                  refine cL rfl (o_fa tt34 rfl tt32 rfl ?_)
                  refine cL rfl (o_ldS (v := .lst _ _ _) tt32 rfl rfl ⟨_, rfl⟩ ?_)
                  refine cL rfl (o_move (v := .int _ _) rfl ?_)
                  obtain ⟨s756, hv⟩ := hv
                  refine cL rfl (o_iaL tt32 tt35 rfl rfl ((encSl eInt).wd true) rfl s756 ?_)
                  intro rest756
                  refine cL rfl (o_ldS (v := .lst _ _ _) tt35 rfl rfl ⟨_, rfl⟩ ?_)
                  refine cL rfl (o_move (v := .int _ _) rfl ?_)
                  obtain ⟨s757, hv⟩ := hv
                  refine cL rfl (o_iaL tt35 tt3 rfl rfl (encInt.wd true) rfl s757 ?_)
                  intro rest757
                  refine cL rfl (o_ldS (v := .int _ _) tt3 rfl rfl ⟨_, rfl⟩ ?_)
                  refine cL rfl (o_move (v := .int _ _) rfl ?_)
                  refine cL rfl (o_move (v := .int _ _) rfl ?_)
                  obtain ⟨s758, hv⟩ := hv
                  refine cL rfl (o_callP1 (k := 47) (fst := []) (caps := []) (ys := [.int _ _, .int _ _]) rfl rfl (spec_plus (lat (lat b.most v70) v77) (lat (lat b.most v77) v90) s758) (Wks.cons (ag_int _ _ _ _) (Wks.cons (ag_int _ _ _ _) (Wks.refl _))) ?_)
                  refine cL rfl (o_gtr rfl rfl ?_)
                  refine eL ?_
                  refine W.tr [(1, .ptr _ _), (7, .int _ _), (10, .int _ _), (68, .lst _ _ _), (69, .int _ _), (70, .int _ _), (75, .lst _ _ _), (76, .int _ _), (77, .int _ _), (88, .lst _ _ _), (89, .int _ _), (90, .int _ _), (106, .bool _)] [.box _ [.int _ _, .lst _ _ _]] ⟨rfl, rfl, rfl, rfl, rfl, rfl, rfl, rfl, rfl, rfl, rfl, rfl, rfl, trivial⟩ rfl ?_
                  refine W.cn rfl (fun hc => ?_) (fun hc => ?_)
                  · have hv := hv.1 hc
                    refine W.rL ?_
                    refine cL rfl (o_assign (v := .bool _) rfl ?_)
                    refine eL ?_
                    refine W.tr [(2, .bool _)] [.box _ [.int _ _, .lst _ _ _]] ⟨rfl, trivial⟩ rfl ?_
                    refine W.ret ?_
                    refine bl_ret (th_ret (th_ret (bl_ret (bl_ret (th_ret (th_ret (bl_ret (bl_ret (th_ret (th_ret (bl_ret (th_ret (rt ?_)))))))))))))
                    refine rt_t (v := .bool _) rfl ?_
                    refine rt_n ?_
                    exact ⟨_, rs_bool _ _ _, false, rfl, hv⟩
                  · have hv := hv.2 hc
                    refine W.skip ?_
                    refine bl_nrm (th_nrm ?_)
                    refine W.tr [(1, .ptr _ _), (7, .int _ _), (10, .int _ _), (68, .lst _ _ _), (69, .int _ _), (70, .int _ _), (75, .lst _ _ _), (76, .int _ _), (77, .int _ _), (88, .lst _ _ _), (89, .int _ _), (90, .int _ _)] [.box _ [.int _ _, .lst _ _ _]] ⟨rfl, rfl, rfl, rfl, rfl, rfl, rfl, rfl, rfl, rfl, rfl, rfl, trivial⟩ rfl ?_
                    refine W.rL1 ?_
                    obtain ⟨s759, hv⟩ := hv
                    refine cL rfl (o_add rfl rfl s759 ?_)
                    refine cL rfl (o_move (v := .int _ _) rfl ?_)
                    refine eL ?_
                    exact th_nrm (⟨(), (v90 + (1 : Int)), hv, St.to_mk (φ := [some 0]) rfl (.inl rfl) ⟨Ren.ptr rfl, Ren.int _ _, Ren.int _ _, Ren.lst _ _ _, Ren.int _ _, Ren.int _ _, Ren.lst _ _ _, Ren.int _ _, Ren.int _ _, Ren.lst _ _ _, Ren.int _ _, Ren.int _ _, trivial⟩ ⟨.inr ⟨_, rfl, rfl, Rens.cons (Ren.int _ _) (Rens.cons (Ren.lst _ _ _) (Rens.nil))⟩, trivial⟩⟩)
                · have hv := hv.2 hc
                  refine W.exit ?_
                  exact th_exit (th_exit (bl_hit (bl_nrm (th_nrm (⟨(), hv, St.to_mk (φ := [some 0]) rfl (.inl rfl) ⟨Ren.ptr rfl, Ren.int _ _, Ren.lst _ _ _, Ren.int _ _, Ren.int _ _, Ren.lst _ _ _, Ren.int _ _, Ren.int _ _, trivial⟩ ⟨.inr ⟨_, rfl, rfl, Rens.cons (Ren.int _ _) (Rens.cons (Ren.lst _ _ _) (Rens.nil))⟩, trivial⟩⟩)))))
          · have hv := hv.2 hc
            refine W.exit ?_
            refine th_exit (th_exit (bl_hit (bl_nrm (th_nrm ?_))))
            refine W.tr [(1, .ptr _ _), (68, .lst _ _ _), (69, .int _ _), (70, .int _ _)] [.box _ [.int _ _, .lst _ _ _]] ⟨rfl, rfl, rfl, rfl, trivial⟩ rfl ?_
            refine W.rL1 ?_
            obtain ⟨s760, hv⟩ := hv
            refine cL rfl (o_add rfl rfl s760 ?_)
            refine cL rfl (o_move (v := .int _ _) rfl ?_)
            refine eL ?_
            exact th_nrm (⟨(), (v70 + (1 : Int)), hv, St.to_mk (φ := [some 0]) rfl (.inl rfl) ⟨Ren.ptr rfl, Ren.lst _ _ _, Ren.int _ _, Ren.int _ _, trivial⟩ ⟨.inr ⟨_, rfl, rfl, Rens.cons (Ren.int _ _) (Rens.cons (Ren.lst _ _ _) (Rens.nil))⟩, trivial⟩⟩)
        · have hv := hv.2 hc
          refine W.exit ?_
          refine th_exit (th_exit (bl_hit (th_nrm ?_)))
          refine W.tr [] [.box _ [.int _ _, .lst _ _ _]] trivial rfl ?_
          refine W.rL ?_
          refine cL rfl (o_assign (v := .bool _) rfl ?_)
          refine eL ?_
          refine W.tr [(2, .bool _)] [.box _ [.int _ _, .lst _ _ _]] ⟨rfl, trivial⟩ rfl ?_
          refine W.ret ?_
          refine rt ?_
          refine rt_t (v := .bool _) rfl ?_
          refine rt_n ?_
          exact ⟨_, rs_bool _ _ _, true, rfl, hv⟩
theorem vcp_vald (b : Bd) (h0 : b.most.length ≤ 1073741824) (h1 : ∀ r ∈ b.most, r.length ≤ 1073741824) : vc_vald b (fun q0 => q0 = (validBM b)) := by
  unfold vc_vald
  have hnb := hNB
  have hfalse : ¬ VB b → false = validBM b := fun h => (Bool.eq_false_iff.mpr fun e => h (validBM_iff.mp e)).symm
  refine ⟨fun h => hfalse fun v => ?_, fun h => ⟨fun v => ∃ i : Nat, v = i ∧ i ≤ b.most.length ∧ ∀ k, k < i → (b.most.getD k []).length = b.most.length ∧ bm b k k = 0 ∧ ∀ j, j < b.most.length → bm b k j = NB ∨ -36028797018963968 ≤ bm b k j ∧ bm b k j ≤ 36028797018963968, fun v => b.most.length - v.toNat, ⟨0, rfl, by omega, by omega⟩, ?_⟩⟩
  · have := v.n; omega
  rintro _ ⟨i, rfl, hi, hr⟩
  have hrow : (lat b.most (i : Int)).length = (b.most.getD i []).length := by rw [lat_nat]; rfl
  refine ⟨fun h1 => ⟨by omega, ⟨fun _ => trivial, fun h2 => ⟨by omega, trivial⟩⟩, fun h2 => ?_, fun h2 => ?_⟩, fun h1 => ?_⟩
  · rw [hrow, lat_lat] at h2
    refine hfalse fun v => ?_
    have h3 := v.row i (by omega)
    have h4 := v.diag i (by omega)
    have h5 := v.n
    omega
  · rw [hrow, lat_lat] at h2
    refine ⟨fun v => ∃ j : Nat, v = j ∧ j ≤ b.most.length ∧ ∀ k, k < j → bm b i k = NB ∨ -36028797018963968 ≤ bm b i k ∧ bm b i k ≤ 36028797018963968, fun v => b.most.length - v.toNat, ⟨0, rfl, by omega, by omega⟩, ?_⟩
    rintro _ ⟨j, rfl, hj, hk⟩
    rw [hrow, lat_lat]
    refine ⟨fun h3 => ⟨by omega, fun h4 => ?_, fun h4 => ⟨by unfold inI; omega, ⟨j + 1, by omega, by omega, ?_⟩, by dsimp only; omega⟩⟩, fun h3 => ⟨by unfold inI; omega, ⟨i + 1, by omega, by omega, ?_⟩, by dsimp only; omega⟩⟩
    · refine hfalse fun v => ?_
      have := v.ok i j (by omega) (by omega)
      omega
    · intro k h5
      rcases Nat.lt_or_ge k j with h6 | h6
      · exact hk k h6
      · have : k = j := by omega
        subst this; omega
    · intro k h5
      rcases Nat.lt_or_ge k i with h6 | h6
      · exact hr k h6
      · have : k = i := by omega
        subst this
        exact ⟨by omega, by omega, fun j' hj' => hk j' (by omega)⟩
  have hi' : i = b.most.length := by omega
  subst hi'
  have hL : ∀ k : Nat, k < b.most.length → (lat b.most (k : Int)).length = b.most.length := fun k hk => by rw [lat_nat]; exact (hr k hk).1
  refine ⟨fun v => ∃ i : Nat, v = i ∧ i ≤ b.most.length ∧ ∀ i', i' < i → ∀ j k, j < b.most.length → k < b.most.length → bm b i' j = NB ∨ bm b i' k ≤ plusM (bm b i' j) (bm b j k), fun v => b.most.length - v.toNat, ⟨0, rfl, by omega, by omega⟩, ?_⟩
  rintro _ ⟨i, rfl, hi, ht⟩
  refine ⟨fun h1 => ⟨by omega, fun v => ∃ j : Nat, v = j ∧ j ≤ b.most.length ∧ ∀ j', j' < j → ∀ k, k < b.most.length → bm b i j' = NB ∨ bm b i k ≤ plusM (bm b i j') (bm b j' k), fun v => b.most.length - v.toNat, ⟨0, rfl, by omega, by omega⟩, ?_⟩, fun h1 => ?_⟩
  · rintro _ ⟨j, rfl, hj, hu⟩
    rw [hL i (by omega)]
    refine ⟨fun h2 => ⟨∀ k, k < b.most.length → bm b i j = NB ∨ bm b i k ≤ plusM (bm b i j) (bm b j k), fun hJ => ⟨by unfold inI; omega, ⟨j + 1, by omega, by omega, ?_⟩, by dsimp only; omega⟩, by omega, fun h3 => ?_, fun h3 => ⟨by omega, ?_⟩⟩, fun h2 => ⟨by unfold inI; omega, ⟨i + 1, by omega, by omega, ?_⟩, by dsimp only; omega⟩⟩
    · intro j' h5
      rcases Nat.lt_or_ge j' j with h6 | h6
      · exact hu j' h6
      · have : j' = j := by omega
        subst this; exact hJ
    · rw [lat_lat] at h3; exact fun k _ => .inl h3
    · rw [lat_lat] at h3
      refine ⟨fun v => ∃ k : Nat, v = k ∧ k ≤ b.most.length ∧ ∀ k', k' < k → bm b i k' ≤ plusM (bm b i j) (bm b j k'), fun v => b.most.length - v.toNat, ⟨0, rfl, by omega, by omega⟩, ?_⟩
      rintro _ ⟨k, rfl, hk, hv⟩
      rw [hL j (by omega), lat_lat, lat_lat, lat_lat]
      refine ⟨fun h4 => ⟨by omega, by omega, by omega, fun _ _ => ?_, fun h5 => ?_, fun h5 => ⟨by unfold inI; omega, ⟨k + 1, by omega, by omega, ?_⟩, by dsimp only; omega⟩⟩, fun h4 => ?_⟩
      · have a1 := (hr i (by omega)).2.2 j (by omega)
        have a2 := (hr j (by omega)).2.2 k (by omega)
        unfold inI; omega
      · refine hfalse fun v => ?_
        have := v.tri i j k (by omega) (by omega) (by omega)
        omega
      · intro k' h6
        rcases Nat.lt_or_ge k' k with h7 | h7
        · exact hv k' h7
        · have : k' = k := by omega
          subst this; omega
      · exact fun k' hk' => .inr (hv k' (by omega))
    · intro i' h5 j' k' hj' hk'
      rcases Nat.lt_or_ge i' i with h6 | h6
      · exact ht i' h6 j' k' hj' hk'
      · have : i' = i := by omega
        subst this; exact hu j' (by omega) k' hk'
  · refine (validBM_iff.mpr ⟨by omega, fun i' hi' => (hr i' hi').1, fun i' hi' => (hr i' hi').2.1, fun i' j' hi' hj' => (hr i' hi').2.2 j' hj', fun i' j' k' hi' hj' hk' => ht i' (by omega) j' k' hj' hk'⟩).symm
theorem spec_vald (b : Bd) (h0 : b.most.length ≤ 1073741824) (h1 : ∀ r ∈ b.most, r.length ≤ 1073741824) : FnP Try.prog 25 [.agg ((e34 true) b)] (fun xR => xR = .bool (validBM b)) :=
  (walk_vald (vcp_vald b h0 h1)).mono (by rintro _ ⟨_, rfl, rfl⟩; rfl)
end Go.Lat
namespace Go.Lat
open Go.RowKit Go.Proofs
attribute [local irreducible] closeM rangeM pointM addBM cycleM holdsM validBM sameM madeM pickM plusM validM possM firstM tableM longerM boundsM ofM addM freeM
/-- What the walk through bounds.Range asks. -/
def vc_range (b : Bd) (f : Int) (t : Int) (Post : Int → Int → Int → Prop) : Prop :=
  ((b.most.length ≤ 1073741824) ∧ (∀ r ∈ b.most, r.length ≤ 1073741824) ∧ True) ∧ ((((¬ ((validBM b) = true)) ∨ (((min f t) < (0 : Int)) ∨ (b.n ≤ (max f t)))) → Post (0 : Int) (0 : Int) (2 : Int)) ∧ (¬ ((¬ ((validBM b) = true)) ∨ (((min f t) < (0 : Int)) ∨ (b.n ≤ (max f t)))) → (0 ≤ t ∧ t < (b.most.length : Int)) ∧ (0 ≤ f ∧ f < ((lat b.most t).length : Int)) ∧ (inI (-(lat (lat b.most t) f))) ∧ (0 ≤ f ∧ f < (b.most.length : Int)) ∧ (0 ≤ t ∧ t < ((lat b.most f).length : Int)) ∧ Post (-(lat (lat b.most t) f)) (lat (lat b.most f) t) (0 : Int)))
set_option maxRecDepth 100000 in
set_option maxHeartbeats 4000000 in
theorem walk_range {b : Bd} {f : Int} {t : Int} {Post : Int → Int → Int → Prop} (hv : vc_range b f t Post) : FnP Try.prog 21 [.agg ((e34 true) b), .int .i64 f, .int .i64 t] (fun x => ∃ q0 q1 q2, x = .tup [.int .i64 q0, .int .i64 q1, .int .i64 q2] ∧ Post q0 q1 q2) := by
  refine FnP.of_walk (T := tt) (nt := 43) ttOk ttMix ⟨⟨Try.f21, Try.func21, rfl, rfl, rfl, rfl⟩⟩ (by simp) ?_
  unfold vc_range at hv
  change W _ _ _ ⟨43, look [(0, .agg [.int .i64 b.n, .lst true b.most.length (encL (eSl eInt true) b.most)]), (1, .int .i64 f), (2, .int .i64 t)], [], false⟩ _
  refine W.tr [(0, .agg _), (1, .int _ _), (2, .int _ _)] [] ⟨rfl, rfl, rfl, trivial⟩ rfl ?_
  refine W.rL ?_
  refine cL rfl (o_box (v := .agg _) (p := 0) rfl rfl rfl ?_)
  refine cL rfl (o_assign (v := .int _ _) rfl ?_)
  refine cL rfl (o_assign (v := .int _ _) rfl ?_)
  refine cL rfl (o_assign (v := .int _ _) rfl ?_)
  refine eL ?_
  refine W.tr [(1, .int _ _), (2, .int _ _), (3, .ptr _ _)] [.box _ [.int _ _, .lst _ _ _]] ⟨rfl, rfl, rfl, trivial⟩ rfl ?_
  refine W.seq' ?_
  obtain ⟨sd, hv⟩ := hv
  refine W.rLm ⟨43, look [(1, .int .i64 f), (2, .int .i64 t), (3, .ptr 0 0), (25, .bool (decide ((¬ ((validBM b) = true)) ∨ (((min f t) < (0 : Int)) ∨ (b.n ≤ (max f t))))))], [.box 34 [.int .i64 b.n, .lst true b.most.length (encL (eSl eInt true) b.most)]], false⟩ ?_ ?_
  · refine cL rfl (o_ldA (cs := [.int _ _, .lst _ _ _]) tt34 rfl rfl ⟨_, rfl⟩ rfl ?_)
    obtain ⟨s7, sd⟩ := sd
    obtain ⟨s8, sd⟩ := sd
    refine cL rfl (o_callP1 (k := 25) (fst := []) (caps := []) (ys := [.agg _]) rfl rfl (spec_vald b s7 s8) (Wks.cons (ag_agg 5 _ (Wks.cons (ag_int _ _ _ _) (Wks.cons (ag_lst _ _ _ _ _) (Wks.refl _)))) (Wks.refl _)) ?_)
    refine cL rfl (o_notB rfl ?_)
    refine cL rfl (o_move (v := .bool _) rfl ?_)
    by_cases c1 : ¬ ((validBM b) = true)
    · refine cLs rfl rfl rfl (decide_eq_true c1) ?_
      refine cLs rfl rfl rfl (decide_eq_true c1) ?_
      refine cLs rfl rfl rfl (decide_eq_true c1) ?_
      refine cLs rfl rfl rfl (decide_eq_true c1) ?_
      refine cL rfl (o_pickT (v := .bool _) rfl (decide_eq_true c1) rfl ?_)
      refine cL rfl (o_move (v := .bool _) rfl ?_)
      refine cLs rfl rfl rfl (rfl) ?_
      refine cLs rfl rfl rfl (rfl) ?_
      refine cLs rfl rfl rfl (rfl) ?_
      refine cLs rfl rfl rfl (rfl) ?_
      refine cLs rfl rfl rfl (rfl) ?_
      refine cLs rfl rfl rfl (rfl) ?_
      refine cL rfl (o_pickT (v := .bool _) rfl rfl rfl ?_)
      refine eL ?_
      exact le_mk ⟨rfl, rfl, rfl, (congrArg AV.bool (dOrT c1)).symm, trivial⟩ rfl
    · refine cLg rfl rfl (decide_eq_false c1) ?_
      refine cL rfl (o_move (v := .int _ _) rfl ?_)
      refine cLg rfl rfl (decide_eq_false c1) ?_
      refine cL rfl (o_move (v := .int _ _) rfl ?_)
      refine cLg rfl rfl (decide_eq_false c1) ?_
      refine cL rfl (o_min rfl rfl ?_)
      refine cLg rfl rfl (decide_eq_false c1) ?_
      refine cL rfl (o_lss rfl rfl ?_)
      refine cL rfl (o_pickF (v := .bool _) rfl (decide_eq_false c1) rfl ?_)
      refine cL rfl (o_move (v := .bool _) rfl ?_)
      by_cases c2 : (min f t) < (0 : Int)
      · refine cLs rfl rfl rfl (decide_eq_true c2) ?_
        refine cLs rfl rfl rfl (decide_eq_true c2) ?_
        refine cLs rfl rfl rfl (decide_eq_true c2) ?_
        refine cLs rfl rfl rfl (decide_eq_true c2) ?_
        refine cLs rfl rfl rfl (decide_eq_true c2) ?_
        refine cLs rfl rfl rfl (decide_eq_true c2) ?_
        refine cL rfl (o_pickT (v := .bool _) rfl (decide_eq_true c2) rfl ?_)
        refine eL ?_
        exact le_mk ⟨rfl, rfl, rfl, (congrArg AV.bool (dOrF c1 (dOrT c2))).symm, trivial⟩ rfl
      · refine cLg rfl rfl (decide_eq_false c2) ?_
        refine cL rfl (o_move (v := .int _ _) rfl ?_)
        refine cLg rfl rfl (decide_eq_false c2) ?_
        refine cL rfl (o_move (v := .int _ _) rfl ?_)
        refine cLg rfl rfl (decide_eq_false c2) ?_
        refine cL rfl (o_max rfl rfl ?_)
        refine cLg rfl rfl (decide_eq_false c2) ?_
        refine cL rfl (o_fa tt34 rfl tt3 rfl ?_)
        refine cLg rfl rfl (decide_eq_false c2) ?_
        refine cL rfl (o_ldS (v := .int _ _) tt3 rfl rfl ⟨_, rfl⟩ ?_)
        refine cLg rfl rfl (decide_eq_false c2) ?_
        refine cL rfl (o_geq rfl rfl ?_)
        refine cL rfl (o_pickF (v := .bool _) rfl (decide_eq_false c2) rfl ?_)
        refine eL ?_
        exact le_mk ⟨rfl, rfl, rfl, (congrArg AV.bool (dOrF c1 (dOrF c2 (rfl)))).symm, trivial⟩ rfl
  · refine W.cn rfl (fun hc => ?_) (fun hc => ?_)
    · have hv := hv.1 hc
      refine W.rL ?_
      refine cL rfl (o_assign (v := .int _ _) rfl ?_)
      refine cL rfl (o_assign (v := .int _ _) rfl ?_)
      refine cL rfl (o_assign (v := .int _ _) rfl ?_)
      refine eL ?_
      refine W.tr [(6, .int _ _), (7, .int _ _), (8, .int _ _)] [.box _ [.int _ _, .lst _ _ _]] ⟨rfl, rfl, rfl, trivial⟩ rfl ?_
      refine W.ret ?_
      refine th_ret (rt ?_)
      refine rt_t (v := .int _ _) rfl ?_
      refine rt_t (v := .int _ _) rfl ?_
      refine rt_t (v := .int _ _) rfl ?_
      refine rt_n ?_
      exact ⟨_, rs_tup 5 _ (Wks.cons (rs_int _ _ _ _) (Wks.cons (rs_int _ _ _ _) (Wks.cons (rs_int _ _ _ _) (Wks.refl _)))), (0 : Int), (0 : Int), (2 : Int), rfl, hv⟩
    · have hv := hv.2 hc
      refine W.skip ?_
      refine th_nrm ?_
      refine W.tr [(1, .int _ _), (2, .int _ _), (3, .ptr _ _)] [.box _ [.int _ _, .lst _ _ _]] ⟨rfl, rfl, rfl, trivial⟩ rfl ?_
      refine W.rD [0, 1, 2, 3, 4, 5, 6, 7, 8, 9, 10, 11, 12, 13, 14, 15, 16, 17, 18, 19] (by decide +kernel) rfl ?_
      refine cL rfl (o_fa tt34 rfl tt32 rfl ?_)
      refine cL rfl (o_ldS (v := .lst _ _ _) tt32 rfl rfl ⟨_, rfl⟩ ?_)
      refine cL rfl (o_move (v := .int _ _) rfl ?_)
      obtain ⟨s9, hv⟩ := hv
      refine cL rfl (o_iaL tt32 tt35 rfl rfl ((encSl eInt).wd true) rfl s9 ?_)
      intro rest9
      refine cL rfl (o_ldS (v := .lst _ _ _) tt35 rfl rfl ⟨_, rfl⟩ ?_)
      refine cL rfl (o_move (v := .int _ _) rfl ?_)
      obtain ⟨s10, hv⟩ := hv
      refine cL rfl (o_iaL tt35 tt3 rfl rfl (encInt.wd true) rfl s10 ?_)
      intro rest10
      refine cL rfl (o_ldS (v := .int _ _) tt3 rfl rfl ⟨_, rfl⟩ ?_)
      obtain ⟨s11, hv⟩ := hv
      refine cL rfl (o_neg rfl s11 ?_)
      refine cL rfl (o_fa tt34 rfl tt32 rfl ?_)
      refine cL rfl (o_ldS (v := .lst _ _ _) tt32 rfl rfl ⟨_, rfl⟩ ?_)
      refine cL rfl (o_move (v := .int _ _) rfl ?_)
      obtain ⟨s12, hv⟩ := hv
      refine cL rfl (o_iaL tt32 tt35 rfl rfl ((encSl eInt).wd true) rfl s12 ?_)
      intro rest12
      refine cL rfl (o_ldS (v := .lst _ _ _) tt35 rfl rfl ⟨_, rfl⟩ ?_)
      refine cL rfl (o_move (v := .int _ _) rfl ?_)
      obtain ⟨s13, hv⟩ := hv
      refine cL rfl (o_iaL tt35 tt3 rfl rfl (encInt.wd true) rfl s13 ?_)
      intro rest13
      refine cL rfl (o_ldS (v := .int _ _) tt3 rfl rfl ⟨_, rfl⟩ ?_)
      refine cL rfl (o_assign (v := .int _ _) rfl ?_)
      refine cL rfl (o_assign (v := .int _ _) rfl ?_)
      refine cL rfl (o_assign (v := .int _ _) rfl ?_)
      refine eL ?_
      refine W.tr [(6, .int _ _), (7, .int _ _), (8, .int _ _)] [.box _ [.int _ _, .lst _ _ _]] ⟨rfl, rfl, rfl, trivial⟩ rfl ?_
      refine W.ret ?_
      refine rt ?_
      refine rt_t (v := .int _ _) rfl ?_
      refine rt_t (v := .int _ _) rfl ?_
      refine rt_t (v := .int _ _) rfl ?_
      refine rt_n ?_
      exact ⟨_, rs_tup 5 _ (Wks.cons (rs_int _ _ _ _) (Wks.cons (rs_int _ _ _ _) (Wks.cons (rs_int _ _ _ _) (Wks.refl _)))), (-(lat (lat b.most t) f)), (lat (lat b.most f) t), (0 : Int), rfl, hv⟩
theorem vcp_range (b : Bd) (f : Int) (t : Int) (h0 : b.most.length ≤ 1073741824) (h1 : ∀ r ∈ b.most, r.length ≤ 1073741824) : vc_range b f t (fun q0 q1 q2 => q0 = (rangeM b f t).1 ∧ q1 = (rangeM b f t).2.1 ∧ q2 = (rangeM b f t).2.2) := by
  unfold vc_range
  have hnb := hNB
  refine ⟨⟨h0, h1, trivial⟩, fun h => ?_, fun h => ?_⟩
  · have e : rangeM b f t = (0, 0, 2) := by
      unfold rangeM; rw [if_neg]
      rintro ⟨a1, a2, a3⟩
      rcases h with h | h | h
      · exact h a1
      · omega
      · omega
    rw [e]; exact ⟨rfl, rfl, rfl⟩
  have hv : validBM b = true := Classical.not_not.mp fun e => h (.inl e)
  have vb := validBM_iff.mp hv
  have h9 := fun e => h (.inr e)
  have hn := vb.n
  obtain ⟨f, rfl⟩ : ∃ k : Nat, f = k := ⟨f.toNat, by omega⟩
  obtain ⟨t, rfl⟩ : ∃ k : Nat, t = k := ⟨t.toNat, by omega⟩
  have e : rangeM b f t = (-bm b t f, bm b f t, 0) := by unfold rangeM; rw [if_pos ⟨hv, by omega, by omega⟩]; rfl
  have r1 := vb.row f (by omega)
  have r2 := vb.row t (by omega)
  have o := vb.ok t f (by omega) (by omega)
  rw [e, lat_lat, lat_lat, lat_nat, lat_nat]
  refine ⟨by omega, ?_, by unfold inI; omega, by omega, ?_, rfl, rfl, rfl⟩
  · show _ ∧ _ < ((b.most.getD t []).length : Int); omega
  · show _ ∧ _ < ((b.most.getD f []).length : Int); omega
theorem spec_range (b : Bd) (f : Int) (t : Int) (h0 : b.most.length ≤ 1073741824) (h1 : ∀ r ∈ b.most, r.length ≤ 1073741824) : FnP Try.prog 21 [.agg ((e34 true) b), .int .i64 f, .int .i64 t] (fun xR => xR = .tup [.int .i64 ((rangeM b f t).1), .int .i64 ((rangeM b f t).2.1), .int .i64 ((rangeM b f t).2.2)]) :=
  (walk_range (vcp_range b f t h0 h1)).mono (by rintro _ ⟨_, _, _, rfl, rfl, rfl, rfl⟩; rfl)
end Go.Lat
namespace Go.Lat
open Go.RowKit Go.Proofs
attribute [local irreducible] closeM rangeM pointM addBM cycleM holdsM validBM sameM madeM pickM plusM validM possM firstM tableM longerM boundsM ofM addM freeM
/-- What the walk through slices.Equal[[]int,int] asks. -/
def vc_equal (a : (List Int)) (b : (List Int)) (Post : Bool → Prop) : Prop :=
  ((¬ ((a.length : Nat) : Int) = ((b.length : Nat) : Int)) → Post false) ∧ (¬ (¬ ((a.length : Nat) : Int) = ((b.length : Nat) : Int)) → ∃ (I1 : Int → Prop) (μ1 : Int → Nat), I1 (0 : Int) ∧ ∀ (v13 : Int), I1 v13 → ((v13 < ((a.length : Nat) : Int)) → (0 ≤ v13 ∧ v13 < (a.length : Int)) ∧ (0 ≤ v13 ∧ v13 < (b.length : Int)) ∧ ((¬ lat a v13 = lat b v13) → Post false) ∧ (¬ (¬ lat a v13 = lat b v13) → (inI (v13 + (1 : Int))) ∧ (I1 (v13 + (1 : Int)) ∧ μ1 (v13 + (1 : Int)) < μ1 v13))) ∧ (¬ (v13 < ((a.length : Nat) : Int)) → Post true))
set_option maxRecDepth 100000 in
set_option maxHeartbeats 4000000 in
theorem walk_equal {a : (List Int)} {b : (List Int)} {Post : Bool → Prop} (hv : vc_equal a b Post) : FnP Try.prog 51 [.lst true a.length (encL eInt a), .lst true b.length (encL eInt b)] (fun x => ∃ q0, x = .bool q0 ∧ Post q0) := by
  refine FnP.of_walk (T := tt) (nt := 26) ttOk ttMix ⟨⟨Try.f51, Try.func51, rfl, rfl, rfl, rfl⟩⟩ (by simp) ?_
  unfold vc_equal at hv
  change W _ _ _ ⟨26, look [(0, .lst true a.length (encL eInt a)), (1, .lst true b.length (encL eInt b))], [], false⟩ _
  refine W.tr [(0, .lst _ _ _), (1, .lst _ _ _)] [] ⟨rfl, rfl, trivial⟩ rfl ?_
  refine W.rL ?_
  refine cL rfl (o_assign (v := .bool _) rfl ?_)
  refine eL ?_
  refine W.tr [(0, .lst _ _ _), (1, .lst _ _ _)] [] ⟨rfl, rfl, trivial⟩ rfl ?_
  refine W.seq' ?_
  refine W.rL ?_
  refine cL rfl (o_move (v := .lst _ _ _) rfl ?_)
  refine cL rfl (o_len (v := .lst _ _ _) tt35 rfl rfl ?_)
  refine cL rfl (o_move (v := .lst _ _ _) rfl ?_)
  refine cL rfl (o_len (v := .lst _ _ _) tt35 rfl rfl ?_)
  refine cL rfl (o_neI rfl rfl rfl ?_)
  refine eL ?_
  refine W.tr [(0, .lst _ _ _), (1, .lst _ _ _), (10, .bool _)] [] ⟨rfl, rfl, rfl, trivial⟩ rfl ?_
  refine W.cn rfl (fun hc => ?_) (fun hc => ?_)
  · have hv := hv.1 hc
    refine W.rL ?_
    refine cL rfl (o_assign (v := .bool _) rfl ?_)
    refine eL ?_
    refine W.tr [(4, .bool _)] [] ⟨rfl, trivial⟩ rfl ?_
    refine W.ret ?_
    refine th_ret (rt ?_)
    refine rt_t (v := .bool _) rfl ?_
    refine rt_n ?_
    exact ⟨_, rs_bool _ _ _, false, rfl, hv⟩
  · have hv := hv.2 hc
    refine W.skip ?_
    refine th_nrm ?_
    refine W.tr [(0, .lst _ _ _), (1, .lst _ _ _)] [] ⟨rfl, rfl, trivial⟩ rfl ?_
    refine W.seq' ?_
    refine W.rL ?_
    refine cL rfl (o_move (v := .lst _ _ _) rfl ?_)
    refine cL rfl (o_len (v := .lst _ _ _) tt35 rfl rfl ?_)
    refine cL rfl (o_move (v := .int _ _) rfl ?_)
    refine eL ?_
    refine W.tr [(0, .lst _ _ _), (1, .lst _ _ _), (12, .int _ _), (13, .int _ _)] [] ⟨rfl, rfl, rfl, rfl, trivial⟩ rfl ?_
    refine W.block ?_
    obtain ⟨I1, μ1, hp, hv⟩ := hv
    refine W.loop1 (fun v13 => ⟨26, look [(0, .lst true a.length (encL eInt a)), (1, .lst true b.length (encL eInt b)), (12, .int .i64 ((a.length : Nat) : Int)), (13, .int .i64 v13)], [], false⟩) I1 μ1 (0 : Int) (St.to_mk (φ := []) rfl (.inl rfl) ⟨Ren.lst _ _ _, Ren.lst _ _ _, Ren.int _ _, Ren.int _ _, trivial⟩ trivial) hp ?_
    clear hp
    intro v13 hI
    replace hv := hv v13 hI
    clear hI
    refine W.rL ?_
    refine cL rfl (o_lss rfl rfl ?_)
    refine eL ?_
    refine W.tr [(0, .lst _ _ _), (1, .lst _ _ _), (12, .int _ _), (13, .int _ _), (14, .bool _)] [] ⟨rfl, rfl, rfl, rfl, rfl, trivial⟩ rfl ?_
    refine W.seq' ?_
    refine W.cn rfl (fun hc => ?_) (fun hc => ?_)
    · have hv := hv.1 hc
      refine W.skip ?_
      refine th_nrm ?_
      refine W.tr [(0, .lst _ _ _), (1, .lst _ _ _), (12, .int _ _), (13, .int _ _)] [] ⟨rfl, rfl, rfl, rfl, trivial⟩ rfl ?_
      refine W.seq' ?_
      refine W.block ?_
      refine W.rL ?_
      refine cL rfl (o_move (v := .int _ _) rfl ?_)
      refine cL rfl (o_assign (v := .int _ _) rfl ?_)
      refine eL ?_
      refine W.tr [(0, .lst _ _ _), (1, .lst _ _ _), (5, .int _ _), (12, .int _ _), (13, .int _ _)] [] ⟨rfl, rfl, rfl, rfl, rfl, trivial⟩ rfl ?_
      refine W.rD [0, 1, 2, 3, 4, 5, 6, 7, 8] (by decide +kernel) rfl ?_
      refine cL rfl (o_move (v := .lst _ _ _) rfl ?_)
      refine cL rfl (o_move (v := .int _ _) rfl ?_)
      obtain ⟨s18, hv⟩ := hv
      refine cL rfl (o_iaL tt35 tt3 rfl rfl (encInt.wd true) rfl s18 ?_)
      intro rest18
      refine cL rfl (o_ldS (v := .int _ _) tt3 rfl rfl ⟨_, rfl⟩ ?_)
      refine cL rfl (o_move (v := .lst _ _ _) rfl ?_)
      refine cL rfl (o_move (v := .int _ _) rfl ?_)
      obtain ⟨s19, hv⟩ := hv
      refine cL rfl (o_iaL tt35 tt3 rfl rfl (encInt.wd true) rfl s19 ?_)
      intro rest19
      refine cL rfl (o_ldS (v := .int _ _) tt3 rfl rfl ⟨_, rfl⟩ ?_)
      refine cL rfl (o_neI rfl rfl rfl ?_)
      refine eL ?_
      refine W.tr [(0, .lst _ _ _), (1, .lst _ _ _), (12, .int _ _), (13, .int _ _), (24, .bool _)] [] ⟨rfl, rfl, rfl, rfl, rfl, trivial⟩ rfl ?_
      refine W.cn rfl (fun hc => ?_) (fun hc => ?_)
      · have hv := hv.1 hc
        refine W.rL ?_
        refine cL rfl (o_assign (v := .bool _) rfl ?_)
        refine eL ?_
        refine W.tr [(4, .bool _)] [] ⟨rfl, trivial⟩ rfl ?_
        refine W.ret ?_
        refine bl_ret (th_ret (th_ret (bl_ret (th_ret (rt ?_)))))
        refine rt_t (v := .bool _) rfl ?_
        refine rt_n ?_
        exact ⟨_, rs_bool _ _ _, false, rfl, hv⟩
      · have hv := hv.2 hc
        refine W.skip ?_
        refine bl_nrm (th_nrm ?_)
        refine W.tr [(0, .lst _ _ _), (1, .lst _ _ _), (12, .int _ _), (13, .int _ _)] [] ⟨rfl, rfl, rfl, rfl, trivial⟩ rfl ?_
        refine W.rL1 ?_
        obtain ⟨s20, hv⟩ := hv
        refine cL rfl (o_add rfl rfl s20 ?_)
        refine cL rfl (o_move (v := .int _ _) rfl ?_)
        refine eL ?_
        exact th_nrm (⟨(), (v13 + (1 : Int)), hv, St.to_mk (φ := []) rfl (.inl rfl) ⟨Ren.lst _ _ _, Ren.lst _ _ _, Ren.int _ _, Ren.int _ _, trivial⟩ trivial⟩)
    · have hv := hv.2 hc
      refine W.exit ?_
      refine th_exit (th_exit (bl_hit (th_nrm ?_)))
      refine W.tr [] [] trivial rfl ?_
      refine W.rL ?_
      refine cL rfl (o_assign (v := .bool _) rfl ?_)
      refine eL ?_
      refine W.tr [(4, .bool _)] [] ⟨rfl, trivial⟩ rfl ?_
      refine W.ret ?_
      refine rt ?_
      refine rt_t (v := .bool _) rfl ?_
      refine rt_n ?_
      exact ⟨_, rs_bool _ _ _, true, rfl, hv⟩
theorem vcp_equal (a : (List Int)) (b : (List Int)) (h0 : a.length ≤ 1073741824) : vc_equal a b (fun q0 => q0 = (decide (a = b))) := by
  unfold vc_equal
  refine ⟨fun h => ?_, fun h => ⟨fun v => ∃ i : Nat, v = i ∧ i ≤ a.length ∧ ∀ j, j < i → a[j]? = b[j]?, fun v => a.length - v.toNat, ⟨0, rfl, by omega, by omega⟩, ?_⟩⟩
  · exact (decide_eq_false fun e => h (by rw [e])).symm
  · have hl : a.length = b.length := by omega
    rintro _ ⟨i, rfl, hi, hj⟩
    refine ⟨fun h1 => ⟨by omega, by omega, fun h2 => ?_, fun h2 => ⟨by unfold inI; omega, ⟨i + 1, by omega, by omega, ?_⟩, by dsimp only; omega⟩⟩, fun h1 => ?_⟩
    · exact (decide_eq_false fun e => h2 (by rw [e])).symm
    · intro j hj1
      rcases Nat.lt_or_ge j i with h3 | h3
      · exact hj j h3
      · have : j = i := by omega
        subst this
        have h4 : lat a (j : Int) = lat b (j : Int) := Classical.not_not.mp h2
        have ha : j < a.length := by omega
        have hb : j < b.length := by omega
        simp only [lat, Int.toNat_natCast, List.getD_eq_getElem?_getD, List.getElem?_eq_getElem ha, List.getElem?_eq_getElem hb, Option.getD_some] at h4 ⊢
        rw [h4]
    · refine (decide_eq_true (List.ext_getElem? fun j => ?_)).symm
      rcases Nat.lt_or_ge j i with h3 | h3
      · exact hj j h3
      · rw [List.getElem?_eq_none (by omega), List.getElem?_eq_none (by omega)]
theorem spec_equal (a : (List Int)) (b : (List Int)) (h0 : a.length ≤ 1073741824) : FnP Try.prog 51 [.lst true a.length (encL eInt a), .lst true b.length (encL eInt b)] (fun xR => xR = .bool (decide (a = b))) :=
  (walk_equal (vcp_equal a b h0)).mono (by rintro _ ⟨_, rfl, rfl⟩; rfl)
end Go.Lat
namespace Go.Lat
open Go.RowKit Go.Proofs
attribute [local irreducible] closeM rangeM pointM addBM cycleM holdsM validBM sameM madeM pickM plusM validM possM firstM tableM longerM boundsM ofM addM freeM
/-- What the walk through bounds.Same$1 asks. -/
def vc_same1 (a : (List Int)) (b : (List Int)) (Post : Bool → Prop) : Prop :=
  (a.length ≤ 1073741824) ∧ Post (decide (a = b))
set_option maxRecDepth 100000 in
set_option maxHeartbeats 4000000 in
theorem walk_same1 {a : (List Int)} {b : (List Int)} {Post : Bool → Prop} (hv : vc_same1 a b Post) : FnP Try.prog 50 [.lst true a.length (encL eInt a), .lst true b.length (encL eInt b)] (fun x => ∃ q0, x = .bool q0 ∧ Post q0) := by
  refine FnP.of_walk (T := tt) (nt := 8) ttOk ttMix ⟨⟨Try.f50, Try.func50, rfl, rfl, rfl, rfl⟩⟩ (by simp) ?_
  unfold vc_same1 at hv
  change W _ _ _ ⟨8, look [(0, .lst true a.length (encL eInt a)), (1, .lst true b.length (encL eInt b))], [], false⟩ _
  refine W.tr [(0, .lst _ _ _), (1, .lst _ _ _)] [] ⟨rfl, rfl, trivial⟩ rfl ?_
  refine W.rL ?_
  refine cL rfl (o_assign (v := .bool _) rfl ?_)
  refine eL ?_
  refine W.tr [(0, .lst _ _ _), (1, .lst _ _ _)] [] ⟨rfl, rfl, trivial⟩ rfl ?_
  refine W.rL ?_
  refine cL rfl (o_move (v := .lst _ _ _) rfl ?_)
  refine cL rfl (o_move (v := .lst _ _ _) rfl ?_)
  obtain ⟨s1, hv⟩ := hv
  refine cL rfl (o_callP1 (k := 51) (fst := []) (caps := []) (ys := [.lst _ _ _, .lst _ _ _]) rfl rfl (spec_equal a b s1) (Wks.cons (ag_lst _ _ _ _ _) (Wks.cons (ag_lst _ _ _ _ _) (Wks.refl _))) ?_)
  refine cL rfl (o_assign (v := .bool _) rfl ?_)
  refine eL ?_
  refine W.tr [(4, .bool _)] [] ⟨rfl, trivial⟩ rfl ?_
  refine W.ret ?_
  refine rt ?_
  refine rt_t (v := .bool _) rfl ?_
  refine rt_n ?_
  exact ⟨_, rs_bool _ _ _, (decide (a = b)), rfl, hv⟩
theorem vcp_same1 (a : (List Int)) (b : (List Int)) (h0 : a.length ≤ 1073741824) : vc_same1 a b (fun q0 => q0 = (decide (a = b))) := by
  unfold vc_same1
  exact ⟨h0, rfl⟩
theorem spec_same1 (a : (List Int)) (b : (List Int)) (h0 : a.length ≤ 1073741824) : FnP Try.prog 50 [.lst true a.length (encL eInt a), .lst true b.length (encL eInt b)] (fun xR => xR = .bool (decide (a = b))) :=
  (walk_same1 (vcp_same1 a b h0)).mono (by rintro _ ⟨_, rfl, rfl⟩; rfl)
end Go.Lat
