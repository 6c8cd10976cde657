/- The law latecomerlaw07.BoundsExact returns true for every input, and each argument reads afterwards as it read before. Part 10 of 12. No condition. -/
import Derived.Test.YtikbpchifcjomaaLatD
set_option linter.unusedVariables false
set_option linter.unusedSimpArgs false
set_option linter.unnecessarySimpa false
namespace Go.Lat
open Go.RowKit Go.Proofs
attribute [local irreducible] closeM rangeM pointM addBM cycleM holdsM validBM sameM madeM pickM plusM validM possM firstM tableM longerM boundsM ofM addM freeM
/-- What the walk through latecomerlaw07.next asks. -/
def vc_next (x : (List Int)) (m : Nat) (most : Int) (Post : (List Int) → Bool → Prop) : Prop :=
  ∃ (I1 : Int → List Int → Prop) (μ1 : Int → List Int → Nat), I1 (1 : Int) x ∧ ∀ (v5 : Int) (r0 : List Int), I1 v5 r0 → ((v5 < ((m : Nat) : Int)) → (0 ≤ v5 ∧ v5 < ((m : Nat) : Int)) ∧ (0 ≤ v5 ∧ v5 < ((r0.length : Nat) : Int)) ∧ (((lat r0 v5) < most) → (0 ≤ v5 ∧ v5 < ((m : Nat) : Int)) ∧ (0 ≤ v5 ∧ v5 < ((r0.length : Nat) : Int)) ∧ (inI ((lat r0 v5) + (1 : Int))) ∧ (0 ≤ v5 ∧ v5 < ((m : Nat) : Int)) ∧ (0 ≤ v5 ∧ v5 < ((r0.length : Nat) : Int)) ∧ Post (r0.set v5.toNat ((lat r0 v5) + (1 : Int))) true) ∧ (¬ ((lat r0 v5) < most) → (inI (-most)) ∧ (0 ≤ v5 ∧ v5 < ((m : Nat) : Int)) ∧ (0 ≤ v5 ∧ v5 < ((r0.length : Nat) : Int)) ∧ (inI (v5 + (1 : Int))) ∧ (I1 (v5 + (1 : Int)) (r0.set v5.toNat (-most)) ∧ μ1 (v5 + (1 : Int)) (r0.set v5.toNat (-most)) < μ1 v5 r0))) ∧ (¬ (v5 < ((m : Nat) : Int)) → Post r0 false)
set_option maxRecDepth 100000 in
set_option maxHeartbeats 4000000 in
theorem walk_next {x : (List Int)} {m : Nat} {most : Int} {Post : (List Int) → Bool → Prop} (hv : vc_next x m most Post) : FnH Try.prog 33 [.row 3 1 (encL eInt x)] [.sub 0 0 m, .int .i64 most] (fun x H => ∃ l q0 q1, H = .row 3 1 (encL eInt q0) :: l ∧ x = .bool q1 ∧ Post q0 q1) := by
  refine FnH.of_walk (T := tt) (nt := 29) ttOk ttMix ⟨⟨Try.f33, Try.func33, rfl, rfl, rfl, rfl⟩⟩ (by simp) (by simp) true (by simp) ?_
  unfold vc_next at hv
  change W _ _ _ ⟨29, look [(0, .sub 0 0 m), (1, .int .i64 most)], [.row 3 1 (encL eInt x)], true⟩ _
  refine W.tr [(0, .sub _ _ _), (1, .int _ _)] [.row _ _ _] ⟨rfl, rfl, trivial⟩ rfl ?_
  refine W.rL ?_
  refine cL rfl (o_assign (v := .bool _) rfl ?_)
  refine eL ?_
  refine W.tr [(0, .sub _ _ _), (1, .int _ _)] [.row _ _ _] ⟨rfl, rfl, trivial⟩ rfl ?_
  refine W.seq' ?_
  refine W.rL ?_
  refine cL rfl (o_assign (v := .int _ _) rfl ?_)
  refine eL ?_
  refine W.tr [(0, .sub _ _ _), (1, .int _ _), (5, .int _ _)] [.row _ _ _] ⟨rfl, rfl, rfl, trivial⟩ rfl ?_
  refine W.block ?_
  obtain ⟨I1, μ1, hp, hv⟩ := hv
  refine W.loop2 (fun v5 r0 => ⟨29, look [(0, .sub 0 0 m), (1, .int .i64 most), (5, .int .i64 v5)], [.row 3 1 (encL eInt r0)], true⟩) I1 μ1 (1 : Int) x (St.to_mk (φ := [some 0]) rfl (.inr (.inr rfl)) ⟨Ren.sub rfl, Ren.int _ _, Ren.int _ _, trivial⟩ ⟨.inr ⟨_, rfl, rfl, rfl, rfl, Rens.enc encInt false x⟩, trivial⟩) hp ?_
  clear hp
  intro v5 r0 hI
  replace hv := hv v5 r0 hI
  clear hI
  refine W.seq' ?_
  refine W.rL ?_
  refine cL rfl (o_move (v := .int _ _) rfl ?_)
  refine cL rfl (o_move (v := .sub _ _ _) rfl ?_)
  refine cL rfl (o_len (v := .sub _ _ _) tt35 rfl rfl ?_)
  refine cL rfl (o_lss rfl rfl ?_)
  refine eL ?_
  refine W.tr [(0, .sub _ _ _), (1, .int _ _), (5, .int _ _), (9, .bool _)] [.row _ _ _] ⟨rfl, rfl, rfl, rfl, trivial⟩ rfl ?_
  refine W.cn rfl (fun hc => ?_) (fun hc => ?_)
  · have hv := hv.1 hc
    refine W.skip ?_
    refine th_nrm ?_
    refine W.tr [(0, .sub _ _ _), (1, .int _ _), (5, .int _ _)] [.row _ _ _] ⟨rfl, rfl, rfl, trivial⟩ rfl ?_
    refine W.seq' ?_
    refine W.block ?_
    refine W.seq' ?_
    refine W.rL ?_
    refine cL rfl (o_move (v := .sub _ _ _) rfl ?_)
    refine cL rfl (o_move (v := .int _ _) rfl ?_)
    obtain ⟨s200, hv⟩ := hv
    obtain ⟨s201, hv⟩ := hv
    refine cL rfl (o_iaS tt35 tt3 rfl rfl s200 (Nat.zero_add _) ?_)
    refine cL rfl (o_ldS (v := .int _ _) tt3 rfl rfl (cell_of (ca_row (xs := r0) rfl (encInt.wd false) s201) rfl) ?_)
    refine cL rfl (o_move (v := .int _ _) rfl ?_)
    refine cL rfl (o_lss rfl rfl ?_)
    refine eL ?_
    refine W.tr [(0, .sub _ _ _), (1, .int _ _), (5, .int _ _), (17, .bool _)] [.row _ _ _] ⟨rfl, rfl, rfl, rfl, trivial⟩ rfl ?_
    refine W.cn rfl (fun hc => ?_) (fun hc => ?_)
    · have hv := hv.1 hc
      refine W.rL ?_
      refine cL rfl (o_move (v := .sub _ _ _) rfl ?_)
      refine cL rfl (o_move (v := .int _ _) rfl ?_)
      obtain ⟨s202, hv⟩ := hv
      obtain ⟨s203, hv⟩ := hv
      refine cL rfl (o_iaS tt35 tt3 rfl rfl s202 (Nat.zero_add _) ?_)
      refine cL rfl (o_ldS (v := .int _ _) tt3 rfl rfl (cell_of (ca_row (xs := r0) rfl (encInt.wd false) s203) rfl) ?_)
      obtain ⟨s204, hv⟩ := hv
      refine cL rfl (o_add rfl rfl s204 ?_)
      obtain ⟨s205, hv⟩ := hv
      obtain ⟨s206, hv⟩ := hv
      refine cL rfl (o_iaS tt35 tt3 rfl rfl s205 (Nat.zero_add _) ?_)
      refine cLn (o_stR (v := .int _ _) tt3 rfl rfl rfl rfl rfl (row_in (xs := r0) (encInt.wd false) s206 rfl) (row_set (e := eInt) (encInt.wd false) _ _ ((lat r0 v5) + (1 : Int)) rfl s206.1 s206.2) ?_)
      refine eL ?_
      refine W.tr [] [.row _ _ _] trivial rfl ?_
      refine W.rL ?_
      refine cL rfl (o_assign (v := .bool _) rfl ?_)
      refine eL ?_
      refine W.tr [(4, .bool _)] [.row _ _ _] ⟨rfl, trivial⟩ rfl ?_
      refine W.ret ?_
      refine th_ret (bl_ret (th_ret (th_ret (bl_ret (th_ret (rt ?_))))))
      refine rt_t (v := .bool _) rfl ?_
      refine rt_n ?_
      exact ⟨_, (r0.set v5.toNat ((lat r0 v5) + (1 : Int))), true, rfl, rfl, hv⟩
    · have hv := hv.2 hc
      refine W.skip ?_
      refine th_nrm ?_
      refine W.tr [(0, .sub _ _ _), (1, .int _ _), (5, .int _ _)] [.row _ _ _] ⟨rfl, rfl, rfl, trivial⟩ rfl ?_
      refine W.rL1 ?_
      refine cL rfl (o_move (v := .sub _ _ _) rfl ?_)
      refine cL rfl (o_move (v := .int _ _) rfl ?_)
      refine cL rfl (o_move (v := .int _ _) rfl ?_)
      obtain ⟨s207, hv⟩ := hv
      refine cL rfl (o_neg rfl s207 ?_)
      obtain ⟨s208, hv⟩ := hv
      obtain ⟨s209, hv⟩ := hv
      refine cL rfl (o_iaS tt35 tt3 rfl rfl s208 (Nat.zero_add _) ?_)
      refine cLn (o_stR (v := .int _ _) tt3 rfl rfl rfl rfl rfl (row_in (xs := r0) (encInt.wd false) s209 rfl) (row_set (e := eInt) (encInt.wd false) _ _ (-most) rfl s209.1 s209.2) ?_)
      refine eL ?_
      refine bl_nrm (th_nrm ?_)
      refine W.tr [(0, .sub _ _ _), (1, .int _ _), (5, .int _ _)] [.row _ _ _] ⟨rfl, rfl, rfl, trivial⟩ rfl ?_
      refine W.rL1 ?_
      refine cL rfl (o_move (v := .int _ _) rfl ?_)
      obtain ⟨s210, hv⟩ := hv
      refine cL rfl (o_add rfl rfl s210 ?_)
      refine cL rfl (o_assign (v := .int _ _) rfl ?_)
      refine eL ?_
      exact th_nrm (⟨(), (v5 + (1 : Int)), (r0.set v5.toNat (-most)), hv, St.to_mk (φ := [some 0]) rfl (.inr (.inr rfl)) ⟨Ren.sub rfl, Ren.int _ _, Ren.int _ _, trivial⟩ ⟨.inr ⟨_, rfl, rfl, rfl, rfl, Rens.enc encInt false (r0.set v5.toNat (-most))⟩, trivial⟩⟩)
  · have hv := hv.2 hc
    refine W.exit ?_
    refine th_exit (th_exit (bl_hit (th_nrm ?_)))
    refine W.tr [] [.row _ _ _] trivial rfl ?_
    refine W.rL ?_
    refine cL rfl (o_assign (v := .bool _) rfl ?_)
    refine eL ?_
    refine W.tr [(4, .bool _)] [.row _ _ _] ⟨rfl, trivial⟩ rfl ?_
    refine W.ret ?_
    refine rt ?_
    refine rt_t (v := .bool _) rfl ?_
    refine rt_n ?_
    exact ⟨_, r0, false, rfl, rfl, hv⟩
theorem vcp_next (x : (List Int)) (m : Nat) (most : Int) (h0 : NextOk x m most) : vc_next x m most (fun q0 q1 => q0 = (nextM x m most).2 ∧ q1 = (nextM x m most).1) := by
  unfold vc_next
  obtain ⟨hm, hmost, hel, hlen⟩ := h0
  refine ⟨fun v r => ∃ i : Nat, v = i ∧ 1 ≤ i ∧ r.length = x.length ∧ (∀ v ∈ r, -1000 ≤ v ∧ v ≤ 1000) ∧ ∃ k, nextM x m most = nextFrom m most k i r ∧ m ≤ k + i, fun v _ => m - v.toNat, ⟨1, rfl, by omega, rfl, hel, m, rfl, by omega⟩, ?_⟩
  rintro _ r ⟨i, rfl, hi, hr, he, k, hk, hki⟩
  refine ⟨fun h1 => ?_, fun h1 => ?_⟩
  · obtain ⟨k, rfl⟩ : ∃ k', k = k' + 1 := ⟨k - 1, by omega⟩
    have hb := he _ (lat_mem (xs := r) (i := i) ⟨by omega, by omega⟩)
    have hl : lat r (i : Int) = r.getD i 0 := lat_nat _ _
    simp only [Int.toNat_natCast]
    refine ⟨by omega, by omega, fun h2 => ⟨by omega, by omega, by unfold inI; omega, by omega, by omega, ?_⟩, fun h2 => ⟨by unfold inI; omega, by omega, by omega, by unfold inI; omega, ⟨i + 1, by omega, by omega, by simpa using hr, fun v hv => ?_, k, ?_, by omega⟩, by omega⟩⟩
    · have : nextM x m most = (true, r.set i (lat r i + 1)) := by
        rw [hk]; show (if _ then (if _ then _ else _) else _) = _
        rw [if_pos (by omega), if_pos (by omega), hl]
      rw [this]; exact ⟨rfl, rfl⟩
    · rcases List.mem_or_eq_of_mem_set hv with h | h
      · exact he v h
      · omega
    · rw [hk]; show (if _ then (if _ then _ else _) else _) = _
      rw [if_pos (by omega), if_neg (by omega)]
  · have : nextM x m most = (false, r) := by
      rw [hk]
      cases k with
      | zero => rfl
      | succ k => show (if _ then _ else _) = _; rw [if_neg (by omega)]
    rw [this]; exact ⟨rfl, rfl⟩
theorem spec_next (x : (List Int)) (m : Nat) (most : Int) (h0 : NextOk x m most) : FnH Try.prog 33 [.row 3 1 (encL eInt x)] [.sub 0 0 m, .int .i64 most] (fun xR H => ∃ l, H = .row 3 1 (encL eInt ((nextM x m most).2)) :: l ∧ xR = .bool (nextM x m most).1) :=
  (walk_next (vcp_next x m most h0)).mono (by rintro _ _ ⟨l, _, _, h1, h2, rfl, rfl⟩; exact ⟨l, h1, h2⟩)
end Go.Lat
