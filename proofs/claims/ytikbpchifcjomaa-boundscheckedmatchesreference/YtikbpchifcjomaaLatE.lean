/- The law latecomerlaw07.BoundsCheckedMatchesReference returns true for every input, and each argument reads afterwards as it read before. Part 5 of 13. No condition. -/
import Derived.Test.YtikbpchifcjomaaLatD
set_option linter.unusedVariables false
set_option linter.unusedSimpArgs false
set_option linter.unnecessarySimpa false
namespace Go.Lat
theorem sizeM_at {n : Nat} {l : List Con} : sizeM n l = n + 1 ∨ ∃ v, v < n ∧ ∃ r, sizeAt n l v = some r ∧ sizeM n l = r := by
  rw [sizeM_eq]
  have K : ∀ q : Nat, (List.range q).foldl (sizeStep n l) ((n : Int) + 1) = n + 1 ∨ ∃ v, v < q ∧ ∃ r, sizeAt n l v = some r ∧ (List.range q).foldl (sizeStep n l) ((n : Int) + 1) = r := by
    intro q
    induction q with
    | zero => exact .inl rfl
    | succ q ih =>
      rw [List.range_succ, List.foldl_append]
      simp only [List.foldl_cons, List.foldl_nil]
      generalize (List.range q).foldl (sizeStep n l) ((n : Int) + 1) = z at ih
      unfold sizeStep
      rcases hq : sizeAt n l q with _ | r
      · dsimp only
        rcases ih with h | ⟨v, hv, h⟩
        · exact .inl h
        · exact .inr ⟨v, by omega, h⟩
      · dsimp only
        rcases Int.le_total z r with h1 | h1
        · rw [show min z (r : Int) = z by omega]
          rcases ih with h | ⟨v, hv, h⟩
          · exact .inl h
          · exact .inr ⟨v, by omega, h⟩
        · exact .inr ⟨q, by omega, r, hq, by omega⟩
  exact K _
theorem mem_drop {l : List Con} {i k : Nat} (h : k ≤ i) (hi : i < l.length) : l.getD i default ∈ l.drop k := by
  rw [List.mem_iff_getElem?]
  refine ⟨i - k, ?_⟩
  rw [List.getElem?_drop, show k + (i - k) = i by omega, List.getElem?_eq_getElem hi]
  simp [hi]
theorem of_mem_drop {l : List Con} {k : Nat} {c : Con} (h : c ∈ l.drop k) : ∃ i, k ≤ i ∧ i < l.length ∧ l.getD i default = c := by
  obtain ⟨j, hj, rfl⟩ := List.getElem_of_mem h
  rw [List.length_drop] at hj
  refine ⟨k + j, by omega, by omega, ?_⟩
  have : k + j < l.length := by omega
  simp [this]
section
variable {n : Nat} (hn : n ≤ 24) {l : List Con} (hg : Good n l) {v : Int} (hv : 0 ≤ v ∧ v < n) {s : Nat} {size : Int} (hsz : size ≤ 25)
include hn hg hv hsz
theorem chain_ok : ∀ (q : Nat) (out : List Int) (at_ total : Int), 0 ≤ at_ ∧ at_ < n → (out.length : Int) ≤ size → size ≤ q + out.length →
    (-(out.length * 1125899906842624 : Int) ≤ total ∧ total ≤ out.length * 1125899906842624) →
    ¬ vat (tabD l v s (size - out.length).toNat) at_.toNat = NB → total + vat (tabD l v s (size - out.length).toNat) at_.toNat < 0 →
    ∃ ext : List Int, chainC l (tabD l v s) size s q out at_ total = some (out ++ ext) ∧ ((out ++ ext).length : Int) = size ∧ (∀ i ∈ ext, 0 ≤ i ∧ i < (l.length : Int)) ∧
      Wk2 at_.toNat (ext.map (lat l)) v.toNat ∧ total + wt (ext.map (lat l)) < 0 := by
  intro q
  have hnb := hNB
  induction q with
  | zero =>
    intro out at_ total ha h1 h2 hb h3 h4
    have e : (size - out.length).toNat = 0 := by omega
    rw [e] at h3 h4
    have e2 : vat (tabD l v s 0) at_.toNat = if at_.toNat = v.toNat then 0 else NB := by
      show vat (vset _ _ _) _ = _
      rw [vat_vset (by omega), vat_rep (by omega)]
    rw [e2] at h3 h4
    split at h3
    · rename_i e3
      rw [if_pos e3] at h4
      exact ⟨[], by rw [List.append_nil]; rfl, by rw [List.append_nil]; omega, by simp, e3, by simpa [wt_nil] using h4⟩
    · exact (h3 rfl).elim
  | succ q ih =>
    intro out at_ total ha h1 h2 hb h3 h4
    by_cases hlt : (out.length : Int) < size
    · have hgd : Good n (l.drop (s + 1)) := fun c hc => hg c (List.mem_of_mem_drop hc)
      have ek : (size - out.length).toNat = (size - out.length - 1).toNat + 1 := by omega
      have e0 : ((s : Int) + 1).toNat = s + 1 := by omega
      have e : tabD l v s (size - out.length).toNat = (l.drop (s + 1)).foldl (relStep (tabD l v s (size - out.length - 1).toNat)) (Vector.replicate 24 NB) := by
        rw [ek]
        show longerM _ _ _ = _
        rw [longerM_eq, e0]
      have hTB : ∀ (k : Nat) u, u < n → -(25 * 1125899906842624 : Int) ≤ vat (tabD l v s k) u ∨ 25 < k := fun k u hu => by
        have := tabD_bd (l := l) (to := v) (above := (s : Int)) (fun c hc => ⟨⟨(hg c hc).1.1, by have := (hg c hc).1.2; omega⟩, (hg c hc).2.2.1⟩) ⟨hv.1, by omega⟩ k u
        omega
      have hex : ∃ i, (s + 1 ≤ i ∧ i < l.length) ∧ ((l.getD i default).f = at_ ∧ plusM (total + (l.getD i default).m) (vat (tabD l v s (size - out.length - 1).toNat) (l.getD i default).t.toNat) < 0) := by
        rw [e] at h3 h4
        rcases fold_ex hn (d := tabD l v s (size - out.length - 1).toNat) _ hgd (Vector.replicate 24 NB) at_.toNat with h5 | ⟨c, hc, h5, h6⟩
        · rw [h5, vat_rep (by omega)] at h3; exact (h3 rfl).elim
        · obtain ⟨c1, c2, c3⟩ := hgd c hc
          obtain ⟨i, i1, i2, i3⟩ := of_mem_drop hc
          refine ⟨i, ⟨i1, i2⟩, ?_⟩
          rw [i3]
          rw [h6] at h3 h4
          by_cases f : vat (tabD l v s (size - out.length - 1).toNat) c.t.toNat = NB
          · rw [plusM_inf (.inr f)] at h3; exact (h3 rfl).elim
          · rw [plusM_nb (by omega) f] at h4
            refine ⟨by omega, ?_⟩
            rw [plusM_nb (by omega) f]; omega
      rcases hnx : nextC l (tabD l v s) size s out.length at_ total with _ | i
      · exfalso
        obtain ⟨i, ⟨i1, i2⟩, i3⟩ := hex
        unfold nextC at hnx
        rw [List.find?_eq_none] at hnx
        refine hnx i ?_ (decide_eq_true i3)
        rw [List.range_eq_range', List.drop_range', List.mem_range'_1]; omega
      · have hm := List.mem_of_find?_eq_some hnx
        have hnx2 := hnx
        unfold nextC at hnx2
        have hp0 := List.find?_some hnx2
        have hp := of_decide_eq_true hp0
        rw [List.range_eq_range', List.drop_range', List.mem_range'_1] at hm
        have hi : i < l.length := by omega
        obtain ⟨c1, c2, c3⟩ := hg (l.getD i default) (by simp [hi])
        have f : ¬ vat (tabD l v s (size - out.length - 1).toNat) (l.getD i default).t.toNat = NB := fun f => by
          have := hp.2; rw [plusM_inf (.inr f)] at this; omega
        have hp2 := hp.2
        rw [plusM_nb (by omega) f] at hp2
        have hlen : ((out ++ [(i : Int)]).length : Int) = out.length + 1 := by simp
        have ee : (size - ((out ++ [(i : Int)]).length : Int)).toNat = (size - out.length - 1).toNat := by omega
        obtain ⟨ext, r1, r2, r3, r4, r5⟩ := ih (out ++ [(i : Int)]) (l.getD i default).t (total + (l.getD i default).m) c2 (by omega) (by omega) (by omega) (by rw [ee]; exact f) (by rw [ee]; omega)
        refine ⟨(i : Int) :: ext, ?_, ?_, fun j hj => ?_, ⟨?_, ?_⟩, ?_⟩
        · rw [chain_some hlt hnx, r1, List.append_assoc]; rfl
        · rw [← r2]; simp
        · rcases List.mem_cons.mp hj with h | h
          · omega
          · exact r3 j h
        · rw [lat_nat, hp.1]
        · rw [lat_nat]; exact r4
        · rw [List.map_cons, wt_cons, lat_nat]; omega
    · have e : (size - out.length).toNat = 0 := by omega
      rw [e] at h3 h4
      have e2 : vat (tabD l v s 0) at_.toNat = if at_.toNat = v.toNat then 0 else NB := by
        show vat (vset _ _ _) _ = _
        rw [vat_vset (by omega), vat_rep (by omega)]
      rw [e2] at h3 h4
      split at h3
      · rename_i e3
        rw [if_pos e3] at h4
        exact ⟨[], by rw [List.append_nil]; exact chain_done hlt, by rw [List.append_nil]; omega, by simp, e3, by simpa [wt_nil] using h4⟩
      · exact (h3 rfl).elim
end
/-- What firstAt returns. -/
theorem firstAt_spec {n : Nat} (hn : n ≤ 24) {l : List Con} (hg : Good n l) {size : Int} (h1 : 1 ≤ size) (hsz : size ≤ 25) {s : Nat} (hs : s < l.length) :
    (0 ≤ plusM (l.getD s default).m (vat (tabD l (l.getD s default).f s (size - 1).toNat) (l.getD s default).t.toNat) ∧ firstAt l size s = none) ∨ ∃ ext : List Int, firstAt l size s = some ((s : Int) :: ext) ∧ (((s : Int) :: ext).length : Int) = size ∧ (∀ i ∈ ((s : Int) :: ext), 0 ≤ i ∧ i < (l.length : Int)) ∧
      NegW l (l.getD s default).f.toNat (((s : Int) :: ext).map (lat l)) := by
  have hnb := hNB
  obtain ⟨c1, c2, c3⟩ := hg (l.getD s default) (by simp [hs])
  by_cases h : 0 ≤ plusM (l.getD s default).m (vat (tabD l (l.getD s default).f s (size - 1).toNat) (l.getD s default).t.toNat)
  · exact .inl ⟨h, firstAt_none h⟩
  · refine .inr ?_
    rw [firstAt_some h]
    have f : ¬ vat (tabD l (l.getD s default).f s (size - 1).toNat) (l.getD s default).t.toNat = NB := fun f => by
      rw [plusM_inf (.inr f)] at h; omega
    rw [plusM_nb (by omega) f] at h
    obtain ⟨ext, r1, r2, r3, r4, r5⟩ := chain_ok hn hg c1 (s := s) hsz size.toNat [(s : Int)] (l.getD s default).t (l.getD s default).m c2 (by simp; omega) (by simp; omega) (by simp only [List.length_cons, List.length_nil]; omega) (by simpa using f) (by simp only [List.length_cons, List.length_nil]; simp only [Nat.zero_add]; exact Int.lt_of_not_ge h)
    have hall : ∀ i ∈ ((s : Int) :: ext), 0 ≤ i ∧ i < (l.length : Int) := fun i hi => by
      rcases List.mem_cons.mp hi with h | h
      · omega
      · exact r3 i h
    refine ⟨ext, r1, r2, hall, fun c hc => ?_, ?_, ?_⟩
    · rw [List.mem_map] at hc
      obtain ⟨i, hi, rfl⟩ := hc
      exact lat_mem (hall i hi)
    · rw [List.map_cons, lat_nat]; exact ⟨rfl, r4⟩
    · rw [List.map_cons, wt_cons, lat_nat]; exact r5
end Go.Lat
namespace Go.Lat
theorem min_by {α : Type} (f : α → Nat) : ∀ {l : List α}, l ≠ [] → ∃ a ∈ l, ∀ b ∈ l, f a ≤ f b
  | [a], _ => ⟨a, by simp, fun b hb => by rw [List.mem_singleton] at hb; rw [hb]; exact Nat.le_refl _⟩
  | a :: b :: l, _ => by
    obtain ⟨c, hc, h⟩ := min_by f (l := b :: l) (by simp)
    rcases Nat.le_total (f a) (f c) with h1 | h1
    · refine ⟨a, by simp, fun d hd => ?_⟩
      rcases List.mem_cons.mp hd with h2 | h2
      · rw [h2]; exact Nat.le_refl _
      · exact Nat.le_trans h1 (h d h2)
    · refine ⟨c, by simp [hc], fun d hd => ?_⟩
      rcases List.mem_cons.mp hd with h2 | h2
      · rw [h2]; exact h1
      · exact h d h2
structure FirstC (n : Nat) (l : List Con) (c : List Int) : Prop where
  len : (c.length : Int) = sizeM n l
  sz : 1 ≤ sizeM n l ∧ sizeM n l ≤ n
  idx : ∀ i ∈ c, 0 ≤ i ∧ i < (l.length : Int)
  neg : ∃ u, NegW l u (c.map (lat l))
theorem first_cycle {n : Nat} (hn : 1 ≤ n ∧ n ≤ 24) {l : List Con} (hg : Good n l) (hinf : ∀ x, ¬ SolL l x) : FirstC n l (firstM n l) := by
  have hnb := hNB
  have hg24 : Good 24 l := fun c hc => by have := hg c hc; omega
  have hno : addAll freeM l = none := by
    rcases e : addAll freeM l with _ | m
    · rfl
    · obtain ⟨x, hx⟩ := ((close_spec hg24).1 m e).sol_ex
      exact (hinf x hx).elim
  obtain ⟨u0, w0, -, a1, a2, a3⟩ := neg_of_none l CM.free byw_free (fun _ h => by cases h) hg24 hno
  have hN0 : NegW l u0 w0 := ⟨by simpa using a1, a2, a3⟩
  obtain ⟨u1, w1, hN1, -, hmin1⟩ := neg_short w0.length u0 w0 hN0 (Nat.le_refl _)
  have hs1 := simple_of_min hN1 hmin1
  have hl1 := simple_len hg hN1.1 hs1
  have hszn : sizeM n l ≤ n := by have := size_le hn hg hN1; omega
  have hsz1 := (sizeM_bd (n := (n : Int)) (l := l) (by omega) n (by omega)).1
  rw [show (List.range n) = List.range ((n : Int)).toNat by simp, ← sizeM_eq] at hsz1
  -- a closed walk of that size
  obtain ⟨v, hv, r, hr1, hr2⟩ := (sizeM_at (n := n) (l := l)).resolve_left (by omega)
  have hneg : vat (tabD l v (-1) r) v < 0 := by
    unfold sizeAt at hr1
    have h0 := List.find?_some hr1
    exact of_decide_eq_true h0
  obtain ⟨W, b1, b2, b3, b4⟩ := tab_ex hn.2 hg (v := (v : Int)) (by omega) (above := -1) r v hv (by omega)
  have hNW : NegW l v W := ⟨by simpa using b2, by simpa using b3, by rw [b4]; exact hneg⟩
  have hminW : ∀ u'' w'', NegW l u'' w'' → W.length ≤ w''.length := fun u'' w'' h => by have := size_le hn hg h; omega
  have hsW := simple_of_min hNW hminW
  -- the constraint of it that comes first
  have hi : ∀ c : Con, ∃ i : Nat, c ∈ l → i < l.length ∧ l.getD i default = c := fun c => by
    by_cases h : c ∈ l
    · obtain ⟨i, hi, rfl⟩ := List.getElem_of_mem h
      exact ⟨i, fun _ => ⟨hi, by simp [hi]⟩⟩
    · exact ⟨0, fun h' => (h h').elim⟩
  obtain ⟨ι, hι⟩ : ∃ ι : Con → Nat, ∀ c, c ∈ l → ι c < l.length ∧ l.getD (ι c) default = c := ⟨fun c => (hi c).choose, fun c => (hi c).choose_spec⟩
  have hWne : W ≠ [] := fun e => by have := hNW.2.2; rw [e, wt_nil] at this; omega
  obtain ⟨c, hcW, hcm⟩ := min_by ι hWne
  obtain ⟨x, y, hxy⟩ := List.append_of_mem hcW
  have hcl := hNW.1 c hcW
  obtain ⟨s1, s2⟩ := hι c hcl
  obtain ⟨cf, ct, cm⟩ := hg c hcl
  have hrest : ∀ d ∈ y ++ x, d ∈ l.drop (ι c + 1) := fun d hd => by
    have hdW : d ∈ W := by rw [hxy]; simp only [List.mem_append, List.mem_cons] at hd ⊢; rcases hd with h | h
                           · exact .inr (.inr h)
                           · exact .inl h
    obtain ⟨t1, t2⟩ := hι d (hNW.1 d hdW)
    have h1 := hcm d hdW
    have h2 : ¬ ι d = ι c := fun e => by
      have e2 : d = c := by rw [← t2, ← s2, e]
      subst e2
      rw [hxy, List.pairwise_append, List.pairwise_cons] at hsW
      rcases List.mem_append.mp hd with h | h
      · exact hsW.2.1.1 d h rfl
      · exact hsW.2.2 d h d (by simp) rfl
    rw [← t2]
    exact mem_drop (by omega) t1
  have hwalk : Wk2 c.t.toNat (y ++ x) c.f.toNat := by
    have h := hNW.2.1
    rw [hxy] at h
    obtain ⟨z, p1, p2⟩ := h.split
    have e := p2.1
    exact p2.2.app (by rw [e]; exact p1)
  have hwt : c.m + wt (y ++ x) < 0 := by
    have h := hNW.2.2
    rw [hxy, wt_append, wt_cons] at h
    rw [wt_append]; omega
  have hlen : (y ++ x).length + 1 = r := by rw [← b1, hxy]; simp; omega
  have htab := tab_le hn.2 hg (v := c.f) cf (above := (ι c : Int)) (r - 1) c.t.toNat (y ++ x) (by omega) (by omega) (by omega) (by rw [show ((ι c : Int) + 1).toNat = ι c + 1 by omega]; exact hrest) hwalk
  have hbd := wt_bd (fun c hc => hg c (List.mem_of_mem_drop hc)) hrest
  -- so a chain is found
  have hz : ∃ o, (List.range l.length).findSome? (fun s => firstAt l (sizeM n l) s) = some o := by
    rcases e : (List.range l.length).findSome? (fun s => firstAt l (sizeM n l) s) with _ | o
    · exfalso
      rw [List.findSome?_eq_none_iff] at e
      have h0 := e (ι c) (List.mem_range.mpr s1)
      have ht : ¬ 0 ≤ plusM (l.getD (ι c) default).m (vat (tabD l (l.getD (ι c) default).f (ι c) (sizeM n l - 1).toNat) (l.getD (ι c) default).t.toNat) := by
        rw [s2, show (sizeM n l - 1).toNat = r - 1 by omega]
        have : (y ++ x).length ≤ 24 := by omega
        rw [plusM_nb (by omega) (by omega)]
        omega
      rcases firstAt_spec hn.2 hg hsz1 (size := sizeM n l) (by omega) s1 with h | ⟨ext, h, -⟩
      · exact ht h.1
      · rw [h0] at h; cases h
    · exact ⟨o, rfl⟩
  obtain ⟨o, ho⟩ := hz
  have hfm : firstM n l = o := by unfold firstM; rw [ho]; rfl
  obtain ⟨s, hs, hso⟩ := List.exists_of_findSome?_eq_some ho
  rcases firstAt_spec hn.2 hg hsz1 (size := sizeM n l) (by omega) (List.mem_range.mp hs) with h | ⟨ext, h, h2, h3, h4⟩
  · rw [h.2] at hso; cases hso
  · rw [h] at hso
    cases hso
    rw [hfm]
    exact ⟨h2, ⟨hsz1, hszn⟩, h3, _, h4⟩
end Go.Lat
namespace Go.Lat
theorem cycStep_iff {l : List Con} {c : List Int} {i : Nat} : cycStep l c i = true ↔ ((0 ≤ lat c i ∧ lat c i < (l.length : Int)) ∧ ∀ j : Nat, j < i → ¬ (lat l (lat c j)).f = (lat l (lat c i)).f) ∧ (i = 0 ∨ (lat l (lat c (i - 1))).t = (lat l (lat c i)).f) := by
  unfold cycStep
  simp only [Bool.and_eq_true, Bool.or_eq_true, List.all_eq_true, decide_eq_true_iff, List.mem_range]
theorem cycleM_iff {l : List Con} {c : List Int} : cycleM l c = true ↔ ((validM 24 l = true ∧ 1 ≤ c.length ∧ c.length ≤ 24) ∧ ∀ i : Nat, i < c.length → cycStep l c i = true) ∧ (c.map fun k => (lat l k).m).sum < 0 ∧ (lat l (lat c (c.length - 1))).t = (lat l (lat c 0)).f := by
  unfold cycleM
  simp only [Bool.and_eq_true, List.all_eq_true, decide_eq_true_iff, List.mem_range]
theorem valid24 {n : Int} {l : List Con} (h : validM n l = true) : validM 24 l = true := by
  rw [validM_iff] at h ⊢
  obtain ⟨⟨a, b, c⟩, d⟩ := h
  refine ⟨⟨by omega, by omega, c⟩, fun x hx => ?_⟩
  have := d x hx
  rw [possM_iff] at this ⊢
  omega
theorem wk_idx : ∀ {w : List Con} {u v : Nat}, Wk2 u w v → (∀ h : 0 < w.length, w[0].f.toNat = u) ∧ (∀ i (h : i + 1 < w.length), w[i].t.toNat = w[i + 1].f.toNat) ∧ (∀ i (h : i + 1 = w.length), w[i].t.toNat = v)
  | [], _, _, _ => ⟨fun h => by simp at h, fun _ h => by simp at h, fun _ h => by simp at h⟩
  | c :: w, u, v, hk => by
    obtain ⟨h1, h2, h3⟩ := wk_idx hk.2
    refine ⟨fun _ => hk.1, fun i h => ?_, fun i h => ?_⟩
    · rcases i with _ | i
      · have := h1 (by simp at h; omega)
        simp [this]
      · have := h2 i (by simp at h; omega)
        simpa using this
    · rcases i with _ | i
      · have : w = [] := List.eq_nil_of_length_eq_zero (by rw [List.length_cons] at h; omega)
        subst this
        exact hk.2
      · have := h3 i (by simp at h; omega)
        simpa using this
theorem lat_m {l : List Con} {c : List Int} {i : Nat} (h : i < c.length) : lat l (lat c i) = (c.map (lat l))[i]'(by simpa using h) := by
  rw [lat_get h]; simp
theorem FirstC.cycle {n : Nat} (hn : 1 ≤ n ∧ n ≤ 24) {l : List Con} {c : List Int} (hv : validM n l = true) (h : FirstC n l c) : cycleM l c = true := by
  have hg : Good n l := by simpa using validM_goodn hv
  obtain ⟨u, hN⟩ := h.neg
  have hs := simple_of_min hN (fun u'' w'' h'' => by have := size_le hn hg h''; have := h.len; simp only [List.length_map]; omega)
  have hlen := h.len
  have hsz := h.sz
  obtain ⟨k1, k2, k3⟩ := wk_idx hN.2.1
  have hG : ∀ i : Nat, i < c.length → ((0 ≤ lat c i ∧ lat c i < (l.length : Int)) ∧ (0 ≤ (lat l (lat c i)).f ∧ 0 ≤ (lat l (lat c i)).t)) := fun i hi => by
    have hb := h.idx (lat c i) (lat_mem ⟨by omega, by omega⟩)
    obtain ⟨a, b, -⟩ := hg _ (lat_mem hb)
    exact ⟨hb, a.1, b.1⟩
  have hml : (c.map (lat l)).length = c.length := by simp
  refine cycleM_iff.mpr ⟨⟨⟨valid24 hv, by omega, by omega⟩, fun i hi => cycStep_iff.mpr ⟨⟨(hG i hi).1, fun j hj e => ?_⟩, ?_⟩⟩, ?_, ?_⟩
  · rw [List.pairwise_iff_getElem] at hs
    refine hs j i (by omega) (by omega) hj ?_
    rw [← lat_m (by omega), ← lat_m (by omega), e]
  · rcases i with _ | i
    · exact .inl rfl
    · refine .inr ?_
      have := k2 i (by omega)
      rw [← lat_m (by omega), ← lat_m (by omega)] at this
      have a := hG i (by omega)
      have b := hG (i + 1) (by omega)
      rw [show (((i + 1 : Nat) : Int) - 1) = (i : Int) by omega]
      omega
  · have := hN.2.2
    unfold wt at this
    rwa [List.map_map] at this
  · have e1 := k1 (by omega)
    have e2 := k3 (c.length - 1) (by omega)
    rw [← lat_m (by omega)] at e1 e2
    have a := hG 0 (by omega)
    have b := hG (c.length - 1) (by omega)
    rw [show ((c.length : Int) - 1) = ((c.length - 1 : Nat) : Int) by omega]
    simp only [Int.natCast_zero] at e1 a
    omega
theorem wk_tele {x : Nat → Int} : ∀ {w : List Con} {u v : Nat}, Wk2 u w v → SolL w x → x v - x u ≤ wt w
  | [], _, _, h, _ => by cases h; rw [wt_nil]; omega
  | c :: w, u, v, h, hs => by
    have := wk_tele h.2 (fun d hd => hs d (by simp [hd]))
    have h1 := hs c (by simp)
    have h2 := h.1
    rw [wt_cons]
    subst h2
    omega
theorem NegW.none {l : List Con} {u : Nat} {w : List Con} (h : NegW l u w) (x : Nat → Int) : ¬ SolL w x := fun hs => by
  have := wk_tele h.2.1 hs
  have := h.2.2
  omega
end Go.Lat
namespace Go.Lat
/-! ### The reference side: tables of least sums, the first cycle -/
def leastM (n : Int) (l : List Con) (above to most : Int) : List (List Int) :=
  (List.range (most.toNat + 1)).map fun r => (List.range n.toNat).map fun v => vat (tabD l to above r) v
structure LeastOk (n : Int) (l : List Con) (above to most : Int) : Prop where
  v : validM n l = true
  a : 0 ≤ above + 1 ∧ above + 1 ≤ l.length
  t : 0 ≤ to ∧ to < n
  k : 0 ≤ most ∧ most ≤ 24
def rfirstM (n : Int) (l : List Con) : List Int := if sizeM n l ≤ n then firstM n l else []
end Go.Lat
namespace Go.Lat
def rowL (n : Nat) (o : Vector Int 24) : List Int := (List.range n).map fun v => vat o v
theorem rowL_len {n : Nat} {o : Vector Int 24} : (rowL n o).length = n := by simp [rowL]
theorem lat_rowL {n : Nat} {o : Vector Int 24} {v : Int} (h : 0 ≤ v ∧ v < n) : lat (rowL n o) v = vat o v.toNat := by
  obtain ⟨k, rfl⟩ : ∃ k : Nat, v = k := ⟨v.toNat, by omega⟩
  unfold rowL; rw [lat_map (by omega)]; simp
theorem set_row {n : Nat} (hn : n ≤ 24) {o : Vector Int 24} {f : Nat} (hf : f < n) {x : Int} : (rowL n o).set f x = rowL n (vset o f x) := by
  unfold rowL
  rw [map_set]
  refine List.map_congr_left fun k _ => ?_
  rw [vat_vset (by omega)]
theorem relStep_set {d o : Vector Int 24} {c : Con} (hx : plusM c.m (vat d c.t.toNat) ≤ NB) (ho : vat o c.f.toNat ≤ NB) (h : ¬ plusM c.m (vat d c.t.toNat) = NB ∧ (vat o c.f.toNat = NB ∨ plusM c.m (vat d c.t.toNat) < vat o c.f.toNat)) : relStep d o c = vset o c.f.toNat (plusM c.m (vat d c.t.toNat)) := by
  unfold relStep
  rw [Int.min_eq_right (by omega)]
theorem relStep_keep {d o : Vector Int 24} {c : Con} (hf : c.f.toNat < 24) (ho : vat o c.f.toNat ≤ NB) (h : ¬ (¬ plusM c.m (vat d c.t.toNat) = NB ∧ (vat o c.f.toNat = NB ∨ plusM c.m (vat d c.t.toNat) < vat o c.f.toNat))) : relStep d o c = o := by
  unfold relStep
  rw [Int.min_eq_left (by omega)]
  refine vec_ext fun k hk => ?_
  rw [vat_vset hf]
  split
  · rename_i e; rw [e]
  · rfl
theorem tab_fin {n : Nat} (hn : n ≤ 24) {l : List Con} (hg : Good n l) {v : Int} (hv : 0 ≤ v ∧ v < n) {above : Int} {r u : Nat} (hr : r ≤ 25) (hu : u < n) : vat (tabD l v above r) u = NB ∨ (-28147497671065600 ≤ vat (tabD l v above r) u ∧ vat (tabD l v above r) u ≤ 28147497671065600) := by
  have hnb := hNB
  have hb := tabD_bd (l := l) (to := v) (above := above) (fun c hc => ⟨⟨(hg c hc).1.1, by have := (hg c hc).1.2; omega⟩, (hg c hc).2.2.1⟩) ⟨hv.1, by omega⟩ r u
  by_cases h : vat (tabD l v above r) u < NB
  · obtain ⟨w, w1, w2, -, w4⟩ := tab_ex hn hg hv r u hu h
    have := wt_bd (fun c hc => hg c (List.mem_of_mem_drop hc)) w2
    exact .inr (by omega)
  · exact .inl (by omega)
theorem plus_fin {c : Con} {d : Int} (hc : -1125899906842624 ≤ c.m ∧ c.m ≤ 1125899906842624) (hd : d = NB ∨ (-28147497671065600 ≤ d ∧ d ≤ 28147497671065600)) : plusM c.m d = NB ∨ (-29273397577908224 ≤ plusM c.m d ∧ plusM c.m d ≤ 29273397577908224) := by
  have hnb := hNB
  rcases hd with h | h
  · exact .inl (plusM_inf (.inr h))
  · rw [plusM_nb (by omega) (by omega)]; exact .inr (by omega)
/-- The part of a row of the table that the first constraints give. -/
def partR (l : List Con) (a : Nat) (d : Vector Int 24) (i : Nat) : Vector Int 24 := ((l.drop a).take (i - a)).foldl (relStep d) (Vector.replicate 24 NB)
theorem partR_start {l : List Con} {a : Nat} {d : Vector Int 24} : partR l a d a = Vector.replicate 24 NB := by unfold partR; simp
theorem partR_step {l : List Con} {a i : Nat} {d : Vector Int 24} (ha : a ≤ i) (hi : i < l.length) : partR l a d (i + 1) = relStep d (partR l a d i) (lat l i) := by
  unfold partR
  rw [show i + 1 - a = (i - a) + 1 by omega, List.take_add_one, List.foldl_append, List.getElem?_drop, show a + (i - a) = i by omega, List.getElem?_eq_getElem hi, lat_get hi]
  rfl
theorem partR_end {l : List Con} {above : Int} {d : Vector Int 24} {i : Nat} (hi : l.length ≤ i) : partR l (above + 1).toNat d i = longerM l d above := by
  unfold partR
  rw [longerM_eq, List.take_of_length_le (by rw [List.length_drop]; omega)]
theorem partR_le {n : Nat} (hn : n ≤ 24) {l : List Con} (hg : Good n l) {a i : Nat} {d : Vector Int 24} (u : Nat) (hu : u < 24) : vat (partR l a d i) u ≤ NB := by
  have h := (fold_le hn (d := d) ((l.drop a).take (i - a)) (fun c hc => hg c (List.mem_of_mem_drop (List.mem_of_mem_take hc))) (Vector.replicate 24 NB)).1 u
  rw [vat_rep hu] at h
  exact h
end Go.Lat
namespace Go.Lat
theorem least_len {n : Int} {l : List Con} {a t k : Int} (hk : 0 ≤ k) : ((leastM n l a t k).length : Int) = k + 1 := by unfold leastM; simp; omega
theorem least_row {n : Int} {l : List Con} {a t k : Int} {q : Int} (hq : 0 ≤ q ∧ q ≤ k) : lat (leastM n l a t k) q = rowL n.toNat (tabD l t a q.toNat) := by
  obtain ⟨q, rfl⟩ : ∃ x : Nat, q = x := ⟨q.toNat, by omega⟩
  unfold leastM
  rw [lat_nat, List.getD_eq_getElem?_getD, List.getElem?_map, List.getElem?_range (by omega)]
  rfl
theorem least_at {n : Int} {l : List Con} {a t k : Int} {q u : Int} (hq : 0 ≤ q ∧ q ≤ k) (hu : 0 ≤ u ∧ u < n) : lat (lat (leastM n l a t k) q) u = vat (tabD l t a q.toNat) u.toNat := by
  rw [least_row hq, lat_rowL (by omega)]
theorem least_rlen {n : Int} {l : List Con} {a t k : Int} {q : Int} (hn : 0 ≤ n) (hq : 0 ≤ q ∧ q ≤ k) : ((lat (leastM n l a t k) q).length : Int) = n := by
  rw [least_row hq, rowL_len]; omega
theorem Wk2.det : ∀ {w : List Con} {u v v' : Nat}, Wk2 u w v → Wk2 u w v' → v = v'
  | [], _, _, _, h, h' => by cases h; exact h'
  | _ :: _, _, _, _, h, h' => h.2.det h'.2
def zenc (n s : Int) : Int := if s = n + 1 then 0 else s
theorem chain_all {n : Nat} (hn : n ≤ 24) {l : List Con} (hg : Good n l) {size : Int} (hsz : 1 ≤ size ∧ size ≤ 25) {s : Nat} (hs : s < l.length)
    {out e : List Int} {at_ total : Int} (he : out = (s : Int) :: e) (hw : Wk2 (l.getD s default).t.toNat (e.map (lat l)) at_.toNat) (ht : total = (l.getD s default).m + wt (e.map (lat l))) (ha : 0 ≤ at_)
    (hm : ∀ i ∈ e, (s : Int) + 1 ≤ i ∧ i < (l.length : Int)) (hC : chainC l (tabD l (l.getD s default).f s) size s size.toNat [(s : Int)] (l.getD s default).t (l.getD s default).m = some out) (hlen : (out.length : Int) = size) :
    ((at_ = (l.getD s default).f ∧ total < 0) → firstAt l size s = some out) ∧ (¬ (at_ = (l.getD s default).f ∧ total < 0) → firstAt l size s = none) := by
  have hnb := hNB
  obtain ⟨c1, c2, c3⟩ := hg (l.getD s default) (by simp [hs])
  have hmd : ∀ d ∈ e.map (lat l), d ∈ l.drop (s + 1) := fun d hd => by
    rw [List.mem_map] at hd
    obtain ⟨i, hi, rfl⟩ := hd
    have := hm i hi
    obtain ⟨i, rfl⟩ : ∃ k : Nat, i = k := ⟨i.toNat, by omega⟩
    rw [lat_nat]
    exact mem_drop (by omega) (by omega)
  have hel : (e.map (lat l)).length = (size - 1).toNat := by rw [he] at hlen; simp at hlen ⊢; omega
  have e0 : ((s : Int) + 1).toNat = s + 1 := by omega
  refine ⟨fun ⟨k1, k2⟩ => ?_, fun k => ?_⟩
  · have hle := tab_le hn hg c1 (above := (s : Int)) (size - 1).toNat (l.getD s default).t.toNat (e.map (lat l)) (by omega) (by omega) hel (by rw [e0]; exact hmd) (by rw [← k1]; exact hw)
    have hb := wt_bd (fun c hc => hg c (List.mem_of_mem_drop hc)) hmd
    have : ¬ 0 ≤ plusM (l.getD s default).m (vat (tabD l (l.getD s default).f s (size - 1).toNat) (l.getD s default).t.toNat) := by
      rw [plusM_nb (by omega) (by omega)]
      omega
    rw [firstAt_some this]
    exact hC
  · rcases firstAt_spec hn hg hsz.1 hsz.2 hs with h | ⟨ext, h, h2, h3, h4⟩
    · exact h.2
    · exfalso
      have hP : ¬ 0 ≤ plusM (l.getD s default).m (vat (tabD l (l.getD s default).f s (size - 1).toNat) (l.getD s default).t.toNat) := fun hp => by
        rw [firstAt_none hp] at h; cases h
      rw [firstAt_some hP] at h
      have h5 : chainC l (tabD l (l.getD s default).f s) size s size.toNat [(s : Int)] (l.getD s default).t (l.getD s default).m = some ((s : Int) :: ext) := h
      rw [hC] at h5
      have h6 : out = (s : Int) :: ext := Option.some.inj h5
      rw [he] at h6
      have h7 : e = ext := (List.cons.inj h6).2
      subst h7
      obtain ⟨-, k2, k3⟩ := h4
      rw [List.map_cons, lat_nat] at k2 k3
      have := hw.det k2.2
      rw [wt_cons] at k3
      exact k ⟨by omega, by omega⟩
theorem rfirst_len {n : Int} {l : List Con} (hv : validM n l = true) : (rfirstM n l).length ≤ 24 := by
  obtain ⟨⟨hn1, hn2, hlen⟩, hp⟩ := validM_iff.mp hv
  have hg := validM_goodn hv
  unfold rfirstM
  split
  · rename_i h
    have h1 := (sizeM_bd (l := l) ⟨hn1, hn2⟩ n.toNat (by omega)).1
    rw [← sizeM_eq] at h1
    unfold firstM
    rcases e : (List.range l.length).findSome? fun s => firstAt l (sizeM n l) s with _ | o
    · simp
    · obtain ⟨s, hs, hso⟩ := List.exists_of_findSome?_eq_some e
      rcases firstAt_spec (by omega) hg h1 (by omega) (List.mem_range.mp hs) with h2 | ⟨ext, h2, h3, -⟩
      · rw [h2.2] at hso; cases hso
      · rw [h2] at hso
        cases hso
        show (_ :: _).length ≤ 24
        omega
  · simp
end Go.Lat
namespace Go.Lat
open Go.RowKit

/-! ### A region that draws its order, with one call that makes an object or changes one: all others come before it, or behind -/
def stepM (P : Program) (T : TT) (ops : Array Oper) (p i : Nat) (st : St) (K : St → Prop) : Prop :=
  if i = p then match ops[i]? with
    | none => K st
    | some o => stepH P T ops.toList o st K
  else stepI P T ops i st K
def seqM (P : Program) (T : TT) (ops : Array Oper) (p : Nat) : List Nat → St → (St → Prop) → Prop
  | [], st, K => K st
  | i :: l, st, K => stepM P T ops p i st fun s => seqM P T ops p l s K
def anyM (P : Program) (T : TT) (ops : Array Oper) (p : Nat) (K : St → Prop) : Nat → Array Bool → St → Prop
  | 0, listed, st => Region.ready .any ops listed = [] ∧ K st
  | n + 1, listed, st => Wf st → (Region.ready .any ops listed = [] → K st) ∧ ∀ i ∈ Region.ready .any ops listed, stepM P T ops p i st fun s => anyM P T ops p K n (listed.setIfInBounds i true) s

section
variable {X : Nat → Prop} {D : List Deferred × Rho} {w0 : World} {mA : Mem} {r : Rho} {m : MM} {st : St} {a : Act} {w : World} {P : Program} {T : TT} {ops : Array Oper} {K K' : St → Prop} {p : Nat}

theorem stepH_sound (hT : TsOk P T) (hR : R X D w0 mA r m st a w) {o : Oper} (h : stepH P T ops.toList o st K) {ro : Option Nat} {n : Nat} {next : Act → World → Prop} {Q : Exit → Act → World → Prop}
    (hnext : ∀ s r' m' a' w', K s → R X D w0 mA r' m' s a' w' → next a' w') :
    if Region.wanted o (yielded ops a.tmps) then o.wpIn (FW ro) n P a w next Q else (∀ f, o.about P w a.eval = some f → (FW ro).fn f) ∧ next (a.put o.dst undef) w := by
  unfold stepH at h
  split at h
  · rename_i d f args tys ty pos af
    rw [if_pos (by rfl)]
    rcases h with h | h
    · exact opC_sound (o := ⟨d, .call ⟨.value f, args, tys⟩, ty, pos, af, none⟩) hT hR (K := fun v h => K (St.put ⟨st.nt, st.tm, h, st.ho⟩ d v)) h fun x h' r' m' u w' hK hR' hv => hnext _ _ _ _ w' hK (hR'.put d hv)
    · exact callH_sound (o := ⟨d, .call ⟨.value f, args, tys⟩, ty, pos, af, none⟩) hR rfl (K := fun v h => K (St.put ⟨st.nt, st.tm, h, st.ho⟩ d v)) h fun x h' r' m' u w' hK hR' hv => hnext _ _ _ _ w' hK (hR'.put d hv)
  · exact stepG_sound hT hR h hnext

theorem callH_mono {h : List AObj} {f : AV} {args : List AV} {A B : AV → List AObj → Prop} (hc : callH P h f args A) (hab : ∀ v h', A v h' → B v h') : callH P h f args B := by
  unfold callH at hc ⊢
  split at hc <;> try exact hc.elim
  rcases hc with ⟨Post, hfn, hpost⟩ | ⟨id, ob, x0, y0, ys, Post, hae, hob, hfl, hx0, hfn, hpost⟩ | ⟨nb, Post, hfn, hpost⟩
  · exact .inl ⟨Post, hfn, fun o ho => hab _ _ (hpost o ho)⟩
  · exact .inr (.inl ⟨id, ob, x0, y0, ys, Post, hae, hob, hfl, hx0, hfn, fun x o ho => hab _ _ (hpost x o ho)⟩)
  · exact .inr (.inr ⟨nb, Post, hfn, fun n o ho => hab _ _ (hpost n o ho)⟩)
theorem stepH_mono {o : Oper} (h : stepH P T ops.toList o st K) (hk : ∀ s, K s → K' s) : stepH P T ops.toList o st K' := by
  unfold stepH at h ⊢
  split at h
  · rename_i d f args tys ty pos af
    rcases h with h | h
    · exact .inl (stepG_mono' (T := T) (ops := ops) (o := ⟨d, .call ⟨.value f, args, tys⟩, ty, pos, af, none⟩) h hk)
    · exact .inr (callH_mono h fun v h' hv => hk _ hv)
  · exact stepG_mono' h hk
theorem stepM_mono {i : Nat} (h : stepM P T ops p i st K) (hk : ∀ s, K s → K' s) : stepM P T ops p i st K' := by
  unfold stepM at h ⊢
  split
  · rename_i e
    rw [if_pos e] at h
    split at h
    · exact hk _ h
    · exact stepH_mono h hk
  · rename_i e
    rw [if_neg e] at h
    unfold stepI at h ⊢
    split at h
    · exact hk _ h
    · exact stepG_mono' h hk

theorem anyM_sound (hT : TsOk P T) {ro : Option Nat} {n : Nat} {Q : Exit → Act → World → Prop} (hQ : ∀ s r' m' a' w', K s → R X D w0 mA r' m' s a' w' → Q .normal a' w') :
    ∀ (fuel : Nat) (listed : Array Bool) {r : Rho} {m : MM} {st : St} {a : Act} {w : World}, R X D w0 mA r m st a w → anyM P T ops p K fuel listed st → wpAnyIn (FW ro) n P .any ops Q fuel listed a w
  | 0, listed, _, _, _, _, _, hR, h => ⟨h.1, hQ _ _ _ _ _ h.2 hR⟩
  | fuel + 1, listed, _, _, _, _, _, hR, h => by
    obtain ⟨h1, h2⟩ := h hR.wf
    refine ⟨fun hn => hQ _ _ _ _ _ (h1 hn) hR, fun i hi => ?_⟩
    have h3 := h2 i hi
    unfold stepM stepI at h3
    unfold wpOpIn
    split
    · rename_i ho
      rw [ho] at h3
      simp only [ite_self] at h3
      exact anyM_sound hT hQ fuel _ hR h3
    · rename_i o ho
      rw [ho] at h3
      simp only at h3
      split at h3
      · exact stepH_sound hT hR h3 fun s r' m' a' w' hs hR' => anyM_sound hT hQ fuel _ hR' hs
      · exact stepG_sound hT hR h3 fun s r' m' a' w' hs hR' => anyM_sound hT hQ fuel _ hR' hs

theorem bubbleM {oi : Oper} {i : Nat} (ho : ops[i]? = some oi) (hip : i ≠ p) {st0 : St} (hw : Wf st0) {rest : List Nat} : ∀ (pre : List Nat) (st : St), Inv ops oi st0 st → p ∉ pre →
    (∀ j ∈ pre, okP ops j i = true) → seqM P T ops p (pre ++ i :: rest) st K → stepG P T ops.toList oi st fun s => seqM P T ops p (pre ++ rest) s K
  | [], st, _, _, _, h => by
    simp only [List.nil_append, seqM, stepM, if_neg hip, stepI, ho] at h ⊢
    exact h
  | j :: pre, st, hI, hnp, hp, h => by
    have hj := hp j (by simp)
    have hjp : j ≠ p := fun e => hnp (by simp [e])
    unfold okP at hj
    rw [ho] at hj
    split at hj
    · rename_i oj oi' hoj he
      cases he
      simp only [Bool.and_eq_true] at hj
      simp only [List.cons_append, seqM, stepM, if_neg hjp, stepI, hoj] at h ⊢
      exact swap hw hj.1 hj.2 hI (stepG_mono' h fun s hs hinv => bubbleM ho hip hw pre s hinv (fun hh => hnp (by simp [hh])) (fun k hk => hp k (by simp [hk])) hs)
    · cases hj

/-- All that comes before it is waited for by it, and it is waited for by all behind. -/
def oneB (A : List (List Nat)) (p : Nat) : List Nat → Bool
  | [] => true
  | i :: l => if i = p then l.all fun k => (A.getD k []).contains p else (A.getD p []).contains i && oneB A p l

theorem oneB_spec {A : List (List Nat)} {p : Nat} : ∀ {l : List Nat}, l.Nodup → oneB A p l = true → l.Pairwise fun a b => (b = p → a ∈ A.getD p []) ∧ (a = p → p ∈ A.getD b [])
  | [], _, _ => List.Pairwise.nil
  | i :: l, hn, h => by
    have hn' := List.nodup_cons.1 hn
    unfold oneB at h
    split at h
    · rename_i e
      subst e
      simp only [List.all_eq_true, List.contains_iff_mem] at h
      refine List.Pairwise.cons (fun b hb => ⟨fun e => ?_, fun _ => h b hb⟩) ?_
      · subst e; exact absurd hb hn'.1
      · refine List.Pairwise.imp_of_mem ?_ hn'.2
        intro a b ha hb _
        exact ⟨fun e => absurd (e ▸ hb) hn'.1, fun e => absurd (e ▸ ha) hn'.1⟩
    · rename_i e
      simp only [Bool.and_eq_true, List.contains_iff_mem] at h
      exact List.Pairwise.cons (fun b hb => ⟨fun _ => h.1, fun e' => absurd e' e⟩) (oneB_spec hn'.2 h.2)

theorem any_of_seqM {A : List (List Nat)} (hA : chkA ops A = true) : ∀ (fuel : Nat) (listed : Array Bool) (l : List Nat) (st : St), Rest ops A listed l → l.Pairwise (fun a b => (b = p → a ∈ A.getD p []) ∧ (a = p → p ∈ A.getD b [])) → l.length = fuel → seqM P T ops p l st K → anyM P T ops p K fuel listed st := by
  intro fuel
  induction fuel with
  | zero =>
    intro listed l st hr hp hl h
    have : l = [] := List.eq_nil_of_length_eq_zero hl
    subst this
    refine ⟨?_, h⟩
    rcases hrd : Region.ready .any ops listed with _ | ⟨i, l'⟩
    · rfl
    · have := hr.ready_mem (i := i) (by rw [hrd]; simp)
      simp at this
  | succ fuel ih =>
    intro listed l st hr hp hl h hw
    refine ⟨fun hnil => ?_, fun i hi => ?_⟩
    · exfalso
      cases l with
      | nil => simp at hl
      | cons i l =>
        have h1 := hr.open' i (by simp)
        have hlt : i < ops.size := by
          rw [← hr.size]
          rcases Nat.lt_or_ge i listed.size with h' | h'
          · exact h'
          · simp [Array.getElem?_eq_none h'] at h1
        have : i ∈ Region.ready .any ops listed := by
          refine mem_ready.2 ⟨h1, ops[i], by simp [hlt], fun e he hb => ?_⟩
          have hd : e.on ∈ dirs ops i := by
            simp only [dirs, Array.getElem?_eq_getElem hlt, List.mem_map, List.mem_filter]
            exact ⟨e, ⟨by simpa using he, hb⟩, rfl⟩
          by_cases hsz : e.on < ops.size
          · rcases hr.all e.on hsz with h2 | h2
            · exact h2
            · exfalso
              rcases List.mem_cons.1 h2 with h3 | h3
              · exact (hr.self i hlt _ hd).2 h3
              · have h4 := (List.pairwise_cons.1 hr.pair).1 _ h3
                simp only [relB, Bool.and_eq_true, Bool.not_eq_true'] at h4
                have h5 := h4.1
                simp at h5
                exact h5 hd
          · exact absurd (hr.self i hlt _ hd).1 hsz
        rw [hnil] at this
        cases this
    · have hmem := hr.ready_mem hi
      obtain ⟨pre, rest, rfl⟩ := List.append_of_mem hmem
      obtain ⟨_, oi, ho, _⟩ := mem_ready.1 hi
      have hlt : i < ops.size := by
        rcases Nat.lt_or_ge i ops.size with h' | h'
        · exact h'
        · rw [Array.getElem?_eq_none h'] at ho; cases ho
      have hanc : ∀ j ∈ pre, j ∉ A.getD i [] := fun j hj hin => by
        have := hr.anc hA i (dirs_ready hi) j hin hlt
        rw [getD_tf (hr.open' j (by simp [hj]))] at this
        cases this
      have hpp := hp
      rw [List.pairwise_append] at hp
      have hp' : (pre ++ rest).Pairwise (fun a b => (b = p → a ∈ A.getD p []) ∧ (a = p → p ∈ A.getD b [])) := hpp.sublist (List.Sublist.append_left (List.sublist_cons_self i rest) pre)
      by_cases hip : i = p
      · have hpre : pre = [] := by
          cases pre with
          | nil => rfl
          | cons j pre =>
            have h1 := (hp.2.2 j (by simp) i (by simp)).1 hip
            rw [← hip] at h1
            exact absurd h1 (hanc j (by simp))
        subst hpre
        simp only [List.nil_append, seqM] at h
        exact stepM_mono h fun s hs => ih _ _ s (hr.next (pre := []) hi) hp' (by simp at hl ⊢; omega) hs
      · have hnp : p ∉ pre := fun hin => hanc p hin ((hp.2.2 p hin i (by simp)).2 rfl)
        have hok : ∀ j ∈ pre, okP ops j i = true := by
          intro j hj
          have hq := hr.pair
          rw [List.pairwise_append] at hq
          have h4 := hq.2.2 j hj i (by simp)
          simp only [relB, Bool.and_eq_true, Bool.or_eq_true, List.contains_iff_mem] at h4
          rcases h4.2 with h5 | h5
          · exact absurd h5 (hanc j hj)
          · exact h5
        have hb := bubbleM (K := K) ho hip hw pre st ⟨⟨rfl, fun _ _ => rfl⟩, Nat.le_refl _, fun _ => ⟨[], by simp⟩⟩ hnp hok h
        simp only [stepM, if_neg hip, stepI, ho]
        exact stepG_mono' hb fun s hs => ih _ _ s (hr.next hi) hp' (by simp at hl ⊢; omega) hs

theorem W.drawM {Q : Ex → St → Prop} {id : Nat} (p : Nat) (ord : List Nat) (hc : chk ops ord = true) (h1 : oneB (ancs ops) p ord = true) (h : seqM P T ops p ord st (Q .nrm)) : W P T (.region id ops true) st Q := fun hT hf ro n X D w0 mA r m a w hR => by
  obtain ⟨h2, h3, h4⟩ := chk_rest hc
  refine wpIn_region_any hf ?_
  have hR' : R X D w0 mA r m st a { w with drawn := w.drawn + 1 } := { hR with }
  exact anyM_sound hT (fun s r' m' a' w' hs hR' => ⟨r', m', s, hs, hR'⟩) ops.size _ hR' (any_of_seqM h2 ops.size _ ord st h3 (oneB_spec h3.nodup h1) h4 h)

variable {ol : List Oper} {n j : Nat} {l : List (Nat × AV)} {h : List AObj} {b : Bool} {o : Op} {ty : TypeId} {pos : String} {af : Array Edge} {KS : St → Prop} {rest : List Nat} {i : Nat}
theorem cM {d : Nat} (hi : ol[i]? = some ⟨some d, o, ty, pos, af, none⟩) (hp : Nat.beq i p = false) (hd : Nat.ble (d + 1) n = true)
    (h1 : opC P T ⟨some d, o, ty, pos, af, none⟩ ⟨n, look l, h, b⟩ fun v h' => seqM P T ol.toArray p rest ⟨n, look ((d, v) :: l), h', b⟩ KS) : seqM P T ol.toArray p (i :: rest) ⟨n, look l, h, b⟩ KS := by
  have hd' : d < n := Nat.le_of_ble_eq_true hd
  have hp' : i ≠ p := Nat.ne_of_beq_eq_false hp
  have hi' : ol.toArray[i]? = some ⟨some d, o, ty, pos, af, none⟩ := by simpa using hi
  unfold seqM stepM stepI
  rw [if_neg hp', hi']
  show opC P T ⟨some d, o, ty, pos, af, none⟩ ⟨n, look l, h, b⟩ fun v h' => seqM P T ol.toArray p rest (St.put ⟨n, look l, h', b⟩ (some d) v) KS
  have e : (fun v h' => seqM P T ol.toArray p rest (St.put ⟨n, look l, h', b⟩ (some d) v) KS) = fun v h' => seqM P T ol.toArray p rest ⟨n, look ((d, v) :: l), h', b⟩ KS := by
    funext v h'
    rw [St.put_look d v hd']
  rw [e]
  exact h1
theorem cMn (hi : ol[i]? = some ⟨none, o, ty, pos, af, none⟩) (hp : Nat.beq i p = false)
    (h1 : opC P T ⟨none, o, ty, pos, af, none⟩ ⟨n, look l, h, b⟩ fun _ h' => seqM P T ol.toArray p rest ⟨n, look l, h', b⟩ KS) : seqM P T ol.toArray p (i :: rest) ⟨n, look l, h, b⟩ KS := by
  have hp' : i ≠ p := Nat.ne_of_beq_eq_false hp
  have hi' : ol.toArray[i]? = some ⟨none, o, ty, pos, af, none⟩ := by simpa using hi
  unfold seqM stepM stepI
  rw [if_neg hp', hi']
  exact h1
theorem cMc {d : Nat} {f : Operand} {args : Array Operand} {tys : Array TypeId} (hi : ol[p]? = some ⟨some d, .call ⟨.value f, args, tys⟩, ty, pos, af, none⟩) (hd : Nat.ble (d + 1) n = true)
    (h1 : callH P h (St.eval ⟨n, look l, h, b⟩ f) (args.toList.map (St.eval ⟨n, look l, h, b⟩)) fun v h' => seqM P T ol.toArray p rest ⟨n, look ((d, v) :: l), h', b⟩ KS) : seqM P T ol.toArray p (p :: rest) ⟨n, look l, h, b⟩ KS := by
  have hd' : d < n := Nat.le_of_ble_eq_true hd
  have hi' : ol.toArray[p]? = some ⟨some d, .call ⟨.value f, args, tys⟩, ty, pos, af, none⟩ := by simpa using hi
  unfold seqM stepM
  rw [if_pos rfl, hi']
  refine Or.inr ?_
  have e : (fun v h' => seqM P T ol.toArray p rest (St.put ⟨n, look l, h', b⟩ (some d) v) KS) = fun v h' => seqM P T ol.toArray p rest ⟨n, look ((d, v) :: l), h', b⟩ KS := by
    funext v h'
    rw [St.put_look d v hd']
  show callH P h (St.eval ⟨n, look l, h, b⟩ f) (args.toList.map (St.eval ⟨n, look l, h, b⟩)) fun v h' => seqM P T ol.toArray p rest (St.put ⟨n, look l, h', b⟩ (some d) v) KS
  rw [e]
  exact h1
theorem eM {st : St} (h1 : KS st) : seqM P T ol.toArray p [] st KS := h1
theorem W.rM1 {Q : Ex → St → Prop} {id : Nat} {st : St} (p : Nat) (ord : List Nat) (hc : chk ol.toArray ord = true) (h0 : oneB (ancs ol.toArray) p ord = true) (h1 : seqM P T ol.toArray p ord st (Q .nrm)) : W P T (.region id ol.toArray true) st Q := W.drawM p ord hc h0 h1
theorem W.rM {Q : Ex → St → Prop} {c : Code} {id : Nat} {st : St} (p : Nat) (ord : List Nat) (hc : chk ol.toArray ord = true) (h0 : oneB (ancs ol.toArray) p ord = true) (h1 : seqM P T ol.toArray p ord st fun s => W P T c s Q) : W P T (.seq (.region id ol.toArray true) c) st Q :=
  W.seq _ (W.rM1 p ord hc h0 h1) fun _ h => h
end
end Go.Lat
namespace Go.Lat
open Go.RowKit Go.Proofs
attribute [local irreducible] closeM rangeM pointM addBM cycleM holdsM validBM sameM madeM pickM plusM validM possM firstM tableM longerM boundsM ofM addM freeM
/-- What the walk through latecomerlaw07.pick asks. -/
def vc_pick (c : Int) (n : Int) (Post : Int → Prop) : Prop :=
  ∃ J1 : Int → Prop, (∀ (v0 : Int), J1 v0 → (n ≠ 0) ∧ Post (v0.tmod n)) ∧ (((c < (0 : Int)) → (inI (c + (1 : Int))) ∧ (inI (-(c + (1 : Int)))) ∧ J1 (-(c + (1 : Int)))) ∧ (¬ (c < (0 : Int)) → J1 c))
set_option maxRecDepth 100000 in
set_option maxHeartbeats 4000000 in
theorem walk_pick {c : Int} {n : Int} {Post : Int → Prop} (hv : vc_pick c n Post) : FnP Try.prog 12 [.int .i64 c, .int .i64 n] (fun x => ∃ q0, x = .int .i64 q0 ∧ Post q0) := by
  refine FnP.of_walk (T := tt) (nt := 13) ttOk ttMix ⟨⟨Try.f12, Try.func12, rfl, rfl, rfl, rfl⟩⟩ (by simp) ?_
  unfold vc_pick at hv
  change W _ _ _ ⟨13, look [(0, .int .i64 c), (1, .int .i64 n)], [], false⟩ _
  refine W.tr [(0, .int _ _), (1, .int _ _)] [] ⟨rfl, rfl, trivial⟩ rfl ?_
  refine W.rL ?_
  refine cL rfl (o_assign (v := .int _ _) rfl ?_)
  refine eL ?_
  refine W.tr [(0, .int _ _), (1, .int _ _)] [] ⟨rfl, rfl, trivial⟩ rfl ?_
  obtain ⟨J1, hj, hv⟩ := hv
  refine W.mid1 (fun v0 => ⟨13, look [(0, .int .i64 v0), (1, .int .i64 n)], [], false⟩) J1 ?_ ?_
  · intro v0
    intro hv
    replace hv := hj v0 hv
    refine W.rL ?_
    refine cL rfl (o_move (v := .int _ _) rfl ?_)
    refine cL rfl (o_move (v := .int _ _) rfl ?_)
    obtain ⟨s3, hv⟩ := hv
    refine cL rfl (o_rem rfl rfl s3 ?_)
    refine cL rfl (o_assign (v := .int _ _) rfl ?_)
    refine eL ?_
    refine W.tr [(4, .int _ _)] [] ⟨rfl, trivial⟩ rfl ?_
    refine W.ret ?_
    refine rt ?_
    refine rt_t (v := .int _ _) rfl ?_
    refine rt_n ?_
    exact ⟨_, rs_int _ _ _ _, (v0.tmod n), rfl, hv⟩
  · clear hj
    refine W.rL ?_
    refine cL rfl (o_move (v := .int _ _) rfl ?_)
    refine cL rfl (o_lss rfl rfl ?_)
    refine eL ?_
    refine W.tr [(0, .int _ _), (1, .int _ _), (6, .bool _)] [] ⟨rfl, rfl, rfl, trivial⟩ rfl ?_
    refine W.cn rfl (fun hc => ?_) (fun hc => ?_)
    · have hv := hv.1 hc
      refine W.rL1 ?_
      refine cL rfl (o_move (v := .int _ _) rfl ?_)
      obtain ⟨s4, hv⟩ := hv
      refine cL rfl (o_add rfl rfl s4 ?_)
      obtain ⟨s5, hv⟩ := hv
      refine cL rfl (o_neg rfl s5 ?_)
      refine cL rfl (o_assign (v := .int _ _) rfl ?_)
      refine eL ?_
      exact th_nrm (⟨(), (-(c + (1 : Int))), hv, St.to_mk (φ := []) rfl (.inl rfl) ⟨Ren.int _ _, Ren.int _ _, trivial⟩ trivial⟩)
    · have hv := hv.2 hc
      refine W.skip ?_
      exact th_nrm (⟨(), c, hv, St.to_mk (φ := []) rfl (.inl rfl) ⟨Ren.int _ _, Ren.int _ _, trivial⟩ trivial⟩)
theorem vcp_pick (c : Int) (n : Int) (h0 : inI c) (h1 : 1 ≤ n) : vc_pick c n (fun q0 => q0 = (pickM c n)) := by
  unfold vc_pick
  refine ⟨fun v => v = if c < 0 then -(c+1) else c, fun v hv => ⟨by omega, by subst hv; unfold pickM; rfl⟩, fun h => ?_, fun h => ?_⟩
  · unfold inI at *; exact ⟨by omega, by omega, by simp [h]⟩
  · simp [h]
theorem spec_pick (c : Int) (n : Int) (h0 : inI c) (h1 : 1 ≤ n) : FnP Try.prog 12 [.int .i64 c, .int .i64 n] (fun xR => xR = .int .i64 (pickM c n)) :=
  (walk_pick (vcp_pick c n h0 h1)).mono (by rintro _ ⟨_, rfl, rfl⟩; rfl)
end Go.Lat
namespace Go.Lat
open Go.RowKit Go.Proofs
attribute [local irreducible] closeM rangeM pointM addBM cycleM holdsM validBM sameM madeM pickM plusM validM possM firstM tableM longerM boundsM ofM addM freeM
/-- What the walk through latecomerref07.pick asks. -/
def vc_rpick (c : Int) (n : Int) (Post : Int → Prop) : Prop :=
  ∃ J1 : Int → Prop, (∀ (v0 : Int), J1 v0 → (n ≠ 0) ∧ Post (v0.tmod n)) ∧ (((c < (0 : Int)) → (inI (c + (1 : Int))) ∧ (inI (-(c + (1 : Int)))) ∧ J1 (-(c + (1 : Int)))) ∧ (¬ (c < (0 : Int)) → J1 c))
set_option maxRecDepth 100000 in
set_option maxHeartbeats 4000000 in
theorem walk_rpick {c : Int} {n : Int} {Post : Int → Prop} (hv : vc_rpick c n Post) : FnP Try.prog 34 [.int .i64 c, .int .i64 n] (fun x => ∃ q0, x = .int .i64 q0 ∧ Post q0) := by
  refine FnP.of_walk (T := tt) (nt := 13) ttOk ttMix ⟨⟨Try.f34, Try.func34, rfl, rfl, rfl, rfl⟩⟩ (by simp) ?_
  unfold vc_rpick at hv
  change W _ _ _ ⟨13, look [(0, .int .i64 c), (1, .int .i64 n)], [], false⟩ _
  refine W.tr [(0, .int _ _), (1, .int _ _)] [] ⟨rfl, rfl, trivial⟩ rfl ?_
  refine W.rL ?_
  refine cL rfl (o_assign (v := .int _ _) rfl ?_)
  refine eL ?_
  refine W.tr [(0, .int _ _), (1, .int _ _)] [] ⟨rfl, rfl, trivial⟩ rfl ?_
  obtain ⟨J1, hj, hv⟩ := hv
  refine W.mid1 (fun v0 => ⟨13, look [(0, .int .i64 v0), (1, .int .i64 n)], [], false⟩) J1 ?_ ?_
  · intro v0
    intro hv
    replace hv := hj v0 hv
    refine W.rL ?_
    refine cL rfl (o_move (v := .int _ _) rfl ?_)
    refine cL rfl (o_move (v := .int _ _) rfl ?_)
    obtain ⟨s3, hv⟩ := hv
    refine cL rfl (o_rem rfl rfl s3 ?_)
    refine cL rfl (o_assign (v := .int _ _) rfl ?_)
    refine eL ?_
    refine W.tr [(4, .int _ _)] [] ⟨rfl, trivial⟩ rfl ?_
    refine W.ret ?_
    refine rt ?_
    refine rt_t (v := .int _ _) rfl ?_
    refine rt_n ?_
    exact ⟨_, rs_int _ _ _ _, (v0.tmod n), rfl, hv⟩
  · clear hj
    refine W.rL ?_
    refine cL rfl (o_move (v := .int _ _) rfl ?_)
    refine cL rfl (o_lss rfl rfl ?_)
    refine eL ?_
    refine W.tr [(0, .int _ _), (1, .int _ _), (6, .bool _)] [] ⟨rfl, rfl, rfl, trivial⟩ rfl ?_
    refine W.cn rfl (fun hc => ?_) (fun hc => ?_)
    · have hv := hv.1 hc
      refine W.rL1 ?_
      refine cL rfl (o_move (v := .int _ _) rfl ?_)
      obtain ⟨s4, hv⟩ := hv
      refine cL rfl (o_add rfl rfl s4 ?_)
      obtain ⟨s5, hv⟩ := hv
      refine cL rfl (o_neg rfl s5 ?_)
      refine cL rfl (o_assign (v := .int _ _) rfl ?_)
      refine eL ?_
      exact th_nrm (⟨(), (-(c + (1 : Int))), hv, St.to_mk (φ := []) rfl (.inl rfl) ⟨Ren.int _ _, Ren.int _ _, trivial⟩ trivial⟩)
    · have hv := hv.2 hc
      refine W.skip ?_
      exact th_nrm (⟨(), c, hv, St.to_mk (φ := []) rfl (.inl rfl) ⟨Ren.int _ _, Ren.int _ _, trivial⟩ trivial⟩)
theorem vcp_rpick (c : Int) (n : Int) (h0 : inI c) (h1 : 1 ≤ n) : vc_rpick c n (fun q0 => q0 = (pickM c n)) := by
  unfold vc_rpick
  refine ⟨fun v => v = if c < 0 then -(c+1) else c, fun v hv => ⟨by omega, by subst hv; unfold pickM; rfl⟩, fun h => ?_, fun h => ?_⟩
  · unfold inI at *; exact ⟨by omega, by omega, by simp [h]⟩
  · simp [h]
theorem spec_rpick (c : Int) (n : Int) (h0 : inI c) (h1 : 1 ≤ n) : FnP Try.prog 34 [.int .i64 c, .int .i64 n] (fun xR => xR = .int .i64 (pickM c n)) :=
  (walk_rpick (vcp_rpick c n h0 h1)).mono (by rintro _ ⟨_, rfl, rfl⟩; rfl)
end Go.Lat
namespace Go.Lat
open Go.RowKit Go.Proofs
attribute [local irreducible] closeM rangeM pointM addBM cycleM holdsM validBM sameM madeM pickM plusM validM possM firstM tableM longerM boundsM ofM addM freeM
/-- What the walk through latecomerref07.Made asks. -/
def vc_made (n : Int) (x : (List A3)) (Post : (List Con) → Prop) : Prop :=
  ∃ (I1 : Int → List Con → Prop) (μ1 : Int → List Con → Nat), I1 (0 : Int) [] ∧ ∀ (v6 : Int) (r0 : List Con), I1 v6 r0 → (((v6 < ((x.length : Nat) : Int)) ∧ ((v6 < (30 : Int)) ∧ ((1 : Int) < n))) → (0 ≤ v6 ∧ v6 < (x.length : Int)) ∧ (inI ((lat x v6).x0)) ∧ (1 ≤ n) ∧ (inI ((pickM ((lat x v6).x0) n) + (1 : Int))) ∧ (0 ≤ v6 ∧ v6 < (x.length : Int)) ∧ (inI (n - (1 : Int))) ∧ (inI ((lat x v6).x1)) ∧ (1 ≤ (n - (1 : Int))) ∧ (inI (((pickM ((lat x v6).x0) n) + (1 : Int)) + (pickM ((lat x v6).x1) (n - (1 : Int))))) ∧ (n ≠ 0) ∧ (0 ≤ v6 ∧ v6 < (x.length : Int)) ∧ (0 ≤ v6 ∧ v6 < (x.length : Int)) ∧ (inI (((lat x v6).x1).tdiv (30 : Int))) ∧ (inI ((lat x v6).x2)) ∧ (1 ≤ (20 : Int)) ∧ (inI ((pickM ((lat x v6).x2) (20 : Int)) - (6 : Int))) ∧ (inI (((lat x v6).x1).tdiv (30 : Int))) ∧ (1 ≤ (6 : Int)) ∧ (0 ≤ (pickM (((lat x v6).x1).tdiv (30 : Int)) (6 : Int))) ∧ (inI ((1 : Int) * 2 ^ (min (pickM (((lat x v6).x1).tdiv (30 : Int)) (6 : Int)).toNat 64))) ∧ ((r0 ++ [(Con.mk (pickM ((lat x v6).x0) n) ((((pickM ((lat x v6).x0) n) + (1 : Int)) + (pickM ((lat x v6).x1) (n - (1 : Int)))).tmod n) ((pickM ((lat x v6).x2) (20 : Int)) - (6 : Int)) ((1 : Int) * 2 ^ (min (pickM (((lat x v6).x1).tdiv (30 : Int)) (6 : Int)).toNat 64)))]).length ≤ 1073741824) ∧ (inI (v6 + (1 : Int))) ∧ (I1 (v6 + (1 : Int)) (r0 ++ [(Con.mk (pickM ((lat x v6).x0) n) ((((pickM ((lat x v6).x0) n) + (1 : Int)) + (pickM ((lat x v6).x1) (n - (1 : Int)))).tmod n) ((pickM ((lat x v6).x2) (20 : Int)) - (6 : Int)) ((1 : Int) * 2 ^ (min (pickM (((lat x v6).x1).tdiv (30 : Int)) (6 : Int)).toNat 64)))]) ∧ μ1 (v6 + (1 : Int)) (r0 ++ [(Con.mk (pickM ((lat x v6).x0) n) ((((pickM ((lat x v6).x0) n) + (1 : Int)) + (pickM ((lat x v6).x1) (n - (1 : Int)))).tmod n) ((pickM ((lat x v6).x2) (20 : Int)) - (6 : Int)) ((1 : Int) * 2 ^ (min (pickM (((lat x v6).x1).tdiv (30 : Int)) (6 : Int)).toNat 64)))]) < μ1 v6 r0)) ∧ (¬ ((v6 < ((x.length : Nat) : Int)) ∧ ((v6 < (30 : Int)) ∧ ((1 : Int) < n))) → Post r0)
set_option maxRecDepth 100000 in
set_option maxHeartbeats 4000000 in
theorem walk_made {n : Int} {x : (List A3)} {Post : (List Con) → Prop} (hv : vc_made n x Post) : FnP Try.prog 14 [.int .i64 n, .lst true x.length (encL e26 x)] (fun x => ∃ q0, x = .lst false q0.length (encL e25 q0) ∧ Post q0) := by
  refine FnP.of_walk (T := tt) (nt := 65) ttOk ttMix ⟨⟨Try.f14, Try.func14, rfl, rfl, rfl, rfl⟩⟩ (by simp) ?_
  unfold vc_made at hv
  change W _ _ _ ⟨65, look [(0, .int .i64 n), (1, .lst true x.length (encL e26 x))], [], false⟩ _
  refine W.tr [(0, .int _ _), (1, .lst _ _ _)] [] ⟨rfl, rfl, trivial⟩ rfl ?_
  refine W.rL ?_
  refine cL rfl (o_assign (v := .nilS) rfl ?_)
  refine eL ?_
  refine W.tr [(0, .int _ _), (1, .lst _ _ _)] [] ⟨rfl, rfl, trivial⟩ rfl ?_
  refine W.rL ?_
  refine cL rfl (o_assign (v := .nilS) rfl ?_)
  refine eL ?_
  refine W.tr [(0, .int _ _), (1, .lst _ _ _), (5, .nilS)] [] ⟨rfl, rfl, rfl, trivial⟩ rfl ?_
  refine W.seq' ?_
  refine W.rL ?_
  refine cL rfl (o_assign (v := .int _ _) rfl ?_)
  refine eL ?_
  refine W.tr [(0, .int _ _), (1, .lst _ _ _), (5, .nilS), (6, .int _ _)] [] ⟨rfl, rfl, rfl, rfl, trivial⟩ rfl ?_
  refine W.block ?_
  obtain ⟨I1, μ1, hp, hv⟩ := hv
  refine W.loop2 (fun v6 r0 => ⟨65, look [(0, .int .i64 n), (1, .lst true x.length (encL e26 x)), (5, .ref true 0 r0.length), (6, .int .i64 v6)], [.row 25 4 (encL e25 r0)], false⟩) I1 μ1 (0 : Int) [] (St.to_mk (φ := [none]) rfl (.inl rfl) ⟨Ren.int _ _, Ren.lst _ _ _, Ren.nilR rfl rfl, Ren.int _ _, trivial⟩ ⟨rfl, trivial⟩) hp ?_
  clear hp
  intro v6 r0 hI
  replace hv := hv v6 r0 hI
  clear hI
  refine W.seq' ?_
  refine W.rLm ⟨65, look [(0, .int .i64 n), (1, .lst true x.length (encL e26 x)), (5, .ref true 0 r0.length), (6, .int .i64 v6), (20, .bool (decide ((v6 < ((x.length : Nat) : Int)) ∧ ((v6 < (30 : Int)) ∧ ((1 : Int) < n)))))], [.row 25 4 (encL e25 r0)], false⟩ ?_ ?_
  · refine cL rfl (o_move (v := .int _ _) rfl ?_)
    refine cL rfl (o_move (v := .lst _ _ _) rfl ?_)
    refine cL rfl (o_len (v := .lst _ _ _) tt23 rfl rfl ?_)
    refine cL rfl (o_lss rfl rfl ?_)
    refine cL rfl (o_move (v := .bool _) rfl ?_)
    by_cases c1 : v6 < ((x.length : Nat) : Int)
    · refine cLg rfl rfl (decide_eq_true c1) ?_
      refine cL rfl (o_move (v := .int _ _) rfl ?_)
      refine cLg rfl rfl (decide_eq_true c1) ?_
      refine cL rfl (o_lss rfl rfl ?_)
      refine cL rfl (o_pickT (v := .bool _) rfl (decide_eq_true c1) rfl ?_)
      refine cL rfl (o_move (v := .bool _) rfl ?_)
      by_cases c2 : v6 < (30 : Int)
      · refine cLg rfl rfl (decide_eq_true c2) ?_
        refine cL rfl (o_move (v := .int _ _) rfl ?_)
        refine cLg rfl rfl (decide_eq_true c2) ?_
        refine cL rfl (o_gtr rfl rfl ?_)
        refine cL rfl (o_pickT (v := .bool _) rfl (decide_eq_true c2) rfl ?_)
        refine eL ?_
        exact le_mk ⟨rfl, rfl, rfl, rfl, (congrArg AV.bool (dAndT c1 (dAndT c2 (rfl)))).symm, trivial⟩ rfl
      · refine cLs rfl rfl rfl (decide_eq_false c2) ?_
        refine cLs rfl rfl rfl (decide_eq_false c2) ?_
        refine cL rfl (o_pickF (v := .bool _) rfl (decide_eq_false c2) rfl ?_)
        refine eL ?_
        exact le_mk ⟨rfl, rfl, rfl, rfl, (congrArg AV.bool (dAndT c1 (dAndF c2))).symm, trivial⟩ rfl
    · refine cLs rfl rfl rfl (decide_eq_false c1) ?_
      refine cLs rfl rfl rfl (decide_eq_false c1) ?_
      refine cL rfl (o_pickF (v := .bool _) rfl (decide_eq_false c1) rfl ?_)
      refine cL rfl (o_move (v := .bool _) rfl ?_)
      refine cLs rfl rfl rfl (rfl) ?_
      refine cLs rfl rfl rfl (rfl) ?_
      refine cL rfl (o_pickF (v := .bool _) rfl rfl rfl ?_)
      refine eL ?_
      exact le_mk ⟨rfl, rfl, rfl, rfl, (congrArg AV.bool (dAndF c1)).symm, trivial⟩ rfl
  · refine W.cn rfl (fun hc => ?_) (fun hc => ?_)
    · have hv := hv.1 hc
      refine W.skip ?_
      refine th_nrm ?_
      refine W.tr [(0, .int _ _), (1, .lst _ _ _), (5, .ref _ _ _), (6, .int _ _)] [.row _ _ _] ⟨rfl, rfl, rfl, rfl, trivial⟩ rfl ?_
      refine W.seq' ?_
      refine W.block ?_
      refine W.rL ?_
      refine cL rfl (o_move (v := .lst _ _ _) rfl ?_)
      refine cL rfl (o_move (v := .int _ _) rfl ?_)
      obtain ⟨s233, hv⟩ := hv
      refine cL rfl (o_iaL tt23 tt26 rfl rfl (enc26.wd true) rfl s233 ?_)
      intro rest233
      refine cL rfl (o_iaP tt26 tt3 rfl rfl ⟨by decide, by decide⟩ ?_)
      refine cL rfl (o_ldS (v := .int _ _) tt3 rfl rfl ⟨_, rfl⟩ ?_)
      refine cL rfl (o_move (v := .int _ _) rfl ?_)
      obtain ⟨s234, hv⟩ := hv
      obtain ⟨s235, hv⟩ := hv
      refine cL rfl (o_callP1 (k := 34) (fst := []) (caps := []) (ys := [.int _ _, .int _ _]) rfl rfl (spec_rpick ((lat x v6).x0) n s234 s235) (Wks.cons (ag_int _ _ _ _) (Wks.cons (ag_int _ _ _ _) (Wks.refl _))) ?_)
      refine cL rfl (o_assign (v := .int _ _) rfl ?_)
      refine eL ?_
      refine W.tr [(0, .int _ _), (1, .lst _ _ _), (5, .ref _ _ _), (6, .int _ _), (7, .int _ _)] [.row _ _ _] ⟨rfl, rfl, rfl, rfl, rfl, trivial⟩ rfl ?_
      refine W.rL ?_
      refine cL rfl (o_move (v := .int _ _) rfl ?_)
      obtain ⟨s236, hv⟩ := hv
      refine cL rfl (o_add rfl rfl s236 ?_)
      refine cL rfl (o_move (v := .lst _ _ _) rfl ?_)
      refine cL rfl (o_move (v := .int _ _) rfl ?_)
      obtain ⟨s237, hv⟩ := hv
      refine cL rfl (o_iaL tt23 tt26 rfl rfl (enc26.wd true) rfl s237 ?_)
      intro rest237
      refine cL rfl (o_iaP tt26 tt3 rfl rfl ⟨by decide, by decide⟩ ?_)
      refine cL rfl (o_ldS (v := .int _ _) tt3 rfl rfl ⟨_, rfl⟩ ?_)
      refine cL rfl (o_move (v := .int _ _) rfl ?_)
      obtain ⟨s238, hv⟩ := hv
      refine cL rfl (o_sub rfl rfl s238 ?_)
      obtain ⟨s239, hv⟩ := hv
      obtain ⟨s240, hv⟩ := hv
      refine cL rfl (o_callP1 (k := 34) (fst := []) (caps := []) (ys := [.int _ _, .int _ _]) rfl rfl (spec_rpick ((lat x v6).x1) (n - (1 : Int)) s239 s240) (Wks.cons (ag_int _ _ _ _) (Wks.cons (ag_int _ _ _ _) (Wks.refl _))) ?_)
      obtain ⟨s241, hv⟩ := hv
      refine cL rfl (o_add rfl rfl s241 ?_)
      refine cL rfl (o_move (v := .int _ _) rfl ?_)
      obtain ⟨s242, hv⟩ := hv
      refine cL rfl (o_rem rfl rfl s242 ?_)
      refine cL rfl (o_assign (v := .int _ _) rfl ?_)
      refine eL ?_
      refine W.tr [(0, .int _ _), (1, .lst _ _ _), (5, .ref _ _ _), (6, .int _ _), (7, .int _ _), (8, .int _ _)] [.row _ _ _] ⟨rfl, rfl, rfl, rfl, rfl, rfl, trivial⟩ rfl ?_
      refine W.rP1 [0, 1, 2, 3, 4, 5, 6, 7, 10, 11, 12, 13, 14, 15, 8, 9, 16, 17, 18, 19, 20, 21] (by decide +kernel) rfl ?_
      refine cL rfl (o_move (v := .ref _ _ _) rfl ?_)
      refine cL rfl (o_move (v := .int _ _) rfl ?_)
      refine cL rfl (o_move (v := .int _ _) rfl ?_)
      refine cL rfl (o_move (v := .lst _ _ _) rfl ?_)
      refine cL rfl (o_move (v := .int _ _) rfl ?_)
      obtain ⟨s243, hv⟩ := hv
      refine cL rfl (o_iaL tt23 tt26 rfl rfl (enc26.wd true) rfl s243 ?_)
      intro rest243
      refine cL rfl (o_iaP tt26 tt3 rfl rfl ⟨by decide, by decide⟩ ?_)
      refine cL rfl (o_ldS (v := .int _ _) tt3 rfl rfl ⟨_, rfl⟩ ?_)
      refine cL rfl (o_move (v := .lst _ _ _) rfl ?_)
      refine cL rfl (o_move (v := .int _ _) rfl ?_)
      obtain ⟨s244, hv⟩ := hv
      refine cL rfl (o_iaL tt23 tt26 rfl rfl (enc26.wd true) rfl s244 ?_)
      intro rest244
      refine cL rfl (o_iaP tt26 tt3 rfl rfl ⟨by decide, by decide⟩ ?_)
      refine cL rfl (o_ldS (v := .int _ _) tt3 rfl rfl ⟨_, rfl⟩ ?_)
      obtain ⟨s245, hv⟩ := hv
      refine cL rfl (o_quo rfl rfl (by decide) s245 ?_)
      obtain ⟨s246, hv⟩ := hv
      obtain ⟨s247, hv⟩ := hv
      refine cL rfl (o_callP1 (k := 34) (fst := []) (caps := []) (ys := [.int _ _, .int _ _]) rfl rfl (spec_rpick ((lat x v6).x2) (20 : Int) s246 s247) (Wks.cons (ag_int _ _ _ _) (Wks.cons (ag_int _ _ _ _) (Wks.refl _))) ?_)
      obtain ⟨s248, hv⟩ := hv
      refine cL rfl (o_sub rfl rfl s248 ?_)
      obtain ⟨s249, hv⟩ := hv
      obtain ⟨s250, hv⟩ := hv
      refine cL rfl (o_callP1 (k := 34) (fst := []) (caps := []) (ys := [.int _ _, .int _ _]) rfl rfl (spec_rpick (((lat x v6).x1).tdiv (30 : Int)) (6 : Int) s249 s250) (Wks.cons (ag_int _ _ _ _) (Wks.cons (ag_int _ _ _ _) (Wks.refl _))) ?_)
      obtain ⟨s251, hv⟩ := hv
      obtain ⟨s252, hv⟩ := hv
      refine cL rfl (o_shl rfl rfl s251 s252 ?_)
      refine cL rfl (o_build (qs := [(0, .int _ _), (1, .int _ _), (2, .int _ _), (3, .int _ _)]) (cs := [.int _ _, .int _ _, .int _ _, .int _ _]) tt25 rfl rfl rfl ?_)
      refine cL rfl (o_bs1 (v := .agg _) (q := 1) tt22 tt25 rfl rfl rfl rfl rfl rfl rfl rfl ?_)
      obtain ⟨s253, hv⟩ := hv
      refine cL rfl (o_apR (p := 2) (q := (r0 ++ [(Con.mk (pickM ((lat x v6).x0) n) ((((pickM ((lat x v6).x0) n) + (1 : Int)) + (pickM ((lat x v6).x1) (n - (1 : Int)))).tmod n) ((pickM ((lat x v6).x2) (20 : Int)) - (6 : Int)) ((1 : Int) * 2 ^ (min (pickM (((lat x v6).x1).tdiv (30 : Int)) (6 : Int)).toNat 64)))]).length) tt22 tt25 rfl rfl (src_ref rfl rfl) rfl rfl (encL_length (enc25.wd false) _) (Nat.le_trans (Nat.le_of_eq (@List.length_append _ (r0) ([(Con.mk (pickM ((lat x v6).x0) n) ((((pickM ((lat x v6).x0) n) + (1 : Int)) + (pickM ((lat x v6).x1) (n - (1 : Int)))).tmod n) ((pickM ((lat x v6).x2) (20 : Int)) - (6 : Int)) ((1 : Int) * 2 ^ (min (pickM (((lat x v6).x1).tdiv (30 : Int)) (6 : Int)).toNat 64)))])).symm) s253) rfl (@List.length_append _ (r0) ([(Con.mk (pickM ((lat x v6).x0) n) ((((pickM ((lat x v6).x0) n) + (1 : Int)) + (pickM ((lat x v6).x1) (n - (1 : Int)))).tmod n) ((pickM ((lat x v6).x2) (20 : Int)) - (6 : Int)) ((1 : Int) * 2 ^ (min (pickM (((lat x v6).x1).tdiv (30 : Int)) (6 : Int)).toNat 64)))])).symm (encL_app e25 r0 [(Con.mk (pickM ((lat x v6).x0) n) ((((pickM ((lat x v6).x0) n) + (1 : Int)) + (pickM ((lat x v6).x1) (n - (1 : Int)))).tmod n) ((pickM ((lat x v6).x2) (20 : Int)) - (6 : Int)) ((1 : Int) * 2 ^ (min (pickM (((lat x v6).x1).tdiv (30 : Int)) (6 : Int)).toNat 64)))]) ?_)
      refine cL rfl (o_assign (v := .ref _ _ _) rfl ?_)
      refine eL ?_
      refine bl_nrm (th_nrm ?_)
      refine W.tr [(0, .int _ _), (1, .lst _ _ _), (5, .ref _ _ _), (6, .int _ _)] [.dead, .row _ _ _, .row _ _ _] ⟨rfl, rfl, rfl, rfl, trivial⟩ rfl ?_
      refine W.rL1 ?_
      refine cL rfl (o_move (v := .int _ _) rfl ?_)
      obtain ⟨s254, hv⟩ := hv
      refine cL rfl (o_add rfl rfl s254 ?_)
      refine cL rfl (o_assign (v := .int _ _) rfl ?_)
      refine eL ?_
      exact th_nrm (⟨(), (v6 + (1 : Int)), (r0 ++ [(Con.mk (pickM ((lat x v6).x0) n) ((((pickM ((lat x v6).x0) n) + (1 : Int)) + (pickM ((lat x v6).x1) (n - (1 : Int)))).tmod n) ((pickM ((lat x v6).x2) (20 : Int)) - (6 : Int)) ((1 : Int) * 2 ^ (min (pickM (((lat x v6).x1).tdiv (30 : Int)) (6 : Int)).toNat 64)))]), hv, St.to_mk (φ := [some 2]) rfl (.inl rfl) ⟨Ren.int _ _, Ren.lst _ _ _, Ren.ref rfl (fun h => rfl), Ren.int _ _, trivial⟩ ⟨.inr ⟨_, rfl, rfl, rfl, rfl, Rens.enc enc25 false (r0 ++ [(Con.mk (pickM ((lat x v6).x0) n) ((((pickM ((lat x v6).x0) n) + (1 : Int)) + (pickM ((lat x v6).x1) (n - (1 : Int)))).tmod n) ((pickM ((lat x v6).x2) (20 : Int)) - (6 : Int)) ((1 : Int) * 2 ^ (min (pickM (((lat x v6).x1).tdiv (30 : Int)) (6 : Int)).toNat 64)))])⟩, trivial⟩⟩)
    · have hv := hv.2 hc
      refine W.exit ?_
      refine th_exit (th_exit (bl_hit (th_nrm ?_)))
      refine W.tr [(5, .ref _ _ _)] [.row _ _ _] ⟨rfl, trivial⟩ rfl ?_
      refine W.rL ?_
      refine cL rfl (o_move (v := .ref _ _ _) rfl ?_)
      refine cL rfl (o_assign (v := .ref _ _ _) rfl ?_)
      refine eL ?_
      refine W.tr [(4, .ref _ _ _)] [.row _ _ _] ⟨rfl, trivial⟩ rfl ?_
      refine W.ret ?_
      refine rt ?_
      refine rt_t (v := .ref _ _ _) rfl ?_
      refine rt_n ?_
      exact ⟨_, rs_ref enc25 4 _ rfl rfl, r0, rfl, hv⟩
theorem vcp_made (n : Int) (x : (List A3)) (h0 : 1 ≤ n) (h1 : n ≤ 1000) (h2 : ∀ y ∈ x, inI y.x0 ∧ inI y.x1 ∧ inI y.x2) : vc_made n x (fun q0 => q0 = (madeM n x)) := by
  unfold vc_made
  refine ⟨fun v r => ∃ i : Nat, v = i ∧ i ≤ x.length ∧ i ≤ 30 ∧ (1 < n ∨ i = 0) ∧ r = (x.take i).map fun y => ⟨pickM y.x0 n, (pickM y.x0 n + 1 + pickM y.x1 (n - 1)).tmod n, pickM y.x2 20 - 6, 2 ^ (pickM (y.x1.tdiv 30) 6).toNat⟩, fun v _ => 30 - v.toNat, ⟨0, rfl, by omega, by omega, .inr rfl, rfl⟩, ?_⟩
  rintro _ r ⟨i, rfl, hi, hi3, hn, hr⟩
  refine ⟨fun ⟨h4, h5, h6⟩ => ?_, fun h4 => ?_⟩
  · have hlt : i < x.length := by omega
    obtain ⟨y0, y1, y2⟩ := h2 _ (lat_mem (xs := x) (i := i) ⟨by omega, by omega⟩)
    have hx : lat x (i : Int) = x[i] := lat_get hlt
    rw [hx] at y0 y1 y2 ⊢
    have p1 := pickM_nonneg (c := x[i].x0) (n := n) h0
    have p2 := pickM_nonneg (c := x[i].x1) (n := n - 1) (by omega)
    have p3 := pickM_nonneg (c := x[i].x2) (n := 20) (by omega)
    have p4 := pickM_nonneg (c := x[i].x1.tdiv 30) (n := 6) (by omega)
    have hq : inI (x[i].x1.tdiv 30) := by
      have h7 : x[i].x1 = 30 * x[i].x1.tdiv 30 + x[i].x1.tmod 30 := (Int.mul_tdiv_add_tmod _ _).symm
      have h8 := Int.tmod_lt_of_pos x[i].x1 (b := 30) (by omega)
      have h9 := Int.lt_tmod_of_pos x[i].x1 (b := 30) (by omega)
      unfold inI at *; omega
    have hp : (min (pickM (x[i].x1.tdiv 30) 6).toNat 64) = (pickM (x[i].x1.tdiv 30) 6).toNat := by omega
    have h2p : (1 : Int) * 2 ^ (pickM (x[i].x1.tdiv 30) 6).toNat ≤ 32 ∧ 0 ≤ (1 : Int) * 2 ^ (pickM (x[i].x1.tdiv 30) 6).toNat := by
      have : (pickM (x[i].x1.tdiv 30) 6).toNat < 6 := by omega
      generalize (pickM (x[i].x1.tdiv 30) 6).toNat = q at this
      match q, this with
      | 0, _ => decide
      | 1, _ => decide
      | 2, _ => decide
      | 3, _ => decide
      | 4, _ => decide
      | 5, _ => decide
    have hlen : r.length = i := by rw [hr]; simp; omega
    rw [hp]
    refine ⟨by omega, y0, h0, by unfold inI at *; omega, by omega, by unfold inI at *; omega, y1, by omega, by unfold inI at *; omega, by omega, by omega, by omega, hq, y2, by omega, by unfold inI; omega, hq, by omega, p4.1, by unfold inI; omega, by rw [List.length_append, hlen]; simp; omega, by unfold inI; omega, ⟨i + 1, by omega, by omega, by omega, .inl h6, ?_⟩, by dsimp only; omega⟩
    rw [List.take_add_one, List.getElem?_eq_getElem hlt, List.map_append, ← hr, Int.one_mul]
    rfl
  · show r = madeM n x
    unfold madeM
    by_cases h6 : 1 < n
    · rw [if_pos h6, hr]
      congr 1
      rcases Nat.lt_or_ge i 30 with h7 | h7
      · rw [List.take_of_length_le (by omega), List.take_of_length_le (by omega)]
      · have : i = 30 := by omega
        rw [this]
    · have : i = 0 := by omega
      rw [if_neg h6, hr, this]; rfl
theorem spec_made (n : Int) (x : (List A3)) (h0 : 1 ≤ n) (h1 : n ≤ 1000) (h2 : ∀ y ∈ x, inI y.x0 ∧ inI y.x1 ∧ inI y.x2) : FnP Try.prog 14 [.int .i64 n, .lst true x.length (encL e26 x)] (fun xR => xR = .lst false (madeM n x).length (encL e25 (madeM n x))) :=
  (walk_made (vcp_made n x h0 h1 h2)).mono (by rintro _ ⟨_, rfl, rfl⟩; rfl)
end Go.Lat
namespace Go.Lat
open Go.RowKit Go.Proofs
attribute [local irreducible] closeM rangeM pointM addBM cycleM holdsM validBM sameM madeM pickM plusM validM possM firstM tableM longerM boundsM ofM addM freeM
/-- What the walk through bounds.possible asks. -/
def vc_poss (n : Int) (c : Con) (Post : Bool → Prop) : Prop :=
  (((((0 : Int) ≤ (min c.f c.t)) ∧ (((max c.f c.t) < n) ∧ (¬ c.f = c.t))) → (((-1125899906842624 : Int) ≤ c.m) → ((c.m ≤ (1125899906842624 : Int)) → (((0 : Int) ≤ c.a) → (0 ≤ (6 : Int)) ∧ True) ∧ (¬ ((0 : Int) ≤ c.a) → True)) ∧ (¬ (c.m ≤ (1125899906842624 : Int)) → True)) ∧ (¬ ((-1125899906842624 : Int) ≤ c.m) → True)) ∧ (¬ (((0 : Int) ≤ (min c.f c.t)) ∧ (((max c.f c.t) < n) ∧ (¬ c.f = c.t))) → True)) ∧ (Post (decide ((((0 : Int) ≤ (min c.f c.t)) ∧ (((max c.f c.t) < n) ∧ (¬ c.f = c.t))) ∧ (((-1125899906842624 : Int) ≤ c.m) ∧ ((c.m ≤ (1125899906842624 : Int)) ∧ (((0 : Int) ≤ c.a) ∧ (c.a.fdiv (2 ^ (min (6 : Int).toNat 64)) = (0 : Int))))))))
set_option maxRecDepth 100000 in
set_option maxHeartbeats 4000000 in
theorem walk_poss {n : Int} {c : Con} {Post : Bool → Prop} (hv : vc_poss n c Post) : FnP Try.prog 43 [.int .i64 n, .agg (e25 c)] (fun x => ∃ q0, x = .bool q0 ∧ Post q0) := by
  refine FnP.of_walk (T := tt) (nt := 50) ttOk ttMix ⟨⟨Try.f43, Try.func43, rfl, rfl, rfl, rfl⟩⟩ (by simp) ?_
  unfold vc_poss at hv
  change W _ _ _ ⟨50, look [(0, .int .i64 n), (1, .agg [.int .i64 c.f, .int .i64 c.t, .int .i64 c.m, .int .i64 c.a])], [], false⟩ _
  refine W.tr [(0, .int _ _), (1, .agg _)] [] ⟨rfl, rfl, trivial⟩ rfl ?_
  refine W.rL ?_
  refine cL rfl (o_box (v := .agg _) (p := 0) rfl rfl rfl ?_)
  refine cL rfl (o_assign (v := .bool _) rfl ?_)
  refine eL ?_
  refine W.tr [(0, .int _ _), (3, .ptr _ _)] [.box _ [.int _ _, .int _ _, .int _ _, .int _ _]] ⟨rfl, rfl, trivial⟩ rfl ?_
  refine W.rLm ⟨50, look [(3, .ptr 0 0), (5, .bool (decide (((0 : Int) ≤ (min c.f c.t)) ∧ (((max c.f c.t) < n) ∧ (¬ c.f = c.t)))))], [.box 25 [.int .i64 c.f, .int .i64 c.t, .int .i64 c.m, .int .i64 c.a]], false⟩ ?_ ?_
  · refine cL rfl (o_fa tt25 rfl tt3 rfl ?_)
    refine cL rfl (o_ldS (v := .int _ _) tt3 rfl rfl ⟨_, rfl⟩ ?_)
    refine cL rfl (o_fa tt25 rfl tt3 rfl ?_)
    refine cL rfl (o_ldS (v := .int _ _) tt3 rfl rfl ⟨_, rfl⟩ ?_)
    refine cL rfl (o_min rfl rfl ?_)
    refine cL rfl (o_geq rfl rfl ?_)
    refine cL rfl (o_move (v := .bool _) rfl ?_)
    by_cases c1 : (0 : Int) ≤ (min c.f c.t)
    · refine cLg rfl rfl (decide_eq_true c1) ?_
      refine cL rfl (o_fa tt25 rfl tt3 rfl ?_)
      refine cLg rfl rfl (decide_eq_true c1) ?_
      refine cL rfl (o_ldS (v := .int _ _) tt3 rfl rfl ⟨_, rfl⟩ ?_)
      refine cLg rfl rfl (decide_eq_true c1) ?_
      refine cL rfl (o_fa tt25 rfl tt3 rfl ?_)
      refine cLg rfl rfl (decide_eq_true c1) ?_
      refine cL rfl (o_ldS (v := .int _ _) tt3 rfl rfl ⟨_, rfl⟩ ?_)
      refine cLg rfl rfl (decide_eq_true c1) ?_
      refine cL rfl (o_max rfl rfl ?_)
      refine cLg rfl rfl (decide_eq_true c1) ?_
      refine cL rfl (o_move (v := .int _ _) rfl ?_)
      refine cLg rfl rfl (decide_eq_true c1) ?_
      refine cL rfl (o_lss rfl rfl ?_)
      refine cL rfl (o_pickT (v := .bool _) rfl (decide_eq_true c1) rfl ?_)
      refine cL rfl (o_move (v := .bool _) rfl ?_)
      by_cases c2 : (max c.f c.t) < n
      · refine cLg rfl rfl (decide_eq_true c2) ?_
        refine cL rfl (o_fa tt25 rfl tt3 rfl ?_)
        refine cLg rfl rfl (decide_eq_true c2) ?_
        refine cL rfl (o_ldS (v := .int _ _) tt3 rfl rfl ⟨_, rfl⟩ ?_)
        refine cLg rfl rfl (decide_eq_true c2) ?_
        refine cL rfl (o_fa tt25 rfl tt3 rfl ?_)
        refine cLg rfl rfl (decide_eq_true c2) ?_
        refine cL rfl (o_ldS (v := .int _ _) tt3 rfl rfl ⟨_, rfl⟩ ?_)
        refine cLg rfl rfl (decide_eq_true c2) ?_
        refine cL rfl (o_neI rfl rfl rfl ?_)
        refine cL rfl (o_pickT (v := .bool _) rfl (decide_eq_true c2) rfl ?_)
        refine cL rfl (o_assign (v := .bool _) rfl ?_)
        refine eL ?_
        exact le_mk ⟨rfl, (congrArg AV.bool (dAndT c1 (dAndT c2 (rfl)))).symm, trivial⟩ rfl
      · refine cLs rfl rfl rfl (decide_eq_false c2) ?_
        refine cLs rfl rfl rfl (decide_eq_false c2) ?_
        refine cLs rfl rfl rfl (decide_eq_false c2) ?_
        refine cLs rfl rfl rfl (decide_eq_false c2) ?_
        refine cLs rfl rfl rfl (decide_eq_false c2) ?_
        refine cL rfl (o_pickF (v := .bool _) rfl (decide_eq_false c2) rfl ?_)
        refine cL rfl (o_assign (v := .bool _) rfl ?_)
        refine eL ?_
        exact le_mk ⟨rfl, (congrArg AV.bool (dAndT c1 (dAndF c2))).symm, trivial⟩ rfl
    · refine cLs rfl rfl rfl (decide_eq_false c1) ?_
      refine cLs rfl rfl rfl (decide_eq_false c1) ?_
      refine cLs rfl rfl rfl (decide_eq_false c1) ?_
      refine cLs rfl rfl rfl (decide_eq_false c1) ?_
      refine cLs rfl rfl rfl (decide_eq_false c1) ?_
      refine cLs rfl rfl rfl (decide_eq_false c1) ?_
      refine cLs rfl rfl rfl (decide_eq_false c1) ?_
      refine cL rfl (o_pickF (v := .bool _) rfl (decide_eq_false c1) rfl ?_)
      refine cL rfl (o_move (v := .bool _) rfl ?_)
      refine cLs rfl rfl rfl (rfl) ?_
      refine cLs rfl rfl rfl (rfl) ?_
      refine cLs rfl rfl rfl (rfl) ?_
      refine cLs rfl rfl rfl (rfl) ?_
      refine cLs rfl rfl rfl (rfl) ?_
      refine cL rfl (o_pickF (v := .bool _) rfl rfl rfl ?_)
      refine cL rfl (o_assign (v := .bool _) rfl ?_)
      refine eL ?_
      exact le_mk ⟨rfl, (congrArg AV.bool (dAndF c1)).symm, trivial⟩ rfl
  · obtain ⟨sd, hv⟩ := hv
    refine W.rLm ⟨50, look [(4, .bool (decide ((((0 : Int) ≤ (min c.f c.t)) ∧ (((max c.f c.t) < n) ∧ (¬ c.f = c.t))) ∧ (((-1125899906842624 : Int) ≤ c.m) ∧ ((c.m ≤ (1125899906842624 : Int)) ∧ (((0 : Int) ≤ c.a) ∧ (c.a.fdiv (2 ^ (min (6 : Int).toNat 64)) = (0 : Int))))))))], [.box 25 [.int .i64 c.f, .int .i64 c.t, .int .i64 c.m, .int .i64 c.a]], false⟩ ?_ ?_
    · refine cL rfl (o_move (v := .bool _) rfl ?_)
      refine cL rfl (o_move (v := .bool _) rfl ?_)
      by_cases c1 : ((0 : Int) ≤ (min c.f c.t)) ∧ (((max c.f c.t) < n) ∧ (¬ c.f = c.t))
      · have sd := sd.1 c1
        refine cLg rfl rfl (decide_eq_true c1) ?_
        refine cL rfl (o_fa tt25 rfl tt3 rfl ?_)
        refine cLg rfl rfl (decide_eq_true c1) ?_
        refine cL rfl (o_ldS (v := .int _ _) tt3 rfl rfl ⟨_, rfl⟩ ?_)
        refine cLg rfl rfl (decide_eq_true c1) ?_
        refine cL rfl (o_geq rfl rfl ?_)
        refine cL rfl (o_pickT (v := .bool _) rfl (decide_eq_true c1) rfl ?_)
        refine cL rfl (o_move (v := .bool _) rfl ?_)
        by_cases c2 : (-1125899906842624 : Int) ≤ c.m
        · have sd := sd.1 c2
          refine cLg rfl rfl (decide_eq_true c2) ?_
          refine cL rfl (o_fa tt25 rfl tt3 rfl ?_)
          refine cLg rfl rfl (decide_eq_true c2) ?_
          refine cL rfl (o_ldS (v := .int _ _) tt3 rfl rfl ⟨_, rfl⟩ ?_)
          refine cLg rfl rfl (decide_eq_true c2) ?_
          refine cL rfl (o_leq rfl rfl ?_)
          refine cL rfl (o_pickT (v := .bool _) rfl (decide_eq_true c2) rfl ?_)
          refine cL rfl (o_move (v := .bool _) rfl ?_)
          by_cases c3 : c.m ≤ (1125899906842624 : Int)
          · have sd := sd.1 c3
            refine cLg rfl rfl (decide_eq_true c3) ?_
            refine cL rfl (o_fa tt25 rfl tt3 rfl ?_)
            refine cLg rfl rfl (decide_eq_true c3) ?_
            refine cL rfl (o_ldS (v := .int _ _) tt3 rfl rfl ⟨_, rfl⟩ ?_)
            refine cLg rfl rfl (decide_eq_true c3) ?_
            refine cL rfl (o_geq rfl rfl ?_)
            refine cL rfl (o_pickT (v := .bool _) rfl (decide_eq_true c3) rfl ?_)
            refine cL rfl (o_move (v := .bool _) rfl ?_)
            by_cases c4 : (0 : Int) ≤ c.a
            · have sd := sd.1 c4
              refine cLg rfl rfl (decide_eq_true c4) ?_
              refine cL rfl (o_fa tt25 rfl tt3 rfl ?_)
              refine cLg rfl rfl (decide_eq_true c4) ?_
              refine cL rfl (o_ldS (v := .int _ _) tt3 rfl rfl ⟨_, rfl⟩ ?_)
              refine cLg rfl rfl (decide_eq_true c4) ?_
              obtain ⟨s2, sd⟩ := sd
              refine cL rfl (o_shr rfl rfl s2 ?_)
              refine cLg rfl rfl (decide_eq_true c4) ?_
              refine cL rfl (o_eqI rfl rfl rfl ?_)
              refine cL rfl (o_pickT (v := .bool _) rfl (decide_eq_true c4) rfl ?_)
              refine cL rfl (o_assign (v := .bool _) rfl ?_)
              refine eL ?_
              exact le_mk ⟨(congrArg AV.bool (dAndT c1 (dAndT c2 (dAndT c3 (dAndT c4 (rfl)))))).symm, trivial⟩ rfl
            · refine cLs rfl rfl rfl (decide_eq_false c4) ?_
              refine cLs rfl rfl rfl (decide_eq_false c4) ?_
              refine cLs rfl rfl rfl (decide_eq_false c4) ?_
              refine cLs rfl rfl rfl (decide_eq_false c4) ?_
              refine cL rfl (o_pickF (v := .bool _) rfl (decide_eq_false c4) rfl ?_)
              refine cL rfl (o_assign (v := .bool _) rfl ?_)
              refine eL ?_
              exact le_mk ⟨(congrArg AV.bool (dAndT c1 (dAndT c2 (dAndT c3 (dAndF c4))))).symm, trivial⟩ rfl
          · refine cLs rfl rfl rfl (decide_eq_false c3) ?_
            refine cLs rfl rfl rfl (decide_eq_false c3) ?_
            refine cLs rfl rfl rfl (decide_eq_false c3) ?_
            refine cL rfl (o_pickF (v := .bool _) rfl (decide_eq_false c3) rfl ?_)
            refine cL rfl (o_move (v := .bool _) rfl ?_)
            refine cLs rfl rfl rfl (rfl) ?_
            refine cLs rfl rfl rfl (rfl) ?_
            refine cLs rfl rfl rfl (rfl) ?_
            refine cLs rfl rfl rfl (rfl) ?_
            refine cL rfl (o_pickF (v := .bool _) rfl rfl rfl ?_)
            refine cL rfl (o_assign (v := .bool _) rfl ?_)
            refine eL ?_
            exact le_mk ⟨(congrArg AV.bool (dAndT c1 (dAndT c2 (dAndF c3)))).symm, trivial⟩ rfl
        · refine cLs rfl rfl rfl (decide_eq_false c2) ?_
          refine cLs rfl rfl rfl (decide_eq_false c2) ?_
          refine cLs rfl rfl rfl (decide_eq_false c2) ?_
          refine cL rfl (o_pickF (v := .bool _) rfl (decide_eq_false c2) rfl ?_)
          refine cL rfl (o_move (v := .bool _) rfl ?_)
          refine cLs rfl rfl rfl (rfl) ?_
          refine cLs rfl rfl rfl (rfl) ?_
          refine cLs rfl rfl rfl (rfl) ?_
          refine cL rfl (o_pickF (v := .bool _) rfl rfl rfl ?_)
          refine cL rfl (o_move (v := .bool _) rfl ?_)
          refine cLs rfl rfl rfl (rfl) ?_
          refine cLs rfl rfl rfl (rfl) ?_
          refine cLs rfl rfl rfl (rfl) ?_
          refine cLs rfl rfl rfl (rfl) ?_
          refine cL rfl (o_pickF (v := .bool _) rfl rfl rfl ?_)
          refine cL rfl (o_assign (v := .bool _) rfl ?_)
          refine eL ?_
          exact le_mk ⟨(congrArg AV.bool (dAndT c1 (dAndF c2))).symm, trivial⟩ rfl
      · refine cLs rfl rfl rfl (decide_eq_false c1) ?_
        refine cLs rfl rfl rfl (decide_eq_false c1) ?_
        refine cLs rfl rfl rfl (decide_eq_false c1) ?_
        refine cL rfl (o_pickF (v := .bool _) rfl (decide_eq_false c1) rfl ?_)
        refine cL rfl (o_move (v := .bool _) rfl ?_)
        refine cLs rfl rfl rfl (rfl) ?_
        refine cLs rfl rfl rfl (rfl) ?_
        refine cLs rfl rfl rfl (rfl) ?_
        refine cL rfl (o_pickF (v := .bool _) rfl rfl rfl ?_)
        refine cL rfl (o_move (v := .bool _) rfl ?_)
        refine cLs rfl rfl rfl (rfl) ?_
        refine cLs rfl rfl rfl (rfl) ?_
        refine cLs rfl rfl rfl (rfl) ?_
        refine cL rfl (o_pickF (v := .bool _) rfl rfl rfl ?_)
        refine cL rfl (o_move (v := .bool _) rfl ?_)
        refine cLs rfl rfl rfl (rfl) ?_
        refine cLs rfl rfl rfl (rfl) ?_
        refine cLs rfl rfl rfl (rfl) ?_
        refine cLs rfl rfl rfl (rfl) ?_
        refine cL rfl (o_pickF (v := .bool _) rfl rfl rfl ?_)
        refine cL rfl (o_assign (v := .bool _) rfl ?_)
        refine eL ?_
        exact le_mk ⟨(congrArg AV.bool (dAndF c1)).symm, trivial⟩ rfl
    · refine W.ret ?_
      refine rt ?_
      refine rt_t (v := .bool _) rfl ?_
      refine rt_n ?_
      exact ⟨_, rs_bool _ _ _, (decide ((((0 : Int) ≤ (min c.f c.t)) ∧ (((max c.f c.t) < n) ∧ (¬ c.f = c.t))) ∧ (((-1125899906842624 : Int) ≤ c.m) ∧ ((c.m ≤ (1125899906842624 : Int)) ∧ (((0 : Int) ≤ c.a) ∧ (c.a.fdiv (2 ^ (min (6 : Int).toNat 64)) = (0 : Int))))))), rfl, hv⟩
theorem vcp_poss (n : Int) (c : Con)  : vc_poss n c (fun q0 => q0 = (possM n c)) := by
  unfold vc_poss
  refine ⟨by simp, ?_⟩
  unfold possM
  have e : (2 : Int) ^ (min (6 : Int).toNat 64) = 64 := by decide
  rw [e]
  have e2 : c.a.fdiv 64 = c.a / 64 := Int.fdiv_eq_ediv_of_nonneg _ (by omega)
  rw [e2]
  exact decide_eq_decide.mpr (by omega)
theorem spec_poss (n : Int) (c : Con)  : FnP Try.prog 43 [.int .i64 n, .agg (e25 c)] (fun xR => xR = .bool (possM n c)) :=
  (walk_poss (vcp_poss n c)).mono (by rintro _ ⟨_, rfl, rfl⟩; rfl)
end Go.Lat
namespace Go.Lat
open Go.RowKit Go.Proofs
attribute [local irreducible] closeM rangeM pointM addBM cycleM holdsM validBM sameM madeM pickM plusM validM possM firstM tableM longerM boundsM ofM addM freeM
/-- What the walk through bounds.valid$1 asks. -/
def vc_valid1 (c : Con) (n : Int) (Post : Bool → Prop) : Prop :=
  Post (decide (¬ ((possM n c) = true)))
set_option maxRecDepth 100000 in
set_option maxHeartbeats 4000000 in
theorem walk_valid1 {c : Con} {n : Int} {Post : Bool → Prop} (hv : vc_valid1 c n Post) : FnP Try.prog 57 [.agg (e25 c), .ipt true [.int .i64 n]] (fun x => ∃ q0, x = .bool q0 ∧ Post q0) := by
  refine FnP.of_walk (T := tt) (nt := 8) ttOk ttMix ⟨⟨Try.f57, Try.func57, rfl, rfl, rfl, rfl⟩⟩ (by simp) ?_
  unfold vc_valid1 at hv
  change W _ _ _ ⟨8, look [(0, .agg [.int .i64 c.f, .int .i64 c.t, .int .i64 c.m, .int .i64 c.a]), (1, .ipt true [.int .i64 n])], [], false⟩ _
  refine W.tr [(0, .agg _), (1, .ipt _ _)] [] ⟨rfl, rfl, trivial⟩ rfl ?_
  refine W.rL ?_
  refine cL rfl (o_box (v := .agg _) (p := 0) rfl rfl rfl ?_)
  refine cL rfl (o_assign (v := .bool _) rfl ?_)
  refine eL ?_
  refine W.tr [(1, .ipt _ _), (2, .ptr _ _)] [.box _ [.int _ _, .int _ _, .int _ _, .int _ _]] ⟨rfl, rfl, trivial⟩ rfl ?_
  refine W.rL ?_
  refine cL rfl (o_ldS (v := .int _ _) tt3 rfl rfl ⟨_, rfl⟩ ?_)
  refine cL rfl (o_ldA (cs := [.int _ _, .int _ _, .int _ _, .int _ _]) tt25 rfl rfl ⟨_, rfl⟩ rfl ?_)
  refine cL rfl (o_callP1 (k := 43) (fst := []) (caps := []) (ys := [.int _ _, .agg _]) rfl rfl (spec_poss n c) (Wks.cons (ag_int _ _ _ _) (Wks.cons (ag_agg 5 _ (Wks.cons (ag_int _ _ _ _) (Wks.cons (ag_int _ _ _ _) (Wks.cons (ag_int _ _ _ _) (Wks.cons (ag_int _ _ _ _) (Wks.refl _)))))) (Wks.refl _))) ?_)
  refine cL rfl (o_notB rfl ?_)
  refine cL rfl (o_assign (v := .bool _) rfl ?_)
  refine eL ?_
  refine W.tr [(3, .bool _)] [.box _ [.int _ _, .int _ _, .int _ _, .int _ _]] ⟨rfl, trivial⟩ rfl ?_
  refine W.ret ?_
  refine rt ?_
  refine rt_t (v := .bool _) rfl ?_
  refine rt_n ?_
  exact ⟨_, rs_bool _ _ _, (decide (¬ ((possM n c) = true))), rfl, hv⟩
theorem vcp_valid1 (c : Con) (n : Int)  : vc_valid1 c n (fun q0 => q0 = (!(possM n c))) := by
  unfold vc_valid1
  cases possM n c <;> rfl
theorem spec_valid1 (c : Con) (n : Int)  : FnP Try.prog 57 [.agg (e25 c), .ipt true [.int .i64 n]] (fun xR => xR = .bool (!(possM n c))) :=
  (walk_valid1 (vcp_valid1 c n)).mono (by rintro _ ⟨_, rfl, rfl⟩; rfl)
end Go.Lat
namespace Go.Lat
open Go.RowKit Go.Proofs
attribute [local irreducible] closeM rangeM pointM addBM cycleM holdsM validBM sameM madeM pickM plusM validM possM firstM tableM longerM boundsM ofM addM freeM
/-- What the walk through api.Constraint] asks. -/
def vc_idxV (s : (List Con)) (n : Int) (Post : Int → Prop) : Prop :=
  ∃ (I1 : Int → Prop) (μ1 : Int → Nat), I1 (0 : Int) ∧ ∀ (v8 : Int), I1 v8 → ((v8 < ((s.length : Nat) : Int)) → (0 ≤ v8 ∧ v8 < (s.length : Int)) ∧ (((!(possM n (lat s v8))) = true) → Post v8) ∧ (¬ ((!(possM n (lat s v8))) = true) → (inI (v8 + (1 : Int))) ∧ (I1 (v8 + (1 : Int)) ∧ μ1 (v8 + (1 : Int)) < μ1 v8))) ∧ (¬ (v8 < ((s.length : Nat) : Int)) → Post (-1 : Int))
set_option maxRecDepth 100000 in
set_option maxHeartbeats 4000000 in
theorem walk_idxV {s : (List Con)} {n : Int} {Post : Int → Prop} (hv : vc_idxV s n Post) : FnP Try.prog 60 [.lst true s.length (encL e25 s), .clo 57 [] [.ipt true [.int .i64 n]]] (fun x => ∃ q0, x = .int .i64 q0 ∧ Post q0) := by
  refine FnP.of_walk (T := tt) (nt := 19) ttOk ttMix ⟨⟨Try.f60, Try.func60, rfl, rfl, rfl, rfl⟩⟩ (by simp) ?_
  unfold vc_idxV at hv
  change W _ _ _ ⟨19, look [(0, .lst true s.length (encL e25 s)), (1, .clo 57 [] [.ipt true [.int .i64 n]])], [], false⟩ _
  refine W.tr [(0, .lst _ _ _), (1, .clo _ _ _)] [] ⟨rfl, rfl, trivial⟩ rfl ?_
  refine W.rL ?_
  refine cL rfl (o_assign (v := .int _ _) rfl ?_)
  refine eL ?_
  refine W.tr [(0, .lst _ _ _), (1, .clo _ _ _)] [] ⟨rfl, rfl, trivial⟩ rfl ?_
  refine W.seq' ?_
  refine W.rL ?_
  refine cL rfl (o_move (v := .lst _ _ _) rfl ?_)
  refine cL rfl (o_len (v := .lst _ _ _) tt22 rfl rfl ?_)
  refine cL rfl (o_move (v := .int _ _) rfl ?_)
  refine eL ?_
  refine W.tr [(0, .lst _ _ _), (1, .clo _ _ _), (7, .int _ _), (8, .int _ _)] [] ⟨rfl, rfl, rfl, rfl, trivial⟩ rfl ?_
  refine W.block ?_
  obtain ⟨I1, μ1, hp, hv⟩ := hv
  refine W.loop1 (fun v8 => ⟨19, look [(0, .lst true s.length (encL e25 s)), (1, .clo 57 [] [.ipt true [.int .i64 n]]), (7, .int .i64 ((s.length : Nat) : Int)), (8, .int .i64 v8)], [], false⟩) I1 μ1 (0 : Int) (St.to_mk (φ := []) rfl (.inl rfl) ⟨Ren.lst _ _ _, Ren.clo _ (Rens.nil) (Rens.cons (Ren.ipt _ _) (Rens.nil)), Ren.int _ _, Ren.int _ _, trivial⟩ trivial) hp ?_
  clear hp
  intro v8 hI
  replace hv := hv v8 hI
  clear hI
  refine W.rL ?_
  refine cL rfl (o_lss rfl rfl ?_)
  refine eL ?_
  refine W.tr [(0, .lst _ _ _), (1, .clo _ _ _), (7, .int _ _), (8, .int _ _), (9, .bool _)] [] ⟨rfl, rfl, rfl, rfl, rfl, trivial⟩ rfl ?_
  refine W.seq' ?_
  refine W.cn rfl (fun hc => ?_) (fun hc => ?_)
  · have hv := hv.1 hc
    refine W.skip ?_
    refine th_nrm ?_
    refine W.tr [(0, .lst _ _ _), (1, .clo _ _ _), (7, .int _ _), (8, .int _ _)] [] ⟨rfl, rfl, rfl, rfl, trivial⟩ rfl ?_
    refine W.seq' ?_
    refine W.block ?_
    refine W.rL ?_
    refine cL rfl (o_move (v := .int _ _) rfl ?_)
    refine cL rfl (o_assign (v := .int _ _) rfl ?_)
    refine eL ?_
    refine W.tr [(0, .lst _ _ _), (1, .clo _ _ _), (5, .int _ _), (7, .int _ _), (8, .int _ _)] [] ⟨rfl, rfl, rfl, rfl, rfl, trivial⟩ rfl ?_
    refine W.rL ?_
    refine cL rfl (o_move (v := .clo _ _ _) rfl ?_)
    refine cL rfl (o_move (v := .lst _ _ _) rfl ?_)
    refine cL rfl (o_move (v := .int _ _) rfl ?_)
    obtain ⟨s11, hv⟩ := hv
    refine cL rfl (o_iaL tt22 tt25 rfl rfl (enc25.wd true) rfl s11 ?_)
    intro rest11
    refine cL rfl (o_ldA (cs := [.int _ _, .int _ _, .int _ _, .int _ _]) tt25 rfl rfl ⟨_, rfl⟩ rfl ?_)
    refine cL rfl (o_callP1 (k := 57) (fst := []) (caps := [.ipt _ _]) (ys := [.agg _]) rfl rfl (spec_valid1 (lat s v8) n) (Wks.cons (ag_agg 5 _ (Wks.cons (ag_int _ _ _ _) (Wks.cons (ag_int _ _ _ _) (Wks.cons (ag_int _ _ _ _) (Wks.cons (ag_int _ _ _ _) (Wks.refl _)))))) (Wks.cons (ag_ipt _ _ _ _) (Wks.refl _))) ?_)
    refine eL ?_
    refine W.tr [(0, .lst _ _ _), (1, .clo _ _ _), (5, .int _ _), (7, .int _ _), (8, .int _ _), (16, .bool _)] [] ⟨rfl, rfl, rfl, rfl, rfl, rfl, trivial⟩ rfl ?_
    refine W.cb rfl (fun hc => ?_) (fun hc => ?_)
    · have hv := hv.1 hc
      refine W.rL ?_
      refine cL rfl (o_move (v := .int _ _) rfl ?_)
      refine cL rfl (o_assign (v := .int _ _) rfl ?_)
      refine eL ?_
      refine W.tr [(4, .int _ _)] [] ⟨rfl, trivial⟩ rfl ?_
      refine W.ret ?_
      refine bl_ret (th_ret (th_ret (bl_ret (th_ret (rt ?_)))))
      refine rt_t (v := .int _ _) rfl ?_
      refine rt_n ?_
      exact ⟨_, rs_int _ _ _ _, v8, rfl, hv⟩
    · have hv := hv.2 hc
      refine W.skip ?_
      refine bl_nrm (th_nrm ?_)
      refine W.tr [(0, .lst _ _ _), (1, .clo _ _ _), (7, .int _ _), (8, .int _ _)] [] ⟨rfl, rfl, rfl, rfl, trivial⟩ rfl ?_
      refine W.rL1 ?_
      obtain ⟨s12, hv⟩ := hv
      refine cL rfl (o_add rfl rfl s12 ?_)
      refine cL rfl (o_move (v := .int _ _) rfl ?_)
      refine eL ?_
      exact th_nrm (⟨(), (v8 + (1 : Int)), hv, St.to_mk (φ := []) rfl (.inl rfl) ⟨Ren.lst _ _ _, Ren.clo _ (Rens.nil) (Rens.cons (Ren.ipt _ _) (Rens.nil)), Ren.int _ _, Ren.int _ _, trivial⟩ trivial⟩)
  · have hv := hv.2 hc
    refine W.exit ?_
    refine th_exit (th_exit (bl_hit (th_nrm ?_)))
    refine W.tr [] [] trivial rfl ?_
    refine W.rL ?_
    refine cL rfl (o_assign (v := .int _ _) rfl ?_)
    refine eL ?_
    refine W.tr [(4, .int _ _)] [] ⟨rfl, trivial⟩ rfl ?_
    refine W.ret ?_
    refine rt ?_
    refine rt_t (v := .int _ _) rfl ?_
    refine rt_n ?_
    exact ⟨_, rs_int _ _ _ _, (-1 : Int), rfl, hv⟩
theorem vcp_idxV (s : (List Con)) (n : Int) (h0 : s.length ≤ 1073741824) : vc_idxV s n (fun q0 => q0 = (findIx (fun c => !(possM n c)) s)) := by
  unfold vc_idxV
  refine ⟨fun v => ∃ i : Nat, v = i ∧ i ≤ s.length ∧ ∀ j : Nat, j < i → ¬ (!(possM n (lat s j))) = true, fun v => s.length - v.toNat, ⟨0, rfl, by omega, by omega⟩, ?_⟩
  rintro _ ⟨i, rfl, hi, hj⟩
  refine ⟨fun h1 => ⟨by omega, fun h2 => ?_, fun h2 => ⟨by unfold inI; omega, ⟨i + 1, by omega, by omega, ?_⟩, by dsimp only; omega⟩⟩, fun h1 => ?_⟩
  · exact (findIx_lt (by omega) h2 hj).symm
  · intro j h3
    rcases Nat.lt_or_ge j i with h4 | h4
    · exact hj j h4
    · have : j = i := by omega
      subst this; exact h2
  · exact (findIx_none fun j h3 => hj j (by omega)).symm
theorem spec_idxV (s : (List Con)) (n : Int) (h0 : s.length ≤ 1073741824) : FnP Try.prog 60 [.lst true s.length (encL e25 s), .clo 57 [] [.ipt true [.int .i64 n]]] (fun xR => xR = .int .i64 (findIx (fun c => !(possM n c)) s)) :=
  (walk_idxV (vcp_idxV s n h0)).mono (by rintro _ ⟨_, rfl, rfl⟩; rfl)
end Go.Lat
namespace Go.Lat
open Go.RowKit Go.Proofs
attribute [local irreducible] closeM rangeM pointM addBM cycleM holdsM validBM sameM madeM pickM plusM validM possM firstM tableM longerM boundsM ofM addM freeM
/-- What the walk through api.Constraint] asks. -/
def vc_conV (s : (List Con)) (n : Int) (Post : Bool → Prop) : Prop :=
  (s.length ≤ 1073741824) ∧ Post (decide ((0 : Int) ≤ (findIx (fun c => !(possM n c)) s)))
set_option maxRecDepth 100000 in
set_option maxHeartbeats 4000000 in
theorem walk_conV {s : (List Con)} {n : Int} {Post : Bool → Prop} (hv : vc_conV s n Post) : FnP Try.prog 54 [.lst true s.length (encL e25 s), .clo 57 [] [.ipt true [.int .i64 n]]] (fun x => ∃ q0, x = .bool q0 ∧ Post q0) := by
  refine FnP.of_walk (T := tt) (nt := 9) ttOk ttMix ⟨⟨Try.f54, Try.func54, rfl, rfl, rfl, rfl⟩⟩ (by simp) ?_
  unfold vc_conV at hv
  change W _ _ _ ⟨9, look [(0, .lst true s.length (encL e25 s)), (1, .clo 57 [] [.ipt true [.int .i64 n]])], [], false⟩ _
  refine W.tr [(0, .lst _ _ _), (1, .clo _ _ _)] [] ⟨rfl, rfl, trivial⟩ rfl ?_
  refine W.rL ?_
  refine cL rfl (o_assign (v := .bool _) rfl ?_)
  refine eL ?_
  refine W.tr [(0, .lst _ _ _), (1, .clo _ _ _)] [] ⟨rfl, rfl, trivial⟩ rfl ?_
  refine W.rL ?_
  refine cL rfl (o_move (v := .lst _ _ _) rfl ?_)
  refine cL rfl (o_move (v := .clo _ _ _) rfl ?_)
  obtain ⟨s1, hv⟩ := hv
  refine cL rfl (o_callP1 (k := 60) (fst := []) (caps := []) (ys := [.lst _ _ _, .clo _ _ _]) rfl rfl (spec_idxV s n s1) (Wks.cons (ag_lst _ _ _ _ _) (Wks.cons (ag_clo 5 _ _ (Wks.refl _) (Wks.cons (ag_ipt _ _ _ _) (Wks.refl _))) (Wks.refl _))) ?_)
  refine cL rfl (o_geq rfl rfl ?_)
  refine cL rfl (o_assign (v := .bool _) rfl ?_)
  refine eL ?_
  refine W.tr [(4, .bool _)] [] ⟨rfl, trivial⟩ rfl ?_
  refine W.ret ?_
  refine rt ?_
  refine rt_t (v := .bool _) rfl ?_
  refine rt_n ?_
  exact ⟨_, rs_bool _ _ _, (decide ((0 : Int) ≤ (findIx (fun c => !(possM n c)) s))), rfl, hv⟩
theorem vcp_conV (s : (List Con)) (n : Int) (h0 : s.length ≤ 1073741824) : vc_conV s n (fun q0 => q0 = (!(s.all (possM n)))) := by
  unfold vc_conV
  exact ⟨h0, findIx_nonneg⟩
theorem spec_conV (s : (List Con)) (n : Int) (h0 : s.length ≤ 1073741824) : FnP Try.prog 54 [.lst true s.length (encL e25 s), .clo 57 [] [.ipt true [.int .i64 n]]] (fun xR => xR = .bool (!(s.all (possM n)))) :=
  (walk_conV (vcp_conV s n h0)).mono (by rintro _ ⟨_, rfl, rfl⟩; rfl)
end Go.Lat
namespace Go.Lat
open Go.RowKit Go.Proofs
attribute [local irreducible] closeM rangeM pointM addBM cycleM holdsM validBM sameM madeM pickM plusM validM possM firstM tableM longerM boundsM ofM addM freeM
/-- What the walk through bounds.valid asks. -/
def vc_valid (n : Int) (l : (List Con)) (Post : Bool → Prop) : Prop :=
  (((n < (1 : Int)) ∨ (((24 : Int) < n) ∨ ((2000 : Int) < ((l.length : Nat) : Int)))) → Post false) ∧ (¬ ((n < (1 : Int)) ∨ (((24 : Int) < n) ∨ ((2000 : Int) < ((l.length : Nat) : Int)))) → (l.length ≤ 1073741824) ∧ Post (decide (¬ ((!(l.all (possM n))) = true))))
set_option maxRecDepth 100000 in
set_option maxHeartbeats 4000000 in
theorem walk_valid {n : Int} {l : (List Con)} {Post : Bool → Prop} (hv : vc_valid n l Post) : FnP Try.prog 35 [.int .i64 n, .lst true l.length (encL e25 l)] (fun x => ∃ q0, x = .bool q0 ∧ Post q0) := by
  refine FnP.of_walk (T := tt) (nt := 20) ttOk ttMix ⟨⟨Try.f35, Try.func35, rfl, rfl, rfl, rfl⟩⟩ (by simp) ?_
  unfold vc_valid at hv
  change W _ _ _ ⟨20, look [(0, .int .i64 n), (1, .lst true l.length (encL e25 l))], [], false⟩ _
  refine W.tr [(0, .int _ _), (1, .lst _ _ _)] [] ⟨rfl, rfl, trivial⟩ rfl ?_
  refine W.rL ?_
  refine cL rfl (o_box (v := .int _ _) (p := 0) rfl rfl rfl ?_)
  refine cL rfl (o_assign (v := .bool _) rfl ?_)
  refine eL ?_
  refine W.tr [(1, .lst _ _ _), (2, .ptr _ _)] [.box _ [.int _ _]] ⟨rfl, rfl, trivial⟩ rfl ?_
  refine W.seq' ?_
  refine W.rLm ⟨20, look [(1, .lst true l.length (encL e25 l)), (2, .ptr 0 0), (15, .bool (decide ((n < (1 : Int)) ∨ (((24 : Int) < n) ∨ ((2000 : Int) < ((l.length : Nat) : Int))))))], [.box 3 [.int .i64 n]], false⟩ ?_ ?_
  · refine cL rfl (o_ldS (v := .int _ _) tt3 rfl rfl ⟨_, rfl⟩ ?_)
    refine cL rfl (o_lss rfl rfl ?_)
    refine cL rfl (o_move (v := .bool _) rfl ?_)
    by_cases c1 : n < (1 : Int)
    · refine cLs rfl rfl rfl (decide_eq_true c1) ?_
      refine cLs rfl rfl rfl (decide_eq_true c1) ?_
      refine cL rfl (o_pickT (v := .bool _) rfl (decide_eq_true c1) rfl ?_)
      refine cL rfl (o_move (v := .bool _) rfl ?_)
      refine cLs rfl rfl rfl (rfl) ?_
      refine cLs rfl rfl rfl (rfl) ?_
      refine cLs rfl rfl rfl (rfl) ?_
      refine cL rfl (o_pickT (v := .bool _) rfl rfl rfl ?_)
      refine eL ?_
      exact le_mk ⟨rfl, rfl, (congrArg AV.bool (dOrT c1)).symm, trivial⟩ rfl
    · refine cLg rfl rfl (decide_eq_false c1) ?_
      refine cL rfl (o_ldS (v := .int _ _) tt3 rfl rfl ⟨_, rfl⟩ ?_)
      refine cLg rfl rfl (decide_eq_false c1) ?_
      refine cL rfl (o_gtr rfl rfl ?_)
      refine cL rfl (o_pickF (v := .bool _) rfl (decide_eq_false c1) rfl ?_)
      refine cL rfl (o_move (v := .bool _) rfl ?_)
      by_cases c2 : (24 : Int) < n
      · refine cLs rfl rfl rfl (decide_eq_true c2) ?_
        refine cLs rfl rfl rfl (decide_eq_true c2) ?_
        refine cLs rfl rfl rfl (decide_eq_true c2) ?_
        refine cL rfl (o_pickT (v := .bool _) rfl (decide_eq_true c2) rfl ?_)
        refine eL ?_
        exact le_mk ⟨rfl, rfl, (congrArg AV.bool (dOrF c1 (dOrT c2))).symm, trivial⟩ rfl
      · refine cLg rfl rfl (decide_eq_false c2) ?_
        refine cL rfl (o_move (v := .lst _ _ _) rfl ?_)
        refine cLg rfl rfl (decide_eq_false c2) ?_
        refine cL rfl (o_len (v := .lst _ _ _) tt22 rfl rfl ?_)
        refine cLg rfl rfl (decide_eq_false c2) ?_
        refine cL rfl (o_gtr rfl rfl ?_)
        refine cL rfl (o_pickF (v := .bool _) rfl (decide_eq_false c2) rfl ?_)
        refine eL ?_
        exact le_mk ⟨rfl, rfl, (congrArg AV.bool (dOrF c1 (dOrF c2 (rfl)))).symm, trivial⟩ rfl
  · refine W.cn rfl (fun hc => ?_) (fun hc => ?_)
    · have hv := hv.1 hc
      refine W.rL ?_
      refine cL rfl (o_assign (v := .bool _) rfl ?_)
      refine eL ?_
      refine W.tr [(4, .bool _)] [.box _ [.int _ _]] ⟨rfl, trivial⟩ rfl ?_
      refine W.ret ?_
      refine th_ret (rt ?_)
      refine rt_t (v := .bool _) rfl ?_
      refine rt_n ?_
      exact ⟨_, rs_bool _ _ _, false, rfl, hv⟩
    · have hv := hv.2 hc
      refine W.skip ?_
      refine th_nrm ?_
      refine W.tr [(1, .lst _ _ _), (2, .ptr _ _)] [.box _ [.int _ _]] ⟨rfl, rfl, trivial⟩ rfl ?_
      refine W.rL ?_
      refine cL rfl (o_move (v := .lst _ _ _) rfl ?_)
      refine cL rfl (o_mf (ps := []) (qs := [.ptr _ _]) rfl rfl ?_)
      obtain ⟨s1, hv⟩ := hv
      refine cL rfl (o_callP1 (k := 54) (fst := []) (caps := []) (ys := [.lst _ _ _, .clo _ _ _]) rfl rfl (spec_conV l n s1) (Wks.cons (ag_lst _ _ _ _ _) (Wks.cons (ag_clo 5 _ _ (Wks.refl _) (Wks.cons (ag_box 4 rfl (Wks.cons (ag_int _ _ _ _) (Wks.refl _))) (Wks.refl _))) (Wks.refl _))) ?_)
      refine cL rfl (o_notB rfl ?_)
      refine cL rfl (o_assign (v := .bool _) rfl ?_)
      refine eL ?_
      refine W.tr [(4, .bool _)] [.box _ [.int _ _]] ⟨rfl, trivial⟩ rfl ?_
      refine W.ret ?_
      refine rt ?_
      refine rt_t (v := .bool _) rfl ?_
      refine rt_n ?_
      exact ⟨_, rs_bool _ _ _, (decide (¬ ((!(l.all (possM n))) = true))), rfl, hv⟩
theorem vcp_valid (n : Int) (l : (List Con)) (h0 : l.length ≤ 1073741824) : vc_valid n l (fun q0 => q0 = (validM n l)) := by
  unfold vc_valid
  refine ⟨fun h => ?_, fun h => ⟨h0, ?_⟩⟩
  · unfold validM
    rw [decide_eq_false (by omega)]; rfl
  · unfold validM
    rw [decide_eq_true (by omega)]
    cases l.all (possM n) <;> rfl
theorem spec_valid (n : Int) (l : (List Con)) (h0 : l.length ≤ 1073741824) : FnP Try.prog 35 [.int .i64 n, .lst true l.length (encL e25 l)] (fun xR => xR = .bool (validM n l)) :=
  (walk_valid (vcp_valid n l h0)).mono (by rintro _ ⟨_, rfl, rfl⟩; rfl)
end Go.Lat
namespace Go.Lat
open Go.RowKit Go.Proofs
attribute [local irreducible] closeM rangeM pointM addBM cycleM holdsM validBM sameM madeM pickM plusM validM possM firstM tableM longerM boundsM ofM addM freeM
/-- What the walk through bounds.free asks. -/
def vc_free  (Post : (Vector Int 576) → Prop) : Prop :=
  ∃ (I1 : Int → (Vector Int 576) → Prop) (μ1 : Int → (Vector Int 576) → Nat), I1 (0 : Int) (Vector.replicate 576 0) ∧ ∀ (v4 : Int) (m0 : (Vector Int 576)), I1 v4 m0 → ((v4 < (24 : Int)) → ∃ (I2 : Int → (Vector Int 576) → Prop) (μ2 : Int → (Vector Int 576) → Nat), I2 (0 : Int) m0 ∧ ∀ (v7 : Int) (m0_1 : (Vector Int 576)), I2 v7 m0_1 → ((v7 < (24 : Int)) → ∃ J3 : (Vector Int 576) → Prop, (∀ (b0 : (Vector Int 576)), J3 b0 → (inI (v7 + (1 : Int))) ∧ (I2 (v7 + (1 : Int)) b0 ∧ μ2 (v7 + (1 : Int)) b0 < μ2 v7 m0_1)) ∧ (((¬ v4 = v7) → (0 ≤ v4 ∧ v4 < ((24 : Nat) : Int)) ∧ (0 ≤ v7 ∧ v7 < ((24 : Nat) : Int)) ∧ (v4.toNat * 24 + v7.toNat < 576) ∧ J3 (vset m0_1 (v4.toNat * 24 + v7.toNat) (1152921504606846976 : Int))) ∧ (¬ (¬ v4 = v7) → J3 m0_1))) ∧ (¬ (v7 < (24 : Int)) → (inI (v4 + (1 : Int))) ∧ (I1 (v4 + (1 : Int)) m0_1 ∧ μ1 (v4 + (1 : Int)) m0_1 < μ1 v4 m0))) ∧ (¬ (v4 < (24 : Int)) → Post m0)
set_option maxRecDepth 100000 in
set_option maxHeartbeats 4000000 in
theorem walk_free  {Post : (Vector Int 576) → Prop} (hv : vc_free Post) : FnH Try.prog 36 [] [] (fun x H => ∃ l q0, H = .box 82 (encL eInt q0.toList) :: l ∧ x = .ptr 0 0 ∧ Post q0) := by
  refine FnH.of_walk (T := tt) (nt := 19) ttOk ttMix ⟨⟨Try.f36, Try.func36, rfl, rfl, rfl, rfl⟩⟩ (by simp) (by simp) false (by simp) ?_
  unfold vc_free at hv
  change W _ _ _ ⟨19, look [], [], false⟩ _
  refine W.tr [] [] trivial rfl ?_
  refine W.rL ?_
  refine cL rfl (o_assign (v := .nilP) rfl ?_)
  refine eL ?_
  refine W.tr [] [] trivial rfl ?_
  refine W.rL ?_
  refine cL rfl (o_alloc (p := 0) tt82 rfl (ints_zero 576) ?_)
  refine eL ?_
  refine W.tr [(1, .ptr _ _)] [.box _ _] ⟨rfl, trivial⟩ rfl ?_
  refine W.seq' ?_
  refine W.rL ?_
  refine cL rfl (o_move (v := .int _ _) rfl ?_)
  refine eL ?_
  refine W.tr [(1, .ptr _ _), (4, .int _ _)] [.box _ _] ⟨rfl, rfl, trivial⟩ rfl ?_
  refine W.block ?_
  obtain ⟨I1, μ1, hp, hv⟩ := hv
  refine W.loop2 (fun v4 m0 => ⟨19, look [(1, .ptr 0 0), (4, .int .i64 v4)], [.box 82 (encL eInt m0.toList)], false⟩) I1 μ1 (0 : Int) (Vector.replicate 576 0) (St.to_mk (φ := [some 0]) rfl (.inl rfl) ⟨Ren.ptr rfl, Ren.int _ _, trivial⟩ ⟨.inr ⟨_, rfl, rfl, Rens.enc encInt true _⟩, trivial⟩) hp ?_
  clear hp
  intro v4 m0 hI
  replace hv := hv v4 m0 hI
  clear hI
  refine W.rL ?_
  refine cL rfl (o_lss rfl rfl ?_)
  refine eL ?_
  refine W.tr [(1, .ptr _ _), (4, .int _ _), (5, .bool _)] [.box _ _] ⟨rfl, rfl, rfl, trivial⟩ rfl ?_
  refine W.seq' ?_
  refine W.cn rfl (fun hc => ?_) (fun hc => ?_)
  · have hv := hv.1 hc
    refine W.skip ?_
    refine th_nrm ?_
    refine W.tr [(1, .ptr _ _), (4, .int _ _)] [.box _ _] ⟨rfl, rfl, trivial⟩ rfl ?_
    refine W.seq' ?_
    refine W.block ?_
    refine W.rL ?_
    refine cL rfl (o_move (v := .int _ _) rfl ?_)
    refine cL rfl (o_assign (v := .int _ _) rfl ?_)
    refine eL ?_
    refine W.tr [(1, .ptr _ _), (2, .int _ _), (4, .int _ _)] [.box _ _] ⟨rfl, rfl, rfl, trivial⟩ rfl ?_
    refine W.rL ?_
    refine cL rfl (o_move (v := .int _ _) rfl ?_)
    refine eL ?_
    refine W.tr [(1, .ptr _ _), (2, .int _ _), (4, .int _ _), (7, .int _ _)] [.box _ _] ⟨rfl, rfl, rfl, rfl, trivial⟩ rfl ?_
    refine W.block ?_
    obtain ⟨I2, μ2, hp, hv⟩ := hv
    refine W.loop2 (fun v7 m0_1 => ⟨19, look [(1, .ptr 0 0), (2, .int .i64 v4), (4, .int .i64 v4), (7, .int .i64 v7)], [.box 82 (encL eInt m0_1.toList)], false⟩) I2 μ2 (0 : Int) m0 (St.to_mk (φ := [some 0]) rfl (.inl rfl) ⟨Ren.ptr rfl, Ren.int _ _, Ren.int _ _, Ren.int _ _, trivial⟩ ⟨.inr ⟨_, rfl, rfl, Rens.enc encInt true _⟩, trivial⟩) hp ?_
    clear hp
    intro v7 m0_1 hI
    replace hv := hv v7 m0_1 hI
    clear hI
    refine W.rL ?_
    refine cL rfl (o_lss rfl rfl ?_)
    refine eL ?_
    refine W.tr [(1, .ptr _ _), (2, .int _ _), (4, .int _ _), (7, .int _ _), (8, .bool _)] [.box _ _] ⟨rfl, rfl, rfl, rfl, rfl, trivial⟩ rfl ?_
    refine W.seq' ?_
    refine W.cn rfl (fun hc => ?_) (fun hc => ?_)
    · have hv := hv.1 hc
      refine W.skip ?_
      refine th_nrm ?_
      refine W.tr [(1, .ptr _ _), (2, .int _ _), (4, .int _ _), (7, .int _ _)] [.box _ _] ⟨rfl, rfl, rfl, rfl, trivial⟩ rfl ?_
      obtain ⟨J3, hj, hv⟩ := hv
      refine W.mid1 (fun b0 => ⟨19, look [(1, .ptr 0 0), (2, .int .i64 v4), (4, .int .i64 v4), (7, .int .i64 v7)], [.box 82 (encL eInt b0.toList)], false⟩) J3 ?_ ?_
      · intro b0
        intro hv
        replace hv := hj b0 hv
        refine W.rL1 ?_
        obtain ⟨s254, hv⟩ := hv
        refine cL rfl (o_add rfl rfl s254 ?_)
        refine cL rfl (o_move (v := .int _ _) rfl ?_)
        refine eL ?_
        exact th_nrm (⟨(), (v7 + (1 : Int)), b0, hv, St.to_mk (φ := [some 0]) rfl (.inl rfl) ⟨Ren.ptr rfl, Ren.int _ _, Ren.int _ _, Ren.int _ _, trivial⟩ ⟨.inr ⟨_, rfl, rfl, Rens.enc encInt true _⟩, trivial⟩⟩)
      · clear hj
        refine W.block ?_
        refine W.rL ?_
        refine cL rfl (o_move (v := .int _ _) rfl ?_)
        refine cL rfl (o_assign (v := .int _ _) rfl ?_)
        refine eL ?_
        refine W.tr [(1, .ptr _ _), (2, .int _ _), (3, .int _ _), (4, .int _ _), (7, .int _ _)] [.box _ _] ⟨rfl, rfl, rfl, rfl, rfl, trivial⟩ rfl ?_
        refine W.rL ?_
        refine cL rfl (o_move (v := .int _ _) rfl ?_)
        refine cL rfl (o_move (v := .int _ _) rfl ?_)
        refine cL rfl (o_neI rfl rfl rfl ?_)
        refine eL ?_
        refine W.tr [(1, .ptr _ _), (2, .int _ _), (3, .int _ _), (4, .int _ _), (7, .int _ _), (12, .bool _)] [.box _ _] ⟨rfl, rfl, rfl, rfl, rfl, rfl, trivial⟩ rfl ?_
        refine W.cn rfl (fun hc => ?_) (fun hc => ?_)
        · have hv := hv.1 hc
          refine W.rL1 ?_
          refine cL rfl (o_move (v := .int _ _) rfl ?_)
          refine cL rfl (o_move (v := .int _ _) rfl ?_)
          obtain ⟨s255, hv⟩ := hv
          refine cL rfl (o_iaA tt82 tt73 rfl rfl s255 (Nat.zero_add _) ?_)
          obtain ⟨s256, hv⟩ := hv
          refine cL rfl (o_iaA tt73 tt3 rfl rfl s256 (by rw [Nat.mul_one]) ?_)
          obtain ⟨s257, hv⟩ := hv
          refine cLn (o_stB (v := .int _ _) tt3 rfl rfl rfl rfl rfl (by rw [ints_len]; exact s257) (ints_set _ _ _) ?_)
          refine eL ?_
          exact bl_nrm (th_nrm (⟨(), (vset m0_1 (v4.toNat * 24 + v7.toNat) (1152921504606846976 : Int)), hv, St.to_mk (φ := [some 0]) rfl (.inl rfl) ⟨Ren.ptr rfl, Ren.int _ _, Ren.int _ _, Ren.int _ _, trivial⟩ ⟨.inr ⟨_, rfl, rfl, Rens.enc encInt true _⟩, trivial⟩⟩))
        · have hv := hv.2 hc
          refine W.skip ?_
          exact bl_nrm (th_nrm (⟨(), m0_1, hv, St.to_mk (φ := [some 0]) rfl (.inl rfl) ⟨Ren.ptr rfl, Ren.int _ _, Ren.int _ _, Ren.int _ _, trivial⟩ ⟨.inr ⟨_, rfl, rfl, Rens.enc encInt true _⟩, trivial⟩⟩))
    · have hv := hv.2 hc
      refine W.exit ?_
      refine th_exit (th_exit (bl_hit (bl_nrm (th_nrm ?_))))
      refine W.tr [(1, .ptr _ _), (4, .int _ _)] [.box _ _] ⟨rfl, rfl, trivial⟩ rfl ?_
      refine W.rL1 ?_
      obtain ⟨s258, hv⟩ := hv
      refine cL rfl (o_add rfl rfl s258 ?_)
      refine cL rfl (o_move (v := .int _ _) rfl ?_)
      refine eL ?_
      exact th_nrm (⟨(), (v4 + (1 : Int)), m0_1, hv, St.to_mk (φ := [some 0]) rfl (.inl rfl) ⟨Ren.ptr rfl, Ren.int _ _, trivial⟩ ⟨.inr ⟨_, rfl, rfl, Rens.enc encInt true _⟩, trivial⟩⟩)
  · have hv := hv.2 hc
    refine W.exit ?_
    refine th_exit (th_exit (bl_hit (th_nrm ?_)))
    refine W.tr [(1, .ptr _ _)] [.box _ _] ⟨rfl, trivial⟩ rfl ?_
    refine W.rL ?_
    refine cL rfl (o_assign (v := .ptr _ _) rfl ?_)
    refine eL ?_
    refine W.tr [(0, .ptr _ _)] [.box _ _] ⟨rfl, trivial⟩ rfl ?_
    refine W.to (st' := ⟨19, look [(0, .ptr 0 0)], [.box 82 (encL eInt m0.toList)], false⟩) (St.to_mk (φ := [some 0]) rfl (.inl rfl) ⟨Ren.ptr rfl, trivial⟩ ⟨.inr ⟨_, rfl, rfl, Rens.enc encInt true _⟩, trivial⟩) ?_
    refine W.ret ?_
    refine rt ?_
    refine rt_t (v := .ptr _ _) rfl ?_
    refine rt_n ?_
    exact ⟨_, m0, rfl, rfl, hv⟩
theorem vcp_free   : vc_free (fun q0 => q0 = freeM) := by
  unfold vc_free
  have hNB : NB = 1152921504606846976 := rfl
  refine ⟨fun v m => ∃ i : Nat, v = i ∧ i ≤ 24 ∧ ∀ k, k < 576 → vat m k = if k / 24 < i ∧ ¬ k / 24 = k % 24 then NB else 0, fun v _ => 24 - v.toNat, ⟨0, rfl, by omega, fun k hk => by rw [vat_rep hk]; simp⟩, ?_⟩
  rintro _ m0 ⟨i, rfl, hi, hm⟩
  refine ⟨fun h1 => ⟨fun v m => ∃ j : Nat, v = j ∧ j ≤ 24 ∧ ∀ k, k < 576 → vat m k = if (k / 24 < i ∨ k / 24 = i ∧ k % 24 < j) ∧ ¬ k / 24 = k % 24 then NB else 0, fun v _ => 24 - v.toNat, ⟨0, rfl, by omega, fun k hk => ?_⟩, ?_⟩, fun h1 => ?_⟩
  · rw [hm k hk]; split <;> split <;> omega
  · rintro _ m1 ⟨j, rfl, hj, hk⟩
    refine ⟨fun h2 => ⟨fun b => ∀ k, k < 576 → vat b k = if (k / 24 < i ∨ k / 24 = i ∧ k % 24 < j + 1) ∧ ¬ k / 24 = k % 24 then NB else 0, fun b hb => ⟨by unfold inI; omega, ⟨j + 1, by omega, by omega, hb⟩, by dsimp only; omega⟩, fun h3 => ⟨by omega, by omega, by omega, ?_⟩, fun h3 => ?_⟩, fun h2 => ⟨by unfold inI; omega, ⟨i + 1, by omega, by omega, ?_⟩, by dsimp only; omega⟩⟩
    · intro k hk1
      rw [vat_vset (by omega), hk k hk1]
      simp only [Int.toNat_natCast]
      split <;> split <;> (try split) <;> omega
    · intro k hk1
      rw [hk k hk1]; split <;> split <;> omega
    · intro k hk1
      rw [hk k hk1]; split <;> split <;> omega
  · refine vec_ext fun k hk => ?_
    rw [hm k hk]
    unfold freeM
    rw [vat_ofFn hk]
    dsimp only
    split <;> split <;> omega
theorem spec_free   : FnH Try.prog 36 [] [] (fun xR H => ∃ l, H = .box 82 (encL eInt (freeM).toList) :: l ∧ xR = .ptr 0 0) :=
  (walk_free (vcp_free)).mono (by rintro _ _ ⟨l, _, h1, h2, rfl⟩; exact ⟨l, h1, h2⟩)
end Go.Lat
namespace Go.Lat
open Go.RowKit Go.Proofs
attribute [local irreducible] closeM rangeM pointM addBM cycleM holdsM validBM sameM madeM pickM plusM validM possM firstM tableM longerM boundsM ofM addM freeM
/-- What the walk through bounds.plus asks. -/
def vc_plus (a : Int) (b : Int) (Post : Int → Prop) : Prop :=
  (((a = (1152921504606846976 : Int)) ∨ (b = (1152921504606846976 : Int))) → Post (1152921504606846976 : Int)) ∧ (¬ ((a = (1152921504606846976 : Int)) ∨ (b = (1152921504606846976 : Int))) → (inI (a + b)) ∧ Post (a + b))
set_option maxRecDepth 100000 in
set_option maxHeartbeats 4000000 in
theorem walk_plus {a : Int} {b : Int} {Post : Int → Prop} (hv : vc_plus a b Post) : FnP Try.prog 47 [.int .i64 a, .int .i64 b] (fun x => ∃ q0, x = .int .i64 q0 ∧ Post q0) := by
  refine FnP.of_walk (T := tt) (nt := 14) ttOk ttMix ⟨⟨Try.f47, Try.func47, rfl, rfl, rfl, rfl⟩⟩ (by simp) ?_
  unfold vc_plus at hv
  change W _ _ _ ⟨14, look [(0, .int .i64 a), (1, .int .i64 b)], [], false⟩ _
  refine W.tr [(0, .int _ _), (1, .int _ _)] [] ⟨rfl, rfl, trivial⟩ rfl ?_
  refine W.rL ?_
  refine cL rfl (o_assign (v := .int _ _) rfl ?_)
  refine eL ?_
  refine W.tr [(0, .int _ _), (1, .int _ _)] [] ⟨rfl, rfl, trivial⟩ rfl ?_
  refine W.seq' ?_
  refine W.rLm ⟨14, look [(0, .int .i64 a), (1, .int .i64 b), (10, .bool (decide ((a = (1152921504606846976 : Int)) ∨ (b = (1152921504606846976 : Int)))))], [], false⟩ ?_ ?_
  · refine cL rfl (o_move (v := .int _ _) rfl ?_)
    refine cL rfl (o_eqI rfl rfl rfl ?_)
    refine cL rfl (o_move (v := .bool _) rfl ?_)
    by_cases c1 : a = (1152921504606846976 : Int)
    · refine cLs rfl rfl rfl (decide_eq_true c1) ?_
      refine cLs rfl rfl rfl (decide_eq_true c1) ?_
      refine cL rfl (o_pickT (v := .bool _) rfl (decide_eq_true c1) rfl ?_)
      refine eL ?_
      exact le_mk ⟨rfl, rfl, (congrArg AV.bool (dOrT c1)).symm, trivial⟩ rfl
    · refine cLg rfl rfl (decide_eq_false c1) ?_
      refine cL rfl (o_move (v := .int _ _) rfl ?_)
      refine cLg rfl rfl (decide_eq_false c1) ?_
      refine cL rfl (o_eqI rfl rfl rfl ?_)
      refine cL rfl (o_pickF (v := .bool _) rfl (decide_eq_false c1) rfl ?_)
      refine eL ?_
      exact le_mk ⟨rfl, rfl, (congrArg AV.bool (dOrF c1 (rfl))).symm, trivial⟩ rfl
  · refine W.cn rfl (fun hc => ?_) (fun hc => ?_)
    · have hv := hv.1 hc
      refine W.rL ?_
      refine cL rfl (o_assign (v := .int _ _) rfl ?_)
      refine eL ?_
      refine W.tr [(4, .int _ _)] [] ⟨rfl, trivial⟩ rfl ?_
      refine W.ret ?_
      refine th_ret (rt ?_)
      refine rt_t (v := .int _ _) rfl ?_
      refine rt_n ?_
      exact ⟨_, rs_int _ _ _ _, (1152921504606846976 : Int), rfl, hv⟩
    · have hv := hv.2 hc
      refine W.skip ?_
      refine th_nrm ?_
      refine W.tr [(0, .int _ _), (1, .int _ _)] [] ⟨rfl, rfl, trivial⟩ rfl ?_
      refine W.rL ?_
      refine cL rfl (o_move (v := .int _ _) rfl ?_)
      refine cL rfl (o_move (v := .int _ _) rfl ?_)
      obtain ⟨s1, hv⟩ := hv
      refine cL rfl (o_add rfl rfl s1 ?_)
      refine cL rfl (o_assign (v := .int _ _) rfl ?_)
      refine eL ?_
      refine W.tr [(4, .int _ _)] [] ⟨rfl, trivial⟩ rfl ?_
      refine W.ret ?_
      refine rt ?_
      refine rt_t (v := .int _ _) rfl ?_
      refine rt_n ?_
      exact ⟨_, rs_int _ _ _ _, (a + b), rfl, hv⟩
theorem vcp_plus (a : Int) (b : Int) (h0 : ¬ a = NB → ¬ b = NB → inI (a + b)) : vc_plus a b (fun q0 => q0 = (plusM a b)) := by
  unfold vc_plus plusM
  refine ⟨fun h => by simp only [h, if_true, NB], fun h => ?_⟩
  have ha : ¬ a = NB := fun e => h (.inl e)
  have hb : ¬ b = NB := fun e => h (.inr e)
  exact ⟨h0 ha hb, by simp only [ha, hb, or_self, if_false]⟩
theorem spec_plus (a : Int) (b : Int) (h0 : ¬ a = NB → ¬ b = NB → inI (a + b)) : FnP Try.prog 47 [.int .i64 a, .int .i64 b] (fun xR => xR = .int .i64 (plusM a b)) :=
  (walk_plus (vcp_plus a b h0)).mono (by rintro _ ⟨_, rfl, rfl⟩; rfl)
end Go.Lat
namespace Go.Lat
open Go.RowKit Go.Proofs
attribute [local irreducible] closeM rangeM pointM addBM cycleM holdsM validBM sameM madeM pickM plusM validM possM firstM tableM longerM boundsM ofM addM freeM
/-- What the walk through bounds.matrix).add asks. -/
def vc_add (m : (Vector Int 576)) (f : Int) (t : Int) (w : Int) (Post : (Vector Int 576) → Bool → Prop) : Prop :=
  (0 ≤ t ∧ t < ((24 : Nat) : Int)) ∧ (0 ≤ f ∧ f < ((24 : Nat) : Int)) ∧ (t.toNat * 24 + f.toNat < 576) ∧ (¬ w = NB → ¬ (vat m (t.toNat * 24 + f.toNat)) = NB → inI (w + (vat m (t.toNat * 24 + f.toNat)))) ∧ (((plusM w (vat m (t.toNat * 24 + f.toNat))) < (0 : Int)) → Post m false) ∧ (¬ ((plusM w (vat m (t.toNat * 24 + f.toNat))) < (0 : Int)) → (0 ≤ f ∧ f < ((24 : Nat) : Int)) ∧ (0 ≤ t ∧ t < ((24 : Nat) : Int)) ∧ (f.toNat * 24 + t.toNat < 576) ∧ (((vat m (f.toNat * 24 + t.toNat)) ≤ w) → Post m true) ∧ (¬ ((vat m (f.toNat * 24 + t.toNat)) ≤ w) → ∃ (I1 : Int → (Vector Int 576) → Prop) (μ1 : Int → (Vector Int 576) → Nat), I1 (0 : Int) m ∧ ∀ (v34 : Int) (m0 : (Vector Int 576)), I1 v34 m0 → ((v34 < (24 : Int)) → ∃ J2 : (Vector Int 576) → Prop, (∀ (b0 : (Vector Int 576)), J2 b0 → (inI (v34 + (1 : Int))) ∧ (I1 (v34 + (1 : Int)) b0 ∧ μ1 (v34 + (1 : Int)) b0 < μ1 v34 m0)) ∧ ((0 ≤ v34 ∧ v34 < ((24 : Nat) : Int)) ∧ (0 ≤ f ∧ f < ((24 : Nat) : Int)) ∧ (v34.toNat * 24 + f.toNat < 576) ∧ ((vat m (v34.toNat * 24 + f.toNat) = (1152921504606846976 : Int)) → J2 m0) ∧ (¬ (vat m (v34.toNat * 24 + f.toNat) = (1152921504606846976 : Int)) → ∃ (I3 : Int → (Vector Int 576) → Prop) (μ3 : Int → (Vector Int 576) → Nat), I3 (0 : Int) m0 ∧ ∀ (v43 : Int) (m0_1 : (Vector Int 576)), I3 v43 m0_1 → ((v43 < (24 : Int)) → (0 ≤ v34 ∧ v34 < ((24 : Nat) : Int)) ∧ (0 ≤ v43 ∧ v43 < ((24 : Nat) : Int)) ∧ (v34.toNat * 24 + v43.toNat < 576) ∧ (0 ≤ v34 ∧ v34 < ((24 : Nat) : Int)) ∧ (0 ≤ f ∧ f < ((24 : Nat) : Int)) ∧ (v34.toNat * 24 + f.toNat < 576) ∧ (inI ((vat m (v34.toNat * 24 + f.toNat)) + w)) ∧ (0 ≤ t ∧ t < ((24 : Nat) : Int)) ∧ (0 ≤ v43 ∧ v43 < ((24 : Nat) : Int)) ∧ (t.toNat * 24 + v43.toNat < 576) ∧ (0 ≤ v34 ∧ v34 < ((24 : Nat) : Int)) ∧ (¬ ((vat m (v34.toNat * 24 + f.toNat)) + w) = NB → ¬ (vat m (t.toNat * 24 + v43.toNat)) = NB → inI (((vat m (v34.toNat * 24 + f.toNat)) + w) + (vat m (t.toNat * 24 + v43.toNat)))) ∧ (0 ≤ v43 ∧ v43 < ((24 : Nat) : Int)) ∧ (v34.toNat * 24 + v43.toNat < 576) ∧ (inI (v43 + (1 : Int))) ∧ (I3 (v43 + (1 : Int)) (vset m0_1 (v34.toNat * 24 + v43.toNat) (min (vat m0_1 (v34.toNat * 24 + v43.toNat)) (plusM ((vat m (v34.toNat * 24 + f.toNat)) + w) (vat m (t.toNat * 24 + v43.toNat))))) ∧ μ3 (v43 + (1 : Int)) (vset m0_1 (v34.toNat * 24 + v43.toNat) (min (vat m0_1 (v34.toNat * 24 + v43.toNat)) (plusM ((vat m (v34.toNat * 24 + f.toNat)) + w) (vat m (t.toNat * 24 + v43.toNat))))) < μ3 v43 m0_1)) ∧ (¬ (v43 < (24 : Int)) → J2 m0_1)))) ∧ (¬ (v34 < (24 : Int)) → Post m0 true)))
set_option maxRecDepth 100000 in
set_option maxHeartbeats 4000000 in
theorem walk_add {m : (Vector Int 576)} {f : Int} {t : Int} {w : Int} {Post : (Vector Int 576) → Bool → Prop} (hv : vc_add m f t w Post) : FnH Try.prog 37 [.box 82 (encL eInt m.toList)] [.ptr 0 0, .int .i64 f, .int .i64 t, .int .i64 w] (fun x H => ∃ l q0 q1, H = .box 82 (encL eInt q0.toList) :: l ∧ x = .bool q1 ∧ Post q0 q1) := by
  refine FnH.of_walk (T := tt) (nt := 75) ttOk ttMix ⟨⟨Try.f37, Try.func37, rfl, rfl, rfl, rfl⟩⟩ (by simp) (by simp) true (by simp) ?_
  unfold vc_add at hv
  change W _ _ _ ⟨75, look [(0, .ptr 0 0), (1, .int .i64 f), (2, .int .i64 t), (3, .int .i64 w)], [.box 82 (encL eInt m.toList)], true⟩ _
  refine W.tr [(0, .ptr _ _), (1, .int _ _), (2, .int _ _), (3, .int _ _)] [.box _ _] ⟨rfl, rfl, rfl, rfl, trivial⟩ rfl ?_
  refine W.rL ?_
  refine cL rfl (o_assign (v := .bool _) rfl ?_)
  refine eL ?_
  refine W.tr [(0, .ptr _ _), (1, .int _ _), (2, .int _ _), (3, .int _ _)] [.box _ _] ⟨rfl, rfl, rfl, rfl, trivial⟩ rfl ?_
  refine W.seq' ?_
  refine W.rL ?_
  refine cL rfl (o_move (v := .int _ _) rfl ?_)
  refine cL rfl (o_move (v := .ptr _ _) rfl ?_)
  refine cL rfl (o_move (v := .int _ _) rfl ?_)
  refine cL rfl (o_move (v := .int _ _) rfl ?_)
  refine cL rfl (o_nil rfl ?_)
  obtain ⟨s5, hv⟩ := hv
  refine cL rfl (o_iaA tt82 tt73 rfl rfl s5 (Nat.zero_add _) ?_)
  obtain ⟨s6, hv⟩ := hv
  refine cL rfl (o_iaA tt73 tt3 rfl rfl s6 (by rw [Nat.mul_one]) ?_)
  obtain ⟨s7, hv⟩ := hv
  refine cL rfl (o_ldS tt3 rfl rfl (ca_vec rfl s7) ?_)
  obtain ⟨s8, hv⟩ := hv
  refine cL rfl (o_callP1 (k := 47) (fst := []) (caps := []) (ys := [.int _ _, .int _ _]) rfl rfl (spec_plus w (vat m (t.toNat * 24 + f.toNat)) s8) (Wks.cons (ag_int _ _ _ _) (Wks.cons (ag_int _ _ _ _) (Wks.refl _))) ?_)
  refine cL rfl (o_lss rfl rfl ?_)
  refine eL ?_
  refine W.tr [(0, .ptr _ _), (1, .int _ _), (2, .int _ _), (3, .int _ _), (21, .bool _)] [.box _ _] ⟨rfl, rfl, rfl, rfl, rfl, trivial⟩ rfl ?_
  refine W.cn rfl (fun hc => ?_) (fun hc => ?_)
  · have hv := hv.1 hc
    refine W.rL ?_
    refine cL rfl (o_assign (v := .bool _) rfl ?_)
    refine eL ?_
    refine W.tr [(8, .bool _)] [.box _ _] ⟨rfl, trivial⟩ rfl ?_
    refine W.ret ?_
    refine th_ret (rt ?_)
    refine rt_t (v := .bool _) rfl ?_
    refine rt_n ?_
    exact ⟨_, m, false, rfl, rfl, hv⟩
  · have hv := hv.2 hc
    refine W.skip ?_
    refine th_nrm ?_
    refine W.tr [(0, .ptr _ _), (1, .int _ _), (2, .int _ _), (3, .int _ _)] [.box _ _] ⟨rfl, rfl, rfl, rfl, trivial⟩ rfl ?_
    refine W.seq' ?_
    refine W.rL ?_
    refine cL rfl (o_move (v := .ptr _ _) rfl ?_)
    refine cL rfl (o_move (v := .int _ _) rfl ?_)
    refine cL rfl (o_move (v := .int _ _) rfl ?_)
    refine cL rfl (o_nil rfl ?_)
    obtain ⟨s12, hv⟩ := hv
    refine cL rfl (o_iaA tt82 tt73 rfl rfl s12 (Nat.zero_add _) ?_)
    obtain ⟨s13, hv⟩ := hv
    refine cL rfl (o_iaA tt73 tt3 rfl rfl s13 (by rw [Nat.mul_one]) ?_)
    obtain ⟨s14, hv⟩ := hv
    refine cL rfl (o_ldS tt3 rfl rfl (ca_vec rfl s14) ?_)
    refine cL rfl (o_move (v := .int _ _) rfl ?_)
    refine cL rfl (o_leq rfl rfl ?_)
    refine eL ?_
    refine W.tr [(0, .ptr _ _), (1, .int _ _), (2, .int _ _), (3, .int _ _), (30, .bool _)] [.box _ _] ⟨rfl, rfl, rfl, rfl, rfl, trivial⟩ rfl ?_
    refine W.cn rfl (fun hc => ?_) (fun hc => ?_)
    · have hv := hv.1 hc
      refine W.rL ?_
      refine cL rfl (o_assign (v := .bool _) rfl ?_)
      refine eL ?_
      refine W.tr [(8, .bool _)] [.box _ _] ⟨rfl, trivial⟩ rfl ?_
      refine W.ret ?_
      refine th_ret (rt ?_)
      refine rt_t (v := .bool _) rfl ?_
      refine rt_n ?_
      exact ⟨_, m, true, rfl, rfl, hv⟩
    · have hv := hv.2 hc
      refine W.skip ?_
      refine th_nrm ?_
      refine W.tr [(0, .ptr _ _), (1, .int _ _), (2, .int _ _), (3, .int _ _)] [.box _ _] ⟨rfl, rfl, rfl, rfl, trivial⟩ rfl ?_
      refine W.rL ?_
      refine cL rfl (o_move (v := .ptr _ _) rfl ?_)
      refine cL rfl (o_nil rfl ?_)
      refine cL rfl (o_ldA tt82 rfl rfl (ca_all rfl) (ints_len _) ?_)
      refine cL rfl (o_alloc (p := 1) tt82 rfl (ints_zero 576) ?_)
      refine cLn (o_stB (v := .agg _) tt82 rfl rfl rfl (ints_len _) rfl (vec_in (ints_len _) (ints_len _)) (spl_all _ _ ((ints_len _).trans (ints_len _).symm)) ?_)
      refine eL ?_
      refine W.tr [(0, .ptr _ _), (1, .int _ _), (2, .int _ _), (3, .int _ _), (9, .ptr _ _)] [.box _ _, .box _ _] ⟨rfl, rfl, rfl, rfl, rfl, trivial⟩ rfl ?_
      refine W.seq' ?_
      refine W.rL ?_
      refine cL rfl (o_move (v := .int _ _) rfl ?_)
      refine eL ?_
      refine W.tr [(0, .ptr _ _), (1, .int _ _), (2, .int _ _), (3, .int _ _), (9, .ptr _ _), (34, .int _ _)] [.box _ _, .box _ _] ⟨rfl, rfl, rfl, rfl, rfl, rfl, trivial⟩ rfl ?_
      refine W.block ?_
      obtain ⟨I1, μ1, hp, hv⟩ := hv
      refine W.loop2 (fun v34 m0 => ⟨75, look [(0, .ptr 0 0), (1, .int .i64 f), (2, .int .i64 t), (3, .int .i64 w), (9, .ptr 1 0), (34, .int .i64 v34)], [.box 82 (encL eInt m0.toList), .box 82 (encL eInt m.toList)], true⟩) I1 μ1 (0 : Int) m (St.to_mk (φ := [some 0, some 1]) rfl (.inr (.inr rfl)) ⟨Ren.ptr rfl, Ren.int _ _, Ren.int _ _, Ren.int _ _, Ren.ptr rfl, Ren.int _ _, trivial⟩ ⟨.inr ⟨_, rfl, rfl, Rens.enc encInt true _⟩, .inr ⟨_, rfl, rfl, Rens.enc encInt true _⟩, trivial⟩) hp ?_
      clear hp
      intro v34 m0 hI
      replace hv := hv v34 m0 hI
      clear hI
      refine W.rL ?_
      refine cL rfl (o_lss rfl rfl ?_)
      refine eL ?_
      refine W.tr [(0, .ptr _ _), (1, .int _ _), (2, .int _ _), (3, .int _ _), (9, .ptr _ _), (34, .int _ _), (35, .bool _)] [.box _ _, .box _ _] ⟨rfl, rfl, rfl, rfl, rfl, rfl, rfl, trivial⟩ rfl ?_
      refine W.seq' ?_
      refine W.cn rfl (fun hc => ?_) (fun hc => ?_)
      · have hv := hv.1 hc
        refine W.skip ?_
        refine th_nrm ?_
        refine W.tr [(0, .ptr _ _), (1, .int _ _), (2, .int _ _), (3, .int _ _), (9, .ptr _ _), (34, .int _ _)] [.box _ _, .box _ _] ⟨rfl, rfl, rfl, rfl, rfl, rfl, trivial⟩ rfl ?_
        obtain ⟨J2, hj, hv⟩ := hv
        refine W.mid1 (fun b0 => ⟨75, look [(0, .ptr 0 0), (1, .int .i64 f), (2, .int .i64 t), (3, .int .i64 w), (9, .ptr 1 0), (34, .int .i64 v34)], [.box 82 (encL eInt b0.toList), .box 82 (encL eInt m.toList)], true⟩) J2 ?_ ?_
        · intro b0
          intro hv
          replace hv := hj b0 hv
          refine W.rL1 ?_
          obtain ⟨s1043, hv⟩ := hv
          refine cL rfl (o_add rfl rfl s1043 ?_)
          refine cL rfl (o_move (v := .int _ _) rfl ?_)
          refine eL ?_
          exact th_nrm (⟨(), (v34 + (1 : Int)), b0, hv, St.to_mk (φ := [some 0, some 1]) rfl (.inr (.inr rfl)) ⟨Ren.ptr rfl, Ren.int _ _, Ren.int _ _, Ren.int _ _, Ren.ptr rfl, Ren.int _ _, trivial⟩ ⟨.inr ⟨_, rfl, rfl, Rens.enc encInt true _⟩, .inr ⟨_, rfl, rfl, Rens.enc encInt true _⟩, trivial⟩⟩)
        · clear hj
          refine W.block ?_
          refine W.rL ?_
          refine cL rfl (o_move (v := .int _ _) rfl ?_)
          refine cL rfl (o_assign (v := .int _ _) rfl ?_)
          refine eL ?_
          refine W.tr [(0, .ptr _ _), (1, .int _ _), (2, .int _ _), (3, .int _ _), (9, .ptr _ _), (10, .int _ _), (34, .int _ _)] [.box _ _, .box _ _] ⟨rfl, rfl, rfl, rfl, rfl, rfl, rfl, trivial⟩ rfl ?_
          refine W.seq' ?_
          refine W.rL ?_
          refine cL rfl (o_move (v := .int _ _) rfl ?_)
          refine cL rfl (o_move (v := .int _ _) rfl ?_)
          obtain ⟨s1047, hv⟩ := hv
          refine cL rfl (o_iaA tt82 tt73 rfl rfl s1047 (Nat.zero_add _) ?_)
          obtain ⟨s1048, hv⟩ := hv
          refine cL rfl (o_iaA tt73 tt3 rfl rfl s1048 (by rw [Nat.mul_one]) ?_)
          obtain ⟨s1049, hv⟩ := hv
          refine cL rfl (o_ldS tt3 rfl rfl (ca_vec rfl s1049) ?_)
          refine cL rfl (o_eqI rfl rfl rfl ?_)
          refine eL ?_
          refine W.tr [(0, .ptr _ _), (1, .int _ _), (2, .int _ _), (3, .int _ _), (9, .ptr _ _), (10, .int _ _), (34, .int _ _), (42, .bool _)] [.box _ _, .box _ _] ⟨rfl, rfl, rfl, rfl, rfl, rfl, rfl, rfl, trivial⟩ rfl ?_
          refine W.cn rfl (fun hc => ?_) (fun hc => ?_)
          · have hv := hv.1 hc
            refine W.exit ?_
            exact th_exit (bl_hit (th_nrm (⟨(), m0, hv, St.to_mk (φ := [some 0, some 1]) rfl (.inr (.inr rfl)) ⟨Ren.ptr rfl, Ren.int _ _, Ren.int _ _, Ren.int _ _, Ren.ptr rfl, Ren.int _ _, trivial⟩ ⟨.inr ⟨_, rfl, rfl, Rens.enc encInt true _⟩, .inr ⟨_, rfl, rfl, Rens.enc encInt true _⟩, trivial⟩⟩)))
          · have hv := hv.2 hc
            refine W.skip ?_
            refine th_nrm ?_
            refine W.tr [(0, .ptr _ _), (1, .int _ _), (2, .int _ _), (3, .int _ _), (9, .ptr _ _), (10, .int _ _), (34, .int _ _)] [.box _ _, .box _ _] ⟨rfl, rfl, rfl, rfl, rfl, rfl, rfl, trivial⟩ rfl ?_
            refine W.rL ?_
            refine cL rfl (o_move (v := .int _ _) rfl ?_)
            refine eL ?_
            refine W.tr [(0, .ptr _ _), (1, .int _ _), (2, .int _ _), (3, .int _ _), (9, .ptr _ _), (10, .int _ _), (34, .int _ _), (43, .int _ _)] [.box _ _, .box _ _] ⟨rfl, rfl, rfl, rfl, rfl, rfl, rfl, rfl, trivial⟩ rfl ?_
            refine W.block ?_
            obtain ⟨I3, μ3, hp, hv⟩ := hv
            refine W.loop2 (fun v43 m0_1 => ⟨75, look [(0, .ptr 0 0), (1, .int .i64 f), (2, .int .i64 t), (3, .int .i64 w), (9, .ptr 1 0), (10, .int .i64 v34), (34, .int .i64 v34), (43, .int .i64 v43)], [.box 82 (encL eInt m0_1.toList), .box 82 (encL eInt m.toList)], true⟩) I3 μ3 (0 : Int) m0 (St.to_mk (φ := [some 0, some 1]) rfl (.inr (.inr rfl)) ⟨Ren.ptr rfl, Ren.int _ _, Ren.int _ _, Ren.int _ _, Ren.ptr rfl, Ren.int _ _, Ren.int _ _, Ren.int _ _, trivial⟩ ⟨.inr ⟨_, rfl, rfl, Rens.enc encInt true _⟩, .inr ⟨_, rfl, rfl, Rens.enc encInt true _⟩, trivial⟩) hp ?_
            clear hp
            intro v43 m0_1 hI
            replace hv := hv v43 m0_1 hI
            clear hI
            refine W.rL ?_
            refine cL rfl (o_lss rfl rfl ?_)
            refine eL ?_
            refine W.tr [(0, .ptr _ _), (1, .int _ _), (2, .int _ _), (3, .int _ _), (9, .ptr _ _), (10, .int _ _), (34, .int _ _), (43, .int _ _), (44, .bool _)] [.box _ _, .box _ _] ⟨rfl, rfl, rfl, rfl, rfl, rfl, rfl, rfl, rfl, trivial⟩ rfl ?_
            refine W.seq' ?_
            refine W.cn rfl (fun hc => ?_) (fun hc => ?_)
            · have hv := hv.1 hc
              refine W.skip ?_
              refine th_nrm ?_
              refine W.tr [(0, .ptr _ _), (1, .int _ _), (2, .int _ _), (3, .int _ _), (9, .ptr _ _), (10, .int _ _), (34, .int _ _), (43, .int _ _)] [.box _ _, .box _ _] ⟨rfl, rfl, rfl, rfl, rfl, rfl, rfl, rfl, trivial⟩ rfl ?_
              refine W.seq' ?_
              refine W.block ?_
              refine W.rL ?_
              refine cL rfl (o_move (v := .int _ _) rfl ?_)
              refine cL rfl (o_assign (v := .int _ _) rfl ?_)
              refine eL ?_
              refine W.tr [(0, .ptr _ _), (1, .int _ _), (2, .int _ _), (3, .int _ _), (9, .ptr _ _), (10, .int _ _), (11, .int _ _), (34, .int _ _), (43, .int _ _)] [.box _ _, .box _ _] ⟨rfl, rfl, rfl, rfl, rfl, rfl, rfl, rfl, rfl, trivial⟩ rfl ?_
              refine W.rP1 [0, 1, 2, 3, 4, 5, 6, 7, 8, 9, 10, 11, 12, 13, 14, 15, 16, 17, 18, 19, 20, 21, 24, 25, 22, 23, 26, 27] (by decide +kernel) rfl ?_
              refine cL rfl (o_move (v := .ptr _ _) rfl ?_)
              refine cL rfl (o_move (v := .int _ _) rfl ?_)
              refine cL rfl (o_move (v := .int _ _) rfl ?_)
              refine cL rfl (o_move (v := .ptr _ _) rfl ?_)
              refine cL rfl (o_move (v := .int _ _) rfl ?_)
              refine cL rfl (o_move (v := .int _ _) rfl ?_)
              refine cL rfl (o_nil rfl ?_)
              obtain ⟨s1122, hv⟩ := hv
              refine cL rfl (o_iaA tt82 tt73 rfl rfl s1122 (Nat.zero_add _) ?_)
              obtain ⟨s1123, hv⟩ := hv
              refine cL rfl (o_iaA tt73 tt3 rfl rfl s1123 (by rw [Nat.mul_one]) ?_)
              obtain ⟨s1124, hv⟩ := hv
              refine cL rfl (o_ldS tt3 rfl rfl (ca_vec rfl s1124) ?_)
              refine cL rfl (o_move (v := .int _ _) rfl ?_)
              refine cL rfl (o_move (v := .int _ _) rfl ?_)
              obtain ⟨s1125, hv⟩ := hv
              refine cL rfl (o_iaA tt82 tt73 rfl rfl s1125 (Nat.zero_add _) ?_)
              obtain ⟨s1126, hv⟩ := hv
              refine cL rfl (o_iaA tt73 tt3 rfl rfl s1126 (by rw [Nat.mul_one]) ?_)
              obtain ⟨s1127, hv⟩ := hv
              refine cL rfl (o_ldS tt3 rfl rfl (ca_vec rfl s1127) ?_)
              refine cL rfl (o_move (v := .int _ _) rfl ?_)
              obtain ⟨s1128, hv⟩ := hv
              refine cL rfl (o_add rfl rfl s1128 ?_)
              refine cL rfl (o_move (v := .int _ _) rfl ?_)
              refine cL rfl (o_move (v := .int _ _) rfl ?_)
              obtain ⟨s1129, hv⟩ := hv
              refine cL rfl (o_iaA tt82 tt73 rfl rfl s1129 (Nat.zero_add _) ?_)
              obtain ⟨s1130, hv⟩ := hv
              refine cL rfl (o_iaA tt73 tt3 rfl rfl s1130 (by rw [Nat.mul_one]) ?_)
              obtain ⟨s1131, hv⟩ := hv
              refine cL rfl (o_ldS tt3 rfl rfl (ca_vec rfl s1131) ?_)
              refine cL rfl (o_nil rfl ?_)
              obtain ⟨s1132, hv⟩ := hv
              refine cL rfl (o_iaA tt82 tt73 rfl rfl s1132 (Nat.zero_add _) ?_)
              obtain ⟨s1133, hv⟩ := hv
              refine cL rfl (o_callP1 (k := 47) (fst := []) (caps := []) (ys := [.int _ _, .int _ _]) rfl rfl (spec_plus ((vat m (v34.toNat * 24 + f.toNat)) + w) (vat m (t.toNat * 24 + v43.toNat)) s1133) (Wks.cons (ag_int _ _ _ _) (Wks.cons (ag_int _ _ _ _) (Wks.refl _))) ?_)
              refine cL rfl (o_min rfl rfl ?_)
              obtain ⟨s1134, hv⟩ := hv
              refine cL rfl (o_iaA tt73 tt3 rfl rfl s1134 (by rw [Nat.mul_one]) ?_)
              obtain ⟨s1135, hv⟩ := hv
              refine cLn (o_stB (v := .int _ _) tt3 rfl rfl rfl rfl rfl (by rw [ints_len]; exact s1135) (ints_set _ _ _) ?_)
              refine eL ?_
              refine bl_nrm (th_nrm ?_)
              refine W.tr [(0, .ptr _ _), (1, .int _ _), (2, .int _ _), (3, .int _ _), (9, .ptr _ _), (10, .int _ _), (34, .int _ _), (43, .int _ _)] [.box _ _, .box _ _] ⟨rfl, rfl, rfl, rfl, rfl, rfl, rfl, rfl, trivial⟩ rfl ?_
              refine W.rL1 ?_
              obtain ⟨s1136, hv⟩ := hv
              refine cL rfl (o_add rfl rfl s1136 ?_)
              refine cL rfl (o_move (v := .int _ _) rfl ?_)
              refine eL ?_
              exact th_nrm (⟨(), (v43 + (1 : Int)), (vset m0_1 (v34.toNat * 24 + v43.toNat) (min (vat m0_1 (v34.toNat * 24 + v43.toNat)) (plusM ((vat m (v34.toNat * 24 + f.toNat)) + w) (vat m (t.toNat * 24 + v43.toNat))))), hv, St.to_mk (φ := [some 0, some 1]) rfl (.inr (.inr rfl)) ⟨Ren.ptr rfl, Ren.int _ _, Ren.int _ _, Ren.int _ _, Ren.ptr rfl, Ren.int _ _, Ren.int _ _, Ren.int _ _, trivial⟩ ⟨.inr ⟨_, rfl, rfl, Rens.enc encInt true _⟩, .inr ⟨_, rfl, rfl, Rens.enc encInt true _⟩, trivial⟩⟩)
            · have hv := hv.2 hc
              refine W.exit ?_
              exact th_exit (th_exit (bl_hit (bl_nrm (th_nrm (⟨(), m0_1, hv, St.to_mk (φ := [some 0, some 1]) rfl (.inr (.inr rfl)) ⟨Ren.ptr rfl, Ren.int _ _, Ren.int _ _, Ren.int _ _, Ren.ptr rfl, Ren.int _ _, trivial⟩ ⟨.inr ⟨_, rfl, rfl, Rens.enc encInt true _⟩, .inr ⟨_, rfl, rfl, Rens.enc encInt true _⟩, trivial⟩⟩)))))
      · have hv := hv.2 hc
        refine W.exit ?_
        refine th_exit (th_exit (bl_hit (th_nrm ?_)))
        refine W.tr [] [.box _ _, .box _ _] trivial rfl ?_
        refine W.rL ?_
        refine cL rfl (o_assign (v := .bool _) rfl ?_)
        refine eL ?_
        refine W.tr [(8, .bool _)] [.box _ _, .box _ _] ⟨rfl, trivial⟩ rfl ?_
        refine W.ret ?_
        refine rt ?_
        refine rt_t (v := .bool _) rfl ?_
        refine rt_n ?_
        exact ⟨_, m0, true, rfl, rfl, hv⟩
theorem vcp_add (m : (Vector Int 576)) (f : Int) (t : Int) (w : Int) (h0 : AddOk m f t w) : vc_add m f t w (fun q0 q1 => q0 = (addM m f t w).2 ∧ q1 = (addM m f t w).1) := by
  unfold vc_add
  obtain ⟨hf, ht, hw, hm⟩ := h0
  obtain ⟨f, rfl⟩ : ∃ k : Nat, f = k := ⟨f.toNat, by omega⟩
  obtain ⟨t, rfl⟩ : ∃ k : Nat, t = k := ⟨t.toNat, by omega⟩
  simp only [Int.toNat_natCast]
  refine ⟨by omega, by omega, by omega, fun _ _ => by have := hm (t * 24 + f); unfold inI; omega, fun h1 => ?_, fun h1 => ⟨by omega, by omega, by omega, fun h2 => ?_, fun h2 => ?_⟩⟩
  · rw [addM_neg h1]; exact ⟨rfl, rfl⟩
  · rw [addM_le h1 h2]; exact ⟨rfl, rfl⟩
  have ha : addM m f t w = (true, relaxM m f t w) := addM_relax h1 h2
  rw [ha]
  refine ⟨fun v b => ∃ i : Nat, v = i ∧ i ≤ 24 ∧ ∀ k, k < 576 → vat b k = if k / 24 < i then vat (relaxM m f t w) k else vat m k, fun v _ => 24 - v.toNat, ⟨0, rfl, by omega, fun k hk => by simp⟩, ?_⟩
  rintro _ m0 ⟨i, rfl, hi, h3⟩
  refine ⟨fun h4 => ⟨fun b => ∀ k, k < 576 → vat b k = if k / 24 < i + 1 then vat (relaxM m f t w) k else vat m k, fun b hb => ⟨by unfold inI; omega, ⟨i + 1, by omega, by omega, hb⟩, by dsimp only; omega⟩, by omega, by omega, by simp only [Int.toNat_natCast]; omega, fun h5 => ?_, fun h5 => ?_⟩, fun h4 => ⟨vec_ext fun k hk => ?_, rfl⟩⟩
  · intro k hk
    rw [h3 k hk]
    by_cases e : k / 24 = i
    · rw [if_neg (by omega), if_pos (by omega), vat_relax hk, e, if_pos (by simpa using h5)]
    · split <;> split <;> omega
  · simp only [Int.toNat_natCast] at h5 ⊢
    refine ⟨fun v b => ∃ j : Nat, v = j ∧ j ≤ 24 ∧ ∀ k, k < 576 → vat b k = if k / 24 < i ∨ k / 24 = i ∧ k % 24 < j then vat (relaxM m f t w) k else vat m k, fun v _ => 24 - v.toNat, ⟨0, rfl, by omega, fun k hk => ?_⟩, ?_⟩
    · rw [h3 k hk]; split <;> split <;> omega
    rintro _ m1 ⟨j, rfl, hj, h6⟩
    simp only [Int.toNat_natCast]
    have m1' := hm (i * 24 + f)
    have m2' := hm (t * 24 + j)
    refine ⟨fun h7 => ⟨by omega, by omega, by omega, by omega, by omega, by omega, by unfold inI; omega, by omega, by omega, by omega, by omega, fun _ _ => by unfold inI; omega, by omega, by omega, by unfold inI; omega, ⟨j + 1, by omega, by omega, ?_⟩, by omega⟩, fun h7 => ?_⟩
    · intro k hk
      rw [vat_vset (by omega)]
      by_cases e : k = i * 24 + j
      · subst e
        have e1 : (i * 24 + j) / 24 = i := by omega
        have e2 : (i * 24 + j) % 24 = j := by omega
        rw [if_pos rfl, h6 _ hk, vat_relax hk, e1, e2, if_neg (by omega), if_pos (by omega), if_neg h5]
      · rw [if_neg e, h6 k hk]
        split <;> split <;> omega
    · intro k hk
      rw [h6 k hk]
      split <;> split <;> omega
  · rw [h3 k hk, if_pos (by omega)]
theorem spec_add (m : (Vector Int 576)) (f : Int) (t : Int) (w : Int) (h0 : AddOk m f t w) : FnH Try.prog 37 [.box 82 (encL eInt m.toList)] [.ptr 0 0, .int .i64 f, .int .i64 t, .int .i64 w] (fun xR H => ∃ l, H = .box 82 (encL eInt ((addM m f t w).2).toList) :: l ∧ xR = .bool (addM m f t w).1) :=
  (walk_add (vcp_add m f t w h0)).mono (by rintro _ _ ⟨l, _, _, h1, h2, rfl, rfl⟩; exact ⟨l, h1, h2⟩)
end Go.Lat
