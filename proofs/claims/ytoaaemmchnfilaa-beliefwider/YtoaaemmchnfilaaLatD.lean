/- The law latecomerlaw10.BeliefWider returns true for every input, and each argument reads afterwards as it read before. Part 4 of 12. No condition. -/
import Derived.Test.YtoaaemmchnfilaaLatC
set_option linter.unusedVariables false
set_option linter.unusedSimpArgs false
set_option linter.unnecessarySimpa false
namespace Go.Lat
theorem lat_nat {α : Type} [Inhabited α] (xs : List α) (i : Nat) : lat xs (i : Int) = xs.getD i default := by simp [lat]
theorem lat_get {α : Type} [Inhabited α] {xs : List α} {i : Nat} (h : i < xs.length) : lat xs (i : Int) = xs[i] := by simp [lat, h]
theorem lat_mem {α : Type} [Inhabited α] {xs : List α} {i : Int} (h : 0 ≤ i ∧ i < xs.length) : lat xs i ∈ xs := by
  have : i.toNat < xs.length := by omega
  simp [lat, this]
theorem vat_lt {n : Nat} {M : Vector Int n} {k : Nat} (h : k < n) : vat M k = M[k] := by simp [vat, h]
theorem vat_ge {n : Nat} {M : Vector Int n} {k : Nat} (h : n ≤ k) : vat M k = 0 := by
  have : M.toList.length = n := by simp
  unfold vat
  rw [List.getD_eq_getElem?_getD, List.getElem?_eq_none (by omega)]; rfl
theorem vat_vset {n : Nat} {M : Vector Int n} {k j : Nat} {v : Int} (h : k < n) : vat (vset M k v) j = if j = k then v else vat M j := by
  rcases Nat.lt_or_ge j n with hj | hj
  · rw [vat_lt hj, vat_lt hj]
    simp only [vset, Vector.getElem_setIfInBounds hj]
    by_cases e : k = j
    · subst e; simp
    · have : ¬ j = k := fun x => e x.symm
      simp [e, this]
  · rw [vat_ge hj, vat_ge hj, if_neg (by omega)]
theorem vec_ext {n : Nat} {a b : Vector Int n} (h : ∀ k, k < n → vat a k = vat b k) : a = b := by
  apply Vector.ext
  intro i hi
  have := h i hi
  rw [vat_lt hi, vat_lt hi] at this
  exact this
theorem vat_ofFn {n : Nat} {f : Fin n → Int} {k : Nat} (h : k < n) : vat (Vector.ofFn f) k = f ⟨k, h⟩ := by rw [vat_lt h]; simp
theorem vat_rep {n : Nat} {v : Int} {k : Nat} (h : k < n) : vat (Vector.replicate n v) k = v := by rw [vat_lt h]; simp
theorem vat_vput {n : Nat} {M : Vector Int n} {off k : Nat} {xs : List Int} (h : off + xs.length ≤ n) : vat (vput M off xs) k = if off ≤ k ∧ k < off + xs.length then xs.getD (k - off) 0 else vat M k := by
  have hl : M.toList.length = n := by simp
  unfold vat
  rw [vput_toList _ _ _ h]
  simp only [List.getD_eq_getElem?_getD]
  rcases Nat.lt_or_ge k off with h1 | h1
  · rw [if_neg (by omega), List.append_assoc, List.getElem?_append_left (by simp; omega), List.getElem?_take_of_lt h1]
  · rcases Nat.lt_or_ge k (off + xs.length) with h2 | h2
    · rw [if_pos ⟨h1, h2⟩, List.append_assoc, List.getElem?_append_right (by simp; omega), List.getElem?_append_left (by simp; omega)]
      simp only [List.length_take, hl]
      rw [show min off n = off by omega]
    · rw [if_neg (by omega), List.getElem?_append_right (by simp; omega), List.getElem?_drop]
      simp only [List.length_append, List.length_take, hl]
      rw [show off + xs.length + (k - (min off n + xs.length)) = k by omega]
theorem pickM_nonneg {c n : Int} (h : 1 ≤ n) : 0 ≤ pickM c n ∧ pickM c n < n := by
  unfold pickM
  have h0 : 0 ≤ (if c < 0 then -(c + 1) else c) := by split <;> omega
  exact ⟨Int.tmod_nonneg _ h0, Int.tmod_lt_of_pos _ (by omega)⟩
theorem vat_relax {m : Vector Int 576} {f t : Nat} {w : Int} {k : Nat} (h : k < 576) : vat (relaxM m f t w) k = if vat m (k / 24 * 24 + f) = NB then vat m k else min (vat m k) (plusM (vat m (k / 24 * 24 + f) + w) (vat m (t * 24 + k % 24))) := by
  unfold relaxM
  rw [vat_ofFn h]
  rfl
theorem addM_neg {m : Vector Int 576} {f t : Nat} {w : Int} (h : plusM w (vat m (t * 24 + f)) < 0) : addM m f t w = (false, m) := by
  have e1 : plusM w (mm m (t : Int).toNat (f : Int).toNat) < 0 := h
  unfold addM
  rw [if_pos e1]
theorem addM_le {m : Vector Int 576} {f t : Nat} {w : Int} (h : ¬ plusM w (vat m (t * 24 + f)) < 0) (h2 : vat m (f * 24 + t) ≤ w) : addM m f t w = (true, m) := by
  have e1 : ¬ plusM w (mm m (t : Int).toNat (f : Int).toNat) < 0 := h
  have e2 : mm m (f : Int).toNat (t : Int).toNat ≤ w := h2
  unfold addM
  rw [if_neg e1, if_pos e2]
theorem addM_relax {m : Vector Int 576} {f t : Nat} {w : Int} (h : ¬ plusM w (vat m (t * 24 + f)) < 0) (h2 : ¬ vat m (f * 24 + t) ≤ w) : addM m f t w = (true, relaxM m f t w) := by
  have e1 : ¬ plusM w (mm m (t : Int).toNat (f : Int).toNat) < 0 := h
  have e2 : ¬ mm m (f : Int).toNat (t : Int).toNat ≤ w := h2
  unfold addM
  rw [if_neg e1, if_neg e2]
  rfl
end Go.Lat
namespace Go.Lat
theorem findIx_lt {α : Type} [Inhabited α] {p : α → Bool} {s : List α} {i : Nat} (h : i < s.length) (hp : p (lat s i) = true) (hn : ∀ j : Nat, j < i → ¬ p (lat s j) = true) : findIx p s = i := by
  unfold findIx
  have : s.findIdx? p = some i := by
    rw [List.findIdx?_eq_some_iff_getElem]
    refine ⟨h, by rw [lat_get h] at hp; exact hp, fun j hj => ?_⟩
    have := hn j hj
    rwa [lat_get (by omega)] at this
  rw [this]
theorem findIx_none {α : Type} [Inhabited α] {p : α → Bool} {s : List α} (hn : ∀ j : Nat, j < s.length → ¬ p (lat s j) = true) : findIx p s = -1 := by
  unfold findIx
  have : s.findIdx? p = none := by
    rw [List.findIdx?_eq_none_iff]
    intro x hx
    obtain ⟨j, hj, rfl⟩ := List.getElem_of_mem hx
    have := hn j hj
    rw [lat_get hj] at this
    simpa using this
  rw [this]
theorem findIx_nonneg {α : Type} {p : α → Bool} {s : List α} : decide ((0 : Int) ≤ findIx (fun x => !(p x)) s) = !(s.all p) := by
  unfold findIx
  rcases h : s.findIdx? (fun x => !(p x)) with _ | i
  · rw [List.findIdx?_eq_none_iff] at h
    have : s.all p = true := by
      rw [List.all_eq_true]; intro x hx; have := h x hx; simpa using this
    rw [this]; rfl
  · rw [List.findIdx?_eq_some_iff_getElem] at h
    obtain ⟨h1, h2, -⟩ := h
    have : s.all p = false := by
      rw [List.all_eq_false]; exact ⟨s[i], List.getElem_mem h1, by simpa using h2⟩
    rw [this]
    simp
end Go.Lat
namespace Go.Lat
theorem possM_iff {n : Int} {c : Con} : possM n c = true ↔ 0 ≤ c.f ∧ c.f < n ∧ 0 ≤ c.t ∧ c.t < n ∧ ¬ c.f = c.t ∧ -1125899906842624 ≤ c.m ∧ c.m ≤ 1125899906842624 ∧ 0 ≤ c.a ∧ c.a < 64 := by
  unfold possM; exact decide_eq_true_iff
theorem validM_iff {n : Int} {l : List Con} : validM n l = true ↔ (1 ≤ n ∧ n ≤ 24 ∧ l.length ≤ 2000) ∧ ∀ c ∈ l, possM n c = true := by
  unfold validM; rw [Bool.and_eq_true, decide_eq_true_iff, List.all_eq_true]
theorem holdsM_iff {l : List Con} {x : List Int} : holdsM l x = true ↔ (validM x.length l = true ∧ ∀ v ∈ x, -1152921504606846976 ≤ v ∧ v ≤ 1152921504606846976) ∧ ∀ c ∈ l, lat x c.t - lat x c.f ≤ c.m := by
  unfold holdsM
  simp only [Bool.and_eq_true, List.all_eq_true, decide_eq_true_iff]
end Go.Lat
namespace Go.Lat
theorem hNB : NB = 1152921504606846976 := rfl
theorem lat_lat (b : Bd) (i j : Nat) : lat (lat b.most (i : Int)) (j : Int) = bm b i j := by rw [lat_nat, lat_nat]; rfl
theorem okX_iff {x : Int} : okX x = true ↔ x = NB ∨ -36028797018963968 ≤ x ∧ x ≤ 36028797018963968 := by unfold okX; exact decide_eq_true_iff
theorem all_getD {p : Int → Bool} {l : List Int} : l.all p = true ↔ ∀ j, j < l.length → p (l.getD j 0) = true := by
  rw [List.all_eq_true]
  constructor
  · intro h j hj
    have := h l[j] (List.getElem_mem hj)
    simpa [hj] using this
  · intro h x hx
    obtain ⟨j, hj, rfl⟩ := List.getElem_of_mem hx
    have := h j hj
    simpa [hj] using this
structure VB (b : Bd) : Prop where
  n : 1 ≤ b.n ∧ b.n ≤ 24 ∧ (b.most.length : Int) = b.n
  row : ∀ i, i < b.most.length → (b.most.getD i []).length = b.most.length
  diag : ∀ i, i < b.most.length → bm b i i = 0
  ok : ∀ i j, i < b.most.length → j < b.most.length → bm b i j = NB ∨ -36028797018963968 ≤ bm b i j ∧ bm b i j ≤ 36028797018963968
  tri : ∀ i j k, i < b.most.length → j < b.most.length → k < b.most.length → bm b i j = NB ∨ bm b i k ≤ plusM (bm b i j) (bm b j k)
theorem validBM_iff {b : Bd} : validBM b = true ↔ VB b := by
  unfold validBM
  simp only [Bool.and_eq_true, Bool.or_eq_true, List.all_eq_true, List.mem_range, decide_eq_true_iff]
  constructor
  · rintro ⟨⟨h1, h2⟩, h3⟩
    have hr : ∀ i, i < b.most.length → (b.most.getD i []).length = b.most.length := fun i hi => by have := (h2 i hi).1.1; omega
    refine ⟨h1, hr, fun i hi => (h2 i hi).1.2, fun i j hi hj => ?_, fun i j k hi hj hk => ?_⟩
    · have := (h2 i hi).2
      have h4 := all_getD.mp (List.all_eq_true.mpr this) j (by rw [hr i hi]; exact hj)
      exact okX_iff.mp h4
    · rcases h3 i hi j hj with h | h
      · exact .inl h
      · exact .inr (h k hk)
  · rintro ⟨h1, h2, h3, h4, h5⟩
    refine ⟨⟨h1, fun i hi => ⟨⟨by rw [h2 i hi]; exact h1.2.2, h3 i hi⟩, ?_⟩⟩, fun i hi j hj => ?_⟩
    · refine List.all_eq_true.mp (all_getD.mpr fun j hj => ?_)
      rw [h2 i hi] at hj
      exact okX_iff.mpr (h4 i j hi hj)
    · by_cases e : bm b i j = NB
      · exact .inl e
      · exact .inr fun k hk => (h5 i j k hi hj hk).resolve_left e
theorem plusM_nb {a b : Int} (ha : ¬ a = NB) (hb : ¬ b = NB) : plusM a b = a + b := by unfold plusM; rw [if_neg (by omega)]
theorem plusM_inf {a b : Int} (h : a = NB ∨ b = NB) : plusM a b = NB := by unfold plusM; rw [if_pos h]
theorem rep_ext {n : Nat} {m : Vector Int n} {v : Int} (h : ∀ k, k < n → vat m k = v) : m = Vector.replicate n v := vec_ext fun k hk => by rw [h k hk, vat_rep hk]
def relStep (d : Vector Int 24) (o : Vector Int 24) (c : Con) : Vector Int 24 := vset o c.f.toNat (min (vat o c.f.toNat) (plusM c.m (vat d c.t.toNat)))
theorem longerM_eq {l : List Con} {d : Vector Int 24} {above : Int} : longerM l d above = (l.drop (above + 1).toNat).foldl (relStep d) (Vector.replicate 24 NB) := rfl
theorem relStep_bd {d o : Vector Int 24} {c : Con} {B : Int} (hc : 0 ≤ c.f ∧ c.f < 24) (hm : -1125899906842624 ≤ c.m) (hd : ∀ k, -B ≤ vat d k ∧ vat d k ≤ NB)
    (ho : ∀ k, -(B + 1125899906842624) ≤ vat o k ∧ vat o k ≤ NB) : ∀ k, -(B + 1125899906842624) ≤ vat (relStep d o c) k ∧ vat (relStep d o c) k ≤ NB := by
  intro k
  unfold relStep
  rw [vat_vset (by omega)]
  split
  · have h1 := ho c.f.toNat
    have h2 := hd c.t.toNat
    have h4 := hNB
    have h3 : -(B + 1125899906842624) ≤ plusM c.m (vat d c.t.toNat) := by
      unfold plusM; split <;> omega
    omega
  · exact ho k
theorem foldl_bd {d : Vector Int 24} {l : List Con} {B : Int} (hl : ∀ c ∈ l, (0 ≤ c.f ∧ c.f < 24) ∧ -1125899906842624 ≤ c.m) (hd : ∀ k, -B ≤ vat d k ∧ vat d k ≤ NB) :
    ∀ o : Vector Int 24, (∀ k, -(B + 1125899906842624) ≤ vat o k ∧ vat o k ≤ NB) → ∀ k, -(B + 1125899906842624) ≤ vat (l.foldl (relStep d) o) k ∧ vat (l.foldl (relStep d) o) k ≤ NB := by
  induction l with
  | nil => exact fun o ho => ho
  | cons c l ih =>
    intro o ho
    have hc := hl c (by simp)
    exact ih (fun c' h' => hl c' (by simp [h'])) _ (relStep_bd hc.1 hc.2 hd ho)
theorem rep_bd {B : Int} (hB : 0 ≤ B) : ∀ k, -B ≤ vat (Vector.replicate 24 NB) k ∧ vat (Vector.replicate 24 NB) k ≤ NB := by
  intro k
  have := hNB
  rcases Nat.lt_or_ge k 24 with h | h
  · rw [vat_rep h]; omega
  · rw [vat_ge h]; omega
theorem tabD_bd {l : List Con} {to above : Int} (hl : ∀ c ∈ l, (0 ≤ c.f ∧ c.f < 24) ∧ -1125899906842624 ≤ c.m) (ht : 0 ≤ to ∧ to < 24) (n : Nat) :
    ∀ k, -((n : Int) * 1125899906842624) ≤ vat (tabD l to above n) k ∧ vat (tabD l to above n) k ≤ NB := by
  induction n with
  | zero =>
    intro k
    have h1 := rep_bd (B := 0) (by omega) k
    have := hNB
    show _ ≤ vat (vset _ _ _) k ∧ vat (vset _ _ _) k ≤ _
    rw [vat_vset (by omega)]
    split <;> omega
  | succ n ih =>
    intro k
    show _ ≤ vat (longerM _ _ _) k ∧ vat (longerM _ _ _) k ≤ _
    rw [longerM_eq]
    have := foldl_bd (d := tabD l to above n) (l := l.drop (above + 1).toNat) (B := (n : Int) * 1125899906842624) (fun c hc => hl c (List.mem_of_mem_drop hc)) ih _ (rep_bd (by omega)) k
    omega
end Go.Lat
namespace Go.Lat
theorem find_drop_some {n a i : Nat} {p : Nat → Bool} (h : a ≤ i ∧ i < n) (hp : p i = true) (hn : ∀ j, a ≤ j → j < i → ¬ p j = true) : ((List.range n).drop a).find? p = some i := by
  rw [List.range_eq_range', List.drop_range', List.find?_range'_eq_some]
  refine ⟨hp, ?_, fun j h1 h2 => ?_⟩
  · rw [List.mem_range'_1]; omega
  · have := hn j (by omega) h2
    simpa using this
theorem find_drop_none {n a : Nat} {p : Nat → Bool} (hn : ∀ j, a ≤ j → j < n → ¬ p j = true) : ((List.range n).drop a).find? p = none := by
  rw [List.range_eq_range', List.drop_range', List.find?_range'_eq_none]
  intro j h1 h2
  have := hn j (by omega) (by omega)
  simpa using this
theorem findSome_range_some {α : Type} {n i : Nat} {p : Nat → Option α} {x : α} (h : i < n) (hp : p i = some x) (hn : ∀ j, j < i → p j = none) : (List.range n).findSome? p = some x := by
  have e : List.range n = List.range i ++ i :: (List.range' (i + 1) (n - i - 1)) := by
    have : List.range' 0 n = List.range' 0 i ++ List.range' i (n - i) := by
      have := (List.range'_append (s := 0) (m := i) (n := n - i) (step := 1)).symm
      rw [show i + (n - i) = n by omega, show 0 + 1 * i = i by omega] at this
      exact this
    rw [List.range_eq_range', this, ← List.range_eq_range']
    congr 1
    rw [show n - i = (n - i - 1) + 1 by omega, List.range'_succ]
    simp
  rw [e, List.findSome?_append]
  have : (List.range i).findSome? p = none := by
    rw [List.findSome?_eq_none_iff]; intro j hj; exact hn j (List.mem_range.mp hj)
  rw [this]
  simp [hp]
theorem findSome_range_none {α : Type} {n : Nat} {p : Nat → Option α} (hn : ∀ j, j < n → p j = none) : (List.range n).findSome? p = none := by
  rw [List.findSome?_eq_none_iff]; intro j hj; exact hn j (List.mem_range.mp hj)
theorem tableM_len {l : List Con} {to above many : Int} : (tableM l to above many).length = many.toNat + 1 := by unfold tableM; simp
theorem tableM_at {l : List Con} {to above many : Int} {k : Int} (h : 0 ≤ k ∧ k ≤ many) : lat (tableM l to above many) k = tabD l to above k.toNat := by
  have : k.toNat < (List.range (many.toNat + 1)).length := by simp; omega
  unfold tableM lat
  rw [List.getD_eq_getElem?_getD, List.getElem?_map, List.getElem?_eq_getElem this]
  simp
def sizeStep (n : Int) (l : List Con) (s : Int) (v : Nat) : Int := match sizeAt n l v with | some r => min s (r : Int) | none => s
theorem sizeM_eq {n : Int} {l : List Con} : sizeM n l = (List.range n.toNat).foldl (sizeStep n l) (n + 1) := rfl
theorem sizeAt_pos {n : Int} {l : List Con} {v r : Nat} (hv : v < 24) (h : sizeAt n l v = some r) : 1 ≤ r ∧ (r : Int) ≤ max n 0 := by
  unfold sizeAt at h
  have h2 := List.mem_of_find?_eq_some h
  rw [List.mem_range] at h2
  have h3 := List.find?_some h
  have h4 := of_decide_eq_true h3
  refine ⟨?_, by omega⟩
  rcases r with _ | r
  · exfalso
    have e : vat (tabD l v (-1) 0) v = 0 := by
      show vat (vset _ _ _) _ = _
      rw [vat_vset (by simpa using hv)]; simp
    rw [e] at h4; omega
  · omega
theorem sizeM_bd {n : Int} {l : List Con} (hn : 1 ≤ n ∧ n ≤ 24) : ∀ k : Nat, k ≤ n → 1 ≤ (List.range k).foldl (sizeStep n l) (n + 1) ∧ (List.range k).foldl (sizeStep n l) (n + 1) ≤ n + 1 := by
  intro k
  induction k with
  | zero => intro _; simp; omega
  | succ k ih =>
    intro hk
    have := ih (by omega)
    rw [List.range_succ, List.foldl_append]
    simp only [List.foldl_cons, List.foldl_nil]
    generalize (List.range k).foldl (sizeStep n l) (n + 1) = s at this
    unfold sizeStep
    rcases h : sizeAt n l k with _ | r
    · exact this
    · have := sizeAt_pos (by omega) h
      dsimp only
      omega
theorem chain_done {l : List Con} {d : Nat → Vector Int 24} {size : Int} {s k : Nat} {out : List Int} {a t : Int} (h : ¬ (out.length : Int) < size) : chainC l d size s k out a t = some out := by
  cases k with
  | zero => rfl
  | succ k => show (if (out.length : Int) < size then _ else _) = _; rw [if_neg h]
theorem chain_some {l : List Con} {d : Nat → Vector Int 24} {size : Int} {s k i : Nat} {out : List Int} {a t : Int} (h : (out.length : Int) < size) (h2 : nextC l d size s out.length a t = some i) :
    chainC l d size s (k + 1) out a t = chainC l d size s k (out ++ [(i : Int)]) (l.getD i default).t (t + (l.getD i default).m) := by
  show (if (out.length : Int) < size then _ else _) = _; rw [if_pos h, h2]
theorem chain_none {l : List Con} {d : Nat → Vector Int 24} {size : Int} {s k : Nat} {out : List Int} {a t : Int} (h : (out.length : Int) < size) (h2 : nextC l d size s out.length a t = none) :
    chainC l d size s (k + 1) out a t = none := by
  show (if (out.length : Int) < size then _ else _) = _; rw [if_pos h, h2]
theorem firstAt_none {l : List Con} {size : Int} {s : Nat} (h : 0 ≤ plusM (l.getD s default).m (vat (tabD l (l.getD s default).f s (size - 1).toNat) (l.getD s default).t.toNat)) : firstAt l size s = none := by
  unfold firstAt; simp only []; rw [if_pos h]
theorem firstAt_some {l : List Con} {size : Int} {s : Nat} (h : ¬ 0 ≤ plusM (l.getD s default).m (vat (tabD l (l.getD s default).f s (size - 1).toNat) (l.getD s default).t.toNat)) :
    firstAt l size s = chainC l (tabD l (l.getD s default).f s) size s size.toNat [(s : Int)] (l.getD s default).t (l.getD s default).m := by
  unfold firstAt; simp only []; rw [if_neg h]
end Go.Lat
namespace Go.Lat
structure Cl (n : Nat) (m : Vector Int 576) (B : Int) : Prop where
  n24 : n ≤ 24
  diag : ∀ i, i < n → mm m i i = 0
  tri : ∀ i j k, i < n → j < n → k < n → ¬ mm m i j = NB → ¬ mm m j k = NB → mm m i k ≤ mm m i j + mm m j k
  bd : ∀ i j, i < n → j < n → mm m i j = NB ∨ -B ≤ mm m i j ∧ mm m i j ≤ B
def Sol (n : Nat) (m : Vector Int 576) (x : Nat → Int) : Prop := ∀ i j, i < n → j < n → ¬ mm m i j = NB → x j - x i ≤ mm m i j
theorem Cl.fin {n : Nat} {m : Vector Int 576} {B : Int} (h : Cl n m B) (hB : B ≤ 288230376151711744) {i j k : Nat} (hi : i < n) (hj : j < n) (hk : k < n) (h1 : ¬ mm m i j = NB) (h2 : ¬ mm m j k = NB) : ¬ mm m i k = NB := by
  have a := h.tri i j k hi hj hk h1 h2
  have b := h.bd i j hi hj
  have c := h.bd j k hj hk
  have := hNB
  omega
theorem Cl.mono {n : Nat} {m : Vector Int 576} {B C : Int} (h : Cl n m B) (hc : B ≤ C) : Cl n m C :=
  ⟨h.n24, h.diag, h.tri, fun i j hi hj => by have := h.bd i j hi hj; omega⟩
structure Rel (n : Nat) (m m' : Vector Int 576) (f t : Nat) (w : Int) : Prop where
  le : ∀ i j, i < n → j < n → mm m' i j ≤ mm m i j
  via : ∀ i j, i < n → j < n → ¬ mm m i f = NB → ¬ mm m t j = NB → mm m' i j ≤ mm m i f + w + mm m t j
  one : ∀ i j, i < n → j < n → mm m' i j = mm m i j ∨ (¬ mm m i f = NB ∧ ¬ mm m t j = NB ∧ mm m' i j = mm m i f + w + mm m t j)
theorem mm_relax {m : Vector Int 576} {f t : Nat} {w : Int} {i j : Nat} (hi : i < 24) (hj : j < 24) : mm (relaxM m f t w) i j = if mm m i f = NB then mm m i j else min (mm m i j) (plusM (mm m i f + w) (mm m t j)) := by
  show vat _ _ = _
  rw [vat_relax (by omega), show (i * 24 + j) / 24 = i by omega, show (i * 24 + j) % 24 = j by omega]
  rfl
theorem Cl.rel {n : Nat} {m : Vector Int 576} {B : Int} {f t : Nat} {w : Int} (h : Cl n m B) (hB : B ≤ 288230376151711744) (hf : f < n) (ht : t < n) (hw : -72057594037927936 ≤ w ∧ w ≤ 72057594037927936)
    (hs : (addM m f t w).1 = true) : Rel n m (addM m f t w).2 f t w := by
  have hnb := hNB
  have hn := h.n24
  by_cases h1 : plusM w (vat m (t * 24 + f)) < 0
  · rw [addM_neg h1] at hs; cases hs
  by_cases h2 : vat m (f * 24 + t) ≤ w
  · rw [addM_le h1 h2]
    change mm m f t ≤ w at h2
    refine ⟨fun i j _ _ => Int.le_refl _, fun i j hi hj a b => ?_, fun i j _ _ => .inl rfl⟩
    show mm m i j ≤ _
    have b0 := h.bd f t hf ht
    have h3 : ¬ mm m f t = NB := by omega
    have b1 := h.tri i f t hi hf ht a h3
    have b2 := h.tri i t j hi ht hj (h.fin hB hi hf ht a h3) b
    omega
  · rw [addM_relax h1 h2]
    have e : ∀ i j, i < n → j < n → mm (relaxM m f t w) i j = if mm m i f = NB then mm m i j else min (mm m i j) (plusM (mm m i f + w) (mm m t j)) := fun i j hi hj => mm_relax (by omega) (by omega)
    refine ⟨fun i j hi hj => ?_, fun i j hi hj a b => ?_, fun i j hi hj => ?_⟩
    · show mm (relaxM m f t w) i j ≤ _
      rw [e i j hi hj]; split
      · exact Int.le_refl _
      · omega
    · show mm (relaxM m f t w) i j ≤ _
      rw [e i j hi hj, if_neg a, plusM_nb (by have := h.bd i f hi hf; omega) b]
      omega
    · show mm (relaxM m f t w) i j = _ ∨ _ ∧ _ ∧ mm (relaxM m f t w) i j = _
      rw [e i j hi hj]
      by_cases a : mm m i f = NB
      · rw [if_pos a]; exact .inl rfl
      · rw [if_neg a]
        have b0 := h.bd i f hi hf
        by_cases b : mm m t j = NB
        · rw [plusM_inf (.inr b)]
          have := h.bd i j hi hj
          exact .inl (by omega)
        · rw [plusM_nb (by omega) b]
          rcases Int.le_total (mm m i j) (mm m i f + w + mm m t j) with h3 | h3
          · exact .inl (by omega)
          · exact .inr ⟨a, b, by omega⟩
theorem Cl.ok_pos {n : Nat} {m : Vector Int 576} {B : Int} {f t : Nat} {w : Int} (h : Cl n m B) (hB : B ≤ 288230376151711744) (hf : f < n) (ht : t < n) (hw : -72057594037927936 ≤ w ∧ w ≤ 72057594037927936)
    (hs : (addM m f t w).1 = true) : mm m t f = NB ∨ 0 ≤ w + mm m t f := by
  have hnb := hNB
  by_cases h1 : plusM w (vat m (t * 24 + f)) < 0
  · rw [addM_neg h1] at hs; cases hs
  change ¬ plusM w (mm m t f) < 0 at h1
  by_cases h2 : mm m t f = NB
  · exact .inl h2
  · rw [plusM_nb (by omega) h2] at h1; exact .inr (by omega)
theorem Cl.bad {n : Nat} {m : Vector Int 576} {B : Int} {f t : Nat} {w : Int} (h : Cl n m B) (hf : f < n) (ht : t < n) (hw : -72057594037927936 ≤ w ∧ w ≤ 72057594037927936)
    (hs : ¬ (addM m f t w).1 = true) : ¬ mm m t f = NB ∧ w + mm m t f < 0 := by
  have hnb := hNB
  by_cases h1 : plusM w (vat m (t * 24 + f)) < 0
  · change plusM w (mm m t f) < 0 at h1
    by_cases h2 : mm m t f = NB
    · rw [plusM_inf (.inr h2)] at h1; omega
    · rw [plusM_nb (by omega) h2] at h1; exact ⟨h2, h1⟩
  · exfalso
    by_cases h2 : vat m (f * 24 + t) ≤ w
    · exact hs (by rw [addM_le h1 h2])
    · exact hs (by rw [addM_relax h1 h2])
theorem Cl.step {n : Nat} {m m' : Vector Int 576} {B : Int} {f t : Nat} {w : Int} (h : Cl n m B) (hB : 0 ≤ B ∧ B ≤ 144115188075855872) (hf : f < n) (ht : t < n) (hw : -72057594037927936 ≤ w ∧ w ≤ 72057594037927936)
    (hr : Rel n m m' f t w) (hp : mm m t f = NB ∨ 0 ≤ w + mm m t f) : Cl n m' (2 * B + 72057594037927936) := by
  have hnb := hNB
  have F := fun {i j k : Nat} => h.fin (i := i) (j := j) (k := k) (by omega)
  refine ⟨h.n24, fun i hi => ?_, fun i j k hi hj hk a b => ?_, fun i j hi hj => ?_⟩
  · have d := h.diag i hi
    rcases hr.one i i hi hi with e | ⟨a, b, e⟩
    · rw [e, d]
    · have h1 := hr.le i i hi hi
      have h2 := h.tri t i f ht hi hf b a
      have h3 := F ht hi hf b a
      omega
  · rcases hr.one i j hi hj with e | ⟨a1, a2, e⟩ <;> rcases hr.one j k hj hk with e' | ⟨b1, b2, e'⟩
    · have h1 := hr.le i k hi hk
      have h2 := h.tri i j k hi hj hk (by rwa [← e]) (by rwa [← e'])
      omega
    · have h0 := F hi hj hf (by rwa [← e]) b1
      have h1 := hr.via i k hi hk h0 b2
      have h2 := h.tri i j f hi hj hf (by rwa [← e]) b1
      omega
    · have h0 := F ht hj hk a2 (by rwa [← e'])
      have h1 := hr.via i k hi hk a1 h0
      have h2 := h.tri t j k ht hj hk a2 (by rwa [← e'])
      omega
    · have h1 := hr.via i k hi hk a1 b2
      have h2 := h.tri t j f ht hj hf a2 b1
      have h3 := F ht hj hf a2 b1
      omega
  · have h0 := h.bd i j hi hj
    rcases hr.one i j hi hj with e | ⟨a1, a2, e⟩
    · rw [e]; omega
    · have h1 := h.bd i f hi hf
      have h2 := h.bd t j ht hj
      omega
theorem Rel.sol {n : Nat} {m m' : Vector Int 576} {B : Int} {f t : Nat} {w : Int} (h : Cl n m B) (hB : B ≤ 288230376151711744) (hf : f < n) (ht : t < n) (hw : w ≤ 72057594037927936)
    (hr : Rel n m m' f t w) (x : Nat → Int) : Sol n m' x ↔ Sol n m x ∧ x t - x f ≤ w := by
  have hnb := hNB
  constructor
  · intro hx
    refine ⟨fun i j hi hj a => ?_, ?_⟩
    · have h1 := hr.le i j hi hj
      have h2 := h.bd i j hi hj
      have h3 := hx i j hi hj (by omega)
      omega
    · have d1 := h.diag f hf
      have d2 := h.diag t ht
      have h1 := hr.via f t hf ht (by omega) (by omega)
      have h3 := hx f t hf ht (by omega)
      omega
  · rintro ⟨hx, hw⟩ i j hi hj a
    rcases hr.one i j hi hj with e | ⟨a1, a2, e⟩
    · have := hx i j hi hj (by rwa [← e]); omega
    · have h1 := hx i f hi hf a1
      have h2 := hx t j ht hj a2
      omega
def ptF (m : Vector Int 576) (f n : Nat) (j : Nat) : Int :=
  if mm m f j = NB then (List.range n).foldl (fun o i => if mm m f i = NB ∧ ¬ mm m i j = NB then min o (576460752303423488 + mm m i j) else o) 576460752303423488 else mm m f j
theorem pointV_eq {m : Vector Int 576} {f n : Nat} : pointV m f n = (List.range n).map (ptF m f n) := rfl
theorem foldMin {p : Nat → Prop} [DecidablePred p] {g : Nat → Int} {s : Int} (n : Nat) :
    let r := (List.range n).foldl (fun o i => if p i then min o (g i) else o) s
    (r ≤ s ∧ ∀ i, i < n → p i → r ≤ g i) ∧ (r = s ∨ ∃ i, i < n ∧ p i ∧ r = g i) := by
  induction n with
  | zero => exact ⟨⟨Int.le_refl _, by omega⟩, .inl rfl⟩
  | succ n ih =>
    rw [List.range_succ, List.foldl_append]
    simp only [List.foldl_cons, List.foldl_nil] at ih ⊢
    generalize (List.range n).foldl (fun o i => if p i then min o (g i) else o) s = r at ih ⊢
    obtain ⟨⟨h1, h2⟩, h3⟩ := ih
    by_cases hp : p n
    · rw [if_pos hp]
      refine ⟨⟨by omega, fun i hi hpi => ?_⟩, ?_⟩
      · rcases Nat.lt_or_ge i n with h | h
        · have := h2 i h hpi; omega
        · have : i = n := by omega
          subst this; omega
      · rcases Int.le_total r (g n) with h | h
        · rw [show min r (g n) = r by omega]
          rcases h3 with h3 | ⟨i, hi, h4⟩
          · exact .inl h3
          · exact .inr ⟨i, by omega, h4⟩
        · exact .inr ⟨n, by omega, hp, by omega⟩
    · rw [if_neg hp]
      refine ⟨⟨h1, fun i hi hpi => ?_⟩, ?_⟩
      · rcases Nat.lt_or_ge i n with h | h
        · exact h2 i h hpi
        · have : i = n := by omega
          subst this; exact (hp hpi).elim
      · rcases h3 with h3 | ⟨i, hi, h4⟩
        · exact .inl h3
        · exact .inr ⟨i, by omega, h4⟩
structure PtOk (n : Nat) (m : Vector Int 576) (f : Nat) (B : Int) (x : Nat → Int) : Prop where
  fin : ∀ j, j < n → ¬ mm m f j = NB → x j = mm m f j
  inf : ∀ j, j < n → mm m f j = NB → 576460752303423488 - B ≤ x j ∧ x j ≤ 576460752303423488
  sol : Sol n m x
theorem Cl.pt {n : Nat} {m : Vector Int 576} {B : Int} {f : Nat} (h : Cl n m B) (hB : 0 ≤ B ∧ B ≤ 144115188075855872) (hf : f < n) : PtOk n m f B (ptF m f n) := by
  have hnb := hNB
  have P := fun j => foldMin (p := fun i => mm m f i = NB ∧ ¬ mm m i j = NB) (g := fun i => 576460752303423488 + mm m i j) (s := 576460752303423488) n
  have e1 : ∀ j, ¬ mm m f j = NB → ptF m f n j = mm m f j := fun j a => by unfold ptF; rw [if_neg a]
  have e2 : ∀ j, mm m f j = NB → ptF m f n j = (List.range n).foldl (fun o i => if mm m f i = NB ∧ ¬ mm m i j = NB then min o (576460752303423488 + mm m i j) else o) 576460752303423488 := fun j a => by unfold ptF; rw [if_pos a]
  have I : ∀ j, j < n → mm m f j = NB → 576460752303423488 - B ≤ ptF m f n j ∧ ptF m f n j ≤ 576460752303423488 := fun j hj a => by
    rw [e2 j a]
    obtain ⟨⟨p1, -⟩, p3⟩ := P j
    refine ⟨?_, p1⟩
    rcases p3 with p3 | ⟨i, hi, ⟨-, q2⟩, q⟩
    · rw [p3]; omega
    · rw [q]; have := h.bd i j hi hj; omega
  refine ⟨fun j _ a => e1 j a, I, fun a b ha hb hab => ?_⟩
  have bab := h.bd a b ha hb
  by_cases fa : mm m f a = NB
  · have ia := I a ha fa
    by_cases fb : mm m f b = NB
    · obtain ⟨⟨p1, p2⟩, -⟩ := P b
      obtain ⟨-, q3⟩ := P a
      rw [← e2 b fb] at p1 p2
      rw [← e2 a fa] at q3
      rcases q3 with q3 | ⟨i, hi, ⟨i1, i2⟩, q⟩
      · have := p2 a ha ⟨fa, hab⟩; omega
      · have t := h.tri i a b hi ha hb i2 hab
        have := p2 i hi ⟨i1, h.fin (by omega) hi ha hb i2 hab⟩
        omega
    · rw [e1 b fb]
      have := h.bd f b hf hb
      omega
  · have fb := h.fin (by omega) hf ha hb fa hab
    rw [e1 a fa, e1 b fb]
    have := h.tri f a b hf ha hb fa hab
    omega
theorem Cl.le_of_sol {n : Nat} {m1 m2 : Vector Int 576} {B : Int} (h1 : Cl n m1 B) (h2 : Cl n m2 B) (hB : 0 ≤ B ∧ B ≤ 144115188075855872) (hs : ∀ x, Sol n m1 x → Sol n m2 x) {i j : Nat} (hi : i < n) (hj : j < n) : mm m1 i j ≤ mm m2 i j := by
  have hnb := hNB
  obtain ⟨p1, p2, p3⟩ := h1.pt hB hi
  have b1 := h1.bd i j hi hj
  have b2 := h2.bd i j hi hj
  by_cases e : mm m2 i j = NB
  · omega
  have d := h1.diag i hi
  have := hs _ p3 i j hi hj e
  rw [p1 i hi (by omega), d] at this
  by_cases f : mm m1 i j = NB
  · have := p2 j hj f; omega
  · rw [p1 j hj f] at this; omega
theorem Cl.eq_of_sol {n : Nat} {m1 m2 : Vector Int 576} {B : Int} (h1 : Cl n m1 B) (h2 : Cl n m2 B) (hB : 0 ≤ B ∧ B ≤ 144115188075855872) (hs : ∀ x, Sol n m1 x ↔ Sol n m2 x) {i j : Nat} (hi : i < n) (hj : j < n) : mm m1 i j = mm m2 i j :=
  Int.le_antisymm (h1.le_of_sol h2 hB (fun x => (hs x).mp) hi hj) (h2.le_of_sol h1 hB (fun x => (hs x).mpr) hi hj)
theorem countP_lt {l : List Nat} {p q : Nat → Bool} (h : ∀ r ∈ l, p r = true → q r = true) (r : Nat) (hr : r ∈ l) (h1 : q r = true) (h2 : ¬ p r = true) : l.countP p + 1 ≤ l.countP q := by
  induction l with
  | nil => cases hr
  | cons a l ih =>
    have hm : l.countP p ≤ l.countP q := List.countP_mono_left fun r hr => h r (by simp [hr])
    simp only [List.countP_cons]
    rcases List.mem_cons.mp hr with rfl | hr'
    · simp only [h1, h2]; simp; omega
    · have := ih (fun r hr => h r (by simp [hr])) hr'
      have h3 := h a (by simp)
      split <;> split <;> first | omega | (exfalso; simp_all)
theorem gap {n : Nat} (hn : n ≤ 24) {P : Nat → Nat → Prop} [∀ k r, Decidable (P k r)] (hm : ∀ k r, P k r → P (k + 1) r) (i j : Nat) (hi : i < n) (hj : j < n) (h0 : P 0 i) (h1 : ¬ P 23 j) :
    ∃ k, k < 23 ∧ ∀ r, r < n → P (k + 1) r → P k r := by
  apply Classical.byContradiction
  intro hno
  have hk : ∀ k, k ≤ 23 → k + 1 ≤ (List.range n).countP fun r => decide (P k r) := by
    intro k
    induction k with
    | zero =>
      intro _
      have : 0 < (List.range n).countP fun r => decide (P 0 r) := List.countP_pos_iff.mpr ⟨i, List.mem_range.mpr hi, decide_eq_true h0⟩
      omega
    | succ k ih =>
      intro hk
      have h2 := ih (by omega)
      have h3 : ¬ ∀ r, r < n → P (k + 1) r → P k r := fun h => hno ⟨k, by omega, h⟩
      simp only [Classical.not_forall] at h3
      obtain ⟨r, hr, h4, h5⟩ := h3
      have := countP_lt (l := List.range n) (p := fun r => decide (P k r)) (q := fun r => decide (P (k + 1) r)) (fun r _ h => decide_eq_true (hm k r (of_decide_eq_true h))) r (List.mem_range.mpr hr) (decide_eq_true h4) (fun h => h5 (of_decide_eq_true h))
      omega
  have h2 := hk 23 (by omega)
  have h3 := countP_lt (l := List.range n) (p := fun r => decide (P 23 r)) (q := fun _ => true) (fun _ _ _ => rfl) j (List.mem_range.mpr hj) rfl (fun h => h1 (of_decide_eq_true h))
  have h4 : (List.range n).countP (fun _ => true) ≤ n := by
    have := List.countP_le_length (p := fun _ => true) (l := List.range n)
    simpa using this
  omega
def SolL (l : List Con) (x : Nat → Int) : Prop := ∀ c ∈ l, x c.t.toNat - x c.f.toNat ≤ c.m
def Good (n : Nat) (l : List Con) : Prop := ∀ c ∈ l, (0 ≤ c.f ∧ c.f < n) ∧ (0 ≤ c.t ∧ c.t < n) ∧ -1125899906842624 ≤ c.m ∧ c.m ≤ 1125899906842624
theorem Cl.small {n : Nat} {m : Vector Int 576} {B : Int} {l : List Con} (h : Cl n m B) (hB : 0 ≤ B ∧ B ≤ 144115188075855872) (hl : Good n l) (hs : ∀ x, Sol n m x ↔ SolL l x) : Cl n m 25895697857380352 := by
  have hnb := hNB
  refine ⟨h.n24, h.diag, h.tri, fun i j hi hj => ?_⟩
  by_cases fin : mm m i j = NB
  · exact .inl fin
  refine .inr ?_
  obtain ⟨p1, p2, p3⟩ := h.pt hB hi
  have hL := (hs _).mp p3
  have d := h.diag i hi
  have hno : ∀ U : Nat → Prop, [DecidablePred U] → ¬ U i → U j → ¬ SolL l (fun r => ptF m i n r + if U r then 1 else 0) := by
    intro U _ hUi hUj hS
    have := (hs _).mpr hS i j hi hj fin
    rw [if_pos hUj, if_neg hUi, p1 i hi (by omega), p1 j hj fin] at this
    omega
  constructor
  · apply Classical.byContradiction
    intro hlt
    obtain ⟨k, hk, hg⟩ := gap h.n24 (P := fun k r => ¬ mm m i r = NB ∧ -(k * 1125899906842624 : Int) ≤ mm m i r) (fun k r hp => ⟨hp.1, by have := hp.2; omega⟩) i j hi hj ⟨by omega, by omega⟩ (fun hp => by have := hp.2; omega)
    refine hno (fun r => ¬ mm m i r = NB ∧ mm m i r < -(k * 1125899906842624 : Int)) (by omega) ⟨fin, by omega⟩ fun c hc => ?_
    obtain ⟨c1, c2, c3, c4⟩ := hl c hc
    have h1 := hL c hc
    dsimp only
    split
    · rename_i hb
      split
      · omega
      · rename_i ha
        have hg' := hg c.t.toNat (by omega)
        rw [p1 c.t.toNat (by omega) hb.1] at h1 ⊢
        by_cases fa : mm m i c.f.toNat = NB
        · have := p2 _ (by omega) fa; omega
        · rw [p1 c.f.toNat (by omega) fa] at h1 ⊢; omega
    · split <;> omega
  · apply Classical.byContradiction
    intro hlt
    obtain ⟨k, hk, hg⟩ := gap h.n24 (P := fun k r => ¬ mm m i r = NB ∧ mm m i r ≤ (k * 1125899906842624 : Int)) (fun k r hp => ⟨hp.1, by have := hp.2; omega⟩) i j hi hj ⟨by omega, by omega⟩ (fun hp => by have := hp.2; omega)
    refine hno (fun r => ¬ mm m i r = NB ∧ (k * 1125899906842624 : Int) < mm m i r) (by omega) ⟨fin, by omega⟩ fun c hc => ?_
    obtain ⟨c1, c2, c3, c4⟩ := hl c hc
    have h1 := hL c hc
    dsimp only
    split
    · rename_i hb
      split
      · omega
      · rename_i ha
        have hg' := hg c.t.toNat (by omega)
        rw [p1 c.t.toNat (by omega) hb.1] at h1 ⊢
        by_cases fa : mm m i c.f.toNat = NB
        · have := p2 _ (by omega) fa
          have := h.bd i c.t.toNat hi (by omega)
          omega
        · rw [p1 c.f.toNat (by omega) fa] at h1 ⊢; omega
    · split <;> omega
end Go.Lat
namespace Go.Lat
abbrev B0 : Int := 25895697857380352
theorem hB0 : B0 = 25895697857380352 := rfl
theorem Cl.addOk {m : Vector Int 576} {B : Int} {f t w : Int} (h : Cl 24 m B) (hB : B ≤ 288230376151711744) (hf : 0 ≤ f ∧ f < 24) (ht : 0 ≤ t ∧ t < 24) (hw : -72057594037927936 ≤ w ∧ w ≤ 72057594037927936) : AddOk m f t w := by
  have hnb := hNB
  refine ⟨hf, ht, hw, fun k => ?_⟩
  rcases Nat.lt_or_ge k 576 with hk | hk
  · have := h.bd (k / 24) (k % 24) (by omega) (by omega)
    have e : mm m (k / 24) (k % 24) = vat m k := by unfold mm; rw [show k / 24 * 24 + k % 24 = k by omega]
    rw [e] at this; omega
  · rw [vat_ge hk]; omega
theorem mm_free {i j : Nat} (hi : i < 24) (hj : j < 24) : mm freeM i j = if i = j then 0 else NB := by
  unfold mm freeM
  rw [vat_ofFn (by omega)]
  dsimp only
  rw [show (i * 24 + j) / 24 = i by omega, show (i * 24 + j) % 24 = j by omega]
theorem free_cl : Cl 24 freeM 0 := by
  have hnb := hNB
  refine ⟨by omega, fun i hi => by rw [mm_free hi hi, if_pos rfl], fun i j k hi hj hk a b => ?_, fun i j hi hj => ?_⟩
  · rw [mm_free hi hj] at a ⊢
    rw [mm_free hj hk] at b ⊢
    rw [mm_free hi hk]
    split at a
    · rename_i e
      subst e
      rw [if_pos rfl]; omega
    · exact (a rfl).elim
  · rw [mm_free hi hj]
    split
    · exact .inr (by omega)
    · exact .inl rfl
theorem free_sol (x : Nat → Int) : Sol 24 freeM x := by
  intro i j hi hj a
  rw [mm_free hi hj] at a ⊢
  split at a
  · rename_i e
    subst e
    rw [if_pos rfl]; omega
  · exact (a rfl).elim
theorem Cl.add {m : Vector Int 576} {B : Int} {f t w : Int} (h : Cl 24 m B) (hB : 0 ≤ B ∧ B ≤ 36028797018963968) (hf : 0 ≤ f ∧ f < 24) (ht : 0 ≤ t ∧ t < 24) (hw : -36028797018963968 ≤ w ∧ w ≤ 36028797018963968) :
    ((addM m f t w).1 = true → Cl 24 (addM m f t w).2 144115188075855872 ∧ ∀ x, Sol 24 (addM m f t w).2 x ↔ Sol 24 m x ∧ x t.toNat - x f.toNat ≤ w) ∧
    (¬ (addM m f t w).1 = true → ∀ x, ¬ (Sol 24 m x ∧ x t.toNat - x f.toNat ≤ w)) ∧
    ((addM m f t w).1 = true ↔ mm m t.toNat f.toNat = NB ∨ 0 ≤ w + mm m t.toNat f.toNat) := by
  obtain ⟨f, rfl⟩ : ∃ k : Nat, f = k := ⟨f.toNat, by omega⟩
  obtain ⟨t, rfl⟩ : ∃ k : Nat, t = k := ⟨t.toNat, by omega⟩
  simp only [Int.toNat_natCast]
  refine ⟨fun hs => ?_, fun hs => ?_, fun hs => ?_, fun hs => ?_⟩
  · have r := h.rel (by omega) (by omega) (by omega) (by omega) hs
    have p := h.ok_pos (by omega) (by omega) (by omega) (by omega) hs
    exact ⟨(h.step (by omega) (by omega) (by omega) (by omega) r p).mono (by omega), fun x => r.sol h (by omega) (by omega) (by omega) (by omega) x⟩
  · intro x ⟨hx, hx2⟩
    obtain ⟨b1, b2⟩ := h.bad (by omega) (by omega) (by omega) hs
    have := hx t f (by omega) (by omega) b1
    omega
  · exact h.ok_pos (by omega) (by omega) (by omega) (by omega) hs
  · apply Classical.byContradiction
    intro hn
    obtain ⟨b1, b2⟩ := h.bad (by omega) (by omega) (by omega) hn
    omega
theorem SolL_append {a b : List Con} {x : Nat → Int} : SolL (a ++ b) x ↔ SolL a x ∧ SolL b x := by
  unfold SolL
  simp only [List.mem_append]
  exact ⟨fun h => ⟨fun c hc => h c (.inl hc), fun c hc => h c (.inr hc)⟩, fun h c hc => hc.elim (h.1 c) (h.2 c)⟩
theorem SolL_one {c : Con} {x : Nat → Int} : SolL [c] x ↔ x c.t.toNat - x c.f.toNat ≤ c.m := by unfold SolL; simp
theorem Good.append {n : Nat} {a b : List Con} (ha : Good n a) (hb : Good n b) : Good n (a ++ b) := fun c hc => (List.mem_append.mp hc).elim (ha c) (hb c)
structure CM (m : Vector Int 576) (l : List Con) : Prop where
  cl : Cl 24 m B0
  sol : ∀ x, Sol 24 m x ↔ SolL l x
theorem CM.free : CM freeM [] := ⟨free_cl.mono (by rw [hB0]; omega), fun x => ⟨fun _ _ h => (by cases h), fun _ => free_sol x⟩⟩
theorem CM.addOk {m : Vector Int 576} {p : List Con} {c : Con} (h : CM m p) (hc : Good 24 [c]) : AddOk m c.f c.t c.m := by
  have := hB0
  obtain ⟨c1, c2, c3⟩ := hc c (by simp)
  exact h.cl.addOk (by omega) c1 c2 (by omega)
theorem CM.step {m : Vector Int 576} {p : List Con} {c : Con} (h : CM m p) (hp : Good 24 p) (hc : Good 24 [c]) (hs : (addM m c.f c.t c.m).1 = true) : CM (addM m c.f c.t c.m).2 (p ++ [c]) := by
  have := hB0
  obtain ⟨c1, c2, c3⟩ := hc c (by simp)
  obtain ⟨a, -, -⟩ := h.cl.add (f := c.f) (t := c.t) (w := c.m) (by omega) c1 c2 (by omega)
  obtain ⟨a1, a2⟩ := a hs
  have hsol : ∀ x, Sol 24 (addM m c.f c.t c.m).2 x ↔ SolL (p ++ [c]) x := fun x => by rw [a2, h.sol, SolL_append, SolL_one]
  exact ⟨a1.small (by omega) (hp.append hc) hsol, hsol⟩
theorem CM.stop {m : Vector Int 576} {p : List Con} {c : Con} (h : CM m p) (hc : Good 24 [c]) (hs : ¬ (addM m c.f c.t c.m).1 = true) (x : Nat → Int) : ¬ SolL (p ++ [c]) x := by
  have := hB0
  obtain ⟨c1, c2, c3⟩ := hc c (by simp)
  obtain ⟨-, a, -⟩ := h.cl.add (f := c.f) (t := c.t) (w := c.m) (by omega) c1 c2 (by omega)
  have := a hs x
  rwa [h.sol, ← SolL_one, ← SolL_append] at this
theorem addAll_spec {l : List Con} : ∀ {m : Vector Int 576} {p : List Con}, CM m p → Good 24 p → Good 24 l → (∀ m', addAll m l = some m' → CM m' (p ++ l)) ∧ (addAll m l = none → ∀ x, ¬ SolL (p ++ l) x) := by
  induction l with
  | nil =>
    intro m p h _ _
    refine ⟨fun m' e => ?_, fun e => by cases e⟩
    cases e; simpa using h
  | cons c l ih =>
    intro m p h hp hl
    have hc : Good 24 [c] := fun c' h' => hl c' (by simp at h'; simp [h'])
    have hl' : Good 24 l := fun c' h' => hl c' (by simp [h'])
    by_cases hs : (addM m c.f c.t c.m).1 = true
    · have := ih (h.step hp hc hs) (hp.append hc) hl'
      have e : addAll m (c :: l) = addAll (addM m c.f c.t c.m).2 l := by show (if _ then _ else _) = _; rw [if_pos hs]
      rw [e]
      simpa using this
    · have e : addAll m (c :: l) = none := by show (if _ then _ else _) = _; rw [if_neg hs]
      rw [e]
      refine ⟨fun m' e => (by cases e), fun _ x hx => h.stop hc hs x ?_⟩
      rw [show p ++ c :: l = (p ++ [c]) ++ l by simp, SolL_append] at hx
      exact hx.1
theorem close_spec {l : List Con} (hl : Good 24 l) : (∀ m, addAll freeM l = some m → CM m l) ∧ (addAll freeM l = none → ∀ x, ¬ SolL l x) := by
  simpa using addAll_spec (l := l) CM.free (fun _ h => by cases h) hl
theorem validM_good {n : Int} {l : List Con} (h : validM n l = true) : Good 24 l := fun c hc => by
  obtain ⟨⟨a, b, -⟩, hp⟩ := validM_iff.mp h
  have := possM_iff.mp (hp c hc); omega
theorem bounds_len {m : Vector Int 576} {n : Int} : (boundsM m n).most.length = n.toNat := by unfold boundsM; simp
theorem bounds_row {m : Vector Int 576} {n : Int} (hn : n ≤ 24) {i : Nat} (hi : i < n.toNat) : ((boundsM m n).most.getD i []).length = n.toNat := by
  unfold boundsM
  simp only [List.getD_eq_getElem?_getD, List.getElem?_map, List.getElem?_range hi]
  simp; omega
theorem bm_bounds {m : Vector Int 576} {n : Int} {i j : Nat} (hi : i < n.toNat) (hj : j < n.toNat) : bm (boundsM m n) i j = mm m i j := by
  have hl : m.toList.length = 576 := by simp
  unfold boundsM bm mm vat
  simp only [List.getD_eq_getElem?_getD, List.getElem?_map, List.getElem?_range hi]
  simp only [Option.map_some, Option.getD_some]
  rw [List.getElem?_take_of_lt hj, List.getElem?_drop]
theorem Cl.vb {m : Vector Int 576} {B : Int} (h : Cl 24 m B) (hB : B ≤ 36028797018963968) {n : Int} (hn : 1 ≤ n ∧ n ≤ 24) : VB (boundsM m n) := by
  have hnb := hNB
  have e : (boundsM m n).n = n := rfl
  have E := fun {i j : Nat} => bm_bounds (m := m) (n := n) (i := i) (j := j)
  refine ⟨by rw [e, bounds_len]; omega, fun i hi => ?_, fun i hi => ?_, fun i j hi hj => ?_, fun i j k hi hj hk => ?_⟩ <;> rw [bounds_len] at *
  · exact bounds_row hn.2 hi
  · rw [E hi hi]; exact h.diag i (by omega)
  · rw [E hi hj]; have := h.bd i j (by omega) (by omega); omega
  · rw [E hi hj, E hj hk, E hi hk]
    by_cases e1 : mm m i j = NB
    · exact .inl e1
    · refine .inr ?_
      by_cases e2 : mm m j k = NB
      · rw [plusM_inf (.inr e2)]
        have := h.bd i k (by omega) (by omega); omega
      · rw [plusM_nb e1 e2]; exact h.tri i j k (by omega) (by omega) (by omega) e1 e2
theorem of_at {b : Bd} (v : VB b) {i j : Nat} (hi : i < 24) (hj : j < 24) : mm (ofM b) i j = if i < b.n.toNat ∧ j < b.n.toNat then bm b i j else if i = j then 0 else NB := by
  have hn := v.n
  have K : ∀ k : Nat, k ≤ b.most.length → mm ((List.range k).foldl (fun m i => vput m (i * 24) ((b.most.getD i []).take 24)) freeM) i j = if i < k ∧ j < b.n.toNat then bm b i j else if i = j then 0 else NB := by
    intro k
    induction k with
    | zero => intro _; rw [if_neg (by omega)]; exact mm_free hi hj
    | succ k ih =>
      intro hk
      have ih := ih (by omega)
      rw [List.range_succ, List.foldl_append]
      simp only [List.foldl_cons, List.foldl_nil]
      generalize (List.range k).foldl (fun m i => vput m (i * 24) ((b.most.getD i []).take 24)) freeM = m at ih
      have hr := v.row k (by omega)
      have hl : ((b.most.getD k []).take 24).length = b.most.length := by rw [List.length_take, hr]; omega
      unfold mm at ih ⊢
      rw [vat_vput (by omega), hl]
      by_cases h1 : i = k
      · subst h1
        by_cases h2 : j < b.n.toNat
        · rw [if_pos (by omega), if_pos (by omega)]
          unfold bm
          rw [show i * 24 + j - i * 24 = j by omega, List.take_of_length_le (by omega)]
        · rw [if_neg (by omega), ih]
          have e1 : ¬ (i < i ∧ j < b.n.toNat) := by omega
          have e2 : ¬ (i < i + 1 ∧ j < b.n.toNat) := by omega
          rw [if_neg e1, if_neg e2]
      · rw [if_neg (by omega), ih]
        have e1 : (i < k ∧ j < b.n.toNat) ↔ (i < k + 1 ∧ j < b.n.toNat) := by omega
        simp only [e1]
  have := K b.most.length (by omega)
  unfold ofM
  rw [this]
  have e1 : (i < b.most.length ∧ j < b.n.toNat) ↔ (i < b.n.toNat ∧ j < b.n.toNat) := by omega
  simp only [e1]
theorem VB.cl {b : Bd} (v : VB b) : Cl 24 (ofM b) 36028797018963968 := by
  have hnb := hNB
  have hn := v.n
  refine ⟨by omega, fun i hi => ?_, fun i j k hi hj hk a c => ?_, fun i j hi hj => ?_⟩
  · rw [of_at v hi hi]
    split
    · exact v.diag i (by omega)
    · rw [if_pos rfl]
  · rw [of_at v hi hj] at a ⊢
    rw [of_at v hj hk] at c ⊢
    rw [of_at v hi hk]
    by_cases h1 : i < b.n.toNat ∧ j < b.n.toNat
    · rw [if_pos h1] at a ⊢
      by_cases h2 : k < b.n.toNat
      · rw [if_pos (by omega)] at c ⊢
        rw [if_pos (by omega)]
        have := (v.tri i j k (by omega) (by omega) (by omega)).resolve_left a
        rwa [plusM_nb a c] at this
      · rw [if_neg (by omega), if_neg (by omega)] at c
        exact (c rfl).elim
    · rw [if_neg h1] at a ⊢
      split at a
      · rename_i e
        subst e
        rw [if_pos rfl]; omega
      · exact (a rfl).elim
  · rw [of_at v hi hj]
    split
    · have := v.ok i j (by omega) (by omega); omega
    · split
      · exact .inr (by omega)
      · exact .inl rfl
end Go.Lat
namespace Go.Lat
theorem addAll_cons {m : Vector Int 576} {c : Con} {l : List Con} : addAll m (c :: l) = if (addM m c.f c.t c.m).1 = true then addAll (addM m c.f c.t c.m).2 l else none := rfl
theorem close_inv {n : Int} {l : List Con} (h : ¬ validM n l = true) : closeM n l = (⟨0, []⟩, [], 2) := by unfold closeM; rw [if_neg h]
theorem close_none {n : Int} {l : List Con} (h : validM n l = true) (e : addAll freeM l = none) : closeM n l = (⟨0, []⟩, firstM n l, 70) := by unfold closeM; rw [if_pos h, e]
theorem close_some {n : Int} {l : List Con} {m : Vector Int 576} (h : validM n l = true) (e : addAll freeM l = some m) : closeM n l = (boundsM m n, [], 0) := by unfold closeM; rw [if_pos h, e]
theorem range_pos {b : Bd} {f t : Nat} (h : validBM b = true) (hf : f < b.n) (ht : t < b.n) : rangeM b f t = (-bm b t f, bm b f t, 0) := by unfold rangeM; rw [if_pos ⟨h, by omega, by omega⟩]; rfl
theorem range_neg {b : Bd} {f t : Int} (h : ¬ (validBM b = true ∧ 0 ≤ min f t ∧ max f t < b.n)) : rangeM b f t = (0, 0, 2) := by unfold rangeM; rw [if_neg h]
theorem range_ok {b : Bd} {f t : Int} (h : (rangeM b f t).2.2 = 0) : validBM b = true ∧ (0 ≤ f ∧ f < b.n) ∧ (0 ≤ t ∧ t < b.n) := by
  by_cases e : validBM b = true ∧ 0 ≤ min f t ∧ max f t < b.n
  · exact ⟨e.1, by omega, by omega⟩
  · rw [range_neg e] at h; cases h
def ptM (b : Bd) (f t v : Int) : Vector Int 576 := if f = t then ofM b else (addM (addM (ofM b) f t v).2 t f (-v)).2
theorem point_pos {b : Bd} {f t v : Int} (h : (rangeM b f t).2.2 = 0 ∧ max (rangeM b f t).1 (-36028797018963968) ≤ v ∧ v ≤ min (rangeM b f t).2.1 36028797018963968) : pointM b f t v = (pointV (ptM b f t v) f.toNat b.n.toNat, 0) := by
  unfold pointM; simp only []; rw [if_pos h]; rfl
theorem point_neg {b : Bd} {f t v : Int} (h : ¬ ((rangeM b f t).2.2 = 0 ∧ max (rangeM b f t).1 (-36028797018963968) ≤ v ∧ v ≤ min (rangeM b f t).2.1 36028797018963968)) : pointM b f t v = ([], 2) := by
  unfold pointM; simp only []; rw [if_neg h]
theorem lat_map {n : Nat} {g : Nat → Int} {i : Nat} (h : i < n) : lat ((List.range n).map g) i = g i := by rw [lat_nat]; simp [List.getD_eq_getElem?_getD, List.getElem?_map, List.getElem?_range h]
theorem map_set {n : Nat} {g : Nat → Int} {i : Nat} {v : Int} : ((List.range n).map g).set i v = (List.range n).map fun k => if k = i then v else g k := by
  apply List.ext_getElem?
  intro k
  rw [List.getElem?_set]
  rcases Nat.lt_or_ge k n with h | h
  · simp only [List.getElem?_map, List.getElem?_range h, List.length_map, List.length_range, Option.map_some]
    by_cases e : i = k
    · subst e; simp [h]
    · have : ¬ k = i := fun x => e x.symm
      simp [e, this]
  · rw [List.getElem?_eq_none (by simp; omega), List.getElem?_eq_none (by simp; omega)]
    split
    · split
      · rename_i h1 h2; simp at h2; omega
      · rfl
    · rfl
theorem row_map {m : Vector Int 576} {f n : Nat} (hf : f < 24) (hn : n ≤ 24) : (m.toList.drop (f * 24)).take n = (List.range n).map (mm m f) := by
  have hl : m.toList.length = 576 := by simp
  apply List.ext_getElem?
  intro k
  rcases Nat.lt_or_ge k n with h | h
  · rw [List.getElem?_take_of_lt h, List.getElem?_drop, List.getElem?_map, List.getElem?_range h]
    have hk : f * 24 + k < m.toList.length := by omega
    unfold mm vat
    rw [List.getElem?_eq_getElem hk]
    simp only [Option.map_some, List.getD_eq_getElem?_getD, List.getElem?_eq_getElem hk, Option.getD_some]
  · rw [List.getElem?_eq_none (by simp; omega), List.getElem?_eq_none (by simp; omega)]
structure Two (m m2 : Vector Int 576) (f t : Nat) (v : Int) : Prop where
  cl : Cl 24 m2 108086391056891904
  sol : ∀ x, Sol 24 m2 x ↔ Sol 24 m x ∧ x t - x f = v
theorem Cl.two {m : Vector Int 576} {f t : Nat} {v : Int} (h : Cl 24 m 36028797018963968) (hf : f < 24) (ht : t < 24) (hw : -36028797018963968 ≤ v ∧ v ≤ 36028797018963968)
    (h1 : mm m t f = NB ∨ -mm m t f ≤ v) (h2 : v ≤ mm m f t) :
    AddOk m f t v ∧ AddOk (addM m f t v).2 t f (-v) ∧ Two m (addM (addM m f t v).2 t f (-v)).2 f t v := by
  have hnb := hNB
  obtain ⟨a1, -, a3⟩ := h.add (f := f) (t := t) (w := v) (by omega) (by omega) (by omega) hw
  simp only [Int.toNat_natCast] at a1 a3
  have ok1 : (addM m f t v).1 = true := a3.mpr (by omega)
  obtain ⟨c1, s1⟩ := a1 ok1
  have r1 := h.rel (f := f) (t := t) (w := v) (by omega) (by omega) (by omega) (by omega) ok1
  refine ⟨h.addOk (by omega) (by omega) (by omega) (by omega), c1.addOk (by omega) (by omega) (by omega) (by omega), ?_⟩
  generalize (addM m f t v).2 = m1 at c1 s1 r1
  have dF := h.diag f hf
  have dT := h.diag t ht
  have ok2 : (addM m1 t f (-v)).1 = true := by
    apply Classical.byContradiction
    intro hn
    obtain ⟨b1, b2⟩ := c1.bad (f := t) (t := f) (by omega) (by omega) (by omega) hn
    rcases r1.one f t hf ht with e | ⟨-, -, e⟩ <;> omega
  have r2 := c1.rel (f := t) (t := f) (w := -v) (by omega) (by omega) (by omega) (by omega) ok2
  have p2 := c1.ok_pos (f := t) (t := f) (w := -v) (by omega) (by omega) (by omega) (by omega) ok2
  generalize (addM m1 t f (-v)).2 = m2 at r2
  have c2 := c1.step (by omega) (by omega) (by omega) (by omega) r2 p2
  refine ⟨⟨c2.n24, c2.diag, c2.tri, fun i j hi hj => ?_⟩, fun x => ?_⟩
  · have b0 := h.bd i j hi hj
    have b1 := h.bd i f hi hf
    have b2 := h.bd i t hi ht
    have b3 := h.bd f j hf hj
    have b4 := h.bd t j ht hj
    rcases r2.one i j hi hj with e | ⟨q1, q2, e⟩
    · rcases r1.one i j hi hj with e' | ⟨q1, q2, e'⟩ <;> omega
    · rcases r1.one i t hi ht with e1 | ⟨q3, q4, e1⟩ <;> rcases r1.one f j hf hj with e2 | ⟨q5, q6, e2⟩ <;> omega
  · rw [r2.sol c1 (by omega) (by omega) (by omega) (by omega), s1]
    constructor
    · rintro ⟨⟨q1, q2⟩, q3⟩; exact ⟨q1, by omega⟩
    · rintro ⟨q1, q2⟩; exact ⟨⟨q1, by omega⟩, by omega⟩
theorem ptM_spec {b : Bd} {f t : Nat} {v : Int} (hv : validBM b = true) (hf : (f : Int) < b.n) (ht : (t : Int) < b.n)
    (hr : max (-bm b t f) (-36028797018963968) ≤ v ∧ v ≤ min (bm b f t) 36028797018963968) :
    (¬ f = t → AddOk (ofM b) f t v ∧ AddOk (addM (ofM b) f t v).2 t f (-v)) ∧ Two (ofM b) (ptM b f t v) f t v := by
  have vb := validBM_iff.mp hv
  have hn := vb.n
  have cl := vb.cl
  have r1 := of_at vb (i := t) (j := f) (by omega) (by omega)
  have r2 := of_at vb (i := f) (j := t) (by omega) (by omega)
  rw [if_pos (by omega)] at r1 r2
  obtain ⟨w1, w2, w3⟩ := cl.two (f := f) (t := t) (v := v) (by omega) (by omega) (by omega) (by omega) (by omega)
  refine ⟨fun _ => ⟨w1, w2⟩, ?_⟩
  unfold ptM
  by_cases e : f = t
  · subst e
    rw [if_pos rfl]
    have d := cl.diag f (by omega)
    refine ⟨cl.mono (by omega), fun x => ?_⟩
    constructor
    · intro hx; exact ⟨hx, by omega⟩
    · exact fun hx => hx.1
  · rw [if_neg (by omega)]; exact w3
end Go.Lat
namespace Go.Lat
theorem tmod_wrap {a n : Int} (ha : 0 ≤ a) (h2 : a < 2 * n) : a.tmod n = if a < n then a else a - n := by
  split
  · rename_i h; exact Int.tmod_eq_of_lt ha h
  · rename_i h
    have h1 : a.tmod n = a % n := Int.tmod_eq_emod_of_nonneg ha
    rw [h1, show a = (a - n) + n by omega, Int.add_emod_right, Int.emod_eq_of_lt (by omega) (by omega)]
    omega
theorem two_pow_lt {q : Nat} (h : q < 6) : (0 : Int) ≤ 2 ^ q ∧ (2 : Int) ^ q ≤ 32 := by
  match q, h with
  | 0, _ => decide
  | 1, _ => decide
  | 2, _ => decide
  | 3, _ => decide
  | 4, _ => decide
  | 5, _ => decide
theorem made_poss {n : Int} {x : List A3} : ∀ c ∈ madeM n x, (possM n c = true) ∧ -6 ≤ c.m ∧ c.m ≤ 13 := by
  intro c hc
  unfold madeM at hc
  split at hc
  · rename_i h1
    rw [List.mem_map] at hc
    obtain ⟨y, -, rfl⟩ := hc
    have p1 := pickM_nonneg (c := y.x0) (n := n) (by omega)
    have p2 := pickM_nonneg (c := y.x1) (n := n - 1) (by omega)
    have p3 := pickM_nonneg (c := y.x2) (n := 20) (by omega)
    have p4 := pickM_nonneg (c := y.x1.tdiv 30) (n := 6) (by omega)
    have p5 := two_pow_lt (q := (pickM (y.x1.tdiv 30) 6).toNat) (by omega)
    have p6 := tmod_wrap (a := pickM y.x0 n + 1 + pickM y.x1 (n - 1)) (n := n) (by omega) (by omega)
    refine ⟨possM_iff.mpr ⟨p1.1, p1.2, ?_⟩, by dsimp only; omega, by dsimp only; omega⟩
    dsimp only
    rw [p6]
    split <;> omega
  · cases hc
theorem close_cases {n : Int} {l : List Con} (h : validM n l = true) : (∃ m, CM m l ∧ closeM n l = (boundsM m n, [], 0)) ∨ ((∀ x, ¬ SolL l x) ∧ closeM n l = (⟨0, []⟩, firstM n l, 70)) := by
  obtain ⟨h1, h2⟩ := close_spec (validM_good h)
  rcases e : addAll freeM l with _ | m
  · exact .inr ⟨h2 e, close_none h e⟩
  · exact .inl ⟨m, h1 m e, close_some h e⟩
theorem CM.sol_ex {m : Vector Int 576} {l : List Con} (h : CM m l) : ∃ x, SolL l x := by
  have := hB0
  obtain ⟨-, -, s⟩ := h.cl.pt (f := 0) (by omega) (by omega)
  exact ⟨_, (h.sol _).mp s⟩
theorem CM.le {m : Vector Int 576} {l : List Con} (h : CM m l) (hg : Good 24 l) {c : Con} (hc : c ∈ l) : mm m c.f.toNat c.t.toNat ≤ c.m := by
  have := hB0
  have hnb := hNB
  obtain ⟨c1, c2, c3⟩ := hg c hc
  obtain ⟨p1, p2, s⟩ := h.cl.pt (f := c.f.toNat) (by omega) (by omega)
  have s := (h.sol _).mp s c hc
  have d := h.cl.diag c.f.toNat (by omega)
  rw [p1 c.f.toNat (by omega) (by omega), d] at s
  by_cases e : mm m c.f.toNat c.t.toNat = NB
  · have := p2 c.t.toNat (by omega) e
    omega
  · rw [p1 _ (by omega) e] at s; omega
theorem CM.congr {m m' : Vector Int 576} {l l' : List Con} (h : CM m l) (h' : CM m' l') (hs : ∀ x, SolL l x ↔ SolL l' x) {i j : Nat} (hi : i < 24) (hj : j < 24) : mm m i j = mm m' i j := by
  have := hB0
  exact h.cl.eq_of_sol h'.cl (by omega) (fun x => by rw [h.sol, h'.sol, hs]) hi hj
theorem CM.vb {m : Vector Int 576} {l : List Con} (h : CM m l) {n : Int} (hn : 1 ≤ n ∧ n ≤ 24) : VB (boundsM m n) := h.cl.vb (by have := hB0; omega) hn
theorem bounds_most_len {m : Vector Int 576} {n : Int} (hn : n ≤ 24) : (boundsM m n).most.length ≤ 1073741824 ∧ ∀ r ∈ (boundsM m n).most, r.length ≤ 1073741824 := by
  refine ⟨by rw [bounds_len]; omega, fun r hr => ?_⟩
  obtain ⟨i, hi, rfl⟩ := List.getElem_of_mem hr
  have hi' := hi
  rw [bounds_len] at hi
  have h2 := bounds_row (m := m) hn hi
  have h3 : (boundsM m n).most[i] = (boundsM m n).most.getD i [] := by simp [hi']
  rw [h3, h2]; omega
end Go.Lat
namespace Go.Lat
theorem close_ok {n : Int} {l : List Con} (h : (closeM n l).2.2 = 0) : validM n l = true ∧ ∃ m, CM m l ∧ closeM n l = (boundsM m n, [], 0) := by
  by_cases hv : validM n l = true
  · refine ⟨hv, ?_⟩
    rcases close_cases hv with h1 | ⟨-, e⟩
    · exact h1
    · rw [e] at h; cases h
  · rw [close_inv hv] at h; cases h
theorem CM.range {m : Vector Int 576} {l : List Con} (h : CM m l) {n : Int} (hn : 1 ≤ n ∧ n ≤ 24) {f t : Nat} (hf : (f : Int) < n) (ht : (t : Int) < n) : rangeM (boundsM m n) f t = (-mm m t f, mm m f t, 0) := by
  rw [range_pos (validBM_iff.mpr (h.vb hn)) hf ht, bm_bounds (by omega) (by omega), bm_bounds (by omega) (by omega)]
theorem CM.low_high {m : Vector Int 576} {l : List Con} (h : CM m l) {f t : Nat} (hf : f < 24) (ht : t < 24) : -mm m t f ≤ mm m f t := by
  have hnb := hNB
  have hb := hB0
  have b1 := h.cl.bd t f ht hf
  have b2 := h.cl.bd f t hf ht
  by_cases e1 : mm m t f = NB
  · omega
  · by_cases e2 : mm m f t = NB
    · omega
    · have := h.cl.tri f t f hf ht hf e2 e1
      have := h.cl.diag f hf
      omega
structure PtSpec (m : Vector Int 576) (l : List Con) (n : Nat) (f t : Nat) (w : Int) (a : List Int) : Prop where
  len : a.length = n
  f : lat a f = 0
  t : lat a t = w
  bd : ∀ v ∈ a, -1152921504606846976 ≤ v ∧ v ≤ 1152921504606846976
  sol : ∀ c ∈ l, lat a c.t - lat a c.f ≤ c.m
theorem PtSpec.holds {m : Vector Int 576} {l : List Con} {n : Int} {f t : Nat} {w : Int} {a : List Int} (h : PtSpec m l n.toNat f t w a) (hv : validM n l = true) (hn : 1 ≤ n) : holdsM l a = true :=
  holdsM_iff.mpr ⟨⟨by rw [h.len, show ((n.toNat : Nat) : Int) = n by omega]; exact hv, h.bd⟩, h.sol⟩
end Go.Lat
namespace Go.Lat
def renC (n k : Int) (c : Con) : Con := ⟨(c.f + k).tmod n, (c.t + k).tmod n, c.m, c.a⟩
def sg (n k i : Nat) : Nat := if i + k < n then i + k else i + k - n
section
variable {n k : Nat}
def sgi (n k j : Nat) : Nat := if k ≤ j then j - k else j + n - k
def Rl (n k : Nat) (d d' : Vector Int 24) : Prop := ∀ e, e < n → vat d' (sg n k e) = vat d e
end
end Go.Lat
namespace Go.Lat
open Go.RowKit
theorem fin64 {x : Int} (h : 0 ≤ x ∧ x < 64) : ∃ n : Fin 64, x = ((n.1 : Nat) : Int) := ⟨⟨x.toNat, by omega⟩, by simp only; omega⟩
theorem wrapU {x : Int} (h : 0 ≤ x ∧ x < 64) : IntKind.u64.wrap x = x := by
  obtain ⟨n, rfl⟩ := fin64 h
  clear h; revert n; decide +kernel
theorem bitOf {x : Int} (h : 0 ≤ x ∧ x < 64) {i : Nat} (hi : i < 6) : (x.fdiv (2 ^ (min ((i : Nat) : Int).toNat 64))).tmod (2 : Int) = x / 2 ^ i % 2 := by
  obtain ⟨n, rfl⟩ := fin64 h
  clear h
  have : ∀ (n : Fin 64) (i : Fin 6), (((n.1 : Nat) : Int).fdiv (2 ^ (min ((i.1 : Nat) : Int).toNat 64))).tmod (2 : Int) = ((n.1 : Nat) : Int) / 2 ^ i.1 % 2 := by decide +kernel
  exact this n ⟨i, hi⟩
end Go.Lat
namespace Go.Lat
open Go.RowKit
theorem allM_iff {l : List Int} {lo hi most : Int} : allM l lo hi most = true ↔ (∀ y ∈ l, 0 ≤ y ∧ y ≤ most) ∧ lo ≤ (l.length : Int) ∧ (l.length : Int) ≤ hi := by
  unfold allM
  simp only [Bool.and_eq_true, List.all_eq_true, decide_eq_true_eq]
structure FOk (f : Flt) : Prop where
  len : 1 ≤ f.dr.length ∧ f.dr.length ≤ 6
  li : 0 ≤ f.li ∧ f.li ≤ 2
  lt : f.li < (f.dr.length : Int)
theorem cvalid_ok {f : Flt} (h : cvalidM f = true) : FOk f := by
  unfold cvalidM at h
  simp only [Bool.and_eq_true, decide_eq_true_eq, allM_iff] at h
  obtain ⟨⟨⟨⟨⟨⟨_, h1⟩, _⟩, h3⟩, h4⟩, _⟩, _⟩ := h
  exact ⟨by omega, h3, h4⟩
theorem valid_nil {n : Int} : validM n [] = true ↔ 1 ≤ n ∧ n ≤ 24 := by
  rw [validM_iff]
  exact ⟨fun h => ⟨h.1.1, h.1.2.1⟩, fun h => ⟨⟨h.1, h.2, by simp⟩, fun c hc => by cases hc⟩⟩
theorem close_nil {n : Int} : (closeM n []).2.2 = 0 ↔ 1 ≤ n ∧ n ≤ 24 := by
  rw [← valid_nil]
  constructor
  · exact fun h => (close_ok h).1
  · intro h
    rcases close_cases h with ⟨m, _, e⟩ | ⟨h2, _⟩
    · rw [e]
    · exact absurd (fun c hc => by cases hc) (h2 fun _ => 0)
structure BOk (f : Flt) (n : Int) (l : List Con) : Prop where
  fo : FOk f
  no : 1 ≤ n ∧ n ≤ 24
  len : l.length ≤ 2000
  con : ∀ c ∈ l, conOk f n c = true
theorem bvalid_iff {f : Flt} {n : Int} {l : List Con} : bvalidM f n l = true ↔ cvalidM f = true ∧ (1 ≤ n ∧ n ≤ 24) ∧ l.length ≤ 2000 ∧ ∀ c ∈ l, conOk f n c = true := by
  unfold bvalidM
  simp only [Bool.and_eq_true, decide_eq_true_eq, List.all_eq_true, close_nil, and_assoc]
theorem bvalid_ok {f : Flt} {n : Int} {l : List Con} (h : bvalidM f n l = true) : BOk f n l := by
  obtain ⟨h1, h2, h3, h4⟩ := bvalid_iff.1 h
  exact ⟨cvalid_ok h1, h2, h3, h4⟩
theorem pow_le64 {k : Nat} (h : k ≤ 6) : 2 ^ k ≤ 64 := by
  have := Nat.pow_le_pow_right (n := 2) (by omega) h
  omega
theorem BOk.poss {f : Flt} {n : Int} {l : List Con} (h : BOk f n l) : PossOk f l := ⟨h.fo.len.2, by have := h.len; omega, h.fo.li⟩
theorem partM_len {l : List Con} {s : Int} : (partM l s).length ≤ l.length := by unfold partM; exact List.length_filter_le _ _
theorem partM_mem {l : List Con} {s : Int} {c : Con} : c ∈ partM l s ↔ c ∈ l ∧ inSet c s = true := by unfold partM; simp [List.mem_filter]
theorem choices_mem {f : Flt} {n : Int} {l : List Con} {c : Cho} : c ∈ choicesM f n l ↔ ∃ s : Nat, s < 2 ^ f.dr.length ∧ pcM s = (f.dr.length : Int) - f.li ∧ (closeM n (partM l s)).2.2 = 0 ∧ c = ⟨(closeM n (partM l s)).1, s⟩ := by
  unfold choicesM
  simp only [List.mem_filterMap, List.mem_range, choice1]
  constructor
  · rintro ⟨s, h1, h2⟩
    split at h2
    · rename_i h3
      cases h2
      exact ⟨s, h1, h3.1, h3.2, rfl⟩
    · cases h2
  · rintro ⟨s, h1, h2, h3, rfl⟩
    exact ⟨s, h1, by rw [if_pos ⟨h2, h3⟩]⟩
structure ChOk (f : Flt) (n : Int) (l : List Con) (c : Cho) (s : Nat) (m : Vector Int 576) : Prop where
  lt : s < 2 ^ f.dr.length
  pc : pcM s = (f.dr.length : Int) - f.li
  valid : validM n (partM l s) = true
  cm : CM m (partM l s)
  b : c.b = boundsM m n
  s : c.s = s
theorem choices_ok {f : Flt} {n : Int} {l : List Con} {c : Cho} (h : c ∈ choicesM f n l) : ∃ s m, ChOk f n l c s m := by
  obtain ⟨s, h1, h2, h3, rfl⟩ := choices_mem.1 h
  obtain ⟨hv, m, hc, e⟩ := close_ok h3
  exact ⟨s, m, h1, h2, hv, hc, by rw [e], rfl⟩
theorem ChOk.n {f : Flt} {n : Int} {l : List Con} {c : Cho} {s : Nat} {m : Vector Int 576} (h : ChOk f n l c s m) : 1 ≤ n ∧ n ≤ 24 := by
  have := (validM_iff.1 h.valid).1
  exact ⟨this.1, this.2.1⟩
def prefC (f : Flt) (n : Int) (l : List Con) (s : Nat) : List Cho := (List.range s).filterMap fun (k : Nat) => choice1 f n l (k : Int)
theorem pref_step {f : Flt} {n : Int} {l : List Con} {s : Nat} {c : Cho} (hs : s < 2 ^ f.dr.length) (hc : choice1 f n l (s : Int) = some c) : (choicesM f n l)[(prefC f n l s).length]? = some c := by
  obtain ⟨b, hb⟩ : ∃ b, 2 ^ f.dr.length = s + (b + 1) := ⟨2 ^ f.dr.length - s - 1, by omega⟩
  unfold choicesM
  rw [hb, List.range_add, List.filterMap_append, List.range_succ_eq_map, List.map_cons, List.filterMap_cons]
  simp only [Nat.add_zero, hc]
  rw [List.getElem?_append_right (by unfold prefC; exact Nat.le_refl _)]
  simp [prefC]
theorem pref_succ {f : Flt} {n : Int} {l : List Con} {s : Nat} : prefC f n l (s + 1) = prefC f n l s ++ (choice1 f n l (s : Int)).toList := by
  unfold prefC
  rw [List.range_succ, List.filterMap_append]
  rcases h : choice1 f n l (s : Int) with _ | c <;> simp [h]
theorem pow_eq {k : Nat} (h : k ≤ 6) : (1 : Int) * 2 ^ (min ((k : Nat) : Int).toNat 64) = ((2 ^ k : Nat) : Int) := by
  rw [Int.toNat_natCast, Nat.min_eq_left (by omega), Int.one_mul]
  simp
theorem take_succ_nat {α : Type} {l : List α} {i : Nat} {c : α} (h : l[i]? = some c) : l.take (i + 1) = l.take i ++ [c] := by
  rw [List.take_add_one, h]; rfl
theorem bm_lat {b : Bd} {i j : Int} : lat (lat b.most i) j = bm b i.toNat j.toNat := rfl
theorem tdiv_parts (n k : Int) (h : 0 < k) : n = k * n.tdiv k + n.tmod k ∧ n.tmod k < k ∧ -k < n.tmod k := ⟨(Int.mul_tdiv_add_tmod _ _).symm, Int.tmod_lt_of_pos n h, Int.lt_tmod_of_pos n h⟩
theorem inI_tdiv30 {n : Int} (h : inI n) : inI (n.tdiv 30) := by have := tdiv_parts n 30 (by omega); unfold inI at *; omega
theorem inI_tdiv200 {n : Int} (h : inI n) : inI (n.tdiv 200) := by have := tdiv_parts n 200 (by omega); unfold inI at *; omega
theorem inI_tdiv5 {n : Int} (h : inI n) : inI (n.tdiv 5) := by have := tdiv_parts n 5 (by omega); unfold inI at *; omega
theorem inI_tdiv7 {n : Int} (h : inI n) : -2000000000000000000 ≤ n.tdiv 7 ∧ n.tdiv 7 ≤ 2000000000000000000 := by have := tdiv_parts n 7 (by omega); unfold inI at *; omega
theorem lat_set_self {α : Type} [Inhabited α] {l : List α} {i : Nat} {x : α} (h : i < l.length) : lat (l.set i x) (i : Int) = x := by
  rw [lat_get (by simpa using h)]; simp
theorem map_range_succ {α : Type} {g : Nat → α} {i : Nat} : (List.range (i + 1)).map g = (List.range i).map g ++ [g i] := by rw [List.range_succ, List.map_append]; rfl
structure FleetOk (f : Flt) : Prop where
  ok : FOk f
  five : f.dr.length ≤ 5
  cv : cvalidM f = true
  sv : f.sv = [0]
  tm : f.tm = [0]
theorem fleet_ok (n : Int) : FleetOk (fleetM n) := by
  have h5 := pickM_nonneg (c := n) (n := 5) (by omega)
  have hla := pickM_nonneg (c := n.tdiv 30) (n := 5) (by omega)
  have hli := pickM_nonneg (c := n.tdiv 5) (n := 3) (by omega)
  have hlen : (fleetM n).dr.length = (pickM n 5).toNat + 1 := by unfold fleetM; simp
  have hl : (fleetM n).li = min (pickM (n.tdiv 5) 3) (((fleetM n).dr.length : Int) - 1) := rfl
  have hla' : (fleetM n).la = pickM (n.tdiv 30) 5 := rfl
  have hdr : ∀ y ∈ (fleetM n).dr, 0 ≤ y ∧ y ≤ 1000 := by
    intro y hy
    unfold fleetM at hy
    simp only [List.mem_map, List.mem_range] at hy
    obtain ⟨a, _, rfl⟩ := hy
    have := pickM_nonneg (c := n.tdiv 7 + a) (n := 40) (by omega)
    omega
  refine ⟨⟨by omega, by omega, by omega⟩, by omega, ?_, rfl, rfl⟩
  unfold cvalidM
  simp only [Bool.and_eq_true, decide_eq_true_eq, allM_iff]
  refine ⟨⟨⟨⟨⟨⟨hdr, by omega, by omega⟩, by omega⟩, by omega⟩, by omega⟩, ?_⟩, ?_⟩
  · exact ⟨fun y hy => by have : y = 0 := by simpa [fleetM] using hy
                          omega, by simp [fleetM], by simp [fleetM]⟩
  · exact ⟨fun y hy => by have : y = 0 := by simpa [fleetM] using hy
                          simp [fleetM, this], by simp [fleetM], by simp [fleetM]⟩
end Go.Lat
namespace Go.Lat
open Go.RowKit
def bt (x a : Nat) : Bool := x / 2 ^ a % 2 == 1
def sub (x y : Nat) : Bool := (List.range 6).all fun a => !bt x a || bt y a
def pcN (x : Nat) : Nat := ((List.range 6).map fun a => x / 2 ^ a % 2).sum
theorem sub_iff {x y : Nat} : sub x y = true ↔ ∀ a, a < 6 → bt x a = true → bt y a = true := by
  unfold sub
  simp only [List.all_eq_true, List.mem_range, Bool.or_eq_true, Bool.not_eq_true']
  constructor
  · intro h a ha hx
    rcases h a ha with h1 | h1
    · rw [hx] at h1; cases h1
    · exact h1
  · intro h a ha
    cases hx : bt x a
    · exact .inl rfl
    · exact .inr (h a ha hx)
theorem sub_trans {x y z : Nat} (h : sub x y = true) (k : sub y z = true) : sub x z = true := sub_iff.2 fun a ha hx => sub_iff.1 k a ha (sub_iff.1 h a ha hx)
theorem pc_nat (s : Fin 64) : pcM ((s.1 : Nat) : Int) = (pcN s.1 : Nat) := by revert s; decide +kernel
theorem pcM_nat {s : Nat} (h : s < 64) : pcM (s : Int) = (pcN s : Nat) := pc_nat ⟨s, h⟩
theorem anN_sub' : ∀ x y : Fin 64, decide (bitI .andNot .i64 ((x.1 : Nat) : Int) ((y.1 : Nat) : Int) = 0) = sub x.1 y.1 := by decide +kernel
theorem anN_sub {x y : Nat} (hx : x < 64) (hy : y < 64) : bitI .andNot .i64 (x : Int) (y : Int) = 0 ↔ sub x y = true := by
  have := anN_sub' ⟨x, hx⟩ ⟨y, hy⟩
  rw [← this, decide_eq_true_eq]
theorem and_sub' : ∀ x y : Fin 64, decide (bitI .and .i64 ((x.1 : Nat) : Int) ((y.1 : Nat) : Int) = x.1) = sub x.1 y.1 := by decide +kernel
theorem and_sub {x y : Nat} (hx : x < 64) (hy : y < 64) : bitI .and .i64 (x : Int) (y : Int) = x ↔ sub x y = true := by
  have := and_sub' ⟨x, hx⟩ ⟨y, hy⟩
  rw [← this, decide_eq_true_eq]
theorem and_comm' : ∀ x y : Fin 64, decide (bitI .and .i64 ((x.1 : Nat) : Int) ((y.1 : Nat) : Int) = y.1) = sub y.1 x.1 := by decide +kernel
theorem and_sub2 {x y : Nat} (hx : x < 64) (hy : y < 64) : bitI .and .i64 (x : Int) (y : Int) = y ↔ sub y x = true := by
  have := and_comm' ⟨x, hx⟩ ⟨y, hy⟩
  rw [← this, decide_eq_true_eq]
theorem and_zero' : ∀ x y : Fin 64, decide (bitI .and .i64 ((x.1 : Nat) : Int) ((y.1 : Nat) : Int) = 0) = (List.range 6).all fun a => !(bt x.1 a && bt y.1 a) := by decide +kernel
theorem and_zero {x y : Nat} (hx : x < 64) (hy : y < 64) : bitI .and .i64 (x : Int) (y : Int) = 0 ↔ ∀ a, a < 6 → ¬ (bt x a = true ∧ bt y a = true) := by
  have := and_zero' ⟨x, hx⟩ ⟨y, hy⟩
  rw [← decide_eq_true_eq (p := bitI .and .i64 (x : Int) (y : Int) = 0), this]
  simp only [List.all_eq_true, List.mem_range, Bool.not_eq_true', Bool.and_eq_false_iff]
  constructor
  · rintro h a ha ⟨h1, h2⟩
    rcases h a ha with h3 | h3
    · rw [h1] at h3; cases h3
    · rw [h2] at h3; cases h3
  · intro h a ha
    cases h1 : bt x a
    · exact .inl rfl
    · cases h2 : bt y a
      · exact .inr rfl
      · exact absurd ⟨h1, h2⟩ (h a ha)
theorem anN_bits' : ∀ x y : Fin 64, (decide (0 ≤ bitI .andNot .i64 ((x.1 : Nat) : Int) ((y.1 : Nat) : Int)) && decide ((bitI .andNot .i64 ((x.1 : Nat) : Int) ((y.1 : Nat) : Int)).toNat ≤ x.1) && (List.range 6).all fun a => bt (bitI .andNot .i64 ((x.1 : Nat) : Int) ((y.1 : Nat) : Int)).toNat a == (bt x.1 a && !bt y.1 a)) = true := by decide +kernel
theorem anN_bits {x y : Nat} (hx : x < 64) (hy : y < 64) : ∃ z : Nat, bitI .andNot .i64 (x : Int) (y : Int) = z ∧ z ≤ x ∧ ∀ a, a < 6 → (bt z a = true ↔ bt x a = true ∧ ¬ bt y a = true) := by
  have := anN_bits' ⟨x, hx⟩ ⟨y, hy⟩
  simp only [Bool.and_eq_true, decide_eq_true_eq, List.all_eq_true, List.mem_range, beq_iff_eq] at this
  obtain ⟨⟨h1, h2⟩, h3⟩ := this
  refine ⟨(bitI .andNot .i64 (x : Int) (y : Int)).toNat, by omega, h2, fun a ha => ?_⟩
  rw [h3 a ha]
  simp
theorem sub_le' : ∀ x y : Fin 64, (!sub x.1 y.1 || decide (x.1 ≤ y.1)) = true := by decide +kernel
theorem sub_le {x y : Nat} (hx : x < 64) (hy : y < 64) (h : sub x y = true) : x ≤ y := by
  have := sub_le' ⟨x, hx⟩ ⟨y, hy⟩
  simp only [Bool.or_eq_true, Bool.not_eq_true', decide_eq_true_eq, h] at this
  rcases this with h1 | h1
  · cases h1
  · exact h1
def pick1 (y k a : Nat) : Bool := (List.range 64).any fun x => sub x y && (pcN x == k) && bt x a
theorem pick1_all : ((List.range 32).all fun y => (List.range 6).all fun k => (List.range 6).all fun a => !(bt y a && decide (1 ≤ k ∧ k ≤ pcN y)) || pick1 y k a) = true := by decide +kernel
theorem pick_sub {y k a : Nat} (hy : y < 32) (ha : a < 6) (hb : bt y a = true) (hk : 1 ≤ k) (hk2 : k ≤ pcN y) : ∃ x, x ≤ y ∧ sub x y = true ∧ pcN x = k ∧ bt x a = true := by
  have h5 : pcN y ≤ 5 := by
    have : ((List.range 32).all fun y => decide (pcN y ≤ 5)) = true := by decide +kernel
    simp only [List.all_eq_true, List.mem_range, decide_eq_true_eq] at this
    exact this y hy
  have h := pick1_all
  simp only [List.all_eq_true, List.mem_range] at h
  have h := h y hy k (by omega) a ha
  simp only [hb, Bool.true_and, Bool.or_eq_true, Bool.not_eq_true', decide_eq_false_iff_not] at h
  rcases h with h | h
  · exact absurd ⟨hk, hk2⟩ h
  · unfold pick1 at h
    simp only [List.any_eq_true, List.mem_range, Bool.and_eq_true, beq_iff_eq] at h
    obtain ⟨x, hx, ⟨h1, h2⟩, h3⟩ := h
    exact ⟨x, sub_le hx (by omega) h1, h1, h2, h3⟩
theorem pc_pos {y : Nat} (hy : y < 64) (h : 1 ≤ pcN y) : ∃ a, a < 6 ∧ bt y a = true := by
  have : ((List.range 64).all fun y => !decide (1 ≤ pcN y) || (List.range 6).any fun a => bt y a) = true := by decide +kernel
  simp only [List.all_eq_true, List.mem_range, Bool.or_eq_true, Bool.not_eq_true', decide_eq_false_iff_not, List.any_eq_true] at this
  rcases this y hy with h1 | ⟨a, h1, h2⟩
  · exact absurd h h1
  · exact ⟨a, h1, h2⟩
theorem full_bits {k : Nat} (hk : k ≤ 6) {a : Nat} (ha : a < 6) : bt (2 ^ k - 1) a = true ↔ a < k := by
  have : ((List.range 7).all fun k => (List.range 6).all fun a => bt (2 ^ k - 1) a == decide (a < k)) = true := by decide +kernel
  simp only [List.all_eq_true, List.mem_range, beq_iff_eq] at this
  rw [this k (by omega) a ha, decide_eq_true_eq]
theorem pc_full {k x : Nat} (hk : k ≤ 6) (hx : x < 2 ^ k) : pcN x = k ↔ x = 2 ^ k - 1 := by
  have h64 := pow_le64 hk
  have : ((List.range 64).all fun x => (List.range 7).all fun k => !decide (x < 2 ^ k) || (decide (pcN x = k) == decide (x = 2 ^ k - 1))) = true := by decide +kernel
  simp only [List.all_eq_true, List.mem_range, Bool.or_eq_true, Bool.not_eq_true', decide_eq_false_iff_not, beq_iff_eq] at this
  rcases this x (by omega) k (by omega) with h | h
  · exact absurd hx h
  · exact decide_eq_decide.1 h
end Go.Lat
namespace Go.Lat
open Go.RowKit
structure Bel (f : Flt) (n : Int) (l : List Con) (tr : List Int) (ho : Nat) : Prop where
  fo : FOk f
  cv : cvalidM f = true
  five : f.dr.length ≤ 5
  no : 1 ≤ n ∧ n ≤ 24
  len : l.length ≤ 2000
  con : ∀ c ∈ l, (0 ≤ c.f ∧ c.f < n) ∧ (0 ≤ c.t ∧ c.t < n) ∧ ¬ c.f = c.t ∧ (-1125899906842624 ≤ c.m ∧ c.m ≤ 1125899906842624) ∧ ∃ a : Nat, c.a = a ∧ a < 2 ^ f.dr.length
  hl : ho < 2 ^ f.dr.length
  hp : (f.dr.length : Int) - f.li ≤ pcN ho
  tl : tr.length = n.toNat
  tb : ∀ v ∈ tr, 0 ≤ v ∧ v ≤ 1000
  hs : ∀ c ∈ l, inSet c ho = true → lat tr c.t - lat tr c.f ≤ c.m
theorem pow_le32 {k : Nat} (h : k ≤ 5) : 2 ^ k ≤ 32 := by
  have := Nat.pow_le_pow_right (n := 2) (by omega) h
  omega
theorem pow_fdiv {a k : Nat} (hk : k ≤ 6) (h : a < 2 ^ k) : ((a : Nat) : Int).fdiv (2 ^ (min k 64)) = 0 := by
  have h64 := pow_le64 hk
  have : ((List.range 64).all fun a => (List.range 7).all fun k => !decide (a < 2 ^ k) || decide (((a : Nat) : Int).fdiv (2 ^ (min k 64)) = 0)) = true := by decide +kernel
  simp only [List.all_eq_true, List.mem_range, Bool.or_eq_true, Bool.not_eq_true', decide_eq_true_eq, decide_eq_false_iff_not] at this
  rcases this a (by omega) k (by omega) with h1 | h1
  · exact absurd h h1
  · exact h1
section
variable {f : Flt} {n : Int} {l : List Con} {tr : List Int} {ho : Nat}
theorem Bel.bv (h : Bel f n l tr ho) : bvalidM f n l = true := by
  refine bvalid_iff.2 ⟨h.cv, h.no, h.len, fun c hc => ?_⟩
  obtain ⟨k1, k2, k3, k4, a, k5, k6⟩ := h.con c hc
  unfold conOk
  rw [decide_eq_true_eq]
  exact ⟨by omega, by omega, k3, k4.1, k4.2, by omega, by rw [k5]; exact pow_fdiv (by have := h.five; omega) k6⟩
theorem Bel.poss (h : Bel f n l tr ho) {c : Con} (hc : c ∈ l) : possM n c = true := by
  obtain ⟨k1, k2, k3, k4, a, k5, k6⟩ := h.con c hc
  have := pow_le32 h.five
  exact possM_iff.2 ⟨k1.1, k1.2, k2.1, k2.2, k3, k4.1, k4.2, by omega, by omega⟩
theorem Bel.valid (h : Bel f n l tr ho) (s : Int) : validM n (partM l s) = true :=
  validM_iff.2 ⟨⟨h.no.1, h.no.2, Nat.le_trans partM_len h.len⟩, fun _ hc => h.poss (partM_mem.1 hc).1⟩
theorem Bel.in_iff (h : Bel f n l tr ho) {c : Con} (hc : c ∈ l) : ∃ a : Nat, a < 2 ^ f.dr.length ∧ ∀ s : Nat, s < 64 → (inSet c s = true ↔ sub a s = true) := by
  obtain ⟨_, _, _, _, a, k5, k6⟩ := h.con c hc
  have := pow_le32 h.five
  refine ⟨a, k6, fun s hs => ?_⟩
  unfold inSet
  rw [decide_eq_true_eq, k5, anN_sub (by omega) hs]
theorem Bel.part_sub (h : Bel f n l tr ho) {x y : Nat} (hx : x < 64) (hy : y < 64) (hs : sub x y = true) {d : Con} (hc : d ∈ partM l x) : d ∈ partM l y := by
  obtain ⟨h1, h2⟩ := partM_mem.1 hc
  obtain ⟨a, _, hi⟩ := h.in_iff h1
  exact partM_mem.2 ⟨h1, (hi y hy).2 (sub_trans ((hi x hx).1 h2) hs)⟩
theorem Bel.sol_sub (h : Bel f n l tr ho) {x y : Nat} (hx : x < 64) (hy : y < 64) (hs : sub x y = true) {z : Nat → Int} (hz : SolL (partM l y) z) : SolL (partM l x) z := fun c hc => hz c (h.part_sub hx hy hs hc)
theorem close_of_sol {l : List Con} (hv : validM n l = true) {z : Nat → Int} (hz : SolL l z) : (closeM n l).2.2 = 0 := by
  rcases close_cases hv with ⟨m, _, e⟩ | ⟨h2, _⟩
  · rw [e]
  · exact absurd hz (h2 z)
theorem sol_of_close {l : List Con} (h : (closeM n l).2.2 = 0) : ∃ z, SolL l z := by
  obtain ⟨_, m, hc, _⟩ := close_ok h
  exact hc.sol_ex
theorem Bel.close_sub (h : Bel f n l tr ho) {x y : Nat} (hx : x < 64) (hy : y < 64) (hs : sub x y = true) (hc : (closeM n (partM l y)).2.2 = 0) : (closeM n (partM l x)).2.2 = 0 := by
  obtain ⟨z, hz⟩ := sol_of_close hc
  exact close_of_sol (h.valid x) (h.sol_sub hx hy hs hz)
theorem Bel.truth (h : Bel f n l tr ho) : SolL (partM l ho) (fun i => tr.getD i 0) := fun c hc => by
  obtain ⟨h1, h2⟩ := partM_mem.1 hc
  exact h.hs c h1 h2
def kk (f : Flt) : Nat := ((f.dr.length : Int) - f.li).toNat
theorem kk_eq (h : FOk f) : ((kk f : Nat) : Int) = (f.dr.length : Int) - f.li ∧ 1 ≤ kk f ∧ kk f ≤ f.dr.length := by
  have := h.lt; have := h.li; unfold kk; omega
theorem Bel.choice (h : Bel f n l tr ho) {s : Nat} (hs : s < 2 ^ f.dr.length) (hp : pcN s = kk f) (hc : (closeM n (partM l s)).2.2 = 0) : (⟨(closeM n (partM l s)).1, s⟩ : Cho) ∈ choicesM f n l := by
  have := pow_le32 h.five
  exact choices_mem.2 ⟨s, hs, by rw [pcM_nat (by omega), hp, (kk_eq h.fo).1], hc, rfl⟩
theorem Bel.ch (h : Bel f n l tr ho) {c : Cho} (hc : c ∈ choicesM f n l) : ∃ s m, ChOk f n l c s m ∧ s < 32 ∧ pcN s = kk f ∧ (closeM n (partM l s)).2.2 = 0 := by
  obtain ⟨s, h1, h2, h3, e⟩ := choices_mem.1 hc
  obtain ⟨hv, m, hm, e2⟩ := close_ok h3
  have := pow_le32 h.five
  rw [pcM_nat (by omega)] at h2
  have := (kk_eq h.fo).1
  refine ⟨s, m, ⟨h1, by rw [pcM_nat (by omega)]; omega, hv, hm, by rw [e, e2], by rw [e]⟩, by omega, by omega, h3⟩
theorem Bel.sub_choice (h : Bel f n l tr ho) {y a : Nat} (hy : y < 2 ^ f.dr.length) (hp : kk f ≤ pcN y) (ha : a < 6) (hb : bt y a = true) (hc : (closeM n (partM l y)).2.2 = 0) :
    ∃ s, s < 2 ^ f.dr.length ∧ sub s y = true ∧ bt s a = true ∧ (⟨(closeM n (partM l s)).1, s⟩ : Cho) ∈ choicesM f n l := by
  have h32 := pow_le32 h.five
  obtain ⟨s, h1, h2, h3, h4⟩ := pick_sub (y := y) (k := kk f) (by omega) ha hb (kk_eq h.fo).2.1 hp
  exact ⟨s, by omega, h2, h4, h.choice (by omega) h3 (h.close_sub (by omega) (by omega) h2 hc)⟩
theorem Bel.hpN (h : Bel f n l tr ho) : kk f ≤ pcN ho := by have := h.hp; have := (kk_eq h.fo).1; omega
theorem Bel.honest_choice (h : Bel f n l tr ho) {a : Nat} (ha : a < 6) (hb : bt ho a = true) : ∃ s, s < 2 ^ f.dr.length ∧ sub s ho = true ∧ bt s a = true ∧ (⟨(closeM n (partM l s)).1, s⟩ : Cho) ∈ choicesM f n l :=
  h.sub_choice h.hl h.hpN ha hb (close_of_sol (h.valid ho) h.truth)
theorem Bel.ex (h : Bel f n l tr ho) : ∃ s, s < 2 ^ f.dr.length ∧ sub s ho = true ∧ (⟨(closeM n (partM l s)).1, s⟩ : Cho) ∈ choicesM f n l := by
  have h32 := pow_le32 h.five
  have := h.hl
  obtain ⟨a, ha, hb⟩ := pc_pos (y := ho) (by omega) (Nat.le_trans (kk_eq h.fo).2.1 h.hpN)
  obtain ⟨s, h1, h2, _, h4⟩ := h.honest_choice ha hb
  exact ⟨s, h1, h2, h4⟩
theorem Bel.ne (h : Bel f n l tr ho) : ¬ choicesM f n l = [] := fun e => by
  obtain ⟨s, _, _, hs⟩ := h.ex
  rw [e] at hs; cases hs
theorem ch_ok (hb : bvalidM f n l = true) (hne : ¬ choicesM f n l = []) : chM f n l = ((choicesM f n l).map (·.s), 0) := by
  unfold chM; rw [if_pos hb, if_neg hne]
theorem lo_spec (a b : Int) : ∀ (cs : List Cho) (o : Int), (cs.foldl (fun o c => min o (-bm c.b b.toNat a.toNat)) o ≤ o) ∧ (∀ c ∈ cs, cs.foldl (fun o c => min o (-bm c.b b.toNat a.toNat)) o ≤ -bm c.b b.toNat a.toNat) ∧
    (cs.foldl (fun o c => min o (-bm c.b b.toNat a.toNat)) o = o ∨ ∃ c ∈ cs, cs.foldl (fun o c => min o (-bm c.b b.toNat a.toNat)) o = -bm c.b b.toNat a.toNat)
  | [], o => ⟨Int.le_refl _, fun c hc => (by cases hc), .inl rfl⟩
  | d :: cs, o => by
    obtain ⟨h1, h2, h3⟩ := lo_spec a b cs (min o (-bm d.b b.toNat a.toNat))
    simp only [List.foldl_cons]
    refine ⟨by omega, fun c hc => ?_, ?_⟩
    · rcases List.mem_cons.1 hc with rfl | hc
      · omega
      · exact h2 c hc
    · rcases h3 with h3 | ⟨c, hc, h3⟩
      · rcases Int.le_total o (-bm d.b b.toNat a.toNat) with h4 | h4
        · exact .inl (by omega)
        · exact .inr ⟨d, by simp, by omega⟩
      · exact .inr ⟨c, by simp [hc], h3⟩
theorem hi_spec (a b : Int) : ∀ (cs : List Cho) (o : Int), (o ≤ cs.foldl (fun o c => max o (bm c.b a.toNat b.toNat)) o) ∧ (∀ c ∈ cs, bm c.b a.toNat b.toNat ≤ cs.foldl (fun o c => max o (bm c.b a.toNat b.toNat)) o) ∧
    (cs.foldl (fun o c => max o (bm c.b a.toNat b.toNat)) o = o ∨ ∃ c ∈ cs, cs.foldl (fun o c => max o (bm c.b a.toNat b.toNat)) o = bm c.b a.toNat b.toNat)
  | [], o => ⟨Int.le_refl _, fun c hc => (by cases hc), .inl rfl⟩
  | d :: cs, o => by
    obtain ⟨h1, h2, h3⟩ := hi_spec a b cs (max o (bm d.b a.toNat b.toNat))
    simp only [List.foldl_cons]
    refine ⟨by omega, fun c hc => ?_, ?_⟩
    · rcases List.mem_cons.1 hc with rfl | hc
      · omega
      · exact h2 c hc
    · rcases h3 with h3 | ⟨c, hc, h3⟩
      · rcases Int.le_total (bm d.b a.toNat b.toNat) o with h4 | h4
        · exact .inl (by omega)
        · exact .inr ⟨d, by simp, by omega⟩
      · exact .inr ⟨c, by simp [hc], h3⟩
theorem ChOk.bm {c : Cho} {s : Nat} {m : Vector Int 576} (h : ChOk f n l c s m) {i j : Nat} (hi : (i : Int) < n) (hj : (j : Int) < n) : Go.Lat.bm c.b i j = mm m i j := by
  have := h.n
  rw [h.b]; exact bm_bounds (by omega) (by omega)
theorem ChOk.bd {c : Cho} {s : Nat} {m : Vector Int 576} (h : ChOk f n l c s m) {i j : Nat} (hi : (i : Int) < n) (hj : (j : Int) < n) : -1152921504606846976 ≤ mm m i j ∧ mm m i j ≤ 1152921504606846976 := by
  have := h.n
  have := h.cm.cl.bd i j (by omega) (by omega)
  have := hB0
  have := hNB
  omega
structure RgOk (f : Flt) (n : Int) (l : List Con) (a b : Nat) (lo hi : Int) : Prop where
  eq : brangeM f n l a b = (lo, hi, 0)
  loL : ∀ c ∈ choicesM f n l, lo ≤ -bm c.b b a
  hiL : ∀ c ∈ choicesM f n l, bm c.b a b ≤ hi
  loA : ∃ c ∈ choicesM f n l, lo = -bm c.b b a
  hiA : ∃ c ∈ choicesM f n l, hi = bm c.b a b
theorem rg_ok (hb : bvalidM f n l = true) (hne : ¬ choicesM f n l = []) {a b : Nat} (ha : (a : Int) < n) (hb' : (b : Int) < n) : ∃ lo hi, RgOk f n l a b lo hi := by
  obtain ⟨l1, l2, l3⟩ := lo_spec a b (choicesM f n l) NB
  obtain ⟨h1, h2, h3⟩ := hi_spec a b (choicesM f n l) (-NB)
  obtain ⟨c, hc⟩ := List.exists_mem_of_ne_nil _ hne
  obtain ⟨s, m, ck⟩ := choices_ok hc
  have hn := ck.n
  have q1 := ck.bm hb' ha
  have q2 := ck.bm ha hb'
  have b1 := ck.bd hb' ha
  have b2 := ck.bd ha hb'
  have lh := ck.cm.low_high (f := a) (t := b) (by omega) (by omega)
  have p1 := l2 c hc
  have p2 := h2 c hc
  simp only [Int.toNat_natCast] at l1 l2 l3 h1 h2 h3 p1 p2
  have hnb := hNB
  refine ⟨loM (choicesM f n l) a b, hiM (choicesM f n l) a b, ⟨?_, l2, h2, ?_, ?_⟩⟩
  · have e1 : loM (choicesM f n l) a b = (choicesM f n l).foldl (fun o c => min o (-Go.Lat.bm c.b b a)) NB := rfl
    have e2 : hiM (choicesM f n l) a b = (choicesM f n l).foldl (fun o c => max o (Go.Lat.bm c.b a b)) (-NB) := rfl
    unfold brangeM
    rw [if_pos ⟨hb, by omega, by omega⟩, if_neg (by omega)]
  · rcases l3 with l3 | h
    · refine ⟨c, hc, ?_⟩
      have e1 : loM (choicesM f n l) a b = (choicesM f n l).foldl (fun o c => min o (-Go.Lat.bm c.b b a)) NB := rfl
      omega
    · exact h
  · rcases h3 with h3 | h
    · refine ⟨c, hc, ?_⟩
      have e2 : hiM (choicesM f n l) a b = (choicesM f n l).foldl (fun o c => max o (Go.Lat.bm c.b a b)) (-NB) := rfl
      omega
    · exact h
theorem li_fold : ∀ (ss : List Nat) (x : Nat), x < 64 → (∀ s ∈ ss, s < 64) → ∃ z : Nat, (ss.map fun (s : Nat) => (s : Int)).foldl (fun o s => bitI .andNot .i64 o s) (x : Int) = z ∧ z ≤ x ∧ ∀ a, a < 6 → (bt z a = true ↔ bt x a = true ∧ ∀ s ∈ ss, ¬ bt s a = true)
  | [], x, _, _ => ⟨x, rfl, Nat.le_refl _, fun a _ => by simp⟩
  | s :: ss, x, hx, hs => by
    obtain ⟨y, e, hy, hyb⟩ := anN_bits hx (hs s (by simp))
    obtain ⟨z, e2, hz, hzb⟩ := li_fold ss y (by omega) (fun t ht => hs t (by simp [ht]))
    refine ⟨z, ?_, by omega, fun a ha => ?_⟩
    · simp only [List.map_cons, List.foldl_cons]
      rw [e]; exact e2
    · rw [hzb a ha, hyb a ha]
      simp only [List.mem_cons, forall_eq_or_imp, and_assoc]
theorem li_ok (hb : bvalidM f n l = true) (hne : ¬ choicesM f n l = []) : ∃ z : Nat, liM f n l = ((z : Int), 0) ∧ z < 2 ^ f.dr.length ∧ ∀ a, a < 6 → (bt z a = true ↔ a < f.dr.length ∧ ∀ s : Nat, ((s : Int) ∈ (chM f n l).1) → ¬ bt s a = true) := by
  have hbk := bvalid_ok hb
  have h64 := pow_le64 hbk.fo.len.2
  have hpos : 0 < 2 ^ f.dr.length := Nat.pow_pos (by omega)
  have hch := ch_ok hb hne
  obtain ⟨ss, hss, hlt⟩ : ∃ ss : List Nat, (chM f n l).1 = ss.map (fun (s : Nat) => (s : Int)) ∧ ∀ s ∈ ss, s < 64 := by
    refine ⟨(choicesM f n l).map fun c => c.s.toNat, ?_, ?_⟩
    · rw [hch, List.map_map]
      refine List.map_congr_left fun c hc => ?_
      obtain ⟨s, _, _, _, rfl⟩ := choices_mem.1 hc
      rfl
    · intro s hs
      obtain ⟨c, hc, rfl⟩ := List.mem_map.1 hs
      obtain ⟨s, h1, _, _, rfl⟩ := choices_mem.1 hc
      show ((s : Nat) : Int).toNat < 64
      omega
  obtain ⟨z, e, hz, hzb⟩ := li_fold ss (2 ^ f.dr.length - 1) (by omega) hlt
  refine ⟨z, ?_, by omega, fun a ha => ?_⟩
  · unfold liM
    rw [if_pos (by rw [hch]), hss]
    have e3 : ((2 ^ f.dr.length - 1 : Nat) : Int) = (2 ^ f.dr.length : Int) - 1 := by
      rw [Int.natCast_sub (by omega)]; simp
    rw [← e3, e]
  · rw [hzb a ha, full_bits hbk.fo.len.2 ha, hss]
    simp only [List.mem_map]
    constructor
    · rintro ⟨h1, h2⟩
      refine ⟨h1, fun s hs => ?_⟩
      obtain ⟨t, ht, e⟩ := hs
      have : t = s := by omega
      subst this
      exact h2 t ht
    · rintro ⟨h1, h2⟩
      exact ⟨h1, fun s hs => h2 s ⟨s, hs, rfl⟩⟩
end
end Go.Lat
namespace Go.Lat
open Go.RowKit
theorem clear1' : ∀ (x : Fin 64) (a : Fin 6), (decide (0 ≤ bitI .andNot .i64 ((x.1 : Nat) : Int) (2 ^ a.1)) && decide ((bitI .andNot .i64 ((x.1 : Nat) : Int) (2 ^ a.1)).toNat ≤ x.1) && decide (pcN x.1 ≤ pcN (bitI .andNot .i64 ((x.1 : Nat) : Int) (2 ^ a.1)).toNat + 1)) = true := by decide +kernel
theorem clear1 {x a : Nat} (hx : x < 64) (ha : a < 6) : ∃ z : Nat, bitI .andNot .i64 (x : Int) (2 ^ a) = z ∧ z ≤ x ∧ pcN x ≤ pcN z + 1 := by
  have := clear1' ⟨x, hx⟩ ⟨a, ha⟩
  simp only [Bool.and_eq_true, decide_eq_true_eq] at this
  obtain ⟨⟨h1, h2⟩, h3⟩ := this
  exact ⟨(bitI .andNot .i64 (x : Int) (2 ^ a)).toNat, by omega, h2, h3⟩
theorem or2 {i j k : Nat} (hk : k ≤ 6) (hi : i < k) (hj : j < k) : ∃ z : Nat, bitI .or .i64 (2 ^ i) (2 ^ j) = z ∧ z < 2 ^ k := by
  have : ((List.range 7).all fun k => (List.range 6).all fun i => (List.range 6).all fun j => !(decide (i < k) && decide (j < k)) || (decide (0 ≤ bitI .or .i64 (2 ^ i) (2 ^ j)) && decide ((bitI .or .i64 (2 ^ i) (2 ^ j)).toNat < 2 ^ k))) = true := by decide +kernel
  simp only [List.all_eq_true, List.mem_range, Bool.or_eq_true, Bool.not_eq_true', Bool.and_eq_false_iff, Bool.and_eq_true, decide_eq_true_eq, decide_eq_false_iff_not] at this
  rcases this k (by omega) i (by omega) j (by omega) with (h | h) | ⟨h1, h2⟩
  · exact absurd hi h
  · exact absurd hj h
  · exact ⟨(bitI .or .i64 (2 ^ i) (2 ^ j)).toNat, by omega, h2⟩
theorem hon_ok {f : Flt} (h : FOk f) (ho : Int) : ∃ z : Nat, honM f ho = z ∧ z < 2 ^ f.dr.length ∧ (f.dr.length : Int) - f.li ≤ pcN z := by
  have h64 := pow_le64 h.len.2
  have hpos : 0 < 2 ^ f.dr.length := Nat.pow_pos (by omega)
  have hli := h.li
  have hlt := h.lt
  have key : ∀ k : Nat, k ≤ f.dr.length → ∃ z : Nat, ((List.range k).foldl (honStep ho) (2 ^ f.dr.length - 1, f.li)).1 = z ∧ z < 2 ^ f.dr.length ∧ 0 ≤ ((List.range k).foldl (honStep ho) (2 ^ f.dr.length - 1, f.li)).2 ∧ (f.dr.length : Int) - f.li + ((List.range k).foldl (honStep ho) (2 ^ f.dr.length - 1, f.li)).2 ≤ pcN z := by
    intro k
    induction k with
    | zero =>
      intro _
      refine ⟨2 ^ f.dr.length - 1, ?_, by omega, hli.1, ?_⟩
      · show (2 ^ f.dr.length : Int) - 1 = _
        rw [Int.natCast_sub (by omega)]; simp
      · rw [(pc_full h.len.2 (by omega)).2 rfl]
        show (f.dr.length : Int) - f.li + f.li ≤ _
        omega
    | succ k ih =>
      intro hk
      obtain ⟨z, h1, h2, h3, h4⟩ := ih (by omega)
      rw [List.range_succ, List.foldl_append]
      generalize (List.range k).foldl (honStep ho) (2 ^ f.dr.length - 1, f.li) = p at *
      show ∃ z : Nat, (honStep ho p k).1 = z ∧ _ ∧ 0 ≤ (honStep ho p k).2 ∧ _ + (honStep ho p k).2 ≤ _
      unfold honStep
      split
      · rename_i hc
        obtain ⟨y, e, hy, hp⟩ := clear1 (x := z) (a := k) (by omega) (by have := h.len; omega)
        refine ⟨y, ?_, by omega, ?_, ?_⟩
        · show bitI .andNot .i64 p.1 (2 ^ k) = _
          rw [h1]; exact e
        · show 0 ≤ p.2 - 1
          omega
        · show _ + (p.2 - 1) ≤ _
          omega
      · exact ⟨z, h1, h2, h3, h4⟩
  obtain ⟨z, h1, h2, h3, h4⟩ := key f.dr.length (Nat.le_refl _)
  exact ⟨z, h1, h2, by omega⟩
theorem truth_ok {n : Int} {tr : List Int} : (truthM n tr).length = n.toNat ∧ ∀ v ∈ truthM n tr, 0 ≤ v ∧ v ≤ 60 := by
  unfold truthM
  refine ⟨by simp, fun v hv => ?_⟩
  simp only [List.mem_map, List.mem_range] at hv
  obtain ⟨k, _, rfl⟩ := hv
  split
  · have := pickM_nonneg (c := tr.getD k 0) (n := 60) (by omega)
    omega
  · omega
theorem bmade_mem {f : Flt} {n : Int} {x : List A3} {ho : Int} {tr : List Int} {d : Con} (hd : d ∈ bmadeM f n x ho tr) : ∃ c y, c ∈ madeM n (x.take 24) ∧ d = bmade1 f ho tr c y := by
  unfold bmadeM at hd
  obtain ⟨i, hi, e⟩ := List.mem_iff_getElem.1 hd
  rw [List.getElem_zipWith] at e
  rw [List.length_zipWith] at hi
  exact ⟨_, _, List.getElem_mem (by omega), e.symm⟩
theorem mk_bel (c : Cas) : ∃ ho : Nat, (mkM c).2.2.2.2 = ho ∧ (mkM c).2.2.1.length ≤ 24 ∧ FleetOk (mkM c).1 ∧ ((mkM c).2.1 ≤ 6) ∧ Bel (mkM c).1 (mkM c).2.1 (mkM c).2.2.1 (mkM c).2.2.2.1 ho := by
  have hF := fleet_ok c.fl
  obtain ⟨z, e, hz, hp⟩ := hon_ok hF.ok c.ho
  have h6 := pickM_nonneg (c := c.n) (n := 6) (by omega)
  have e1 : (mkM c).1 = fleetM c.fl := rfl
  have e2 : (mkM c).2.1 = 1 + pickM c.n 6 := rfl
  have e3 : (mkM c).2.2.1 = bmadeM (fleetM c.fl) (1 + pickM c.n 6) c.x (honM (fleetM c.fl) c.ho) (truthM (1 + pickM c.n 6) c.tr) := rfl
  have e4 : (mkM c).2.2.2.1 = truthM (1 + pickM c.n 6) c.tr := rfl
  have e5 : (mkM c).2.2.2.2 = honM (fleetM c.fl) c.ho := rfl
  rw [e] at e3 e5
  have hlen : (mkM c).2.2.1.length ≤ 24 := by
    rw [e3]; unfold bmadeM
    rw [List.length_zipWith, List.length_take]; omega
  refine ⟨z, e5, hlen, by rw [e1]; exact hF, by rw [e2]; omega, ?_⟩
  rw [e1, e2, e4, e3]
  rw [e3] at hlen
  obtain ⟨t1, t2⟩ := truth_ok (n := 1 + pickM c.n 6) (tr := c.tr)
  have h64 := pow_le32 hF.five
  have key : ∀ d ∈ bmadeM (fleetM c.fl) (1 + pickM c.n 6) c.x (z : Int) (truthM (1 + pickM c.n 6) c.tr), ∃ (y : A3) (k : Con) (a : Nat), k ∈ madeM (1 + pickM c.n 6) (c.x.take 24) ∧ a < 2 ^ (fleetM c.fl).dr.length ∧
      d = if sub a z = true then ⟨k.f, k.t, lat (truthM (1 + pickM c.n 6) c.tr) k.t - lat (truthM (1 + pickM c.n 6) c.tr) k.f + max k.m 0, a⟩ else ⟨k.f, k.t, k.m, a⟩ := by
    intro d hd
    obtain ⟨k, y, hk, rfl⟩ := bmade_mem hd
    have hl := hF.ok.len
    have q1 := pickM_nonneg (c := y.x1.tdiv 30) (n := (((fleetM c.fl).dr.length : Nat) : Int)) (by omega)
    have q2 := pickM_nonneg (c := y.x1.tdiv 200) (n := (((fleetM c.fl).dr.length : Nat) : Int)) (by omega)
    obtain ⟨a, ea, ha⟩ := or2 (i := (pickM (y.x1.tdiv 30) (fleetM c.fl).dr.length).toNat) (j := (pickM (y.x1.tdiv 200) (fleetM c.fl).dr.length).toNat) (k := (fleetM c.fl).dr.length) hl.2 (by omega) (by omega)
    refine ⟨y, k, a, hk, ha, ?_⟩
    unfold bmade1
    simp only [ea]
    have := and_sub (x := a) (y := z) (by omega) (by omega)
    by_cases h : sub a z = true
    · rw [if_pos h, if_pos (this.2 h)]
    · rw [if_neg h, if_neg fun e => h (this.1 e)]
  refine ⟨hF.ok, hF.cv, hF.five, by omega, by omega, fun d hd => ?_, hz, hp, t1, fun v hv => by have := t2 v hv; omega, fun d hd hin => ?_⟩
  · obtain ⟨y, k, a, hk, ha, rfl⟩ := key d hd
    obtain ⟨p1, p2, p3⟩ := made_poss k hk
    have p1 := possM_iff.1 p1
    have b1 := t2 _ (lat_mem (xs := truthM (1 + pickM c.n 6) c.tr) (i := k.t) ⟨p1.2.2.1, by omega⟩)
    have b2 := t2 _ (lat_mem (xs := truthM (1 + pickM c.n 6) c.tr) (i := k.f) ⟨p1.1, by omega⟩)
    split
    · exact ⟨⟨p1.1, p1.2.1⟩, ⟨p1.2.2.1, p1.2.2.2.1⟩, p1.2.2.2.2.1, by dsimp only; omega, a, rfl, ha⟩
    · exact ⟨⟨p1.1, p1.2.1⟩, ⟨p1.2.2.1, p1.2.2.2.1⟩, p1.2.2.2.2.1, by dsimp only; omega, a, rfl, ha⟩
  · obtain ⟨y, k, a, hk, ha, rfl⟩ := key d hd
    split
    · show lat _ k.t - lat _ k.f ≤ lat _ k.t - lat _ k.f + max k.m 0
      omega
    · rename_i h
      exfalso
      rw [if_neg h] at hin
      unfold inSet at hin
      rw [decide_eq_true_eq] at hin
      exact h ((anN_sub (by omega) (by omega)).1 hin)
end Go.Lat
namespace Go.Lat
open Go.RowKit
theorem FleetOk.lens {f : Flt} (h : FleetOk f) : f.dr.length ≤ 1073741824 ∧ f.sv.length ≤ 1073741824 ∧ f.tm.length ≤ 1073741824 := by
  have := h.five
  rw [h.sv, h.tm]
  exact ⟨by omega, by simp, by simp⟩
section
variable {f : Flt} {n : Int} {l : List Con} {tr : List Int} {ho : Nat}
theorem mem_ch (hb : bvalidM f n l = true) {c : Cho} (hc : c ∈ choicesM f n l) : c.s ∈ (chM f n l).1 := by
  have hne : ¬ choicesM f n l = [] := fun e => by rw [e] at hc; cases hc
  rw [ch_ok hb hne]
  exact List.mem_map.2 ⟨c, hc, rfl⟩
theorem ch_mem (hb : bvalidM f n l = true) {s : Int} (hs : s ∈ (chM f n l).1) : ∃ c ∈ choicesM f n l, c.s = s := by
  by_cases hne : choicesM f n l = []
  · unfold chM at hs
    rw [if_pos hb, if_pos hne] at hs
    cases hs
  · rw [ch_ok hb hne] at hs
    exact List.mem_map.1 hs
theorem Bel.honest (h : Bel f n l tr ho) : ∃ z : Nat, liM f n l = ((z : Int), 0) ∧ bitI .and .i64 (z : Int) (ho : Int) = 0 := by
  have h32 := pow_le32 h.five
  have hhl := h.hl
  obtain ⟨z, e, hz, hb⟩ := li_ok h.bv h.ne
  refine ⟨z, e, (and_zero (by omega) (by omega)).2 fun a ha hab => ?_⟩
  obtain ⟨s, h1, _, h3, hc⟩ := h.honest_choice ha hab.2
  exact ((hb a ha).1 hab.1).2 s (mem_ch h.bv hc) h3
theorem le_of_part {f g : Flt} {k l : List Con} {c d : Cho} {s t : Nat} {m q : Vector Int 576} (hc : ChOk f n k c s m) (hd : ChOk g n l d t q) (hs : ∀ x, SolL (partM k s) x → SolL (partM l t) x) {i j : Nat} (hi : (i : Int) < n) (hj : (j : Int) < n) : mm m i j ≤ mm q i j := by
  have hn := hc.n
  exact hc.cm.cl.le_of_sol hd.cm.cl (by have := hB0; omega) (fun x hx => (hd.cm.sol x).2 (hs x ((hc.cm.sol x).1 hx))) (by omega) (by omega)
theorem rg_sub {f g : Flt} {k l : List Con} {a b : Nat} {lo hi lo' hi' : Int} (h : RgOk f n k a b lo hi) (h' : RgOk g n l a b lo' hi') (ha : (a : Int) < n) (hb : (b : Int) < n)
    (hx : ∀ c ∈ choicesM f n k, ∃ d ∈ choicesM g n l, ∃ s m t q, ChOk f n k c s m ∧ ChOk g n l d t q ∧ ∀ x, SolL (partM k s) x → SolL (partM l t) x) : lo' ≤ lo ∧ hi ≤ hi' := by
  constructor
  · obtain ⟨c, hc, e⟩ := h.loA
    obtain ⟨d, hd, s, m, t, q, hck, hdk, hs⟩ := hx c hc
    have := h'.loL d hd
    have h2 := le_of_part hck hdk hs hb ha
    rw [hdk.bm hb ha] at this
    rw [hck.bm hb ha] at e
    omega
  · obtain ⟨c, hc, e⟩ := h.hiA
    obtain ⟨d, hd, s, m, t, q, hck, hdk, hs⟩ := hx c hc
    have := h'.hiL d hd
    have h2 := le_of_part hck hdk hs ha hb
    rw [hdk.bm ha hb] at this
    rw [hck.bm ha hb] at e
    omega
theorem Bel.take (h : Bel f n l tr ho) (k : Nat) : Bel f n (l.take k) tr ho :=
  { h with
    len := by rw [List.length_take]; have := h.len; omega
    con := fun c hc => h.con c (List.mem_of_mem_take hc)
    hs := fun c hc => h.hs c (List.mem_of_mem_take hc) }
theorem Bel.wider (h : Bel f n l tr ho) (hl : f.li + 1 ≤ 2) (hlt : f.li + 1 < (f.dr.length : Int)) : Bel ⟨f.dr, f.la, f.li + 1, f.sv, f.tm⟩ n l tr ho := by
  have h2 := h.fo.li
  have hcv := h.cv
  unfold cvalidM at hcv
  simp only [Bool.and_eq_true, decide_eq_true_eq] at hcv
  obtain ⟨⟨⟨⟨⟨k1, k2⟩, k3⟩, k4⟩, k5⟩, k6⟩ := hcv
  refine { h with fo := ⟨h.fo.len, ⟨by show 0 ≤ f.li + 1; omega, hl⟩, hlt⟩, cv := ?_, hp := ?_ }
  · unfold cvalidM
    simp only [Bool.and_eq_true, decide_eq_true_eq]
    exact ⟨⟨⟨⟨⟨k1, k2⟩, by omega, hl⟩, hlt⟩, k5⟩, k6⟩
  · have := h.hp
    show (f.dr.length : Int) - (f.li + 1) ≤ _
    omega
theorem Bel.wider_choice (h : Bel f n l tr ho) (h' : Bel ⟨f.dr, f.la, f.li + 1, f.sv, f.tm⟩ n l tr ho) {c : Cho} (hc : c ∈ choicesM f n l) {a : Nat} (ha : a < 6) : ∃ s m, ChOk f n l c s m ∧ (bt s a = true → ∃ d ∈ choicesM ⟨f.dr, f.la, f.li + 1, f.sv, f.tm⟩ n l, ∃ t q, ChOk ⟨f.dr, f.la, f.li + 1, f.sv, f.tm⟩ n l d t q ∧ bt t a = true ∧ ∀ x, SolL (partM l s) x → SolL (partM l t) x) := by
  obtain ⟨s, m, ck, h32, hp, hcl⟩ := h.ch hc
  refine ⟨s, m, ck, fun hb => ?_⟩
  have e1 := kk_eq h.fo
  have e2 := kk_eq h'.fo
  have e3 : ((kk ⟨f.dr, f.la, f.li + 1, f.sv, f.tm⟩ : Nat) : Int) = (f.dr.length : Int) - (f.li + 1) := e2.1
  obtain ⟨t, t1, t2, t3, hd⟩ := h'.sub_choice (y := s) ck.lt (by omega) ha hb hcl
  obtain ⟨t', q, dk, t32, _⟩ := h'.ch hd
  have et : t' = t := by have := dk.s; simp only at this; omega
  subst et
  exact ⟨_, hd, t', q, dk, t3, fun x hx => h.sol_sub (by omega) (by omega) t2 hx⟩
theorem Bel.has_bit (h : Bel f n l tr ho) {c : Cho} {s : Nat} {m : Vector Int 576} (hc : c ∈ choicesM f n l) (ck : ChOk f n l c s m) : ∃ a, a < 6 ∧ bt s a = true := by
  obtain ⟨s', m', ck', h32, hp, _⟩ := h.ch hc
  have es : s' = s := by have := ck.s; have := ck'.s; omega
  subst es
  exact pc_pos (by omega) (by rw [hp]; exact (kk_eq h.fo).2.1)
theorem Bel.wider_sub (h : Bel f n l tr ho) (h' : Bel ⟨f.dr, f.la, f.li + 1, f.sv, f.tm⟩ n l tr ho) : ∀ c ∈ choicesM f n l, ∃ d ∈ choicesM ⟨f.dr, f.la, f.li + 1, f.sv, f.tm⟩ n l, ∃ s m t q, ChOk f n l c s m ∧ ChOk ⟨f.dr, f.la, f.li + 1, f.sv, f.tm⟩ n l d t q ∧ ∀ x, SolL (partM l s) x → SolL (partM l t) x := by
  intro c hc
  obtain ⟨s, m, ck, h32, hp, hcl⟩ := h.ch hc
  obtain ⟨a, ha, hb⟩ := h.has_bit hc ck
  obtain ⟨s', m', ck', hx⟩ := h.wider_choice h' hc ha
  have es : s' = s := by have := ck.s; have := ck'.s; omega
  subst es
  obtain ⟨d, hd, t, q, dk, _, hs⟩ := hx hb
  exact ⟨d, hd, s', m', t, q, ck', dk, hs⟩
theorem Bel.wider_li (h : Bel f n l tr ho) (h' : Bel ⟨f.dr, f.la, f.li + 1, f.sv, f.tm⟩ n l tr ho) : ∃ z y : Nat, liM f n l = ((z : Int), 0) ∧ liM ⟨f.dr, f.la, f.li + 1, f.sv, f.tm⟩ n l = ((y : Int), 0) ∧ bitI .and .i64 (z : Int) (y : Int) = y := by
  have h32 := pow_le32 h.five
  obtain ⟨z, e, hz, hb⟩ := li_ok h.bv h.ne
  obtain ⟨y, e', hy, hb'⟩ := li_ok h'.bv h'.ne
  have hy' : y < 2 ^ f.dr.length := hy
  refine ⟨z, y, e, e', (and_sub2 (by omega) (by omega)).2 (sub_iff.2 fun a ha hya => ?_)⟩
  obtain ⟨q1, q2⟩ := (hb' a ha).1 hya
  refine (hb a ha).2 ⟨q1, fun s hs hsa => ?_⟩
  obtain ⟨c, hc, ec⟩ := ch_mem h.bv hs
  obtain ⟨s', m, ck, hx⟩ := h.wider_choice h' hc ha
  have es : s' = s := by have := ck.s; omega
  subst es
  obtain ⟨d, hd, t, q, dk, hta, _⟩ := hx hsa
  have := mem_ch h'.bv hd
  rw [dk.s] at this
  exact q2 t this hta
end
theorem rgs_ok {f : Flt} {n : Int} {l : List Con} {tr : List Int} {ho : Nat} (h : Bel f n l tr ho) (hl : f.dr.length ≤ 1073741824 ∧ f.sv.length ≤ 1073741824 ∧ f.tm.length ≤ 1073741824) : RgsOk f n l :=
  ⟨hl, by have := h.len; omega, by have := h.no; omega, fun i j hi hj => by
    obtain ⟨lo, hi', hr⟩ := rg_ok h.bv h.ne hi hj
    rw [hr.eq]⟩
theorem flat_len {α : Type} {g : Nat → Nat → α} {n : Nat} : ∀ k : Nat, ((List.range k).flatMap fun i => (List.range n).map (g i)).length = k * n
  | 0 => by simp
  | k + 1 => by rw [List.range_succ, List.flatMap_append, List.length_append, flat_len k, Nat.succ_mul]; simp
theorem flat_get {α : Type} {g : Nat → Nat → α} {n : Nat} : ∀ k : Nat, ∀ q, q < k * n → ∃ i j, i < k ∧ j < n ∧ ((List.range k).flatMap fun i => (List.range n).map (g i))[q]? = some (g i j) ∧ q = i * n + j
  | 0, q, h => by omega
  | k + 1, q, h => by
    rw [Nat.succ_mul] at h
    rw [List.range_succ, List.flatMap_append]
    have hl := flat_len (g := g) (n := n) k
    rcases Nat.lt_or_ge q (k * n) with h1 | h1
    · obtain ⟨i, j, hi, hj, e, eq⟩ := flat_get (g := g) (n := n) k q h1
      exact ⟨i, j, by omega, hj, by rw [List.getElem?_append_left (by omega)]; exact e, eq⟩
    · refine ⟨k, q - k * n, by omega, by omega, ?_, by omega⟩
      rw [List.getElem?_append_right (by omega), hl]
      simp [List.getElem?_range (show q - k * n < n by omega)]
theorem ranges_len {f : Flt} {n : Int} {l : List Con} : (rangesM f n l).1.length = n.toNat * n.toNat := by
  unfold rangesM; exact flat_len _
theorem ranges_at {f g : Flt} {n : Int} {k l : List Con} {q : Nat} (hq : q < n.toNat * n.toNat) : ∃ i j : Nat, (i : Int) < n ∧ (j : Int) < n ∧ lat (rangesM f n k).1 (q : Int) = ⟨(brangeM f n k i j).1, (brangeM f n k i j).2.1⟩ ∧ lat (rangesM g n l).1 (q : Int) = ⟨(brangeM g n l i j).1, (brangeM g n l i j).2.1⟩ := by
  obtain ⟨i, j, hi, hj, e, eq⟩ := flat_get (g := fun (i j : Nat) => (⟨(brangeM f n k i j).1, (brangeM f n k i j).2.1⟩ : A2)) (n := n.toNat) n.toNat q hq
  obtain ⟨i', j', hi', hj', e', eq'⟩ := flat_get (g := fun (i j : Nat) => (⟨(brangeM g n l i j).1, (brangeM g n l i j).2.1⟩ : A2)) (n := n.toNat) n.toNat q hq
  have hn0 : 0 < n.toNat := by omega
  have ei : i = i' := by
    have h1 : q / n.toNat = i := by rw [eq, Nat.mul_comm, Nat.mul_add_div hn0, Nat.div_eq_of_lt hj, Nat.add_zero]
    have h2 : q / n.toNat = i' := by rw [eq', Nat.mul_comm, Nat.mul_add_div hn0, Nat.div_eq_of_lt hj', Nat.add_zero]
    omega
  subst ei
  have ej : j = j' := by omega
  subst ej
  refine ⟨i, j, by omega, by omega, ?_, ?_⟩
  · rw [lat_nat, List.getD_eq_getElem?_getD]; unfold rangesM; rw [e]; rfl
  · rw [lat_nat, List.getD_eq_getElem?_getD]; unfold rangesM; rw [e']; rfl
end Go.Lat
namespace Go.Lat
open Go.RowKit

def stepM (P : Program) (T : TT) (ops : Array Oper) (p i : Nat) (st : St) (K : St → Prop) : Prop :=
  if i = p then match ops[i]? with
    | none => K st
    | some o => stepH P T ops.toList o st K
  else stepI P T ops i st K
def seqM (P : Program) (T : TT) (ops : Array Oper) (p : Nat) : List Nat → St → (St → Prop) → Prop
  | [], st, K => K st
  | i :: l, st, K => stepM P T ops p i st fun s => seqM P T ops p l s K
def anyM (P : Program) (T : TT) (ops : Array Oper) (p : Nat) (K : St → Prop) : Nat → Array Bool → St → Prop
  | 0, listed, st => Region.ready .any ops listed = [] ∧ K st
  | n + 1, listed, st => Wf st → (Region.ready .any ops listed = [] → K st) ∧ ∀ i ∈ Region.ready .any ops listed, stepM P T ops p i st fun s => anyM P T ops p K n (listed.setIfInBounds i true) s

section
variable {X : Nat → Prop} {D : List Deferred × Rho} {w0 : World} {mA : Mem} {r : Rho} {m : MM} {st : St} {a : Act} {w : World} {P : Program} {T : TT} {ops : Array Oper} {K K' : St → Prop} {p : Nat}

theorem stepH_sound (hT : TsOk P T) (hR : R X D w0 mA r m st a w) {o : Oper} (h : stepH P T ops.toList o st K) {ro : Option Nat} {n : Nat} {next : Act → World → Prop} {Q : Exit → Act → World → Prop}
    (hnext : ∀ s r' m' a' w', K s → R X D w0 mA r' m' s a' w' → next a' w') :
    if Region.wanted o (yielded ops a.tmps) then o.wpIn (FW ro) n P a w next Q else (∀ f, o.about P w a.eval = some f → (FW ro).fn f) ∧ next (a.put o.dst undef) w := by
  unfold stepH at h
  split at h
  · rename_i d f args tys ty pos af
    rw [if_pos (by rfl)]
    rcases h with h | h
    · exact opC_sound (o := ⟨d, .call ⟨.value f, args, tys⟩, ty, pos, af, none⟩) hT hR (K := fun v h => K (St.put ⟨st.nt, st.tm, h, st.ho⟩ d v)) h fun x h' r' m' u w' hK hR' hv => hnext _ _ _ _ w' hK (hR'.put d hv)
    · exact callH_sound (o := ⟨d, .call ⟨.value f, args, tys⟩, ty, pos, af, none⟩) hR rfl (K := fun v h => K (St.put ⟨st.nt, st.tm, h, st.ho⟩ d v)) h fun x h' r' m' u w' hK hR' hv => hnext _ _ _ _ w' hK (hR'.put d hv)
  · exact stepG_sound hT hR h hnext

theorem callH_mono {h : List AObj} {f : AV} {args : List AV} {A B : AV → List AObj → Prop} (hc : callH P h f args A) (hab : ∀ v h', A v h' → B v h') : callH P h f args B := by
  unfold callH at hc ⊢
  split at hc <;> try exact hc.elim
  rcases hc with ⟨Post, hfn, hpost⟩ | ⟨id, ob, x0, y0, ys, Post, hae, hob, hfl, hx0, hfn, hpost⟩ | ⟨nb, Post, hfn, hpost⟩
  · exact .inl ⟨Post, hfn, fun o ho => hab _ _ (hpost o ho)⟩
  · exact .inr (.inl ⟨id, ob, x0, y0, ys, Post, hae, hob, hfl, hx0, hfn, fun x o ho => hab _ _ (hpost x o ho)⟩)
  · exact .inr (.inr ⟨nb, Post, hfn, fun n o ho => hab _ _ (hpost n o ho)⟩)
theorem stepH_mono {o : Oper} (h : stepH P T ops.toList o st K) (hk : ∀ s, K s → K' s) : stepH P T ops.toList o st K' := by
  unfold stepH at h ⊢
  split at h
  · rename_i d f args tys ty pos af
    rcases h with h | h
    · exact .inl (stepG_mono' (T := T) (ops := ops) (o := ⟨d, .call ⟨.value f, args, tys⟩, ty, pos, af, none⟩) h hk)
    · exact .inr (callH_mono h fun v h' hv => hk _ hv)
  · exact stepG_mono' h hk
theorem stepM_mono {i : Nat} (h : stepM P T ops p i st K) (hk : ∀ s, K s → K' s) : stepM P T ops p i st K' := by
  unfold stepM at h ⊢
  split
  · rename_i e
    rw [if_pos e] at h
    split at h
    · exact hk _ h
    · exact stepH_mono h hk
  · rename_i e
    rw [if_neg e] at h
    unfold stepI at h ⊢
    split at h
    · exact hk _ h
    · exact stepG_mono' h hk

theorem anyM_sound (hT : TsOk P T) {ro : Option Nat} {n : Nat} {Q : Exit → Act → World → Prop} (hQ : ∀ s r' m' a' w', K s → R X D w0 mA r' m' s a' w' → Q .normal a' w') :
    ∀ (fuel : Nat) (listed : Array Bool) {r : Rho} {m : MM} {st : St} {a : Act} {w : World}, R X D w0 mA r m st a w → anyM P T ops p K fuel listed st → wpAnyIn (FW ro) n P .any ops Q fuel listed a w
  | 0, listed, _, _, _, _, _, hR, h => ⟨h.1, hQ _ _ _ _ _ h.2 hR⟩
  | fuel + 1, listed, _, _, _, _, _, hR, h => by
    obtain ⟨h1, h2⟩ := h hR.wf
    refine ⟨fun hn => hQ _ _ _ _ _ (h1 hn) hR, fun i hi => ?_⟩
    have h3 := h2 i hi
    unfold stepM stepI at h3
    unfold wpOpIn
    split
    · rename_i ho
      rw [ho] at h3
      simp only [ite_self] at h3
      exact anyM_sound hT hQ fuel _ hR h3
    · rename_i o ho
      rw [ho] at h3
      simp only at h3
      split at h3
      · exact stepH_sound hT hR h3 fun s r' m' a' w' hs hR' => anyM_sound hT hQ fuel _ hR' hs
      · exact stepG_sound hT hR h3 fun s r' m' a' w' hs hR' => anyM_sound hT hQ fuel _ hR' hs

theorem bubbleM {oi : Oper} {i : Nat} (ho : ops[i]? = some oi) (hip : i ≠ p) {st0 : St} (hw : Wf st0) {rest : List Nat} : ∀ (pre : List Nat) (st : St), Inv ops oi st0 st → p ∉ pre →
    (∀ j ∈ pre, okP ops j i = true) → seqM P T ops p (pre ++ i :: rest) st K → stepG P T ops.toList oi st fun s => seqM P T ops p (pre ++ rest) s K
  | [], st, _, _, _, h => by
    simp only [List.nil_append, seqM, stepM, if_neg hip, stepI, ho] at h ⊢
    exact h
  | j :: pre, st, hI, hnp, hp, h => by
    have hj := hp j (by simp)
    have hjp : j ≠ p := fun e => hnp (by simp [e])
    unfold okP at hj
    rw [ho] at hj
    split at hj
    · rename_i oj oi' hoj he
      cases he
      simp only [Bool.and_eq_true] at hj
      simp only [List.cons_append, seqM, stepM, if_neg hjp, stepI, hoj] at h ⊢
      exact swap hw hj.1 hj.2 hI (stepG_mono' h fun s hs hinv => bubbleM ho hip hw pre s hinv (fun hh => hnp (by simp [hh])) (fun k hk => hp k (by simp [hk])) hs)
    · cases hj

def oneB (A : List (List Nat)) (p : Nat) : List Nat → Bool
  | [] => true
  | i :: l => if i = p then l.all fun k => (A.getD k []).contains p else (A.getD p []).contains i && oneB A p l

theorem oneB_spec {A : List (List Nat)} {p : Nat} : ∀ {l : List Nat}, l.Nodup → oneB A p l = true → l.Pairwise fun a b => (b = p → a ∈ A.getD p []) ∧ (a = p → p ∈ A.getD b [])
  | [], _, _ => List.Pairwise.nil
  | i :: l, hn, h => by
    have hn' := List.nodup_cons.1 hn
    unfold oneB at h
    split at h
    · rename_i e
      subst e
      simp only [List.all_eq_true, List.contains_iff_mem] at h
      refine List.Pairwise.cons (fun b hb => ⟨fun e => ?_, fun _ => h b hb⟩) ?_
      · subst e; exact absurd hb hn'.1
      · refine List.Pairwise.imp_of_mem ?_ hn'.2
        intro a b ha hb _
        exact ⟨fun e => absurd (e ▸ hb) hn'.1, fun e => absurd (e ▸ ha) hn'.1⟩
    · rename_i e
      simp only [Bool.and_eq_true, List.contains_iff_mem] at h
      exact List.Pairwise.cons (fun b hb => ⟨fun _ => h.1, fun e' => absurd e' e⟩) (oneB_spec hn'.2 h.2)

theorem any_of_seqM {A : List (List Nat)} (hA : chkA ops A = true) : ∀ (fuel : Nat) (listed : Array Bool) (l : List Nat) (st : St), Rest ops A listed l → l.Pairwise (fun a b => (b = p → a ∈ A.getD p []) ∧ (a = p → p ∈ A.getD b [])) → l.length = fuel → seqM P T ops p l st K → anyM P T ops p K fuel listed st := by
  intro fuel
  induction fuel with
  | zero =>
    intro listed l st hr hp hl h
    have : l = [] := List.eq_nil_of_length_eq_zero hl
    subst this
    refine ⟨?_, h⟩
    rcases hrd : Region.ready .any ops listed with _ | ⟨i, l'⟩
    · rfl
    · have := hr.ready_mem (i := i) (by rw [hrd]; simp)
      simp at this
  | succ fuel ih =>
    intro listed l st hr hp hl h hw
    refine ⟨fun hnil => ?_, fun i hi => ?_⟩
    · exfalso
      cases l with
      | nil => simp at hl
      | cons i l =>
        have h1 := hr.open' i (by simp)
        have hlt : i < ops.size := by
          rw [← hr.size]
          rcases Nat.lt_or_ge i listed.size with h' | h'
          · exact h'
          · simp [Array.getElem?_eq_none h'] at h1
        have : i ∈ Region.ready .any ops listed := by
          refine mem_ready.2 ⟨h1, ops[i], by simp [hlt], fun e he hb => ?_⟩
          have hd : e.on ∈ dirs ops i := by
            simp only [dirs, Array.getElem?_eq_getElem hlt, List.mem_map, List.mem_filter]
            exact ⟨e, ⟨by simpa using he, hb⟩, rfl⟩
          by_cases hsz : e.on < ops.size
          · rcases hr.all e.on hsz with h2 | h2
            · exact h2
            · exfalso
              rcases List.mem_cons.1 h2 with h3 | h3
              · exact (hr.self i hlt _ hd).2 h3
              · have h4 := (List.pairwise_cons.1 hr.pair).1 _ h3
                simp only [relB, Bool.and_eq_true, Bool.not_eq_true'] at h4
                have h5 := h4.1
                simp at h5
                exact h5 hd
          · exact absurd (hr.self i hlt _ hd).1 hsz
        rw [hnil] at this
        cases this
    · have hmem := hr.ready_mem hi
      obtain ⟨pre, rest, rfl⟩ := List.append_of_mem hmem
      obtain ⟨_, oi, ho, _⟩ := mem_ready.1 hi
      have hlt : i < ops.size := by
        rcases Nat.lt_or_ge i ops.size with h' | h'
        · exact h'
        · rw [Array.getElem?_eq_none h'] at ho; cases ho
      have hanc : ∀ j ∈ pre, j ∉ A.getD i [] := fun j hj hin => by
        have := hr.anc hA i (dirs_ready hi) j hin hlt
        rw [getD_tf (hr.open' j (by simp [hj]))] at this
        cases this
      have hpp := hp
      rw [List.pairwise_append] at hp
      have hp' : (pre ++ rest).Pairwise (fun a b => (b = p → a ∈ A.getD p []) ∧ (a = p → p ∈ A.getD b [])) := hpp.sublist (List.Sublist.append_left (List.sublist_cons_self i rest) pre)
      by_cases hip : i = p
      · have hpre : pre = [] := by
          cases pre with
          | nil => rfl
          | cons j pre =>
            have h1 := (hp.2.2 j (by simp) i (by simp)).1 hip
            rw [← hip] at h1
            exact absurd h1 (hanc j (by simp))
        subst hpre
        simp only [List.nil_append, seqM] at h
        exact stepM_mono h fun s hs => ih _ _ s (hr.next (pre := []) hi) hp' (by simp at hl ⊢; omega) hs
      · have hnp : p ∉ pre := fun hin => hanc p hin ((hp.2.2 p hin i (by simp)).2 rfl)
        have hok : ∀ j ∈ pre, okP ops j i = true := by
          intro j hj
          have hq := hr.pair
          rw [List.pairwise_append] at hq
          have h4 := hq.2.2 j hj i (by simp)
          simp only [relB, Bool.and_eq_true, Bool.or_eq_true, List.contains_iff_mem] at h4
          rcases h4.2 with h5 | h5
          · exact absurd h5 (hanc j hj)
          · exact h5
        have hb := bubbleM (K := K) ho hip hw pre st ⟨⟨rfl, fun _ _ => rfl⟩, Nat.le_refl _, fun _ => ⟨[], by simp⟩⟩ hnp hok h
        simp only [stepM, if_neg hip, stepI, ho]
        exact stepG_mono' hb fun s hs => ih _ _ s (hr.next hi) hp' (by simp at hl ⊢; omega) hs

theorem W.drawM {Q : Ex → St → Prop} {id : Nat} (p : Nat) (ord : List Nat) (hc : chk ops ord = true) (h1 : oneB (ancs ops) p ord = true) (h : seqM P T ops p ord st (Q .nrm)) : W P T (.region id ops true) st Q := fun hT hf ro hro n X D w0 mA r m a w hR => by
  obtain ⟨h2, h3, h4⟩ := chk_rest hc
  refine wpIn_region_any hf ?_
  have hR' : R X D w0 mA r m st a { w with drawn := w.drawn + 1 } := { hR with }
  exact anyM_sound hT (fun s r' m' a' w' hs hR' => ⟨[], r', m', s, fun _ => rfl, hs, hR'⟩) ops.size _ hR' (any_of_seqM h2 ops.size _ ord st h3 (oneB_spec h3.nodup h1) h4 h)

variable {ol : List Oper} {n j : Nat} {l : List (Nat × AV)} {h : List AObj} {b : Nat} {o : Op} {ty : TypeId} {pos : String} {af : Array Edge} {KS : St → Prop} {rest : List Nat} {i : Nat}
theorem cM {d : Nat} (hi : ol[i]? = some ⟨some d, o, ty, pos, af, none⟩) (hp : Nat.beq i p = false) (hd : Nat.ble (d + 1) n = true)
    (h1 : opC P T ⟨some d, o, ty, pos, af, none⟩ ⟨n, look l, h, b⟩ fun v h' => seqM P T ol.toArray p rest ⟨n, look ((d, v) :: l), h', b⟩ KS) : seqM P T ol.toArray p (i :: rest) ⟨n, look l, h, b⟩ KS := by
  have hd' : d < n := Nat.le_of_ble_eq_true hd
  have hp' : i ≠ p := Nat.ne_of_beq_eq_false hp
  have hi' : ol.toArray[i]? = some ⟨some d, o, ty, pos, af, none⟩ := by simpa using hi
  unfold seqM stepM stepI
  rw [if_neg hp', hi']
  show opC P T ⟨some d, o, ty, pos, af, none⟩ ⟨n, look l, h, b⟩ fun v h' => seqM P T ol.toArray p rest (St.put ⟨n, look l, h', b⟩ (some d) v) KS
  have e : (fun v h' => seqM P T ol.toArray p rest (St.put ⟨n, look l, h', b⟩ (some d) v) KS) = fun v h' => seqM P T ol.toArray p rest ⟨n, look ((d, v) :: l), h', b⟩ KS := by
    funext v h'
    rw [St.put_look d v hd']
  rw [e]
  exact h1
theorem cMc {d : Nat} {f : Operand} {args : Array Operand} {tys : Array TypeId} (hi : ol[p]? = some ⟨some d, .call ⟨.value f, args, tys⟩, ty, pos, af, none⟩) (hd : Nat.ble (d + 1) n = true)
    (h1 : callH P h (St.eval ⟨n, look l, h, b⟩ f) (args.toList.map (St.eval ⟨n, look l, h, b⟩)) fun v h' => seqM P T ol.toArray p rest ⟨n, look ((d, v) :: l), h', b⟩ KS) : seqM P T ol.toArray p (p :: rest) ⟨n, look l, h, b⟩ KS := by
  have hd' : d < n := Nat.le_of_ble_eq_true hd
  have hi' : ol.toArray[p]? = some ⟨some d, .call ⟨.value f, args, tys⟩, ty, pos, af, none⟩ := by simpa using hi
  unfold seqM stepM
  rw [if_pos rfl, hi']
  refine Or.inr ?_
  have e : (fun v h' => seqM P T ol.toArray p rest (St.put ⟨n, look l, h', b⟩ (some d) v) KS) = fun v h' => seqM P T ol.toArray p rest ⟨n, look ((d, v) :: l), h', b⟩ KS := by
    funext v h'
    rw [St.put_look d v hd']
  show callH P h (St.eval ⟨n, look l, h, b⟩ f) (args.toList.map (St.eval ⟨n, look l, h, b⟩)) fun v h' => seqM P T ol.toArray p rest (St.put ⟨n, look l, h', b⟩ (some d) v) KS
  rw [e]
  exact h1
theorem eM {st : St} (h1 : KS st) : seqM P T ol.toArray p [] st KS := h1
theorem W.rM1 {Q : Ex → St → Prop} {id : Nat} {st : St} (p : Nat) (ord : List Nat) (hc : chk ol.toArray ord = true) (h0 : oneB (ancs ol.toArray) p ord = true) (h1 : seqM P T ol.toArray p ord st (Q .nrm)) : W P T (.region id ol.toArray true) st Q := W.drawM p ord hc h0 h1
theorem W.rM {Q : Ex → St → Prop} {c : Code} {id : Nat} {st : St} (p : Nat) (ord : List Nat) (hc : chk ol.toArray ord = true) (h0 : oneB (ancs ol.toArray) p ord = true) (h1 : seqM P T ol.toArray p ord st fun s => W P T c s Q) : W P T (.seq (.region id ol.toArray true) c) st Q :=
  W.seq _ (W.rM1 p ord hc h0 h1) fun _ h => h
end
end Go.Lat
namespace Go.Lat
open Go.RowKit
section
variable {P : Program} {T : TT} {ops rest : List Oper} {ty : TypeId} {pos : String} {af : Array Edge} {j n d : Nat} {l : List (Nat × AV)} {h : List AObj} {b : Nat} {KS : St → Prop} {x : Operand}
theorem mI {k : IntKind} {z : Int} (hd : Nat.ble (d + 1) n = true) (e : St.eval ⟨n, look l, h, b⟩ x = .int k z) (h1 : seqL P T ops [] (j + 1) rest ⟨n, look ((d, .int k z) :: l), h, b⟩ KS) : seqL P T ops [] j (⟨some d, .move x, ty, pos, af, none⟩ :: rest) ⟨n, look l, h, b⟩ KS := cL hd (o_move e h1)
theorem mB {z : Bool} (hd : Nat.ble (d + 1) n = true) (e : St.eval ⟨n, look l, h, b⟩ x = .bool z) (h1 : seqL P T ops [] (j + 1) rest ⟨n, look ((d, .bool z) :: l), h, b⟩ KS) : seqL P T ops [] j (⟨some d, .move x, ty, pos, af, none⟩ :: rest) ⟨n, look l, h, b⟩ KS := cL hd (o_move e h1)
theorem mL {f : Bool} {k : Nat} {z : List AV} (hd : Nat.ble (d + 1) n = true) (e : St.eval ⟨n, look l, h, b⟩ x = .lst f k z) (h1 : seqL P T ops [] (j + 1) rest ⟨n, look ((d, .lst f k z) :: l), h, b⟩ KS) : seqL P T ops [] j (⟨some d, .move x, ty, pos, af, none⟩ :: rest) ⟨n, look l, h, b⟩ KS := cL hd (o_move e h1)
theorem aI {k : IntKind} {z : Int} (hd : Nat.ble (d + 1) n = true) (e : St.eval ⟨n, look l, h, b⟩ x = .int k z) (h1 : seqL P T ops [] (j + 1) rest ⟨n, look ((d, .int k z) :: l), h, b⟩ KS) : seqL P T ops [] j (⟨some d, .assign x, ty, pos, af, none⟩ :: rest) ⟨n, look l, h, b⟩ KS := cL hd (o_assign e h1)
theorem aB {z : Bool} (hd : Nat.ble (d + 1) n = true) (e : St.eval ⟨n, look l, h, b⟩ x = .bool z) (h1 : seqL P T ops [] (j + 1) rest ⟨n, look ((d, .bool z) :: l), h, b⟩ KS) : seqL P T ops [] j (⟨some d, .assign x, ty, pos, af, none⟩ :: rest) ⟨n, look l, h, b⟩ KS := cL hd (o_assign e h1)
theorem aL {f : Bool} {k : Nat} {z : List AV} (hd : Nat.ble (d + 1) n = true) (e : St.eval ⟨n, look l, h, b⟩ x = .lst f k z) (h1 : seqL P T ops [] (j + 1) rest ⟨n, look ((d, .lst f k z) :: l), h, b⟩ KS) : seqL P T ops [] j (⟨some d, .assign x, ty, pos, af, none⟩ :: rest) ⟨n, look l, h, b⟩ KS := cL hd (o_assign e h1)
end
end Go.Lat
namespace Go.Lat
open Go.RowKit

section
variable {X : Nat → Prop} {D : List Deferred × Rho} {w0 : World} {mA : Mem} {r : Rho} {m : MM} {st : St} {a : Act} {w w' : World} {b : Nat} {rec : Loop}
theorem cell_ne {p : Addr} {v : Value} (hb : w.heap[b]? = some (.loop rec)) (hv : w.cell? p = some v) : p.block ≠ b := fun e => by
  unfold World.cell? at hv
  rw [e, hb] at hv
  simp at hv
theorem R.put_gen (h : R X D w0 mA r m st a w) (hb : w.heap[b]? = some (.loop rec)) (o : Obj) {w0' : World} (e1 : w0'.os = w0.os) (e2 : w0'.tape = w0.tape) (e3 : w0'.output = w0.output) (e4 : w0'.heap.size = w0.heap.size)
    (hold : ∀ k, k < w0'.heap.size → ¬ X k → (w.putObj b o).heap[k]? = w0'.heap[k]?) : R X D w0' mA r m st a (w.putObj b o) := by
  have ne : ∀ k, k ≠ b → (w.putObj b o).heap[k]? = w.heap[k]? := fun k hk => World.putObj_heap_other hk
  refine { os := h.os.trans e1.symm, tape := h.tape.trans e2.symm, output := h.output.trans e3.symm, size := (by rw [World.putObj_size, e4]; exact h.size), old := hold, len := h.len, lt := fun i ob c d ho hl hr => (by rw [World.putObj_size]; exact h.lt i ob c d ho hl hr), mem := fun p v hv => ?_, low := h.low, newer := fun p v hv => (by rw [e4]; exact h.newer p v hv), lim := fun p v hv => (by rw [e4]; exact h.lim p v hv), apart := h.apart, obj := fun i ob ho => ?_, own := fun i ob c d ho hl hr => (by rw [e4]; exact h.own i ob c d ho hl hr), inj := h.inj, size' := h.size', tmps := h.tmps, defers := h.defers, base := h.base, short := h.short, nox := h.nox, marks := fun d hd => ?_, mnod := h.mnod }
  · obtain ⟨h1, h2⟩ := h.mem p v hv
    exact ⟨(World.cell?_of_block (ne _ (cell_ne hb h1))).trans h1, by rw [World.putObj_size]; exact h2⟩
  · refine (h.obj i ob ho).same fun k c hr hl => ne k ?_
    rintro rfl
    obtain ⟨t, cur, z, e5⟩ := (h.obj i ob ho).cells hl hr
    rw [hb] at e5; cases e5
  · obtain ⟨k, f1, f0, f2⟩ := h.marks d hd
    refine ⟨k, f1, by rw [e4]; exact f0, (ne k ?_).trans f2⟩
    rintro rfl
    rw [hb] at f2; cases f2
theorem R.putL (h : R X D w0 mA r m st a w) (hb : w.heap[b]? = some (.loop rec)) (hb0 : w0.heap.size ≤ b) (o : Obj) : R X D w0 mA r m st a (w.putObj b o) :=
  h.put_gen hb o rfl rfl rfl rfl fun k hk hX => (World.putObj_heap_other (by omega)).trans (h.old k hk hX)
theorem R.putB (h : R X D w0 mA r m st a w) (hb : w.heap[b]? = some (.loop rec)) (hb0 : b < w0.heap.size) (o : Obj) : R X D (w0.putObj b o) mA r m st a (w.putObj b o) :=
  h.put_gen hb o rfl rfl rfl World.putObj_size fun k hk hX => by
    rw [World.putObj_size] at hk
    by_cases e : k = b
    · subst e
      rw [World.putObj_heap_same (Array.getElem?_eq_some_iff.1 hb).1, World.putObj_heap_same hb0]
    · rw [World.putObj_heap_other e, World.putObj_heap_other e]; exact h.old k hk hX

mutual
def noF : AV → Bool
  | .lst fl _ _ => fl
  | .ipt fl _ => fl
  | .agg cs => noFs cs
  | .tup cs => noFs cs
  | .clo _ a b => noFs a && noFs b
  | _ => true
def noFs : List AV → Bool
  | [] => true
  | x :: l => noF x && noFs l
end
def tru (m : Mem) : MM := fun b => if b then m else fun _ => none
mutual
theorem VR.tru {r : Rho} {m : MM} {m' : Mem} (hm : ∀ p v, m true p = some v → m' p = some v) : ∀ (x : AV) (v : Value), noF x = true → VR r m x v → VR r (Lat.tru m') x v
  | .int _ _, _, _, h => by simpa only [VR] using h
  | .bool _, _, _, h => by simpa only [VR] using h
  | .agg cs, v, hn, h => by
    simp only [VR] at h ⊢
    obtain ⟨arr, h1, h0, h2⟩ := h
    exact ⟨arr, h1, h0, VRs.tru hm cs _ hn h2⟩
  | .tup cs, v, hn, h => by
    simp only [VR] at h ⊢
    obtain ⟨arr, h1, h2⟩ := h
    exact ⟨arr, h1, VRs.tru hm cs _ hn h2⟩
  | .nilS, _, _, h => by simpa only [VR] using h
  | .nilP, _, _, h => by simpa only [VR] using h
  | .nilF, _, _, h => by simpa only [VR] using h
  | .ref _ _ _, _, _, h => by simpa only [VR] using h
  | .sub _ _ _, _, _, h => by simpa only [VR] using h
  | .ptr _ _, _, _, h => by simpa only [VR] using h
  | .yl _, _, _, h => by simpa only [VR] using h
  | .gh _, _, _, _ => by simp only [VR]
  | .any, _, _, _ => by simp only [VR]
  | .clo f a b, v, hn, h => by
    simp only [VR] at h ⊢
    simp only [noF, Bool.and_eq_true] at hn
    obtain ⟨x, y, h1, h2, h3⟩ := h
    exact ⟨x, y, h1, VRs.tru hm a _ hn.1 h2, VRs.tru hm b _ hn.2 h3⟩
  | .lst fl n cs, v, hn, h => by
    simp only [noF] at hn
    subst hn
    simp only [VR] at h ⊢
    rcases h with h | ⟨p, cap, vs, h1, h2, h3, h4⟩
    · exact .inl h
    · exact .inr ⟨p, cap, vs, h1, h2, fun i u hu => ⟨hm _ _ (h3 i u hu).1, (h3 i u hu).2⟩, h4.mono (RLe.refl []) (fun b q u hu => by cases b with | true => exact hm _ _ hu | false => cases hu)⟩
  | .ipt fl cs, v, hn, h => by
    simp only [noF] at hn
    subst hn
    simp only [VR] at h ⊢
    obtain ⟨p, vs, h2, h3, h4⟩ := h
    exact ⟨p, vs, h2, fun i u hu => ⟨hm _ _ (h3 i u hu).1, (h3 i u hu).2⟩, h4.mono (RLe.refl []) (fun b q u hu => by cases b with | true => exact hm _ _ hu | false => cases hu)⟩
theorem VRs.tru {r : Rho} {m : MM} {m' : Mem} (hm : ∀ p v, m true p = some v → m' p = some v) : ∀ (xs : List AV) (vs : List Value), noFs xs = true → VRs r m xs vs → VRs r (Lat.tru m') xs vs
  | [], _, _, h => by simpa only [VRs] using h
  | x :: xs, vs, hn, h => by
    simp only [VRs] at h ⊢
    simp only [noFs, Bool.and_eq_true] at hn
    obtain ⟨v, vs', h1, h2, h3⟩ := h
    exact ⟨v, vs', h1, VR.tru hm x v hn.1 h2, VRs.tru hm xs vs' hn.2 h3⟩
end
def noFO : AObj → Bool
  | .row _ _ cs => noFs cs
  | .box _ cs => noFs cs
  | .dead => true
theorem OR.tru {i : Nat} {o : AObj} {m' : Mem} (hm : ∀ p v, m true p = some v → m' p = some v) (hn : noFO o = true) (h : OR r m w i o) : OR r (Lat.tru m') w i o := by
  cases o with
  | row t sz cs =>
    rcases h with h | ⟨b, c, cur, h1, h2, h0, h3, h4, h5, h6⟩
    · exact .inl h
    · exact .inr ⟨b, c, cur, h1, h2, h0, h3, h4, h5, h6.tru hm cs _ hn⟩
  | box t cs =>
    obtain ⟨b, c, cur, h1, h2, h0, h3⟩ := h
    exact ⟨b, c, cur, h1, h2, h0, h3.tru hm cs _ hn⟩
  | dead => trivial

def stabV (q : Nat) : AV → Bool
  | .int _ _ | .bool _ | .nilS | .nilP | .nilF | .any => true
  | .ptr id _ => Nat.blt id q
  | _ => false
def stabL (q : Nat) : List (Nat × AV) → Bool
  | [] => true
  | (_, v) :: l => stabV q v && stabL q l
theorem stabL_look {q : Nat} : ∀ {l : List (Nat × AV)}, stabL q l = true → ∀ t, stabV q (look l t) = true
  | [], _, t => rfl
  | (k, v) :: l, h, t => by
    simp only [stabL, Bool.and_eq_true] at h
    rw [look_cons]
    split
    · exact h.1
    · exact stabL_look h.2 t
theorem stab_VR {q : Nat} {x : AV} {v : Value} {r r' : Rho} {m m' : MM} (hs : stabV q x = true) (hr : RLe (r.take q) r') (h : VR r m x v) : VR r' m' x v := by
  cases x <;> simp only [stabV] at hs <;> try (cases hs; done)
  all_goals simp only [VR] at h ⊢ <;> try exact h
  rename_i id off
  obtain ⟨b, c, h1, h2⟩ := h
  refine ⟨b, c, hr id _ ?_, h2⟩
  have hlt : id < q := Nat.le_of_ble_eq_true hs
  rw [List.getElem?_take_of_lt hlt]; exact h1
def ownX (X : Nat → Prop) (r : Rho) (h : List AObj) : Nat → Prop := fun k => X k ∨ ∃ (i : Nat) (o : AObj) (c : Nat), h[i]? = some o ∧ o.live = true ∧ r[i]? = some (k, c)
def CapOk (w0 : World) (mA mC : Mem) (r : Rho) (H : List AObj) (w : World) : Prop :=
  ∀ p v, mC p = some v → w.cell? p = some v ∧ p.block < w.heap.size ∧ (∀ (i : Nat) (o : AObj) (b c : Nat), H[i]? = some o → o.live = true → r[i]? = some (b, c) → p.block ≠ b) ∧ (mA p = some v ∨ w0.heap.size ≤ p.block)
theorem R.round_in {n q p : Nat} {l0 : List (Nat × AV)} {H : List AObj} (h : R X D w0 mA r m ⟨n, look l0, H, 0⟩ a w) (hq : 0 < q) (hs : stabL q l0 = true) (hH : ∀ o ∈ H, noFO o = true) (hp : p < n) {x : AV} {v : Value} {m' : Mem} (hx : noF x = true)
    (hm' : CapOk w0 mA m' r H w) (hv : VR [] (nest m') x v) :
    ∃ m2 : Mem, (∀ p u, m2 p = some u → m true p = some u ∨ m' p = some u) ∧ R (ownX X r H) ([], r.take q) w m2 r (tru m2) ⟨n, look ((p, x) :: l0), H, q⟩ { tmps := a.tmps.setIfInBounds p v, defers := [] } w := by
  let m2 : Mem := fun p => match m true p with | some v => some v | none => m' p
  have e1 : ∀ p u, m2 p = some u → m true p = some u ∨ m' p = some u := by
    intro p u hu
    change (match m true p with | some v => some v | none => m' p) = some u at hu
    split at hu
    · rename_i v hv; cases hu; exact .inl hv
    · exact .inr hu
  have e2 : ∀ p v, m true p = some v → m2 p = some v := fun p v hv => by
    show (match m true p with | some v => some v | none => m' p) = some v
    rw [hv]
  have e3 : ∀ p u, m' p = some u → m2 p = some u := fun p u hu => by
    show (match m true p with | some v => some v | none => m' p) = some u
    split
    · rename_i v hv; rw [← (hm' p u hu).1, (h.mem p v hv).1]
    · exact hu
  refine ⟨m2, e1, { os := rfl, tape := rfl, output := rfl, size := Nat.le_refl _, old := fun _ _ _ => rfl, len := h.len, lt := h.lt, mem := fun p u hu => ?_, low := fun p u hu => (by cases hu), newer := fun p u hu => (by cases hu), lim := fun p u hu => .inl hu, apart := fun p u hu i o b c ho hl hr => ?_, obj := fun i o ho => (h.obj i o ho).tru e2 (hH o (List.mem_of_getElem? ho)), own := fun i o b c ho hl hr => .inr (.inr ⟨i, o, c, ho, hl, hr⟩), inj := h.inj, size' := (by simpa using h.size'), tmps := fun t => ?_, defers := rfl, base := fun i y hy => ?_, short := (by simp; omega), nox := fun h0 => ?_, marks := fun d hd => (by cases hd), mnod := List.nodup_nil }⟩
  · rcases e1 p u hu with h1 | h1
    · exact h.mem p u h1
    · exact ⟨(hm' p u h1).1, (hm' p u h1).2.1⟩
  · rcases e1 p u hu with h1 | h1
    · exact h.apart p u h1 i o b c ho hl hr
    · exact (hm' p u h1).2.2.1 i o b c ho hl hr
  · show VR r (tru m2) (look ((p, x) :: l0) t) _
    rw [look_cons]
    have hsz : a.tmps.size = n := h.size'
    split
    · rename_i e
      subst e
      have : (a.tmps.setIfInBounds t v).getD t undef = v := by simp [hsz, hp]
      rw [this]
      refine (hv.tru (m' := m2) (fun p u hu => e3 p u hu) x v hx).mono (RLe.nil r) (MLe.refl _)
    · rename_i e
      have h1 := h.tmps t
      have h2 : (a.tmps.setIfInBounds p v).getD t undef = a.tmps.getD t undef := by simp [Array.getElem?_setIfInBounds, Ne.symm e]
      rw [h2]
      exact stab_VR (q := q) (stabL_look hs t) (fun i y hy => by
        rw [List.getElem?_take] at hy
        split at hy
        · exact hy
        · cases hy) h1
  · rw [List.getElem?_take] at hy
    split at hy
    · exact hy
    · cases hy
  · have : q = 0 := h0
    omega
theorem R.round_out {n q : Nat} {l0 : List (Nat × AV)} {H H' : List AObj} {r' : Rho} {m' : MM} {m2 : Mem} {tm' : Nat → AV} {a' : Act} {ms : List Deferred} (h : R X D w0 mA r m ⟨n, look l0, H, 0⟩ a w) (hs : stabL q l0 = true)
    (h2 : ∀ p u, m2 p = some u → m true p = some u ∨ (mA p = some u ∨ w0.heap.size ≤ p.block))
    (h' : R (ownX X r H) (ms, r.take q) w m2 r' m' ⟨n, tm', H', q⟩ a' w') : R X D w0 mA r' m' ⟨n, look l0, H', 0⟩ a w' := by
  have nx := h.nox rfl
  have keep : ∀ k, k < w.heap.size → ¬ X k → (∀ (i : Nat) (o : AObj) (c : Nat), H[i]? = some o → o.live = true → ¬ r[i]? = some (k, c)) → w'.heap[k]? = w.heap[k]? := fun k hk hX hn => h'.old k hk fun hx => by
    rcases hx with hx | ⟨i, o, c, ho, hl, hr⟩
    · exact hX hx
    · exact hn i o c ho hl hr
  refine { os := h'.os.trans h.os, tape := h'.tape.trans h.tape, output := h'.output.trans h.output, size := Nat.le_trans h.size h'.size, old := fun k hk hX => ?_, len := h'.len, lt := h'.lt, mem := h'.mem, low := h'.low, newer := fun p v hv => Nat.le_trans h.size (h'.newer p v hv), lim := fun p v hv => ?_, apart := h'.apart, obj := h'.obj, own := fun i o b c ho hl hr => ?_, inj := h'.inj, size' := h.size', tmps := fun t => stab_VR (stabL_look hs t) h'.base (h.tmps t), defers := h.defers, base := by rw [nx.2]; exact RLe.nil _, short := by rw [nx.2]; exact Nat.zero_le _, nox := h.nox, marks := fun d hd => ?_, mnod := h.mnod }
  · rw [← h.old k hk hX]
    exact keep k (Nat.lt_of_lt_of_le hk h.size) hX fun i o c ho hl hr => by
      rcases h.own i o k c ho hl hr with h1 | h1
      · omega
      · exact hX h1
  · rcases h'.lim p v hv with h1 | h1
    · rcases h2 p v h1 with h3 | h3
      · exact h.lim p v h3
      · exact h3
    · exact .inr (Nat.le_trans h.size h1)
  · rcases h'.own i o b c ho hl hr with h1 | h1 | ⟨j, oj, cj, h3, h4, h5⟩
    · exact .inl (Nat.le_trans h.size h1)
    · exact .inr h1
    · exact h.own j oj b cj h3 h4 h5
  · obtain ⟨k, e1, e0, e2⟩ := h.marks d hd
    refine ⟨k, e1, e0, (keep k (Array.getElem?_eq_some_iff.1 e2).1 (nx.1 k) fun i o c ho hl hr => ?_).trans e2⟩
    obtain ⟨t, cur, z, e3⟩ := (h.obj i o ho).cells hl hr
    rw [e2] at e3; cases e3
end
end Go.Lat
namespace Go.Lat
open Go.RowKit

def FnIt (P : Program) (g : FuncId) (caps : List AV) (L : List AV) : Prop :=
  Callable P g ∧ ∀ (n : Nat) (mC : Mem) (w : World) (cv : List Value), VRs [] (nest mC) caps cv →
    ∀ (l : Nat) (J : Nat → Mem → World → Prop) (Jx : Mem → World → Prop),
      (∀ i m w w', J i m w → w.grownBy w' none → J i m w') → (∀ m w w', Jx m w → w.grownBy w' none → Jx m w') →
      (∀ i m w, J i m w → ∀ p v, m p = some v → w.cell? p = some v ∧ p.block < w.heap.size) →
      (∀ m w, Jx m w → ∀ p v, m p = some v → w.cell? p = some v ∧ p.block < w.heap.size) →
      (∀ i m wb w m', J i m wb → wb.grownBy w none → (∀ p u, m' p = some u → w.cell? p = some u ∧ p.block < w.heap.size ∧ (m p = some u ∨ wb.heap.size ≤ p.block)) → J i m' w) →
      (∀ n i x m w v, L[i]? = some x → J i m w → VR [] (nest m) x v →
        YieldAt (FW none) n P l #[v] w fun e w' => (e = .returned (.bool true) ∧ J (i + 1) m w') ∨ (e = .returned (.bool false) ∧ Jx m w')) →
      J 0 mC w → CallsIn (FW none) n P g (#[.func (.yield l) #[] #[]] ++ cv.toArray) w fun e w' => (∃ v, e = .returned v) ∧ ((∃ m, J L.length m w') ∨ ∃ m, Jx m w')

def rndQ (A B : St → Prop) : Ex → St → Prop
  | .nrm, s => A s
  | .ret, s => B s
  | .exit _, _ => False

section
variable {X : Nat → Prop} {D : List Deferred × Rho} {w0 : World} {mA : Mem} {r : Rho} {m : MM} {st : St} {a : Act} {w w' : World}
theorem R.toSt {s s' : St} (h : R X D w0 mA r m s a w) (hl : s.to s') : ∃ r', R X D w0 mA r' m s' a w := by
  obtain ⟨φ, l, h1, h2, h3, h4, h5, h6, h7⟩ := hl
  obtain ⟨nt, tm, hp, ho⟩ := s'
  simp only at h1 h2 h3 h7
  subst h1; subst h2; subst h3
  exact ⟨_, h.ren φ h4 h5 (regsT_look h6) h7⟩
theorem CapOk.grown {mC : Mem} {H : List AObj} (h : CapOk w0 mA mC r H w) (g : w.grownBy w' none) : CapOk w0 mA mC r H w' := fun p v hp => by
  obtain ⟨h1, h2, h3, h4⟩ := h p v hp
  exact ⟨(World.cell?_of_block (g.block _ h2 (by simp))).trans h1, Nat.lt_of_lt_of_le h2 g.size, h3, h4⟩
theorem CapOk.put {mC : Mem} {H : List AObj} {b : Nat} {rec : Loop} (h : CapOk w0 mA mC r H w) (hb : w.heap[b]? = some (.loop rec)) (o : Obj) : CapOk w0 mA mC r H (w.putObj b o) := fun p v hp => by
  obtain ⟨h1, h2, h3, h4⟩ := h p v hp
  exact ⟨(World.cell?_of_block (World.putObj_heap_other (cell_ne hb h1))).trans h1, by rw [World.putObj_size]; exact h2, h3, h4⟩
theorem CapOk.round {n q : Nat} {l0 : List (Nat × AV)} {H H' : List AObj} {r' : Rho} {m' : MM} {m2 mC : Mem} {tm' : Nat → AV} {a' : Act} {ms : List Deferred} (hc : CapOk w0 mA mC r H w) (h : R X D w0 mA r m ⟨n, look l0, H, 0⟩ a w)
    (h' : R (ownX X r H) (ms, r.take q) w m2 r' m' ⟨n, tm', H', q⟩ a' w') : CapOk w0 mA mC r' H' w' := fun p v hp => by
  obtain ⟨h1, h2, h3, h4⟩ := hc p v hp
  have nx := h.nox rfl
  have hno : ¬ ownX X r H p.block := by
    rintro (hx | ⟨i, o, c, ho, hl, hr⟩)
    · exact nx.1 _ hx
    · exact h3 i o _ c ho hl hr rfl
  refine ⟨(World.cell?_of_block (h'.old _ h2 hno)).trans h1, Nat.lt_of_lt_of_le h2 h'.size, fun i o b c ho hl hr e => ?_, h4⟩
  rcases h'.own i o b c ho hl hr with h5 | h5
  · omega
  · rw [← e] at h5; exact hno h5
end

theorem W.range {α β : Type} {P : Program} {T : TT} {Q : Ex → St → Prop} {g : Operand} {ps : Array Tmp} {assign body : Code} {n p : Nat} {lg l0 : List (Nat × AV)} {gf : FuncId} {caps caps' L : List AV} (q : Nat)
    (y0 : α) (H : α → List AObj) (I : Nat → α → Prop) (Hr : β → List AObj) (Ir : β → Prop)
    (hps : ps = #[p]) (hp : Nat.ble (p + 1) n = true) (he : St.eval ⟨n, look lg, H y0, 0⟩ g = .clo gf [] caps) (hF : FnIt P gf caps' L) (hcc : Wks (caps.map (conv 6 [])) caps')
    (hL : ∀ x ∈ L, noF x = true) (hl0 : regsL (look lg) l0) (hq : 0 < q) (hs : stabL q l0 = true) (hH : ∀ i y, I i y → ∀ o ∈ H y, noFO o = true) (hng1 : noRg assign = true) (hng2 : noRg body = true) (h0 : I 0 y0)
    (hr : ∀ i x y, L[i]? = some x → I i y → W P T assign ⟨n, look ((p, x) :: l0), H y, q⟩ (thenA (fun s => W P T body s (rndQ (fun s => ∃ y', I (i + 1) y' ∧ s.to ⟨n, look [], H y', q⟩) (fun s => ∃ z, Ir z ∧ s.to ⟨n, look [], Hr z, q⟩))) (fun _ _ => False)))
    (hd : ∀ y, I L.length y → Q .nrm ⟨n, look l0, H y, 0⟩) (hx : ∀ z, Ir z → Q .ret ⟨n, look l0, Hr z, 0⟩) :
    W P T (.rangeFunc g ps assign body) ⟨n, look lg, H y0, 0⟩ Q := fun hT hf ro hro n' X D w0 mA r m a w hR => by
  have hro0 : ro = none := by
    rcases ro with _ | l
    · rfl
    · have := hro (by simp)
      cases this
  subst hro0
  subst hps
  have hp' : p < n := Nat.le_of_ble_eq_true hp
  have hv := hR.eval g
  rw [he] at hv
  simp only [VR] at hv
  obtain ⟨x0, yv, hg, hx0, hyv⟩ := hv
  have hx0' : x0 = #[] := by
    apply Array.toList_inj.1
    simpa only [VRs] using hx0
  subst hx0'
  have hcap : VRs [] (nest (m true)) caps' yv.toList := hcc [] _ _ (Low.nest _) (vrs_map_conv (fun x v hv => cv0_sound hR 6 x v hv) _ _ hyv)
  have hR0 : R X D w0 mA r m ⟨n, look l0, H y0, 0⟩ a w := hR.le ⟨rfl, rfl, rfl, fun t => regsL_look hl0 t⟩
  refine wpIn_rangeFunc fun fn hfn => ?_
  obtain ⟨rec, hrec⟩ : ∃ rec : LoopState → Option Code → Loop, rec = fun st pe => { state := st, pending := pe, fn, tmps := a.tmps, params := #[p], assign, body, defers := w.heap.size } := ⟨_, rfl⟩
  obtain ⟨W1, hW1⟩ : ∃ W1, (w.alloc (.deferred (some []))).alloc (.loop (rec .ready none)) = W1 := ⟨_, rfl⟩
  have hL1 : W1.heap[w.heap.size + 1]? = some (.loop (rec .ready none)) := by
    rw [← hW1]; have := World.alloc_heap_new (w.alloc (.deferred (some []))) (.loop (rec .ready none)); rwa [World.size_alloc] at this
  have hK1 : W1.heap[w.heap.size]? = some (.deferred (some [])) := by
    rw [← hW1]; exact (Below.heap_alloc _ _ _ (by simp)).trans (World.alloc_heap_new w _)
  have hg1 : w.grownBy W1 none := by rw [← hW1]; exact (World.grownBy_alloc w _ none).trans (World.grownBy_alloc _ _ none)
  obtain ⟨mark, hmark⟩ : ∃ mark : Deferred, mark = { target := .collected w.heap.size, args := #[] } := ⟨_, rfl⟩
  have hsz0 := hR0.size
  have hR1 : R X (mark :: D.1, D.2) w0 mA r m ⟨n, look l0, H y0, 0⟩ { tmps := a.tmps, defers := mark :: a.defers } W1 := by
    have h := hR0.grown hg1
    refine { h with size' := h.size', tmps := h.tmps, defers := by rw [← h.defers], base := h.base, short := h.short, nox := h.nox, marks := fun d hd => ?_, mnod := List.nodup_cons.2 ⟨fun hin => ?_, h.mnod⟩ }
    · rcases List.mem_cons.1 hd with e | e
      · exact ⟨w.heap.size, e.trans hmark, hsz0, hK1⟩
      · exact h.marks d e
    · obtain ⟨b, e1, e0, e2⟩ := hR0.marks mark hin
      rw [hmark] at e1
      cases e1
      have := (Array.getElem?_eq_some_iff.1 e2).1
      omega
  generalize ha1 : ({ tmps := a.tmps, defers := mark :: a.defers } : Act) = a1 at hR1
  have ha1t : a1.tmps = a.tmps := by rw [← ha1]
  have hC1 : CapOk w0 mA (m true) r (H y0) W1 := CapOk.grown (fun p v hv => ⟨(hR.mem p v hv).1, (hR.mem p v hv).2, hR.apart p v hv, hR.lim p v hv⟩) hg1
  obtain ⟨mC, hmC⟩ : ∃ mC, mC = m true := ⟨_, rfl⟩
  rw [← hmC] at hC1 hcap
  obtain ⟨Lb, hLb⟩ : ∃ Lb, Lb = w.heap.size + 1 := ⟨_, rfl⟩
  rw [← hLb] at hL1
  have hLb0 : w0.heap.size ≤ Lb := by omega
  obtain ⟨D1, hD1⟩ : ∃ D1 : List Deferred × Rho, D1 = (mark :: D.1, D.2) := ⟨_, rfl⟩
  rw [← hD1] at hR1
  let J : Nat → Mem → World → Prop := fun i mC W => ∃ y r m, I i y ∧ R X D1 w0 mA r m ⟨n, look l0, H y, 0⟩ a1 W ∧ CapOk w0 mA mC r (H y) W ∧ W.heap[Lb]? = some (.loop (rec .ready none))
  let Jx : Mem → World → Prop := fun mC W => ∃ z r m, Ir z ∧ R X D1 w0 mA r m ⟨n, look l0, Hr z, 0⟩ a1 W ∧ CapOk w0 mA mC r (Hr z) W ∧ W.heap[Lb]? = some (.loop (rec .done (some .ret)))
  have hblk : ∀ {A B : World} {o : Obj}, A.heap[Lb]? = some o → A.grownBy B none → B.heap[Lb]? = some o := fun h g => (g.block _ (Array.getElem?_eq_some_iff.1 h).1 (by simp)).trans h
  have abJ : ∀ i mC A B, J i mC A → A.grownBy B none → J i mC B := fun i mC A B ⟨y, r, m, h1, h2, h3, h4⟩ g => ⟨y, r, m, h1, h2.grown g, h3.grown g, hblk h4 g⟩
  refine ⟨Lb, [mark], W1, { target := .fn (.func gf) yv, args := #[.func (.yield Lb) #[] #[]] }, W1, gf, #[.func (.yield Lb) #[] #[]] ++ yv, W1, ?_, ?_, ?_, ?_, fun h => (by cases h), ?_⟩
  · rw [← hW1, hrec, hmark, hLb]; exact run_enterLoop_outer _ _ _ _ _
  · simp only [resolve, hg]
    simp [go_sem]
  · exact fun f' hf' => trivial
  · simp [invoke, go_sem, run_callFunc hF.1]
  have hyl : (#[Value.func (.yield Lb) #[] #[]] ++ yv) = #[Value.func (.yield Lb) #[] #[]] ++ yv.toList.toArray := by simp
  rw [hyl]
  refine (hF.2 (n' - 1) mC W1 yv.toList hcap Lb J Jx abJ (fun mC A B ⟨z, r, m, h1, h2, h3, h4⟩ g => ⟨z, r, m, h1, h2.grown g, h3.grown g, hblk h4 g⟩)
    (fun i mC A ⟨y, r, m, h1, h2, h3, h4⟩ p v hv => ⟨(h3 p v hv).1, (h3 p v hv).2.1⟩) (fun mC A ⟨z, r, m, h1, h2, h3, h4⟩ p v hv => ⟨(h3 p v hv).1, (h3 p v hv).2.1⟩) ?_ ?_ ⟨y0, r, m, h0, hR1, hC1, hL1⟩).mono ?_
  · -- more memory
    rintro i mC A B m' ⟨y, r, m, h1, h2, h3, h4⟩ g hm'
    refine ⟨y, r, m, h1, h2.grown g, fun p u hu => ?_, hblk h4 g⟩
    obtain ⟨k1, k2, k3⟩ := hm' p u hu
    rcases k3 with k3 | k3
    · obtain ⟨-, -, k4, k5⟩ := h3 p u k3
      exact ⟨k1, k2, k4, k5⟩
    · exact ⟨k1, k2, fun i o b c ho hl hr => by have := h2.lt i o b c ho hl hr; omega, .inr (Nat.le_trans h2.size k3)⟩
  · -- one round
    rintro nd i x mC W v hLi ⟨y, r, m, hI, hRW, hCW, hlW⟩ hvx
    have hltW : Lb < W.heap.size := (Array.getElem?_eq_some_iff.1 hlW).1
    obtain ⟨m2, hm2, hR2⟩ := hRW.round_in hq hs (hH i y hI) hp' (hL x (List.mem_of_getElem? hLi)) hCW hvx
    have hm2' : ∀ p u, m2 p = some u → m true p = some u ∨ (mA p = some u ∨ w0.heap.size ≤ p.block) := fun p u hu => (hm2 p u hu).imp (fun h => h) (fun h => (hCW p u h).2.2.2)
    have hnoL : ¬ ownX X r (H y) Lb := by
      rintro (hX | ⟨j, o, c, ho, hl, hrj⟩)
      · exact (hRW.nox rfl).1 _ hX
      · obtain ⟨t, cur, z, e3⟩ := (hRW.obj j o ho).cells hl hrj
        rw [hlW] at e3; cases e3
    have hrun := run_yield (P := P) (args := #[v]) hlW (by rw [hrec]; rfl)
    rw [hrec] at hrun
    refine ⟨fn, _, assign, body, hrun, roundIn_of_wpIn hfn ?_⟩
    have htm : ((#[p].zip #[v]).foldl (fun tmps (t, a) => tmps.setIfInBounds t a) a.tmps) = a1.tmps.setIfInBounds p v := by rw [ha1t]; simp
    show assign.wpIn (FW (some Lb)) nd P _ { tmps := ((#[p].zip #[v]).foldl (fun tmps (t, a) => tmps.setIfInBounds t a) a.tmps), defers := [] } W
    rw [htm]
    refine wpIn_mono (hr i x y hLi hI hT hf (some Lb) (fun _ => hng1) nd _ _ _ _ _ _ _ _ hR2) ?_
    intro e a3 w3 hq3
    cases e <;> simp only [relQ, thenA, Exit.then] at hq3 ⊢ <;> try exact hq3
    case normal =>
      obtain ⟨ms, r3, m3, s3, -, hW3, hR3⟩ := hq3
      have hl3 : w3.heap[Lb]? = some (.loop (rec .ready none)) := (hR3.old Lb hltW hnoL).trans hlW
      refine ⟨_, run_beginRound hl3 (by rw [hrec]), ?_⟩
      have hR4 := hR3.putB hl3 hltW (.loop { rec .ready none with state := .busy })
      refine wpIn_mono (hW3 hT hf (some Lb) (fun _ => hng2) nd _ _ _ _ _ _ _ _ hR4) ?_
      have hRp := hRW.putL hlW hLb0 (.loop { rec .ready none with state := .busy })
      have hCp := hCW.put hlW (.loop { rec .ready none with state := .busy })
      have hlp : (W.putObj Lb (.loop { rec .ready none with state := .busy })).heap[Lb]? = some (.loop { rec .ready none with state := .busy }) := World.putObj_heap_same hltW
      intro e a5 w5 hq5
      cases e <;> simp only [relQ, roundPost, rndQ] at hq5 ⊢
      case normal =>
        obtain ⟨ms2, r5, m5, s5, -, ⟨y', hI', hto⟩, hR5⟩ := hq5
        obtain ⟨r6, hR6⟩ := hR5.toSt hto
        have hl5 : w5.heap[Lb]? = some (.loop { rec .ready none with state := .busy }) := (hR6.old Lb (by rw [World.putObj_size]; exact hltW) hnoL).trans hlp
        refine ⟨_, _, run_endRound none hl5, .inl ⟨rfl, y', r6, m5, hI', ?_, ?_, ?_⟩⟩
        · exact (hRp.round_out hs hm2' hR6).putL hl5 hLb0 _
        · exact (hCp.round hRp hR6).put hl5 _
        · rw [World.putObj_heap_same (Array.getElem?_eq_some_iff.1 hl5).1, hrec]; rfl
      case ret =>
        obtain ⟨ms2, r5, m5, s5, -, ⟨z, hI', hto⟩, hR5⟩ := hq5
        obtain ⟨r6, hR6⟩ := hR5.toSt hto
        have hl5 : w5.heap[Lb]? = some (.loop { rec .ready none with state := .busy }) := (hR6.old Lb (by rw [World.putObj_size]; exact hltW) hnoL).trans hlp
        refine ⟨_, _, run_endRound (some .ret) hl5, .inr ⟨rfl, z, r6, m5, hI', ?_, ?_, ?_⟩⟩
        · exact (hRp.round_out hs hm2' hR6).putL hl5 hLb0 _
        · exact (hCp.round hRp hR6).put hl5 _
        · rw [World.putObj_heap_same (Array.getElem?_eq_some_iff.1 hl5).1, hrec]; rfl
      case exit l => obtain ⟨_, _, _, _, _, h, _⟩ := hq5; exact h.elim
    case exit l => obtain ⟨_, _, _, _, _, h, _⟩ := hq3; exact h
    case ret => obtain ⟨_, _, _, _, _, h, _⟩ := hq3; exact h
  · -- behind it
    have ha1' : ({ a with defers := [mark] ++ a.defers } : Act) = a1 := by rw [← ha1]; rfl
    rw [ha1']
    rintro e W2 ⟨⟨v, rfl⟩, ⟨_, y, r, m, hI, hR2, -, hl2⟩ | ⟨_, z, r, m, hI, hR2, -, hl2⟩⟩
    · refine ⟨none, _, by have := run_endLoop (P := P) hl2 (by rw [hrec]; simp); rw [hrec] at this; exact this, ?_⟩
      refine ⟨[mark], r, m, _, fun hh => (by cases hh), hd y hI, ?_⟩
      have hR3 := hR2.putL hl2 hLb0 (.loop { rec .ready none with state := .exhausted })
      rw [hD1, hrec] at hR3
      exact hR3
    · refine ⟨some .ret, _, by have := run_endLoop (P := P) hl2 (by rw [hrec]; simp); rw [hrec] at this; exact this, ?_⟩
      refine wpIn_ret ⟨[mark], r, m, _, fun hh => (by cases hh), hx z hI, ?_⟩
      have hR3 := hR2.putL hl2 hLb0 (.loop { rec .done (some .ret) with state := .exhausted })
      rw [hD1, hrec] at hR3
      exact hR3
end Go.Lat
