/- The law latecomerlaw07.BoundsMatchesReference returns true for every input, and each argument reads afterwards as it read before. Part 4 of 13. No condition. -/
import Derived.Test.YtikbpchifcjomaaLatC
set_option linter.unusedVariables false
set_option linter.unusedSimpArgs false
set_option linter.unnecessarySimpa false
namespace Go.Lat
structure Cl (n : Nat) (m : Vector Int 576) (B : Int) : Prop where
  n24 : n ≤ 24
  diag : ∀ i, i < n → mm m i i = 0
  tri : ∀ i j k, i < n → j < n → k < n → ¬ mm m i j = NB → ¬ mm m j k = NB → mm m i k ≤ mm m i j + mm m j k
  bd : ∀ i j, i < n → j < n → mm m i j = NB ∨ -B ≤ mm m i j ∧ mm m i j ≤ B
def Sol (n : Nat) (m : Vector Int 576) (x : Nat → Int) : Prop := ∀ i j, i < n → j < n → ¬ mm m i j = NB → x j - x i ≤ mm m i j
theorem Cl.fin {n : Nat} {m : Vector Int 576} {B : Int} (h : Cl n m B) (hB : B ≤ 288230376151711744) {i j k : Nat} (hi : i < n) (hj : j < n) (hk : k < n) (h1 : ¬ mm m i j = NB) (h2 : ¬ mm m j k = NB) : ¬ mm m i k = NB := by
  have a := h.tri i j k hi hj hk h1 h2
  have b := h.bd i j hi hj
  have c := h.bd j k hj hk
  have := hNB
  omega
theorem Cl.mono {n : Nat} {m : Vector Int 576} {B C : Int} (h : Cl n m B) (hc : B ≤ C) : Cl n m C :=
  ⟨h.n24, h.diag, h.tri, fun i j hi hj => by have := h.bd i j hi hj; omega⟩
structure Rel (n : Nat) (m m' : Vector Int 576) (f t : Nat) (w : Int) : Prop where
  le : ∀ i j, i < n → j < n → mm m' i j ≤ mm m i j
  via : ∀ i j, i < n → j < n → ¬ mm m i f = NB → ¬ mm m t j = NB → mm m' i j ≤ mm m i f + w + mm m t j
  one : ∀ i j, i < n → j < n → mm m' i j = mm m i j ∨ (¬ mm m i f = NB ∧ ¬ mm m t j = NB ∧ mm m' i j = mm m i f + w + mm m t j)
theorem mm_relax {m : Vector Int 576} {f t : Nat} {w : Int} {i j : Nat} (hi : i < 24) (hj : j < 24) : mm (relaxM m f t w) i j = if mm m i f = NB then mm m i j else min (mm m i j) (plusM (mm m i f + w) (mm m t j)) := by
  show vat _ _ = _
  rw [vat_relax (by omega), show (i * 24 + j) / 24 = i by omega, show (i * 24 + j) % 24 = j by omega]
  rfl
theorem Cl.rel {n : Nat} {m : Vector Int 576} {B : Int} {f t : Nat} {w : Int} (h : Cl n m B) (hB : B ≤ 288230376151711744) (hf : f < n) (ht : t < n) (hw : -72057594037927936 ≤ w ∧ w ≤ 72057594037927936)
    (hs : (addM m f t w).1 = true) : Rel n m (addM m f t w).2 f t w := by
  have hnb := hNB
  have hn := h.n24
  by_cases h1 : plusM w (vat m (t * 24 + f)) < 0
  · rw [addM_neg h1] at hs; cases hs
  by_cases h2 : vat m (f * 24 + t) ≤ w
  · rw [addM_le h1 h2]
    change mm m f t ≤ w at h2
    refine ⟨fun i j _ _ => Int.le_refl _, fun i j hi hj a b => ?_, fun i j _ _ => .inl rfl⟩
    show mm m i j ≤ _
    have b0 := h.bd f t hf ht
    have h3 : ¬ mm m f t = NB := by omega
    have b1 := h.tri i f t hi hf ht a h3
    have b2 := h.tri i t j hi ht hj (h.fin hB hi hf ht a h3) b
    omega
  · rw [addM_relax h1 h2]
    have e : ∀ i j, i < n → j < n → mm (relaxM m f t w) i j = if mm m i f = NB then mm m i j else min (mm m i j) (plusM (mm m i f + w) (mm m t j)) := fun i j hi hj => mm_relax (by omega) (by omega)
    refine ⟨fun i j hi hj => ?_, fun i j hi hj a b => ?_, fun i j hi hj => ?_⟩
    · show mm (relaxM m f t w) i j ≤ _
      rw [e i j hi hj]; split
      · exact Int.le_refl _
      · omega
    · show mm (relaxM m f t w) i j ≤ _
      rw [e i j hi hj, if_neg a, plusM_nb (by have := h.bd i f hi hf; omega) b]
      omega
    · show mm (relaxM m f t w) i j = _ ∨ _ ∧ _ ∧ mm (relaxM m f t w) i j = _
      rw [e i j hi hj]
      by_cases a : mm m i f = NB
      · rw [if_pos a]; exact .inl rfl
      · rw [if_neg a]
        have b0 := h.bd i f hi hf
        by_cases b : mm m t j = NB
        · rw [plusM_inf (.inr b)]
          have := h.bd i j hi hj
          exact .inl (by omega)
        · rw [plusM_nb (by omega) b]
          rcases Int.le_total (mm m i j) (mm m i f + w + mm m t j) with h3 | h3
          · exact .inl (by omega)
          · exact .inr ⟨a, b, by omega⟩
theorem Cl.ok_pos {n : Nat} {m : Vector Int 576} {B : Int} {f t : Nat} {w : Int} (h : Cl n m B) (hB : B ≤ 288230376151711744) (hf : f < n) (ht : t < n) (hw : -72057594037927936 ≤ w ∧ w ≤ 72057594037927936)
    (hs : (addM m f t w).1 = true) : mm m t f = NB ∨ 0 ≤ w + mm m t f := by
  have hnb := hNB
  by_cases h1 : plusM w (vat m (t * 24 + f)) < 0
  · rw [addM_neg h1] at hs; cases hs
  change ¬ plusM w (mm m t f) < 0 at h1
  by_cases h2 : mm m t f = NB
  · exact .inl h2
  · rw [plusM_nb (by omega) h2] at h1; exact .inr (by omega)
theorem Cl.bad {n : Nat} {m : Vector Int 576} {B : Int} {f t : Nat} {w : Int} (h : Cl n m B) (hf : f < n) (ht : t < n) (hw : -72057594037927936 ≤ w ∧ w ≤ 72057594037927936)
    (hs : ¬ (addM m f t w).1 = true) : ¬ mm m t f = NB ∧ w + mm m t f < 0 := by
  have hnb := hNB
  by_cases h1 : plusM w (vat m (t * 24 + f)) < 0
  · change plusM w (mm m t f) < 0 at h1
    by_cases h2 : mm m t f = NB
    · rw [plusM_inf (.inr h2)] at h1; omega
    · rw [plusM_nb (by omega) h2] at h1; exact ⟨h2, h1⟩
  · exfalso
    by_cases h2 : vat m (f * 24 + t) ≤ w
    · exact hs (by rw [addM_le h1 h2])
    · exact hs (by rw [addM_relax h1 h2])
theorem Cl.step {n : Nat} {m m' : Vector Int 576} {B : Int} {f t : Nat} {w : Int} (h : Cl n m B) (hB : 0 ≤ B ∧ B ≤ 144115188075855872) (hf : f < n) (ht : t < n) (hw : -72057594037927936 ≤ w ∧ w ≤ 72057594037927936)
    (hr : Rel n m m' f t w) (hp : mm m t f = NB ∨ 0 ≤ w + mm m t f) : Cl n m' (2 * B + 72057594037927936) := by
  have hnb := hNB
  have F := fun {i j k : Nat} => h.fin (i := i) (j := j) (k := k) (by omega)
  refine ⟨h.n24, fun i hi => ?_, fun i j k hi hj hk a b => ?_, fun i j hi hj => ?_⟩
  · have d := h.diag i hi
    rcases hr.one i i hi hi with e | ⟨a, b, e⟩
    · rw [e, d]
    · have h1 := hr.le i i hi hi
      have h2 := h.tri t i f ht hi hf b a
      have h3 := F ht hi hf b a
      omega
  · rcases hr.one i j hi hj with e | ⟨a1, a2, e⟩ <;> rcases hr.one j k hj hk with e' | ⟨b1, b2, e'⟩
    · have h1 := hr.le i k hi hk
      have h2 := h.tri i j k hi hj hk (by rwa [← e]) (by rwa [← e'])
      omega
    · have h0 := F hi hj hf (by rwa [← e]) b1
      have h1 := hr.via i k hi hk h0 b2
      have h2 := h.tri i j f hi hj hf (by rwa [← e]) b1
      omega
    · have h0 := F ht hj hk a2 (by rwa [← e'])
      have h1 := hr.via i k hi hk a1 h0
      have h2 := h.tri t j k ht hj hk a2 (by rwa [← e'])
      omega
    · have h1 := hr.via i k hi hk a1 b2
      have h2 := h.tri t j f ht hj hf a2 b1
      have h3 := F ht hj hf a2 b1
      omega
  · have h0 := h.bd i j hi hj
    rcases hr.one i j hi hj with e | ⟨a1, a2, e⟩
    · rw [e]; omega
    · have h1 := h.bd i f hi hf
      have h2 := h.bd t j ht hj
      omega
theorem Rel.sol {n : Nat} {m m' : Vector Int 576} {B : Int} {f t : Nat} {w : Int} (h : Cl n m B) (hB : B ≤ 288230376151711744) (hf : f < n) (ht : t < n) (hw : w ≤ 72057594037927936)
    (hr : Rel n m m' f t w) (x : Nat → Int) : Sol n m' x ↔ Sol n m x ∧ x t - x f ≤ w := by
  have hnb := hNB
  constructor
  · intro hx
    refine ⟨fun i j hi hj a => ?_, ?_⟩
    · have h1 := hr.le i j hi hj
      have h2 := h.bd i j hi hj
      have h3 := hx i j hi hj (by omega)
      omega
    · have d1 := h.diag f hf
      have d2 := h.diag t ht
      have h1 := hr.via f t hf ht (by omega) (by omega)
      have h3 := hx f t hf ht (by omega)
      omega
  · rintro ⟨hx, hw⟩ i j hi hj a
    rcases hr.one i j hi hj with e | ⟨a1, a2, e⟩
    · have := hx i j hi hj (by rwa [← e]); omega
    · have h1 := hx i f hi hf a1
      have h2 := hx t j ht hj a2
      omega
def ptF (m : Vector Int 576) (f n : Nat) (j : Nat) : Int :=
  if mm m f j = NB then (List.range n).foldl (fun o i => if mm m f i = NB ∧ ¬ mm m i j = NB then min o (576460752303423488 + mm m i j) else o) 576460752303423488 else mm m f j
theorem pointV_eq {m : Vector Int 576} {f n : Nat} : pointV m f n = (List.range n).map (ptF m f n) := rfl
theorem foldMin {p : Nat → Prop} [DecidablePred p] {g : Nat → Int} {s : Int} (n : Nat) :
    let r := (List.range n).foldl (fun o i => if p i then min o (g i) else o) s
    (r ≤ s ∧ ∀ i, i < n → p i → r ≤ g i) ∧ (r = s ∨ ∃ i, i < n ∧ p i ∧ r = g i) := by
  induction n with
  | zero => exact ⟨⟨Int.le_refl _, by omega⟩, .inl rfl⟩
  | succ n ih =>
    rw [List.range_succ, List.foldl_append]
    simp only [List.foldl_cons, List.foldl_nil] at ih ⊢
    generalize (List.range n).foldl (fun o i => if p i then min o (g i) else o) s = r at ih ⊢
    obtain ⟨⟨h1, h2⟩, h3⟩ := ih
    by_cases hp : p n
    · rw [if_pos hp]
      refine ⟨⟨by omega, fun i hi hpi => ?_⟩, ?_⟩
      · rcases Nat.lt_or_ge i n with h | h
        · have := h2 i h hpi; omega
        · have : i = n := by omega
          subst this; omega
      · rcases Int.le_total r (g n) with h | h
        · rw [show min r (g n) = r by omega]
          rcases h3 with h3 | ⟨i, hi, h4⟩
          · exact .inl h3
          · exact .inr ⟨i, by omega, h4⟩
        · exact .inr ⟨n, by omega, hp, by omega⟩
    · rw [if_neg hp]
      refine ⟨⟨h1, fun i hi hpi => ?_⟩, ?_⟩
      · rcases Nat.lt_or_ge i n with h | h
        · exact h2 i h hpi
        · have : i = n := by omega
          subst this; exact (hp hpi).elim
      · rcases h3 with h3 | ⟨i, hi, h4⟩
        · exact .inl h3
        · exact .inr ⟨i, by omega, h4⟩
structure PtOk (n : Nat) (m : Vector Int 576) (f : Nat) (B : Int) (x : Nat → Int) : Prop where
  fin : ∀ j, j < n → ¬ mm m f j = NB → x j = mm m f j
  inf : ∀ j, j < n → mm m f j = NB → 576460752303423488 - B ≤ x j ∧ x j ≤ 576460752303423488
  sol : Sol n m x
theorem Cl.pt {n : Nat} {m : Vector Int 576} {B : Int} {f : Nat} (h : Cl n m B) (hB : 0 ≤ B ∧ B ≤ 144115188075855872) (hf : f < n) : PtOk n m f B (ptF m f n) := by
  have hnb := hNB
  have P := fun j => foldMin (p := fun i => mm m f i = NB ∧ ¬ mm m i j = NB) (g := fun i => 576460752303423488 + mm m i j) (s := 576460752303423488) n
  have e1 : ∀ j, ¬ mm m f j = NB → ptF m f n j = mm m f j := fun j a => by unfold ptF; rw [if_neg a]
  have e2 : ∀ j, mm m f j = NB → ptF m f n j = (List.range n).foldl (fun o i => if mm m f i = NB ∧ ¬ mm m i j = NB then min o (576460752303423488 + mm m i j) else o) 576460752303423488 := fun j a => by unfold ptF; rw [if_pos a]
  have I : ∀ j, j < n → mm m f j = NB → 576460752303423488 - B ≤ ptF m f n j ∧ ptF m f n j ≤ 576460752303423488 := fun j hj a => by
    rw [e2 j a]
    obtain ⟨⟨p1, -⟩, p3⟩ := P j
    refine ⟨?_, p1⟩
    rcases p3 with p3 | ⟨i, hi, ⟨-, q2⟩, q⟩
    · rw [p3]; omega
    · rw [q]; have := h.bd i j hi hj; omega
  refine ⟨fun j _ a => e1 j a, I, fun a b ha hb hab => ?_⟩
  have bab := h.bd a b ha hb
  by_cases fa : mm m f a = NB
  · have ia := I a ha fa
    by_cases fb : mm m f b = NB
    · obtain ⟨⟨p1, p2⟩, -⟩ := P b
      obtain ⟨-, q3⟩ := P a
      rw [← e2 b fb] at p1 p2
      rw [← e2 a fa] at q3
      rcases q3 with q3 | ⟨i, hi, ⟨i1, i2⟩, q⟩
      · have := p2 a ha ⟨fa, hab⟩; omega
      · have t := h.tri i a b hi ha hb i2 hab
        have := p2 i hi ⟨i1, h.fin (by omega) hi ha hb i2 hab⟩
        omega
    · rw [e1 b fb]
      have := h.bd f b hf hb
      omega
  · have fb := h.fin (by omega) hf ha hb fa hab
    rw [e1 a fa, e1 b fb]
    have := h.tri f a b hf ha hb fa hab
    omega
theorem Cl.le_of_sol {n : Nat} {m1 m2 : Vector Int 576} {B : Int} (h1 : Cl n m1 B) (h2 : Cl n m2 B) (hB : 0 ≤ B ∧ B ≤ 144115188075855872) (hs : ∀ x, Sol n m1 x → Sol n m2 x) {i j : Nat} (hi : i < n) (hj : j < n) : mm m1 i j ≤ mm m2 i j := by
  have hnb := hNB
  obtain ⟨p1, p2, p3⟩ := h1.pt hB hi
  have b1 := h1.bd i j hi hj
  have b2 := h2.bd i j hi hj
  by_cases e : mm m2 i j = NB
  · omega
  have d := h1.diag i hi
  have := hs _ p3 i j hi hj e
  rw [p1 i hi (by omega), d] at this
  by_cases f : mm m1 i j = NB
  · have := p2 j hj f; omega
  · rw [p1 j hj f] at this; omega
theorem Cl.eq_of_sol {n : Nat} {m1 m2 : Vector Int 576} {B : Int} (h1 : Cl n m1 B) (h2 : Cl n m2 B) (hB : 0 ≤ B ∧ B ≤ 144115188075855872) (hs : ∀ x, Sol n m1 x ↔ Sol n m2 x) {i j : Nat} (hi : i < n) (hj : j < n) : mm m1 i j = mm m2 i j :=
  Int.le_antisymm (h1.le_of_sol h2 hB (fun x => (hs x).mp) hi hj) (h2.le_of_sol h1 hB (fun x => (hs x).mpr) hi hj)
theorem countP_lt {l : List Nat} {p q : Nat → Bool} (h : ∀ r ∈ l, p r = true → q r = true) (r : Nat) (hr : r ∈ l) (h1 : q r = true) (h2 : ¬ p r = true) : l.countP p + 1 ≤ l.countP q := by
  induction l with
  | nil => cases hr
  | cons a l ih =>
    have hm : l.countP p ≤ l.countP q := List.countP_mono_left fun r hr => h r (by simp [hr])
    simp only [List.countP_cons]
    rcases List.mem_cons.mp hr with rfl | hr'
    · simp only [h1, h2]; simp; omega
    · have := ih (fun r hr => h r (by simp [hr])) hr'
      have h3 := h a (by simp)
      split <;> split <;> first | omega | (exfalso; simp_all)
theorem gap {n : Nat} (hn : n ≤ 24) {P : Nat → Nat → Prop} [∀ k r, Decidable (P k r)] (hm : ∀ k r, P k r → P (k + 1) r) (i j : Nat) (hi : i < n) (hj : j < n) (h0 : P 0 i) (h1 : ¬ P 23 j) :
    ∃ k, k < 23 ∧ ∀ r, r < n → P (k + 1) r → P k r := by
  apply Classical.byContradiction
  intro hno
  have hk : ∀ k, k ≤ 23 → k + 1 ≤ (List.range n).countP fun r => decide (P k r) := by
    intro k
    induction k with
    | zero =>
      intro _
      have : 0 < (List.range n).countP fun r => decide (P 0 r) := List.countP_pos_iff.mpr ⟨i, List.mem_range.mpr hi, decide_eq_true h0⟩
      omega
    | succ k ih =>
      intro hk
      have h2 := ih (by omega)
      have h3 : ¬ ∀ r, r < n → P (k + 1) r → P k r := fun h => hno ⟨k, by omega, h⟩
      simp only [Classical.not_forall] at h3
      obtain ⟨r, hr, h4, h5⟩ := h3
      have := countP_lt (l := List.range n) (p := fun r => decide (P k r)) (q := fun r => decide (P (k + 1) r)) (fun r _ h => decide_eq_true (hm k r (of_decide_eq_true h))) r (List.mem_range.mpr hr) (decide_eq_true h4) (fun h => h5 (of_decide_eq_true h))
      omega
  have h2 := hk 23 (by omega)
  have h3 := countP_lt (l := List.range n) (p := fun r => decide (P 23 r)) (q := fun _ => true) (fun _ _ _ => rfl) j (List.mem_range.mpr hj) rfl (fun h => h1 (of_decide_eq_true h))
  have h4 : (List.range n).countP (fun _ => true) ≤ n := by
    have := List.countP_le_length (p := fun _ => true) (l := List.range n)
    simpa using this
  omega
def SolL (l : List Con) (x : Nat → Int) : Prop := ∀ c ∈ l, x c.t.toNat - x c.f.toNat ≤ c.m
def Good (n : Nat) (l : List Con) : Prop := ∀ c ∈ l, (0 ≤ c.f ∧ c.f < n) ∧ (0 ≤ c.t ∧ c.t < n) ∧ -1125899906842624 ≤ c.m ∧ c.m ≤ 1125899906842624
theorem Cl.small {n : Nat} {m : Vector Int 576} {B : Int} {l : List Con} (h : Cl n m B) (hB : 0 ≤ B ∧ B ≤ 144115188075855872) (hl : Good n l) (hs : ∀ x, Sol n m x ↔ SolL l x) : Cl n m 25895697857380352 := by
  have hnb := hNB
  refine ⟨h.n24, h.diag, h.tri, fun i j hi hj => ?_⟩
  by_cases fin : mm m i j = NB
  · exact .inl fin
  refine .inr ?_
  obtain ⟨p1, p2, p3⟩ := h.pt hB hi
  have hL := (hs _).mp p3
  have d := h.diag i hi
  have hno : ∀ U : Nat → Prop, [DecidablePred U] → ¬ U i → U j → ¬ SolL l (fun r => ptF m i n r + if U r then 1 else 0) := by
    intro U _ hUi hUj hS
    have := (hs _).mpr hS i j hi hj fin
    rw [if_pos hUj, if_neg hUi, p1 i hi (by omega), p1 j hj fin] at this
    omega
  constructor
  · apply Classical.byContradiction
    intro hlt
    obtain ⟨k, hk, hg⟩ := gap h.n24 (P := fun k r => ¬ mm m i r = NB ∧ -(k * 1125899906842624 : Int) ≤ mm m i r) (fun k r hp => ⟨hp.1, by have := hp.2; omega⟩) i j hi hj ⟨by omega, by omega⟩ (fun hp => by have := hp.2; omega)
    refine hno (fun r => ¬ mm m i r = NB ∧ mm m i r < -(k * 1125899906842624 : Int)) (by omega) ⟨fin, by omega⟩ fun c hc => ?_
    obtain ⟨c1, c2, c3, c4⟩ := hl c hc
    have h1 := hL c hc
    dsimp only
    split
    · rename_i hb
      split
      · omega
      · rename_i ha
        have hg' := hg c.t.toNat (by omega)
        rw [p1 c.t.toNat (by omega) hb.1] at h1 ⊢
        by_cases fa : mm m i c.f.toNat = NB
        · have := p2 _ (by omega) fa; omega
        · rw [p1 c.f.toNat (by omega) fa] at h1 ⊢; omega
    · split <;> omega
  · apply Classical.byContradiction
    intro hlt
    obtain ⟨k, hk, hg⟩ := gap h.n24 (P := fun k r => ¬ mm m i r = NB ∧ mm m i r ≤ (k * 1125899906842624 : Int)) (fun k r hp => ⟨hp.1, by have := hp.2; omega⟩) i j hi hj ⟨by omega, by omega⟩ (fun hp => by have := hp.2; omega)
    refine hno (fun r => ¬ mm m i r = NB ∧ (k * 1125899906842624 : Int) < mm m i r) (by omega) ⟨fin, by omega⟩ fun c hc => ?_
    obtain ⟨c1, c2, c3, c4⟩ := hl c hc
    have h1 := hL c hc
    dsimp only
    split
    · rename_i hb
      split
      · omega
      · rename_i ha
        have hg' := hg c.t.toNat (by omega)
        rw [p1 c.t.toNat (by omega) hb.1] at h1 ⊢
        by_cases fa : mm m i c.f.toNat = NB
        · have := p2 _ (by omega) fa
          have := h.bd i c.t.toNat hi (by omega)
          omega
        · rw [p1 c.f.toNat (by omega) fa] at h1 ⊢; omega
    · split <;> omega
end Go.Lat
namespace Go.Lat
abbrev B0 : Int := 25895697857380352
theorem hB0 : B0 = 25895697857380352 := rfl
theorem Cl.addOk {m : Vector Int 576} {B : Int} {f t w : Int} (h : Cl 24 m B) (hB : B ≤ 288230376151711744) (hf : 0 ≤ f ∧ f < 24) (ht : 0 ≤ t ∧ t < 24) (hw : -72057594037927936 ≤ w ∧ w ≤ 72057594037927936) : AddOk m f t w := by
  have hnb := hNB
  refine ⟨hf, ht, hw, fun k => ?_⟩
  rcases Nat.lt_or_ge k 576 with hk | hk
  · have := h.bd (k / 24) (k % 24) (by omega) (by omega)
    have e : mm m (k / 24) (k % 24) = vat m k := by unfold mm; rw [show k / 24 * 24 + k % 24 = k by omega]
    rw [e] at this; omega
  · rw [vat_ge hk]; omega
theorem mm_free {i j : Nat} (hi : i < 24) (hj : j < 24) : mm freeM i j = if i = j then 0 else NB := by
  unfold mm freeM
  rw [vat_ofFn (by omega)]
  dsimp only
  rw [show (i * 24 + j) / 24 = i by omega, show (i * 24 + j) % 24 = j by omega]
theorem free_cl : Cl 24 freeM 0 := by
  have hnb := hNB
  refine ⟨by omega, fun i hi => by rw [mm_free hi hi, if_pos rfl], fun i j k hi hj hk a b => ?_, fun i j hi hj => ?_⟩
  · rw [mm_free hi hj] at a ⊢
    rw [mm_free hj hk] at b ⊢
    rw [mm_free hi hk]
    split at a
    · rename_i e
      subst e
      rw [if_pos rfl]; omega
    · exact (a rfl).elim
  · rw [mm_free hi hj]
    split
    · exact .inr (by omega)
    · exact .inl rfl
theorem free_sol (x : Nat → Int) : Sol 24 freeM x := by
  intro i j hi hj a
  rw [mm_free hi hj] at a ⊢
  split at a
  · rename_i e
    subst e
    rw [if_pos rfl]; omega
  · exact (a rfl).elim
theorem Cl.add {m : Vector Int 576} {B : Int} {f t w : Int} (h : Cl 24 m B) (hB : 0 ≤ B ∧ B ≤ 36028797018963968) (hf : 0 ≤ f ∧ f < 24) (ht : 0 ≤ t ∧ t < 24) (hw : -36028797018963968 ≤ w ∧ w ≤ 36028797018963968) :
    ((addM m f t w).1 = true → Cl 24 (addM m f t w).2 144115188075855872 ∧ ∀ x, Sol 24 (addM m f t w).2 x ↔ Sol 24 m x ∧ x t.toNat - x f.toNat ≤ w) ∧
    (¬ (addM m f t w).1 = true → ∀ x, ¬ (Sol 24 m x ∧ x t.toNat - x f.toNat ≤ w)) ∧
    ((addM m f t w).1 = true ↔ mm m t.toNat f.toNat = NB ∨ 0 ≤ w + mm m t.toNat f.toNat) := by
  obtain ⟨f, rfl⟩ : ∃ k : Nat, f = k := ⟨f.toNat, by omega⟩
  obtain ⟨t, rfl⟩ : ∃ k : Nat, t = k := ⟨t.toNat, by omega⟩
  simp only [Int.toNat_natCast]
  refine ⟨fun hs => ?_, fun hs => ?_, fun hs => ?_, fun hs => ?_⟩
  · have r := h.rel (by omega) (by omega) (by omega) (by omega) hs
    have p := h.ok_pos (by omega) (by omega) (by omega) (by omega) hs
    exact ⟨(h.step (by omega) (by omega) (by omega) (by omega) r p).mono (by omega), fun x => r.sol h (by omega) (by omega) (by omega) (by omega) x⟩
  · intro x ⟨hx, hx2⟩
    obtain ⟨b1, b2⟩ := h.bad (by omega) (by omega) (by omega) hs
    have := hx t f (by omega) (by omega) b1
    omega
  · exact h.ok_pos (by omega) (by omega) (by omega) (by omega) hs
  · apply Classical.byContradiction
    intro hn
    obtain ⟨b1, b2⟩ := h.bad (by omega) (by omega) (by omega) hn
    omega
theorem SolL_append {a b : List Con} {x : Nat → Int} : SolL (a ++ b) x ↔ SolL a x ∧ SolL b x := by
  unfold SolL
  simp only [List.mem_append]
  exact ⟨fun h => ⟨fun c hc => h c (.inl hc), fun c hc => h c (.inr hc)⟩, fun h c hc => hc.elim (h.1 c) (h.2 c)⟩
theorem SolL_one {c : Con} {x : Nat → Int} : SolL [c] x ↔ x c.t.toNat - x c.f.toNat ≤ c.m := by unfold SolL; simp
theorem Good.append {n : Nat} {a b : List Con} (ha : Good n a) (hb : Good n b) : Good n (a ++ b) := fun c hc => (List.mem_append.mp hc).elim (ha c) (hb c)
structure CM (m : Vector Int 576) (l : List Con) : Prop where
  cl : Cl 24 m B0
  sol : ∀ x, Sol 24 m x ↔ SolL l x
theorem CM.free : CM freeM [] := ⟨free_cl.mono (by rw [hB0]; omega), fun x => ⟨fun _ _ h => (by cases h), fun _ => free_sol x⟩⟩
theorem CM.addOk {m : Vector Int 576} {p : List Con} {c : Con} (h : CM m p) (hc : Good 24 [c]) : AddOk m c.f c.t c.m := by
  have := hB0
  obtain ⟨c1, c2, c3⟩ := hc c (by simp)
  exact h.cl.addOk (by omega) c1 c2 (by omega)
theorem CM.step {m : Vector Int 576} {p : List Con} {c : Con} (h : CM m p) (hp : Good 24 p) (hc : Good 24 [c]) (hs : (addM m c.f c.t c.m).1 = true) : CM (addM m c.f c.t c.m).2 (p ++ [c]) := by
  have := hB0
  obtain ⟨c1, c2, c3⟩ := hc c (by simp)
  obtain ⟨a, -, -⟩ := h.cl.add (f := c.f) (t := c.t) (w := c.m) (by omega) c1 c2 (by omega)
  obtain ⟨a1, a2⟩ := a hs
  have hsol : ∀ x, Sol 24 (addM m c.f c.t c.m).2 x ↔ SolL (p ++ [c]) x := fun x => by rw [a2, h.sol, SolL_append, SolL_one]
  exact ⟨a1.small (by omega) (hp.append hc) hsol, hsol⟩
theorem CM.stop {m : Vector Int 576} {p : List Con} {c : Con} (h : CM m p) (hc : Good 24 [c]) (hs : ¬ (addM m c.f c.t c.m).1 = true) (x : Nat → Int) : ¬ SolL (p ++ [c]) x := by
  have := hB0
  obtain ⟨c1, c2, c3⟩ := hc c (by simp)
  obtain ⟨-, a, -⟩ := h.cl.add (f := c.f) (t := c.t) (w := c.m) (by omega) c1 c2 (by omega)
  have := a hs x
  rwa [h.sol, ← SolL_one, ← SolL_append] at this
theorem addAll_spec {l : List Con} : ∀ {m : Vector Int 576} {p : List Con}, CM m p → Good 24 p → Good 24 l → (∀ m', addAll m l = some m' → CM m' (p ++ l)) ∧ (addAll m l = none → ∀ x, ¬ SolL (p ++ l) x) := by
  induction l with
  | nil =>
    intro m p h _ _
    refine ⟨fun m' e => ?_, fun e => by cases e⟩
    cases e; simpa using h
  | cons c l ih =>
    intro m p h hp hl
    have hc : Good 24 [c] := fun c' h' => hl c' (by simp at h'; simp [h'])
    have hl' : Good 24 l := fun c' h' => hl c' (by simp [h'])
    by_cases hs : (addM m c.f c.t c.m).1 = true
    · have := ih (h.step hp hc hs) (hp.append hc) hl'
      have e : addAll m (c :: l) = addAll (addM m c.f c.t c.m).2 l := by show (if _ then _ else _) = _; rw [if_pos hs]
      rw [e]
      simpa using this
    · have e : addAll m (c :: l) = none := by show (if _ then _ else _) = _; rw [if_neg hs]
      rw [e]
      refine ⟨fun m' e => (by cases e), fun _ x hx => h.stop hc hs x ?_⟩
      rw [show p ++ c :: l = (p ++ [c]) ++ l by simp, SolL_append] at hx
      exact hx.1
theorem close_spec {l : List Con} (hl : Good 24 l) : (∀ m, addAll freeM l = some m → CM m l) ∧ (addAll freeM l = none → ∀ x, ¬ SolL l x) := by
  simpa using addAll_spec (l := l) CM.free (fun _ h => by cases h) hl
theorem validM_good {n : Int} {l : List Con} (h : validM n l = true) : Good 24 l := fun c hc => by
  obtain ⟨⟨a, b, -⟩, hp⟩ := validM_iff.mp h
  have := possM_iff.mp (hp c hc); omega
theorem validM_goodn {n : Int} {l : List Con} (h : validM n l = true) : Good n.toNat l := fun c hc => by
  obtain ⟨⟨a, b, -⟩, hp⟩ := validM_iff.mp h
  have := possM_iff.mp (hp c hc); omega
theorem bounds_len {m : Vector Int 576} {n : Int} : (boundsM m n).most.length = n.toNat := by unfold boundsM; simp
theorem bounds_row {m : Vector Int 576} {n : Int} (hn : n ≤ 24) {i : Nat} (hi : i < n.toNat) : ((boundsM m n).most.getD i []).length = n.toNat := by
  unfold boundsM
  simp only [List.getD_eq_getElem?_getD, List.getElem?_map, List.getElem?_range hi]
  simp; omega
theorem bm_bounds {m : Vector Int 576} {n : Int} {i j : Nat} (hi : i < n.toNat) (hj : j < n.toNat) : bm (boundsM m n) i j = mm m i j := by
  have hl : m.toList.length = 576 := by simp
  unfold boundsM bm mm vat
  simp only [List.getD_eq_getElem?_getD, List.getElem?_map, List.getElem?_range hi]
  simp only [Option.map_some, Option.getD_some]
  rw [List.getElem?_take_of_lt hj, List.getElem?_drop]
theorem Cl.vb {m : Vector Int 576} {B : Int} (h : Cl 24 m B) (hB : B ≤ 36028797018963968) {n : Int} (hn : 1 ≤ n ∧ n ≤ 24) : VB (boundsM m n) := by
  have hnb := hNB
  have e : (boundsM m n).n = n := rfl
  have E := fun {i j : Nat} => bm_bounds (m := m) (n := n) (i := i) (j := j)
  refine ⟨by rw [e, bounds_len]; omega, fun i hi => ?_, fun i hi => ?_, fun i j hi hj => ?_, fun i j k hi hj hk => ?_⟩ <;> rw [bounds_len] at *
  · exact bounds_row hn.2 hi
  · rw [E hi hi]; exact h.diag i (by omega)
  · rw [E hi hj]; have := h.bd i j (by omega) (by omega); omega
  · rw [E hi hj, E hj hk, E hi hk]
    by_cases e1 : mm m i j = NB
    · exact .inl e1
    · refine .inr ?_
      by_cases e2 : mm m j k = NB
      · rw [plusM_inf (.inr e2)]
        have := h.bd i k (by omega) (by omega); omega
      · rw [plusM_nb e1 e2]; exact h.tri i j k (by omega) (by omega) (by omega) e1 e2
theorem of_at {b : Bd} (v : VB b) {i j : Nat} (hi : i < 24) (hj : j < 24) : mm (ofM b) i j = if i < b.n.toNat ∧ j < b.n.toNat then bm b i j else if i = j then 0 else NB := by
  have hn := v.n
  have K : ∀ k : Nat, k ≤ b.most.length → mm ((List.range k).foldl (fun m i => vput m (i * 24) ((b.most.getD i []).take 24)) freeM) i j = if i < k ∧ j < b.n.toNat then bm b i j else if i = j then 0 else NB := by
    intro k
    induction k with
    | zero => intro _; rw [if_neg (by omega)]; exact mm_free hi hj
    | succ k ih =>
      intro hk
      have ih := ih (by omega)
      rw [List.range_succ, List.foldl_append]
      simp only [List.foldl_cons, List.foldl_nil]
      generalize (List.range k).foldl (fun m i => vput m (i * 24) ((b.most.getD i []).take 24)) freeM = m at ih
      have hr := v.row k (by omega)
      have hl : ((b.most.getD k []).take 24).length = b.most.length := by rw [List.length_take, hr]; omega
      unfold mm at ih ⊢
      rw [vat_vput (by omega), hl]
      by_cases h1 : i = k
      · subst h1
        by_cases h2 : j < b.n.toNat
        · rw [if_pos (by omega), if_pos (by omega)]
          unfold bm
          rw [show i * 24 + j - i * 24 = j by omega, List.take_of_length_le (by omega)]
        · rw [if_neg (by omega), ih]
          have e1 : ¬ (i < i ∧ j < b.n.toNat) := by omega
          have e2 : ¬ (i < i + 1 ∧ j < b.n.toNat) := by omega
          rw [if_neg e1, if_neg e2]
      · rw [if_neg (by omega), ih]
        have e1 : (i < k ∧ j < b.n.toNat) ↔ (i < k + 1 ∧ j < b.n.toNat) := by omega
        simp only [e1]
  have := K b.most.length (by omega)
  unfold ofM
  rw [this]
  have e1 : (i < b.most.length ∧ j < b.n.toNat) ↔ (i < b.n.toNat ∧ j < b.n.toNat) := by omega
  simp only [e1]
theorem VB.cl {b : Bd} (v : VB b) : Cl 24 (ofM b) 36028797018963968 := by
  have hnb := hNB
  have hn := v.n
  refine ⟨by omega, fun i hi => ?_, fun i j k hi hj hk a c => ?_, fun i j hi hj => ?_⟩
  · rw [of_at v hi hi]
    split
    · exact v.diag i (by omega)
    · rw [if_pos rfl]
  · rw [of_at v hi hj] at a ⊢
    rw [of_at v hj hk] at c ⊢
    rw [of_at v hi hk]
    by_cases h1 : i < b.n.toNat ∧ j < b.n.toNat
    · rw [if_pos h1] at a ⊢
      by_cases h2 : k < b.n.toNat
      · rw [if_pos (by omega)] at c ⊢
        rw [if_pos (by omega)]
        have := (v.tri i j k (by omega) (by omega) (by omega)).resolve_left a
        rwa [plusM_nb a c] at this
      · rw [if_neg (by omega), if_neg (by omega)] at c
        exact (c rfl).elim
    · rw [if_neg h1] at a ⊢
      split at a
      · rename_i e
        subst e
        rw [if_pos rfl]; omega
      · exact (a rfl).elim
  · rw [of_at v hi hj]
    split
    · have := v.ok i j (by omega) (by omega); omega
    · split
      · exact .inr (by omega)
      · exact .inl rfl
end Go.Lat
namespace Go.Lat
theorem addAll_cons {m : Vector Int 576} {c : Con} {l : List Con} : addAll m (c :: l) = if (addM m c.f c.t c.m).1 = true then addAll (addM m c.f c.t c.m).2 l else none := rfl
theorem close_inv {n : Int} {l : List Con} (h : ¬ validM n l = true) : closeM n l = (⟨0, []⟩, [], 2) := by unfold closeM; rw [if_neg h]
theorem close_none {n : Int} {l : List Con} (h : validM n l = true) (e : addAll freeM l = none) : closeM n l = (⟨0, []⟩, firstM n l, 70) := by unfold closeM; rw [if_pos h, e]
theorem close_some {n : Int} {l : List Con} {m : Vector Int 576} (h : validM n l = true) (e : addAll freeM l = some m) : closeM n l = (boundsM m n, [], 0) := by unfold closeM; rw [if_pos h, e]
theorem boundsOk {m : Vector Int 576} {n : Int} (hn : n ≤ 24) : ((boundsM m n).most.all fun r => r.all okX) = true ↔ ∀ i j, i < n.toNat → j < n.toNat → okX (mm m i j) = true := by
  rw [List.all_eq_true]
  constructor
  · intro h i j hi hj
    have hi' : i < (boundsM m n).most.length := by rw [bounds_len]; exact hi
    have h1 := h (boundsM m n).most[i] (List.getElem_mem hi')
    have h2 := bounds_row (m := m) hn hi
    have h3 : (boundsM m n).most[i] = (boundsM m n).most.getD i [] := by simp [hi']
    rw [h3, all_getD] at h1
    have h4 := h1 j (by rw [h2]; exact hj)
    have h5 := bm_bounds (m := m) (n := n) hi hj
    unfold bm at h5
    rwa [h5] at h4
  · intro h r hr
    obtain ⟨i, hi, rfl⟩ := List.getElem_of_mem hr
    rw [bounds_len] at hi
    have h2 := bounds_row (m := m) hn hi
    have h3 : (boundsM m n).most[i] = (boundsM m n).most.getD i [] := by simp [bounds_len, hi]
    rw [h3, all_getD]
    intro j hj
    rw [h2] at hj
    have h5 := bm_bounds (m := m) (n := n) hi hj
    unfold bm at h5
    rw [h5]
    exact h i j hi hj
theorem addB_inv {b : Bd} {c : Con} (h : ¬ (validBM b = true ∧ possM b.n c = true)) : addBM b c = (⟨0, []⟩, false, 2) := by unfold addBM; rw [if_neg h]
theorem addB_no {b : Bd} {c : Con} (h : validBM b = true ∧ possM b.n c = true) (h2 : ¬ (addM (ofM b) c.f c.t c.m).1 = true) : addBM b c = (⟨0, []⟩, false, 0) := by unfold addBM; rw [if_pos h, if_neg h2]
theorem addB_big {b : Bd} {c : Con} (h : validBM b = true ∧ possM b.n c = true) (h2 : (addM (ofM b) c.f c.t c.m).1 = true) (h3 : ¬ ((boundsM (addM (ofM b) c.f c.t c.m).2 b.n).most.all fun r => r.all okX) = true) : addBM b c = (⟨0, []⟩, false, 2) := by
  unfold addBM; rw [if_pos h, if_pos h2]; simp only []; rw [if_neg h3]
theorem addB_ok {b : Bd} {c : Con} (h : validBM b = true ∧ possM b.n c = true) (h2 : (addM (ofM b) c.f c.t c.m).1 = true) (h3 : ((boundsM (addM (ofM b) c.f c.t c.m).2 b.n).most.all fun r => r.all okX) = true) : addBM b c = (boundsM (addM (ofM b) c.f c.t c.m).2 b.n, true, 0) := by
  unfold addBM; rw [if_pos h, if_pos h2]; simp only []; rw [if_pos h3]
theorem range_pos {b : Bd} {f t : Nat} (h : validBM b = true) (hf : f < b.n) (ht : t < b.n) : rangeM b f t = (-bm b t f, bm b f t, 0) := by unfold rangeM; rw [if_pos ⟨h, by omega, by omega⟩]; rfl
theorem range_neg {b : Bd} {f t : Int} (h : ¬ (validBM b = true ∧ 0 ≤ min f t ∧ max f t < b.n)) : rangeM b f t = (0, 0, 2) := by unfold rangeM; rw [if_neg h]
theorem range_ok {b : Bd} {f t : Int} (h : (rangeM b f t).2.2 = 0) : validBM b = true ∧ (0 ≤ f ∧ f < b.n) ∧ (0 ≤ t ∧ t < b.n) := by
  by_cases e : validBM b = true ∧ 0 ≤ min f t ∧ max f t < b.n
  · exact ⟨e.1, by omega, by omega⟩
  · rw [range_neg e] at h; cases h
def ptM (b : Bd) (f t v : Int) : Vector Int 576 := if f = t then ofM b else (addM (addM (ofM b) f t v).2 t f (-v)).2
theorem point_pos {b : Bd} {f t v : Int} (h : (rangeM b f t).2.2 = 0 ∧ max (rangeM b f t).1 (-36028797018963968) ≤ v ∧ v ≤ min (rangeM b f t).2.1 36028797018963968) : pointM b f t v = (pointV (ptM b f t v) f.toNat b.n.toNat, 0) := by
  unfold pointM; simp only []; rw [if_pos h]; rfl
theorem point_neg {b : Bd} {f t v : Int} (h : ¬ ((rangeM b f t).2.2 = 0 ∧ max (rangeM b f t).1 (-36028797018963968) ≤ v ∧ v ≤ min (rangeM b f t).2.1 36028797018963968)) : pointM b f t v = ([], 2) := by
  unfold pointM; simp only []; rw [if_neg h]
theorem lat_map {n : Nat} {g : Nat → Int} {i : Nat} (h : i < n) : lat ((List.range n).map g) i = g i := by rw [lat_nat]; simp [List.getD_eq_getElem?_getD, List.getElem?_map, List.getElem?_range h]
theorem map_set {n : Nat} {g : Nat → Int} {i : Nat} {v : Int} : ((List.range n).map g).set i v = (List.range n).map fun k => if k = i then v else g k := by
  apply List.ext_getElem?
  intro k
  rw [List.getElem?_set]
  rcases Nat.lt_or_ge k n with h | h
  · simp only [List.getElem?_map, List.getElem?_range h, List.length_map, List.length_range, Option.map_some]
    by_cases e : i = k
    · subst e; simp [h]
    · have : ¬ k = i := fun x => e x.symm
      simp [e, this]
  · rw [List.getElem?_eq_none (by simp; omega), List.getElem?_eq_none (by simp; omega)]
    split
    · split
      · rename_i h1 h2; simp at h2; omega
      · rfl
    · rfl
theorem row_map {m : Vector Int 576} {f n : Nat} (hf : f < 24) (hn : n ≤ 24) : (m.toList.drop (f * 24)).take n = (List.range n).map (mm m f) := by
  have hl : m.toList.length = 576 := by simp
  apply List.ext_getElem?
  intro k
  rcases Nat.lt_or_ge k n with h | h
  · rw [List.getElem?_take_of_lt h, List.getElem?_drop, List.getElem?_map, List.getElem?_range h]
    have hk : f * 24 + k < m.toList.length := by omega
    unfold mm vat
    rw [List.getElem?_eq_getElem hk]
    simp only [Option.map_some, List.getD_eq_getElem?_getD, List.getElem?_eq_getElem hk, Option.getD_some]
  · rw [List.getElem?_eq_none (by simp; omega), List.getElem?_eq_none (by simp; omega)]
structure Two (m m2 : Vector Int 576) (f t : Nat) (v : Int) : Prop where
  cl : Cl 24 m2 108086391056891904
  sol : ∀ x, Sol 24 m2 x ↔ Sol 24 m x ∧ x t - x f = v
theorem Cl.two {m : Vector Int 576} {f t : Nat} {v : Int} (h : Cl 24 m 36028797018963968) (hf : f < 24) (ht : t < 24) (hw : -36028797018963968 ≤ v ∧ v ≤ 36028797018963968)
    (h1 : mm m t f = NB ∨ -mm m t f ≤ v) (h2 : v ≤ mm m f t) :
    AddOk m f t v ∧ AddOk (addM m f t v).2 t f (-v) ∧ Two m (addM (addM m f t v).2 t f (-v)).2 f t v := by
  have hnb := hNB
  obtain ⟨a1, -, a3⟩ := h.add (f := f) (t := t) (w := v) (by omega) (by omega) (by omega) hw
  simp only [Int.toNat_natCast] at a1 a3
  have ok1 : (addM m f t v).1 = true := a3.mpr (by omega)
  obtain ⟨c1, s1⟩ := a1 ok1
  have r1 := h.rel (f := f) (t := t) (w := v) (by omega) (by omega) (by omega) (by omega) ok1
  refine ⟨h.addOk (by omega) (by omega) (by omega) (by omega), c1.addOk (by omega) (by omega) (by omega) (by omega), ?_⟩
  generalize (addM m f t v).2 = m1 at c1 s1 r1
  have dF := h.diag f hf
  have dT := h.diag t ht
  have ok2 : (addM m1 t f (-v)).1 = true := by
    apply Classical.byContradiction
    intro hn
    obtain ⟨b1, b2⟩ := c1.bad (f := t) (t := f) (by omega) (by omega) (by omega) hn
    rcases r1.one f t hf ht with e | ⟨-, -, e⟩ <;> omega
  have r2 := c1.rel (f := t) (t := f) (w := -v) (by omega) (by omega) (by omega) (by omega) ok2
  have p2 := c1.ok_pos (f := t) (t := f) (w := -v) (by omega) (by omega) (by omega) (by omega) ok2
  generalize (addM m1 t f (-v)).2 = m2 at r2
  have c2 := c1.step (by omega) (by omega) (by omega) (by omega) r2 p2
  refine ⟨⟨c2.n24, c2.diag, c2.tri, fun i j hi hj => ?_⟩, fun x => ?_⟩
  · have b0 := h.bd i j hi hj
    have b1 := h.bd i f hi hf
    have b2 := h.bd i t hi ht
    have b3 := h.bd f j hf hj
    have b4 := h.bd t j ht hj
    rcases r2.one i j hi hj with e | ⟨q1, q2, e⟩
    · rcases r1.one i j hi hj with e' | ⟨q1, q2, e'⟩ <;> omega
    · rcases r1.one i t hi ht with e1 | ⟨q3, q4, e1⟩ <;> rcases r1.one f j hf hj with e2 | ⟨q5, q6, e2⟩ <;> omega
  · rw [r2.sol c1 (by omega) (by omega) (by omega) (by omega), s1]
    constructor
    · rintro ⟨⟨q1, q2⟩, q3⟩; exact ⟨q1, by omega⟩
    · rintro ⟨q1, q2⟩; exact ⟨⟨q1, by omega⟩, by omega⟩
theorem ptM_spec {b : Bd} {f t : Nat} {v : Int} (hv : validBM b = true) (hf : (f : Int) < b.n) (ht : (t : Int) < b.n)
    (hr : max (-bm b t f) (-36028797018963968) ≤ v ∧ v ≤ min (bm b f t) 36028797018963968) :
    (¬ f = t → AddOk (ofM b) f t v ∧ AddOk (addM (ofM b) f t v).2 t f (-v)) ∧ Two (ofM b) (ptM b f t v) f t v := by
  have vb := validBM_iff.mp hv
  have hn := vb.n
  have cl := vb.cl
  have r1 := of_at vb (i := t) (j := f) (by omega) (by omega)
  have r2 := of_at vb (i := f) (j := t) (by omega) (by omega)
  rw [if_pos (by omega)] at r1 r2
  obtain ⟨w1, w2, w3⟩ := cl.two (f := f) (t := t) (v := v) (by omega) (by omega) (by omega) (by omega) (by omega)
  refine ⟨fun _ => ⟨w1, w2⟩, ?_⟩
  unfold ptM
  by_cases e : f = t
  · subst e
    rw [if_pos rfl]
    have d := cl.diag f (by omega)
    refine ⟨cl.mono (by omega), fun x => ?_⟩
    constructor
    · intro hx; exact ⟨hx, by omega⟩
    · exact fun hx => hx.1
  · rw [if_neg (by omega)]; exact w3
theorem bat_lt {n : Nat} {M : Vector Bool n} {k : Nat} (h : k < n) : bat M k = M[k] := by simp [bat, h]
theorem bat_bset {n : Nat} {M : Vector Bool n} {k j : Nat} {v : Bool} (h : k < n) : bat (bset M k v) j = if j = k then v else bat M j := by
  unfold bset
  rcases Nat.lt_or_ge j n with hj | hj
  · rw [bat_lt hj, bat_lt hj, Vector.getElem_setIfInBounds hj]
    by_cases e : k = j
    · subst e; simp
    · have : ¬ j = k := fun x => e x.symm
      simp [e, this]
  · rw [if_neg (by omega)]
    unfold bat
    have l1 : (M.setIfInBounds k v).toList.length = n := by simp
    have l2 : M.toList.length = n := by simp
    rw [List.getD_eq_getElem?_getD, List.getD_eq_getElem?_getD, List.getElem?_eq_none (by omega), List.getElem?_eq_none (by omega)]
end Go.Lat
namespace Go.Lat
theorem made_len {n : Int} {x : List A3} : (madeM n x).length ≤ 30 := by
  unfold madeM
  split
  · simp; omega
  · simp
theorem close_cases {n : Int} {l : List Con} (h : validM n l = true) : (∃ m, CM m l ∧ closeM n l = (boundsM m n, [], 0)) ∨ ((∀ x, ¬ SolL l x) ∧ closeM n l = (⟨0, []⟩, firstM n l, 70)) := by
  obtain ⟨h1, h2⟩ := close_spec (validM_good h)
  rcases e : addAll freeM l with _ | m
  · exact .inr ⟨h2 e, close_none h e⟩
  · exact .inl ⟨m, h1 m e, close_some h e⟩
theorem CM.sol_ex {m : Vector Int 576} {l : List Con} (h : CM m l) : ∃ x, SolL l x := by
  have := hB0
  obtain ⟨-, -, s⟩ := h.cl.pt (f := 0) (by omega) (by omega)
  exact ⟨_, (h.sol _).mp s⟩
theorem CM.le {m : Vector Int 576} {l : List Con} (h : CM m l) (hg : Good 24 l) {c : Con} (hc : c ∈ l) : mm m c.f.toNat c.t.toNat ≤ c.m := by
  have := hB0
  have hnb := hNB
  obtain ⟨c1, c2, c3⟩ := hg c hc
  obtain ⟨p1, p2, s⟩ := h.cl.pt (f := c.f.toNat) (by omega) (by omega)
  have s := (h.sol _).mp s c hc
  have d := h.cl.diag c.f.toNat (by omega)
  rw [p1 c.f.toNat (by omega) (by omega), d] at s
  by_cases e : mm m c.f.toNat c.t.toNat = NB
  · have := p2 c.t.toNat (by omega) e
    omega
  · rw [p1 _ (by omega) e] at s; omega
theorem CM.congr {m m' : Vector Int 576} {l l' : List Con} (h : CM m l) (h' : CM m' l') (hs : ∀ x, SolL l x ↔ SolL l' x) {i j : Nat} (hi : i < 24) (hj : j < 24) : mm m i j = mm m' i j := by
  have := hB0
  exact h.cl.eq_of_sol h'.cl (by omega) (fun x => by rw [h.sol, h'.sol, hs]) hi hj
theorem CM.vb {m : Vector Int 576} {l : List Con} (h : CM m l) {n : Int} (hn : 1 ≤ n ∧ n ≤ 24) : VB (boundsM m n) := h.cl.vb (by have := hB0; omega) hn
theorem take_succ_lat {α : Type} [Inhabited α] {l : List α} {i : Nat} (h : i < l.length) : l.take (i + 1) = l.take i ++ [lat l (i : Int)] := by
  rw [lat_get h, List.take_add_one, List.getElem?_eq_getElem h]; rfl
theorem bounds_most_len {m : Vector Int 576} {n : Int} (hn : n ≤ 24) : (boundsM m n).most.length ≤ 1073741824 ∧ ∀ r ∈ (boundsM m n).most, r.length ≤ 1073741824 := by
  refine ⟨by rw [bounds_len]; omega, fun r hr => ?_⟩
  obtain ⟨i, hi, rfl⟩ := List.getElem_of_mem hr
  have hi' := hi
  rw [bounds_len] at hi
  have h2 := bounds_row (m := m) hn hi
  have h3 : (boundsM m n).most[i] = (boundsM m n).most.getD i [] := by simp [hi']
  rw [h3, h2]; omega
theorem sameM_self {b : Bd} : sameM b b = true := by unfold sameM; simp
end Go.Lat
namespace Go.Lat
theorem close_ok {n : Int} {l : List Con} (h : (closeM n l).2.2 = 0) : validM n l = true ∧ ∃ m, CM m l ∧ closeM n l = (boundsM m n, [], 0) := by
  by_cases hv : validM n l = true
  · refine ⟨hv, ?_⟩
    rcases close_cases hv with h1 | ⟨-, e⟩
    · exact h1
    · rw [e] at h; cases h
  · rw [close_inv hv] at h; cases h
theorem CM.range {m : Vector Int 576} {l : List Con} (h : CM m l) {n : Int} (hn : 1 ≤ n ∧ n ≤ 24) {f t : Nat} (hf : (f : Int) < n) (ht : (t : Int) < n) : rangeM (boundsM m n) f t = (-mm m t f, mm m f t, 0) := by
  rw [range_pos (validBM_iff.mpr (h.vb hn)) hf ht, bm_bounds (by omega) (by omega), bm_bounds (by omega) (by omega)]
structure PtSpec (m : Vector Int 576) (l : List Con) (n : Nat) (f t : Nat) (w : Int) (a : List Int) : Prop where
  len : a.length = n
  f : lat a f = 0
  t : lat a t = w
  bd : ∀ v ∈ a, -1152921504606846976 ≤ v ∧ v ≤ 1152921504606846976
  sol : ∀ c ∈ l, lat a c.t - lat a c.f ≤ c.m
theorem PtSpec.holds {m : Vector Int 576} {l : List Con} {n : Int} {f t : Nat} {w : Int} {a : List Int} (h : PtSpec m l n.toNat f t w a) (hv : validM n l = true) (hn : 1 ≤ n) : holdsM l a = true :=
  holdsM_iff.mpr ⟨⟨by rw [h.len, show ((n.toNat : Nat) : Int) = n by omega]; exact hv, h.bd⟩, h.sol⟩
end Go.Lat
namespace Go.Lat
def renC (n k : Int) (c : Con) : Con := ⟨(c.f + k).tmod n, (c.t + k).tmod n, c.m, c.a⟩
def sg (n k i : Nat) : Nat := if i + k < n then i + k else i + k - n
section
variable {n k : Nat}
def sgi (n k j : Nat) : Nat := if k ≤ j then j - k else j + n - k
def Rl (n k : Nat) (d d' : Vector Int 24) : Prop := ∀ e, e < n → vat d' (sg n k e) = vat d e
theorem sizeM_le {n : Nat} {l : List Con} {s : Int} : s ≤ sizeM n l ↔ s ≤ n + 1 ∧ ∀ v, v < n → ∀ r, sizeAt n l v = some r → s ≤ r := by
  rw [sizeM_eq]
  have K : ∀ q : Nat, s ≤ (List.range q).foldl (sizeStep n l) (n + 1) ↔ s ≤ n + 1 ∧ ∀ v, v < q → ∀ r, sizeAt n l v = some r → s ≤ r := by
    intro q
    induction q with
    | zero => simp
    | succ q ih =>
      rw [List.range_succ, List.foldl_append]
      simp only [List.foldl_cons, List.foldl_nil]
      generalize (List.range q).foldl (sizeStep n l) (n + 1) = z at ih
      unfold sizeStep
      rcases hq : sizeAt n l q with _ | r
      · dsimp only
        rw [ih]
        constructor
        · rintro ⟨a, b⟩
          refine ⟨a, fun v hv r hr => ?_⟩
          rcases Nat.lt_or_ge v q with h | h
          · exact b v h r hr
          · have : v = q := by omega
            subst this; rw [hq] at hr; cases hr
        · rintro ⟨a, b⟩; exact ⟨a, fun v hv => b v (by omega)⟩
      · dsimp only
        constructor
        · intro h
          obtain ⟨a, b⟩ := ih.mp (by omega)
          refine ⟨a, fun v hv r' hr => ?_⟩
          rcases Nat.lt_or_ge v q with h' | h'
          · exact b v h' r' hr
          · have : v = q := by omega
            subst this; rw [hq] at hr; cases hr; omega
        · rintro ⟨a, b⟩
          have h1 := ih.mpr ⟨a, fun v hv => b v (by omega)⟩
          have h2 := b q (by omega) r hq
          omega
  have := K n
  rw [show ((n : Int)).toNat = n by omega]
  exact this
end
end Go.Lat
namespace Go.Lat
def Wk2 : Nat → List Con → Nat → Prop
  | u, [], v => u = v
  | u, c :: w, v => c.f.toNat = u ∧ Wk2 c.t.toNat w v
def wt (w : List Con) : Int := (w.map (·.m)).sum
theorem wt_nil : wt [] = 0 := rfl
theorem wt_cons (c : Con) (w : List Con) : wt (c :: w) = c.m + wt w := by simp [wt]
theorem wt_append (a b : List Con) : wt (a ++ b) = wt a + wt b := by simp [wt, List.sum_append]
theorem Wk2.app : ∀ {a b : List Con} {u v z : Nat}, Wk2 u a v → Wk2 v b z → Wk2 u (a ++ b) z
  | [], _, _, _, _, h, k => by cases h; exact k
  | _ :: _, _, _, _, _, h, k => ⟨h.1, Wk2.app h.2 k⟩
theorem Wk2.split : ∀ {a b : List Con} {u z : Nat}, Wk2 u (a ++ b) z → ∃ v, Wk2 u a v ∧ Wk2 v b z
  | [], _, u, _, h => ⟨u, rfl, h⟩
  | _ :: _, _, _, _, h => by
    obtain ⟨v, h1, h2⟩ := Wk2.split h.2
    exact ⟨v, ⟨h.1, h1⟩, h2⟩
def Byw (m : Vector Int 576) (l : List Con) : Prop := ∀ i j, i < 24 → j < 24 → ¬ mm m i j = NB → ∃ w, (∀ c ∈ w, c ∈ l) ∧ Wk2 i w j ∧ wt w = mm m i j
theorem byw_free : Byw freeM [] := by
  intro i j hi hj h
  rw [mm_free hi hj] at h ⊢
  split at h
  · rename_i e
    subst e
    exact ⟨[], by simp, rfl, by rw [if_pos rfl]; rfl⟩
  · exact (h rfl).elim
theorem byw_step {m : Vector Int 576} {l : List Con} {c : Con} (h : CM m l) (hb : Byw m l) (hc : Good 24 [c]) (hs : (addM m c.f c.t c.m).1 = true) : Byw (addM m c.f c.t c.m).2 (l ++ [c]) := by
  have := hB0
  obtain ⟨c1, c2, c3⟩ := hc c (by simp)
  have hs' : (addM m (c.f.toNat : Int) (c.t.toNat : Int) c.m).1 = true := by rw [show ((c.f.toNat : Nat) : Int) = c.f by omega, show ((c.t.toNat : Nat) : Int) = c.t by omega]; exact hs
  have r := h.cl.rel (f := c.f.toNat) (t := c.t.toNat) (w := c.m) (by omega) (by omega) (by omega) (by omega) hs'
  rw [show ((c.f.toNat : Nat) : Int) = c.f by omega, show ((c.t.toNat : Nat) : Int) = c.t by omega] at r
  intro i j hi hj hn
  rcases r.one i j hi hj with e | ⟨a1, a2, e⟩
  · obtain ⟨w, w1, w2, w3⟩ := hb i j hi hj (by rwa [← e])
    exact ⟨w, fun c hc => List.mem_append_left _ (w1 c hc), w2, by rw [e]; exact w3⟩
  · obtain ⟨w, w1, w2, w3⟩ := hb i c.f.toNat hi (by omega) a1
    obtain ⟨y, y1, y2, y3⟩ := hb c.t.toNat j (by omega) hj a2
    refine ⟨w ++ c :: y, fun d hd => ?_, w2.app ⟨rfl, y2⟩, by rw [wt_append, wt_cons, e, w3, y3]; omega⟩
    simp only [List.mem_append, List.mem_cons] at hd ⊢
    rcases hd with h1 | h1 | h1
    · exact .inl (w1 d h1)
    · exact .inr (.inl h1)
    · exact .inl (y1 d h1)
theorem neg_of_none : ∀ (l : List Con) {m : Vector Int 576} {p : List Con}, CM m p → Byw m p → Good 24 p → Good 24 l → addAll m l = none → ∃ u w, u < 24 ∧ (∀ c ∈ w, c ∈ p ++ l) ∧ Wk2 u w u ∧ wt w < 0
  | [], _, _, _, _, _, _, e => by cases e
  | c :: l, m, p, h, hb, hp, hl, e => by
    have hc : Good 24 [c] := fun c' h' => hl c' (by rw [List.mem_singleton] at h'; simp [h'])
    have hl' : Good 24 l := fun c' h' => hl c' (by simp [h'])
    rw [addAll_cons] at e
    by_cases hs : (addM m c.f c.t c.m).1 = true
    · rw [if_pos hs] at e
      have := neg_of_none l (h.step hp hc hs) (byw_step h hb hc hs) (hp.append hc) hl' e
      simpa using this
    · obtain ⟨c1, c2, c3⟩ := hc c (by simp)
      have hs' : ¬ (addM m (c.f.toNat : Int) (c.t.toNat : Int) c.m).1 = true := by rw [show ((c.f.toNat : Nat) : Int) = c.f by omega, show ((c.t.toNat : Nat) : Int) = c.t by omega]; exact hs
      obtain ⟨b1, b2⟩ := h.cl.bad (f := c.f.toNat) (t := c.t.toNat) (w := c.m) (by omega) (by omega) (by omega) hs'
      obtain ⟨w, w1, w2, w3⟩ := hb c.t.toNat c.f.toNat (by omega) (by omega) b1
      refine ⟨c.f.toNat, c :: w, by omega, fun d hd => ?_, ⟨rfl, w2⟩, by rw [wt_cons, w3]; exact b2⟩
      rcases List.mem_cons.mp hd with h1 | h1
      · rw [h1]; simp
      · exact List.mem_append_left _ (w1 d h1)
def NegW (l : List Con) (u : Nat) (w : List Con) : Prop := (∀ c ∈ w, c ∈ l) ∧ Wk2 u w u ∧ wt w < 0
theorem neg_short {l : List Con} : ∀ (k : Nat) (u : Nat) (w : List Con), NegW l u w → w.length ≤ k → ∃ u' w', NegW l u' w' ∧ w'.length ≤ w.length ∧ ∀ u'' w'', NegW l u'' w'' → w'.length ≤ w''.length
  | 0, u, w, h, hk => ⟨u, w, h, Nat.le_refl _, fun _ _ _ => by omega⟩
  | k + 1, u, w, h, hk => by
    by_cases hex : ∃ u' w', NegW l u' w' ∧ w'.length < w.length
    · obtain ⟨u', w', h1, h2⟩ := hex
      obtain ⟨a, b, h3, h4, h5⟩ := neg_short k u' w' h1 (by omega)
      exact ⟨a, b, h3, by omega, h5⟩
    · refine ⟨u, w, h, Nat.le_refl _, fun u'' w'' h'' => ?_⟩
      rcases Nat.lt_or_ge w''.length w.length with h1 | h1
      · exact (hex ⟨u'', w'', h'', h1⟩).elim
      · exact h1
theorem simple_of_min {l : List Con} {u : Nat} {w : List Con} (h : NegW l u w) (hmin : ∀ u'' w'', NegW l u'' w'' → w.length ≤ w''.length) : w.Pairwise fun a b => ¬ a.f.toNat = b.f.toNat := by
  rw [List.pairwise_iff_forall_sublist]
  intro a b hab hf
  obtain ⟨x, y, z, rfl⟩ : ∃ x y z, w = x ++ a :: (y ++ b :: z) := by
    have : ∀ w : List Con, [a, b].Sublist w → ∃ x y z, w = x ++ a :: (y ++ b :: z) := by
      intro w hw
      induction w with
      | nil => cases hw
      | cons c w ih =>
        cases hw with
        | cons _ h1 => obtain ⟨x, y, z, rfl⟩ := ih h1; exact ⟨c :: x, y, z, rfl⟩
        | cons_cons _ h1 =>
          have : b ∈ w := h1.subset (by simp)
          obtain ⟨y, z, rfl⟩ := List.append_of_mem this
          exact ⟨[], y, z, rfl⟩
    exact this w hab
  obtain ⟨h1, h2, h3⟩ := h
  obtain ⟨v, p1, p2⟩ := h2.split
  obtain ⟨q1, q2⟩ := p2
  obtain ⟨v2, r1, r2⟩ := q2.split
  obtain ⟨s1, s2⟩ := r2
  -- the inner part, and the outer one
  have in1 : Wk2 v (a :: y) v := ⟨q1, by rw [← q1, hf, s1]; exact r1⟩
  have out1 : Wk2 u (x ++ b :: z) u := p1.app ⟨by rw [← hf, q1], s2⟩
  have hw : wt (x ++ a :: (y ++ b :: z)) = wt (a :: y) + wt (x ++ b :: z) := by simp only [wt_append, wt_cons]; omega
  have hl : (x ++ a :: (y ++ b :: z)).length = (a :: y).length + (x ++ b :: z).length := by simp; omega
  by_cases hneg : wt (a :: y) < 0
  · have := hmin v (a :: y) ⟨fun c hc => h1 c (by
      simp only [List.mem_cons, List.mem_append] at hc ⊢
      rcases hc with h | h
      · exact .inr (.inl h)
      · exact .inr (.inr (.inl h))), in1, hneg⟩
    simp only [List.length_append, List.length_cons] at this
    omega
  · have := hmin u (x ++ b :: z) ⟨fun c hc => h1 c (by
      simp only [List.mem_cons, List.mem_append] at hc ⊢
      rcases hc with h | h | h
      · exact .inl h
      · exact .inr (.inr (.inr (.inl h)))
      · exact .inr (.inr (.inr (.inr h)))), out1, by omega⟩
    simp only [List.length_append, List.length_cons] at this
    omega
end Go.Lat
namespace Go.Lat
theorem len_le_of_sub {α : Type} : ∀ {w q : List α}, w.Pairwise (fun a b => ¬ a = b) → (∀ a ∈ w, a ∈ q) → w.length ≤ q.length
  | [], _, _, _ => Nat.zero_le _
  | a :: w, q, hp, hs => by
    rw [List.pairwise_cons] at hp
    obtain ⟨s, t, rfl⟩ := List.append_of_mem (hs a (by simp))
    have := len_le_of_sub (w := w) (q := s ++ t) hp.2 (fun b hb => by
      have h1 := hs b (by simp [hb])
      have h2 := hp.1 b hb
      simp only [List.mem_append, List.mem_cons] at h1 ⊢
      rcases h1 with h | h | h
      · exact .inl h
      · exact (h2 h.symm).elim
      · exact .inr h)
    simp only [List.length_cons, List.length_append] at this ⊢
    omega
theorem simple_len {n : Nat} {l w : List Con} (hg : Good n l) (hw : ∀ c ∈ w, c ∈ l) (hs : w.Pairwise fun a b => ¬ a.f.toNat = b.f.toNat) : w.length ≤ n := by
  have h1 : (w.map fun c => c.f.toNat).Pairwise (fun a b => ¬ a = b) := by rw [List.pairwise_map]; exact hs
  have := len_le_of_sub h1 (q := List.range n) (fun a ha => by
    rw [List.mem_map] at ha
    obtain ⟨c, hc, rfl⟩ := ha
    have := hg c (hw c hc)
    exact List.mem_range.mpr (by omega))
  simpa using this
theorem wt_bd {n : Nat} {l : List Con} (hg : Good n l) : ∀ {w : List Con}, (∀ c ∈ w, c ∈ l) → -(w.length * 1125899906842624 : Int) ≤ wt w ∧ wt w ≤ w.length * 1125899906842624
  | [], _ => by simp [wt_nil]
  | c :: w, h => by
    have := wt_bd hg (w := w) (fun c hc => h c (by simp [hc]))
    obtain ⟨-, -, c3⟩ := hg c (h c (by simp))
    rw [wt_cons, List.length_cons]
    omega
theorem fold_le {n : Nat} (hn : n ≤ 24) {d : Vector Int 24} : ∀ (l : List Con), Good n l → ∀ (o : Vector Int 24),
    (∀ u, vat (l.foldl (relStep d) o) u ≤ vat o u) ∧ ∀ c ∈ l, vat (l.foldl (relStep d) o) c.f.toNat ≤ plusM c.m (vat d c.t.toNat)
  | [], _, _ => ⟨fun _ => Int.le_refl _, fun _ h => by cases h⟩
  | c :: l, hg, o => by
    obtain ⟨c1, c2, c3⟩ := hg c (by simp)
    obtain ⟨h1, h2⟩ := fold_le hn l (fun c' h' => hg c' (by simp [h'])) (relStep d o c)
    have e : ∀ u, vat (relStep d o c) u ≤ vat o u := fun u => by
      unfold relStep; rw [vat_vset (by omega)]; split
      · rename_i h; subst h; omega
      · exact Int.le_refl _
    have e2 : vat (relStep d o c) c.f.toNat ≤ plusM c.m (vat d c.t.toNat) := by
      unfold relStep; rw [vat_vset (by omega), if_pos rfl]; omega
    refine ⟨fun u => Int.le_trans (h1 u) (e u), fun c' hc' => ?_⟩
    rcases List.mem_cons.mp hc' with h | h
    · subst h; exact Int.le_trans (h1 _) e2
    · exact h2 c' h
theorem fold_ex {n : Nat} (hn : n ≤ 24) {d : Vector Int 24} : ∀ (l : List Con), Good n l → ∀ (o : Vector Int 24) (u : Nat),
    vat (l.foldl (relStep d) o) u = vat o u ∨ ∃ c ∈ l, c.f.toNat = u ∧ vat (l.foldl (relStep d) o) u = plusM c.m (vat d c.t.toNat)
  | [], _, _, _ => .inl rfl
  | c :: l, hg, o, u => by
    obtain ⟨c1, c2, c3⟩ := hg c (by simp)
    show vat (l.foldl (relStep d) (relStep d o c)) u = vat o u ∨ ∃ c' ∈ c :: l, c'.f.toNat = u ∧ vat (l.foldl (relStep d) (relStep d o c)) u = plusM c'.m (vat d c'.t.toNat)
    rcases fold_ex hn l (fun c' h' => hg c' (by simp [h'])) (relStep d o c) u with h | ⟨c', h1, h2, h3⟩
    · by_cases e : u = c.f.toNat
      · have e1 : vat (relStep d o c) u = min (vat o c.f.toNat) (plusM c.m (vat d c.t.toNat)) := by unfold relStep; rw [vat_vset (by omega), if_pos e]
        rw [h, e1]
        rcases Int.le_total (vat o c.f.toNat) (plusM c.m (vat d c.t.toNat)) with h4 | h4
        · exact .inl (by rw [e]; omega)
        · exact .inr ⟨c, by simp, e.symm, by omega⟩
      · have e1 : vat (relStep d o c) u = vat o u := by unfold relStep; rw [vat_vset (by omega), if_neg e]
        exact .inl (by rw [h, e1])
    · exact .inr ⟨c', by simp [h1], h2, h3⟩
section
variable {n : Nat} (hn : n ≤ 24) {l : List Con} (hg : Good n l) {v : Int} (hv : 0 ≤ v ∧ v < n) {above : Int}
include hn hg hv
theorem tab_le : ∀ (r : Nat) (u : Nat) (w : List Con), u < n → r ≤ 25 → w.length = r → (∀ c ∈ w, c ∈ l.drop (above + 1).toNat) → Wk2 u w v.toNat → vat (tabD l v above r) u ≤ wt w
  | 0, u, w, hu, _, hw, _, hk => by
    have : w = [] := List.eq_nil_of_length_eq_zero hw
    subst this
    cases hk
    show vat (vset _ _ _) _ ≤ _
    rw [vat_vset (by omega), if_pos rfl]
    exact Int.le_refl _
  | r + 1, u, w, hu, hr, hw, hm, hk => by
    have hnb := hNB
    match w, hw, hm, hk with
    | c :: w, hw, hm, hk =>
      obtain ⟨k1, k2⟩ := hk
      have hgd : Good n (l.drop (above + 1).toNat) := fun c hc => hg c (List.mem_of_mem_drop hc)
      obtain ⟨c1, c2, c3⟩ := hgd c (hm c (by simp))
      have ih := tab_le r c.t.toNat w (by omega) (by omega) (by simpa using hw) (fun c hc => hm c (by simp [hc])) k2
      have hb := wt_bd hgd (w := w) (fun c hc => hm c (by simp [hc]))
      have hw' : w.length = r := by simpa using hw
      have h2 := (fold_le hn (d := tabD l v above r) _ hgd (Vector.replicate 24 NB)).2 c (hm c (by simp))
      show vat (longerM _ _ _) _ ≤ _
      rw [longerM_eq, wt_cons, ← k1]
      have : vat (tabD l v above r) c.t.toNat ≤ 25 * 1125899906842624 := by
        have : (w.length : Int) ≤ 25 := by omega
        omega
      rw [plusM_nb (by omega) (by omega)] at h2
      omega
theorem tab_ex : ∀ (r : Nat) (u : Nat), u < n → vat (tabD l v above r) u < NB → ∃ w, w.length = r ∧ (∀ c ∈ w, c ∈ l.drop (above + 1).toNat) ∧ Wk2 u w v.toNat ∧ wt w = vat (tabD l v above r) u
  | 0, u, hu, h => by
    change vat (vset _ _ _) _ < NB at h
    rw [vat_vset (by omega), vat_rep (by omega)] at h
    split at h
    · rename_i e
      refine ⟨[], rfl, fun c hc => (by cases hc), e, ?_⟩
      show _ = vat (vset _ _ _) _
      rw [vat_vset (by omega), if_pos e]; rfl
    · omega
  | r + 1, u, hu, h => by
    have hnb := hNB
    have hgd : Good n (l.drop (above + 1).toNat) := fun c hc => hg c (List.mem_of_mem_drop hc)
    have e : tabD l v above (r + 1) = (l.drop (above + 1).toNat).foldl (relStep (tabD l v above r)) (Vector.replicate 24 NB) := longerM_eq
    rw [e] at h ⊢
    rcases fold_ex hn (d := tabD l v above r) _ hgd (Vector.replicate 24 NB) u with h1 | ⟨c, hc, h1, h2⟩
    · rw [h1, vat_rep (by omega)] at h; omega
    · obtain ⟨c1, c2, c3⟩ := hgd c hc
      rw [h2] at h ⊢
      by_cases f : vat (tabD l v above r) c.t.toNat = NB
      · rw [plusM_inf (.inr f)] at h; omega
      · rw [plusM_nb (by omega) f] at h ⊢
        have hb := tabD_bd (l := l) (to := v) (above := above) (fun c hc => ⟨⟨(hg c hc).1.1, by have := (hg c hc).1.2; omega⟩, (hg c hc).2.2.1⟩) ⟨hv.1, by omega⟩ r c.t.toNat
        obtain ⟨w, w1, w2, w3, w4⟩ := tab_ex r c.t.toNat (by omega) (by omega)
        refine ⟨c :: w, by simp [w1], fun d hd => ?_, ⟨h1, w3⟩, by rw [wt_cons, w4]⟩
        rcases List.mem_cons.mp hd with h | h
        · rw [h]; exact hc
        · exact w2 d h
end
theorem size_le {n : Nat} (hn : 1 ≤ n ∧ n ≤ 24) {l : List Con} (hg : Good n l) {u : Nat} {w : List Con} (h : NegW l u w) : sizeM n l ≤ w.length := by
  obtain ⟨u', w', h', hl, hmin⟩ := neg_short w.length u w h (Nat.le_refl _)
  have hs := simple_of_min h' hmin
  have hlen := simple_len hg h'.1 hs
  obtain ⟨k1, k2, k3⟩ := h'
  have hne : w' ≠ [] := fun e => by subst e; rw [wt_nil] at k3; omega
  have hu' : u' < n := by
    match w', hne, k1, k2 with
    | c :: w, _, k1, k2 =>
      have := hg c (k1 c (by simp))
      have := k2.1
      omega
  have ht := tab_le hn.2 hg (v := (u' : Int)) (by omega) (above := -1) w'.length u' w' hu' (by omega) rfl (by simpa using k1) (by simpa using k2)
  have hz := sizeM_le.mp (Int.le_refl (sizeM n l))
  rcases e : sizeAt n l u' with _ | r
  · exfalso
    unfold sizeAt at e
    rw [List.find?_eq_none] at e
    have := e w'.length (List.mem_range.mpr (by omega))
    simp at this
    omega
  · have h1 := hz.2 u' hu' r e
    have h2 : r ≤ w'.length := by
      unfold sizeAt at e
      rw [List.find?_range_eq_some] at e
      rcases Nat.lt_or_ge w'.length r with h3 | h3
      · have := e.2.2 w'.length h3
        simp at this
        omega
      · exact h3
    omega
end Go.Lat
namespace Go.Lat
theorem sizeM_at {n : Nat} {l : List Con} : sizeM n l = n + 1 ∨ ∃ v, v < n ∧ ∃ r, sizeAt n l v = some r ∧ sizeM n l = r := by
  rw [sizeM_eq]
  have K : ∀ q : Nat, (List.range q).foldl (sizeStep n l) ((n : Int) + 1) = n + 1 ∨ ∃ v, v < q ∧ ∃ r, sizeAt n l v = some r ∧ (List.range q).foldl (sizeStep n l) ((n : Int) + 1) = r := by
    intro q
    induction q with
    | zero => exact .inl rfl
    | succ q ih =>
      rw [List.range_succ, List.foldl_append]
      simp only [List.foldl_cons, List.foldl_nil]
      generalize (List.range q).foldl (sizeStep n l) ((n : Int) + 1) = z at ih
      unfold sizeStep
      rcases hq : sizeAt n l q with _ | r
      · dsimp only
        rcases ih with h | ⟨v, hv, h⟩
        · exact .inl h
        · exact .inr ⟨v, by omega, h⟩
      · dsimp only
        rcases Int.le_total z r with h1 | h1
        · rw [show min z (r : Int) = z by omega]
          rcases ih with h | ⟨v, hv, h⟩
          · exact .inl h
          · exact .inr ⟨v, by omega, h⟩
        · exact .inr ⟨q, by omega, r, hq, by omega⟩
  exact K _
theorem mem_drop {l : List Con} {i k : Nat} (h : k ≤ i) (hi : i < l.length) : l.getD i default ∈ l.drop k := by
  rw [List.mem_iff_getElem?]
  refine ⟨i - k, ?_⟩
  rw [List.getElem?_drop, show k + (i - k) = i by omega, List.getElem?_eq_getElem hi]
  simp [hi]
theorem of_mem_drop {l : List Con} {k : Nat} {c : Con} (h : c ∈ l.drop k) : ∃ i, k ≤ i ∧ i < l.length ∧ l.getD i default = c := by
  obtain ⟨j, hj, rfl⟩ := List.getElem_of_mem h
  rw [List.length_drop] at hj
  refine ⟨k + j, by omega, by omega, ?_⟩
  have : k + j < l.length := by omega
  simp [this]
section
variable {n : Nat} (hn : n ≤ 24) {l : List Con} (hg : Good n l) {v : Int} (hv : 0 ≤ v ∧ v < n) {s : Nat} {size : Int} (hsz : size ≤ 25)
include hn hg hv hsz
theorem chain_ok : ∀ (q : Nat) (out : List Int) (at_ total : Int), 0 ≤ at_ ∧ at_ < n → (out.length : Int) ≤ size → size ≤ q + out.length →
    (-(out.length * 1125899906842624 : Int) ≤ total ∧ total ≤ out.length * 1125899906842624) →
    ¬ vat (tabD l v s (size - out.length).toNat) at_.toNat = NB → total + vat (tabD l v s (size - out.length).toNat) at_.toNat < 0 →
    ∃ ext : List Int, chainC l (tabD l v s) size s q out at_ total = some (out ++ ext) ∧ ((out ++ ext).length : Int) = size ∧ (∀ i ∈ ext, 0 ≤ i ∧ i < (l.length : Int)) ∧
      Wk2 at_.toNat (ext.map (lat l)) v.toNat ∧ total + wt (ext.map (lat l)) < 0 := by
  intro q
  have hnb := hNB
  induction q with
  | zero =>
    intro out at_ total ha h1 h2 hb h3 h4
    have e : (size - out.length).toNat = 0 := by omega
    rw [e] at h3 h4
    have e2 : vat (tabD l v s 0) at_.toNat = if at_.toNat = v.toNat then 0 else NB := by
      show vat (vset _ _ _) _ = _
      rw [vat_vset (by omega), vat_rep (by omega)]
    rw [e2] at h3 h4
    split at h3
    · rename_i e3
      rw [if_pos e3] at h4
      exact ⟨[], by rw [List.append_nil]; rfl, by rw [List.append_nil]; omega, by simp, e3, by simpa [wt_nil] using h4⟩
    · exact (h3 rfl).elim
  | succ q ih =>
    intro out at_ total ha h1 h2 hb h3 h4
    by_cases hlt : (out.length : Int) < size
    · have hgd : Good n (l.drop (s + 1)) := fun c hc => hg c (List.mem_of_mem_drop hc)
      have ek : (size - out.length).toNat = (size - out.length - 1).toNat + 1 := by omega
      have e0 : ((s : Int) + 1).toNat = s + 1 := by omega
      have e : tabD l v s (size - out.length).toNat = (l.drop (s + 1)).foldl (relStep (tabD l v s (size - out.length - 1).toNat)) (Vector.replicate 24 NB) := by
        rw [ek]
        show longerM _ _ _ = _
        rw [longerM_eq, e0]
      have hTB : ∀ (k : Nat) u, u < n → -(25 * 1125899906842624 : Int) ≤ vat (tabD l v s k) u ∨ 25 < k := fun k u hu => by
        have := tabD_bd (l := l) (to := v) (above := (s : Int)) (fun c hc => ⟨⟨(hg c hc).1.1, by have := (hg c hc).1.2; omega⟩, (hg c hc).2.2.1⟩) ⟨hv.1, by omega⟩ k u
        omega
      have hex : ∃ i, (s + 1 ≤ i ∧ i < l.length) ∧ ((l.getD i default).f = at_ ∧ plusM (total + (l.getD i default).m) (vat (tabD l v s (size - out.length - 1).toNat) (l.getD i default).t.toNat) < 0) := by
        rw [e] at h3 h4
        rcases fold_ex hn (d := tabD l v s (size - out.length - 1).toNat) _ hgd (Vector.replicate 24 NB) at_.toNat with h5 | ⟨c, hc, h5, h6⟩
        · rw [h5, vat_rep (by omega)] at h3; exact (h3 rfl).elim
        · obtain ⟨c1, c2, c3⟩ := hgd c hc
          obtain ⟨i, i1, i2, i3⟩ := of_mem_drop hc
          refine ⟨i, ⟨i1, i2⟩, ?_⟩
          rw [i3]
          rw [h6] at h3 h4
          by_cases f : vat (tabD l v s (size - out.length - 1).toNat) c.t.toNat = NB
          · rw [plusM_inf (.inr f)] at h3; exact (h3 rfl).elim
          · rw [plusM_nb (by omega) f] at h4
            refine ⟨by omega, ?_⟩
            rw [plusM_nb (by omega) f]; omega
      rcases hnx : nextC l (tabD l v s) size s out.length at_ total with _ | i
      · exfalso
        obtain ⟨i, ⟨i1, i2⟩, i3⟩ := hex
        unfold nextC at hnx
        rw [List.find?_eq_none] at hnx
        refine hnx i ?_ (decide_eq_true i3)
        rw [List.range_eq_range', List.drop_range', List.mem_range'_1]; omega
      · have hm := List.mem_of_find?_eq_some hnx
        have hnx2 := hnx
        unfold nextC at hnx2
        have hp0 := List.find?_some hnx2
        have hp := of_decide_eq_true hp0
        rw [List.range_eq_range', List.drop_range', List.mem_range'_1] at hm
        have hi : i < l.length := by omega
        obtain ⟨c1, c2, c3⟩ := hg (l.getD i default) (by simp [hi])
        have f : ¬ vat (tabD l v s (size - out.length - 1).toNat) (l.getD i default).t.toNat = NB := fun f => by
          have := hp.2; rw [plusM_inf (.inr f)] at this; omega
        have hp2 := hp.2
        rw [plusM_nb (by omega) f] at hp2
        have hlen : ((out ++ [(i : Int)]).length : Int) = out.length + 1 := by simp
        have ee : (size - ((out ++ [(i : Int)]).length : Int)).toNat = (size - out.length - 1).toNat := by omega
        obtain ⟨ext, r1, r2, r3, r4, r5⟩ := ih (out ++ [(i : Int)]) (l.getD i default).t (total + (l.getD i default).m) c2 (by omega) (by omega) (by omega) (by rw [ee]; exact f) (by rw [ee]; omega)
        refine ⟨(i : Int) :: ext, ?_, ?_, fun j hj => ?_, ⟨?_, ?_⟩, ?_⟩
        · rw [chain_some hlt hnx, r1, List.append_assoc]; rfl
        · rw [← r2]; simp
        · rcases List.mem_cons.mp hj with h | h
          · omega
          · exact r3 j h
        · rw [lat_nat, hp.1]
        · rw [lat_nat]; exact r4
        · rw [List.map_cons, wt_cons, lat_nat]; omega
    · have e : (size - out.length).toNat = 0 := by omega
      rw [e] at h3 h4
      have e2 : vat (tabD l v s 0) at_.toNat = if at_.toNat = v.toNat then 0 else NB := by
        show vat (vset _ _ _) _ = _
        rw [vat_vset (by omega), vat_rep (by omega)]
      rw [e2] at h3 h4
      split at h3
      · rename_i e3
        rw [if_pos e3] at h4
        exact ⟨[], by rw [List.append_nil]; exact chain_done hlt, by rw [List.append_nil]; omega, by simp, e3, by simpa [wt_nil] using h4⟩
      · exact (h3 rfl).elim
end
theorem firstAt_spec {n : Nat} (hn : n ≤ 24) {l : List Con} (hg : Good n l) {size : Int} (h1 : 1 ≤ size) (hsz : size ≤ 25) {s : Nat} (hs : s < l.length) :
    (0 ≤ plusM (l.getD s default).m (vat (tabD l (l.getD s default).f s (size - 1).toNat) (l.getD s default).t.toNat) ∧ firstAt l size s = none) ∨ ∃ ext : List Int, firstAt l size s = some ((s : Int) :: ext) ∧ (((s : Int) :: ext).length : Int) = size ∧ (∀ i ∈ ((s : Int) :: ext), 0 ≤ i ∧ i < (l.length : Int)) ∧
      NegW l (l.getD s default).f.toNat (((s : Int) :: ext).map (lat l)) := by
  have hnb := hNB
  obtain ⟨c1, c2, c3⟩ := hg (l.getD s default) (by simp [hs])
  by_cases h : 0 ≤ plusM (l.getD s default).m (vat (tabD l (l.getD s default).f s (size - 1).toNat) (l.getD s default).t.toNat)
  · exact .inl ⟨h, firstAt_none h⟩
  · refine .inr ?_
    rw [firstAt_some h]
    have f : ¬ vat (tabD l (l.getD s default).f s (size - 1).toNat) (l.getD s default).t.toNat = NB := fun f => by
      rw [plusM_inf (.inr f)] at h; omega
    rw [plusM_nb (by omega) f] at h
    obtain ⟨ext, r1, r2, r3, r4, r5⟩ := chain_ok hn hg c1 (s := s) hsz size.toNat [(s : Int)] (l.getD s default).t (l.getD s default).m c2 (by simp; omega) (by simp; omega) (by simp only [List.length_cons, List.length_nil]; omega) (by simpa using f) (by simp only [List.length_cons, List.length_nil]; simp only [Nat.zero_add]; exact Int.lt_of_not_ge h)
    have hall : ∀ i ∈ ((s : Int) :: ext), 0 ≤ i ∧ i < (l.length : Int) := fun i hi => by
      rcases List.mem_cons.mp hi with h | h
      · omega
      · exact r3 i h
    refine ⟨ext, r1, r2, hall, fun c hc => ?_, ?_, ?_⟩
    · rw [List.mem_map] at hc
      obtain ⟨i, hi, rfl⟩ := hc
      exact lat_mem (hall i hi)
    · rw [List.map_cons, lat_nat]; exact ⟨rfl, r4⟩
    · rw [List.map_cons, wt_cons, lat_nat]; exact r5
end Go.Lat
namespace Go.Lat
theorem min_by {α : Type} (f : α → Nat) : ∀ {l : List α}, l ≠ [] → ∃ a ∈ l, ∀ b ∈ l, f a ≤ f b
  | [a], _ => ⟨a, by simp, fun b hb => by rw [List.mem_singleton] at hb; rw [hb]; exact Nat.le_refl _⟩
  | a :: b :: l, _ => by
    obtain ⟨c, hc, h⟩ := min_by f (l := b :: l) (by simp)
    rcases Nat.le_total (f a) (f c) with h1 | h1
    · refine ⟨a, by simp, fun d hd => ?_⟩
      rcases List.mem_cons.mp hd with h2 | h2
      · rw [h2]; exact Nat.le_refl _
      · exact Nat.le_trans h1 (h d h2)
    · refine ⟨c, by simp [hc], fun d hd => ?_⟩
      rcases List.mem_cons.mp hd with h2 | h2
      · rw [h2]; exact h1
      · exact h d h2
structure FirstC (n : Nat) (l : List Con) (c : List Int) : Prop where
  len : (c.length : Int) = sizeM n l
  sz : 1 ≤ sizeM n l ∧ sizeM n l ≤ n
  idx : ∀ i ∈ c, 0 ≤ i ∧ i < (l.length : Int)
  neg : ∃ u, NegW l u (c.map (lat l))
theorem first_cycle {n : Nat} (hn : 1 ≤ n ∧ n ≤ 24) {l : List Con} (hg : Good n l) (hinf : ∀ x, ¬ SolL l x) : FirstC n l (firstM n l) := by
  have hnb := hNB
  have hg24 : Good 24 l := fun c hc => by have := hg c hc; omega
  have hno : addAll freeM l = none := by
    rcases e : addAll freeM l with _ | m
    · rfl
    · obtain ⟨x, hx⟩ := ((close_spec hg24).1 m e).sol_ex
      exact (hinf x hx).elim
  obtain ⟨u0, w0, -, a1, a2, a3⟩ := neg_of_none l CM.free byw_free (fun _ h => by cases h) hg24 hno
  have hN0 : NegW l u0 w0 := ⟨by simpa using a1, a2, a3⟩
  obtain ⟨u1, w1, hN1, -, hmin1⟩ := neg_short w0.length u0 w0 hN0 (Nat.le_refl _)
  have hs1 := simple_of_min hN1 hmin1
  have hl1 := simple_len hg hN1.1 hs1
  have hszn : sizeM n l ≤ n := by have := size_le hn hg hN1; omega
  have hsz1 := (sizeM_bd (n := (n : Int)) (l := l) (by omega) n (by omega)).1
  rw [show (List.range n) = List.range ((n : Int)).toNat by simp, ← sizeM_eq] at hsz1
  -- a closed walk of that size
  obtain ⟨v, hv, r, hr1, hr2⟩ := (sizeM_at (n := n) (l := l)).resolve_left (by omega)
  have hneg : vat (tabD l v (-1) r) v < 0 := by
    unfold sizeAt at hr1
    have h0 := List.find?_some hr1
    exact of_decide_eq_true h0
  obtain ⟨W, b1, b2, b3, b4⟩ := tab_ex hn.2 hg (v := (v : Int)) (by omega) (above := -1) r v hv (by omega)
  have hNW : NegW l v W := ⟨by simpa using b2, by simpa using b3, by rw [b4]; exact hneg⟩
  have hminW : ∀ u'' w'', NegW l u'' w'' → W.length ≤ w''.length := fun u'' w'' h => by have := size_le hn hg h; omega
  have hsW := simple_of_min hNW hminW
  -- the constraint of it that comes first
  have hi : ∀ c : Con, ∃ i : Nat, c ∈ l → i < l.length ∧ l.getD i default = c := fun c => by
    by_cases h : c ∈ l
    · obtain ⟨i, hi, rfl⟩ := List.getElem_of_mem h
      exact ⟨i, fun _ => ⟨hi, by simp [hi]⟩⟩
    · exact ⟨0, fun h' => (h h').elim⟩
  obtain ⟨ι, hι⟩ : ∃ ι : Con → Nat, ∀ c, c ∈ l → ι c < l.length ∧ l.getD (ι c) default = c := ⟨fun c => (hi c).choose, fun c => (hi c).choose_spec⟩
  have hWne : W ≠ [] := fun e => by have := hNW.2.2; rw [e, wt_nil] at this; omega
  obtain ⟨c, hcW, hcm⟩ := min_by ι hWne
  obtain ⟨x, y, hxy⟩ := List.append_of_mem hcW
  have hcl := hNW.1 c hcW
  obtain ⟨s1, s2⟩ := hι c hcl
  obtain ⟨cf, ct, cm⟩ := hg c hcl
  have hrest : ∀ d ∈ y ++ x, d ∈ l.drop (ι c + 1) := fun d hd => by
    have hdW : d ∈ W := by rw [hxy]; simp only [List.mem_append, List.mem_cons] at hd ⊢; rcases hd with h | h
                           · exact .inr (.inr h)
                           · exact .inl h
    obtain ⟨t1, t2⟩ := hι d (hNW.1 d hdW)
    have h1 := hcm d hdW
    have h2 : ¬ ι d = ι c := fun e => by
      have e2 : d = c := by rw [← t2, ← s2, e]
      subst e2
      rw [hxy, List.pairwise_append, List.pairwise_cons] at hsW
      rcases List.mem_append.mp hd with h | h
      · exact hsW.2.1.1 d h rfl
      · exact hsW.2.2 d h d (by simp) rfl
    rw [← t2]
    exact mem_drop (by omega) t1
  have hwalk : Wk2 c.t.toNat (y ++ x) c.f.toNat := by
    have h := hNW.2.1
    rw [hxy] at h
    obtain ⟨z, p1, p2⟩ := h.split
    have e := p2.1
    exact p2.2.app (by rw [e]; exact p1)
  have hwt : c.m + wt (y ++ x) < 0 := by
    have h := hNW.2.2
    rw [hxy, wt_append, wt_cons] at h
    rw [wt_append]; omega
  have hlen : (y ++ x).length + 1 = r := by rw [← b1, hxy]; simp; omega
  have htab := tab_le hn.2 hg (v := c.f) cf (above := (ι c : Int)) (r - 1) c.t.toNat (y ++ x) (by omega) (by omega) (by omega) (by rw [show ((ι c : Int) + 1).toNat = ι c + 1 by omega]; exact hrest) hwalk
  have hbd := wt_bd (fun c hc => hg c (List.mem_of_mem_drop hc)) hrest
  -- so a chain is found
  have hz : ∃ o, (List.range l.length).findSome? (fun s => firstAt l (sizeM n l) s) = some o := by
    rcases e : (List.range l.length).findSome? (fun s => firstAt l (sizeM n l) s) with _ | o
    · exfalso
      rw [List.findSome?_eq_none_iff] at e
      have h0 := e (ι c) (List.mem_range.mpr s1)
      have ht : ¬ 0 ≤ plusM (l.getD (ι c) default).m (vat (tabD l (l.getD (ι c) default).f (ι c) (sizeM n l - 1).toNat) (l.getD (ι c) default).t.toNat) := by
        rw [s2, show (sizeM n l - 1).toNat = r - 1 by omega]
        have : (y ++ x).length ≤ 24 := by omega
        rw [plusM_nb (by omega) (by omega)]
        omega
      rcases firstAt_spec hn.2 hg hsz1 (size := sizeM n l) (by omega) s1 with h | ⟨ext, h, -⟩
      · exact ht h.1
      · rw [h0] at h; cases h
    · exact ⟨o, rfl⟩
  obtain ⟨o, ho⟩ := hz
  have hfm : firstM n l = o := by unfold firstM; rw [ho]; rfl
  obtain ⟨s, hs, hso⟩ := List.exists_of_findSome?_eq_some ho
  rcases firstAt_spec hn.2 hg hsz1 (size := sizeM n l) (by omega) (List.mem_range.mp hs) with h | ⟨ext, h, h2, h3, h4⟩
  · rw [h.2] at hso; cases hso
  · rw [h] at hso
    cases hso
    rw [hfm]
    exact ⟨h2, ⟨hsz1, hszn⟩, h3, _, h4⟩
end Go.Lat
namespace Go.Lat
theorem wk_tele {x : Nat → Int} : ∀ {w : List Con} {u v : Nat}, Wk2 u w v → SolL w x → x v - x u ≤ wt w
  | [], _, _, h, _ => by cases h; rw [wt_nil]; omega
  | c :: w, u, v, h, hs => by
    have := wk_tele h.2 (fun d hd => hs d (by simp [hd]))
    have h1 := hs c (by simp)
    have h2 := h.1
    rw [wt_cons]
    subst h2
    omega
theorem NegW.none {l : List Con} {u : Nat} {w : List Con} (h : NegW l u w) (x : Nat → Int) : ¬ SolL w x := fun hs => by
  have := wk_tele h.2.1 hs
  have := h.2.2
  omega
end Go.Lat
namespace Go.Lat
def leastM (n : Int) (l : List Con) (above to most : Int) : List (List Int) :=
  (List.range (most.toNat + 1)).map fun r => (List.range n.toNat).map fun v => vat (tabD l to above r) v
structure LeastOk (n : Int) (l : List Con) (above to most : Int) : Prop where
  v : validM n l = true
  a : 0 ≤ above + 1 ∧ above + 1 ≤ l.length
  t : 0 ≤ to ∧ to < n
  k : 0 ≤ most ∧ most ≤ 24
def rfirstM (n : Int) (l : List Con) : List Int := if sizeM n l ≤ n then firstM n l else []
end Go.Lat
namespace Go.Lat
def rowL (n : Nat) (o : Vector Int 24) : List Int := (List.range n).map fun v => vat o v
theorem rowL_len {n : Nat} {o : Vector Int 24} : (rowL n o).length = n := by simp [rowL]
theorem lat_rowL {n : Nat} {o : Vector Int 24} {v : Int} (h : 0 ≤ v ∧ v < n) : lat (rowL n o) v = vat o v.toNat := by
  obtain ⟨k, rfl⟩ : ∃ k : Nat, v = k := ⟨v.toNat, by omega⟩
  unfold rowL; rw [lat_map (by omega)]; simp
theorem set_row {n : Nat} (hn : n ≤ 24) {o : Vector Int 24} {f : Nat} (hf : f < n) {x : Int} : (rowL n o).set f x = rowL n (vset o f x) := by
  unfold rowL
  rw [map_set]
  refine List.map_congr_left fun k _ => ?_
  rw [vat_vset (by omega)]
theorem relStep_set {d o : Vector Int 24} {c : Con} (hx : plusM c.m (vat d c.t.toNat) ≤ NB) (ho : vat o c.f.toNat ≤ NB) (h : ¬ plusM c.m (vat d c.t.toNat) = NB ∧ (vat o c.f.toNat = NB ∨ plusM c.m (vat d c.t.toNat) < vat o c.f.toNat)) : relStep d o c = vset o c.f.toNat (plusM c.m (vat d c.t.toNat)) := by
  unfold relStep
  rw [Int.min_eq_right (by omega)]
theorem relStep_keep {d o : Vector Int 24} {c : Con} (hf : c.f.toNat < 24) (ho : vat o c.f.toNat ≤ NB) (h : ¬ (¬ plusM c.m (vat d c.t.toNat) = NB ∧ (vat o c.f.toNat = NB ∨ plusM c.m (vat d c.t.toNat) < vat o c.f.toNat))) : relStep d o c = o := by
  unfold relStep
  rw [Int.min_eq_left (by omega)]
  refine vec_ext fun k hk => ?_
  rw [vat_vset hf]
  split
  · rename_i e; rw [e]
  · rfl
theorem tab_fin {n : Nat} (hn : n ≤ 24) {l : List Con} (hg : Good n l) {v : Int} (hv : 0 ≤ v ∧ v < n) {above : Int} {r u : Nat} (hr : r ≤ 25) (hu : u < n) : vat (tabD l v above r) u = NB ∨ (-28147497671065600 ≤ vat (tabD l v above r) u ∧ vat (tabD l v above r) u ≤ 28147497671065600) := by
  have hnb := hNB
  have hb := tabD_bd (l := l) (to := v) (above := above) (fun c hc => ⟨⟨(hg c hc).1.1, by have := (hg c hc).1.2; omega⟩, (hg c hc).2.2.1⟩) ⟨hv.1, by omega⟩ r u
  by_cases h : vat (tabD l v above r) u < NB
  · obtain ⟨w, w1, w2, -, w4⟩ := tab_ex hn hg hv r u hu h
    have := wt_bd (fun c hc => hg c (List.mem_of_mem_drop hc)) w2
    exact .inr (by omega)
  · exact .inl (by omega)
theorem plus_fin {c : Con} {d : Int} (hc : -1125899906842624 ≤ c.m ∧ c.m ≤ 1125899906842624) (hd : d = NB ∨ (-28147497671065600 ≤ d ∧ d ≤ 28147497671065600)) : plusM c.m d = NB ∨ (-29273397577908224 ≤ plusM c.m d ∧ plusM c.m d ≤ 29273397577908224) := by
  have hnb := hNB
  rcases hd with h | h
  · exact .inl (plusM_inf (.inr h))
  · rw [plusM_nb (by omega) (by omega)]; exact .inr (by omega)
def partR (l : List Con) (a : Nat) (d : Vector Int 24) (i : Nat) : Vector Int 24 := ((l.drop a).take (i - a)).foldl (relStep d) (Vector.replicate 24 NB)
theorem partR_start {l : List Con} {a : Nat} {d : Vector Int 24} : partR l a d a = Vector.replicate 24 NB := by unfold partR; simp
theorem partR_step {l : List Con} {a i : Nat} {d : Vector Int 24} (ha : a ≤ i) (hi : i < l.length) : partR l a d (i + 1) = relStep d (partR l a d i) (lat l i) := by
  unfold partR
  rw [show i + 1 - a = (i - a) + 1 by omega, List.take_add_one, List.foldl_append, List.getElem?_drop, show a + (i - a) = i by omega, List.getElem?_eq_getElem hi, lat_get hi]
  rfl
theorem partR_end {l : List Con} {above : Int} {d : Vector Int 24} {i : Nat} (hi : l.length ≤ i) : partR l (above + 1).toNat d i = longerM l d above := by
  unfold partR
  rw [longerM_eq, List.take_of_length_le (by rw [List.length_drop]; omega)]
theorem partR_le {n : Nat} (hn : n ≤ 24) {l : List Con} (hg : Good n l) {a i : Nat} {d : Vector Int 24} (u : Nat) (hu : u < 24) : vat (partR l a d i) u ≤ NB := by
  have h := (fold_le hn (d := d) ((l.drop a).take (i - a)) (fun c hc => hg c (List.mem_of_mem_drop (List.mem_of_mem_take hc))) (Vector.replicate 24 NB)).1 u
  rw [vat_rep hu] at h
  exact h
end Go.Lat
namespace Go.Lat
theorem least_len {n : Int} {l : List Con} {a t k : Int} (hk : 0 ≤ k) : ((leastM n l a t k).length : Int) = k + 1 := by unfold leastM; simp; omega
theorem least_row {n : Int} {l : List Con} {a t k : Int} {q : Int} (hq : 0 ≤ q ∧ q ≤ k) : lat (leastM n l a t k) q = rowL n.toNat (tabD l t a q.toNat) := by
  obtain ⟨q, rfl⟩ : ∃ x : Nat, q = x := ⟨q.toNat, by omega⟩
  unfold leastM
  rw [lat_nat, List.getD_eq_getElem?_getD, List.getElem?_map, List.getElem?_range (by omega)]
  rfl
theorem least_at {n : Int} {l : List Con} {a t k : Int} {q u : Int} (hq : 0 ≤ q ∧ q ≤ k) (hu : 0 ≤ u ∧ u < n) : lat (lat (leastM n l a t k) q) u = vat (tabD l t a q.toNat) u.toNat := by
  rw [least_row hq, lat_rowL (by omega)]
theorem least_rlen {n : Int} {l : List Con} {a t k : Int} {q : Int} (hn : 0 ≤ n) (hq : 0 ≤ q ∧ q ≤ k) : ((lat (leastM n l a t k) q).length : Int) = n := by
  rw [least_row hq, rowL_len]; omega
theorem Wk2.det : ∀ {w : List Con} {u v v' : Nat}, Wk2 u w v → Wk2 u w v' → v = v'
  | [], _, _, _, h, h' => by cases h; exact h'
  | _ :: _, _, _, _, h, h' => h.2.det h'.2
def zenc (n s : Int) : Int := if s = n + 1 then 0 else s
theorem chain_all {n : Nat} (hn : n ≤ 24) {l : List Con} (hg : Good n l) {size : Int} (hsz : 1 ≤ size ∧ size ≤ 25) {s : Nat} (hs : s < l.length)
    {out e : List Int} {at_ total : Int} (he : out = (s : Int) :: e) (hw : Wk2 (l.getD s default).t.toNat (e.map (lat l)) at_.toNat) (ht : total = (l.getD s default).m + wt (e.map (lat l))) (ha : 0 ≤ at_)
    (hm : ∀ i ∈ e, (s : Int) + 1 ≤ i ∧ i < (l.length : Int)) (hC : chainC l (tabD l (l.getD s default).f s) size s size.toNat [(s : Int)] (l.getD s default).t (l.getD s default).m = some out) (hlen : (out.length : Int) = size) :
    ((at_ = (l.getD s default).f ∧ total < 0) → firstAt l size s = some out) ∧ (¬ (at_ = (l.getD s default).f ∧ total < 0) → firstAt l size s = none) := by
  have hnb := hNB
  obtain ⟨c1, c2, c3⟩ := hg (l.getD s default) (by simp [hs])
  have hmd : ∀ d ∈ e.map (lat l), d ∈ l.drop (s + 1) := fun d hd => by
    rw [List.mem_map] at hd
    obtain ⟨i, hi, rfl⟩ := hd
    have := hm i hi
    obtain ⟨i, rfl⟩ : ∃ k : Nat, i = k := ⟨i.toNat, by omega⟩
    rw [lat_nat]
    exact mem_drop (by omega) (by omega)
  have hel : (e.map (lat l)).length = (size - 1).toNat := by rw [he] at hlen; simp at hlen ⊢; omega
  have e0 : ((s : Int) + 1).toNat = s + 1 := by omega
  refine ⟨fun ⟨k1, k2⟩ => ?_, fun k => ?_⟩
  · have hle := tab_le hn hg c1 (above := (s : Int)) (size - 1).toNat (l.getD s default).t.toNat (e.map (lat l)) (by omega) (by omega) hel (by rw [e0]; exact hmd) (by rw [← k1]; exact hw)
    have hb := wt_bd (fun c hc => hg c (List.mem_of_mem_drop hc)) hmd
    have : ¬ 0 ≤ plusM (l.getD s default).m (vat (tabD l (l.getD s default).f s (size - 1).toNat) (l.getD s default).t.toNat) := by
      rw [plusM_nb (by omega) (by omega)]
      omega
    rw [firstAt_some this]
    exact hC
  · rcases firstAt_spec hn hg hsz.1 hsz.2 hs with h | ⟨ext, h, h2, h3, h4⟩
    · exact h.2
    · exfalso
      have hP : ¬ 0 ≤ plusM (l.getD s default).m (vat (tabD l (l.getD s default).f s (size - 1).toNat) (l.getD s default).t.toNat) := fun hp => by
        rw [firstAt_none hp] at h; cases h
      rw [firstAt_some hP] at h
      have h5 : chainC l (tabD l (l.getD s default).f s) size s size.toNat [(s : Int)] (l.getD s default).t (l.getD s default).m = some ((s : Int) :: ext) := h
      rw [hC] at h5
      have h6 : out = (s : Int) :: ext := Option.some.inj h5
      rw [he] at h6
      have h7 : e = ext := (List.cons.inj h6).2
      subst h7
      obtain ⟨-, k2, k3⟩ := h4
      rw [List.map_cons, lat_nat] at k2 k3
      have := hw.det k2.2
      rw [wt_cons] at k3
      exact k ⟨by omega, by omega⟩
end Go.Lat
namespace Go.Lat
def withE (b : Bd) (f t : Nat) (w : Int) (i j : Nat) : Int :=
  if plusM (plusM (bm b i f) w) (bm b t j) = NB ∨ (¬ bm b i j = NB ∧ bm b i j ≤ plusM (plusM (bm b i f) w) (bm b t j)) then bm b i j else plusM (plusM (bm b i f) w) (bm b t j)
def withM (b : Bd) (f t w : Int) : Bd × Bool :=
  if ¬ plusM w (bm b t.toNat f.toNat) = NB ∧ plusM w (bm b t.toNat f.toNat) < 0 then (⟨0, []⟩, false)
  else (⟨b.n, (List.range b.n.toNat).map fun i => (List.range b.n.toNat).map fun j => withE b f.toNat t.toNat w i j⟩, true)
structure WithOk (b : Bd) (f t w : Int) : Prop where
  n : 1 ≤ b.n ∧ b.n ≤ 24 ∧ (b.most.length : Int) = b.n
  row : ∀ i, i < b.most.length → (b.most.getD i []).length = b.most.length
  f : 0 ≤ f ∧ f < b.n
  t : 0 ≤ t ∧ t < b.n
  w : -72057594037927936 ≤ w ∧ w ≤ 72057594037927936
  e : ∀ i j, i < b.most.length → j < b.most.length → bm b i j = NB ∨ (-288230376151711744 ≤ bm b i j ∧ bm b i j ≤ 288230376151711744)
theorem lat_bm {b : Bd} {i j : Int} (hi : 0 ≤ i) (hj : 0 ≤ j) : lat (lat b.most i) j = bm b i.toNat j.toNat := rfl
theorem boundsM_eq {m : Vector Int 576} {n : Int} (hn : n ≤ 24) : boundsM m n = ⟨n, (List.range n.toNat).map fun i => (List.range n.toNat).map fun j => mm m i j⟩ := by
  unfold boundsM
  congr 1
  refine List.map_congr_left fun i hi => ?_
  rw [List.mem_range] at hi
  rw [row_map (by omega) (by omega)]
theorem Bd_eq {a : Bd} {n : Int} {g : Nat → Nat → Int} (h1 : a.n = n) (h2 : (a.most.length : Int) = n) (h3 : ∀ i, i < a.most.length → (a.most.getD i []).length = a.most.length) (h4 : ∀ i j, i < a.most.length → j < a.most.length → bm a i j = g i j) :
    a = ⟨n, (List.range n.toNat).map fun i => (List.range n.toNat).map fun j => g i j⟩ := by
  obtain ⟨an, am⟩ := a
  dsimp only at h1 h2 h3
  subst h1
  congr 1
  have hl : am.length = an.toNat := by omega
  apply List.ext_getElem?
  intro i
  rcases Nat.lt_or_ge i am.length with h | h
  · rw [List.getElem?_eq_getElem h, List.getElem?_map, List.getElem?_range (by omega), Option.map_some]
    congr 1
    have h5 := h3 i h
    have e : am.getD i [] = am[i] := by simp [h]
    rw [e] at h5
    apply List.ext_getElem?
    intro j
    rcases Nat.lt_or_ge j am.length with h6 | h6
    · have := h4 i j h h6
      unfold bm at this
      dsimp only at this
      rw [e] at this
      rw [List.getElem?_map, List.getElem?_range (by omega), Option.map_some, ← this, List.getD_eq_getElem?_getD, List.getElem?_eq_getElem (by omega)]
      rfl
    · rw [List.getElem?_eq_none (by omega), List.getElem?_eq_none (by simp; omega)]
  · rw [List.getElem?_eq_none h, List.getElem?_eq_none (by simp; omega)]
theorem VB.bounds {b : Bd} (v : VB b) : boundsM (ofM b) b.n = b := by
  have hn := v.n
  rw [boundsM_eq (by omega)]
  refine (Bd_eq rfl (by omega) v.row fun i j hi hj => ?_).symm
  rw [of_at v (by omega) (by omega), if_pos (by omega)]
theorem with_bounds {m : Vector Int 576} {B : Int} {n : Int} {f t : Nat} {w : Int} (h : Cl 24 m B) (hB : 0 ≤ B ∧ B ≤ 144115188075855872) (hn : 1 ≤ n ∧ n ≤ 24) (hf : (f : Int) < n) (ht : (t : Int) < n) (hw : -72057594037927936 ≤ w ∧ w ≤ 72057594037927936) :
    withM (boundsM m n) f t w = if (addM m f t w).1 = true then (boundsM (addM m f t w).2 n, true) else (⟨0, []⟩, false) := by
  have hnb := hNB
  have E := fun {i j : Nat} => bm_bounds (m := m) (n := n) (i := i) (j := j)
  have bd := fun (i j : Nat) (hi : i < n.toNat) (hj : j < n.toNat) => h.bd i j (by omega) (by omega)
  unfold withM
  simp only [Int.toNat_natCast]
  rw [E (by omega) (by omega)]
  have b0 := bd t f (by omega) (by omega)
  have hneg : (¬ plusM w (mm m t f) = NB ∧ plusM w (mm m t f) < 0) ↔ plusM w (mm m t f) < 0 := ⟨fun h => h.2, fun h => ⟨by omega, h⟩⟩
  by_cases k1 : plusM w (mm m t f) < 0
  · rw [if_pos (hneg.mpr k1), addM_neg k1]; rfl
  rw [if_neg (fun h => k1 h.2)]
  have key : ∀ m' : Vector Int 576, (∀ i j, i < n.toNat → j < n.toNat → withE (boundsM m n) f t w i j = mm m' i j) → ((⟨(boundsM m n).n, (List.range (boundsM m n).n.toNat).map fun i => (List.range (boundsM m n).n.toNat).map fun j => withE (boundsM m n) f t w i j⟩ : Bd), true) = (boundsM m' n, true) := fun m' hg => by
    rw [boundsM_eq (m := m') (by omega)]
    congr 2
    refine List.map_congr_left fun i hi => List.map_congr_left fun j hj => ?_
    exact hg i j (List.mem_range.mp hi) (List.mem_range.mp hj)
  by_cases k2 : mm m f t ≤ w
  · rw [addM_le k1 k2, if_pos rfl]
    refine key _ fun i j hi hj => ?_
    unfold withE
    rw [E hi (by omega), E (by omega) hj, E hi hj]
    have b1 := bd i f hi (by omega)
    have b2 := bd t j (by omega) hj
    have b3 := bd i j hi hj
    have b4 := bd f t (by omega) (by omega)
    split
    · rfl
    · rename_i hx
      by_cases e1 : mm m i f = NB
      · exact (hx (.inl (by rw [plusM_inf (.inl (plusM_inf (.inl e1)))]))).elim
      by_cases e2 : mm m t j = NB
      · exact (hx (.inl (plusM_inf (.inr e2)))).elim
      have e3 : plusM (mm m i f) w = mm m i f + w := plusM_nb e1 (by omega)
      have t1 := h.tri i f t (by omega) (by omega) (by omega) e1 (by omega)
      have n1 := h.fin (by omega) (i := i) (j := f) (k := t) (by omega) (by omega) (by omega) e1 (by omega)
      have t2 := h.tri i t j (by omega) (by omega) (by omega) n1 e2
      have n2 := h.fin (by omega) (i := i) (j := t) (k := j) (by omega) (by omega) (by omega) n1 e2
      have e4 : plusM (plusM (mm m i f) w) (mm m t j) = mm m i f + w + mm m t j := by rw [e3]; exact plusM_nb (by omega) e2
      exact (hx (.inr ⟨n2, by rw [e4]; omega⟩)).elim
  · rw [addM_relax k1 k2, if_pos rfl]
    refine key _ fun i j hi hj => ?_
    unfold withE
    rw [E hi (by omega), E (by omega) hj, E hi hj, mm_relax (by omega) (by omega)]
    have b1 := bd i f hi (by omega)
    have b2 := bd t j (by omega) hj
    have b3 := bd i j hi hj
    by_cases e1 : mm m i f = NB
    · rw [if_pos e1, if_pos (.inl (by rw [plusM_inf (.inl (plusM_inf (.inl e1)))]))]
    · rw [if_neg e1]
      have e3 : plusM (mm m i f) w = mm m i f + w := plusM_nb e1 (by omega)
      rw [e3]
      by_cases e2 : mm m t j = NB
      · rw [plusM_inf (.inr e2), if_pos (.inl rfl)]; omega
      · rw [plusM_nb (by omega) e2]
        split <;> omega
end Go.Lat
namespace Go.Lat
theorem lat_blen {b : Bd} (h : ∀ i, i < b.most.length → (b.most.getD i []).length = b.most.length) {i : Int} (hi : 0 ≤ i ∧ i < b.most.length) : (lat b.most i).length = b.most.length := h i.toNat (by omega)
theorem bounds_wok {m : Vector Int 576} {B : Int} (h : Cl 24 m B) (hB : B ≤ 288230376151711744) {n : Int} (hn : 1 ≤ n ∧ n ≤ 24) {f t w : Int} (hf : 0 ≤ f ∧ f < n) (ht : 0 ≤ t ∧ t < n) (hw : -72057594037927936 ≤ w ∧ w ≤ 72057594037927936) : WithOk (boundsM m n) f t w := by
  have e : (boundsM m n).n = n := rfl
  refine ⟨by rw [e, bounds_len]; omega, fun i hi => ?_, hf, ht, hw, fun i j hi hj => ?_⟩ <;> rw [bounds_len] at *
  · exact bounds_row hn.2 hi
  · rw [bm_bounds hi hj]; have := h.bd i j (by omega) (by omega); omega
theorem VB.wok {b : Bd} (v : VB b) {f t w : Int} (hf : 0 ≤ f ∧ f < b.n) (ht : 0 ≤ t ∧ t < b.n) (hw : -72057594037927936 ≤ w ∧ w ≤ 72057594037927936) : WithOk b f t w := by
  have := bounds_wok v.cl (by omega) (n := b.n) ⟨v.n.1, v.n.2.1⟩ hf ht hw
  rwa [v.bounds] at this
theorem VB.with {b : Bd} (v : VB b) {f t : Nat} {w : Int} (hf : (f : Int) < b.n) (ht : (t : Int) < b.n) (hw : -72057594037927936 ≤ w ∧ w ≤ 72057594037927936) :
    withM b f t w = if (addM (ofM b) f t w).1 = true then (boundsM (addM (ofM b) f t w).2 b.n, true) else (⟨0, []⟩, false) := by
  have := with_bounds v.cl (by omega) (n := b.n) ⟨v.n.1, v.n.2.1⟩ hf ht hw
  rwa [v.bounds] at this
theorem bounds_valid {m : Vector Int 576} {B : Int} (h : Cl 24 m B) {n : Int} (hn : 1 ≤ n ∧ n ≤ 24) : validBM (boundsM m n) = ((boundsM m n).most.all fun r => r.all okX) := by
  have hnb := hNB
  have key : validBM (boundsM m n) = true ↔ ((boundsM m n).most.all fun r => r.all okX) = true := by
    rw [boundsOk hn.2, validBM_iff]
    constructor
    · intro v i j hi hj
      have := v.ok i j (by rw [bounds_len]; exact hi) (by rw [bounds_len]; exact hj)
      rw [bm_bounds hi hj] at this
      exact okX_iff.mpr this
    · intro ho
      have ho' : ∀ i j, i < n.toNat → j < n.toNat → mm m i j = NB ∨ -36028797018963968 ≤ mm m i j ∧ mm m i j ≤ 36028797018963968 := fun i j hi hj => okX_iff.mp (ho i j hi hj)
      have e : (boundsM m n).n = n := rfl
      have E := fun {i j : Nat} => bm_bounds (m := m) (n := n) (i := i) (j := j)
      refine ⟨by rw [e, bounds_len]; omega, fun i hi => ?_, fun i hi => ?_, fun i j hi hj => ?_, fun i j k hi hj hk => ?_⟩ <;> rw [bounds_len] at *
      · exact bounds_row hn.2 hi
      · rw [E hi hi]; exact h.diag i (by omega)
      · rw [E hi hj]; exact ho' i j hi hj
      · rw [E hi hj, E hj hk, E hi hk]
        by_cases e1 : mm m i j = NB
        · exact .inl e1
        · refine .inr ?_
          by_cases e2 : mm m j k = NB
          · rw [plusM_inf (.inr e2)]
            have := ho' i k hi hk; omega
          · rw [plusM_nb e1 e2]; exact h.tri i j k (by omega) (by omega) (by omega) e1 e2
  cases e1 : validBM (boundsM m n) <;> cases e2 : ((boundsM m n).most.all fun r => r.all okX) <;> simp_all
theorem bounds_n {m : Vector Int 576} {n : Int} : (boundsM m n).n = n := rfl
end Go.Lat
namespace Go.Lat
def SmallB (b : Bd) : Prop := b.most.length ≤ 1073741824 ∧ ∀ r ∈ b.most, r.length ≤ 1073741824
theorem small_none {n : Int} : SmallB ⟨n, []⟩ := ⟨by simp, fun r hr => by cases hr⟩
theorem close_small {n : Int} {l : List Con} : SmallB (closeM n l).1 ∧ (closeM n l).2.1.length ≤ 1073741824 := by
  by_cases hv : validM n l = true
  · have hn := (validM_iff.mp hv).1
    rcases close_cases hv with ⟨mt, -, e⟩ | ⟨hno, e⟩
    · rw [e]; exact ⟨bounds_most_len hn.2.1, by simp⟩
    · rw [e]
      refine ⟨small_none, ?_⟩
      have hF := first_cycle (n := n.toNat) (by omega) (validM_goodn hv) hno
      have h1 := hF.len
      have h2 := hF.sz
      rw [show ((n.toNat : Nat) : Int) = n by omega] at h1 h2
      show (firstM n l).length ≤ _
      omega
  · rw [close_inv hv]; exact ⟨small_none, by simp⟩
theorem addB_small {b : Bd} {c : Con} : SmallB (addBM b c).1 := by
  by_cases h : validBM b = true ∧ possM b.n c = true
  · have vb := (validBM_iff.mp h.1).n
    by_cases h2 : (addM (ofM b) c.f c.t c.m).1 = true
    · by_cases h3 : ((boundsM (addM (ofM b) c.f c.t c.m).2 b.n).most.all fun r => r.all okX) = true
      · rw [addB_ok h h2 h3]; exact bounds_most_len vb.2.1
      · rw [addB_big h h2 h3]; exact small_none
    · rw [addB_no h h2]; exact small_none
  · rw [addB_inv h]; exact small_none
theorem range_in {b : Bd} {f t : Int} : inI ((rangeM b f t).1 - 1) := by
  have hnb := hNB
  by_cases h : validBM b = true ∧ 0 ≤ min f t ∧ max f t < b.n
  · have vb := validBM_iff.mp h.1
    have hn := vb.n
    have := vb.ok t.toNat f.toNat (by omega) (by omega)
    have e : rangeM b f t = (-bm b t.toNat f.toNat, bm b f.toNat t.toNat, 0) := by unfold rangeM; rw [if_pos h]
    rw [e]; dsimp only; unfold inI; omega
  · rw [range_neg h]; unfold inI; omega
theorem point_small {b : Bd} {f t v : Int} : (pointM b f t v).1.length ≤ 1073741824 := by
  by_cases h : (rangeM b f t).2.2 = 0 ∧ max (rangeM b f t).1 (-36028797018963968) ≤ v ∧ v ≤ min (rangeM b f t).2.1 36028797018963968
  · rw [point_pos h]
    have := (validBM_iff.mp (range_ok h.1).1).n
    show (pointV _ _ _).length ≤ _
    rw [pointV_eq]; simp; omega
  · rw [point_neg h]; simp
end Go.Lat
namespace Go.Lat
open Go.RowKit

def stepM (P : Program) (T : TT) (ops : Array Oper) (p i : Nat) (st : St) (K : St → Prop) : Prop :=
  if i = p then match ops[i]? with
    | none => K st
    | some o => stepH P T ops.toList o st K
  else stepI P T ops i st K
def seqM (P : Program) (T : TT) (ops : Array Oper) (p : Nat) : List Nat → St → (St → Prop) → Prop
  | [], st, K => K st
  | i :: l, st, K => stepM P T ops p i st fun s => seqM P T ops p l s K
def anyM (P : Program) (T : TT) (ops : Array Oper) (p : Nat) (K : St → Prop) : Nat → Array Bool → St → Prop
  | 0, listed, st => Region.ready .any ops listed = [] ∧ K st
  | n + 1, listed, st => Wf st → (Region.ready .any ops listed = [] → K st) ∧ ∀ i ∈ Region.ready .any ops listed, stepM P T ops p i st fun s => anyM P T ops p K n (listed.setIfInBounds i true) s

section
variable {X : Nat → Prop} {D : List Deferred × Rho} {w0 : World} {mA : Mem} {r : Rho} {m : MM} {st : St} {a : Act} {w : World} {P : Program} {T : TT} {ops : Array Oper} {K K' : St → Prop} {p : Nat}

theorem stepH_sound (hT : TsOk P T) (hR : R X D w0 mA r m st a w) {o : Oper} (h : stepH P T ops.toList o st K) {ro : Option Nat} {n : Nat} {next : Act → World → Prop} {Q : Exit → Act → World → Prop}
    (hnext : ∀ s r' m' a' w', K s → R X D w0 mA r' m' s a' w' → next a' w') :
    if Region.wanted o (yielded ops a.tmps) then o.wpIn (FW ro) n P a w next Q else (∀ f, o.about P w a.eval = some f → (FW ro).fn f) ∧ next (a.put o.dst undef) w := by
  unfold stepH at h
  split at h
  · rename_i d f args tys ty pos af
    rw [if_pos (by rfl)]
    rcases h with h | h
    · exact opC_sound (o := ⟨d, .call ⟨.value f, args, tys⟩, ty, pos, af, none⟩) hT hR (K := fun v h => K (St.put ⟨st.nt, st.tm, h, st.ho⟩ d v)) h fun x h' r' m' u w' hK hR' hv => hnext _ _ _ _ w' hK (hR'.put d hv)
    · exact callH_sound (o := ⟨d, .call ⟨.value f, args, tys⟩, ty, pos, af, none⟩) hR rfl (K := fun v h => K (St.put ⟨st.nt, st.tm, h, st.ho⟩ d v)) h fun x h' r' m' u w' hK hR' hv => hnext _ _ _ _ w' hK (hR'.put d hv)
  · exact stepG_sound hT hR h hnext

theorem callH_mono {h : List AObj} {f : AV} {args : List AV} {A B : AV → List AObj → Prop} (hc : callH P h f args A) (hab : ∀ v h', A v h' → B v h') : callH P h f args B := by
  unfold callH at hc ⊢
  split at hc <;> try exact hc.elim
  rcases hc with ⟨Post, hfn, hpost⟩ | ⟨id, ob, x0, y0, ys, Post, hae, hob, hfl, hx0, hfn, hpost⟩ | ⟨nb, Post, hfn, hpost⟩
  · exact .inl ⟨Post, hfn, fun o ho => hab _ _ (hpost o ho)⟩
  · exact .inr (.inl ⟨id, ob, x0, y0, ys, Post, hae, hob, hfl, hx0, hfn, fun x o ho => hab _ _ (hpost x o ho)⟩)
  · exact .inr (.inr ⟨nb, Post, hfn, fun n o ho => hab _ _ (hpost n o ho)⟩)
theorem stepH_mono {o : Oper} (h : stepH P T ops.toList o st K) (hk : ∀ s, K s → K' s) : stepH P T ops.toList o st K' := by
  unfold stepH at h ⊢
  split at h
  · rename_i d f args tys ty pos af
    rcases h with h | h
    · exact .inl (stepG_mono' (T := T) (ops := ops) (o := ⟨d, .call ⟨.value f, args, tys⟩, ty, pos, af, none⟩) h hk)
    · exact .inr (callH_mono h fun v h' hv => hk _ hv)
  · exact stepG_mono' h hk
theorem stepM_mono {i : Nat} (h : stepM P T ops p i st K) (hk : ∀ s, K s → K' s) : stepM P T ops p i st K' := by
  unfold stepM at h ⊢
  split
  · rename_i e
    rw [if_pos e] at h
    split at h
    · exact hk _ h
    · exact stepH_mono h hk
  · rename_i e
    rw [if_neg e] at h
    unfold stepI at h ⊢
    split at h
    · exact hk _ h
    · exact stepG_mono' h hk

theorem anyM_sound (hT : TsOk P T) {ro : Option Nat} {n : Nat} {Q : Exit → Act → World → Prop} (hQ : ∀ s r' m' a' w', K s → R X D w0 mA r' m' s a' w' → Q .normal a' w') :
    ∀ (fuel : Nat) (listed : Array Bool) {r : Rho} {m : MM} {st : St} {a : Act} {w : World}, R X D w0 mA r m st a w → anyM P T ops p K fuel listed st → wpAnyIn (FW ro) n P .any ops Q fuel listed a w
  | 0, listed, _, _, _, _, _, hR, h => ⟨h.1, hQ _ _ _ _ _ h.2 hR⟩
  | fuel + 1, listed, _, _, _, _, _, hR, h => by
    obtain ⟨h1, h2⟩ := h hR.wf
    refine ⟨fun hn => hQ _ _ _ _ _ (h1 hn) hR, fun i hi => ?_⟩
    have h3 := h2 i hi
    unfold stepM stepI at h3
    unfold wpOpIn
    split
    · rename_i ho
      rw [ho] at h3
      simp only [ite_self] at h3
      exact anyM_sound hT hQ fuel _ hR h3
    · rename_i o ho
      rw [ho] at h3
      simp only at h3
      split at h3
      · exact stepH_sound hT hR h3 fun s r' m' a' w' hs hR' => anyM_sound hT hQ fuel _ hR' hs
      · exact stepG_sound hT hR h3 fun s r' m' a' w' hs hR' => anyM_sound hT hQ fuel _ hR' hs

theorem bubbleM {oi : Oper} {i : Nat} (ho : ops[i]? = some oi) (hip : i ≠ p) {st0 : St} (hw : Wf st0) {rest : List Nat} : ∀ (pre : List Nat) (st : St), Inv ops oi st0 st → p ∉ pre →
    (∀ j ∈ pre, okP ops j i = true) → seqM P T ops p (pre ++ i :: rest) st K → stepG P T ops.toList oi st fun s => seqM P T ops p (pre ++ rest) s K
  | [], st, _, _, _, h => by
    simp only [List.nil_append, seqM, stepM, if_neg hip, stepI, ho] at h ⊢
    exact h
  | j :: pre, st, hI, hnp, hp, h => by
    have hj := hp j (by simp)
    have hjp : j ≠ p := fun e => hnp (by simp [e])
    unfold okP at hj
    rw [ho] at hj
    split at hj
    · rename_i oj oi' hoj he
      cases he
      simp only [Bool.and_eq_true] at hj
      simp only [List.cons_append, seqM, stepM, if_neg hjp, stepI, hoj] at h ⊢
      exact swap hw hj.1 hj.2 hI (stepG_mono' h fun s hs hinv => bubbleM ho hip hw pre s hinv (fun hh => hnp (by simp [hh])) (fun k hk => hp k (by simp [hk])) hs)
    · cases hj

def oneB (A : List (List Nat)) (p : Nat) : List Nat → Bool
  | [] => true
  | i :: l => if i = p then l.all fun k => (A.getD k []).contains p else (A.getD p []).contains i && oneB A p l

theorem oneB_spec {A : List (List Nat)} {p : Nat} : ∀ {l : List Nat}, l.Nodup → oneB A p l = true → l.Pairwise fun a b => (b = p → a ∈ A.getD p []) ∧ (a = p → p ∈ A.getD b [])
  | [], _, _ => List.Pairwise.nil
  | i :: l, hn, h => by
    have hn' := List.nodup_cons.1 hn
    unfold oneB at h
    split at h
    · rename_i e
      subst e
      simp only [List.all_eq_true, List.contains_iff_mem] at h
      refine List.Pairwise.cons (fun b hb => ⟨fun e => ?_, fun _ => h b hb⟩) ?_
      · subst e; exact absurd hb hn'.1
      · refine List.Pairwise.imp_of_mem ?_ hn'.2
        intro a b ha hb _
        exact ⟨fun e => absurd (e ▸ hb) hn'.1, fun e => absurd (e ▸ ha) hn'.1⟩
    · rename_i e
      simp only [Bool.and_eq_true, List.contains_iff_mem] at h
      exact List.Pairwise.cons (fun b hb => ⟨fun _ => h.1, fun e' => absurd e' e⟩) (oneB_spec hn'.2 h.2)

theorem any_of_seqM {A : List (List Nat)} (hA : chkA ops A = true) : ∀ (fuel : Nat) (listed : Array Bool) (l : List Nat) (st : St), Rest ops A listed l → l.Pairwise (fun a b => (b = p → a ∈ A.getD p []) ∧ (a = p → p ∈ A.getD b [])) → l.length = fuel → seqM P T ops p l st K → anyM P T ops p K fuel listed st := by
  intro fuel
  induction fuel with
  | zero =>
    intro listed l st hr hp hl h
    have : l = [] := List.eq_nil_of_length_eq_zero hl
    subst this
    refine ⟨?_, h⟩
    rcases hrd : Region.ready .any ops listed with _ | ⟨i, l'⟩
    · rfl
    · have := hr.ready_mem (i := i) (by rw [hrd]; simp)
      simp at this
  | succ fuel ih =>
    intro listed l st hr hp hl h hw
    refine ⟨fun hnil => ?_, fun i hi => ?_⟩
    · exfalso
      cases l with
      | nil => simp at hl
      | cons i l =>
        have h1 := hr.open' i (by simp)
        have hlt : i < ops.size := by
          rw [← hr.size]
          rcases Nat.lt_or_ge i listed.size with h' | h'
          · exact h'
          · simp [Array.getElem?_eq_none h'] at h1
        have : i ∈ Region.ready .any ops listed := by
          refine mem_ready.2 ⟨h1, ops[i], by simp [hlt], fun e he hb => ?_⟩
          have hd : e.on ∈ dirs ops i := by
            simp only [dirs, Array.getElem?_eq_getElem hlt, List.mem_map, List.mem_filter]
            exact ⟨e, ⟨by simpa using he, hb⟩, rfl⟩
          by_cases hsz : e.on < ops.size
          · rcases hr.all e.on hsz with h2 | h2
            · exact h2
            · exfalso
              rcases List.mem_cons.1 h2 with h3 | h3
              · exact (hr.self i hlt _ hd).2 h3
              · have h4 := (List.pairwise_cons.1 hr.pair).1 _ h3
                simp only [relB, Bool.and_eq_true, Bool.not_eq_true'] at h4
                have h5 := h4.1
                simp at h5
                exact h5 hd
          · exact absurd (hr.self i hlt _ hd).1 hsz
        rw [hnil] at this
        cases this
    · have hmem := hr.ready_mem hi
      obtain ⟨pre, rest, rfl⟩ := List.append_of_mem hmem
      obtain ⟨_, oi, ho, _⟩ := mem_ready.1 hi
      have hlt : i < ops.size := by
        rcases Nat.lt_or_ge i ops.size with h' | h'
        · exact h'
        · rw [Array.getElem?_eq_none h'] at ho; cases ho
      have hanc : ∀ j ∈ pre, j ∉ A.getD i [] := fun j hj hin => by
        have := hr.anc hA i (dirs_ready hi) j hin hlt
        rw [getD_tf (hr.open' j (by simp [hj]))] at this
        cases this
      have hpp := hp
      rw [List.pairwise_append] at hp
      have hp' : (pre ++ rest).Pairwise (fun a b => (b = p → a ∈ A.getD p []) ∧ (a = p → p ∈ A.getD b [])) := hpp.sublist (List.Sublist.append_left (List.sublist_cons_self i rest) pre)
      by_cases hip : i = p
      · have hpre : pre = [] := by
          cases pre with
          | nil => rfl
          | cons j pre =>
            have h1 := (hp.2.2 j (by simp) i (by simp)).1 hip
            rw [← hip] at h1
            exact absurd h1 (hanc j (by simp))
        subst hpre
        simp only [List.nil_append, seqM] at h
        exact stepM_mono h fun s hs => ih _ _ s (hr.next (pre := []) hi) hp' (by simp at hl ⊢; omega) hs
      · have hnp : p ∉ pre := fun hin => hanc p hin ((hp.2.2 p hin i (by simp)).2 rfl)
        have hok : ∀ j ∈ pre, okP ops j i = true := by
          intro j hj
          have hq := hr.pair
          rw [List.pairwise_append] at hq
          have h4 := hq.2.2 j hj i (by simp)
          simp only [relB, Bool.and_eq_true, Bool.or_eq_true, List.contains_iff_mem] at h4
          rcases h4.2 with h5 | h5
          · exact absurd h5 (hanc j hj)
          · exact h5
        have hb := bubbleM (K := K) ho hip hw pre st ⟨⟨rfl, fun _ _ => rfl⟩, Nat.le_refl _, fun _ => ⟨[], by simp⟩⟩ hnp hok h
        simp only [stepM, if_neg hip, stepI, ho]
        exact stepG_mono' hb fun s hs => ih _ _ s (hr.next hi) hp' (by simp at hl ⊢; omega) hs

theorem W.drawM {Q : Ex → St → Prop} {id : Nat} (p : Nat) (ord : List Nat) (hc : chk ops ord = true) (h1 : oneB (ancs ops) p ord = true) (h : seqM P T ops p ord st (Q .nrm)) : W P T (.region id ops true) st Q := fun hT hf ro n X D w0 mA r m a w hR => by
  obtain ⟨h2, h3, h4⟩ := chk_rest hc
  refine wpIn_region_any hf ?_
  have hR' : R X D w0 mA r m st a { w with drawn := w.drawn + 1 } := { hR with }
  exact anyM_sound hT (fun s r' m' a' w' hs hR' => ⟨r', m', s, hs, hR'⟩) ops.size _ hR' (any_of_seqM h2 ops.size _ ord st h3 (oneB_spec h3.nodup h1) h4 h)

variable {ol : List Oper} {n j : Nat} {l : List (Nat × AV)} {h : List AObj} {b : Bool} {o : Op} {ty : TypeId} {pos : String} {af : Array Edge} {KS : St → Prop} {rest : List Nat} {i : Nat}
theorem cM {d : Nat} (hi : ol[i]? = some ⟨some d, o, ty, pos, af, none⟩) (hp : Nat.beq i p = false) (hd : Nat.ble (d + 1) n = true)
    (h1 : opC P T ⟨some d, o, ty, pos, af, none⟩ ⟨n, look l, h, b⟩ fun v h' => seqM P T ol.toArray p rest ⟨n, look ((d, v) :: l), h', b⟩ KS) : seqM P T ol.toArray p (i :: rest) ⟨n, look l, h, b⟩ KS := by
  have hd' : d < n := Nat.le_of_ble_eq_true hd
  have hp' : i ≠ p := Nat.ne_of_beq_eq_false hp
  have hi' : ol.toArray[i]? = some ⟨some d, o, ty, pos, af, none⟩ := by simpa using hi
  unfold seqM stepM stepI
  rw [if_neg hp', hi']
  show opC P T ⟨some d, o, ty, pos, af, none⟩ ⟨n, look l, h, b⟩ fun v h' => seqM P T ol.toArray p rest (St.put ⟨n, look l, h', b⟩ (some d) v) KS
  have e : (fun v h' => seqM P T ol.toArray p rest (St.put ⟨n, look l, h', b⟩ (some d) v) KS) = fun v h' => seqM P T ol.toArray p rest ⟨n, look ((d, v) :: l), h', b⟩ KS := by
    funext v h'
    rw [St.put_look d v hd']
  rw [e]
  exact h1
theorem cMc {d : Nat} {f : Operand} {args : Array Operand} {tys : Array TypeId} (hi : ol[p]? = some ⟨some d, .call ⟨.value f, args, tys⟩, ty, pos, af, none⟩) (hd : Nat.ble (d + 1) n = true)
    (h1 : callH P h (St.eval ⟨n, look l, h, b⟩ f) (args.toList.map (St.eval ⟨n, look l, h, b⟩)) fun v h' => seqM P T ol.toArray p rest ⟨n, look ((d, v) :: l), h', b⟩ KS) : seqM P T ol.toArray p (p :: rest) ⟨n, look l, h, b⟩ KS := by
  have hd' : d < n := Nat.le_of_ble_eq_true hd
  have hi' : ol.toArray[p]? = some ⟨some d, .call ⟨.value f, args, tys⟩, ty, pos, af, none⟩ := by simpa using hi
  unfold seqM stepM
  rw [if_pos rfl, hi']
  refine Or.inr ?_
  have e : (fun v h' => seqM P T ol.toArray p rest (St.put ⟨n, look l, h', b⟩ (some d) v) KS) = fun v h' => seqM P T ol.toArray p rest ⟨n, look ((d, v) :: l), h', b⟩ KS := by
    funext v h'
    rw [St.put_look d v hd']
  show callH P h (St.eval ⟨n, look l, h, b⟩ f) (args.toList.map (St.eval ⟨n, look l, h, b⟩)) fun v h' => seqM P T ol.toArray p rest (St.put ⟨n, look l, h', b⟩ (some d) v) KS
  rw [e]
  exact h1
theorem eM {st : St} (h1 : KS st) : seqM P T ol.toArray p [] st KS := h1
theorem W.rM1 {Q : Ex → St → Prop} {id : Nat} {st : St} (p : Nat) (ord : List Nat) (hc : chk ol.toArray ord = true) (h0 : oneB (ancs ol.toArray) p ord = true) (h1 : seqM P T ol.toArray p ord st (Q .nrm)) : W P T (.region id ol.toArray true) st Q := W.drawM p ord hc h0 h1
theorem W.rM {Q : Ex → St → Prop} {c : Code} {id : Nat} {st : St} (p : Nat) (ord : List Nat) (hc : chk ol.toArray ord = true) (h0 : oneB (ancs ol.toArray) p ord = true) (h1 : seqM P T ol.toArray p ord st fun s => W P T c s Q) : W P T (.seq (.region id ol.toArray true) c) st Q :=
  W.seq _ (W.rM1 p ord hc h0 h1) fun _ h => h
end
end Go.Lat
namespace Go.Lat
open Go.RowKit
section
variable {X : Nat → Prop} {D : List Deferred × Rho} {w0 : World} {mA : Mem} {r : Rho} {m : MM} {st : St} {a : Act} {w : World}
theorem R.reobj' (h : R X D w0 mA r m st a w) {j : Nat} {bt : TypeId} {bcs bcs' : List AV} (ho : st.heap[j]? = some (.box bt bcs)) (hk : OR r m w j (.box bt bcs')) : R X D w0 mA r m { st with heap := st.heap.set j (.box bt bcs') } a w := by
  have hlen : j < st.heap.length := by
    rcases Nat.lt_or_ge j st.heap.length with h1 | h1
    · exact h1
    · rw [List.getElem?_eq_none h1] at ho; cases ho
  have get : ∀ (i : Nat) oi, (st.heap.set j (.box bt bcs'))[i]? = some oi → ∃ oo, st.heap[i]? = some oo ∧ (oi.live = true → oo.live = true) ∧ (i = j ∧ oi = .box bt bcs' ∧ oo = .box bt bcs ∨ oi = oo) := by
    intro i oi hi
    by_cases e : i = j
    · subst e
      rw [List.getElem?_set_self hlen] at hi
      cases hi
      exact ⟨_, ho, fun _ => rfl, .inl ⟨rfl, rfl, rfl⟩⟩
    · rw [List.getElem?_set_ne (Ne.symm e)] at hi
      exact ⟨oi, hi, fun h => h, .inr rfl⟩
  refine { h with len := by simpa using h.len, lt := ?_, apart := ?_, obj := ?_, own := ?_, inj := ?_, nox := h.nox }
  · intro i oi b c hi hl hr
    obtain ⟨oo, h1, h2, -⟩ := get i oi hi
    exact h.lt i oo b c h1 (h2 hl) hr
  · intro p v hp i oi b c hi hl hr
    obtain ⟨oo, h1, h2, -⟩ := get i oi hi
    exact h.apart p v hp i oo b c h1 (h2 hl) hr
  · intro i oi hi
    obtain ⟨oo, h1, -, ⟨rfl, rfl, rfl⟩ | rfl⟩ := get i oi hi
    · exact hk
    · exact h.obj i oi h1
  · intro i oi b c hi hl hr
    obtain ⟨oo, h1, h2, -⟩ := get i oi hi
    exact h.own i oo b c h1 (h2 hl) hr
  · intro i k oi ok b c c' hi hk' hli hlk hri hrk
    obtain ⟨oo, h1, h2, -⟩ := get i oi hi
    obtain ⟨op, h3, h4, -⟩ := get k ok hk'
    exact h.inj i k oo op b c c' h1 h3 (h2 hli) (h4 hlk) hri hrk
def sealC (fl : Bool) (id sz k : Nat) (cs' : List AV) : List AV → List AV → Prop
  | [], [] => True
  | x :: xs, y :: ys => (y = x ∨ ∃ nb n, x = .ref nb id n ∧ k = n * sz ∧ y = .lst fl n cs') ∧ sealC fl id sz k cs' xs ys
  | _, _ => False
theorem W.sealB {P : Program} {T : TT} {Q : Ex → St → Prop} {c : Code} (fl : Bool) (id j : Nat) {n sz : Nat} {t bt : TypeId} {cs cs' bcs bcs' : List AV} {h h' : List AObj} {tm : Nat → AV} {l : List (Nat × AV)} (ho : h[id]? = some (.row t sz cs)) (hb : h[j]? = some (.box bt bcs)) (hc : SealVs fl cs cs')
    (hl : sealT fl id sz cs.length cs' tm l) (hbc : sealC fl id sz cs.length cs' bcs bcs') (hh : (h.set id .dead).set j (.box bt bcs') = h') (hw : W P T c ⟨n, look l, h', false⟩ Q) : W P T c ⟨n, tm, h, false⟩ Q := fun hT hf ro k X D w0 mA r m a w hR => by
  obtain ⟨m', hle, hR', hv⟩ := hR.sealH rfl fl ho hc
  subst hh
  have hne : id ≠ j := fun e => by subst e; rw [ho] at hb; cases hb
  have hb' : (h.set id .dead)[j]? = some (.box bt bcs) := by rw [List.getElem?_set_ne hne]; exact hb
  have low := hR.low
  have conv : ∀ (xs ys : List AV) (vs : List Value), sealC fl id sz cs.length cs' xs ys → VRs r m xs vs → VRs r m' ys vs := by
    intro xs
    induction xs with
    | nil => intro ys vs hs hv'; cases ys with
      | nil => simpa only [VRs] using hv'
      | cons => exact hs.elim
    | cons x xs ih => intro ys vs hs hv'; cases ys with
      | nil => exact hs.elim
      | cons y ys =>
        simp only [VRs] at hv' ⊢
        obtain ⟨v, vs', rfl, h1, h2⟩ := hv'
        refine ⟨v, vs', rfl, ?_, ih ys vs' hs.2 h2⟩
        rcases hs.1 with e | ⟨nb, n', e1, e2, e3⟩
        · rw [e]; exact VR.mono (RLe.refl r) hle x v h1
        · rw [e3]; rw [e1] at h1; exact hv nb n' _ e2 h1
  -- the variable, told in other words
  have hR2 : R X D w0 mA r m' ⟨n, tm, (h.set id .dead).set j (.box bt bcs'), false⟩ a w := by
    obtain ⟨b, c, cur, e1, e2, e3, e4⟩ := hR.obj j _ hb
    refine hR'.reobj' hb' ?_
    exact ⟨b, c, cur, e1, e2, e3, conv _ _ _ hbc e4⟩
  refine hw hT hf ro k X D w0 mA r m' a w { hR2 with tmps := fun t => ?_, size' := hR2.size', nox := hR2.nox }
  have key : ∀ (l : List (Nat × AV)), sealT fl id sz cs.length cs' tm l → VR r m' (look l t) (a.tmps.getD t undef) := by
    intro l
    induction l with
    | nil => intro _; simp only [look, VR]
    | cons p l ih =>
      obtain ⟨q, v⟩ := p
      intro hl
      rw [look_cons]
      split
      · rename_i e
        subst e
        rcases hl.1 with e | ⟨nb, n', e1, e2, e3⟩
        · rw [e]; exact hR'.tmps t
        · rw [e3]
          exact hv nb n' _ e2 (by have := hR.tmps t; simp only at this; rw [e1] at this; exact this)
      · exact ih hl.2
  exact key l hl
end
end Go.Lat
namespace Go.Lat
open Go.RowKit
section
variable {P : Program} {T : TT} {ops rest : List Oper} {ty : TypeId} {pos : String} {af : Array Edge} {j n d : Nat} {l : List (Nat × AV)} {h : List AObj} {b : Bool} {KS : St → Prop} {x : Operand}
theorem mI {k : IntKind} {z : Int} (hd : Nat.ble (d + 1) n = true) (e : St.eval ⟨n, look l, h, b⟩ x = .int k z) (h1 : seqL P T ops [] (j + 1) rest ⟨n, look ((d, .int k z) :: l), h, b⟩ KS) : seqL P T ops [] j (⟨some d, .move x, ty, pos, af, none⟩ :: rest) ⟨n, look l, h, b⟩ KS := cL hd (o_move e h1)
theorem mB {z : Bool} (hd : Nat.ble (d + 1) n = true) (e : St.eval ⟨n, look l, h, b⟩ x = .bool z) (h1 : seqL P T ops [] (j + 1) rest ⟨n, look ((d, .bool z) :: l), h, b⟩ KS) : seqL P T ops [] j (⟨some d, .move x, ty, pos, af, none⟩ :: rest) ⟨n, look l, h, b⟩ KS := cL hd (o_move e h1)
theorem mL {f : Bool} {k : Nat} {z : List AV} (hd : Nat.ble (d + 1) n = true) (e : St.eval ⟨n, look l, h, b⟩ x = .lst f k z) (h1 : seqL P T ops [] (j + 1) rest ⟨n, look ((d, .lst f k z) :: l), h, b⟩ KS) : seqL P T ops [] j (⟨some d, .move x, ty, pos, af, none⟩ :: rest) ⟨n, look l, h, b⟩ KS := cL hd (o_move e h1)
theorem aI {k : IntKind} {z : Int} (hd : Nat.ble (d + 1) n = true) (e : St.eval ⟨n, look l, h, b⟩ x = .int k z) (h1 : seqL P T ops [] (j + 1) rest ⟨n, look ((d, .int k z) :: l), h, b⟩ KS) : seqL P T ops [] j (⟨some d, .assign x, ty, pos, af, none⟩ :: rest) ⟨n, look l, h, b⟩ KS := cL hd (o_assign e h1)
theorem aB {z : Bool} (hd : Nat.ble (d + 1) n = true) (e : St.eval ⟨n, look l, h, b⟩ x = .bool z) (h1 : seqL P T ops [] (j + 1) rest ⟨n, look ((d, .bool z) :: l), h, b⟩ KS) : seqL P T ops [] j (⟨some d, .assign x, ty, pos, af, none⟩ :: rest) ⟨n, look l, h, b⟩ KS := cL hd (o_assign e h1)
theorem aL {f : Bool} {k : Nat} {z : List AV} (hd : Nat.ble (d + 1) n = true) (e : St.eval ⟨n, look l, h, b⟩ x = .lst f k z) (h1 : seqL P T ops [] (j + 1) rest ⟨n, look ((d, .lst f k z) :: l), h, b⟩ KS) : seqL P T ops [] j (⟨some d, .assign x, ty, pos, af, none⟩ :: rest) ⟨n, look l, h, b⟩ KS := cL hd (o_assign e h1)
end
end Go.Lat
namespace Go.Lat
open Go.RowKit Go.Proofs
attribute [local irreducible] closeM rangeM pointM addBM cycleM holdsM validBM sameM madeM pickM plusM validM possM firstM tableM longerM boundsM ofM addM freeM
def vc_pick (c : Int) (n : Int) (Post : Int → Prop) : Prop :=
  ∃ J1 : Int → Prop, (∀ (v0 : Int), J1 v0 → (n ≠ 0) ∧ Post (v0.tmod n)) ∧ (((c < (0 : Int)) → (inI (c + (1 : Int))) ∧ (inI (-(c + (1 : Int)))) ∧ J1 (-(c + (1 : Int)))) ∧ (¬ (c < (0 : Int)) → J1 c))
set_option maxRecDepth 100000 in
set_option maxHeartbeats 4000000 in
theorem walk_pick {c : Int} {n : Int} {Post : Int → Prop} (hv : vc_pick c n Post) : FnP Try.prog 12 [.int .i64 c, .int .i64 n] (fun x => ∃ q0, x = .int .i64 q0 ∧ Post q0) := by
 refine FnP.of_walk (T := tt) (nt := 13) ttOk ttMix ⟨⟨Try.f12, Try.func12, rfl, rfl, rfl, rfl⟩⟩ (by simp) ?_
 unfold vc_pick at hv
 change W _ _ _ ⟨13, look [(0, .int .i64 c), (1, .int .i64 n)], [], false⟩ _
 refine W.tr [(0, .int _ _), (1, .int _ _)] [] ⟨rfl, rfl, trivial⟩ rfl ?_
 refine W.rL ?_
 refine aI rfl rfl ?_
 refine eL ?_
 refine W.tr [(0, .int _ _), (1, .int _ _)] [] ⟨rfl, rfl, trivial⟩ rfl ?_
 obtain ⟨J1, hj, hv⟩ := hv
 refine W.mid1 (fun v0 => ⟨13, look [(0, .int .i64 v0), (1, .int .i64 n)], [], false⟩) J1 ?_ ?_
 intro v0
 intro hv
 replace hv := hj v0 hv
 refine W.rL ?_
 iterate 2 refine mI rfl rfl ?_
 obtain ⟨s3, hv⟩ := hv
 refine cL rfl (o_rem rfl rfl s3 ?_)
 refine aI rfl rfl ?_
 refine eL ?_
 refine W.tr [(4, .int _ _)] [] ⟨rfl, trivial⟩ rfl ?_
 refine W.ret ?_
 refine rt ?_
 refine rt_t (v := .int _ _) rfl ?_
 refine rt_n ?_
 exact ⟨_, rs_int _ _ _ _, (v0.tmod n), rfl, hv⟩
 clear hj
 refine W.rL ?_
 refine mI rfl rfl ?_
 refine cL rfl (o_lss rfl rfl ?_)
 refine eL ?_
 refine W.tr [(0, .int _ _), (1, .int _ _), (6, .bool _)] [] ⟨rfl, rfl, rfl, trivial⟩ rfl ?_
 refine W.cn rfl (fun hc => ?_) (fun hc => ?_)
 have hv := hv.1 hc
 refine W.rL1 ?_
 refine mI rfl rfl ?_
 obtain ⟨s4, hv⟩ := hv
 refine cL rfl (o_add rfl rfl s4 ?_)
 obtain ⟨s5, hv⟩ := hv
 refine cL rfl (o_neg rfl s5 ?_)
 refine aI rfl rfl ?_
 refine eL ?_
 exact th_nrm (⟨(), (-(c + (1 : Int))), hv, St.to_mk (φ := []) rfl (.inl rfl) ⟨Ren.int _ _, Ren.int _ _, trivial⟩ trivial⟩)
 have hv := hv.2 hc
 refine W.skip ?_
 exact th_nrm (⟨(), c, hv, St.to_mk (φ := []) rfl (.inl rfl) ⟨Ren.int _ _, Ren.int _ _, trivial⟩ trivial⟩)
theorem vcp_pick (c : Int) (n : Int) (h0 : inI c) (h1 : 1 ≤ n) : vc_pick c n (fun q0 => q0 = (pickM c n)) := by
  unfold vc_pick
  refine ⟨fun v => v = if c < 0 then -(c+1) else c, fun v hv => ⟨by omega, by subst hv; unfold pickM; rfl⟩, fun h => ?_, fun h => ?_⟩
  · unfold inI at *; exact ⟨by omega, by omega, by simp [h]⟩
  · simp [h]
theorem spec_pick (c : Int) (n : Int) (h0 : inI c) (h1 : 1 ≤ n) : FnP Try.prog 12 [.int .i64 c, .int .i64 n] (fun xR => xR = .int .i64 (pickM c n)) :=
  (walk_pick (vcp_pick c n h0 h1)).mono (by rintro _ ⟨_, rfl, rfl⟩; rfl)
def vc_rpick (c : Int) (n : Int) (Post : Int → Prop) : Prop :=
  ∃ J1 : Int → Prop, (∀ (v0 : Int), J1 v0 → (n ≠ 0) ∧ Post (v0.tmod n)) ∧ (((c < (0 : Int)) → (inI (c + (1 : Int))) ∧ (inI (-(c + (1 : Int)))) ∧ J1 (-(c + (1 : Int)))) ∧ (¬ (c < (0 : Int)) → J1 c))
set_option maxRecDepth 100000 in
set_option maxHeartbeats 4000000 in
theorem walk_rpick {c : Int} {n : Int} {Post : Int → Prop} (hv : vc_rpick c n Post) : FnP Try.prog 34 [.int .i64 c, .int .i64 n] (fun x => ∃ q0, x = .int .i64 q0 ∧ Post q0) := by
 refine FnP.of_walk (T := tt) (nt := 13) ttOk ttMix ⟨⟨Try.f34, Try.func34, rfl, rfl, rfl, rfl⟩⟩ (by simp) ?_
 unfold vc_rpick at hv
 change W _ _ _ ⟨13, look [(0, .int .i64 c), (1, .int .i64 n)], [], false⟩ _
 refine W.tr [(0, .int _ _), (1, .int _ _)] [] ⟨rfl, rfl, trivial⟩ rfl ?_
 refine W.rL ?_
 refine aI rfl rfl ?_
 refine eL ?_
 refine W.tr [(0, .int _ _), (1, .int _ _)] [] ⟨rfl, rfl, trivial⟩ rfl ?_
 obtain ⟨J1, hj, hv⟩ := hv
 refine W.mid1 (fun v0 => ⟨13, look [(0, .int .i64 v0), (1, .int .i64 n)], [], false⟩) J1 ?_ ?_
 intro v0
 intro hv
 replace hv := hj v0 hv
 refine W.rL ?_
 iterate 2 refine mI rfl rfl ?_
 obtain ⟨s3, hv⟩ := hv
 refine cL rfl (o_rem rfl rfl s3 ?_)
 refine aI rfl rfl ?_
 refine eL ?_
 refine W.tr [(4, .int _ _)] [] ⟨rfl, trivial⟩ rfl ?_
 refine W.ret ?_
 refine rt ?_
 refine rt_t (v := .int _ _) rfl ?_
 refine rt_n ?_
 exact ⟨_, rs_int _ _ _ _, (v0.tmod n), rfl, hv⟩
 clear hj
 refine W.rL ?_
 refine mI rfl rfl ?_
 refine cL rfl (o_lss rfl rfl ?_)
 refine eL ?_
 refine W.tr [(0, .int _ _), (1, .int _ _), (6, .bool _)] [] ⟨rfl, rfl, rfl, trivial⟩ rfl ?_
 refine W.cn rfl (fun hc => ?_) (fun hc => ?_)
 have hv := hv.1 hc
 refine W.rL1 ?_
 refine mI rfl rfl ?_
 obtain ⟨s4, hv⟩ := hv
 refine cL rfl (o_add rfl rfl s4 ?_)
 obtain ⟨s5, hv⟩ := hv
 refine cL rfl (o_neg rfl s5 ?_)
 refine aI rfl rfl ?_
 refine eL ?_
 exact th_nrm (⟨(), (-(c + (1 : Int))), hv, St.to_mk (φ := []) rfl (.inl rfl) ⟨Ren.int _ _, Ren.int _ _, trivial⟩ trivial⟩)
 have hv := hv.2 hc
 refine W.skip ?_
 exact th_nrm (⟨(), c, hv, St.to_mk (φ := []) rfl (.inl rfl) ⟨Ren.int _ _, Ren.int _ _, trivial⟩ trivial⟩)
theorem vcp_rpick (c : Int) (n : Int) (h0 : inI c) (h1 : 1 ≤ n) : vc_rpick c n (fun q0 => q0 = (pickM c n)) := by
  unfold vc_rpick
  refine ⟨fun v => v = if c < 0 then -(c+1) else c, fun v hv => ⟨by omega, by subst hv; unfold pickM; rfl⟩, fun h => ?_, fun h => ?_⟩
  · unfold inI at *; exact ⟨by omega, by omega, by simp [h]⟩
  · simp [h]
theorem spec_rpick (c : Int) (n : Int) (h0 : inI c) (h1 : 1 ≤ n) : FnP Try.prog 34 [.int .i64 c, .int .i64 n] (fun xR => xR = .int .i64 (pickM c n)) :=
  (walk_rpick (vcp_rpick c n h0 h1)).mono (by rintro _ ⟨_, rfl, rfl⟩; rfl)
def vc_made (n : Int) (x : (List A3)) (Post : (List Con) → Prop) : Prop :=
  ∃ (I1 : Int → List Con → Prop) (μ1 : Int → List Con → Nat), I1 (0 : Int) [] ∧ ∀ (v6 : Int) (r0 : List Con), I1 v6 r0 → (((v6 < ((x.length : Nat) : Int)) ∧ ((v6 < (30 : Int)) ∧ ((1 : Int) < n))) → (0 ≤ v6 ∧ v6 < (x.length : Int)) ∧ (inI ((lat x v6).x0)) ∧ (1 ≤ n) ∧ (inI ((pickM ((lat x v6).x0) n) + (1 : Int))) ∧ (0 ≤ v6 ∧ v6 < (x.length : Int)) ∧ (inI (n - (1 : Int))) ∧ (inI ((lat x v6).x1)) ∧ (1 ≤ (n - (1 : Int))) ∧ (inI (((pickM ((lat x v6).x0) n) + (1 : Int)) + (pickM ((lat x v6).x1) (n - (1 : Int))))) ∧ (n ≠ 0) ∧ (0 ≤ v6 ∧ v6 < (x.length : Int)) ∧ (0 ≤ v6 ∧ v6 < (x.length : Int)) ∧ (inI (((lat x v6).x1).tdiv (30 : Int))) ∧ (inI ((lat x v6).x2)) ∧ (1 ≤ (20 : Int)) ∧ (inI ((pickM ((lat x v6).x2) (20 : Int)) - (6 : Int))) ∧ (inI (((lat x v6).x1).tdiv (30 : Int))) ∧ (1 ≤ (6 : Int)) ∧ (0 ≤ (pickM (((lat x v6).x1).tdiv (30 : Int)) (6 : Int))) ∧ (inI ((1 : Int) * 2 ^ (min (pickM (((lat x v6).x1).tdiv (30 : Int)) (6 : Int)).toNat 64))) ∧ ((r0 ++ [(Con.mk (pickM ((lat x v6).x0) n) ((((pickM ((lat x v6).x0) n) + (1 : Int)) + (pickM ((lat x v6).x1) (n - (1 : Int)))).tmod n) ((pickM ((lat x v6).x2) (20 : Int)) - (6 : Int)) ((1 : Int) * 2 ^ (min (pickM (((lat x v6).x1).tdiv (30 : Int)) (6 : Int)).toNat 64)))]).length ≤ 1073741824) ∧ (inI (v6 + (1 : Int))) ∧ (I1 (v6 + (1 : Int)) (r0 ++ [(Con.mk (pickM ((lat x v6).x0) n) ((((pickM ((lat x v6).x0) n) + (1 : Int)) + (pickM ((lat x v6).x1) (n - (1 : Int)))).tmod n) ((pickM ((lat x v6).x2) (20 : Int)) - (6 : Int)) ((1 : Int) * 2 ^ (min (pickM (((lat x v6).x1).tdiv (30 : Int)) (6 : Int)).toNat 64)))]) ∧ μ1 (v6 + (1 : Int)) (r0 ++ [(Con.mk (pickM ((lat x v6).x0) n) ((((pickM ((lat x v6).x0) n) + (1 : Int)) + (pickM ((lat x v6).x1) (n - (1 : Int)))).tmod n) ((pickM ((lat x v6).x2) (20 : Int)) - (6 : Int)) ((1 : Int) * 2 ^ (min (pickM (((lat x v6).x1).tdiv (30 : Int)) (6 : Int)).toNat 64)))]) < μ1 v6 r0)) ∧ (¬ ((v6 < ((x.length : Nat) : Int)) ∧ ((v6 < (30 : Int)) ∧ ((1 : Int) < n))) → Post r0)
set_option maxRecDepth 100000 in
set_option maxHeartbeats 4000000 in
theorem walk_made {n : Int} {x : (List A3)} {Post : (List Con) → Prop} (hv : vc_made n x Post) : FnP Try.prog 14 [.int .i64 n, .lst true x.length (encL e26 x)] (fun x => ∃ q0, x = .lst false q0.length (encL e25 q0) ∧ Post q0) := by
 refine FnP.of_walk (T := tt) (nt := 65) ttOk ttMix ⟨⟨Try.f14, Try.func14, rfl, rfl, rfl, rfl⟩⟩ (by simp) ?_
 unfold vc_made at hv
 change W _ _ _ ⟨65, look [(0, .int .i64 n), (1, .lst true x.length (encL e26 x))], [], false⟩ _
 refine W.tr [(0, .int _ _), (1, .lst _ _ _)] [] ⟨rfl, rfl, trivial⟩ rfl ?_
 refine W.rL ?_
 refine cL rfl (o_assign (v := .nilS) rfl ?_)
 refine eL ?_
 refine W.tr [(0, .int _ _), (1, .lst _ _ _)] [] ⟨rfl, rfl, trivial⟩ rfl ?_
 refine W.rL ?_
 refine cL rfl (o_assign (v := .nilS) rfl ?_)
 refine eL ?_
 refine W.tr [(0, .int _ _), (1, .lst _ _ _), (5, .nilS)] [] ⟨rfl, rfl, rfl, trivial⟩ rfl ?_
 refine W.seq' ?_
 refine W.rL ?_
 refine aI rfl rfl ?_
 refine eL ?_
 refine W.tr [(0, .int _ _), (1, .lst _ _ _), (5, .nilS), (6, .int _ _)] [] ⟨rfl, rfl, rfl, rfl, trivial⟩ rfl ?_
 refine W.block ?_
 obtain ⟨I1, μ1, hp, hv⟩ := hv
 refine W.loop2 (fun v6 r0 => ⟨65, look [(0, .int .i64 n), (1, .lst true x.length (encL e26 x)), (5, .ref true 0 r0.length), (6, .int .i64 v6)], [.row 25 4 (encL e25 r0)], false⟩) I1 μ1 (0 : Int) [] (St.to_mk (φ := [none]) rfl (.inl rfl) ⟨Ren.int _ _, Ren.lst _ _ _, Ren.nilR rfl rfl, Ren.int _ _, trivial⟩ ⟨rfl, trivial⟩) hp ?_
 clear hp
 intro v6 r0 hI
 replace hv := hv v6 r0 hI
 clear hI
 refine W.seq' ?_
 refine W.rLm ⟨65, look [(0, .int .i64 n), (1, .lst true x.length (encL e26 x)), (5, .ref true 0 r0.length), (6, .int .i64 v6), (20, .bool (decide ((v6 < ((x.length : Nat) : Int)) ∧ ((v6 < (30 : Int)) ∧ ((1 : Int) < n)))))], [.row 25 4 (encL e25 r0)], false⟩ ?_ ?_
 refine mI rfl rfl ?_
 refine mL rfl rfl ?_
 refine cL rfl (o_len (v := .lst _ _ _) tt23 rfl rfl ?_)
 refine cL rfl (o_lss rfl rfl ?_)
 refine mB rfl rfl ?_
 by_cases c1 : v6 < ((x.length : Nat) : Int)
 refine cLg rfl rfl (decide_eq_true c1) ?_
 refine mI rfl rfl ?_
 refine cLg rfl rfl (decide_eq_true c1) ?_
 refine cL rfl (o_lss rfl rfl ?_)
 refine cL rfl (o_pickT (v := .bool _) rfl (decide_eq_true c1) rfl ?_)
 refine mB rfl rfl ?_
 by_cases c2 : v6 < (30 : Int)
 refine cLg rfl rfl (decide_eq_true c2) ?_
 refine mI rfl rfl ?_
 refine cLg rfl rfl (decide_eq_true c2) ?_
 refine cL rfl (o_gtr rfl rfl ?_)
 refine cL rfl (o_pickT (v := .bool _) rfl (decide_eq_true c2) rfl ?_)
 refine eL ?_
 exact le_mk ⟨rfl, rfl, rfl, rfl, (congrArg AV.bool (dAndT c1 (dAndT c2 (rfl)))).symm, trivial⟩ rfl
 iterate 2 refine cLs rfl rfl rfl (decide_eq_false c2) ?_
 refine cL rfl (o_pickF (v := .bool _) rfl (decide_eq_false c2) rfl ?_)
 refine eL ?_
 exact le_mk ⟨rfl, rfl, rfl, rfl, (congrArg AV.bool (dAndT c1 (dAndF c2))).symm, trivial⟩ rfl
 iterate 2 refine cLs rfl rfl rfl (decide_eq_false c1) ?_
 refine cL rfl (o_pickF (v := .bool _) rfl (decide_eq_false c1) rfl ?_)
 refine mB rfl rfl ?_
 iterate 2 refine cLs rfl rfl rfl (rfl) ?_
 refine cL rfl (o_pickF (v := .bool _) rfl rfl rfl ?_)
 refine eL ?_
 exact le_mk ⟨rfl, rfl, rfl, rfl, (congrArg AV.bool (dAndF c1)).symm, trivial⟩ rfl
 refine W.cn rfl (fun hc => ?_) (fun hc => ?_)
 have hv := hv.1 hc
 refine W.skip ?_
 refine th_nrm ?_
 refine W.tr [(0, .int _ _), (1, .lst _ _ _), (5, .ref _ _ _), (6, .int _ _)] [.row _ _ _] ⟨rfl, rfl, rfl, rfl, trivial⟩ rfl ?_
 refine W.seq' ?_
 refine W.block ?_
 refine W.rL ?_
 refine mL rfl rfl ?_
 refine mI rfl rfl ?_
 obtain ⟨s233, hv⟩ := hv
 refine cL rfl (o_iaL tt23 tt26 rfl rfl (enc26.wd true) rfl s233 ?_)
 intro rest233
 refine cL rfl (o_iaP tt26 tt3 rfl rfl ⟨by decide, by decide⟩ ?_)
 refine cL rfl (o_ldS (v := .int _ _) tt3 rfl rfl ⟨_, rfl⟩ ?_)
 refine mI rfl rfl ?_
 obtain ⟨s234, s235, hv⟩ := hv
 refine cL rfl (o_callP1 (k := 34) (fst := []) (caps := []) (ys := [.int _ _, .int _ _]) rfl rfl (spec_rpick ((lat x v6).x0) n s234 s235) (Wks.cons (ag_int _ _ _ _) (Wks.cons (ag_int _ _ _ _) (Wks.refl _))) ?_)
 refine aI rfl rfl ?_
 refine eL ?_
 refine W.tr [(0, .int _ _), (1, .lst _ _ _), (5, .ref _ _ _), (6, .int _ _), (7, .int _ _)] [.row _ _ _] ⟨rfl, rfl, rfl, rfl, rfl, trivial⟩ rfl ?_
 refine W.rL ?_
 refine mI rfl rfl ?_
 obtain ⟨s236, hv⟩ := hv
 refine cL rfl (o_add rfl rfl s236 ?_)
 refine mL rfl rfl ?_
 refine mI rfl rfl ?_
 obtain ⟨s237, hv⟩ := hv
 refine cL rfl (o_iaL tt23 tt26 rfl rfl (enc26.wd true) rfl s237 ?_)
 intro rest237
 refine cL rfl (o_iaP tt26 tt3 rfl rfl ⟨by decide, by decide⟩ ?_)
 refine cL rfl (o_ldS (v := .int _ _) tt3 rfl rfl ⟨_, rfl⟩ ?_)
 refine mI rfl rfl ?_
 obtain ⟨s238, hv⟩ := hv
 refine cL rfl (o_sub rfl rfl s238 ?_)
 obtain ⟨s239, s240, hv⟩ := hv
 refine cL rfl (o_callP1 (k := 34) (fst := []) (caps := []) (ys := [.int _ _, .int _ _]) rfl rfl (spec_rpick ((lat x v6).x1) (n - (1 : Int)) s239 s240) (Wks.cons (ag_int _ _ _ _) (Wks.cons (ag_int _ _ _ _) (Wks.refl _))) ?_)
 obtain ⟨s241, hv⟩ := hv
 refine cL rfl (o_add rfl rfl s241 ?_)
 refine mI rfl rfl ?_
 obtain ⟨s242, hv⟩ := hv
 refine cL rfl (o_rem rfl rfl s242 ?_)
 refine aI rfl rfl ?_
 refine eL ?_
 refine W.tr [(0, .int _ _), (1, .lst _ _ _), (5, .ref _ _ _), (6, .int _ _), (7, .int _ _), (8, .int _ _)] [.row _ _ _] ⟨rfl, rfl, rfl, rfl, rfl, rfl, trivial⟩ rfl ?_
 refine W.rP1 [0, 1, 2, 3, 4, 5, 6, 7, 10, 11, 12, 13, 14, 15, 8, 9, 16, 17, 18, 19, 20, 21] (by decide +kernel) rfl ?_
 refine cL rfl (o_move (v := .ref _ _ _) rfl ?_)
 iterate 2 refine mI rfl rfl ?_
 refine mL rfl rfl ?_
 refine mI rfl rfl ?_
 obtain ⟨s243, hv⟩ := hv
 refine cL rfl (o_iaL tt23 tt26 rfl rfl (enc26.wd true) rfl s243 ?_)
 intro rest243
 refine cL rfl (o_iaP tt26 tt3 rfl rfl ⟨by decide, by decide⟩ ?_)
 refine cL rfl (o_ldS (v := .int _ _) tt3 rfl rfl ⟨_, rfl⟩ ?_)
 refine mL rfl rfl ?_
 refine mI rfl rfl ?_
 obtain ⟨s244, hv⟩ := hv
 refine cL rfl (o_iaL tt23 tt26 rfl rfl (enc26.wd true) rfl s244 ?_)
 intro rest244
 refine cL rfl (o_iaP tt26 tt3 rfl rfl ⟨by decide, by decide⟩ ?_)
 refine cL rfl (o_ldS (v := .int _ _) tt3 rfl rfl ⟨_, rfl⟩ ?_)
 obtain ⟨s245, hv⟩ := hv
 refine cL rfl (o_quo rfl rfl (by decide) s245 ?_)
 obtain ⟨s246, s247, hv⟩ := hv
 refine cL rfl (o_callP1 (k := 34) (fst := []) (caps := []) (ys := [.int _ _, .int _ _]) rfl rfl (spec_rpick ((lat x v6).x2) (20 : Int) s246 s247) (Wks.cons (ag_int _ _ _ _) (Wks.cons (ag_int _ _ _ _) (Wks.refl _))) ?_)
 obtain ⟨s248, hv⟩ := hv
 refine cL rfl (o_sub rfl rfl s248 ?_)
 obtain ⟨s249, s250, hv⟩ := hv
 refine cL rfl (o_callP1 (k := 34) (fst := []) (caps := []) (ys := [.int _ _, .int _ _]) rfl rfl (spec_rpick (((lat x v6).x1).tdiv (30 : Int)) (6 : Int) s249 s250) (Wks.cons (ag_int _ _ _ _) (Wks.cons (ag_int _ _ _ _) (Wks.refl _))) ?_)
 obtain ⟨s251, s252, hv⟩ := hv
 refine cL rfl (o_shl rfl rfl s251 s252 ?_)
 refine cL rfl (o_build (qs := [(0, .int _ _), (1, .int _ _), (2, .int _ _), (3, .int _ _)]) (cs := [.int _ _, .int _ _, .int _ _, .int _ _]) tt25 rfl rfl rfl ?_)
 refine cL rfl (o_bs1 (v := .agg _) (q := 1) tt22 tt25 rfl rfl rfl rfl rfl rfl rfl rfl ?_)
 obtain ⟨s253, hv⟩ := hv
 refine cL rfl (o_apR (p := 2) (q := (r0 ++ [(Con.mk (pickM ((lat x v6).x0) n) ((((pickM ((lat x v6).x0) n) + (1 : Int)) + (pickM ((lat x v6).x1) (n - (1 : Int)))).tmod n) ((pickM ((lat x v6).x2) (20 : Int)) - (6 : Int)) ((1 : Int) * 2 ^ (min (pickM (((lat x v6).x1).tdiv (30 : Int)) (6 : Int)).toNat 64)))]).length) tt22 tt25 rfl rfl (src_ref rfl rfl) rfl rfl (encL_length (enc25.wd false) _) (Nat.le_trans (Nat.le_of_eq (@List.length_append _ (r0) ([(Con.mk (pickM ((lat x v6).x0) n) ((((pickM ((lat x v6).x0) n) + (1 : Int)) + (pickM ((lat x v6).x1) (n - (1 : Int)))).tmod n) ((pickM ((lat x v6).x2) (20 : Int)) - (6 : Int)) ((1 : Int) * 2 ^ (min (pickM (((lat x v6).x1).tdiv (30 : Int)) (6 : Int)).toNat 64)))])).symm) s253) rfl (@List.length_append _ (r0) ([(Con.mk (pickM ((lat x v6).x0) n) ((((pickM ((lat x v6).x0) n) + (1 : Int)) + (pickM ((lat x v6).x1) (n - (1 : Int)))).tmod n) ((pickM ((lat x v6).x2) (20 : Int)) - (6 : Int)) ((1 : Int) * 2 ^ (min (pickM (((lat x v6).x1).tdiv (30 : Int)) (6 : Int)).toNat 64)))])).symm (encL_app e25 r0 [(Con.mk (pickM ((lat x v6).x0) n) ((((pickM ((lat x v6).x0) n) + (1 : Int)) + (pickM ((lat x v6).x1) (n - (1 : Int)))).tmod n) ((pickM ((lat x v6).x2) (20 : Int)) - (6 : Int)) ((1 : Int) * 2 ^ (min (pickM (((lat x v6).x1).tdiv (30 : Int)) (6 : Int)).toNat 64)))]) ?_)
 refine cL rfl (o_assign (v := .ref _ _ _) rfl ?_)
 refine eL ?_
 refine bl_nrm (th_nrm ?_)
 refine W.tr [(0, .int _ _), (1, .lst _ _ _), (5, .ref _ _ _), (6, .int _ _)] [.dead, .row _ _ _, .row _ _ _] ⟨rfl, rfl, rfl, rfl, trivial⟩ rfl ?_
 refine W.rL1 ?_
 refine mI rfl rfl ?_
 obtain ⟨s254, hv⟩ := hv
 refine cL rfl (o_add rfl rfl s254 ?_)
 refine aI rfl rfl ?_
 refine eL ?_
 exact th_nrm (⟨(), (v6 + (1 : Int)), (r0 ++ [(Con.mk (pickM ((lat x v6).x0) n) ((((pickM ((lat x v6).x0) n) + (1 : Int)) + (pickM ((lat x v6).x1) (n - (1 : Int)))).tmod n) ((pickM ((lat x v6).x2) (20 : Int)) - (6 : Int)) ((1 : Int) * 2 ^ (min (pickM (((lat x v6).x1).tdiv (30 : Int)) (6 : Int)).toNat 64)))]), hv, St.to_mk (φ := [some 2]) rfl (.inl rfl) ⟨Ren.int _ _, Ren.lst _ _ _, Ren.ref rfl (fun h => rfl), Ren.int _ _, trivial⟩ ⟨.inr ⟨_, rfl, rfl, rfl, rfl, Rens.enc enc25 false (r0 ++ [(Con.mk (pickM ((lat x v6).x0) n) ((((pickM ((lat x v6).x0) n) + (1 : Int)) + (pickM ((lat x v6).x1) (n - (1 : Int)))).tmod n) ((pickM ((lat x v6).x2) (20 : Int)) - (6 : Int)) ((1 : Int) * 2 ^ (min (pickM (((lat x v6).x1).tdiv (30 : Int)) (6 : Int)).toNat 64)))])⟩, trivial⟩⟩)
 have hv := hv.2 hc
 refine W.exit ?_
 refine th_exit (th_exit (bl_hit (th_nrm ?_)))
 refine W.tr [(5, .ref _ _ _)] [.row _ _ _] ⟨rfl, trivial⟩ rfl ?_
 refine W.rL ?_
 refine cL rfl (o_move (v := .ref _ _ _) rfl ?_)
 refine cL rfl (o_assign (v := .ref _ _ _) rfl ?_)
 refine eL ?_
 refine W.tr [(4, .ref _ _ _)] [.row _ _ _] ⟨rfl, trivial⟩ rfl ?_
 refine W.ret ?_
 refine rt ?_
 refine rt_t (v := .ref _ _ _) rfl ?_
 refine rt_n ?_
 exact ⟨_, rs_ref enc25 4 _ rfl rfl, r0, rfl, hv⟩
theorem vcp_made (n : Int) (x : (List A3)) (h0 : 1 ≤ n) (h1 : n ≤ 1000) (h2 : ∀ y ∈ x, inI y.x0 ∧ inI y.x1 ∧ inI y.x2) : vc_made n x (fun q0 => q0 = (madeM n x)) := by
  unfold vc_made
  refine ⟨fun v r => ∃ i : Nat, v = i ∧ i ≤ x.length ∧ i ≤ 30 ∧ (1 < n ∨ i = 0) ∧ r = (x.take i).map fun y => ⟨pickM y.x0 n, (pickM y.x0 n + 1 + pickM y.x1 (n - 1)).tmod n, pickM y.x2 20 - 6, 2 ^ (pickM (y.x1.tdiv 30) 6).toNat⟩, fun v _ => 30 - v.toNat, ⟨0, rfl, by omega, by omega, .inr rfl, rfl⟩, ?_⟩
  rintro _ r ⟨i, rfl, hi, hi3, hn, hr⟩
  refine ⟨fun ⟨h4, h5, h6⟩ => ?_, fun h4 => ?_⟩
  · have hlt : i < x.length := by omega
    obtain ⟨y0, y1, y2⟩ := h2 _ (lat_mem (xs := x) (i := i) ⟨by omega, by omega⟩)
    have hx : lat x (i : Int) = x[i] := lat_get hlt
    rw [hx] at y0 y1 y2 ⊢
    have p1 := pickM_nonneg (c := x[i].x0) (n := n) h0
    have p2 := pickM_nonneg (c := x[i].x1) (n := n - 1) (by omega)
    have p3 := pickM_nonneg (c := x[i].x2) (n := 20) (by omega)
    have p4 := pickM_nonneg (c := x[i].x1.tdiv 30) (n := 6) (by omega)
    have hq : inI (x[i].x1.tdiv 30) := by
      have h7 : x[i].x1 = 30 * x[i].x1.tdiv 30 + x[i].x1.tmod 30 := (Int.mul_tdiv_add_tmod _ _).symm
      have h8 := Int.tmod_lt_of_pos x[i].x1 (b := 30) (by omega)
      have h9 := Int.lt_tmod_of_pos x[i].x1 (b := 30) (by omega)
      unfold inI at *; omega
    have hp : (min (pickM (x[i].x1.tdiv 30) 6).toNat 64) = (pickM (x[i].x1.tdiv 30) 6).toNat := by omega
    have h2p : (1 : Int) * 2 ^ (pickM (x[i].x1.tdiv 30) 6).toNat ≤ 32 ∧ 0 ≤ (1 : Int) * 2 ^ (pickM (x[i].x1.tdiv 30) 6).toNat := by
      have : (pickM (x[i].x1.tdiv 30) 6).toNat < 6 := by omega
      generalize (pickM (x[i].x1.tdiv 30) 6).toNat = q at this
      match q, this with
      | 0, _ => decide
      | 1, _ => decide
      | 2, _ => decide
      | 3, _ => decide
      | 4, _ => decide
      | 5, _ => decide
    have hlen : r.length = i := by rw [hr]; simp; omega
    rw [hp]
    refine ⟨by omega, y0, h0, by unfold inI at *; omega, by omega, by unfold inI at *; omega, y1, by omega, by unfold inI at *; omega, by omega, by omega, by omega, hq, y2, by omega, by unfold inI; omega, hq, by omega, p4.1, by unfold inI; omega, by rw [List.length_append, hlen]; simp; omega, by unfold inI; omega, ⟨i + 1, by omega, by omega, by omega, .inl h6, ?_⟩, by dsimp only; omega⟩
    rw [List.take_add_one, List.getElem?_eq_getElem hlt, List.map_append, ← hr, Int.one_mul]
    rfl
  · show r = madeM n x
    unfold madeM
    by_cases h6 : 1 < n
    · rw [if_pos h6, hr]
      congr 1
      rcases Nat.lt_or_ge i 30 with h7 | h7
      · rw [List.take_of_length_le (by omega), List.take_of_length_le (by omega)]
      · have : i = 30 := by omega
        rw [this]
    · have : i = 0 := by omega
      rw [if_neg h6, hr, this]; rfl
theorem spec_made (n : Int) (x : (List A3)) (h0 : 1 ≤ n) (h1 : n ≤ 1000) (h2 : ∀ y ∈ x, inI y.x0 ∧ inI y.x1 ∧ inI y.x2) : FnP Try.prog 14 [.int .i64 n, .lst true x.length (encL e26 x)] (fun xR => xR = .lst false (madeM n x).length (encL e25 (madeM n x))) :=
  (walk_made (vcp_made n x h0 h1 h2)).mono (by rintro _ ⟨_, rfl, rfl⟩; rfl)
def vc_poss (n : Int) (c : Con) (Post : Bool → Prop) : Prop :=
  (((((0 : Int) ≤ (min c.f c.t)) ∧ (((max c.f c.t) < n) ∧ (¬ c.f = c.t))) → (((-1125899906842624 : Int) ≤ c.m) → ((c.m ≤ (1125899906842624 : Int)) → (((0 : Int) ≤ c.a) → (0 ≤ (6 : Int)) ∧ True) ∧ (¬ ((0 : Int) ≤ c.a) → True)) ∧ (¬ (c.m ≤ (1125899906842624 : Int)) → True)) ∧ (¬ ((-1125899906842624 : Int) ≤ c.m) → True)) ∧ (¬ (((0 : Int) ≤ (min c.f c.t)) ∧ (((max c.f c.t) < n) ∧ (¬ c.f = c.t))) → True)) ∧ (Post (decide ((((0 : Int) ≤ (min c.f c.t)) ∧ (((max c.f c.t) < n) ∧ (¬ c.f = c.t))) ∧ (((-1125899906842624 : Int) ≤ c.m) ∧ ((c.m ≤ (1125899906842624 : Int)) ∧ (((0 : Int) ≤ c.a) ∧ (c.a.fdiv (2 ^ (min (6 : Int).toNat 64)) = (0 : Int))))))))
set_option maxRecDepth 100000 in
set_option maxHeartbeats 4000000 in
theorem walk_poss {n : Int} {c : Con} {Post : Bool → Prop} (hv : vc_poss n c Post) : FnP Try.prog 43 [.int .i64 n, .agg (e25 c)] (fun x => ∃ q0, x = .bool q0 ∧ Post q0) := by
 refine FnP.of_walk (T := tt) (nt := 50) ttOk ttMix ⟨⟨Try.f43, Try.func43, rfl, rfl, rfl, rfl⟩⟩ (by simp) ?_
 unfold vc_poss at hv
 change W _ _ _ ⟨50, look [(0, .int .i64 n), (1, .agg [.int .i64 c.f, .int .i64 c.t, .int .i64 c.m, .int .i64 c.a])], [], false⟩ _
 refine W.tr [(0, .int _ _), (1, .agg _)] [] ⟨rfl, rfl, trivial⟩ rfl ?_
 refine W.rL ?_
 refine cL rfl (o_box (v := .agg _) (p := 0) rfl rfl rfl ?_)
 refine aB rfl rfl ?_
 refine eL ?_
 refine W.tr [(0, .int _ _), (3, .ptr _ _)] [.box _ [.int _ _, .int _ _, .int _ _, .int _ _]] ⟨rfl, rfl, trivial⟩ rfl ?_
 refine W.rLm ⟨50, look [(3, .ptr 0 0), (5, .bool (decide (((0 : Int) ≤ (min c.f c.t)) ∧ (((max c.f c.t) < n) ∧ (¬ c.f = c.t)))))], [.box 25 [.int .i64 c.f, .int .i64 c.t, .int .i64 c.m, .int .i64 c.a]], false⟩ ?_ ?_
 refine cL rfl (o_fa tt25 rfl tt3 rfl ?_)
 refine cL rfl (o_ldS (v := .int _ _) tt3 rfl rfl ⟨_, rfl⟩ ?_)
 refine cL rfl (o_fa tt25 rfl tt3 rfl ?_)
 refine cL rfl (o_ldS (v := .int _ _) tt3 rfl rfl ⟨_, rfl⟩ ?_)
 refine cL rfl (o_min rfl rfl ?_)
 refine cL rfl (o_geq rfl rfl ?_)
 refine mB rfl rfl ?_
 by_cases c1 : (0 : Int) ≤ (min c.f c.t)
 refine cLg rfl rfl (decide_eq_true c1) ?_
 refine cL rfl (o_fa tt25 rfl tt3 rfl ?_)
 refine cLg rfl rfl (decide_eq_true c1) ?_
 refine cL rfl (o_ldS (v := .int _ _) tt3 rfl rfl ⟨_, rfl⟩ ?_)
 refine cLg rfl rfl (decide_eq_true c1) ?_
 refine cL rfl (o_fa tt25 rfl tt3 rfl ?_)
 refine cLg rfl rfl (decide_eq_true c1) ?_
 refine cL rfl (o_ldS (v := .int _ _) tt3 rfl rfl ⟨_, rfl⟩ ?_)
 refine cLg rfl rfl (decide_eq_true c1) ?_
 refine cL rfl (o_max rfl rfl ?_)
 refine cLg rfl rfl (decide_eq_true c1) ?_
 refine mI rfl rfl ?_
 refine cLg rfl rfl (decide_eq_true c1) ?_
 refine cL rfl (o_lss rfl rfl ?_)
 refine cL rfl (o_pickT (v := .bool _) rfl (decide_eq_true c1) rfl ?_)
 refine mB rfl rfl ?_
 by_cases c2 : (max c.f c.t) < n
 refine cLg rfl rfl (decide_eq_true c2) ?_
 refine cL rfl (o_fa tt25 rfl tt3 rfl ?_)
 refine cLg rfl rfl (decide_eq_true c2) ?_
 refine cL rfl (o_ldS (v := .int _ _) tt3 rfl rfl ⟨_, rfl⟩ ?_)
 refine cLg rfl rfl (decide_eq_true c2) ?_
 refine cL rfl (o_fa tt25 rfl tt3 rfl ?_)
 refine cLg rfl rfl (decide_eq_true c2) ?_
 refine cL rfl (o_ldS (v := .int _ _) tt3 rfl rfl ⟨_, rfl⟩ ?_)
 refine cLg rfl rfl (decide_eq_true c2) ?_
 refine cL rfl (o_neI rfl rfl rfl ?_)
 refine cL rfl (o_pickT (v := .bool _) rfl (decide_eq_true c2) rfl ?_)
 refine aB rfl rfl ?_
 refine eL ?_
 exact le_mk ⟨rfl, (congrArg AV.bool (dAndT c1 (dAndT c2 (rfl)))).symm, trivial⟩ rfl
 iterate 5 refine cLs rfl rfl rfl (decide_eq_false c2) ?_
 refine cL rfl (o_pickF (v := .bool _) rfl (decide_eq_false c2) rfl ?_)
 refine aB rfl rfl ?_
 refine eL ?_
 exact le_mk ⟨rfl, (congrArg AV.bool (dAndT c1 (dAndF c2))).symm, trivial⟩ rfl
 iterate 7 refine cLs rfl rfl rfl (decide_eq_false c1) ?_
 refine cL rfl (o_pickF (v := .bool _) rfl (decide_eq_false c1) rfl ?_)
 refine mB rfl rfl ?_
 iterate 5 refine cLs rfl rfl rfl (rfl) ?_
 refine cL rfl (o_pickF (v := .bool _) rfl rfl rfl ?_)
 refine aB rfl rfl ?_
 refine eL ?_
 exact le_mk ⟨rfl, (congrArg AV.bool (dAndF c1)).symm, trivial⟩ rfl
 obtain ⟨sd, hv⟩ := hv
 refine W.rLm ⟨50, look [(4, .bool (decide ((((0 : Int) ≤ (min c.f c.t)) ∧ (((max c.f c.t) < n) ∧ (¬ c.f = c.t))) ∧ (((-1125899906842624 : Int) ≤ c.m) ∧ ((c.m ≤ (1125899906842624 : Int)) ∧ (((0 : Int) ≤ c.a) ∧ (c.a.fdiv (2 ^ (min (6 : Int).toNat 64)) = (0 : Int))))))))], [.box 25 [.int .i64 c.f, .int .i64 c.t, .int .i64 c.m, .int .i64 c.a]], false⟩ ?_ ?_
 iterate 2 refine mB rfl rfl ?_
 by_cases c1 : ((0 : Int) ≤ (min c.f c.t)) ∧ (((max c.f c.t) < n) ∧ (¬ c.f = c.t))
 have sd := sd.1 c1
 refine cLg rfl rfl (decide_eq_true c1) ?_
 refine cL rfl (o_fa tt25 rfl tt3 rfl ?_)
 refine cLg rfl rfl (decide_eq_true c1) ?_
 refine cL rfl (o_ldS (v := .int _ _) tt3 rfl rfl ⟨_, rfl⟩ ?_)
 refine cLg rfl rfl (decide_eq_true c1) ?_
 refine cL rfl (o_geq rfl rfl ?_)
 refine cL rfl (o_pickT (v := .bool _) rfl (decide_eq_true c1) rfl ?_)
 refine mB rfl rfl ?_
 by_cases c2 : (-1125899906842624 : Int) ≤ c.m
 have sd := sd.1 c2
 refine cLg rfl rfl (decide_eq_true c2) ?_
 refine cL rfl (o_fa tt25 rfl tt3 rfl ?_)
 refine cLg rfl rfl (decide_eq_true c2) ?_
 refine cL rfl (o_ldS (v := .int _ _) tt3 rfl rfl ⟨_, rfl⟩ ?_)
 refine cLg rfl rfl (decide_eq_true c2) ?_
 refine cL rfl (o_leq rfl rfl ?_)
 refine cL rfl (o_pickT (v := .bool _) rfl (decide_eq_true c2) rfl ?_)
 refine mB rfl rfl ?_
 by_cases c3 : c.m ≤ (1125899906842624 : Int)
 have sd := sd.1 c3
 refine cLg rfl rfl (decide_eq_true c3) ?_
 refine cL rfl (o_fa tt25 rfl tt3 rfl ?_)
 refine cLg rfl rfl (decide_eq_true c3) ?_
 refine cL rfl (o_ldS (v := .int _ _) tt3 rfl rfl ⟨_, rfl⟩ ?_)
 refine cLg rfl rfl (decide_eq_true c3) ?_
 refine cL rfl (o_geq rfl rfl ?_)
 refine cL rfl (o_pickT (v := .bool _) rfl (decide_eq_true c3) rfl ?_)
 refine mB rfl rfl ?_
 by_cases c4 : (0 : Int) ≤ c.a
 have sd := sd.1 c4
 refine cLg rfl rfl (decide_eq_true c4) ?_
 refine cL rfl (o_fa tt25 rfl tt3 rfl ?_)
 refine cLg rfl rfl (decide_eq_true c4) ?_
 refine cL rfl (o_ldS (v := .int _ _) tt3 rfl rfl ⟨_, rfl⟩ ?_)
 refine cLg rfl rfl (decide_eq_true c4) ?_
 obtain ⟨s2, sd⟩ := sd
 refine cL rfl (o_shr rfl rfl s2 ?_)
 refine cLg rfl rfl (decide_eq_true c4) ?_
 refine cL rfl (o_eqI rfl rfl rfl ?_)
 refine cL rfl (o_pickT (v := .bool _) rfl (decide_eq_true c4) rfl ?_)
 refine aB rfl rfl ?_
 refine eL ?_
 exact le_mk ⟨(congrArg AV.bool (dAndT c1 (dAndT c2 (dAndT c3 (dAndT c4 (rfl)))))).symm, trivial⟩ rfl
 iterate 4 refine cLs rfl rfl rfl (decide_eq_false c4) ?_
 refine cL rfl (o_pickF (v := .bool _) rfl (decide_eq_false c4) rfl ?_)
 refine aB rfl rfl ?_
 refine eL ?_
 exact le_mk ⟨(congrArg AV.bool (dAndT c1 (dAndT c2 (dAndT c3 (dAndF c4))))).symm, trivial⟩ rfl
 iterate 3 refine cLs rfl rfl rfl (decide_eq_false c3) ?_
 refine cL rfl (o_pickF (v := .bool _) rfl (decide_eq_false c3) rfl ?_)
 refine mB rfl rfl ?_
 iterate 4 refine cLs rfl rfl rfl (rfl) ?_
 refine cL rfl (o_pickF (v := .bool _) rfl rfl rfl ?_)
 refine aB rfl rfl ?_
 refine eL ?_
 exact le_mk ⟨(congrArg AV.bool (dAndT c1 (dAndT c2 (dAndF c3)))).symm, trivial⟩ rfl
 iterate 3 refine cLs rfl rfl rfl (decide_eq_false c2) ?_
 refine cL rfl (o_pickF (v := .bool _) rfl (decide_eq_false c2) rfl ?_)
 refine mB rfl rfl ?_
 iterate 3 refine cLs rfl rfl rfl (rfl) ?_
 refine cL rfl (o_pickF (v := .bool _) rfl rfl rfl ?_)
 refine mB rfl rfl ?_
 iterate 4 refine cLs rfl rfl rfl (rfl) ?_
 refine cL rfl (o_pickF (v := .bool _) rfl rfl rfl ?_)
 refine aB rfl rfl ?_
 refine eL ?_
 exact le_mk ⟨(congrArg AV.bool (dAndT c1 (dAndF c2))).symm, trivial⟩ rfl
 iterate 3 refine cLs rfl rfl rfl (decide_eq_false c1) ?_
 refine cL rfl (o_pickF (v := .bool _) rfl (decide_eq_false c1) rfl ?_)
 refine mB rfl rfl ?_
 iterate 3 refine cLs rfl rfl rfl (rfl) ?_
 refine cL rfl (o_pickF (v := .bool _) rfl rfl rfl ?_)
 refine mB rfl rfl ?_
 iterate 3 refine cLs rfl rfl rfl (rfl) ?_
 refine cL rfl (o_pickF (v := .bool _) rfl rfl rfl ?_)
 refine mB rfl rfl ?_
 iterate 4 refine cLs rfl rfl rfl (rfl) ?_
 refine cL rfl (o_pickF (v := .bool _) rfl rfl rfl ?_)
 refine aB rfl rfl ?_
 refine eL ?_
 exact le_mk ⟨(congrArg AV.bool (dAndF c1)).symm, trivial⟩ rfl
 refine W.ret ?_
 refine rt ?_
 refine rt_t (v := .bool _) rfl ?_
 refine rt_n ?_
 exact ⟨_, rs_bool _ _ _, (decide ((((0 : Int) ≤ (min c.f c.t)) ∧ (((max c.f c.t) < n) ∧ (¬ c.f = c.t))) ∧ (((-1125899906842624 : Int) ≤ c.m) ∧ ((c.m ≤ (1125899906842624 : Int)) ∧ (((0 : Int) ≤ c.a) ∧ (c.a.fdiv (2 ^ (min (6 : Int).toNat 64)) = (0 : Int))))))), rfl, hv⟩
theorem vcp_poss (n : Int) (c : Con)  : vc_poss n c (fun q0 => q0 = (possM n c)) := by
  unfold vc_poss
  refine ⟨by simp, ?_⟩
  unfold possM
  have e : (2 : Int) ^ (min (6 : Int).toNat 64) = 64 := by decide
  rw [e]
  have e2 : c.a.fdiv 64 = c.a / 64 := Int.fdiv_eq_ediv_of_nonneg _ (by omega)
  rw [e2]
  exact decide_eq_decide.mpr (by omega)
theorem spec_poss (n : Int) (c : Con)  : FnP Try.prog 43 [.int .i64 n, .agg (e25 c)] (fun xR => xR = .bool (possM n c)) :=
  (walk_poss (vcp_poss n c)).mono (by rintro _ ⟨_, rfl, rfl⟩; rfl)
def vc_valid1 (c : Con) (n : Int) (Post : Bool → Prop) : Prop :=
  Post (decide (¬ ((possM n c) = true)))
set_option maxRecDepth 100000 in
set_option maxHeartbeats 4000000 in
theorem walk_valid1 {c : Con} {n : Int} {Post : Bool → Prop} (hv : vc_valid1 c n Post) : FnP Try.prog 57 [.agg (e25 c), .ipt true [.int .i64 n]] (fun x => ∃ q0, x = .bool q0 ∧ Post q0) := by
 refine FnP.of_walk (T := tt) (nt := 8) ttOk ttMix ⟨⟨Try.f57, Try.func57, rfl, rfl, rfl, rfl⟩⟩ (by simp) ?_
 unfold vc_valid1 at hv
 change W _ _ _ ⟨8, look [(0, .agg [.int .i64 c.f, .int .i64 c.t, .int .i64 c.m, .int .i64 c.a]), (1, .ipt true [.int .i64 n])], [], false⟩ _
 refine W.tr [(0, .agg _), (1, .ipt _ _)] [] ⟨rfl, rfl, trivial⟩ rfl ?_
 refine W.rL ?_
 refine cL rfl (o_box (v := .agg _) (p := 0) rfl rfl rfl ?_)
 refine aB rfl rfl ?_
 refine eL ?_
 refine W.tr [(1, .ipt _ _), (2, .ptr _ _)] [.box _ [.int _ _, .int _ _, .int _ _, .int _ _]] ⟨rfl, rfl, trivial⟩ rfl ?_
 refine W.rL ?_
 refine cL rfl (o_ldS (v := .int _ _) tt3 rfl rfl ⟨_, rfl⟩ ?_)
 refine cL rfl (o_ldA (cs := [.int _ _, .int _ _, .int _ _, .int _ _]) tt25 rfl rfl ⟨_, rfl⟩ rfl ?_)
 refine cL rfl (o_callP1 (k := 43) (fst := []) (caps := []) (ys := [.int _ _, .agg _]) rfl rfl (spec_poss n c) (Wks.cons (ag_int _ _ _ _) (Wks.cons (ag_agg 5 _ (Wks.cons (ag_int _ _ _ _) (Wks.cons (ag_int _ _ _ _) (Wks.cons (ag_int _ _ _ _) (Wks.cons (ag_int _ _ _ _) (Wks.refl _)))))) (Wks.refl _))) ?_)
 refine cL rfl (o_notB rfl ?_)
 refine aB rfl rfl ?_
 refine eL ?_
 refine W.tr [(3, .bool _)] [.box _ [.int _ _, .int _ _, .int _ _, .int _ _]] ⟨rfl, trivial⟩ rfl ?_
 refine W.ret ?_
 refine rt ?_
 refine rt_t (v := .bool _) rfl ?_
 refine rt_n ?_
 exact ⟨_, rs_bool _ _ _, (decide (¬ ((possM n c) = true))), rfl, hv⟩
theorem vcp_valid1 (c : Con) (n : Int)  : vc_valid1 c n (fun q0 => q0 = (!(possM n c))) := by
  unfold vc_valid1
  cases possM n c <;> rfl
theorem spec_valid1 (c : Con) (n : Int)  : FnP Try.prog 57 [.agg (e25 c), .ipt true [.int .i64 n]] (fun xR => xR = .bool (!(possM n c))) :=
  (walk_valid1 (vcp_valid1 c n)).mono (by rintro _ ⟨_, rfl, rfl⟩; rfl)
end Go.Lat
