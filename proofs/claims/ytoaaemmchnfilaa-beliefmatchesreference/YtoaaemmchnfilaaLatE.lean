/- The law latecomerlaw10.BeliefMatchesReference returns true for every input, and each argument reads afterwards as it read before. Part 5 of 14. No condition. -/
import Derived.Test.YtoaaemmchnfilaaLatD
import Derived.Test.YtoaaemmchnfilaaLatC
set_option linter.unusedVariables false
set_option linter.unusedSimpArgs false
set_option linter.unnecessarySimpa false
set_option maxRecDepth 100000
set_option maxHeartbeats 4000000
namespace Go.Lat
def withE (b : Bd) (f t : Nat) (w : Int) (i j : Nat) : Int :=
  if zW (zW (bm b i f) w) (bm b t j) = NB \/ (¬ bm b i j = NB /\ bm b i j <= zW (zW (bm b i f) w) (bm b t j)) then bm b i j else zW (zW (bm b i f) w) (bm b t j)
def withM (b : Bd) (f t w : Int) : Bd × Bool :=
  if ¬ zW w (bm b t.toNat f.toNat) = NB /\ zW w (bm b t.toNat f.toNat) < 0 then (⟨0, []⟩, false)
  else (⟨b.n, (List.range b.n.toNat).map fun i => (List.range b.n.toNat).map fun j => withE b f.toNat t.toNat w i j⟩, true)
structure WithOk (b : Bd) (f t w : Int) : Prop where
  n : 1 <= b.n /\ b.n <= 24 /\ (b.most.length : Int) = b.n
  row : ∀ i, i < b.most.length -> (b.most.getD i []).length = b.most.length
  f : 0 <= f /\ f < b.n
  t : 0 <= t /\ t < b.n
  w : -72057594037927936 <= w /\ w <= 72057594037927936
  e : ∀ i j, i < b.most.length -> j < b.most.length -> bm b i j = NB \/ (-288230376151711744 <= bm b i j /\ bm b i j <= 288230376151711744)
theorem lat_bm {b : Bd} {i j : Int} (hi : 0 <= i) (hj : 0 <= j) : lat (lat b.most i) j = bm b i.toNat j.toNat := rfl
theorem boundsM_eq {m : Vector Int 576} {n : Int} (hn : n <= 24) : zYs m n = ⟨n, (List.range n.toNat).map fun i => (List.range n.toNat).map fun j => mm m i j⟩ := by
  unfold zYs
  congr 1
  refine List.map_congr_left fun i hi => ?_
  rw [List.mem_range] at hi
  rw [row_map (by omega) (by omega)]
theorem Bd_eq {a : Bd} {n : Int} {g : Nat -> Nat -> Int} (h1 : a.n = n) (h2 : (a.most.length : Int) = n) (h3 : ∀ i, i < a.most.length -> (a.most.getD i []).length = a.most.length) (h4 : ∀ i j, i < a.most.length -> j < a.most.length -> bm a i j = g i j) :
    a = ⟨n, (List.range n.toNat).map fun i => (List.range n.toNat).map fun j => g i j⟩ := by
  obtain ⟨an, am⟩ := a
  dsimp only at h1 h2 h3
  subst h1
  congr 1
  have hl : am.length = an.toNat := by omega
  apply List.ext_getElem?
  intro i
  rcases Nat.lt_or_ge i am.length with h | h
  . rw [List.getElem?_eq_getElem h, List.getElem?_map, List.getElem?_range (by omega), Option.map_some]
    congr 1
    have h5 := h3 i h
    have e : am.getD i [] = am[i] := by simp [h]
    rw [e] at h5
    apply List.ext_getElem?
    intro j
    rcases Nat.lt_or_ge j am.length with h6 | h6
    . have := h4 i j h h6
      unfold bm at this
      dsimp only at this
      rw [e] at this
      rw [List.getElem?_map, List.getElem?_range (by omega), Option.map_some, <- this, List.getD_eq_getElem?_getD, List.getElem?_eq_getElem (by omega)]
      rfl
    . rw [List.getElem?_eq_none (by omega), List.getElem?_eq_none (by simp; omega)]
  . rw [List.getElem?_eq_none h, List.getElem?_eq_none (by simp; omega)]
theorem VB.bounds {b : Bd} (v : VB b) : zYs (ofM b) b.n = b := by
  have hn := v.n
  rw [boundsM_eq (by omega)]
  refine (Bd_eq rfl (by omega) v.row fun i j hi hj => ?_).symm
  rw [of_at v (by omega) (by omega), if_pos (by omega)]
theorem with_bounds {m : Vector Int 576} {B : Int} {n : Int} {f t : Nat} {w : Int} (h : Cl 24 m B) (hB : 0 <= B /\ B <= 144115188075855872) (hn : 1 <= n /\ n <= 24) (hf : (f : Int) < n) (ht : (t : Int) < n) (hw : -72057594037927936 <= w /\ w <= 72057594037927936) :
    withM (zYs m n) f t w = if (addM m f t w).1 = true then (zYs (addM m f t w).2 n, true) else (⟨0, []⟩, false) := by
  have hnb := hNB
  have E := fun {i j : Nat} => bm_bounds (m := m) (n := n) (i := i) (j := j)
  have bd := fun (i j : Nat) (hi : i < n.toNat) (hj : j < n.toNat) => h.bd i j (by omega) (by omega)
  unfold withM
  simp only [Int.toNat_natCast]
  rw [E (by omega) (by omega)]
  have b0 := bd t f (by omega) (by omega)
  have hneg : (¬ zW w (mm m t f) = NB /\ zW w (mm m t f) < 0) ↔ zW w (mm m t f) < 0 := ⟨fun h => h.2, fun h => ⟨by omega, h⟩⟩
  by_cases k1 : zW w (mm m t f) < 0
  . rw [if_pos (hneg.mpr k1), addM_neg k1]; rfl
  rw [if_neg (fun h => k1 h.2)]
  have key : ∀ m' : Vector Int 576, (∀ i j, i < n.toNat -> j < n.toNat -> withE (zYs m n) f t w i j = mm m' i j) -> ((⟨(zYs m n).n, (List.range (zYs m n).n.toNat).map fun i => (List.range (zYs m n).n.toNat).map fun j => withE (zYs m n) f t w i j⟩ : Bd), true) = (zYs m' n, true) := fun m' hg => by
    rw [boundsM_eq (m := m') (by omega)]
    congr 2
    refine List.map_congr_left fun i hi => List.map_congr_left fun j hj => ?_
    exact hg i j (List.mem_range.mp hi) (List.mem_range.mp hj)
  by_cases k2 : mm m f t <= w
  . rw [addM_le k1 k2, if_pos rfl]
    refine key _ fun i j hi hj => ?_
    unfold withE
    rw [E hi (by omega), E (by omega) hj, E hi hj]
    have b1 := bd i f hi (by omega)
    have b2 := bd t j (by omega) hj
    have b3 := bd i j hi hj
    have b4 := bd f t (by omega) (by omega)
    split
    . rfl
    . rename_i hx
      by_cases e1 : mm m i f = NB
      . exact (hx (.inl (by rw [plusM_inf (.inl (plusM_inf (.inl e1)))]))).elim
      by_cases e2 : mm m t j = NB
      . exact (hx (.inl (plusM_inf (.inr e2)))).elim
      have e3 : zW (mm m i f) w = mm m i f + w := plusM_nb e1 (by omega)
      have t1 := h.tri i f t (by omega) (by omega) (by omega) e1 (by omega)
      have n1 := h.fin (by omega) (i := i) (j := f) (k := t) (by omega) (by omega) (by omega) e1 (by omega)
      have t2 := h.tri i t j (by omega) (by omega) (by omega) n1 e2
      have n2 := h.fin (by omega) (i := i) (j := t) (k := j) (by omega) (by omega) (by omega) n1 e2
      have e4 : zW (zW (mm m i f) w) (mm m t j) = mm m i f + w + mm m t j := by rw [e3]; exact plusM_nb (by omega) e2
      exact (hx (.inr ⟨n2, by rw [e4]; omega⟩)).elim
  . rw [addM_relax k1 k2, if_pos rfl]
    refine key _ fun i j hi hj => ?_
    unfold withE
    rw [E hi (by omega), E (by omega) hj, E hi hj, mm_relax (by omega) (by omega)]
    have b1 := bd i f hi (by omega)
    have b2 := bd t j (by omega) hj
    have b3 := bd i j hi hj
    by_cases e1 : mm m i f = NB
    . rw [if_pos e1, if_pos (.inl (by rw [plusM_inf (.inl (plusM_inf (.inl e1)))]))]
    . rw [if_neg e1]
      have e3 : zW (mm m i f) w = mm m i f + w := plusM_nb e1 (by omega)
      rw [e3]
      by_cases e2 : mm m t j = NB
      . rw [plusM_inf (.inr e2), if_pos (.inl rfl)]; omega
      . rw [plusM_nb (by omega) e2]
        split <;> omega
end Go.Lat
namespace Go.Lat
theorem lat_blen {b : Bd} (h : ∀ i, i < b.most.length -> (b.most.getD i []).length = b.most.length) {i : Int} (hi : 0 <= i /\ i < b.most.length) : (lat b.most i).length = b.most.length := h i.toNat (by omega)
theorem bounds_wok {m : Vector Int 576} {B : Int} (h : Cl 24 m B) (hB : B <= 288230376151711744) {n : Int} (hn : 1 <= n /\ n <= 24) {f t w : Int} (hf : 0 <= f /\ f < n) (ht : 0 <= t /\ t < n) (hw : -72057594037927936 <= w /\ w <= 72057594037927936) : WithOk (zYs m n) f t w := by
  have e : (zYs m n).n = n := rfl
  refine ⟨by rw [e, bounds_len]; omega, fun i hi => ?_, hf, ht, hw, fun i j hi hj => ?_⟩ <;> rw [bounds_len] at *
  . exact bounds_row hn.2 hi
  . rw [bm_bounds hi hj]; have := h.bd i j (by omega) (by omega); omega
theorem VB.wok {b : Bd} (v : VB b) {f t w : Int} (hf : 0 <= f /\ f < b.n) (ht : 0 <= t /\ t < b.n) (hw : -72057594037927936 <= w /\ w <= 72057594037927936) : WithOk b f t w := by
  have := bounds_wok v.cl (by omega) (n := b.n) ⟨v.n.1, v.n.2.1⟩ hf ht hw
  rwa [v.bounds] at this
theorem VB.with {b : Bd} (v : VB b) {f t : Nat} {w : Int} (hf : (f : Int) < b.n) (ht : (t : Int) < b.n) (hw : -72057594037927936 <= w /\ w <= 72057594037927936) :
    withM b f t w = if (addM (ofM b) f t w).1 = true then (zYs (addM (ofM b) f t w).2 b.n, true) else (⟨0, []⟩, false) := by
  have := with_bounds v.cl (by omega) (n := b.n) ⟨v.n.1, v.n.2.1⟩ hf ht hw
  rwa [v.bounds] at this
theorem bounds_n {m : Vector Int 576} {n : Int} : (zYs m n).n = n := rfl
end Go.Lat
namespace Go.Lat
open Go.RowKit
def boundedM (n : Int) (l : List Con) : Bd × Bool := if (zWy n l).2.2 = 0 then ((zWy n l).1, true) else (⟨0, []⟩, false)
def rallM (l : List Int) (most : Int) : Bool := l.all fun y => decide (0 <= y /\ y <= most)
def zYu (f : Flt) (n : Int) (l : List Con) : List Int × List Bd × Int :=
  if zX f n l = true then (if zYw f n l = [] then ([], [], 100) else ((zYw f n l).map (·.s), (zYw f n l).map (·.b), 0)) else ([], [], 2)
theorem rall_all {l : List Int} {lo hi most : Int} : allM l lo hi most = (rallM l most && inM (l.length : Int) lo hi) := rfl
theorem wrap64 (n : Int) : IntKind.i64.wrap n = if 9223372036854775808 <= n % 18446744073709551616 then n % 18446744073709551616 - 18446744073709551616 else n % 18446744073709551616 := by
  show (if (true && decide (n % 2 ^ 64 ≥ 2 ^ 63)) = true then n % 2 ^ 64 - 2 ^ 64 else n % 2 ^ 64) = _
  by_cases h : 9223372036854775808 <= n % 18446744073709551616
  . rw [if_pos h, if_pos (by simpa using h)]; rfl
  . rw [if_neg h, if_neg (by simpa using h)]; rfl
theorem wrap_bv (Z : BitVec 64) : IntKind.i64.wrap (Z.toNat : Int) = Z.toInt := by
  have h := Z.isLt
  rw [BitVec.toInt_eq_toNat_cond, wrap64]
  generalize Z.toNat = m at *
  by_cases h1 : 2 * m < 2 ^ 64
  . rw [if_pos h1, if_neg (by omega)]; omega
  . rw [if_neg h1, if_pos (by omega)]; omega
theorem ofInt_toInt {a : Int} (h : inI a) : (BitVec.ofInt 64 a).toInt = a := by
  rw [BitVec.toInt_ofInt]
  unfold inI at h
  unfold Int.bmod
  simp only
  split <;> omega
theorem and_inSet {c : Con} {s : Int} (h : inI c.a) : bitI .and .i64 c.a s = c.a ↔ inSet c s = true := by
  unfold inSet
  rw [decide_eq_true_eq]
  show IntKind.i64.wrap ((BitVec.ofInt 64 c.a &&& BitVec.ofInt 64 s).toNat : Int) = c.a ↔ IntKind.i64.wrap ((BitVec.ofInt 64 c.a &&& ~~~ BitVec.ofInt 64 s).toNat : Int) = 0
  rw [wrap_bv, wrap_bv]
  have e := ofInt_toInt h
  generalize BitVec.ofInt 64 c.a = X at *
  generalize BitVec.ofInt 64 s = S
  rw [<- e]
  have h0 : (0 : Int) = (0#64 : BitVec 64).toInt := by simp
  rw [h0, BitVec.toInt_inj, BitVec.toInt_inj]
  constructor
  . intro h
    apply BitVec.eq_of_getElem_eq
    intro i hi
    have := congrArg (fun z : BitVec 64 => z[i]) h
    simp only [BitVec.getElem_and] at this
    simp only [BitVec.getElem_and, BitVec.getElem_not, BitVec.getElem_zero]
    cases hx : X[i] <;> cases hs : S[i] <;> simp_all
  . intro h
    apply BitVec.eq_of_getElem_eq
    intro i hi
    have := congrArg (fun z : BitVec 64 => z[i]) h
    simp only [BitVec.getElem_and, BitVec.getElem_not, BitVec.getElem_zero] at this
    simp only [BitVec.getElem_and]
    cases hx : X[i] <;> cases hs : S[i] <;> simp_all
theorem fdiv_zero {a : Int} {k : Nat} (hk : k <= 6) (h : 0 <= a) : a.fdiv (2 ^ (min k 64)) = 0 ↔ a < ((2 ^ k : Nat) : Int) := by
  have e : (2 : Int) ^ (min k 64) = ((2 ^ k : Nat) : Int) := by rw [Nat.min_eq_left (by omega)]; simp
  have hp : 0 < 2 ^ k := Nat.pow_pos (by omega)
  rw [e, Int.fdiv_eq_ediv_of_nonneg _ (by omega)]
  generalize 2 ^ k = N at *
  constructor
  . intro h1
    have := Int.lt_ediv_add_one_mul_self a (b := (N : Int)) (by omega)
    rw [h1] at this; omega
  . intro h1
    exact Int.ediv_eq_zero_of_lt h h1
theorem conOk_iff {f : Flt} (hf : FOk f) {n : Int} {c : Con} : conOk f n c = true ↔ possM n c = true /\ c.a < ((2 ^ f.dr.length : Nat) : Int) := by
  have h64 := pow_le64 hf.len.2
  unfold conOk
  rw [decide_eq_true_eq, possM_iff]
  constructor
  . rintro ⟨h1, h2, h3, h4, h5, h6, h7⟩
    have := (fdiv_zero hf.len.2 h6).1 h7
    exact ⟨⟨by omega, by omega, by omega, by omega, h3, h4, h5, h6, by omega⟩, this⟩
  . rintro ⟨⟨h1, h2, h3, h4, h5, h6, h7, h8, h9⟩, h10⟩
    exact ⟨by omega, by omega, h5, h6, h7, h8, (fdiv_zero hf.len.2 h8).2 h10⟩
theorem bvalid_ref {f : Flt} {n : Int} {l : List Con} : zX f n l = true ↔ cvalidM f = true /\ validM n l = true /\ ∀ c ∈ l, c.a < ((2 ^ f.dr.length : Nat) : Int) := by
  rw [bvalid_iff, validM_iff]
  constructor
  . rintro ⟨h1, h2, h3, h4⟩
    exact ⟨h1, ⟨⟨h2.1, h2.2, h3⟩, fun c hc => ((conOk_iff (cvalid_ok h1)).1 (h4 c hc)).1⟩, fun c hc => ((conOk_iff (cvalid_ok h1)).1 (h4 c hc)).2⟩
  . rintro ⟨h1, ⟨⟨h2, h2', h3⟩, h4⟩, h5⟩
    exact ⟨h1, ⟨h2, h2'⟩, h3, fun c hc => (conOk_iff (cvalid_ok h1)).2 ⟨h4 c hc, h5 c hc⟩⟩
theorem bv_valid {f : Flt} {n : Int} {l : List Con} (h : zX f n l = true) (s : Int) : validM n (partM l s) = true := by
  obtain ⟨⟨h1, h2, h3⟩, h4⟩ := validM_iff.1 (bvalid_ref.1 h).2.1
  exact validM_iff.2 ⟨⟨h1, h2, Nat.le_trans partM_len h3⟩, fun c hc => h4 c (partM_mem.1 hc).1⟩
theorem choices_len {f : Flt} {n : Int} {l : List Con} (h : zX f n l = true) : (zYw f n l).length <= 64 := by
  have h1 := List.length_filterMap_le (fun (s : Nat) => choice1 f n l (s : Int)) (List.range (2 ^ f.dr.length))
  rw [List.length_range] at h1
  have := pow_le64 (bvalid_ok h).fo.len.2
  unfold zYw
  omega
theorem lat_map' {α β : Type} [Inhabited α] [Inhabited β] {g : α -> β} {l : List α} {i : Nat} (h : i < l.length) : lat (l.map g) (i : Int) = g l[i] := by
  rw [lat_get (by simpa using h)]; simp
theorem rch_ok {f : Flt} {n : Int} {l : List Con} (h : zX f n l = true) (hne : ¬ zYw f n l = []) : zYu f n l = ((zYw f n l).map (·.s), (zYw f n l).map (·.b), 0) := by
  unfold zYu; rw [if_pos h, if_neg hne]
end Go.Lat
namespace Go.Lat
open Go.RowKit

def stepM (P : Program) (T : TT) (ops : Array Oper) (p i : Nat) (st : St) (K : St -> Prop) : Prop :=
  if i = p then match ops[i]? with
    | none => K st
    | some o => stepH P T ops.toList o st K
  else stepI P T ops i st K
def seqM (P : Program) (T : TT) (ops : Array Oper) (p : Nat) : List Nat -> St -> (St -> Prop) -> Prop
  | [], st, K => K st
  | i :: l, st, K => stepM P T ops p i st fun s => seqM P T ops p l s K
def anyM (P : Program) (T : TT) (ops : Array Oper) (p : Nat) (K : St -> Prop) : Nat -> Array Bool -> St -> Prop
  | 0, listed, st => Region.ready .any ops listed = [] /\ K st
  | n + 1, listed, st => Wf st -> (Region.ready .any ops listed = [] -> K st) /\ ∀ i ∈ Region.ready .any ops listed, stepM P T ops p i st fun s => anyM P T ops p K n (listed.setIfInBounds i true) s

section
variable {X : Nat -> Prop} {D : List Deferred × Rho} {w0 : World} {mA : Mem} {r : Rho} {m : MM} {st : St} {a : Act} {w : World} {P : Program} {T : TT} {ops : Array Oper} {K K' : St -> Prop} {p : Nat}

theorem stepH_sound (hT : TsOk P T) (hR : R X D w0 mA r m st a w) {o : Oper} (h : stepH P T ops.toList o st K) {ro : Option Nat} {n : Nat} {next : Act -> World -> Prop} {Q : Exit -> Act -> World -> Prop}
    (hnext : ∀ s r' m' a' w', K s -> R X D w0 mA r' m' s a' w' -> next a' w') :
    if Region.wanted o (yielded ops a.tmps) then o.wpIn (FW ro) n P a w next Q else (∀ f, o.about P w a.eval = some f -> (FW ro).fn f) /\ next (a.put o.dst undef) w := by
  unfold stepH at h
  split at h
  . rename_i d f args tys ty pos af
    rw [if_pos (by rfl)]
    rcases h with h | h
    . exact opC_sound (o := ⟨d, .call ⟨.value f, args, tys⟩, ty, pos, af, none⟩) hT hR (K := fun v h => K (St.put ⟨st.nt, st.tm, h, st.ho⟩ d v)) h fun x h' r' m' u w' hK hR' hv => hnext _ _ _ _ w' hK (hR'.put d hv)
    . exact callH_sound (o := ⟨d, .call ⟨.value f, args, tys⟩, ty, pos, af, none⟩) hR rfl (K := fun v h => K (St.put ⟨st.nt, st.tm, h, st.ho⟩ d v)) h fun x h' r' m' u w' hK hR' hv => hnext _ _ _ _ w' hK (hR'.put d hv)
  . exact stepG_sound hT hR h hnext

theorem callH_mono {h : List AObj} {f : AV} {args : List AV} {A B : AV -> List AObj -> Prop} (hc : callH P h f args A) (hab : ∀ v h', A v h' -> B v h') : callH P h f args B := by
  unfold callH at hc ⊢
  split at hc <;> try exact hc.elim
  rcases hc with ⟨Post, hfn, hpost⟩ | ⟨id, ob, x0, y0, ys, Post, hae, hob, hfl, hx0, hfn, hpost⟩ | ⟨nb, Post, hfn, hpost⟩ | ⟨Post, hfn, hpost⟩
  . exact .inl ⟨Post, hfn, fun o ho => hab _ _ (hpost o ho)⟩
  . exact .inr (.inl ⟨id, ob, x0, y0, ys, Post, hae, hob, hfl, hx0, hfn, fun x o ho => hab _ _ (hpost x o ho)⟩)
  . exact .inr (.inr (.inl ⟨nb, Post, hfn, fun n o ho => hab _ _ (hpost n o ho)⟩))
  . exact .inr (.inr (.inr ⟨Post, hfn, fun o ho => hab _ _ (hpost o ho)⟩))
theorem stepH_mono {o : Oper} (h : stepH P T ops.toList o st K) (hk : ∀ s, K s -> K' s) : stepH P T ops.toList o st K' := by
  unfold stepH at h ⊢
  split at h
  . rename_i d f args tys ty pos af
    rcases h with h | h
    . exact .inl (stepG_mono' (T := T) (ops := ops) (o := ⟨d, .call ⟨.value f, args, tys⟩, ty, pos, af, none⟩) h hk)
    . exact .inr (callH_mono h fun v h' hv => hk _ hv)
  . exact stepG_mono' h hk
theorem stepM_mono {i : Nat} (h : stepM P T ops p i st K) (hk : ∀ s, K s -> K' s) : stepM P T ops p i st K' := by
  unfold stepM at h ⊢
  split
  . rename_i e
    rw [if_pos e] at h
    split at h
    . exact hk _ h
    . exact stepH_mono h hk
  . rename_i e
    rw [if_neg e] at h
    unfold stepI at h ⊢
    split at h
    . exact hk _ h
    . exact stepG_mono' h hk

theorem anyM_sound (hT : TsOk P T) {ro : Option Nat} {n : Nat} {Q : Exit -> Act -> World -> Prop} (hQ : ∀ s r' m' a' w', K s -> R X D w0 mA r' m' s a' w' -> Q .normal a' w') :
    ∀ (fuel : Nat) (listed : Array Bool) {r : Rho} {m : MM} {st : St} {a : Act} {w : World}, R X D w0 mA r m st a w -> anyM P T ops p K fuel listed st -> wpAnyIn (FW ro) n P .any ops Q fuel listed a w
  | 0, listed, _, _, _, _, _, hR, h => ⟨h.1, hQ _ _ _ _ _ h.2 hR⟩
  | fuel + 1, listed, _, _, _, _, _, hR, h => by
    obtain ⟨h1, h2⟩ := h hR.wf
    refine ⟨fun hn => hQ _ _ _ _ _ (h1 hn) hR, fun i hi => ?_⟩
    have h3 := h2 i hi
    unfold stepM stepI at h3
    unfold wpOpIn
    split
    . rename_i ho
      rw [ho] at h3
      simp only [ite_self] at h3
      exact anyM_sound hT hQ fuel _ hR h3
    . rename_i o ho
      rw [ho] at h3
      simp only at h3
      split at h3
      . exact stepH_sound hT hR h3 fun s r' m' a' w' hs hR' => anyM_sound hT hQ fuel _ hR' hs
      . exact stepG_sound hT hR h3 fun s r' m' a' w' hs hR' => anyM_sound hT hQ fuel _ hR' hs

theorem bubbleM {oi : Oper} {i : Nat} (ho : ops[i]? = some oi) (hip : i ≠ p) {st0 : St} (hw : Wf st0) {rest : List Nat} : ∀ (pre : List Nat) (st : St), Inv ops oi st0 st -> p ∉ pre →
    (∀ j ∈ pre, okP ops j i = true) -> seqM P T ops p (pre ++ i :: rest) st K -> stepG P T ops.toList oi st fun s => seqM P T ops p (pre ++ rest) s K
  | [], st, _, _, _, h => by
    simp only [List.nil_append, seqM, stepM, if_neg hip, stepI, ho] at h ⊢
    exact h
  | j :: pre, st, hI, hnp, hp, h => by
    have hj := hp j (by simp)
    have hjp : j ≠ p := fun e => hnp (by simp [e])
    unfold okP at hj
    rw [ho] at hj
    split at hj
    . rename_i oj oi' hoj he
      cases he
      simp only [Bool.and_eq_true] at hj
      simp only [List.cons_append, seqM, stepM, if_neg hjp, stepI, hoj] at h ⊢
      exact swap hw hj.1 hj.2 hI (stepG_mono' h fun s hs hinv => bubbleM ho hip hw pre s hinv (fun hh => hnp (by simp [hh])) (fun k hk => hp k (by simp [hk])) hs)
    . cases hj

def oneB (A : List (List Nat)) (p : Nat) : List Nat -> Bool
  | [] => true
  | i :: l => if i = p then l.all fun k => (A.getD k []).contains p else (A.getD p []).contains i && oneB A p l

theorem oneB_spec {A : List (List Nat)} {p : Nat} : ∀ {l : List Nat}, l.Nodup -> oneB A p l = true -> l.Pairwise fun a b => (b = p -> a ∈ A.getD p []) /\ (a = p -> p ∈ A.getD b [])
  | [], _, _ => List.Pairwise.nil
  | i :: l, hn, h => by
    have hn' := List.nodup_cons.1 hn
    unfold oneB at h
    split at h
    . rename_i e
      subst e
      simp only [List.all_eq_true, List.contains_iff_mem] at h
      refine List.Pairwise.cons (fun b hb => ⟨fun e => ?_, fun _ => h b hb⟩) ?_
      . subst e; exact absurd hb hn'.1
      . refine List.Pairwise.imp_of_mem ?_ hn'.2
        intro a b ha hb _
        exact ⟨fun e => absurd (e ▸ hb) hn'.1, fun e => absurd (e ▸ ha) hn'.1⟩
    . rename_i e
      simp only [Bool.and_eq_true, List.contains_iff_mem] at h
      exact List.Pairwise.cons (fun b hb => ⟨fun _ => h.1, fun e' => absurd e' e⟩) (oneB_spec hn'.2 h.2)

theorem any_of_seqM {A : List (List Nat)} (hA : chkA ops A = true) : ∀ (fuel : Nat) (listed : Array Bool) (l : List Nat) (st : St), Rest ops A listed l -> l.Pairwise (fun a b => (b = p -> a ∈ A.getD p []) /\ (a = p -> p ∈ A.getD b [])) -> l.length = fuel -> seqM P T ops p l st K -> anyM P T ops p K fuel listed st := by
  intro fuel
  induction fuel with
  | zero =>
    intro listed l st hr hp hl h
    have : l = [] := List.eq_nil_of_length_eq_zero hl
    subst this
    refine ⟨?_, h⟩
    rcases hrd : Region.ready .any ops listed with _ | ⟨i, l'⟩
    . rfl
    . have := hr.ready_mem (i := i) (by rw [hrd]; simp)
      simp at this
  | succ fuel ih =>
    intro listed l st hr hp hl h hw
    refine ⟨fun hnil => ?_, fun i hi => ?_⟩
    . exfalso
      cases l with
      | nil => simp at hl
      | cons i l =>
        have h1 := hr.open' i (by simp)
        have hlt : i < ops.size := by
          rw [<- hr.size]
          rcases Nat.lt_or_ge i listed.size with h' | h'
          . exact h'
          . simp [Array.getElem?_eq_none h'] at h1
        have : i ∈ Region.ready .any ops listed := by
          refine mem_ready.2 ⟨h1, ops[i], by simp [hlt], fun e he hb => ?_⟩
          have hd : e.on ∈ dirs ops i := by
            simp only [dirs, Array.getElem?_eq_getElem hlt, List.mem_map, List.mem_filter]
            exact ⟨e, ⟨by simpa using he, hb⟩, rfl⟩
          by_cases hsz : e.on < ops.size
          . rcases hr.all e.on hsz with h2 | h2
            . exact h2
            . exfalso
              rcases List.mem_cons.1 h2 with h3 | h3
              . exact (hr.self i hlt _ hd).2 h3
              . have h4 := (List.pairwise_cons.1 hr.pair).1 _ h3
                simp only [relB, Bool.and_eq_true, Bool.not_eq_true'] at h4
                have h5 := h4.1
                simp at h5
                exact h5 hd
          . exact absurd (hr.self i hlt _ hd).1 hsz
        rw [hnil] at this
        cases this
    . have hmem := hr.ready_mem hi
      obtain ⟨pre, rest, rfl⟩ := List.append_of_mem hmem
      obtain ⟨_, oi, ho, _⟩ := mem_ready.1 hi
      have hlt : i < ops.size := by
        rcases Nat.lt_or_ge i ops.size with h' | h'
        . exact h'
        . rw [Array.getElem?_eq_none h'] at ho; cases ho
      have hanc : ∀ j ∈ pre, j ∉ A.getD i [] := fun j hj hin => by
        have := hr.anc hA i (dirs_ready hi) j hin hlt
        rw [getD_tf (hr.open' j (by simp [hj]))] at this
        cases this
      have hpp := hp
      rw [List.pairwise_append] at hp
      have hp' : (pre ++ rest).Pairwise (fun a b => (b = p -> a ∈ A.getD p []) /\ (a = p -> p ∈ A.getD b [])) := hpp.sublist (List.Sublist.append_left (List.sublist_cons_self i rest) pre)
      by_cases hip : i = p
      . have hpre : pre = [] := by
          cases pre with
          | nil => rfl
          | cons j pre =>
            have h1 := (hp.2.2 j (by simp) i (by simp)).1 hip
            rw [<- hip] at h1
            exact absurd h1 (hanc j (by simp))
        subst hpre
        simp only [List.nil_append, seqM] at h
        exact stepM_mono h fun s hs => ih _ _ s (hr.next (pre := []) hi) hp' (by simp at hl ⊢; omega) hs
      . have hnp : p ∉ pre := fun hin => hanc p hin ((hp.2.2 p hin i (by simp)).2 rfl)
        have hok : ∀ j ∈ pre, okP ops j i = true := by
          intro j hj
          have hq := hr.pair
          rw [List.pairwise_append] at hq
          have h4 := hq.2.2 j hj i (by simp)
          simp only [relB, Bool.and_eq_true, Bool.or_eq_true, List.contains_iff_mem] at h4
          rcases h4.2 with h5 | h5
          . exact absurd h5 (hanc j hj)
          . exact h5
        have hb := bubbleM (K := K) ho hip hw pre st ⟨⟨rfl, fun _ _ => rfl⟩, Nat.le_refl _, fun _ => ⟨[], by simp⟩⟩ hnp hok h
        simp only [stepM, if_neg hip, stepI, ho]
        exact stepG_mono' hb fun s hs => ih _ _ s (hr.next hi) hp' (by simp at hl ⊢; omega) hs

theorem W.drawM {Q : Ex -> St -> Prop} {id : Nat} (p : Nat) (ord : List Nat) (hc : chk ops ord = true) (h1 : oneB (ancs ops) p ord = true) (h : seqM P T ops p ord st (Q .nrm)) : W P T (.region id ops true) st Q := fun hT hf ro hro n X D w0 mA r m a w hR => by
  obtain ⟨h2, h3, h4⟩ := chk_rest hc
  refine wpIn_region_any hf ?_
  have hR' : R X D w0 mA r m st a { w with drawn := w.drawn + 1 } := { hR with }
  exact anyM_sound hT (fun s r' m' a' w' hs hR' => ⟨[], r', m', s, fun _ => rfl, hs, hR'⟩) ops.size _ hR' (any_of_seqM h2 ops.size _ ord st h3 (oneB_spec h3.nodup h1) h4 h)

variable {ol : List Oper} {n j : Nat} {l : List (Nat × AV)} {h : List AObj} {b : Nat} {o : Op} {ty : TypeId} {pos : String} {af : Array Edge} {KS : St -> Prop} {rest : List Nat} {i : Nat}
theorem cM {d : Nat} (hi : ol[i]? = some ⟨some d, o, ty, pos, af, none⟩) (hp : Nat.beq i p = false) (hd : Nat.ble (d + 1) n = true)
    (h1 : opC P T ⟨some d, o, ty, pos, af, none⟩ ⟨n, look l, h, b⟩ fun v h' => seqM P T ol.toArray p rest ⟨n, look ((d, v) :: l), h', b⟩ KS) : seqM P T ol.toArray p (i :: rest) ⟨n, look l, h, b⟩ KS := by
  have hd' : d < n := Nat.le_of_ble_eq_true hd
  have hp' : i ≠ p := Nat.ne_of_beq_eq_false hp
  have hi' : ol.toArray[i]? = some ⟨some d, o, ty, pos, af, none⟩ := by simpa using hi
  unfold seqM stepM stepI
  rw [if_neg hp', hi']
  show opC P T ⟨some d, o, ty, pos, af, none⟩ ⟨n, look l, h, b⟩ fun v h' => seqM P T ol.toArray p rest (St.put ⟨n, look l, h', b⟩ (some d) v) KS
  have e : (fun v h' => seqM P T ol.toArray p rest (St.put ⟨n, look l, h', b⟩ (some d) v) KS) = fun v h' => seqM P T ol.toArray p rest ⟨n, look ((d, v) :: l), h', b⟩ KS := by
    funext v h'
    rw [St.put_look d v hd']
  rw [e]
  exact h1
theorem cMc {d : Nat} {f : Operand} {args : Array Operand} {tys : Array TypeId} (hi : ol[p]? = some ⟨some d, .call ⟨.value f, args, tys⟩, ty, pos, af, none⟩) (hd : Nat.ble (d + 1) n = true)
    (h1 : callH P h (St.eval ⟨n, look l, h, b⟩ f) (args.toList.map (St.eval ⟨n, look l, h, b⟩)) fun v h' => seqM P T ol.toArray p rest ⟨n, look ((d, v) :: l), h', b⟩ KS) : seqM P T ol.toArray p (p :: rest) ⟨n, look l, h, b⟩ KS := by
  have hd' : d < n := Nat.le_of_ble_eq_true hd
  have hi' : ol.toArray[p]? = some ⟨some d, .call ⟨.value f, args, tys⟩, ty, pos, af, none⟩ := by simpa using hi
  unfold seqM stepM
  rw [if_pos rfl, hi']
  refine Or.inr ?_
  have e : (fun v h' => seqM P T ol.toArray p rest (St.put ⟨n, look l, h', b⟩ (some d) v) KS) = fun v h' => seqM P T ol.toArray p rest ⟨n, look ((d, v) :: l), h', b⟩ KS := by
    funext v h'
    rw [St.put_look d v hd']
  show callH P h (St.eval ⟨n, look l, h, b⟩ f) (args.toList.map (St.eval ⟨n, look l, h, b⟩)) fun v h' => seqM P T ol.toArray p rest (St.put ⟨n, look l, h', b⟩ (some d) v) KS
  rw [e]
  exact h1
theorem eM {st : St} (h1 : KS st) : seqM P T ol.toArray p [] st KS := h1
theorem W.rM1 {Q : Ex -> St -> Prop} {id : Nat} {st : St} (p : Nat) (ord : List Nat) (hc : chk ol.toArray ord = true) (h0 : oneB (ancs ol.toArray) p ord = true) (h1 : seqM P T ol.toArray p ord st (Q .nrm)) : W P T (.region id ol.toArray true) st Q := W.drawM p ord hc h0 h1
theorem W.rM {Q : Ex -> St -> Prop} {c : Code} {id : Nat} {st : St} (p : Nat) (ord : List Nat) (hc : chk ol.toArray ord = true) (h0 : oneB (ancs ol.toArray) p ord = true) (h1 : seqM P T ol.toArray p ord st fun s => W P T c s Q) : W P T (.seq (.region id ol.toArray true) c) st Q :=
  W.seq _ (W.rM1 p ord hc h0 h1) fun _ h => h
end
end Go.Lat
namespace Go.Lat
open Go.RowKit
section
variable {P : Program} {T : TT} {ops rest : List Oper} {ty : TypeId} {pos : String} {af : Array Edge} {j n d : Nat} {l : List (Nat × AV)} {h : List AObj} {b : Nat} {KS : St -> Prop} {x : Operand}
theorem mI {k : IntKind} {z : Int} (hd : Nat.ble (d + 1) n = true) (e : St.eval ⟨n, look l, h, b⟩ x = .int k z) (h1 : seqL P T ops [] (j + 1) rest ⟨n, look ((d, .int k z) :: l), h, b⟩ KS) : seqL P T ops [] j (⟨some d, .move x, ty, pos, af, none⟩ :: rest) ⟨n, look l, h, b⟩ KS := cL hd (zZp e h1)
theorem mB {z : Bool} (hd : Nat.ble (d + 1) n = true) (e : St.eval ⟨n, look l, h, b⟩ x = .bool z) (h1 : seqL P T ops [] (j + 1) rest ⟨n, look ((d, .bool z) :: l), h, b⟩ KS) : seqL P T ops [] j (⟨some d, .move x, ty, pos, af, none⟩ :: rest) ⟨n, look l, h, b⟩ KS := cL hd (zZp e h1)
theorem mL {f : Bool} {k : Nat} {z : List AV} (hd : Nat.ble (d + 1) n = true) (e : St.eval ⟨n, look l, h, b⟩ x = .lst f k z) (h1 : seqL P T ops [] (j + 1) rest ⟨n, look ((d, .lst f k z) :: l), h, b⟩ KS) : seqL P T ops [] j (⟨some d, .move x, ty, pos, af, none⟩ :: rest) ⟨n, look l, h, b⟩ KS := cL hd (zZp e h1)
theorem aI {k : IntKind} {z : Int} (hd : Nat.ble (d + 1) n = true) (e : St.eval ⟨n, look l, h, b⟩ x = .int k z) (h1 : seqL P T ops [] (j + 1) rest ⟨n, look ((d, .int k z) :: l), h, b⟩ KS) : seqL P T ops [] j (⟨some d, .assign x, ty, pos, af, none⟩ :: rest) ⟨n, look l, h, b⟩ KS := cL hd (zZq e h1)
theorem aB {z : Bool} (hd : Nat.ble (d + 1) n = true) (e : St.eval ⟨n, look l, h, b⟩ x = .bool z) (h1 : seqL P T ops [] (j + 1) rest ⟨n, look ((d, .bool z) :: l), h, b⟩ KS) : seqL P T ops [] j (⟨some d, .assign x, ty, pos, af, none⟩ :: rest) ⟨n, look l, h, b⟩ KS := cL hd (zZq e h1)
theorem aL {f : Bool} {k : Nat} {z : List AV} (hd : Nat.ble (d + 1) n = true) (e : St.eval ⟨n, look l, h, b⟩ x = .lst f k z) (h1 : seqL P T ops [] (j + 1) rest ⟨n, look ((d, .lst f k z) :: l), h, b⟩ KS) : seqL P T ops [] j (⟨some d, .assign x, ty, pos, af, none⟩ :: rest) ⟨n, look l, h, b⟩ KS := cL hd (zZq e h1)
end
end Go.Lat
namespace Go.Lat
open Go.RowKit

section
variable {X : Nat -> Prop} {D : List Deferred × Rho} {w0 : World} {mA : Mem} {r : Rho} {m : MM} {st : St} {a : Act} {w w' : World} {b : Nat} {rec : Loop}
theorem cell_ne {p : Addr} {v : Value} (hb : w.heap[b]? = some (.loop rec)) (hv : w.cell? p = some v) : p.block ≠ b := fun e => by
  unfold World.cell? at hv
  rw [e, hb] at hv
  simp at hv
theorem R.put_gen (h : R X D w0 mA r m st a w) (hb : w.heap[b]? = some (.loop rec)) (o : Obj) {w0' : World} (e1 : w0'.os = w0.os) (e2 : w0'.tape = w0.tape) (e3 : w0'.output = w0.output) (e4 : w0'.heap.size = w0.heap.size)
    (hold : ∀ k, k < w0'.heap.size -> ¬ X k -> (w.putObj b o).heap[k]? = w0'.heap[k]?) : R X D w0' mA r m st a (w.putObj b o) := by
  have ne : ∀ k, k ≠ b -> (w.putObj b o).heap[k]? = w.heap[k]? := fun k hk => World.putObj_heap_other hk
  refine { os := h.os.trans e1.symm, tape := h.tape.trans e2.symm, output := h.output.trans e3.symm, size := (by rw [World.putObj_size, e4]; exact h.size), old := hold, len := h.len, lt := fun i ob c d ho hl hr => (by rw [World.putObj_size]; exact h.lt i ob c d ho hl hr), mem := fun p v hv => ?_, low := h.low, newer := fun p v hv => (by rw [e4]; exact h.newer p v hv), lim := fun p v hv => (by rw [e4]; exact h.lim p v hv), apart := h.apart, obj := fun i ob ho => ?_, own := fun i ob c d ho hl hr => (by rw [e4]; exact h.own i ob c d ho hl hr), inj := h.inj, size' := h.size', tmps := h.tmps, defers := h.defers, base := h.base, short := h.short, nox := h.nox, marks := fun d hd => ?_, mnod := h.mnod }
  . obtain ⟨h1, h2⟩ := h.mem p v hv
    exact ⟨(World.cell?_of_block (ne _ (cell_ne hb h1))).trans h1, by rw [World.putObj_size]; exact h2⟩
  . refine (h.obj i ob ho).same fun k c hr hl => ne k ?_
    rintro rfl
    obtain ⟨x, e5, _, e6⟩ := (h.obj i ob ho).cells hl hr
    rw [hb] at e5; cases e5; exact e6 _ rfl
  . obtain ⟨k, f1, f0, f2⟩ := h.marks d hd
    refine ⟨k, f1, by rw [e4]; exact f0, (ne k ?_).trans f2⟩
    rintro rfl
    rw [hb] at f2; cases f2
theorem R.putL (h : R X D w0 mA r m st a w) (hb : w.heap[b]? = some (.loop rec)) (hb0 : w0.heap.size <= b) (o : Obj) : R X D w0 mA r m st a (w.putObj b o) :=
  h.put_gen hb o rfl rfl rfl rfl fun k hk hX => (World.putObj_heap_other (by omega)).trans (h.old k hk hX)
theorem R.putB (h : R X D w0 mA r m st a w) (hb : w.heap[b]? = some (.loop rec)) (hb0 : b < w0.heap.size) (o : Obj) : R X D (w0.putObj b o) mA r m st a (w.putObj b o) :=
  h.put_gen hb o rfl rfl rfl World.putObj_size fun k hk hX => by
    rw [World.putObj_size] at hk
    by_cases e : k = b
    . subst e
      rw [World.putObj_heap_same (Array.getElem?_eq_some_iff.1 hb).1, World.putObj_heap_same hb0]
    . rw [World.putObj_heap_other e, World.putObj_heap_other e]; exact h.old k hk hX

mutual
def noF : AV -> Bool
  | .lst fl _ _ => fl
  | .ipt fl _ => fl
  | .agg cs => noFs cs
  | .tup cs => noFs cs
  | .clo _ a b => noFs a && noFs b
  | _ => true
def noFs : List AV -> Bool
  | [] => true
  | x :: l => noF x && noFs l
end
def tru (m : Mem) : MM := fun b => if b then m else fun _ => none
mutual
theorem VR.tru {r : Rho} {m : MM} {m' : Mem} (hm : ∀ p v, m true p = some v -> m' p = some v) : ∀ (x : AV) (v : Value), noF x = true -> VR r m x v -> VR r (Lat.tru m') x v
  | .int _ _, _, _, h => by simpa only [VR] using h
  | .bool _, _, _, h => by simpa only [VR] using h
  | .agg cs, v, hn, h => by
    simp only [VR] at h ⊢
    obtain ⟨arr, h1, h0, h2⟩ := h
    exact ⟨arr, h1, h0, VRs.tru hm cs _ hn h2⟩
  | .tup cs, v, hn, h => by
    simp only [VR] at h ⊢
    obtain ⟨arr, h1, h2⟩ := h
    exact ⟨arr, h1, VRs.tru hm cs _ hn h2⟩
  | .nilS, _, _, h => by simpa only [VR] using h
  | .nilP, _, _, h => by simpa only [VR] using h
  | .nilF, _, _, h => by simpa only [VR] using h
  | .ref _ _ _, _, _, h => by simpa only [VR] using h
  | .sub _ _ _, _, _, h => by simpa only [VR] using h
  | .ptr _ _, _, _, h => by simpa only [VR] using h
  | .yl _, _, _, h => by simpa only [VR] using h
  | .gh _, _, _, _ => by simp only [VR]
  | .chn _, _, _, h => by simpa only [VR] using h
  | .any, _, _, _ => by simp only [VR]
  | .clo f a b, v, hn, h => by
    simp only [VR] at h ⊢
    simp only [noF, Bool.and_eq_true] at hn
    obtain ⟨x, y, h1, h2, h3⟩ := h
    exact ⟨x, y, h1, VRs.tru hm a _ hn.1 h2, VRs.tru hm b _ hn.2 h3⟩
  | .lst fl n cs, v, hn, h => by
    simp only [noF] at hn
    subst hn
    simp only [VR] at h ⊢
    rcases h with h | ⟨p, cap, vs, h1, h2, h3, h4⟩
    . exact .inl h
    . exact .inr ⟨p, cap, vs, h1, h2, fun i u hu => ⟨hm _ _ (h3 i u hu).1, (h3 i u hu).2⟩, h4.mono (RLe.refl []) (fun b q u hu => by cases b with | true => exact hm _ _ hu | false => cases hu)⟩
  | .ipt fl cs, v, hn, h => by
    simp only [noF] at hn
    subst hn
    simp only [VR] at h ⊢
    obtain ⟨p, vs, h2, h3, h4⟩ := h
    exact ⟨p, vs, h2, fun i u hu => ⟨hm _ _ (h3 i u hu).1, (h3 i u hu).2⟩, h4.mono (RLe.refl []) (fun b q u hu => by cases b with | true => exact hm _ _ hu | false => cases hu)⟩
theorem VRs.tru {r : Rho} {m : MM} {m' : Mem} (hm : ∀ p v, m true p = some v -> m' p = some v) : ∀ (xs : List AV) (vs : List Value), noFs xs = true -> VRs r m xs vs -> VRs r (Lat.tru m') xs vs
  | [], _, _, h => by simpa only [VRs] using h
  | x :: xs, vs, hn, h => by
    simp only [VRs] at h ⊢
    simp only [noFs, Bool.and_eq_true] at hn
    obtain ⟨v, vs', h1, h2, h3⟩ := h
    exact ⟨v, vs', h1, VR.tru hm x v hn.1 h2, VRs.tru hm xs vs' hn.2 h3⟩
end
def noFO : AObj -> Bool
  | .row _ _ cs => noFs cs
  | .box _ cs => noFs cs
  | .chan _ _ buf => noFs buf
  | .dead => true
theorem OR.tru {i : Nat} {o : AObj} {m' : Mem} (hm : ∀ p v, m true p = some v -> m' p = some v) (hn : noFO o = true) (h : OR r m w i o) : OR r (Lat.tru m') w i o := by
  cases o with
  | row t sz cs =>
    rcases h with h | ⟨b, c, cur, h1, h2, h0, h3, h4, h5, h6⟩
    . exact .inl h
    . exact .inr ⟨b, c, cur, h1, h2, h0, h3, h4, h5, h6.tru hm cs _ hn⟩
  | box t cs =>
    obtain ⟨b, c, cur, h1, h2, h0, h3⟩ := h
    exact ⟨b, c, cur, h1, h2, h0, h3.tru hm cs _ hn⟩
  | chan cap cl buf =>
    obtain ⟨b, c, bv, s, rc, h1, h2, h3⟩ := h
    exact ⟨b, c, bv, s, rc, h1, h2, h3.tru hm buf _ hn⟩
  | dead => trivial

def stabV (q : Nat) : AV -> Bool
  | .int _ _ | .bool _ | .nilS | .nilP | .nilF | .any => true
  | .ptr id _ => Nat.blt id q
  | _ => false
def stabL (q : Nat) : List (Nat × AV) -> Bool
  | [] => true
  | (_, v) :: l => stabV q v && stabL q l
theorem stabL_look {q : Nat} : ∀ {l : List (Nat × AV)}, stabL q l = true -> ∀ t, stabV q (look l t) = true
  | [], _, t => rfl
  | (k, v) :: l, h, t => by
    simp only [stabL, Bool.and_eq_true] at h
    rw [look_cons]
    split
    . exact h.1
    . exact stabL_look h.2 t
theorem stab_VR {q : Nat} {x : AV} {v : Value} {r r' : Rho} {m m' : MM} (hs : stabV q x = true) (hr : RLe (r.take q) r') (h : VR r m x v) : VR r' m' x v := by
  cases x <;> simp only [stabV] at hs <;> try (cases hs; done)
  all_goals simp only [VR] at h ⊢ <;> try exact h
  rename_i id off
  obtain ⟨b, c, h1, h2⟩ := h
  refine ⟨b, c, hr id _ ?_, h2⟩
  have hlt : id < q := Nat.le_of_ble_eq_true hs
  rw [List.getElem?_take_of_lt hlt]; exact h1
def ownX (X : Nat -> Prop) (r : Rho) (h : List AObj) : Nat -> Prop := fun k => X k \/ ∃ (i : Nat) (o : AObj) (c : Nat), h[i]? = some o /\ o.live = true /\ r[i]? = some (k, c)
def CapOk (w0 : World) (mA mC : Mem) (r : Rho) (H : List AObj) (w : World) : Prop :=
  ∀ p v, mC p = some v -> w.cell? p = some v /\ p.block < w.heap.size /\ (∀ (i : Nat) (o : AObj) (b c : Nat), H[i]? = some o -> o.live = true -> r[i]? = some (b, c) -> p.block ≠ b) /\ (mA p = some v \/ w0.heap.size <= p.block)
theorem R.round_in {n q p : Nat} {l0 : List (Nat × AV)} {H : List AObj} (h : R X D w0 mA r m ⟨n, look l0, H, 0⟩ a w) (hq : 0 < q) (hs : stabL q l0 = true) (hH : ∀ o ∈ H, noFO o = true) (hp : p < n) {x : AV} {v : Value} {m' : Mem} (hx : noF x = true)
    (hm' : CapOk w0 mA m' r H w) (hv : VR [] (nest m') x v) :
    ∃ m2 : Mem, (∀ p u, m2 p = some u -> m true p = some u \/ m' p = some u) /\ R (ownX X r H) ([], r.take q) w m2 r (tru m2) ⟨n, look ((p, x) :: l0), H, q⟩ { tmps := a.tmps.setIfInBounds p v, defers := [] } w := by
  let m2 : Mem := fun p => match m true p with | some v => some v | none => m' p
  have e1 : ∀ p u, m2 p = some u -> m true p = some u \/ m' p = some u := by
    intro p u hu
    change (match m true p with | some v => some v | none => m' p) = some u at hu
    split at hu
    . rename_i v hv; cases hu; exact .inl hv
    . exact .inr hu
  have e2 : ∀ p v, m true p = some v -> m2 p = some v := fun p v hv => by
    show (match m true p with | some v => some v | none => m' p) = some v
    rw [hv]
  have e3 : ∀ p u, m' p = some u -> m2 p = some u := fun p u hu => by
    show (match m true p with | some v => some v | none => m' p) = some u
    split
    . rename_i v hv; rw [<- (hm' p u hu).1, (h.mem p v hv).1]
    . exact hu
  refine ⟨m2, e1, { os := rfl, tape := rfl, output := rfl, size := Nat.le_refl _, old := fun _ _ _ => rfl, len := h.len, lt := h.lt, mem := fun p u hu => ?_, low := fun p u hu => (by cases hu), newer := fun p u hu => (by cases hu), lim := fun p u hu => .inl hu, apart := fun p u hu i o b c ho hl hr => ?_, obj := fun i o ho => (h.obj i o ho).tru e2 (hH o (List.mem_of_getElem? ho)), own := fun i o b c ho hl hr => .inr (.inr ⟨i, o, c, ho, hl, hr⟩), inj := h.inj, size' := (by simpa using h.size'), tmps := fun t => ?_, defers := rfl, base := fun i y hy => ?_, short := (by simp; omega), nox := fun h0 => ?_, marks := fun d hd => (by cases hd), mnod := List.nodup_nil }⟩
  . rcases e1 p u hu with h1 | h1
    . exact h.mem p u h1
    . exact ⟨(hm' p u h1).1, (hm' p u h1).2.1⟩
  . rcases e1 p u hu with h1 | h1
    . exact h.apart p u h1 i o b c ho hl hr
    . exact (hm' p u h1).2.2.1 i o b c ho hl hr
  . show VR r (tru m2) (look ((p, x) :: l0) t) _
    rw [look_cons]
    have hsz : a.tmps.size = n := h.size'
    split
    . rename_i e
      subst e
      have : (a.tmps.setIfInBounds t v).getD t undef = v := by simp [hsz, hp]
      rw [this]
      refine (hv.tru (m' := m2) (fun p u hu => e3 p u hu) x v hx).mono (RLe.nil r) (MLe.refl _)
    . rename_i e
      have h1 := h.tmps t
      have h2 : (a.tmps.setIfInBounds p v).getD t undef = a.tmps.getD t undef := by simp [Array.getElem?_setIfInBounds, Ne.symm e]
      rw [h2]
      exact stab_VR (q := q) (stabL_look hs t) (fun i y hy => by
        rw [List.getElem?_take] at hy
        split at hy
        . exact hy
        . cases hy) h1
  . rw [List.getElem?_take] at hy
    split at hy
    . exact hy
    . cases hy
  . have : q = 0 := h0
    omega
theorem R.round_out {n q : Nat} {l0 : List (Nat × AV)} {H H' : List AObj} {r' : Rho} {m' : MM} {m2 : Mem} {tm' : Nat -> AV} {a' : Act} {ms : List Deferred} (h : R X D w0 mA r m ⟨n, look l0, H, 0⟩ a w) (hs : stabL q l0 = true)
    (h2 : ∀ p u, m2 p = some u -> m true p = some u \/ (mA p = some u \/ w0.heap.size <= p.block))
    (h' : R (ownX X r H) (ms, r.take q) w m2 r' m' ⟨n, tm', H', q⟩ a' w') : R X D w0 mA r' m' ⟨n, look l0, H', 0⟩ a w' := by
  have nx := h.nox rfl
  have keep : ∀ k, k < w.heap.size -> ¬ X k -> (∀ (i : Nat) (o : AObj) (c : Nat), H[i]? = some o -> o.live = true -> ¬ r[i]? = some (k, c)) -> w'.heap[k]? = w.heap[k]? := fun k hk hX hn => h'.old k hk fun hx => by
    rcases hx with hx | ⟨i, o, c, ho, hl, hr⟩
    . exact hX hx
    . exact hn i o c ho hl hr
  refine { os := h'.os.trans h.os, tape := h'.tape.trans h.tape, output := h'.output.trans h.output, size := Nat.le_trans h.size h'.size, old := fun k hk hX => ?_, len := h'.len, lt := h'.lt, mem := h'.mem, low := h'.low, newer := fun p v hv => Nat.le_trans h.size (h'.newer p v hv), lim := fun p v hv => ?_, apart := h'.apart, obj := h'.obj, own := fun i o b c ho hl hr => ?_, inj := h'.inj, size' := h.size', tmps := fun t => stab_VR (stabL_look hs t) h'.base (h.tmps t), defers := h.defers, base := by rw [nx.2]; exact RLe.nil _, short := by rw [nx.2]; exact Nat.zero_le _, nox := h.nox, marks := fun d hd => ?_, mnod := h.mnod }
  . rw [<- h.old k hk hX]
    exact keep k (Nat.lt_of_lt_of_le hk h.size) hX fun i o c ho hl hr => by
      rcases h.own i o k c ho hl hr with h1 | h1
      . omega
      . exact hX h1
  . rcases h'.lim p v hv with h1 | h1
    . rcases h2 p v h1 with h3 | h3
      . exact h.lim p v h3
      . exact h3
    . exact .inr (Nat.le_trans h.size h1)
  . rcases h'.own i o b c ho hl hr with h1 | h1 | ⟨j, oj, cj, h3, h4, h5⟩
    . exact .inl (Nat.le_trans h.size h1)
    . exact .inr h1
    . exact h.own j oj b cj h3 h4 h5
  . obtain ⟨k, e1, e0, e2⟩ := h.marks d hd
    refine ⟨k, e1, e0, (keep k (Array.getElem?_eq_some_iff.1 e2).1 (nx.1 k) fun i o c ho hl hr => ?_).trans e2⟩
    obtain ⟨x, e3, e4, _⟩ := (h.obj i o ho).cells hl hr
    rw [e2] at e3; cases e3; exact e4 _ rfl
end
end Go.Lat
namespace Go.Lat
open Go.RowKit

def FnIt (P : Program) (g : FuncId) (caps : List AV) (L : List AV) : Prop :=
  Callable P g /\ ∀ (n : Nat) (mC : Mem) (w : World) (cv : List Value), VRs [] (nest mC) caps cv →
    ∀ (l : Nat) (J : Nat -> Mem -> World -> Prop) (Jx : Mem -> World -> Prop),
      (∀ i m w w', J i m w -> w.grownBy w' none -> J i m w') -> (∀ m w w', Jx m w -> w.grownBy w' none -> Jx m w') →
      (∀ i m w, J i m w -> ∀ p v, m p = some v -> w.cell? p = some v /\ p.block < w.heap.size) →
      (∀ m w, Jx m w -> ∀ p v, m p = some v -> w.cell? p = some v /\ p.block < w.heap.size) →
      (∀ i m wb w m', J i m wb -> wb.grownBy w none -> (∀ p u, m' p = some u -> w.cell? p = some u /\ p.block < w.heap.size /\ (m p = some u \/ wb.heap.size <= p.block)) -> J i m' w) →
      (∀ n i x m w v, L[i]? = some x -> J i m w -> VR [] (nest m) x v →
        YieldAt (FW none) n P l #[v] w fun e w' => (e = .returned (.bool true) /\ J (i + 1) m w') \/ (e = .returned (.bool false) /\ Jx m w')) →
      J 0 mC w -> CallsIn (FW none) n P g (#[.func (.yield l) #[] #[]] ++ cv.toArray) w fun e w' => (∃ v, e = .returned v) /\ ((∃ m, J L.length m w') \/ ∃ m, Jx m w')

def rndQ (A B : St -> Prop) : Ex -> St -> Prop
  | .nrm, s => A s
  | .ret, s => B s
  | .exit _, _ => False

section
variable {X : Nat -> Prop} {D : List Deferred × Rho} {w0 : World} {mA : Mem} {r : Rho} {m : MM} {st : St} {a : Act} {w w' : World}
theorem R.toSt {s s' : St} (h : R X D w0 mA r m s a w) (hl : s.to s') : ∃ r', R X D w0 mA r' m s' a w := by
  obtain ⟨φ, l, h1, h2, h3, h4, h5, h6, h7⟩ := hl
  obtain ⟨nt, tm, hp, ho⟩ := s'
  simp only at h1 h2 h3 h7
  subst h1; subst h2; subst h3
  exact ⟨_, h.ren φ h4 h5 (regsT_look h6) h7⟩
theorem CapOk.grown {mC : Mem} {H : List AObj} (h : CapOk w0 mA mC r H w) (g : w.grownBy w' none) : CapOk w0 mA mC r H w' := fun p v hp => by
  obtain ⟨h1, h2, h3, h4⟩ := h p v hp
  exact ⟨(World.cell?_of_block (g.block _ h2 (by simp))).trans h1, Nat.lt_of_lt_of_le h2 g.size, h3, h4⟩
theorem CapOk.put {mC : Mem} {H : List AObj} {b : Nat} {rec : Loop} (h : CapOk w0 mA mC r H w) (hb : w.heap[b]? = some (.loop rec)) (o : Obj) : CapOk w0 mA mC r H (w.putObj b o) := fun p v hp => by
  obtain ⟨h1, h2, h3, h4⟩ := h p v hp
  exact ⟨(World.cell?_of_block (World.putObj_heap_other (cell_ne hb h1))).trans h1, by rw [World.putObj_size]; exact h2, h3, h4⟩
theorem CapOk.round {n q : Nat} {l0 : List (Nat × AV)} {H H' : List AObj} {r' : Rho} {m' : MM} {m2 mC : Mem} {tm' : Nat -> AV} {a' : Act} {ms : List Deferred} (hc : CapOk w0 mA mC r H w) (h : R X D w0 mA r m ⟨n, look l0, H, 0⟩ a w)
    (h' : R (ownX X r H) (ms, r.take q) w m2 r' m' ⟨n, tm', H', q⟩ a' w') : CapOk w0 mA mC r' H' w' := fun p v hp => by
  obtain ⟨h1, h2, h3, h4⟩ := hc p v hp
  have nx := h.nox rfl
  have hno : ¬ ownX X r H p.block := by
    rintro (hx | ⟨i, o, c, ho, hl, hr⟩)
    . exact nx.1 _ hx
    . exact h3 i o _ c ho hl hr rfl
  refine ⟨(World.cell?_of_block (h'.old _ h2 hno)).trans h1, Nat.lt_of_lt_of_le h2 h'.size, fun i o b c ho hl hr e => ?_, h4⟩
  rcases h'.own i o b c ho hl hr with h5 | h5
  . omega
  . rw [<- e] at h5; exact hno h5
end

theorem W.range {α β : Type} {P : Program} {T : TT} {Q : Ex -> St -> Prop} {g : Operand} {ps : Array Tmp} {assign body : Code} {n p : Nat} {lg l0 : List (Nat × AV)} {gf : FuncId} {caps caps' L : List AV} (q : Nat)
    (y0 : α) (H : α -> List AObj) (I : Nat -> α -> Prop) (Hr : β -> List AObj) (Ir : β -> Prop)
    (hps : ps = #[p]) (hp : Nat.ble (p + 1) n = true) (he : St.eval ⟨n, look lg, H y0, 0⟩ g = .clo gf [] caps) (hF : FnIt P gf caps' L) (hcc : Wks (caps.map (conv 6 [])) caps')
    (hL : ∀ x ∈ L, noF x = true) (hl0 : regsL (look lg) l0) (hq : 0 < q) (hs : stabL q l0 = true) (hH : ∀ i y, I i y -> ∀ o ∈ H y, noFO o = true) (hng1 : noRg assign = true) (hng2 : noRg body = true) (h0 : I 0 y0)
    (hr : ∀ i x y, L[i]? = some x -> I i y -> W P T assign ⟨n, look ((p, x) :: l0), H y, q⟩ (thenA (fun s => W P T body s (rndQ (fun s => ∃ y', I (i + 1) y' /\ s.to ⟨n, look [], H y', q⟩) (fun s => ∃ z, Ir z /\ s.to ⟨n, look [], Hr z, q⟩))) (fun _ _ => False)))
    (hd : ∀ y, I L.length y -> Q .nrm ⟨n, look l0, H y, 0⟩) (hx : ∀ z, Ir z -> Q .ret ⟨n, look l0, Hr z, 0⟩) :
    W P T (.rangeFunc g ps assign body) ⟨n, look lg, H y0, 0⟩ Q := fun hT hf ro hro n' X D w0 mA r m a w hR => by
  have hro0 : ro = none := by
    rcases ro with _ | l
    . rfl
    . have := hro (by simp)
      cases this
  subst hro0
  subst hps
  have hp' : p < n := Nat.le_of_ble_eq_true hp
  have hv := hR.eval g
  rw [he] at hv
  simp only [VR] at hv
  obtain ⟨x0, yv, hg, hx0, hyv⟩ := hv
  have hx0' : x0 = #[] := by
    apply Array.toList_inj.1
    simpa only [VRs] using hx0
  subst hx0'
  have hcap : VRs [] (nest (m true)) caps' yv.toList := hcc [] _ _ (Low.nest _) (vrs_map_conv (fun x v hv => cv0_sound hR 6 x v hv) _ _ hyv)
  have hR0 : R X D w0 mA r m ⟨n, look l0, H y0, 0⟩ a w := hR.le ⟨rfl, rfl, rfl, fun t => regsL_look hl0 t⟩
  refine wpIn_rangeFunc fun fn hfn => ?_
  obtain ⟨rec, hrec⟩ : ∃ rec : LoopState -> Option Code -> Loop, rec = fun st pe => { state := st, pending := pe, fn, tmps := a.tmps, params := #[p], assign, body, defers := w.heap.size } := ⟨_, rfl⟩
  obtain ⟨W1, hW1⟩ : ∃ W1, (w.alloc (.deferred (some []))).alloc (.loop (rec .ready none)) = W1 := ⟨_, rfl⟩
  have hL1 : W1.heap[w.heap.size + 1]? = some (.loop (rec .ready none)) := by
    rw [<- hW1]; have := World.alloc_heap_new (w.alloc (.deferred (some []))) (.loop (rec .ready none)); rwa [World.size_alloc] at this
  have hK1 : W1.heap[w.heap.size]? = some (.deferred (some [])) := by
    rw [<- hW1]; exact (Below.heap_alloc _ _ _ (by simp)).trans (World.alloc_heap_new w _)
  have hg1 : w.grownBy W1 none := by rw [<- hW1]; exact (World.grownBy_alloc w _ none).trans (World.grownBy_alloc _ _ none)
  obtain ⟨mark, hmark⟩ : ∃ mark : Deferred, mark = { target := .collected w.heap.size, args := #[] } := ⟨_, rfl⟩
  have hsz0 := hR0.size
  have hR1 : R X (mark :: D.1, D.2) w0 mA r m ⟨n, look l0, H y0, 0⟩ { tmps := a.tmps, defers := mark :: a.defers } W1 := by
    have h := hR0.grown hg1
    refine { h with size' := h.size', tmps := h.tmps, defers := by rw [<- h.defers], base := h.base, short := h.short, nox := h.nox, marks := fun d hd => ?_, mnod := List.nodup_cons.2 ⟨fun hin => ?_, h.mnod⟩ }
    . rcases List.mem_cons.1 hd with e | e
      . exact ⟨w.heap.size, e.trans hmark, hsz0, hK1⟩
      . exact h.marks d e
    . obtain ⟨b, e1, e0, e2⟩ := hR0.marks mark hin
      rw [hmark] at e1
      cases e1
      have := (Array.getElem?_eq_some_iff.1 e2).1
      omega
  generalize ha1 : ({ tmps := a.tmps, defers := mark :: a.defers } : Act) = a1 at hR1
  have ha1t : a1.tmps = a.tmps := by rw [<- ha1]
  have hC1 : CapOk w0 mA (m true) r (H y0) W1 := CapOk.grown (fun p v hv => ⟨(hR.mem p v hv).1, (hR.mem p v hv).2, hR.apart p v hv, hR.lim p v hv⟩) hg1
  obtain ⟨mC, hmC⟩ : ∃ mC, mC = m true := ⟨_, rfl⟩
  rw [<- hmC] at hC1 hcap
  obtain ⟨Lb, hLb⟩ : ∃ Lb, Lb = w.heap.size + 1 := ⟨_, rfl⟩
  rw [<- hLb] at hL1
  have hLb0 : w0.heap.size <= Lb := by omega
  obtain ⟨D1, hD1⟩ : ∃ D1 : List Deferred × Rho, D1 = (mark :: D.1, D.2) := ⟨_, rfl⟩
  rw [<- hD1] at hR1
  let J : Nat -> Mem -> World -> Prop := fun i mC W => ∃ y r m, I i y /\ R X D1 w0 mA r m ⟨n, look l0, H y, 0⟩ a1 W /\ CapOk w0 mA mC r (H y) W /\ W.heap[Lb]? = some (.loop (rec .ready none))
  let Jx : Mem -> World -> Prop := fun mC W => ∃ z r m, Ir z /\ R X D1 w0 mA r m ⟨n, look l0, Hr z, 0⟩ a1 W /\ CapOk w0 mA mC r (Hr z) W /\ W.heap[Lb]? = some (.loop (rec .done (some .ret)))
  have hblk : ∀ {A B : World} {o : Obj}, A.heap[Lb]? = some o -> A.grownBy B none -> B.heap[Lb]? = some o := fun h g => (g.block _ (Array.getElem?_eq_some_iff.1 h).1 (by simp)).trans h
  have abJ : ∀ i mC A B, J i mC A -> A.grownBy B none -> J i mC B := fun i mC A B ⟨y, r, m, h1, h2, h3, h4⟩ g => ⟨y, r, m, h1, h2.grown g, h3.grown g, hblk h4 g⟩
  refine ⟨Lb, [mark], W1, { target := .fn (.func gf) yv, args := #[.func (.yield Lb) #[] #[]] }, W1, gf, #[.func (.yield Lb) #[] #[]] ++ yv, W1, ?_, ?_, ?_, ?_, fun h => (by cases h), ?_⟩
  . rw [<- hW1, hrec, hmark, hLb]; exact run_enterLoop_outer _ _ _ _ _
  . simp only [resolve, hg]
    simp [go_sem]
  . exact fun f' hf' => trivial
  . simp [invoke, go_sem, run_callFunc hF.1]
  have hyl : (#[Value.func (.yield Lb) #[] #[]] ++ yv) = #[Value.func (.yield Lb) #[] #[]] ++ yv.toList.toArray := by simp
  rw [hyl]
  refine (hF.2 (n' - 1) mC W1 yv.toList hcap Lb J Jx abJ (fun mC A B ⟨z, r, m, h1, h2, h3, h4⟩ g => ⟨z, r, m, h1, h2.grown g, h3.grown g, hblk h4 g⟩)
    (fun i mC A ⟨y, r, m, h1, h2, h3, h4⟩ p v hv => ⟨(h3 p v hv).1, (h3 p v hv).2.1⟩) (fun mC A ⟨z, r, m, h1, h2, h3, h4⟩ p v hv => ⟨(h3 p v hv).1, (h3 p v hv).2.1⟩) ?_ ?_ ⟨y0, r, m, h0, hR1, hC1, hL1⟩).mono ?_
  . -- more memory
    rintro i mC A B m' ⟨y, r, m, h1, h2, h3, h4⟩ g hm'
    refine ⟨y, r, m, h1, h2.grown g, fun p u hu => ?_, hblk h4 g⟩
    obtain ⟨k1, k2, k3⟩ := hm' p u hu
    rcases k3 with k3 | k3
    . obtain ⟨-, -, k4, k5⟩ := h3 p u k3
      exact ⟨k1, k2, k4, k5⟩
    . exact ⟨k1, k2, fun i o b c ho hl hr => by have := h2.lt i o b c ho hl hr; omega, .inr (Nat.le_trans h2.size k3)⟩
  . -- one round
    rintro nd i x mC W v hLi ⟨y, r, m, hI, hRW, hCW, hlW⟩ hvx
    have hltW : Lb < W.heap.size := (Array.getElem?_eq_some_iff.1 hlW).1
    obtain ⟨m2, hm2, hR2⟩ := hRW.round_in hq hs (hH i y hI) hp' (hL x (List.mem_of_getElem? hLi)) hCW hvx
    have hm2' : ∀ p u, m2 p = some u -> m true p = some u \/ (mA p = some u \/ w0.heap.size <= p.block) := fun p u hu => (hm2 p u hu).imp (fun h => h) (fun h => (hCW p u h).2.2.2)
    have hnoL : ¬ ownX X r (H y) Lb := by
      rintro (hX | ⟨j, o, c, ho, hl, hrj⟩)
      . exact (hRW.nox rfl).1 _ hX
      . obtain ⟨x, e3, _, e4⟩ := (hRW.obj j o ho).cells hl hrj
        rw [hlW] at e3; cases e3; exact e4 _ rfl
    have hrun := run_yield (P := P) (args := #[v]) hlW (by rw [hrec]; rfl)
    rw [hrec] at hrun
    refine ⟨fn, _, assign, body, hrun, roundIn_of_wpIn hfn ?_⟩
    have htm : ((#[p].zip #[v]).foldl (fun tmps (t, a) => tmps.setIfInBounds t a) a.tmps) = a1.tmps.setIfInBounds p v := by rw [ha1t]; simp
    show assign.wpIn (FW (some Lb)) nd P _ { tmps := ((#[p].zip #[v]).foldl (fun tmps (t, a) => tmps.setIfInBounds t a) a.tmps), defers := [] } W
    rw [htm]
    refine wpIn_mono (hr i x y hLi hI hT hf (some Lb) (fun _ => hng1) nd _ _ _ _ _ _ _ _ hR2) ?_
    intro e a3 w3 hq3
    cases e <;> simp only [relQ, thenA, Exit.then] at hq3 ⊢ <;> try exact hq3
    case normal =>
      obtain ⟨ms, r3, m3, s3, -, hW3, hR3⟩ := hq3
      have hl3 : w3.heap[Lb]? = some (.loop (rec .ready none)) := (hR3.old Lb hltW hnoL).trans hlW
      refine ⟨_, run_beginRound hl3 (by rw [hrec]), ?_⟩
      have hR4 := hR3.putB hl3 hltW (.loop { rec .ready none with state := .busy })
      refine wpIn_mono (hW3 hT hf (some Lb) (fun _ => hng2) nd _ _ _ _ _ _ _ _ hR4) ?_
      have hRp := hRW.putL hlW hLb0 (.loop { rec .ready none with state := .busy })
      have hCp := hCW.put hlW (.loop { rec .ready none with state := .busy })
      have hlp : (W.putObj Lb (.loop { rec .ready none with state := .busy })).heap[Lb]? = some (.loop { rec .ready none with state := .busy }) := World.putObj_heap_same hltW
      intro e a5 w5 hq5
      cases e <;> simp only [relQ, roundPost, rndQ] at hq5 ⊢
      case normal =>
        obtain ⟨ms2, r5, m5, s5, -, ⟨y', hI', hto⟩, hR5⟩ := hq5
        obtain ⟨r6, hR6⟩ := hR5.toSt hto
        have hl5 : w5.heap[Lb]? = some (.loop { rec .ready none with state := .busy }) := (hR6.old Lb (by rw [World.putObj_size]; exact hltW) hnoL).trans hlp
        refine ⟨_, _, run_endRound none hl5, .inl ⟨rfl, y', r6, m5, hI', ?_, ?_, ?_⟩⟩
        . exact (hRp.round_out hs hm2' hR6).putL hl5 hLb0 _
        . exact (hCp.round hRp hR6).put hl5 _
        . rw [World.putObj_heap_same (Array.getElem?_eq_some_iff.1 hl5).1, hrec]; rfl
      case ret =>
        obtain ⟨ms2, r5, m5, s5, -, ⟨z, hI', hto⟩, hR5⟩ := hq5
        obtain ⟨r6, hR6⟩ := hR5.toSt hto
        have hl5 : w5.heap[Lb]? = some (.loop { rec .ready none with state := .busy }) := (hR6.old Lb (by rw [World.putObj_size]; exact hltW) hnoL).trans hlp
        refine ⟨_, _, run_endRound (some .ret) hl5, .inr ⟨rfl, z, r6, m5, hI', ?_, ?_, ?_⟩⟩
        . exact (hRp.round_out hs hm2' hR6).putL hl5 hLb0 _
        . exact (hCp.round hRp hR6).put hl5 _
        . rw [World.putObj_heap_same (Array.getElem?_eq_some_iff.1 hl5).1, hrec]; rfl
      case exit l => obtain ⟨_, _, _, _, _, h, _⟩ := hq5; exact h.elim
    case exit l => obtain ⟨_, _, _, _, _, h, _⟩ := hq3; exact h
    case ret => obtain ⟨_, _, _, _, _, h, _⟩ := hq3; exact h
  . -- behind it
    have ha1' : ({ a with defers := [mark] ++ a.defers } : Act) = a1 := by rw [<- ha1]; rfl
    rw [ha1']
    rintro e W2 ⟨⟨v, rfl⟩, ⟨_, y, r, m, hI, hR2, -, hl2⟩ | ⟨_, z, r, m, hI, hR2, -, hl2⟩⟩
    . refine ⟨none, _, by have := run_endLoop (P := P) hl2 (by rw [hrec]; simp); rw [hrec] at this; exact this, ?_⟩
      refine ⟨[mark], r, m, _, fun hh => (by cases hh), hd y hI, ?_⟩
      have hR3 := hR2.putL hl2 hLb0 (.loop { rec .ready none with state := .exhausted })
      rw [hD1, hrec] at hR3
      exact hR3
    . refine ⟨some .ret, _, by have := run_endLoop (P := P) hl2 (by rw [hrec]; simp); rw [hrec] at this; exact this, ?_⟩
      refine wpIn_ret ⟨[mark], r, m, _, fun hh => (by cases hh), hx z hI, ?_⟩
      have hR3 := hR2.putL hl2 hLb0 (.loop { rec .done (some .ret) with state := .exhausted })
      rw [hD1, hrec] at hR3
      exact hR3
end Go.Lat
namespace Go.Lat
open Go.RowKit

abbrev GH : Nat := 1000000
structure ItC where
  l : Nat
  J : Nat -> Mem -> World -> Prop
  Jx : Mem -> World -> Prop
  L : List AV
structure ItC.Ok (C : ItC) (P : Program) : Prop where
  ab : ∀ i m w w', C.J i m w -> w.grownBy w' none -> C.J i m w'
  abx : ∀ m w w', C.Jx m w -> w.grownBy w' none -> C.Jx m w'
  mem : ∀ i m w, C.J i m w -> ∀ p v, m p = some v -> w.cell? p = some v /\ p.block < w.heap.size
  memx : ∀ m w, C.Jx m w -> ∀ p v, m p = some v -> w.cell? p = some v /\ p.block < w.heap.size
  ext : ∀ i m wb w m', C.J i m wb -> wb.grownBy w none -> (∀ p u, m' p = some u -> w.cell? p = some u /\ p.block < w.heap.size /\ (m p = some u \/ wb.heap.size <= p.block)) -> C.J i m' w
  step : ∀ n i x m w v, C.L[i]? = some x -> C.J i m w -> VR [] (nest m) x v →
    YieldAt (FW none) n P C.l #[v] w fun e w' => (e = .returned (.bool true) /\ C.J (i + 1) m w') \/ (e = .returned (.bool false) /\ C.Jx m w')
def Jg (C : ItC) : AV -> Mem -> World -> Prop
  | .gh (i + 1), m, w => C.J i m w
  | .gh 0, m, w => C.Jx m w
  | _, _, _ => False
def relJ (C : ItC) (Q : Ex -> St -> Prop) : Exit -> Act -> World -> Prop
  | .normal, a, w => ∃ w0 mA r m s, Q .nrm s /\ Jg C (s.tm GH) mA w0 /\ R (fun _ => False) ([], []) w0 mA r m s a w
  | .ret, a, w => ∃ w0 mA r m s, Q .ret s /\ Jg C (s.tm GH) mA w0 /\ R (fun _ => False) ([], []) w0 mA r m s a w
  | .exit l, a, w => ∃ w0 mA r m s, Q (.exit l) s /\ Jg C (s.tm GH) mA w0 /\ R (fun _ => False) ([], []) w0 mA r m s a w
  | _, _, _ => False
def WJ (C : ItC) (P : Program) (T : TT) (c : Code) (st : St) (Q : Ex -> St -> Prop) : Prop :=
  C.Ok P -> TsOk P T -> P.follows .mixedOrders = true -> ∀ (n : Nat) (w0 : World) (mA : Mem) (r : Rho) (m : MM) (a : Act) (w : World), Jg C (st.tm GH) mA w0 -> R (fun _ => False) ([], []) w0 mA r m st a w →
    c.wpIn (FW none) n P (relJ C Q) a w

section
variable {C : ItC} {P : Program} {T : TT} {st : St} {Q Q' : Ex -> St -> Prop} {c c' : Code}
theorem relJ_mono (hq : ∀ e s, Q e s -> Q' e s) : ∀ e a w, relJ C Q e a w -> relJ C Q' e a w := by
  intro e a w h
  cases e <;> simp only [relJ] at h ⊢ <;> first | exact h | exact (let ⟨w0, mA, r, m, s, h0, h1, h2⟩ := h; ⟨w0, mA, r, m, s, hq _ _ h0, h1, h2⟩)
theorem WJ.mono (h : WJ C P T c st Q) (hq : ∀ e s, Q e s -> Q' e s) : WJ C P T c st Q' := fun hC hT hf n w0 mA r m a w hJ hR =>
  wpIn_mono (h hC hT hf n w0 mA r m a w hJ hR) (relJ_mono hq)
theorem WJ.ofW (hn : noRg c = true) (h : W P T c st fun e s => s.tm GH = st.tm GH /\ Q e s) : WJ C P T c st Q := fun hC hT hf n w0 mA r m a w hJ hR => by
  refine wpIn_mono (h hT hf none (fun h => (h rfl).elim) n _ _ _ _ _ _ _ _ hR) fun e a' w' he => ?_
  cases e <;> simp only [relQ, relJ] at he ⊢ <;> try exact he
  all_goals
    obtain ⟨ms, r', m', s, h0, ⟨h1, h2⟩, h3⟩ := he
    rw [h0 hn] at h3
    exact ⟨w0, mA, r', m', s, h2, by rw [h1]; exact hJ, h3⟩
theorem WJ.seq (M : St -> Prop) (h : WJ C P T c st (thenA M Q)) (h' : ∀ s, M s -> WJ C P T c' s Q) : WJ C P T (.seq c c') st Q := fun hC hT hf n w0 mA r m a w hJ hR => by
  refine wpIn_seq (wpIn_mono (h hC hT hf n w0 mA r m a w hJ hR) fun e a' w' he => ?_)
  cases e <;> simp only [relJ, thenA, Exit.then] at he ⊢ <;> try exact he
  obtain ⟨w0', mA', r', m', s, h1, h2, h3⟩ := he
  exact h' s h1 hC hT hf n w0' mA' r' m' a' w' h2 h3
theorem WJ.seq' (h : WJ C P T c st (thenA (fun s => WJ C P T c' s Q) Q)) : WJ C P T (.seq c c') st Q := WJ.seq _ h fun _ h => h
theorem WJ.skip (h : Q .nrm st) : WJ C P T .skip st Q := fun _ _ _ _ w0 mA r m _ _ hJ hR => wpIn_skip ⟨w0, mA, r, m, st, h, hJ, hR⟩
theorem WJ.ret (h : Q .ret st) : WJ C P T .ret st Q := fun _ _ _ _ w0 mA r m _ _ hJ hR => wpIn_ret ⟨w0, mA, r, m, st, h, hJ, hR⟩
theorem WJ.exit {l : Nat} (h : Q (.exit l) st) : WJ C P T (.exit l) st Q := fun _ _ _ _ w0 mA r m _ _ hJ hR => wpIn_exit ⟨w0, mA, r, m, st, h, hJ, hR⟩
theorem WJ.cond {x : Operand} {t : Bool} (hx : st.eval x = .bool t) (h1 : t = true -> WJ C P T c st Q) (h2 : t = false -> WJ C P T c' st Q) : WJ C P T (.cond x c c') st Q := fun hC hT hf n w0 mA r m a w hJ hR => by
  have hv := hR.eval x
  rw [hx] at hv
  simp only [VR] at hv
  exact wpIn_cond_split hv (fun ht => h1 ht hC hT hf n w0 mA r m a w hJ hR) (fun ht => h2 ht hC hT hf n w0 mA r m a w hJ hR)
theorem WJ.cn {p : Prop} [Decidable p] {x : Operand} (hx : st.eval x = .bool (decide p)) (h1 : p -> WJ C P T c st Q) (h2 : ¬ p -> WJ C P T c' st Q) : WJ C P T (.cond x c c') st Q :=
  WJ.cond hx (fun h => h1 (of_decide_eq_true h)) (fun h => h2 (of_decide_eq_false h))
theorem WJ.cb {q : Bool} {x : Operand} (hx : st.eval x = .bool q) (h1 : q = true -> WJ C P T c st Q) (h2 : ¬ q = true -> WJ C P T c' st Q) : WJ C P T (.cond x c c') st Q :=
  WJ.cond hx h1 (fun h => h2 (by rw [h]; simp))
theorem WJ.cT {x : Operand} (hx : st.eval x = .bool true) (h1 : WJ C P T c st Q) : WJ C P T (.cond x c c') st Q := WJ.cond hx (fun _ => h1) (fun h => by cases h)
theorem WJ.cF {x : Operand} (hx : st.eval x = .bool false) (h1 : WJ C P T c' st Q) : WJ C P T (.cond x c c') st Q := WJ.cond hx (fun h => by cases h) (fun _ => h1)
theorem WJ.block {id : Nat} (h : WJ C P T c st (blockA id Q)) : WJ C P T (.block id c) st Q := fun hC hT hf n w0 mA r m a w hJ hR =>
  wpIn_block (wpIn_mono (h hC hT hf n w0 mA r m a w hJ hR) fun e a' w' he => by
    cases e <;> simp only [relJ, blockA, Exit.inBlock] at he ⊢ <;> try exact he
    rename_i l
    obtain ⟨w0', mA', r', m', s, h1, h2, h3⟩ := he
    split <;> rename_i hl
    . rw [if_pos hl] at h1
      exact ⟨w0', mA', r', m', s, h1, h2, h3⟩
    . rw [if_neg hl] at h1
      exact ⟨w0', mA', r', m', s, h1, h2, h3⟩)
theorem WJ.to {st' : St} (hl : st.to st') (hg : st'.tm GH = st.tm GH) (h : WJ C P T c st' Q) : WJ C P T c st Q := fun hC hT hf n w0 mA r m a w hJ hR => by
  obtain ⟨r', hR'⟩ := hR.toSt hl
  exact h hC hT hf n w0 mA r' m a w (by rw [hg]; exact hJ) hR'
theorem WJ.tr {n : Nat} {h : List AObj} {b : Nat} {tm : Nat -> AV} (l' : List (Nat × AV)) (h' : List AObj) (hl : regsL tm l') (hh : h = h') (hg : look l' GH = tm GH) (hw : WJ C P T c ⟨n, look l', h', b⟩ Q) : WJ C P T c ⟨n, tm, h, b⟩ Q := fun hC hT hf k w0 mA r m a w hJ hR => by
  subst hh
  exact hw hC hT hf k w0 mA r m a w (by show Jg C (look l' GH) mA w0; rw [hg]; exact hJ) (hR.le ⟨rfl, rfl, rfl, regsL_look hl⟩)
open Classical in
theorem WJ.loop (I : Nat -> St -> Prop) {k : Nat} (h0 : I k st) (h : ∀ k s, I k s -> WJ C P T c s (thenA (fun s' => ∃ k', k' < k /\ I k' s') Q)) : WJ C P T (.loop c) st Q := fun hC hT hf n w0 mA r m a w hJ hR => by
  let Has : Act -> World -> Nat -> Prop := fun a w k => ∃ w0 mA r m s, I k s /\ Jg C (s.tm GH) mA w0 /\ R (fun _ => False) ([], []) w0 mA r m s a w
  have least : ∀ (p : Nat -> Prop) (k : Nat), p k -> ∃ j, p j /\ ∀ i, p i -> j <= i := by
    intro p k
    induction k using Nat.strongRecOn with
    | _ k ih =>
      intro hk
      by_cases hx : ∃ i, i < k /\ p i
      . obtain ⟨i, hi, hpi⟩ := hx
        exact ih i hi hpi
      . exact ⟨k, hk, fun i hi => Nat.le_of_not_lt fun hlt => hx ⟨i, hlt, hi⟩⟩
  let μ : Act -> World -> Nat := fun a w => if hx : ∃ j, Has a w j /\ ∀ i, Has a w i -> j <= i then Classical.choose hx else 0
  have hμ : ∀ a w k, Has a w k -> Has a w (μ a w) /\ μ a w <= k := fun a w k hk => by
    have hx := least (Has a w) k hk
    have e : μ a w = Classical.choose hx := dif_pos hx
    rw [e]
    exact ⟨(Classical.choose_spec hx).1, (Classical.choose_spec hx).2 k hk⟩
  refine wpIn_loop (fun a w => ∃ k, Has a w k) μ ⟨k, w0, mA, r, m, st, h0, hJ, hR⟩ ?_
  rintro a w ⟨k, hk⟩
  obtain ⟨⟨w0, mA, r, m, s, hI, hJ, hR⟩, _⟩ := hμ a w k hk
  refine wpIn_mono (h _ s hI hC hT hf n w0 mA r m a w hJ hR) fun e a' w' he => ?_
  cases e <;> simp only [relJ, thenA, Exit.then] at he ⊢ <;> try exact he
  obtain ⟨w0', mA', r', m', s', ⟨k', hk', hI'⟩, hJ', hR'⟩ := he
  exact ⟨⟨k', w0', mA', r', m', s', hI', hJ', hR'⟩, Nat.lt_of_le_of_lt (hμ a' w' k' ⟨w0', mA', r', m', s', hI', hJ', hR'⟩).2 hk'⟩
theorem WJ.rL {id : Nat} {ol : List Oper} (h1 : seqL P T ol [] 0 ol st fun s => s.tm GH = st.tm GH /\ WJ C P T c s Q) : WJ C P T (.seq (.region id ol.toArray false) c) st Q :=
  WJ.seq (fun s => WJ C P T c s Q) (WJ.ofW rfl (W.region (Q := fun e s => s.tm GH = st.tm GH /\ thenA (fun s => WJ C P T c s Q) Q e s) [] h1)) fun _ h => h
theorem WJ.rP {id : Nat} {ol : List Oper} (ord : List Nat) (hc : chk ol.toArray ord = true) (hl : allIn ol ord = true) (h1 : seqL P T ol [] 0 (pickL ol ord) st fun s => s.tm GH = st.tm GH /\ WJ C P T c s Q) : WJ C P T (.seq (.region id ol.toArray true) c) st Q :=
  WJ.seq (fun s => WJ C P T c s Q) (WJ.ofW rfl (W.rP1 (Q := fun e s => s.tm GH = st.tm GH /\ thenA (fun s => WJ C P T c s Q) Q e s) ord hc hl h1)) fun _ h => h
theorem WJ.rL1 {id : Nat} {ol : List Oper} (h1 : seqL P T ol [] 0 ol st fun s => s.tm GH = st.tm GH /\ Q .nrm s) : WJ C P T (.region id ol.toArray false) st Q := WJ.ofW rfl (W.region [] h1)

def clJ : AV -> Bool
  | .int _ _ | .bool _ | .nilS | .nilP | .nilF | .any | .yl _ | .gh _ => true
  | .ipt true _ => true
  | .lst true _ _ => true
  | .clo _ [] [] => true
  | _ => false
theorem clJ_VR {r : Rho} {m : MM} : ∀ {x : AV} {v : Value}, clJ x = true -> VR r m x v -> VR [] (nest (m true)) x v := by
  intro x v hx h
  cases x <;> simp only [clJ] at hx <;> try (cases hx; done)
  case int => simpa only [VR] using h
  case bool => simpa only [VR] using h
  case nilS => simpa only [VR] using h
  case nilP => simpa only [VR] using h
  case nilF => simpa only [VR] using h
  case any => simp only [VR]
  case yl => simpa only [VR] using h
  case gh => simp only [VR]
  case ipt fl cs =>
    cases fl <;> simp only [clJ] at hx <;> try (cases hx; done)
    simp only [VR] at h ⊢
    exact h
  case lst fl n cs =>
    cases fl <;> simp only [clJ] at hx <;> try (cases hx; done)
    simp only [VR] at h ⊢
    exact h
  case clo f a b =>
    cases a <;> cases b <;> simp only [clJ] at hx <;> try (cases hx; done)
    simp only [VR, VRs] at h ⊢
    exact h
def clJs : List (Nat × AV) -> Bool
  | [] => true
  | (_, v) :: l => clJ v && clJs l
theorem clJs_look : ∀ {l : List (Nat × AV)}, clJs l = true -> ∀ t, clJ (look l t) = true
  | [], _, t => rfl
  | (k, v) :: l, h, t => by
    simp only [clJs, Bool.and_eq_true] at h
    rw [look_cons]
    split
    . exact h.1
    . exact clJs_look h.2 t
theorem seqL_upto {X : Nat -> Prop} {D : List Deferred × Rho} {w0 : World} {mA : Mem} (hT : TsOk P T) {ops : Array Oper} {ro : Option Nat} {n : Nat} {Z : Exit -> Act -> World -> Prop} {K : St -> Prop} {rest : List Oper}
    (hK : ∀ s r' m' a' w', K s -> R X D w0 mA r' m' s a' w' -> wpListIn (FW ro) n P ops Z rest a' w') :
    ∀ (l : List Oper) (j : Nat) {r : Rho} {m : MM} {st : St} {a : Act} {w : World}, R X D w0 mA r m st a w -> seqL P T ops.toList [] j l st K -> wpListIn (FW ro) n P ops Z (l ++ rest) a w
  | [], _, _, _, _, _, _, hR, h => hK _ _ _ _ _ h hR
  | o :: l, j, _, _, _, _, _, hR, h => wpListIn_step fun K' hK' =>
      stepG_sound hT hR h fun s r' m' a' w' hs hR' => hK' a' w' (seqL_upto hT hK l (j + 1) hR' (splitT_sound hs))
structure YSt (C : ItC) (P : Program) (T : TT) (ol B : List Oper) (j : Nat) (d : Nat) (f x : Operand) (gd : Option (Nat × Bool)) (g0 : AV) (s1 : St) (K : St -> Prop) : Prop where
  intro ::
  ex : ∃ (nt : Nat) (lr : List (Nat × AV)) (hp : List AObj) (i : Nat) (Y : AV) (l' : List (Nat × AV)), s1 = ⟨nt, look lr, hp, 0⟩ ∧
    (gd = none \/ ∃ k t, gd = some (k, true) /\ gdT ol k = some t /\ look lr t = .bool true) /\ d < nt /\ St.eval ⟨nt, look lr, hp, 0⟩ f = .yl C.l /\ g0 = .gh (i + 1) /\ C.L[i]? = some Y /\ Wk (conv 6 [] (St.eval ⟨nt, look lr, hp, 0⟩ x)) Y /\ clJs l' = true /\ regsL (look lr) l' ∧
    seqL P T ol [] j B ⟨nt, look ((d, .bool true) :: (GH, .gh (i + 2)) :: l'), [], 0⟩ (fun s => s.tm GH = .gh (i + 2) /\ K s) ∧
    seqL P T ol [] j B ⟨nt, look ((d, .bool false) :: (GH, .gh 0) :: l'), [], 0⟩ (fun s => s.tm GH = .gh 0 /\ K s)
theorem wanted_of {X : Nat -> Prop} {D : List Deferred × Rho} {w0 : World} {mA : Mem} {r : Rho} {m : MM} {a : Act} {w : World} {ops : Array Oper} (hR : R X D w0 mA r m st a w) {o : Oper} (hg : o.guard = none \/ ∃ k t, o.guard = some (k, true) /\ gdT ops.toList k = some t /\ st.tm t = .bool true) : Region.wanted o (yielded ops a.tmps) = true := by
  rcases hg with hg | ⟨k, t, hg, ht, hb⟩
  . simp [Region.wanted, hg]
  . have hv := hR.tmps t
    rw [hb] at hv
    simp only [VR] at hv
    have hy : yielded ops a.tmps k = some true := by
      have e : (ops[k]?).bind (·.dst) = some t := by simpa [gdT] using ht
      unfold yielded
      rw [e]
      rcases hq : a.tmps[t]? with _ | u
      . rw [Array.getD_eq_getD_getElem?, hq] at hv
        cases hv
      . rw [Array.getD_eq_getD_getElem?, hq] at hv
        simp only [Option.getD_some] at hv
        subst hv
        simp [hq]
    simp [Region.wanted, hg, hy]
theorem R.anew {w0 : World} {mA : Mem} {r : Rho} {m : MM} {nt : Nat} {lr l' : List (Nat × AV)} {hp : List AObj} {a : Act} {w w' : World} {d : Nat} {b : Bool} {g : Nat} (hR : R (fun _ => False) ([], []) w0 mA r m ⟨nt, look lr, hp, 0⟩ a w) (hd : d < nt) (hcl : clJs l' = true) (hrl : regsL (look lr) l')
    (hm : ∀ p v, m true p = some v -> w'.cell? p = some v /\ p.block < w'.heap.size) : R (fun _ => False) ([], []) w' (m true) [] (nest (m true)) ⟨nt, look ((d, .bool b) :: (GH, .gh g) :: l'), [], 0⟩ (a.put (some d) (.bool b)) w' := by
  have hsz : a.tmps.size = nt := hR.size'
  refine { os := rfl, tape := rfl, output := rfl, size := Nat.le_refl _, old := fun _ _ _ => rfl, len := rfl, lt := by simp, mem := hm, low := (by intro p v h; cases h), newer := (by intro p v h; cases h), lim := fun p v h => .inl h, apart := by simp, obj := by simp, own := by simp, inj := by simp, size' := by simpa [Act.put] using hR.size', tmps := fun t => ?_, defers := by simpa [Act.put] using hR.defers, base := RLe.refl [], short := by simp, nox := fun _ => ⟨fun _ h => h, rfl⟩, marks := fun d hd => (by cases hd), mnod := List.nodup_nil }
  show VR [] (nest (m true)) (look ((d, .bool b) :: (GH, .gh g) :: l') t) _
  rw [look_cons]
  split
  . rename_i e
    subst e
    have : ((a.put (some t) (.bool b)).tmps).getD t undef = .bool b := by simp [Act.put, hsz, hd]
    rw [this]
    simp only [VR]
  . rename_i e
    rw [look_cons]
    split
    . simp only [VR]
    . have h1 := hR.tmps t
      have h2 : ((a.put (some d) (.bool b)).tmps).getD t undef = a.tmps.getD t undef := by simp [Act.put, Array.getElem?_setIfInBounds, Ne.symm e]
      rw [h2]
      rcases regsL_look hrl t with h3 | h3
      . rw [h3]; simp only [VR]
      . have h1' : VR r m (look lr t) (a.tmps.getD t undef) := h1
        rw [<- h3] at h1'
        exact clJ_VR (clJs_look hcl t) h1'
theorem WJ.rY {id : Nat} {ol : List Oper} (A B : List Oper) {j d : Nat} {f x : Operand} {tys : Array TypeId} {ty : TypeId} {pos : String} {af : Array Edge} {gd : Option (Nat × Bool)}
    (hl : ol = A ++ ⟨some d, .call ⟨.value f, #[x], tys⟩, ty, pos, af, gd⟩ :: B) (h1 : seqL P T ol [] 0 A st fun s1 => YSt C P T ol B j d f x gd (st.tm GH) s1 fun s2 => WJ C P T c s2 Q) : WJ C P T (.seq (.region id ol.toArray false) c) st Q := fun hC hT hf n w0 mA r m a w hJ0 hR0 => by
  refine wpIn_seq (wpIn_region_list ?_)
  have hlist : ol.toArray.toList = A ++ ⟨some d, .call ⟨.value f, #[x], tys⟩, ty, pos, af, gd⟩ :: B := hl
  rw [hlist]
  refine seqL_upto (ops := ol.toArray) (K := fun s1 => YSt C P T ol B j d f x gd (st.tm GH) s1 fun s2 => WJ C P T c s2 Q) hT ?_ A 0 hR0 h1
  rintro s1 r m a w ⟨nt, lr, hp, i, Y, l', rfl, hgd, hdn, hf1, hg1, hLi, hY, hcl, hrl, hk1, hk2⟩ hR
  rw [hg1] at hJ0
  have hJ : C.J i mA w0 := hJ0
  have hJ' : C.J i (m true) w := hC.ext i mA w0 w (m true) hJ (grown_of_R hR) fun p u hu => ⟨(hR.mem p u hu).1, (hR.mem p u hu).2, hR.lim p u hu⟩
  have hX : VR [] (nest (m true)) Y (a.eval x) := hY [] _ _ (Low.nest _) (cv0_sound hR 6 _ _ (hR.eval x))
  obtain ⟨fn, tmps, assign, body, hrun, hround⟩ := hC.step (n - 1) i Y (m true) w (a.eval x) hLi hJ' hX
  refine wpListIn_step fun K' hK' => ?_
  rw [if_pos (wanted_of hR hgd)]
  refine ⟨fun _ _ => trivial, ?_⟩
  rw [Oper.semAt_eq _ _ _ (fun c' h' => by cases h')]
  have hfv := hR.eval f
  rw [hf1] at hfv
  simp only [VR] at hfv
  have hexec : (execOp a.eval ⟨some d, .call ⟨.value f, #[x], tys⟩, ty, pos, af, gd⟩).run P w = .ok (.round C.l fn tmps assign body) w := by
    simp only [execOp, resolve, Deferred.ofValue, hfv, Sem.run_bind, Sem.run_pure, Result.andThen_ok, invoke]
    simpa using hrun
  rw [hexec]
  refine ⟨fun h => (by cases h), hround.mono ?_⟩
  rintro e w' (⟨rfl, hJ2⟩ | ⟨rfl, hJ2⟩)
  . refine hK' _ _ (seqL_sound hT (fun s r' m' a' w'' hs hR' => ?_) B j (hR.anew hdn hcl hrl (hC.mem _ _ _ hJ2)) hk1)
    exact hs.2 hC hT hf n w' (m true) r' m' a' w'' (by rw [hs.1]; exact hJ2) hR'
  . refine hK' _ _ (seqL_sound hT (fun s r' m' a' w'' hs hR' => ?_) B j (hR.anew hdn hcl hrl (hC.memx _ _ hJ2)) hk2)
    exact hs.2 hC hT hf n w' (m true) r' m' a' w'' (by rw [hs.1]; exact hJ2) hR'
theorem FnIt.of_walk {fI : FuncId} {nt : Nat} {rs : List ResultVar} {caps L : List AV} (hT : TsOk P T) (hm : P.follows .mixedOrders = true) (hf : IsFn P fI c nt rs) (hrs : rs = []) (hn : caps.length + 1 <= nt)
    (h : ∀ C : ItC, C.L = L -> WJ C P T c ⟨nt, look ((GH, .gh 1) :: enumT 0 (.yl C.l :: caps)), [], 0⟩ (fun e s => (e = .nrm \/ e = .ret) /\ (s.tm GH = .gh 0 \/ s.tm GH = .gh (L.length + 1)))) : FnIt P fI caps L := by
  obtain ⟨fn, h1, h2, h3, h4, h5⟩ := hf.fn
  refine ⟨⟨fn, h1, h2, by rw [h3]; rfl⟩, fun n mC w cv hcv l J Jx ab abx mem memx ext step hJ => ?_⟩
  have hC : ItC.Ok ⟨l, J, Jx, L⟩ P := ⟨ab, abx, mem, memx, ext, step⟩
  have hvs : VRs [] (nest mC) (.yl l :: caps) (.func (.yield l) #[] #[] :: cv) := by
    simp only [VRs]
    exact ⟨_, _, rfl, by simp only [VR], hcv⟩
  have hR := enter_R (nt := nt) (mem 0 mC w hJ) hvs (by simpa using hn) (fun _ => False) (fun _ hf => hf)
  have hlen := hcv.length
  have hR2 : R (fun _ => False) ([], []) w mC [] (nest mC) ⟨nt, look ((GH, .gh 1) :: enumT 0 (.yl l :: caps)), [], 0⟩ { tmps := (.func (.yield l) #[] #[] :: cv).toArray ++ Array.replicate (nt - (.func (.yield l) #[] #[] :: cv).toArray.size) undef, defers := [] } w := by
    refine { hR with size' := hR.size', tmps := fun t => ?_, nox := hR.nox, short := hR.short, base := hR.base, defers := hR.defers }
    show VR [] (nest mC) (look ((GH, .gh 1) :: enumT 0 (.yl l :: caps)) t) _
    rw [look_cons]
    split
    . simp only [VR]
    . exact hR.tmps t
  have hargs : (#[Value.func (.yield l) #[] #[]] ++ cv.toArray) = (Value.func (.yield l) #[] #[] :: cv).toArray := by simp
  rw [hargs]
  refine callsIn_of_wp_marks h1 h3 trivial ?_
  rw [h4]
  refine wpIn_mono (h ⟨l, J, Jx, L⟩ rfl hC hT hm n w mC [] (nest mC) _ w hJ hR2) ?_
  have fin : ∀ (a' : Act) (w' : World) w0 mA r m s, (s.tm GH = .gh 0 \/ s.tm GH = .gh (L.length + 1)) -> Jg ⟨l, J, Jx, L⟩ (s.tm GH) mA w0 -> R (fun _ => False) ([], []) w0 mA r m s a' w' →
      LeavesInM (FW none) n P fn a'.tmps (fun e w' => (∃ v, e = .returned v) /\ ((∃ m, J L.length m w') \/ ∃ m, Jx m w')) a'.defers .returning w' := by
    intro a' w' w0 mA r m s hs hJ' hR'
    rw [hR'.defers]
    obtain ⟨v, hv⟩ : ∃ v, (results fn a'.tmps).run P w' = .ok v w' := by
      have hres : fn.results = #[] := by
        apply Array.toList_inj.1
        rw [h5, hrs]
      simp [results, hres, Sem.run_pure]
    refine ⟨v, hv, ⟨v, rfl⟩, ?_⟩
    rcases hs with hs | hs
    . rw [hs] at hJ'
      exact .inr ⟨mA, abx _ _ _ hJ' (grown_of_R hR')⟩
    . rw [hs] at hJ'
      exact .inl ⟨mA, ab _ _ _ _ hJ' (grown_of_R hR')⟩
  intro e a' w' he
  cases e <;> simp only [relJ, bodyPostM] at he ⊢ <;> try exact he.elim
  . obtain ⟨w0, mA, r, m, s, ⟨-, hs⟩, hJ', hR'⟩ := he
    exact fin a' w' w0 mA r m s hs hJ' hR'
  . obtain ⟨w0, mA, r, m, s, ⟨hs, -⟩, hJ', hR'⟩ := he
    rcases hs with hs | hs <;> cases hs
  . obtain ⟨w0, mA, r, m, s, ⟨-, hs⟩, hJ', hR'⟩ := he
    exact fin a' w' w0 mA r m s hs hJ' hR'
end
end Go.Lat
namespace Go.Lat
open Go.RowKit
theorem o_addU {d : Option Tmp} {a a2 : Operand} {n : Nat} {l : List (Nat × AV)} {h : List AObj} {b : Nat} {ty : TypeId} {pos : String} {af : Array Edge} {g : Option (Nat × Bool)} {P : Program} {T : TT} {K : AV -> List AObj -> Prop} {t u : TypeId} {x y : Int} (h1 : St.eval ⟨n, look l, h, b⟩ a = .int .u64 x) (h2 : St.eval ⟨n, look l, h, b⟩ a2 = .int .u64 y) (hk : K (.int .u64 (IntKind.u64.wrap (x + y))) h) : opC P T ⟨d, .binOp .add t a a2 u, ty, pos, af, g⟩ ⟨n, look l, h, b⟩ K := by
  have hn : nilC .add a2 = false := rfl
  show (if nilC .add a2 = true then nilEqA T t (BinOp.add == BinOp.neq) (St.eval ⟨n, look l, h, b⟩ a) (fun v => K v h) else binA T .add t (St.eval ⟨n, look l, h, b⟩ a) (St.eval ⟨n, look l, h, b⟩ a2) (fun v => K v h))
  rw [hn, if_neg (by simp), h1, h2]
  exact hk
theorem rd_nrm {A B : St -> Prop} {s : St} (h : A s) : rndQ A B .nrm s := h
theorem rd_ret {A B : St -> Prop} {s : St} (h : B s) : rndQ A B .ret s := h
theorem noF_ints : ∀ xs : List Int, noFs (zYy zYx xs) = true
  | [] => rfl
  | x :: xs => by
    have := noF_ints xs
    simpa only [zYy, zYx, noFs, noF, List.flatMap_cons, List.cons_append, List.nil_append, Bool.true_and] using this
section
variable {P : Program} {T : TT} {Q : Ex -> St -> Prop} {g : Operand} {p n : Nat} {assign body : Code} {gf : FuncId} {caps caps' : List AV} {l0 lg : List (Nat × AV)}
theorem W.rng0_2 {γ : Type} {β0 β1 : Type} (e : γ -> AV) (xs : List γ) (q : Nat) (H : List AObj) (I : Nat -> Prop) (Hr : β0 -> β1 -> List AObj) (Ir : β0 -> β1 -> Prop)
    (hp : Nat.ble (p + 1) n = true) (he : St.eval ⟨n, look lg, H , 0⟩ g = .clo gf [] caps) (hF : FnIt P gf caps' (xs.map e)) (hcc : Wks (caps.map (conv 6 [])) caps') (hL : ∀ c, noF (e c) = true) (hl0 : regsL (look lg) l0) (hq : 0 < q) (hs : stabL q l0 = true)
    (hH : ∀ i, I i  -> ∀ o ∈ H , noFO o = true) (hng1 : noRg assign = true) (hng2 : noRg body = true) (h0 : I 0 )
    (hr : ∀ i c, xs[i]? = some c -> I i  -> W P T assign ⟨n, look ((p, e c) :: l0), H , q⟩ (thenA (fun s => W P T body s (rndQ (fun s => ∃ (_ : Unit), I (i + 1)  /\ s.to ⟨n, look [], H , q⟩) (fun s => ∃ (_ : Unit) (z0 : β0) (z1 : β1), Ir z0 z1 /\ s.to ⟨n, look [], Hr z0 z1, q⟩))) (fun _ _ => False)))
    (hd : I xs.length  -> Q .nrm ⟨n, look l0, H , 0⟩) (hx : ∀ (z0 : β0) (z1 : β1), Ir z0 z1 -> Q .ret ⟨n, look l0, Hr z0 z1, 0⟩) : W P T (.rangeFunc g #[p] assign body) ⟨n, look lg, H , 0⟩ Q :=
  W.range (α := Unit) (β := β0 × β1) q () (fun y => H) (fun i y => I i) (fun z => Hr z.1 z.2) (fun z => Ir z.1 z.2) rfl hp he hF hcc
    (fun x hx => by obtain ⟨c, -, rfl⟩ := List.mem_map.1 hx; exact hL c) hl0 hq hs (fun i y hy => hH i hy) hng1 hng2 h0
    (fun i x y hx hy => by
      rw [List.getElem?_map] at hx
      rcases hc : xs[i]? with _ | c
      . rw [hc] at hx; cases hx
      . rw [hc] at hx; cases hx
        refine (hr i c hc hy).mono fun e s h => ?_
        cases e <;> simp only [thenA] at h ⊢
        refine h.mono fun e s h => ?_
        cases e <;> simp only [rndQ] at h ⊢
        . obtain ⟨_, h1, h2⟩ := h
          exact ⟨(), h1, h2⟩
        . obtain ⟨_, z0, z1, h1, h2⟩ := h
          exact ⟨(z0, z1), h1, h2⟩)
    (fun y hy => hd (by rw [List.length_map] at hy; exact hy)) (fun z hz => hx z.1 z.2 hz)
theorem W.rng1_0 {γ : Type} {α0 : Type} (e : γ -> AV) (xs : List γ) (q : Nat) (y0 : α0) (H : α0 -> List AObj) (I : Nat -> α0 -> Prop)
    (hp : Nat.ble (p + 1) n = true) (he : St.eval ⟨n, look lg, H y0, 0⟩ g = .clo gf [] caps) (hF : FnIt P gf caps' (xs.map e)) (hcc : Wks (caps.map (conv 6 [])) caps') (hL : ∀ c, noF (e c) = true) (hl0 : regsL (look lg) l0) (hq : 0 < q) (hs : stabL q l0 = true)
    (hH : ∀ i (x0 : α0), I i x0 -> ∀ o ∈ H x0, noFO o = true) (hng1 : noRg assign = true) (hng2 : noRg body = true) (h0 : I 0 y0)
    (hr : ∀ i c (x0 : α0), xs[i]? = some c -> I i x0 -> W P T assign ⟨n, look ((p, e c) :: l0), H x0, q⟩ (thenA (fun s => W P T body s (rndQ (fun s => ∃ (_ : Unit) (x0 : α0), I (i + 1) x0 /\ s.to ⟨n, look [], H x0, q⟩) (fun s => False))) (fun _ _ => False)))
    (hd : ∀ (x0 : α0), I xs.length x0 -> Q .nrm ⟨n, look l0, H x0, 0⟩) : W P T (.rangeFunc g #[p] assign body) ⟨n, look lg, H y0, 0⟩ Q :=
  W.range (α := α0) (β := Unit) q y0 (fun y => H y) (fun i y => I i y) (fun z => []) (fun z => False) rfl hp he hF hcc
    (fun x hx => by obtain ⟨c, -, rfl⟩ := List.mem_map.1 hx; exact hL c) hl0 hq hs (fun i y hy => hH i y hy) hng1 hng2 h0
    (fun i x y hx hy => by
      rw [List.getElem?_map] at hx
      rcases hc : xs[i]? with _ | c
      . rw [hc] at hx; cases hx
      . rw [hc] at hx; cases hx
        refine (hr i c y hc hy).mono fun e s h => ?_
        cases e <;> simp only [thenA] at h ⊢
        refine h.mono fun e s h => ?_
        cases e <;> simp only [rndQ] at h ⊢
        . obtain ⟨_, x0, h1, h2⟩ := h
          exact ⟨x0, h1, h2⟩
  )
    (fun y hy => hd y (by rw [List.length_map] at hy; exact hy)) (fun z hz => hz.elim)
theorem W.rng2_0 {γ : Type} {α0 α1 : Type} (e : γ -> AV) (xs : List γ) (q : Nat) (y0 : α0) (y1 : α1) (H : α0 -> α1 -> List AObj) (I : Nat -> α0 -> α1 -> Prop)
    (hp : Nat.ble (p + 1) n = true) (he : St.eval ⟨n, look lg, H y0 y1, 0⟩ g = .clo gf [] caps) (hF : FnIt P gf caps' (xs.map e)) (hcc : Wks (caps.map (conv 6 [])) caps') (hL : ∀ c, noF (e c) = true) (hl0 : regsL (look lg) l0) (hq : 0 < q) (hs : stabL q l0 = true)
    (hH : ∀ i (x0 : α0) (x1 : α1), I i x0 x1 -> ∀ o ∈ H x0 x1, noFO o = true) (hng1 : noRg assign = true) (hng2 : noRg body = true) (h0 : I 0 y0 y1)
    (hr : ∀ i c (x0 : α0) (x1 : α1), xs[i]? = some c -> I i x0 x1 -> W P T assign ⟨n, look ((p, e c) :: l0), H x0 x1, q⟩ (thenA (fun s => W P T body s (rndQ (fun s => ∃ (_ : Unit) (x0 : α0) (x1 : α1), I (i + 1) x0 x1 /\ s.to ⟨n, look [], H x0 x1, q⟩) (fun s => False))) (fun _ _ => False)))
    (hd : ∀ (x0 : α0) (x1 : α1), I xs.length x0 x1 -> Q .nrm ⟨n, look l0, H x0 x1, 0⟩) : W P T (.rangeFunc g #[p] assign body) ⟨n, look lg, H y0 y1, 0⟩ Q :=
  W.range (α := α0 × α1) (β := Unit) q (y0, y1) (fun y => H y.1 y.2) (fun i y => I i y.1 y.2) (fun z => []) (fun z => False) rfl hp he hF hcc
    (fun x hx => by obtain ⟨c, -, rfl⟩ := List.mem_map.1 hx; exact hL c) hl0 hq hs (fun i y hy => hH i y.1 y.2 hy) hng1 hng2 h0
    (fun i x y hx hy => by
      rw [List.getElem?_map] at hx
      rcases hc : xs[i]? with _ | c
      . rw [hc] at hx; cases hx
      . rw [hc] at hx; cases hx
        refine (hr i c y.1 y.2 hc hy).mono fun e s h => ?_
        cases e <;> simp only [thenA] at h ⊢
        refine h.mono fun e s h => ?_
        cases e <;> simp only [rndQ] at h ⊢
        . obtain ⟨_, x0, x1, h1, h2⟩ := h
          exact ⟨(x0, x1), h1, h2⟩
  )
    (fun y hy => hd y.1 y.2 (by rw [List.length_map] at hy; exact hy)) (fun z hz => hz.elim)
end
end Go.Lat
namespace Go.Lat
open Go.RowKit
theorem Ren.gh {φ : List (Option Nat)} (k : Nat) : Ren φ (.gh k) (.gh k) := fun _ _ _ _ _ => by simp only [VR]
theorem Ren.yl {φ : List (Option Nat)} (k : Nat) : Ren φ (.yl k) (.yl k) := fun _ _ _ _ hv => by simpa only [VR] using hv
section
variable {C : ItC} {P : Program} {T : TT} {st : St} {Q : Ex -> St -> Prop} {c c' : Code}
theorem WJ.mid1 {α0 : Type} (S : α0 -> St) (p : α0 -> Prop) (h' : ∀ (x0 : α0), p x0 -> WJ C P T c' (S x0) Q) (h : WJ C P T c st (thenA (fun s => ∃ (_ : Unit) (x0 : α0), p x0 /\ s.to (S x0) /\ (S x0).tm GH = s.tm GH) Q)) : WJ C P T (.seq c c') st Q :=
  WJ.seq _ h fun _ ⟨_, x0, hx, hs, hg⟩ => WJ.to hs hg (h' x0 hx)
theorem WJ.loop1 {α0 : Type} (S : α0 -> St) (p : α0 -> Prop) (μ : α0 -> Nat) (z0 : α0) (hs : st.to (S z0)) (hg : (S z0).tm GH = st.tm GH) (hp : p z0)
    (h : ∀ (x0 : α0), p x0 -> WJ C P T c (S x0) (thenA (fun s => ∃ (_ : Unit) (y0 : α0), (p y0 /\ μ y0 < μ x0) /\ s.to (S y0) /\ (S y0).tm GH = s.tm GH) Q)) : WJ C P T (.loop c) st Q :=
  WJ.loop (fun k s => ∃ (x0 : α0), p x0 /\ μ x0 = k /\ s.to (S x0) /\ (S x0).tm GH = s.tm GH) (k := μ z0) ⟨z0, hp, rfl, hs, hg⟩ fun k s ⟨x0, hx, hk, hs, hg⟩ => WJ.to hs hg ((h x0 hx).mono fun e s' h => by
    cases e <;> simp only [thenA] at h ⊢ <;> try exact h
    obtain ⟨_, y0, ⟨h1, h2⟩, h3, h4⟩ := h
    exact ⟨μ y0, by rw [<- hk]; exact h2, y0, h1, rfl, h3, h4⟩)
theorem WJ.mid2 {α0 α1 : Type} (S : α0 -> α1 -> St) (p : α0 -> α1 -> Prop) (h' : ∀ (x0 : α0) (x1 : α1), p x0 x1 -> WJ C P T c' (S x0 x1) Q) (h : WJ C P T c st (thenA (fun s => ∃ (_ : Unit) (x0 : α0) (x1 : α1), p x0 x1 /\ s.to (S x0 x1) /\ (S x0 x1).tm GH = s.tm GH) Q)) : WJ C P T (.seq c c') st Q :=
  WJ.seq _ h fun _ ⟨_, x0, x1, hx, hs, hg⟩ => WJ.to hs hg (h' x0 x1 hx)
theorem WJ.loop2 {α0 α1 : Type} (S : α0 -> α1 -> St) (p : α0 -> α1 -> Prop) (μ : α0 -> α1 -> Nat) (z0 : α0) (z1 : α1) (hs : st.to (S z0 z1)) (hg : (S z0 z1).tm GH = st.tm GH) (hp : p z0 z1)
    (h : ∀ (x0 : α0) (x1 : α1), p x0 x1 -> WJ C P T c (S x0 x1) (thenA (fun s => ∃ (_ : Unit) (y0 : α0) (y1 : α1), (p y0 y1 /\ μ y0 y1 < μ x0 x1) /\ s.to (S y0 y1) /\ (S y0 y1).tm GH = s.tm GH) Q)) : WJ C P T (.loop c) st Q :=
  WJ.loop (fun k s => ∃ (x0 : α0) (x1 : α1), p x0 x1 /\ μ x0 x1 = k /\ s.to (S x0 x1) /\ (S x0 x1).tm GH = s.tm GH) (k := μ z0 z1) ⟨z0, z1, hp, rfl, hs, hg⟩ fun k s ⟨x0, x1, hx, hk, hs, hg⟩ => WJ.to hs hg ((h x0 x1 hx).mono fun e s' h => by
    cases e <;> simp only [thenA] at h ⊢ <;> try exact h
    obtain ⟨_, y0, y1, ⟨h1, h2⟩, h3, h4⟩ := h
    exact ⟨μ y0 y1, by rw [<- hk]; exact h2, y0, y1, h1, rfl, h3, h4⟩)
theorem WJ.mid3 {α0 α1 α2 : Type} (S : α0 -> α1 -> α2 -> St) (p : α0 -> α1 -> α2 -> Prop) (h' : ∀ (x0 : α0) (x1 : α1) (x2 : α2), p x0 x1 x2 -> WJ C P T c' (S x0 x1 x2) Q) (h : WJ C P T c st (thenA (fun s => ∃ (_ : Unit) (x0 : α0) (x1 : α1) (x2 : α2), p x0 x1 x2 /\ s.to (S x0 x1 x2) /\ (S x0 x1 x2).tm GH = s.tm GH) Q)) : WJ C P T (.seq c c') st Q :=
  WJ.seq _ h fun _ ⟨_, x0, x1, x2, hx, hs, hg⟩ => WJ.to hs hg (h' x0 x1 x2 hx)
theorem WJ.loop3 {α0 α1 α2 : Type} (S : α0 -> α1 -> α2 -> St) (p : α0 -> α1 -> α2 -> Prop) (μ : α0 -> α1 -> α2 -> Nat) (z0 : α0) (z1 : α1) (z2 : α2) (hs : st.to (S z0 z1 z2)) (hg : (S z0 z1 z2).tm GH = st.tm GH) (hp : p z0 z1 z2)
    (h : ∀ (x0 : α0) (x1 : α1) (x2 : α2), p x0 x1 x2 -> WJ C P T c (S x0 x1 x2) (thenA (fun s => ∃ (_ : Unit) (y0 : α0) (y1 : α1) (y2 : α2), (p y0 y1 y2 /\ μ y0 y1 y2 < μ x0 x1 x2) /\ s.to (S y0 y1 y2) /\ (S y0 y1 y2).tm GH = s.tm GH) Q)) : WJ C P T (.loop c) st Q :=
  WJ.loop (fun k s => ∃ (x0 : α0) (x1 : α1) (x2 : α2), p x0 x1 x2 /\ μ x0 x1 x2 = k /\ s.to (S x0 x1 x2) /\ (S x0 x1 x2).tm GH = s.tm GH) (k := μ z0 z1 z2) ⟨z0, z1, z2, hp, rfl, hs, hg⟩ fun k s ⟨x0, x1, x2, hx, hk, hs, hg⟩ => WJ.to hs hg ((h x0 x1 x2 hx).mono fun e s' h => by
    cases e <;> simp only [thenA] at h ⊢ <;> try exact h
    obtain ⟨_, y0, y1, y2, ⟨h1, h2⟩, h3, h4⟩ := h
    exact ⟨μ y0 y1 y2, by rw [<- hk]; exact h2, y0, y1, y2, h1, rfl, h3, h4⟩)
theorem WJ.mid4 {α0 α1 α2 α3 : Type} (S : α0 -> α1 -> α2 -> α3 -> St) (p : α0 -> α1 -> α2 -> α3 -> Prop) (h' : ∀ (x0 : α0) (x1 : α1) (x2 : α2) (x3 : α3), p x0 x1 x2 x3 -> WJ C P T c' (S x0 x1 x2 x3) Q) (h : WJ C P T c st (thenA (fun s => ∃ (_ : Unit) (x0 : α0) (x1 : α1) (x2 : α2) (x3 : α3), p x0 x1 x2 x3 /\ s.to (S x0 x1 x2 x3) /\ (S x0 x1 x2 x3).tm GH = s.tm GH) Q)) : WJ C P T (.seq c c') st Q :=
  WJ.seq _ h fun _ ⟨_, x0, x1, x2, x3, hx, hs, hg⟩ => WJ.to hs hg (h' x0 x1 x2 x3 hx)
theorem WJ.loop4 {α0 α1 α2 α3 : Type} (S : α0 -> α1 -> α2 -> α3 -> St) (p : α0 -> α1 -> α2 -> α3 -> Prop) (μ : α0 -> α1 -> α2 -> α3 -> Nat) (z0 : α0) (z1 : α1) (z2 : α2) (z3 : α3) (hs : st.to (S z0 z1 z2 z3)) (hg : (S z0 z1 z2 z3).tm GH = st.tm GH) (hp : p z0 z1 z2 z3)
    (h : ∀ (x0 : α0) (x1 : α1) (x2 : α2) (x3 : α3), p x0 x1 x2 x3 -> WJ C P T c (S x0 x1 x2 x3) (thenA (fun s => ∃ (_ : Unit) (y0 : α0) (y1 : α1) (y2 : α2) (y3 : α3), (p y0 y1 y2 y3 /\ μ y0 y1 y2 y3 < μ x0 x1 x2 x3) /\ s.to (S y0 y1 y2 y3) /\ (S y0 y1 y2 y3).tm GH = s.tm GH) Q)) : WJ C P T (.loop c) st Q :=
  WJ.loop (fun k s => ∃ (x0 : α0) (x1 : α1) (x2 : α2) (x3 : α3), p x0 x1 x2 x3 /\ μ x0 x1 x2 x3 = k /\ s.to (S x0 x1 x2 x3) /\ (S x0 x1 x2 x3).tm GH = s.tm GH) (k := μ z0 z1 z2 z3) ⟨z0, z1, z2, z3, hp, rfl, hs, hg⟩ fun k s ⟨x0, x1, x2, x3, hx, hk, hs, hg⟩ => WJ.to hs hg ((h x0 x1 x2 x3 hx).mono fun e s' h => by
    cases e <;> simp only [thenA] at h ⊢ <;> try exact h
    obtain ⟨_, y0, y1, y2, y3, ⟨h1, h2⟩, h3, h4⟩ := h
    exact ⟨μ y0 y1 y2 y3, by rw [<- hk]; exact h2, y0, y1, y2, y3, h1, rfl, h3, h4⟩)
theorem WJ.rYn {id : Nat} {ol : List Oper} (y : Nat) {j d : Nat} {f x : Operand} {tys : Array TypeId} {ty : TypeId} {pos : String} {af : Array Edge} {gd : Option (Nat × Bool)}
    (hl : ol[y]? = some ⟨some d, .call ⟨.value f, #[x], tys⟩, ty, pos, af, gd⟩) (h1 : seqL P T ol [] 0 (ol.take y) st fun s1 => YSt C P T ol (ol.drop (y + 1)) j d f x gd (st.tm GH) s1 fun s2 => WJ C P T c s2 Q) : WJ C P T (.seq (.region id ol.toArray false) c) st Q :=
  WJ.rY (ol.take y) (ol.drop (y + 1)) (by
    obtain ⟨h, e⟩ := List.getElem?_eq_some_iff.1 hl
    rw [<- e, List.getElem_cons_drop, List.take_append_drop]) h1
end
end Go.Lat
namespace Go.Lat
open Go.RowKit

mutual
inductive PT where
  | leaf (P : List Nat)
  | node (P : List Nat) (B : PB)
inductive PB where
  | nil
  | cons (a : Nat) (t : PT) (r : PB)
end
section
variable (P : Program) (T : TT) (ops : Array Oper) (K : St -> Prop)
mutual
def PT.run : PT -> St -> Prop
  | .leaf L, st => seqI P T ops L st K
  | .node L B, st => seqI P T ops L st fun s => PB.run B s
def PB.run : PB -> St -> Prop
  | .nil, _ => True
  | .cons a t r, s => (stepI P T ops a s fun s' => PT.run t s') /\ PB.run r s
end
end
def PB.has : PB -> Nat -> Bool
  | .nil, _ => false
  | .cons a _ r, k => Nat.beq a k || PB.has r k
def PB.some : PB -> Bool
  | .nil => false
  | .cons .. => true
section
variable (ops : Array Oper) (A : List (List Nat))
def segOk (CP dn L : List Nat) : Bool :=
  decide L.Nodup && L.all (fun k => decide (k < ops.size) && !dn.contains k) && pairB ops A L && CP.all (fun c => L.all (relB ops A c)) && L.all fun q => (dirs ops q).all fun p => (dn ++ L).contains p
mutual
def chkT (CP dn : List Nat) : PT -> Bool
  | .leaf L => segOk ops A CP dn L && (List.range ops.size).all fun k => (dn ++ L).contains k
  | .node L B => segOk ops A CP dn L && PB.some B && ((List.range ops.size).all fun k => (dn ++ L).contains k || PB.has B k || (dirs ops k).any fun p => !(dn ++ L).contains p) && chkB (CP ++ L) (dn ++ L) B
def chkB (CP dn : List Nat) : PB -> Bool
  | .nil => true
  | .cons a t r => decide (a < ops.size) && !dn.contains a && CP.all (fun c => relB ops A c a) && (dirs ops a).all (fun p => dn.contains p) && chkT CP (dn ++ [a]) t && chkB CP dn r
end
end
def chkP (ops : Array Oper) (t : PT) : Bool :=
  chkA ops (ancs ops) && (List.range ops.size).all (fun i => (dirs ops i).all fun p => decide (p < ops.size) && p != i) && chkT ops (ancs ops) [] [] t

section
variable {P : Program} {T : TT} {ops : Array Oper} {K : St -> Prop} {A : List (List Nat)}
theorem stepI_mono {K K' : St -> Prop} {i : Nat} {st : St} (h : stepI P T ops i st K) (hk : ∀ s, K s -> K' s) : stepI P T ops i st K' := by
  unfold stepI at h ⊢
  split at h
  . exact hk _ h
  . exact stepG_mono' h hk
theorem seqI_mono {K K' : St -> Prop} (hk : ∀ s, K s -> K' s) : ∀ (l : List Nat) (st : St), seqI P T ops l st K -> seqI P T ops l st K'
  | [], _, h => hk _ h
  | _ :: l, _, h => stepI_mono h fun s hs => seqI_mono hk l s hs
theorem seqI_app {K : St -> Prop} : ∀ (a b : List Nat) (st : St), seqI P T ops (a ++ b) st K = seqI P T ops a st fun s => seqI P T ops b s K
  | [], _, _ => rfl
  | i :: a, b, st => by
    show stepI P T ops i st (fun s => seqI P T ops (a ++ b) s K) = stepI P T ops i st fun s => seqI P T ops a s fun s => seqI P T ops b s K
    congr 1
    funext s
    exact seqI_app a b s
theorem chkB_has {CP dn : List Nat} : ∀ {B : PB}, chkB ops A CP dn B = true -> ∀ {i}, PB.has B i = true -> ∃ t, chkT ops A CP (dn ++ [i]) t = true /\ i < ops.size /\ i ∉ dn /\ (∀ c ∈ CP, relB ops A c i = true) /\ (∀ s, PB.run P T ops K B s -> stepI P T ops i s fun s' => PT.run P T ops K t s')
  | .nil, _, i, h => by cases h
  | .cons a t r, hc, i, h => by
    simp only [chkB, Bool.and_eq_true, decide_eq_true_eq, Bool.not_eq_true', List.all_eq_true] at hc
    obtain ⟨⟨⟨⟨⟨h1, h2⟩, h3⟩, h4⟩, h5⟩, h6⟩ := hc
    simp only [PB.has, Bool.or_eq_true] at h
    rcases h with h | h
    . obtain rfl := Nat.eq_of_beq_eq_true h
      refine ⟨t, h5, h1, fun hin => ?_, h3, fun s hs => ?_⟩
      . rw [List.contains_iff_mem.mpr hin] at h2; cases h2
      . simp only [PB.run] at hs; exact hs.1
    . obtain ⟨t', k1, k2, k3, k4, k5⟩ := chkB_has h6 h
      exact ⟨t', k1, k2, k3, k4, fun s hs => by simp only [PB.run] at hs; exact k5 s hs.2⟩
theorem chkB_first {CP dn : List Nat} {B : PB} (hc : chkB ops A CP dn B = true) (hs : PB.some B = true) : ∃ a, a < ops.size /\ a ∉ dn /\ ∀ p ∈ dirs ops a, p ∈ dn := by
  cases B with
  | nil => cases hs
  | cons a t r =>
    simp only [chkB, Bool.and_eq_true, decide_eq_true_eq, Bool.not_eq_true', List.all_eq_true, List.contains_iff_mem] at hc
    obtain ⟨⟨⟨⟨⟨h1, h2⟩, h3⟩, h4⟩, h5⟩, h6⟩ := hc
    refine ⟨a, h1, fun hin => ?_, h4⟩
    rw [List.contains_iff_mem.mpr hin] at h2; cases h2

inductive PE where
  | fin
  | br (B : PB)
def PE.run (P : Program) (T : TT) (ops : Array Oper) (K : St -> Prop) : PE -> St -> Prop
  | .fin, s => K s
  | .br B, s => PB.run P T ops K B s
def PE.ok (ops : Array Oper) (A : List (List Nat)) (CP dn : List Nat) : PE -> Prop
  | .fin => ∀ k, k < ops.size -> k ∈ dn
  | .br B => PB.some B = true /\ (∀ k, k < ops.size -> k ∈ dn \/ PB.has B k = true \/ ∃ p ∈ dirs ops k, p ∉ dn) /\ chkB ops A CP dn B = true

structure Res (ops : Array Oper) (A : List (List Nat)) (listed : Array Bool) (L CP dn : List Nat) (E : PE) : Prop where
  size : listed.size = ops.size
  done : ∀ k, k < ops.size -> (k ∈ dn ↔ listed.getD k false = true \/ k ∈ L)
  lt : ∀ k ∈ L, k < ops.size
  open' : ∀ k ∈ L, listed.getD k true = false
  nodup : L.Nodup
  pair : L.Pairwise (fun a b => relB ops A a b = true)
  sub : ∀ k ∈ L, k ∈ CP
  closed : ∀ k, listed.getD k false = true -> ∀ p ∈ dirs ops k, listed.getD p false = true
  seg : ∀ q ∈ L, ∀ p ∈ dirs ops q, p ∈ dn
  self : ∀ k, k < ops.size -> ∀ p ∈ dirs ops k, p < ops.size /\ p ≠ k
  e : PE.ok ops A CP dn E

theorem Res.anc {listed : Array Bool} {L CP dn : List Nat} {E : PE} (h : Res ops A listed L CP dn E) (hA : chkA ops A = true) :
    ∀ (i : Nat), (∀ p ∈ dirs ops i, listed.getD p false = true) -> ∀ j ∈ A.getD i [], i < ops.size -> listed.getD j false = true := by
  intro i
  induction i using Nat.strongRecOn with
  | _ i ih =>
    intro hi j hj hlt
    simp only [chkA, List.all_eq_true, List.mem_range, Bool.or_eq_true, List.contains_iff_mem, List.any_eq_true, Bool.and_eq_true, decide_eq_true_eq] at hA
    rcases hA i hlt j hj with h1 | ⟨p, hp, hpi, hjp⟩
    . exact hi j h1
    . exact ih p hpi (h.closed p (hi p hp)) j hjp (by omega)

theorem ready_of {listed : Array Bool} {i : Nat} (hlt : i < ops.size) (h1 : listed.getD i true = false) (h2 : ∀ p ∈ dirs ops i, listed.getD p false = true) : i ∈ Region.ready .any ops listed := by
  refine mem_ready.2 ⟨h1, ops[i], by simp [hlt], fun e he hb => ?_⟩
  refine h2 e.on ?_
  simp only [dirs, Array.getElem?_eq_getElem hlt, List.mem_map, List.mem_filter]
  exact ⟨e, ⟨by simpa using he, hb⟩, rfl⟩
theorem getD_ft {listed : Array Bool} {k : Nat} (hk : k < listed.size) (h : ¬ listed.getD k false = true) : listed.getD k true = false := by
  rw [Array.getD_eq_getD_getElem?] at h ⊢
  simp [hk] at h ⊢
  exact h

theorem any_of_tree (hA : chkA ops A = true) : ∀ (fuel : Nat) (listed : Array Bool) (L CP dn : List Nat) (E : PE) (st : St), Res ops A listed L CP dn E →
    (∃ U : List Nat, U.length <= fuel /\ ∀ k, k < ops.size -> ¬ listed.getD k false = true -> k ∈ U) -> (seqI P T ops L st fun s => PE.run P T ops K E s) -> anyS P T ops K fuel listed st := by
  intro fuel
  -- if nothing is ready, all is done
  have stop : ∀ (listed : Array Bool) (L CP dn : List Nat) (E : PE) (st : St), Res ops A listed L CP dn E -> Region.ready .any ops listed = [] -> (seqI P T ops L st fun s => PE.run P T ops K E s) -> K st := by
    intro listed L CP dn E st hr hnil h
    have no : ∀ i, i < ops.size -> ¬ listed.getD i false = true -> (∀ p ∈ dirs ops i, listed.getD p false = true) -> False := fun i h1 h2 h3 => by
      have := ready_of h1 (getD_ft (by rw [hr.size]; exact h1) h2) h3
      rw [hnil] at this; cases this
    cases L with
    | cons i L =>
      exfalso
      have h1 := hr.open' i (by simp)
      have hlt := hr.lt i (by simp)
      refine no i hlt (by rw [getD_tf h1]; exact Bool.false_ne_true) fun p hp => ?_
      obtain ⟨s1, s2⟩ := hr.self i hlt p hp
      rcases (hr.done p s1).1 (hr.seg i (by simp) p hp) with h3 | h3
      . exact h3
      . exfalso
        rcases List.mem_cons.1 h3 with h3 | h3
        . exact s2 h3
        . have h4 := (List.pairwise_cons.1 hr.pair).1 _ h3
          simp only [relB, Bool.and_eq_true, Bool.not_eq_true'] at h4
          have h5 := h4.1
          rw [List.contains_iff_mem.mpr hp] at h5; cases h5
    | nil =>
      cases E with
      | fin => exact h
      | br B =>
        exfalso
        obtain ⟨e1, e2, e3⟩ := hr.e
        obtain ⟨a, a1, a2, a3⟩ := chkB_first e3 e1
        refine no a a1 (fun hl => a2 ((hr.done a a1).2 (.inl hl))) fun p hp => ?_
        rcases (hr.done p (hr.self a a1 p hp).1).1 (a3 p hp) with h3 | h3
        . exact h3
        . cases h3
  induction fuel with
  | zero =>
    intro listed L CP dn E st hr ⟨U, hU, hun⟩ h
    have hU0 : U = [] := List.eq_nil_of_length_eq_zero (by omega)
    subst hU0
    have hnil : Region.ready .any ops listed = [] := by
      rcases hrd : Region.ready .any ops listed with _ | ⟨i, l'⟩
      . rfl
      . exfalso
        have hm : i ∈ Region.ready .any ops listed := by rw [hrd]; simp
        obtain ⟨h0, o, ho, _⟩ := mem_ready.1 hm
        have hlt : i < ops.size := by
          rcases Nat.lt_or_ge i ops.size with h' | h'
          . exact h'
          . rw [Array.getElem?_eq_none h'] at ho; cases ho
        have := hun i hlt (by rw [getD_tf h0]; exact Bool.false_ne_true)
        cases this
    exact ⟨hnil, stop listed L CP dn E st hr hnil h⟩
  | succ fuel ih =>
    intro listed L CP dn E st hr ⟨U, hU, hun⟩ h hw
    refine ⟨fun hnil => stop listed L CP dn E st hr hnil h, fun i hi => ?_⟩
    obtain ⟨h0, oi, ho, _⟩ := mem_ready.1 hi
    have hlt : i < ops.size := by
      rcases Nat.lt_or_ge i ops.size with h' | h'
      . exact h'
      . rw [Array.getElem?_eq_none h'] at ho; cases ho
    have hno : ¬ listed.getD i false = true := by rw [getD_tf h0]; exact Bool.false_ne_true
    have hdirs := dirs_ready hi
    have hU' : ∃ U' : List Nat, U'.length <= fuel /\ ∀ k, k < ops.size -> ¬ (listed.setIfInBounds i true).getD k false = true -> k ∈ U' := by
      refine ⟨U.erase i, ?_, fun k hk hnk => ?_⟩
      . have := List.length_erase_of_mem (hun i hlt hno); omega
      . have hki : k ≠ i := fun e => hnk (by subst e; have := hr.size; simp [this, hlt])
        rw [List.mem_erase_of_ne hki]
        refine hun k hk fun h' => hnk ?_
        rw [getD_set_ne false (Ne.symm hki)]; exact h'
    have hsz : (listed.setIfInBounds i true).size = ops.size := by simpa using hr.size
    have hset : ∀ k, k < ops.size -> ((listed.setIfInBounds i true).getD k false = true ↔ listed.getD k false = true \/ k = i) := fun k hk => by
      by_cases hki : k = i
      . subst hki; have := hr.size; simp [this, hk]
      . rw [getD_set_ne false (Ne.symm hki)]; simp [hki]
    have hclosed : ∀ k, (listed.setIfInBounds i true).getD k false = true -> ∀ p ∈ dirs ops k, (listed.setIfInBounds i true).getD p false = true := fun k hk p hp => by
      by_cases hki : k = i
      . subst hki; exact getD_set_true (hdirs p hp)
      . rw [getD_set_ne false (Ne.symm hki)] at hk
        exact getD_set_true (hr.closed k hk p hp)
    have hokP : ∀ j, j ∈ L -> relB ops A j i = true -> okP ops j i = true := fun j hj h4 => by
      simp only [relB, Bool.and_eq_true, Bool.or_eq_true, List.contains_iff_mem] at h4
      rcases h4.2 with h5 | h5
      . have := hr.anc hA i hdirs j h5 hlt
        rw [getD_tf (hr.open' j hj)] at this
        cases this
      . exact h5
    by_cases hdn : i ∈ dn
    . have hL : i ∈ L := ((hr.done i hlt).1 hdn).resolve_left hno
      obtain ⟨pre, rest, rfl⟩ := List.append_of_mem hL
      have hp := hr.pair
      rw [List.pairwise_append] at hp
      have hok : ∀ j ∈ pre, okP ops j i = true := fun j hj => hokP j (by simp [hj]) (hp.2.2 j hj i (by simp))
      have hb := bubble (K := fun s => PE.run P T ops K E s) ho hw pre st ⟨⟨rfl, fun _ _ => rfl⟩, Nat.le_refl _, fun _ => ⟨[], by simp⟩⟩ hok h
      simp only [stepI, ho]
      have hsub : (pre ++ rest).Sublist (pre ++ i :: rest) := List.Sublist.append_left (List.sublist_cons_self i rest) pre
      have hne : ∀ k ∈ pre ++ rest, k ≠ i := by
        intro k hk hki
        subst hki
        have := hr.nodup
        rw [List.nodup_append] at this
        obtain ⟨_, h2, h3⟩ := this
        rcases List.mem_append.1 hk with h4 | h4
        . exact h3 k h4 k (by simp) rfl
        . exact (List.nodup_cons.1 h2).1 h4
      refine stepG_mono' hb fun s hs => ih _ (pre ++ rest) CP dn E s ⟨hsz, fun k hk => ?_, fun k hk => hr.lt k (hsub.subset hk), fun k hk => ?_, hr.nodup.sublist hsub, hr.pair.sublist hsub, fun k hk => hr.sub k (hsub.subset hk), hclosed, fun q hq => hr.seg q (hsub.subset hq), hr.self, hr.e⟩ hU' hs
      . rw [hr.done k hk, hset k hk]
        simp only [List.mem_append, List.mem_cons]
        constructor
        . rintro (h1 | h1 | h1 | h1)
          . exact .inl (.inl h1)
          . exact .inr (.inl h1)
          . exact .inl (.inr h1)
          . exact .inr (.inr h1)
        . rintro ((h1 | h1) | h1 | h1)
          . exact .inl h1
          . exact .inr (.inr (.inl h1))
          . exact .inr (.inl h1)
          . exact .inr (.inr (.inr h1))
      . rw [getD_set_ne true (Ne.symm (hne k hk))]
        exact hr.open' k (hsub.subset hk)
    . cases E with
      | fin => exact (hdn (hr.e i hlt)).elim
      | br B =>
        obtain ⟨e1, e2, e3⟩ := hr.e
        have hhas : PB.has B i = true := by
          rcases e2 i hlt with h1 | h1 | ⟨p, hp, hpn⟩
          . exact (hdn h1).elim
          . exact h1
          . exact (hpn ((hr.done p (hr.self i hlt p hp).1).2 (.inl (hdirs p hp)))).elim
        obtain ⟨t, k1, k2, k3, k4, k5⟩ := chkB_has (P := P) (T := T) (K := K) e3 hhas
        have hok : ∀ j ∈ L, okP ops j i = true := fun j hj => hokP j hj (k4 j (hr.sub j hj))
        -- the segment of the subtree, and what is behind it
        have key : ∃ (L' : List Nat) (E' : PE), segOk ops A CP (dn ++ [i]) L' = true /\ PE.ok ops A (CP ++ L') ((dn ++ [i]) ++ L') E' /\ ∀ s, PT.run P T ops K t s -> seqI P T ops L' s fun s => PE.run P T ops K E' s := by
          cases t with
          | leaf L' =>
            simp only [chkT, Bool.and_eq_true, List.all_eq_true, List.mem_range, List.contains_iff_mem] at k1
            exact ⟨L', .fin, k1.1, fun k hk => k1.2 k hk, fun s hs => by simp only [PT.run] at hs; exact hs⟩
          | node L' B' =>
            simp only [chkT, Bool.and_eq_true, List.all_eq_true, List.mem_range, Bool.or_eq_true, List.any_eq_true, Bool.not_eq_true', List.contains_iff_mem] at k1
            obtain ⟨⟨⟨c1, c2⟩, c3⟩, c4⟩ := k1
            refine ⟨L', .br B', c1, ⟨c2, fun k hk => ?_, c4⟩, fun s hs => by simp only [PT.run] at hs; exact hs⟩
            rcases c3 k hk with (h1 | h1) | ⟨p, hp, hpn⟩
            . exact .inl h1
            . exact .inr (.inl h1)
            . refine .inr (.inr ⟨p, hp, fun hin => ?_⟩)
              rw [List.contains_iff_mem.mpr hin] at hpn; cases hpn
        obtain ⟨L', E', c1, c2, c3⟩ := key
        simp only [segOk, Bool.and_eq_true, decide_eq_true_eq, List.all_eq_true, Bool.not_eq_true', List.contains_iff_mem] at c1
        obtain ⟨⟨⟨⟨d1, d2⟩, d3⟩, d4⟩, d5⟩ := c1
        have d2' : ∀ k ∈ L', k < ops.size /\ k ∉ dn ++ [i] := fun k hk => ⟨(d2 k hk).1, fun hin => by have := (d2 k hk).2; rw [List.contains_iff_mem.mpr hin] at this; cases this⟩
        have hplan : seqI P T ops (L ++ i :: L') st fun s => PE.run P T ops K E' s := by
          rw [seqI_app]
          refine seqI_mono (fun s hs => ?_) L st h
          exact stepI_mono (k5 s hs) c3
        have hb := bubble (K := fun s => PE.run P T ops K E' s) ho hw L st ⟨⟨rfl, fun _ _ => rfl⟩, Nat.le_refl _, fun _ => ⟨[], by simp⟩⟩ hok hplan
        simp only [stepI, ho]
        have hLdn : ∀ k ∈ L, k ∈ dn := fun k hk => (hr.done k (hr.lt k hk)).2 (.inr hk)
        refine stepG_mono' hb fun s hs => ih _ (L ++ L') (CP ++ L') ((dn ++ [i]) ++ L') E' s ⟨hsz, fun k hk => ?_, fun k hk => ?_, fun k hk => ?_, ?_, ?_, fun k hk => ?_, hclosed, fun q hq p hp => ?_, hr.self, c2⟩ hU' hs
        . rw [List.mem_append, List.mem_append, hr.done k hk, hset k hk, List.mem_singleton, List.mem_append]
          constructor
          . rintro (((h1 | h1) | h1) | h1)
            . exact .inl (.inl h1)
            . exact .inr (.inl h1)
            . exact .inl (.inr h1)
            . exact .inr (.inr h1)
          . rintro ((h1 | h1) | h1 | h1)
            . exact .inl (.inl (.inl h1))
            . exact .inl (.inr h1)
            . exact .inl (.inl (.inr h1))
            . exact .inr h1
        . rcases List.mem_append.1 hk with h1 | h1
          . exact hr.lt k h1
          . exact (d2' k h1).1
        . have hki : k ≠ i := by
            rintro rfl
            rcases List.mem_append.1 hk with h1 | h1
            . exact hdn (hLdn _ h1)
            . exact (d2' _ h1).2 (by simp)
          rw [getD_set_ne true (Ne.symm hki)]
          rcases List.mem_append.1 hk with h1 | h1
          . exact hr.open' k h1
          . refine getD_ft (by rw [hr.size]; exact (d2' k h1).1) fun hl => (d2' k h1).2 ?_
            rw [List.mem_append]
            exact .inl ((hr.done k (d2' k h1).1).2 (.inl hl))
        . rw [List.nodup_append]
          refine ⟨hr.nodup, d1, fun a ha b hb' e => ?_⟩
          subst e
          exact (d2' a hb').2 (List.mem_append_left _ (hLdn a ha))
        . rw [List.pairwise_append]
          exact ⟨hr.pair, pairB_spec d3, fun a ha b hb' => d4 a (hr.sub a ha) b hb'⟩
        . rcases List.mem_append.1 hk with h1 | h1
          . exact List.mem_append_left _ (hr.sub k h1)
          . exact List.mem_append_right _ h1
        . rcases List.mem_append.1 hq with h1 | h1
          . exact List.mem_append_left _ (List.mem_append_left _ (hr.seg q h1 p hp))
          . exact d5 q h1 p hp
end
theorem W.tree {P : Program} {T : TT} {st : St} {Q : Ex -> St -> Prop} {id : Nat} {ops : Array Oper} (t : PT) (hc : chkP ops t = true) (h : PT.run P T ops (Q .nrm) t st) : W P T (.region id ops true) st Q := fun hT hf ro hro n X D w0 mA r m a w hR => by
  simp only [chkP, Bool.and_eq_true, List.all_eq_true, List.mem_range, decide_eq_true_eq, bne_iff_ne, ne_eq] at hc
  obtain ⟨⟨h1, h2⟩, h3⟩ := hc
  refine wpIn_region_any hf ?_
  have hR' : R X D w0 mA r m st a { w with drawn := w.drawn + 1 } := { hR with }
  have hno : ∀ k, (Array.replicate ops.size false).getD k false = false := fun k => by
    rw [Array.getD_eq_getD_getElem?]
    by_cases hk : k < ops.size <;> simp [hk]
  have hU : ∃ U : List Nat, U.length <= ops.size /\ ∀ k, k < ops.size -> ¬ (Array.replicate ops.size false).getD k false = true -> k ∈ U := ⟨List.range ops.size, by simp, fun k hk _ => List.mem_range.mpr hk⟩
  have base : ∀ (L : List Nat) (E : PE), segOk ops (ancs ops) [] [] L = true -> PE.ok ops (ancs ops) L L E -> Res ops (ancs ops) (Array.replicate ops.size false) L L L E := fun L E c1 c2 => by
    simp only [segOk, Bool.and_eq_true, decide_eq_true_eq, List.all_eq_true, Bool.not_eq_true', List.contains_iff_mem, List.nil_append] at c1
    obtain ⟨⟨⟨⟨d1, d2⟩, d3⟩, d4⟩, d5⟩ := c1
    exact ⟨by simp, fun k hk => by (rw [hno k]; simp), fun k hk => (d2 k hk).1, fun k hk => getD_ft (by simpa using (d2 k hk).1) (by (rw [hno k]; exact Bool.false_ne_true)), d1, pairB_spec d3, fun k hk => hk, fun k hk => absurd hk (by (rw [hno k]; exact Bool.false_ne_true)), d5, fun k hk p hp => h2 k hk p hp, c2⟩
  refine anyS_sound hT (fun s r' m' a' w' hs hR' => ⟨[], r', m', s, fun _ => rfl, hs, hR'⟩) ops.size _ hR' ?_
  cases t with
  | leaf L =>
    simp only [chkT, Bool.and_eq_true, List.all_eq_true, List.mem_range, List.contains_iff_mem, List.nil_append] at h3
    simp only [PT.run] at h
    exact any_of_tree h1 ops.size _ L L L .fin st (base L .fin h3.1 h3.2) hU h
  | node L B =>
    simp only [chkT, Bool.and_eq_true, List.all_eq_true, List.mem_range, Bool.or_eq_true, List.any_eq_true, Bool.not_eq_true', List.contains_iff_mem, List.nil_append] at h3
    obtain ⟨⟨⟨c1, c2⟩, c3⟩, c4⟩ := h3
    simp only [PT.run] at h
    refine any_of_tree h1 ops.size _ L L L (.br B) st (base L (.br B) c1 ⟨c2, fun k hk => ?_, c4⟩) hU h
    rcases c3 k hk with (h1 | h1) | ⟨p, hp, hpn⟩
    . exact .inl h1
    . exact .inr (.inl h1)
    . refine .inr (.inr ⟨p, hp, fun hin => ?_⟩)
      rw [List.contains_iff_mem.mpr hin] at hpn; cases hpn

section
variable {P : Program} {T : TT} {ol : List Oper} {n : Nat} {l : List (Nat × AV)} {h : List AObj} {b : Nat} {o : Op} {ty : TypeId} {pos : String} {af : Array Edge} {KS : St -> Prop} {rest : List Nat} {i : Nat}
theorem cI {d : Nat} (hi : ol[i]? = some ⟨some d, o, ty, pos, af, none⟩) (hd : Nat.ble (d + 1) n = true)
    (h1 : opC P T ⟨some d, o, ty, pos, af, none⟩ ⟨n, look l, h, b⟩ fun v h' => KS ⟨n, look ((d, v) :: l), h', b⟩) : stepI P T ol.toArray i ⟨n, look l, h, b⟩ KS := by
  have hd' : d < n := Nat.le_of_ble_eq_true hd
  have hi' : ol.toArray[i]? = some ⟨some d, o, ty, pos, af, none⟩ := by simpa using hi
  unfold stepI
  rw [hi']
  show opC P T ⟨some d, o, ty, pos, af, none⟩ ⟨n, look l, h, b⟩ fun v h' => KS (St.put ⟨n, look l, h', b⟩ (some d) v)
  have e : (fun v h' => KS (St.put ⟨n, look l, h', b⟩ (some d) v)) = fun v h' => KS ⟨n, look ((d, v) :: l), h', b⟩ := by
    funext v h'
    rw [St.put_look d v hd']
  rw [e]
  exact h1
theorem cIn (hi : ol[i]? = some ⟨none, o, ty, pos, af, none⟩)
    (h1 : opC P T ⟨none, o, ty, pos, af, none⟩ ⟨n, look l, h, b⟩ fun _ h' => KS ⟨n, look l, h', b⟩) : stepI P T ol.toArray i ⟨n, look l, h, b⟩ KS := by
  have hi' : ol.toArray[i]? = some ⟨none, o, ty, pos, af, none⟩ := by simpa using hi
  unfold stepI
  rw [hi']
  exact h1
theorem cS {d : Nat} (hi : ol[i]? = some ⟨some d, o, ty, pos, af, none⟩) (hd : Nat.ble (d + 1) n = true)
    (h1 : opC P T ⟨some d, o, ty, pos, af, none⟩ ⟨n, look l, h, b⟩ fun v h' => seqI P T ol.toArray rest ⟨n, look ((d, v) :: l), h', b⟩ KS) : seqI P T ol.toArray (i :: rest) ⟨n, look l, h, b⟩ KS := cI hi hd h1
theorem cSn (hi : ol[i]? = some ⟨none, o, ty, pos, af, none⟩)
    (h1 : opC P T ⟨none, o, ty, pos, af, none⟩ ⟨n, look l, h, b⟩ fun _ h' => seqI P T ol.toArray rest ⟨n, look l, h', b⟩ KS) : seqI P T ol.toArray (i :: rest) ⟨n, look l, h, b⟩ KS := cIn hi h1
theorem eS {st : St} {ops : Array Oper} (h1 : KS st) : seqI P T ops [] st KS := h1
theorem tL {st : St} {ops : Array Oper} {L : List Nat} (h1 : seqI P T ops L st KS) : PT.run P T ops KS (.leaf L) st := by simp only [PT.run]; exact h1
theorem tN {st : St} {ops : Array Oper} {L : List Nat} {B : PB} (h1 : seqI P T ops L st fun s => PB.run P T ops KS B s) : PT.run P T ops KS (.node L B) st := by simp only [PT.run]; exact h1
theorem tC {st : St} {ops : Array Oper} {a : Nat} {t : PT} {r : PB} (h1 : stepI P T ops a st fun s => PT.run P T ops KS t s) (h2 : PB.run P T ops KS r st) : PB.run P T ops KS (.cons a t r) st := by simp only [PB.run]; exact ⟨h1, h2⟩
theorem tE {st : St} {ops : Array Oper} : PB.run P T ops KS .nil st := by simp only [PB.run]
theorem W.rT {Q : Ex -> St -> Prop} {c : Code} {id : Nat} {st : St} (st' : St) (t : PT) (hc : chkP ol.toArray t = true) (h1 : PT.run P T ol.toArray (fun s => s.to st') t st) (h2 : W P T c st' Q) : W P T (.seq (.region id ol.toArray true) c) st Q :=
  W.seq (fun s => s.to st') (W.tree t hc h1) fun _ h => W.to h h2
end
end Go.Lat
namespace Go.Lat
open Go.RowKit

section
variable {P : Program} {T : TT} {st : St}
theorem opC_mono {o : Oper} {A B : AV -> List AObj -> Prop} (hn : 0 < st.nt) (h : opC P T o st A) (hk : ∀ v h, A v h -> B v h) : opC P T o st B := by
  have e : ∀ (F : AV -> List AObj -> Prop), stepG P T (#[] : Array Oper).toList { o with dst := some 0, guard := none } st (fun s => F (s.tm 0) s.heap) = opC P T o st F := fun F => by
    show opC P T o st (fun v h => F ((({ st with heap := h } : St).put (some 0) v).tm 0) (({ st with heap := h } : St).put (some 0) v).heap) = opC P T o st F
    congr 1
    funext v h
    simp [St.put, hn, putT]
  rw [<- e] at h ⊢
  exact stepG_mono' h fun s hs => hk _ _ hs
def noCall (o : Op) : Bool := match o with
  | .call ⟨.value _, _, _⟩ => false
  | _ => true
theorem noCall_spec {o : Op} (h : noCall o = true) : ∀ f args tys, o ≠ .call ⟨.value f, args, tys⟩ := by
  rintro f args tys rfl
  cases h
def hasT (l : List (Nat × AV)) (t : Nat) : Bool := l.any fun x => Nat.beq x.1 t
theorem look_has {F : Nat -> AV -> Prop} : ∀ {l : List (Nat × AV)} {t : Nat}, hasT l t = true -> (∀ x ∈ l, F x.1 x.2) -> F t (look l t)
  | [], _, h, _ => by cases h
  | (k, v) :: l, t, h, hF => by
    rw [look_cons]
    split
    . rename_i e; subst e; exact hF (t, v) (by simp)
    . rename_i e
      refine look_has ?_ fun x hx => hF x (by simp [hx])
      simp only [hasT, List.any_cons, Bool.or_eq_true] at h ⊢
      rcases h with h | h
      . exact absurd (Nat.eq_of_beq_eq_true h).symm e
      . exact h
variable (ol : List Oper) (l0 : List (Nat × AV)) (val : List AV) (kn : List (List (Nat × Nat)))
def knw (k : Nat) : List (Nat × AV) := l0 ++ (kn.getD k []).map fun x => (x.1, val.getD x.2 .any)
def chkV (ks : List Nat) (a b n : Nat) : Bool :=
  decide (a < b) && decide (b < ol.length) && (List.range ol.length).all fun k => match ol[k]? with
    | some o => o.guard.isNone && noCall o.op && (dirs ol.toArray k).all (fun p => decide (p < k)) && (kn.getD k []).all (fun x => (dirs ol.toArray k).contains x.2 && ((ol[x.2]?).bind (·.dst) == some x.1)) &&
        (Op.operands o.op).toList.all (fun x => match x with | .tmp t => ks.contains t || (kn.getD k []).any (fun y => Nat.beq y.1 t) | _ => true) &&
        (match o.dst with | some d => decide (d < n) && !ks.contains d && (List.range ol.length).all (fun j => Nat.beq j k || !((ol[j]?).bind (·.dst) == some d)) | none => true) &&
        (Nat.beq k b || (dirs ol.toArray b).contains k)
    | none => true
variable (P T) (n q : Nat)
def obs (hp : List AObj) (nx : Nat -> List AObj) : List Nat -> Prop
  | [] => True
  | k :: ks => (match ol[k]? with
    | some o => opC P T o ⟨n, look (knw l0 val kn k), hp, q⟩ (fun v h => (o.dst.isSome = true -> v = val.getD k .any) /\ h = nx k)
    | none => True) /\ obs hp nx ks
def regsE (tm : Nat -> AV) : List (Nat × AV) -> Prop
  | [] => True
  | x :: l => tm x.1 = x.2 /\ regsE tm l
theorem regsE_mem {tm : Nat -> AV} : ∀ {l : List (Nat × AV)}, regsE tm l -> ∀ x ∈ l, tm x.1 = x.2
  | [], _, _, hx => by cases hx
  | y :: l, h, x, hx => by
    rcases List.mem_cons.1 hx with e | e
    . subst e; exact h.1
    . exact regsE_mem h.2 x e
variable {P T ol l0 val kn n q}
theorem vC {p : Prop} (h : p) : p := h
theorem vO {k : Nat} {ks : List Nat} {hp : List AObj} {nx : Nat -> List AObj} {o : Oper} {L : List (Nat × AV)} (ho : ol[k]? = some o) (hL : knw l0 val kn k = L)
    (h1 : opC P T o ⟨n, look L, hp, q⟩ (fun v h => (o.dst.isSome = true -> v = val.getD k .any) /\ h = nx k)) (h2 : obs P T ol l0 val kn n q hp nx ks) : obs P T ol l0 val kn n q hp nx (k :: ks) := by
  subst hL
  refine ⟨?_, h2⟩
  rw [ho]; exact h1
theorem obs_mem {hp : List AObj} {nx : Nat -> List AObj} : ∀ {ks : List Nat}, obs P T ol l0 val kn n q hp nx ks -> ∀ k ∈ ks, ∀ o, ol[k]? = some o -> opC P T o ⟨n, look (knw l0 val kn k), hp, q⟩ (fun v h => (o.dst.isSome = true -> v = val.getD k .any) /\ h = nx k)
  | [], _, _, hk, _, _ => by cases hk
  | j :: ks, h, k, hk, o, ho => by
    rcases List.mem_cons.1 hk with e | e
    . subst e
      have := h.1
      rw [ho] at this
      exact this
    . exact obs_mem h.2 k e o ho
def stg (a b : Nat) (H0 H1 H2 : List AObj) (listed : Array Bool) : List AObj := if listed.getD b false = true then H2 else if listed.getD a false = true then H1 else H0
structure InvV (ol : List Oper) (l0 : List (Nat × AV)) (val : List AV) (n q a b : Nat) (H0 H1 H2 : List AObj) (listed : Array Bool) (st : St) : Prop where
  nt : st.nt = n
  ho : st.ho = q
  heap : st.heap = stg a b H0 H1 H2 listed
  base : ∀ x ∈ l0, st.tm x.1 = x.2
  vals : ∀ k o d, listed.getD k false = true -> ol[k]? = some o -> o.dst = some d -> st.tm d = val.getD k .any
  size : listed.size = ol.length
  closed : ∀ k, listed.getD k false = true -> ∀ p ∈ dirs ol.toArray k, listed.getD p false = true
def chkK (ol : List Oper) (a b : Nat) (K0 K1 : List Nat) : Bool :=
  (List.range ol.length).all fun k => (Nat.beq k b || K0.contains k) && (Nat.beq k a || (dirs ol.toArray a).contains k || K1.contains k)
theorem W.rV1 {Q : Ex -> St -> Prop} {id : Nat} {tm : Nat -> AV} (l0 : List (Nat × AV)) (val : List AV) (kn : List (List (Nat × Nat))) (ks : List Nat) (a b : Nat) {H0 : List AObj} (H1 H2 : List AObj) (K0 K1 : List Nat)
    (hc : chkV ol kn ks a b n = true) (hk : chkK ol a b K0 K1 = true) (hn : Nat.ble 1 n = true) (hks : ks = l0.map (·.1)) (hb : regsE tm l0)
    (o0 : obs P T ol l0 val kn n q H0 (fun k => if Nat.beq k a then H1 else H0) K0) (o1 : obs P T ol l0 val kn n q H1 (fun k => if Nat.beq k b then H2 else H1) K1)
    (hq : ∀ tm, Q .nrm ⟨n, tm, H2, q⟩) : W P T (.region id ol.toArray true) ⟨n, tm, H0, q⟩ Q := fun hT hf ro hro n' X D w0 mA r m a' w hR => by
  have hn' : 0 < n := Nat.le_of_ble_eq_true hn
  simp only [chkV, Bool.and_eq_true, decide_eq_true_eq, List.all_eq_true, List.mem_range] at hc
  obtain ⟨⟨hab, hblt⟩, hops⟩ := hc
  simp only [chkK, Bool.and_eq_true, List.all_eq_true, List.mem_range, Bool.or_eq_true, List.contains_iff_mem] at hk
  have hop : ∀ k o, ol[k]? = some o -> o.guard = none /\ noCall o.op = true /\ (∀ p ∈ dirs ol.toArray k, p < k) /\ (∀ x ∈ kn.getD k [], x.2 ∈ dirs ol.toArray k /\ (ol[x.2]?).bind (·.dst) = some x.1) ∧
      (∀ t, Operand.tmp t ∈ Op.operands o.op -> t ∈ ks \/ ∃ y ∈ kn.getD k [], y.1 = t) /\ (∀ d, o.dst = some d -> d < n /\ d ∉ ks /\ ∀ j oj, ol[j]? = some oj -> oj.dst = some d -> j = k) /\ (k = b \/ k ∈ dirs ol.toArray b) := by
    intro k o ho
    have hlt : k < ol.length := (List.getElem?_eq_some_iff.1 ho).1
    have h := hops k hlt
    rw [ho] at h
    simp only [Bool.and_eq_true, List.all_eq_true, decide_eq_true_eq, Bool.or_eq_true, List.contains_iff_mem, beq_iff_eq, Option.isNone_iff_eq_none] at h
    obtain ⟨⟨⟨⟨⟨⟨h1, h2⟩, h3⟩, h4⟩, h5⟩, h6⟩, h7⟩ := h
    refine ⟨h1, h2, h3, h4, fun t ht => ?_, fun d hd => ?_, h7.imp (fun h => Nat.eq_of_beq_eq_true h) (fun h => h)⟩
    . have := h5 (Operand.tmp t) (by simpa using ht)
      simp only [Bool.or_eq_true, List.contains_iff_mem, List.any_eq_true] at this
      exact this.imp (fun h => h) fun ⟨y, hy, e⟩ => ⟨y, hy, Nat.eq_of_beq_eq_true e⟩
    . rw [hd] at h6
      simp only [Bool.and_eq_true, decide_eq_true_eq, Bool.not_eq_true', List.all_eq_true, List.mem_range, Bool.or_eq_true] at h6
      obtain ⟨⟨k1, k2⟩, k3⟩ := h6
      refine ⟨k1, fun hin => ?_, fun j oj hj hjd => ?_⟩
      . rw [List.contains_iff_mem.mpr hin] at k2; cases k2
      . rcases k3 j (List.getElem?_eq_some_iff.1 hj).1 with e | e
        . exact Nat.eq_of_beq_eq_true e
        . rw [hj] at e; simp [hjd] at e
  have step : ∀ (listed : Array Bool) (st : St) (i : Nat), InvV ol l0 val n q a b H0 H1 H2 listed st -> i ∈ Region.ready .any ol.toArray listed -> stepI P T ol.toArray i st (InvV ol l0 val n q a b H0 H1 H2 (listed.setIfInBounds i true)) := by
    intro listed st i hI hi
    obtain ⟨h0, o, ho, _⟩ := mem_ready.1 hi
    have hlt : i < ol.length := by
      rcases Nat.lt_or_ge i ol.length with h' | h'
      . exact h'
      . rw [Array.getElem?_eq_none (by simpa using h')] at ho; cases ho
    have ho' : ol[i]? = some o := by simpa using ho
    have hdirs := dirs_ready hi
    have hno : ¬ listed.getD i false = true := by rw [getD_tf h0]; exact Bool.false_ne_true
    obtain ⟨g1, g2, g3, g4, g5, g6, g7⟩ := hop i o ho'
    have hnb : i ≠ b -> ¬ listed.getD b false = true := fun hib hb' => by
      rcases g7 with e | e
      . exact hib e
      . exact hno (hI.closed b hb' i e)
    -- the operands are known
    have hev : ∀ x ∈ Op.operands o.op, (⟨n, look (knw l0 val kn i), st.heap, q⟩ : St).eval x = st.eval x := by
      intro x hx
      cases x <;> try rfl
      rename_i t
      show look (knw l0 val kn i) t = st.tm t
      refine look_has (F := fun t v => v = st.tm t) ?_ ?_
      . simp only [hasT, List.any_eq_true, knw]
        rcases g5 t hx with h | ⟨y, hy, e⟩
        . rw [hks] at h
          obtain ⟨z, hz, e⟩ := List.mem_map.1 h
          exact ⟨z, by simp [hz], by rw [<- e]; simp⟩
        . exact ⟨(y.1, val.getD y.2 .any), List.mem_append_right _ (List.mem_map.2 ⟨y, hy, rfl⟩), by rw [<- e]; simp⟩
      . intro x hx
        simp only [knw, List.mem_append, List.mem_map] at hx
        rcases hx with hx | ⟨y, hy, rfl⟩
        . exact (hI.base x hx).symm
        . obtain ⟨k1, k2⟩ := g4 y hy
          rcases hy2 : ol[y.2]? with _ | oy
          . rw [hy2] at k2; cases k2
          . rw [hy2] at k2
            exact (hI.vals y.2 oy y.1 (hdirs _ k1) hy2 k2).symm
    have hcl : ∀ k, (listed.setIfInBounds i true).getD k false = true -> ∀ p ∈ dirs ol.toArray k, (listed.setIfInBounds i true).getD p false = true := fun k hk p hp => by
      by_cases hki : k = i
      . subst hki; exact getD_set_true (hdirs p hp)
      . rw [getD_set_ne false (Ne.symm hki)] at hk
        exact getD_set_true (hI.closed k hk p hp)
    have hset : ∀ k, (listed.setIfInBounds i true).getD k false = true ↔ listed.getD k false = true \/ k = i := fun k => by
      by_cases hki : k = i
      . subst hki; have := hI.size; simp [this, hlt]
      . rw [getD_set_ne false (Ne.symm hki)]; simp [hki]
    -- what it leads to
    have key : opC P T o st (fun v h => (o.dst.isSome = true -> v = val.getD i .any) /\ h = stg a b H0 H1 H2 (listed.setIfInBounds i true)) := by
      have tr : ∀ (hp : List AObj) (nx : List AObj), st.heap = hp -> opC P T o ⟨n, look (knw l0 val kn i), hp, q⟩ (fun v h => (o.dst.isSome = true -> v = val.getD i .any) /\ h = nx) -> opC P T o st (fun v h => (o.dst.isSome = true -> v = val.getD i .any) /\ h = nx) := by
        intro hp nx e h
        subst e
        rw [opC_plain (noCall_spec g2)] at h ⊢
        rwa [opR_congr (fun x hx => (hev x hx).symm)]
      have hna : ¬ listed.getD b false = true -> stg a b H0 H1 H2 listed = if listed.getD a false = true then H1 else H0 := fun h => by simp only [stg, if_neg h]
      by_cases hib : i = b
      . subst hib
        have ha : listed.getD a false = true := by
          rcases (hk a (by omega)).2 with h | h
          all_goals
            have halt : a < ol.length := by omega
            obtain ⟨oa, hoa⟩ : ∃ oa, ol[a]? = some oa := ⟨_, List.getElem?_eq_getElem halt⟩
            rcases (hop a oa hoa).2.2.2.2.2.2 with e | e
            . omega
            . exact hdirs a e
        have h1 := obs_mem o1 i (by
          rcases (hk i hlt).2 with (h | h) | h
          . exact absurd (Nat.eq_of_beq_eq_true h) (by omega)
          . obtain ⟨oa, hoa⟩ : ∃ oa, ol[a]? = some oa := ⟨_, List.getElem?_eq_getElem (by omega)⟩
            have := (hop a oa hoa).2.2.1 i h; omega
          . exact h) o ho'
        have e1 : stg a i H0 H1 H2 listed = H1 := by simp only [stg, if_neg hno, if_pos ha]
        have e2 : stg a i H0 H1 H2 (listed.setIfInBounds i true) = H2 := by simp only [stg, if_pos ((hset i).2 (.inr rfl))]
        rw [e2]
        refine tr H1 H2 (hI.heap.trans e1) ?_
        simpa using h1
      . have hbn := hnb hib
        have hbn' : ¬ (listed.setIfInBounds i true).getD b false = true := fun h => (hset b).1 h |>.elim hbn (fun e => hib e.symm)
        by_cases hia : i = a
        . subst hia
          have h1 := obs_mem o0 i (by
            rcases (hk i hlt).1 with h | h
            . exact absurd (Nat.eq_of_beq_eq_true h) hib
            . exact h) o ho'
          have e1 : stg i b H0 H1 H2 listed = H0 := by simp only [stg, if_neg hbn, if_neg hno]
          have e2 : stg i b H0 H1 H2 (listed.setIfInBounds i true) = H1 := by simp only [stg, if_neg hbn', if_pos ((hset i).2 (.inr rfl))]
          rw [e2]
          refine tr H0 H1 (hI.heap.trans e1) ?_
          simpa using h1
        . have ea : (listed.setIfInBounds i true).getD a false = listed.getD a false := getD_set_ne false hia
          have e2 : stg a b H0 H1 H2 (listed.setIfInBounds i true) = stg a b H0 H1 H2 listed := by simp only [stg, if_neg hbn', if_neg hbn, ea]
          rw [e2]
          have hba : Nat.beq i a = false := by rcases h : Nat.beq i a with _ | _; rfl; exact absurd (Nat.eq_of_beq_eq_true h) hia
          have hbb : Nat.beq i b = false := by rcases h : Nat.beq i b with _ | _; rfl; exact absurd (Nat.eq_of_beq_eq_true h) hib
          by_cases hA : listed.getD a false = true
          . have e1 : stg a b H0 H1 H2 listed = H1 := by simp only [stg, if_neg hbn, if_pos hA]
            rw [e1]
            have h1 := obs_mem o1 i (by
              rcases (hk i hlt).2 with (h | h) | h
              . exact absurd (Nat.eq_of_beq_eq_true h) hia
              . exact absurd (hI.closed a hA i h) hno
              . exact h) o ho'
            refine tr H1 H1 (hI.heap.trans e1) ?_
            simpa [hbb] using h1
          . have e1 : stg a b H0 H1 H2 listed = H0 := by simp only [stg, if_neg hbn, if_neg hA]
            rw [e1]
            have h1 := obs_mem o0 i (by
              rcases (hk i hlt).1 with h | h
              . exact absurd (Nat.eq_of_beq_eq_true h) hib
              . exact h) o ho'
            refine tr H0 H0 (hI.heap.trans e1) ?_
            simpa [hba] using h1
    unfold stepI
    rw [ho]
    show stepG P T ol.toArray.toList o st _
    unfold stepG
    rw [g1]
    refine opC_mono (by rw [hI.nt]; exact hn') key fun v h hv => ?_
    obtain ⟨hv1, rfl⟩ := hv
    rcases hd : o.dst with _ | d
    . exact ⟨hI.nt, hI.ho, rfl, hI.base, (fun k ok d hk hok hkd => by
        rcases (hset k).1 hk with e | e
        . exact hI.vals k ok d e hok hkd
        . subst e; rw [ho'] at hok; cases hok; rw [hd] at hkd; cases hkd), by simpa using hI.size, hcl⟩
    . obtain ⟨d1, d2, d3⟩ := g6 d hd
      have hdn : d < st.nt := by rw [hI.nt]; exact d1
      have hput : ∀ t, (({ st with heap := stg a b H0 H1 H2 (listed.setIfInBounds i true) } : St).put (some d) v).tm t = if t = d then v else st.tm t := fun t => by simp [St.put, hdn, putT]
      refine ⟨(by rw [St.put, if_pos hdn]; exact hI.nt), by simp [St.put, hdn, hI.ho], by simp [St.put, hdn], fun x hx => ?_, fun k ok dk hk hok hkd => ?_, by simpa using hI.size, hcl⟩
      . rw [hput, if_neg]
        . exact hI.base x hx
        . intro e
          refine d2 ?_
          rw [hks, <- e]; exact List.mem_map.2 ⟨x, hx, rfl⟩
      . rw [hput]
        split
        . rename_i e
          subst e
          have := d3 k ok hok hkd
          subst this
          exact hv1 (by rw [hd]; rfl)
        . rename_i e
          rcases (hset k).1 hk with e2 | e2
          . exact hI.vals k ok dk e2 hok hkd
          . subst e2
            rw [ho'] at hok; cases hok
            rw [hd] at hkd; cases hkd; exact absurd rfl e
  have stop : ∀ (listed : Array Bool) (st : St), InvV ol l0 val n q a b H0 H1 H2 listed st -> Region.ready .any ol.toArray listed = [] -> Q .nrm st := by
    intro listed st hI hnil
    have all : ∀ k, k < ol.length -> listed.getD k false = true := by
      intro k
      induction k using Nat.strongRecOn with
      | _ k ih =>
        intro hlt
        rcases hl : listed.getD k false with _ | _
        . exfalso
          have := ready_of (ops := ol.toArray) (listed := listed) (i := k) (by simpa using hlt) (getD_ft (by rw [hI.size]; exact hlt) (by rw [hl]; exact Bool.false_ne_true)) fun p hp => by
            obtain ⟨o, ho⟩ : ∃ o, ol[k]? = some o := ⟨_, List.getElem?_eq_getElem hlt⟩
            have := (hop k o ho).2.2.1 p hp
            exact ih p this (by omega)
          rw [hnil] at this; cases this
        . rfl
    have hH : st.heap = H2 := hI.heap.trans (by simp only [stg, if_pos (all b hblt)])
    obtain ⟨nt, tm', hp, ho⟩ := st
    have h1 := hI.nt; have h2 := hI.ho
    simp only at h1 h2 hH
    subst h1; subst h2; subst hH
    exact hq tm'
  have any : ∀ (fuel : Nat) (listed : Array Bool) (st : St), InvV ol l0 val n q a b H0 H1 H2 listed st -> (∃ U : List Nat, U.length <= fuel /\ ∀ k, k < ol.length -> ¬ listed.getD k false = true -> k ∈ U) -> anyS P T ol.toArray (Q .nrm) fuel listed st := by
    intro fuel
    induction fuel with
    | zero =>
      intro listed st hI ⟨U, hU, hun⟩
      have hU0 : U = [] := List.eq_nil_of_length_eq_zero (by omega)
      subst hU0
      have hnil : Region.ready .any ol.toArray listed = [] := by
        rcases hrd : Region.ready .any ol.toArray listed with _ | ⟨i, l'⟩
        . rfl
        . exfalso
          have hm : i ∈ Region.ready .any ol.toArray listed := by rw [hrd]; simp
          obtain ⟨h0, o, ho, _⟩ := mem_ready.1 hm
          have hlt : i < ol.length := by
            rcases Nat.lt_or_ge i ol.length with h' | h'
            . exact h'
            . rw [Array.getElem?_eq_none (by simpa using h')] at ho; cases ho
          have := hun i hlt (by rw [getD_tf h0]; exact Bool.false_ne_true)
          cases this
      exact ⟨hnil, stop listed st hI hnil⟩
    | succ fuel ih =>
      intro listed st hI ⟨U, hU, hun⟩ _
      refine ⟨fun hnil => stop listed st hI hnil, fun i hi => ?_⟩
      have h3 := step listed st i hI hi
      obtain ⟨h0, oi, ho, _⟩ := mem_ready.1 hi
      have hlt : i < ol.length := by
        rcases Nat.lt_or_ge i ol.length with h' | h'
        . exact h'
        . rw [Array.getElem?_eq_none (by simpa using h')] at ho; cases ho
      have hno : ¬ listed.getD i false = true := by rw [getD_tf h0]; exact Bool.false_ne_true
      unfold stepI at h3 ⊢
      rw [ho] at h3 ⊢
      refine stepG_mono' h3 fun s hs => ih _ s hs ⟨U.erase i, ?_, fun k hk hnk => ?_⟩
      . have := List.length_erase_of_mem (hun i hlt hno); omega
      . have hki : k ≠ i := fun e => hnk (by subst e; have := hI.size; simp [this, hlt])
        rw [List.mem_erase_of_ne hki]
        refine hun k hk fun h' => hnk ?_
        rw [getD_set_ne false (Ne.symm hki)]; exact h'
  have hzero : ∀ k, (Array.replicate ol.toArray.size false).getD k false = false := fun k => by
    rw [Array.getD_eq_getD_getElem?]
    by_cases hk : k < ol.length <;> simp [hk]
  refine wpIn_region_any hf ?_
  have hR' : R X D w0 mA r m ⟨n, tm, H0, q⟩ a' { w with drawn := w.drawn + 1 } := { hR with }
  refine anyS_sound hT (fun s r' m' a' w' hs hR' => ⟨[], r', m', s, fun _ => rfl, hs, hR'⟩) ol.toArray.size _ hR' (any _ _ _ ⟨rfl, rfl, ?_, fun x hx => regsE_mem hb x hx, fun k o d hk => ?_, by simp, fun k hk => ?_⟩ ⟨List.range ol.length, by simp, fun k hk _ => List.mem_range.2 hk⟩)
  . simp only [stg, hzero]; simp
  . rw [hzero] at hk; cases hk
  . rw [hzero] at hk; cases hk
end
theorem o_iaD {d : Option Tmp} {a a2 : Operand} {n : Nat} {l : List (Nat × AV)} {h : List AObj} {b : Nat} {ty : TypeId} {pos : String} {af : Array Edge} {g : Option (Nat × Bool)} {P : Program} {T : TT} {K : AV -> List AObj -> Prop} {t e : TypeId} {s by_ es eb : Nat} {z ez : List AV} {ek : TK} (ht : T t = some ⟨.sl e, s, by_, z⟩) (he : T e = some ⟨ek, es, eb, ez⟩) {α : Type} [Inhabited α] {en : α -> List AV} {xs : List α} {fl : Bool} {m : Nat} (h1 : St.eval ⟨n, look l, h, b⟩ a = .lst fl m (zYy en xs)) {ik : IntKind} {i : Int} (h2 : St.eval ⟨n, look l, h, b⟩ a2 = .int ik i) (hm : m = xs.length) (hj : 0 <= i /\ i < (xs.length : Int)) (hk : K (.ipt fl ((zYy en xs).drop (i.toNat * es))) h) : opC P T ⟨d, .indexAddr t a a2, ty, pos, af, g⟩ ⟨n, look l, h, b⟩ K := by
  show indexAddrA T t (St.eval ⟨n, look l, h, b⟩ a) (St.eval ⟨n, look l, h, b⟩ a2) (fun v => K v h)
  rw [h1, h2]; simp only [indexAddrA, ht, he]
  subst hm
  exact ⟨hj, hk⟩
theorem ca_lst {h : List AObj} {α : Type} [Inhabited α] {en : α -> List AV} {xs : List α} {sz : Nat} {i : Int} {fl : Bool} (hw : Wd en sz) (hj : 0 <= i /\ i < (xs.length : Int)) : ∃ rest, cellsAt h (.ipt fl ((zYy en xs).drop (i.toNat * sz))) = some (en (lat xs i) ++ rest) := by
  obtain ⟨rest, hr⟩ := encL_at hw xs i hj.1 hj.2
  exact ⟨rest, by simp only [cellsAt, hr]⟩
end Go.Lat
namespace Go.Lat
open Go.RowKit
section
variable {d : Option Tmp} {a a2 : Operand} {n : Nat} {l : List (Nat × AV)} {h : List AObj} {b : Nat} {ty : TypeId} {pos : String} {af : Array Edge} {g : Option (Nat × Bool)} {P : Program} {T : TT} {K : AV -> List AObj -> Prop}
theorem o_neS {t u : TypeId} {fs : List (Nat × TypeId)} {s by_ : Nat} {z : List AV} {p : Prop} [Decidable p] (as_ bs : List Int) (ht : T t = some ⟨.st fs, s, by_, z⟩) (hf : ∀ f ∈ fs, ∃ s' b' z', T f.2 = some ⟨.int .i64, s', b', z'⟩) (ho : fs.map (·.1) = List.range fs.length)
    (h1 : St.eval ⟨n, look l, h, b⟩ a = .agg (as_.map (.int .i64))) (h2 : St.eval ⟨n, look l, h, b⟩ a2 = .agg (bs.map (.int .i64))) (hn : nilC .neq a2 = false) (l1 : as_.length = fs.length) (l2 : bs.length = fs.length) (hq : decide (as_ = bs) = decide p) (hk : K (.bool (decide (¬ p))) h) : opC P T ⟨d, .binOp .neq t a a2 u, ty, pos, af, g⟩ ⟨n, look l, h, b⟩ K := by
  show (if nilC .neq a2 = true then nilEqA T t (BinOp.neq == BinOp.neq) (St.eval ⟨n, look l, h, b⟩ a) (fun v => K v h) else binA T .neq t (St.eval ⟨n, look l, h, b⟩ a) (St.eval ⟨n, look l, h, b⟩ a2) (fun v => K v h))
  rw [hn, if_neg (by simp), h1, h2]
  exact ⟨fs, s, by_, z, as_, bs, ht, hf, ho, rfl, rfl, l1, l2, by rw [if_pos rfl, hq, <- decide_not]; exact hk⟩
end
theorem row_setF {α : Type} [Inhabited α] {e : α -> List AV} {sz : Nat} (h : Wd e sz) (xs : List α) (j : Int) (k : Nat) (x : α) {vs : List AV} (hk : Nat.ble (k + vs.length) sz = true) (hv : (e (lat xs j)).take k ++ vs ++ (e (lat xs j)).drop (k + vs.length) = e x) (hj : 0 <= j /\ j < (xs.length : Int)) :
    Lat.spl (zYy e xs) (j.toNat * sz + k) vs = zYy e (xs.set j.toNat x) := by
  have hk' := Nat.le_of_ble_eq_true hk
  have hlt : j.toNat < xs.length := by omega
  have hlen : (zYy e xs).length = xs.length * sz := zYr h xs
  have hle : j.toNat * sz + sz <= xs.length * sz := by
    have := Nat.mul_le_mul_right sz hlt
    rw [Nat.succ_mul] at this
    exact this
  rw [<- row_set h xs j x rfl hj.1 hj.2, <- hv, Lat.spl_eq _ _ _ (by omega), Lat.spl_eq _ _ _ (by
    rw [hv, h, hlen]; exact hle)]
  obtain ⟨rest, hr⟩ := encL_at h xs j hj.1 hj.2
  have hw : (e (lat xs j)).length = sz := h _
  have e1 : (zYy e xs).take (j.toNat * sz + k) = (zYy e xs).take (j.toNat * sz) ++ (e (lat xs j)).take k := by
    rw [List.take_add, hr, List.take_append_of_le_length (by omega)]
  have e2 : (zYy e xs).drop (j.toNat * sz + k + vs.length) = (e (lat xs j)).drop (k + vs.length) ++ rest := by
    rw [Nat.add_assoc, <- List.drop_drop, hr, List.drop_append_of_le_length (by omega)]
  have e3 : (zYy e xs).drop (j.toNat * sz + ((e (lat xs j)).take k ++ vs ++ (e (lat xs j)).drop (k + vs.length)).length) = rest := by
    rw [hv, h, <- List.drop_drop, hr, <- hw, List.drop_left]
  rw [e1, e2, e3]
  simp [List.append_assoc]
theorem row_inF {α : Type} {e : α -> List AV} {sz : Nat} (hw : Wd e sz) {xs : List α} {i : Int} (hj : 0 <= i /\ i < (xs.length : Int)) {k : Nat} {vs : List AV} (hk : Nat.ble (k + vs.length) sz = true) : i.toNat * sz + k + vs.length <= (zYy e xs).length := by
  rw [zYr hw]
  have hj' : i.toNat < xs.length := by omega
  have := Nat.mul_le_mul_right sz hj'
  rw [Nat.succ_mul] at this
  have := Nat.le_of_ble_eq_true hk
  omega
end Go.Lat
namespace Go.Lat
def SmallB (b : Bd) : Prop := b.most.length <= 1073741824 /\ ∀ r ∈ b.most, r.length <= 1073741824
theorem point_small {b : Bd} {f t v : Int} : (pointM b f t v).1.length <= 1073741824 := by
  by_cases h : (zWz b f t).2.2 = 0 /\ max (zWz b f t).1 (-36028797018963968) <= v /\ v <= min (zWz b f t).2.1 36028797018963968
  . rw [point_pos h]
    have := (validBM_iff.mp (range_ok h.1).1).n
    show (pointV _ _ _).length <= _
    rw [pointV_eq]; simp; omega
  . rw [point_neg h]; simp
end Go.Lat
namespace Go.Lat
open Go.RowKit Go.Proofs
attribute [local irreducible] cvalidM zX zYw partM chM liM zYv witM pcM inM allM inSet
attribute [local irreducible] zWy zWz pointM addBM cycleM holdsM validBM sameM madeM pickM zW validM possM firstM tableM longerM zYs ofM addM freeM
def vc_inr (x : Int) (lo : Int) (hi : Int) (Post : Bool -> Prop) : Prop :=
  Post (decide ((lo <= x) /\ (x <= hi)))
theorem walk_inr {x : Int} {lo : Int} {hi : Int} {Post : Bool -> Prop} (hv : vc_inr x lo hi Post) : FnP Try.prog 72 [.int .i64 x, .int .i64 lo, .int .i64 hi] (fun x => ∃ q0, x = .bool q0 /\ Post q0) := by
 refine FnP.of_walk (T := tt) (nt := 15) ttOk ttMix ⟨⟨Try.f72, Try.func72, rfl, rfl, rfl, rfl⟩⟩ (by simp) ?_
 unfold vc_inr at hv
 change W _ _ _ ⟨15, look [(0, .int .i64 x), (1, .int .i64 lo), (2, .int .i64 hi)], [], 0⟩ _
 refine W.rL (aB rfl rfl (eL (W.rLm ⟨15, look [(6, .bool (decide ((lo <= x) /\ (x <= hi))))], [], 0⟩ ?_ ?_)))
 iterate 2 refine mI rfl rfl ?_
 refine cL rfl (o_geq rfl rfl (mB rfl rfl ?_))
 by_cases c1 : lo <= x
 refine cLg rfl rfl (dT c1) (mI rfl rfl (cLg rfl rfl (dT c1) (mI rfl rfl (cLg rfl rfl (dT c1) (cL rfl (o_leq rfl rfl (cL rfl (zZv (v := .bool _) rfl (dT c1) rfl (aB rfl rfl (eL (zYz ⟨(congrArg AV.bool (zXp c1 (rfl))).symm, trivial⟩ rfl)))))))))))
 iterate 3 refine cLs rfl rfl rfl (dF c1) ?_
 refine cL rfl (zZy (v := .bool _) rfl (dF c1) rfl (aB rfl rfl (eL (zYz ⟨(congrArg AV.bool (dAndF c1)).symm, trivial⟩ rfl))))
 refine W.ret (rt (rt_t (v := .bool _) rfl (rt_n (⟨_, zXx _ _ _, (decide ((lo <= x) /\ (x <= hi))), rfl, hv⟩))))
theorem vcp_inr (x : Int) (lo : Int) (hi : Int)  : vc_inr x lo hi (fun q0 => q0 = (inM x lo hi)) := by
  show decide _ = inM x lo hi
  unfold inM
  rfl
theorem spec_inr (x : Int) (lo : Int) (hi : Int)  : FnP Try.prog 72 [.int .i64 x, .int .i64 lo, .int .i64 hi] (fun xR => xR = .bool (inM x lo hi)) :=
  (walk_inr (vcp_inr x lo hi)).mono (by rintro _ ⟨_, rfl, rfl⟩; rfl)
def vc_allr (l : (List Int)) (lo : Int) (hi : Int) (most : Int) (Post : Bool -> Prop) : Prop :=
  ∃ (I1 : Int -> Prop) (μ1 : Int -> Nat), I1 0 /\ ∀ (v13 : Int), I1 v13 -> ((v13 < ((l.length : Nat) : Int)) -> (0 <= v13 /\ v13 < (l.length : Int)) /\ ((¬ ((inM (lat l v13) 0 most) = true)) -> Post false) /\ (¬ (¬ ((inM (lat l v13) 0 most) = true)) -> (inI (v13 + 1)) /\ (I1 (v13 + 1) /\ μ1 (v13 + 1) < μ1 v13))) /\ (¬ (v13 < ((l.length : Nat) : Int)) -> Post (inM ((l.length : Nat) : Int) lo hi))
theorem walk_allr {l : (List Int)} {lo : Int} {hi : Int} {most : Int} {Post : Bool -> Prop} (hv : vc_allr l lo hi most Post) : FnP Try.prog 71 [.lst true l.length (zYy zYx l), .int .i64 lo, .int .i64 hi, .int .i64 most] (fun x => ∃ q0, x = .bool q0 /\ Post q0) := by
 refine FnP.of_walk (T := tt) (nt := 27) ttOk ttMix ⟨⟨Try.f71, Try.func71, rfl, rfl, rfl, rfl⟩⟩ (by simp) ?_
 unfold vc_allr at hv
 change W _ _ _ ⟨27, look [(0, .lst true l.length (zYy zYx l)), (1, .int .i64 lo), (2, .int .i64 hi), (3, .int .i64 most)], [], 0⟩ _
 refine W.rL (aB rfl rfl (eL (W.seq' (W.rL (mL rfl rfl (cL rfl (zXq (v := .lst _ _ _) tt23 rfl rfl (mI rfl rfl (eL (W.block ?_))))))))))
 obtain ⟨I1, μ1, hp, hv⟩ := hv
 refine W.loop1 (fun v13 => ⟨27, look [(0, .lst true l.length (zYy zYx l)), (1, .int .i64 lo), (2, .int .i64 hi), (3, .int .i64 most), (11, .lst true l.length (zYy zYx l)), (12, .int .i64 ((l.length : Nat) : Int)), (13, .int .i64 v13)], [], 0⟩) I1 μ1 0 (St.to_mk (φ := []) rfl (rfl) ⟨Ren.lst _ _ _, Ren.int _ _, Ren.int _ _, Ren.int _ _, Ren.lst _ _ _, Ren.int _ _, Ren.int _ _, trivial⟩ trivial) hp ?_
 clear hp
 intro v13 hI
 replace hv := hv v13 hI
 clear hI
 refine W.rL (cL rfl (zXw rfl rfl (eL (W.seq' (W.cn rfl (fun hc => ?_) (fun hc => ?_))))))
 have hv := hv.1 hc
 refine W.skip (zZ (W.seq' (W.block (W.rL ?_))))
 obtain ⟨s11, hv⟩ := hv
 refine cL rfl (zYp tt23 tt3 rfl rfl (zZw.wd true) rfl s11 ?_)
 intro rest11
 refine cL rfl (zZx (v := .int _ _) tt3 rfl rfl ⟨_, rfl⟩ (aI rfl rfl (eL (W.rL ?_))))
 iterate 2 refine mI rfl rfl ?_
 refine cL rfl (zZu (k := 72) (fst := []) (caps := []) (ys := [.int _ _, .int _ _, .int _ _]) rfl rfl (spec_inr (lat l v13) 0 most) (Wks.cons (zZz _ _ _ _) (Wks.cons (zZz _ _ _ _) (Wks.cons (zZz _ _ _ _) (Wks.refl _)))) (cL rfl (o_notB rfl (eL (W.cn rfl (fun hc => ?_) (fun hc => ?_))))))
 have hv := hv.1 hc
 refine W.rL (aB rfl rfl (eL (W.ret (zXz (zZr (zZr (zXz (zZr (rt (rt_t (v := .bool _) rfl (rt_n (⟨_, zXx _ _ _, false, rfl, hv⟩))))))))))))
 have hv := hv.2 hc
 refine W.skip (zYq (zZ (W.rL1 ?_)))
 obtain ⟨s12, hv⟩ := hv
 refine cL rfl (o_add rfl rfl s12 (mI rfl rfl (eL (zZ (⟨(), (v13 + 1), hv, St.to_mk (φ := []) rfl (rfl) ⟨Ren.lst _ _ _, Ren.int _ _, Ren.int _ _, Ren.int _ _, Ren.lst _ _ _, Ren.int _ _, Ren.int _ _, trivial⟩ trivial⟩)))))
 have hv := hv.2 hc
 refine W.exit (zZt (zZt (zXy (zZ (W.rL (mL rfl rfl (cL rfl (zXq (v := .lst _ _ _) tt23 rfl rfl ?_))))))))
 iterate 2 refine mI rfl rfl ?_
 refine cL rfl (zZu (k := 72) (fst := []) (caps := []) (ys := [.int _ _, .int _ _, .int _ _]) rfl rfl (spec_inr ((l.length : Nat) : Int) lo hi) (Wks.cons (zZz _ _ _ _) (Wks.cons (zZz _ _ _ _) (Wks.cons (zZz _ _ _ _) (Wks.refl _)))) (aB rfl rfl (eL (W.ret (rt (rt_t (v := .bool _) rfl (rt_n (⟨_, zXx _ _ _, (inM ((l.length : Nat) : Int) lo hi), rfl, hv⟩))))))))
theorem vcp_allr (l : (List Int)) (lo : Int) (hi : Int) (most : Int) (h0 : l.length <= 9223372036854775807) : vc_allr l lo hi most (fun q0 => q0 = (allM l lo hi most)) := by
  unfold vc_allr
  refine ⟨fun v => ∃ i : Nat, v = i /\ i <= l.length /\ ∀ y ∈ l.take i, 0 <= y /\ y <= most, fun v => l.length - v.toNat, ⟨0, rfl, by omega, by simp⟩, ?_⟩
  rintro _ ⟨i, rfl, hle, hj⟩
  refine ⟨fun h1 => ?_, fun h1 => ?_⟩
  . have hlt : i < l.length := by omega
    rw [lat_get hlt]
    refine ⟨by omega, fun h2 => ?_, fun h2 => ⟨by unfold inI; omega, ⟨i + 1, by omega, by omega, ?_⟩, by dsimp only; omega⟩⟩
    . show false = allM l lo hi most
      unfold inM at h2
      unfold allM
      have : l.all (fun y => decide (0 <= y /\ y <= most)) = false := by
        rw [List.all_eq_false]
        exact ⟨l[i], List.getElem_mem hlt, by simpa using h2⟩
      rw [this]; rfl
    . unfold inM at h2
      intro y hy
      rw [List.take_add_one, List.getElem?_eq_getElem hlt] at hy
      rcases List.mem_append.1 hy with h | h
      . exact hj y h
      . simp only [Option.toList_some, List.mem_singleton] at h
        subst h
        simpa using h2
  . show inM _ lo hi = allM l lo hi most
    unfold inM allM
    rw [List.take_of_length_le (by omega)] at hj
    have : l.all (fun y => decide (0 <= y /\ y <= most)) = true := by
      rw [List.all_eq_true]
      exact fun y hy => decide_eq_true (hj y hy)
    rw [this]; rfl
theorem spec_allr (l : (List Int)) (lo : Int) (hi : Int) (most : Int) (h0 : l.length <= 9223372036854775807) : FnP Try.prog 71 [.lst true l.length (zYy zYx l), .int .i64 lo, .int .i64 hi, .int .i64 most] (fun xR => xR = .bool (allM l lo hi most)) :=
  (walk_allr (vcp_allr l lo hi most h0)).mono (by rintro _ ⟨_, rfl, rfl⟩; rfl)
end Go.Lat
