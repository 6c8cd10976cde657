/- The law latecomerlaw23.ModelApart returns true for every input, and each argument reads afterwards as it read before. Part 2 of 14. No condition. -/
import Derived.Test.YtcldekbjhmhgdaaLatA
import Derived.Laws.MakeOwn
import Derived.RangeFuncOwn
import Derived.Conc.LoneCalls
import Derived.Laws.Sem
set_option linter.unusedVariables false
set_option linter.unusedSimpArgs false
set_option linter.unnecessarySimpa false
namespace Go.Lat
open Go.RowKit

section
variable {X : Nat -> Prop} {D : List Deferred × Rho} {w0 : World} {mA : Mem} {r : Rho} {m : MM} {st : St} {a : Act} {w w' : World} {P : Program} {T : TT}

theorem buildSlice_sound (hT : TsOk P T) (h : R X D w0 mA r m st a w) {t : TypeId} {len : Nat} {parts : List (Nat × AV)} {parts' : List (Nat × Value)} {K : AV -> List AObj -> Prop}
    (he : parts'.map (·.1) = parts.map (·.1)) (hv : VRs r m (parts.map (·.2)) (parts'.map (·.2))) (hs : buildSliceA T st.heap t len parts K) :
    ∃ y u w' r' h', K y h' /\ RLe r r' /\ VR r' m y u /\ (Instr.buildSlice t len parts'.toArray).run P w = .ok u w' /\ R X D w0 mA r' m { st with heap := h' } a w' := by
  unfold buildSliceA at hs
  split at hs <;> try exact hs.elim
  rename_i i hi
  split at hs <;> try exact hs.elim
  rename_i e hk
  split at hs <;> try exact hs.elim
  rename_i ei hei
  obtain ⟨⟨hlen, hpos, hsz⟩, hf⟩ := hs
  have hsl := (hT t i hi).sl hk
  obtain ⟨z, hz, hzv, hz1⟩ := (hT e ei hei).run_zero (P := P) w
  obtain ⟨inf, z', _, _, _, _, hz4, _, hz6⟩ := (hT e ei hei).info
  have hzv' : VRs r m ei.zero z.cells.toList := hzv.mono (fun _ _ hh => by simp at hh) (fun _ _ _ hh => by cases hh)
  have hzl : z.cells.size = ei.size := by have := hzv.length; simp only [Array.length_toList] at this; omega
  have hzeros : VRs r m (zerosA len ei.size ei.zero) ((Array.range (len * ei.size)).map (z.cells[· % z.cells.size]!)).toList := zeros_sound hzv' hz6 hpos
  have h1 : ∀ u ∈ ((Array.range (len * ei.size)).map (z.cells[· % z.cells.size]!)).toList, u.oneCell' = true := by
    intro u hu
    simp only [Array.toList_map, List.mem_map] at hu
    obtain ⟨j, _, rfl⟩ := hu
    have hlt : j % z.cells.size < z.cells.size := Nat.mod_lt _ (by omega)
    rw [getElem!_pos z.cells _ hlt]
    exact hz1 _ (by simp)
  obtain ⟨cs, cur, hK, hcv, hc1, hfill⟩ := fill_sound (place' := fun j => some (j * ei.size, ei.size)) (fun j x hx => hx) parts parts' _ _ _ he hv hzeros h1 hf
  have hprod : len * ei.size <= 65536 * 256 := Nat.mul_le_mul hlen hsz
  have hcl := hcv.length
  have hrun0 : (Instr.buildSlice t len parts'.toArray).run P w = .ok (.slice (some ⟨w.heap.size, 0, none⟩) len len) (w.alloc (.cells cur e)) := by
    simp only [Instr.buildSlice, Sem.run_bind, run_underlying hsl, Result.andThen_ok, (hT e ei hei).run_sizeOf]
    rw [if_neg (by omega)]
    by_cases h0 : len * ei.size = 0
    . rw [if_pos h0]
      have hl0 : len = 0 := by
        rcases Nat.eq_zero_or_pos len with h | h
        . exact h
        . have := Nat.mul_pos h hpos; omega
      have e0 : ((Array.range (len * ei.size)).map (z.cells[· % z.cells.size]!)) = ((Array.range (len * ei.size)).map ((#[] : Array Value)[· % (#[] : Array Value).size]!)) := by
        rw [h0]; simp
      rw [e0] at hfill
      rw [Sem.run_bind, Sem.run_pure, Result.andThen_ok, hfill]
      rfl
    . rw [if_neg h0]
      rw [Sem.run_bind, hz, Result.andThen_ok, Sem.run_bind, Sem.run_pure, Result.andThen_ok, hfill]
      rfl
  have hcur : cur.size = len * ei.size := by
    have key : ∀ (parts' : List (Nat × Value)) (c c' : Array Value), Instr.fill (fun j => some (j * ei.size, ei.size)) c parts' = some c' -> c'.size = c.size := by
      intro parts'
      induction parts' with
      | nil => intro c c' hc; simp only [Instr.fill, Option.some.injEq] at hc; rw [<- hc]
      | cons p ps ih =>
        intro c c' hc
        simp only [Instr.fill] at hc
        split at hc
        . cases hc
        . rename_i hno
          simp only [Bool.or_eq_true, decide_eq_true_eq, not_or, Decidable.not_not] at hno
          have hno1 := hno.1
          have := ih _ _ hc
          rw [this]
          have := foldl_set (p.1 * ei.size) p.2.cells.toList 0 c (by simp; omega)
          have e2 : (p.2.cells.zipIdx.foldl (fun (cs : Array Value) (q : Value × Nat) => cs.setIfInBounds (p.1 * ei.size + q.2) q.1) c) = ((p.2.cells.toList.zipIdx 0).foldl (fun (cs : Array Value) (q : Value × Nat) => cs.setIfInBounds (p.1 * ei.size + q.2) q.1) c) := by
            rw [<- Array.foldl_toList, Array.toList_zipIdx]
          have e3 := congrArg List.length this
          rw [<- e2] at e3
          simp only [Array.length_toList, List.length_append, List.length_take, List.length_drop] at e3
          have hno2 := hno.2
          omega
    have := key parts' _ _ hfill
    rw [this]; simp
  have hnew := rget_new r (w.heap.size, len) h.len
  refine ⟨_, _, _, _, _, hK, RLe.app r [(w.heap.size, len)], ?_, hrun0, h.fresh (World.grownBy_alloc w _ none) (by simp) (.inr ⟨_, _, cur, hnew, heap_new w _, ?_, by unfold maxLen; omega, hcur, by simp only [Array.length_toList] at hcl; omega, ?_⟩)⟩
  . simp only [VR]
    rcases Nat.eq_zero_or_pos len with h0 | h0
    . subst h0
      exact .inl ⟨rfl, ⟨_, hnew⟩, .inr ⟨trivial, _, rfl⟩⟩
    . exact .inr ⟨h0, _, _, hnew, Nat.le_refl _, rfl⟩
  . intro u hu
    exact hc1 u (List.mem_of_mem_take hu)
  . rw [List.take_of_length_le (by omega)]
    exact hcv.mono (RLe.app _ _) (MLe.refl m)

def cutPut (h : List AObj) (id off k sz m : Nat) (ys : List AV) (K : List AObj -> Prop) : Prop :=
  match h[id]? with
  | some (.row e' sz' cs) => (sz' = sz /\ 0 < m /\ 0 < cs.length /\ off = k * sz /\ off <= cs.length /\ ys.length = m * sz) /\ K (h.set id (.row e' sz' (cs.take off ++ ys ++ cs.drop (off + m * sz))))
  | _ => False
theorem cutPut_mono {h : List AObj} {id off k sz m : Nat} {ys : List AV} {K K' : List AObj -> Prop} (hk : ∀ x, K x -> K' x) (hp : cutPut h id off k sz m ys K) : cutPut h id off k sz m ys K' := by
  unfold cutPut at hp ⊢
  split at hp <;> try exact hp.elim
  exact ⟨hp.1, hk _ hp.2⟩
def firstA (h : List AObj) (size dn : Nat) (x : AV) : Option (Nat × List AV) :=
  match x with
  | .cut _ id off _ n _ => match h[id]? with
    | some (.row _ _ cs) => some (min n dn, (cs.drop off).take (min n dn * size))
    | _ => none
  | _ => match srcA h size x with
    | some (n, ys) => if ys.length = n * size then some (min n dn, ys.take (min n dn * size)) else none
    | none => none
def copyA (T : TT) (h : List AObj) (t : TypeId) (d x : AV) (K : AV -> List AObj -> Prop) : Prop :=
  match T t with
  | some i => match i.k with
    | .sl e => match T e with
      | some ei => match d, srcA h ei.size x with
        | .sub id off dn, some (n, ys) => ys.length = n * ei.size /\ (min n dn = 0 -> K (.int .i64 0) h) /\ (0 < min n dn -> putCells h id off (ys.take (min n dn * ei.size)) (K (.int .i64 (min n dn : Nat))))
        | .ref _ id dn, some (n, ys) => ys.length = n * ei.size /\ (min n dn = 0 -> K (.int .i64 0) h) /\ (0 < min n dn -> putCells h id 0 (ys.take (min n dn * ei.size)) (K (.int .i64 (min n dn : Nat))))
        | .nilS, some (n, ys) => ys.length = n * ei.size /\ K (.int .i64 0) h
        | .cut _ id off k dn _, _ => match firstA h ei.size dn x with
          | some (m, ys) => cutPut h id off k ei.size m ys (K (.int .i64 (m : Nat)))
          | none => False
        | _, _ => False
      | none => False
    | _ => False
  | none => False

theorem copy_step (hT : TsOk P T) {t t2 ty e : TypeId} {ei : TI} (hs : P.underlying t = some (.slice e)) (hei : T e = some ei) {dn dc n c k : Nat} {q : Option Addr} {ao : Option Addr} {vs : List Value} (hk : k = min n dn)
    (hc : ∀ p, ao = some p -> ∀ (i : Nat) u, vs[i]? = some u -> w.cell? (p.add i) = some u) (hl : vs.length = n * ei.size) (hn : ao = none -> n = 0) {w' : World}
    (hst : (match q with | some a => storeCells a (vs.take (k * ei.size)) 0 | none => pure ()).run P w = .ok () w') :
    (Builtin.copy_ #[t, t2] ty #[.slice q dn dc, .slice ao n c]).run P w = .ok (goInt k) w' := by
  have hm : Nat.min n dn = k := hk.symm
  have hkn : k <= n := by omega
  have hke : k * ei.size <= vs.length := by rw [hl]; exact Nat.mul_le_mul_right _ hkn
  have hfc : (Builtin.firstCells ei.size k (.slice ao n c)).run P w = .ok (vs.take (k * ei.size)).toArray w := by
    cases ao with
    | some p => exact run_loadCells_take (hc p rfl) _ hke
    | none =>
      have h0 := hn rfl
      subst h0
      have : vs = [] := List.eq_nil_of_length_eq_zero (by simpa using hl)
      subst this
      simp [Builtin.firstCells]
  simp only [Builtin.copy_, List.getElem?_toArray, List.getElem?_cons_zero, List.getElem?_cons_succ, Sem.run_bind, run_underlying hs, Result.andThen_ok, Builtin.lenOf, Sem.run_pure, hm, (hT e ei hei).run_sizeOf, hfc]
  cases q with
  | some b =>
    simp only at hst ⊢
    simp only [Sem.run_bind, hst, Result.andThen_ok, Sem.run_pure]
  | none =>
    simp only [Sem.run_pure, Result.ok.injEq, true_and] at hst
    subst hst
    simp [Sem.run_pure]

theorem cutPut_sound (h : R X D w0 mA r m st a w) {id off k sz q b c : Nat} {vs : List AV} {xs : List Value} (hb : r[id]? = some (b, c)) (hkc : k + q <= c)
    (hv : VRs r m vs xs) (h1 : ∀ u ∈ xs, u.oneCell' = true) {K : List AObj -> Prop} (hp : cutPut st.heap id off k sz q vs K) :
    ∃ w' h', K h' /\ (storeCells ⟨b, off, none⟩ xs 0).run P w = .ok () w' /\ R X D w0 mA r m { st with heap := h' } a w' := by
  have hxl := hv.length
  unfold cutPut at hp
  split at hp <;> try exact hp.elim
  rename_i t sz' cs ho
  obtain ⟨⟨rfl, hq, hpos, hoff, hle, hvl⟩, hK⟩ := hp
  rcases h.obj id _ ho with rfl | ⟨b', c', cur, e1, h2, h0, h3, h4, h5, h6⟩
  . simp at hpos
  rw [hb] at e1
  cases e1
  have hroom : off + q * sz' <= cur.size := by
    rw [h4, hoff, <- Nat.add_mul]
    exact Nat.mul_le_mul_right _ hkc
  have hxq : xs.length = q * sz' := by omega
  refine ⟨_, _, hK, run_storeCells_at (P := P) b off t xs 0 cur w h2 (by omega) h1, ?_⟩
  have hcl : cs.length <= cur.toList.length := by simpa using h5
  have l1 : (List.take off cur.toList).length = off := by rw [List.length_take]; omega
  have hnl : (cs.take off ++ vs ++ cs.drop (off + q * sz')).length = max cs.length (off + q * sz') := by
    simp only [List.length_append, List.length_take, List.length_drop]; omega
  have e : ((cur.toList.take (off + 0) ++ xs ++ cur.toList.drop (off + 0 + xs.length)).toArray.toList.take (cs.take off ++ vs ++ cs.drop (off + q * sz')).length) = (cur.toList.take cs.length).take off ++ xs ++ (cur.toList.take cs.length).drop (off + q * sz') := by
    rw [hnl]
    simp only [Nat.add_zero, hxq]
    rw [List.take_append, List.take_append, List.drop_take, List.take_take]
    simp only [List.length_append, l1, List.take_take, hxq]
    rw [Nat.min_eq_right (show off <= max cs.length (off + q * sz') by omega), Nat.min_eq_left (show off <= cs.length by omega), List.take_of_length_le (show xs.length <= max cs.length (off + q * sz') - off by omega)]
    congr 2
    omega
  refine h.modify ho (live_row hpos) hb (grownBy_setRow w b _) (.inr ⟨b, c, _, hb, setRow_heap w b cur _ t (0, 0) h2, ?_, h3, ?_, ?_, ?_⟩)
  . intro u hu
    rw [e] at hu
    simp only [List.mem_append] at hu
    rcases hu with (hu | hu) | hu
    . exact h0 u (List.mem_of_mem_take hu)
    . exact h1 u hu
    . exact h0 u (List.mem_of_mem_drop hu)
  . simp; omega
  . rw [hnl]; simp; omega
  . rw [e]
    exact ((h6.take off).app hv).app (h6.drop _)
theorem first_sound (h : R X D w0 mA r m st a w) {size dn q : Nat} {x : AV} {v : Value} {ys : List AV} (hx : VR r m x v) (hs : firstA st.heap size dn x = some (q, ys)) (hl : ys.length = q * size) :
    ∃ ao n cap vs, v = .slice ao n cap /\ q = min n dn /\ VRs r m ys vs /\ (∀ u ∈ vs, u.oneCell' = true) /\ (ao = none -> n = 0) ∧
      ∀ p, ao = some p -> ∀ (i : Nat) u, vs[i]? = some u -> w.cell? (p.add i) = some u := by
  unfold firstA at hs
  split at hs
  . rename_i ex id off k n cp
    simp only [VR] at hx
    rcases ho : st.heap[id]? with _ | o
    . simp [ho] at hs
    cases o <;> simp only [ho, reduceCtorEq, Option.some.injEq, Prod.mk.injEq] at hs
    rename_i t sz cs
    obtain ⟨rfl, rfl⟩ := hs
    rcases hx with ⟨_, rfl, rfl, hx⟩ | ⟨b, c, hb, hlc, hkc, _, rfl⟩
    . rw [Nat.zero_min, Nat.zero_mul, List.take_zero]
      rcases hx with rfl | ⟨a', rfl⟩
      . exact ⟨_, _, _, [], rfl, by simp, VRs.nil, by simp, by simp, by simp⟩
      . exact ⟨_, _, _, [], rfl, by simp, VRs.nil, by simp, by simp, by simp⟩
    rcases h.obj id _ ho with rfl | ⟨b', c', cur, e1, h2, h0, h3, h4, h5, h6⟩
    . rw [List.drop_nil, List.take_nil]
      exact ⟨_, _, _, [], rfl, rfl, VRs.nil, by simp, by simp, by simp⟩
    rw [hb] at e1
    cases e1
    refine ⟨_, _, _, _, rfl, rfl, (h6.drop off).take _, ?_, by simp, ?_⟩
    . intro u hu
      exact h0 u (List.mem_of_mem_drop (List.mem_of_mem_take hu))
    . rintro p' hp' i u hu
      cases hp'
      rw [Addr.add_lit]
      simp only [World.cell?, h2]
      rw [List.getElem?_take] at hu
      split at hu
      . rw [List.getElem?_drop, List.getElem?_take] at hu
        split at hu
        . simpa using hu
        . cases hu
      . cases hu
  . split at hs
    . rename_i n ys' hsrc
      split at hs
      . rename_i hyl
        simp only [Option.some.injEq, Prod.mk.injEq] at hs
        obtain ⟨rfl, rfl⟩ := hs
        obtain ⟨ao, cap, vs, rfl, hvs, hv1, hn0, hcell⟩ := src_sound h hx hsrc hyl
        refine ⟨ao, n, cap, vs.take (min n dn * size), rfl, rfl, hvs.take _, fun u hu => hv1 u (List.mem_of_mem_take hu), hn0, fun p hp i u hu => ?_⟩
        rw [List.getElem?_take] at hu
        split at hu
        . exact hcell p hp i u hu
        . cases hu
      . cases hs
    . cases hs
theorem copy_first {t t2 ty e : TypeId} {ei : TI} (hT : TsOk P T) (hs : P.underlying t = some (.slice e)) (hei : T e = some ei) {dn dc n c q : Nat} {b : Addr} {ao : Option Addr} {vs : List Value} (hq : q = min n dn)
    (hc : ∀ p, ao = some p -> ∀ (i : Nat) u, vs[i]? = some u -> w.cell? (p.add i) = some u) (hl : vs.length = q * ei.size) (hn : ao = none -> n = 0) {w' : World} (hst : (storeCells b vs 0).run P w = .ok () w') :
    (Builtin.copy_ #[t, t2] ty #[.slice (some b) dn dc, .slice ao n c]).run P w = .ok (goInt q) w' := by
  have hm : Nat.min n dn = q := hq.symm
  have hfc : (Builtin.firstCells ei.size q (.slice ao n c)).run P w = .ok vs.toArray w := by
    cases ao with
    | some p =>
      have := run_loadCells_take (P := P) (hc p rfl) (q * ei.size) (by omega)
      rw [List.take_of_length_le (by omega)] at this
      exact this
    | none =>
      have h0 := hn rfl
      subst h0
      have hq0 : q = 0 := by omega
      subst hq0
      have : vs = [] := List.eq_nil_of_length_eq_zero (by simpa using hl)
      subst this
      simp [Builtin.firstCells]
  simp only [Builtin.copy_, List.getElem?_toArray, List.getElem?_cons_zero, List.getElem?_cons_succ, Sem.run_bind, run_underlying hs, Result.andThen_ok, Builtin.lenOf, Sem.run_pure, hm, (hT e ei hei).run_sizeOf, hfc, hst]
theorem copy_sound (hT : TsOk P T) (h : R X D w0 mA r m st a w) {t t2 ty : TypeId} {x y : AV} {u v : Value} (hx : VR r m x u) (hy : VR r m y v) {K : AV -> List AObj -> Prop} (hs : copyA T st.heap t x y K) :
    ∃ z q w' h', K z h' /\ VR r m z q /\ (Builtin.copy_ #[t, t2] ty #[u, v]).run P w = .ok q w' /\ R X D w0 mA r m { st with heap := h' } a w' := by
  unfold copyA at hs
  split at hs <;> try exact hs.elim
  rename_i i hi
  split at hs <;> try exact hs.elim
  rename_i e hk
  split at hs <;> try exact hs.elim
  rename_i ei hei
  have hsl := (hT t i hi).sl hk
  split at hs <;> try exact hs.elim
  . rename_i id off dn n ys hsrc
    obtain ⟨hyl, hz, hp⟩ := hs
    obtain ⟨ao, cap, vs, rfl, hvs, hv1, hn0, hcell⟩ := src_sound h hy hsrc hyl
    have hvl : vs.length = n * ei.size := by rw [hvs.length, hyl]
    simp only [VR] at hx
    obtain ⟨b, c, p, dc, hb, hle, rfl, hpe⟩ := hx
    rcases Nat.eq_zero_or_pos (min n dn) with h0 | h0
    . exact ⟨_, _, w, _, hz h0, by simp only [VR, goInt]; rfl, copy_step (P := P) hT (t2 := t2) (ty := ty) (dn := dn) (dc := dc) (c := cap) (k := 0) (q := some p) hsl hei h0.symm hcell hvl hn0 (by simp [storeCells, Sem.run_pure]), h⟩
    . have hpp := hpe (by omega)
      subst hpp
      obtain ⟨w', h', hK, hrun, hR⟩ := putCells_sound (P := P) h hb (hvs.take (min n dn * ei.size)) (fun u hu => hv1 u (List.mem_of_mem_take hu)) (hp h0)
      exact ⟨_, _, w', _, hK, by simp only [VR, goInt], copy_step (P := P) hT (t2 := t2) (ty := ty) (dn := dn) (dc := dc) (c := cap) (q := some _) hsl hei rfl hcell hvl hn0 hrun, hR⟩
  . rename_i nb id dn n ys hsrc
    obtain ⟨hyl, hz, hp⟩ := hs
    obtain ⟨ao, cap, vs, rfl, hvs, hv1, hn0, hcell⟩ := src_sound h hy hsrc hyl
    have hvl : vs.length = n * ei.size := by rw [hvs.length, hyl]
    simp only [VR] at hx
    rcases hx with ⟨rfl, _, rfl | ⟨_, a', rfl⟩⟩ | ⟨_, b, c, hb, hle, rfl⟩
    . exact ⟨_, _, w, _, hz (by omega), by simp only [VR, goInt]; rfl, copy_step (P := P) hT (t2 := t2) (ty := ty) (c := cap) (k := 0) (q := none) hsl hei (by simp) hcell hvl hn0 (by simp [Sem.run_pure]), h⟩
    . exact ⟨_, _, w, _, hz (by omega), by simp only [VR, goInt]; rfl, copy_step (P := P) hT (t2 := t2) (ty := ty) (c := cap) (k := 0) (q := some _) hsl hei (by simp) hcell hvl hn0 (by simp [storeCells, Sem.run_pure]), h⟩
    rcases Nat.eq_zero_or_pos (min n dn) with h0 | h0
    . exact ⟨_, _, w, _, hz h0, by simp only [VR, goInt]; rfl, copy_step (P := P) hT (t2 := t2) (ty := ty) (dn := dn) (c := cap) (k := 0) (q := some _) hsl hei h0.symm hcell hvl hn0 (by simp [storeCells, Sem.run_pure]), h⟩
    . obtain ⟨w', h', hK, hrun, hR⟩ := putCells_sound (P := P) h hb (hvs.take (min n dn * ei.size)) (fun u hu => hv1 u (List.mem_of_mem_take hu)) (hp h0)
      exact ⟨_, _, w', _, hK, by simp only [VR, goInt], copy_step (P := P) hT (t2 := t2) (ty := ty) (dn := dn) (c := cap) (q := some _) hsl hei rfl hcell hvl hn0 hrun, hR⟩
  . rename_i n ys hsrc
    obtain ⟨hyl, hz⟩ := hs
    obtain ⟨ao, cap, vs, rfl, hvs, hv1, hn0, hcell⟩ := src_sound h hy hsrc hyl
    have hvl : vs.length = n * ei.size := by rw [hvs.length, hyl]
    simp only [VR] at hx
    subst hx
    exact ⟨_, _, w, _, hz, by simp only [VR, goInt]; rfl, copy_step (P := P) hT (t2 := t2) (ty := ty) (c := cap) (k := 0) (q := none) hsl hei (by simp) hcell hvl hn0 (by simp [Sem.run_pure]), h⟩
  . rename_i ex id off k dn cp
    split at hs <;> try exact hs.elim
    rename_i q ys hf
    have hs' := hs
    unfold cutPut at hs'
    split at hs' <;> try exact hs'.elim
    rename_i e' sz' cs ho
    obtain ⟨⟨rfl, hq, hpos, hoff, hle, hyl⟩, _⟩ := hs'
    obtain ⟨ao, n, cap, vs, rfl, hqn, hvs, hv1, hn0, hcell⟩ := first_sound h hy hf hyl
    have hvl : vs.length = q * ei.size := by rw [hvs.length, hyl]
    simp only [VR] at hx
    rcases hx with ⟨_, rfl, _⟩ | ⟨b, c, hb, hlc, hkc, _, rfl⟩
    . omega
    obtain ⟨w', h', hK, hrun, hR⟩ := cutPut_sound (P := P) h hb (by omega) hvs hv1 hs
    exact ⟨_, _, w', _, hK, by simp only [VR, goInt], copy_first (P := P) (t2 := t2) (ty := ty) (dn := dn) (dc := cp) (c := cap) hT hsl hei hqn hcell hvl hn0 hrun, hR⟩
def makeSliceA (T : TT) (h : List AObj) (t : TypeId) (l c : AV) (K : AV -> List AObj -> Prop) : Prop :=
  match T t with
  | some i => match i.k with
    | .sl e => match T e, l, c with
      | some ei, .int .i64 n, .int .i64 k => (n = k /\ 0 <= n /\ n <= 1073741824 /\ 0 < ei.size /\ ei.bytes <= 131072) /\ K (.ref false h.length n.toNat) (h ++ [.row e ei.size (zerosA n.toNat ei.size ei.zero)])
      | _, _, _ => False
    | _ => False
  | none => False
theorem makeSlice_sound (hT : TsOk P T) (h : R X D w0 mA r m st a w) {t : TypeId} {l c : AV} {u v : Value} (hl : VR r m l u) (hc : VR r m c v) {K : AV -> List AObj -> Prop} (hs : makeSliceA T st.heap t l c K) :
    ∃ y q w' r' h', K y h' /\ RLe r r' /\ VR r' m y q /\ (Instr.makeSlice t u v).run P w = .ok q w' /\ R X D w0 mA r' m { st with heap := h' } a w' := by
  unfold makeSliceA at hs
  split at hs <;> try exact hs.elim
  rename_i i hi
  split at hs <;> try exact hs.elim
  rename_i e hk
  split at hs <;> try exact hs.elim
  rename_i ei n k hei
  obtain ⟨⟨rfl, h0, h1, h2, h3⟩, hK⟩ := hs
  simp only [VR] at hl hc
  subst hl; subst hc
  have hsl := (hT t i hi).sl hk
  obtain ⟨inf, z, z1, z2, z3, z4, z5, z6, z7⟩ := (hT e ei hei).info
  have hzv' : VRs r m ei.zero z.cells.toList := z5.mono (fun _ _ hh => by simp at hh) (fun _ _ _ hh => by cases hh)
  have hzl : z.cells.size = ei.size := by have := z5.length; simp only [Array.length_toList] at this; omega
  have hzeros : VRs r m (zerosA n.toNat ei.size ei.zero) (madeCells z.cells (n.toNat * ei.size)).toList := zeros_sound hzv' z7 h2
  have h1' : ∀ u ∈ (madeCells z.cells (n.toNat * ei.size)).toList, u.oneCell' = true := by
    intro u hu
    simp only [madeCells, Array.toList_map, List.mem_map] at hu
    obtain ⟨j, _, rfl⟩ := hu
    have hlt : j % z.cells.size < z.cells.size := Nat.mod_lt _ (by omega)
    rw [getElem!_pos z.cells _ hlt]
    exact z6 _ (by simp)
  have hrun := run_make (P := P) w t e inf z hsl z1 z4 .i64 .i64 n n h0 (Int.le_refl _) (by rw [z3]; have := Int.mul_le_mul (a := (ei.bytes : Int)) (b := n) (c := 131072) (d := 1073741824) (by omega) h1 h0 (by omega); omega) (by omega)
  rw [z2] at hrun
  have hnew := rget_new r (w.heap.size, n.toNat) h.len
  have hcl : (zerosA n.toNat ei.size ei.zero).length = n.toNat * ei.size := by simp [zerosA]
  refine ⟨_, _, _, _, _, hK, RLe.app r [(w.heap.size, n.toNat)], ?_, hrun, h.fresh (World.grownBy_alloc w _ none) (by simp) (.inr ⟨_, _, _, hnew, heap_new w _, ?_, by unfold maxLen; omega, by simp [madeCells], by rw [hcl]; simp [madeCells], ?_⟩)⟩
  . simp only [VR]
    rcases Nat.eq_zero_or_pos n.toNat with hz | hz
    . exact .inl ⟨hz, ⟨_, hnew⟩, .inr ⟨trivial, ⟨w.heap.size, 0, none⟩, by rw [hz]⟩⟩
    . exact .inr ⟨hz, _, _, hnew, Nat.le_refl _, rfl⟩
  . intro u hu
    exact h1' u (List.mem_of_mem_take hu)
  . rw [List.take_of_length_le (by rw [hcl]; simp [madeCells])]
    exact hzeros.mono (RLe.app _ _) (MLe.refl m)

def makeChanA (T : TT) (h : List AObj) (t : TypeId) (s : AV) (K : AV -> List AObj -> Prop) : Prop :=
  match T t with
  | some i => match i.k with
    | .ch e => match T e, s with
      | some ei, .int .i64 n => (0 <= n /\ n <= 65536 /\ ei.bytes <= 131072) /\ K (.chn h.length) (h ++ [.chan n.toNat false []])
      | _, _ => False
    | _ => False
  | none => False
theorem makeChan_sound (hT : TsOk P T) (h : R X D w0 mA r m st a w) {t : TypeId} {l : AV} {u : Value} (hl : VR r m l u) {K : AV -> List AObj -> Prop} (hs : makeChanA T st.heap t l K) :
    ∃ y q w' r' h', K y h' /\ RLe r r' /\ VR r' m y q /\ (Instr.makeChan t u).run P w = .ok q w' /\ R X D w0 mA r' m { st with heap := h' } a w' := by
  unfold makeChanA at hs
  split at hs <;> try exact hs.elim
  rename_i i hi
  split at hs <;> try exact hs.elim
  rename_i e hk
  split at hs <;> try exact hs.elim
  rename_i ei n hei
  obtain ⟨⟨h0, h1, h2⟩, hK⟩ := hs
  simp only [VR] at hl
  subst hl
  have hkd := (hT t i hi).kind
  rw [hk] at hkd
  obtain ⟨d, hch⟩ := hkd
  obtain ⟨inf, z, z1, z2, z3, z4, z5, z6, z7⟩ := (hT e ei hei).info
  have hnew := rget_new r (w.heap.size, 0) h.len
  have hb : (inf.bytes : Int) * n <= 131072 * 65536 := by rw [z3]; exact Int.mul_le_mul (by omega) h1 h0 (by omega)
  have hrun : (Instr.makeChan t (.int .i64 n)).run P w = .ok (.chan (some w.heap.size)) (w.alloc (.chan n.toNat #[] false 0 0 false)) := by
    have e1 : (typeInfo e).run P w = .ok inf w := by simp [typeInfo, program, Sem.run, z1, Sem.run_bind, Result.andThen, Sem.run_pure]
    have e2 : ∀ o, (newObj o).run P w = .ok w.heap.size (w.alloc o) := fun o => rfl
    have e3 : ¬ (n < 0 \/ n > IntKind.i64.max \/ (inf.bytes : Int) * n > 2 ^ 48 - 112) := by
      have : IntKind.i64.max = 9223372036854775807 := by decide
      rw [this]; omega
    have e4 : (asInt (.int .i64 n)).run P w = .ok n w := by simp [asInt, asIntOf, Sem.run_pure]
    simp only [Instr.makeChan, Sem.run_bind, e4, Result.andThen_ok, run_underlying hch, e1]
    rw [if_neg e3]
    simp only [Sem.run_bind, Sem.run_pure, Result.andThen_ok, e2]
  refine ⟨_, _, _, _, _, hK, RLe.app r [(w.heap.size, 0)], ?_, hrun, h.fresh (World.grownBy_alloc w _ none) (by simp) ⟨_, _, #[], 0, 0, hnew, heap_new w _, VRs.nil⟩⟩
  simp only [VR]
  exact ⟨_, _, hnew, rfl⟩

def closeA (h : List AObj) (x : AV) (K : AV -> List AObj -> Prop) : Prop :=
  match x with
  | .chn id => match h[id]? with
    | some (.chan cap false buf) => K (.tup []) (h.set id (.chan cap true buf))
    | _ => False
  | _ => False
theorem close_sound (h : R X D w0 mA r m st a w) {ts : Array TypeId} {ty : TypeId} {x : AV} {v : Value} (hx : VR r m x v) {K : AV -> List AObj -> Prop} (hs : closeA st.heap x K) :
    ∃ y q w' h', K y h' /\ VR r m y q /\ (Builtin.close_ ts ty #[v]).run P w = .ok q w' /\ R X D w0 mA r m { st with heap := h' } a w' := by
  unfold closeA at hs
  split at hs <;> try exact hs.elim
  rename_i id
  split at hs <;> try exact hs.elim
  rename_i cap buf ho
  simp only [VR] at hx
  obtain ⟨b, c, hb, rfl⟩ := hx
  obtain ⟨b', c', bv, s, rc, e1, e2, e3⟩ := h.obj id _ ho
  rw [hb] at e1; cases e1
  have hlt := (Array.getElem?_eq_some_iff.1 e2).1
  refine ⟨_, .tuple #[], w.putObj b (.chan cap bv true s rc false), _, hs, by simp only [VR, VRs]; exact ⟨#[], rfl, rfl⟩, ?_, h.modify ho rfl hb (grownBy_putObj' w b _) ⟨b, c, bv, s, rc, hb, World.putObj_heap_same hlt, e3⟩⟩
  exact run_close_open ts ty e2
end
end Go.Lat
namespace Go.Lat
open Go.RowKit

def FW (ro : Option Nat) : Fence := { Fence.wide with round := ro }

theorem callsIn_FW {ro : Option Nat} {n : Nat} {P : Program} {f : FuncId} {args : Array Value} {w : World} {Q : Ending -> World -> Prop} (h : Calls P f args w Q) : CallsIn (FW ro) n P f args w Q :=
  (callsIn_wide (n := n)).2 h

def opR (T : TT) (o : Op) (ev : Operand -> AV) (h : List AObj) (K : AV -> List AObj -> Prop) : Prop :=
  match o with
  | .move x => K (ev x) h
  | .assign x => K (ev x) h
  | .pick c a b => match ev c, ev a, ev b with
    | .bool t, .bool x, .bool y => K (.bool (if t then x else y)) h
    | .bool true, x, _ => K x h
    | .bool false, _, y => K y h
    | _, _, _ => False
  | .alloc t => allocA T h t K
  | .box t x => boxA h t (ev x) K
  | .build t parts => buildA T t (parts.toList.map fun p => (p.1, ev p.2)) (fun v => K v h)
  | .buildSlice t len parts => buildSliceA T h t len (parts.toList.map fun p => (p.1, ev p.2)) K
  | .load t x => loadA T h t (ev x) K
  | .store t x y => storeA T h t (ev x) (ev y) K
  | .nilCheck x => match ev x with
    | .ptr id off => K (.ptr id off) h
    | .ipt fl cs => K (.ipt fl cs) h
    | .clo f a b => K (.clo f a b) h
    | _ => False
  | .binOp op t x y _ => if nilC op y = true then nilEqA T t (op == .neq) (ev x) (fun v => K v h) else binA T op t (ev x) (ev y) (fun v => K v h)
  | .unOp op _ x => unA op (ev x) (fun v => K v h)
  | .convert s d x => convA T s d (ev x) (fun v => K v h)
  | .makeFunc (.func f) first caps => K (.clo f (first.toList.map ev) (caps.toList.map ev)) h
  | .slice t x lo hi mx => sliceA T t (ev x) (lo.map ev) (hi.map ev) (mx.map ev) (fun v => K v h)
  | .fieldAddr s x f => fieldAddrA T s (ev x) f (fun v => K v h)
  | .field s x f => fieldA T s (ev x) f (fun v => K v h)
  | .indexAddr t x i => indexAddrA T t (ev x) (ev i) (fun v => K v h)
  | .index t x i => indexA T t (ev x) (ev i) (fun v => K v h)
  | .makeSlice t l c => makeSliceA T h t (ev l) (ev c) K
  | .makeChan t s => makeChanA T h t (ev s) K
  | .extract x i => match ev x with
    | .tup cs => i < cs.length /\ K (cs.getD i .any) h
    | _ => False
  | .call c => match c.callee with
    | .builtin b => match b, c.args.toList, c.argTypes.toList with
      | .len, [x], [t] => lenA T t (ev x) (fun v => K v h)
      | .min, [x, y], _ => minA (ev x) (ev y) (fun v => K v h)
      | .max, [x, y], _ => maxA (ev x) (ev y) (fun v => K v h)
      | .append, [x, y], [t, t'] => t = t' /\ appendA T h t (ev x) (ev y) K
      | .copy, [x, y], [t, _] => copyA T h t (ev x) (ev y) K
      | .close, [x], _ => closeA h (ev x) K
      | .cap, [x], [t] => capA T t (ev x) (fun v => K v h)
      | _, _, _ => False
    | _ => False
  | _ => False

section
variable {X : Nat -> Prop} {D : List Deferred × Rho} {w0 : World} {mA : Mem} {r : Rho} {m : MM} {st : St} {a : Act} {w w' : World} {P : Program} {T : TT}

def Done (X : Nat -> Prop) (D : List Deferred × Rho) (w0 : World) (mA : Mem) (r : Rho) (m : MM) (st : St) (a : Act) (w : World) (P : Program) (o : Oper) (K : AV -> List AObj -> Prop) : Prop :=
  ∃ y u w' r' h' nx, K y h' /\ RLe r r' /\ VR r' m y u /\ (execOp a.eval o).run P w = .ok nx w' /\ (nx = .value u \/ (nx = .skip /\ u = undef)) /\ R X D w0 mA r' m { st with heap := h' } a w'

theorem VRs_map (h : R X D w0 mA r m st a w) : ∀ (l : List Operand), VRs r m (l.map st.eval) (l.map a.eval)
  | [] => VRs.nil
  | x :: l => by simp only [List.map_cons, VRs]; exact ⟨_, _, rfl, h.eval x, VRs_map h l⟩
theorem VRs_map2 (h : R X D w0 mA r m st a w) : ∀ (l : List (Nat × Operand)), VRs r m ((l.map fun p => (p.1, st.eval p.2)).map (·.2)) ((l.map fun p => (p.1, a.eval p.2)).map (·.2))
  | [] => VRs.nil
  | x :: l => by simp only [List.map_cons, VRs]; exact ⟨_, _, rfl, h.eval x.2, VRs_map2 h l⟩

theorem opR_sound (hT : TsOk P T) (hR : R X D w0 mA r m st a w) (o : Oper) {K : AV -> List AObj -> Prop} (h : opR T o.op st.eval st.heap K) : Done X D w0 mA r m st a w P o K := by
  have same : ∀ {y : AV} {u : Value}, K y st.heap -> VR r m y u -> (execOp a.eval o).run P w = .ok (.value u) w -> Done X D w0 mA r m st a w P o K := fun hK hv hr =>
    ⟨_, _, w, r, _, _, hK, RLe.refl r, hv, hr, .inl rfl, hR⟩
  unfold opR at h
  split at h
  . rename_i x hop
    exact same h (hR.eval x) (by simp [execOp, hop])
  . rename_i x hop
    exact same h (hR.eval x) (by simp [execOp, hop])
  . rename_i c x y hop
    have hc := hR.eval c
    have hx := hR.eval x
    have hy := hR.eval y
    split at h
    . rename_i t p q e1 e2 e3
      rw [e1] at hc; rw [e2] at hx; rw [e3] at hy
      simp only [VR] at hc hx hy
      refine same h (u := .bool (if t then p else q)) (by simp only [VR]) ?_
      cases t <;> simp [execOp, hop, hc, hx, hy, asBool]
    . rename_i e1 _
      rw [e1] at hc
      simp only [VR] at hc
      exact same h hx (by simp [execOp, hop, hc, asBool])
    . rename_i e1 _
      rw [e1] at hc
      simp only [VR] at hc
      exact same h hy (by simp [execOp, hop, hc, asBool])
    . exact h.elim
  . rename_i t hop
    obtain ⟨y, u, w', r', h', hK, hr, hv, hrun, hR'⟩ := alloc_sound (P := P) hT hR h
    exact ⟨y, u, w', r', h', _, hK, hr, hv, by simp only [execOp, hop, Sem.run_bind, hrun, Result.andThen_ok, Sem.run_pure], .inl rfl, hR'⟩
  . rename_i t x hop
    obtain ⟨y, u, w', r', h', hK, hr, hv, hrun, hR'⟩ := box_sound (P := P) hR (hR.eval x) h
    exact ⟨y, u, w', r', h', _, hK, hr, hv, by simp only [execOp, hop, Sem.run_bind, hrun, Result.andThen_ok, Sem.run_pure], .inl rfl, hR'⟩
  . rename_i t parts hop
    obtain ⟨y, u, hK, hv, hrun⟩ := build_sound (P := P) (w := w) hT (parts' := parts.toList.map fun p => (p.1, a.eval p.2)) (by simp) (VRs_map2 hR parts.toList) h
    refine same hK hv ?_
    have e : (parts.toList.map fun p => (p.1, a.eval p.2)).toArray = parts.map fun p => (p.1, a.eval p.2) := by simp [<- List.map_toArray]
    rw [e] at hrun
    simp only [execOp, hop, Sem.run_bind, hrun, Result.andThen_ok, Sem.run_pure]
  . rename_i t len parts hop
    obtain ⟨y, u, w', r', h', hK, hr, hv, hrun, hR'⟩ := buildSlice_sound (P := P) hT hR (parts' := parts.toList.map fun p => (p.1, a.eval p.2)) (by simp) (VRs_map2 hR parts.toList) h
    have e : (parts.toList.map fun p => (p.1, a.eval p.2)).toArray = parts.map fun p => (p.1, a.eval p.2) := by simp [<- List.map_toArray]
    rw [e] at hrun
    exact ⟨y, u, w', r', h', _, hK, hr, hv, by simp only [execOp, hop, Sem.run_bind, hrun, Result.andThen_ok, Sem.run_pure], .inl rfl, hR'⟩
  . rename_i t x hop
    obtain ⟨y, u, hK, hv, hrun⟩ := load_sound (P := P) hT hR (hR.eval x) h
    exact same hK hv (by simp only [execOp, hop, Sem.run_bind, hrun, Result.andThen_ok, Sem.run_pure])
  . rename_i t x y hop
    obtain ⟨w', h', hK, hrun, hR'⟩ := store_sound (P := P) hT hR (hR.eval x) (hR.eval y) h
    exact ⟨_, undef, w', r, h', _, hK, RLe.refl r, by simp only [VR], by simp only [execOp, hop, Sem.run_bind, hrun, Result.andThen_ok, Sem.run_pure], .inr ⟨rfl, rfl⟩, hR'⟩
  . rename_i x hop
    have hx := hR.eval x
    split at h
    . rename_i id off e
      rw [e] at hx
      have hx' := hx
      simp only [VR] at hx
      obtain ⟨b, c, _, hv⟩ := hx
      exact same h hx' (by simp [execOp, hop, hv])
    . rename_i fl cs e
      rw [e] at hx
      have hx' := hx
      simp only [VR] at hx
      obtain ⟨p, vs, hv, _⟩ := hx
      exact same h hx' (by simp [execOp, hop, hv])
    . rename_i f b c e
      rw [e] at hx
      have hx' := hx
      simp only [VR] at hx
      obtain ⟨p, q, hv, _⟩ := hx
      exact same h hx' (by simp [execOp, hop, hv])
    . exact h.elim
  . rename_i op t x y ty hop
    split at h
    . rename_i hn
      have key : (op = .eql \/ op = .neq) /\ y = .const (.slice none 0 0) := by
        unfold nilC at hn
        split at hn
        . exact ⟨.inl rfl, rfl⟩
        . exact ⟨.inr rfl, rfl⟩
        . cases hn
      obtain ⟨hop', rfl⟩ := key
      have fin : ∀ z q, K z st.heap -> VR r m z q -> (do eqGuard op t x (.const (.slice none 0 0)) (a.eval x) (.slice none 0 0); binOp op t (a.eval x) (.slice none 0 0) : Sem Value).run P w = .ok q w -> Done X D w0 mA r m st a w P o K := by
        intro z q hK hv hrun
        refine same hK hv ?_
        simp only [execOp, hop]
        have e : a.eval (.const (.slice none 0 0)) = .slice none 0 0 := rfl
        rw [e, Sem.run_bind, hrun]
        simp [Sem.run_pure]
      rcases hop' with rfl | rfl
      . obtain ⟨z, q, hK, hv, hrun⟩ := nilEq_sound (P := P) (w := w) (neg := false) (xo := x) (yo := .const (.slice none 0 0)) hT rfl (hR.eval x) h
        exact fin z q hK hv hrun
      . obtain ⟨z, q, hK, hv, hrun⟩ := nilEq_sound (P := P) (w := w) (neg := true) (xo := x) (yo := .const (.slice none 0 0)) hT rfl (hR.eval x) h
        exact fin z q hK hv hrun
    obtain ⟨z, q, hK, hv, hrun⟩ := bin_sound (P := P) (w := w) (xo := x) (yo := y) hT (hR.eval x) (hR.eval y) h
    refine same hK hv ?_
    simp only [execOp, hop]
    rw [Sem.run_bind, hrun]
    simp [Sem.run_pure]
  . rename_i op t x hop
    obtain ⟨z, q, hK, hv, hrun⟩ := un_sound (P := P) (w := w) (hR.eval x) h
    exact same hK hv (by simp only [execOp, hop, Sem.run_bind, hrun, Result.andThen_ok, Sem.run_pure])
  . rename_i s d x hop
    obtain ⟨z, q, hK, hv, hrun⟩ := conv_sound (P := P) (w := w) hT (hR.eval x) h
    exact same hK hv (by simp only [execOp, hop, Sem.run_bind, hrun, Result.andThen_ok, Sem.run_pure])
  . rename_i f first caps hop
    refine same h (u := .func (.func f) (first.map a.eval) (caps.map a.eval)) ?_ (by simp [execOp, hop, Instr.makeFunc])
    simp only [VR]
    exact ⟨_, _, rfl, by simpa using VRs_map hR first.toList, by simpa using VRs_map hR caps.toList⟩
  . rename_i t x lo hi mx hop
    have opt : ∀ (o : Option Operand) (x : AV), o.map st.eval = some x -> ∃ v, o.map a.eval = some v /\ VR r m x v := by
      intro o x hx
      cases o with
      | none => simp at hx
      | some y => simp at hx; subst hx; exact ⟨_, rfl, hR.eval y⟩
    have opt0 : ∀ (o : Option Operand), o.map st.eval = none -> o.map a.eval = none := by
      intro o ho; cases o <;> simp_all
    obtain ⟨y, u, hK, hv, hrun⟩ := slice_sound (P := P) (w := w) hT (hR.eval x) (opt lo) (opt0 lo) (opt hi) (opt0 hi) (opt mx) (opt0 mx) h
    exact same hK hv (by simp only [execOp, hop, Sem.run_bind, hrun, Result.andThen_ok, Sem.run_pure])
  . rename_i s x f hop
    obtain ⟨y, u, hK, hv, hrun⟩ := fieldAddr_sound (P := P) (w := w) hT (hR.eval x) h
    exact same hK hv (by simp only [execOp, hop, Sem.run_bind, hrun, Result.andThen_ok, Sem.run_pure])
  . rename_i s x f hop
    obtain ⟨y, u, hK, hv, hrun⟩ := field_sound (P := P) (w := w) hT (hR.eval x) h
    exact same hK hv (by simp only [execOp, hop, Sem.run_bind, hrun, Result.andThen_ok, Sem.run_pure])
  . rename_i t x i hop
    obtain ⟨y, u, hK, hv, hrun⟩ := indexAddr_sound (P := P) (w := w) hT (hR.eval x) (hR.eval i) h
    exact same hK hv (by simp only [execOp, hop, Sem.run_bind, hrun, Result.andThen_ok, Sem.run_pure])
  . rename_i t x i hop
    obtain ⟨y, u, hK, hv, hrun⟩ := index_sound (P := P) (w := w) hT (hR.eval x) (hR.eval i) h
    exact same hK hv (by simp only [execOp, hop, Sem.run_bind, hrun, Result.andThen_ok, Sem.run_pure])
  . rename_i t l c hop
    obtain ⟨y, u, w', r', h', hK, hr, hv, hrun, hR'⟩ := makeSlice_sound (P := P) hT hR (hR.eval l) (hR.eval c) h
    exact ⟨y, u, w', r', h', _, hK, hr, hv, by simp only [execOp, hop, Sem.run_bind, hrun, Result.andThen_ok, Sem.run_pure], .inl rfl, hR'⟩
  . rename_i t s hop
    obtain ⟨y, u, w', r', h', hK, hr, hv, hrun, hR'⟩ := makeChan_sound (P := P) hT hR (hR.eval s) h
    exact ⟨y, u, w', r', h', _, hK, hr, hv, by simp only [execOp, hop, Sem.run_bind, hrun, Result.andThen_ok, Sem.run_pure], .inl rfl, hR'⟩
  . rename_i x i hop
    have hx := hR.eval x
    split at h
    . rename_i cs e
      rw [e] at hx
      simp only [VR] at hx
      obtain ⟨arr, hv, hvs⟩ := hx
      have h0 : cs[i]? = some (cs.getD i .any) := by simp [List.getD, List.getElem?_eq_getElem h.1]
      obtain ⟨u, hu, hru⟩ := hvs.get i _ h0
      have hu' : arr[i]? = some u := by simpa using hu
      exact same h.2 hru (by simp [execOp, hop, hv, Instr.extract, hu'])
    . exact h.elim
  . rename_i c hop
    split at h
    case h_2 => exact h.elim
    rename_i b hcal
    obtain ⟨callee, args, argTypes⟩ := c
    obtain ⟨args⟩ := args
    obtain ⟨argTypes⟩ := argTypes
    simp only at hcal h
    subst hcal
    split at h
    . rename_i x t
      obtain ⟨y, u, hK, hv, hrun⟩ := len_sound (P := P) (w := w) (ty := o.type) hT (hR.eval x) h
      exact same hK hv (by simp [execOp, hop, resolve, invoke, builtin, hrun])
    . rename_i x y
      obtain ⟨z, u, hK, hv, hrun⟩ := min_sound (P := P) (w := w) (ts := argTypes.toArray) (ty := o.type) (hR.eval x) (hR.eval y) h
      exact same hK hv (by simp [execOp, hop, resolve, invoke, builtin, hrun])
    . rename_i x y
      obtain ⟨z, u, hK, hv, hrun⟩ := max_sound (P := P) (w := w) (ts := argTypes.toArray) (ty := o.type) (hR.eval x) (hR.eval y) h
      exact same hK hv (by simp [execOp, hop, resolve, invoke, builtin, hrun])
    . rename_i x y t t'
      obtain ⟨rfl, h⟩ := h
      obtain ⟨y', u, w', r', h', hK, hr, hv, hrun, hR'⟩ := append_sound (P := P) (ty := o.type) hT hR (hR.eval x) (hR.eval y) h
      exact ⟨y', u, w', r', h', _, hK, hr, hv, by simp [execOp, hop, resolve, invoke, builtin, hrun], .inl rfl, hR'⟩
    . rename_i x y t t'
      obtain ⟨y', u, w', h', hK, hv, hrun, hR'⟩ := copy_sound (P := P) (t2 := t') (ty := o.type) hT hR (hR.eval x) (hR.eval y) h
      exact ⟨y', u, w', r, h', _, hK, RLe.refl r, hv, by simp [execOp, hop, resolve, invoke, builtin, hrun], .inl rfl, hR'⟩
    . rename_i x
      obtain ⟨y', u, w', h', hK, hv, hrun, hR'⟩ := close_sound (P := P) (ts := argTypes.toArray) (ty := o.type) hR (hR.eval x) h
      exact ⟨y', u, w', r, h', _, hK, RLe.refl r, hv, by simp [execOp, hop, resolve, invoke, builtin, hrun], .inl rfl, hR'⟩
    . rename_i x t
      obtain ⟨y, u, hK, hv, hrun⟩ := cap_sound (P := P) (w := w) (ty := o.type) hT (hR.eval x) h
      exact same hK hv (by simp [execOp, hop, resolve, invoke, builtin, hrun])
    . exact h.elim
  . exact h.elim
end
end Go.Lat
namespace Go.Lat
open Go.RowKit

def conv : Nat -> List AObj -> AV -> AV
  | _, _, .int k n => .int k n
  | _, _, .bool b => .bool b
  | _, _, .nilS => .nilS
  | _, _, .nilP => .nilP
  | _, _, .nilF => .nilF
  | _, _, .lst _ n cs => .lst true n cs
  | _, _, .ipt _ cs => .ipt true cs
  | k + 1, h, .agg cs => .agg (cs.map (conv k h))
  | k + 1, h, .tup cs => .tup (cs.map (conv k h))
  | k + 1, h, .clo f a b => .clo f (a.map (conv k h)) (b.map (conv k h))
  | k + 1, h, .ref _ id n => match h[id]? with
    | some (.row _ sz cs) => .lst true n ((cs.take (n * sz)).map (conv k h))
    | _ => .any
  | k + 1, h, .sub id off n => match h[id]? with
    | some (.row _ _ cs) => .lst true n (if n = 0 then [] else (cs.drop off).map (conv k h))
    | some (.box _ cs) => .lst true n (if n = 0 then [] else (cs.drop off).map (conv k h))
    | _ => .any
  | k + 1, h, .ptr id off => match h[id]? with
    | some (.row _ _ cs) => .ipt true ((cs.drop off).map (conv k h))
    | some (.box _ cs) => .ipt true ((cs.drop off).map (conv k h))
    | _ => .any
  | _, _, _ => .any

open Classical in
noncomputable def memAll (r : Rho) (m : MM) (h : List AObj) (w : World) : Mem := fun p =>
  match m true p with
  | some v => some v
  | none => if ∃ (i : Nat) (o : AObj) (c : Nat), h[i]? = some o /\ o.live = true /\ r[i]? = some (p.block, c) then w.cell? p else none

section
variable {X : Nat -> Prop} {D : List Deferred × Rho} {w0 : World} {mA : Mem} {r : Rho} {m : MM} {st : St} {a : Act} {w w' : World} {P : Program} {T : TT}

theorem block_add (p : Addr) (n : Nat) : (p.add n).block = p.block := by unfold Addr.add; split <;> rfl

theorem memAll_ok (h : R X D w0 mA r m st a w) : ∀ p v, memAll r m st.heap w p = some v -> w.cell? p = some v /\ p.block < w.heap.size := by
  intro p v hp
  unfold memAll at hp
  split at hp
  . rename_i u hu
    cases hp
    exact h.mem p _ hu
  . split at hp
    . rename_i hex
      obtain ⟨i, o, c, ho, hl, hr⟩ := hex
      exact ⟨hp, h.lt i o _ c ho hl hr⟩
    . cases hp

theorem memAll_old (h : R X D w0 mA r m st a w) {fl : Bool} {p : Addr} {v : Value} (hv : m fl p = some v) : memAll r m st.heap w p = some v := by
  have := h.lowS fl hv
  unfold memAll
  rw [this]

theorem memAll_own (h : R X D w0 mA r m st a w) {i : Nat} {o : AObj} {b c : Nat} (ho : st.heap[i]? = some o) (hl : o.live = true) (hr : r[i]? = some (b, c)) {p : Addr} {v : Value} (hb : p.block = b) (hv : w.cell? p = some v) :
    memAll r m st.heap w p = some v := by
  unfold memAll
  split
  . rename_i u hu
    rw [<- hv, (h.mem p u hu).1]
  . rw [if_pos ⟨i, o, c, ho, hl, hb ▸ hr⟩]
    exact hv

mutual
theorem cv_sound (h : R X D w0 mA r m st a w) : ∀ (k : Nat) (x : AV) (v : Value), VR r m x v -> VR [] (nest (memAll r m st.heap w)) (conv k st.heap x) v
  | 0, x, v, hv => by
    cases x <;> simp only [conv, VR] at hv ⊢ <;> try exact hv
    case lst fl n cs =>
      rcases hv with hv | ⟨p, cap, vs, h1, h2, h3, h4⟩
      . exact .inl hv
      exact .inr ⟨p, cap, vs, h1, h2, fun i u hu => ⟨memAll_old h (h3 i u hu).1, (h3 i u hu).2⟩, h4.mono (RLe.refl []) (fun b p v hv => by cases b with | true => exact memAll_old h hv | false => cases hv)⟩
    case ipt fl cs =>
      obtain ⟨p, vs, h2, h3, h4⟩ := hv
      exact ⟨p, vs, h2, fun i u hu => ⟨memAll_old h (h3 i u hu).1, (h3 i u hu).2⟩, h4.mono (RLe.refl []) (fun b p v hv => by cases b with | true => exact memAll_old h hv | false => cases hv)⟩
  | k + 1, x, v, hv => by
    have nn : nest (nest (memAll r m st.heap w) true) = nest (memAll r m st.heap w) := rfl
    cases x <;> simp only [conv, VR] at hv ⊢ <;> try exact hv
    case agg cs =>
      obtain ⟨arr, h1, h2, h3⟩ := hv
      exact ⟨arr, h1, h2, cvs_sound h k cs _ h3⟩
    case tup cs =>
      obtain ⟨arr, h1, h3⟩ := hv
      exact ⟨arr, h1, cvs_sound h k cs _ h3⟩
    case clo f b c =>
      obtain ⟨x, y, h1, h2, h3⟩ := hv
      exact ⟨x, y, h1, cvs_sound h k b _ h2, cvs_sound h k c _ h3⟩
    case lst fl n cs =>
      rcases hv with hv | ⟨p, cap, vs, h1, h2, h3, h4⟩
      . exact .inl hv
      exact .inr ⟨p, cap, vs, h1, h2, fun i u hu => ⟨memAll_old h (h3 i u hu).1, (h3 i u hu).2⟩, h4.mono (RLe.refl []) (fun b p v hv => by cases b with | true => exact memAll_old h hv | false => cases hv)⟩
    case ipt fl cs =>
      obtain ⟨p, vs, h2, h3, h4⟩ := hv
      exact ⟨p, vs, h2, fun i u hu => ⟨memAll_old h (h3 i u hu).1, (h3 i u hu).2⟩, h4.mono (RLe.refl []) (fun b p v hv => by cases b with | true => exact memAll_old h hv | false => cases hv)⟩
    case ref nb id n =>
      rcases ho : st.heap[id]? with _ | o
      . simp only [VR]
      . cases o <;> simp only [VR]
        rename_i t sz cs
        rcases hv with ⟨h0, _, rfl | ⟨_, a', rfl⟩⟩ | ⟨hn0, b, c, hb, hle, rfl⟩
        . exact .inl ⟨h0, rfl⟩
        . refine .inr ⟨a', 0, [], by omega, by rw [h0], Sealed.nil, ?_⟩
          subst h0
          rw [Nat.zero_mul, List.take_zero, List.map_nil]
          exact VRs.nil
        rcases h.obj id _ ho with rfl | ⟨b', c', cur, e1, h2, h0, h3, h4, h5, h6⟩
        . refine .inr ⟨_, _, [], hle, rfl, Sealed.nil, ?_⟩
          rw [List.take_nil, List.map_nil]
          exact VRs.nil
        rw [hb] at e1
        cases e1
        have hcp : 0 < cs.length \/ cs = [] := by
          rcases Nat.eq_zero_or_pos cs.length with h | h
          . exact .inr (List.eq_nil_of_length_eq_zero h)
          . exact .inl h
        rcases hcp with hcp | rfl
        case inr =>
          refine .inr ⟨_, _, [], hle, rfl, Sealed.nil, ?_⟩
          rw [List.take_nil, List.map_nil]
          exact VRs.nil
        have hlv := live_row (t := t) (sz := sz) hcp
        refine .inr ⟨_, _, (cur.toList.take cs.length).take (n * sz), hle, rfl, ?_, cvs_sound h k _ _ (h6.take _)⟩
        intro i u hu
        have hu' : u ∈ cur.toList.take cs.length := List.mem_of_mem_take (List.mem_of_getElem? hu)
        refine ⟨memAll_own h ho hlv hb (block_add _ _) ?_, h0 u hu'⟩
        rw [Addr.add_lit]
        simp only [World.cell?, h2]
        rw [List.take_take, List.getElem?_take] at hu
        split at hu
        . simpa using hu
        . cases hu
    case sub id off n =>
      obtain ⟨b, c, p, cap, hb, hle, rfl, hp⟩ := hv
      rcases ho : st.heap[id]? with _ | o
      . simp only [VR]
      . cases o <;> simp only [VR]
        . rename_i t sz cs
          by_cases hn : n = 0
          . rw [if_pos hn]
            exact .inr ⟨p, cap, [], hle, rfl, Sealed.nil, VRs.nil⟩
          rcases Nat.eq_zero_or_pos cs.length with hcp | hcp
          . have : cs = [] := List.eq_nil_of_length_eq_zero hcp
            subst this
            rw [if_neg hn, List.drop_nil, List.map_nil]
            exact .inr ⟨p, cap, [], hle, rfl, Sealed.nil, VRs.nil⟩
          have hlv := live_row (t := t) (sz := sz) hcp
          rcases h.obj id _ ho with rfl | ⟨b', c', cur, e1, h2, h0, h3, h4, h5, h6⟩
          . cases hcp
          rw [hb] at e1
          cases e1
          . rw [if_neg hn]
            refine .inr ⟨_, _, (cur.toList.take cs.length).drop off, hle, rfl, ?_, cvs_sound h k _ _ (h6.drop _)⟩
            have hpp := hp (by omega)
            subst hpp
            intro i u hu
            have hu' : u ∈ cur.toList.take cs.length := List.mem_of_mem_drop (List.mem_of_getElem? hu)
            refine ⟨memAll_own h ho hlv hb (block_add _ _) ?_, h0 u hu'⟩
            rw [Addr.add_lit]
            simp only [World.cell?, h2]
            rw [List.getElem?_drop, List.getElem?_take] at hu
            split at hu
            . simpa using hu
            . cases hu
        . rename_i t cs
          obtain ⟨b', c', cur, e1, h2, h0, h6⟩ := h.obj id _ ho
          rw [hb] at e1
          cases e1
          by_cases hn : n = 0
          . rw [if_pos hn]
            exact .inr ⟨p, cap, [], hle, rfl, Sealed.nil, VRs.nil⟩
          . rw [if_neg hn]
            refine .inr ⟨_, _, cur.toList.drop off, hle, rfl, ?_, cvs_sound h k _ _ (h6.drop _)⟩
            have hpp := hp (by omega)
            subst hpp
            intro i u hu
            have hu' : u ∈ cur.toList := List.mem_of_mem_drop (List.mem_of_getElem? hu)
            refine ⟨memAll_own h ho rfl hb (block_add _ _) ?_, h0 u hu'⟩
            rw [Addr.add_lit]
            simp only [World.cell?, h2]
            rw [List.getElem?_drop] at hu
            simpa using hu
    case ptr id off =>
      obtain ⟨b, c, hb, rfl⟩ := hv
      rcases ho : st.heap[id]? with _ | o
      . simp only [VR]
      . cases o <;> simp only [VR]
        . rename_i t sz cs
          rcases Nat.eq_zero_or_pos cs.length with hcp | hcp
          . have : cs = [] := List.eq_nil_of_length_eq_zero hcp
            subst this
            rw [List.drop_nil, List.map_nil]
            exact ⟨_, [], rfl, Sealed.nil, VRs.nil⟩
          have hlv := live_row (t := t) (sz := sz) hcp
          rcases h.obj id _ ho with rfl | ⟨b', c', cur, e1, h2, h0, h3, h4, h5, h6⟩
          . cases hcp
          rw [hb] at e1
          cases e1
          refine ⟨_, (cur.toList.take cs.length).drop off, rfl, ?_, cvs_sound h k _ _ (h6.drop _)⟩
          intro i u hu
          have hu' : u ∈ cur.toList.take cs.length := List.mem_of_mem_drop (List.mem_of_getElem? hu)
          refine ⟨memAll_own h ho hlv hb (block_add _ _) ?_, h0 u hu'⟩
          rw [Addr.add_lit]
          simp only [World.cell?, h2]
          rw [List.getElem?_drop, List.getElem?_take] at hu
          split at hu
          . simpa using hu
          . cases hu
        . rename_i t cs
          obtain ⟨b', c', cur, e1, h2, h0, h6⟩ := h.obj id _ ho
          rw [hb] at e1
          cases e1
          refine ⟨_, cur.toList.drop off, rfl, ?_, cvs_sound h k _ _ (h6.drop _)⟩
          intro i u hu
          have hu' : u ∈ cur.toList := List.mem_of_mem_drop (List.mem_of_getElem? hu)
          refine ⟨memAll_own h ho rfl hb (block_add _ _) ?_, h0 u hu'⟩
          rw [Addr.add_lit]
          simp only [World.cell?, h2]
          rw [List.getElem?_drop] at hu
          simpa using hu
theorem cvs_sound (h : R X D w0 mA r m st a w) : ∀ (k : Nat) (xs : List AV) (vs : List Value), VRs r m xs vs -> VRs [] (nest (memAll r m st.heap w)) (xs.map (conv k st.heap)) vs
  | _, [], vs, hv => by simp only [VRs, List.map_nil] at hv ⊢; exact hv
  | k, x :: xs, vs, hv => by
    simp only [VRs, List.map_cons] at hv ⊢
    obtain ⟨v, vs', h1, h2, h3⟩ := hv
    exact ⟨v, vs', h1, cv_sound h k x v h2, cvs_sound h k xs vs' h3⟩
end
end
end Go.Lat
namespace Go.Lat
open Go.RowKit

def Callable (P : Program) (f : FuncId) : Prop := ∃ fn, P.funcs[f]? = some fn /\ (fn.name == "runtime.NumGoroutine") = false /\ fn.body.isNone = false

def FnS (P : Program) (f : FuncId) (args : List AV) (Post : AV -> Prop) : Prop :=
  Callable P f /\ ∀ (m : Mem) (w : World) (vs : List Value), (∀ p v, m p = some v -> w.cell? p = some v /\ p.block < w.heap.size) -> VRs [] (nest m) args vs →
    Calls P f vs.toArray w (fun e w' => ∃ v x mR, e = .returned v /\ w.grownBy w' none /\ Post x /\ VR [] (nest mR) x v ∧
      ∀ p u, mR p = some u -> w'.cell? p = some u /\ p.block < w'.heap.size /\ (w.heap.size <= p.block \/ m p = some u))

def FnP (P : Program) (f : FuncId) (args : List AV) (Post : AV -> Prop) : Prop :=
  Callable P f /\ ∀ (m : Mem) (w : World) (vs : List Value), (∀ p v, m p = some v -> w.cell? p = some v /\ p.block < w.heap.size) -> VRs [] (nest m) args vs →
    Calls P f vs.toArray w (fun e w' => ∃ v x mR, e = .returned v /\ w.grownBy w' none /\ Post x /\ VR [] (fun _ => mR) x v ∧
      ∀ p u, mR p = some u -> w'.cell? p = some u /\ p.block < w'.heap.size /\ w.heap.size <= p.block /\ w'.frozen? p = false)

theorem FnS.mono {P : Program} {f : FuncId} {args : List AV} {A B : AV -> Prop} (h : FnS P f args A) (hab : ∀ x, A x -> B x) : FnS P f args B :=
  ⟨h.1, fun m w vs hm hv => (h.2 m w vs hm hv).mono fun _ _ ⟨v, x, mR, h1, h2, h3, h4⟩ => ⟨v, x, mR, h1, h2, hab x h3, h4⟩⟩
theorem FnP.mono {P : Program} {f : FuncId} {args : List AV} {A B : AV -> Prop} (h : FnP P f args A) (hab : ∀ x, A x -> B x) : FnP P f args B :=
  ⟨h.1, fun m w vs hm hv => (h.2 m w vs hm hv).mono fun _ _ ⟨v, x, mR, h1, h2, h3, h4⟩ => ⟨v, x, mR, h1, h2, hab x h3, h4⟩⟩

def callR (P : Program) (c : Call) (st : St) (K : AV -> List AObj -> Prop) : Prop :=
  match c.callee with
  | .value f => match st.eval f with
    | .clo k fst caps =>
      (∃ Post, FnP P k ((fst ++ c.args.toList.map st.eval ++ caps).map (conv 6 st.heap)) Post /\ ∀ x, Post x -> K x st.heap) ∨
      (∃ Post, FnS P k ((fst ++ c.args.toList.map st.eval ++ caps).map (conv 6 [])) Post /\ ∀ x, Post x -> K x st.heap)
    | _ => False
  | _ => False

section
variable {X : Nat -> Prop} {D : List Deferred × Rho} {w0 : World} {mA : Mem} {r : Rho} {m : MM} {st : St} {a : Act} {w w' : World} {P : Program} {T : TT}

theorem R.kills (h : R X D w0 mA r m st a w) (hp : List AObj) (hl : hp.length = st.heap.length) (hk : ∀ (i : Nat) o, hp[i]? = some o -> o = .dead \/ st.heap[i]? = some o) : R X D w0 mA r m { st with heap := hp } a w := by
  have live : ∀ (i : Nat) o, hp[i]? = some o -> o.live = true -> st.heap[i]? = some o := fun i o ho hlv => by
    rcases hk i o ho with rfl | h1
    . cases hlv
    . exact h1
  refine { h with len := by rw [h.len]; exact hl.symm, lt := ?_, apart := ?_, obj := ?_, own := ?_, inj := ?_ }
  . exact fun i o b c ho hlv hr => h.lt i o b c (live i o ho hlv) hlv hr
  . exact fun p v hp i o b c ho hlv hr => h.apart p v hp i o b c (live i o ho hlv) hlv hr
  . intro i o ho
    rcases hk i o ho with rfl | h1
    . trivial
    . exact h.obj i o h1
  . exact fun i o b c ho hlv hr => h.own i o b c (live i o ho hlv) hlv hr
  . exact fun i j oi oj b c c' hi hj hli hlj => h.inj i j oi oj b c c' (live i oi hi hli) (live j oj hj hlj) hli hlj

theorem R.learn (h : R X D w0 mA r m st a w) {mR : Mem} {fl : Bool} (h1 : ∀ p u, mR p = some u -> w.cell? p = some u /\ p.block < w.heap.size)
    (h2 : ∀ p u, mR p = some u -> (w0.heap.size <= p.block /\ ∀ (i : Nat) o (b c : Nat), st.heap[i]? = some o -> o.live = true -> r[i]? = some (b, c) -> p.block ≠ b) \/ (fl = true /\ m true p = some u)) (h5 : fl = false -> ∀ p u, mR p = some u -> w.frozen? p = false) :
    ∃ m' : MM, MLe m m' /\ MLe (if fl then nest mR else fun _ => mR) m' /\ R X D w0 mA r m' st a w := by
  let m1 : Mem := fun p => match m true p with | some v => some v | none => mR p
  let m0 : Mem := fun p => match m false p with | some v => some v | none => if fl then none else mR p
  have e1 : ∀ p u, mR p = some u -> m1 p = some u := by
    intro p u hu
    show (match m true p with | some v => some v | none => mR p) = some u
    split
    . rename_i v hv
      rw [<- (h1 p u hu).1, (h.mem p v hv).1]
    . exact hu
  have e2 : ∀ p u, m1 p = some u -> m true p = some u \/ mR p = some u := by
    intro p u hu
    change (match m true p with | some v => some v | none => mR p) = some u at hu
    split at hu
    . rename_i v hv
      cases hu
      exact .inl hv
    . exact .inr hu
  have e3 : ∀ p u, m0 p = some u -> m false p = some u \/ (fl = false /\ mR p = some u) := by
    intro p u hu
    change (match m false p with | some v => some v | none => if fl then none else mR p) = some u at hu
    split at hu
    . rename_i v hv
      cases hu
      exact .inl hv
    . split at hu
      . cases hu
      . rename_i hf
        exact .inr ⟨by simpa using hf, hu⟩
  let m' : MM := fun b => if b then m1 else m0
  have le : MLe m m' := by
    intro b p v hv
    cases b with
    | true =>
      show m1 p = some v
      show (match m true p with | some v => some v | none => mR p) = some v
      rw [hv]
    | false =>
      show (match m false p with | some v => some v | none => if fl then none else mR p) = some v
      rw [hv]
  refine ⟨m', le, ?_, ?_⟩
  . intro b p u hu
    cases hfl : fl with
    | true =>
      rw [hfl] at hu
      cases b with
      | true => exact e1 p u hu
      | false => cases hu
    | false =>
      rw [hfl] at hu
      cases b with
      | true => exact e1 p u hu
      | false =>
        show (match m false p with | some v => some v | none => if fl then none else mR p) = some u
        split
        . rename_i v hv
          rw [<- (h1 p u hu).1, (h.mem p v (h.low p v hv)).1]
        . rw [hfl]; exact hu
  . refine { h with mem := ?_, low := ?_, newer := ?_, fz := fun p v hv => (e3 p v hv).elim (h.fz p v) fun h4 => h5 h4.1 p v h4.2, lim := ?_, apart := ?_, obj := ?_, tmps := ?_ }
    . intro p v hv
      rcases e2 p v hv with h3 | h3
      . exact h.mem p v h3
      . exact h1 p v h3
    . intro p v hv
      rcases e3 p v hv with h3 | ⟨_, h3⟩
      . exact le true p v (h.low p v h3)
      . exact e1 p v h3
    . intro p v hv
      rcases e3 p v hv with h3 | ⟨hf, h3⟩
      . exact h.newer p v h3
      . rcases h2 p v h3 with h4 | ⟨h4, _⟩
        . exact h4.1
        . rw [hf] at h4; cases h4
    . intro p v hv
      rcases e2 p v hv with h3 | h3
      . exact h.lim p v h3
      . rcases h2 p v h3 with h4 | ⟨_, h4⟩
        . exact .inr h4.1
        . exact h.lim p v h4
    . intro p v hv i o b c ho hl hr
      rcases e2 p v hv with h3 | h3
      . exact h.apart p v h3 i o b c ho hl hr
      . rcases h2 p v h3 with h4 | ⟨_, h4⟩
        . exact h4.2 i o b c ho hl hr
        . exact h.apart p v h4 i o b c ho hl hr
    . intro i o ho
      exact (h.obj i o ho).mono (RLe.refl r) le
    . exact fun t => (h.tmps t).mono (RLe.refl r) le

theorem cv0_sound (h : R X D w0 mA r m st a w) : ∀ (k : Nat) (x : AV) (v : Value), VR r m x v -> VR [] (nest (m true)) (conv k [] x) v := by
  have hk : R X D w0 mA r m { st with heap := st.heap.map fun _ => .dead } a w := h.kills _ (by simp) (fun i o ho => by
    rw [List.getElem?_map] at ho
    obtain ⟨_, _, rfl⟩ := Option.map_eq_some_iff.1 ho
    exact .inl rfl)
  have e : memAll r m (st.heap.map fun _ => AObj.dead) w = m true := by
    funext p
    unfold memAll
    split
    . rename_i v hv; rw [hv]
    . rename_i hn
      rw [hn, if_neg]
      rintro ⟨i, o, c, ho, hl, _⟩
      rw [List.getElem?_map] at ho
      obtain ⟨_, _, rfl⟩ := Option.map_eq_some_iff.1 ho
      cases hl
  have key : ∀ (k : Nat) (x : AV), conv k (st.heap.map fun _ => AObj.dead) x = conv k [] x := by
    intro k
    induction k with
    | zero => intro x; cases x <;> rfl
    | succ k ih =>
      have ih' : conv k (st.heap.map fun _ => AObj.dead) = conv k [] := funext ih
      intro x
      cases x <;> simp only [conv, ih']
      all_goals
        simp only [List.getElem?_map, List.getElem?_nil]
        rename_i id _
        first
          | (rcases st.heap[id]? with _ | o <;> simp; done)
          | (rename_i id _ _; rcases st.heap[id]? with _ | o <;> simp; done)
  intro k x v hv
  have := cv_sound hk k x v hv
  simp only at this
  rw [e, key] at this
  exact this

theorem vrs_map_conv {f : AV -> AV} {r : Rho} {m m' : MM} (h : ∀ x v, VR r m x v -> VR [] m' (f x) v) : ∀ (xs : List AV) (vs : List Value), VRs r m xs vs -> VRs [] m' (xs.map f) vs
  | [], vs, hv => by simp only [VRs, List.map_nil] at hv ⊢; exact hv
  | x :: xs, vs, hv => by
    simp only [VRs, List.map_cons] at hv ⊢
    obtain ⟨v, vs', h1, h2, h3⟩ := hv
    exact ⟨v, vs', h1, h x v h2, vrs_map_conv h xs vs' h3⟩

theorem run_callFunc {k : FuncId} (h : Callable P k) (args : Array Value) : (callFunc k args).run P w = .ok (.enter k args) w := by
  obtain ⟨fn, h1, h2, h3⟩ := h
  have e : (program : Sem Program).run P w = .ok P w := rfl
  simp only [callFunc, Sem.run_bind, e, Result.andThen_ok, h1, h2, h3, Bool.false_eq_true, if_false, Sem.run_pure]

theorem Oper.wpIn_value {ro : Option Nat} {n : Nat} {o : Oper} {a : Act} {w w' : World} {nx : Next} {u : Value} {next : Act -> World -> Prop} {Q : Exit -> Act -> World -> Prop}
    (hd : ∀ c, o.op ≠ .defer c) (hr : (execOp a.eval o).run P w = .ok nx w') (hn : nx = .value u \/ (nx = .skip /\ u = undef)) (h : next (a.put o.dst u) w') : o.wpIn (FW ro) n P a w next Q := by
  refine ⟨fun _ _ => trivial, ?_⟩
  rw [Oper.semAt_eq _ _ _ hd, hr]
  rcases hn with rfl | ⟨rfl, rfl⟩ <;> exact h

theorem call_sound (hR : R X D w0 mA r m st a w) {o : Oper} {c : Call} (hop : o.op = .call c) {K : AV -> List AObj -> Prop} (h : callR P c st K) {ro : Option Nat} {n : Nat} {next : Act -> World -> Prop} {Q : Exit -> Act -> World -> Prop}
    (hnext : ∀ x h' r' m' u w', K x h' -> R X D w0 mA r' m' { st with heap := h' } a w' -> VR r' m' x u -> next (a.put o.dst u) w') : o.wpIn (FW ro) n P a w next Q := by
  refine ⟨fun _ _ => trivial, ?_⟩
  rw [Oper.semAt_eq _ _ _ (fun c' h' => by rw [hop] at h'; cases h')]
  obtain ⟨callee, args, tys⟩ := c
  unfold callR at h
  split at h <;> try exact h.elim
  rename_i f hcal
  simp only at hcal
  subst hcal
  split at h <;> try exact h.elim
  rename_i k fst caps hf
  have hfv := hR.eval f
  rw [hf] at hfv
  simp only [VR] at hfv
  obtain ⟨x, y, hx, hx1, hy1⟩ := hfv
  have hargs : VRs r m (fst ++ args.toList.map st.eval ++ caps) (x.toList ++ args.toList.map a.eval ++ y.toList) := (hx1.app (VRs_map hR args.toList)).app hy1
  have hcall : ∀ (hc : Callable P k), (execOp a.eval o).run P w = .ok (.enter k (x.toList ++ args.toList.map a.eval ++ y.toList).toArray) w := fun hc => by
    have e : (x.toList ++ args.toList.map a.eval ++ y.toList).toArray = x ++ args.map a.eval ++ y := by
      apply Array.toList_inj.1
      simp
    rw [e]
    simp only [execOp, hop, resolve, Deferred.ofValue, hx, Sem.run_bind, Sem.run_pure, Result.andThen_ok, invoke, run_callFunc hc]
  rcases h with ⟨Post, hfn, hpost⟩ | ⟨Post, hfn, hpost⟩
  . rw [hcall hfn.1]
    refine ⟨fun h => (by cases h), ?_⟩
    have hc := hfn.2 (memAll r m st.heap w) w _ (memAll_ok hR) (vrs_map_conv (fun x v hv => cv_sound hR 6 x v hv) _ _ hargs)
    refine callsIn_FW (hc.mono ?_)
    rintro e w' ⟨v, z, mR, rfl, hg, hp, hv, hm⟩
    obtain ⟨m', hle, hle', hR'⟩ := (hR.grown hg).learn (mR := mR) (fl := false) (fun p u hu => ⟨(hm p u hu).1, (hm p u hu).2.1⟩) (fun p u hu => .inl ⟨Nat.le_trans hR.size (hm p u hu).2.2.1, fun i o b c ho hl hr => by
      have := hR.lt i o b c ho hl hr
      have := (hm p u hu).2.2.1
      omega⟩) (fun _ p u hu => (hm p u hu).2.2.2)
    exact hnext z st.heap r m' v w' (hpost z hp) hR' (hv.mono (RLe.nil r) hle')
  . rw [hcall hfn.1]
    refine ⟨fun h => (by cases h), ?_⟩
    have hc := hfn.2 (m true) w _ hR.mem (vrs_map_conv (fun x v hv => cv0_sound hR 6 x v hv) _ _ hargs)
    refine callsIn_FW (hc.mono ?_)
    rintro e w' ⟨v, z, mR, rfl, hg, hp, hv, hm⟩
    obtain ⟨m', hle, hle', hR'⟩ := (hR.grown hg).learn (mR := mR) (fl := true) (fun p u hu => ⟨(hm p u hu).1, (hm p u hu).2.1⟩) (fun p u hu => by
      rcases (hm p u hu).2.2 with h1 | h1
      . exact .inl ⟨Nat.le_trans hR.size h1, fun i o b c ho hl hr => by
          have := hR.lt i o b c ho hl hr
          omega⟩
      . exact .inr ⟨rfl, h1⟩) (fun h => by cases h)
    exact hnext z st.heap r m' v w' (hpost z hp) hR' (hv.mono (RLe.nil r) hle')
end
end Go.Lat
namespace Go.Lat
open Go.RowKit

def opC (P : Program) (T : TT) (o : Oper) (st : St) (K : AV -> List AObj -> Prop) : Prop :=
  match o.op with
  | .call c => match c.callee with
    | .value _ => callR P c st K
    | _ => opR T (.call c) st.eval st.heap K
  | op => opR T op st.eval st.heap K

def gdT (ops : List Oper) (j : Nat) : Option Tmp := (ops[j]?).bind (·.dst)
def stepG (P : Program) (T : TT) (ops : List Oper) (o : Oper) (st : St) (K : St -> Prop) : Prop :=
  match o.guard with
  | none => opC P T o st fun v h => K ({ st with heap := h }.put o.dst v)
  | some (j, want) => match gdT ops j with
    | none => False
    | some t => match st.tm t with
      | .bool b => (b = want -> opC P T o st fun v h => K ({ st with heap := h }.put o.dst v)) /\ (b ≠ want -> K (st.put o.dst (.tup [])))
      | .tup [] => K (st.put o.dst (.tup []))
      | _ => False

def splitT (g : Bool) (d : Option Tmp) (s : St) (K : St -> Prop) : Prop :=
  match g, d with
  | true, some t => match s.tm t with
    | .bool b => (b = true -> K (s.put d (.bool true))) /\ (b = false -> K (s.put d (.bool false)))
    | _ => K s
  | _, _ => K s

def seqL (P : Program) (T : TT) (ops : List Oper) (G : List Nat) : Nat -> List Oper -> St -> (St -> Prop) -> Prop
  | _, [], st, K => K st
  | j, o :: l, st, K => stepG P T ops o st fun s => splitT (G.contains j) o.dst s fun s' => seqL P T ops G (j + 1) l s' K

section
variable {X : Nat -> Prop} {D : List Deferred × Rho} {w0 : World} {mA : Mem} {r : Rho} {m : MM} {st : St} {a : Act} {w w' : World} {P : Program} {T : TT}

theorem opC_sound (hT : TsOk P T) (hR : R X D w0 mA r m st a w) {o : Oper} {K : AV -> List AObj -> Prop} (h : opC P T o st K) {ro : Option Nat} {n : Nat} {next : Act -> World -> Prop} {Q : Exit -> Act -> World -> Prop}
    (hnext : ∀ x h' r' m' u w', K x h' -> R X D w0 mA r' m' { st with heap := h' } a w' -> VR r' m' x u -> next (a.put o.dst u) w') : o.wpIn (FW ro) n P a w next Q := by
  have plain : (∀ c, o.op ≠ .defer c) -> opR T o.op st.eval st.heap K -> o.wpIn (FW ro) n P a w next Q := fun hd h => by
    obtain ⟨y, u, w', r', h', nx, hK, _, hv, hrun, hnx, hR'⟩ := opR_sound hT hR o h
    exact Oper.wpIn_value hd hrun hnx (hnext y h' r' m u w' hK hR' hv)
  unfold opC at h
  split at h
  . rename_i c hop
    split at h
    . exact call_sound hR hop h hnext
    . exact plain (fun c' h' => by rw [hop] at h'; cases h') (by rw [hop]; exact h)
  . refine plain ?_ h
    intro c hc
    rw [hc] at h
    exact h

theorem stepG_sound (hT : TsOk P T) (hR : R X D w0 mA r m st a w) {ops : Array Oper} {o : Oper} {K : St -> Prop} (h : stepG P T ops.toList o st K) {ro : Option Nat} {n : Nat} {next : Act -> World -> Prop} {Q : Exit -> Act -> World -> Prop}
    (hnext : ∀ s r' m' a' w', K s -> R X D w0 mA r' m' s a' w' -> next a' w') :
    if Region.wanted o (yielded ops a.tmps) then o.wpIn (FW ro) n P a w next Q else (∀ f, o.about P w a.eval = some f -> (FW ro).fn f) /\ next (a.put o.dst undef) w := by
  have go : (opC P T o st fun v h => K ({ st with heap := h }.put o.dst v)) -> o.wpIn (FW ro) n P a w next Q := fun h =>
    opC_sound hT hR h fun x h' r' m' u w' hK hR' hv => hnext _ r' m' _ w' hK (hR'.put o.dst hv)
  unfold stepG at h
  split at h
  . rename_i hg
    rw [if_pos (by simp [Region.wanted, hg])]
    exact go h
  . rename_i j want hg
    split at h
    . exact h.elim
    . rename_i t ht
      split at h
      . rename_i b hb
        have hv := hR.tmps t
        rw [hb] at hv
        simp only [VR] at hv
        have hy : yielded ops a.tmps j = some b := by
          have e : (ops[j]?).bind (·.dst) = some t := by simpa [gdT] using ht
          unfold yielded
          rw [e]
          rcases hq : a.tmps[t]? with _ | u
          . rw [Array.getD_eq_getD_getElem?, hq] at hv
            cases hv
          . rw [Array.getD_eq_getD_getElem?, hq] at hv
            simp only [Option.getD_some] at hv
            subst hv
            simp [hq]
        by_cases hbw : b = want
        . rw [if_pos (by simp [Region.wanted, hg, hy, hbw])]
          exact go (h.1 hbw)
        . rw [if_neg (by simp [Region.wanted, hg, hy, hbw])]
          exact ⟨fun _ _ => trivial, hnext _ r m _ w (h.2 hbw) (hR.put o.dst (by simp only [VR, VRs]; exact ⟨#[], rfl, rfl⟩))⟩
      . rename_i hb
        have hv := hR.tmps t
        rw [hb] at hv
        simp only [VR, VRs] at hv
        obtain ⟨arr, hv, ha⟩ := hv
        have hy : yielded ops a.tmps j = none := by
          have e : (ops[j]?).bind (·.dst) = some t := by simpa [gdT] using ht
          unfold yielded
          rw [e]
          rcases hq : a.tmps[t]? with _ | u
          . simp [hq]
          . rw [Array.getD_eq_getD_getElem?, hq] at hv
            simp only [Option.getD_some] at hv
            subst hv
            simp [hq]
        rw [if_neg (by simp [Region.wanted, hg, hy])]
        exact ⟨fun _ _ => trivial, hnext _ r m _ w h (hR.put o.dst (by simp only [VR, VRs]; exact ⟨#[], rfl, rfl⟩))⟩
      . exact h.elim

theorem putT_self {s : Nat -> AV} {d : Nat} {v : AV} (h : s d = v) : putT s d v = s := by
  funext t
  simp only [putT]
  split
  . rename_i e; subst e; exact h.symm
  . rfl
theorem St.put_self (s : St) (d : Nat) (v : AV) (h : s.tm d = v) : s.put (some d) v = s := by
  simp only [St.put]
  split
  . rw [putT_self h]
  . rfl

theorem splitT_sound {g : Bool} {d : Option Tmp} {s : St} {K : St -> Prop} (h : splitT g d s K) : K s := by
  unfold splitT at h
  split at h
  . rename_i t
    split at h
    . rename_i b hb
      cases b with
      | true => have := h.1 rfl; rwa [St.put_self s _ _ hb] at this
      | false => have := h.2 rfl; rwa [St.put_self s _ _ hb] at this
    . exact h
  . exact h

theorem seqL_sound (hT : TsOk P T) {ops : Array Oper} {G : List Nat} {ro : Option Nat} {n : Nat} {Q : Exit -> Act -> World -> Prop} {K : St -> Prop}
    (hQ : ∀ s r' m' a' w', K s -> R X D w0 mA r' m' s a' w' -> Q .normal a' w') :
    ∀ (l : List Oper) (j : Nat) {r : Rho} {m : MM} {st : St} {a : Act} {w : World}, R X D w0 mA r m st a w -> seqL P T ops.toList G j l st K -> wpListIn (FW ro) n P ops Q l a w
  | [], _, _, _, _, _, _, hR, h => hQ _ _ _ _ _ h hR
  | o :: l, j, _, _, _, _, _, hR, h => wpListIn_step fun K' hK' =>
      stepG_sound hT hR h fun s r' m' a' w' hs hR' => hK' a' w' (seqL_sound hT hQ l (j + 1) hR' (splitT_sound hs))
end

inductive Ex where
  | nrm
  | exit (l : Nat)
  | ret

def thenA (N : St -> Prop) (Q : Ex -> St -> Prop) : Ex -> St -> Prop
  | .nrm, s => N s
  | e, s => Q e s
def blockA (id : Nat) (Q : Ex -> St -> Prop) : Ex -> St -> Prop
  | .exit l, s => if l = id then Q .nrm s else Q (.exit l) s
  | e, s => Q e s
def look : List (Nat × AV) -> Nat -> AV
  | [], _ => .any
  | (k, v) :: l, t => if t = k then v else look l t
def St.le (s s' : St) : Prop := s'.nt = s.nt /\ s'.heap = s.heap /\ s'.ho = s.ho /\ ∀ t, s'.tm t = .any \/ s'.tm t = s.tm t

def relQ (b : Bool) (X : Nat -> Prop) (D : List Deferred × Rho) (w0 : World) (mA : Mem) (Q : Ex -> St -> Prop) : Exit -> Act -> World -> Prop
  | .normal, a, w => ∃ ms r m s, (b = true -> ms = []) /\ Q .nrm s /\ R X (ms ++ D.1, D.2) w0 mA r m s a w
  | .ret, a, w => ∃ ms r m s, (b = true -> ms = []) /\ Q .ret s /\ R X (ms ++ D.1, D.2) w0 mA r m s a w
  | .exit l, a, w => ∃ ms r m s, (b = true -> ms = []) /\ Q (.exit l) s /\ R X (ms ++ D.1, D.2) w0 mA r m s a w
  | _, _, _ => False
def noRg : Code -> Bool
  | .rangeFunc _ _ _ _ => false
  | .seq a b => noRg a && noRg b
  | .cond _ a b => noRg a && noRg b
  | .block _ c => noRg c
  | .loop c => noRg c
  | .scope c => noRg c
  | _ => true
theorem relQ_app {b b1 b2 : Bool} {X : Nat -> Prop} {D : List Deferred × Rho} {w0 : World} {mA : Mem} {Q : Ex -> St -> Prop} {ms : List Deferred} (h1 : b1 = true -> ms = []) (hb : b = true -> b1 = true /\ b2 = true) : ∀ {e a w}, relQ b2 X (ms ++ D.1, D.2) w0 mA Q e a w -> relQ b X D w0 mA Q e a w := by
  intro e a w h
  cases e <;> simp only [relQ] at h ⊢ <;> first | exact h | exact (let ⟨ns, r, m, s, h0, h2, h3⟩ := h; ⟨ns ++ ms, r, m, s, fun hh => by rw [h0 (hb hh).2, h1 (hb hh).1]; rfl, h2, by rw [List.append_assoc]; exact h3⟩)
theorem relQ_weak {b b1 : Bool} {X : Nat -> Prop} {D : List Deferred × Rho} {w0 : World} {mA : Mem} {Q : Ex -> St -> Prop} (hb : b = true -> b1 = true) : ∀ {e a w}, relQ b1 X D w0 mA Q e a w -> relQ b X D w0 mA Q e a w := by
  intro e a w h
  cases e <;> simp only [relQ] at h ⊢ <;> first | exact h | exact (let ⟨ns, r, m, s, h0, h2, h3⟩ := h; ⟨ns, r, m, s, fun hh => h0 (hb hh), h2, h3⟩)

def W (P : Program) (T : TT) (c : Code) (st : St) (Q : Ex -> St -> Prop) : Prop :=
  TsOk P T -> P.follows .mixedOrders = true -> ∀ (ro : Option Nat) (_ : ro ≠ none -> noRg c = true) (n : Nat) (X : Nat -> Prop) (D : List Deferred × Rho) (w0 : World) (mA : Mem) (r : Rho) (m : MM) (a : Act) (w : World), R X D w0 mA r m st a w →
    c.wpIn (FW ro) n P (relQ (noRg c) X D w0 mA Q) a w

section
variable {P : Program} {T : TT} {st : St} {Q Q' : Ex -> St -> Prop} {c c' : Code}

theorem R.le {X : Nat -> Prop} {D : List Deferred × Rho} {w0 : World} {mA : Mem} {r : Rho} {m : MM} {s s' : St} {a : Act} {w : World} (h : R X D w0 mA r m s a w) (hl : s.le s') : R X D w0 mA r m s' a w := by
  obtain ⟨h1, h2, h4', h3⟩ := hl
  obtain ⟨nt, tm, hp, ho⟩ := s'
  simp only at h1 h2 h3 h4'
  subst h1; subst h2; subst h4'
  refine { h with tmps := ?_, size' := h.size', nox := h.nox }
  intro t
  rcases h3 t with h4 | h4
  . show VR r m (tm t) _
    rw [h4]; simp only [VR]
  . show VR r m (tm t) _
    rw [h4]; exact h.tmps t

theorem relQ_mono {b : Bool} {X : Nat -> Prop} {D : List Deferred × Rho} {w0 : World} {mA : Mem} (hq : ∀ e s, Q e s -> Q' e s) : ∀ e a w, relQ b X D w0 mA Q e a w -> relQ b X D w0 mA Q' e a w := by
  intro e a w h
  cases e <;> simp only [relQ] at h ⊢ <;> first | exact h | exact (let ⟨ms, r, m, s, h0, h1, h2⟩ := h; ⟨ms, r, m, s, h0, hq _ _ h1, h2⟩)

theorem W.mono (h : W P T c st Q) (hq : ∀ e s, Q e s -> Q' e s) : W P T c st Q' := fun hT hf ro hro n X D w0 mA r m a w hR =>
  wpIn_mono (h hT hf ro hro n X D w0 mA r m a w hR) (relQ_mono hq)
theorem W.le {st' : St} (hl : st.le st') (h : W P T c st' Q) : W P T c st Q := fun hT hf ro hro n X D w0 mA r m a w hR => h hT hf ro hro n X D w0 mA r m a w (hR.le hl)
theorem W.skip (h : Q .nrm st) : W P T .skip st Q := fun _ _ _ _ _ _ _ _ _ r m _ _ hR => wpIn_skip ⟨[], r, m, st, fun _ => rfl, h, hR⟩
theorem W.ret (h : Q .ret st) : W P T .ret st Q := fun _ _ _ _ _ _ _ _ _ r m _ _ hR => wpIn_ret ⟨[], r, m, st, fun _ => rfl, h, hR⟩
theorem W.exit {l : Nat} (h : Q (.exit l) st) : W P T (.exit l) st Q := fun _ _ _ _ _ _ _ _ _ r m _ _ hR => wpIn_exit ⟨[], r, m, st, fun _ => rfl, h, hR⟩
theorem W.seq (M : St -> Prop) (h : W P T c st (thenA M Q)) (h' : ∀ s, M s -> W P T c' s Q) : W P T (.seq c c') st Q := fun hT hf ro hro n X D w0 mA r m a w hR => by
  have hro' : ro ≠ none -> noRg c = true /\ noRg c' = true := fun h => by have := hro h; simpa only [noRg, Bool.and_eq_true] using this
  have hb : noRg (.seq c c') = true -> noRg c = true /\ noRg c' = true := fun h => by simpa only [noRg, Bool.and_eq_true] using h
  refine wpIn_seq (wpIn_mono (h hT hf ro (fun h => (hro' h).1) n X D w0 mA r m a w hR) fun e a' w' he => ?_)
  cases e <;> simp only [relQ, thenA, Exit.then] at he ⊢ <;> try exact he
  case normal =>
    obtain ⟨ms, r', m', s, h0, h1, h2⟩ := he
    exact wpIn_mono (h' s h1 hT hf ro (fun h => (hro' h).2) n X _ w0 mA r' m' a' w' h2) fun _ _ _ => relQ_app h0 hb
  all_goals
    obtain ⟨ms, r', m', s, h0, h1, h2⟩ := he
    exact ⟨ms, r', m', s, fun hh => h0 (hb hh).1, h1, h2⟩
theorem W.seq' (h : W P T c st (thenA (fun s => W P T c' s Q) Q)) : W P T (.seq c c') st Q := W.seq _ h fun _ h => h
theorem W.cond {x : Operand} {t : Bool} (hx : st.eval x = .bool t) (h1 : t = true -> W P T c st Q) (h2 : t = false -> W P T c' st Q) : W P T (.cond x c c') st Q := fun hT hf ro hro n X D w0 mA r m a w hR => by
  have hv := hR.eval x
  rw [hx] at hv
  simp only [VR] at hv
  have hro' : ro ≠ none -> noRg c = true /\ noRg c' = true := fun h => by have := hro h; simpa only [noRg, Bool.and_eq_true] using this
  have hb : noRg (.cond x c c') = true -> noRg c = true /\ noRg c' = true := fun h => by simpa only [noRg, Bool.and_eq_true] using h
  exact wpIn_cond_split hv (fun ht => wpIn_mono (h1 ht hT hf ro (fun h => (hro' h).1) n X D w0 mA r m a w hR) fun _ _ _ => relQ_weak fun hh => (hb hh).1) (fun ht => wpIn_mono (h2 ht hT hf ro (fun h => (hro' h).2) n X D w0 mA r m a w hR) fun _ _ _ => relQ_weak fun hh => (hb hh).2)
theorem W.block {id : Nat} (h : W P T c st (blockA id Q)) : W P T (.block id c) st Q := fun hT hf ro hro n X D w0 mA r m a w hR =>
  wpIn_block (wpIn_mono (h hT hf ro hro n X D w0 mA r m a w hR) fun e a' w' he => by
    cases e <;> simp only [relQ, blockA, Exit.inBlock] at he ⊢ <;> try exact he
    rename_i l
    obtain ⟨ms, r', m', s, h0, h1, h2⟩ := he
    split <;> rename_i hl
    . rw [if_pos hl] at h1
      exact ⟨ms, r', m', s, h0, h1, h2⟩
    . rw [if_neg hl] at h1
      exact ⟨ms, r', m', s, h0, h1, h2⟩)

open Classical in
theorem W.loop (I : Nat -> St -> Prop) {k : Nat} (h0 : I k st) (h : ∀ k s, I k s -> W P T c s (thenA (fun s' => ∃ k', k' < k /\ I k' s') Q)) : W P T (.loop c) st Q := fun hT hf ro hro n X D w0 mA r m a w hR => by
  let Has : Act -> World -> Nat -> Prop := fun a w k => ∃ ms r m s, (noRg c = true -> ms = []) /\ I k s /\ R X (ms ++ D.1, D.2) w0 mA r m s a w
  have least : ∀ (p : Nat -> Prop) (k : Nat), p k -> ∃ j, p j /\ ∀ i, p i -> j <= i := by
    intro p k
    induction k using Nat.strongRecOn with
    | _ k ih =>
      intro hk
      by_cases hx : ∃ i, i < k /\ p i
      . obtain ⟨i, hi, hpi⟩ := hx
        exact ih i hi hpi
      . exact ⟨k, hk, fun i hi => Nat.le_of_not_lt fun hlt => hx ⟨i, hlt, hi⟩⟩
  let μ : Act -> World -> Nat := fun a w => if hx : ∃ j, Has a w j /\ ∀ i, Has a w i -> j <= i then Classical.choose hx else 0
  have hμ : ∀ a w k, Has a w k -> Has a w (μ a w) /\ μ a w <= k := fun a w k hk => by
    have hx := least (Has a w) k hk
    have e : μ a w = Classical.choose hx := dif_pos hx
    rw [e]
    exact ⟨(Classical.choose_spec hx).1, (Classical.choose_spec hx).2 k hk⟩
  refine wpIn_loop (fun a w => ∃ k, Has a w k) μ ⟨k, [], r, m, st, fun _ => rfl, h0, hR⟩ ?_
  rintro a w ⟨k, hk⟩
  obtain ⟨⟨ms, r, m, s, hms, hI, hR⟩, _⟩ := hμ a w k hk
  refine wpIn_mono (h _ s hI hT hf ro hro n X _ w0 mA r m a w hR) fun e a' w' he => ?_
  cases e <;> simp only [relQ, thenA, Exit.then] at he ⊢ <;> try exact he
  case normal =>
    obtain ⟨ns, r', m', s', hns, ⟨k', hk', hI'⟩, hR'⟩ := he
    rw [<- List.append_assoc] at hR'
    have hb : noRg c = true -> ns ++ ms = [] := fun hh => by rw [hns hh, hms hh]; rfl
    exact ⟨⟨k', ns ++ ms, r', m', s', hb, hI', hR'⟩, Nat.lt_of_le_of_lt (hμ a' w' k' ⟨ns ++ ms, r', m', s', hb, hI', hR'⟩).2 hk'⟩
  all_goals
    obtain ⟨ns, r', m', s', hns, h1, hR'⟩ := he
    exact ⟨ns ++ ms, r', m', s', fun hh => by rw [hns hh, hms hh]; rfl, h1, by rw [List.append_assoc]; exact hR'⟩

theorem W.region {id : Nat} {ops : Array Oper} (G : List Nat) (h : seqL P T ops.toList G 0 ops.toList st (Q .nrm)) : W P T (.region id ops false) st Q := fun hT _ ro _ n X D w0 mA r m a w hR =>
  wpIn_region_list (seqL_sound hT (fun s r' m' a' w' hs hR' => ⟨[], r', m', s, fun _ => rfl, hs, hR'⟩) ops.toList 0 hR h)
end
end Go.Lat
namespace Go.Lat
open Go.RowKit

mutual
def cvI : Nat -> List AObj -> AV -> AV
  | _, _, .int k n => .int k n
  | _, _, .bool b => .bool b
  | _, _, .nilS => .nilS
  | _, _, .nilP => .nilP
  | _, _, .nilF => .nilF
  | _, _, .lst false n cs => .lst true n cs
  | _, _, .ipt false cs => .ipt true cs
  | k + 1, h, .agg cs => .agg (cs.map (cvI k h))
  | k + 1, h, .clo f a b => .clo f (a.map (cvI k h)) (b.map (cvI k h))
  | k + 1, h, .ref _ id n => match h[id]? with
    | some (.row _ sz cs) => .lst true n ((cs.take (n * sz)).map (cvI k h))
    | _ => .any
  | k + 1, h, .sub id off n => match h[id]? with
    | some (.row _ _ cs) => .lst true n (if n = 0 then [] else (cs.drop off).map (cvI k h))
    | some (.box _ cs) => .lst true n (if n = 0 then [] else (cs.drop off).map (cvI k h))
    | _ => .any
  | k + 1, h, .ptr id off => match h[id]? with
    | some (.row _ _ cs) => .ipt true ((cs.drop off).map (cvI k h))
    | some (.box _ cs) => .ipt true ((cs.drop off).map (cvI k h))
    | _ => .any
  | _, _, _ => .any
end
def cvO : Nat -> List AObj -> AV -> AV
  | _, _, .int k n => .int k n
  | _, _, .bool b => .bool b
  | _, _, .nilS => .nilS
  | _, _, .nilP => .nilP
  | _, _, .nilF => .nilF
  | _, _, .lst false n cs => .lst false n cs
  | _, _, .ipt false cs => .ipt false cs
  | k + 1, h, .agg cs => .agg (cs.map (cvO k h))
  | k + 1, h, .clo f a b => .clo f (a.map (cvO k h)) (b.map (cvO k h))
  | k + 1, h, .tup cs => .tup (cs.map (cvO k h))
  | k + 1, h, .ref _ id n => match h[id]? with
    | some (.row _ sz cs) => .lst false n ((cs.take (n * sz)).map (cvI k h))
    | _ => .any
  | k + 1, h, .sub id off n => match h[id]? with
    | some (.row _ _ cs) => .lst false n (if n = 0 then [] else (cs.drop off).map (cvI k h))
    | some (.box _ cs) => .lst false n (if n = 0 then [] else (cs.drop off).map (cvI k h))
    | _ => .any
  | k + 1, h, .ptr id off => match h[id]? with
    | some (.row _ _ cs) => .ipt false ((cs.drop off).map (cvI k h))
    | some (.box _ cs) => .ipt false ((cs.drop off).map (cvI k h))
    | _ => .any
  | _, _, _ => .any

open Classical in
noncomputable def memOwn (r : Rho) (m : MM) (h : List AObj) (w : World) : Mem := fun p =>
  match m false p with
  | some v => some v
  | none => if ∃ (i : Nat) (o : AObj) (c : Nat), h[i]? = some o /\ o.live = true /\ r[i]? = some (p.block, c) then w.cell? p else none

section
variable {X : Nat -> Prop} {D : List Deferred × Rho} {w0 : World} {mA : Mem} {r : Rho} {m : MM} {st : St} {a : Act} {w w' : World} {P : Program} {T : TT}

theorem OR.thaw {i : Nat} {o : AObj} (h : OR r m w i o) (hl : o.live = true) {p : Addr} {c : Nat} (hi : r[i]? = some (p.block, c)) : w.frozen? p = false := by
  cases o with
  | row t sz cs =>
    rcases h with h | ⟨b', c', cur, h1, h2, _⟩
    . subst h; cases hl
    . rw [hi] at h1; cases h1
      unfold World.frozen?
      rw [h2]; simp
  | box t cs =>
    obtain ⟨b', c', cur, h1, h2, _⟩ := h
    rw [hi] at h1; cases h1
    unfold World.frozen?
    rw [h2]; simp
  | chan cap cl buf =>
    obtain ⟨b', c', bv, s, rc, h1, h2, _⟩ := h
    rw [hi] at h1; cases h1
    unfold World.frozen?
    rw [h2]
  | dead => cases hl
theorem memOwn_ok (h : R (fun _ => False) D w0 mA r m st a w) : ∀ p v, memOwn r m st.heap w p = some v -> w.cell? p = some v /\ p.block < w.heap.size /\ w0.heap.size <= p.block /\ w.frozen? p = false := by
  intro p v hp
  unfold memOwn at hp
  split at hp
  . rename_i u hu
    cases hp
    exact ⟨(h.mem p _ (h.low p _ hu)).1, (h.mem p _ (h.low p _ hu)).2, h.newer p _ hu, h.fz p _ hu⟩
  . split at hp
    . rename_i hex
      obtain ⟨i, o, c, ho, hl, hr⟩ := hex
      exact ⟨hp, h.lt i o _ c ho hl hr, (h.own i o _ c ho hl hr).resolve_right (fun hf => hf), (h.obj i o ho).thaw hl hr⟩
    . cases hp

theorem memOwn_old (_h : R X D w0 mA r m st a w) {p : Addr} {v : Value} (hv : m false p = some v) : memOwn r m st.heap w p = some v := by
  unfold memOwn
  rw [hv]

theorem memOwn_own (h : R X D w0 mA r m st a w) {i : Nat} {o : AObj} {b c : Nat} (ho : st.heap[i]? = some o) (hl : o.live = true) (hr : r[i]? = some (b, c)) {p : Addr} {v : Value} (hb : p.block = b) (hv : w.cell? p = some v) :
    memOwn r m st.heap w p = some v := by
  unfold memOwn
  split
  . rename_i u hu
    rw [<- hv, (h.mem p u (h.low p u hu)).1]
  . rw [if_pos ⟨i, o, c, ho, hl, hb ▸ hr⟩]
    exact hv

theorem own_cells (h : R X D w0 mA r m st a w) {id b c off : Nat} {o : AObj} {cs : List AV} (hb : r[id]? = some (b, c)) (ho : st.heap[id]? = some o) (hcs : (∃ t sz, o = .row t sz cs) \/ ∃ t, o = .box t cs) :
    ∃ vs, VRs r m (cs.drop off) vs /\ Sealed (memOwn r m st.heap w) ⟨b, off, none⟩ vs := by
  rcases hcs with ⟨t, sz, rfl⟩ | ⟨t, rfl⟩
  . rcases Nat.eq_zero_or_pos cs.length with hcp | hcp
    . have : cs = [] := List.eq_nil_of_length_eq_zero hcp
      subst this
      rw [List.drop_nil]
      exact ⟨[], VRs.nil, Sealed.nil⟩
    have hlv := live_row (t := t) (sz := sz) hcp
    rcases h.obj id _ ho with rfl | ⟨b', c', cur, e1, h2, h0, h3, h4, h5, h6⟩
    . cases hcp
    rw [hb] at e1
    cases e1
    refine ⟨(cur.toList.take cs.length).drop off, h6.drop _, ?_⟩
    intro i u hu
    have hu' : u ∈ cur.toList.take cs.length := List.mem_of_mem_drop (List.mem_of_getElem? hu)
    refine ⟨memOwn_own h ho hlv hb (block_add _ _) ?_, h0 u hu'⟩
    rw [Addr.add_lit]
    simp only [World.cell?, h2]
    rw [List.getElem?_drop, List.getElem?_take] at hu
    split at hu
    . simpa using hu
    . cases hu
  . obtain ⟨b', c', cur, e1, h2, h0, h6⟩ := h.obj id _ ho
    rw [hb] at e1
    cases e1
    refine ⟨cur.toList.drop off, h6.drop _, ?_⟩
    intro i u hu
    have hu' : u ∈ cur.toList := List.mem_of_mem_drop (List.mem_of_getElem? hu)
    refine ⟨memOwn_own h ho rfl hb (block_add _ _) ?_, h0 u hu'⟩
    rw [Addr.add_lit]
    simp only [World.cell?, h2]
    rw [List.getElem?_drop] at hu
    simpa using hu

theorem map_rel {f : AV -> AV} {r : Rho} {m m' : MM} (h : ∀ x v, VR r m x v -> VR [] m' (f x) v) : ∀ (xs : List AV) (vs : List Value), VRs r m xs vs -> VRs [] m' (xs.map f) vs := vrs_map_conv h

theorem cvI_sound (h : R X D w0 mA r m st a w) : ∀ (k : Nat) (x : AV) (v : Value), VR r m x v -> VR [] (nest (memOwn r m st.heap w)) (cvI k st.heap x) v
  | 0, x, v, hv => by
    cases x <;> try (simp only [cvI, VR] at hv ⊢; try exact hv)
    case lst fl n cs =>
      cases fl with
      | true => simp only [cvI, VR]
      | false =>
        simp only [cvI, VR] at hv ⊢
        rcases hv with hv | ⟨p, cap, vs, h1, h2, h3, h4⟩
        . exact .inl hv
        exact .inr ⟨p, cap, vs, h1, h2, fun i u hu => ⟨memOwn_old h (h3 i u hu).1, (h3 i u hu).2⟩, h4.mono (RLe.refl []) (fun b p v hv => by cases b with | true => exact memOwn_old h hv | false => cases hv)⟩
    case ipt fl cs =>
      cases fl with
      | true => simp only [cvI, VR]
      | false =>
        simp only [cvI, VR] at hv ⊢
        obtain ⟨p, vs, h2, h3, h4⟩ := hv
        exact ⟨p, vs, h2, fun i u hu => ⟨memOwn_old h (h3 i u hu).1, (h3 i u hu).2⟩, h4.mono (RLe.refl []) (fun b p v hv => by cases b with | true => exact memOwn_old h hv | false => cases hv)⟩
  | k + 1, x, v, hv => by
    have ih := cvI_sound h k
    have nn : nest (nest (memOwn r m st.heap w) true) = nest (memOwn r m st.heap w) := rfl
    cases x <;> try (simp only [cvI, VR] at hv ⊢; try exact hv)
    case agg cs =>
      obtain ⟨arr, h1, h2, h3⟩ := hv
      exact ⟨arr, h1, h2, map_rel ih cs _ h3⟩
    case clo f fa fb =>
      obtain ⟨x, y, h1, h2, h3⟩ := hv
      exact ⟨x, y, h1, map_rel ih fa _ h2, map_rel ih fb _ h3⟩
    case lst fl n cs =>
      cases fl with
      | true => simp only [cvI, VR]
      | false =>
        simp only [cvI, VR] at hv ⊢
        rcases hv with hv | ⟨p, cap, vs, h1, h2, h3, h4⟩
        . exact .inl hv
        exact .inr ⟨p, cap, vs, h1, h2, fun i u hu => ⟨memOwn_old h (h3 i u hu).1, (h3 i u hu).2⟩, h4.mono (RLe.refl []) (fun b p v hv => by cases b with | true => exact memOwn_old h hv | false => cases hv)⟩
    case ipt fl cs =>
      cases fl with
      | true => simp only [cvI, VR]
      | false =>
        simp only [cvI, VR] at hv ⊢
        obtain ⟨p, vs, h2, h3, h4⟩ := hv
        exact ⟨p, vs, h2, fun i u hu => ⟨memOwn_old h (h3 i u hu).1, (h3 i u hu).2⟩, h4.mono (RLe.refl []) (fun b p v hv => by cases b with | true => exact memOwn_old h hv | false => cases hv)⟩
    case ref nb id n =>
      rcases ho : st.heap[id]? with _ | o
      . simp only [VR]
      . cases o <;> simp only [VR]
        rename_i t sz cs
        rcases hv with ⟨h0, _, rfl | ⟨_, a', rfl⟩⟩ | ⟨hn0, b, c, hb, hle, rfl⟩
        . exact .inl ⟨h0, rfl⟩
        . refine .inr ⟨a', 0, [], by omega, by rw [h0], Sealed.nil, ?_⟩
          subst h0
          rw [Nat.zero_mul, List.take_zero, List.map_nil]
          exact VRs.nil
        obtain ⟨vs, hv1, hv2⟩ := own_cells h (off := 0) hb ho (.inl ⟨t, sz, rfl⟩)
        rw [List.drop_zero] at hv1
        exact .inr ⟨_, _, vs.take (n * sz), hle, rfl, hv2.take _, map_rel ih _ _ (hv1.take _)⟩
    case sub id off n =>
      obtain ⟨b, c, p, cap, hb, hle, rfl, hp⟩ := hv
      rcases ho : st.heap[id]? with _ | o
      . simp only [VR]
      . cases o <;> simp only [VR]
        all_goals
          by_cases hn : n = 0
          . rw [if_pos hn]
            exact .inr ⟨p, cap, [], hle, rfl, Sealed.nil, VRs.nil⟩
          . rw [if_neg hn]
            first
              | obtain ⟨vs, hv1, hv2⟩ := own_cells h (off := off) hb ho (.inl ⟨_, _, rfl⟩)
                exact .inr ⟨_, _, vs, hle, rfl, by rw [hp (by omega)]; exact hv2, map_rel ih _ _ hv1⟩
              | obtain ⟨vs, hv1, hv2⟩ := own_cells h (off := off) hb ho (.inr ⟨_, rfl⟩)
                exact .inr ⟨_, _, vs, hle, rfl, by rw [hp (by omega)]; exact hv2, map_rel ih _ _ hv1⟩
    case ptr id off =>
      obtain ⟨b, c, hb, rfl⟩ := hv
      rcases ho : st.heap[id]? with _ | o
      . simp only [VR]
      . cases o <;> simp only [VR]
        all_goals
          first
            | obtain ⟨vs, hv1, hv2⟩ := own_cells h (off := off) hb ho (.inl ⟨_, _, rfl⟩)
              exact ⟨_, vs, rfl, hv2, map_rel ih _ _ hv1⟩
            | obtain ⟨vs, hv1, hv2⟩ := own_cells h (off := off) hb ho (.inr ⟨_, rfl⟩)
              exact ⟨_, vs, rfl, hv2, map_rel ih _ _ hv1⟩

theorem cvO_sound (h : R X D w0 mA r m st a w) : ∀ (k : Nat) (x : AV) (v : Value), VR r m x v -> VR [] (fun _ => memOwn r m st.heap w) (cvO k st.heap x) v
  | 0, x, v, hv => by
    cases x <;> try (simp only [cvO, VR] at hv ⊢; try exact hv)
    case lst fl n cs =>
      cases fl with
      | true => simp only [cvO, VR]
      | false =>
        simp only [cvO, VR] at hv ⊢
        rcases hv with hv | ⟨p, cap, vs, h1, h2, h3, h4⟩
        . exact .inl hv
        exact .inr ⟨p, cap, vs, h1, h2, fun i u hu => ⟨memOwn_old h (h3 i u hu).1, (h3 i u hu).2⟩, h4.mono (RLe.refl []) (fun b p v hv => by cases b with | true => exact memOwn_old h hv | false => cases hv)⟩
    case ipt fl cs =>
      cases fl with
      | true => simp only [cvO, VR]
      | false =>
        simp only [cvO, VR] at hv ⊢
        obtain ⟨p, vs, h2, h3, h4⟩ := hv
        exact ⟨p, vs, h2, fun i u hu => ⟨memOwn_old h (h3 i u hu).1, (h3 i u hu).2⟩, h4.mono (RLe.refl []) (fun b p v hv => by cases b with | true => exact memOwn_old h hv | false => cases hv)⟩
  | k + 1, x, v, hv => by
    have ih := cvI_sound h k
    have ih2 := cvO_sound h k
    cases x <;> try (simp only [cvO, VR] at hv ⊢; try exact hv)
    case agg cs =>
      obtain ⟨arr, h1, h2, h3⟩ := hv
      exact ⟨arr, h1, h2, map_rel ih2 cs _ h3⟩
    case clo f fa fb =>
      obtain ⟨x, y, h1, h2, h3⟩ := hv
      exact ⟨x, y, h1, map_rel ih2 fa _ h2, map_rel ih2 fb _ h3⟩
    case tup cs =>
      obtain ⟨arr, h1, h3⟩ := hv
      exact ⟨arr, h1, map_rel ih2 cs _ h3⟩
    case lst fl n cs =>
      cases fl with
      | true => simp only [cvO, VR]
      | false =>
        simp only [cvO, VR] at hv ⊢
        rcases hv with hv | ⟨p, cap, vs, h1, h2, h3, h4⟩
        . exact .inl hv
        exact .inr ⟨p, cap, vs, h1, h2, fun i u hu => ⟨memOwn_old h (h3 i u hu).1, (h3 i u hu).2⟩, h4.mono (RLe.refl []) (fun b p v hv => by cases b with | true => exact memOwn_old h hv | false => cases hv)⟩
    case ipt fl cs =>
      cases fl with
      | true => simp only [cvO, VR]
      | false =>
        simp only [cvO, VR] at hv ⊢
        obtain ⟨p, vs, h2, h3, h4⟩ := hv
        exact ⟨p, vs, h2, fun i u hu => ⟨memOwn_old h (h3 i u hu).1, (h3 i u hu).2⟩, h4.mono (RLe.refl []) (fun b p v hv => by cases b with | true => exact memOwn_old h hv | false => cases hv)⟩
    case ref nb id n =>
      rcases ho : st.heap[id]? with _ | o
      . simp only [VR]
      . cases o <;> simp only [VR]
        rename_i t sz cs
        rcases hv with ⟨h0, _, rfl | ⟨_, a', rfl⟩⟩ | ⟨hn0, b, c, hb, hle, rfl⟩
        . exact .inl ⟨h0, rfl⟩
        . refine .inr ⟨a', 0, [], by omega, by rw [h0], Sealed.nil, ?_⟩
          subst h0
          rw [Nat.zero_mul, List.take_zero, List.map_nil]
          exact VRs.nil
        obtain ⟨vs, hv1, hv2⟩ := own_cells h (off := 0) hb ho (.inl ⟨t, sz, rfl⟩)
        rw [List.drop_zero] at hv1
        exact .inr ⟨_, _, vs.take (n * sz), hle, rfl, hv2.take _, map_rel ih _ _ (hv1.take _)⟩
    case sub id off n =>
      obtain ⟨b, c, p, cap, hb, hle, rfl, hp⟩ := hv
      rcases ho : st.heap[id]? with _ | o
      . simp only [VR]
      . cases o <;> simp only [VR]
        all_goals
          by_cases hn : n = 0
          . rw [if_pos hn]
            exact .inr ⟨p, cap, [], hle, rfl, Sealed.nil, VRs.nil⟩
          . rw [if_neg hn]
            first
              | obtain ⟨vs, hv1, hv2⟩ := own_cells h (off := off) hb ho (.inl ⟨_, _, rfl⟩)
                exact .inr ⟨_, _, vs, hle, rfl, by rw [hp (by omega)]; exact hv2, map_rel ih _ _ hv1⟩
              | obtain ⟨vs, hv1, hv2⟩ := own_cells h (off := off) hb ho (.inr ⟨_, rfl⟩)
                exact .inr ⟨_, _, vs, hle, rfl, by rw [hp (by omega)]; exact hv2, map_rel ih _ _ hv1⟩
    case ptr id off =>
      obtain ⟨b, c, hb, rfl⟩ := hv
      rcases ho : st.heap[id]? with _ | o
      . simp only [VR]
      . cases o <;> simp only [VR]
        all_goals
          first
            | obtain ⟨vs, hv1, hv2⟩ := own_cells h (off := off) hb ho (.inl ⟨_, _, rfl⟩)
              exact ⟨_, vs, rfl, hv2, map_rel ih _ _ hv1⟩
            | obtain ⟨vs, hv1, hv2⟩ := own_cells h (off := off) hb ho (.inr ⟨_, rfl⟩)
              exact ⟨_, vs, rfl, hv2, map_rel ih _ _ hv1⟩
end
end Go.Lat
namespace Go.Lat
open Go.RowKit

def Low (m : MM) : Prop := ∀ p v, m false p = some v -> m true p = some v
theorem Low.nest (m : Mem) : Low (Lat.nest m) := fun p v h => by cases h
def Wk (x y : AV) : Prop := ∀ (r : Rho) (m : MM) v, Low m -> VR r m x v -> VR r m y v
def Wks (xs ys : List AV) : Prop := ∀ (r : Rho) (m : MM) vs, Low m -> VRs r m xs vs -> VRs r m ys vs
theorem Low.up {m : MM} (h : Low m) (fl : Bool) {p : Addr} {v : Value} (hv : m fl p = some v) : m true p = some v := by
  cases fl with
  | true => exact hv
  | false => exact h p v hv
theorem Low.le {m : MM} (h : Low m) (fl : Bool) : MLe (Lat.nest (m fl)) (Lat.nest (m true)) := fun b p v hv => by
  cases b with
  | true => exact h.up fl hv
  | false => cases hv
theorem Wk.refl (x : AV) : Wk x x := fun _ _ _ _ h => h
theorem Wk.trans {x y z : AV} (h : Wk x y) (k : Wk y z) : Wk x z := fun r m v hm hv => k r m v hm (h r m v hm hv)
theorem Wks.refl (x : List AV) : Wks x x := fun _ _ _ _ h => h
theorem Wks.cons {x y : AV} {xs ys : List AV} (h : Wk x y) (k : Wks xs ys) : Wks (x :: xs) (y :: ys) := fun r m vs hm hv => by
  simp only [VRs] at hv ⊢
  obtain ⟨v, vs', h1, h2, h3⟩ := hv
  exact ⟨v, vs', h1, h r m v hm h2, k r m vs' hm h3⟩
theorem Wks.app {xs ys us ws : List AV} (h : Wks xs ys) (k : Wks us ws) (hl : xs.length = ys.length) : Wks (xs ++ us) (ys ++ ws) := by
  induction xs generalizing ys with
  | nil => cases ys with
    | nil => exact k
    | cons => cases hl
  | cons x xs ih => cases ys with
    | nil => cases hl
    | cons y ys =>
      intro r m vs hm hv
      have e : ∀ r m vs, Low m -> VRs r m (x :: xs) vs -> VRs r m (y :: ys) vs := h
      obtain ⟨a, b, rfl, h1, h2⟩ : ∃ a b, vs = a ++ b /\ VRs r m (x :: xs) a /\ VRs r m us b := by
        clear ih hl e h k
        generalize x :: xs = l at hv
        induction l generalizing vs with
        | nil => exact ⟨[], vs, rfl, VRs.nil, hv⟩
        | cons z l ih =>
          simp only [List.cons_append, VRs] at hv
          obtain ⟨v, vs', rfl, h2, h3⟩ := hv
          obtain ⟨a, b, rfl, h4, h5⟩ := ih _ h3
          exact ⟨v :: a, b, rfl, by simp only [VRs]; exact ⟨v, a, rfl, h2, h4⟩, h5⟩
      exact (e r m a hm h1).app (k r m b hm h2)
theorem Wk.any (x : AV) : Wk x .any := fun _ _ _ _ _ => by simp only [VR]
theorem Wk.agg {cs ds : List AV} (h : Wks cs ds) : Wk (.agg cs) (.agg ds) := fun r m v hm hv => by
  simp only [VR] at hv ⊢
  obtain ⟨arr, h1, h2, h3⟩ := hv
  exact ⟨arr, h1, h2, h r m _ hm h3⟩
theorem Wk.tup {cs ds : List AV} (h : Wks cs ds) : Wk (.tup cs) (.tup ds) := fun r m v hm hv => by
  simp only [VR] at hv ⊢
  obtain ⟨arr, h1, h3⟩ := hv
  exact ⟨arr, h1, h r m _ hm h3⟩
theorem Wk.nil (fl : Bool) (cs : List AV) : Wk .nilS (.lst fl 0 cs) := fun r m v hm hv => by
  simp only [VR] at hv ⊢
  exact .inl ⟨trivial, hv⟩
theorem Wk.nil' (fl : Bool) (n : Nat) (cs : List AV) (h : n = 0) : Wk .nilS (.lst fl n cs) := by subst h; exact Wk.nil fl cs
theorem Wk.lst (fl : Bool) (n : Nat) (cs : List AV) : Wk (.lst fl n cs) (.lst true n cs) := fun r m v hm hv => by
  simp only [VR] at hv ⊢
  rcases hv with hv | ⟨a, cap, vs, h1, h2, h3, h4⟩
  . exact .inl hv
  . exact .inr ⟨a, cap, vs, h1, h2, fun i u hu => ⟨hm.up fl (h3 i u hu).1, (h3 i u hu).2⟩, h4.mono (RLe.refl []) (hm.le fl)⟩
theorem Wk.ipt (fl : Bool) (cs : List AV) : Wk (.ipt fl cs) (.ipt true cs) := fun r m v hm hv => by
  simp only [VR] at hv ⊢
  obtain ⟨a, vs, h2, h3, h4⟩ := hv
  exact ⟨a, vs, h2, fun i u hu => ⟨hm.up fl (h3 i u hu).1, (h3 i u hu).2⟩, h4.mono (RLe.refl []) (hm.le fl)⟩
theorem Wk.take (fl : Bool) (n k : Nat) (cs : List AV) : Wk (.lst fl n cs) (.lst fl n (cs.take k)) := fun r m v hm hv => by
  simp only [VR] at hv ⊢
  rcases hv with hv | ⟨a, cap, vs, h1, h2, h3, h4⟩
  . exact .inl hv
  . exact .inr ⟨a, cap, vs.take k, h1, h2, h3.take k, h4.take k⟩
theorem Wk.lsts (fl : Bool) (n : Nat) {cs ds : List AV} (h : Wks cs ds) : Wk (.lst fl n cs) (.lst fl n ds) := fun r m v hm hv => by
  simp only [VR] at hv ⊢
  rcases hv with hv | ⟨a, cap, vs, h1, h2, h3, h4⟩
  . exact .inl hv
  . exact .inr ⟨a, cap, vs, h1, h2, h3, h _ _ _ (Low.nest _) h4⟩
theorem Wk.clo (f : FuncId) {a b c d : List AV} (h : Wks a c) (k : Wks b d) : Wk (.clo f a b) (.clo f c d) := fun r m v hm hv => by
  simp only [VR] at hv ⊢
  obtain ⟨x, y, h1, h2, h3⟩ := hv
  exact ⟨x, y, h1, h r m _ hm h2, k r m _ hm h3⟩

def resV (T : TT) (s : St) : ResultVar -> (AV -> Prop) -> Prop
  | .tmp t, K => K (s.tm t)
  | .cell p t, K => loadA T s.heap t (s.tm p) fun v _ => K v
def resL (T : TT) (s : St) : List ResultVar -> (List AV -> Prop) -> Prop
  | [], K => K []
  | x :: l, K => resV T s x fun v => resL T s l fun vs => K (v :: vs)
def resA (T : TT) (s : St) (l : List ResultVar) (K : AV -> Prop) : Prop :=
  resL T s l fun vs => match vs with
    | [v] => K v
    | vs => K (.tup vs)

section
variable {X : Nat -> Prop} {D : List Deferred × Rho} {w0 : World} {mA : Mem} {r : Rho} {m : MM} {st : St} {a : Act} {w w' : World} {P : Program} {T : TT}

theorem loadVar_sound (hT : TsOk P T) (h : R X D w0 mA r m st a w) {t : TypeId} {x : AV} {v : Value} (hv : VR r m x v) {K : AV -> List AObj -> Prop}
    (hl : loadA T st.heap t x K) : ∃ y u, K y st.heap /\ VR r m y u /\ (do loadVar t (<- asAddr v)).run P w = .ok u w := by
  obtain ⟨y, u, h1, h2, h3⟩ := load_sound (P := P) hT h hv hl
  refine ⟨y, u, h1, h2, ?_⟩
  unfold loadA at hl
  split at hl
  case h_2 => exact hl.elim
  case h_1 i cs hti hcs =>
    obtain ⟨p, vs, rfl, _⟩ := h.cellsAt hv hcs
    simp only [Instr.loadAt, Instr.sureAddr, Sem.run_bind, Sem.run_pure, Result.andThen_ok] at h3
    simp only [asAddr, Sem.run_bind, Sem.run_pure, Result.andThen_ok]
    exact h3

def resF (tmps : Array Value) : ResultVar -> Sem Value
  | .tmp t => pure (tmps.getD t undef)
  | .cell p t => do loadVar t (<- asAddr (tmps.getD p undef))

theorem resL_sound (hT : TsOk P T) (h : R X D w0 mA r m st a w) : ∀ (l : List ResultVar) {K : List AV -> Prop}, resL T st l K →
    ∃ xs us, K xs /\ VRs r m xs us /\ (l.mapM (resF a.tmps)).run P w = .ok us w
  | [], K, hl => ⟨[], [], hl, VRs.nil, rfl⟩
  | x :: l, K, hl => by
    cases x with
    | tmp t =>
      obtain ⟨xs, us, h1, h2, h3⟩ := resL_sound hT h l hl
      refine ⟨_, a.tmps.getD t undef :: us, h1, ?_, ?_⟩
      . simp only [VRs]; exact ⟨_, _, rfl, h.tmps t, h2⟩
      . simp only [List.mapM_cons, resF, Sem.run_bind, Sem.run_pure, Result.andThen_ok, h3]
    | cell p t =>
      obtain ⟨y, u, h4, h5, h6⟩ := loadVar_sound (P := P) (K := fun v _ => resL T st l fun vs => K (v :: vs)) hT h (h.tmps p) hl
      obtain ⟨xs, us, h1, h2, h3⟩ := resL_sound hT h l h4
      refine ⟨_, u :: us, h1, ?_, ?_⟩
      . simp only [VRs]; exact ⟨_, _, rfl, h5, h2⟩
      . rw [List.mapM_cons, Sem.run_bind, show resF a.tmps (.cell p t) = (do loadVar t (<- asAddr (a.tmps.getD p undef))) from rfl, h6]
        simp only [Result.andThen_ok, Sem.run_bind, Sem.run_pure, h3]

theorem resA_sound (hT : TsOk P T) (h : R X D w0 mA r m st a w) (fn : Func) {K : AV -> Prop} (hl : resA T st fn.results.toList K) :
    ∃ x v, K x /\ VR r m x v /\ (results fn a.tmps).run P w = .ok v w := by
  obtain ⟨xs, us, h1, h2, h3⟩ := resL_sound hT h _ hl
  have hlen := h2.length
  have hm : (results fn a.tmps).run P w = .ok (if h : us.toArray.size = 1 then us.toArray[0] else .tuple us.toArray) w := by
    have e : results fn a.tmps = (do let vs <- fn.results.mapM (resF a.tmps); pure (if h : vs.size = 1 then vs[0] else .tuple vs)) := rfl
    rw [e, Array.mapM_eq_mapM_toList]
    simp only [Sem.run_bind, map_eq_pure_bind]
    rw [h3]
    simp only [Result.andThen_ok, Sem.run_pure]
  rw [hm]
  match xs, us, h1, h2, hlen with
  | [x], us, h1, h2, hlen =>
    simp only [VRs] at h2
    obtain ⟨v, vs', rfl, h4, rfl⟩ := h2
    exact ⟨x, v, h1, h4, by simp⟩
  | [], us, h1, h2, hlen =>
    refine ⟨.tup [], _, h1, ?_, rfl⟩
    rw [dif_neg (by simp [hlen])]
    simp only [VR]; exact ⟨_, rfl, h2⟩
  | x :: y :: l, us, h1, h2, hlen =>
    refine ⟨.tup (x :: y :: l), _, h1, ?_, rfl⟩
    rw [dif_neg (by simp [hlen])]
    simp only [VR]; exact ⟨_, rfl, h2⟩
end

def enumT : Nat -> List AV -> List (Nat × AV)
  | _, [] => []
  | k, x :: l => (k, x) :: enumT (k + 1) l
theorem look_enumT : ∀ (l : List AV) (k t : Nat), look (enumT k l) t = if k <= t then l.getD (t - k) .any else .any
  | [], k, t => by simp [look, enumT]
  | x :: l, k, t => by
    simp only [look, enumT, look_enumT l (k + 1) t]
    by_cases h : t = k
    . subst h; simp
    . rw [if_neg h]
      by_cases h2 : k <= t
      . rw [if_pos h2, if_pos (by omega)]
        have e : t - k = (t - (k + 1)) + 1 := by omega
        rw [e, List.getD_cons_succ]
      . rw [if_neg h2, if_neg (by omega)]
def St.enter (n : Nat) (args : List AV) : St := ⟨n, look (enumT 0 args), [], 0⟩

def retA (T : TT) (l : List ResultVar) (K : St -> AV -> Prop) : Ex -> St -> Prop
  | .nrm, s => resA T s l (K s)
  | .ret, s => resA T s l (K s)
  | _, _ => False

structure IsFn (P : Program) (f : FuncId) (c : Code) (nt : Nat) (rs : List ResultVar) : Prop where
  intro ::
  fn : ∃ fn, P.funcs[f]? = some fn /\ (fn.name == "runtime.NumGoroutine") = false /\ fn.body = some c /\ fn.ntmps = nt /\ fn.results.toList = rs

section
variable {P : Program} {T : TT} {f : FuncId} {c : Code} {nt : Nat} {rs : List ResultVar} {args : List AV}

theorem grown_of_R {D : List Deferred × Rho} {w0 w : World} {mA : Mem} {r : Rho} {m : MM} {st : St} {a : Act} (h : R (fun _ => False) D w0 mA r m st a w) : w0.grownBy w none :=
  { os := h.os, tape := h.tape, output := h.output, size := h.size, block := fun k hk _ => h.old k hk (fun hf => hf) }

theorem enter_R {w : World} {mA : Mem} (hm : ∀ p v, mA p = some v -> w.cell? p = some v /\ p.block < w.heap.size) {vs : List Value} (hv : VRs [] (nest mA) args vs) (hn : args.length <= nt) (X : Nat -> Prop) (hX : ∀ k, ¬ X k) :
    R X ([], []) w mA [] (nest mA) (St.enter nt args) { tmps := vs.toArray ++ Array.replicate (nt - vs.toArray.size) undef, defers := [] } w := by
  have hlen := hv.length
  refine { os := rfl, tape := rfl, output := rfl, size := Nat.le_refl _, old := fun _ _ _ => rfl, len := rfl, lt := by simp, mem := hm, low := (by intro p v h; cases h), newer := (by intro p v h; cases h), fz := (by intro p v h; cases h), lim := fun p v h => .inl h, apart := by simp [St.enter], obj := by simp [St.enter], own := by simp [St.enter], inj := by simp [St.enter], size' := ?_, tmps := ?_, defers := rfl, base := RLe.refl [], short := by simp, nox := fun _ => ⟨hX, rfl⟩, marks := fun d hd => (by cases hd), mnod := List.nodup_nil }
  . simp [St.enter, hlen]; omega
  . intro t
    simp only [St.enter, look_enumT, Nat.zero_le, if_true, Nat.sub_zero]
    rcases Nat.lt_or_ge t args.length with h | h
    . have h0 : args[t]? = some args[t] := List.getElem?_eq_getElem h
      obtain ⟨v, hv1, hv2⟩ := hv.get t _ h0
      have hv1' : vs[t]? = some v := hv1
      rw [List.getD_eq_getElem?_getD, h0, Array.getD_eq_getD_getElem?]
      rw [Array.getElem?_append_left (by simp; omega)]
      simpa [hv1'] using hv2
    . rw [List.getD_eq_getElem?_getD, List.getElem?_eq_none h]
      simp only [Option.getD_none, VR]

theorem R.shut {X : Nat -> Prop} {d : Deferred} {ds : List Deferred} {ρ : Rho} {w0 w : World} {mA : Mem} {r : Rho} {m : MM} {st : St} {a : Act} {b : Nat} (h : R X (d :: ds, ρ) w0 mA r m st a w) (hd : d = { target := .collected b, args := #[] }) (hb0 : w0.heap.size <= b) (hb : w.heap[b]? = some (.deferred (some []))) :
    R X (ds, ρ) w0 mA r m st { tmps := a.tmps, defers := ds } (w.putObj b (.deferred none)) := by
  have ne : ∀ k, k ≠ b -> (w.putObj b (.deferred none)).heap[k]? = w.heap[k]? := fun k hk => World.putObj_heap_other hk
  have cellne : ∀ p v, w.cell? p = some v -> p.block ≠ b := fun p v hv e => by
    unfold World.cell? at hv
    rw [e, hb] at hv
    simp at hv
  refine { os := h.os, tape := h.tape, output := h.output, size := by rw [World.putObj_size]; exact h.size, old := fun k hk hX => (ne k (by omega)).trans (h.old k hk hX), len := h.len, lt := fun i o b c ho hl hr => by rw [World.putObj_size]; exact h.lt i o b c ho hl hr, mem := fun p v hv => ?_, low := h.low, newer := h.newer, fz := fun p v hv => (froz_of (ne _ (cellne p v (h.mem p v (h.low p v hv)).1))).trans (h.fz p v hv), lim := h.lim, apart := h.apart, obj := fun i o ho => ?_, own := h.own, inj := h.inj, size' := h.size', tmps := h.tmps, defers := rfl, base := h.base, short := h.short, nox := h.nox, marks := fun d' hd' => ?_, mnod := (List.nodup_cons.1 h.mnod).2 }
  . obtain ⟨h1, h2⟩ := h.mem p v hv
    exact ⟨(World.cell?_of_block (ne _ (cellne p v h1))).trans h1, by rw [World.putObj_size]; exact h2⟩
  . refine (h.obj i o ho).same fun k c hr hl => ne k ?_
    rintro rfl
    obtain ⟨x, e3, e4, _⟩ := (h.obj i o ho).cells hl hr
    rw [hb] at e3; cases e3; exact e4 _ rfl
  . obtain ⟨k, e1, e0, e2⟩ := h.marks d' (List.mem_cons_of_mem _ hd')
    refine ⟨k, e1, e0, (ne k ?_).trans e2⟩
    rintro rfl
    have : d' = d := by rw [e1, hd]
    subst this
    exact (List.nodup_cons.1 h.mnod).1 hd'
theorem R.leaves {X : Nat -> Prop} {ρ : Rho} {w0 : World} {mA : Mem} {r : Rho} {m : MM} {st : St} {F : Fence} {n : Nat} {P : Program} {fn : Func} {tmps : Array Value} {E : Ending -> World -> Prop}
    (hE : ∀ a w, a.tmps = tmps -> R X ([], ρ) w0 mA r m st a w -> ∃ v, (results fn tmps).run P w = .ok v w /\ E (.returned v) w) :
    ∀ (ms : List Deferred) (a : Act) (w : World), a.tmps = tmps -> R X (ms, ρ) w0 mA r m st a w -> LeavesInM F n P fn tmps E ms .returning w
  | [], a, w, ha, hR => hE a w ha hR
  | d :: ds, a, w, ha, hR => by
    obtain ⟨b, e1, e0, e2⟩ := hR.marks d (by simp)
    exact ⟨by simp, .inl ⟨b, _, by rw [e1], run_takeDeferred e2, R.leaves hE ds { tmps := a.tmps, defers := ds } _ ha (hR.shut e1 e0 e2)⟩⟩

theorem FnS.of_walk (hT : TsOk P T) (hm : P.follows .mixedOrders = true) (hf : IsFn P f c nt rs) {Post : AV -> Prop} (hn : args.length <= nt)
    (h : W P T c (St.enter nt args) (retA T rs fun s x => ∃ y, Wk (conv 6 s.heap x) y /\ Post y)) : FnS P f args Post := by
  obtain ⟨fn, h1, h2, h3, h4, h5⟩ := hf.fn
  refine ⟨⟨fn, h1, h2, by rw [h3]; rfl⟩, fun mA w vs hmA hv => ?_⟩
  have hR := enter_R hmA hv hn (fun _ => False) (fun _ hf => hf)
  refine callsIn_wide (n := 0).1 (callsIn_of_wp_marks h1 h3 trivial ?_)
  rw [h4]
  refine wpIn_mono (h hT hm none (fun h => (h rfl).elim) 0 _ _ _ _ _ _ _ _ hR) ?_
  have fin : ∀ (a' : Act) (w' : World) r m s, resA T s rs (fun x => ∃ y, Wk (conv 6 s.heap x) y /\ Post y) -> R (fun _ => False) ([], []) w mA r m s a' w' →
      ∃ v, (results fn a'.tmps).run P w' = .ok v w' /\ ∃ v' x mR, Ending.returned v = .returned v' /\ w.grownBy w' none /\ Post x /\ VR [] (nest mR) x v' ∧
        ∀ p u, mR p = some u -> w'.cell? p = some u /\ p.block < w'.heap.size /\ (w.heap.size <= p.block \/ mA p = some u) := by
    intro a' w' r m s hs hR'
    rw [<- h5] at hs
    obtain ⟨x, v, ⟨y, hw, hp⟩, hv, hrun⟩ := resA_sound hT hR' fn hs
    refine ⟨v, hrun, v, y, memAll r m s.heap w', rfl, grown_of_R hR', hp, hw _ _ _ (Low.nest _) (cv_sound hR' 6 x v hv), ?_⟩
    intro p u hu
    refine ⟨(memAll_ok hR' p u hu).1, (memAll_ok hR' p u hu).2, ?_⟩
    unfold memAll at hu
    split at hu
    . rename_i v hv
      cases hu
      exact (hR'.lim p _ hv).symm
    . split at hu
      . rename_i hex
        obtain ⟨i, o, c, ho, hl, hr⟩ := hex
        exact .inl ((hR'.own i o _ c ho hl hr).resolve_right (fun hf => hf))
      . cases hu
  intro e a' w' he
  cases e <;> simp only [relQ, retA, bodyPostM] at he ⊢ <;> try exact he.elim
  . obtain ⟨ms, r, m, s, -, hs, hR'⟩ := he
    rw [hR'.defers]
    refine R.leaves (fun a'' w'' ha hR'' => ?_) _ a' w' rfl (by rw [List.append_nil] at hR' ⊢; exact hR')
    rw [<- ha]
    exact fin a'' w'' r m s hs hR''
  . obtain ⟨ms, r, m, s, -, hs, hR'⟩ := he
    exact hs.elim
  . obtain ⟨ms, r, m, s, -, hs, hR'⟩ := he
    rw [hR'.defers]
    refine R.leaves (fun a'' w'' ha hR'' => ?_) _ a' w' rfl (by rw [List.append_nil] at hR' ⊢; exact hR')
    rw [<- ha]
    exact fin a'' w'' r m s hs hR''

theorem FnP.of_walk (hT : TsOk P T) (hm : P.follows .mixedOrders = true) (hf : IsFn P f c nt rs) {Post : AV -> Prop} (hn : args.length <= nt)
    (h : W P T c (St.enter nt args) (retA T rs fun s x => ∃ y, Wk (cvO 6 s.heap x) y /\ Post y)) : FnP P f args Post := by
  obtain ⟨fn, h1, h2, h3, h4, h5⟩ := hf.fn
  refine ⟨⟨fn, h1, h2, by rw [h3]; rfl⟩, fun mA w vs hmA hv => ?_⟩
  have hR := enter_R hmA hv hn (fun _ => False) (fun _ hf => hf)
  refine callsIn_wide (n := 0).1 (callsIn_of_wp_marks h1 h3 trivial ?_)
  rw [h4]
  refine wpIn_mono (h hT hm none (fun h => (h rfl).elim) 0 _ _ _ _ _ _ _ _ hR) ?_
  have fin : ∀ (a' : Act) (w' : World) r m s, resA T s rs (fun x => ∃ y, Wk (cvO 6 s.heap x) y /\ Post y) -> R (fun _ => False) ([], []) w mA r m s a' w' →
      ∃ v, (results fn a'.tmps).run P w' = .ok v w' /\ ∃ v' x mR, Ending.returned v = .returned v' /\ w.grownBy w' none /\ Post x /\ VR [] (fun _ => mR) x v' ∧
        ∀ p u, mR p = some u -> w'.cell? p = some u /\ p.block < w'.heap.size /\ w.heap.size <= p.block /\ w'.frozen? p = false := by
    intro a' w' r m s hs hR'
    rw [<- h5] at hs
    obtain ⟨x, v, ⟨y, hw, hp⟩, hv, hrun⟩ := resA_sound hT hR' fn hs
    exact ⟨v, hrun, v, y, memOwn r m s.heap w', rfl, grown_of_R hR', hp, hw _ _ _ (fun _ _ h => h) (cvO_sound hR' 6 x v hv), memOwn_ok hR'⟩
  intro e a' w' he
  cases e <;> simp only [relQ, retA, bodyPostM] at he ⊢ <;> try exact he.elim
  . obtain ⟨ms, r, m, s, -, hs, hR'⟩ := he
    rw [hR'.defers]
    refine R.leaves (fun a'' w'' ha hR'' => ?_) _ a' w' rfl (by rw [List.append_nil] at hR' ⊢; exact hR')
    rw [<- ha]
    exact fin a'' w'' r m s hs hR''
  . obtain ⟨ms, r, m, s, -, hs, hR'⟩ := he
    exact hs.elim
  . obtain ⟨ms, r, m, s, -, hs, hR'⟩ := he
    rw [hR'.defers]
    refine R.leaves (fun a'' w'' ha hR'' => ?_) _ a' w' rfl (by rw [List.append_nil] at hR' ⊢; exact hR')
    rw [<- ha]
    exact fin a'' w'' r m s hs hR''
end
end Go.Lat
namespace Go.Lat
open Go.RowKit

def callA (P : Program) (h : List AObj) (f : AV) (args : List AV) (K : AV -> List AObj -> Prop) : Prop :=
  match f with
  | .clo k fst caps =>
    (∃ Post, FnP P k ((fst ++ args ++ caps).map (conv 6 h)) Post /\ ∀ x, Post x -> K x h) ∨
    (∃ Post, FnS P k ((fst ++ args ++ caps).map (conv 6 [])) Post /\ ∀ x, Post x -> K x h)
  | _ => False

def keepL (tm : Nat -> AV) : List Nat -> List (Nat × AV)
  | [] => []
  | t :: l => (t, tm t) :: keepL tm l
def St.keep (s : St) (l : List Nat) : St := ⟨s.nt, look (keepL s.tm l), s.heap, s.ho⟩

section
variable {P : Program} {T : TT} {st : St} {K : AV -> List AObj -> Prop} {d : Option Tmp} {ty : TypeId} {pos : String} {af : Array Edge} {g : Option (Nat × Bool)}

theorem look_cons (k : Nat) (v : AV) (l : List (Nat × AV)) (t : Nat) : look ((k, v) :: l) t = if t = k then v else look l t := rfl

theorem St.le_keep (s : St) (l : List Nat) : s.le (s.keep l) := by
  refine ⟨rfl, rfl, rfl, fun t => ?_⟩
  show look (keepL s.tm l) t = .any \/ look (keepL s.tm l) t = s.tm t
  induction l with
  | nil => exact .inl rfl
  | cons k l ih =>
    simp only [keepL, look_cons]
    by_cases h : t = k
    . subst h; rw [if_pos rfl]; exact .inr rfl
    . rw [if_neg h]; exact ih

theorem W.reg {id : Nat} {l : List Oper} {Q : Ex -> St -> Prop} {c : Code} (keep : List Nat) {st' : St} (h : seqL P T l [] 0 l st fun s => s.keep keep = st') (h' : W P T c st' Q) : W P T (.seq (.region id l.toArray false) c) st Q :=
  W.seq (fun s => s.keep keep = st') (W.region [] h) fun s hs => W.le (s.le_keep keep) (hs ▸ h')
end
end Go.Lat
namespace Go.Lat
open Go.RowKit

def Det (F : (AV -> List AObj -> Prop) -> Prop) : Prop := ∀ K, F K -> ∃ v h, K v h /\ ∀ K' : AV -> List AObj -> Prop, K' v h -> F K'
def Det1 (F : (AV -> Prop) -> Prop) : Prop := ∀ K, F K -> ∃ v, K v /\ ∀ K' : AV -> Prop, K' v -> F K'

theorem Det1.up {F : (AV -> Prop) -> Prop} (h : Det1 F) (hp : List AObj) : Det (fun K => F fun v => K v hp) := fun K hk =>
  let ⟨v, h1, h2⟩ := h _ hk
  ⟨v, hp, h1, fun K' hk' => h2 _ hk'⟩

theorem det_eqStA (T : TT) (t : TypeId) (n : Bool) (x y : List AV) : Det1 (eqStA T t n x y) := fun _ ⟨fs, s, b, z, as_, bs, h1, h2, h3, h4, h5, h6, h7, hK⟩ => ⟨_, hK, fun _ k => ⟨fs, s, b, z, as_, bs, h1, h2, h3, h4, h5, h6, h7, k⟩⟩
theorem det_eqA (T : TT) (t : TypeId) (n : Bool) (x y : AV) : Det1 (eqA T t n x y) := by
  intro K
  unfold eqA
  repeat' split
  all_goals first
    | exact det_eqStA T t n _ _ K
    | exact fun h => h.elim
    | exact fun h => ⟨_, h, fun _ k => k⟩
    | exact fun h => ⟨_, h.2, fun _ k => ⟨h.1, k⟩⟩
theorem det_binA (T : TT) (op : BinOp) (t : TypeId) (x y : AV) : Det1 (binA T op t x y) := by
  intro K
  unfold binA
  repeat' split
  all_goals first
    | exact fun h => h.elim
    | exact det_eqA T t _ x y K
    | exact fun h => ⟨_, h, fun _ k => k⟩
    | exact fun h => ⟨_, h.2, fun _ k => ⟨h.1, k⟩⟩
    | exact fun h => ⟨_, h.2.2, fun _ k => ⟨h.1, h.2.1, k⟩⟩
theorem det_unA (op : UnOp) (x : AV) : Det1 (unA op x) := by
  intro K
  unfold unA
  repeat' split
  all_goals first
    | exact fun h => h.elim
    | exact fun h => ⟨_, h, fun _ k => k⟩
    | exact fun h => ⟨_, h.2, fun _ k => ⟨h.1, k⟩⟩
theorem det_convA (T : TT) (s d : TypeId) (x : AV) : Det1 (convA T s d x) := by
  intro K
  unfold convA
  repeat' split
  all_goals first
    | exact fun h => h.elim
    | exact fun h => ⟨_, h, fun _ k => k⟩
theorem det_sliceA (T : TT) (t : TypeId) (x : AV) (a b c : Option AV) : Det1 (sliceA T t x a b c) := by
  intro K
  unfold sliceA
  repeat' split
  all_goals first
    | exact fun h => h.elim
    | exact fun h => h.2.elim
    | exact fun h => ⟨_, h, fun _ k => k⟩
    | exact fun h => ⟨_, h.2, fun _ k => ⟨h.1, k⟩⟩
theorem det_fieldAddrA (T : TT) (t : TypeId) (x : AV) (f : Nat) : Det1 (fieldAddrA T t x f) := by
  intro K
  unfold fieldAddrA
  repeat' split
  all_goals first
    | exact fun h => h.elim
    | exact fun h => h.2.elim
    | exact fun h => ⟨_, h, fun _ k => k⟩
    | exact fun h => ⟨_, h.2, fun _ k => ⟨h.1, k⟩⟩
theorem det_fieldA (T : TT) (t : TypeId) (x : AV) (f : Nat) : Det1 (fieldA T t x f) := by
  intro K
  unfold fieldA
  repeat' split
  all_goals first
    | exact fun h => h.elim
    | exact fun h => ⟨_, h, fun _ k => k⟩
    | exact fun h => ⟨_, h.2, fun _ k => ⟨h.1, k⟩⟩
theorem det_indexAddrA (T : TT) (t : TypeId) (x i : AV) : Det1 (indexAddrA T t x i) := by
  intro K
  unfold indexAddrA
  repeat' split
  all_goals first
    | exact fun h => h.elim
    | exact fun h => ⟨_, h, fun _ k => k⟩
    | exact fun h => ⟨_, h.2, fun _ k => ⟨h.1, k⟩⟩
theorem det_indexA (T : TT) (t : TypeId) (x i : AV) : Det1 (indexA T t x i) := by
  intro K
  unfold indexA
  repeat' split
  all_goals first
    | exact fun h => h.elim
    | exact fun h => ⟨_, h, fun _ k => k⟩
    | exact fun h => ⟨_, h.2, fun _ k => ⟨h.1, k⟩⟩
    | exact fun h => ⟨_, h.2.2, fun _ k => ⟨h.1, h.2.1, k⟩⟩
theorem det_lenA (T : TT) (t : TypeId) (x : AV) : Det1 (lenA T t x) := by
  intro K
  unfold lenA
  repeat' split
  all_goals first
    | exact fun h => h.elim
    | exact fun h => ⟨_, h, fun _ k => k⟩
theorem det_minA (x y : AV) : Det1 (minA x y) := by
  intro K
  unfold minA
  repeat' split
  all_goals first
    | exact fun h => h.elim
    | exact fun h => ⟨_, h.2, fun _ k => ⟨h.1, k⟩⟩
theorem det_maxA (x y : AV) : Det1 (maxA x y) := by
  intro K
  unfold maxA
  repeat' split
  all_goals first
    | exact fun h => h.elim
    | exact fun h => ⟨_, h.2, fun _ k => ⟨h.1, k⟩⟩
theorem det_fillP {place : Nat -> Option (Nat × Nat)} : ∀ (l : List (Nat × AV)) (cells : List AV) (K : List AV -> Prop), fillP place cells K l -> ∃ cs, K cs /\ ∀ K' : List AV -> Prop, K' cs -> fillP place cells K' l
  | [], cells, K, h => ⟨cells, h, fun _ k => k⟩
  | (i, v) :: l, cells, K, h => by
    revert h
    unfold fillP
    split
    . intro h
      obtain ⟨cs, h1, h2⟩ := det_fillP l _ K h.2.2
      exact ⟨cs, h1, fun K' k => ⟨h.1, h.2.1, h2 K' k⟩⟩
    . exact fun h => h.elim
theorem det_buildA (T : TT) (t : TypeId) (ps : List (Nat × AV)) : Det1 (buildA T t ps) := by
  intro K
  unfold buildA
  repeat' split
  all_goals first
    | exact fun h => h.elim
    | exact fun h => let ⟨cs, h1, h2⟩ := det_fillP _ _ _ h; ⟨_, h1, fun _ k => h2 _ k⟩

def Op.pureO : Op -> Bool
  | .move _ | .assign _ | .pick _ _ _ | .build _ _ | .nilCheck _ | .unOp _ _ _ | .convert _ _ _ | .makeFunc _ _ _ | .slice _ _ _ _ _ | .fieldAddr _ _ _ | .field _ _ _ | .indexAddr _ _ _ | .index _ _ _ | .extract _ _ => true
  | .binOp op _ _ y _ => !nilC op y
  | .call ⟨.builtin .len, _, _⟩ | .call ⟨.builtin .min, _, _⟩ | .call ⟨.builtin .max, _, _⟩ => true
  | _ => false

theorem pureO_spec {T : TT} {o : Op} (hp : Op.pureO o = true) {ev : Operand -> AV} {h : List AObj} {K : AV -> List AObj -> Prop} (hk : opR T o ev h K) :
    ∃ v, K v h /\ ∀ h' (K' : AV -> List AObj -> Prop), K' v h' -> opR T o ev h' K' := by
  have up : ∀ {F : (AV -> Prop) -> Prop}, Det1 F -> (F fun v => K v h) -> ∃ v, K v h /\ ∀ h' (K' : AV -> List AObj -> Prop), K' v h' -> F fun v => K' v h' := fun hd hf =>
    let ⟨v, h1, h2⟩ := hd _ hf
    ⟨v, h1, fun h' K' k => h2 _ k⟩
  cases o <;> simp only [Op.pureO, Bool.false_eq_true] at hp <;> try exact hp.elim
  case move x => exact ⟨_, hk, fun _ _ k => k⟩
  case assign x => exact ⟨_, hk, fun _ _ k => k⟩
  case pick c x y =>
    revert hk
    simp only [opR]
    repeat' split
    all_goals first
      | exact fun h => h.elim
      | exact fun h => ⟨_, h, fun _ _ k => k⟩
  case build t ps => exact up (det_buildA T t _) hk
  case nilCheck x =>
    revert hk
    simp only [opR]
    repeat' split
    all_goals first
      | exact fun h => h.elim
      | exact fun h => ⟨_, h, fun _ _ k => k⟩
  case binOp b t x y u =>
    have hn : ¬ nilC b y = true := by simpa using hp
    simp only [opR, if_neg hn] at hk ⊢
    exact up (det_binA T b t _ _) hk
  case unOp b t x => exact up (det_unA b _) hk
  case convert s d x => exact up (det_convA T s d _) hk
  case makeFunc f a b =>
    revert hk
    unfold opR
    cases f
    case func f => exact fun h => ⟨_, h, fun _ _ k => k⟩
    all_goals exact fun h => h.elim
  case slice t x a b c => exact up (det_sliceA T t _ _ _ _) hk
  case fieldAddr t x f => exact up (det_fieldAddrA T t _ f) hk
  case field t x f => exact up (det_fieldA T t _ f) hk
  case indexAddr t x i => exact up (det_indexAddrA T t _ _) hk
  case index t x i => exact up (det_indexA T t _ _) hk
  case extract x i =>
    revert hk
    simp only [opR]
    split
    . exact fun h => ⟨_, h.2, fun _ _ k => ⟨h.1, k⟩⟩
    . exact fun h => h.elim
  case call c =>
    obtain ⟨cal, args, tys⟩ := c
    cases cal
    case value => cases hp
    case invoke => cases hp
    rename_i b
    cases b
    all_goals try (cases hp; done)
    all_goals
      revert hk
      simp only [opR]
      split
      all_goals first
        | contradiction
        | exact fun h => h.elim
        | exact fun h => up (det_lenA T _ _) h
        | exact fun h => up (det_minA _ _) h
        | exact fun h => up (det_maxA _ _) h
        | (rename_i hb _ _; cases hb)
        | (intro h; exact absurd h (by simp_all))
end Go.Lat
namespace Go.Lat
open Go.RowKit

theorem opR_congr {T : TT} {o : Op} {ev ev' : Operand -> AV} {h : List AObj} {K : AV -> List AObj -> Prop} (he : ∀ x ∈ o.operands, ev' x = ev x) : opR T o ev' h K = opR T o ev h K := by
  have hl : ∀ (ps : Array (Nat × Operand)), (∀ x ∈ (ps.toList.map (·.2)).toArray, ev' x = ev x) -> (ps.toList.map fun p => (p.1, ev' p.2)) = ps.toList.map fun p => (p.1, ev p.2) := by
    intro ps hx
    apply List.map_congr_left
    intro p hp
    rw [hx p.2 (by simp only [List.mem_toArray, List.mem_map]; exact ⟨p, hp, rfl⟩)]
  have ho : ∀ (x : Option Operand), (∀ y ∈ x.toArray, ev' y = ev y) -> x.map ev' = x.map ev := by
    intro x hx
    cases x with
    | none => rfl
    | some y => simp only [Option.map_some]; rw [hx y (by simp)]
  cases o <;> try rfl
  case move x => simp only [opR, he x (by simp [Op.operands])]
  case assign x => simp only [opR, he x (by simp [Op.operands])]
  case pick c x y => simp only [opR, he c (by simp [Op.operands]), he x (by simp [Op.operands]), he y (by simp [Op.operands])]
  case box t x => simp only [opR, he x (by simp [Op.operands])]
  case build t ps => simp only [opR, hl ps he]
  case buildSlice t n ps => simp only [opR, hl ps he]
  case load t x => simp only [opR, he x (by simp [Op.operands])]
  case store t x y => simp only [opR, he x (by simp [Op.operands]), he y (by simp [Op.operands])]
  case nilCheck x => simp only [opR, he x (by simp [Op.operands])]
  case binOp b t x y u => simp only [opR, he x (by simp [Op.operands]), he y (by simp [Op.operands])]
  case unOp b t x => simp only [opR, he x (by simp [Op.operands])]
  case convert s d x => simp only [opR, he x (by simp [Op.operands])]
  case makeFunc f a b =>
    cases f <;> try rfl
    simp only [opR]
    have e1 : a.toList.map ev' = a.toList.map ev := List.map_congr_left fun x hx => he x (by simp [Op.operands]; exact .inl (by simpa using hx))
    have e2 : b.toList.map ev' = b.toList.map ev := List.map_congr_left fun x hx => he x (by simp [Op.operands]; exact .inr (by simpa using hx))
    rw [e1, e2]
  case slice t x a b c =>
    simp only [opR]
    rw [he x (by simp [Op.operands]), ho a (fun y hy => he y (by simp [Op.operands] at hy ⊢; simp [hy])), ho b (fun y hy => he y (by simp [Op.operands] at hy ⊢; simp [hy])), ho c (fun y hy => he y (by simp [Op.operands] at hy ⊢; simp [hy]))]
  case fieldAddr s x f => simp only [opR, he x (by simp [Op.operands])]
  case field s x f => simp only [opR, he x (by simp [Op.operands])]
  case indexAddr t x i => simp only [opR, he x (by simp [Op.operands]), he i (by simp [Op.operands])]
  case index t x i => simp only [opR, he x (by simp [Op.operands]), he i (by simp [Op.operands])]
  case makeSlice t x y => simp only [opR, he x (by simp [Op.operands]), he y (by simp [Op.operands])]
  case makeChan t x => simp only [opR, he x (by simp [Op.operands])]
  case extract x i => simp only [opR, he x (by simp [Op.operands])]
  case call c =>
    obtain ⟨cal, args, tys⟩ := c
    cases cal <;> try rfl
    rename_i b
    have ha : ∀ x ∈ args, ev' x = ev x := fun x hx => he x (by simp [Op.operands, Call.operands, hx])
    obtain ⟨args⟩ := args
    obtain ⟨tys⟩ := tys
    have h1 : ∀ x ∈ args, ev' x = ev x := fun x hx => ha x (by simpa using hx)
    cases b <;> try rfl
    all_goals
      rcases args with _ | ⟨x, _ | ⟨y, _ | ⟨z, l⟩⟩⟩ <;> rcases tys with _ | ⟨t, _ | ⟨t', _ | ⟨u, us⟩⟩⟩ <;> try rfl
    all_goals
      first
        | (have e1 := h1 x (by simp); have e2 := h1 y (by simp); simp only [opR, e1, e2]; done)
        | (have e1 := h1 x (by simp); simp only [opR, e1]; done)

def Agr (l : List Tmp) (st st' : St) : Prop := st'.nt = st.nt /\ ∀ t ∈ l, st'.tm t = st.tm t

section
variable {P : Program} {T : TT} {ops : Array Oper} {o : Oper} {st st' : St} {K K' : St -> Prop}

theorem Agr.eval (h : Agr (o.looksAt ops) st st') : ∀ x ∈ o.op.operands, st'.eval x = st.eval x := by
  intro x hx
  cases x <;> try rfl
  rename_i t
  exact h.2 t (List.mem_append_left _ (List.mem_filterMap.2 ⟨.tmp t, by simpa using hx, rfl⟩))

theorem Agr.guard (h : Agr (o.looksAt ops) st st') {j : Nat} {w : Bool} {t : Tmp} (hg : o.guard = some (j, w)) (ht : gdT ops.toList j = some t) : st'.tm t = st.tm t := by
  refine h.2 t (List.mem_append_right _ ?_)
  have e : (ops[j]?).bind (·.dst) = some t := by simpa [gdT] using ht
  simp [hg, e]

theorem stepG_cases (h : stepG P T ops.toList o st K) :
    (opC P T o st (fun v hp => K ({ st with heap := hp }.put o.dst v)) /\ ∀ (st' : St) (K' : St -> Prop), Agr (o.looksAt ops) st st' -> opC P T o st' (fun v hp => K' ({ st' with heap := hp }.put o.dst v)) -> stepG P T ops.toList o st' K') ∨
    (K (st.put o.dst (.tup [])) /\ ∀ (st' : St) (K' : St -> Prop), Agr (o.looksAt ops) st st' -> K' (st'.put o.dst (.tup [])) -> stepG P T ops.toList o st' K') := by
  unfold stepG at h
  split at h
  . rename_i hg
    refine .inl ⟨h, fun st' K' _ hk => ?_⟩
    unfold stepG
    rw [hg]
    exact hk
  . rename_i j want hg
    split at h
    . exact h.elim
    . rename_i t ht
      split at h
      . rename_i b hb
        by_cases hbw : b = want
        . refine .inl ⟨h.1 hbw, fun st' K' ha hk => ?_⟩
          have := ha.guard hg ht
          unfold stepG
          rw [hg]
          simp only [ht, this, hb]
          exact ⟨fun _ => hk, fun hne => absurd hbw hne⟩
        . refine .inr ⟨h.2 hbw, fun st' K' ha hk => ?_⟩
          have := ha.guard hg ht
          unfold stepG
          rw [hg]
          simp only [ht, this, hb]
          exact ⟨fun he => absurd he hbw, fun _ => hk⟩
      . rename_i hb
        refine .inr ⟨h, fun st' K' ha hk => ?_⟩
        have := ha.guard hg ht
        unfold stepG
        rw [hg]
        simp only [ht, this, hb]
        exact hk
      . exact h.elim

theorem opC_plain {K : AV -> List AObj -> Prop} (h : ∀ f args tys, o.op ≠ .call ⟨.value f, args, tys⟩) : opC P T o st K = opR T o.op st.eval st.heap K := by
  unfold opC
  split
  . rename_i c hc
    split
    . rename_i f hf
      obtain ⟨cal, args, tys⟩ := c
      simp only at hf
      subst hf
      exact absurd hc (h _ _ _)
    . rw [hc]
  . rfl

def Op.isLoad : Op -> Bool
  | .load _ _ => true
  | _ => false
def Op.isExt : Op -> Bool
  | .alloc _ | .box _ _ | .buildSlice _ _ _ | .makeSlice _ _ _ => true
  | _ => false
def Op.isApp : Op -> Bool
  | .call ⟨.builtin .append, _, _⟩ => true
  | _ => false
def Op.isStore : Op -> Bool
  | .store _ _ _ => true
  | _ => false
def Op.isCall : Op -> Bool
  | .call ⟨.value _, _, _⟩ => true
  | _ => false

theorem out_pure (hp : Op.pureO o.op = true) (h : stepG P T ops.toList o st K) :
    ∃ v, K (st.put o.dst v) /\ ∀ (st' : St) (K' : St -> Prop), Agr (o.looksAt ops) st st' -> K' (st'.put o.dst v) -> stepG P T ops.toList o st' K' := by
  have hn : ∀ f args tys, o.op ≠ .call ⟨.value f, args, tys⟩ := fun f args tys he => by rw [he] at hp; cases hp
  rcases stepG_cases h with ⟨h1, h2⟩ | ⟨h1, h2⟩
  . rw [opC_plain hn] at h1
    obtain ⟨v, hk, hall⟩ := pureO_spec hp h1
    refine ⟨v, hk, fun st' K' ha hk' => h2 st' K' ha ?_⟩
    rw [opC_plain hn, opR_congr ha.eval]
    exact hall _ _ hk'
  . exact ⟨.tup [], h1, h2⟩

def HL (x : AV) (h h' : List AObj) : Prop := ∀ id off ob, x = .ptr id off -> h[id]? = some ob -> ob ≠ .dead -> h'[id]? = some ob
theorem cellsAt_HL {x : AV} {h h' : List AObj} {cs : List AV} (hc : cellsAt h x = some cs) (hl : HL x h h') : cellsAt h' x = some cs := by
  cases x <;> simp only [cellsAt, reduceCtorEq] at hc ⊢ <;> try exact hc
  rename_i id off
  split at hc
  . rename_i ho
    rw [hl id off _ rfl ho (by simp)]
    exact hc
  . rename_i ho
    rw [hl id off _ rfl ho (by simp)]
    exact hc
  . cases hc

theorem out_load {t : TypeId} {x : Operand} (ho : o.op = .load t x) (h : stepG P T ops.toList o st K) :
    ∃ v, K (st.put o.dst v) /\ ∀ (st' : St) (K' : St -> Prop), Agr (o.looksAt ops) st st' -> HL (st.eval x) st.heap st'.heap -> K' (st'.put o.dst v) -> stepG P T ops.toList o st' K' := by
  have hn : ∀ f args tys, o.op ≠ .call ⟨.value f, args, tys⟩ := fun f args tys he => by rw [he] at ho; cases ho
  rcases stepG_cases h with ⟨h1, h2⟩ | ⟨h1, h2⟩
  . rw [opC_plain hn, ho] at h1
    simp only [opR, loadA] at h1
    split at h1
    . rename_i i cs hti hcs
      split at h1
      . rename_i hag
        refine ⟨_, h1.2, fun st' K' ha hl hk' => h2 st' K' ha ?_⟩
        rw [opC_plain hn, opR_congr ha.eval, ho]
        simp only [opR, loadA, hti, cellsAt_HL hcs hl]
        rw [if_pos hag]
        exact ⟨h1.1, hk'⟩
      . rename_i hag
        refine ⟨_, h1.2, fun st' K' ha hl hk' => h2 st' K' ha ?_⟩
        rw [opC_plain hn, opR_congr ha.eval, ho]
        simp only [opR, loadA, hti, cellsAt_HL hcs hl]
        rw [if_neg hag]
        exact ⟨h1.1, hk'⟩
    . exact h1.elim
  . exact ⟨.tup [], h1, fun st' K' ha _ hk' => h2 st' K' ha hk'⟩

theorem out_ext (hp : Op.isExt o.op = true) (h : stepG P T ops.toList o st K) :
    ∃ (mk : Nat -> AV) (l : List AObj), K ({ st with heap := st.heap ++ l }.put o.dst (mk st.heap.length)) ∧
      ∀ (st' : St) (K' : St -> Prop), Agr (o.looksAt ops) st st' -> K' ({ st' with heap := st'.heap ++ l }.put o.dst (mk st'.heap.length)) -> stepG P T ops.toList o st' K' := by
  have hn : ∀ f args tys, o.op ≠ .call ⟨.value f, args, tys⟩ := fun f args tys he => by rw [he] at hp; cases hp
  rcases stepG_cases h with ⟨h1, h2⟩ | ⟨h1, h2⟩
  . have key : ∃ (mk : Nat -> AV) (l : List AObj), K ({ st with heap := st.heap ++ l }.put o.dst (mk st.heap.length)) /\ ∀ (h' : List AObj) (K' : AV -> List AObj -> Prop), K' (mk h'.length) (h' ++ l) -> opR T o.op st.eval h' K' := by
      rw [opC_plain hn] at h1
      revert hp h1
      generalize o.op = op
      intro hp h1
      cases op <;> simp only [Op.isExt, Bool.false_eq_true] at hp <;> try exact hp.elim
      case alloc t =>
        simp only [opR, allocA] at h1 ⊢
        split at h1
        . exact ⟨fun n => .ptr n 0, _, h1, fun h' K' hk' => hk'⟩
        . exact h1.elim
      case box t x =>
        simp only [opR, boxA] at h1 ⊢
        split at h1
        . exact ⟨fun n => .ptr n 0, _, h1, fun h' K' hk' => hk'⟩
        . exact h1.elim
      case makeSlice t l c =>
        simp only [opR, makeSliceA] at h1 ⊢
        split at h1
        . rename_i i hti
          split at h1
          . rename_i e hke
            split at h1
            . exact ⟨fun k => .ref false k _, _, h1.2, fun h' K' hk' => ⟨h1.1, hk'⟩⟩
            . exact h1.elim
          . exact h1.elim
        . exact h1.elim
      case buildSlice t n ps =>
        simp only [opR, buildSliceA] at h1 ⊢
        split at h1
        . rename_i i hti
          split at h1
          . rename_i e hke
            split at h1
            . rename_i ei hei
              obtain ⟨cs, h3, h4⟩ := det_fillP _ _ _ h1.2
              exact ⟨fun k => .ref false k n, _, h3, fun h' K' hk' => ⟨h1.1, h4 _ hk'⟩⟩
            . exact h1.elim
          . exact h1.elim
        . exact h1.elim
    obtain ⟨mk, l, h3, h4⟩ := key
    refine ⟨mk, l, h3, fun st' K' ha hk' => h2 st' K' ha ?_⟩
    rw [opC_plain hn, opR_congr ha.eval]
    exact h4 _ _ hk'
  . refine ⟨fun _ => .tup [], [], by simpa using h1, fun st' K' ha hk' => h2 st' K' ha (by simpa using hk')⟩

def Kl (h h' : List AObj) : Prop := h.length <= h'.length /\ ∀ id, id < h.length -> h'[id]? = h[id]? \/ h'[id]? = some .dead
theorem Kl.refl (h : List AObj) : Kl h h := ⟨Nat.le_refl _, fun _ _ => .inl rfl⟩
theorem Kl.app (h l : List AObj) : Kl h (h ++ l) := ⟨by simp, fun id hid => .inl (List.getElem?_append_left hid)⟩
theorem Kl.kill (h l : List AObj) (i : Nat) : Kl h (h.set i .dead ++ l) := ⟨by simp, fun id hid => by
  rw [List.getElem?_append_left (by simpa using hid)]
  by_cases e : i = id
  . subst e; right; rw [List.getElem?_set_self hid]
  . left; rw [List.getElem?_set_ne e]⟩

theorem out_app (hp : Op.isApp o.op = true) (h : stepG P T ops.toList o st K) :
    ∃ v h', K ({ st with heap := h' }.put o.dst v) /\ Kl st.heap h' ∧
      ∀ (st' : St) (K' : St -> Prop), Agr (o.looksAt ops) st st' -> st'.heap = st.heap -> K' ({ st' with heap := h' }.put o.dst v) -> stepG P T ops.toList o st' K' := by
  have hn : ∀ f args tys, o.op ≠ .call ⟨.value f, args, tys⟩ := fun f args tys he => by rw [he] at hp; cases hp
  rcases stepG_cases h with ⟨h1, h2⟩ | ⟨h1, h2⟩
  . have key : ∃ v h', K ({ st with heap := h' }.put o.dst v) /\ Kl st.heap h' /\ ∀ (K' : AV -> List AObj -> Prop), K' v h' -> opR T o.op st.eval st.heap K' := by
      rw [opC_plain hn] at h1
      revert hp h1
      generalize o.op = op
      intro hp h1
      cases op <;> try (cases hp; done)
      rename_i c
      obtain ⟨cal, args, tys⟩ := c
      cases cal <;> try (cases hp; done)
      rename_i b
      cases b <;> try (cases hp; done)
      obtain ⟨args⟩ := args
      obtain ⟨tys⟩ := tys
      rcases args with _ | ⟨x, _ | ⟨y, _ | ⟨z, l⟩⟩⟩ <;> rcases tys with _ | ⟨t, _ | ⟨t', _ | ⟨u, us⟩⟩⟩ <;> try (exact h1.elim)
      obtain ⟨e, h1⟩ := h1
      suffices hs : ∃ v h', K ({ st with heap := h' }.put o.dst v) /\ Kl st.heap h' /\ ∀ (K' : AV -> List AObj -> Prop), K' v h' -> appendA T st.heap t (st.eval x) (st.eval y) K' by
        obtain ⟨v, h', h3, h4, h5⟩ := hs
        exact ⟨v, h', h3, h4, fun K' hk' => ⟨e, h5 K' hk'⟩⟩
      revert h1
      generalize st.eval x = X
      generalize st.eval y = Y
      unfold appendA
      repeat' split
      all_goals first
        | exact fun h => h.elim
        | exact fun h => h.2.elim
        | exact fun h => h.2.2.elim
        | skip
      . intro h1
        obtain ⟨h6, h7, h8, h9⟩ := h1
        exact ⟨_, _, h9, Kl.app _ _, fun K' hk' => ⟨h6, h7, h8, hk'⟩⟩
      . intro h1
        exact ⟨_, _, h1.2.2.2, Kl.kill _ _ _, fun K' hk' => ⟨h1.1, h1.2.1, h1.2.2.1, hk'⟩⟩
      . intro h1
        exact ⟨_, _, h1.2.2.2, Kl.app _ _, fun K' hk' => ⟨h1.1, h1.2.1, h1.2.2.1, hk'⟩⟩
    obtain ⟨v, h', h3, h4, h5⟩ := key
    refine ⟨v, h', h3, h4, fun st' K' ha hh hk' => h2 st' K' ha ?_⟩
    rw [opC_plain hn, opR_congr ha.eval, hh]
    exact h5 _ hk'
  . exact ⟨.tup [], st.heap, h1, Kl.refl _, fun st' K' ha hh hk' => h2 st' K' ha (by rw [<- hh] at hk'; exact hk')⟩
theorem out_store (hp : Op.isStore o.op = true) (h : stepG P T ops.toList o st K) :
    ∃ v h', K ({ st with heap := h' }.put o.dst v) /\ st.heap.length = h'.length ∧
      ∀ (st' : St) (K' : St -> Prop), Agr (o.looksAt ops) st st' -> st'.heap = st.heap -> K' ({ st' with heap := h' }.put o.dst v) -> stepG P T ops.toList o st' K' := by
  have hn : ∀ f args tys, o.op ≠ .call ⟨.value f, args, tys⟩ := fun f args tys he => by rw [he] at hp; cases hp
  rcases stepG_cases h with ⟨h1, h2⟩ | ⟨h1, h2⟩
  . have key : ∃ v h', K ({ st with heap := h' }.put o.dst v) /\ st.heap.length = h'.length /\ ∀ (K' : AV -> List AObj -> Prop), K' v h' -> opR T o.op st.eval st.heap K' := by
      rw [opC_plain hn] at h1
      revert hp h1
      generalize o.op = op
      intro hp h1
      cases op <;> simp only [Op.isStore, Bool.false_eq_true] at hp <;> try exact hp.elim
      rename_i t x y
      simp only [opR, storeA] at h1 ⊢
      revert h1
      generalize st.eval x = X
      generalize (st.eval y).cells = Y
      generalize T t = U
      cases U <;> cases X <;> cases Y <;> try (exact fun h => h.elim)
      rename_i i id off vs
      rintro ⟨h3, h4⟩
      unfold putCells at h4 ⊢
      rcases ho : st.heap[id]? with _ | ob
      . rw [ho] at h4; exact h4.elim
      . rw [ho] at h4
        cases ob with
        | row t' sz cs => exact ⟨_, _, h4.2, by simp, fun K' hk => ⟨h3, by rw [ho]; exact ⟨h4.1, hk⟩⟩⟩
        | box t' cs => exact ⟨_, _, h4.2, by simp, fun K' hk => ⟨h3, by rw [ho]; exact ⟨h4.1, hk⟩⟩⟩
        | chan => exact h4.elim
        | dead => exact h4.elim
    obtain ⟨v, h', h3, h4, h5⟩ := key
    refine ⟨v, h', h3, h4, fun st' K' ha hh hk' => h2 st' K' ha ?_⟩
    rw [opC_plain hn, opR_congr ha.eval, hh]
    exact h5 _ hk'
  . exact ⟨.tup [], st.heap, h1, rfl, fun st' K' ha hh hk' => h2 st' K' ha (by rw [<- hh] at hk'; exact hk')⟩
end
end Go.Lat
