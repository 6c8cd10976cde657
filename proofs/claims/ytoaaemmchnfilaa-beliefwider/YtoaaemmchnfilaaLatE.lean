/- The law latecomerlaw10.BeliefWider returns true for every input, and each argument reads afterwards as it read before. Part 5 of 12. No condition. -/
import Derived.Test.YtoaaemmchnfilaaLatD
set_option linter.unusedVariables false
set_option linter.unusedSimpArgs false
set_option linter.unnecessarySimpa false
namespace Go.Lat
open Go.RowKit

abbrev GH : Nat := 1000000
structure ItC where
  l : Nat
  J : Nat → Mem → World → Prop
  Jx : Mem → World → Prop
  L : List AV
structure ItC.Ok (C : ItC) (P : Program) : Prop where
  ab : ∀ i m w w', C.J i m w → w.grownBy w' none → C.J i m w'
  abx : ∀ m w w', C.Jx m w → w.grownBy w' none → C.Jx m w'
  mem : ∀ i m w, C.J i m w → ∀ p v, m p = some v → w.cell? p = some v ∧ p.block < w.heap.size
  memx : ∀ m w, C.Jx m w → ∀ p v, m p = some v → w.cell? p = some v ∧ p.block < w.heap.size
  ext : ∀ i m wb w m', C.J i m wb → wb.grownBy w none → (∀ p u, m' p = some u → w.cell? p = some u ∧ p.block < w.heap.size ∧ (m p = some u ∨ wb.heap.size ≤ p.block)) → C.J i m' w
  step : ∀ n i x m w v, C.L[i]? = some x → C.J i m w → VR [] (nest m) x v →
    YieldAt (FW none) n P C.l #[v] w fun e w' => (e = .returned (.bool true) ∧ C.J (i + 1) m w') ∨ (e = .returned (.bool false) ∧ C.Jx m w')
def Jg (C : ItC) : AV → Mem → World → Prop
  | .gh (i + 1), m, w => C.J i m w
  | .gh 0, m, w => C.Jx m w
  | _, _, _ => False
def relJ (C : ItC) (Q : Ex → St → Prop) : Exit → Act → World → Prop
  | .normal, a, w => ∃ w0 mA r m s, Q .nrm s ∧ Jg C (s.tm GH) mA w0 ∧ R (fun _ => False) ([], []) w0 mA r m s a w
  | .ret, a, w => ∃ w0 mA r m s, Q .ret s ∧ Jg C (s.tm GH) mA w0 ∧ R (fun _ => False) ([], []) w0 mA r m s a w
  | .exit l, a, w => ∃ w0 mA r m s, Q (.exit l) s ∧ Jg C (s.tm GH) mA w0 ∧ R (fun _ => False) ([], []) w0 mA r m s a w
  | _, _, _ => False
def WJ (C : ItC) (P : Program) (T : TT) (c : Code) (st : St) (Q : Ex → St → Prop) : Prop :=
  C.Ok P → TsOk P T → P.follows .mixedOrders = true → ∀ (n : Nat) (w0 : World) (mA : Mem) (r : Rho) (m : MM) (a : Act) (w : World), Jg C (st.tm GH) mA w0 → R (fun _ => False) ([], []) w0 mA r m st a w →
    c.wpIn (FW none) n P (relJ C Q) a w

section
variable {C : ItC} {P : Program} {T : TT} {st : St} {Q Q' : Ex → St → Prop} {c c' : Code}
theorem relJ_mono (hq : ∀ e s, Q e s → Q' e s) : ∀ e a w, relJ C Q e a w → relJ C Q' e a w := by
  intro e a w h
  cases e <;> simp only [relJ] at h ⊢ <;> first | exact h | exact (let ⟨w0, mA, r, m, s, h0, h1, h2⟩ := h; ⟨w0, mA, r, m, s, hq _ _ h0, h1, h2⟩)
theorem WJ.mono (h : WJ C P T c st Q) (hq : ∀ e s, Q e s → Q' e s) : WJ C P T c st Q' := fun hC hT hf n w0 mA r m a w hJ hR =>
  wpIn_mono (h hC hT hf n w0 mA r m a w hJ hR) (relJ_mono hq)
theorem WJ.ofW (hn : noRg c = true) (h : W P T c st fun e s => s.tm GH = st.tm GH ∧ Q e s) : WJ C P T c st Q := fun hC hT hf n w0 mA r m a w hJ hR => by
  refine wpIn_mono (h hT hf none (fun h => (h rfl).elim) n _ _ _ _ _ _ _ _ hR) fun e a' w' he => ?_
  cases e <;> simp only [relQ, relJ] at he ⊢ <;> try exact he
  all_goals
    obtain ⟨ms, r', m', s, h0, ⟨h1, h2⟩, h3⟩ := he
    rw [h0 hn] at h3
    exact ⟨w0, mA, r', m', s, h2, by rw [h1]; exact hJ, h3⟩
theorem WJ.seq (M : St → Prop) (h : WJ C P T c st (thenA M Q)) (h' : ∀ s, M s → WJ C P T c' s Q) : WJ C P T (.seq c c') st Q := fun hC hT hf n w0 mA r m a w hJ hR => by
  refine wpIn_seq (wpIn_mono (h hC hT hf n w0 mA r m a w hJ hR) fun e a' w' he => ?_)
  cases e <;> simp only [relJ, thenA, Exit.then] at he ⊢ <;> try exact he
  obtain ⟨w0', mA', r', m', s, h1, h2, h3⟩ := he
  exact h' s h1 hC hT hf n w0' mA' r' m' a' w' h2 h3
theorem WJ.seq' (h : WJ C P T c st (thenA (fun s => WJ C P T c' s Q) Q)) : WJ C P T (.seq c c') st Q := WJ.seq _ h fun _ h => h
theorem WJ.skip (h : Q .nrm st) : WJ C P T .skip st Q := fun _ _ _ _ w0 mA r m _ _ hJ hR => wpIn_skip ⟨w0, mA, r, m, st, h, hJ, hR⟩
theorem WJ.ret (h : Q .ret st) : WJ C P T .ret st Q := fun _ _ _ _ w0 mA r m _ _ hJ hR => wpIn_ret ⟨w0, mA, r, m, st, h, hJ, hR⟩
theorem WJ.exit {l : Nat} (h : Q (.exit l) st) : WJ C P T (.exit l) st Q := fun _ _ _ _ w0 mA r m _ _ hJ hR => wpIn_exit ⟨w0, mA, r, m, st, h, hJ, hR⟩
theorem WJ.cond {x : Operand} {t : Bool} (hx : st.eval x = .bool t) (h1 : t = true → WJ C P T c st Q) (h2 : t = false → WJ C P T c' st Q) : WJ C P T (.cond x c c') st Q := fun hC hT hf n w0 mA r m a w hJ hR => by
  have hv := hR.eval x
  rw [hx] at hv
  simp only [VR] at hv
  exact wpIn_cond_split hv (fun ht => h1 ht hC hT hf n w0 mA r m a w hJ hR) (fun ht => h2 ht hC hT hf n w0 mA r m a w hJ hR)
theorem WJ.cn {p : Prop} [Decidable p] {x : Operand} (hx : st.eval x = .bool (decide p)) (h1 : p → WJ C P T c st Q) (h2 : ¬ p → WJ C P T c' st Q) : WJ C P T (.cond x c c') st Q :=
  WJ.cond hx (fun h => h1 (of_decide_eq_true h)) (fun h => h2 (of_decide_eq_false h))
theorem WJ.cb {q : Bool} {x : Operand} (hx : st.eval x = .bool q) (h1 : q = true → WJ C P T c st Q) (h2 : ¬ q = true → WJ C P T c' st Q) : WJ C P T (.cond x c c') st Q :=
  WJ.cond hx h1 (fun h => h2 (by rw [h]; simp))
theorem WJ.cT {x : Operand} (hx : st.eval x = .bool true) (h1 : WJ C P T c st Q) : WJ C P T (.cond x c c') st Q := WJ.cond hx (fun _ => h1) (fun h => by cases h)
theorem WJ.cF {x : Operand} (hx : st.eval x = .bool false) (h1 : WJ C P T c' st Q) : WJ C P T (.cond x c c') st Q := WJ.cond hx (fun h => by cases h) (fun _ => h1)
theorem WJ.block {id : Nat} (h : WJ C P T c st (blockA id Q)) : WJ C P T (.block id c) st Q := fun hC hT hf n w0 mA r m a w hJ hR =>
  wpIn_block (wpIn_mono (h hC hT hf n w0 mA r m a w hJ hR) fun e a' w' he => by
    cases e <;> simp only [relJ, blockA, Exit.inBlock] at he ⊢ <;> try exact he
    rename_i l
    obtain ⟨w0', mA', r', m', s, h1, h2, h3⟩ := he
    split <;> rename_i hl
    · rw [if_pos hl] at h1
      exact ⟨w0', mA', r', m', s, h1, h2, h3⟩
    · rw [if_neg hl] at h1
      exact ⟨w0', mA', r', m', s, h1, h2, h3⟩)
theorem WJ.to {st' : St} (hl : st.to st') (hg : st'.tm GH = st.tm GH) (h : WJ C P T c st' Q) : WJ C P T c st Q := fun hC hT hf n w0 mA r m a w hJ hR => by
  obtain ⟨r', hR'⟩ := hR.toSt hl
  exact h hC hT hf n w0 mA r' m a w (by rw [hg]; exact hJ) hR'
theorem WJ.tr {n : Nat} {h : List AObj} {b : Nat} {tm : Nat → AV} (l' : List (Nat × AV)) (h' : List AObj) (hl : regsL tm l') (hh : h = h') (hg : look l' GH = tm GH) (hw : WJ C P T c ⟨n, look l', h', b⟩ Q) : WJ C P T c ⟨n, tm, h, b⟩ Q := fun hC hT hf k w0 mA r m a w hJ hR => by
  subst hh
  exact hw hC hT hf k w0 mA r m a w (by show Jg C (look l' GH) mA w0; rw [hg]; exact hJ) (hR.le ⟨rfl, rfl, rfl, regsL_look hl⟩)
open Classical in
theorem WJ.loop (I : Nat → St → Prop) {k : Nat} (h0 : I k st) (h : ∀ k s, I k s → WJ C P T c s (thenA (fun s' => ∃ k', k' < k ∧ I k' s') Q)) : WJ C P T (.loop c) st Q := fun hC hT hf n w0 mA r m a w hJ hR => by
  let Has : Act → World → Nat → Prop := fun a w k => ∃ w0 mA r m s, I k s ∧ Jg C (s.tm GH) mA w0 ∧ R (fun _ => False) ([], []) w0 mA r m s a w
  have least : ∀ (p : Nat → Prop) (k : Nat), p k → ∃ j, p j ∧ ∀ i, p i → j ≤ i := by
    intro p k
    induction k using Nat.strongRecOn with
    | _ k ih =>
      intro hk
      by_cases hx : ∃ i, i < k ∧ p i
      · obtain ⟨i, hi, hpi⟩ := hx
        exact ih i hi hpi
      · exact ⟨k, hk, fun i hi => Nat.le_of_not_lt fun hlt => hx ⟨i, hlt, hi⟩⟩
  let μ : Act → World → Nat := fun a w => if hx : ∃ j, Has a w j ∧ ∀ i, Has a w i → j ≤ i then Classical.choose hx else 0
  have hμ : ∀ a w k, Has a w k → Has a w (μ a w) ∧ μ a w ≤ k := fun a w k hk => by
    have hx := least (Has a w) k hk
    have e : μ a w = Classical.choose hx := dif_pos hx
    rw [e]
    exact ⟨(Classical.choose_spec hx).1, (Classical.choose_spec hx).2 k hk⟩
  refine wpIn_loop (fun a w => ∃ k, Has a w k) μ ⟨k, w0, mA, r, m, st, h0, hJ, hR⟩ ?_
  rintro a w ⟨k, hk⟩
  obtain ⟨⟨w0, mA, r, m, s, hI, hJ, hR⟩, _⟩ := hμ a w k hk
  refine wpIn_mono (h _ s hI hC hT hf n w0 mA r m a w hJ hR) fun e a' w' he => ?_
  cases e <;> simp only [relJ, thenA, Exit.then] at he ⊢ <;> try exact he
  obtain ⟨w0', mA', r', m', s', ⟨k', hk', hI'⟩, hJ', hR'⟩ := he
  exact ⟨⟨k', w0', mA', r', m', s', hI', hJ', hR'⟩, Nat.lt_of_le_of_lt (hμ a' w' k' ⟨w0', mA', r', m', s', hI', hJ', hR'⟩).2 hk'⟩
theorem WJ.rL {id : Nat} {ol : List Oper} (h1 : seqL P T ol [] 0 ol st fun s => s.tm GH = st.tm GH ∧ WJ C P T c s Q) : WJ C P T (.seq (.region id ol.toArray false) c) st Q :=
  WJ.seq (fun s => WJ C P T c s Q) (WJ.ofW rfl (W.region (Q := fun e s => s.tm GH = st.tm GH ∧ thenA (fun s => WJ C P T c s Q) Q e s) [] h1)) fun _ h => h
theorem WJ.rP {id : Nat} {ol : List Oper} (ord : List Nat) (hc : chk ol.toArray ord = true) (hl : allIn ol ord = true) (h1 : seqL P T ol [] 0 (pickL ol ord) st fun s => s.tm GH = st.tm GH ∧ WJ C P T c s Q) : WJ C P T (.seq (.region id ol.toArray true) c) st Q :=
  WJ.seq (fun s => WJ C P T c s Q) (WJ.ofW rfl (W.rP1 (Q := fun e s => s.tm GH = st.tm GH ∧ thenA (fun s => WJ C P T c s Q) Q e s) ord hc hl h1)) fun _ h => h
theorem WJ.rL1 {id : Nat} {ol : List Oper} (h1 : seqL P T ol [] 0 ol st fun s => s.tm GH = st.tm GH ∧ Q .nrm s) : WJ C P T (.region id ol.toArray false) st Q := WJ.ofW rfl (W.region [] h1)

def clJ : AV → Bool
  | .int _ _ | .bool _ | .nilS | .nilP | .nilF | .any | .yl _ | .gh _ => true
  | .ipt true _ => true
  | .lst true _ _ => true
  | .clo _ [] [] => true
  | _ => false
theorem clJ_VR {r : Rho} {m : MM} : ∀ {x : AV} {v : Value}, clJ x = true → VR r m x v → VR [] (nest (m true)) x v := by
  intro x v hx h
  cases x <;> simp only [clJ] at hx <;> try (cases hx; done)
  case int => simpa only [VR] using h
  case bool => simpa only [VR] using h
  case nilS => simpa only [VR] using h
  case nilP => simpa only [VR] using h
  case nilF => simpa only [VR] using h
  case any => simp only [VR]
  case yl => simpa only [VR] using h
  case gh => simp only [VR]
  case ipt fl cs =>
    cases fl <;> simp only [clJ] at hx <;> try (cases hx; done)
    simp only [VR] at h ⊢
    exact h
  case lst fl n cs =>
    cases fl <;> simp only [clJ] at hx <;> try (cases hx; done)
    simp only [VR] at h ⊢
    exact h
  case clo f a b =>
    cases a <;> cases b <;> simp only [clJ] at hx <;> try (cases hx; done)
    simp only [VR, VRs] at h ⊢
    exact h
def clJs : List (Nat × AV) → Bool
  | [] => true
  | (_, v) :: l => clJ v && clJs l
theorem clJs_look : ∀ {l : List (Nat × AV)}, clJs l = true → ∀ t, clJ (look l t) = true
  | [], _, t => rfl
  | (k, v) :: l, h, t => by
    simp only [clJs, Bool.and_eq_true] at h
    rw [look_cons]
    split
    · exact h.1
    · exact clJs_look h.2 t
theorem seqL_upto {X : Nat → Prop} {D : List Deferred × Rho} {w0 : World} {mA : Mem} (hT : TsOk P T) {ops : Array Oper} {ro : Option Nat} {n : Nat} {Z : Exit → Act → World → Prop} {K : St → Prop} {rest : List Oper}
    (hK : ∀ s r' m' a' w', K s → R X D w0 mA r' m' s a' w' → wpListIn (FW ro) n P ops Z rest a' w') :
    ∀ (l : List Oper) (j : Nat) {r : Rho} {m : MM} {st : St} {a : Act} {w : World}, R X D w0 mA r m st a w → seqL P T ops.toList [] j l st K → wpListIn (FW ro) n P ops Z (l ++ rest) a w
  | [], _, _, _, _, _, _, hR, h => hK _ _ _ _ _ h hR
  | o :: l, j, _, _, _, _, _, hR, h => wpListIn_step fun K' hK' =>
      stepG_sound hT hR h fun s r' m' a' w' hs hR' => hK' a' w' (seqL_upto hT hK l (j + 1) hR' (splitT_sound hs))
structure YSt (C : ItC) (P : Program) (T : TT) (ol B : List Oper) (j : Nat) (d : Nat) (f x : Operand) (gd : Option (Nat × Bool)) (g0 : AV) (s1 : St) (K : St → Prop) : Prop where
  intro ::
  ex : ∃ (nt : Nat) (lr : List (Nat × AV)) (hp : List AObj) (i : Nat) (Y : AV) (l' : List (Nat × AV)), s1 = ⟨nt, look lr, hp, 0⟩ ∧
    (gd = none ∨ ∃ k t, gd = some (k, true) ∧ gdT ol k = some t ∧ look lr t = .bool true) ∧ d < nt ∧ St.eval ⟨nt, look lr, hp, 0⟩ f = .yl C.l ∧ g0 = .gh (i + 1) ∧ C.L[i]? = some Y ∧ Wk (conv 6 [] (St.eval ⟨nt, look lr, hp, 0⟩ x)) Y ∧ clJs l' = true ∧ regsL (look lr) l' ∧
    seqL P T ol [] j B ⟨nt, look ((d, .bool true) :: (GH, .gh (i + 2)) :: l'), [], 0⟩ (fun s => s.tm GH = .gh (i + 2) ∧ K s) ∧
    seqL P T ol [] j B ⟨nt, look ((d, .bool false) :: (GH, .gh 0) :: l'), [], 0⟩ (fun s => s.tm GH = .gh 0 ∧ K s)
theorem wanted_of {X : Nat → Prop} {D : List Deferred × Rho} {w0 : World} {mA : Mem} {r : Rho} {m : MM} {a : Act} {w : World} {ops : Array Oper} (hR : R X D w0 mA r m st a w) {o : Oper} (hg : o.guard = none ∨ ∃ k t, o.guard = some (k, true) ∧ gdT ops.toList k = some t ∧ st.tm t = .bool true) : Region.wanted o (yielded ops a.tmps) = true := by
  rcases hg with hg | ⟨k, t, hg, ht, hb⟩
  · simp [Region.wanted, hg]
  · have hv := hR.tmps t
    rw [hb] at hv
    simp only [VR] at hv
    have hy : yielded ops a.tmps k = some true := by
      have e : (ops[k]?).bind (·.dst) = some t := by simpa [gdT] using ht
      unfold yielded
      rw [e]
      rcases hq : a.tmps[t]? with _ | u
      · rw [Array.getD_eq_getD_getElem?, hq] at hv
        cases hv
      · rw [Array.getD_eq_getD_getElem?, hq] at hv
        simp only [Option.getD_some] at hv
        subst hv
        simp [hq]
    simp [Region.wanted, hg, hy]
theorem R.anew {w0 : World} {mA : Mem} {r : Rho} {m : MM} {nt : Nat} {lr l' : List (Nat × AV)} {hp : List AObj} {a : Act} {w w' : World} {d : Nat} {b : Bool} {g : Nat} (hR : R (fun _ => False) ([], []) w0 mA r m ⟨nt, look lr, hp, 0⟩ a w) (hd : d < nt) (hcl : clJs l' = true) (hrl : regsL (look lr) l')
    (hm : ∀ p v, m true p = some v → w'.cell? p = some v ∧ p.block < w'.heap.size) : R (fun _ => False) ([], []) w' (m true) [] (nest (m true)) ⟨nt, look ((d, .bool b) :: (GH, .gh g) :: l'), [], 0⟩ (a.put (some d) (.bool b)) w' := by
  have hsz : a.tmps.size = nt := hR.size'
  refine { os := rfl, tape := rfl, output := rfl, size := Nat.le_refl _, old := fun _ _ _ => rfl, len := rfl, lt := by simp, mem := hm, low := (by intro p v h; cases h), newer := (by intro p v h; cases h), lim := fun p v h => .inl h, apart := by simp, obj := by simp, own := by simp, inj := by simp, size' := by simpa [Act.put] using hR.size', tmps := fun t => ?_, defers := by simpa [Act.put] using hR.defers, base := RLe.refl [], short := by simp, nox := fun _ => ⟨fun _ h => h, rfl⟩, marks := fun d hd => (by cases hd), mnod := List.nodup_nil }
  show VR [] (nest (m true)) (look ((d, .bool b) :: (GH, .gh g) :: l') t) _
  rw [look_cons]
  split
  · rename_i e
    subst e
    have : ((a.put (some t) (.bool b)).tmps).getD t undef = .bool b := by simp [Act.put, hsz, hd]
    rw [this]
    simp only [VR]
  · rename_i e
    rw [look_cons]
    split
    · simp only [VR]
    · have h1 := hR.tmps t
      have h2 : ((a.put (some d) (.bool b)).tmps).getD t undef = a.tmps.getD t undef := by simp [Act.put, Array.getElem?_setIfInBounds, Ne.symm e]
      rw [h2]
      rcases regsL_look hrl t with h3 | h3
      · rw [h3]; simp only [VR]
      · have h1' : VR r m (look lr t) (a.tmps.getD t undef) := h1
        rw [← h3] at h1'
        exact clJ_VR (clJs_look hcl t) h1'
theorem WJ.rY {id : Nat} {ol : List Oper} (A B : List Oper) {j d : Nat} {f x : Operand} {tys : Array TypeId} {ty : TypeId} {pos : String} {af : Array Edge} {gd : Option (Nat × Bool)}
    (hl : ol = A ++ ⟨some d, .call ⟨.value f, #[x], tys⟩, ty, pos, af, gd⟩ :: B) (h1 : seqL P T ol [] 0 A st fun s1 => YSt C P T ol B j d f x gd (st.tm GH) s1 fun s2 => WJ C P T c s2 Q) : WJ C P T (.seq (.region id ol.toArray false) c) st Q := fun hC hT hf n w0 mA r m a w hJ0 hR0 => by
  refine wpIn_seq (wpIn_region_list ?_)
  have hlist : ol.toArray.toList = A ++ ⟨some d, .call ⟨.value f, #[x], tys⟩, ty, pos, af, gd⟩ :: B := hl
  rw [hlist]
  refine seqL_upto (ops := ol.toArray) (K := fun s1 => YSt C P T ol B j d f x gd (st.tm GH) s1 fun s2 => WJ C P T c s2 Q) hT ?_ A 0 hR0 h1
  rintro s1 r m a w ⟨nt, lr, hp, i, Y, l', rfl, hgd, hdn, hf1, hg1, hLi, hY, hcl, hrl, hk1, hk2⟩ hR
  rw [hg1] at hJ0
  have hJ : C.J i mA w0 := hJ0
  have hJ' : C.J i (m true) w := hC.ext i mA w0 w (m true) hJ (grown_of_R hR) fun p u hu => ⟨(hR.mem p u hu).1, (hR.mem p u hu).2, hR.lim p u hu⟩
  have hX : VR [] (nest (m true)) Y (a.eval x) := hY [] _ _ (Low.nest _) (cv0_sound hR 6 _ _ (hR.eval x))
  obtain ⟨fn, tmps, assign, body, hrun, hround⟩ := hC.step (n - 1) i Y (m true) w (a.eval x) hLi hJ' hX
  refine wpListIn_step fun K' hK' => ?_
  rw [if_pos (wanted_of hR hgd)]
  refine ⟨fun _ _ => trivial, ?_⟩
  rw [Oper.semAt_eq _ _ _ (fun c' h' => by cases h')]
  have hfv := hR.eval f
  rw [hf1] at hfv
  simp only [VR] at hfv
  have hexec : (execOp a.eval ⟨some d, .call ⟨.value f, #[x], tys⟩, ty, pos, af, gd⟩).run P w = .ok (.round C.l fn tmps assign body) w := by
    simp only [execOp, resolve, Deferred.ofValue, hfv, Sem.run_bind, Sem.run_pure, Result.andThen_ok, invoke]
    simpa using hrun
  rw [hexec]
  refine ⟨fun h => (by cases h), hround.mono ?_⟩
  rintro e w' (⟨rfl, hJ2⟩ | ⟨rfl, hJ2⟩)
  · refine hK' _ _ (seqL_sound hT (fun s r' m' a' w'' hs hR' => ?_) B j (hR.anew hdn hcl hrl (hC.mem _ _ _ hJ2)) hk1)
    exact hs.2 hC hT hf n w' (m true) r' m' a' w'' (by rw [hs.1]; exact hJ2) hR'
  · refine hK' _ _ (seqL_sound hT (fun s r' m' a' w'' hs hR' => ?_) B j (hR.anew hdn hcl hrl (hC.memx _ _ hJ2)) hk2)
    exact hs.2 hC hT hf n w' (m true) r' m' a' w'' (by rw [hs.1]; exact hJ2) hR'
theorem FnIt.of_walk {fI : FuncId} {nt : Nat} {rs : List ResultVar} {caps L : List AV} (hT : TsOk P T) (hm : P.follows .mixedOrders = true) (hf : IsFn P fI c nt rs) (hrs : rs = []) (hn : caps.length + 1 ≤ nt)
    (h : ∀ C : ItC, C.L = L → WJ C P T c ⟨nt, look ((GH, .gh 1) :: enumT 0 (.yl C.l :: caps)), [], 0⟩ (fun e s => (e = .nrm ∨ e = .ret) ∧ (s.tm GH = .gh 0 ∨ s.tm GH = .gh (L.length + 1)))) : FnIt P fI caps L := by
  obtain ⟨fn, h1, h2, h3, h4, h5⟩ := hf.fn
  refine ⟨⟨fn, h1, h2, by rw [h3]; rfl⟩, fun n mC w cv hcv l J Jx ab abx mem memx ext step hJ => ?_⟩
  have hC : ItC.Ok ⟨l, J, Jx, L⟩ P := ⟨ab, abx, mem, memx, ext, step⟩
  have hvs : VRs [] (nest mC) (.yl l :: caps) (.func (.yield l) #[] #[] :: cv) := by
    simp only [VRs]
    exact ⟨_, _, rfl, by simp only [VR], hcv⟩
  have hR := enter_R (nt := nt) (mem 0 mC w hJ) hvs (by simpa using hn) (fun _ => False) (fun _ hf => hf)
  have hlen := hcv.length
  have hR2 : R (fun _ => False) ([], []) w mC [] (nest mC) ⟨nt, look ((GH, .gh 1) :: enumT 0 (.yl l :: caps)), [], 0⟩ { tmps := (.func (.yield l) #[] #[] :: cv).toArray ++ Array.replicate (nt - (.func (.yield l) #[] #[] :: cv).toArray.size) undef, defers := [] } w := by
    refine { hR with size' := hR.size', tmps := fun t => ?_, nox := hR.nox, short := hR.short, base := hR.base, defers := hR.defers }
    show VR [] (nest mC) (look ((GH, .gh 1) :: enumT 0 (.yl l :: caps)) t) _
    rw [look_cons]
    split
    · simp only [VR]
    · exact hR.tmps t
  have hargs : (#[Value.func (.yield l) #[] #[]] ++ cv.toArray) = (Value.func (.yield l) #[] #[] :: cv).toArray := by simp
  rw [hargs]
  refine callsIn_of_wp_marks h1 h3 trivial ?_
  rw [h4]
  refine wpIn_mono (h ⟨l, J, Jx, L⟩ rfl hC hT hm n w mC [] (nest mC) _ w hJ hR2) ?_
  have fin : ∀ (a' : Act) (w' : World) w0 mA r m s, (s.tm GH = .gh 0 ∨ s.tm GH = .gh (L.length + 1)) → Jg ⟨l, J, Jx, L⟩ (s.tm GH) mA w0 → R (fun _ => False) ([], []) w0 mA r m s a' w' →
      LeavesInM (FW none) n P fn a'.tmps (fun e w' => (∃ v, e = .returned v) ∧ ((∃ m, J L.length m w') ∨ ∃ m, Jx m w')) a'.defers .returning w' := by
    intro a' w' w0 mA r m s hs hJ' hR'
    rw [hR'.defers]
    obtain ⟨v, hv⟩ : ∃ v, (results fn a'.tmps).run P w' = .ok v w' := by
      have hres : fn.results = #[] := by
        apply Array.toList_inj.1
        rw [h5, hrs]
      simp [results, hres, Sem.run_pure]
    refine ⟨v, hv, ⟨v, rfl⟩, ?_⟩
    rcases hs with hs | hs
    · rw [hs] at hJ'
      exact .inr ⟨mA, abx _ _ _ hJ' (grown_of_R hR')⟩
    · rw [hs] at hJ'
      exact .inl ⟨mA, ab _ _ _ _ hJ' (grown_of_R hR')⟩
  intro e a' w' he
  cases e <;> simp only [relJ, bodyPostM] at he ⊢ <;> try exact he.elim
  · obtain ⟨w0, mA, r, m, s, ⟨-, hs⟩, hJ', hR'⟩ := he
    exact fin a' w' w0 mA r m s hs hJ' hR'
  · obtain ⟨w0, mA, r, m, s, ⟨hs, -⟩, hJ', hR'⟩ := he
    rcases hs with hs | hs <;> cases hs
  · obtain ⟨w0, mA, r, m, s, ⟨-, hs⟩, hJ', hR'⟩ := he
    exact fin a' w' w0 mA r m s hs hJ' hR'
end
end Go.Lat
namespace Go.Lat
open Go.RowKit
theorem o_addU {d : Option Tmp} {a a2 : Operand} {n : Nat} {l : List (Nat × AV)} {h : List AObj} {b : Nat} {ty : TypeId} {pos : String} {af : Array Edge} {g : Option (Nat × Bool)} {P : Program} {T : TT} {K : AV → List AObj → Prop} {t u : TypeId} {x y : Int} (h1 : St.eval ⟨n, look l, h, b⟩ a = .int .u64 x) (h2 : St.eval ⟨n, look l, h, b⟩ a2 = .int .u64 y) (hk : K (.int .u64 (IntKind.u64.wrap (x + y))) h) : opC P T ⟨d, .binOp .add t a a2 u, ty, pos, af, g⟩ ⟨n, look l, h, b⟩ K := by
  have hn : nilC .add a2 = false := rfl
  show (if nilC .add a2 = true then nilEqA T t (BinOp.add == BinOp.neq) (St.eval ⟨n, look l, h, b⟩ a) (fun v => K v h) else binA T .add t (St.eval ⟨n, look l, h, b⟩ a) (St.eval ⟨n, look l, h, b⟩ a2) (fun v => K v h))
  rw [hn, if_neg (by simp), h1, h2]
  exact hk
theorem rd_nrm {A B : St → Prop} {s : St} (h : A s) : rndQ A B .nrm s := h
theorem rd_ret {A B : St → Prop} {s : St} (h : B s) : rndQ A B .ret s := h
theorem noF_ints : ∀ xs : List Int, noFs (encL eInt xs) = true
  | [] => rfl
  | x :: xs => by
    have := noF_ints xs
    simpa only [encL, eInt, noFs, noF, List.flatMap_cons, List.cons_append, List.nil_append, Bool.true_and] using this
section
variable {P : Program} {T : TT} {Q : Ex → St → Prop} {g : Operand} {p n : Nat} {assign body : Code} {gf : FuncId} {caps caps' : List AV} {l0 lg : List (Nat × AV)}
theorem W.rng0_2 {γ : Type} {β0 β1 : Type} (e : γ → AV) (xs : List γ) (q : Nat) (H : List AObj) (I : Nat → Prop) (Hr : β0 → β1 → List AObj) (Ir : β0 → β1 → Prop)
    (hp : Nat.ble (p + 1) n = true) (he : St.eval ⟨n, look lg, H , 0⟩ g = .clo gf [] caps) (hF : FnIt P gf caps' (xs.map e)) (hcc : Wks (caps.map (conv 6 [])) caps') (hL : ∀ c, noF (e c) = true) (hl0 : regsL (look lg) l0) (hq : 0 < q) (hs : stabL q l0 = true)
    (hH : ∀ i, I i  → ∀ o ∈ H , noFO o = true) (hng1 : noRg assign = true) (hng2 : noRg body = true) (h0 : I 0 )
    (hr : ∀ i c, xs[i]? = some c → I i  → W P T assign ⟨n, look ((p, e c) :: l0), H , q⟩ (thenA (fun s => W P T body s (rndQ (fun s => ∃ (_ : Unit), I (i + 1)  ∧ s.to ⟨n, look [], H , q⟩) (fun s => ∃ (_ : Unit) (z0 : β0) (z1 : β1), Ir z0 z1 ∧ s.to ⟨n, look [], Hr z0 z1, q⟩))) (fun _ _ => False)))
    (hd : I xs.length  → Q .nrm ⟨n, look l0, H , 0⟩) (hx : ∀ (z0 : β0) (z1 : β1), Ir z0 z1 → Q .ret ⟨n, look l0, Hr z0 z1, 0⟩) : W P T (.rangeFunc g #[p] assign body) ⟨n, look lg, H , 0⟩ Q :=
  W.range (α := Unit) (β := β0 × β1) q () (fun y => H) (fun i y => I i) (fun z => Hr z.1 z.2) (fun z => Ir z.1 z.2) rfl hp he hF hcc
    (fun x hx => by obtain ⟨c, -, rfl⟩ := List.mem_map.1 hx; exact hL c) hl0 hq hs (fun i y hy => hH i hy) hng1 hng2 h0
    (fun i x y hx hy => by
      rw [List.getElem?_map] at hx
      rcases hc : xs[i]? with _ | c
      · rw [hc] at hx; cases hx
      · rw [hc] at hx; cases hx
        refine (hr i c hc hy).mono fun e s h => ?_
        cases e <;> simp only [thenA] at h ⊢
        refine h.mono fun e s h => ?_
        cases e <;> simp only [rndQ] at h ⊢
        · obtain ⟨_, h1, h2⟩ := h
          exact ⟨(), h1, h2⟩
        · obtain ⟨_, z0, z1, h1, h2⟩ := h
          exact ⟨(z0, z1), h1, h2⟩ )
    (fun y hy => hd (by rw [List.length_map] at hy; exact hy)) (fun z hz => hx z.1 z.2 hz)
theorem W.rng1_0 {γ : Type} {α0 : Type} (e : γ → AV) (xs : List γ) (q : Nat) (y0 : α0) (H : α0 → List AObj) (I : Nat → α0 → Prop)
    (hp : Nat.ble (p + 1) n = true) (he : St.eval ⟨n, look lg, H y0, 0⟩ g = .clo gf [] caps) (hF : FnIt P gf caps' (xs.map e)) (hcc : Wks (caps.map (conv 6 [])) caps') (hL : ∀ c, noF (e c) = true) (hl0 : regsL (look lg) l0) (hq : 0 < q) (hs : stabL q l0 = true)
    (hH : ∀ i (x0 : α0), I i x0 → ∀ o ∈ H x0, noFO o = true) (hng1 : noRg assign = true) (hng2 : noRg body = true) (h0 : I 0 y0)
    (hr : ∀ i c (x0 : α0), xs[i]? = some c → I i x0 → W P T assign ⟨n, look ((p, e c) :: l0), H x0, q⟩ (thenA (fun s => W P T body s (rndQ (fun s => ∃ (_ : Unit) (x0 : α0), I (i + 1) x0 ∧ s.to ⟨n, look [], H x0, q⟩) (fun s => False))) (fun _ _ => False)))
    (hd : ∀ (x0 : α0), I xs.length x0 → Q .nrm ⟨n, look l0, H x0, 0⟩) : W P T (.rangeFunc g #[p] assign body) ⟨n, look lg, H y0, 0⟩ Q :=
  W.range (α := α0) (β := Unit) q y0 (fun y => H y) (fun i y => I i y) (fun z => []) (fun z => False) rfl hp he hF hcc
    (fun x hx => by obtain ⟨c, -, rfl⟩ := List.mem_map.1 hx; exact hL c) hl0 hq hs (fun i y hy => hH i y hy) hng1 hng2 h0
    (fun i x y hx hy => by
      rw [List.getElem?_map] at hx
      rcases hc : xs[i]? with _ | c
      · rw [hc] at hx; cases hx
      · rw [hc] at hx; cases hx
        refine (hr i c y hc hy).mono fun e s h => ?_
        cases e <;> simp only [thenA] at h ⊢
        refine h.mono fun e s h => ?_
        cases e <;> simp only [rndQ] at h ⊢
        · obtain ⟨_, x0, h1, h2⟩ := h
          exact ⟨x0, h1, h2⟩
 )
    (fun y hy => hd y (by rw [List.length_map] at hy; exact hy)) (fun z hz => hz.elim)
theorem W.rng2_0 {γ : Type} {α0 α1 : Type} (e : γ → AV) (xs : List γ) (q : Nat) (y0 : α0) (y1 : α1) (H : α0 → α1 → List AObj) (I : Nat → α0 → α1 → Prop)
    (hp : Nat.ble (p + 1) n = true) (he : St.eval ⟨n, look lg, H y0 y1, 0⟩ g = .clo gf [] caps) (hF : FnIt P gf caps' (xs.map e)) (hcc : Wks (caps.map (conv 6 [])) caps') (hL : ∀ c, noF (e c) = true) (hl0 : regsL (look lg) l0) (hq : 0 < q) (hs : stabL q l0 = true)
    (hH : ∀ i (x0 : α0) (x1 : α1), I i x0 x1 → ∀ o ∈ H x0 x1, noFO o = true) (hng1 : noRg assign = true) (hng2 : noRg body = true) (h0 : I 0 y0 y1)
    (hr : ∀ i c (x0 : α0) (x1 : α1), xs[i]? = some c → I i x0 x1 → W P T assign ⟨n, look ((p, e c) :: l0), H x0 x1, q⟩ (thenA (fun s => W P T body s (rndQ (fun s => ∃ (_ : Unit) (x0 : α0) (x1 : α1), I (i + 1) x0 x1 ∧ s.to ⟨n, look [], H x0 x1, q⟩) (fun s => False))) (fun _ _ => False)))
    (hd : ∀ (x0 : α0) (x1 : α1), I xs.length x0 x1 → Q .nrm ⟨n, look l0, H x0 x1, 0⟩) : W P T (.rangeFunc g #[p] assign body) ⟨n, look lg, H y0 y1, 0⟩ Q :=
  W.range (α := α0 × α1) (β := Unit) q (y0, y1) (fun y => H y.1 y.2) (fun i y => I i y.1 y.2) (fun z => []) (fun z => False) rfl hp he hF hcc
    (fun x hx => by obtain ⟨c, -, rfl⟩ := List.mem_map.1 hx; exact hL c) hl0 hq hs (fun i y hy => hH i y.1 y.2 hy) hng1 hng2 h0
    (fun i x y hx hy => by
      rw [List.getElem?_map] at hx
      rcases hc : xs[i]? with _ | c
      · rw [hc] at hx; cases hx
      · rw [hc] at hx; cases hx
        refine (hr i c y.1 y.2 hc hy).mono fun e s h => ?_
        cases e <;> simp only [thenA] at h ⊢
        refine h.mono fun e s h => ?_
        cases e <;> simp only [rndQ] at h ⊢
        · obtain ⟨_, x0, x1, h1, h2⟩ := h
          exact ⟨(x0, x1), h1, h2⟩
 )
    (fun y hy => hd y.1 y.2 (by rw [List.length_map] at hy; exact hy)) (fun z hz => hz.elim)
end
end Go.Lat
namespace Go.Lat
open Go.RowKit
theorem Ren.gh {φ : List (Option Nat)} (k : Nat) : Ren φ (.gh k) (.gh k) := fun _ _ _ _ _ => by simp only [VR]
theorem Ren.yl {φ : List (Option Nat)} (k : Nat) : Ren φ (.yl k) (.yl k) := fun _ _ _ _ hv => by simpa only [VR] using hv
section
variable {C : ItC} {P : Program} {T : TT} {st : St} {Q : Ex → St → Prop} {c c' : Code}
theorem WJ.mid1 {α0 : Type} (S : α0 → St) (p : α0 → Prop) (h' : ∀ (x0 : α0), p x0 → WJ C P T c' (S x0) Q) (h : WJ C P T c st (thenA (fun s => ∃ (_ : Unit) (x0 : α0), p x0 ∧ s.to (S x0) ∧ (S x0).tm GH = s.tm GH) Q)) : WJ C P T (.seq c c') st Q :=
  WJ.seq _ h fun _ ⟨_, x0, hx, hs, hg⟩ => WJ.to hs hg (h' x0 hx)
theorem WJ.loop1 {α0 : Type} (S : α0 → St) (p : α0 → Prop) (μ : α0 → Nat) (z0 : α0) (hs : st.to (S z0)) (hg : (S z0).tm GH = st.tm GH) (hp : p z0)
    (h : ∀ (x0 : α0), p x0 → WJ C P T c (S x0) (thenA (fun s => ∃ (_ : Unit) (y0 : α0), (p y0 ∧ μ y0 < μ x0) ∧ s.to (S y0) ∧ (S y0).tm GH = s.tm GH) Q)) : WJ C P T (.loop c) st Q :=
  WJ.loop (fun k s => ∃ (x0 : α0), p x0 ∧ μ x0 = k ∧ s.to (S x0) ∧ (S x0).tm GH = s.tm GH) (k := μ z0) ⟨z0, hp, rfl, hs, hg⟩ fun k s ⟨x0, hx, hk, hs, hg⟩ => WJ.to hs hg ((h x0 hx).mono fun e s' h => by
    cases e <;> simp only [thenA] at h ⊢ <;> try exact h
    obtain ⟨_, y0, ⟨h1, h2⟩, h3, h4⟩ := h
    exact ⟨μ y0, by rw [← hk]; exact h2, y0, h1, rfl, h3, h4⟩)
theorem WJ.mid2 {α0 α1 : Type} (S : α0 → α1 → St) (p : α0 → α1 → Prop) (h' : ∀ (x0 : α0) (x1 : α1), p x0 x1 → WJ C P T c' (S x0 x1) Q) (h : WJ C P T c st (thenA (fun s => ∃ (_ : Unit) (x0 : α0) (x1 : α1), p x0 x1 ∧ s.to (S x0 x1) ∧ (S x0 x1).tm GH = s.tm GH) Q)) : WJ C P T (.seq c c') st Q :=
  WJ.seq _ h fun _ ⟨_, x0, x1, hx, hs, hg⟩ => WJ.to hs hg (h' x0 x1 hx)
theorem WJ.loop2 {α0 α1 : Type} (S : α0 → α1 → St) (p : α0 → α1 → Prop) (μ : α0 → α1 → Nat) (z0 : α0) (z1 : α1) (hs : st.to (S z0 z1)) (hg : (S z0 z1).tm GH = st.tm GH) (hp : p z0 z1)
    (h : ∀ (x0 : α0) (x1 : α1), p x0 x1 → WJ C P T c (S x0 x1) (thenA (fun s => ∃ (_ : Unit) (y0 : α0) (y1 : α1), (p y0 y1 ∧ μ y0 y1 < μ x0 x1) ∧ s.to (S y0 y1) ∧ (S y0 y1).tm GH = s.tm GH) Q)) : WJ C P T (.loop c) st Q :=
  WJ.loop (fun k s => ∃ (x0 : α0) (x1 : α1), p x0 x1 ∧ μ x0 x1 = k ∧ s.to (S x0 x1) ∧ (S x0 x1).tm GH = s.tm GH) (k := μ z0 z1) ⟨z0, z1, hp, rfl, hs, hg⟩ fun k s ⟨x0, x1, hx, hk, hs, hg⟩ => WJ.to hs hg ((h x0 x1 hx).mono fun e s' h => by
    cases e <;> simp only [thenA] at h ⊢ <;> try exact h
    obtain ⟨_, y0, y1, ⟨h1, h2⟩, h3, h4⟩ := h
    exact ⟨μ y0 y1, by rw [← hk]; exact h2, y0, y1, h1, rfl, h3, h4⟩)
theorem WJ.mid3 {α0 α1 α2 : Type} (S : α0 → α1 → α2 → St) (p : α0 → α1 → α2 → Prop) (h' : ∀ (x0 : α0) (x1 : α1) (x2 : α2), p x0 x1 x2 → WJ C P T c' (S x0 x1 x2) Q) (h : WJ C P T c st (thenA (fun s => ∃ (_ : Unit) (x0 : α0) (x1 : α1) (x2 : α2), p x0 x1 x2 ∧ s.to (S x0 x1 x2) ∧ (S x0 x1 x2).tm GH = s.tm GH) Q)) : WJ C P T (.seq c c') st Q :=
  WJ.seq _ h fun _ ⟨_, x0, x1, x2, hx, hs, hg⟩ => WJ.to hs hg (h' x0 x1 x2 hx)
theorem WJ.loop3 {α0 α1 α2 : Type} (S : α0 → α1 → α2 → St) (p : α0 → α1 → α2 → Prop) (μ : α0 → α1 → α2 → Nat) (z0 : α0) (z1 : α1) (z2 : α2) (hs : st.to (S z0 z1 z2)) (hg : (S z0 z1 z2).tm GH = st.tm GH) (hp : p z0 z1 z2)
    (h : ∀ (x0 : α0) (x1 : α1) (x2 : α2), p x0 x1 x2 → WJ C P T c (S x0 x1 x2) (thenA (fun s => ∃ (_ : Unit) (y0 : α0) (y1 : α1) (y2 : α2), (p y0 y1 y2 ∧ μ y0 y1 y2 < μ x0 x1 x2) ∧ s.to (S y0 y1 y2) ∧ (S y0 y1 y2).tm GH = s.tm GH) Q)) : WJ C P T (.loop c) st Q :=
  WJ.loop (fun k s => ∃ (x0 : α0) (x1 : α1) (x2 : α2), p x0 x1 x2 ∧ μ x0 x1 x2 = k ∧ s.to (S x0 x1 x2) ∧ (S x0 x1 x2).tm GH = s.tm GH) (k := μ z0 z1 z2) ⟨z0, z1, z2, hp, rfl, hs, hg⟩ fun k s ⟨x0, x1, x2, hx, hk, hs, hg⟩ => WJ.to hs hg ((h x0 x1 x2 hx).mono fun e s' h => by
    cases e <;> simp only [thenA] at h ⊢ <;> try exact h
    obtain ⟨_, y0, y1, y2, ⟨h1, h2⟩, h3, h4⟩ := h
    exact ⟨μ y0 y1 y2, by rw [← hk]; exact h2, y0, y1, y2, h1, rfl, h3, h4⟩)
theorem WJ.mid4 {α0 α1 α2 α3 : Type} (S : α0 → α1 → α2 → α3 → St) (p : α0 → α1 → α2 → α3 → Prop) (h' : ∀ (x0 : α0) (x1 : α1) (x2 : α2) (x3 : α3), p x0 x1 x2 x3 → WJ C P T c' (S x0 x1 x2 x3) Q) (h : WJ C P T c st (thenA (fun s => ∃ (_ : Unit) (x0 : α0) (x1 : α1) (x2 : α2) (x3 : α3), p x0 x1 x2 x3 ∧ s.to (S x0 x1 x2 x3) ∧ (S x0 x1 x2 x3).tm GH = s.tm GH) Q)) : WJ C P T (.seq c c') st Q :=
  WJ.seq _ h fun _ ⟨_, x0, x1, x2, x3, hx, hs, hg⟩ => WJ.to hs hg (h' x0 x1 x2 x3 hx)
theorem WJ.loop4 {α0 α1 α2 α3 : Type} (S : α0 → α1 → α2 → α3 → St) (p : α0 → α1 → α2 → α3 → Prop) (μ : α0 → α1 → α2 → α3 → Nat) (z0 : α0) (z1 : α1) (z2 : α2) (z3 : α3) (hs : st.to (S z0 z1 z2 z3)) (hg : (S z0 z1 z2 z3).tm GH = st.tm GH) (hp : p z0 z1 z2 z3)
    (h : ∀ (x0 : α0) (x1 : α1) (x2 : α2) (x3 : α3), p x0 x1 x2 x3 → WJ C P T c (S x0 x1 x2 x3) (thenA (fun s => ∃ (_ : Unit) (y0 : α0) (y1 : α1) (y2 : α2) (y3 : α3), (p y0 y1 y2 y3 ∧ μ y0 y1 y2 y3 < μ x0 x1 x2 x3) ∧ s.to (S y0 y1 y2 y3) ∧ (S y0 y1 y2 y3).tm GH = s.tm GH) Q)) : WJ C P T (.loop c) st Q :=
  WJ.loop (fun k s => ∃ (x0 : α0) (x1 : α1) (x2 : α2) (x3 : α3), p x0 x1 x2 x3 ∧ μ x0 x1 x2 x3 = k ∧ s.to (S x0 x1 x2 x3) ∧ (S x0 x1 x2 x3).tm GH = s.tm GH) (k := μ z0 z1 z2 z3) ⟨z0, z1, z2, z3, hp, rfl, hs, hg⟩ fun k s ⟨x0, x1, x2, x3, hx, hk, hs, hg⟩ => WJ.to hs hg ((h x0 x1 x2 x3 hx).mono fun e s' h => by
    cases e <;> simp only [thenA] at h ⊢ <;> try exact h
    obtain ⟨_, y0, y1, y2, y3, ⟨h1, h2⟩, h3, h4⟩ := h
    exact ⟨μ y0 y1 y2 y3, by rw [← hk]; exact h2, y0, y1, y2, y3, h1, rfl, h3, h4⟩)
theorem WJ.rYn {id : Nat} {ol : List Oper} (y : Nat) {j d : Nat} {f x : Operand} {tys : Array TypeId} {ty : TypeId} {pos : String} {af : Array Edge} {gd : Option (Nat × Bool)}
    (hl : ol[y]? = some ⟨some d, .call ⟨.value f, #[x], tys⟩, ty, pos, af, gd⟩) (h1 : seqL P T ol [] 0 (ol.take y) st fun s1 => YSt C P T ol (ol.drop (y + 1)) j d f x gd (st.tm GH) s1 fun s2 => WJ C P T c s2 Q) : WJ C P T (.seq (.region id ol.toArray false) c) st Q :=
  WJ.rY (ol.take y) (ol.drop (y + 1)) (by
    obtain ⟨h, e⟩ := List.getElem?_eq_some_iff.1 hl
    rw [← e, List.getElem_cons_drop, List.take_append_drop]) h1
end
end Go.Lat
namespace Go.Lat
open Go.RowKit

mutual
inductive PT where
  | leaf (P : List Nat)
  | node (P : List Nat) (B : PB)
inductive PB where
  | nil
  | cons (a : Nat) (t : PT) (r : PB)
end
section
variable (P : Program) (T : TT) (ops : Array Oper) (K : St → Prop)
mutual
def PT.run : PT → St → Prop
  | .leaf L, st => seqI P T ops L st K
  | .node L B, st => seqI P T ops L st fun s => PB.run B s
def PB.run : PB → St → Prop
  | .nil, _ => True
  | .cons a t r, s => (stepI P T ops a s fun s' => PT.run t s') ∧ PB.run r s
end
end
def PB.has : PB → Nat → Bool
  | .nil, _ => false
  | .cons a _ r, k => Nat.beq a k || PB.has r k
def PB.some : PB → Bool
  | .nil => false
  | .cons .. => true
section
variable (ops : Array Oper) (A : List (List Nat))
def segOk (CP dn L : List Nat) : Bool :=
  decide L.Nodup && L.all (fun k => decide (k < ops.size) && !dn.contains k) && pairB ops A L && CP.all (fun c => L.all (relB ops A c)) && L.all fun q => (dirs ops q).all fun p => (dn ++ L).contains p
mutual
def chkT (CP dn : List Nat) : PT → Bool
  | .leaf L => segOk ops A CP dn L && (List.range ops.size).all fun k => (dn ++ L).contains k
  | .node L B => segOk ops A CP dn L && PB.some B && ((List.range ops.size).all fun k => (dn ++ L).contains k || PB.has B k || (dirs ops k).any fun p => !(dn ++ L).contains p) && chkB (CP ++ L) (dn ++ L) B
def chkB (CP dn : List Nat) : PB → Bool
  | .nil => true
  | .cons a t r => decide (a < ops.size) && !dn.contains a && CP.all (fun c => relB ops A c a) && (dirs ops a).all (fun p => dn.contains p) && chkT CP (dn ++ [a]) t && chkB CP dn r
end
end
def chkP (ops : Array Oper) (t : PT) : Bool :=
  chkA ops (ancs ops) && (List.range ops.size).all (fun i => (dirs ops i).all fun p => decide (p < ops.size) && p != i) && chkT ops (ancs ops) [] [] t

section
variable {P : Program} {T : TT} {ops : Array Oper} {K : St → Prop} {A : List (List Nat)}
theorem stepI_mono {K K' : St → Prop} {i : Nat} {st : St} (h : stepI P T ops i st K) (hk : ∀ s, K s → K' s) : stepI P T ops i st K' := by
  unfold stepI at h ⊢
  split at h
  · exact hk _ h
  · exact stepG_mono' h hk
theorem seqI_mono {K K' : St → Prop} (hk : ∀ s, K s → K' s) : ∀ (l : List Nat) (st : St), seqI P T ops l st K → seqI P T ops l st K'
  | [], _, h => hk _ h
  | _ :: l, _, h => stepI_mono h fun s hs => seqI_mono hk l s hs
theorem seqI_app {K : St → Prop} : ∀ (a b : List Nat) (st : St), seqI P T ops (a ++ b) st K = seqI P T ops a st fun s => seqI P T ops b s K
  | [], _, _ => rfl
  | i :: a, b, st => by
    show stepI P T ops i st (fun s => seqI P T ops (a ++ b) s K) = stepI P T ops i st fun s => seqI P T ops a s fun s => seqI P T ops b s K
    congr 1
    funext s
    exact seqI_app a b s
theorem chkB_has {CP dn : List Nat} : ∀ {B : PB}, chkB ops A CP dn B = true → ∀ {i}, PB.has B i = true → ∃ t, chkT ops A CP (dn ++ [i]) t = true ∧ i < ops.size ∧ i ∉ dn ∧ (∀ c ∈ CP, relB ops A c i = true) ∧ (∀ s, PB.run P T ops K B s → stepI P T ops i s fun s' => PT.run P T ops K t s')
  | .nil, _, i, h => by cases h
  | .cons a t r, hc, i, h => by
    simp only [chkB, Bool.and_eq_true, decide_eq_true_eq, Bool.not_eq_true', List.all_eq_true] at hc
    obtain ⟨⟨⟨⟨⟨h1, h2⟩, h3⟩, h4⟩, h5⟩, h6⟩ := hc
    simp only [PB.has, Bool.or_eq_true] at h
    rcases h with h | h
    · obtain rfl := Nat.eq_of_beq_eq_true h
      refine ⟨t, h5, h1, fun hin => ?_, h3, fun s hs => ?_⟩
      · rw [List.contains_iff_mem.mpr hin] at h2; cases h2
      · simp only [PB.run] at hs; exact hs.1
    · obtain ⟨t', k1, k2, k3, k4, k5⟩ := chkB_has h6 h
      exact ⟨t', k1, k2, k3, k4, fun s hs => by simp only [PB.run] at hs; exact k5 s hs.2⟩
theorem chkB_first {CP dn : List Nat} {B : PB} (hc : chkB ops A CP dn B = true) (hs : PB.some B = true) : ∃ a, a < ops.size ∧ a ∉ dn ∧ ∀ p ∈ dirs ops a, p ∈ dn := by
  cases B with
  | nil => cases hs
  | cons a t r =>
    simp only [chkB, Bool.and_eq_true, decide_eq_true_eq, Bool.not_eq_true', List.all_eq_true, List.contains_iff_mem] at hc
    obtain ⟨⟨⟨⟨⟨h1, h2⟩, h3⟩, h4⟩, h5⟩, h6⟩ := hc
    refine ⟨a, h1, fun hin => ?_, h4⟩
    rw [List.contains_iff_mem.mpr hin] at h2; cases h2

inductive PE where
  | fin
  | br (B : PB)
def PE.run (P : Program) (T : TT) (ops : Array Oper) (K : St → Prop) : PE → St → Prop
  | .fin, s => K s
  | .br B, s => PB.run P T ops K B s
def PE.ok (ops : Array Oper) (A : List (List Nat)) (CP dn : List Nat) : PE → Prop
  | .fin => ∀ k, k < ops.size → k ∈ dn
  | .br B => PB.some B = true ∧ (∀ k, k < ops.size → k ∈ dn ∨ PB.has B k = true ∨ ∃ p ∈ dirs ops k, p ∉ dn) ∧ chkB ops A CP dn B = true

structure Res (ops : Array Oper) (A : List (List Nat)) (listed : Array Bool) (L CP dn : List Nat) (E : PE) : Prop where
  size : listed.size = ops.size
  done : ∀ k, k < ops.size → (k ∈ dn ↔ listed.getD k false = true ∨ k ∈ L)
  lt : ∀ k ∈ L, k < ops.size
  open' : ∀ k ∈ L, listed.getD k true = false
  nodup : L.Nodup
  pair : L.Pairwise (fun a b => relB ops A a b = true)
  sub : ∀ k ∈ L, k ∈ CP
  closed : ∀ k, listed.getD k false = true → ∀ p ∈ dirs ops k, listed.getD p false = true
  seg : ∀ q ∈ L, ∀ p ∈ dirs ops q, p ∈ dn
  self : ∀ k, k < ops.size → ∀ p ∈ dirs ops k, p < ops.size ∧ p ≠ k
  e : PE.ok ops A CP dn E

theorem Res.anc {listed : Array Bool} {L CP dn : List Nat} {E : PE} (h : Res ops A listed L CP dn E) (hA : chkA ops A = true) :
    ∀ (i : Nat), (∀ p ∈ dirs ops i, listed.getD p false = true) → ∀ j ∈ A.getD i [], i < ops.size → listed.getD j false = true := by
  intro i
  induction i using Nat.strongRecOn with
  | _ i ih =>
    intro hi j hj hlt
    simp only [chkA, List.all_eq_true, List.mem_range, Bool.or_eq_true, List.contains_iff_mem, List.any_eq_true, Bool.and_eq_true, decide_eq_true_eq] at hA
    rcases hA i hlt j hj with h1 | ⟨p, hp, hpi, hjp⟩
    · exact hi j h1
    · exact ih p hpi (h.closed p (hi p hp)) j hjp (by omega)

theorem ready_of {listed : Array Bool} {i : Nat} (hlt : i < ops.size) (h1 : listed.getD i true = false) (h2 : ∀ p ∈ dirs ops i, listed.getD p false = true) : i ∈ Region.ready .any ops listed := by
  refine mem_ready.2 ⟨h1, ops[i], by simp [hlt], fun e he hb => ?_⟩
  refine h2 e.on ?_
  simp only [dirs, Array.getElem?_eq_getElem hlt, List.mem_map, List.mem_filter]
  exact ⟨e, ⟨by simpa using he, hb⟩, rfl⟩
theorem getD_ft {listed : Array Bool} {k : Nat} (hk : k < listed.size) (h : ¬ listed.getD k false = true) : listed.getD k true = false := by
  rw [Array.getD_eq_getD_getElem?] at h ⊢
  simp [hk] at h ⊢
  exact h

theorem any_of_tree (hA : chkA ops A = true) : ∀ (fuel : Nat) (listed : Array Bool) (L CP dn : List Nat) (E : PE) (st : St), Res ops A listed L CP dn E →
    (∃ U : List Nat, U.length ≤ fuel ∧ ∀ k, k < ops.size → ¬ listed.getD k false = true → k ∈ U) → (seqI P T ops L st fun s => PE.run P T ops K E s) → anyS P T ops K fuel listed st := by
  intro fuel
  -- if nothing is ready, all is done
  have stop : ∀ (listed : Array Bool) (L CP dn : List Nat) (E : PE) (st : St), Res ops A listed L CP dn E → Region.ready .any ops listed = [] → (seqI P T ops L st fun s => PE.run P T ops K E s) → K st := by
    intro listed L CP dn E st hr hnil h
    have no : ∀ i, i < ops.size → ¬ listed.getD i false = true → (∀ p ∈ dirs ops i, listed.getD p false = true) → False := fun i h1 h2 h3 => by
      have := ready_of h1 (getD_ft (by rw [hr.size]; exact h1) h2) h3
      rw [hnil] at this; cases this
    cases L with
    | cons i L =>
      exfalso
      have h1 := hr.open' i (by simp)
      have hlt := hr.lt i (by simp)
      refine no i hlt (by rw [getD_tf h1]; exact Bool.false_ne_true) fun p hp => ?_
      obtain ⟨s1, s2⟩ := hr.self i hlt p hp
      rcases (hr.done p s1).1 (hr.seg i (by simp) p hp) with h3 | h3
      · exact h3
      · exfalso
        rcases List.mem_cons.1 h3 with h3 | h3
        · exact s2 h3
        · have h4 := (List.pairwise_cons.1 hr.pair).1 _ h3
          simp only [relB, Bool.and_eq_true, Bool.not_eq_true'] at h4
          have h5 := h4.1
          rw [List.contains_iff_mem.mpr hp] at h5; cases h5
    | nil =>
      cases E with
      | fin => exact h
      | br B =>
        exfalso
        obtain ⟨e1, e2, e3⟩ := hr.e
        obtain ⟨a, a1, a2, a3⟩ := chkB_first e3 e1
        refine no a a1 (fun hl => a2 ((hr.done a a1).2 (.inl hl))) fun p hp => ?_
        rcases (hr.done p (hr.self a a1 p hp).1).1 (a3 p hp) with h3 | h3
        · exact h3
        · cases h3
  induction fuel with
  | zero =>
    intro listed L CP dn E st hr ⟨U, hU, hun⟩ h
    have hU0 : U = [] := List.eq_nil_of_length_eq_zero (by omega)
    subst hU0
    have hnil : Region.ready .any ops listed = [] := by
      rcases hrd : Region.ready .any ops listed with _ | ⟨i, l'⟩
      · rfl
      · exfalso
        have hm : i ∈ Region.ready .any ops listed := by rw [hrd]; simp
        obtain ⟨h0, o, ho, _⟩ := mem_ready.1 hm
        have hlt : i < ops.size := by
          rcases Nat.lt_or_ge i ops.size with h' | h'
          · exact h'
          · rw [Array.getElem?_eq_none h'] at ho; cases ho
        have := hun i hlt (by rw [getD_tf h0]; exact Bool.false_ne_true)
        cases this
    exact ⟨hnil, stop listed L CP dn E st hr hnil h⟩
  | succ fuel ih =>
    intro listed L CP dn E st hr ⟨U, hU, hun⟩ h hw
    refine ⟨fun hnil => stop listed L CP dn E st hr hnil h, fun i hi => ?_⟩
    obtain ⟨h0, oi, ho, _⟩ := mem_ready.1 hi
    have hlt : i < ops.size := by
      rcases Nat.lt_or_ge i ops.size with h' | h'
      · exact h'
      · rw [Array.getElem?_eq_none h'] at ho; cases ho
    have hno : ¬ listed.getD i false = true := by rw [getD_tf h0]; exact Bool.false_ne_true
    have hdirs := dirs_ready hi
    have hU' : ∃ U' : List Nat, U'.length ≤ fuel ∧ ∀ k, k < ops.size → ¬ (listed.setIfInBounds i true).getD k false = true → k ∈ U' := by
      refine ⟨U.erase i, ?_, fun k hk hnk => ?_⟩
      · have := List.length_erase_of_mem (hun i hlt hno); omega
      · have hki : k ≠ i := fun e => hnk (by subst e; have := hr.size; simp [this, hlt])
        rw [List.mem_erase_of_ne hki]
        refine hun k hk fun h' => hnk ?_
        rw [getD_set_ne false (Ne.symm hki)]; exact h'
    have hsz : (listed.setIfInBounds i true).size = ops.size := by simpa using hr.size
    have hset : ∀ k, k < ops.size → ((listed.setIfInBounds i true).getD k false = true ↔ listed.getD k false = true ∨ k = i) := fun k hk => by
      by_cases hki : k = i
      · subst hki; have := hr.size; simp [this, hk]
      · rw [getD_set_ne false (Ne.symm hki)]; simp [hki]
    have hclosed : ∀ k, (listed.setIfInBounds i true).getD k false = true → ∀ p ∈ dirs ops k, (listed.setIfInBounds i true).getD p false = true := fun k hk p hp => by
      by_cases hki : k = i
      · subst hki; exact getD_set_true (hdirs p hp)
      · rw [getD_set_ne false (Ne.symm hki)] at hk
        exact getD_set_true (hr.closed k hk p hp)
    have hokP : ∀ j, j ∈ L → relB ops A j i = true → okP ops j i = true := fun j hj h4 => by
      simp only [relB, Bool.and_eq_true, Bool.or_eq_true, List.contains_iff_mem] at h4
      rcases h4.2 with h5 | h5
      · have := hr.anc hA i hdirs j h5 hlt
        rw [getD_tf (hr.open' j hj)] at this
        cases this
      · exact h5
    by_cases hdn : i ∈ dn
    · have hL : i ∈ L := ((hr.done i hlt).1 hdn).resolve_left hno
      obtain ⟨pre, rest, rfl⟩ := List.append_of_mem hL
      have hp := hr.pair
      rw [List.pairwise_append] at hp
      have hok : ∀ j ∈ pre, okP ops j i = true := fun j hj => hokP j (by simp [hj]) (hp.2.2 j hj i (by simp))
      have hb := bubble (K := fun s => PE.run P T ops K E s) ho hw pre st ⟨⟨rfl, fun _ _ => rfl⟩, Nat.le_refl _, fun _ => ⟨[], by simp⟩⟩ hok h
      simp only [stepI, ho]
      have hsub : (pre ++ rest).Sublist (pre ++ i :: rest) := List.Sublist.append_left (List.sublist_cons_self i rest) pre
      have hne : ∀ k ∈ pre ++ rest, k ≠ i := by
        intro k hk hki
        subst hki
        have := hr.nodup
        rw [List.nodup_append] at this
        obtain ⟨_, h2, h3⟩ := this
        rcases List.mem_append.1 hk with h4 | h4
        · exact h3 k h4 k (by simp) rfl
        · exact (List.nodup_cons.1 h2).1 h4
      refine stepG_mono' hb fun s hs => ih _ (pre ++ rest) CP dn E s ⟨hsz, fun k hk => ?_, fun k hk => hr.lt k (hsub.subset hk), fun k hk => ?_, hr.nodup.sublist hsub, hr.pair.sublist hsub, fun k hk => hr.sub k (hsub.subset hk), hclosed, fun q hq => hr.seg q (hsub.subset hq), hr.self, hr.e⟩ hU' hs
      · rw [hr.done k hk, hset k hk]
        simp only [List.mem_append, List.mem_cons]
        constructor
        · rintro (h1 | h1 | h1 | h1)
          · exact .inl (.inl h1)
          · exact .inr (.inl h1)
          · exact .inl (.inr h1)
          · exact .inr (.inr h1)
        · rintro ((h1 | h1) | h1 | h1)
          · exact .inl h1
          · exact .inr (.inr (.inl h1))
          · exact .inr (.inl h1)
          · exact .inr (.inr (.inr h1))
      · rw [getD_set_ne true (Ne.symm (hne k hk))]
        exact hr.open' k (hsub.subset hk)
    · cases E with
      | fin => exact (hdn (hr.e i hlt)).elim
      | br B =>
        obtain ⟨e1, e2, e3⟩ := hr.e
        have hhas : PB.has B i = true := by
          rcases e2 i hlt with h1 | h1 | ⟨p, hp, hpn⟩
          · exact (hdn h1).elim
          · exact h1
          · exact (hpn ((hr.done p (hr.self i hlt p hp).1).2 (.inl (hdirs p hp)))).elim
        obtain ⟨t, k1, k2, k3, k4, k5⟩ := chkB_has (P := P) (T := T) (K := K) e3 hhas
        have hok : ∀ j ∈ L, okP ops j i = true := fun j hj => hokP j hj (k4 j (hr.sub j hj))
        -- the segment of the subtree, and what is behind it
        have key : ∃ (L' : List Nat) (E' : PE), segOk ops A CP (dn ++ [i]) L' = true ∧ PE.ok ops A (CP ++ L') ((dn ++ [i]) ++ L') E' ∧ ∀ s, PT.run P T ops K t s → seqI P T ops L' s fun s => PE.run P T ops K E' s := by
          cases t with
          | leaf L' =>
            simp only [chkT, Bool.and_eq_true, List.all_eq_true, List.mem_range, List.contains_iff_mem] at k1
            exact ⟨L', .fin, k1.1, fun k hk => k1.2 k hk, fun s hs => by simp only [PT.run] at hs; exact hs⟩
          | node L' B' =>
            simp only [chkT, Bool.and_eq_true, List.all_eq_true, List.mem_range, Bool.or_eq_true, List.any_eq_true, Bool.not_eq_true', List.contains_iff_mem] at k1
            obtain ⟨⟨⟨c1, c2⟩, c3⟩, c4⟩ := k1
            refine ⟨L', .br B', c1, ⟨c2, fun k hk => ?_, c4⟩, fun s hs => by simp only [PT.run] at hs; exact hs⟩
            rcases c3 k hk with (h1 | h1) | ⟨p, hp, hpn⟩
            · exact .inl h1
            · exact .inr (.inl h1)
            · refine .inr (.inr ⟨p, hp, fun hin => ?_⟩)
              rw [List.contains_iff_mem.mpr hin] at hpn; cases hpn
        obtain ⟨L', E', c1, c2, c3⟩ := key
        simp only [segOk, Bool.and_eq_true, decide_eq_true_eq, List.all_eq_true, Bool.not_eq_true', List.contains_iff_mem] at c1
        obtain ⟨⟨⟨⟨d1, d2⟩, d3⟩, d4⟩, d5⟩ := c1
        have d2' : ∀ k ∈ L', k < ops.size ∧ k ∉ dn ++ [i] := fun k hk => ⟨(d2 k hk).1, fun hin => by have := (d2 k hk).2; rw [List.contains_iff_mem.mpr hin] at this; cases this⟩
        have hplan : seqI P T ops (L ++ i :: L') st fun s => PE.run P T ops K E' s := by
          rw [seqI_app]
          refine seqI_mono (fun s hs => ?_) L st h
          exact stepI_mono (k5 s hs) c3
        have hb := bubble (K := fun s => PE.run P T ops K E' s) ho hw L st ⟨⟨rfl, fun _ _ => rfl⟩, Nat.le_refl _, fun _ => ⟨[], by simp⟩⟩ hok hplan
        simp only [stepI, ho]
        have hLdn : ∀ k ∈ L, k ∈ dn := fun k hk => (hr.done k (hr.lt k hk)).2 (.inr hk)
        refine stepG_mono' hb fun s hs => ih _ (L ++ L') (CP ++ L') ((dn ++ [i]) ++ L') E' s ⟨hsz, fun k hk => ?_, fun k hk => ?_, fun k hk => ?_, ?_, ?_, fun k hk => ?_, hclosed, fun q hq p hp => ?_, hr.self, c2⟩ hU' hs
        · rw [List.mem_append, List.mem_append, hr.done k hk, hset k hk, List.mem_singleton, List.mem_append]
          constructor
          · rintro (((h1 | h1) | h1) | h1)
            · exact .inl (.inl h1)
            · exact .inr (.inl h1)
            · exact .inl (.inr h1)
            · exact .inr (.inr h1)
          · rintro ((h1 | h1) | h1 | h1)
            · exact .inl (.inl (.inl h1))
            · exact .inl (.inr h1)
            · exact .inl (.inl (.inr h1))
            · exact .inr h1
        · rcases List.mem_append.1 hk with h1 | h1
          · exact hr.lt k h1
          · exact (d2' k h1).1
        · have hki : k ≠ i := by
            rintro rfl
            rcases List.mem_append.1 hk with h1 | h1
            · exact hdn (hLdn _ h1)
            · exact (d2' _ h1).2 (by simp)
          rw [getD_set_ne true (Ne.symm hki)]
          rcases List.mem_append.1 hk with h1 | h1
          · exact hr.open' k h1
          · refine getD_ft (by rw [hr.size]; exact (d2' k h1).1) fun hl => (d2' k h1).2 ?_
            rw [List.mem_append]
            exact .inl ((hr.done k (d2' k h1).1).2 (.inl hl))
        · rw [List.nodup_append]
          refine ⟨hr.nodup, d1, fun a ha b hb' e => ?_⟩
          subst e
          exact (d2' a hb').2 (List.mem_append_left _ (hLdn a ha))
        · rw [List.pairwise_append]
          exact ⟨hr.pair, pairB_spec d3, fun a ha b hb' => d4 a (hr.sub a ha) b hb'⟩
        · rcases List.mem_append.1 hk with h1 | h1
          · exact List.mem_append_left _ (hr.sub k h1)
          · exact List.mem_append_right _ h1
        · rcases List.mem_append.1 hq with h1 | h1
          · exact List.mem_append_left _ (List.mem_append_left _ (hr.seg q h1 p hp))
          · exact d5 q h1 p hp
end
theorem W.tree {P : Program} {T : TT} {st : St} {Q : Ex → St → Prop} {id : Nat} {ops : Array Oper} (t : PT) (hc : chkP ops t = true) (h : PT.run P T ops (Q .nrm) t st) : W P T (.region id ops true) st Q := fun hT hf ro hro n X D w0 mA r m a w hR => by
  simp only [chkP, Bool.and_eq_true, List.all_eq_true, List.mem_range, decide_eq_true_eq, bne_iff_ne, ne_eq] at hc
  obtain ⟨⟨h1, h2⟩, h3⟩ := hc
  refine wpIn_region_any hf ?_
  have hR' : R X D w0 mA r m st a { w with drawn := w.drawn + 1 } := { hR with }
  have hno : ∀ k, (Array.replicate ops.size false).getD k false = false := fun k => by
    rw [Array.getD_eq_getD_getElem?]
    by_cases hk : k < ops.size <;> simp [hk]
  have hU : ∃ U : List Nat, U.length ≤ ops.size ∧ ∀ k, k < ops.size → ¬ (Array.replicate ops.size false).getD k false = true → k ∈ U := ⟨List.range ops.size, by simp, fun k hk _ => List.mem_range.mpr hk⟩
  have base : ∀ (L : List Nat) (E : PE), segOk ops (ancs ops) [] [] L = true → PE.ok ops (ancs ops) L L E → Res ops (ancs ops) (Array.replicate ops.size false) L L L E := fun L E c1 c2 => by
    simp only [segOk, Bool.and_eq_true, decide_eq_true_eq, List.all_eq_true, Bool.not_eq_true', List.contains_iff_mem, List.nil_append] at c1
    obtain ⟨⟨⟨⟨d1, d2⟩, d3⟩, d4⟩, d5⟩ := c1
    exact ⟨by simp, fun k hk => by (rw [hno k]; simp), fun k hk => (d2 k hk).1, fun k hk => getD_ft (by simpa using (d2 k hk).1) (by (rw [hno k]; exact Bool.false_ne_true)), d1, pairB_spec d3, fun k hk => hk, fun k hk => absurd hk (by (rw [hno k]; exact Bool.false_ne_true)), d5, fun k hk p hp => h2 k hk p hp, c2⟩
  refine anyS_sound hT (fun s r' m' a' w' hs hR' => ⟨[], r', m', s, fun _ => rfl, hs, hR'⟩) ops.size _ hR' ?_
  cases t with
  | leaf L =>
    simp only [chkT, Bool.and_eq_true, List.all_eq_true, List.mem_range, List.contains_iff_mem, List.nil_append] at h3
    simp only [PT.run] at h
    exact any_of_tree h1 ops.size _ L L L .fin st (base L .fin h3.1 h3.2) hU h
  | node L B =>
    simp only [chkT, Bool.and_eq_true, List.all_eq_true, List.mem_range, Bool.or_eq_true, List.any_eq_true, Bool.not_eq_true', List.contains_iff_mem, List.nil_append] at h3
    obtain ⟨⟨⟨c1, c2⟩, c3⟩, c4⟩ := h3
    simp only [PT.run] at h
    refine any_of_tree h1 ops.size _ L L L (.br B) st (base L (.br B) c1 ⟨c2, fun k hk => ?_, c4⟩) hU h
    rcases c3 k hk with (h1 | h1) | ⟨p, hp, hpn⟩
    · exact .inl h1
    · exact .inr (.inl h1)
    · refine .inr (.inr ⟨p, hp, fun hin => ?_⟩)
      rw [List.contains_iff_mem.mpr hin] at hpn; cases hpn

section
variable {P : Program} {T : TT} {ol : List Oper} {n : Nat} {l : List (Nat × AV)} {h : List AObj} {b : Nat} {o : Op} {ty : TypeId} {pos : String} {af : Array Edge} {KS : St → Prop} {rest : List Nat} {i : Nat}
theorem cI {d : Nat} (hi : ol[i]? = some ⟨some d, o, ty, pos, af, none⟩) (hd : Nat.ble (d + 1) n = true)
    (h1 : opC P T ⟨some d, o, ty, pos, af, none⟩ ⟨n, look l, h, b⟩ fun v h' => KS ⟨n, look ((d, v) :: l), h', b⟩) : stepI P T ol.toArray i ⟨n, look l, h, b⟩ KS := by
  have hd' : d < n := Nat.le_of_ble_eq_true hd
  have hi' : ol.toArray[i]? = some ⟨some d, o, ty, pos, af, none⟩ := by simpa using hi
  unfold stepI
  rw [hi']
  show opC P T ⟨some d, o, ty, pos, af, none⟩ ⟨n, look l, h, b⟩ fun v h' => KS (St.put ⟨n, look l, h', b⟩ (some d) v)
  have e : (fun v h' => KS (St.put ⟨n, look l, h', b⟩ (some d) v)) = fun v h' => KS ⟨n, look ((d, v) :: l), h', b⟩ := by
    funext v h'
    rw [St.put_look d v hd']
  rw [e]
  exact h1
theorem cIn (hi : ol[i]? = some ⟨none, o, ty, pos, af, none⟩)
    (h1 : opC P T ⟨none, o, ty, pos, af, none⟩ ⟨n, look l, h, b⟩ fun _ h' => KS ⟨n, look l, h', b⟩) : stepI P T ol.toArray i ⟨n, look l, h, b⟩ KS := by
  have hi' : ol.toArray[i]? = some ⟨none, o, ty, pos, af, none⟩ := by simpa using hi
  unfold stepI
  rw [hi']
  exact h1
theorem cS {d : Nat} (hi : ol[i]? = some ⟨some d, o, ty, pos, af, none⟩) (hd : Nat.ble (d + 1) n = true)
    (h1 : opC P T ⟨some d, o, ty, pos, af, none⟩ ⟨n, look l, h, b⟩ fun v h' => seqI P T ol.toArray rest ⟨n, look ((d, v) :: l), h', b⟩ KS) : seqI P T ol.toArray (i :: rest) ⟨n, look l, h, b⟩ KS := cI hi hd h1
theorem cSn (hi : ol[i]? = some ⟨none, o, ty, pos, af, none⟩)
    (h1 : opC P T ⟨none, o, ty, pos, af, none⟩ ⟨n, look l, h, b⟩ fun _ h' => seqI P T ol.toArray rest ⟨n, look l, h', b⟩ KS) : seqI P T ol.toArray (i :: rest) ⟨n, look l, h, b⟩ KS := cIn hi h1
theorem eS {st : St} {ops : Array Oper} (h1 : KS st) : seqI P T ops [] st KS := h1
theorem tL {st : St} {ops : Array Oper} {L : List Nat} (h1 : seqI P T ops L st KS) : PT.run P T ops KS (.leaf L) st := by simp only [PT.run]; exact h1
theorem tN {st : St} {ops : Array Oper} {L : List Nat} {B : PB} (h1 : seqI P T ops L st fun s => PB.run P T ops KS B s) : PT.run P T ops KS (.node L B) st := by simp only [PT.run]; exact h1
theorem tC {st : St} {ops : Array Oper} {a : Nat} {t : PT} {r : PB} (h1 : stepI P T ops a st fun s => PT.run P T ops KS t s) (h2 : PB.run P T ops KS r st) : PB.run P T ops KS (.cons a t r) st := by simp only [PB.run]; exact ⟨h1, h2⟩
theorem tE {st : St} {ops : Array Oper} : PB.run P T ops KS .nil st := by simp only [PB.run]
theorem W.rT {Q : Ex → St → Prop} {c : Code} {id : Nat} {st : St} (st' : St) (t : PT) (hc : chkP ol.toArray t = true) (h1 : PT.run P T ol.toArray (fun s => s.to st') t st) (h2 : W P T c st' Q) : W P T (.seq (.region id ol.toArray true) c) st Q :=
  W.seq (fun s => s.to st') (W.tree t hc h1) fun _ h => W.to h h2
end
end Go.Lat
namespace Go.Lat
open Go.RowKit

section
variable {P : Program} {T : TT} {st : St}
theorem opC_mono {o : Oper} {A B : AV → List AObj → Prop} (hn : 0 < st.nt) (h : opC P T o st A) (hk : ∀ v h, A v h → B v h) : opC P T o st B := by
  have e : ∀ (F : AV → List AObj → Prop), stepG P T (#[] : Array Oper).toList { o with dst := some 0, guard := none } st (fun s => F (s.tm 0) s.heap) = opC P T o st F := fun F => by
    show opC P T o st (fun v h => F ((({ st with heap := h } : St).put (some 0) v).tm 0) (({ st with heap := h } : St).put (some 0) v).heap) = opC P T o st F
    congr 1
    funext v h
    simp [St.put, hn, putT]
  rw [← e] at h ⊢
  exact stepG_mono' h fun s hs => hk _ _ hs
def noCall (o : Op) : Bool := match o with
  | .call ⟨.value _, _, _⟩ => false
  | _ => true
theorem noCall_spec {o : Op} (h : noCall o = true) : ∀ f args tys, o ≠ .call ⟨.value f, args, tys⟩ := by
  rintro f args tys rfl
  cases h
def hasT (l : List (Nat × AV)) (t : Nat) : Bool := l.any fun x => Nat.beq x.1 t
theorem look_has {F : Nat → AV → Prop} : ∀ {l : List (Nat × AV)} {t : Nat}, hasT l t = true → (∀ x ∈ l, F x.1 x.2) → F t (look l t)
  | [], _, h, _ => by cases h
  | (k, v) :: l, t, h, hF => by
    rw [look_cons]
    split
    · rename_i e; subst e; exact hF (t, v) (by simp)
    · rename_i e
      refine look_has ?_ fun x hx => hF x (by simp [hx])
      simp only [hasT, List.any_cons, Bool.or_eq_true] at h ⊢
      rcases h with h | h
      · exact absurd (Nat.eq_of_beq_eq_true h).symm e
      · exact h
variable (ol : List Oper) (l0 : List (Nat × AV)) (val : List AV) (kn : List (List (Nat × Nat)))
def knw (k : Nat) : List (Nat × AV) := l0 ++ (kn.getD k []).map fun x => (x.1, val.getD x.2 .any)
def chkV (ks : List Nat) (a b n : Nat) : Bool :=
  decide (a < b) && decide (b < ol.length) && (List.range ol.length).all fun k => match ol[k]? with
    | some o => o.guard.isNone && noCall o.op && (dirs ol.toArray k).all (fun p => decide (p < k)) && (kn.getD k []).all (fun x => (dirs ol.toArray k).contains x.2 && ((ol[x.2]?).bind (·.dst) == some x.1)) &&
        (Op.operands o.op).toList.all (fun x => match x with | .tmp t => ks.contains t || (kn.getD k []).any (fun y => Nat.beq y.1 t) | _ => true) &&
        (match o.dst with | some d => decide (d < n) && !ks.contains d && (List.range ol.length).all (fun j => Nat.beq j k || !((ol[j]?).bind (·.dst) == some d)) | none => true) &&
        (Nat.beq k b || (dirs ol.toArray b).contains k)
    | none => true
variable (P T) (n q : Nat)
def obs (hp : List AObj) (nx : Nat → List AObj) : List Nat → Prop
  | [] => True
  | k :: ks => (match ol[k]? with
    | some o => opC P T o ⟨n, look (knw l0 val kn k), hp, q⟩ (fun v h => (o.dst.isSome = true → v = val.getD k .any) ∧ h = nx k)
    | none => True) ∧ obs hp nx ks
def regsE (tm : Nat → AV) : List (Nat × AV) → Prop
  | [] => True
  | x :: l => tm x.1 = x.2 ∧ regsE tm l
theorem regsE_mem {tm : Nat → AV} : ∀ {l : List (Nat × AV)}, regsE tm l → ∀ x ∈ l, tm x.1 = x.2
  | [], _, _, hx => by cases hx
  | y :: l, h, x, hx => by
    rcases List.mem_cons.1 hx with e | e
    · subst e; exact h.1
    · exact regsE_mem h.2 x e
variable {P T ol l0 val kn n q}
theorem vC {p : Prop} (h : p) : p := h
theorem vO {k : Nat} {ks : List Nat} {hp : List AObj} {nx : Nat → List AObj} {o : Oper} {L : List (Nat × AV)} (ho : ol[k]? = some o) (hL : knw l0 val kn k = L)
    (h1 : opC P T o ⟨n, look L, hp, q⟩ (fun v h => (o.dst.isSome = true → v = val.getD k .any) ∧ h = nx k)) (h2 : obs P T ol l0 val kn n q hp nx ks) : obs P T ol l0 val kn n q hp nx (k :: ks) := by
  subst hL
  refine ⟨?_, h2⟩
  rw [ho]; exact h1
theorem obs_mem {hp : List AObj} {nx : Nat → List AObj} : ∀ {ks : List Nat}, obs P T ol l0 val kn n q hp nx ks → ∀ k ∈ ks, ∀ o, ol[k]? = some o → opC P T o ⟨n, look (knw l0 val kn k), hp, q⟩ (fun v h => (o.dst.isSome = true → v = val.getD k .any) ∧ h = nx k)
  | [], _, _, hk, _, _ => by cases hk
  | j :: ks, h, k, hk, o, ho => by
    rcases List.mem_cons.1 hk with e | e
    · subst e
      have := h.1
      rw [ho] at this
      exact this
    · exact obs_mem h.2 k e o ho
def stg (a b : Nat) (H0 H1 H2 : List AObj) (listed : Array Bool) : List AObj := if listed.getD b false = true then H2 else if listed.getD a false = true then H1 else H0
structure InvV (ol : List Oper) (l0 : List (Nat × AV)) (val : List AV) (n q a b : Nat) (H0 H1 H2 : List AObj) (listed : Array Bool) (st : St) : Prop where
  nt : st.nt = n
  ho : st.ho = q
  heap : st.heap = stg a b H0 H1 H2 listed
  base : ∀ x ∈ l0, st.tm x.1 = x.2
  vals : ∀ k o d, listed.getD k false = true → ol[k]? = some o → o.dst = some d → st.tm d = val.getD k .any
  size : listed.size = ol.length
  closed : ∀ k, listed.getD k false = true → ∀ p ∈ dirs ol.toArray k, listed.getD p false = true
def chkK (ol : List Oper) (a b : Nat) (K0 K1 : List Nat) : Bool :=
  (List.range ol.length).all fun k => (Nat.beq k b || K0.contains k) && (Nat.beq k a || (dirs ol.toArray a).contains k || K1.contains k)
theorem W.rV1 {Q : Ex → St → Prop} {id : Nat} {tm : Nat → AV} (l0 : List (Nat × AV)) (val : List AV) (kn : List (List (Nat × Nat))) (ks : List Nat) (a b : Nat) {H0 : List AObj} (H1 H2 : List AObj) (K0 K1 : List Nat)
    (hc : chkV ol kn ks a b n = true) (hk : chkK ol a b K0 K1 = true) (hn : Nat.ble 1 n = true) (hks : ks = l0.map (·.1)) (hb : regsE tm l0)
    (o0 : obs P T ol l0 val kn n q H0 (fun k => if Nat.beq k a then H1 else H0) K0) (o1 : obs P T ol l0 val kn n q H1 (fun k => if Nat.beq k b then H2 else H1) K1)
    (hq : ∀ tm, Q .nrm ⟨n, tm, H2, q⟩) : W P T (.region id ol.toArray true) ⟨n, tm, H0, q⟩ Q := fun hT hf ro hro n' X D w0 mA r m a' w hR => by
  have hn' : 0 < n := Nat.le_of_ble_eq_true hn
  simp only [chkV, Bool.and_eq_true, decide_eq_true_eq, List.all_eq_true, List.mem_range] at hc
  obtain ⟨⟨hab, hblt⟩, hops⟩ := hc
  simp only [chkK, Bool.and_eq_true, List.all_eq_true, List.mem_range, Bool.or_eq_true, List.contains_iff_mem] at hk
  have hop : ∀ k o, ol[k]? = some o → o.guard = none ∧ noCall o.op = true ∧ (∀ p ∈ dirs ol.toArray k, p < k) ∧ (∀ x ∈ kn.getD k [], x.2 ∈ dirs ol.toArray k ∧ (ol[x.2]?).bind (·.dst) = some x.1) ∧
      (∀ t, Operand.tmp t ∈ Op.operands o.op → t ∈ ks ∨ ∃ y ∈ kn.getD k [], y.1 = t) ∧ (∀ d, o.dst = some d → d < n ∧ d ∉ ks ∧ ∀ j oj, ol[j]? = some oj → oj.dst = some d → j = k) ∧ (k = b ∨ k ∈ dirs ol.toArray b) := by
    intro k o ho
    have hlt : k < ol.length := (List.getElem?_eq_some_iff.1 ho).1
    have h := hops k hlt
    rw [ho] at h
    simp only [Bool.and_eq_true, List.all_eq_true, decide_eq_true_eq, Bool.or_eq_true, List.contains_iff_mem, beq_iff_eq, Option.isNone_iff_eq_none] at h
    obtain ⟨⟨⟨⟨⟨⟨h1, h2⟩, h3⟩, h4⟩, h5⟩, h6⟩, h7⟩ := h
    refine ⟨h1, h2, h3, h4, fun t ht => ?_, fun d hd => ?_, h7.imp (fun h => Nat.eq_of_beq_eq_true h) (fun h => h)⟩
    · have := h5 (Operand.tmp t) (by simpa using ht)
      simp only [Bool.or_eq_true, List.contains_iff_mem, List.any_eq_true] at this
      exact this.imp (fun h => h) fun ⟨y, hy, e⟩ => ⟨y, hy, Nat.eq_of_beq_eq_true e⟩
    · rw [hd] at h6
      simp only [Bool.and_eq_true, decide_eq_true_eq, Bool.not_eq_true', List.all_eq_true, List.mem_range, Bool.or_eq_true] at h6
      obtain ⟨⟨k1, k2⟩, k3⟩ := h6
      refine ⟨k1, fun hin => ?_, fun j oj hj hjd => ?_⟩
      · rw [List.contains_iff_mem.mpr hin] at k2; cases k2
      · rcases k3 j (List.getElem?_eq_some_iff.1 hj).1 with e | e
        · exact Nat.eq_of_beq_eq_true e
        · rw [hj] at e; simp [hjd] at e
  have step : ∀ (listed : Array Bool) (st : St) (i : Nat), InvV ol l0 val n q a b H0 H1 H2 listed st → i ∈ Region.ready .any ol.toArray listed → stepI P T ol.toArray i st (InvV ol l0 val n q a b H0 H1 H2 (listed.setIfInBounds i true)) := by
    intro listed st i hI hi
    obtain ⟨h0, o, ho, _⟩ := mem_ready.1 hi
    have hlt : i < ol.length := by
      rcases Nat.lt_or_ge i ol.length with h' | h'
      · exact h'
      · rw [Array.getElem?_eq_none (by simpa using h')] at ho; cases ho
    have ho' : ol[i]? = some o := by simpa using ho
    have hdirs := dirs_ready hi
    have hno : ¬ listed.getD i false = true := by rw [getD_tf h0]; exact Bool.false_ne_true
    obtain ⟨g1, g2, g3, g4, g5, g6, g7⟩ := hop i o ho'
    have hnb : i ≠ b → ¬ listed.getD b false = true := fun hib hb' => by
      rcases g7 with e | e
      · exact hib e
      · exact hno (hI.closed b hb' i e)
    -- the operands are known
    have hev : ∀ x ∈ Op.operands o.op, (⟨n, look (knw l0 val kn i), st.heap, q⟩ : St).eval x = st.eval x := by
      intro x hx
      cases x <;> try rfl
      rename_i t
      show look (knw l0 val kn i) t = st.tm t
      refine look_has (F := fun t v => v = st.tm t) ?_ ?_
      · simp only [hasT, List.any_eq_true, knw]
        rcases g5 t hx with h | ⟨y, hy, e⟩
        · rw [hks] at h
          obtain ⟨z, hz, e⟩ := List.mem_map.1 h
          exact ⟨z, by simp [hz], by rw [← e]; simp⟩
        · exact ⟨(y.1, val.getD y.2 .any), List.mem_append_right _ (List.mem_map.2 ⟨y, hy, rfl⟩), by rw [← e]; simp⟩
      · intro x hx
        simp only [knw, List.mem_append, List.mem_map] at hx
        rcases hx with hx | ⟨y, hy, rfl⟩
        · exact (hI.base x hx).symm
        · obtain ⟨k1, k2⟩ := g4 y hy
          rcases hy2 : ol[y.2]? with _ | oy
          · rw [hy2] at k2; cases k2
          · rw [hy2] at k2
            exact (hI.vals y.2 oy y.1 (hdirs _ k1) hy2 k2).symm
    have hcl : ∀ k, (listed.setIfInBounds i true).getD k false = true → ∀ p ∈ dirs ol.toArray k, (listed.setIfInBounds i true).getD p false = true := fun k hk p hp => by
      by_cases hki : k = i
      · subst hki; exact getD_set_true (hdirs p hp)
      · rw [getD_set_ne false (Ne.symm hki)] at hk
        exact getD_set_true (hI.closed k hk p hp)
    have hset : ∀ k, (listed.setIfInBounds i true).getD k false = true ↔ listed.getD k false = true ∨ k = i := fun k => by
      by_cases hki : k = i
      · subst hki; have := hI.size; simp [this, hlt]
      · rw [getD_set_ne false (Ne.symm hki)]; simp [hki]
    -- what it leads to
    have key : opC P T o st (fun v h => (o.dst.isSome = true → v = val.getD i .any) ∧ h = stg a b H0 H1 H2 (listed.setIfInBounds i true)) := by
      have tr : ∀ (hp : List AObj) (nx : List AObj), st.heap = hp → opC P T o ⟨n, look (knw l0 val kn i), hp, q⟩ (fun v h => (o.dst.isSome = true → v = val.getD i .any) ∧ h = nx) → opC P T o st (fun v h => (o.dst.isSome = true → v = val.getD i .any) ∧ h = nx) := by
        intro hp nx e h
        subst e
        rw [opC_plain (noCall_spec g2)] at h ⊢
        rwa [opR_congr (fun x hx => (hev x hx).symm)]
      have hna : ¬ listed.getD b false = true → stg a b H0 H1 H2 listed = if listed.getD a false = true then H1 else H0 := fun h => by simp only [stg, if_neg h]
      by_cases hib : i = b
      · subst hib
        have ha : listed.getD a false = true := by
          rcases (hk a (by omega)).2 with h | h
          all_goals
            have halt : a < ol.length := by omega
            obtain ⟨oa, hoa⟩ : ∃ oa, ol[a]? = some oa := ⟨_, List.getElem?_eq_getElem halt⟩
            rcases (hop a oa hoa).2.2.2.2.2.2 with e | e
            · omega
            · exact hdirs a e
        have h1 := obs_mem o1 i (by
          rcases (hk i hlt).2 with (h | h) | h
          · exact absurd (Nat.eq_of_beq_eq_true h) (by omega)
          · obtain ⟨oa, hoa⟩ : ∃ oa, ol[a]? = some oa := ⟨_, List.getElem?_eq_getElem (by omega)⟩
            have := (hop a oa hoa).2.2.1 i h; omega
          · exact h) o ho'
        have e1 : stg a i H0 H1 H2 listed = H1 := by simp only [stg, if_neg hno, if_pos ha]
        have e2 : stg a i H0 H1 H2 (listed.setIfInBounds i true) = H2 := by simp only [stg, if_pos ((hset i).2 (.inr rfl))]
        rw [e2]
        refine tr H1 H2 (hI.heap.trans e1) ?_
        simpa using h1
      · have hbn := hnb hib
        have hbn' : ¬ (listed.setIfInBounds i true).getD b false = true := fun h => (hset b).1 h |>.elim hbn (fun e => hib e.symm)
        by_cases hia : i = a
        · subst hia
          have h1 := obs_mem o0 i (by
            rcases (hk i hlt).1 with h | h
            · exact absurd (Nat.eq_of_beq_eq_true h) hib
            · exact h) o ho'
          have e1 : stg i b H0 H1 H2 listed = H0 := by simp only [stg, if_neg hbn, if_neg hno]
          have e2 : stg i b H0 H1 H2 (listed.setIfInBounds i true) = H1 := by simp only [stg, if_neg hbn', if_pos ((hset i).2 (.inr rfl))]
          rw [e2]
          refine tr H0 H1 (hI.heap.trans e1) ?_
          simpa using h1
        · have ea : (listed.setIfInBounds i true).getD a false = listed.getD a false := getD_set_ne false hia
          have e2 : stg a b H0 H1 H2 (listed.setIfInBounds i true) = stg a b H0 H1 H2 listed := by simp only [stg, if_neg hbn', if_neg hbn, ea]
          rw [e2]
          have hba : Nat.beq i a = false := by rcases h : Nat.beq i a with _ | _; rfl; exact absurd (Nat.eq_of_beq_eq_true h) hia
          have hbb : Nat.beq i b = false := by rcases h : Nat.beq i b with _ | _; rfl; exact absurd (Nat.eq_of_beq_eq_true h) hib
          by_cases hA : listed.getD a false = true
          · have e1 : stg a b H0 H1 H2 listed = H1 := by simp only [stg, if_neg hbn, if_pos hA]
            rw [e1]
            have h1 := obs_mem o1 i (by
              rcases (hk i hlt).2 with (h | h) | h
              · exact absurd (Nat.eq_of_beq_eq_true h) hia
              · exact absurd (hI.closed a hA i h) hno
              · exact h) o ho'
            refine tr H1 H1 (hI.heap.trans e1) ?_
            simpa [hbb] using h1
          · have e1 : stg a b H0 H1 H2 listed = H0 := by simp only [stg, if_neg hbn, if_neg hA]
            rw [e1]
            have h1 := obs_mem o0 i (by
              rcases (hk i hlt).1 with h | h
              · exact absurd (Nat.eq_of_beq_eq_true h) hib
              · exact h) o ho'
            refine tr H0 H0 (hI.heap.trans e1) ?_
            simpa [hba] using h1
    unfold stepI
    rw [ho]
    show stepG P T ol.toArray.toList o st _
    unfold stepG
    rw [g1]
    refine opC_mono (by rw [hI.nt]; exact hn') key fun v h hv => ?_
    obtain ⟨hv1, rfl⟩ := hv
    rcases hd : o.dst with _ | d
    · exact ⟨hI.nt, hI.ho, rfl, hI.base, (fun k ok d hk hok hkd => by
        rcases (hset k).1 hk with e | e
        · exact hI.vals k ok d e hok hkd
        · subst e; rw [ho'] at hok; cases hok; rw [hd] at hkd; cases hkd), by simpa using hI.size, hcl⟩
    · obtain ⟨d1, d2, d3⟩ := g6 d hd
      have hdn : d < st.nt := by rw [hI.nt]; exact d1
      have hput : ∀ t, (({ st with heap := stg a b H0 H1 H2 (listed.setIfInBounds i true) } : St).put (some d) v).tm t = if t = d then v else st.tm t := fun t => by simp [St.put, hdn, putT]
      refine ⟨(by rw [St.put, if_pos hdn]; exact hI.nt), by simp [St.put, hdn, hI.ho], by simp [St.put, hdn], fun x hx => ?_, fun k ok dk hk hok hkd => ?_, by simpa using hI.size, hcl⟩
      · rw [hput, if_neg]
        · exact hI.base x hx
        · intro e
          refine d2 ?_
          rw [hks, ← e]; exact List.mem_map.2 ⟨x, hx, rfl⟩
      · rw [hput]
        split
        · rename_i e
          subst e
          have := d3 k ok hok hkd
          subst this
          exact hv1 (by rw [hd]; rfl)
        · rename_i e
          rcases (hset k).1 hk with e2 | e2
          · exact hI.vals k ok dk e2 hok hkd
          · subst e2
            rw [ho'] at hok; cases hok
            rw [hd] at hkd; cases hkd; exact absurd rfl e
  have stop : ∀ (listed : Array Bool) (st : St), InvV ol l0 val n q a b H0 H1 H2 listed st → Region.ready .any ol.toArray listed = [] → Q .nrm st := by
    intro listed st hI hnil
    have all : ∀ k, k < ol.length → listed.getD k false = true := by
      intro k
      induction k using Nat.strongRecOn with
      | _ k ih =>
        intro hlt
        rcases hl : listed.getD k false with _ | _
        · exfalso
          have := ready_of (ops := ol.toArray) (listed := listed) (i := k) (by simpa using hlt) (getD_ft (by rw [hI.size]; exact hlt) (by rw [hl]; exact Bool.false_ne_true)) fun p hp => by
            obtain ⟨o, ho⟩ : ∃ o, ol[k]? = some o := ⟨_, List.getElem?_eq_getElem hlt⟩
            have := (hop k o ho).2.2.1 p hp
            exact ih p this (by omega)
          rw [hnil] at this; cases this
        · rfl
    have hH : st.heap = H2 := hI.heap.trans (by simp only [stg, if_pos (all b hblt)])
    obtain ⟨nt, tm', hp, ho⟩ := st
    have h1 := hI.nt; have h2 := hI.ho
    simp only at h1 h2 hH
    subst h1; subst h2; subst hH
    exact hq tm'
  have any : ∀ (fuel : Nat) (listed : Array Bool) (st : St), InvV ol l0 val n q a b H0 H1 H2 listed st → (∃ U : List Nat, U.length ≤ fuel ∧ ∀ k, k < ol.length → ¬ listed.getD k false = true → k ∈ U) → anyS P T ol.toArray (Q .nrm) fuel listed st := by
    intro fuel
    induction fuel with
    | zero =>
      intro listed st hI ⟨U, hU, hun⟩
      have hU0 : U = [] := List.eq_nil_of_length_eq_zero (by omega)
      subst hU0
      have hnil : Region.ready .any ol.toArray listed = [] := by
        rcases hrd : Region.ready .any ol.toArray listed with _ | ⟨i, l'⟩
        · rfl
        · exfalso
          have hm : i ∈ Region.ready .any ol.toArray listed := by rw [hrd]; simp
          obtain ⟨h0, o, ho, _⟩ := mem_ready.1 hm
          have hlt : i < ol.length := by
            rcases Nat.lt_or_ge i ol.length with h' | h'
            · exact h'
            · rw [Array.getElem?_eq_none (by simpa using h')] at ho; cases ho
          have := hun i hlt (by rw [getD_tf h0]; exact Bool.false_ne_true)
          cases this
      exact ⟨hnil, stop listed st hI hnil⟩
    | succ fuel ih =>
      intro listed st hI ⟨U, hU, hun⟩ _
      refine ⟨fun hnil => stop listed st hI hnil, fun i hi => ?_⟩
      have h3 := step listed st i hI hi
      obtain ⟨h0, oi, ho, _⟩ := mem_ready.1 hi
      have hlt : i < ol.length := by
        rcases Nat.lt_or_ge i ol.length with h' | h'
        · exact h'
        · rw [Array.getElem?_eq_none (by simpa using h')] at ho; cases ho
      have hno : ¬ listed.getD i false = true := by rw [getD_tf h0]; exact Bool.false_ne_true
      unfold stepI at h3 ⊢
      rw [ho] at h3 ⊢
      refine stepG_mono' h3 fun s hs => ih _ s hs ⟨U.erase i, ?_, fun k hk hnk => ?_⟩
      · have := List.length_erase_of_mem (hun i hlt hno); omega
      · have hki : k ≠ i := fun e => hnk (by subst e; have := hI.size; simp [this, hlt])
        rw [List.mem_erase_of_ne hki]
        refine hun k hk fun h' => hnk ?_
        rw [getD_set_ne false (Ne.symm hki)]; exact h'
  have hzero : ∀ k, (Array.replicate ol.toArray.size false).getD k false = false := fun k => by
    rw [Array.getD_eq_getD_getElem?]
    by_cases hk : k < ol.length <;> simp [hk]
  refine wpIn_region_any hf ?_
  have hR' : R X D w0 mA r m ⟨n, tm, H0, q⟩ a' { w with drawn := w.drawn + 1 } := { hR with }
  refine anyS_sound hT (fun s r' m' a' w' hs hR' => ⟨[], r', m', s, fun _ => rfl, hs, hR'⟩) ol.toArray.size _ hR' (any _ _ _ ⟨rfl, rfl, ?_, fun x hx => regsE_mem hb x hx, fun k o d hk => ?_, by simp, fun k hk => ?_⟩ ⟨List.range ol.length, by simp, fun k hk _ => List.mem_range.2 hk⟩)
  · simp only [stg, hzero]; simp
  · rw [hzero] at hk; cases hk
  · rw [hzero] at hk; cases hk
end
theorem o_iaD {d : Option Tmp} {a a2 : Operand} {n : Nat} {l : List (Nat × AV)} {h : List AObj} {b : Nat} {ty : TypeId} {pos : String} {af : Array Edge} {g : Option (Nat × Bool)} {P : Program} {T : TT} {K : AV → List AObj → Prop} {t e : TypeId} {s by_ es eb : Nat} {z ez : List AV} {ek : TK} (ht : T t = some ⟨.sl e, s, by_, z⟩) (he : T e = some ⟨ek, es, eb, ez⟩) {α : Type} [Inhabited α] {en : α → List AV} {xs : List α} {fl : Bool} {m : Nat} (h1 : St.eval ⟨n, look l, h, b⟩ a = .lst fl m (encL en xs)) {ik : IntKind} {i : Int} (h2 : St.eval ⟨n, look l, h, b⟩ a2 = .int ik i) (hm : m = xs.length) (hj : 0 ≤ i ∧ i < (xs.length : Int)) (hk : K (.ipt fl ((encL en xs).drop (i.toNat * es))) h) : opC P T ⟨d, .indexAddr t a a2, ty, pos, af, g⟩ ⟨n, look l, h, b⟩ K := by
  show indexAddrA T t (St.eval ⟨n, look l, h, b⟩ a) (St.eval ⟨n, look l, h, b⟩ a2) (fun v => K v h)
  rw [h1, h2]; simp only [indexAddrA, ht, he]
  subst hm
  exact ⟨hj, hk⟩
theorem ca_lst {h : List AObj} {α : Type} [Inhabited α] {en : α → List AV} {xs : List α} {sz : Nat} {i : Int} {fl : Bool} (hw : Wd en sz) (hj : 0 ≤ i ∧ i < (xs.length : Int)) : ∃ rest, cellsAt h (.ipt fl ((encL en xs).drop (i.toNat * sz))) = some (en (lat xs i) ++ rest) := by
  obtain ⟨rest, hr⟩ := encL_at hw xs i hj.1 hj.2
  exact ⟨rest, by simp only [cellsAt, hr]⟩
end Go.Lat
namespace Go.Lat
open Go.RowKit
section
variable {d : Option Tmp} {a a2 : Operand} {n : Nat} {l : List (Nat × AV)} {h : List AObj} {b : Nat} {ty : TypeId} {pos : String} {af : Array Edge} {g : Option (Nat × Bool)} {P : Program} {T : TT} {K : AV → List AObj → Prop}
theorem o_neS {t u : TypeId} {fs : List (Nat × TypeId)} {s by_ : Nat} {z : List AV} {p : Prop} [Decidable p] (us bs : List Int) (ht : T t = some ⟨.st fs, s, by_, z⟩) (hf : ∀ f ∈ fs, ∃ s' b' z', T f.2 = some ⟨.int .i64, s', b', z'⟩) (ho : fs.map (·.1) = List.range fs.length)
    (h1 : St.eval ⟨n, look l, h, b⟩ a = .agg (us.map (.int .i64))) (h2 : St.eval ⟨n, look l, h, b⟩ a2 = .agg (bs.map (.int .i64))) (hn : nilC .neq a2 = false) (l1 : us.length = fs.length) (l2 : bs.length = fs.length) (hq : decide (us = bs) = decide p) (hk : K (.bool (decide (¬ p))) h) : opC P T ⟨d, .binOp .neq t a a2 u, ty, pos, af, g⟩ ⟨n, look l, h, b⟩ K := by
  show (if nilC .neq a2 = true then nilEqA T t (BinOp.neq == BinOp.neq) (St.eval ⟨n, look l, h, b⟩ a) (fun v => K v h) else binA T .neq t (St.eval ⟨n, look l, h, b⟩ a) (St.eval ⟨n, look l, h, b⟩ a2) (fun v => K v h))
  rw [hn, if_neg (by simp), h1, h2]
  exact ⟨fs, s, by_, z, us, bs, ht, hf, ho, rfl, rfl, l1, l2, by rw [if_pos rfl, hq, ← decide_not]; exact hk⟩
theorem o_buildA {t e : TypeId} {m : Nat} {ei : TI} {ps : Array (Nat × Operand)} {i : TI} {qs : List (Nat × AV)} {cs : List AV} (ht : T t = some i) (hk0 : i.k = .ar m e) (he : T e = some ei) (hp : (ps.toList.map fun p => (p.1, St.eval ⟨n, look l, h, b⟩ p.2)) = qs) (hf : fillE (fun j => some (j * ei.size, ei.size)) i.zero qs = some cs) (hk : K (.agg cs) h) : opC P T ⟨d, .build t ps, ty, pos, af, g⟩ ⟨n, look l, h, b⟩ K := by
  show buildA T t (ps.toList.map fun p => (p.1, St.eval ⟨n, look l, h, b⟩ p.2)) (fun v => K v h)
  rw [hp]; simp only [buildA, ht, hk0, he]
  exact fillE_spec hf hk
end
theorem row_setF {α : Type} [Inhabited α] {e : α → List AV} {sz : Nat} (h : Wd e sz) (xs : List α) (j : Int) (k : Nat) (x : α) {vs : List AV} (hk : Nat.ble (k + vs.length) sz = true) (hv : (e (lat xs j)).take k ++ vs ++ (e (lat xs j)).drop (k + vs.length) = e x) (hj : 0 ≤ j ∧ j < (xs.length : Int)) :
    Lat.spl (encL e xs) (j.toNat * sz + k) vs = encL e (xs.set j.toNat x) := by
  have hk' := Nat.le_of_ble_eq_true hk
  have hlt : j.toNat < xs.length := by omega
  have hlen : (encL e xs).length = xs.length * sz := encL_length h xs
  have hle : j.toNat * sz + sz ≤ xs.length * sz := by
    have := Nat.mul_le_mul_right sz hlt
    rw [Nat.succ_mul] at this
    exact this
  rw [← row_set h xs j x rfl hj.1 hj.2, ← hv, Lat.spl_eq _ _ _ (by omega), Lat.spl_eq _ _ _ (by
    rw [hv, h, hlen]; exact hle)]
  obtain ⟨rest, hr⟩ := encL_at h xs j hj.1 hj.2
  have hw : (e (lat xs j)).length = sz := h _
  have e1 : (encL e xs).take (j.toNat * sz + k) = (encL e xs).take (j.toNat * sz) ++ (e (lat xs j)).take k := by
    rw [List.take_add, hr, List.take_append_of_le_length (by omega)]
  have e2 : (encL e xs).drop (j.toNat * sz + k + vs.length) = (e (lat xs j)).drop (k + vs.length) ++ rest := by
    rw [Nat.add_assoc, ← List.drop_drop, hr, List.drop_append_of_le_length (by omega)]
  have e3 : (encL e xs).drop (j.toNat * sz + ((e (lat xs j)).take k ++ vs ++ (e (lat xs j)).drop (k + vs.length)).length) = rest := by
    rw [hv, h, ← List.drop_drop, hr, ← hw, List.drop_left]
  rw [e1, e2, e3]
  simp [List.append_assoc]
theorem row_inF {α : Type} {e : α → List AV} {sz : Nat} (hw : Wd e sz) {xs : List α} {i : Int} (hj : 0 ≤ i ∧ i < (xs.length : Int)) {k : Nat} {vs : List AV} (hk : Nat.ble (k + vs.length) sz = true) : i.toNat * sz + k + vs.length ≤ (encL e xs).length := by
  rw [encL_length hw]
  have hj' : i.toNat < xs.length := by omega
  have := Nat.mul_le_mul_right sz hj'
  rw [Nat.succ_mul] at this
  have := Nat.le_of_ble_eq_true hk
  omega
end Go.Lat
namespace Go.Lat
open Go.RowKit Go.Proofs
attribute [local irreducible] cvalidM bvalidM choicesM partM chM liM brangeM witM pcM inM allM inSet
attribute [local irreducible] closeM rangeM pointM addBM cycleM holdsM validBM sameM madeM pickM plusM validM possM firstM tableM longerM boundsM ofM addM freeM
def vc_inr (x : Int) (lo : Int) (hi : Int) (Post : Bool → Prop) : Prop :=
  Post (decide ((lo ≤ x) ∧ (x ≤ hi)))
set_option maxRecDepth 100000 in
set_option maxHeartbeats 4000000 in
theorem walk_inr {x : Int} {lo : Int} {hi : Int} {Post : Bool → Prop} (hv : vc_inr x lo hi Post) : FnP Try.prog 72 [.int .i64 x, .int .i64 lo, .int .i64 hi] (fun x => ∃ q0, x = .bool q0 ∧ Post q0) := by
 refine FnP.of_walk (T := tt) (nt := 15) ttOk ttMix ⟨⟨Try.f72, Try.func72, rfl, rfl, rfl, rfl⟩⟩ (by simp) ?_
 unfold vc_inr at hv
 change W _ _ _ ⟨15, look [(0, .int .i64 x), (1, .int .i64 lo), (2, .int .i64 hi)], [], 0⟩ _
 refine W.tr [(0, .int _ _), (1, .int _ _), (2, .int _ _)] [] ⟨rfl, rfl, rfl, trivial⟩ rfl ?_
 refine W.rL ?_
 refine aB rfl rfl ?_
 refine eL ?_
 refine W.tr [(0, .int _ _), (1, .int _ _), (2, .int _ _)] [] ⟨rfl, rfl, rfl, trivial⟩ rfl ?_
 refine W.rLm ⟨15, look [(6, .bool (decide ((lo ≤ x) ∧ (x ≤ hi))))], [], 0⟩ ?_ ?_
 iterate 2 refine mI rfl rfl ?_
 refine cL rfl (o_geq rfl rfl ?_)
 refine mB rfl rfl ?_
 by_cases c1 : lo ≤ x
 refine cLg rfl rfl (decide_eq_true c1) ?_
 refine mI rfl rfl ?_
 refine cLg rfl rfl (decide_eq_true c1) ?_
 refine mI rfl rfl ?_
 refine cLg rfl rfl (decide_eq_true c1) ?_
 refine cL rfl (o_leq rfl rfl ?_)
 refine cL rfl (o_pickT (v := .bool _) rfl (decide_eq_true c1) rfl ?_)
 refine aB rfl rfl ?_
 refine eL ?_
 exact le_mk ⟨(congrArg AV.bool (dAndT c1 (rfl))).symm, trivial⟩ rfl
 iterate 3 refine cLs rfl rfl rfl (decide_eq_false c1) ?_
 refine cL rfl (o_pickF (v := .bool _) rfl (decide_eq_false c1) rfl ?_)
 refine aB rfl rfl ?_
 refine eL ?_
 exact le_mk ⟨(congrArg AV.bool (dAndF c1)).symm, trivial⟩ rfl
 refine W.ret ?_
 refine rt ?_
 refine rt_t (v := .bool _) rfl ?_
 refine rt_n ?_
 exact ⟨_, rs_bool _ _ _, (decide ((lo ≤ x) ∧ (x ≤ hi))), rfl, hv⟩
theorem vcp_inr (x : Int) (lo : Int) (hi : Int)  : vc_inr x lo hi (fun q0 => q0 = (inM x lo hi)) := by
  show decide _ = inM x lo hi
  unfold inM
  rfl
theorem spec_inr (x : Int) (lo : Int) (hi : Int)  : FnP Try.prog 72 [.int .i64 x, .int .i64 lo, .int .i64 hi] (fun xR => xR = .bool (inM x lo hi)) :=
  (walk_inr (vcp_inr x lo hi)).mono (by rintro _ ⟨_, rfl, rfl⟩; rfl)
def vc_allr (l : (List Int)) (lo : Int) (hi : Int) (most : Int) (Post : Bool → Prop) : Prop :=
  ∃ (I1 : Int → Prop) (μ1 : Int → Nat), I1 (0 : Int) ∧ ∀ (v13 : Int), I1 v13 → ((v13 < ((l.length : Nat) : Int)) → (0 ≤ v13 ∧ v13 < (l.length : Int)) ∧ ((¬ ((inM (lat l v13) (0 : Int) most) = true)) → Post false) ∧ (¬ (¬ ((inM (lat l v13) (0 : Int) most) = true)) → (inI (v13 + (1 : Int))) ∧ (I1 (v13 + (1 : Int)) ∧ μ1 (v13 + (1 : Int)) < μ1 v13))) ∧ (¬ (v13 < ((l.length : Nat) : Int)) → Post (inM ((l.length : Nat) : Int) lo hi))
set_option maxRecDepth 100000 in
set_option maxHeartbeats 4000000 in
theorem walk_allr {l : (List Int)} {lo : Int} {hi : Int} {most : Int} {Post : Bool → Prop} (hv : vc_allr l lo hi most Post) : FnP Try.prog 71 [.lst true l.length (encL eInt l), .int .i64 lo, .int .i64 hi, .int .i64 most] (fun x => ∃ q0, x = .bool q0 ∧ Post q0) := by
 refine FnP.of_walk (T := tt) (nt := 27) ttOk ttMix ⟨⟨Try.f71, Try.func71, rfl, rfl, rfl, rfl⟩⟩ (by simp) ?_
 unfold vc_allr at hv
 change W _ _ _ ⟨27, look [(0, .lst true l.length (encL eInt l)), (1, .int .i64 lo), (2, .int .i64 hi), (3, .int .i64 most)], [], 0⟩ _
 refine W.tr [(0, .lst _ _ _), (1, .int _ _), (2, .int _ _), (3, .int _ _)] [] ⟨rfl, rfl, rfl, rfl, trivial⟩ rfl ?_
 refine W.rL ?_
 refine aB rfl rfl ?_
 refine eL ?_
 refine W.tr [(0, .lst _ _ _), (1, .int _ _), (2, .int _ _), (3, .int _ _)] [] ⟨rfl, rfl, rfl, rfl, trivial⟩ rfl ?_
 refine W.seq' ?_
 refine W.rL ?_
 refine mL rfl rfl ?_
 refine cL rfl (o_len (v := .lst _ _ _) tt23 rfl rfl ?_)
 refine mI rfl rfl ?_
 refine eL ?_
 refine W.tr [(0, .lst _ _ _), (1, .int _ _), (2, .int _ _), (3, .int _ _), (11, .lst _ _ _), (12, .int _ _), (13, .int _ _)] [] ⟨rfl, rfl, rfl, rfl, rfl, rfl, rfl, trivial⟩ rfl ?_
 refine W.block ?_
 obtain ⟨I1, μ1, hp, hv⟩ := hv
 refine W.loop1 (fun v13 => ⟨27, look [(0, .lst true l.length (encL eInt l)), (1, .int .i64 lo), (2, .int .i64 hi), (3, .int .i64 most), (11, .lst true l.length (encL eInt l)), (12, .int .i64 ((l.length : Nat) : Int)), (13, .int .i64 v13)], [], 0⟩) I1 μ1 (0 : Int) (St.to_mk (φ := []) rfl (rfl) ⟨Ren.lst _ _ _, Ren.int _ _, Ren.int _ _, Ren.int _ _, Ren.lst _ _ _, Ren.int _ _, Ren.int _ _, trivial⟩ trivial) hp ?_
 clear hp
 intro v13 hI
 replace hv := hv v13 hI
 clear hI
 refine W.rL ?_
 refine cL rfl (o_lss rfl rfl ?_)
 refine eL ?_
 refine W.tr [(0, .lst _ _ _), (1, .int _ _), (2, .int _ _), (3, .int _ _), (11, .lst _ _ _), (12, .int _ _), (13, .int _ _), (14, .bool _)] [] ⟨rfl, rfl, rfl, rfl, rfl, rfl, rfl, rfl, trivial⟩ rfl ?_
 refine W.seq' ?_
 refine W.cn rfl (fun hc => ?_) (fun hc => ?_)
 have hv := hv.1 hc
 refine W.skip ?_
 refine th_nrm ?_
 refine W.tr [(0, .lst _ _ _), (1, .int _ _), (2, .int _ _), (3, .int _ _), (11, .lst _ _ _), (12, .int _ _), (13, .int _ _)] [] ⟨rfl, rfl, rfl, rfl, rfl, rfl, rfl, trivial⟩ rfl ?_
 refine W.seq' ?_
 refine W.block ?_
 refine W.rL ?_
 obtain ⟨s11, hv⟩ := hv
 refine cL rfl (o_iaL tt23 tt3 rfl rfl (encInt.wd true) rfl s11 ?_)
 intro rest11
 refine cL rfl (o_ldS (v := .int _ _) tt3 rfl rfl ⟨_, rfl⟩ ?_)
 refine aI rfl rfl ?_
 refine eL ?_
 refine W.tr [(0, .lst _ _ _), (1, .int _ _), (2, .int _ _), (3, .int _ _), (10, .int _ _), (11, .lst _ _ _), (12, .int _ _), (13, .int _ _)] [] ⟨rfl, rfl, rfl, rfl, rfl, rfl, rfl, rfl, trivial⟩ rfl ?_
 refine W.rL ?_
 iterate 2 refine mI rfl rfl ?_
 refine cL rfl (o_callP1 (k := 72) (fst := []) (caps := []) (ys := [.int _ _, .int _ _, .int _ _]) rfl rfl (spec_inr (lat l v13) (0 : Int) most) (Wks.cons (ag_int _ _ _ _) (Wks.cons (ag_int _ _ _ _) (Wks.cons (ag_int _ _ _ _) (Wks.refl _)))) ?_)
 refine cL rfl (o_notB rfl ?_)
 refine eL ?_
 refine W.tr [(0, .lst _ _ _), (1, .int _ _), (2, .int _ _), (3, .int _ _), (11, .lst _ _ _), (12, .int _ _), (13, .int _ _), (20, .bool _)] [] ⟨rfl, rfl, rfl, rfl, rfl, rfl, rfl, rfl, trivial⟩ rfl ?_
 refine W.cn rfl (fun hc => ?_) (fun hc => ?_)
 have hv := hv.1 hc
 refine W.rL ?_
 refine aB rfl rfl ?_
 refine eL ?_
 refine W.tr [(8, .bool _)] [] ⟨rfl, trivial⟩ rfl ?_
 refine W.ret ?_
 refine bl_ret (th_ret (th_ret (bl_ret (th_ret (rt ?_)))))
 refine rt_t (v := .bool _) rfl ?_
 refine rt_n ?_
 exact ⟨_, rs_bool _ _ _, false, rfl, hv⟩
 have hv := hv.2 hc
 refine W.skip ?_
 refine bl_nrm (th_nrm ?_)
 refine W.tr [(0, .lst _ _ _), (1, .int _ _), (2, .int _ _), (3, .int _ _), (11, .lst _ _ _), (12, .int _ _), (13, .int _ _)] [] ⟨rfl, rfl, rfl, rfl, rfl, rfl, rfl, trivial⟩ rfl ?_
 refine W.rL1 ?_
 obtain ⟨s12, hv⟩ := hv
 refine cL rfl (o_add rfl rfl s12 ?_)
 refine mI rfl rfl ?_
 refine eL ?_
 exact th_nrm (⟨(), (v13 + (1 : Int)), hv, St.to_mk (φ := []) rfl (rfl) ⟨Ren.lst _ _ _, Ren.int _ _, Ren.int _ _, Ren.int _ _, Ren.lst _ _ _, Ren.int _ _, Ren.int _ _, trivial⟩ trivial⟩)
 have hv := hv.2 hc
 refine W.exit ?_
 refine th_exit (th_exit (bl_hit (th_nrm ?_)))
 refine W.tr [(0, .lst _ _ _), (1, .int _ _), (2, .int _ _)] [] ⟨rfl, rfl, rfl, trivial⟩ rfl ?_
 refine W.rL ?_
 refine mL rfl rfl ?_
 refine cL rfl (o_len (v := .lst _ _ _) tt23 rfl rfl ?_)
 iterate 2 refine mI rfl rfl ?_
 refine cL rfl (o_callP1 (k := 72) (fst := []) (caps := []) (ys := [.int _ _, .int _ _, .int _ _]) rfl rfl (spec_inr ((l.length : Nat) : Int) lo hi) (Wks.cons (ag_int _ _ _ _) (Wks.cons (ag_int _ _ _ _) (Wks.cons (ag_int _ _ _ _) (Wks.refl _)))) ?_)
 refine aB rfl rfl ?_
 refine eL ?_
 refine W.tr [(8, .bool _)] [] ⟨rfl, trivial⟩ rfl ?_
 refine W.ret ?_
 refine rt ?_
 refine rt_t (v := .bool _) rfl ?_
 refine rt_n ?_
 exact ⟨_, rs_bool _ _ _, (inM ((l.length : Nat) : Int) lo hi), rfl, hv⟩
theorem vcp_allr (l : (List Int)) (lo : Int) (hi : Int) (most : Int) (h0 : l.length ≤ 1073741824) : vc_allr l lo hi most (fun q0 => q0 = (allM l lo hi most)) := by
  unfold vc_allr
  refine ⟨fun v => ∃ i : Nat, v = i ∧ i ≤ l.length ∧ ∀ y ∈ l.take i, 0 ≤ y ∧ y ≤ most, fun v => l.length - v.toNat, ⟨0, rfl, by omega, by simp⟩, ?_⟩
  rintro _ ⟨i, rfl, hle, hj⟩
  refine ⟨fun h1 => ?_, fun h1 => ?_⟩
  · have hlt : i < l.length := by omega
    rw [lat_get hlt]
    refine ⟨by omega, fun h2 => ?_, fun h2 => ⟨by unfold inI; omega, ⟨i + 1, by omega, by omega, ?_⟩, by dsimp only; omega⟩⟩
    · show false = allM l lo hi most
      unfold inM at h2
      unfold allM
      have : l.all (fun y => decide (0 ≤ y ∧ y ≤ most)) = false := by
        rw [List.all_eq_false]
        exact ⟨l[i], List.getElem_mem hlt, by simpa using h2⟩
      rw [this]; rfl
    · unfold inM at h2
      intro y hy
      rw [List.take_add_one, List.getElem?_eq_getElem hlt] at hy
      rcases List.mem_append.1 hy with h | h
      · exact hj y h
      · simp only [Option.toList_some, List.mem_singleton] at h
        subst h
        simpa using h2
  · show inM _ lo hi = allM l lo hi most
    unfold inM allM
    rw [List.take_of_length_le (by omega)] at hj
    have : l.all (fun y => decide (0 ≤ y ∧ y ≤ most)) = true := by
      rw [List.all_eq_true]
      exact fun y hy => decide_eq_true (hj y hy)
    rw [this]; rfl
theorem spec_allr (l : (List Int)) (lo : Int) (hi : Int) (most : Int) (h0 : l.length ≤ 1073741824) : FnP Try.prog 71 [.lst true l.length (encL eInt l), .int .i64 lo, .int .i64 hi, .int .i64 most] (fun xR => xR = .bool (allM l lo hi most)) :=
  (walk_allr (vcp_allr l lo hi most h0)).mono (by rintro _ ⟨_, rfl, rfl⟩; rfl)
def vc_cvalid (f : Flt) (Post : Bool → Prop) : Prop :=
  ((f.dr.length ≤ 1073741824) ∧ (((allM f.dr (1 : Int) (6 : Int) (1000 : Int)) = true) → (((inM f.la (0 : Int) (1000000 : Int)) = true) → (((inM f.li (0 : Int) (2 : Int)) = true) → ((f.li < ((f.dr.length : Nat) : Int)) → (f.tm.length ≤ 1073741824) ∧ (((allM f.tm (1 : Int) (8 : Int) (3 : Int)) = true) → (inI (((f.tm.length : Nat) : Int) - (1 : Int))) ∧ (f.sv.length ≤ 1073741824) ∧ True) ∧ (¬ ((allM f.tm (1 : Int) (8 : Int) (3 : Int)) = true) → True)) ∧ (¬ (f.li < ((f.dr.length : Nat) : Int)) → True)) ∧ (¬ ((inM f.li (0 : Int) (2 : Int)) = true) → True)) ∧ (¬ ((inM f.la (0 : Int) (1000000 : Int)) = true) → True)) ∧ (¬ ((allM f.dr (1 : Int) (6 : Int) (1000 : Int)) = true) → True)) ∧ (Post (decide (((allM f.dr (1 : Int) (6 : Int) (1000 : Int)) = true) ∧ (((inM f.la (0 : Int) (1000000 : Int)) = true) ∧ (((inM f.li (0 : Int) (2 : Int)) = true) ∧ ((f.li < ((f.dr.length : Nat) : Int)) ∧ (((allM f.tm (1 : Int) (8 : Int) (3 : Int)) = true) ∧ ((allM f.sv (1 : Int) (12 : Int) (((f.tm.length : Nat) : Int) - (1 : Int))) = true))))))))
set_option maxRecDepth 100000 in
set_option maxHeartbeats 4000000 in
theorem walk_cvalid {f : Flt} {Post : Bool → Prop} (hv : vc_cvalid f Post) : FnP Try.prog 54 [.agg ((e27 true) f)] (fun x => ∃ q0, x = .bool q0 ∧ Post q0) := by
 refine FnP.of_walk (T := tt) (nt := 38) ttOk ttMix ⟨⟨Try.f54, Try.func54, rfl, rfl, rfl, rfl⟩⟩ (by simp) ?_
 unfold vc_cvalid at hv
 change W _ _ _ ⟨38, look [(0, .agg [.lst true f.dr.length (encL eInt f.dr), .int .i64 f.la, .int .i64 f.li, .lst true f.sv.length (encL eInt f.sv), .lst true f.tm.length (encL eInt f.tm)])], [], 0⟩ _
 refine W.tr [(0, .agg _)] [] ⟨rfl, trivial⟩ rfl ?_
 refine W.rL ?_
 refine cL rfl (o_box (v := .agg _) (p := 0) rfl rfl rfl ?_)
 refine aB rfl rfl ?_
 refine eL ?_
 refine W.tr [(1, .ptr _ _)] [.box _ [.lst _ _ _, .int _ _, .int _ _, .lst _ _ _, .lst _ _ _]] ⟨rfl, trivial⟩ rfl ?_
 obtain ⟨sd, hv⟩ := hv
 refine W.rLm ⟨38, look [(2, .bool (decide (((allM f.dr (1 : Int) (6 : Int) (1000 : Int)) = true) ∧ (((inM f.la (0 : Int) (1000000 : Int)) = true) ∧ (((inM f.li (0 : Int) (2 : Int)) = true) ∧ ((f.li < ((f.dr.length : Nat) : Int)) ∧ (((allM f.tm (1 : Int) (8 : Int) (3 : Int)) = true) ∧ ((allM f.sv (1 : Int) (12 : Int) (((f.tm.length : Nat) : Int) - (1 : Int))) = true))))))))], [.box 27 [.lst true f.dr.length (encL eInt f.dr), .int .i64 f.la, .int .i64 f.li, .lst true f.sv.length (encL eInt f.sv), .lst true f.tm.length (encL eInt f.tm)]], 0⟩ ?_ ?_
 refine cL rfl (o_fa tt27 rfl tt23 rfl ?_)
 refine cL rfl (o_ldS (v := .lst _ _ _) tt23 rfl rfl ⟨_, rfl⟩ ?_)
 obtain ⟨s5, sd⟩ := sd
 refine cL rfl (o_callP1 (k := 71) (fst := []) (caps := []) (ys := [.lst _ _ _, .int _ _, .int _ _, .int _ _]) rfl rfl (spec_allr f.dr (1 : Int) (6 : Int) (1000 : Int) s5) (Wks.cons (ag_lst _ _ _ _ _) (Wks.cons (ag_int _ _ _ _) (Wks.cons (ag_int _ _ _ _) (Wks.cons (ag_int _ _ _ _) (Wks.refl _))))) ?_)
 refine mB rfl rfl ?_
 by_cases c1 : (allM f.dr (1 : Int) (6 : Int) (1000 : Int)) = true
 have sd := sd.1 c1
 refine cLg rfl rfl (c1) ?_
 refine cL rfl (o_fa tt27 rfl tt3 rfl ?_)
 refine cLg rfl rfl (c1) ?_
 refine cL rfl (o_ldS (v := .int _ _) tt3 rfl rfl ⟨_, rfl⟩ ?_)
 refine cLg rfl rfl (c1) ?_
 refine cL rfl (o_callP1 (k := 72) (fst := []) (caps := []) (ys := [.int _ _, .int _ _, .int _ _]) rfl rfl (spec_inr f.la (0 : Int) (1000000 : Int)) (Wks.cons (ag_int _ _ _ _) (Wks.cons (ag_int _ _ _ _) (Wks.cons (ag_int _ _ _ _) (Wks.refl _)))) ?_)
 refine cL rfl (o_pickT (v := .bool _) rfl c1 rfl ?_)
 refine mB rfl rfl ?_
 by_cases c2 : (inM f.la (0 : Int) (1000000 : Int)) = true
 have sd := sd.1 c2
 refine cLg rfl rfl (c2) ?_
 refine cL rfl (o_fa tt27 rfl tt3 rfl ?_)
 refine cLg rfl rfl (c2) ?_
 refine cL rfl (o_ldS (v := .int _ _) tt3 rfl rfl ⟨_, rfl⟩ ?_)
 refine cLg rfl rfl (c2) ?_
 refine cL rfl (o_callP1 (k := 72) (fst := []) (caps := []) (ys := [.int _ _, .int _ _, .int _ _]) rfl rfl (spec_inr f.li (0 : Int) (2 : Int)) (Wks.cons (ag_int _ _ _ _) (Wks.cons (ag_int _ _ _ _) (Wks.cons (ag_int _ _ _ _) (Wks.refl _)))) ?_)
 refine cL rfl (o_pickT (v := .bool _) rfl c2 rfl ?_)
 refine mB rfl rfl ?_
 by_cases c3 : (inM f.li (0 : Int) (2 : Int)) = true
 have sd := sd.1 c3
 refine cLg rfl rfl (c3) ?_
 refine cL rfl (o_fa tt27 rfl tt3 rfl ?_)
 refine cLg rfl rfl (c3) ?_
 refine cL rfl (o_ldS (v := .int _ _) tt3 rfl rfl ⟨_, rfl⟩ ?_)
 refine cLg rfl rfl (c3) ?_
 refine cL rfl (o_fa tt27 rfl tt23 rfl ?_)
 refine cLg rfl rfl (c3) ?_
 refine cL rfl (o_ldS (v := .lst _ _ _) tt23 rfl rfl ⟨_, rfl⟩ ?_)
 refine cLg rfl rfl (c3) ?_
 refine cL rfl (o_len (v := .lst _ _ _) tt23 rfl rfl ?_)
 refine cLg rfl rfl (c3) ?_
 refine cL rfl (o_lss rfl rfl ?_)
 refine cL rfl (o_pickT (v := .bool _) rfl c3 rfl ?_)
 refine mB rfl rfl ?_
 by_cases c4 : f.li < ((f.dr.length : Nat) : Int)
 have sd := sd.1 c4
 refine cLg rfl rfl (decide_eq_true c4) ?_
 refine cL rfl (o_fa tt27 rfl tt23 rfl ?_)
 refine cLg rfl rfl (decide_eq_true c4) ?_
 refine cL rfl (o_ldS (v := .lst _ _ _) tt23 rfl rfl ⟨_, rfl⟩ ?_)
 refine cLg rfl rfl (decide_eq_true c4) ?_
 obtain ⟨s6, sd⟩ := sd
 refine cL rfl (o_callP1 (k := 71) (fst := []) (caps := []) (ys := [.lst _ _ _, .int _ _, .int _ _, .int _ _]) rfl rfl (spec_allr f.tm (1 : Int) (8 : Int) (3 : Int) s6) (Wks.cons (ag_lst _ _ _ _ _) (Wks.cons (ag_int _ _ _ _) (Wks.cons (ag_int _ _ _ _) (Wks.cons (ag_int _ _ _ _) (Wks.refl _))))) ?_)
 refine cL rfl (o_pickT (v := .bool _) rfl (decide_eq_true c4) rfl ?_)
 refine mB rfl rfl ?_
 by_cases c5 : (allM f.tm (1 : Int) (8 : Int) (3 : Int)) = true
 have sd := sd.1 c5
 refine cLg rfl rfl (c5) ?_
 refine cL rfl (o_fa tt27 rfl tt23 rfl ?_)
 refine cLg rfl rfl (c5) ?_
 refine cL rfl (o_ldS (v := .lst _ _ _) tt23 rfl rfl ⟨_, rfl⟩ ?_)
 refine cLg rfl rfl (c5) ?_
 refine cL rfl (o_fa tt27 rfl tt23 rfl ?_)
 refine cLg rfl rfl (c5) ?_
 refine cL rfl (o_ldS (v := .lst _ _ _) tt23 rfl rfl ⟨_, rfl⟩ ?_)
 refine cLg rfl rfl (c5) ?_
 refine cL rfl (o_len (v := .lst _ _ _) tt23 rfl rfl ?_)
 refine cLg rfl rfl (c5) ?_
 obtain ⟨s7, sd⟩ := sd
 refine cL rfl (o_sub rfl rfl s7 ?_)
 refine cLg rfl rfl (c5) ?_
 obtain ⟨s8, sd⟩ := sd
 refine cL rfl (o_callP1 (k := 71) (fst := []) (caps := []) (ys := [.lst _ _ _, .int _ _, .int _ _, .int _ _]) rfl rfl (spec_allr f.sv (1 : Int) (12 : Int) (((f.tm.length : Nat) : Int) - (1 : Int)) s8) (Wks.cons (ag_lst _ _ _ _ _) (Wks.cons (ag_int _ _ _ _) (Wks.cons (ag_int _ _ _ _) (Wks.cons (ag_int _ _ _ _) (Wks.refl _))))) ?_)
 refine cL rfl (o_pickT (v := .bool _) rfl c5 rfl ?_)
 refine aB rfl rfl ?_
 refine eL ?_
 exact le_mk ⟨(congrArg AV.bool (dAndT c1 (dAndT c2 (dAndT c3 (dAndT c4 (dAndT c5 (dVar _))))))).symm, trivial⟩ rfl
 iterate 7 refine cLs rfl rfl rfl ((Bool.eq_false_iff.2 c5)) ?_
 refine cL rfl (o_pickF (v := .bool _) rfl (Bool.eq_false_iff.2 c5) rfl ?_)
 refine aB rfl rfl ?_
 refine eL ?_
 exact le_mk ⟨(congrArg AV.bool (dAndT c1 (dAndT c2 (dAndT c3 (dAndT c4 (dAndF c5)))))).symm, trivial⟩ rfl
 iterate 3 refine cLs rfl rfl rfl (decide_eq_false c4) ?_
 refine cL rfl (o_pickF (v := .bool _) rfl (decide_eq_false c4) rfl ?_)
 refine mB rfl rfl ?_
 iterate 7 refine cLs rfl rfl rfl (rfl) ?_
 refine cL rfl (o_pickF (v := .bool _) rfl rfl rfl ?_)
 refine aB rfl rfl ?_
 refine eL ?_
 exact le_mk ⟨(congrArg AV.bool (dAndT c1 (dAndT c2 (dAndT c3 (dAndF c4))))).symm, trivial⟩ rfl
 iterate 6 refine cLs rfl rfl rfl ((Bool.eq_false_iff.2 c3)) ?_
 refine cL rfl (o_pickF (v := .bool _) rfl (Bool.eq_false_iff.2 c3) rfl ?_)
 refine mB rfl rfl ?_
 iterate 3 refine cLs rfl rfl rfl (rfl) ?_
 refine cL rfl (o_pickF (v := .bool _) rfl rfl rfl ?_)
 refine mB rfl rfl ?_
 iterate 7 refine cLs rfl rfl rfl (rfl) ?_
 refine cL rfl (o_pickF (v := .bool _) rfl rfl rfl ?_)
 refine aB rfl rfl ?_
 refine eL ?_
 exact le_mk ⟨(congrArg AV.bool (dAndT c1 (dAndT c2 (dAndF c3)))).symm, trivial⟩ rfl
 iterate 3 refine cLs rfl rfl rfl ((Bool.eq_false_iff.2 c2)) ?_
 refine cL rfl (o_pickF (v := .bool _) rfl (Bool.eq_false_iff.2 c2) rfl ?_)
 refine mB rfl rfl ?_
 iterate 6 refine cLs rfl rfl rfl (rfl) ?_
 refine cL rfl (o_pickF (v := .bool _) rfl rfl rfl ?_)
 refine mB rfl rfl ?_
 iterate 3 refine cLs rfl rfl rfl (rfl) ?_
 refine cL rfl (o_pickF (v := .bool _) rfl rfl rfl ?_)
 refine mB rfl rfl ?_
 iterate 7 refine cLs rfl rfl rfl (rfl) ?_
 refine cL rfl (o_pickF (v := .bool _) rfl rfl rfl ?_)
 refine aB rfl rfl ?_
 refine eL ?_
 exact le_mk ⟨(congrArg AV.bool (dAndT c1 (dAndF c2))).symm, trivial⟩ rfl
 iterate 3 refine cLs rfl rfl rfl ((Bool.eq_false_iff.2 c1)) ?_
 refine cL rfl (o_pickF (v := .bool _) rfl (Bool.eq_false_iff.2 c1) rfl ?_)
 refine mB rfl rfl ?_
 iterate 3 refine cLs rfl rfl rfl (rfl) ?_
 refine cL rfl (o_pickF (v := .bool _) rfl rfl rfl ?_)
 refine mB rfl rfl ?_
 iterate 6 refine cLs rfl rfl rfl (rfl) ?_
 refine cL rfl (o_pickF (v := .bool _) rfl rfl rfl ?_)
 refine mB rfl rfl ?_
 iterate 3 refine cLs rfl rfl rfl (rfl) ?_
 refine cL rfl (o_pickF (v := .bool _) rfl rfl rfl ?_)
 refine mB rfl rfl ?_
 iterate 7 refine cLs rfl rfl rfl (rfl) ?_
 refine cL rfl (o_pickF (v := .bool _) rfl rfl rfl ?_)
 refine aB rfl rfl ?_
 refine eL ?_
 exact le_mk ⟨(congrArg AV.bool (dAndF c1)).symm, trivial⟩ rfl
 refine W.ret ?_
 refine rt ?_
 refine rt_t (v := .bool _) rfl ?_
 refine rt_n ?_
 exact ⟨_, rs_bool _ _ _, (decide (((allM f.dr (1 : Int) (6 : Int) (1000 : Int)) = true) ∧ (((inM f.la (0 : Int) (1000000 : Int)) = true) ∧ (((inM f.li (0 : Int) (2 : Int)) = true) ∧ ((f.li < ((f.dr.length : Nat) : Int)) ∧ (((allM f.tm (1 : Int) (8 : Int) (3 : Int)) = true) ∧ ((allM f.sv (1 : Int) (12 : Int) (((f.tm.length : Nat) : Int) - (1 : Int))) = true))))))), rfl, hv⟩
theorem vcp_cvalid (f : Flt) (h0 : f.dr.length ≤ 1073741824) (h1 : f.sv.length ≤ 1073741824) (h2 : f.tm.length ≤ 1073741824) : vc_cvalid f (fun q0 => q0 = (cvalidM f)) := by
  unfold vc_cvalid
  refine ⟨⟨h0, fun _ => ⟨fun _ => ⟨fun _ => ⟨fun _ => ⟨h2, fun _ => ⟨by unfold inI; omega, h1, trivial⟩, fun _ => trivial⟩, fun _ => trivial⟩, fun _ => trivial⟩, fun _ => trivial⟩, fun _ => trivial⟩, ?_⟩
  show decide _ = cvalidM f
  unfold cvalidM inM
  rw [Bool.eq_iff_iff]
  simp only [decide_eq_true_eq, Bool.and_eq_true, and_assoc]
theorem spec_cvalid (f : Flt) (h0 : f.dr.length ≤ 1073741824) (h1 : f.sv.length ≤ 1073741824) (h2 : f.tm.length ≤ 1073741824) : FnP Try.prog 54 [.agg ((e27 true) f)] (fun xR => xR = .bool (cvalidM f)) :=
  (walk_cvalid (vcp_cvalid f h0 h1 h2)).mono (by rintro _ ⟨_, rfl, rfl⟩; rfl)
def vc_poss (n : Int) (c : Con) (Post : Bool → Prop) : Prop :=
  (((((0 : Int) ≤ (min c.f c.t)) ∧ (((max c.f c.t) < n) ∧ (¬ c.f = c.t))) → (((-1125899906842624 : Int) ≤ c.m) → ((c.m ≤ (1125899906842624 : Int)) → (((0 : Int) ≤ c.a) → (0 ≤ (6 : Int)) ∧ True) ∧ (¬ ((0 : Int) ≤ c.a) → True)) ∧ (¬ (c.m ≤ (1125899906842624 : Int)) → True)) ∧ (¬ ((-1125899906842624 : Int) ≤ c.m) → True)) ∧ (¬ (((0 : Int) ≤ (min c.f c.t)) ∧ (((max c.f c.t) < n) ∧ (¬ c.f = c.t))) → True)) ∧ (Post (decide ((((0 : Int) ≤ (min c.f c.t)) ∧ (((max c.f c.t) < n) ∧ (¬ c.f = c.t))) ∧ (((-1125899906842624 : Int) ≤ c.m) ∧ ((c.m ≤ (1125899906842624 : Int)) ∧ (((0 : Int) ≤ c.a) ∧ (c.a.fdiv (2 ^ (min (6 : Int).toNat 64)) = (0 : Int))))))))
set_option maxRecDepth 100000 in
set_option maxHeartbeats 4000000 in
theorem walk_poss {n : Int} {c : Con} {Post : Bool → Prop} (hv : vc_poss n c Post) : FnP Try.prog 65 [.int .i64 n, .agg (e66 c)] (fun x => ∃ q0, x = .bool q0 ∧ Post q0) := by
 refine FnP.of_walk (T := tt) (nt := 50) ttOk ttMix ⟨⟨Try.f65, Try.func65, rfl, rfl, rfl, rfl⟩⟩ (by simp) ?_
 unfold vc_poss at hv
 change W _ _ _ ⟨50, look [(0, .int .i64 n), (1, .agg [.int .i64 c.f, .int .i64 c.t, .int .i64 c.m, .int .i64 c.a])], [], 0⟩ _
 refine W.tr [(0, .int _ _), (1, .agg _)] [] ⟨rfl, rfl, trivial⟩ rfl ?_
 refine W.rL ?_
 refine cL rfl (o_box (v := .agg _) (p := 0) rfl rfl rfl ?_)
 refine aB rfl rfl ?_
 refine eL ?_
 refine W.tr [(0, .int _ _), (3, .ptr _ _)] [.box _ [.int _ _, .int _ _, .int _ _, .int _ _]] ⟨rfl, rfl, trivial⟩ rfl ?_
 refine W.rLm ⟨50, look [(3, .ptr 0 0), (5, .bool (decide (((0 : Int) ≤ (min c.f c.t)) ∧ (((max c.f c.t) < n) ∧ (¬ c.f = c.t)))))], [.box 66 [.int .i64 c.f, .int .i64 c.t, .int .i64 c.m, .int .i64 c.a]], 0⟩ ?_ ?_
 refine cL rfl (o_fa tt66 rfl tt3 rfl ?_)
 refine cL rfl (o_ldS (v := .int _ _) tt3 rfl rfl ⟨_, rfl⟩ ?_)
 refine cL rfl (o_fa tt66 rfl tt3 rfl ?_)
 refine cL rfl (o_ldS (v := .int _ _) tt3 rfl rfl ⟨_, rfl⟩ ?_)
 refine cL rfl (o_min rfl rfl ?_)
 refine cL rfl (o_geq rfl rfl ?_)
 refine mB rfl rfl ?_
 by_cases c1 : (0 : Int) ≤ (min c.f c.t)
 refine cLg rfl rfl (decide_eq_true c1) ?_
 refine cL rfl (o_fa tt66 rfl tt3 rfl ?_)
 refine cLg rfl rfl (decide_eq_true c1) ?_
 refine cL rfl (o_ldS (v := .int _ _) tt3 rfl rfl ⟨_, rfl⟩ ?_)
 refine cLg rfl rfl (decide_eq_true c1) ?_
 refine cL rfl (o_fa tt66 rfl tt3 rfl ?_)
 refine cLg rfl rfl (decide_eq_true c1) ?_
 refine cL rfl (o_ldS (v := .int _ _) tt3 rfl rfl ⟨_, rfl⟩ ?_)
 refine cLg rfl rfl (decide_eq_true c1) ?_
 refine cL rfl (o_max rfl rfl ?_)
 refine cLg rfl rfl (decide_eq_true c1) ?_
 refine mI rfl rfl ?_
 refine cLg rfl rfl (decide_eq_true c1) ?_
 refine cL rfl (o_lss rfl rfl ?_)
 refine cL rfl (o_pickT (v := .bool _) rfl (decide_eq_true c1) rfl ?_)
 refine mB rfl rfl ?_
 by_cases c2 : (max c.f c.t) < n
 refine cLg rfl rfl (decide_eq_true c2) ?_
 refine cL rfl (o_fa tt66 rfl tt3 rfl ?_)
 refine cLg rfl rfl (decide_eq_true c2) ?_
 refine cL rfl (o_ldS (v := .int _ _) tt3 rfl rfl ⟨_, rfl⟩ ?_)
 refine cLg rfl rfl (decide_eq_true c2) ?_
 refine cL rfl (o_fa tt66 rfl tt3 rfl ?_)
 refine cLg rfl rfl (decide_eq_true c2) ?_
 refine cL rfl (o_ldS (v := .int _ _) tt3 rfl rfl ⟨_, rfl⟩ ?_)
 refine cLg rfl rfl (decide_eq_true c2) ?_
 refine cL rfl (o_neI rfl rfl rfl ?_)
 refine cL rfl (o_pickT (v := .bool _) rfl (decide_eq_true c2) rfl ?_)
 refine aB rfl rfl ?_
 refine eL ?_
 exact le_mk ⟨rfl, (congrArg AV.bool (dAndT c1 (dAndT c2 (rfl)))).symm, trivial⟩ rfl
 iterate 5 refine cLs rfl rfl rfl (decide_eq_false c2) ?_
 refine cL rfl (o_pickF (v := .bool _) rfl (decide_eq_false c2) rfl ?_)
 refine aB rfl rfl ?_
 refine eL ?_
 exact le_mk ⟨rfl, (congrArg AV.bool (dAndT c1 (dAndF c2))).symm, trivial⟩ rfl
 iterate 7 refine cLs rfl rfl rfl (decide_eq_false c1) ?_
 refine cL rfl (o_pickF (v := .bool _) rfl (decide_eq_false c1) rfl ?_)
 refine mB rfl rfl ?_
 iterate 5 refine cLs rfl rfl rfl (rfl) ?_
 refine cL rfl (o_pickF (v := .bool _) rfl rfl rfl ?_)
 refine aB rfl rfl ?_
 refine eL ?_
 exact le_mk ⟨rfl, (congrArg AV.bool (dAndF c1)).symm, trivial⟩ rfl
 obtain ⟨sd, hv⟩ := hv
 refine W.rLm ⟨50, look [(4, .bool (decide ((((0 : Int) ≤ (min c.f c.t)) ∧ (((max c.f c.t) < n) ∧ (¬ c.f = c.t))) ∧ (((-1125899906842624 : Int) ≤ c.m) ∧ ((c.m ≤ (1125899906842624 : Int)) ∧ (((0 : Int) ≤ c.a) ∧ (c.a.fdiv (2 ^ (min (6 : Int).toNat 64)) = (0 : Int))))))))], [.box 66 [.int .i64 c.f, .int .i64 c.t, .int .i64 c.m, .int .i64 c.a]], 0⟩ ?_ ?_
 iterate 2 refine mB rfl rfl ?_
 by_cases c1 : ((0 : Int) ≤ (min c.f c.t)) ∧ (((max c.f c.t) < n) ∧ (¬ c.f = c.t))
 have sd := sd.1 c1
 refine cLg rfl rfl (decide_eq_true c1) ?_
 refine cL rfl (o_fa tt66 rfl tt3 rfl ?_)
 refine cLg rfl rfl (decide_eq_true c1) ?_
 refine cL rfl (o_ldS (v := .int _ _) tt3 rfl rfl ⟨_, rfl⟩ ?_)
 refine cLg rfl rfl (decide_eq_true c1) ?_
 refine cL rfl (o_geq rfl rfl ?_)
 refine cL rfl (o_pickT (v := .bool _) rfl (decide_eq_true c1) rfl ?_)
 refine mB rfl rfl ?_
 by_cases c2 : (-1125899906842624 : Int) ≤ c.m
 have sd := sd.1 c2
 refine cLg rfl rfl (decide_eq_true c2) ?_
 refine cL rfl (o_fa tt66 rfl tt3 rfl ?_)
 refine cLg rfl rfl (decide_eq_true c2) ?_
 refine cL rfl (o_ldS (v := .int _ _) tt3 rfl rfl ⟨_, rfl⟩ ?_)
 refine cLg rfl rfl (decide_eq_true c2) ?_
 refine cL rfl (o_leq rfl rfl ?_)
 refine cL rfl (o_pickT (v := .bool _) rfl (decide_eq_true c2) rfl ?_)
 refine mB rfl rfl ?_
 by_cases c3 : c.m ≤ (1125899906842624 : Int)
 have sd := sd.1 c3
 refine cLg rfl rfl (decide_eq_true c3) ?_
 refine cL rfl (o_fa tt66 rfl tt3 rfl ?_)
 refine cLg rfl rfl (decide_eq_true c3) ?_
 refine cL rfl (o_ldS (v := .int _ _) tt3 rfl rfl ⟨_, rfl⟩ ?_)
 refine cLg rfl rfl (decide_eq_true c3) ?_
 refine cL rfl (o_geq rfl rfl ?_)
 refine cL rfl (o_pickT (v := .bool _) rfl (decide_eq_true c3) rfl ?_)
 refine mB rfl rfl ?_
 by_cases c4 : (0 : Int) ≤ c.a
 have sd := sd.1 c4
 refine cLg rfl rfl (decide_eq_true c4) ?_
 refine cL rfl (o_fa tt66 rfl tt3 rfl ?_)
 refine cLg rfl rfl (decide_eq_true c4) ?_
 refine cL rfl (o_ldS (v := .int _ _) tt3 rfl rfl ⟨_, rfl⟩ ?_)
 refine cLg rfl rfl (decide_eq_true c4) ?_
 obtain ⟨s2, sd⟩ := sd
 refine cL rfl (o_shr rfl rfl s2 ?_)
 refine cLg rfl rfl (decide_eq_true c4) ?_
 refine cL rfl (o_eqI rfl rfl rfl ?_)
 refine cL rfl (o_pickT (v := .bool _) rfl (decide_eq_true c4) rfl ?_)
 refine aB rfl rfl ?_
 refine eL ?_
 exact le_mk ⟨(congrArg AV.bool (dAndT c1 (dAndT c2 (dAndT c3 (dAndT c4 (rfl)))))).symm, trivial⟩ rfl
 iterate 4 refine cLs rfl rfl rfl (decide_eq_false c4) ?_
 refine cL rfl (o_pickF (v := .bool _) rfl (decide_eq_false c4) rfl ?_)
 refine aB rfl rfl ?_
 refine eL ?_
 exact le_mk ⟨(congrArg AV.bool (dAndT c1 (dAndT c2 (dAndT c3 (dAndF c4))))).symm, trivial⟩ rfl
 iterate 3 refine cLs rfl rfl rfl (decide_eq_false c3) ?_
 refine cL rfl (o_pickF (v := .bool _) rfl (decide_eq_false c3) rfl ?_)
 refine mB rfl rfl ?_
 iterate 4 refine cLs rfl rfl rfl (rfl) ?_
 refine cL rfl (o_pickF (v := .bool _) rfl rfl rfl ?_)
 refine aB rfl rfl ?_
 refine eL ?_
 exact le_mk ⟨(congrArg AV.bool (dAndT c1 (dAndT c2 (dAndF c3)))).symm, trivial⟩ rfl
 iterate 3 refine cLs rfl rfl rfl (decide_eq_false c2) ?_
 refine cL rfl (o_pickF (v := .bool _) rfl (decide_eq_false c2) rfl ?_)
 refine mB rfl rfl ?_
 iterate 3 refine cLs rfl rfl rfl (rfl) ?_
 refine cL rfl (o_pickF (v := .bool _) rfl rfl rfl ?_)
 refine mB rfl rfl ?_
 iterate 4 refine cLs rfl rfl rfl (rfl) ?_
 refine cL rfl (o_pickF (v := .bool _) rfl rfl rfl ?_)
 refine aB rfl rfl ?_
 refine eL ?_
 exact le_mk ⟨(congrArg AV.bool (dAndT c1 (dAndF c2))).symm, trivial⟩ rfl
 iterate 3 refine cLs rfl rfl rfl (decide_eq_false c1) ?_
 refine cL rfl (o_pickF (v := .bool _) rfl (decide_eq_false c1) rfl ?_)
 refine mB rfl rfl ?_
 iterate 3 refine cLs rfl rfl rfl (rfl) ?_
 refine cL rfl (o_pickF (v := .bool _) rfl rfl rfl ?_)
 refine mB rfl rfl ?_
 iterate 3 refine cLs rfl rfl rfl (rfl) ?_
 refine cL rfl (o_pickF (v := .bool _) rfl rfl rfl ?_)
 refine mB rfl rfl ?_
 iterate 4 refine cLs rfl rfl rfl (rfl) ?_
 refine cL rfl (o_pickF (v := .bool _) rfl rfl rfl ?_)
 refine aB rfl rfl ?_
 refine eL ?_
 exact le_mk ⟨(congrArg AV.bool (dAndF c1)).symm, trivial⟩ rfl
 refine W.ret ?_
 refine rt ?_
 refine rt_t (v := .bool _) rfl ?_
 refine rt_n ?_
 exact ⟨_, rs_bool _ _ _, (decide ((((0 : Int) ≤ (min c.f c.t)) ∧ (((max c.f c.t) < n) ∧ (¬ c.f = c.t))) ∧ (((-1125899906842624 : Int) ≤ c.m) ∧ ((c.m ≤ (1125899906842624 : Int)) ∧ (((0 : Int) ≤ c.a) ∧ (c.a.fdiv (2 ^ (min (6 : Int).toNat 64)) = (0 : Int))))))), rfl, hv⟩
theorem vcp_poss (n : Int) (c : Con)  : vc_poss n c (fun q0 => q0 = (possM n c)) := by
  unfold vc_poss
  refine ⟨by simp, ?_⟩
  unfold possM
  have e : (2 : Int) ^ (min (6 : Int).toNat 64) = 64 := by decide
  rw [e]
  have e2 : c.a.fdiv 64 = c.a / 64 := Int.fdiv_eq_ediv_of_nonneg _ (by omega)
  rw [e2]
  exact decide_eq_decide.mpr (by omega)
theorem spec_poss (n : Int) (c : Con)  : FnP Try.prog 65 [.int .i64 n, .agg (e66 c)] (fun xR => xR = .bool (possM n c)) :=
  (walk_poss (vcp_poss n c)).mono (by rintro _ ⟨_, rfl, rfl⟩; rfl)
def vc_valid1 (c : Con) (n : Int) (Post : Bool → Prop) : Prop :=
  Post (decide (¬ ((possM n c) = true)))
set_option maxRecDepth 100000 in
set_option maxHeartbeats 4000000 in
theorem walk_valid1 {c : Con} {n : Int} {Post : Bool → Prop} (hv : vc_valid1 c n Post) : FnP Try.prog 64 [.agg (e66 c), .ipt true [.int .i64 n]] (fun x => ∃ q0, x = .bool q0 ∧ Post q0) := by
 refine FnP.of_walk (T := tt) (nt := 8) ttOk ttMix ⟨⟨Try.f64, Try.func64, rfl, rfl, rfl, rfl⟩⟩ (by simp) ?_
 unfold vc_valid1 at hv
 change W _ _ _ ⟨8, look [(0, .agg [.int .i64 c.f, .int .i64 c.t, .int .i64 c.m, .int .i64 c.a]), (1, .ipt true [.int .i64 n])], [], 0⟩ _
 refine W.tr [(0, .agg _), (1, .ipt _ _)] [] ⟨rfl, rfl, trivial⟩ rfl ?_
 refine W.rL ?_
 refine cL rfl (o_box (v := .agg _) (p := 0) rfl rfl rfl ?_)
 refine aB rfl rfl ?_
 refine eL ?_
 refine W.tr [(1, .ipt _ _), (2, .ptr _ _)] [.box _ [.int _ _, .int _ _, .int _ _, .int _ _]] ⟨rfl, rfl, trivial⟩ rfl ?_
 refine W.rL ?_
 refine cL rfl (o_ldS (v := .int _ _) tt3 rfl rfl ⟨_, rfl⟩ ?_)
 refine cL rfl (o_ldA (cs := [.int _ _, .int _ _, .int _ _, .int _ _]) tt66 rfl rfl ⟨_, rfl⟩ rfl ?_)
 refine cL rfl (o_callP1 (k := 65) (fst := []) (caps := []) (ys := [.int _ _, .agg _]) rfl rfl (spec_poss n c) (Wks.cons (ag_int _ _ _ _) (Wks.cons (ag_agg 5 _ (Wks.cons (ag_int _ _ _ _) (Wks.cons (ag_int _ _ _ _) (Wks.cons (ag_int _ _ _ _) (Wks.cons (ag_int _ _ _ _) (Wks.refl _)))))) (Wks.refl _))) ?_)
 refine cL rfl (o_notB rfl ?_)
 refine aB rfl rfl ?_
 refine eL ?_
 refine W.tr [(3, .bool _)] [.box _ [.int _ _, .int _ _, .int _ _, .int _ _]] ⟨rfl, trivial⟩ rfl ?_
 refine W.ret ?_
 refine rt ?_
 refine rt_t (v := .bool _) rfl ?_
 refine rt_n ?_
 exact ⟨_, rs_bool _ _ _, (decide (¬ ((possM n c) = true))), rfl, hv⟩
theorem vcp_valid1 (c : Con) (n : Int)  : vc_valid1 c n (fun q0 => q0 = (!(possM n c))) := by
  unfold vc_valid1
  cases possM n c <;> rfl
theorem spec_valid1 (c : Con) (n : Int)  : FnP Try.prog 64 [.agg (e66 c), .ipt true [.int .i64 n]] (fun xR => xR = .bool (!(possM n c))) :=
  (walk_valid1 (vcp_valid1 c n)).mono (by rintro _ ⟨_, rfl, rfl⟩; rfl)
def vc_idxV (s : (List Con)) (n : Int) (Post : Int → Prop) : Prop :=
  ∃ (I1 : Int → Prop) (μ1 : Int → Nat), I1 (0 : Int) ∧ ∀ (v8 : Int), I1 v8 → ((v8 < ((s.length : Nat) : Int)) → (0 ≤ v8 ∧ v8 < (s.length : Int)) ∧ (((!(possM n (lat s v8))) = true) → Post v8) ∧ (¬ ((!(possM n (lat s v8))) = true) → (inI (v8 + (1 : Int))) ∧ (I1 (v8 + (1 : Int)) ∧ μ1 (v8 + (1 : Int)) < μ1 v8))) ∧ (¬ (v8 < ((s.length : Nat) : Int)) → Post (-1 : Int))
set_option maxRecDepth 100000 in
set_option maxHeartbeats 4000000 in
theorem walk_idxV {s : (List Con)} {n : Int} {Post : Int → Prop} (hv : vc_idxV s n Post) : FnP Try.prog 69 [.lst true s.length (encL e66 s), .clo 64 [] [.ipt true [.int .i64 n]]] (fun x => ∃ q0, x = .int .i64 q0 ∧ Post q0) := by
 refine FnP.of_walk (T := tt) (nt := 19) ttOk ttMix ⟨⟨Try.f69, Try.func69, rfl, rfl, rfl, rfl⟩⟩ (by simp) ?_
 unfold vc_idxV at hv
 change W _ _ _ ⟨19, look [(0, .lst true s.length (encL e66 s)), (1, .clo 64 [] [.ipt true [.int .i64 n]])], [], 0⟩ _
 refine W.tr [(0, .lst _ _ _), (1, .clo _ _ _)] [] ⟨rfl, rfl, trivial⟩ rfl ?_
 refine W.rL ?_
 refine aI rfl rfl ?_
 refine eL ?_
 refine W.tr [(0, .lst _ _ _), (1, .clo _ _ _)] [] ⟨rfl, rfl, trivial⟩ rfl ?_
 refine W.seq' ?_
 refine W.rL ?_
 refine mL rfl rfl ?_
 refine cL rfl (o_len (v := .lst _ _ _) tt28 rfl rfl ?_)
 refine mI rfl rfl ?_
 refine eL ?_
 refine W.tr [(0, .lst _ _ _), (1, .clo _ _ _), (7, .int _ _), (8, .int _ _)] [] ⟨rfl, rfl, rfl, rfl, trivial⟩ rfl ?_
 refine W.block ?_
 obtain ⟨I1, μ1, hp, hv⟩ := hv
 refine W.loop1 (fun v8 => ⟨19, look [(0, .lst true s.length (encL e66 s)), (1, .clo 64 [] [.ipt true [.int .i64 n]]), (7, .int .i64 ((s.length : Nat) : Int)), (8, .int .i64 v8)], [], 0⟩) I1 μ1 (0 : Int) (St.to_mk (φ := []) rfl (rfl) ⟨Ren.lst _ _ _, Ren.clo _ (Rens.nil) (Rens.cons (Ren.ipt _ _) (Rens.nil)), Ren.int _ _, Ren.int _ _, trivial⟩ trivial) hp ?_
 clear hp
 intro v8 hI
 replace hv := hv v8 hI
 clear hI
 refine W.rL ?_
 refine cL rfl (o_lss rfl rfl ?_)
 refine eL ?_
 refine W.tr [(0, .lst _ _ _), (1, .clo _ _ _), (7, .int _ _), (8, .int _ _), (9, .bool _)] [] ⟨rfl, rfl, rfl, rfl, rfl, trivial⟩ rfl ?_
 refine W.seq' ?_
 refine W.cn rfl (fun hc => ?_) (fun hc => ?_)
 have hv := hv.1 hc
 refine W.skip ?_
 refine th_nrm ?_
 refine W.tr [(0, .lst _ _ _), (1, .clo _ _ _), (7, .int _ _), (8, .int _ _)] [] ⟨rfl, rfl, rfl, rfl, trivial⟩ rfl ?_
 refine W.seq' ?_
 refine W.block ?_
 refine W.rL ?_
 refine mI rfl rfl ?_
 refine aI rfl rfl ?_
 refine eL ?_
 refine W.tr [(0, .lst _ _ _), (1, .clo _ _ _), (5, .int _ _), (7, .int _ _), (8, .int _ _)] [] ⟨rfl, rfl, rfl, rfl, rfl, trivial⟩ rfl ?_
 refine W.rL ?_
 refine cL rfl (o_move (v := .clo _ _ _) rfl ?_)
 refine mL rfl rfl ?_
 refine mI rfl rfl ?_
 obtain ⟨s11, hv⟩ := hv
 refine cL rfl (o_iaL tt28 tt66 rfl rfl (enc66.wd true) rfl s11 ?_)
 intro rest11
 refine cL rfl (o_ldA (cs := [.int _ _, .int _ _, .int _ _, .int _ _]) tt66 rfl rfl ⟨_, rfl⟩ rfl ?_)
 refine cL rfl (o_callP1 (k := 64) (fst := []) (caps := [.ipt _ _]) (ys := [.agg _]) rfl rfl (spec_valid1 (lat s v8) n) (Wks.cons (ag_agg 5 _ (Wks.cons (ag_int _ _ _ _) (Wks.cons (ag_int _ _ _ _) (Wks.cons (ag_int _ _ _ _) (Wks.cons (ag_int _ _ _ _) (Wks.refl _)))))) (Wks.cons (ag_ipt _ _ _ _) (Wks.refl _))) ?_)
 refine eL ?_
 refine W.tr [(0, .lst _ _ _), (1, .clo _ _ _), (5, .int _ _), (7, .int _ _), (8, .int _ _), (16, .bool _)] [] ⟨rfl, rfl, rfl, rfl, rfl, rfl, trivial⟩ rfl ?_
 refine W.cb rfl (fun hc => ?_) (fun hc => ?_)
 have hv := hv.1 hc
 refine W.rL ?_
 refine mI rfl rfl ?_
 refine aI rfl rfl ?_
 refine eL ?_
 refine W.tr [(4, .int _ _)] [] ⟨rfl, trivial⟩ rfl ?_
 refine W.ret ?_
 refine bl_ret (th_ret (th_ret (bl_ret (th_ret (rt ?_)))))
 refine rt_t (v := .int _ _) rfl ?_
 refine rt_n ?_
 exact ⟨_, rs_int _ _ _ _, v8, rfl, hv⟩
 have hv := hv.2 hc
 refine W.skip ?_
 refine bl_nrm (th_nrm ?_)
 refine W.tr [(0, .lst _ _ _), (1, .clo _ _ _), (7, .int _ _), (8, .int _ _)] [] ⟨rfl, rfl, rfl, rfl, trivial⟩ rfl ?_
 refine W.rL1 ?_
 obtain ⟨s12, hv⟩ := hv
 refine cL rfl (o_add rfl rfl s12 ?_)
 refine mI rfl rfl ?_
 refine eL ?_
 exact th_nrm (⟨(), (v8 + (1 : Int)), hv, St.to_mk (φ := []) rfl (rfl) ⟨Ren.lst _ _ _, Ren.clo _ (Rens.nil) (Rens.cons (Ren.ipt _ _) (Rens.nil)), Ren.int _ _, Ren.int _ _, trivial⟩ trivial⟩)
 have hv := hv.2 hc
 refine W.exit ?_
 refine th_exit (th_exit (bl_hit (th_nrm ?_)))
 refine W.tr [] [] trivial rfl ?_
 refine W.rL ?_
 refine aI rfl rfl ?_
 refine eL ?_
 refine W.tr [(4, .int _ _)] [] ⟨rfl, trivial⟩ rfl ?_
 refine W.ret ?_
 refine rt ?_
 refine rt_t (v := .int _ _) rfl ?_
 refine rt_n ?_
 exact ⟨_, rs_int _ _ _ _, (-1 : Int), rfl, hv⟩
theorem vcp_idxV (s : (List Con)) (n : Int) (h0 : s.length ≤ 1073741824) : vc_idxV s n (fun q0 => q0 = (findIx (fun c => !(possM n c)) s)) := by
  unfold vc_idxV
  refine ⟨fun v => ∃ i : Nat, v = i ∧ i ≤ s.length ∧ ∀ j : Nat, j < i → ¬ (!(possM n (lat s j))) = true, fun v => s.length - v.toNat, ⟨0, rfl, by omega, by omega⟩, ?_⟩
  rintro _ ⟨i, rfl, hi, hj⟩
  refine ⟨fun h1 => ⟨by omega, fun h2 => ?_, fun h2 => ⟨by unfold inI; omega, ⟨i + 1, by omega, by omega, ?_⟩, by dsimp only; omega⟩⟩, fun h1 => ?_⟩
  · exact (findIx_lt (by omega) h2 hj).symm
  · intro j h3
    rcases Nat.lt_or_ge j i with h4 | h4
    · exact hj j h4
    · have : j = i := by omega
      subst this; exact h2
  · exact (findIx_none fun j h3 => hj j (by omega)).symm
theorem spec_idxV (s : (List Con)) (n : Int) (h0 : s.length ≤ 1073741824) : FnP Try.prog 69 [.lst true s.length (encL e66 s), .clo 64 [] [.ipt true [.int .i64 n]]] (fun xR => xR = .int .i64 (findIx (fun c => !(possM n c)) s)) :=
  (walk_idxV (vcp_idxV s n h0)).mono (by rintro _ ⟨_, rfl, rfl⟩; rfl)
def vc_conV (s : (List Con)) (n : Int) (Post : Bool → Prop) : Prop :=
  (s.length ≤ 1073741824) ∧ Post (decide ((0 : Int) ≤ (findIx (fun c => !(possM n c)) s)))
set_option maxRecDepth 100000 in
set_option maxHeartbeats 4000000 in
theorem walk_conV {s : (List Con)} {n : Int} {Post : Bool → Prop} (hv : vc_conV s n Post) : FnP Try.prog 50 [.lst true s.length (encL e66 s), .clo 64 [] [.ipt true [.int .i64 n]]] (fun x => ∃ q0, x = .bool q0 ∧ Post q0) := by
 refine FnP.of_walk (T := tt) (nt := 9) ttOk ttMix ⟨⟨Try.f50, Try.func50, rfl, rfl, rfl, rfl⟩⟩ (by simp) ?_
 unfold vc_conV at hv
 change W _ _ _ ⟨9, look [(0, .lst true s.length (encL e66 s)), (1, .clo 64 [] [.ipt true [.int .i64 n]])], [], 0⟩ _
 refine W.tr [(0, .lst _ _ _), (1, .clo _ _ _)] [] ⟨rfl, rfl, trivial⟩ rfl ?_
 refine W.rL ?_
 refine aB rfl rfl ?_
 refine eL ?_
 refine W.tr [(0, .lst _ _ _), (1, .clo _ _ _)] [] ⟨rfl, rfl, trivial⟩ rfl ?_
 refine W.rL ?_
 refine mL rfl rfl ?_
 refine cL rfl (o_move (v := .clo _ _ _) rfl ?_)
 obtain ⟨s1, hv⟩ := hv
 refine cL rfl (o_callP1 (k := 69) (fst := []) (caps := []) (ys := [.lst _ _ _, .clo _ _ _]) rfl rfl (spec_idxV s n s1) (Wks.cons (ag_lst _ _ _ _ _) (Wks.cons (ag_clo 5 _ _ (Wks.refl _) (Wks.cons (ag_ipt _ _ _ _) (Wks.refl _))) (Wks.refl _))) ?_)
 refine cL rfl (o_geq rfl rfl ?_)
 refine aB rfl rfl ?_
 refine eL ?_
 refine W.tr [(4, .bool _)] [] ⟨rfl, trivial⟩ rfl ?_
 refine W.ret ?_
 refine rt ?_
 refine rt_t (v := .bool _) rfl ?_
 refine rt_n ?_
 exact ⟨_, rs_bool _ _ _, (decide ((0 : Int) ≤ (findIx (fun c => !(possM n c)) s))), rfl, hv⟩
theorem vcp_conV (s : (List Con)) (n : Int) (h0 : s.length ≤ 1073741824) : vc_conV s n (fun q0 => q0 = (!(s.all (possM n)))) := by
  unfold vc_conV
  exact ⟨h0, findIx_nonneg⟩
theorem spec_conV (s : (List Con)) (n : Int) (h0 : s.length ≤ 1073741824) : FnP Try.prog 50 [.lst true s.length (encL e66 s), .clo 64 [] [.ipt true [.int .i64 n]]] (fun xR => xR = .bool (!(s.all (possM n)))) :=
  (walk_conV (vcp_conV s n h0)).mono (by rintro _ ⟨_, rfl, rfl⟩; rfl)
def vc_valid (n : Int) (l : (List Con)) (Post : Bool → Prop) : Prop :=
  (((n < (1 : Int)) ∨ (((24 : Int) < n) ∨ ((2000 : Int) < ((l.length : Nat) : Int)))) → Post false) ∧ (¬ ((n < (1 : Int)) ∨ (((24 : Int) < n) ∨ ((2000 : Int) < ((l.length : Nat) : Int)))) → (l.length ≤ 1073741824) ∧ Post (decide (¬ ((!(l.all (possM n))) = true))))
set_option maxRecDepth 100000 in
set_option maxHeartbeats 4000000 in
theorem walk_valid {n : Int} {l : (List Con)} {Post : Bool → Prop} (hv : vc_valid n l Post) : FnP Try.prog 42 [.int .i64 n, .lst true l.length (encL e66 l)] (fun x => ∃ q0, x = .bool q0 ∧ Post q0) := by
 refine FnP.of_walk (T := tt) (nt := 20) ttOk ttMix ⟨⟨Try.f42, Try.func42, rfl, rfl, rfl, rfl⟩⟩ (by simp) ?_
 unfold vc_valid at hv
 change W _ _ _ ⟨20, look [(0, .int .i64 n), (1, .lst true l.length (encL e66 l))], [], 0⟩ _
 refine W.tr [(0, .int _ _), (1, .lst _ _ _)] [] ⟨rfl, rfl, trivial⟩ rfl ?_
 refine W.rL ?_
 refine cL rfl (o_box (v := .int _ _) (p := 0) rfl rfl rfl ?_)
 refine aB rfl rfl ?_
 refine eL ?_
 refine W.tr [(1, .lst _ _ _), (2, .ptr _ _)] [.box _ [.int _ _]] ⟨rfl, rfl, trivial⟩ rfl ?_
 refine W.seq' ?_
 refine W.rLm ⟨20, look [(1, .lst true l.length (encL e66 l)), (2, .ptr 0 0), (15, .bool (decide ((n < (1 : Int)) ∨ (((24 : Int) < n) ∨ ((2000 : Int) < ((l.length : Nat) : Int))))))], [.box 3 [.int .i64 n]], 0⟩ ?_ ?_
 refine cL rfl (o_ldS (v := .int _ _) tt3 rfl rfl ⟨_, rfl⟩ ?_)
 refine cL rfl (o_lss rfl rfl ?_)
 refine mB rfl rfl ?_
 by_cases c1 : n < (1 : Int)
 iterate 2 refine cLs rfl rfl rfl (decide_eq_true c1) ?_
 refine cL rfl (o_pickT (v := .bool _) rfl (decide_eq_true c1) rfl ?_)
 refine mB rfl rfl ?_
 iterate 3 refine cLs rfl rfl rfl (rfl) ?_
 refine cL rfl (o_pickT (v := .bool _) rfl rfl rfl ?_)
 refine eL ?_
 exact le_mk ⟨rfl, rfl, (congrArg AV.bool (dOrT c1)).symm, trivial⟩ rfl
 refine cLg rfl rfl (decide_eq_false c1) ?_
 refine cL rfl (o_ldS (v := .int _ _) tt3 rfl rfl ⟨_, rfl⟩ ?_)
 refine cLg rfl rfl (decide_eq_false c1) ?_
 refine cL rfl (o_gtr rfl rfl ?_)
 refine cL rfl (o_pickF (v := .bool _) rfl (decide_eq_false c1) rfl ?_)
 refine mB rfl rfl ?_
 by_cases c2 : (24 : Int) < n
 iterate 3 refine cLs rfl rfl rfl (decide_eq_true c2) ?_
 refine cL rfl (o_pickT (v := .bool _) rfl (decide_eq_true c2) rfl ?_)
 refine eL ?_
 exact le_mk ⟨rfl, rfl, (congrArg AV.bool (dOrF c1 (dOrT c2))).symm, trivial⟩ rfl
 refine cLg rfl rfl (decide_eq_false c2) ?_
 refine mL rfl rfl ?_
 refine cLg rfl rfl (decide_eq_false c2) ?_
 refine cL rfl (o_len (v := .lst _ _ _) tt28 rfl rfl ?_)
 refine cLg rfl rfl (decide_eq_false c2) ?_
 refine cL rfl (o_gtr rfl rfl ?_)
 refine cL rfl (o_pickF (v := .bool _) rfl (decide_eq_false c2) rfl ?_)
 refine eL ?_
 exact le_mk ⟨rfl, rfl, (congrArg AV.bool (dOrF c1 (dOrF c2 (rfl)))).symm, trivial⟩ rfl
 refine W.cn rfl (fun hc => ?_) (fun hc => ?_)
 have hv := hv.1 hc
 refine W.rL ?_
 refine aB rfl rfl ?_
 refine eL ?_
 refine W.tr [(4, .bool _)] [.box _ [.int _ _]] ⟨rfl, trivial⟩ rfl ?_
 refine W.ret ?_
 refine th_ret (rt ?_)
 refine rt_t (v := .bool _) rfl ?_
 refine rt_n ?_
 exact ⟨_, rs_bool _ _ _, false, rfl, hv⟩
 have hv := hv.2 hc
 refine W.skip ?_
 refine th_nrm ?_
 refine W.tr [(1, .lst _ _ _), (2, .ptr _ _)] [.box _ [.int _ _]] ⟨rfl, rfl, trivial⟩ rfl ?_
 refine W.rL ?_
 refine mL rfl rfl ?_
 refine cL rfl (o_mf (ps := []) (qs := [.ptr _ _]) rfl rfl ?_)
 obtain ⟨s1, hv⟩ := hv
 refine cL rfl (o_callP1 (k := 50) (fst := []) (caps := []) (ys := [.lst _ _ _, .clo _ _ _]) rfl rfl (spec_conV l n s1) (Wks.cons (ag_lst _ _ _ _ _) (Wks.cons (ag_clo 5 _ _ (Wks.refl _) (Wks.cons (ag_box 4 rfl (Wks.cons (ag_int _ _ _ _) (Wks.refl _))) (Wks.refl _))) (Wks.refl _))) ?_)
 refine cL rfl (o_notB rfl ?_)
 refine aB rfl rfl ?_
 refine eL ?_
 refine W.tr [(4, .bool _)] [.box _ [.int _ _]] ⟨rfl, trivial⟩ rfl ?_
 refine W.ret ?_
 refine rt ?_
 refine rt_t (v := .bool _) rfl ?_
 refine rt_n ?_
 exact ⟨_, rs_bool _ _ _, (decide (¬ ((!(l.all (possM n))) = true))), rfl, hv⟩
theorem vcp_valid (n : Int) (l : (List Con)) (h0 : l.length ≤ 1073741824) : vc_valid n l (fun q0 => q0 = (validM n l)) := by
  unfold vc_valid
  refine ⟨fun h => ?_, fun h => ⟨h0, ?_⟩⟩
  · unfold validM
    rw [decide_eq_false (by omega)]; rfl
  · unfold validM
    rw [decide_eq_true (by omega)]
    cases l.all (possM n) <;> rfl
theorem spec_valid (n : Int) (l : (List Con)) (h0 : l.length ≤ 1073741824) : FnP Try.prog 42 [.int .i64 n, .lst true l.length (encL e66 l)] (fun xR => xR = .bool (validM n l)) :=
  (walk_valid (vcp_valid n l h0)).mono (by rintro _ ⟨_, rfl, rfl⟩; rfl)
def vc_free  (Post : (Vector Int 576) → Prop) : Prop :=
  ∃ (I1 : Int → (Vector Int 576) → Prop) (μ1 : Int → (Vector Int 576) → Nat), I1 (0 : Int) (Vector.replicate 576 0) ∧ ∀ (v4 : Int) (m0 : (Vector Int 576)), I1 v4 m0 → ((v4 < (24 : Int)) → ∃ (I2 : Int → (Vector Int 576) → Prop) (μ2 : Int → (Vector Int 576) → Nat), I2 (0 : Int) m0 ∧ ∀ (v7 : Int) (m0_1 : (Vector Int 576)), I2 v7 m0_1 → ((v7 < (24 : Int)) → ∃ J3 : (Vector Int 576) → Prop, (∀ (b0 : (Vector Int 576)), J3 b0 → (inI (v7 + (1 : Int))) ∧ (I2 (v7 + (1 : Int)) b0 ∧ μ2 (v7 + (1 : Int)) b0 < μ2 v7 m0_1)) ∧ (((¬ v4 = v7) → (0 ≤ v4 ∧ v4 < ((24 : Nat) : Int)) ∧ (0 ≤ v7 ∧ v7 < ((24 : Nat) : Int)) ∧ (v4.toNat * 24 + v7.toNat < 576) ∧ J3 (vset m0_1 (v4.toNat * 24 + v7.toNat) (1152921504606846976 : Int))) ∧ (¬ (¬ v4 = v7) → J3 m0_1))) ∧ (¬ (v7 < (24 : Int)) → (inI (v4 + (1 : Int))) ∧ (I1 (v4 + (1 : Int)) m0_1 ∧ μ1 (v4 + (1 : Int)) m0_1 < μ1 v4 m0))) ∧ (¬ (v4 < (24 : Int)) → Post m0)
set_option maxRecDepth 100000 in
set_option maxHeartbeats 4000000 in
theorem walk_free  {Post : (Vector Int 576) → Prop} (hv : vc_free Post) : FnH Try.prog 43 [] [] (fun x H => ∃ l q0, H = .box 108 (encL eInt q0.toList) :: l ∧ x = .ptr 0 0 ∧ Post q0) := by
 refine FnH.of_walk (T := tt) (nt := 19) ttOk ttMix ⟨⟨Try.f43, Try.func43, rfl, rfl, rfl, rfl⟩⟩ (by simp) (by simp) 0 (by simp) ?_
 unfold vc_free at hv
 change W _ _ _ ⟨19, look [], [], 0⟩ _
 refine W.tr [] [] trivial rfl ?_
 refine W.rL ?_
 refine cL rfl (o_assign (v := .nilP) rfl ?_)
 refine eL ?_
 refine W.tr [] [] trivial rfl ?_
 refine W.rL ?_
 refine cL rfl (o_alloc (p := 0) tt108 rfl (ints_zero 576) ?_)
 refine eL ?_
 refine W.tr [(1, .ptr _ _)] [.box _ _] ⟨rfl, trivial⟩ rfl ?_
 refine W.seq' ?_
 refine W.rL ?_
 refine mI rfl rfl ?_
 refine eL ?_
 refine W.tr [(1, .ptr _ _), (4, .int _ _)] [.box _ _] ⟨rfl, rfl, trivial⟩ rfl ?_
 refine W.block ?_
 obtain ⟨I1, μ1, hp, hv⟩ := hv
 refine W.loop2 (fun v4 m0 => ⟨19, look [(1, .ptr 0 0), (4, .int .i64 v4)], [.box 108 (encL eInt m0.toList)], 0⟩) I1 μ1 (0 : Int) (Vector.replicate 576 0) (St.to_mk (φ := [some 0]) rfl (rfl) ⟨Ren.ptr rfl, Ren.int _ _, trivial⟩ ⟨.inr ⟨_, rfl, rfl, Rens.enc encInt true _⟩, trivial⟩) hp ?_
 clear hp
 intro v4 m0 hI
 replace hv := hv v4 m0 hI
 clear hI
 refine W.rL ?_
 refine cL rfl (o_lss rfl rfl ?_)
 refine eL ?_
 refine W.tr [(1, .ptr _ _), (4, .int _ _), (5, .bool _)] [.box _ _] ⟨rfl, rfl, rfl, trivial⟩ rfl ?_
 refine W.seq' ?_
 refine W.cn rfl (fun hc => ?_) (fun hc => ?_)
 have hv := hv.1 hc
 refine W.skip ?_
 refine th_nrm ?_
 refine W.tr [(1, .ptr _ _), (4, .int _ _)] [.box _ _] ⟨rfl, rfl, trivial⟩ rfl ?_
 refine W.seq' ?_
 refine W.block ?_
 refine W.rL ?_
 refine mI rfl rfl ?_
 refine aI rfl rfl ?_
 refine eL ?_
 refine W.tr [(1, .ptr _ _), (2, .int _ _), (4, .int _ _)] [.box _ _] ⟨rfl, rfl, rfl, trivial⟩ rfl ?_
 refine W.rL ?_
 refine mI rfl rfl ?_
 refine eL ?_
 refine W.tr [(1, .ptr _ _), (2, .int _ _), (4, .int _ _), (7, .int _ _)] [.box _ _] ⟨rfl, rfl, rfl, rfl, trivial⟩ rfl ?_
 refine W.block ?_
 obtain ⟨I2, μ2, hp, hv⟩ := hv
 refine W.loop2 (fun v7 m0_1 => ⟨19, look [(1, .ptr 0 0), (2, .int .i64 v4), (4, .int .i64 v4), (7, .int .i64 v7)], [.box 108 (encL eInt m0_1.toList)], 0⟩) I2 μ2 (0 : Int) m0 (St.to_mk (φ := [some 0]) rfl (rfl) ⟨Ren.ptr rfl, Ren.int _ _, Ren.int _ _, Ren.int _ _, trivial⟩ ⟨.inr ⟨_, rfl, rfl, Rens.enc encInt true _⟩, trivial⟩) hp ?_
 clear hp
 intro v7 m0_1 hI
 replace hv := hv v7 m0_1 hI
 clear hI
 refine W.rL ?_
 refine cL rfl (o_lss rfl rfl ?_)
 refine eL ?_
 refine W.tr [(1, .ptr _ _), (2, .int _ _), (4, .int _ _), (7, .int _ _), (8, .bool _)] [.box _ _] ⟨rfl, rfl, rfl, rfl, rfl, trivial⟩ rfl ?_
 refine W.seq' ?_
 refine W.cn rfl (fun hc => ?_) (fun hc => ?_)
 have hv := hv.1 hc
 refine W.skip ?_
 refine th_nrm ?_
 refine W.tr [(1, .ptr _ _), (2, .int _ _), (4, .int _ _), (7, .int _ _)] [.box _ _] ⟨rfl, rfl, rfl, rfl, trivial⟩ rfl ?_
 obtain ⟨J3, hj, hv⟩ := hv
 refine W.mid1 (fun b0 => ⟨19, look [(1, .ptr 0 0), (2, .int .i64 v4), (4, .int .i64 v4), (7, .int .i64 v7)], [.box 108 (encL eInt b0.toList)], 0⟩) J3 ?_ ?_
 intro b0
 intro hv
 replace hv := hj b0 hv
 refine W.rL1 ?_
 obtain ⟨s254, hv⟩ := hv
 refine cL rfl (o_add rfl rfl s254 ?_)
 refine mI rfl rfl ?_
 refine eL ?_
 exact th_nrm (⟨(), (v7 + (1 : Int)), b0, hv, St.to_mk (φ := [some 0]) rfl (rfl) ⟨Ren.ptr rfl, Ren.int _ _, Ren.int _ _, Ren.int _ _, trivial⟩ ⟨.inr ⟨_, rfl, rfl, Rens.enc encInt true _⟩, trivial⟩⟩)
 clear hj
 refine W.block ?_
 refine W.rL ?_
 refine mI rfl rfl ?_
 refine aI rfl rfl ?_
 refine eL ?_
 refine W.tr [(1, .ptr _ _), (2, .int _ _), (3, .int _ _), (4, .int _ _), (7, .int _ _)] [.box _ _] ⟨rfl, rfl, rfl, rfl, rfl, trivial⟩ rfl ?_
 refine W.rL ?_
 iterate 2 refine mI rfl rfl ?_
 refine cL rfl (o_neI rfl rfl rfl ?_)
 refine eL ?_
 refine W.tr [(1, .ptr _ _), (2, .int _ _), (3, .int _ _), (4, .int _ _), (7, .int _ _), (12, .bool _)] [.box _ _] ⟨rfl, rfl, rfl, rfl, rfl, rfl, trivial⟩ rfl ?_
 refine W.cn rfl (fun hc => ?_) (fun hc => ?_)
 have hv := hv.1 hc
 refine W.rL1 ?_
 iterate 2 refine mI rfl rfl ?_
 obtain ⟨s255, hv⟩ := hv
 refine cL rfl (o_iaA tt108 tt104 rfl rfl s255 (Nat.zero_add _) ?_)
 obtain ⟨s256, hv⟩ := hv
 refine cL rfl (o_iaA tt104 tt3 rfl rfl s256 (by rw [Nat.mul_one]) ?_)
 obtain ⟨s257, hv⟩ := hv
 refine cLn (o_stB (v := .int _ _) tt3 rfl rfl rfl rfl rfl (by rw [ints_len]; exact s257) (ints_set _ _ _) ?_)
 refine eL ?_
 exact bl_nrm (th_nrm (⟨(), (vset m0_1 (v4.toNat * 24 + v7.toNat) (1152921504606846976 : Int)), hv, St.to_mk (φ := [some 0]) rfl (rfl) ⟨Ren.ptr rfl, Ren.int _ _, Ren.int _ _, Ren.int _ _, trivial⟩ ⟨.inr ⟨_, rfl, rfl, Rens.enc encInt true _⟩, trivial⟩⟩))
 have hv := hv.2 hc
 refine W.skip ?_
 exact bl_nrm (th_nrm (⟨(), m0_1, hv, St.to_mk (φ := [some 0]) rfl (rfl) ⟨Ren.ptr rfl, Ren.int _ _, Ren.int _ _, Ren.int _ _, trivial⟩ ⟨.inr ⟨_, rfl, rfl, Rens.enc encInt true _⟩, trivial⟩⟩))
 have hv := hv.2 hc
 refine W.exit ?_
 refine th_exit (th_exit (bl_hit (bl_nrm (th_nrm ?_))))
 refine W.tr [(1, .ptr _ _), (4, .int _ _)] [.box _ _] ⟨rfl, rfl, trivial⟩ rfl ?_
 refine W.rL1 ?_
 obtain ⟨s258, hv⟩ := hv
 refine cL rfl (o_add rfl rfl s258 ?_)
 refine mI rfl rfl ?_
 refine eL ?_
 exact th_nrm (⟨(), (v4 + (1 : Int)), m0_1, hv, St.to_mk (φ := [some 0]) rfl (rfl) ⟨Ren.ptr rfl, Ren.int _ _, trivial⟩ ⟨.inr ⟨_, rfl, rfl, Rens.enc encInt true _⟩, trivial⟩⟩)
 have hv := hv.2 hc
 refine W.exit ?_
 refine th_exit (th_exit (bl_hit (th_nrm ?_)))
 refine W.tr [(1, .ptr _ _)] [.box _ _] ⟨rfl, trivial⟩ rfl ?_
 refine W.rL ?_
 refine cL rfl (o_assign (v := .ptr _ _) rfl ?_)
 refine eL ?_
 refine W.tr [(0, .ptr _ _)] [.box _ _] ⟨rfl, trivial⟩ rfl ?_
 refine W.to (st' := ⟨19, look [(0, .ptr 0 0)], [.box 108 (encL eInt m0.toList)], 0⟩) (St.to_mk (φ := [some 0]) rfl rfl ⟨Ren.ptr rfl, trivial⟩ ⟨.inr ⟨_, rfl, rfl, Rens.enc encInt true _⟩, trivial⟩) ?_
 refine W.ret ?_
 refine rt ?_
 refine rt_t (v := .ptr _ _) rfl ?_
 refine rt_n ?_
 exact ⟨_, m0, rfl, rfl, hv⟩
theorem vcp_free   : vc_free (fun q0 => q0 = freeM) := by
  unfold vc_free
  have hNB : NB = 1152921504606846976 := rfl
  refine ⟨fun v m => ∃ i : Nat, v = i ∧ i ≤ 24 ∧ ∀ k, k < 576 → vat m k = if k / 24 < i ∧ ¬ k / 24 = k % 24 then NB else 0, fun v _ => 24 - v.toNat, ⟨0, rfl, by omega, fun k hk => by rw [vat_rep hk]; simp⟩, ?_⟩
  rintro _ m0 ⟨i, rfl, hi, hm⟩
  refine ⟨fun h1 => ⟨fun v m => ∃ j : Nat, v = j ∧ j ≤ 24 ∧ ∀ k, k < 576 → vat m k = if (k / 24 < i ∨ k / 24 = i ∧ k % 24 < j) ∧ ¬ k / 24 = k % 24 then NB else 0, fun v _ => 24 - v.toNat, ⟨0, rfl, by omega, fun k hk => ?_⟩, ?_⟩, fun h1 => ?_⟩
  · rw [hm k hk]; split <;> split <;> omega
  · rintro _ m1 ⟨j, rfl, hj, hk⟩
    refine ⟨fun h2 => ⟨fun b => ∀ k, k < 576 → vat b k = if (k / 24 < i ∨ k / 24 = i ∧ k % 24 < j + 1) ∧ ¬ k / 24 = k % 24 then NB else 0, fun b hb => ⟨by unfold inI; omega, ⟨j + 1, by omega, by omega, hb⟩, by dsimp only; omega⟩, fun h3 => ⟨by omega, by omega, by omega, ?_⟩, fun h3 => ?_⟩, fun h2 => ⟨by unfold inI; omega, ⟨i + 1, by omega, by omega, ?_⟩, by dsimp only; omega⟩⟩
    · intro k hk1
      rw [vat_vset (by omega), hk k hk1]
      simp only [Int.toNat_natCast]
      split <;> split <;> (try split) <;> omega
    · intro k hk1
      rw [hk k hk1]; split <;> split <;> omega
    · intro k hk1
      rw [hk k hk1]; split <;> split <;> omega
  · refine vec_ext fun k hk => ?_
    rw [hm k hk]
    unfold freeM
    rw [vat_ofFn hk]
    dsimp only
    split <;> split <;> omega
theorem spec_free   : FnH Try.prog 43 [] [] (fun xR H => ∃ l, H = .box 108 (encL eInt (freeM).toList) :: l ∧ xR = .ptr 0 0) :=
  (walk_free (vcp_free)).mono (by rintro _ _ ⟨l, _, h1, h2, rfl⟩; exact ⟨l, h1, h2⟩)
def vc_plus (a : Int) (b : Int) (Post : Int → Prop) : Prop :=
  (((a = (1152921504606846976 : Int)) ∨ (b = (1152921504606846976 : Int))) → Post (1152921504606846976 : Int)) ∧ (¬ ((a = (1152921504606846976 : Int)) ∨ (b = (1152921504606846976 : Int))) → (inI (a + b)) ∧ Post (a + b))
set_option maxRecDepth 100000 in
set_option maxHeartbeats 4000000 in
theorem walk_plus {a : Int} {b : Int} {Post : Int → Prop} (hv : vc_plus a b Post) : FnP Try.prog 66 [.int .i64 a, .int .i64 b] (fun x => ∃ q0, x = .int .i64 q0 ∧ Post q0) := by
 refine FnP.of_walk (T := tt) (nt := 14) ttOk ttMix ⟨⟨Try.f66, Try.func66, rfl, rfl, rfl, rfl⟩⟩ (by simp) ?_
 unfold vc_plus at hv
 change W _ _ _ ⟨14, look [(0, .int .i64 a), (1, .int .i64 b)], [], 0⟩ _
 refine W.tr [(0, .int _ _), (1, .int _ _)] [] ⟨rfl, rfl, trivial⟩ rfl ?_
 refine W.rL ?_
 refine aI rfl rfl ?_
 refine eL ?_
 refine W.tr [(0, .int _ _), (1, .int _ _)] [] ⟨rfl, rfl, trivial⟩ rfl ?_
 refine W.seq' ?_
 refine W.rLm ⟨14, look [(0, .int .i64 a), (1, .int .i64 b), (10, .bool (decide ((a = (1152921504606846976 : Int)) ∨ (b = (1152921504606846976 : Int)))))], [], 0⟩ ?_ ?_
 refine mI rfl rfl ?_
 refine cL rfl (o_eqI rfl rfl rfl ?_)
 refine mB rfl rfl ?_
 by_cases c1 : a = (1152921504606846976 : Int)
 iterate 2 refine cLs rfl rfl rfl (decide_eq_true c1) ?_
 refine cL rfl (o_pickT (v := .bool _) rfl (decide_eq_true c1) rfl ?_)
 refine eL ?_
 exact le_mk ⟨rfl, rfl, (congrArg AV.bool (dOrT c1)).symm, trivial⟩ rfl
 refine cLg rfl rfl (decide_eq_false c1) ?_
 refine mI rfl rfl ?_
 refine cLg rfl rfl (decide_eq_false c1) ?_
 refine cL rfl (o_eqI rfl rfl rfl ?_)
 refine cL rfl (o_pickF (v := .bool _) rfl (decide_eq_false c1) rfl ?_)
 refine eL ?_
 exact le_mk ⟨rfl, rfl, (congrArg AV.bool (dOrF c1 (rfl))).symm, trivial⟩ rfl
 refine W.cn rfl (fun hc => ?_) (fun hc => ?_)
 have hv := hv.1 hc
 refine W.rL ?_
 refine aI rfl rfl ?_
 refine eL ?_
 refine W.tr [(4, .int _ _)] [] ⟨rfl, trivial⟩ rfl ?_
 refine W.ret ?_
 refine th_ret (rt ?_)
 refine rt_t (v := .int _ _) rfl ?_
 refine rt_n ?_
 exact ⟨_, rs_int _ _ _ _, (1152921504606846976 : Int), rfl, hv⟩
 have hv := hv.2 hc
 refine W.skip ?_
 refine th_nrm ?_
 refine W.tr [(0, .int _ _), (1, .int _ _)] [] ⟨rfl, rfl, trivial⟩ rfl ?_
 refine W.rL ?_
 iterate 2 refine mI rfl rfl ?_
 obtain ⟨s1, hv⟩ := hv
 refine cL rfl (o_add rfl rfl s1 ?_)
 refine aI rfl rfl ?_
 refine eL ?_
 refine W.tr [(4, .int _ _)] [] ⟨rfl, trivial⟩ rfl ?_
 refine W.ret ?_
 refine rt ?_
 refine rt_t (v := .int _ _) rfl ?_
 refine rt_n ?_
 exact ⟨_, rs_int _ _ _ _, (a + b), rfl, hv⟩
theorem vcp_plus (a : Int) (b : Int) (h0 : ¬ a = NB → ¬ b = NB → inI (a + b)) : vc_plus a b (fun q0 => q0 = (plusM a b)) := by
  unfold vc_plus plusM
  refine ⟨fun h => by simp only [h, if_true, NB], fun h => ?_⟩
  have ha : ¬ a = NB := fun e => h (.inl e)
  have hb : ¬ b = NB := fun e => h (.inr e)
  exact ⟨h0 ha hb, by simp only [ha, hb, or_self, if_false]⟩
theorem spec_plus (a : Int) (b : Int) (h0 : ¬ a = NB → ¬ b = NB → inI (a + b)) : FnP Try.prog 66 [.int .i64 a, .int .i64 b] (fun xR => xR = .int .i64 (plusM a b)) :=
  (walk_plus (vcp_plus a b h0)).mono (by rintro _ ⟨_, rfl, rfl⟩; rfl)
end Go.Lat
