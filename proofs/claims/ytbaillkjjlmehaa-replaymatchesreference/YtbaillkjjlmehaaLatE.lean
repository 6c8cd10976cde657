/- The law latecomerlaw24.ReplayMatchesReference returns true for every input, and each argument reads afterwards as it read before. Part 5 of 15. No condition. -/
import Derived.Test.YtbaillkjjlmehaaLatD
import Derived.Conc.LoneCalls
set_option linter.unusedVariables false
set_option linter.unusedSimpArgs false
set_option linter.unnecessarySimpa false
namespace Go.Lat
open Go.RowKit
theorem Ren.gh {φ : List (Option Nat)} (k : Nat) : Ren φ (.gh k) (.gh k) := fun _ _ _ _ _ => by simp only [VR]
theorem Ren.yl {φ : List (Option Nat)} (k : Nat) : Ren φ (.yl k) (.yl k) := fun _ _ _ _ hv => by simpa only [VR] using hv
section
variable {C : ItC} {P : Program} {T : TT} {st : St} {Q : Ex -> St -> Prop} {c c' : Code}
theorem WJ.mid1 {α0 : Type} (S : α0 -> St) (p : α0 -> Prop) (h' : ∀ (x0 : α0), p x0 -> WJ C P T c' (S x0) Q) (h : WJ C P T c st (thenA (fun s => ∃ (_ : Unit) (x0 : α0), p x0 /\ s.to (S x0) /\ (S x0).tm GH = s.tm GH) Q)) : WJ C P T (.seq c c') st Q :=
  WJ.seq _ h fun _ ⟨_, x0, hx, hs, hg⟩ => WJ.to hs hg (h' x0 hx)
theorem WJ.loop1 {α0 : Type} (S : α0 -> St) (p : α0 -> Prop) (μ : α0 -> Nat) (z0 : α0) (hs : st.to (S z0)) (hg : (S z0).tm GH = st.tm GH) (hp : p z0)
    (h : ∀ (x0 : α0), p x0 -> WJ C P T c (S x0) (thenA (fun s => ∃ (_ : Unit) (y0 : α0), (p y0 /\ μ y0 < μ x0) /\ s.to (S y0) /\ (S y0).tm GH = s.tm GH) Q)) : WJ C P T (.loop c) st Q :=
  WJ.loop (fun k s => ∃ (x0 : α0), p x0 /\ μ x0 = k /\ s.to (S x0) /\ (S x0).tm GH = s.tm GH) (k := μ z0) ⟨z0, hp, rfl, hs, hg⟩ fun k s ⟨x0, hx, hk, hs, hg⟩ => WJ.to hs hg ((h x0 hx).mono fun e s' h => by
    cases e <;> simp only [thenA] at h ⊢ <;> try exact h
    obtain ⟨_, y0, ⟨h1, h2⟩, h3, h4⟩ := h
    exact ⟨μ y0, by rw [<- hk]; exact h2, y0, h1, rfl, h3, h4⟩)
theorem WJ.mid2 {α0 α1 : Type} (S : α0 -> α1 -> St) (p : α0 -> α1 -> Prop) (h' : ∀ (x0 : α0) (x1 : α1), p x0 x1 -> WJ C P T c' (S x0 x1) Q) (h : WJ C P T c st (thenA (fun s => ∃ (_ : Unit) (x0 : α0) (x1 : α1), p x0 x1 /\ s.to (S x0 x1) /\ (S x0 x1).tm GH = s.tm GH) Q)) : WJ C P T (.seq c c') st Q :=
  WJ.seq _ h fun _ ⟨_, x0, x1, hx, hs, hg⟩ => WJ.to hs hg (h' x0 x1 hx)
theorem WJ.loop2 {α0 α1 : Type} (S : α0 -> α1 -> St) (p : α0 -> α1 -> Prop) (μ : α0 -> α1 -> Nat) (z0 : α0) (z1 : α1) (hs : st.to (S z0 z1)) (hg : (S z0 z1).tm GH = st.tm GH) (hp : p z0 z1)
    (h : ∀ (x0 : α0) (x1 : α1), p x0 x1 -> WJ C P T c (S x0 x1) (thenA (fun s => ∃ (_ : Unit) (y0 : α0) (y1 : α1), (p y0 y1 /\ μ y0 y1 < μ x0 x1) /\ s.to (S y0 y1) /\ (S y0 y1).tm GH = s.tm GH) Q)) : WJ C P T (.loop c) st Q :=
  WJ.loop (fun k s => ∃ (x0 : α0) (x1 : α1), p x0 x1 /\ μ x0 x1 = k /\ s.to (S x0 x1) /\ (S x0 x1).tm GH = s.tm GH) (k := μ z0 z1) ⟨z0, z1, hp, rfl, hs, hg⟩ fun k s ⟨x0, x1, hx, hk, hs, hg⟩ => WJ.to hs hg ((h x0 x1 hx).mono fun e s' h => by
    cases e <;> simp only [thenA] at h ⊢ <;> try exact h
    obtain ⟨_, y0, y1, ⟨h1, h2⟩, h3, h4⟩ := h
    exact ⟨μ y0 y1, by rw [<- hk]; exact h2, y0, y1, h1, rfl, h3, h4⟩)
theorem WJ.mid3 {α0 α1 α2 : Type} (S : α0 -> α1 -> α2 -> St) (p : α0 -> α1 -> α2 -> Prop) (h' : ∀ (x0 : α0) (x1 : α1) (x2 : α2), p x0 x1 x2 -> WJ C P T c' (S x0 x1 x2) Q) (h : WJ C P T c st (thenA (fun s => ∃ (_ : Unit) (x0 : α0) (x1 : α1) (x2 : α2), p x0 x1 x2 /\ s.to (S x0 x1 x2) /\ (S x0 x1 x2).tm GH = s.tm GH) Q)) : WJ C P T (.seq c c') st Q :=
  WJ.seq _ h fun _ ⟨_, x0, x1, x2, hx, hs, hg⟩ => WJ.to hs hg (h' x0 x1 x2 hx)
theorem WJ.loop3 {α0 α1 α2 : Type} (S : α0 -> α1 -> α2 -> St) (p : α0 -> α1 -> α2 -> Prop) (μ : α0 -> α1 -> α2 -> Nat) (z0 : α0) (z1 : α1) (z2 : α2) (hs : st.to (S z0 z1 z2)) (hg : (S z0 z1 z2).tm GH = st.tm GH) (hp : p z0 z1 z2)
    (h : ∀ (x0 : α0) (x1 : α1) (x2 : α2), p x0 x1 x2 -> WJ C P T c (S x0 x1 x2) (thenA (fun s => ∃ (_ : Unit) (y0 : α0) (y1 : α1) (y2 : α2), (p y0 y1 y2 /\ μ y0 y1 y2 < μ x0 x1 x2) /\ s.to (S y0 y1 y2) /\ (S y0 y1 y2).tm GH = s.tm GH) Q)) : WJ C P T (.loop c) st Q :=
  WJ.loop (fun k s => ∃ (x0 : α0) (x1 : α1) (x2 : α2), p x0 x1 x2 /\ μ x0 x1 x2 = k /\ s.to (S x0 x1 x2) /\ (S x0 x1 x2).tm GH = s.tm GH) (k := μ z0 z1 z2) ⟨z0, z1, z2, hp, rfl, hs, hg⟩ fun k s ⟨x0, x1, x2, hx, hk, hs, hg⟩ => WJ.to hs hg ((h x0 x1 x2 hx).mono fun e s' h => by
    cases e <;> simp only [thenA] at h ⊢ <;> try exact h
    obtain ⟨_, y0, y1, y2, ⟨h1, h2⟩, h3, h4⟩ := h
    exact ⟨μ y0 y1 y2, by rw [<- hk]; exact h2, y0, y1, y2, h1, rfl, h3, h4⟩)
theorem WJ.mid4 {α0 α1 α2 α3 : Type} (S : α0 -> α1 -> α2 -> α3 -> St) (p : α0 -> α1 -> α2 -> α3 -> Prop) (h' : ∀ (x0 : α0) (x1 : α1) (x2 : α2) (x3 : α3), p x0 x1 x2 x3 -> WJ C P T c' (S x0 x1 x2 x3) Q) (h : WJ C P T c st (thenA (fun s => ∃ (_ : Unit) (x0 : α0) (x1 : α1) (x2 : α2) (x3 : α3), p x0 x1 x2 x3 /\ s.to (S x0 x1 x2 x3) /\ (S x0 x1 x2 x3).tm GH = s.tm GH) Q)) : WJ C P T (.seq c c') st Q :=
  WJ.seq _ h fun _ ⟨_, x0, x1, x2, x3, hx, hs, hg⟩ => WJ.to hs hg (h' x0 x1 x2 x3 hx)
theorem WJ.loop4 {α0 α1 α2 α3 : Type} (S : α0 -> α1 -> α2 -> α3 -> St) (p : α0 -> α1 -> α2 -> α3 -> Prop) (μ : α0 -> α1 -> α2 -> α3 -> Nat) (z0 : α0) (z1 : α1) (z2 : α2) (z3 : α3) (hs : st.to (S z0 z1 z2 z3)) (hg : (S z0 z1 z2 z3).tm GH = st.tm GH) (hp : p z0 z1 z2 z3)
    (h : ∀ (x0 : α0) (x1 : α1) (x2 : α2) (x3 : α3), p x0 x1 x2 x3 -> WJ C P T c (S x0 x1 x2 x3) (thenA (fun s => ∃ (_ : Unit) (y0 : α0) (y1 : α1) (y2 : α2) (y3 : α3), (p y0 y1 y2 y3 /\ μ y0 y1 y2 y3 < μ x0 x1 x2 x3) /\ s.to (S y0 y1 y2 y3) /\ (S y0 y1 y2 y3).tm GH = s.tm GH) Q)) : WJ C P T (.loop c) st Q :=
  WJ.loop (fun k s => ∃ (x0 : α0) (x1 : α1) (x2 : α2) (x3 : α3), p x0 x1 x2 x3 /\ μ x0 x1 x2 x3 = k /\ s.to (S x0 x1 x2 x3) /\ (S x0 x1 x2 x3).tm GH = s.tm GH) (k := μ z0 z1 z2 z3) ⟨z0, z1, z2, z3, hp, rfl, hs, hg⟩ fun k s ⟨x0, x1, x2, x3, hx, hk, hs, hg⟩ => WJ.to hs hg ((h x0 x1 x2 x3 hx).mono fun e s' h => by
    cases e <;> simp only [thenA] at h ⊢ <;> try exact h
    obtain ⟨_, y0, y1, y2, y3, ⟨h1, h2⟩, h3, h4⟩ := h
    exact ⟨μ y0 y1 y2 y3, by rw [<- hk]; exact h2, y0, y1, y2, y3, h1, rfl, h3, h4⟩)
theorem WJ.rYn {id : Nat} {ol : List Oper} (y : Nat) {j d : Nat} {f x : Operand} {tys : Array TypeId} {ty : TypeId} {pos : String} {af : Array Edge} {gd : Option (Nat × Bool)}
    (hl : ol[y]? = some ⟨some d, .call ⟨.value f, #[x], tys⟩, ty, pos, af, gd⟩) (h1 : seqL P T ol [] 0 (ol.take y) st fun s1 => YSt C P T ol (ol.drop (y + 1)) j d f x gd (st.tm GH) s1 fun s2 => WJ C P T c s2 Q) : WJ C P T (.seq (.region id ol.toArray false) c) st Q :=
  WJ.rY (ol.take y) (ol.drop (y + 1)) (by
    obtain ⟨h, e⟩ := List.getElem?_eq_some_iff.1 hl
    rw [<- e, List.getElem_cons_drop, List.take_append_drop]) h1
end
end Go.Lat
namespace Go.Lat
open Go.RowKit

def stepM (P : Program) (T : TT) (ops : Array Oper) (p i : Nat) (st : St) (K : St -> Prop) : Prop :=
  if i = p then match ops[i]? with
    | none => K st
    | some o => stepH P T ops.toList o st K
  else stepI P T ops i st K
def seqM (P : Program) (T : TT) (ops : Array Oper) (p : Nat) : List Nat -> St -> (St -> Prop) -> Prop
  | [], st, K => K st
  | i :: l, st, K => stepM P T ops p i st fun s => seqM P T ops p l s K
def anyM (P : Program) (T : TT) (ops : Array Oper) (p : Nat) (K : St -> Prop) : Nat -> Array Bool -> St -> Prop
  | 0, listed, st => Region.ready .any ops listed = [] /\ K st
  | n + 1, listed, st => Wf st -> (Region.ready .any ops listed = [] -> K st) /\ ∀ i ∈ Region.ready .any ops listed, stepM P T ops p i st fun s => anyM P T ops p K n (listed.setIfInBounds i true) s

section
variable {X : Nat -> Prop} {D : List Deferred × Rho} {w0 : World} {mA : Mem} {r : Rho} {m : MM} {st : St} {a : Act} {w : World} {P : Program} {T : TT} {ops : Array Oper} {K K' : St -> Prop} {p : Nat}

theorem stepH_sound (hT : TsOk P T) (hR : R X D w0 mA r m st a w) {o : Oper} (h : stepH P T ops.toList o st K) {ro : Option Nat} {n : Nat} {next : Act -> World -> Prop} {Q : Exit -> Act -> World -> Prop}
    (hnext : ∀ s r' m' a' w', K s -> R X D w0 mA r' m' s a' w' -> next a' w') :
    if Region.wanted o (yielded ops a.tmps) then o.wpIn (FW ro) n P a w next Q else (∀ f, o.about P w a.eval = some f -> (FW ro).fn f) /\ next (a.put o.dst undef) w := by
  unfold stepH at h
  split at h
  . rename_i d f args tys ty pos af
    rw [if_pos (by rfl)]
    rcases h with h | h | h
    . exact opC_sound (o := ⟨d, .call ⟨.value f, args, tys⟩, ty, pos, af, none⟩) hT hR (K := fun v h => K (St.put ⟨st.nt, st.tm, h, st.ho⟩ d v)) h fun x h' r' m' u w' hK hR' hv => hnext _ _ _ _ w' hK (hR'.put d hv)
    . exact callH_sound (o := ⟨d, .call ⟨.value f, args, tys⟩, ty, pos, af, none⟩) hR rfl (K := fun v h => K (St.put ⟨st.nt, st.tm, h, st.ho⟩ d v)) h fun x h' r' m' u w' hK hR' hv => hnext _ _ _ _ w' hK (hR'.put d hv)
    . exact callG_sound (o := ⟨d, .call ⟨.value f, args, tys⟩, ty, pos, af, none⟩) hR rfl (K := fun v h => K (St.put ⟨st.nt, st.tm, h, st.ho⟩ d v)) h fun x h' r' m' u w' hK hR' hv => hnext _ _ _ _ w' hK (hR'.put d hv)
  . exact stepG_sound hT hR h hnext

theorem callH_mono {h : List AObj} {f : AV} {args : List AV} {A B : AV -> List AObj -> Prop} (hc : callH P h f args A) (hab : ∀ v h', A v h' -> B v h') : callH P h f args B := by
  unfold callH at hc ⊢
  split at hc <;> try exact hc.elim
  rcases hc with ⟨Post, hfn, hpost⟩ | ⟨id, ob, x0, y0, ys, Post, hae, hob, hfl, hx0, hfn, hpost⟩ | ⟨nb, Post, hfn, hpost⟩ | ⟨Post, hfn, hpost⟩
  . exact .inl ⟨Post, hfn, fun o ho => hab _ _ (hpost o ho)⟩
  . exact .inr (.inl ⟨id, ob, x0, y0, ys, Post, hae, hob, hfl, hx0, hfn, fun x o ho => hab _ _ (hpost x o ho)⟩)
  . exact .inr (.inr (.inl ⟨nb, Post, hfn, fun n o ho => hab _ _ (hpost n o ho)⟩))
  . exact .inr (.inr (.inr ⟨Post, hfn, fun o ho => hab _ _ (hpost o ho)⟩))
theorem stepH_mono {o : Oper} (h : stepH P T ops.toList o st K) (hk : ∀ s, K s -> K' s) : stepH P T ops.toList o st K' := by
  unfold stepH at h ⊢
  split at h
  . rename_i d f args tys ty pos af
    rcases h with h | h | h
    . exact .inl (stepG_mono' (T := T) (ops := ops) (o := ⟨d, .call ⟨.value f, args, tys⟩, ty, pos, af, none⟩) h hk)
    . exact .inr (.inl (callH_mono h fun v h' hv => hk _ hv))
    . exact .inr (.inr (callG_mono h fun v h' hv => hk _ hv))
  . exact stepG_mono' h hk
theorem stepM_mono {i : Nat} (h : stepM P T ops p i st K) (hk : ∀ s, K s -> K' s) : stepM P T ops p i st K' := by
  unfold stepM at h ⊢
  split
  . rename_i e
    rw [if_pos e] at h
    split at h
    . exact hk _ h
    . exact stepH_mono h hk
  . rename_i e
    rw [if_neg e] at h
    unfold stepI at h ⊢
    split at h
    . exact hk _ h
    . exact stepG_mono' h hk

theorem anyM_sound (hT : TsOk P T) {ro : Option Nat} {n : Nat} {Q : Exit -> Act -> World -> Prop} (hQ : ∀ s r' m' a' w', K s -> R X D w0 mA r' m' s a' w' -> Q .normal a' w') :
    ∀ (fuel : Nat) (listed : Array Bool) {r : Rho} {m : MM} {st : St} {a : Act} {w : World}, R X D w0 mA r m st a w -> anyM P T ops p K fuel listed st -> wpAnyIn (FW ro) n P .any ops Q fuel listed a w
  | 0, listed, _, _, _, _, _, hR, h => ⟨h.1, hQ _ _ _ _ _ h.2 hR⟩
  | fuel + 1, listed, _, _, _, _, _, hR, h => by
    obtain ⟨h1, h2⟩ := h hR.wf
    refine ⟨fun hn => hQ _ _ _ _ _ (h1 hn) hR, fun i hi => ?_⟩
    have h3 := h2 i hi
    unfold stepM stepI at h3
    unfold wpOpIn
    split
    . rename_i ho
      rw [ho] at h3
      simp only [ite_self] at h3
      exact anyM_sound hT hQ fuel _ hR h3
    . rename_i o ho
      rw [ho] at h3
      simp only at h3
      split at h3
      . exact stepH_sound hT hR h3 fun s r' m' a' w' hs hR' => anyM_sound hT hQ fuel _ hR' hs
      . exact stepG_sound hT hR h3 fun s r' m' a' w' hs hR' => anyM_sound hT hQ fuel _ hR' hs

theorem bubbleM {oi : Oper} {i : Nat} (ho : ops[i]? = some oi) (hip : i ≠ p) {st0 : St} (hw : Wf st0) {rest : List Nat} : ∀ (pre : List Nat) (st : St), Inv ops oi st0 st -> p ∉ pre →
    (∀ j ∈ pre, okP ops j i = true) -> seqM P T ops p (pre ++ i :: rest) st K -> stepG P T ops.toList oi st fun s => seqM P T ops p (pre ++ rest) s K
  | [], st, _, _, _, h => by
    simp only [List.nil_append, seqM, stepM, if_neg hip, stepI, ho] at h ⊢
    exact h
  | j :: pre, st, hI, hnp, hp, h => by
    have hj := hp j (by simp)
    have hjp : j ≠ p := fun e => hnp (by simp [e])
    unfold okP at hj
    rw [ho] at hj
    split at hj
    . rename_i oj oi' hoj he
      cases he
      simp only [Bool.and_eq_true] at hj
      simp only [List.cons_append, seqM, stepM, if_neg hjp, stepI, hoj] at h ⊢
      exact swap hw hj.1 hj.2 hI (stepG_mono' h fun s hs hinv => bubbleM ho hip hw pre s hinv (fun hh => hnp (by simp [hh])) (fun k hk => hp k (by simp [hk])) hs)
    . cases hj

def oneB (A : List (List Nat)) (p : Nat) : List Nat -> Bool
  | [] => true
  | i :: l => if i = p then l.all fun k => (A.getD k []).contains p else (A.getD p []).contains i && oneB A p l

theorem oneB_spec {A : List (List Nat)} {p : Nat} : ∀ {l : List Nat}, l.Nodup -> oneB A p l = true -> l.Pairwise fun a b => (b = p -> a ∈ A.getD p []) /\ (a = p -> p ∈ A.getD b [])
  | [], _, _ => List.Pairwise.nil
  | i :: l, hn, h => by
    have hn' := List.nodup_cons.1 hn
    unfold oneB at h
    split at h
    . rename_i e
      subst e
      simp only [List.all_eq_true, List.contains_iff_mem] at h
      refine List.Pairwise.cons (fun b hb => ⟨fun e => ?_, fun _ => h b hb⟩) ?_
      . subst e; exact absurd hb hn'.1
      . refine List.Pairwise.imp_of_mem ?_ hn'.2
        intro a b ha hb _
        exact ⟨fun e => absurd (e ▸ hb) hn'.1, fun e => absurd (e ▸ ha) hn'.1⟩
    . rename_i e
      simp only [Bool.and_eq_true, List.contains_iff_mem] at h
      exact List.Pairwise.cons (fun b hb => ⟨fun _ => h.1, fun e' => absurd e' e⟩) (oneB_spec hn'.2 h.2)

theorem any_of_seqM {A : List (List Nat)} (hA : chkA ops A = true) : ∀ (fuel : Nat) (listed : Array Bool) (l : List Nat) (st : St), Rest ops A listed l -> l.Pairwise (fun a b => (b = p -> a ∈ A.getD p []) /\ (a = p -> p ∈ A.getD b [])) -> l.length = fuel -> seqM P T ops p l st K -> anyM P T ops p K fuel listed st := by
  intro fuel
  induction fuel with
  | zero =>
    intro listed l st hr hp hl h
    have : l = [] := List.eq_nil_of_length_eq_zero hl
    subst this
    refine ⟨?_, h⟩
    rcases hrd : Region.ready .any ops listed with _ | ⟨i, l'⟩
    . rfl
    . have := hr.ready_mem (i := i) (by rw [hrd]; simp)
      simp at this
  | succ fuel ih =>
    intro listed l st hr hp hl h hw
    refine ⟨fun hnil => ?_, fun i hi => ?_⟩
    . exfalso
      cases l with
      | nil => simp at hl
      | cons i l =>
        have h1 := hr.open' i (by simp)
        have hlt : i < ops.size := by
          rw [<- hr.size]
          rcases Nat.lt_or_ge i listed.size with h' | h'
          . exact h'
          . simp [Array.getElem?_eq_none h'] at h1
        have : i ∈ Region.ready .any ops listed := by
          refine mem_ready.2 ⟨h1, ops[i], by simp [hlt], fun e he hb => ?_⟩
          have hd : e.on ∈ dirs ops i := by
            simp only [dirs, Array.getElem?_eq_getElem hlt, List.mem_map, List.mem_filter]
            exact ⟨e, ⟨by simpa using he, hb⟩, rfl⟩
          by_cases hsz : e.on < ops.size
          . rcases hr.all e.on hsz with h2 | h2
            . exact h2
            . exfalso
              rcases List.mem_cons.1 h2 with h3 | h3
              . exact (hr.self i hlt _ hd).2 h3
              . have h4 := (List.pairwise_cons.1 hr.pair).1 _ h3
                simp only [relB, Bool.and_eq_true, Bool.not_eq_true'] at h4
                have h5 := h4.1
                simp at h5
                exact h5 hd
          . exact absurd (hr.self i hlt _ hd).1 hsz
        rw [hnil] at this
        cases this
    . have hmem := hr.ready_mem hi
      obtain ⟨pre, rest, rfl⟩ := List.append_of_mem hmem
      obtain ⟨_, oi, ho, _⟩ := mem_ready.1 hi
      have hlt : i < ops.size := by
        rcases Nat.lt_or_ge i ops.size with h' | h'
        . exact h'
        . rw [Array.getElem?_eq_none h'] at ho; cases ho
      have hanc : ∀ j ∈ pre, j ∉ A.getD i [] := fun j hj hin => by
        have := hr.anc hA i (dirs_ready hi) j hin hlt
        rw [getD_tf (hr.open' j (by simp [hj]))] at this
        cases this
      have hpp := hp
      rw [List.pairwise_append] at hp
      have hp' : (pre ++ rest).Pairwise (fun a b => (b = p -> a ∈ A.getD p []) /\ (a = p -> p ∈ A.getD b [])) := hpp.sublist (List.Sublist.append_left (List.sublist_cons_self i rest) pre)
      by_cases hip : i = p
      . have hpre : pre = [] := by
          cases pre with
          | nil => rfl
          | cons j pre =>
            have h1 := (hp.2.2 j (by simp) i (by simp)).1 hip
            rw [<- hip] at h1
            exact absurd h1 (hanc j (by simp))
        subst hpre
        simp only [List.nil_append, seqM] at h
        exact stepM_mono h fun s hs => ih _ _ s (hr.next (pre := []) hi) hp' (by simp at hl ⊢; omega) hs
      . have hnp : p ∉ pre := fun hin => hanc p hin ((hp.2.2 p hin i (by simp)).2 rfl)
        have hok : ∀ j ∈ pre, okP ops j i = true := by
          intro j hj
          have hq := hr.pair
          rw [List.pairwise_append] at hq
          have h4 := hq.2.2 j hj i (by simp)
          simp only [relB, Bool.and_eq_true, Bool.or_eq_true, List.contains_iff_mem] at h4
          rcases h4.2 with h5 | h5
          . exact absurd h5 (hanc j hj)
          . exact h5
        have hb := bubbleM (K := K) ho hip hw pre st ⟨⟨rfl, fun _ _ => rfl⟩, Nat.le_refl _, fun _ => ⟨[], by simp⟩⟩ hnp hok h
        simp only [stepM, if_neg hip, stepI, ho]
        exact stepG_mono' hb fun s hs => ih _ _ s (hr.next hi) hp' (by simp at hl ⊢; omega) hs

theorem W.drawM {Q : Ex -> St -> Prop} {id : Nat} (p : Nat) (ord : List Nat) (hc : chk ops ord = true) (h1 : oneB (ancs ops) p ord = true) (h : seqM P T ops p ord st (Q .nrm)) : W P T (.region id ops true) st Q := fun hT hf ro hro n X D w0 mA r m a w hR => by
  obtain ⟨h2, h3, h4⟩ := chk_rest hc
  refine wpIn_region_any hf ?_
  have hR' : R X D w0 mA r m st a { w with drawn := w.drawn + 1 } := { hR with }
  exact anyM_sound hT (fun s r' m' a' w' hs hR' => ⟨[], r', m', s, fun _ => rfl, hs, hR'⟩) ops.size _ hR' (any_of_seqM h2 ops.size _ ord st h3 (oneB_spec h3.nodup h1) h4 h)

variable {ol : List Oper} {n j : Nat} {l : List (Nat × AV)} {h : List AObj} {b : Nat} {o : Op} {ty : TypeId} {pos : String} {af : Array Edge} {KS : St -> Prop} {rest : List Nat} {i : Nat}
theorem cM {d : Nat} (hi : ol[i]? = some ⟨some d, o, ty, pos, af, none⟩) (hp : Nat.beq i p = false) (hd : Nat.ble (d + 1) n = true)
    (h1 : opC P T ⟨some d, o, ty, pos, af, none⟩ ⟨n, look l, h, b⟩ fun v h' => seqM P T ol.toArray p rest ⟨n, look ((d, v) :: l), h', b⟩ KS) : seqM P T ol.toArray p (i :: rest) ⟨n, look l, h, b⟩ KS := by
  have hd' : d < n := Nat.le_of_ble_eq_true hd
  have hp' : i ≠ p := Nat.ne_of_beq_eq_false hp
  have hi' : ol.toArray[i]? = some ⟨some d, o, ty, pos, af, none⟩ := by simpa using hi
  unfold seqM stepM stepI
  rw [if_neg hp', hi']
  show opC P T ⟨some d, o, ty, pos, af, none⟩ ⟨n, look l, h, b⟩ fun v h' => seqM P T ol.toArray p rest (St.put ⟨n, look l, h', b⟩ (some d) v) KS
  have e : (fun v h' => seqM P T ol.toArray p rest (St.put ⟨n, look l, h', b⟩ (some d) v) KS) = fun v h' => seqM P T ol.toArray p rest ⟨n, look ((d, v) :: l), h', b⟩ KS := by
    funext v h'
    rw [St.put_look d v hd']
  rw [e]
  exact h1
theorem cMg {d : Nat} {f : Operand} {args : Array Operand} {tys : Array TypeId} (hi : ol[p]? = some ⟨some d, .call ⟨.value f, args, tys⟩, ty, pos, af, none⟩) (hd : Nat.ble (d + 1) n = true)
    (h1 : callG P h (St.eval ⟨n, look l, h, b⟩ f) (args.toList.map (St.eval ⟨n, look l, h, b⟩)) fun v h' => seqM P T ol.toArray p rest ⟨n, look ((d, v) :: l), h', b⟩ KS) : seqM P T ol.toArray p (p :: rest) ⟨n, look l, h, b⟩ KS := by
  have hd' : d < n := Nat.le_of_ble_eq_true hd
  have hi' : ol.toArray[p]? = some ⟨some d, .call ⟨.value f, args, tys⟩, ty, pos, af, none⟩ := by simpa using hi
  unfold seqM stepM
  rw [if_pos rfl, hi']
  refine Or.inr (Or.inr ?_)
  have e : (fun v h' => seqM P T ol.toArray p rest (St.put ⟨n, look l, h', b⟩ (some d) v) KS) = fun v h' => seqM P T ol.toArray p rest ⟨n, look ((d, v) :: l), h', b⟩ KS := by
    funext v h'
    rw [St.put_look d v hd']
  show callG P h (St.eval ⟨n, look l, h, b⟩ f) (args.toList.map (St.eval ⟨n, look l, h, b⟩)) fun v h' => seqM P T ol.toArray p rest (St.put ⟨n, look l, h', b⟩ (some d) v) KS
  rw [e]
  exact h1
theorem eM {st : St} (h1 : KS st) : seqM P T ol.toArray p [] st KS := h1
theorem W.rM1 {Q : Ex -> St -> Prop} {id : Nat} {st : St} (p : Nat) (ord : List Nat) (hc : chk ol.toArray ord = true) (h0 : oneB (ancs ol.toArray) p ord = true) (h1 : seqM P T ol.toArray p ord st (Q .nrm)) : W P T (.region id ol.toArray true) st Q := W.drawM p ord hc h0 h1
end
end Go.Lat
namespace Go.Lat
open Go.RowKit

mutual
inductive PT where
  | leaf (P : List Nat)
  | node (P : List Nat) (B : PB)
inductive PB where
  | nil
  | cons (a : Nat) (t : PT) (r : PB)
end
section
variable (P : Program) (T : TT) (ops : Array Oper) (K : St -> Prop)
mutual
def PT.run : PT -> St -> Prop
  | .leaf L, st => seqI P T ops L st K
  | .node L B, st => seqI P T ops L st fun s => PB.run B s
def PB.run : PB -> St -> Prop
  | .nil, _ => True
  | .cons a t r, s => (stepI P T ops a s fun s' => PT.run t s') /\ PB.run r s
end
end
def PB.has : PB -> Nat -> Bool
  | .nil, _ => false
  | .cons a _ r, k => Nat.beq a k || PB.has r k
def PB.some : PB -> Bool
  | .nil => false
  | .cons .. => true
section
variable (ops : Array Oper) (A : List (List Nat))
def segOk (CP dn L : List Nat) : Bool :=
  decide L.Nodup && L.all (fun k => decide (k < ops.size) && !dn.contains k) && pairB ops A L && CP.all (fun c => L.all (relB ops A c)) && L.all fun q => (dirs ops q).all fun p => (dn ++ L).contains p
mutual
def chkT (CP dn : List Nat) : PT -> Bool
  | .leaf L => segOk ops A CP dn L && (List.range ops.size).all fun k => (dn ++ L).contains k
  | .node L B => segOk ops A CP dn L && PB.some B && ((List.range ops.size).all fun k => (dn ++ L).contains k || PB.has B k || (dirs ops k).any fun p => !(dn ++ L).contains p) && chkB (CP ++ L) (dn ++ L) B
def chkB (CP dn : List Nat) : PB -> Bool
  | .nil => true
  | .cons a t r => decide (a < ops.size) && !dn.contains a && CP.all (fun c => relB ops A c a) && (dirs ops a).all (fun p => dn.contains p) && chkT CP (dn ++ [a]) t && chkB CP dn r
end
end
def chkP (ops : Array Oper) (t : PT) : Bool :=
  chkA ops (ancs ops) && (List.range ops.size).all (fun i => (dirs ops i).all fun p => decide (p < ops.size) && p != i) && chkT ops (ancs ops) [] [] t

section
variable {P : Program} {T : TT} {ops : Array Oper} {K : St -> Prop} {A : List (List Nat)}
theorem stepI_mono {K K' : St -> Prop} {i : Nat} {st : St} (h : stepI P T ops i st K) (hk : ∀ s, K s -> K' s) : stepI P T ops i st K' := by
  unfold stepI at h ⊢
  split at h
  . exact hk _ h
  . exact stepG_mono' h hk
theorem seqI_mono {K K' : St -> Prop} (hk : ∀ s, K s -> K' s) : ∀ (l : List Nat) (st : St), seqI P T ops l st K -> seqI P T ops l st K'
  | [], _, h => hk _ h
  | _ :: l, _, h => stepI_mono h fun s hs => seqI_mono hk l s hs
theorem seqI_app {K : St -> Prop} : ∀ (a b : List Nat) (st : St), seqI P T ops (a ++ b) st K = seqI P T ops a st fun s => seqI P T ops b s K
  | [], _, _ => rfl
  | i :: a, b, st => by
    show stepI P T ops i st (fun s => seqI P T ops (a ++ b) s K) = stepI P T ops i st fun s => seqI P T ops a s fun s => seqI P T ops b s K
    congr 1
    funext s
    exact seqI_app a b s
theorem chkB_has {CP dn : List Nat} : ∀ {B : PB}, chkB ops A CP dn B = true -> ∀ {i}, PB.has B i = true -> ∃ t, chkT ops A CP (dn ++ [i]) t = true /\ i < ops.size /\ i ∉ dn /\ (∀ c ∈ CP, relB ops A c i = true) /\ (∀ s, PB.run P T ops K B s -> stepI P T ops i s fun s' => PT.run P T ops K t s')
  | .nil, _, i, h => by cases h
  | .cons a t r, hc, i, h => by
    simp only [chkB, Bool.and_eq_true, decide_eq_true_eq, Bool.not_eq_true', List.all_eq_true] at hc
    obtain ⟨⟨⟨⟨⟨h1, h2⟩, h3⟩, h4⟩, h5⟩, h6⟩ := hc
    simp only [PB.has, Bool.or_eq_true] at h
    rcases h with h | h
    . obtain rfl := Nat.eq_of_beq_eq_true h
      refine ⟨t, h5, h1, fun hin => ?_, h3, fun s hs => ?_⟩
      . rw [List.contains_iff_mem.mpr hin] at h2; cases h2
      . simp only [PB.run] at hs; exact hs.1
    . obtain ⟨t', k1, k2, k3, k4, k5⟩ := chkB_has h6 h
      exact ⟨t', k1, k2, k3, k4, fun s hs => by simp only [PB.run] at hs; exact k5 s hs.2⟩
theorem chkB_first {CP dn : List Nat} {B : PB} (hc : chkB ops A CP dn B = true) (hs : PB.some B = true) : ∃ a, a < ops.size /\ a ∉ dn /\ ∀ p ∈ dirs ops a, p ∈ dn := by
  cases B with
  | nil => cases hs
  | cons a t r =>
    simp only [chkB, Bool.and_eq_true, decide_eq_true_eq, Bool.not_eq_true', List.all_eq_true, List.contains_iff_mem] at hc
    obtain ⟨⟨⟨⟨⟨h1, h2⟩, h3⟩, h4⟩, h5⟩, h6⟩ := hc
    refine ⟨a, h1, fun hin => ?_, h4⟩
    rw [List.contains_iff_mem.mpr hin] at h2; cases h2

inductive PE where
  | fin
  | br (B : PB)
def PE.run (P : Program) (T : TT) (ops : Array Oper) (K : St -> Prop) : PE -> St -> Prop
  | .fin, s => K s
  | .br B, s => PB.run P T ops K B s
def PE.ok (ops : Array Oper) (A : List (List Nat)) (CP dn : List Nat) : PE -> Prop
  | .fin => ∀ k, k < ops.size -> k ∈ dn
  | .br B => PB.some B = true /\ (∀ k, k < ops.size -> k ∈ dn \/ PB.has B k = true \/ ∃ p ∈ dirs ops k, p ∉ dn) /\ chkB ops A CP dn B = true

structure Res (ops : Array Oper) (A : List (List Nat)) (listed : Array Bool) (L CP dn : List Nat) (E : PE) : Prop where
  size : listed.size = ops.size
  done : ∀ k, k < ops.size -> (k ∈ dn ↔ listed.getD k false = true \/ k ∈ L)
  lt : ∀ k ∈ L, k < ops.size
  open' : ∀ k ∈ L, listed.getD k true = false
  nodup : L.Nodup
  pair : L.Pairwise (fun a b => relB ops A a b = true)
  sub : ∀ k ∈ L, k ∈ CP
  closed : ∀ k, listed.getD k false = true -> ∀ p ∈ dirs ops k, listed.getD p false = true
  seg : ∀ q ∈ L, ∀ p ∈ dirs ops q, p ∈ dn
  self : ∀ k, k < ops.size -> ∀ p ∈ dirs ops k, p < ops.size /\ p ≠ k
  e : PE.ok ops A CP dn E

theorem Res.anc {listed : Array Bool} {L CP dn : List Nat} {E : PE} (h : Res ops A listed L CP dn E) (hA : chkA ops A = true) :
    ∀ (i : Nat), (∀ p ∈ dirs ops i, listed.getD p false = true) -> ∀ j ∈ A.getD i [], i < ops.size -> listed.getD j false = true := by
  intro i
  induction i using Nat.strongRecOn with
  | _ i ih =>
    intro hi j hj hlt
    simp only [chkA, List.all_eq_true, List.mem_range, Bool.or_eq_true, List.contains_iff_mem, List.any_eq_true, Bool.and_eq_true, decide_eq_true_eq] at hA
    rcases hA i hlt j hj with h1 | ⟨p, hp, hpi, hjp⟩
    . exact hi j h1
    . exact ih p hpi (h.closed p (hi p hp)) j hjp (by omega)

theorem ready_of {listed : Array Bool} {i : Nat} (hlt : i < ops.size) (h1 : listed.getD i true = false) (h2 : ∀ p ∈ dirs ops i, listed.getD p false = true) : i ∈ Region.ready .any ops listed := by
  refine mem_ready.2 ⟨h1, ops[i], by simp [hlt], fun e he hb => ?_⟩
  refine h2 e.on ?_
  simp only [dirs, Array.getElem?_eq_getElem hlt, List.mem_map, List.mem_filter]
  exact ⟨e, ⟨by simpa using he, hb⟩, rfl⟩
theorem getD_ft {listed : Array Bool} {k : Nat} (hk : k < listed.size) (h : ¬ listed.getD k false = true) : listed.getD k true = false := by
  rw [Array.getD_eq_getD_getElem?] at h ⊢
  simp [hk] at h ⊢
  exact h

theorem any_of_tree (hA : chkA ops A = true) : ∀ (fuel : Nat) (listed : Array Bool) (L CP dn : List Nat) (E : PE) (st : St), Res ops A listed L CP dn E →
    (∃ U : List Nat, U.length <= fuel /\ ∀ k, k < ops.size -> ¬ listed.getD k false = true -> k ∈ U) -> (seqI P T ops L st fun s => PE.run P T ops K E s) -> anyS P T ops K fuel listed st := by
  intro fuel
  -- if nothing is ready, all is done
  have stop : ∀ (listed : Array Bool) (L CP dn : List Nat) (E : PE) (st : St), Res ops A listed L CP dn E -> Region.ready .any ops listed = [] -> (seqI P T ops L st fun s => PE.run P T ops K E s) -> K st := by
    intro listed L CP dn E st hr hnil h
    have no : ∀ i, i < ops.size -> ¬ listed.getD i false = true -> (∀ p ∈ dirs ops i, listed.getD p false = true) -> False := fun i h1 h2 h3 => by
      have := ready_of h1 (getD_ft (by rw [hr.size]; exact h1) h2) h3
      rw [hnil] at this; cases this
    cases L with
    | cons i L =>
      exfalso
      have h1 := hr.open' i (by simp)
      have hlt := hr.lt i (by simp)
      refine no i hlt (by rw [getD_tf h1]; exact Bool.false_ne_true) fun p hp => ?_
      obtain ⟨s1, s2⟩ := hr.self i hlt p hp
      rcases (hr.done p s1).1 (hr.seg i (by simp) p hp) with h3 | h3
      . exact h3
      . exfalso
        rcases List.mem_cons.1 h3 with h3 | h3
        . exact s2 h3
        . have h4 := (List.pairwise_cons.1 hr.pair).1 _ h3
          simp only [relB, Bool.and_eq_true, Bool.not_eq_true'] at h4
          have h5 := h4.1
          rw [List.contains_iff_mem.mpr hp] at h5; cases h5
    | nil =>
      cases E with
      | fin => exact h
      | br B =>
        exfalso
        obtain ⟨e1, e2, e3⟩ := hr.e
        obtain ⟨a, a1, a2, a3⟩ := chkB_first e3 e1
        refine no a a1 (fun hl => a2 ((hr.done a a1).2 (.inl hl))) fun p hp => ?_
        rcases (hr.done p (hr.self a a1 p hp).1).1 (a3 p hp) with h3 | h3
        . exact h3
        . cases h3
  induction fuel with
  | zero =>
    intro listed L CP dn E st hr ⟨U, hU, hun⟩ h
    have hU0 : U = [] := List.eq_nil_of_length_eq_zero (by omega)
    subst hU0
    have hnil : Region.ready .any ops listed = [] := by
      rcases hrd : Region.ready .any ops listed with _ | ⟨i, l'⟩
      . rfl
      . exfalso
        have hm : i ∈ Region.ready .any ops listed := by rw [hrd]; simp
        obtain ⟨h0, o, ho, _⟩ := mem_ready.1 hm
        have hlt : i < ops.size := by
          rcases Nat.lt_or_ge i ops.size with h' | h'
          . exact h'
          . rw [Array.getElem?_eq_none h'] at ho; cases ho
        have := hun i hlt (by rw [getD_tf h0]; exact Bool.false_ne_true)
        cases this
    exact ⟨hnil, stop listed L CP dn E st hr hnil h⟩
  | succ fuel ih =>
    intro listed L CP dn E st hr ⟨U, hU, hun⟩ h hw
    refine ⟨fun hnil => stop listed L CP dn E st hr hnil h, fun i hi => ?_⟩
    obtain ⟨h0, oi, ho, _⟩ := mem_ready.1 hi
    have hlt : i < ops.size := by
      rcases Nat.lt_or_ge i ops.size with h' | h'
      . exact h'
      . rw [Array.getElem?_eq_none h'] at ho; cases ho
    have hno : ¬ listed.getD i false = true := by rw [getD_tf h0]; exact Bool.false_ne_true
    have hdirs := dirs_ready hi
    have hU' : ∃ U' : List Nat, U'.length <= fuel /\ ∀ k, k < ops.size -> ¬ (listed.setIfInBounds i true).getD k false = true -> k ∈ U' := by
      refine ⟨U.erase i, ?_, fun k hk hnk => ?_⟩
      . have := List.length_erase_of_mem (hun i hlt hno); omega
      . have hki : k ≠ i := fun e => hnk (by subst e; have := hr.size; simp [this, hlt])
        rw [List.mem_erase_of_ne hki]
        refine hun k hk fun h' => hnk ?_
        rw [getD_set_ne false (Ne.symm hki)]; exact h'
    have hsz : (listed.setIfInBounds i true).size = ops.size := by simpa using hr.size
    have hset : ∀ k, k < ops.size -> ((listed.setIfInBounds i true).getD k false = true ↔ listed.getD k false = true \/ k = i) := fun k hk => by
      by_cases hki : k = i
      . subst hki; have := hr.size; simp [this, hk]
      . rw [getD_set_ne false (Ne.symm hki)]; simp [hki]
    have hclosed : ∀ k, (listed.setIfInBounds i true).getD k false = true -> ∀ p ∈ dirs ops k, (listed.setIfInBounds i true).getD p false = true := fun k hk p hp => by
      by_cases hki : k = i
      . subst hki; exact getD_set_true (hdirs p hp)
      . rw [getD_set_ne false (Ne.symm hki)] at hk
        exact getD_set_true (hr.closed k hk p hp)
    have hokP : ∀ j, j ∈ L -> relB ops A j i = true -> okP ops j i = true := fun j hj h4 => by
      simp only [relB, Bool.and_eq_true, Bool.or_eq_true, List.contains_iff_mem] at h4
      rcases h4.2 with h5 | h5
      . have := hr.anc hA i hdirs j h5 hlt
        rw [getD_tf (hr.open' j hj)] at this
        cases this
      . exact h5
    by_cases hdn : i ∈ dn
    . have hL : i ∈ L := ((hr.done i hlt).1 hdn).resolve_left hno
      obtain ⟨pre, rest, rfl⟩ := List.append_of_mem hL
      have hp := hr.pair
      rw [List.pairwise_append] at hp
      have hok : ∀ j ∈ pre, okP ops j i = true := fun j hj => hokP j (by simp [hj]) (hp.2.2 j hj i (by simp))
      have hb := bubble (K := fun s => PE.run P T ops K E s) ho hw pre st ⟨⟨rfl, fun _ _ => rfl⟩, Nat.le_refl _, fun _ => ⟨[], by simp⟩⟩ hok h
      simp only [stepI, ho]
      have hsub : (pre ++ rest).Sublist (pre ++ i :: rest) := List.Sublist.append_left (List.sublist_cons_self i rest) pre
      have hne : ∀ k ∈ pre ++ rest, k ≠ i := by
        intro k hk hki
        subst hki
        have := hr.nodup
        rw [List.nodup_append] at this
        obtain ⟨_, h2, h3⟩ := this
        rcases List.mem_append.1 hk with h4 | h4
        . exact h3 k h4 k (by simp) rfl
        . exact (List.nodup_cons.1 h2).1 h4
      refine stepG_mono' hb fun s hs => ih _ (pre ++ rest) CP dn E s ⟨hsz, fun k hk => ?_, fun k hk => hr.lt k (hsub.subset hk), fun k hk => ?_, hr.nodup.sublist hsub, hr.pair.sublist hsub, fun k hk => hr.sub k (hsub.subset hk), hclosed, fun q hq => hr.seg q (hsub.subset hq), hr.self, hr.e⟩ hU' hs
      . rw [hr.done k hk, hset k hk]
        simp only [List.mem_append, List.mem_cons]
        constructor
        . rintro (h1 | h1 | h1 | h1)
          . exact .inl (.inl h1)
          . exact .inr (.inl h1)
          . exact .inl (.inr h1)
          . exact .inr (.inr h1)
        . rintro ((h1 | h1) | h1 | h1)
          . exact .inl h1
          . exact .inr (.inr (.inl h1))
          . exact .inr (.inl h1)
          . exact .inr (.inr (.inr h1))
      . rw [getD_set_ne true (Ne.symm (hne k hk))]
        exact hr.open' k (hsub.subset hk)
    . cases E with
      | fin => exact (hdn (hr.e i hlt)).elim
      | br B =>
        obtain ⟨e1, e2, e3⟩ := hr.e
        have hhas : PB.has B i = true := by
          rcases e2 i hlt with h1 | h1 | ⟨p, hp, hpn⟩
          . exact (hdn h1).elim
          . exact h1
          . exact (hpn ((hr.done p (hr.self i hlt p hp).1).2 (.inl (hdirs p hp)))).elim
        obtain ⟨t, k1, k2, k3, k4, k5⟩ := chkB_has (P := P) (T := T) (K := K) e3 hhas
        have hok : ∀ j ∈ L, okP ops j i = true := fun j hj => hokP j hj (k4 j (hr.sub j hj))
        -- the segment of the subtree, and what is behind it
        have key : ∃ (L' : List Nat) (E' : PE), segOk ops A CP (dn ++ [i]) L' = true /\ PE.ok ops A (CP ++ L') ((dn ++ [i]) ++ L') E' /\ ∀ s, PT.run P T ops K t s -> seqI P T ops L' s fun s => PE.run P T ops K E' s := by
          cases t with
          | leaf L' =>
            simp only [chkT, Bool.and_eq_true, List.all_eq_true, List.mem_range, List.contains_iff_mem] at k1
            exact ⟨L', .fin, k1.1, fun k hk => k1.2 k hk, fun s hs => by simp only [PT.run] at hs; exact hs⟩
          | node L' B' =>
            simp only [chkT, Bool.and_eq_true, List.all_eq_true, List.mem_range, Bool.or_eq_true, List.any_eq_true, Bool.not_eq_true', List.contains_iff_mem] at k1
            obtain ⟨⟨⟨c1, c2⟩, c3⟩, c4⟩ := k1
            refine ⟨L', .br B', c1, ⟨c2, fun k hk => ?_, c4⟩, fun s hs => by simp only [PT.run] at hs; exact hs⟩
            rcases c3 k hk with (h1 | h1) | ⟨p, hp, hpn⟩
            . exact .inl h1
            . exact .inr (.inl h1)
            . refine .inr (.inr ⟨p, hp, fun hin => ?_⟩)
              rw [List.contains_iff_mem.mpr hin] at hpn; cases hpn
        obtain ⟨L', E', c1, c2, c3⟩ := key
        simp only [segOk, Bool.and_eq_true, decide_eq_true_eq, List.all_eq_true, Bool.not_eq_true', List.contains_iff_mem] at c1
        obtain ⟨⟨⟨⟨d1, d2⟩, d3⟩, d4⟩, d5⟩ := c1
        have d2' : ∀ k ∈ L', k < ops.size /\ k ∉ dn ++ [i] := fun k hk => ⟨(d2 k hk).1, fun hin => by have := (d2 k hk).2; rw [List.contains_iff_mem.mpr hin] at this; cases this⟩
        have hplan : seqI P T ops (L ++ i :: L') st fun s => PE.run P T ops K E' s := by
          rw [seqI_app]
          refine seqI_mono (fun s hs => ?_) L st h
          exact stepI_mono (k5 s hs) c3
        have hb := bubble (K := fun s => PE.run P T ops K E' s) ho hw L st ⟨⟨rfl, fun _ _ => rfl⟩, Nat.le_refl _, fun _ => ⟨[], by simp⟩⟩ hok hplan
        simp only [stepI, ho]
        have hLdn : ∀ k ∈ L, k ∈ dn := fun k hk => (hr.done k (hr.lt k hk)).2 (.inr hk)
        refine stepG_mono' hb fun s hs => ih _ (L ++ L') (CP ++ L') ((dn ++ [i]) ++ L') E' s ⟨hsz, fun k hk => ?_, fun k hk => ?_, fun k hk => ?_, ?_, ?_, fun k hk => ?_, hclosed, fun q hq p hp => ?_, hr.self, c2⟩ hU' hs
        . rw [List.mem_append, List.mem_append, hr.done k hk, hset k hk, List.mem_singleton, List.mem_append]
          constructor
          . rintro (((h1 | h1) | h1) | h1)
            . exact .inl (.inl h1)
            . exact .inr (.inl h1)
            . exact .inl (.inr h1)
            . exact .inr (.inr h1)
          . rintro ((h1 | h1) | h1 | h1)
            . exact .inl (.inl (.inl h1))
            . exact .inl (.inr h1)
            . exact .inl (.inl (.inr h1))
            . exact .inr h1
        . rcases List.mem_append.1 hk with h1 | h1
          . exact hr.lt k h1
          . exact (d2' k h1).1
        . have hki : k ≠ i := by
            rintro rfl
            rcases List.mem_append.1 hk with h1 | h1
            . exact hdn (hLdn _ h1)
            . exact (d2' _ h1).2 (by simp)
          rw [getD_set_ne true (Ne.symm hki)]
          rcases List.mem_append.1 hk with h1 | h1
          . exact hr.open' k h1
          . refine getD_ft (by rw [hr.size]; exact (d2' k h1).1) fun hl => (d2' k h1).2 ?_
            rw [List.mem_append]
            exact .inl ((hr.done k (d2' k h1).1).2 (.inl hl))
        . rw [List.nodup_append]
          refine ⟨hr.nodup, d1, fun a ha b hb' e => ?_⟩
          subst e
          exact (d2' a hb').2 (List.mem_append_left _ (hLdn a ha))
        . rw [List.pairwise_append]
          exact ⟨hr.pair, pairB_spec d3, fun a ha b hb' => d4 a (hr.sub a ha) b hb'⟩
        . rcases List.mem_append.1 hk with h1 | h1
          . exact List.mem_append_left _ (hr.sub k h1)
          . exact List.mem_append_right _ h1
        . rcases List.mem_append.1 hq with h1 | h1
          . exact List.mem_append_left _ (List.mem_append_left _ (hr.seg q h1 p hp))
          . exact d5 q h1 p hp
end
theorem W.tree {P : Program} {T : TT} {st : St} {Q : Ex -> St -> Prop} {id : Nat} {ops : Array Oper} (t : PT) (hc : chkP ops t = true) (h : PT.run P T ops (Q .nrm) t st) : W P T (.region id ops true) st Q := fun hT hf ro hro n X D w0 mA r m a w hR => by
  simp only [chkP, Bool.and_eq_true, List.all_eq_true, List.mem_range, decide_eq_true_eq, bne_iff_ne, ne_eq] at hc
  obtain ⟨⟨h1, h2⟩, h3⟩ := hc
  refine wpIn_region_any hf ?_
  have hR' : R X D w0 mA r m st a { w with drawn := w.drawn + 1 } := { hR with }
  have hno : ∀ k, (Array.replicate ops.size false).getD k false = false := fun k => by
    rw [Array.getD_eq_getD_getElem?]
    by_cases hk : k < ops.size <;> simp [hk]
  have hU : ∃ U : List Nat, U.length <= ops.size /\ ∀ k, k < ops.size -> ¬ (Array.replicate ops.size false).getD k false = true -> k ∈ U := ⟨List.range ops.size, by simp, fun k hk _ => List.mem_range.mpr hk⟩
  have base : ∀ (L : List Nat) (E : PE), segOk ops (ancs ops) [] [] L = true -> PE.ok ops (ancs ops) L L E -> Res ops (ancs ops) (Array.replicate ops.size false) L L L E := fun L E c1 c2 => by
    simp only [segOk, Bool.and_eq_true, decide_eq_true_eq, List.all_eq_true, Bool.not_eq_true', List.contains_iff_mem, List.nil_append] at c1
    obtain ⟨⟨⟨⟨d1, d2⟩, d3⟩, d4⟩, d5⟩ := c1
    exact ⟨by simp, fun k hk => by (rw [hno k]; simp), fun k hk => (d2 k hk).1, fun k hk => getD_ft (by simpa using (d2 k hk).1) (by (rw [hno k]; exact Bool.false_ne_true)), d1, pairB_spec d3, fun k hk => hk, fun k hk => absurd hk (by (rw [hno k]; exact Bool.false_ne_true)), d5, fun k hk p hp => h2 k hk p hp, c2⟩
  refine anyS_sound hT (fun s r' m' a' w' hs hR' => ⟨[], r', m', s, fun _ => rfl, hs, hR'⟩) ops.size _ hR' ?_
  cases t with
  | leaf L =>
    simp only [chkT, Bool.and_eq_true, List.all_eq_true, List.mem_range, List.contains_iff_mem, List.nil_append] at h3
    simp only [PT.run] at h
    exact any_of_tree h1 ops.size _ L L L .fin st (base L .fin h3.1 h3.2) hU h
  | node L B =>
    simp only [chkT, Bool.and_eq_true, List.all_eq_true, List.mem_range, Bool.or_eq_true, List.any_eq_true, Bool.not_eq_true', List.contains_iff_mem, List.nil_append] at h3
    obtain ⟨⟨⟨c1, c2⟩, c3⟩, c4⟩ := h3
    simp only [PT.run] at h
    refine any_of_tree h1 ops.size _ L L L (.br B) st (base L (.br B) c1 ⟨c2, fun k hk => ?_, c4⟩) hU h
    rcases c3 k hk with (h1 | h1) | ⟨p, hp, hpn⟩
    . exact .inl h1
    . exact .inr (.inl h1)
    . refine .inr (.inr ⟨p, hp, fun hin => ?_⟩)
      rw [List.contains_iff_mem.mpr hin] at hpn; cases hpn

section
variable {P : Program} {T : TT} {ol : List Oper} {n : Nat} {l : List (Nat × AV)} {h : List AObj} {b : Nat} {o : Op} {ty : TypeId} {pos : String} {af : Array Edge} {KS : St -> Prop} {rest : List Nat} {i : Nat}
theorem cI {d : Nat} (hi : ol[i]? = some ⟨some d, o, ty, pos, af, none⟩) (hd : Nat.ble (d + 1) n = true)
    (h1 : opC P T ⟨some d, o, ty, pos, af, none⟩ ⟨n, look l, h, b⟩ fun v h' => KS ⟨n, look ((d, v) :: l), h', b⟩) : stepI P T ol.toArray i ⟨n, look l, h, b⟩ KS := by
  have hd' : d < n := Nat.le_of_ble_eq_true hd
  have hi' : ol.toArray[i]? = some ⟨some d, o, ty, pos, af, none⟩ := by simpa using hi
  unfold stepI
  rw [hi']
  show opC P T ⟨some d, o, ty, pos, af, none⟩ ⟨n, look l, h, b⟩ fun v h' => KS (St.put ⟨n, look l, h', b⟩ (some d) v)
  have e : (fun v h' => KS (St.put ⟨n, look l, h', b⟩ (some d) v)) = fun v h' => KS ⟨n, look ((d, v) :: l), h', b⟩ := by
    funext v h'
    rw [St.put_look d v hd']
  rw [e]
  exact h1
theorem cIn (hi : ol[i]? = some ⟨none, o, ty, pos, af, none⟩)
    (h1 : opC P T ⟨none, o, ty, pos, af, none⟩ ⟨n, look l, h, b⟩ fun _ h' => KS ⟨n, look l, h', b⟩) : stepI P T ol.toArray i ⟨n, look l, h, b⟩ KS := by
  have hi' : ol.toArray[i]? = some ⟨none, o, ty, pos, af, none⟩ := by simpa using hi
  unfold stepI
  rw [hi']
  exact h1
theorem cS {d : Nat} (hi : ol[i]? = some ⟨some d, o, ty, pos, af, none⟩) (hd : Nat.ble (d + 1) n = true)
    (h1 : opC P T ⟨some d, o, ty, pos, af, none⟩ ⟨n, look l, h, b⟩ fun v h' => seqI P T ol.toArray rest ⟨n, look ((d, v) :: l), h', b⟩ KS) : seqI P T ol.toArray (i :: rest) ⟨n, look l, h, b⟩ KS := cI hi hd h1
theorem cSn (hi : ol[i]? = some ⟨none, o, ty, pos, af, none⟩)
    (h1 : opC P T ⟨none, o, ty, pos, af, none⟩ ⟨n, look l, h, b⟩ fun _ h' => seqI P T ol.toArray rest ⟨n, look l, h', b⟩ KS) : seqI P T ol.toArray (i :: rest) ⟨n, look l, h, b⟩ KS := cIn hi h1
theorem eS {st : St} {ops : Array Oper} (h1 : KS st) : seqI P T ops [] st KS := h1
theorem tL {st : St} {ops : Array Oper} {L : List Nat} (h1 : seqI P T ops L st KS) : PT.run P T ops KS (.leaf L) st := by simp only [PT.run]; exact h1
theorem tN {st : St} {ops : Array Oper} {L : List Nat} {B : PB} (h1 : seqI P T ops L st fun s => PB.run P T ops KS B s) : PT.run P T ops KS (.node L B) st := by simp only [PT.run]; exact h1
theorem tC {st : St} {ops : Array Oper} {a : Nat} {t : PT} {r : PB} (h1 : stepI P T ops a st fun s => PT.run P T ops KS t s) (h2 : PB.run P T ops KS r st) : PB.run P T ops KS (.cons a t r) st := by simp only [PB.run]; exact ⟨h1, h2⟩
theorem tE {st : St} {ops : Array Oper} : PB.run P T ops KS .nil st := by simp only [PB.run]
theorem W.rT {Q : Ex -> St -> Prop} {c : Code} {id : Nat} {st : St} (st' : St) (t : PT) (hc : chkP ol.toArray t = true) (h1 : PT.run P T ol.toArray (fun s => s.to st') t st) (h2 : W P T c st' Q) : W P T (.seq (.region id ol.toArray true) c) st Q :=
  W.seq (fun s => s.to st') (W.tree t hc h1) fun _ h => W.to h h2
end
end Go.Lat
namespace Go.Lat
open Go.RowKit

section
variable {P : Program} {T : TT} {st : St}
def noCall (o : Op) : Bool := match o with
  | .call ⟨.value _, _, _⟩ => false
  | _ => true
def hasT (l : List (Nat × AV)) (t : Nat) : Bool := l.any fun x => Nat.beq x.1 t
variable (ol : List Oper) (l0 : List (Nat × AV)) (val : List AV) (kn : List (List (Nat × Nat)))
def knw (k : Nat) : List (Nat × AV) := l0 ++ (kn.getD k []).map fun x => (x.1, val.getD x.2 .any)
def chkV (ks : List Nat) (a b n : Nat) : Bool :=
  decide (a < b) && decide (b < ol.length) && (List.range ol.length).all fun k => match ol[k]? with
    | some o => o.guard.isNone && noCall o.op && (dirs ol.toArray k).all (fun p => decide (p < k)) && (kn.getD k []).all (fun x => (dirs ol.toArray k).contains x.2 && ((ol[x.2]?).bind (·.dst) == some x.1)) &&
        (Op.operands o.op).toList.all (fun x => match x with | .tmp t => ks.contains t || (kn.getD k []).any (fun y => Nat.beq y.1 t) | _ => true) &&
        (match o.dst with | some d => decide (d < n) && !ks.contains d && (List.range ol.length).all (fun j => Nat.beq j k || !((ol[j]?).bind (·.dst) == some d)) | none => true) &&
        (Nat.beq k b || (dirs ol.toArray b).contains k)
    | none => true
variable (P T) (n q : Nat)
def obs (hp : List AObj) (nx : Nat -> List AObj) : List Nat -> Prop
  | [] => True
  | k :: ks => (match ol[k]? with
    | some o => opC P T o ⟨n, look (knw l0 val kn k), hp, q⟩ (fun v h => (o.dst.isSome = true -> v = val.getD k .any) /\ h = nx k)
    | none => True) /\ obs hp nx ks
def regsE (tm : Nat -> AV) : List (Nat × AV) -> Prop
  | [] => True
  | x :: l => tm x.1 = x.2 /\ regsE tm l
variable {P T ol l0 val kn n q}
def stg (a b : Nat) (H0 H1 H2 : List AObj) (listed : Array Bool) : List AObj := if listed.getD b false = true then H2 else if listed.getD a false = true then H1 else H0
structure InvV (ol : List Oper) (l0 : List (Nat × AV)) (val : List AV) (n q a b : Nat) (H0 H1 H2 : List AObj) (listed : Array Bool) (st : St) : Prop where
  nt : st.nt = n
  ho : st.ho = q
  heap : st.heap = stg a b H0 H1 H2 listed
  base : ∀ x ∈ l0, st.tm x.1 = x.2
  vals : ∀ k o d, listed.getD k false = true -> ol[k]? = some o -> o.dst = some d -> st.tm d = val.getD k .any
  size : listed.size = ol.length
  closed : ∀ k, listed.getD k false = true -> ∀ p ∈ dirs ol.toArray k, listed.getD p false = true
def chkK (ol : List Oper) (a b : Nat) (K0 K1 : List Nat) : Bool :=
  (List.range ol.length).all fun k => (Nat.beq k b || K0.contains k) && (Nat.beq k a || (dirs ol.toArray a).contains k || K1.contains k)
end
end Go.Lat
namespace Go.Lat
open Go.RowKit
section
variable {d : Option Tmp} {a a2 : Operand} {n : Nat} {l : List (Nat × AV)} {h : List AObj} {b : Nat} {ty : TypeId} {pos : String} {af : Array Edge} {g : Option (Nat × Bool)} {P : Program} {T : TT} {K : AV -> List AObj -> Prop}
theorem o_neS {t u : TypeId} {fs : List (Nat × TypeId)} {s by_ : Nat} {z : List AV} {p : Prop} [Decidable p] (as_ bs : List Int) (ht : T t = some ⟨.st fs, s, by_, z⟩) (hf : ∀ f ∈ fs, ∃ s' b' z', T f.2 = some ⟨.int .i64, s', b', z'⟩) (ho : fs.map (·.1) = List.range fs.length)
    (h1 : St.eval ⟨n, look l, h, b⟩ a = .agg (as_.map (.int .i64))) (h2 : St.eval ⟨n, look l, h, b⟩ a2 = .agg (bs.map (.int .i64))) (hn : nilC .neq a2 = false) (l1 : as_.length = fs.length) (l2 : bs.length = fs.length) (hq : decide (as_ = bs) = decide p) (hk : K (.bool (decide (¬ p))) h) : opC P T ⟨d, .binOp .neq t a a2 u, ty, pos, af, g⟩ ⟨n, look l, h, b⟩ K := by
  show (if nilC .neq a2 = true then nilEqA T t (BinOp.neq == BinOp.neq) (St.eval ⟨n, look l, h, b⟩ a) (fun v => K v h) else binA T .neq t (St.eval ⟨n, look l, h, b⟩ a) (St.eval ⟨n, look l, h, b⟩ a2) (fun v => K v h))
  rw [hn, if_neg (by simp), h1, h2]
  exact ⟨fs, s, by_, z, as_, bs, ht, hf, ho, rfl, rfl, l1, l2, by rw [if_pos rfl, hq, <- decide_not]; exact hk⟩
end
theorem row_setF {α : Type} [Inhabited α] {e : α -> List AV} {sz : Nat} (h : Wd e sz) (xs : List α) (j : Int) (k : Nat) (x : α) {vs : List AV} (hk : Nat.ble (k + vs.length) sz = true) (hv : (e (lat xs j)).take k ++ vs ++ (e (lat xs j)).drop (k + vs.length) = e x) (hj : 0 <= j /\ j < (xs.length : Int)) :
    Lat.spl (zYy e xs) (j.toNat * sz + k) vs = zYy e (xs.set j.toNat x) := by
  have hk' := Nat.le_of_ble_eq_true hk
  have hlt : j.toNat < xs.length := by omega
  have hlen : (zYy e xs).length = xs.length * sz := zYw h xs
  have hle : j.toNat * sz + sz <= xs.length * sz := by
    have := Nat.mul_le_mul_right sz hlt
    rw [Nat.succ_mul] at this
    exact this
  rw [<- row_set h xs j x rfl hj.1 hj.2, <- hv, Lat.spl_eq _ _ _ (by omega), Lat.spl_eq _ _ _ (by
    rw [hv, h, hlen]; exact hle)]
  obtain ⟨rest, hr⟩ := encL_at h xs j hj.1 hj.2
  have hw : (e (lat xs j)).length = sz := h _
  have e1 : (zYy e xs).take (j.toNat * sz + k) = (zYy e xs).take (j.toNat * sz) ++ (e (lat xs j)).take k := by
    rw [List.take_add, hr, List.take_append_of_le_length (by omega)]
  have e2 : (zYy e xs).drop (j.toNat * sz + k + vs.length) = (e (lat xs j)).drop (k + vs.length) ++ rest := by
    rw [Nat.add_assoc, <- List.drop_drop, hr, List.drop_append_of_le_length (by omega)]
  have e3 : (zYy e xs).drop (j.toNat * sz + ((e (lat xs j)).take k ++ vs ++ (e (lat xs j)).drop (k + vs.length)).length) = rest := by
    rw [hv, h, <- List.drop_drop, hr, <- hw, List.drop_left]
  rw [e1, e2, e3]
  simp [List.append_assoc]
theorem row_inF {α : Type} {e : α -> List AV} {sz : Nat} (hw : Wd e sz) {xs : List α} {i : Int} (hj : 0 <= i /\ i < (xs.length : Int)) {k : Nat} {vs : List AV} (hk : Nat.ble (k + vs.length) sz = true) : i.toNat * sz + k + vs.length <= (zYy e xs).length := by
  rw [zYw hw]
  have hj' : i.toNat < xs.length := by omega
  have := Nat.mul_le_mul_right sz hj'
  rw [Nat.succ_mul] at this
  have := Nat.le_of_ble_eq_true hk
  omega
end Go.Lat
namespace Go.Lat
open Go.RowKit
section
variable {X : Nat -> Prop} {D : List Deferred × Rho} {w0 : World} {mA : Mem} {r : Rho} {m : MM} {st : St} {a : Act} {w : World}
theorem R.reobj' (h : R X D w0 mA r m st a w) {j : Nat} {bt : TypeId} {bcs bcs' : List AV} (ho : st.heap[j]? = some (.box bt bcs)) (hk : OR r m w j (.box bt bcs')) : R X D w0 mA r m { st with heap := st.heap.set j (.box bt bcs') } a w := by
  have hlen : j < st.heap.length := by
    rcases Nat.lt_or_ge j st.heap.length with h1 | h1
    . exact h1
    . rw [List.getElem?_eq_none h1] at ho; cases ho
  have get : ∀ (i : Nat) oi, (st.heap.set j (.box bt bcs'))[i]? = some oi -> ∃ oo, st.heap[i]? = some oo /\ (oi.live = true -> oo.live = true) /\ (i = j /\ oi = .box bt bcs' /\ oo = .box bt bcs \/ oi = oo) := by
    intro i oi hi
    by_cases e : i = j
    . subst e
      rw [List.getElem?_set_self hlen] at hi
      cases hi
      exact ⟨_, ho, fun _ => rfl, .inl ⟨rfl, rfl, rfl⟩⟩
    . rw [List.getElem?_set_ne (Ne.symm e)] at hi
      exact ⟨oi, hi, fun h => h, .inr rfl⟩
  refine { h with len := by simpa using h.len, lt := ?_, apart := ?_, obj := ?_, own := ?_, inj := ?_, nox := h.nox }
  . intro i oi b c hi hl hr
    obtain ⟨oo, h1, h2, -⟩ := get i oi hi
    exact h.lt i oo b c h1 (h2 hl) hr
  . intro p v hp i oi b c hi hl hr
    obtain ⟨oo, h1, h2, -⟩ := get i oi hi
    exact h.apart p v hp i oo b c h1 (h2 hl) hr
  . intro i oi hi
    obtain ⟨oo, h1, -, ⟨rfl, rfl, rfl⟩ | rfl⟩ := get i oi hi
    . exact hk
    . exact h.obj i oi h1
  . intro i oi b c hi hl hr
    obtain ⟨oo, h1, h2, -⟩ := get i oi hi
    exact h.own i oo b c h1 (h2 hl) hr
  . intro i k oi ok b c c' hi hk' hli hlk hri hrk
    obtain ⟨oo, h1, h2, -⟩ := get i oi hi
    obtain ⟨op, h3, h4, -⟩ := get k ok hk'
    exact h.inj i k oo op b c c' h1 h3 (h2 hli) (h4 hlk) hri hrk
def sealC (fl : Bool) (id sz k : Nat) (cs' : List AV) : List AV -> List AV -> Prop
  | [], [] => True
  | x :: xs, y :: ys => (y = x \/ ∃ nb n, x = .ref nb id n /\ k = n * sz /\ y = .lst fl n cs') /\ sealC fl id sz k cs' xs ys
  | _, _ => False
theorem W.sealB {P : Program} {T : TT} {Q : Ex -> St -> Prop} {c : Code} (fl : Bool) (id j : Nat) {n sz : Nat} {t bt : TypeId} {cs cs' bcs bcs' : List AV} {h h' : List AObj} {tm : Nat -> AV} {l : List (Nat × AV)} (ho : h[id]? = some (.row t sz cs)) (hb : h[j]? = some (.box bt bcs)) (hc : SealVs fl cs cs')
    (hl : sealT fl id sz cs.length cs' tm l) (hbc : sealC fl id sz cs.length cs' bcs bcs') (hh : (h.set id .dead).set j (.box bt bcs') = h') (hw : W P T c ⟨n, look l, h', 0⟩ Q) : W P T c ⟨n, tm, h, 0⟩ Q := fun hT hf ro hro k X D w0 mA r m a w hR => by
  obtain ⟨m', hle, hR', hv⟩ := hR.sealH rfl fl ho hc
  subst hh
  have hne : id ≠ j := fun e => by subst e; rw [ho] at hb; cases hb
  have hb' : (h.set id .dead)[j]? = some (.box bt bcs) := by rw [List.getElem?_set_ne hne]; exact hb
  have low := hR.low
  have conv : ∀ (xs ys : List AV) (vs : List Value), sealC fl id sz cs.length cs' xs ys -> VRs r m xs vs -> VRs r m' ys vs := by
    intro xs
    induction xs with
    | nil => intro ys vs hs hv'; cases ys with
      | nil => simpa only [VRs] using hv'
      | cons => exact hs.elim
    | cons x xs ih => intro ys vs hs hv'; cases ys with
      | nil => exact hs.elim
      | cons y ys =>
        simp only [VRs] at hv' ⊢
        obtain ⟨v, vs', rfl, h1, h2⟩ := hv'
        refine ⟨v, vs', rfl, ?_, ih ys vs' hs.2 h2⟩
        rcases hs.1 with e | ⟨nb, n', e1, e2, e3⟩
        . rw [e]; exact VR.mono (RLe.refl r) hle x v h1
        . rw [e3]; rw [e1] at h1; exact hv nb n' _ e2 h1
  -- the variable, told in other words
  have hR2 : R X D w0 mA r m' ⟨n, tm, (h.set id .dead).set j (.box bt bcs'), 0⟩ a w := by
    obtain ⟨b, c, cur, e1, e2, e3, e4⟩ := hR.obj j _ hb
    refine hR'.reobj' hb' ?_
    exact ⟨b, c, cur, e1, e2, e3, conv _ _ _ hbc e4⟩
  refine hw hT hf ro hro k X D w0 mA r m' a w { hR2 with tmps := fun t => ?_, size' := hR2.size', nox := hR2.nox }
  have key : ∀ (l : List (Nat × AV)), sealT fl id sz cs.length cs' tm l -> VR r m' (look l t) (a.tmps.getD t undef) := by
    intro l
    induction l with
    | nil => intro _; simp only [look, VR]
    | cons p l ih =>
      obtain ⟨q, v⟩ := p
      intro hl
      rw [look_cons]
      split
      . rename_i e
        subst e
        rcases hl.1 with e | ⟨nb, n', e1, e2, e3⟩
        . rw [e]; exact hR'.tmps t
        . rw [e3]
          exact hv nb n' _ e2 (by have := hR.tmps t; simp only at this; rw [e1] at this; exact this)
      . exact ih hl.2
  exact key l hl
end
end Go.Lat
namespace Go.Lat
open Go.RowKit Go.Conc

def OpsTo (F : Fence) (n : Nat) (P : Program) (ops : Array Oper) (Q : Exit -> Act -> World -> Prop) (l : List Nat) (a : Act) (w : World) : Prop :=
  ∀ (b : Frame) (k : List Item) (cs : List Frame), b.roundOf = F.round -> F.fn b.fn -> F.room (cs.length + 1 + n) →
    ∃ e a' w', Q e a' w' /\ ArrivesIn (Machine.fenced P F) P (lone (b.atR a (.inRegion ops l :: k)) cs w) b k cs e a' w'
section
variable {n : Nat} {P : Program} {ops : Array Oper} {Q : Exit -> Act -> World -> Prop} {a : Act} {w : World} {ro : Option Nat}
theorem OpsTo.nil (h : Q .normal a w) : OpsTo (FW ro) n P ops Q [] a w := fun b k cs _ hb hr => ⟨.normal, a, w, h, .one (fenced_calm hb hr rfl) stepR_region_end⟩
theorem wpIn_region_to {id : Nat} (h : OpsTo (FW ro) n P ops Q (List.range ops.size) a w) : (Code.region id ops false).wpIn (FW ro) n P Q a w :=
  fun b k cs hro hb hr => let ⟨e, a', w', q, r⟩ := h b k cs hro hb hr; ⟨e, a', w', q, .of_steps (.one (fenced_calm hb hr rfl) stepR_region) r⟩
theorem wpIn_region_draw_to {id : Nat} (h : ∀ t, OpsTo (FW ro) n P ops Q (Region.schedule (P.follows .mixedOrders) ops t) a { w with drawn := w.drawn + 1 }) : (Code.region id ops true).wpIn (FW ro) n P Q a w :=
  fun b k cs hro hb hr => let ⟨e, a', w', q, r⟩ := h _ b k cs hro hb hr; ⟨e, a', w', q, .of_steps (.one (fenced_calm hb hr rfl) stepR_region_draw) r⟩
def OpTo (ro : Option Nat) (n : Nat) (P : Program) (ops : Array Oper) (Q : Exit -> Act -> World -> Prop) (i : Nat) (K : Act -> World -> Prop) (a : Act) (w : World) : Prop :=
  ∀ rest, (∀ a1 w1, K a1 w1 -> OpsTo (FW ro) n P ops Q rest a1 w1) -> OpsTo (FW ro) n P ops Q (i :: rest) a w
theorem OpTo.mono {i : Nat} {K K' : Act -> World -> Prop} (h : OpTo ro n P ops Q i K a w) (hk : ∀ a w, K a w -> K' a w) : OpTo ro n P ops Q i K' a w := fun rest hr => h rest fun a1 w1 h1 => hr a1 w1 (hk a1 w1 h1)
theorem fin_atR {b : Frame} {i : Nat} {rest : List Nat} {k : List Item} {o : Oper} (ho : ops[i]? = some o) (v : Value) : (b.atR a (.inRegion ops (i :: rest) :: k)).finish v = b.atR (a.put o.dst v) (.inRegion ops rest :: k) := by
  rw [Frame.finish_atR, ho]; rfl
theorem OpTo.plain {i : Nat} {o : Oper} {K : Act -> World -> Prop} (ho : ops[i]? = some o) (hw : Region.wanted o (yielded ops a.tmps) = true) {nx : Next} {u : Value} {w' : World} (hd : ∀ c, o.op ≠ .defer c)
    (hr : (execOp a.eval o).run P w = .ok nx w') (hn : nx = .value u \/ (nx = .skip /\ u = undef)) (h : K (a.put o.dst u) w') : OpTo ro n P ops Q i K a w := by
  intro rest hk b k cs hro hb hrm
  obtain ⟨e, a', w'', hq, harr⟩ := hk _ _ h b k cs hro hb hrm
  have h0 : (lone (b.atR a (.inRegion ops (i :: rest) :: k)) cs w).fenced P (FW ro) := fenced_oper hb hrm ho fun _ _ => trivial
  have hg := stepGR_op (P := P) (b := b) (k := k) (cs := cs) (w := w) (rest := rest) ho hw
  rw [Oper.semAt_eq _ _ _ hd] at hg
  refine ⟨e, a', w'', hq, .of_steps (.one h0 (step_lone_go ?_)) harr⟩
  rw [hg, <- fin_atR ho]
  rcases hn with rfl | ⟨rfl, rfl⟩ <;> simp [stepG.apply, hr]
theorem OpTo.skipped {i : Nat} {K : Act -> World -> Prop} (hw : ∀ o, ops[i]? = some o -> Region.wanted o (yielded ops a.tmps) = false) (h : K (a.put ((ops[i]?).bind (·.dst)) undef) w) : OpTo ro n P ops Q i K a w := by
  intro rest hk b k cs hro hb hrm
  obtain ⟨e, a', w'', hq, harr⟩ := hk _ _ h b k cs hro hb hrm
  have hs := stepR_op_skip (P := P) (b := b) (a := a) (k := k) (cs := cs) (w := w) (ops := ops) (i := i) (rest := rest) (by
    rcases ho : ops[i]? with _ | o
    . simp
    . simpa using hw o ho)
  rcases ho : ops[i]? with _ | o
  . rw [ho] at hs harr
    exact ⟨e, a', w'', hq, .of_steps (.one (fenced_noOper hb hrm ho) hs) harr⟩
  . rw [ho] at hs harr
    exact ⟨e, a', w'', hq, .of_steps (.one (fenced_oper hb hrm ho fun _ _ => trivial) hs) harr⟩
theorem stepG_commR {b : Frame} {k : List Item} {cs : List Frame} {i : Nat} {rest : List Nat} {o : Oper} {cases : Array CommCase} {blocking : Bool} {shape : CommShape} {w' : World} (ho : ops[i]? = some o) (hw : Region.wanted o (yielded ops a.tmps) = true)
    (hd : ∀ c, o.op ≠ .defer c) (hr : (execOp a.eval o).run P w = .ok (.comm cases blocking shape) w') :
    ∃ es, Go.stepG P true (G (b.atR a (.inRegion ops (i :: rest) :: k)) cs) w = .comm (G (b.atR a (.inRegion ops (i :: rest) :: k)) cs) cases blocking shape w' es := by
  have hg := stepGR_op (P := P) (b := b) (k := k) (cs := cs) (w := w) (rest := rest) ho hw
  rw [Oper.semAt_eq _ _ _ hd] at hg
  have key : ∃ es, stepG.apply P true (b.atR a (.inRegion ops (i :: rest) :: k)) cs none (execOp a.eval o) w = .comm (G (b.atR a (.inRegion ops (i :: rest) :: k)) cs) cases blocking shape w' es := by
    unfold stepG.apply
    simp only [Sem.runT_eq, hr, if_true]
    exact ⟨_, rfl⟩
  obtain ⟨es, he⟩ := key
  exact ⟨es, hg.trans he⟩
theorem OpTo.send {i c cap s r : Nat} {o : Oper} {K : Act -> World -> Prop} (ho : ops[i]? = some o) (hw : Region.wanted o (yielded ops a.tmps) = true) {x y : Operand} (hop : o.op = .send x y) (hx : a.eval x = .chan (some c)) {buf : Array Value}
    (hc : w.heap[c]? = some (.chan cap buf false s r false)) (hroom : buf.size < cap) (h : K (a.put o.dst undef) (w.putObj c (.chan cap (buf.push (a.eval y)) false (s + 1) r false))) : OpTo ro n P ops Q i K a w := by
  intro rest hk b k cs hro hb hrm
  obtain ⟨e, a', w'', hq, harr⟩ := hk _ _ h b k cs hro hb hrm
  have h0 : (lone (b.atR a (.inRegion ops (i :: rest) :: k)) cs w).fenced P (FW ro) := fenced_oper hb hrm ho fun _ _ => trivial
  obtain ⟨es, hg⟩ := stepG_commR (P := P) (b := b) (k := k) (cs := cs) (rest := rest) ho hw (fun c' h' => by rw [hop] at h'; cases h') (w := w) (cases := #[scase c (a.eval y) (.tuple #[])]) (blocking := true) (shape := .send) (w' := w) (by simp [execOp, hop, hx, scase])
  refine ⟨e, a', w'', hq, .of_steps (.one h0 ?_) harr⟩
  have := step_lone_send_room hg hc hroom
  rw [fin_atR ho] at this
  exact this
theorem OpTo.recv {i c cap s r : Nat} {o : Oper} {K : Act -> World -> Prop} (ho : ops[i]? = some o) (hw : Region.wanted o (yielded ops a.tmps) = true) {x : Operand} {t e : TypeId} {d : ChanDir} {z : Value} (hop : o.op = .recv t x true) (hx : a.eval x = .chan (some c))
    (ht : P.underlying t = some (.chan d e)) (hz : (zeroValue e).run P w = .ok z w) {buf : Array Value} {cl : Bool} (hc : w.heap[c]? = some (.chan cap buf cl s r false))
    (h1 : 0 < buf.size -> K (a.put o.dst (.tuple #[buf.getD 0 undef, .bool true])) (w.putObj c (.chan cap (buf.extract 1 buf.size) cl s (r + 1) false)))
    (h2 : buf.size = 0 -> cl = true /\ K (a.put o.dst (.tuple #[z, .bool false])) w) : OpTo ro n P ops Q i K a w := by
  intro rest hk b k cs hro hb hrm
  have h0 : (lone (b.atR a (.inRegion ops (i :: rest) :: k)) cs w).fenced P (FW ro) := fenced_oper hb hrm ho fun _ _ => trivial
  obtain ⟨es, hg⟩ := stepG_commR (P := P) (b := b) (k := k) (cs := cs) (rest := rest) ho hw (fun c' h' => by rw [hop] at h'; cases h') (w := w) (cases := #[rcase c z]) (blocking := true) (shape := .recv true) (w' := w) (by simp [execOp, hop, hx, rcase, run_underlying ht, hz])
  rcases Nat.eq_zero_or_pos buf.size with hb0 | hb0
  . obtain ⟨rfl, hK⟩ := h2 hb0
    obtain ⟨e, a', w'', hq, harr⟩ := hk _ _ hK b k cs hro hb hrm
    have hbe : buf = #[] := Array.size_eq_zero_iff.1 hb0
    subst hbe
    refine ⟨e, a', w'', hq, .of_steps (.one h0 ?_) harr⟩
    have := step_lone_recv_shut true hg hc
    rw [fin_atR ho] at this
    exact this
  . obtain ⟨e, a', w'', hq, harr⟩ := hk _ _ (h1 hb0) b k cs hro hb hrm
    refine ⟨e, a', w'', hq, .of_steps (.one h0 ?_) harr⟩
    have := step_lone_recv_buf true hg hc hb0
    rw [fin_atR ho] at this
    exact this
end
end Go.Lat
namespace Go.Lat
open Go.RowKit Go.Conc

section
variable {X : Nat -> Prop} {D : List Deferred × Rho} {w0 : World} {mA : Mem} {P : Program} {T : TT}
def simpleO (o : Oper) : Bool := !Op.isCall o.op && o.guard.isNone
theorem opTo_stepI (hT : TsOk P T) {ops ops' : Array Oper} {i : Nat} {K : St -> Prop} (he : ops[i]? = ops'[i]?) (hp : ∀ o, ops[i]? = some o -> simpleO o = true) {st : St} (h : stepI P T ops' i st K) {r : Rho} {m : MM} {a : Act} {w : World} (hR : R X D w0 mA r m st a w)
    {ro : Option Nat} {n : Nat} {Q : Exit -> Act -> World -> Prop} : OpTo ro n P ops Q i (fun a w => ∃ s r m, K s /\ R X D w0 mA r m s a w) a w := by
  unfold stepI at h
  rcases ho : ops'[i]? with _ | o
  . rw [ho] at h he
    refine OpTo.skipped (fun o h' => by rw [he] at h'; cases h') ?_
    rw [he]
    exact ⟨st, r, m, h, hR⟩
  . rw [ho] at h he
    have hs := hp o he
    simp only [simpleO, Bool.and_eq_true, Bool.not_eq_true', Option.isNone_iff_eq_none] at hs
    have hg := hs.2
    have h : Go.Lat.stepG P T ops'.toList o st K := h
    unfold Go.Lat.stepG at h
    rw [hg] at h
    have h : opC P T o st (fun v hp => K (St.put ⟨st.nt, st.tm, hp, st.ho⟩ o.dst v)) := h
    rw [opC_plain (fun f args tys hf => by rw [hf] at hs; cases hs.1)] at h
    obtain ⟨y, u, w', r', h', nx, hK, _, hv, hrun, hnx, hR'⟩ := opR_sound hT hR o h
    refine OpTo.plain he (by simp [Region.wanted, hg]) (fun c hc => by rw [hc] at h; exact h) hrun hnx ?_
    exact ⟨_, r', m, hK, hR'.put o.dst hv⟩

theorem Rest.head {ops : Array Oper} {A : List (List Nat)} {listed : Array Bool} {i : Nat} {l : List Nat} (hr : Rest ops A listed (i :: l)) : i ∈ Region.ready .any ops listed := by
  have h1 := hr.open' i (by simp)
  have hlt : i < ops.size := by
    rw [<- hr.size]
    rcases Nat.lt_or_ge i listed.size with h' | h'
    . exact h'
    . simp [Array.getElem?_eq_none h'] at h1
  refine mem_ready.2 ⟨h1, ops[i], by simp [hlt], fun e he hb => ?_⟩
  have hd : e.on ∈ dirs ops i := by
    simp only [dirs, Array.getElem?_eq_getElem hlt, List.mem_map, List.mem_filter]
    exact ⟨e, ⟨by simpa using he, hb⟩, rfl⟩
  by_cases hsz : e.on < ops.size
  . rcases hr.all e.on hsz with h2 | h2
    . exact h2
    . exfalso
      rcases List.mem_cons.1 h2 with h3 | h3
      . exact (hr.self i hlt _ hd).2 h3
      . have h4 := (List.pairwise_cons.1 hr.pair).1 _ h3
        simp only [relB, Bool.and_eq_true, Bool.not_eq_true'] at h4
        have h5 := h4.1
        simp at h5
        exact h5 hd
  . exact absurd (hr.self i hlt _ hd).1 hsz

theorem any_last (hT : TsOk P T) {ops ops' : Array Oper} {A : List (List Nat)} {z : Nat} {oz : Oper} (hA : chkA ops' A = true) (hsz : ops'.size = ops.size) (hsame : ∀ i, i ≠ z -> ops[i]? = ops'[i]?)
    (hrd : ∀ listed, Region.ready .any ops' listed = Region.ready .any ops listed) (hp : ∀ i o, i ≠ z -> ops[i]? = some o -> simpleO o = true) (hz' : ops'[z]? = some oz) (hzo : oz.op = .move (.const (.bool true)) /\ oz.dst = none /\ oz.guard = none)
    (hall : ∀ j, j < ops.size -> j ≠ z -> j ∈ A.getD z []) {K : St -> Prop} {ro : Option Nat} {n : Nat} {Q : Exit -> Act -> World -> Prop}
    (hK : ∀ s r m a w, K s -> R X D w0 mA r m s a w -> OpTo ro n P ops Q z (fun a w => Q .normal a w) a w) :
    ∀ (fuel t : Nat) (listed : Array Bool) (l : List Nat) (st : St) {r : Rho} {m : MM} {a : Act} {w : World}, Rest ops' A listed l -> z ∈ l -> l.length = fuel -> R X D w0 mA r m st a w -> anyS P T ops' K fuel listed st →
      OpsTo (FW ro) n P ops Q (Region.linearise.go .any ops fuel t listed []) a w := by
  intro fuel
  induction fuel with
  | zero =>
    intro t listed l st r m a w hr hzl hl hR h
    rw [List.eq_nil_of_length_eq_zero hl] at hzl
    cases hzl
  | succ fuel ih =>
    intro t listed l st r m a w hr hzl hl hR h
    obtain ⟨_, h2⟩ := h hR.wf
    simp only [Region.linearise.go]
    change OpsTo (FW ro) n P ops Q (match (Region.ready .any ops listed)[t % (Region.ready .any ops listed).length]? with
      | some i => Region.linearise.go .any ops fuel (t / (Region.ready .any ops listed).length) (listed.setIfInBounds i true) [i]
      | none => [].reverse) a w
    obtain ⟨i0, l0, rfl⟩ : ∃ i l', l = i :: l' := by
      cases l with
      | nil => cases hzl
      | cons i l' => exact ⟨i, l', rfl⟩
    have hne : (Region.ready .any ops listed).length ≠ 0 := by
      have := hr.head
      rw [hrd] at this
      intro h0
      rw [List.eq_nil_of_length_eq_zero h0] at this
      cases this
    cases hi : (Region.ready .any ops listed)[t % (Region.ready .any ops listed).length]? with
    | none =>
      have hlt : t % (Region.ready .any ops listed).length < (Region.ready .any ops listed).length := Nat.mod_lt _ (by omega)
      rw [List.getElem?_eq_getElem hlt] at hi
      cases hi
    | some i =>
      simp only []
      rw [linearise_go_acc, List.reverse_singleton, List.singleton_append]
      have hmem : i ∈ Region.ready .any ops' listed := by rw [hrd]; exact List.mem_of_getElem? hi
      have hstep := h2 i hmem
      have hil := hr.ready_mem hmem
      obtain ⟨pre, rest, hpr⟩ := List.append_of_mem hil
      rw [hpr] at hr hzl hl
      have hnext := hr.next hmem
      by_cases hiz : i = z
      . subst hiz
        have hltz : i < ops'.size := (Array.getElem?_eq_some_iff.1 hz').1
        have hlist : ∀ j, j < ops'.size -> (listed.setIfInBounds i true).getD j false = true := fun j hj => by
          by_cases hji : j = i
          . subst hji
            have := hr.size
            simp [this, hltz]
          . exact getD_set_true (hr.anc hA i (dirs_ready hmem) j (hall j (by omega) hji) hltz)
        have hnil : Region.ready .any ops (listed.setIfInBounds i true) = [] := by
          rw [<- hrd]
          rcases hq : Region.ready .any ops' (listed.setIfInBounds i true) with _ | ⟨j, l'⟩
          . rfl
          . have hj : j ∈ Region.ready .any ops' (listed.setIfInBounds i true) := by rw [hq]; simp
            obtain ⟨e1, o, ho, _⟩ := mem_ready.1 hj
            have := hlist j (Array.getElem?_eq_some_iff.1 ho).1
            rw [getD_tf e1] at this
            cases this
        have hst : anyS P T ops' K fuel (listed.setIfInBounds i true) st := by
          unfold stepI at hstep
          rw [hz'] at hstep
          have hstep : Go.Lat.stepG P T ops'.toList oz st (fun s => anyS P T ops' K fuel (listed.setIfInBounds i true) s) := hstep
          unfold Go.Lat.stepG at hstep
          rw [hzo.2.2] at hstep
          have hstep : opC P T oz st (fun v hp => anyS P T ops' K fuel (listed.setIfInBounds i true) (St.put ⟨st.nt, st.tm, hp, st.ho⟩ oz.dst v)) := hstep
          unfold opC at hstep
          rw [hzo.1, hzo.2.1] at hstep
          exact hstep
        have hKst : K st := by
          cases fuel with
          | zero => exact hst.2
          | succ f => exact (hst hR.wf).1 (by rw [hrd]; exact hnil)
        refine hK st r m a w hKst hR _ fun a1 w1 hq => ?_
        have : Region.linearise.go .any ops fuel (t / (Region.ready .any ops listed).length) (listed.setIfInBounds i true) [] = [] := by
          cases fuel with
          | zero => rfl
          | succ f =>
            simp only [Region.linearise.go]
            change (match (Region.ready .any ops (listed.setIfInBounds i true))[(t / (Region.ready .any ops listed).length) % (Region.ready .any ops (listed.setIfInBounds i true)).length]? with
              | some i' => Region.linearise.go .any ops f ((t / (Region.ready .any ops listed).length) / (Region.ready .any ops (listed.setIfInBounds i true)).length) ((listed.setIfInBounds i true).setIfInBounds i' true) [i']
              | none => [].reverse) = []
            rw [hnil]
            rfl
        rw [this]
        exact OpsTo.nil hq
      . refine opTo_stepI hT (hsame i hiz) (fun o ho => hp i o hiz ho) hstep hR _ ?_
        rintro a1 w1 ⟨s, r1, m1, hs, hR1⟩
        refine ih _ _ (pre ++ rest) s hnext ?_ (by simp at hl ⊢; omega) hR1 hs
        rcases List.mem_append.1 hzl with h3 | h3
        . exact List.mem_append_left _ h3
        . rcases List.mem_cons.1 h3 with h4 | h4
          . exact absurd h4.symm hiz
          . exact List.mem_append_right _ h4
end

theorem W.sendD {P : Program} {T : TT} {st : St} {Q : Ex -> St -> Prop} {c : Code} {id : Nat} {ol A : List Oper} {x y : Operand} {ty : TypeId} {pos : String} {af : Array Edge} (ord : List Nat) (hl : ol = A ++ [⟨none, .send x y, ty, pos, af, none⟩])
    (hc : chk (A ++ [(⟨none, .move (.const (.bool true)), ty, pos, af, none⟩ : Oper)]).toArray ord = true) (hin : allIn (A ++ [(⟨none, .move (.const (.bool true)), ty, pos, af, none⟩ : Oper)]) ord = true) (hs : A.all simpleO = true)
    (ha : (List.range A.length).all (fun j => ((ancs (A ++ [(⟨none, .move (.const (.bool true)), ty, pos, af, none⟩ : Oper)]).toArray).getD A.length []).contains j) = true)
    (h : seqL P T (A ++ [(⟨none, .move (.const (.bool true)), ty, pos, af, none⟩ : Oper)]) [] 0 (pickL (A ++ [(⟨none, .move (.const (.bool true)), ty, pos, af, none⟩ : Oper)]) ord) st fun s =>
      ∃ (i cap : Nat) (buf : List AV), St.eval s x = .chn i /\ s.heap[i]? = some (.chan cap false buf) /\ buf.length < cap /\ W P T c { s with heap := s.heap.set i (.chan cap false (buf ++ [St.eval s y])) } Q) :
    W P T (.seq (.region id ol.toArray true) c) st Q := fun hT hf ro hro n X D w0 mA r m a w hR => by
  subst hl
  have hro2 : ro ≠ none -> noRg c = true := fun h0 => by have := hro h0; simpa only [noRg, Bool.and_eq_true, true_and] using this
  refine wpIn_seq (wpIn_region_draw_to fun t => ?_)
  have hR' : R X D w0 mA r m st a { w with drawn := w.drawn + 1 } := { hR with }
  obtain ⟨h1, h2, h3⟩ := chk_rest hc
  have hany := any_of_seq (P := P) (T := T) h1 _ _ ord st h2 h3 (seqL_seqI (G := []) ord _ 0 st (pickL_spec hin) h)
  simp only [Region.schedule, hf, Bool.true_or, if_true]
  have gl : ∀ i, i ≠ A.length -> (A ++ [(⟨none, .send x y, ty, pos, af, none⟩ : Oper)]).toArray[i]? = (A ++ [(⟨none, .move (.const (.bool true)), ty, pos, af, none⟩ : Oper)]).toArray[i]? := fun i hi => by
    simp only [List.getElem?_toArray]
    rcases Nat.lt_or_ge i A.length with hlt | hge
    . rw [List.getElem?_append_left hlt, List.getElem?_append_left hlt]
    . rw [List.getElem?_eq_none (by simp; omega), List.getElem?_eq_none (by simp; omega)]
  have hsz : (A ++ [(⟨none, .send x y, ty, pos, af, none⟩ : Oper)]).toArray.size = (A ++ [(⟨none, .move (.const (.bool true)), ty, pos, af, none⟩ : Oper)]).toArray.size := by simp
  show OpsTo _ _ _ _ _ (Region.linearise .any _ t) _ _
  unfold Region.linearise
  rw [hsz]
  refine any_last hT h1 hsz.symm gl ?_ ?_ (z := A.length) (oz := ⟨none, .move (.const (.bool true)), ty, pos, af, none⟩) (by simp) ⟨rfl, rfl, rfl⟩ ?_ ?_ _ t _ ord st h2 ?_ h3 hR' hany
  . intro listed
    unfold Region.ready
    rw [hsz]
    refine List.filter_congr fun i hi => ?_
    by_cases e : i = A.length
    . subst e; simp
    . rw [gl i e]
  . intro i o hi ho
    rw [List.getElem?_toArray] at ho
    rcases Nat.lt_or_ge i A.length with hlt | hge
    . rw [List.getElem?_append_left hlt] at ho
      exact List.all_eq_true.1 hs o (List.mem_of_getElem? ho)
    . rw [List.getElem?_eq_none (by simp; omega)] at ho; cases ho
  . intro j hj hne
    have hlt : j < A.length := by simp at hj; omega
    have := List.all_eq_true.1 ha j (by simpa using hlt)
    simpa using this
  . rintro s r1 m1 a1 w1 ⟨i, cap, buf, e1, e2, e3, hW⟩ hR1
    have hx := hR1.eval x
    rw [e1] at hx
    simp only [VR] at hx
    obtain ⟨b, c0, hb, hx⟩ := hx
    obtain ⟨b', c', bv, s0, rc, f1, f2, f3⟩ := hR1.obj i _ e2
    rw [hb] at f1; cases f1
    have hlen := f3.length
    simp only [Array.length_toList] at hlen
    have hlt := (Array.getElem?_eq_some_iff.1 f2).1
    refine OpTo.send (by simp; rfl) (by simp [Region.wanted]) (x := x) (y := y) rfl hx f2 (by omega) ?_
    have hR2 : R X D w0 mA r1 m1 { s with heap := s.heap.set i (.chan cap false (buf ++ [St.eval s y])) } a1 (w1.putObj b (.chan cap (bv.push (a1.eval y)) false (s0 + 1) rc false)) :=
      hR1.modify e2 rfl hb (grownBy_putObj' w1 b _) ⟨b, c0, _, s0 + 1, rc, hb, World.putObj_heap_same hlt, by rw [Array.toList_push]; exact f3.app (VRs.one (hR1.eval y))⟩
    exact wpIn_mono (hW hT hf ro hro2 n X D w0 mA r1 m1 a1 _ hR2) fun _ _ _ => relQ_weak fun hh => by simpa only [noRg, Bool.and_eq_true, true_and] using hh
  . have := h2.all A.length (by simp)
    rcases this with h4 | h4
    . exfalso
      rw [Array.getD_eq_getD_getElem?] at h4
      simp at h4
    . exact h4
end Go.Lat
namespace Go.Lat
open Go.RowKit
def encC {α : Type} (e : α -> List AV) (xs : List α) : List AV := xs.map fun x => .agg (e x)
theorem zeros_encL {α : Type} {e : α -> List AV} {sz : Nat} (hw : Wd e sz) (x : α) (n : Nat) : zerosA n sz (e x) = zYy e (List.replicate n x) := by
  apply List.ext_getElem?
  intro i
  unfold zerosA
  rcases Nat.lt_or_ge i (n * sz) with h | h
  . rw [List.getElem?_map, List.getElem?_range h]
    have hsz : 0 < sz := by
      rcases Nat.eq_zero_or_pos sz with h0 | h0
      . subst h0; simp at h
      . exact h0
    have hq : i / sz < n := Nat.div_lt_of_lt_mul (by rw [Nat.mul_comm]; exact h)
    have e1 : i = i / sz * sz + i % sz := by rw [Nat.mul_comm]; exact (Nat.div_add_mod i sz).symm
    have e2 := encL_drop hw (List.replicate n x) (i / sz)
    have e3 : (List.replicate n x).drop (i / sz) = x :: (List.replicate n x).drop (i / sz + 1) := by
      rw [List.drop_eq_getElem_cons (by simpa using hq)]; simp
    rw [e3, encL_cons] at e2
    have hm : i % sz < (e x).length := by rw [hw]; exact Nat.mod_lt _ hsz
    have e4 : (zYy e (List.replicate n x))[i]? = ((zYy e (List.replicate n x)).drop (i / sz * sz))[i % sz]? := by
      rw [List.getElem?_drop, <- e1]
    rw [e4, e2, List.getElem?_append_left hm]
    simp [List.getD, List.getElem?_eq_getElem hm]
  . rw [List.getElem?_eq_none (by simpa using h), List.getElem?_eq_none (by rw [zYw hw, List.length_replicate]; exact h)]
section
variable {P : Program} {T : TT} {d : Option Tmp} {ty : TypeId} {pos : String} {af : Array Edge} {g : Option (Nat × Bool)} {n : Nat} {l : List (Nat × AV)} {h : List AObj} {b : Nat} {K : AV -> List AObj -> Prop} {a a2 a3 : Operand}
theorem o_mkS {t e : TypeId} {s by_ es eb p : Nat} {z ez : List AV} {ek : TK} {α : Type} {en : α -> List AV} {x0 : α} {x : Int} (ht : T t = some ⟨.sl e, s, by_, z⟩) (he : T e = some ⟨ek, es, eb, ez⟩) (hb : (Nat.ble 1 es && Nat.ble eb 131072) = true)
    (h1 : St.eval ⟨n, look l, h, b⟩ a = .int .i64 x) (h2 : St.eval ⟨n, look l, h, b⟩ a2 = .int .i64 x) (hw : Wd en es) (hz : ez = en x0) (hx : 0 <= x /\ x <= 1073741824) (hp : h.length = p) (hk : K (.ref false p x.toNat) (h ++ [.row e es (zYy en (List.replicate x.toNat x0))])) :
    opC P T ⟨d, .makeSlice t a a2, ty, pos, af, g⟩ ⟨n, look l, h, b⟩ K := by
  subst hp; subst hz
  show makeSliceA T h t (St.eval ⟨n, look l, h, b⟩ a) (St.eval ⟨n, look l, h, b⟩ a2) K
  simp only [Bool.and_eq_true] at hb
  rw [h1, h2]; simp only [makeSliceA, ht, he]
  rw [zeros_encL hw]
  exact ⟨⟨trivial, hx.1, hx.2, Nat.le_of_ble_eq_true hb.1, Nat.le_of_ble_eq_true hb.2⟩, hk⟩
theorem o_mkC {α : Type} (en : α -> List AV) {t e : TypeId} {s by_ es eb p : Nat} {z ez : List AV} {ek : TK} {x : Int} (ht : T t = some ⟨.ch e, s, by_, z⟩) (he : T e = some ⟨ek, es, eb, ez⟩) (hb : Nat.ble eb 131072 = true) (h1 : St.eval ⟨n, look l, h, b⟩ a = .int .i64 x) (hx : 0 <= x /\ x <= 65536) {c : Nat} (hc : x.toNat = c) (hp : h.length = p)
    (hk : K (.chn p) (h ++ [.chan c false (encC en [])])) : opC P T ⟨d, .makeChan t a, ty, pos, af, g⟩ ⟨n, look l, h, b⟩ K := by
  subst hp; subst hc
  show makeChanA T h t (St.eval ⟨n, look l, h, b⟩ a) K
  rw [h1]; simp only [makeChanA, ht, he]
  exact ⟨⟨hx.1, hx.2, Nat.le_of_ble_eq_true hb⟩, hk⟩
theorem o_close {i c : Nat} {buf : List AV} {tys : Array TypeId} (h1 : St.eval ⟨n, look l, h, b⟩ a = .chn i) (ho : h[i]? = some (.chan c false buf)) (hk : K (.tup []) (h.set i (.chan c true buf))) : opC P T ⟨d, .call ⟨.builtin .close, #[a], tys⟩, ty, pos, af, g⟩ ⟨n, look l, h, b⟩ K := by
  show closeA h (St.eval ⟨n, look l, h, b⟩ a) K
  rw [h1]; simp only [closeA, ho]
  exact hk
theorem wdV {q : Nat} : Wd (fun v : Vector Int q => zYy zYx v.toList) q := fun v => by
  show (zYy zYx v.toList).length = q
  rw [ints_map]; simp
theorem ca_rowV {q : Nat} {xs : List (Vector Int q)} {t id : Nat} {i : Int} {k : Nat} (ho : h[id]? = some (.row t q (zYy (fun v : Vector Int q => zYy zYx v.toList) xs))) (hj : 0 <= i /\ i < (xs.length : Int)) (hk : k < q) :
    ∃ rest, cellsAt h (.ptr id (i.toNat * q + k)) = some (.int .i64 (vat (lat xs i) k) :: rest) := by
  obtain ⟨rest, hr⟩ := encL_at' wdV xs i k (Nat.le_of_lt hk) hj.1 hj.2
  obtain ⟨r2, hr2⟩ := ints_at (lat xs i) k hk
  refine ⟨r2 ++ rest, ?_⟩
  simp only [cellsAt, ho, hr]
  rw [hr2]; rfl
theorem row_inV {q : Nat} {xs : List (Vector Int q)} {i : Int} (hj : 0 <= i /\ i < (xs.length : Int)) {k : Nat} (hk : k < q) : i.toNat * q + k + [AV.int .i64 0].length <= (zYy (fun v : Vector Int q => zYy zYx v.toList) xs).length := by
  rw [zYw wdV]
  have hj' : i.toNat < xs.length := by omega
  have := Nat.mul_le_mul_right q hj'
  rw [Nat.succ_mul] at this
  show _ + 1 <= _
  omega
theorem row_setV {q : Nat} (xs : List (Vector Int q)) {i : Int} (hj : 0 <= i /\ i < (xs.length : Int)) {k : Nat} (hk : k < q) (v : Int) :
    Lat.spl (zYy (fun v : Vector Int q => zYy zYx v.toList) xs) (i.toNat * q + k) [.int .i64 v] = zYy (fun v : Vector Int q => zYy zYx v.toList) (xs.set i.toNat (vset (lat xs i) k v)) := by
  have hw : Wd (fun v : Vector Int q => zYy zYx v.toList) q := wdV
  have hlt : i.toNat < xs.length := by omega
  have hlen : (zYy (fun v : Vector Int q => zYy zYx v.toList) xs).length = xs.length * q := zYw hw xs
  have hle : i.toNat * q + q <= xs.length * q := by
    have := Nat.mul_le_mul_right q hlt
    rw [Nat.succ_mul] at this
    exact this
  have hs := ints_set (lat xs i) k v
  have hr0 := row_set hw xs i (vset (lat xs i) k v) rfl hj.1 hj.2
  have hlB : (zYy zYx (lat xs i).toList).length = q := by rw [ints_map]; simp
  have hlC : (zYy zYx (vset (lat xs i) k v).toList).length = q := by rw [ints_map]; simp
  rw [Lat.spl_eq _ _ _ (by rw [hlB]; show k + 1 <= q; omega)] at hs
  rw [Lat.spl_eq _ _ _ (by rw [hlen]; show _ + (zYy zYx (vset (lat xs i) k v).toList).length <= _; rw [hlC]; exact hle)] at hr0
  rw [Lat.spl_eq _ _ _ (by rw [hlen]; show i.toNat * q + k + 1 <= _; omega), <- hr0]
  show _ = _ ++ zYy zYx (vset (lat xs i) k v).toList ++ List.drop (_ + (zYy zYx (vset (lat xs i) k v).toList).length) _
  rw [hlC, <- hs]
  obtain ⟨rest, hr⟩ := encL_at hw xs i hj.1 hj.2
  have hl : (zYy zYx (lat xs i).toList).length = q := by rw [ints_map]; simp
  generalize zYy (fun v : Vector Int q => zYy zYx v.toList) xs = A at *
  generalize zYy zYx (lat xs i).toList = B at *
  generalize i.toNat * q = m at *
  have e1 : A = A.take m ++ (B ++ rest) := by rw [<- hr, List.take_append_drop]
  have hm : (A.take m).length = m := by rw [List.length_take]; omega
  have f1 : A.take (m + k) = A.take m ++ B.take k := by
    conv => lhs; rw [e1]
    rw [List.take_append, hm, List.take_of_length_le (by omega), show m + k - m = k by omega, List.take_append, show k - B.length = 0 by omega]; simp
  have f2 : A.drop (m + k + 1) = B.drop (k + 1) ++ rest := by
    conv => lhs; rw [e1]
    rw [List.drop_append, hm, List.drop_of_length_le (by omega), show m + k + 1 - m = k + 1 by omega, List.drop_append, show k + 1 - B.length = 0 by omega]; simp
  have f3 : A.drop (m + q) = rest := by
    conv => lhs; rw [e1]
    rw [List.drop_append, hm, List.drop_of_length_le (by omega), show m + q - m = q by omega, List.drop_append, List.drop_of_length_le (by omega), hl]; simp
  show A.take (m + k) ++ [AV.int .i64 v] ++ A.drop (m + k + 1) = A.take m ++ (B.take k ++ [AV.int .i64 v] ++ B.drop (k + 1)) ++ A.drop (m + q)
  rw [f1, f2, f3]
  simp
theorem ag_subA (k : Nat) {id t q m : Nat} {i : Int} {xs : List (Vector Int q)} {ys : List Int} (ho : h[id]? = some (.row t q (zYy (fun v : Vector Int q => zYy zYx v.toList) xs))) (hj : 0 <= i /\ i < (xs.length : Int)) (hy : (lat xs i).toList.take m = ys) (hm : m = ys.length) :
    Wk (conv (k + 2) h (.sub id (i.toNat * q) m)) (.lst true ys.length (zYy zYx ys)) := by
  subst hm
  simp only [conv, ho]
  split
  . rename_i h0
    have : ys = [] := List.eq_nil_of_length_eq_zero h0
    subst this
    exact Wk.refl _
  . obtain ⟨rest, hr⟩ := encL_at wdV xs i hj.1 hj.2
    rw [hr, List.map_append]
    refine (Wk.lsts _ _ (Wks.app (encL_cv zZw k h true (lat xs i).toList) (Wks.refl _) (by rw [List.length_map]))).trans ?_
    have e2 := encL_take wdInt (lat xs i).toList ys.length
    rw [hy] at e2
    have e3 : (zYy zYx (lat xs i).toList ++ rest.map (conv (k + 1) h)).take (ys.length * 1) = zYy zYx ys := by
      have hle : ys.length <= (lat xs i).toList.length := by rw [<- hy, List.length_take]; omega
      rw [List.take_append, ints_map (lat xs i).toList, List.length_map, show ys.length * 1 - (lat xs i).toList.length = 0 by omega, List.take_zero, List.append_nil, <- ints_map, e2]
    rw [<- e3]
    exact Wk.take _ _ _ _
end
theorem encC_one {α : Type} (e : α -> List AV) (xs : List α) (x : α) : encC e xs ++ [.agg (e x)] = encC e (xs ++ [x]) := by simp [encC]
theorem flatC_enc {α : Type} {e : α -> List AV} (hf : ∀ x, (e x).all flatV = true) (k : Nat) (cl : Bool) (xs : List α) : flatC (.chan k cl (encC e xs)) := by
  intro c hc
  obtain ⟨x, -, rfl⟩ := List.mem_map.1 hc
  exact hf x
theorem Rens.encC {α : Type} {e : α -> List AV} (hf : ∀ x, (e x).all flatV = true) (φ : List (Option Nat)) (xs : List α) : Rens φ (encC e xs) (Lat.encC e xs) := fun r m vs hm hv => VRs_flatB (fun c hc => by
  obtain ⟨x, -, rfl⟩ := List.mem_map.1 hc
  exact hf x) hv
section
variable {P : Program} {T : TT} {Q : Ex -> St -> Prop} {c : Code} {n : Nat} {l : List (Nat × AV)} {h : List AObj} {b : Nat}
theorem sndE {α : Type} {e : α -> List AV} {xs : List α} {x : α} {i cap : Nat} {xo yo : Operand} (h1 : St.eval ⟨n, look l, h, b⟩ xo = .chn i) (h2 : h[i]? = some (.chan cap false (encC e xs))) (hl : xs.length < cap) (hv : St.eval ⟨n, look l, h, b⟩ yo = .agg (e x))
    (hk : W P T c ⟨n, look l, h.set i (.chan cap false (encC e (xs ++ [x]))), b⟩ Q) :
    ∃ (i cap : Nat) (buf : List AV), St.eval ⟨n, look l, h, b⟩ xo = .chn i /\ (St.mk n (look l) h b).heap[i]? = some (.chan cap false buf) /\ buf.length < cap /\ W P T c { (St.mk n (look l) h b) with heap := (St.mk n (look l) h b).heap.set i (.chan cap false (buf ++ [St.eval ⟨n, look l, h, b⟩ yo])) } Q :=
  ⟨i, cap, _, h1, h2, by simpa [encC] using hl, by rw [hv, encC_one]; exact hk⟩
end
theorem W.rcv {P : Program} {T : TT} {Q : Ex -> St -> Prop} {c : Code} {n : Nat} {l : List (Nat × AV)} {h : List AObj} {b : Nat} {id d i cap : Nat} {α : Type} {e : α -> List AV} {xs : List α} {B : List Oper} {t et : TypeId} {s by_ es eb : Nat} {z ez : List AV} {ek : TK} {x : Operand} {ty : TypeId} {pos : String} {af : Array Edge}
    (ht : T t = some ⟨.ch et, s, by_, z⟩) (he : T et = some ⟨ek, es, eb, ez⟩) (hB : B.all simpleO = true) (h1 : St.eval ⟨n, look l, h, b⟩ x = .chn i) (h2 : h[i]? = some (.chan cap true (encC e xs))) (hd : Nat.ble (d + 1) n = true)
    (hk1 : ∀ y ys, xs = y :: ys -> seqL P T (⟨some d, .recv t x true, ty, pos, af, none⟩ :: B) [] 1 B ⟨n, look ((d, .tup [.agg (e y), .bool true]) :: l), h.set i (.chan cap true (encC e ys)), b⟩ fun s => W P T c s Q)
    (hk2 : xs = [] -> seqL P T (⟨some d, .recv t x true, ty, pos, af, none⟩ :: B) [] 1 B ⟨n, look ((d, .tup [.any, .bool false]) :: l), h, b⟩ fun s => W P T c s Q) :
    W P T (.seq (.region id (⟨some d, .recv t x true, ty, pos, af, none⟩ :: B).toArray false) c) ⟨n, look l, h, b⟩ Q := fun hT hf ro hro N X D w0 mA r m a w hR => by
  have hro2 : ro ≠ none -> noRg c = true := fun h0 => by have := hro h0; simpa only [noRg, Bool.and_eq_true, true_and] using this
  generalize hol : (⟨some d, .recv t x true, ty, pos, af, none⟩ :: B : List Oper) = ol at *
  have hdn : d < n := Nat.le_of_ble_eq_true hd
  have hx := hR.eval x
  rw [h1] at hx
  simp only [VR] at hx
  obtain ⟨bb, c0, hb, hx⟩ := hx
  obtain ⟨b', c', bv, s0, rc, f1, f2, f3⟩ := hR.obj i _ h2
  rw [hb] at f1; cases f1
  have hlt := (Array.getElem?_eq_some_iff.1 f2).1
  obtain ⟨zz, hz, hzv, hz1⟩ := (hT et _ he).run_zero (P := P) w
  obtain ⟨dd, hch⟩ := (hT t _ ht).kind
  -- what follows
  have tail : ∀ (l' : List Oper) (j : Nat) {r : Rho} {m : MM} {st : St} {a : Act} {w : World}, R X D w0 mA r m st a w -> seqL P T ol [] j l' st (fun s => W P T c s Q) -> (∀ k o, l'[k]? = some o -> ol[j + k]? = some o /\ simpleO o = true) →
      OpsTo (FW ro) N P ol.toArray (fun e a w => Exit.then (c.wpIn (FW ro) N P (relQ (noRg c) X D w0 mA Q)) (relQ (noRg c) X D w0 mA Q) e a w) (List.range' j l'.length) a w := by
    intro l'
    induction l' with
    | nil => intro j r m st a w hR' hs _; exact OpsTo.nil (hs hT hf ro hro2 N X D w0 mA r m a w hR')
    | cons o l' ih =>
      intro j r m st a w hR' hs hg
      obtain ⟨g1, g2⟩ := hg 0 o rfl
      rw [Nat.add_zero] at g1
      rw [List.length_cons, List.range'_succ]
      have hstep : stepI P T ol.toArray j st (fun s => seqL P T ol [] (j + 1) l' s fun s => W P T c s Q) := by
        unfold stepI
        rw [List.getElem?_toArray, g1]
        have hs : Lat.stepG P T ol o st fun s => splitT (List.contains [] j) o.dst s fun s' => seqL P T ol [] (j + 1) l' s' fun s => W P T c s Q := hs
        exact stepG_mono' (ops := ol.toArray) hs fun s h => splitT_sound h
      refine opTo_stepI hT rfl (fun o' ho' => ?_) hstep hR' _ ?_
      . rw [List.getElem?_toArray, g1] at ho'
        cases ho'; exact g2
      . rintro a1 w1 ⟨s1, r1, m1, q1, q2⟩
        exact ih (j + 1) q2 q1 fun k o' hk => by
          have := hg (k + 1) o' (by simpa using hk)
          rw [show j + (k + 1) = j + 1 + k by omega] at this
          exact this
  have hB' : ∀ k o, B[k]? = some o -> ol[1 + k]? = some o /\ simpleO o = true := fun k o hk => by
    rw [<- hol, Nat.add_comm]
    exact ⟨by simpa using hk, List.all_eq_true.1 hB o (List.mem_of_getElem? hk)⟩
  refine wpIn_seq (wpIn_mono (Q := fun e a w => Exit.then (c.wpIn (FW ro) N P (relQ (noRg c) X D w0 mA Q)) (relQ (noRg c) X D w0 mA Q) e a w) (wpIn_region_to ?_) fun e' a' w' he' => ?_)
  . have e1 : List.range ol.toArray.size = 0 :: List.range' 1 B.length := by
      rw [<- hol, List.range_eq_range']; simp [List.range'_succ]
    rw [e1]
    have g0 : ol.toArray[0]? = some ⟨some d, .recv t x true, ty, pos, af, none⟩ := by rw [<- hol]; rfl
    refine OpTo.recv (K := fun a1 w1 => OpsTo (FW ro) N P ol.toArray (fun e a w => Exit.then (c.wpIn (FW ro) N P (relQ (noRg c) X D w0 mA Q)) (relQ (noRg c) X D w0 mA Q) e a w) (List.range' 1 B.length) a1 w1) g0 (by simp [Region.wanted]) rfl hx hch hz f2 (fun hp => ?_) (fun h0 => ?_) _ fun _ _ hk => hk
    . have hlen := f3.length
      cases xs with
      | nil => simp only [encC, List.map_nil, List.length_nil, Array.length_toList] at hlen; omega
      | cons y ys =>
        have f3' := f3
        simp only [encC, List.map_cons, VRs] at f3'
        obtain ⟨v, vs', e2, e3, e4⟩ := f3'
        have hR2 : R X D w0 mA r m ⟨n, look l, h.set i (.chan cap true (encC e ys)), b⟩ a (w.putObj bb (.chan cap (bv.extract 1 bv.size) true s0 (rc + 1) false)) :=
          hR.modify h2 rfl hb (grownBy_putObj' w bb _) ⟨bb, c0, _, s0, rc + 1, hb, World.putObj_heap_same hlt, by
            have : (bv.extract 1 bv.size).toList = vs' := by
              rw [Array.toList_extract, e2]
              simp [<- Array.length_toList, e2]
            rw [this]; exact e4⟩
        have hgv : bv.getD 0 undef = v := by
          rw [Array.getD_eq_getD_getElem?, <- Array.getElem?_toList, e2]; rfl
        have hR3 := hR2.put (some d) (x := .tup [.agg (e y), .bool true]) (v := .tuple #[bv.getD 0 undef, .bool true]) (by
          rw [hgv]
          simp only [VR, VRs]
          exact ⟨_, rfl, v, [.bool true], rfl, by simpa only [VR] using e3, _, [], rfl, rfl, rfl⟩)
        have hst : St.put ⟨n, look l, h.set i (.chan cap true (encC e ys)), b⟩ (some d) (.tup [.agg (e y), .bool true]) = ⟨n, look ((d, .tup [.agg (e y), .bool true]) :: l), h.set i (.chan cap true (encC e ys)), b⟩ := by
          simp only [St.put, if_pos hdn]; congr 1
        rw [hst] at hR3
        exact tail B 1 hR3 (hk1 y ys rfl) hB'
    . have hlen := f3.length
      have hx0 : xs = [] := by
        cases xs with
        | nil => rfl
        | cons y ys => simp only [encC, List.map_cons, List.length_cons, Array.length_toList] at hlen; omega
      have hR3 := hR.put (some d) (x := .tup [.any, .bool false]) (v := .tuple #[zz, .bool false]) (by
        simp only [VR, VRs]
        exact ⟨_, rfl, zz, [.bool false], rfl, trivial, _, [], rfl, rfl, rfl⟩)
      have hst : St.put ⟨n, look l, h, b⟩ (some d) (.tup [.any, .bool false]) = ⟨n, look ((d, .tup [.any, .bool false]) :: l), h, b⟩ := by
        simp only [St.put, if_pos hdn]; congr 1
      rw [hst] at hR3
      exact ⟨rfl, tail B 1 hR3 (hk2 hx0) hB'⟩
  . cases e' <;> simp only [Exit.then] at he' ⊢
    case normal => exact wpIn_mono he' fun _ _ _ => relQ_weak fun hh => by simpa only [noRg, Bool.and_eq_true, true_and] using hh
    all_goals exact relQ_weak (fun hh => by simpa only [noRg, Bool.and_eq_true, true_and] using hh) he'
theorem W.sendK {P : Program} {T : TT} {st : St} {Q : Ex -> St -> Prop} {c : Code} {id : Nat} {ol : List Oper} {x y : Operand} {ty : TypeId} {pos : String} {af : Array Edge} (k : Nat) (ord : List Nat) (hz : ol[k]? = some ⟨none, .send x y, ty, pos, af, none⟩) (hlen : ol.length = k + 1)
    (hc : chk (ol.take k ++ [(⟨none, .move (.const (.bool true)), ty, pos, af, none⟩ : Oper)]).toArray ord = true) (hin : allIn (ol.take k ++ [(⟨none, .move (.const (.bool true)), ty, pos, af, none⟩ : Oper)]) ord = true) (hs : (ol.take k).all simpleO = true)
    (ha : (List.range (ol.take k).length).all (fun j => ((ancs (ol.take k ++ [(⟨none, .move (.const (.bool true)), ty, pos, af, none⟩ : Oper)]).toArray).getD (ol.take k).length []).contains j) = true)
    (h : seqL P T (ol.take k ++ [(⟨none, .move (.const (.bool true)), ty, pos, af, none⟩ : Oper)]) [] 0 (pickL (ol.take k ++ [(⟨none, .move (.const (.bool true)), ty, pos, af, none⟩ : Oper)]) ord) st fun s =>
      ∃ (i cap : Nat) (buf : List AV), St.eval s x = .chn i /\ s.heap[i]? = some (.chan cap false buf) /\ buf.length < cap /\ W P T c { s with heap := s.heap.set i (.chan cap false (buf ++ [St.eval s y])) } Q) :
    W P T (.seq (.region id ol.toArray true) c) st Q :=
  W.sendD ord (by
    have h1 : ol = ol.take k ++ ol.drop k := (List.take_append_drop k ol).symm
    have hk : k < ol.length := by omega
    rw [List.getElem?_eq_getElem hk] at hz
    rw [List.drop_eq_getElem_cons hk, Option.some.inj hz, List.drop_eq_nil_of_le (by omega)] at h1
    exact h1) hc hin hs ha h
end Go.Lat
namespace Go.Lat
open Go.RowKit
section
variable {X : Nat -> Prop} {D : List Deferred × Rho} {w0 : World} {mA : Mem} {r : Rho} {m : MM} {st : St} {a : Act} {w : World}
theorem R.sealP (h : R X D w0 mA r m st a w) (hho : st.ho = 0) (fl : Bool) {id : Nat} {t : TypeId} {cs cs' : List AV} (ho : st.heap[id]? = some (.box t cs)) (hc : SealVs fl cs cs') :
    ∃ m', MLe m m' /\ R X D w0 mA r m' { st with heap := st.heap.set id .dead } a w /\ ∀ v, VR r m (.ptr id 0) v -> VR r m' (.ipt fl cs') v := by
  obtain ⟨b, c, cur, e1, e2, e3, e7⟩ := h.obj id _ ho
  have hlv : (AObj.box t cs).live = true := rfl
  have hk := h.kill id
  have hbn : w0.heap.size <= b := (h.own id _ b c ho hlv e1).resolve_right ((h.nox hho).1 b)
  have hbl := h.lt id _ b c ho hlv e1
  obtain ⟨m', hle, hle2, hR⟩ := hk.learn (fl := fl) (mR := fun p => if p.block = b then w.cell? p else none) (fun p u hu => by
    split at hu
    . rename_i hb; subst hb; exact ⟨hu, hbl⟩
    . cases hu) (fun p u hu => by
    split at hu
    . rename_i hb
      refine .inl ⟨by rw [hb]; exact hbn, fun i o b' c' hi hl hr hbb => ?_⟩
      simp only at hi
      by_cases hii : id = i
      . subst hii
        rw [List.getElem?_set_self (List.getElem?_eq_some_iff.1 ho).1] at hi
        cases hi
        cases hl
      . rw [List.getElem?_set_ne hii] at hi
        have e : b' = b := hbb.symm.trans hb
        subst e
        exact hii (h.inj id i _ o b' c c' ho hi hlv hl e1 hr)
    . cases hu)
  refine ⟨m', hle, hR, fun v hv => ?_⟩
  have low' : Low m' := fun p v hv => hR.low p v hv
  simp only [VR] at hv ⊢
  obtain ⟨b', c', h1, rfl⟩ := hv
  rw [e1] at h1
  cases h1
  refine ⟨_, cur.toList, rfl, fun i u hu => ⟨?_, e3 u (List.mem_of_getElem? hu)⟩, hc r m' _ low' (e7.mono (RLe.refl r) hle)⟩
  have hcell : w.cell? ((⟨b, 0, none⟩ : Addr).add i) = some u := by
    rw [Addr.add_lit]
    simp only [World.cell?, e2]
    simpa using hu
  have hr0 : (fun p : Addr => if p.block = b then w.cell? p else none) ((⟨b, 0, none⟩ : Addr).add i) = some u := by
    simp only
    rw [if_pos (block_add _ _)]
    exact hcell
  cases fl with
  | true => exact hle2 true _ _ hr0
  | false => exact hle2 false _ _ hr0
end
def sealPT (fl : Bool) (id : Nat) (cs' : List AV) (tm : Nat -> AV) : List (Nat × AV) -> Prop
  | [] => True
  | (t, v) :: l => (v = tm t \/ (tm t = .ptr id 0 /\ v = .ipt fl cs')) /\ sealPT fl id cs' tm l
theorem W.sealP {P : Program} {T : TT} {Q : Ex -> St -> Prop} {c : Code} (fl : Bool) (id : Nat) {n : Nat} {t : TypeId} {cs cs' : List AV} {h h' : List AObj} {tm : Nat -> AV} {l : List (Nat × AV)} (ho : h[id]? = some (.box t cs)) (hc : SealVs fl cs cs')
    (hl : sealPT fl id cs' tm l) (hh : h.set id .dead = h') (hw : W P T c ⟨n, look l, h', 0⟩ Q) : W P T c ⟨n, tm, h, 0⟩ Q := fun hT hf ro hro k X D w0 mA r m a w hR => by
  obtain ⟨m', hle, hR', hv⟩ := hR.sealP rfl fl ho hc
  subst hh
  refine hw hT hf ro hro k X D w0 mA r m' a w { hR' with tmps := fun t => ?_, size' := hR'.size', nox := hR'.nox }
  have key : ∀ (l : List (Nat × AV)), sealPT fl id cs' tm l -> VR r m' (look l t) (a.tmps.getD t undef) := by
    intro l
    induction l with
    | nil => intro _; simp only [look, VR]
    | cons p l ih =>
      obtain ⟨q, v⟩ := p
      intro hl
      rw [look_cons]
      split
      . rename_i e
        subst e
        rcases hl.1 with e | ⟨e1, e3⟩
        . rw [e]; exact hR'.tmps t
        . rw [e3]
          exact hv _ (by have := hR.tmps t; simp only at this; rw [e1] at this; exact this)
      . exact ih hl.2
  exact key l hl

def cellsN (e : Nat -> List AV) (n : Nat) : List AV := zYy e (List.range n)
def objsN (g : Nat -> AObj) (n : Nat) : List AObj := (List.range n).map g
theorem objsN_len (g : Nat -> AObj) (n : Nat) : (objsN g n).length = n := by simp [objsN]
theorem objsN_get {g : Nat -> AObj} {n i : Nat} (h : i < n) : (objsN g n)[i]? = some (g i) := by simp [objsN, h]
theorem objsN_getA {A : List AObj} {g : Nat -> AObj} {n i : Nat} (h : i < n) : (A ++ objsN g n)[A.length + i]? = some (g i) := by
  rw [List.getElem?_append_right (by omega), Nat.add_sub_cancel_left, objsN_get h]
theorem objsN_congr {g g' : Nat -> AObj} {n : Nat} (h : ∀ i, i < n -> g i = g' i) : objsN g n = objsN g' n := by
  unfold objsN
  exact List.map_congr_left fun i hi => h i (by simpa using hi)
theorem objsN_set {g : Nat -> AObj} {n i : Nat} {o : AObj} (_h : i < n) : (objsN g n).set i o = objsN (fun j => if j = i then o else g j) n := by
  apply List.ext_getElem?
  intro j
  rw [List.getElem?_set]
  simp only [objsN, List.length_map, List.length_range, List.getElem?_map]
  by_cases e : i = j
  . subst e
    rcases Nat.lt_or_ge i n with h1 | h1
    . simp [h1]
    . omega
  . rw [if_neg e]
    rcases Nat.lt_or_ge j n with h1 | h1
    . have : ¬ j = i := fun x => e x.symm
      simp [h1, this]
    . rw [List.getElem?_eq_none (by simpa using h1)]; rfl
theorem objsN_setA {A : List AObj} {g : Nat -> AObj} {n i : Nat} {o : AObj} (h : i < n) : (A ++ objsN g n).set (A.length + i) o = A ++ objsN (fun j => if j = i then o else g j) n := by
  rw [List.set_append_right _ _ (by omega), Nat.add_sub_cancel_left, objsN_set h]
theorem last_get (h : List AObj) (o : AObj) : (h ++ [o])[h.length]? = some o := by simp
theorem last_set (h : List AObj) (o o' : AObj) : (h ++ [o]).set h.length o' = h ++ [o'] := by simp
theorem cellsN_len {e : Nat -> List AV} {sz : Nat} (he : Wd e sz) (n : Nat) : (cellsN e n).length = n * sz := by rw [cellsN, zYw he, List.length_range]
theorem cellsN_congr {e e' : Nat -> List AV} {n : Nat} (h : ∀ i, i < n -> e i = e' i) : cellsN e n = cellsN e' n := by
  unfold cellsN zYy
  rw [List.flatMap_def, List.flatMap_def, List.map_congr_left fun i hi => h i (by simpa using hi)]
theorem cellsN_encL {α : Type} [Inhabited α] (e : α -> List AV) (xs : List α) : zYy e xs = cellsN (fun i => e (lat xs (i : Int))) xs.length := by
  unfold cellsN zYy
  induction xs with
  | nil => rfl
  | cons x l ih =>
    rw [List.flatMap_cons, ih, List.length_cons, List.range_succ_eq_map, List.flatMap_cons, List.flatMap_map]
    congr 1
theorem cellsN_succ (e : Nat -> List AV) (n : Nat) : cellsN e (n + 1) = cellsN e n ++ e n := by simp [cellsN, zYy, List.range_succ]
theorem spl_left {A B vs : List AV} {off : Nat} (h : off + vs.length <= A.length) : Lat.spl (A ++ B) off vs = Lat.spl A off vs ++ B := by
  rw [Lat.spl_eq _ _ _ (by rw [List.length_append]; omega), Lat.spl_eq _ _ _ h, List.take_append_of_le_length (by omega), List.drop_append_of_le_length (by omega)]
  simp
theorem spl_right {A B vs : List AV} {k : Nat} (h : k + vs.length <= B.length) : Lat.spl (A ++ B) (A.length + k) vs = A ++ Lat.spl B k vs := by
  rw [Lat.spl_eq _ _ _ (by rw [List.length_append]; omega), Lat.spl_eq _ _ _ h, List.take_append, List.drop_append]
  rw [List.take_of_length_le (by omega), show A.length + k - A.length = k by omega, List.drop_of_length_le (by omega), show A.length + k + vs.length - A.length = k + vs.length by omega]
  simp
theorem mul_in {i n sz k : Nat} (h : i < n) (hk : k <= sz) : i * sz + k <= n * sz := by
  have := Nat.mul_le_mul_right sz h
  rw [Nat.succ_mul] at this
  omega
theorem cellsN_spl {e : Nat -> List AV} {sz : Nat} (he : Wd e sz) {n i k : Nat} {vs : List AV} (hi : i < n) (hk : k + vs.length <= sz) : Lat.spl (cellsN e n) (i * sz + k) vs = cellsN (fun j => if j = i then Lat.spl (e i) k vs else e j) n := by
  induction n with
  | zero => omega
  | succ n ih =>
    rw [cellsN_succ, cellsN_succ]
    rcases Nat.lt_or_ge i n with h | h
    . have h1 := mul_in h hk
      rw [spl_left (by rw [cellsN_len he]; omega), ih h, if_neg (by omega)]
    . have : i = n := by omega
      subst this
      rw [if_pos rfl, show i * sz + k = (cellsN e i).length + k by rw [cellsN_len he], spl_right (by rw [he]; exact hk)]
      congr 1
      exact cellsN_congr fun j hj => by rw [if_neg (by omega)]
theorem cellsN_in {e : Nat -> List AV} {sz : Nat} (he : Wd e sz) {n i k : Nat} {vs : List AV} (hi : i < n) (hk : k + vs.length <= sz) : i * sz + k + vs.length <= (cellsN e n).length := by
  rw [cellsN_len he]
  have := mul_in hi hk
  omega
theorem cellsN_at {e : Nat -> List AV} {sz : Nat} (he : Wd e sz) {n i k : Nat} (hi : i < n) (hk : k <= sz) : ∃ rest, (cellsN e n).drop (i * sz + k) = (e i).drop k ++ rest := by
  induction n with
  | zero => omega
  | succ n ih =>
    rw [cellsN_succ]
    rcases Nat.lt_or_ge i n with h | h
    . obtain ⟨rest, hr⟩ := ih h
      have h1 := mul_in h hk
      rw [List.drop_append_of_le_length (by rw [cellsN_len he]; exact h1), hr]
      exact ⟨rest ++ e n, by rw [List.append_assoc]⟩
    . have : i = n := by omega
      subst this
      refine ⟨[], ?_⟩
      rw [List.drop_append, List.drop_of_length_le (by rw [cellsN_len he]; omega), cellsN_len he, show i * sz + k - i * sz = k by omega]
      simp
theorem ca_N {h : List AObj} {id t sz : Nat} {e : Nat -> List AV} {n i k : Nat} (ho : h[id]? = some (.row t sz (cellsN e n))) (he : Wd e sz) (hi : i < n) (hk : k <= sz) : ∃ rest, cellsAt h (.ptr id (i * sz + k)) = some ((e i).drop k ++ rest) := by
  obtain ⟨rest, hr⟩ := cellsN_at he hi hk
  exact ⟨rest, by simp only [cellsAt, ho, hr]⟩
theorem VRs.split {r : Rho} {m : MM} : ∀ {xs us : List AV} {vs : List Value}, VRs r m (xs ++ us) vs -> ∃ a b, vs = a ++ b /\ VRs r m xs a /\ VRs r m us b
  | [], _, vs, hv => ⟨[], vs, rfl, VRs.nil, hv⟩
  | z :: l, _, vs, hv => by
    simp only [List.cons_append, VRs] at hv
    obtain ⟨v, vs', rfl, h2, h3⟩ := hv
    obtain ⟨a, b, rfl, h4, h5⟩ := VRs.split h3
    exact ⟨v :: a, b, rfl, by simp only [VRs]; exact ⟨v, a, rfl, h2, h4⟩, h5⟩
theorem Rens.cellsN {φ : List (Option Nat)} {e e' : Nat -> List AV} : ∀ {n : Nat}, (∀ i, i < n -> Rens φ (e i) (e' i) /\ (e i).length = (e' i).length) -> Rens φ (cellsN e n) (cellsN e' n)
  | 0, _ => Rens.nil
  | n + 1, h => by
    rw [cellsN_succ, cellsN_succ]
    intro r m vs hm hv
    obtain ⟨a, b, rfl, h1, h2⟩ := VRs.split hv
    exact (Rens.cellsN (fun i hi => h i (by omega)) r m a hm h1).app ((h n (by omega)).1 r m b hm h2)
theorem Ups.cellsN {e e' : Nat -> List AV} : ∀ {n : Nat}, (∀ i, i < n -> Ups (e i) (e' i)) -> Ups (cellsN e n) (cellsN e' n)
  | 0, _ => fun r m vs hm hv => by
    have : vs = [] := by simpa only [Lat.cellsN, zYy, List.range_zero, List.flatMap_nil, VRs] using hv
    subst this
    exact VRs.nil
  | n + 1, h => by
    rw [cellsN_succ, cellsN_succ]
    intro r m vs hm hv
    obtain ⟨a, b, rfl, h1, h2⟩ := VRs.split hv
    exact (Ups.cellsN (fun i hi => h i (by omega)) r m a hm h1).app (h n (by omega) r m b hm h2)
theorem Wks.cellsN {e e' : Nat -> List AV} : ∀ {n : Nat}, (∀ i, i < n -> Wks (e i) (e' i)) -> Wks (cellsN e n) (cellsN e' n)
  | 0, _ => Wks.refl _
  | n + 1, h => by
    rw [cellsN_succ, cellsN_succ]
    intro r m vs hm hv
    obtain ⟨a, b, rfl, h1, h2⟩ := VRs.split hv
    exact (Wks.cellsN (fun i hi => h i (by omega)) r m a hm h1).app (h n (by omega) r m b hm h2)
theorem cellsN_map {e : Nat -> List AV} (f : AV -> AV) (n : Nat) : (cellsN e n).map f = cellsN (fun i => (e i).map f) n := by
  unfold cellsN zYy
  rw [List.map_flatMap]
def idx (n : Nat) (g : Nat -> Option Nat) : List (Option Nat) := (List.range n).map g
theorem idx_get {n : Nat} {g : Nat -> Option Nat} {i : Nat} (h : i < n) : (idx n g)[i]? = some (g i) := by simp [idx, h]
theorem idx_none {n : Nat} {g : Nat -> Option Nat} {i : Nat} (h : n <= i) : (idx n g)[i]? = none := by simp [idx, h]
theorem injB_of : ∀ {φ : List (Option Nat)}, (∀ (i j k : Nat), φ[i]? = some (some k) -> φ[j]? = some (some k) -> i = j) -> injB φ = true
  | [], _ => rfl
  | none :: l, h => by
    show injB l = true
    exact injB_of fun i j k hi hj => by have := h (i + 1) (j + 1) k (by simpa using hi) (by simpa using hj); omega
  | some q :: l, h => by
    simp only [injB, Bool.and_eq_true, Bool.not_eq_true', List.contains_eq_mem, decide_eq_false_iff_not]
    refine ⟨fun hm => ?_, injB_of fun i j k hi hj => by have := h (i + 1) (j + 1) k (by simpa using hi) (by simpa using hj); omega⟩
    obtain ⟨j, hj⟩ := List.mem_iff_getElem?.1 hm
    have := h 0 (j + 1) q (by simp) (by simpa using hj)
    omega
theorem RenH.of {φ : List (Option Nat)} {h : List AObj} : ∀ {p : List (Option Nat)} {l : List AObj}, p.length = l.length →
    (∀ (i : Nat) o x, l[i]? = some o -> p[i]? = some x -> (x = none /\ o.live = false) \/ ∃ k, x = some k /\ (o = .dead \/ ∃ o0, h[k]? = some o0 /\ RenO φ o0 o)) -> RenH φ h p l
  | [], [], _, _ => trivial
  | [], _ :: _, hl, _ => by simp at hl
  | _ :: _, [], hl, _ => by simp at hl
  | x :: p, o :: l, hl, hg => by
    have ih : RenH φ h p l := RenH.of (by simpa using hl) (fun i o x h1 h2 => hg (i + 1) o x (by simpa using h1) (by simpa using h2))
    rcases hg 0 o x (by simp) (by simp) with ⟨rfl, h1⟩ | ⟨k, rfl, h1⟩
    . exact ⟨h1, ih⟩
    . exact ⟨h1, ih⟩
theorem RenH.idx {g : Nat -> Option Nat} {h h' : List AObj} (hg : ∀ (i : Nat) o, h'[i]? = some o -> (g i = none /\ o.live = false) \/ ∃ k, g i = some k /\ (o = .dead \/ ∃ o0, h[k]? = some o0 /\ RenO (idx h'.length g) o0 o)) : RenH (Lat.idx h'.length g) h (Lat.idx h'.length g) h' :=
  RenH.of (by simp [Lat.idx]) fun i o x h1 h2 => by
    have hi := (List.getElem?_eq_some_iff.1 h1).1
    rw [idx_get hi] at h2
    cases h2
    exact hg i o h1
theorem injB_idx {n : Nat} {g : Nat -> Option Nat} (h : ∀ i j k, i < n -> j < n -> g i = some k -> g j = some k -> i = j) : injB (idx n g) = true := injB_of fun i j k hi hj => by
  have h1 : i < n := by
    rcases Nat.lt_or_ge i n with h1 | h1
    . exact h1
    . rw [idx_none h1] at hi; cases hi
  have h2 : j < n := by
    rcases Nat.lt_or_ge j n with h2 | h2
    . exact h2
    . rw [idx_none h2] at hj; cases hj
  rw [idx_get h1] at hi
  rw [idx_get h2] at hj
  exact h i j k h1 h2 (Option.some.inj hi) (Option.some.inj hj)
def upV : AV -> Bool
  | .int _ _ | .bool _ | .nilS | .nilP | .nilF | .ref _ _ _ | .sub _ _ _ | .ptr _ _ | .any => true
  | _ => false
theorem Up.up {x : AV} (h : upV x = true) : Up x x := fun r m v _ hv => by
  cases x <;> simp only [upV, Bool.false_eq_true] at h <;> simpa only [VR] using hv
theorem Up.lst (fl : Bool) (n : Nat) (cs : List AV) : Up (.lst fl n cs) (.lst true n cs) := fun r m v hm hv => by
  simp only [VR] at hv ⊢
  rcases hv with hv | ⟨a, cap, vs, h1, h2, h3, h4⟩
  . exact .inl hv
  exact .inr ⟨a, cap, vs, h1, h2, fun i u hu => ⟨hm.up fl (h3 i u hu).1, (h3 i u hu).2⟩, VRs.mono (RLe.refl []) (hm.le fl) cs _ h4⟩
theorem Up.ipt (fl : Bool) (cs : List AV) : Up (.ipt fl cs) (.ipt true cs) := fun r m v hm hv => by
  simp only [VR] at hv ⊢
  obtain ⟨a, vs, h2, h3, h4⟩ := hv
  exact ⟨a, vs, h2, fun i u hu => ⟨hm.up fl (h3 i u hu).1, (h3 i u hu).2⟩, VRs.mono (RLe.refl []) (hm.le fl) cs _ h4⟩
theorem Ups.nil : Ups [] [] := fun _ _ _ _ h => by simpa only [VRs] using h
theorem Ups.cons {x y : AV} {xs ys : List AV} (h : Up x y) (k : Ups xs ys) : Ups (x :: xs) (y :: ys) := fun r m vs hm hv => by
  simp only [VRs] at hv ⊢
  obtain ⟨v, vs', h1, h2, h3⟩ := hv
  exact ⟨v, vs', h1, h r m v hm h2, k r m vs' hm h3⟩
theorem Ups.up {xs : List AV} (h : ∀ x ∈ xs, upV x = true) : Ups xs xs := by
  induction xs with
  | nil => exact Ups.nil
  | cons x xs ih => exact Ups.cons (Up.up (h x (by simp))) (ih fun y hy => h y (by simp [hy]))
end Go.Lat
namespace Go.Lat
inductive Chg where
  | upd (x : Ext)
  | rem (jb : Int)
instance : Inhabited Chg := ⟨.rem 0⟩
def e107 (fl : Bool) : Chg -> List AV
  | .upd x => [.int .i64 x.jb, .clo 71 [] [.ipt fl (e58 x)]]
  | .rem j => [.int .i64 j, .clo 70 [] []]
theorem SealV.ipt (fl : Bool) (cs : List AV) : SealV fl (.ipt fl cs) (.ipt true cs) := fun r m v _ h => by
  simp only [VR] at h ⊢
  exact h
theorem SealV.clo1 (fl : Bool) (f : FuncId) (cs : List AV) : SealV fl (.clo f [] [.ipt fl cs]) (.clo f [] [.ipt true cs]) := fun r m v hm h => by
  simp only [VR, VRs] at h ⊢
  exact h
theorem SealV.clo0 (fl : Bool) (f : FuncId) : SealV fl (.clo f [] []) (.clo f [] []) := fun r m v hm h => by
  simp only [VR, VRs] at h ⊢
  exact h
theorem conv_ipt (k : Nat) (h : List AObj) (fl : Bool) (cs : List AV) : conv k h (.ipt fl cs) = .ipt true cs := by cases k <;> rfl
theorem cvI_ipt (k : Nat) (h : List AObj) (cs : List AV) : cvI k h (.ipt false cs) = .ipt true cs := by cases k <;> rfl
theorem cvO_ipt (k : Nat) (h : List AObj) (cs : List AV) : cvO k h (.ipt false cs) = .ipt false cs := by cases k <;> rfl
theorem enc107 : Enc e107 2 where
  wd fl := fun x => by cases x <;> rfl
  cv k h fl x := by
    cases x with
    | upd x =>
      refine Wks.cons (zZz _ _ _ _) (Wks.cons ?_ (Wks.refl _))
      show Wk (.clo 71 [] [conv k h (.ipt fl (e58 x))]) _
      rw [conv_ipt]; exact Wk.refl _
    | rem j => exact Wks.cons (zZz _ _ _ _) (Wks.refl _)
  ci k h x := by
    cases x with
    | upd x =>
      refine Wks.cons (agI_int _ _ _ _) (Wks.cons ?_ (Wks.refl _))
      show Wk (.clo 71 [] [cvI k h (.ipt false (e58 x))]) _
      rw [cvI_ipt]; exact Wk.refl _
    | rem j => exact Wks.cons (agI_int _ _ _ _) (Wks.refl _)
  co k h x := by
    cases x with
    | upd x =>
      refine Wks.cons (zY _ _ _ _) (Wks.cons ?_ (Wks.refl _))
      show Wk (.clo 71 [] [cvO k h (.ipt false (e58 x))]) _
      rw [cvO_ipt]; exact Wk.refl _
    | rem j => exact Wks.cons (zY _ _ _ _) (Wks.refl _)
  sl fl x := by
    cases x with
    | upd x => exact SealVs.cons (SealV.int _ _ _) (SealVs.cons (SealV.clo1 _ _ _) (SealVs.nil _))
    | rem j => exact SealVs.cons (SealV.int _ _ _) (SealVs.cons (SealV.clo0 _ _) (SealVs.nil _))
  cl fl x := by cases x <;> intro y hy <;> simp [e107] at hy <;> rcases hy with rfl | rfl <;> rfl
end Go.Lat
namespace Go.Lat
def pickM (c n : Int) : Int := (if c < 0 then -(c + 1) else c).tmod n
theorem lat_nat {α : Type} [Inhabited α] (xs : List α) (i : Nat) : lat xs (i : Int) = xs.getD i default := by simp [lat]
theorem lat_get {α : Type} [Inhabited α] {xs : List α} {i : Nat} (h : i < xs.length) : lat xs (i : Int) = xs[i] := by simp [lat, h]
theorem lat_mem {α : Type} [Inhabited α] {xs : List α} {i : Int} (h : 0 <= i /\ i < xs.length) : lat xs i ∈ xs := by
  have : i.toNat < xs.length := by omega
  simp [lat, this]
theorem vat_lt {n : Nat} {M : Vector Int n} {k : Nat} (h : k < n) : vat M k = M[k] := by simp [vat, h]
theorem vat_ge {n : Nat} {M : Vector Int n} {k : Nat} (h : n <= k) : vat M k = 0 := by
  have : M.toList.length = n := by simp
  unfold vat
  rw [List.getD_eq_getElem?_getD, List.getElem?_eq_none (by omega)]; rfl
theorem vat_vset {n : Nat} {M : Vector Int n} {k j : Nat} {v : Int} (h : k < n) : vat (vset M k v) j = if j = k then v else vat M j := by
  rcases Nat.lt_or_ge j n with hj | hj
  . rw [vat_lt hj, vat_lt hj]
    simp only [vset, Vector.getElem_setIfInBounds hj]
    by_cases e : k = j
    . subst e; simp
    . have : ¬ j = k := fun x => e x.symm
      simp [e, this]
  . rw [vat_ge hj, vat_ge hj, if_neg (by omega)]
theorem vat_rep {n : Nat} {v : Int} {k : Nat} (h : k < n) : vat (Vector.replicate n v) k = v := by rw [vat_lt h]; simp
theorem zXz {c n : Int} (h : 1 <= n) : 0 <= pickM c n /\ pickM c n < n := by
  unfold pickM
  have h0 : 0 <= (if c < 0 then -(c + 1) else c) := by split <;> omega
  exact ⟨Int.tmod_nonneg _ h0, Int.tmod_lt_of_pos _ (by omega)⟩
theorem tdiv_parts (n k : Int) (h : 0 < k) : n = k * n.tdiv k + n.tmod k /\ n.tmod k < k /\ -k < n.tmod k := ⟨(Int.mul_tdiv_add_tmod _ _).symm, Int.tmod_lt_of_pos n h, Int.lt_tmod_of_pos n h⟩
theorem lat_set {α : Type} [Inhabited α] {l : List α} {i : Int} {j : Nat} {x : α} (hi : 0 <= i /\ i < l.length) : lat (l.set i.toNat x) (j : Int) = if (j : Int) = i then x else lat l (j : Int) := by
  rw [lat_nat, lat_nat, List.getD_eq_getElem?_getD, List.getD_eq_getElem?_getD, List.getElem?_set]
  by_cases e : (j : Int) = i
  . rw [if_pos e, if_pos (by omega), if_pos (by omega)]; rfl
  . rw [if_neg e, if_neg (by omega)]
theorem lat_set' {α : Type} [Inhabited α] {l : List α} {i j : Int} {x : α} (hi : 0 <= i /\ i < l.length) (hj : 0 <= j) : lat (l.set i.toNat x) j = if j = i then x else lat l j := by
  have := lat_set (j := j.toNat) (x := x) hi
  rwa [show ((j.toNat : Nat) : Int) = j by omega] at this
theorem map_range_succ {α : Type} {g : Nat -> α} {i : Nat} : (List.range (i + 1)).map g = (List.range i).map g ++ [g i] := by rw [List.range_succ, List.map_append]; rfl
theorem take_succ_lat {α : Type} [Inhabited α] {l : List α} {i : Nat} (h : i < l.length) : l.take (i + 1) = l.take i ++ [lat l i] := by
  rw [lat_get h, List.take_add_one, List.getElem?_eq_getElem h]; rfl
def leastStep {α : Type} [Inhabited α] (cnt : α -> Bool) (val : α -> Int) (l : List α) (o : Int) (i : Nat) : Int :=
  if cnt (lat l i) = true /\ (o < 0 \/ val (lat l i) < val (lat l o)) then (i : Int) else o
def leastN {α : Type} [Inhabited α] (cnt : α -> Bool) (val : α -> Int) (l : List α) (n : Nat) : Int := (List.range n).foldl (leastStep cnt val l) (-1)
def leastM {α : Type} [Inhabited α] (cnt : α -> Bool) (val : α -> Int) (l : List α) : Int := leastN cnt val l l.length
theorem leastN_succ {α : Type} [Inhabited α] (cnt : α -> Bool) (val : α -> Int) (l : List α) (n : Nat) : leastN cnt val l (n + 1) = leastStep cnt val l (leastN cnt val l n) n := by
  unfold leastN; rw [List.range_succ, List.foldl_append]; rfl
theorem leastN_spec {α : Type} [Inhabited α] (cnt : α -> Bool) (val : α -> Int) (l : List α) : ∀ n : Nat, (leastN cnt val l n = -1 /\ ∀ i : Nat, i < n -> ¬ cnt (lat l i) = true) ∨
    ∃ i : Nat, leastN cnt val l n = i /\ i < n /\ cnt (lat l i) = true /\ ∀ k : Nat, k < n -> cnt (lat l k) = true -> val (lat l i) <= val (lat l k) /\ (k < i -> val (lat l i) < val (lat l k))
  | 0 => .inl ⟨rfl, fun i h => by omega⟩
  | n + 1 => by
    rw [leastN_succ]
    unfold leastStep
    rcases leastN_spec cnt val l n with ⟨h1, h2⟩ | ⟨i, h1, h2, h3, h4⟩
    . rw [h1]
      by_cases hc : cnt (lat l n) = true
      . rw [if_pos ⟨hc, .inl (by omega)⟩]
        refine .inr ⟨n, rfl, by omega, hc, fun k hk hck => ?_⟩
        rcases Nat.lt_or_ge k n with h | h
        . exact absurd hck (h2 k h)
        . have : k = n := by omega
          subst this; exact ⟨Int.le_refl _, fun h => by omega⟩
      . rw [if_neg (fun h => hc h.1)]
        refine .inl ⟨rfl, fun i hi => ?_⟩
        rcases Nat.lt_or_ge i n with h | h
        . exact h2 i h
        . have : i = n := by omega
          subst this; exact hc
    . rw [h1]
      by_cases hc : cnt (lat l n) = true /\ val (lat l n) < val (lat l i)
      . rw [if_pos ⟨hc.1, .inr hc.2⟩]
        refine .inr ⟨n, rfl, by omega, hc.1, fun k hk hck => ?_⟩
        rcases Nat.lt_or_ge k n with h | h
        . have := (h4 k h hck).1
          exact ⟨by omega, fun _ => by omega⟩
        . have : k = n := by omega
          subst this; exact ⟨Int.le_refl _, fun h => by omega⟩
      . rw [if_neg (fun h => hc ⟨h.1, h.2.resolve_left (by omega)⟩)]
        refine .inr ⟨i, rfl, by omega, h3, fun k hk hck => ?_⟩
        rcases Nat.lt_or_ge k n with h | h
        . exact h4 k h hck
        . have : k = n := by omega
          subst this
          have : ¬ val (lat l k) < val (lat l i) := fun h => hc ⟨hck, h⟩
          exact ⟨by omega, fun h => by omega⟩
theorem dec_lt {n i : Nat} (h : (i : Int) < (n : Int)) : n - ((i : Int) + 1).toNat < n - ((i : Int)).toNat := by omega
end Go.Lat
namespace Go.Lat
def inM (n lo hi : Int) : Bool := decide (lo <= n /\ n <= hi)
def jobOk (k : Int) (j : Job) : Bool := decide (0 <= j.ar /\ j.ar <= 4398046511104 /\ j.wk.length <= 6) && j.wk.all fun w => decide (0 <= w.st /\ w.st <= k - 1 /\ 0 <= w.tm /\ w.tm <= 1099511627776)
def validJ (sv : List Int) (jobs : List Job) : Bool := decide (1 <= sv.length /\ sv.length <= 6 /\ jobs.length <= 24) && sv.all (fun n => decide (1 <= n /\ n <= 4)) && jobs.all (jobOk sv.length)
def leastS (l : List Sta) : Int := leastM (fun s => decide (s.dn < s.al)) (·.rd) l
def leastI (l : List Int) : Int := leastM (fun _ => true) (fun n => n) l
structure RunS where
  fr : List (Vector Int 4)
  ss : List Sta
def workM (jobs : List Job) (s : RunS) (j : Int) : Ld := lat (lat jobs j).wk (lat s.ss j).dn
def slotM (sv : List Int) (s : RunS) (st : Int) : Int := leastI ((lat s.fr st).toList.take (lat sv st).toNat)
def visM (sv : List Int) (jobs : List Job) (s : RunS) (j : Int) : Vis :=
  let w := workM jobs s j
  let b := max (lat s.ss j).rd (vat (lat s.fr w.st) (slotM sv s w.st).toNat)
  ⟨(lat s.ss j).rd, b, b + w.tm⟩
def nextM (sv : List Int) (jobs : List Job) (s : RunS) (j : Int) : RunS :=
  let w := workM jobs s j
  let v := visM sv jobs s j
  ⟨s.fr.set w.st.toNat (vset (lat s.fr w.st) (slotM sv s w.st).toNat v.en), s.ss.set j.toNat ⟨(lat s.ss j).dn + 1, (lat s.ss j).al, v.en⟩⟩
def runN (sv : List Int) (jobs : List Job) : Nat -> RunS -> List Dn
  | 0, _ => []
  | n + 1, s => if leastS s.ss < 0 then [] else ⟨leastS s.ss, visM sv jobs s (leastS s.ss)⟩ :: runN sv jobs n (nextM sv jobs s (leastS s.ss))
def initM (sv : List Int) (jobs : List Job) : RunS := ⟨List.replicate sv.length (Vector.replicate 4 0), jobs.map fun j => ⟨0, j.wk.length, j.ar⟩⟩
def leftM (s : RunS) : Nat := (s.ss.map fun x => (x.al - x.dn).toNat).sum
def runM (sv : List Int) (jobs : List Job) : List Dn := runN sv jobs (leftM (initM sv jobs)) (initM sv jobs)
def endM (l : List Dn) (j o : Int) : Int := l.foldl (fun o d => if d.j = j then d.v.en else o) o
def finishM (sv : List Int) (jobs : List Job) (j : Int) : Int × Int :=
  if validJ sv jobs = true /\ 0 <= j /\ j <= (jobs.length : Int) - 1 then (endM (runM sv jobs) j (lat jobs j).ar, 0) else (0, 230)
def hasB (p c : Int) : Prop := bitI .and .i64 (p.fdiv (2 ^ (min c.toNat 64))) 1 = 1
instance (p c : Int) : Decidable (hasB p c) := by unfold hasB; infer_instance
def updM (ex : List Ext) (p : Int) : List Chg := (ex.filter fun x => decide (¬ hasB p x.ca /\ ¬ x.pc = -1)).map .upd
def remM (ex : List Ext) (p : Int) : List Chg := (ex.filter fun x => decide (¬ hasB p x.ca /\ x.pc = -1)).map fun x => .rem x.jb
def chgM (ex : List Ext) (p : Int) : List Chg := updM ex p ++ remM ex p
theorem chgM_len (ex : List Ext) (p : Int) : (chgM ex p).length <= ex.length := by
  unfold chgM
  rw [List.length_append]
  induction ex with
  | nil => simp [updM, remM]
  | cons x l ih =>
    unfold updM remM at ih ⊢
    simp only [List.length_map] at ih ⊢
    simp only [List.filter_cons, List.length_cons]
    split <;> split <;> (try simp only [List.length_cons]) <;> try omega
    rename_i a b
    exact absurd (of_decide_eq_true b).2 (of_decide_eq_true a).2
def cmpM (x y : Int) : Int := if x < y then -1 else if y < x then 1 else 0
def orM (l : List Int) : Int := l.foldr (fun x acc => if ¬ x = 0 then x else acc) 0
def isRemM (r : Req) (x : Ext) : Bool := decide (x.pc = -1 /\ ¬ x.jb = r.late /\ x.ba = 0 /\ x.op = 0 /\ x.ver = 0)
def isWorkM (r : Req) (x : Ext) : Bool := decide ((0 <= x.pc /\ x.pc <= ((lat r.jobs x.jb).wk.length : Int) - 1) /\ (0 <= x.ba /\ x.ba <= 1099511627776) /\ (0 <= x.op /\ x.op <= 11) /\ 0 <= x.ver /\ x.ver <= 9)
def extOk (r : Req) (x : Ext) : Bool := decide ((0 <= x.jb /\ x.jb <= (r.jobs.length : Int) - 1) /\ 0 <= x.ca /\ x.ca <= r.causes - 1) && (isRemM r x || isWorkM r x)
def extLt (a b : Ext) : Bool := decide (a.jb < b.jb \/ a.jb = b.jb /\ a.pc < b.pc)
def extsOk (r : Req) : Bool := (List.range r.ex.length).all fun i => extOk r (lat r.ex (i : Int)) && (decide (i = 0) || extLt (lat r.ex ((i : Int) - 1)) (lat r.ex (i : Int)))
def validR (r : Req) : Bool := validJ r.sv r.jobs && decide ((0 <= r.late /\ r.late <= (r.jobs.length : Int) - 1) /\ (0 <= r.obj /\ r.obj <= 4398046511104) /\ 0 <= r.causes /\ r.causes <= 6) && extsOk r
def latenessM' (r : Req) (jobs : List Job) : Int × Int :=
  if ¬ (finishM r.sv jobs r.late).2 = 0 then (0, 240) else (max 0 ((finishM r.sv jobs r.late).1 - (lat r.jobs r.late).ar - r.obj), 0)
def isSetM (r : Req) (p : Int) : Bool := validR r && decide (0 <= p /\ p <= 2 ^ r.causes.toNat - 1)
def rangeI (n : Nat) : List Int := (List.range n).map fun i : Nat => (i : Int)
def cmpR (a b : Rg) : Int := orM [cmpM a.op b.op, cmpM a.ver b.ver]
def bsGo (l : List Rg) (x : Rg) : Nat -> Int -> Int -> Int
  | 0, i, _ => i
  | n + 1, i, j => if i < j then (if cmpR (lat l ((i + j).tdiv 2)) x < 0 then bsGo l x n ((i + j).tdiv 2 + 1) j else bsGo l x n i ((i + j).tdiv 2)) else i
def bsI (l : List Rg) (x : Rg) : Int := bsGo l x (l.length + 1) 0 l.length
def bsM (l : List Rg) (x : Rg) : Int × Bool := (bsI l x, decide (bsI l x < l.length /\ cmpR (lat l (bsI l x)) x = 0))
def rgOk (r : Rg) : Bool := decide ((0 <= r.op /\ r.op <= 11) /\ (0 <= r.ver /\ r.ver <= 9) /\ (1 <= r.nu /\ r.nu <= 1000000) /\ (0 <= r.le /\ r.le <= r.mo) /\ r.mo <= 4398046511104)
def validRgs (l : List Rg) : Bool := (List.range l.length).all fun i => rgOk (lat l (i : Int)) && (decide (i = 0) || decide (cmpR (lat l ((i : Int) - 1)) (lat l (i : Int)) < 0))
def allowsM (l : List Rg) (op ver t : Int) : Bool := decide (validRgs l = true /\ (bsM l ⟨op, ver, 0, 0, 0⟩).2 = true /\ 3 <= (lat l (bsI l ⟨op, ver, 0, 0, 0⟩)).nu /\ (lat l (bsI l ⟨op, ver, 0, 0, 0⟩)).le <= t /\ t <= (lat l (bsI l ⟨op, ver, 0, 0, 0⟩)).mo)
def supM (r : Req) (l : List Rg) : Bool := validR r && r.ex.all fun x => decide (x.pc = -1) || allowsM l x.op x.ver x.ba
end Go.Lat
namespace Go.Lat
open Go.RowKit
theorem job_ok {sv : List Int} {jobs : List Job} (h : validJ sv jobs = true) : (1 <= sv.length /\ sv.length <= 6 /\ jobs.length <= 24) /\ (∀ n ∈ sv, 1 <= n /\ n <= 4) ∧
    ∀ j ∈ jobs, (0 <= j.ar /\ j.ar <= 4398046511104 /\ j.wk.length <= 6) /\ ∀ w ∈ j.wk, 0 <= w.st /\ w.st <= (sv.length : Int) - 1 /\ 0 <= w.tm /\ w.tm <= 1099511627776 := by
  unfold validJ at h
  simp only [Bool.and_eq_true, List.all_eq_true, decide_eq_true_eq] at h
  refine ⟨h.1.1, h.1.2, fun j hj => ?_⟩
  have := h.2 j hj
  unfold jobOk at this
  simp only [Bool.and_eq_true, List.all_eq_true, decide_eq_true_eq] at this
  exact this
theorem leastS_spec (l : List Sta) : (leastS l = -1 /\ ∀ i : Nat, i < l.length -> ¬ (lat l i).dn < (lat l i).al) ∨
    ∃ i : Nat, leastS l = i /\ i < l.length /\ (lat l i).dn < (lat l i).al /\ ∀ k : Nat, k < l.length -> (lat l k).dn < (lat l k).al -> (lat l i).rd <= (lat l k).rd /\ (k < i -> (lat l i).rd < (lat l k).rd) := by
  have := leastN_spec (fun s : Sta => decide (s.dn < s.al)) (·.rd) l l.length
  simp only [decide_eq_true_eq] at this
  exact this
theorem leastI_spec (l : List Int) (h : 0 < l.length) : ∃ i : Nat, leastI l = i /\ i < l.length /\ ∀ k : Nat, k < l.length -> lat l i <= lat l k /\ (k < i -> lat l i < lat l k) := by
  rcases leastN_spec (fun _ : Int => true) (fun n => n) l l.length with ⟨_, h2⟩ | ⟨i, h1, h2, h3, h4⟩
  . exact absurd rfl (h2 0 h)
  . exact ⟨i, h1, h2, fun k hk => h4 k hk rfl⟩
structure RInv (sv : List Int) (jobs : List Job) (c : Nat) (s : RunS) : Prop where
  v : validJ sv jobs = true
  fl : s.fr.length = sv.length
  sl : s.ss.length = jobs.length
  al : ∀ i : Nat, i < jobs.length -> (lat s.ss i).al = (lat jobs i).wk.length /\ 0 <= (lat s.ss i).dn /\ (lat s.ss i).dn <= (lat s.ss i).al
  rd : ∀ i : Nat, i < jobs.length -> 0 <= (lat s.ss i).rd /\ (lat s.ss i).rd <= 4398046511104 + c * 1099511627776
  fb : ∀ i k : Nat, i < sv.length -> 0 <= vat (lat s.fr i) k /\ vat (lat s.fr i) k <= 4398046511104 + c * 1099511627776
  left : c + leftM s = leftM (initM sv jobs)
theorem sum_le {l : List Nat} {b : Nat} (h : ∀ x ∈ l, x <= b) : l.sum <= b * l.length := by
  induction l with
  | nil => simp
  | cons x l ih =>
    have := ih fun y hy => h y (by simp [hy])
    have := h x (by simp)
    rw [List.sum_cons, List.length_cons, Nat.mul_add]; omega
theorem left_init {sv : List Int} {jobs : List Job} (h : validJ sv jobs = true) : leftM (initM sv jobs) <= 144 := by
  obtain ⟨h1, h2, h3⟩ := job_ok h
  have := sum_le (b := 6) (l := (initM sv jobs).ss.map fun x => (x.al - x.dn).toNat) (fun x hx => by
    simp only [initM, List.map_map, List.mem_map, Function.comp] at hx
    obtain ⟨j, hj, rfl⟩ := hx
    have := (h3 j hj).1.2.2
    omega)
  simp only [initM, List.length_map] at this
  unfold leftM
  simp only [initM]
  omega
theorem RInv.init {sv : List Int} {jobs : List Job} (h : validJ sv jobs = true) : RInv sv jobs 0 (initM sv jobs) := by
  obtain ⟨h1, h2, h3⟩ := job_ok h
  have key : ∀ i : Nat, i < jobs.length -> lat (initM sv jobs).ss i = ⟨0, (lat jobs i).wk.length, (lat jobs i).ar⟩ := fun i hi => by
    rw [lat_get (by simpa [initM] using hi), lat_get hi]; simp [initM]
  refine ⟨h, by simp [initM], by simp [initM], fun i hi => ?_, fun i hi => ?_, fun i k hi => ?_, by omega⟩
  . rw [key i hi]; simp
  . rw [key i hi]
    have := (h3 (lat jobs i) (lat_mem ⟨by omega, by omega⟩)).1
    simp only; omega
  . have : lat (initM sv jobs).fr i = Vector.replicate 4 0 := by rw [lat_get (by simpa [initM] using hi)]; simp [initM]
    rw [this]
    rcases Nat.lt_or_ge k 4 with h | h
    . rw [vat_rep h]; omega
    . rw [vat_ge h]; omega
theorem sum_set {l : List Nat} {i x : Nat} (h : i < l.length) : (l.set i x).sum + l.getD i 0 = l.sum + x := by
  induction l generalizing i with
  | nil => simp at h
  | cons y l ih =>
    cases i with
    | zero => simp; omega
    | succ i =>
      have := ih (i := i) (by simpa using h)
      simp only [List.set_cons_succ, List.sum_cons, List.getD_cons_succ]
      omega
structure StepOk (sv : List Int) (jobs : List Job) (c : Nat) (s : RunS) (i : Nat) : Prop where
  lt : i < jobs.length
  dn : (lat s.ss i).dn < (lat jobs i).wk.length
  st : 0 <= (workM jobs s i).st /\ (workM jobs s i).st < sv.length
  tm : 0 <= (workM jobs s i).tm /\ (workM jobs s i).tm <= 1099511627776
  nb : 1 <= lat sv (workM jobs s i).st /\ lat sv (workM jobs s i).st <= 4
  slot : ∃ k : Nat, slotM sv s (workM jobs s i).st = k /\ (k : Int) < lat sv (workM jobs s i).st /\ ∀ q : Nat, (q : Int) < lat sv (workM jobs s i).st -> vat (lat s.fr (workM jobs s i).st) k <= vat (lat s.fr (workM jobs s i).st) q
  vis : 0 <= (visM sv jobs s i).st /\ (visM sv jobs s i).st <= 4398046511104 + c * 1099511627776 /\ (visM sv jobs s i).en = (visM sv jobs s i).st + (workM jobs s i).tm
  next : RInv sv jobs (c + 1) (nextM sv jobs s i)
  less : leftM s = leftM (nextM sv jobs s i) + 1
theorem take_vat {q : Nat} (M : Vector Int q) {m k : Nat} (hk : k < m) (_hm : m <= q) : lat (M.toList.take m) (k : Int) = vat M k := by
  rw [lat_nat, List.getD_eq_getElem?_getD, List.getElem?_take_of_lt hk]
  unfold vat
  rw [List.getD_eq_getElem?_getD]; rfl
theorem RInv.step {sv : List Int} {jobs : List Job} {c : Nat} {s : RunS} (h : RInv sv jobs c s) {i : Nat} (hi : i < s.ss.length) (hd : (lat s.ss i).dn < (lat s.ss i).al) : StepOk sv jobs c s i := by
  obtain ⟨h1, h2, h3⟩ := job_ok h.v
  have hlt : i < jobs.length := by rw [<- h.sl]; exact hi
  have a := h.al i hlt
  have hdn : (lat s.ss i).dn < (lat jobs i).wk.length := by omega
  have hj := h3 (lat jobs i) (lat_mem ⟨by omega, by omega⟩)
  have hw : 0 <= (workM jobs s i).st /\ (workM jobs s i).st <= (sv.length : Int) - 1 /\ 0 <= (workM jobs s i).tm /\ (workM jobs s i).tm <= 1099511627776 := hj.2 _ (lat_mem ⟨a.2.1, hdn⟩)
  have hs := h2 (lat sv (workM jobs s i).st) (lat_mem ⟨hw.1, by omega⟩)
  obtain ⟨p, hp⟩ : ∃ p : Nat, (workM jobs s i).st = p := ⟨(workM jobs s i).st.toNat, by omega⟩
  have hfb := fun k => h.fb p k (by omega)
  have hl4 : (((lat s.fr (workM jobs s i).st)).toList.take (lat sv (workM jobs s i).st).toNat).length = (lat sv (workM jobs s i).st).toNat := by
    rw [List.length_take, Vector.length_toList]; omega
  obtain ⟨k, k1, k2, k3⟩ := leastI_spec (((lat s.fr (workM jobs s i).st)).toList.take (lat sv (workM jobs s i).st).toNat) (by omega)
  have hslot : slotM sv s (workM jobs s i).st = k := k1
  have hr := h.rd i hlt
  have hv : (visM sv jobs s i).st = max (lat s.ss i).rd (vat (lat s.fr (workM jobs s i).st) k) := by unfold visM; simp only [hslot, Int.toNat_natCast]
  have he : (visM sv jobs s i).en = (visM sv jobs s i).st + (workM jobs s i).tm := rfl
  have hf := hfb k
  rw [<- hp] at hf
  have hvb : 0 <= (visM sv jobs s i).st /\ (visM sv jobs s i).st <= 4398046511104 + c * 1099511627776 := by rw [hv]; omega
  have hB : ((c + 1 : Nat) : Int) * 1099511627776 = c * 1099511627776 + 1099511627776 := by omega
  have hless : leftM s = leftM (nextM sv jobs s i) + 1 := by
    unfold leftM nextM
    simp only [List.map_set]
    have e := sum_set (l := s.ss.map fun x => (x.al - x.dn).toNat) (i := i) (x := ((lat s.ss i).al - ((lat s.ss i).dn + 1)).toNat) (by simpa using hi)
    have e2 : (s.ss.map fun x => (x.al - x.dn).toNat).getD i 0 = ((lat s.ss i).al - (lat s.ss i).dn).toNat := by
      rw [List.getD_eq_getElem?_getD, List.getElem?_map, List.getElem?_eq_getElem hi, lat_get hi]; rfl
    rw [e2] at e
    simp only [Int.toNat_natCast]
    omega
  refine ⟨hlt, hdn, ⟨hw.1, by omega⟩, ⟨hw.2.2.1, hw.2.2.2⟩, hs, ⟨k, hslot, by omega, fun q hq => ?_⟩, ⟨hvb.1, hvb.2, he⟩, ?_, hless⟩
  . have := (k3 q (by omega)).1
    rw [take_vat _ (by omega) (by omega), take_vat _ (by omega) (by omega)] at this
    exact this
  . refine ⟨h.v, by simp [nextM, h.fl], by simp [nextM, h.sl], fun j hj => ?_, fun j hj => ?_, fun j q hj => ?_, by have := h.left; omega⟩
    . have aj := h.al j hj
      have := lat_set (l := s.ss) (i := (i : Int)) (j := j) (x := (⟨(lat s.ss i).dn + 1, (lat s.ss i).al, (visM sv jobs s i).en⟩ : Sta)) ⟨by omega, by omega⟩
      simp only [nextM]
      rw [this]
      by_cases e : (j : Int) = i
      . rw [if_pos e]
        have : j = i := by omega
        subst this
        simp only; omega
      . rw [if_neg e]; exact aj
    . have rj := h.rd j hj
      have := lat_set (l := s.ss) (i := (i : Int)) (j := j) (x := (⟨(lat s.ss i).dn + 1, (lat s.ss i).al, (visM sv jobs s i).en⟩ : Sta)) ⟨by omega, by omega⟩
      simp only [nextM]
      rw [this]
      by_cases e : (j : Int) = i
      . rw [if_pos e]
        simp only; omega
      . rw [if_neg e]; omega
    . have fj := h.fb j q hj
      have := lat_set (l := s.fr) (i := (workM jobs s i).st) (j := j) (x := vset (lat s.fr (workM jobs s i).st) k (visM sv jobs s i).en) ⟨hw.1, by rw [h.fl]; omega⟩
      simp only [nextM]
      rw [hslot, Int.toNat_natCast, this]
      by_cases e : (j : Int) = (workM jobs s i).st
      . rw [if_pos e, vat_vset (by omega), <- e]
        split
        . omega
        . omega
      . rw [if_neg e]; omega
theorem runN_neg {sv : List Int} {jobs : List Job} {n : Nat} {s : RunS} (h : leastS s.ss < 0) : runN sv jobs n s = [] := by
  cases n with
  | zero => rfl
  | succ n => unfold runN; rw [if_pos h]
theorem runN_pos {sv : List Int} {jobs : List Job} {n : Nat} {s : RunS} (h : ¬ leastS s.ss < 0) : runN sv jobs (n + 1) s = ⟨leastS s.ss, visM sv jobs s (leastS s.ss)⟩ :: runN sv jobs n (nextM sv jobs s (leastS s.ss)) := by
  conv => lhs; unfold runN
  rw [if_neg h]
end Go.Lat
namespace Go.Lat
open Go.RowKit Go.Proofs
structure JW where
  ar : Int
  gone : Bool
  wk : List Ld
instance : Inhabited JW := ⟨⟨0, true, []⟩⟩
def jwC (q : Nat) (js : List JW) (i : Nat) : List AV := [.int .i64 (lat js (i : Int)).ar, if (lat js (i : Int)).gone then .nilS else .ref false (q + i) (lat js (i : Int)).wk.length]
def jwO (js : List JW) (i : Nat) : AObj := .row 60 2 (zYy e60 (lat js (i : Int)).wk)
def jwR (q : Nat) (js : List JW) : AObj := .row 53 2 (cellsN (jwC q js) js.length)
def jwK (B S : AObj) (js : List JW) : List AObj := [B, jwR 3 js, S] ++ objsN (jwO js) js.length
def jwH (js : List JW) : List AObj := [.dead, jwR 3 js, .dead] ++ objsN (jwO js) js.length
theorem wdJ (q : Nat) (js : List JW) : Wd (jwC q js) 2 := fun _ => rfl
theorem latN_set {α : Type} [Inhabited α] {l : List α} {i j : Nat} {x : α} (hi : i < l.length) : lat (l.set i x) (j : Int) = if j = i then x else lat l (j : Int) := by
  rw [lat_nat, lat_nat, List.getD_eq_getElem?_getD, List.getD_eq_getElem?_getD, List.getElem?_set]
  by_cases e : i = j
  . subst e; simp [hi]
  . have : ¬ j = i := fun x => e x.symm
    simp [e, this]
theorem spec_f70 (js : List JW) (j : Nat) (hj : j < js.length) : FnG Try.prog 70 (jwH js) [.ptr 1 (j * 2)] (fun _ H' => H' = jwH (js.set j ⟨(lat js (j : Int)).ar, true, (lat js (j : Int)).wk⟩)) := by
  refine FnG.of_walk (T := tt) (nt := 5) ttOk ttMix ⟨⟨Try.f70, Try.func70, rfl, rfl, rfl, rfl⟩⟩ (by simp) (by simp [jwH]) ?_
  change W _ _ _ ⟨5, look [(0, .ptr 1 (j * 2))], jwH js, (jwH js).length⟩ _
  refine W.rL1 (cL rfl (zZp (v := .ptr _ _) rfl (cL rfl (o_nil rfl (cL rfl (o_fa tt53 rfl tt51 rfl (cLn (o_stR (v := .nilS) (vs := [.nilS]) tt51 rfl rfl rfl rfl rfl (cellsN_in (wdJ _ _) hj (Nat.le_refl _)) (cellsN_spl (wdJ _ _) hj (Nat.le_refl _)) (eL (rn (rt_n ?_)))))))))))
  show [AObj.dead, _, .dead] ++ objsN (jwO js) js.length = _
  unfold jwH jwR
  rw [List.length_set]
  congr 1
  . congr 2
    congr 1
    refine cellsN_congr fun i hi => ?_
    by_cases e : i = j
    . subst e
      simp [jwC, latN_set hj, Lat.spl]
    . simp [jwC, latN_set hj, e]
  . refine objsN_congr fun i hi => ?_
    unfold jwO
    rw [latN_set hj]
    split
    . rename_i e; subst e; rfl
    . rfl
theorem spec_f71 (js : List JW) (j : Nat) (x : Ext) (hj : j < js.length) (hg : (lat js (j : Int)).gone = false) (hp : 0 <= x.pc /\ x.pc < (lat js (j : Int)).wk.length) :
    FnG Try.prog 71 (jwH js) [.ptr 1 (j * 2), .ipt true (e58 x)] (fun _ H' => H' = jwH (js.set j ⟨(lat js (j : Int)).ar, false, (lat js (j : Int)).wk.set x.pc.toNat ⟨(lat (lat js (j : Int)).wk x.pc).st, x.ba⟩⟩)) := by
  refine FnG.of_walk (T := tt) (nt := 13) ttOk ttMix ⟨⟨Try.f71, Try.func71, rfl, rfl, rfl, rfl⟩⟩ (by simp) (by simp [jwH]) ?_
  change W _ _ _ ⟨13, look [(0, .ptr 1 (j * 2)), (1, .ipt true (e58 x))], jwH js, (jwH js).length⟩ _
  have hc : ∃ rest, cellsAt (jwH js) (.ptr 1 (j * 2 + 1)) = some (.ref false (3 + j) (lat js (j : Int)).wk.length :: rest) := by
    obtain ⟨rest, hr⟩ := ca_N (h := jwH js) (id := 1) (i := j) (k := 1) rfl (wdJ 3 js) hj (by omega)
    refine ⟨rest, ?_⟩
    rw [hr]
    simp [jwC, hg]
  have ho : (jwH js)[3 + j]? = some (jwO js j) := objsN_getA (A := [.dead, jwR 3 js, .dead]) hj
  refine W.rD1 [0, 1, 2, 3, 4, 5, 6, 7, 8, 9, 10] (by decide +kernel) rfl (cL rfl (zZp (v := .ptr _ _) rfl (cL rfl (o_nil rfl (cL rfl (o_fa tt53 rfl tt51 rfl (cL rfl (zZx (v := .ref _ _ _) tt51 rfl rfl hc (cL rfl (o_faP tt58 rfl tt3 rfl (cL rfl (zZx (v := .int _ _) tt3 rfl rfl ⟨_, rfl⟩
    (cL rfl (o_faP tt58 rfl tt3 rfl (cL rfl (zZx (v := .int _ _) tt3 rfl rfl ⟨_, rfl⟩ (cL rfl (o_iaR tt51 tt60 rfl rfl hp (cL rfl (o_fa tt60 rfl tt3 rfl (cLn (o_stR (v := .int _ _) (vs := [.int _ _]) tt3 rfl rfl rfl rfl ho
      (row_inF (xs := (lat js (j : Int)).wk) (enc60.wd false) hp rfl) (row_setF (e := e60) (enc60.wd false) _ _ 1 ⟨(lat (lat js (j : Int)).wk x.pc).st, x.ba⟩ rfl rfl hp) (eL (rn (rt_n ?_)))))))))))))))))))))))))
  show ([AObj.dead, jwR 3 js, .dead] ++ objsN (jwO js) js.length).set ([AObj.dead, jwR 3 js, .dead].length + j) _ = _
  rw [objsN_setA hj]
  unfold jwH jwR
  rw [List.length_set]
  congr 1
  . congr 2
    congr 1
    refine cellsN_congr fun i hi => ?_
    by_cases e : i = j
    . subst e
      simp [jwC, latN_set hj, hg]
    . simp [jwC, latN_set hj, e]
  . refine objsN_congr fun i hi => ?_
    unfold jwO
    rw [latN_set hj]
    by_cases e : i = j
    . rw [if_pos e, if_pos e]
    . rw [if_neg e, if_neg e]
theorem jw_all {P : Nat -> AObj -> Prop} {B R S : AObj} {f : Nat -> AObj} {n : Nat} (h0 : P 0 B) (h1 : P 1 R) (h2 : P 2 S) (h3 : ∀ k, k < n -> P (3 + k) (f k)) : ∀ (i : Nat) o, ([B, R, S] ++ objsN f n)[i]? = some o -> P i o := by
  intro i o h
  rcases i with _ | _ | _ | i
  . cases h; exact h0
  . cases h; exact h1
  . cases h; exact h2
  . rw [List.getElem?_append_right (by simp)] at h
    have h : (objsN f n)[i]? = some o := h
    have hi : i < n := by
      have := (List.getElem?_eq_some_iff.1 h).1
      rwa [objsN_len] at this
    rw [objsN_get hi] at h
    cases h
    rw [show i + 1 + 1 + 1 = 3 + i by omega]
    exact h3 i hi
def ToO (g : Nat -> Option Nat) (n : Nat) (h : List AObj) (i : Nat) (o : AObj) : Prop := (g i = none /\ o.live = false) \/ ∃ k, g i = some k /\ (o = .dead \/ ∃ o0, h[k]? = some o0 /\ RenO (idx n g) o0 o)
theorem to_jw {nt : Nat} {tm : Nat -> AV} {l : List (Nat × AV)} {h : List AObj} {B' S' : AObj} {js' : List JW} (g : Nat -> Option Nat)
    (hinj : ∀ i j k, i < 3 + js'.length -> j < 3 + js'.length -> g i = some k -> g j = some k -> i = j) (hr : regsT (idx (3 + js'.length) g) tm l)
    (h0 : ToO g (3 + js'.length) h 0 B') (h1 : ToO g (3 + js'.length) h 1 (jwR 3 js')) (h2 : ToO g (3 + js'.length) h 2 S') (h3 : ∀ k, k < js'.length -> ToO g (3 + js'.length) h (3 + k) (jwO js' k)) :
    St.to ⟨nt, tm, h, 0⟩ ⟨nt, look l, jwK B' S' js', 0⟩ := by
  have hl : (jwK B' S' js').length = 3 + js'.length := by simp [jwK, objsN_len]; omega
  have hh := RenH.idx (g := g) (h := h) (h' := jwK B' S' js') (by
    rw [hl]
    exact jw_all h0 h1 h2 h3)
  rw [hl] at hh
  exact St.to_mk (injB_idx hinj) (by simp [pinB, pinF]) hr hh
theorem ren_jwC {φ : List (Option Nat)} {js : List JW} {i : Nat} (h : (lat js (i : Int)).gone = false -> φ[3 + i]? = some (some (3 + i))) : Rens φ (jwC 3 js i) (jwC 3 js i) := by
  refine Rens.cons (Ren.int _ _) (Rens.cons ?_ Rens.nil)
  rcases hg : (lat js (i : Int)).gone with _ | _
  . rw [if_neg (by simp)]; exact Ren.ref (h hg) fun h => h
  . rw [if_pos rfl]; exact Ren.nilS
theorem ren_jwR {φ : List (Option Nat)} {js js' : List JW} {e : Nat -> List AV} (he : Wd e 2) (hl : js'.length = js.length) (h : ∀ i, i < js.length -> Rens φ (e i) (jwC 3 js' i)) : RenO φ (.row 53 2 (cellsN e js.length)) (jwR 3 js') := by
  refine ⟨rfl, rfl, ?_, ?_⟩
  . rw [cellsN_len (wdJ _ _), cellsN_len he, hl]
  . rw [hl]
    exact Rens.cellsN fun i hi => ⟨h i hi, by rw [he, wdJ]⟩
theorem ren_jwO {φ : List (Option Nat)} (js : List JW) (k : Nat) : RenO φ (jwO js k) (jwO js k) := ⟨rfl, rfl, rfl, Rens.enc enc60 false _⟩
theorem lat_ext {α : Type} [Inhabited α] {xs ys : List α} (hl : xs.length = ys.length) (h : ∀ k : Nat, k < xs.length -> lat xs (k : Int) = lat ys (k : Int)) : xs = ys := by
  apply List.ext_getElem hl
  intro i h1 h2
  have := h i h1
  rw [lat_get h1, lat_get h2] at this
  exact this
theorem lat_map {α β : Type} [Inhabited α] [Inhabited β] {f : α -> β} {xs : List α} {k : Nat} (h : k < xs.length) : lat (xs.map f) (k : Int) = f (lat xs (k : Int)) := by
  rw [lat_get h, lat_get (by simpa using h)]; simp
theorem lat_rep {α : Type} [Inhabited α] {x : α} {n k : Nat} (h : k < n) : lat (List.replicate n x) (k : Int) = x := by
  rw [lat_get (by simpa using h)]; simp
def toJob (w : JW) : Job := ⟨w.ar, if w.gone then [] else w.wk⟩
theorem rs_jw (k : Nat) (js : List JW) {n : Nat} (hn : n = js.length) : Wk (cvO (k + 3) (jwH js) (.ref false 1 n)) (.lst false n (zYy (e53 true) (js.map toJob))) := by
  have e1 : (jwH js)[1]? = some (jwR 3 js) := rfl
  have e2 : cvO (k + 3) (jwH js) (.ref false 1 n) = .lst false n (((cellsN (jwC 3 js) js.length).take (n * 2)).map (cvI (k + 2) (jwH js))) := by
    show (match (jwH js)[1]? with | some (.row _ sz cs) => AV.lst false n ((cs.take (n * sz)).map (cvI (k + 2) (jwH js))) | _ => .any) = _
    rw [e1]; rfl
  rw [e2]
  refine Wk.lsts _ _ ?_
  rw [List.take_of_length_le (by rw [cellsN_len (wdJ _ _), hn]; exact Nat.le_refl _), cellsN_map, cellsN_encL, List.length_map]
  refine Wks.cellsN fun i hi => ?_
  rw [lat_map hi]
  have hb : (jwH js)[3 + i]? = some (jwO js i) := objsN_getA (A := [.dead, jwR 3 js, .dead]) hi
  refine Wks.cons (agI_int _ _ _ _) (Wks.cons ?_ (Wks.refl _))
  rcases hg : (lat js (i : Int)).gone with _ | _
  . simp only [toJob, hg, Bool.false_eq_true, if_false]
    have e3 : cvI (k + 2) (jwH js) (.ref false (3 + i) (lat js (i : Int)).wk.length) = .lst true (lat js (i : Int)).wk.length (((zYy e60 (lat js (i : Int)).wk).take ((lat js (i : Int)).wk.length * 2)).map (cvI (k + 1) (jwH js))) := by
      show (match (jwH js)[3 + i]? with | some (.row _ sz cs) => AV.lst true (lat js (i : Int)).wk.length ((cs.take ((lat js (i : Int)).wk.length * sz)).map (cvI (k + 1) (jwH js))) | _ => .any) = _
      rw [hb]; rfl
    rw [e3, List.take_of_length_le (by rw [zYw (enc60.wd false)]; exact Nat.le_refl _)]
    exact Wk.lsts _ _ (encL_ci enc60 k _ _)
  . simp only [toJob, hg, if_true]
    show Wk (cvI (k + 2) (jwH js) .nilS) _
    exact Wk.nil' _ _ _ rfl
def applyC (js : List JW) : Chg -> List JW
  | .upd x => js.set x.jb.toNat ⟨(lat js x.jb).ar, false, (lat js x.jb).wk.set x.pc.toNat ⟨(lat (lat js x.jb).wk x.pc).st, x.ba⟩⟩
  | .rem j => js.set j.toNat ⟨(lat js j).ar, true, (lat js j).wk⟩
def okC (js : List JW) : Chg -> Prop
  | .upd x => (0 <= x.jb /\ x.jb < js.length) /\ (lat js x.jb).gone = false /\ 0 <= x.pc /\ x.pc < (lat js x.jb).wk.length
  | .rem j => 0 <= j /\ j < js.length
def okAll : List JW -> List Chg -> Prop
  | _, [] => True
  | js, c :: cs => okC js c /\ okAll (applyC js c) cs
theorem applyC_len (js : List JW) (c : Chg) : (applyC js c).length = js.length := by cases c <;> simp [applyC]
theorem foldC_len (js : List JW) (cs : List Chg) : (cs.foldl applyC js).length = js.length := by
  induction cs generalizing js with
  | nil => rfl
  | cons c cs ih => rw [List.foldl_cons, ih, applyC_len]
theorem okAll_at : ∀ {cs : List Chg} {js : List JW}, okAll js cs -> ∀ {i : Nat}, i < cs.length -> okC ((cs.take i).foldl applyC js) (lat cs (i : Int))
  | [], _, _, i, hi => by simp at hi
  | c :: cs, js, h, 0, hi => by
    rw [lat_get hi]; exact h.1
  | c :: cs, js, h, i + 1, hi => by
    rw [lat_get hi]
    have h2 : i < cs.length := by simpa using hi
    have := okAll_at h.2 h2
    rw [lat_get h2] at this
    simpa using this
def fullJ (j : Job) : JW := ⟨j.ar, false, j.wk⟩
def withM (r : Req) (p : Int) : List Job := ((chgM r.ex p).foldl applyC (r.jobs.map fullJ)).map toJob
theorem o_cpR {P : Program} {T : TT} {d : Option Tmp} {ty : TypeId} {pos : String} {af : Array Edge} {g : Option (Nat × Bool)} {n : Nat} {l : List (Nat × AV)} {h : List AObj} {b : Nat} {K : AV -> List AObj -> Prop} {a a2 : Operand}
    {t t2 e et : TypeId} {s by_ es eb id m : Nat} {z ez : List AV} {ek : TK} {nb fl : Bool} {α : Type} {en : α -> List AV} {xs ys : List α} (ht : T t = some ⟨.sl e, s, by_, z⟩) (he : T e = some ⟨ek, es, eb, ez⟩) (hw : Wd en es)
    (h1 : St.eval ⟨n, look l, h, b⟩ a = .ref nb id m) (h2 : St.eval ⟨n, look l, h, b⟩ a2 = .lst fl m (zYy en xs)) (ho : h[id]? = some (.row et es (zYy en ys))) (hx : xs.length = m) (hy : ys.length = m)
    (hk : K (.int .i64 (m : Int)) (h.set id (.row et es (zYy en xs)))) : opC P T ⟨d, .call ⟨.builtin .copy, #[a, a2], #[t, t2]⟩, ty, pos, af, g⟩ ⟨n, look l, h, b⟩ K := by
  show copyA T h t (St.eval ⟨n, look l, h, b⟩ a) (St.eval ⟨n, look l, h, b⟩ a2) K
  rw [h1, h2]
  have hlen : (zYy en xs).length = m * es := by rw [zYw hw, hx]
  simp only [copyA, ht, he, srcA]
  rw [List.take_of_length_le (by omega : (zYy en xs).length <= m * es), Nat.min_self]
  refine ⟨hlen, fun h0 => ?_, fun h0 => ?_⟩
  . subst h0
    have hx0 : xs = [] := List.eq_nil_of_length_eq_zero hx
    have hy0 : ys = [] := List.eq_nil_of_length_eq_zero hy
    subst hx0; subst hy0
    have e0 : h.set id (.row et es (zYy en [])) = h := by
      apply List.ext_getElem?
      intro j
      by_cases hij : id = j
      . subst hij
        rw [List.getElem?_set_self (List.getElem?_eq_some_iff.1 ho).1, ho]
      . rw [List.getElem?_set_ne hij]
    rw [e0] at hk
    exact hk
  . rw [List.take_of_length_le (by omega : (zYy en xs).length <= m * es)]
    have hly : (zYy en ys).length = m * es := by rw [zYw hw, hy]
    simp only [putCells, ho]
    refine ⟨by omega, ?_⟩
    rw [spl_all _ _ (by omega)]
    exact hk
def lateM (r : Req) (p : Int) : Int × Int := latenessM' r (withM r p)
def latenessM (r : Req) (p : Int) : Int × Int := if isSetM r p = true then lateM r p else (0, 240)
def withE (r : Req) (p : Int) : List Job × Int := if isSetM r p = true then (withM r p, 0) else ([], 240)
def valuesM (r : Req) : List Int × Int := if validR r = true then
    (match ((rangeI (2 ^ r.causes.toNat)).find? fun s => decide (¬ (lateM r s).2 = 0)) with
    | some s => ([], (lateM r s).2)
    | none => ((rangeI (2 ^ r.causes.toNat)).map fun s => (lateM r s).1, 0)) else ([], 240)
end Go.Lat
