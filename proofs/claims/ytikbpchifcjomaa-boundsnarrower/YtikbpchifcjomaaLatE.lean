/- The law latecomerlaw07.BoundsNarrower returns true for every input, and each argument reads afterwards as it read before. Part 5 of 11. No condition. -/
import Derived.Test.YtikbpchifcjomaaLatD
set_option linter.unusedVariables false
set_option linter.unusedSimpArgs false
set_option linter.unnecessarySimpa false
namespace Go.Lat
open Go.RowKit

/-! ### A region that draws its order, of which several operations make objects: a tree tells which of them comes next -/
mutual
inductive PT where
  | leaf (P : List Nat)
  | node (P : List Nat) (B : PB)
inductive PB where
  | nil
  | cons (a : Nat) (t : PT) (r : PB)
end
section
variable (P : Program) (T : TT) (ops : Array Oper) (K : St → Prop)
mutual
def PT.run : PT → St → Prop
  | .leaf L, st => seqI P T ops L st K
  | .node L B, st => seqI P T ops L st fun s => PB.run B s
def PB.run : PB → St → Prop
  | .nil, _ => True
  | .cons a t r, s => (stepI P T ops a s fun s' => PT.run t s') ∧ PB.run r s
end
end
def PB.has : PB → Nat → Bool
  | .nil, _ => false
  | .cons a _ r, k => Nat.beq a k || PB.has r k
def PB.some : PB → Bool
  | .nil => false
  | .cons .. => true
section
variable (ops : Array Oper) (A : List (List Nat))
def segOk (CP dn L : List Nat) : Bool :=
  decide L.Nodup && L.all (fun k => decide (k < ops.size) && !dn.contains k) && pairB ops A L && CP.all (fun c => L.all (relB ops A c)) && L.all fun q => (dirs ops q).all fun p => (dn ++ L).contains p
mutual
def chkT (CP dn : List Nat) : PT → Bool
  | .leaf L => segOk ops A CP dn L && (List.range ops.size).all fun k => (dn ++ L).contains k
  | .node L B => segOk ops A CP dn L && PB.some B && ((List.range ops.size).all fun k => (dn ++ L).contains k || PB.has B k || (dirs ops k).any fun p => !(dn ++ L).contains p) && chkB (CP ++ L) (dn ++ L) B
def chkB (CP dn : List Nat) : PB → Bool
  | .nil => true
  | .cons a t r => decide (a < ops.size) && !dn.contains a && CP.all (fun c => relB ops A c a) && (dirs ops a).all (fun p => dn.contains p) && chkT CP (dn ++ [a]) t && chkB CP dn r
end
end
def chkP (ops : Array Oper) (t : PT) : Bool :=
  chkA ops (ancs ops) && (List.range ops.size).all (fun i => (dirs ops i).all fun p => decide (p < ops.size) && p != i) && chkT ops (ancs ops) [] [] t

section
variable {P : Program} {T : TT} {ops : Array Oper} {K : St → Prop} {A : List (List Nat)}
theorem stepI_mono {K K' : St → Prop} {i : Nat} {st : St} (h : stepI P T ops i st K) (hk : ∀ s, K s → K' s) : stepI P T ops i st K' := by
  unfold stepI at h ⊢
  split at h
  · exact hk _ h
  · exact stepG_mono' h hk
theorem seqI_mono {K K' : St → Prop} (hk : ∀ s, K s → K' s) : ∀ (l : List Nat) (st : St), seqI P T ops l st K → seqI P T ops l st K'
  | [], _, h => hk _ h
  | _ :: l, _, h => stepI_mono h fun s hs => seqI_mono hk l s hs
theorem seqI_app {K : St → Prop} : ∀ (a b : List Nat) (st : St), seqI P T ops (a ++ b) st K = seqI P T ops a st fun s => seqI P T ops b s K
  | [], _, _ => rfl
  | i :: a, b, st => by
    show stepI P T ops i st (fun s => seqI P T ops (a ++ b) s K) = stepI P T ops i st fun s => seqI P T ops a s fun s => seqI P T ops b s K
    congr 1
    funext s
    exact seqI_app a b s
theorem chkB_has {CP dn : List Nat} : ∀ {B : PB}, chkB ops A CP dn B = true → ∀ {i}, PB.has B i = true → ∃ t, chkT ops A CP (dn ++ [i]) t = true ∧ i < ops.size ∧ i ∉ dn ∧ (∀ c ∈ CP, relB ops A c i = true) ∧ (∀ s, PB.run P T ops K B s → stepI P T ops i s fun s' => PT.run P T ops K t s')
  | .nil, _, i, h => by cases h
  | .cons a t r, hc, i, h => by
    simp only [chkB, Bool.and_eq_true, decide_eq_true_eq, Bool.not_eq_true', List.all_eq_true] at hc
    obtain ⟨⟨⟨⟨⟨h1, h2⟩, h3⟩, h4⟩, h5⟩, h6⟩ := hc
    simp only [PB.has, Bool.or_eq_true] at h
    rcases h with h | h
    · obtain rfl := Nat.eq_of_beq_eq_true h
      refine ⟨t, h5, h1, fun hin => ?_, h3, fun s hs => ?_⟩
      · rw [List.contains_iff_mem.mpr hin] at h2; cases h2
      · simp only [PB.run] at hs; exact hs.1
    · obtain ⟨t', k1, k2, k3, k4, k5⟩ := chkB_has h6 h
      exact ⟨t', k1, k2, k3, k4, fun s hs => by simp only [PB.run] at hs; exact k5 s hs.2⟩
theorem chkB_first {CP dn : List Nat} {B : PB} (hc : chkB ops A CP dn B = true) (hs : PB.some B = true) : ∃ a, a < ops.size ∧ a ∉ dn ∧ ∀ p ∈ dirs ops a, p ∈ dn := by
  cases B with
  | nil => cases hs
  | cons a t r =>
    simp only [chkB, Bool.and_eq_true, decide_eq_true_eq, Bool.not_eq_true', List.all_eq_true, List.contains_iff_mem] at hc
    obtain ⟨⟨⟨⟨⟨h1, h2⟩, h3⟩, h4⟩, h5⟩, h6⟩ := hc
    refine ⟨a, h1, fun hin => ?_, h4⟩
    rw [List.contains_iff_mem.mpr hin] at h2; cases h2

/-- What comes behind the operations that are told. -/
inductive PE where
  | fin
  | br (B : PB)
def PE.run (P : Program) (T : TT) (ops : Array Oper) (K : St → Prop) : PE → St → Prop
  | .fin, s => K s
  | .br B, s => PB.run P T ops K B s
def PE.ok (ops : Array Oper) (A : List (List Nat)) (CP dn : List Nat) : PE → Prop
  | .fin => ∀ k, k < ops.size → k ∈ dn
  | .br B => PB.some B = true ∧ (∀ k, k < ops.size → k ∈ dn ∨ PB.has B k = true ∨ ∃ p ∈ dirs ops k, p ∉ dn) ∧ chkB ops A CP dn B = true

structure Res (ops : Array Oper) (A : List (List Nat)) (listed : Array Bool) (L CP dn : List Nat) (E : PE) : Prop where
  size : listed.size = ops.size
  done : ∀ k, k < ops.size → (k ∈ dn ↔ listed.getD k false = true ∨ k ∈ L)
  lt : ∀ k ∈ L, k < ops.size
  open' : ∀ k ∈ L, listed.getD k true = false
  nodup : L.Nodup
  pair : L.Pairwise (fun a b => relB ops A a b = true)
  sub : ∀ k ∈ L, k ∈ CP
  closed : ∀ k, listed.getD k false = true → ∀ p ∈ dirs ops k, listed.getD p false = true
  seg : ∀ q ∈ L, ∀ p ∈ dirs ops q, p ∈ dn
  self : ∀ k, k < ops.size → ∀ p ∈ dirs ops k, p < ops.size ∧ p ≠ k
  e : PE.ok ops A CP dn E

theorem Res.anc {listed : Array Bool} {L CP dn : List Nat} {E : PE} (h : Res ops A listed L CP dn E) (hA : chkA ops A = true) :
    ∀ (i : Nat), (∀ p ∈ dirs ops i, listed.getD p false = true) → ∀ j ∈ A.getD i [], i < ops.size → listed.getD j false = true := by
  intro i
  induction i using Nat.strongRecOn with
  | _ i ih =>
    intro hi j hj hlt
    simp only [chkA, List.all_eq_true, List.mem_range, Bool.or_eq_true, List.contains_iff_mem, List.any_eq_true, Bool.and_eq_true, decide_eq_true_eq] at hA
    rcases hA i hlt j hj with h1 | ⟨p, hp, hpi, hjp⟩
    · exact hi j h1
    · exact ih p hpi (h.closed p (hi p hp)) j hjp (by omega)

theorem ready_of {listed : Array Bool} {i : Nat} (hlt : i < ops.size) (h1 : listed.getD i true = false) (h2 : ∀ p ∈ dirs ops i, listed.getD p false = true) : i ∈ Region.ready .any ops listed := by
  refine mem_ready.2 ⟨h1, ops[i], by simp [hlt], fun e he hb => ?_⟩
  refine h2 e.on ?_
  simp only [dirs, Array.getElem?_eq_getElem hlt, List.mem_map, List.mem_filter]
  exact ⟨e, ⟨by simpa using he, hb⟩, rfl⟩
theorem getD_ft {listed : Array Bool} {k : Nat} (hk : k < listed.size) (h : ¬ listed.getD k false = true) : listed.getD k true = false := by
  rw [Array.getD_eq_getD_getElem?] at h ⊢
  simp [hk] at h ⊢
  exact h

theorem any_of_tree (hA : chkA ops A = true) : ∀ (fuel : Nat) (listed : Array Bool) (L CP dn : List Nat) (E : PE) (st : St), Res ops A listed L CP dn E →
    (∃ U : List Nat, U.length ≤ fuel ∧ ∀ k, k < ops.size → ¬ listed.getD k false = true → k ∈ U) → (seqI P T ops L st fun s => PE.run P T ops K E s) → anyS P T ops K fuel listed st := by
  intro fuel
  -- if nothing is ready, all is done
  have stop : ∀ (listed : Array Bool) (L CP dn : List Nat) (E : PE) (st : St), Res ops A listed L CP dn E → Region.ready .any ops listed = [] → (seqI P T ops L st fun s => PE.run P T ops K E s) → K st := by
    intro listed L CP dn E st hr hnil h
    have no : ∀ i, i < ops.size → ¬ listed.getD i false = true → (∀ p ∈ dirs ops i, listed.getD p false = true) → False := fun i h1 h2 h3 => by
      have := ready_of h1 (getD_ft (by rw [hr.size]; exact h1) h2) h3
      rw [hnil] at this; cases this
    cases L with
    | cons i L =>
      exfalso
      have h1 := hr.open' i (by simp)
      have hlt := hr.lt i (by simp)
      refine no i hlt (by rw [getD_tf h1]; exact Bool.false_ne_true) fun p hp => ?_
      obtain ⟨s1, s2⟩ := hr.self i hlt p hp
      rcases (hr.done p s1).1 (hr.seg i (by simp) p hp) with h3 | h3
      · exact h3
      · exfalso
        rcases List.mem_cons.1 h3 with h3 | h3
        · exact s2 h3
        · have h4 := (List.pairwise_cons.1 hr.pair).1 _ h3
          simp only [relB, Bool.and_eq_true, Bool.not_eq_true'] at h4
          have h5 := h4.1
          rw [List.contains_iff_mem.mpr hp] at h5; cases h5
    | nil =>
      cases E with
      | fin => exact h
      | br B =>
        exfalso
        obtain ⟨e1, e2, e3⟩ := hr.e
        obtain ⟨a, a1, a2, a3⟩ := chkB_first e3 e1
        refine no a a1 (fun hl => a2 ((hr.done a a1).2 (.inl hl))) fun p hp => ?_
        rcases (hr.done p (hr.self a a1 p hp).1).1 (a3 p hp) with h3 | h3
        · exact h3
        · cases h3
  induction fuel with
  | zero =>
    intro listed L CP dn E st hr ⟨U, hU, hun⟩ h
    have hU0 : U = [] := List.eq_nil_of_length_eq_zero (by omega)
    subst hU0
    have hnil : Region.ready .any ops listed = [] := by
      rcases hrd : Region.ready .any ops listed with _ | ⟨i, l'⟩
      · rfl
      · exfalso
        have hm : i ∈ Region.ready .any ops listed := by rw [hrd]; simp
        obtain ⟨h0, o, ho, _⟩ := mem_ready.1 hm
        have hlt : i < ops.size := by
          rcases Nat.lt_or_ge i ops.size with h' | h'
          · exact h'
          · rw [Array.getElem?_eq_none h'] at ho; cases ho
        have := hun i hlt (by rw [getD_tf h0]; exact Bool.false_ne_true)
        cases this
    exact ⟨hnil, stop listed L CP dn E st hr hnil h⟩
  | succ fuel ih =>
    intro listed L CP dn E st hr ⟨U, hU, hun⟩ h hw
    refine ⟨fun hnil => stop listed L CP dn E st hr hnil h, fun i hi => ?_⟩
    obtain ⟨h0, oi, ho, _⟩ := mem_ready.1 hi
    have hlt : i < ops.size := by
      rcases Nat.lt_or_ge i ops.size with h' | h'
      · exact h'
      · rw [Array.getElem?_eq_none h'] at ho; cases ho
    have hno : ¬ listed.getD i false = true := by rw [getD_tf h0]; exact Bool.false_ne_true
    have hdirs := dirs_ready hi
    have hU' : ∃ U' : List Nat, U'.length ≤ fuel ∧ ∀ k, k < ops.size → ¬ (listed.setIfInBounds i true).getD k false = true → k ∈ U' := by
      refine ⟨U.erase i, ?_, fun k hk hnk => ?_⟩
      · have := List.length_erase_of_mem (hun i hlt hno); omega
      · have hki : k ≠ i := fun e => hnk (by subst e; have := hr.size; simp [this, hlt])
        rw [List.mem_erase_of_ne hki]
        refine hun k hk fun h' => hnk ?_
        rw [getD_set_ne false (Ne.symm hki)]; exact h'
    have hsz : (listed.setIfInBounds i true).size = ops.size := by simpa using hr.size
    have hset : ∀ k, k < ops.size → ((listed.setIfInBounds i true).getD k false = true ↔ listed.getD k false = true ∨ k = i) := fun k hk => by
      by_cases hki : k = i
      · subst hki; have := hr.size; simp [this, hk]
      · rw [getD_set_ne false (Ne.symm hki)]; simp [hki]
    have hclosed : ∀ k, (listed.setIfInBounds i true).getD k false = true → ∀ p ∈ dirs ops k, (listed.setIfInBounds i true).getD p false = true := fun k hk p hp => by
      by_cases hki : k = i
      · subst hki; exact getD_set_true (hdirs p hp)
      · rw [getD_set_ne false (Ne.symm hki)] at hk
        exact getD_set_true (hr.closed k hk p hp)
    have hokP : ∀ j, j ∈ L → relB ops A j i = true → okP ops j i = true := fun j hj h4 => by
      simp only [relB, Bool.and_eq_true, Bool.or_eq_true, List.contains_iff_mem] at h4
      rcases h4.2 with h5 | h5
      · have := hr.anc hA i hdirs j h5 hlt
        rw [getD_tf (hr.open' j hj)] at this
        cases this
      · exact h5
    by_cases hdn : i ∈ dn
    · have hL : i ∈ L := ((hr.done i hlt).1 hdn).resolve_left hno
      obtain ⟨pre, rest, rfl⟩ := List.append_of_mem hL
      have hp := hr.pair
      rw [List.pairwise_append] at hp
      have hok : ∀ j ∈ pre, okP ops j i = true := fun j hj => hokP j (by simp [hj]) (hp.2.2 j hj i (by simp))
      have hb := bubble (K := fun s => PE.run P T ops K E s) ho hw pre st ⟨⟨rfl, fun _ _ => rfl⟩, Nat.le_refl _, fun _ => ⟨[], by simp⟩⟩ hok h
      simp only [stepI, ho]
      have hsub : (pre ++ rest).Sublist (pre ++ i :: rest) := List.Sublist.append_left (List.sublist_cons_self i rest) pre
      have hne : ∀ k ∈ pre ++ rest, k ≠ i := by
        intro k hk hki
        subst hki
        have := hr.nodup
        rw [List.nodup_append] at this
        obtain ⟨_, h2, h3⟩ := this
        rcases List.mem_append.1 hk with h4 | h4
        · exact h3 k h4 k (by simp) rfl
        · exact (List.nodup_cons.1 h2).1 h4
      refine stepG_mono' hb fun s hs => ih _ (pre ++ rest) CP dn E s ⟨hsz, fun k hk => ?_, fun k hk => hr.lt k (hsub.subset hk), fun k hk => ?_, hr.nodup.sublist hsub, hr.pair.sublist hsub, fun k hk => hr.sub k (hsub.subset hk), hclosed, fun q hq => hr.seg q (hsub.subset hq), hr.self, hr.e⟩ hU' hs
      · rw [hr.done k hk, hset k hk]
        simp only [List.mem_append, List.mem_cons]
        constructor
        · rintro (h1 | h1 | h1 | h1)
          · exact .inl (.inl h1)
          · exact .inr (.inl h1)
          · exact .inl (.inr h1)
          · exact .inr (.inr h1)
        · rintro ((h1 | h1) | h1 | h1)
          · exact .inl h1
          · exact .inr (.inr (.inl h1))
          · exact .inr (.inl h1)
          · exact .inr (.inr (.inr h1))
      · rw [getD_set_ne true (Ne.symm (hne k hk))]
        exact hr.open' k (hsub.subset hk)
    · cases E with
      | fin => exact (hdn (hr.e i hlt)).elim
      | br B =>
        obtain ⟨e1, e2, e3⟩ := hr.e
        have hhas : PB.has B i = true := by
          rcases e2 i hlt with h1 | h1 | ⟨p, hp, hpn⟩
          · exact (hdn h1).elim
          · exact h1
          · exact (hpn ((hr.done p (hr.self i hlt p hp).1).2 (.inl (hdirs p hp)))).elim
        obtain ⟨t, k1, k2, k3, k4, k5⟩ := chkB_has (P := P) (T := T) (K := K) e3 hhas
        have hok : ∀ j ∈ L, okP ops j i = true := fun j hj => hokP j hj (k4 j (hr.sub j hj))
        -- the segment of the subtree, and what is behind it
        have key : ∃ (L' : List Nat) (E' : PE), segOk ops A CP (dn ++ [i]) L' = true ∧ PE.ok ops A (CP ++ L') ((dn ++ [i]) ++ L') E' ∧ ∀ s, PT.run P T ops K t s → seqI P T ops L' s fun s => PE.run P T ops K E' s := by
          cases t with
          | leaf L' =>
            simp only [chkT, Bool.and_eq_true, List.all_eq_true, List.mem_range, List.contains_iff_mem] at k1
            exact ⟨L', .fin, k1.1, fun k hk => k1.2 k hk, fun s hs => by simp only [PT.run] at hs; exact hs⟩
          | node L' B' =>
            simp only [chkT, Bool.and_eq_true, List.all_eq_true, List.mem_range, Bool.or_eq_true, List.any_eq_true, Bool.not_eq_true', List.contains_iff_mem] at k1
            obtain ⟨⟨⟨c1, c2⟩, c3⟩, c4⟩ := k1
            refine ⟨L', .br B', c1, ⟨c2, fun k hk => ?_, c4⟩, fun s hs => by simp only [PT.run] at hs; exact hs⟩
            rcases c3 k hk with (h1 | h1) | ⟨p, hp, hpn⟩
            · exact .inl h1
            · exact .inr (.inl h1)
            · refine .inr (.inr ⟨p, hp, fun hin => ?_⟩)
              rw [List.contains_iff_mem.mpr hin] at hpn; cases hpn
        obtain ⟨L', E', c1, c2, c3⟩ := key
        simp only [segOk, Bool.and_eq_true, decide_eq_true_eq, List.all_eq_true, Bool.not_eq_true', List.contains_iff_mem] at c1
        obtain ⟨⟨⟨⟨d1, d2⟩, d3⟩, d4⟩, d5⟩ := c1
        have d2' : ∀ k ∈ L', k < ops.size ∧ k ∉ dn ++ [i] := fun k hk => ⟨(d2 k hk).1, fun hin => by have := (d2 k hk).2; rw [List.contains_iff_mem.mpr hin] at this; cases this⟩
        have hplan : seqI P T ops (L ++ i :: L') st fun s => PE.run P T ops K E' s := by
          rw [seqI_app]
          refine seqI_mono (fun s hs => ?_) L st h
          exact stepI_mono (k5 s hs) c3
        have hb := bubble (K := fun s => PE.run P T ops K E' s) ho hw L st ⟨⟨rfl, fun _ _ => rfl⟩, Nat.le_refl _, fun _ => ⟨[], by simp⟩⟩ hok hplan
        simp only [stepI, ho]
        have hLdn : ∀ k ∈ L, k ∈ dn := fun k hk => (hr.done k (hr.lt k hk)).2 (.inr hk)
        refine stepG_mono' hb fun s hs => ih _ (L ++ L') (CP ++ L') ((dn ++ [i]) ++ L') E' s ⟨hsz, fun k hk => ?_, fun k hk => ?_, fun k hk => ?_, ?_, ?_, fun k hk => ?_, hclosed, fun q hq p hp => ?_, hr.self, c2⟩ hU' hs
        · rw [List.mem_append, List.mem_append, hr.done k hk, hset k hk, List.mem_singleton, List.mem_append]
          constructor
          · rintro (((h1 | h1) | h1) | h1)
            · exact .inl (.inl h1)
            · exact .inr (.inl h1)
            · exact .inl (.inr h1)
            · exact .inr (.inr h1)
          · rintro ((h1 | h1) | h1 | h1)
            · exact .inl (.inl (.inl h1))
            · exact .inl (.inr h1)
            · exact .inl (.inl (.inr h1))
            · exact .inr h1
        · rcases List.mem_append.1 hk with h1 | h1
          · exact hr.lt k h1
          · exact (d2' k h1).1
        · have hki : k ≠ i := by
            rintro rfl
            rcases List.mem_append.1 hk with h1 | h1
            · exact hdn (hLdn _ h1)
            · exact (d2' _ h1).2 (by simp)
          rw [getD_set_ne true (Ne.symm hki)]
          rcases List.mem_append.1 hk with h1 | h1
          · exact hr.open' k h1
          · refine getD_ft (by rw [hr.size]; exact (d2' k h1).1) fun hl => (d2' k h1).2 ?_
            rw [List.mem_append]
            exact .inl ((hr.done k (d2' k h1).1).2 (.inl hl))
        · rw [List.nodup_append]
          refine ⟨hr.nodup, d1, fun a ha b hb' e => ?_⟩
          subst e
          exact (d2' a hb').2 (List.mem_append_left _ (hLdn a ha))
        · rw [List.pairwise_append]
          exact ⟨hr.pair, pairB_spec d3, fun a ha b hb' => d4 a (hr.sub a ha) b hb'⟩
        · rcases List.mem_append.1 hk with h1 | h1
          · exact List.mem_append_left _ (hr.sub k h1)
          · exact List.mem_append_right _ h1
        · rcases List.mem_append.1 hq with h1 | h1
          · exact List.mem_append_left _ (List.mem_append_left _ (hr.seg q h1 p hp))
          · exact d5 q h1 p hp
end
/-- A region that draws its order: a tree of orders. -/
theorem W.tree {P : Program} {T : TT} {st : St} {Q : Ex → St → Prop} {id : Nat} {ops : Array Oper} (t : PT) (hc : chkP ops t = true) (h : PT.run P T ops (Q .nrm) t st) : W P T (.region id ops true) st Q := fun hT hf ro n X D w0 mA r m a w hR => by
  simp only [chkP, Bool.and_eq_true, List.all_eq_true, List.mem_range, decide_eq_true_eq, bne_iff_ne, ne_eq] at hc
  obtain ⟨⟨h1, h2⟩, h3⟩ := hc
  refine wpIn_region_any hf ?_
  have hR' : R X D w0 mA r m st a { w with drawn := w.drawn + 1 } := { hR with }
  have hno : ∀ k, (Array.replicate ops.size false).getD k false = false := fun k => by
    rw [Array.getD_eq_getD_getElem?]
    by_cases hk : k < ops.size <;> simp [hk]
  have hU : ∃ U : List Nat, U.length ≤ ops.size ∧ ∀ k, k < ops.size → ¬ (Array.replicate ops.size false).getD k false = true → k ∈ U := ⟨List.range ops.size, by simp, fun k hk _ => List.mem_range.mpr hk⟩
  have base : ∀ (L : List Nat) (E : PE), segOk ops (ancs ops) [] [] L = true → PE.ok ops (ancs ops) L L E → Res ops (ancs ops) (Array.replicate ops.size false) L L L E := fun L E c1 c2 => by
    simp only [segOk, Bool.and_eq_true, decide_eq_true_eq, List.all_eq_true, Bool.not_eq_true', List.contains_iff_mem, List.nil_append] at c1
    obtain ⟨⟨⟨⟨d1, d2⟩, d3⟩, d4⟩, d5⟩ := c1
    exact ⟨by simp, fun k hk => by (rw [hno k]; simp), fun k hk => (d2 k hk).1, fun k hk => getD_ft (by simpa using (d2 k hk).1) (by (rw [hno k]; exact Bool.false_ne_true)), d1, pairB_spec d3, fun k hk => hk, fun k hk => absurd hk (by (rw [hno k]; exact Bool.false_ne_true)), d5, fun k hk p hp => h2 k hk p hp, c2⟩
  refine anyS_sound hT (fun s r' m' a' w' hs hR' => ⟨r', m', s, hs, hR'⟩) ops.size _ hR' ?_
  cases t with
  | leaf L =>
    simp only [chkT, Bool.and_eq_true, List.all_eq_true, List.mem_range, List.contains_iff_mem, List.nil_append] at h3
    simp only [PT.run] at h
    exact any_of_tree h1 ops.size _ L L L .fin st (base L .fin h3.1 h3.2) hU h
  | node L B =>
    simp only [chkT, Bool.and_eq_true, List.all_eq_true, List.mem_range, Bool.or_eq_true, List.any_eq_true, Bool.not_eq_true', List.contains_iff_mem, List.nil_append] at h3
    obtain ⟨⟨⟨c1, c2⟩, c3⟩, c4⟩ := h3
    simp only [PT.run] at h
    refine any_of_tree h1 ops.size _ L L L (.br B) st (base L (.br B) c1 ⟨c2, fun k hk => ?_, c4⟩) hU h
    rcases c3 k hk with (h1 | h1) | ⟨p, hp, hpn⟩
    · exact .inl h1
    · exact .inr (.inl h1)
    · refine .inr (.inr ⟨p, hp, fun hin => ?_⟩)
      rw [List.contains_iff_mem.mpr hin] at hpn; cases hpn

section
variable {P : Program} {T : TT} {ol : List Oper} {n : Nat} {l : List (Nat × AV)} {h : List AObj} {b : Bool} {o : Op} {ty : TypeId} {pos : String} {af : Array Edge} {KS : St → Prop} {rest : List Nat} {i : Nat}
theorem cI {d : Nat} (hi : ol[i]? = some ⟨some d, o, ty, pos, af, none⟩) (hd : Nat.ble (d + 1) n = true)
    (h1 : opC P T ⟨some d, o, ty, pos, af, none⟩ ⟨n, look l, h, b⟩ fun v h' => KS ⟨n, look ((d, v) :: l), h', b⟩) : stepI P T ol.toArray i ⟨n, look l, h, b⟩ KS := by
  have hd' : d < n := Nat.le_of_ble_eq_true hd
  have hi' : ol.toArray[i]? = some ⟨some d, o, ty, pos, af, none⟩ := by simpa using hi
  unfold stepI
  rw [hi']
  show opC P T ⟨some d, o, ty, pos, af, none⟩ ⟨n, look l, h, b⟩ fun v h' => KS (St.put ⟨n, look l, h', b⟩ (some d) v)
  have e : (fun v h' => KS (St.put ⟨n, look l, h', b⟩ (some d) v)) = fun v h' => KS ⟨n, look ((d, v) :: l), h', b⟩ := by
    funext v h'
    rw [St.put_look d v hd']
  rw [e]
  exact h1
theorem cIn (hi : ol[i]? = some ⟨none, o, ty, pos, af, none⟩)
    (h1 : opC P T ⟨none, o, ty, pos, af, none⟩ ⟨n, look l, h, b⟩ fun _ h' => KS ⟨n, look l, h', b⟩) : stepI P T ol.toArray i ⟨n, look l, h, b⟩ KS := by
  have hi' : ol.toArray[i]? = some ⟨none, o, ty, pos, af, none⟩ := by simpa using hi
  unfold stepI
  rw [hi']
  exact h1
theorem cS {d : Nat} (hi : ol[i]? = some ⟨some d, o, ty, pos, af, none⟩) (hd : Nat.ble (d + 1) n = true)
    (h1 : opC P T ⟨some d, o, ty, pos, af, none⟩ ⟨n, look l, h, b⟩ fun v h' => seqI P T ol.toArray rest ⟨n, look ((d, v) :: l), h', b⟩ KS) : seqI P T ol.toArray (i :: rest) ⟨n, look l, h, b⟩ KS := cI hi hd h1
theorem cSn (hi : ol[i]? = some ⟨none, o, ty, pos, af, none⟩)
    (h1 : opC P T ⟨none, o, ty, pos, af, none⟩ ⟨n, look l, h, b⟩ fun _ h' => seqI P T ol.toArray rest ⟨n, look l, h', b⟩ KS) : seqI P T ol.toArray (i :: rest) ⟨n, look l, h, b⟩ KS := cIn hi h1
theorem eS {st : St} {ops : Array Oper} (h1 : KS st) : seqI P T ops [] st KS := h1
theorem tL {st : St} {ops : Array Oper} {L : List Nat} (h1 : seqI P T ops L st KS) : PT.run P T ops KS (.leaf L) st := by simp only [PT.run]; exact h1
theorem tN {st : St} {ops : Array Oper} {L : List Nat} {B : PB} (h1 : seqI P T ops L st fun s => PB.run P T ops KS B s) : PT.run P T ops KS (.node L B) st := by simp only [PT.run]; exact h1
theorem tC {st : St} {ops : Array Oper} {a : Nat} {t : PT} {r : PB} (h1 : stepI P T ops a st fun s => PT.run P T ops KS t s) (h2 : PB.run P T ops KS r st) : PB.run P T ops KS (.cons a t r) st := by simp only [PB.run]; exact ⟨h1, h2⟩
theorem tE {st : St} {ops : Array Oper} : PB.run P T ops KS .nil st := by simp only [PB.run]
theorem W.rT {Q : Ex → St → Prop} {c : Code} {id : Nat} {st : St} (st' : St) (t : PT) (hc : chkP ol.toArray t = true) (h1 : PT.run P T ol.toArray (fun s => s.to st') t st) (h2 : W P T c st' Q) : W P T (.seq (.region id ol.toArray true) c) st Q :=
  W.seq (fun s => s.to st') (W.tree t hc h1) fun _ h => W.to h h2
end
end Go.Lat
namespace Go.Lat
open Go.RowKit Go.Proofs
attribute [local irreducible] closeM rangeM pointM addBM cycleM holdsM validBM sameM madeM pickM plusM validM possM firstM tableM longerM boundsM ofM addM freeM
/-- What the walk through latecomerlaw07.pick asks. -/
def vc_pick (c : Int) (n : Int) (Post : Int → Prop) : Prop :=
  ∃ J1 : Int → Prop, (∀ (v0 : Int), J1 v0 → (n ≠ 0) ∧ Post (v0.tmod n)) ∧ (((c < (0 : Int)) → (inI (c + (1 : Int))) ∧ (inI (-(c + (1 : Int)))) ∧ J1 (-(c + (1 : Int)))) ∧ (¬ (c < (0 : Int)) → J1 c))
set_option maxRecDepth 100000 in
set_option maxHeartbeats 4000000 in
theorem walk_pick {c : Int} {n : Int} {Post : Int → Prop} (hv : vc_pick c n Post) : FnP Try.prog 12 [.int .i64 c, .int .i64 n] (fun x => ∃ q0, x = .int .i64 q0 ∧ Post q0) := by
  refine FnP.of_walk (T := tt) (nt := 13) ttOk ttMix ⟨⟨Try.f12, Try.func12, rfl, rfl, rfl, rfl⟩⟩ (by simp) ?_
  unfold vc_pick at hv
  change W _ _ _ ⟨13, look [(0, .int .i64 c), (1, .int .i64 n)], [], false⟩ _
  refine W.tr [(0, .int _ _), (1, .int _ _)] [] ⟨rfl, rfl, trivial⟩ rfl ?_
  refine W.rL ?_
  refine cL rfl (o_assign (v := .int _ _) rfl ?_)
  refine eL ?_
  refine W.tr [(0, .int _ _), (1, .int _ _)] [] ⟨rfl, rfl, trivial⟩ rfl ?_
  obtain ⟨J1, hj, hv⟩ := hv
  refine W.mid1 (fun v0 => ⟨13, look [(0, .int .i64 v0), (1, .int .i64 n)], [], false⟩) J1 ?_ ?_
  · intro v0
    intro hv
    replace hv := hj v0 hv
    refine W.rL ?_
    refine cL rfl (o_move (v := .int _ _) rfl ?_)
    refine cL rfl (o_move (v := .int _ _) rfl ?_)
    obtain ⟨s3, hv⟩ := hv
    refine cL rfl (o_rem rfl rfl s3 ?_)
    refine cL rfl (o_assign (v := .int _ _) rfl ?_)
    refine eL ?_
    refine W.tr [(4, .int _ _)] [] ⟨rfl, trivial⟩ rfl ?_
    refine W.ret ?_
    refine rt ?_
    refine rt_t (v := .int _ _) rfl ?_
    refine rt_n ?_
    exact ⟨_, rs_int _ _ _ _, (v0.tmod n), rfl, hv⟩
  · clear hj
    refine W.rL ?_
    refine cL rfl (o_move (v := .int _ _) rfl ?_)
    refine cL rfl (o_lss rfl rfl ?_)
    refine eL ?_
    refine W.tr [(0, .int _ _), (1, .int _ _), (6, .bool _)] [] ⟨rfl, rfl, rfl, trivial⟩ rfl ?_
    refine W.cn rfl (fun hc => ?_) (fun hc => ?_)
    · have hv := hv.1 hc
      refine W.rL1 ?_
      refine cL rfl (o_move (v := .int _ _) rfl ?_)
      obtain ⟨s4, hv⟩ := hv
      refine cL rfl (o_add rfl rfl s4 ?_)
      obtain ⟨s5, hv⟩ := hv
      refine cL rfl (o_neg rfl s5 ?_)
      refine cL rfl (o_assign (v := .int _ _) rfl ?_)
      refine eL ?_
      exact th_nrm (⟨(), (-(c + (1 : Int))), hv, St.to_mk (φ := []) rfl (.inl rfl) ⟨Ren.int _ _, Ren.int _ _, trivial⟩ trivial⟩)
    · have hv := hv.2 hc
      refine W.skip ?_
      exact th_nrm (⟨(), c, hv, St.to_mk (φ := []) rfl (.inl rfl) ⟨Ren.int _ _, Ren.int _ _, trivial⟩ trivial⟩)
theorem vcp_pick (c : Int) (n : Int) (h0 : inI c) (h1 : 1 ≤ n) : vc_pick c n (fun q0 => q0 = (pickM c n)) := by
  unfold vc_pick
  refine ⟨fun v => v = if c < 0 then -(c+1) else c, fun v hv => ⟨by omega, by subst hv; unfold pickM; rfl⟩, fun h => ?_, fun h => ?_⟩
  · unfold inI at *; exact ⟨by omega, by omega, by simp [h]⟩
  · simp [h]
theorem spec_pick (c : Int) (n : Int) (h0 : inI c) (h1 : 1 ≤ n) : FnP Try.prog 12 [.int .i64 c, .int .i64 n] (fun xR => xR = .int .i64 (pickM c n)) :=
  (walk_pick (vcp_pick c n h0 h1)).mono (by rintro _ ⟨_, rfl, rfl⟩; rfl)
end Go.Lat
namespace Go.Lat
open Go.RowKit Go.Proofs
attribute [local irreducible] closeM rangeM pointM addBM cycleM holdsM validBM sameM madeM pickM plusM validM possM firstM tableM longerM boundsM ofM addM freeM
/-- What the walk through latecomerref07.pick asks. -/
def vc_rpick (c : Int) (n : Int) (Post : Int → Prop) : Prop :=
  ∃ J1 : Int → Prop, (∀ (v0 : Int), J1 v0 → (n ≠ 0) ∧ Post (v0.tmod n)) ∧ (((c < (0 : Int)) → (inI (c + (1 : Int))) ∧ (inI (-(c + (1 : Int)))) ∧ J1 (-(c + (1 : Int)))) ∧ (¬ (c < (0 : Int)) → J1 c))
set_option maxRecDepth 100000 in
set_option maxHeartbeats 4000000 in
theorem walk_rpick {c : Int} {n : Int} {Post : Int → Prop} (hv : vc_rpick c n Post) : FnP Try.prog 34 [.int .i64 c, .int .i64 n] (fun x => ∃ q0, x = .int .i64 q0 ∧ Post q0) := by
  refine FnP.of_walk (T := tt) (nt := 13) ttOk ttMix ⟨⟨Try.f34, Try.func34, rfl, rfl, rfl, rfl⟩⟩ (by simp) ?_
  unfold vc_rpick at hv
  change W _ _ _ ⟨13, look [(0, .int .i64 c), (1, .int .i64 n)], [], false⟩ _
  refine W.tr [(0, .int _ _), (1, .int _ _)] [] ⟨rfl, rfl, trivial⟩ rfl ?_
  refine W.rL ?_
  refine cL rfl (o_assign (v := .int _ _) rfl ?_)
  refine eL ?_
  refine W.tr [(0, .int _ _), (1, .int _ _)] [] ⟨rfl, rfl, trivial⟩ rfl ?_
  obtain ⟨J1, hj, hv⟩ := hv
  refine W.mid1 (fun v0 => ⟨13, look [(0, .int .i64 v0), (1, .int .i64 n)], [], false⟩) J1 ?_ ?_
  · intro v0
    intro hv
    replace hv := hj v0 hv
    refine W.rL ?_
    refine cL rfl (o_move (v := .int _ _) rfl ?_)
    refine cL rfl (o_move (v := .int _ _) rfl ?_)
    obtain ⟨s3, hv⟩ := hv
    refine cL rfl (o_rem rfl rfl s3 ?_)
    refine cL rfl (o_assign (v := .int _ _) rfl ?_)
    refine eL ?_
    refine W.tr [(4, .int _ _)] [] ⟨rfl, trivial⟩ rfl ?_
    refine W.ret ?_
    refine rt ?_
    refine rt_t (v := .int _ _) rfl ?_
    refine rt_n ?_
    exact ⟨_, rs_int _ _ _ _, (v0.tmod n), rfl, hv⟩
  · clear hj
    refine W.rL ?_
    refine cL rfl (o_move (v := .int _ _) rfl ?_)
    refine cL rfl (o_lss rfl rfl ?_)
    refine eL ?_
    refine W.tr [(0, .int _ _), (1, .int _ _), (6, .bool _)] [] ⟨rfl, rfl, rfl, trivial⟩ rfl ?_
    refine W.cn rfl (fun hc => ?_) (fun hc => ?_)
    · have hv := hv.1 hc
      refine W.rL1 ?_
      refine cL rfl (o_move (v := .int _ _) rfl ?_)
      obtain ⟨s4, hv⟩ := hv
      refine cL rfl (o_add rfl rfl s4 ?_)
      obtain ⟨s5, hv⟩ := hv
      refine cL rfl (o_neg rfl s5 ?_)
      refine cL rfl (o_assign (v := .int _ _) rfl ?_)
      refine eL ?_
      exact th_nrm (⟨(), (-(c + (1 : Int))), hv, St.to_mk (φ := []) rfl (.inl rfl) ⟨Ren.int _ _, Ren.int _ _, trivial⟩ trivial⟩)
    · have hv := hv.2 hc
      refine W.skip ?_
      exact th_nrm (⟨(), c, hv, St.to_mk (φ := []) rfl (.inl rfl) ⟨Ren.int _ _, Ren.int _ _, trivial⟩ trivial⟩)
theorem vcp_rpick (c : Int) (n : Int) (h0 : inI c) (h1 : 1 ≤ n) : vc_rpick c n (fun q0 => q0 = (pickM c n)) := by
  unfold vc_rpick
  refine ⟨fun v => v = if c < 0 then -(c+1) else c, fun v hv => ⟨by omega, by subst hv; unfold pickM; rfl⟩, fun h => ?_, fun h => ?_⟩
  · unfold inI at *; exact ⟨by omega, by omega, by simp [h]⟩
  · simp [h]
theorem spec_rpick (c : Int) (n : Int) (h0 : inI c) (h1 : 1 ≤ n) : FnP Try.prog 34 [.int .i64 c, .int .i64 n] (fun xR => xR = .int .i64 (pickM c n)) :=
  (walk_rpick (vcp_rpick c n h0 h1)).mono (by rintro _ ⟨_, rfl, rfl⟩; rfl)
end Go.Lat
namespace Go.Lat
open Go.RowKit Go.Proofs
attribute [local irreducible] closeM rangeM pointM addBM cycleM holdsM validBM sameM madeM pickM plusM validM possM firstM tableM longerM boundsM ofM addM freeM
/-- What the walk through latecomerref07.Made asks. -/
def vc_made (n : Int) (x : (List A3)) (Post : (List Con) → Prop) : Prop :=
  ∃ (I1 : Int → List Con → Prop) (μ1 : Int → List Con → Nat), I1 (0 : Int) [] ∧ ∀ (v6 : Int) (r0 : List Con), I1 v6 r0 → (((v6 < ((x.length : Nat) : Int)) ∧ ((v6 < (30 : Int)) ∧ ((1 : Int) < n))) → (0 ≤ v6 ∧ v6 < (x.length : Int)) ∧ (inI ((lat x v6).x0)) ∧ (1 ≤ n) ∧ (inI ((pickM ((lat x v6).x0) n) + (1 : Int))) ∧ (0 ≤ v6 ∧ v6 < (x.length : Int)) ∧ (inI (n - (1 : Int))) ∧ (inI ((lat x v6).x1)) ∧ (1 ≤ (n - (1 : Int))) ∧ (inI (((pickM ((lat x v6).x0) n) + (1 : Int)) + (pickM ((lat x v6).x1) (n - (1 : Int))))) ∧ (n ≠ 0) ∧ (0 ≤ v6 ∧ v6 < (x.length : Int)) ∧ (0 ≤ v6 ∧ v6 < (x.length : Int)) ∧ (inI (((lat x v6).x1).tdiv (30 : Int))) ∧ (inI ((lat x v6).x2)) ∧ (1 ≤ (20 : Int)) ∧ (inI ((pickM ((lat x v6).x2) (20 : Int)) - (6 : Int))) ∧ (inI (((lat x v6).x1).tdiv (30 : Int))) ∧ (1 ≤ (6 : Int)) ∧ (0 ≤ (pickM (((lat x v6).x1).tdiv (30 : Int)) (6 : Int))) ∧ (inI ((1 : Int) * 2 ^ (min (pickM (((lat x v6).x1).tdiv (30 : Int)) (6 : Int)).toNat 64))) ∧ ((r0 ++ [(Con.mk (pickM ((lat x v6).x0) n) ((((pickM ((lat x v6).x0) n) + (1 : Int)) + (pickM ((lat x v6).x1) (n - (1 : Int)))).tmod n) ((pickM ((lat x v6).x2) (20 : Int)) - (6 : Int)) ((1 : Int) * 2 ^ (min (pickM (((lat x v6).x1).tdiv (30 : Int)) (6 : Int)).toNat 64)))]).length ≤ 1073741824) ∧ (inI (v6 + (1 : Int))) ∧ (I1 (v6 + (1 : Int)) (r0 ++ [(Con.mk (pickM ((lat x v6).x0) n) ((((pickM ((lat x v6).x0) n) + (1 : Int)) + (pickM ((lat x v6).x1) (n - (1 : Int)))).tmod n) ((pickM ((lat x v6).x2) (20 : Int)) - (6 : Int)) ((1 : Int) * 2 ^ (min (pickM (((lat x v6).x1).tdiv (30 : Int)) (6 : Int)).toNat 64)))]) ∧ μ1 (v6 + (1 : Int)) (r0 ++ [(Con.mk (pickM ((lat x v6).x0) n) ((((pickM ((lat x v6).x0) n) + (1 : Int)) + (pickM ((lat x v6).x1) (n - (1 : Int)))).tmod n) ((pickM ((lat x v6).x2) (20 : Int)) - (6 : Int)) ((1 : Int) * 2 ^ (min (pickM (((lat x v6).x1).tdiv (30 : Int)) (6 : Int)).toNat 64)))]) < μ1 v6 r0)) ∧ (¬ ((v6 < ((x.length : Nat) : Int)) ∧ ((v6 < (30 : Int)) ∧ ((1 : Int) < n))) → Post r0)
set_option maxRecDepth 100000 in
set_option maxHeartbeats 4000000 in
theorem walk_made {n : Int} {x : (List A3)} {Post : (List Con) → Prop} (hv : vc_made n x Post) : FnP Try.prog 14 [.int .i64 n, .lst true x.length (encL e26 x)] (fun x => ∃ q0, x = .lst false q0.length (encL e25 q0) ∧ Post q0) := by
  refine FnP.of_walk (T := tt) (nt := 65) ttOk ttMix ⟨⟨Try.f14, Try.func14, rfl, rfl, rfl, rfl⟩⟩ (by simp) ?_
  unfold vc_made at hv
  change W _ _ _ ⟨65, look [(0, .int .i64 n), (1, .lst true x.length (encL e26 x))], [], false⟩ _
  refine W.tr [(0, .int _ _), (1, .lst _ _ _)] [] ⟨rfl, rfl, trivial⟩ rfl ?_
  refine W.rL ?_
  refine cL rfl (o_assign (v := .nilS) rfl ?_)
  refine eL ?_
  refine W.tr [(0, .int _ _), (1, .lst _ _ _)] [] ⟨rfl, rfl, trivial⟩ rfl ?_
  refine W.rL ?_
  refine cL rfl (o_assign (v := .nilS) rfl ?_)
  refine eL ?_
  refine W.tr [(0, .int _ _), (1, .lst _ _ _), (5, .nilS)] [] ⟨rfl, rfl, rfl, trivial⟩ rfl ?_
  refine W.seq' ?_
  refine W.rL ?_
  refine cL rfl (o_assign (v := .int _ _) rfl ?_)
  refine eL ?_
  refine W.tr [(0, .int _ _), (1, .lst _ _ _), (5, .nilS), (6, .int _ _)] [] ⟨rfl, rfl, rfl, rfl, trivial⟩ rfl ?_
  refine W.block ?_
  obtain ⟨I1, μ1, hp, hv⟩ := hv
  refine W.loop2 (fun v6 r0 => ⟨65, look [(0, .int .i64 n), (1, .lst true x.length (encL e26 x)), (5, .ref true 0 r0.length), (6, .int .i64 v6)], [.row 25 4 (encL e25 r0)], false⟩) I1 μ1 (0 : Int) [] (St.to_mk (φ := [none]) rfl (.inl rfl) ⟨Ren.int _ _, Ren.lst _ _ _, Ren.nilR rfl rfl, Ren.int _ _, trivial⟩ ⟨rfl, trivial⟩) hp ?_
  clear hp
  intro v6 r0 hI
  replace hv := hv v6 r0 hI
  clear hI
  refine W.seq' ?_
  refine W.rLm ⟨65, look [(0, .int .i64 n), (1, .lst true x.length (encL e26 x)), (5, .ref true 0 r0.length), (6, .int .i64 v6), (20, .bool (decide ((v6 < ((x.length : Nat) : Int)) ∧ ((v6 < (30 : Int)) ∧ ((1 : Int) < n)))))], [.row 25 4 (encL e25 r0)], false⟩ ?_ ?_
  · refine cL rfl (o_move (v := .int _ _) rfl ?_)
    refine cL rfl (o_move (v := .lst _ _ _) rfl ?_)
    refine cL rfl (o_len (v := .lst _ _ _) tt23 rfl rfl ?_)
    refine cL rfl (o_lss rfl rfl ?_)
    refine cL rfl (o_move (v := .bool _) rfl ?_)
    by_cases c1 : v6 < ((x.length : Nat) : Int)
    · refine cLg rfl rfl (decide_eq_true c1) ?_
      refine cL rfl (o_move (v := .int _ _) rfl ?_)
      refine cLg rfl rfl (decide_eq_true c1) ?_
      refine cL rfl (o_lss rfl rfl ?_)
      refine cL rfl (o_pickT (v := .bool _) rfl (decide_eq_true c1) rfl ?_)
      refine cL rfl (o_move (v := .bool _) rfl ?_)
      by_cases c2 : v6 < (30 : Int)
      · refine cLg rfl rfl (decide_eq_true c2) ?_
        refine cL rfl (o_move (v := .int _ _) rfl ?_)
        refine cLg rfl rfl (decide_eq_true c2) ?_
        refine cL rfl (o_gtr rfl rfl ?_)
        refine cL rfl (o_pickT (v := .bool _) rfl (decide_eq_true c2) rfl ?_)
        refine eL ?_
        exact le_mk ⟨rfl, rfl, rfl, rfl, (congrArg AV.bool (dAndT c1 (dAndT c2 (rfl)))).symm, trivial⟩ rfl
      · refine cLs rfl rfl rfl (decide_eq_false c2) ?_
        refine cLs rfl rfl rfl (decide_eq_false c2) ?_
        refine cL rfl (o_pickF (v := .bool _) rfl (decide_eq_false c2) rfl ?_)
        refine eL ?_
        exact le_mk ⟨rfl, rfl, rfl, rfl, (congrArg AV.bool (dAndT c1 (dAndF c2))).symm, trivial⟩ rfl
    · refine cLs rfl rfl rfl (decide_eq_false c1) ?_
      refine cLs rfl rfl rfl (decide_eq_false c1) ?_
      refine cL rfl (o_pickF (v := .bool _) rfl (decide_eq_false c1) rfl ?_)
      refine cL rfl (o_move (v := .bool _) rfl ?_)
      refine cLs rfl rfl rfl (rfl) ?_
      refine cLs rfl rfl rfl (rfl) ?_
      refine cL rfl (o_pickF (v := .bool _) rfl rfl rfl ?_)
      refine eL ?_
      exact le_mk ⟨rfl, rfl, rfl, rfl, (congrArg AV.bool (dAndF c1)).symm, trivial⟩ rfl
  · refine W.cn rfl (fun hc => ?_) (fun hc => ?_)
    · have hv := hv.1 hc
      refine W.skip ?_
      refine th_nrm ?_
      refine W.tr [(0, .int _ _), (1, .lst _ _ _), (5, .ref _ _ _), (6, .int _ _)] [.row _ _ _] ⟨rfl, rfl, rfl, rfl, trivial⟩ rfl ?_
      refine W.seq' ?_
      refine W.block ?_
      refine W.rL ?_
      refine cL rfl (o_move (v := .lst _ _ _) rfl ?_)
      refine cL rfl (o_move (v := .int _ _) rfl ?_)
      obtain ⟨s233, hv⟩ := hv
      refine cL rfl (o_iaL tt23 tt26 rfl rfl (enc26.wd true) rfl s233 ?_)
      intro rest233
      refine cL rfl (o_iaP tt26 tt3 rfl rfl ⟨by decide, by decide⟩ ?_)
      refine cL rfl (o_ldS (v := .int _ _) tt3 rfl rfl ⟨_, rfl⟩ ?_)
      refine cL rfl (o_move (v := .int _ _) rfl ?_)
      obtain ⟨s234, hv⟩ := hv
      obtain ⟨s235, hv⟩ := hv
      refine cL rfl (o_callP1 (k := 34) (fst := []) (caps := []) (ys := [.int _ _, .int _ _]) rfl rfl (spec_rpick ((lat x v6).x0) n s234 s235) (Wks.cons (ag_int _ _ _ _) (Wks.cons (ag_int _ _ _ _) (Wks.refl _))) ?_)
      refine cL rfl (o_assign (v := .int _ _) rfl ?_)
      refine eL ?_
      refine W.tr [(0, .int _ _), (1, .lst _ _ _), (5, .ref _ _ _), (6, .int _ _), (7, .int _ _)] [.row _ _ _] ⟨rfl, rfl, rfl, rfl, rfl, trivial⟩ rfl ?_
      refine W.rL ?_
      refine cL rfl (o_move (v := .int _ _) rfl ?_)
      obtain ⟨s236, hv⟩ := hv
      refine cL rfl (o_add rfl rfl s236 ?_)
      refine cL rfl (o_move (v := .lst _ _ _) rfl ?_)
      refine cL rfl (o_move (v := .int _ _) rfl ?_)
      obtain ⟨s237, hv⟩ := hv
      refine cL rfl (o_iaL tt23 tt26 rfl rfl (enc26.wd true) rfl s237 ?_)
      intro rest237
      refine cL rfl (o_iaP tt26 tt3 rfl rfl ⟨by decide, by decide⟩ ?_)
      refine cL rfl (o_ldS (v := .int _ _) tt3 rfl rfl ⟨_, rfl⟩ ?_)
      refine cL rfl (o_move (v := .int _ _) rfl ?_)
      obtain ⟨s238, hv⟩ := hv
      refine cL rfl (o_sub rfl rfl s238 ?_)
      obtain ⟨s239, hv⟩ := hv
      obtain ⟨s240, hv⟩ := hv
      refine cL rfl (o_callP1 (k := 34) (fst := []) (caps := []) (ys := [.int _ _, .int _ _]) rfl rfl (spec_rpick ((lat x v6).x1) (n - (1 : Int)) s239 s240) (Wks.cons (ag_int _ _ _ _) (Wks.cons (ag_int _ _ _ _) (Wks.refl _))) ?_)
      obtain ⟨s241, hv⟩ := hv
      refine cL rfl (o_add rfl rfl s241 ?_)
      refine cL rfl (o_move (v := .int _ _) rfl ?_)
      obtain ⟨s242, hv⟩ := hv
      refine cL rfl (o_rem rfl rfl s242 ?_)
      refine cL rfl (o_assign (v := .int _ _) rfl ?_)
      refine eL ?_
      refine W.tr [(0, .int _ _), (1, .lst _ _ _), (5, .ref _ _ _), (6, .int _ _), (7, .int _ _), (8, .int _ _)] [.row _ _ _] ⟨rfl, rfl, rfl, rfl, rfl, rfl, trivial⟩ rfl ?_
      refine W.rP1 [0, 1, 2, 3, 4, 5, 6, 7, 10, 11, 12, 13, 14, 15, 8, 9, 16, 17, 18, 19, 20, 21] (by decide +kernel) rfl ?_
      refine cL rfl (o_move (v := .ref _ _ _) rfl ?_)
      refine cL rfl (o_move (v := .int _ _) rfl ?_)
      refine cL rfl (o_move (v := .int _ _) rfl ?_)
      refine cL rfl (o_move (v := .lst _ _ _) rfl ?_)
      refine cL rfl (o_move (v := .int _ _) rfl ?_)
      obtain ⟨s243, hv⟩ := hv
      refine cL rfl (o_iaL tt23 tt26 rfl rfl (enc26.wd true) rfl s243 ?_)
      intro rest243
      refine cL rfl (o_iaP tt26 tt3 rfl rfl ⟨by decide, by decide⟩ ?_)
      refine cL rfl (o_ldS (v := .int _ _) tt3 rfl rfl ⟨_, rfl⟩ ?_)
      refine cL rfl (o_move (v := .lst _ _ _) rfl ?_)
      refine cL rfl (o_move (v := .int _ _) rfl ?_)
      obtain ⟨s244, hv⟩ := hv
      refine cL rfl (o_iaL tt23 tt26 rfl rfl (enc26.wd true) rfl s244 ?_)
      intro rest244
      refine cL rfl (o_iaP tt26 tt3 rfl rfl ⟨by decide, by decide⟩ ?_)
      refine cL rfl (o_ldS (v := .int _ _) tt3 rfl rfl ⟨_, rfl⟩ ?_)
      obtain ⟨s245, hv⟩ := hv
      refine cL rfl (o_quo rfl rfl (by decide) s245 ?_)
      obtain ⟨s246, hv⟩ := hv
      obtain ⟨s247, hv⟩ := hv
      refine cL rfl (o_callP1 (k := 34) (fst := []) (caps := []) (ys := [.int _ _, .int _ _]) rfl rfl (spec_rpick ((lat x v6).x2) (20 : Int) s246 s247) (Wks.cons (ag_int _ _ _ _) (Wks.cons (ag_int _ _ _ _) (Wks.refl _))) ?_)
      obtain ⟨s248, hv⟩ := hv
      refine cL rfl (o_sub rfl rfl s248 ?_)
      obtain ⟨s249, hv⟩ := hv
      obtain ⟨s250, hv⟩ := hv
      refine cL rfl (o_callP1 (k := 34) (fst := []) (caps := []) (ys := [.int _ _, .int _ _]) rfl rfl (spec_rpick (((lat x v6).x1).tdiv (30 : Int)) (6 : Int) s249 s250) (Wks.cons (ag_int _ _ _ _) (Wks.cons (ag_int _ _ _ _) (Wks.refl _))) ?_)
      obtain ⟨s251, hv⟩ := hv
      obtain ⟨s252, hv⟩ := hv
      refine cL rfl (o_shl rfl rfl s251 s252 ?_)
      refine cL rfl (o_build (qs := [(0, .int _ _), (1, .int _ _), (2, .int _ _), (3, .int _ _)]) (cs := [.int _ _, .int _ _, .int _ _, .int _ _]) tt25 rfl rfl rfl ?_)
      refine cL rfl (o_bs1 (v := .agg _) (q := 1) tt22 tt25 rfl rfl rfl rfl rfl rfl rfl rfl ?_)
      obtain ⟨s253, hv⟩ := hv
      refine cL rfl (o_apR (p := 2) (q := (r0 ++ [(Con.mk (pickM ((lat x v6).x0) n) ((((pickM ((lat x v6).x0) n) + (1 : Int)) + (pickM ((lat x v6).x1) (n - (1 : Int)))).tmod n) ((pickM ((lat x v6).x2) (20 : Int)) - (6 : Int)) ((1 : Int) * 2 ^ (min (pickM (((lat x v6).x1).tdiv (30 : Int)) (6 : Int)).toNat 64)))]).length) tt22 tt25 rfl rfl (src_ref rfl rfl) rfl rfl (encL_length (enc25.wd false) _) (Nat.le_trans (Nat.le_of_eq (@List.length_append _ (r0) ([(Con.mk (pickM ((lat x v6).x0) n) ((((pickM ((lat x v6).x0) n) + (1 : Int)) + (pickM ((lat x v6).x1) (n - (1 : Int)))).tmod n) ((pickM ((lat x v6).x2) (20 : Int)) - (6 : Int)) ((1 : Int) * 2 ^ (min (pickM (((lat x v6).x1).tdiv (30 : Int)) (6 : Int)).toNat 64)))])).symm) s253) rfl (@List.length_append _ (r0) ([(Con.mk (pickM ((lat x v6).x0) n) ((((pickM ((lat x v6).x0) n) + (1 : Int)) + (pickM ((lat x v6).x1) (n - (1 : Int)))).tmod n) ((pickM ((lat x v6).x2) (20 : Int)) - (6 : Int)) ((1 : Int) * 2 ^ (min (pickM (((lat x v6).x1).tdiv (30 : Int)) (6 : Int)).toNat 64)))])).symm (encL_app e25 r0 [(Con.mk (pickM ((lat x v6).x0) n) ((((pickM ((lat x v6).x0) n) + (1 : Int)) + (pickM ((lat x v6).x1) (n - (1 : Int)))).tmod n) ((pickM ((lat x v6).x2) (20 : Int)) - (6 : Int)) ((1 : Int) * 2 ^ (min (pickM (((lat x v6).x1).tdiv (30 : Int)) (6 : Int)).toNat 64)))]) ?_)
      refine cL rfl (o_assign (v := .ref _ _ _) rfl ?_)
      refine eL ?_
      refine bl_nrm (th_nrm ?_)
      refine W.tr [(0, .int _ _), (1, .lst _ _ _), (5, .ref _ _ _), (6, .int _ _)] [.dead, .row _ _ _, .row _ _ _] ⟨rfl, rfl, rfl, rfl, trivial⟩ rfl ?_
      refine W.rL1 ?_
      refine cL rfl (o_move (v := .int _ _) rfl ?_)
      obtain ⟨s254, hv⟩ := hv
      refine cL rfl (o_add rfl rfl s254 ?_)
      refine cL rfl (o_assign (v := .int _ _) rfl ?_)
      refine eL ?_
      exact th_nrm (⟨(), (v6 + (1 : Int)), (r0 ++ [(Con.mk (pickM ((lat x v6).x0) n) ((((pickM ((lat x v6).x0) n) + (1 : Int)) + (pickM ((lat x v6).x1) (n - (1 : Int)))).tmod n) ((pickM ((lat x v6).x2) (20 : Int)) - (6 : Int)) ((1 : Int) * 2 ^ (min (pickM (((lat x v6).x1).tdiv (30 : Int)) (6 : Int)).toNat 64)))]), hv, St.to_mk (φ := [some 2]) rfl (.inl rfl) ⟨Ren.int _ _, Ren.lst _ _ _, Ren.ref rfl (fun h => rfl), Ren.int _ _, trivial⟩ ⟨.inr ⟨_, rfl, rfl, rfl, rfl, Rens.enc enc25 false (r0 ++ [(Con.mk (pickM ((lat x v6).x0) n) ((((pickM ((lat x v6).x0) n) + (1 : Int)) + (pickM ((lat x v6).x1) (n - (1 : Int)))).tmod n) ((pickM ((lat x v6).x2) (20 : Int)) - (6 : Int)) ((1 : Int) * 2 ^ (min (pickM (((lat x v6).x1).tdiv (30 : Int)) (6 : Int)).toNat 64)))])⟩, trivial⟩⟩)
    · have hv := hv.2 hc
      refine W.exit ?_
      refine th_exit (th_exit (bl_hit (th_nrm ?_)))
      refine W.tr [(5, .ref _ _ _)] [.row _ _ _] ⟨rfl, trivial⟩ rfl ?_
      refine W.rL ?_
      refine cL rfl (o_move (v := .ref _ _ _) rfl ?_)
      refine cL rfl (o_assign (v := .ref _ _ _) rfl ?_)
      refine eL ?_
      refine W.tr [(4, .ref _ _ _)] [.row _ _ _] ⟨rfl, trivial⟩ rfl ?_
      refine W.ret ?_
      refine rt ?_
      refine rt_t (v := .ref _ _ _) rfl ?_
      refine rt_n ?_
      exact ⟨_, rs_ref enc25 4 _ rfl rfl, r0, rfl, hv⟩
theorem vcp_made (n : Int) (x : (List A3)) (h0 : 1 ≤ n) (h1 : n ≤ 1000) (h2 : ∀ y ∈ x, inI y.x0 ∧ inI y.x1 ∧ inI y.x2) : vc_made n x (fun q0 => q0 = (madeM n x)) := by
  unfold vc_made
  refine ⟨fun v r => ∃ i : Nat, v = i ∧ i ≤ x.length ∧ i ≤ 30 ∧ (1 < n ∨ i = 0) ∧ r = (x.take i).map fun y => ⟨pickM y.x0 n, (pickM y.x0 n + 1 + pickM y.x1 (n - 1)).tmod n, pickM y.x2 20 - 6, 2 ^ (pickM (y.x1.tdiv 30) 6).toNat⟩, fun v _ => 30 - v.toNat, ⟨0, rfl, by omega, by omega, .inr rfl, rfl⟩, ?_⟩
  rintro _ r ⟨i, rfl, hi, hi3, hn, hr⟩
  refine ⟨fun ⟨h4, h5, h6⟩ => ?_, fun h4 => ?_⟩
  · have hlt : i < x.length := by omega
    obtain ⟨y0, y1, y2⟩ := h2 _ (lat_mem (xs := x) (i := i) ⟨by omega, by omega⟩)
    have hx : lat x (i : Int) = x[i] := lat_get hlt
    rw [hx] at y0 y1 y2 ⊢
    have p1 := pickM_nonneg (c := x[i].x0) (n := n) h0
    have p2 := pickM_nonneg (c := x[i].x1) (n := n - 1) (by omega)
    have p3 := pickM_nonneg (c := x[i].x2) (n := 20) (by omega)
    have p4 := pickM_nonneg (c := x[i].x1.tdiv 30) (n := 6) (by omega)
    have hq : inI (x[i].x1.tdiv 30) := by
      have h7 : x[i].x1 = 30 * x[i].x1.tdiv 30 + x[i].x1.tmod 30 := (Int.mul_tdiv_add_tmod _ _).symm
      have h8 := Int.tmod_lt_of_pos x[i].x1 (b := 30) (by omega)
      have h9 := Int.lt_tmod_of_pos x[i].x1 (b := 30) (by omega)
      unfold inI at *; omega
    have hp : (min (pickM (x[i].x1.tdiv 30) 6).toNat 64) = (pickM (x[i].x1.tdiv 30) 6).toNat := by omega
    have h2p : (1 : Int) * 2 ^ (pickM (x[i].x1.tdiv 30) 6).toNat ≤ 32 ∧ 0 ≤ (1 : Int) * 2 ^ (pickM (x[i].x1.tdiv 30) 6).toNat := by
      have : (pickM (x[i].x1.tdiv 30) 6).toNat < 6 := by omega
      generalize (pickM (x[i].x1.tdiv 30) 6).toNat = q at this
      match q, this with
      | 0, _ => decide
      | 1, _ => decide
      | 2, _ => decide
      | 3, _ => decide
      | 4, _ => decide
      | 5, _ => decide
    have hlen : r.length = i := by rw [hr]; simp; omega
    rw [hp]
    refine ⟨by omega, y0, h0, by unfold inI at *; omega, by omega, by unfold inI at *; omega, y1, by omega, by unfold inI at *; omega, by omega, by omega, by omega, hq, y2, by omega, by unfold inI; omega, hq, by omega, p4.1, by unfold inI; omega, by rw [List.length_append, hlen]; simp; omega, by unfold inI; omega, ⟨i + 1, by omega, by omega, by omega, .inl h6, ?_⟩, by dsimp only; omega⟩
    rw [List.take_add_one, List.getElem?_eq_getElem hlt, List.map_append, ← hr, Int.one_mul]
    rfl
  · show r = madeM n x
    unfold madeM
    by_cases h6 : 1 < n
    · rw [if_pos h6, hr]
      congr 1
      rcases Nat.lt_or_ge i 30 with h7 | h7
      · rw [List.take_of_length_le (by omega), List.take_of_length_le (by omega)]
      · have : i = 30 := by omega
        rw [this]
    · have : i = 0 := by omega
      rw [if_neg h6, hr, this]; rfl
theorem spec_made (n : Int) (x : (List A3)) (h0 : 1 ≤ n) (h1 : n ≤ 1000) (h2 : ∀ y ∈ x, inI y.x0 ∧ inI y.x1 ∧ inI y.x2) : FnP Try.prog 14 [.int .i64 n, .lst true x.length (encL e26 x)] (fun xR => xR = .lst false (madeM n x).length (encL e25 (madeM n x))) :=
  (walk_made (vcp_made n x h0 h1 h2)).mono (by rintro _ ⟨_, rfl, rfl⟩; rfl)
end Go.Lat
namespace Go.Lat
open Go.RowKit Go.Proofs
attribute [local irreducible] closeM rangeM pointM addBM cycleM holdsM validBM sameM madeM pickM plusM validM possM firstM tableM longerM boundsM ofM addM freeM
/-- What the walk through bounds.possible asks. -/
def vc_poss (n : Int) (c : Con) (Post : Bool → Prop) : Prop :=
  (((((0 : Int) ≤ (min c.f c.t)) ∧ (((max c.f c.t) < n) ∧ (¬ c.f = c.t))) → (((-1125899906842624 : Int) ≤ c.m) → ((c.m ≤ (1125899906842624 : Int)) → (((0 : Int) ≤ c.a) → (0 ≤ (6 : Int)) ∧ True) ∧ (¬ ((0 : Int) ≤ c.a) → True)) ∧ (¬ (c.m ≤ (1125899906842624 : Int)) → True)) ∧ (¬ ((-1125899906842624 : Int) ≤ c.m) → True)) ∧ (¬ (((0 : Int) ≤ (min c.f c.t)) ∧ (((max c.f c.t) < n) ∧ (¬ c.f = c.t))) → True)) ∧ (Post (decide ((((0 : Int) ≤ (min c.f c.t)) ∧ (((max c.f c.t) < n) ∧ (¬ c.f = c.t))) ∧ (((-1125899906842624 : Int) ≤ c.m) ∧ ((c.m ≤ (1125899906842624 : Int)) ∧ (((0 : Int) ≤ c.a) ∧ (c.a.fdiv (2 ^ (min (6 : Int).toNat 64)) = (0 : Int))))))))
set_option maxRecDepth 100000 in
set_option maxHeartbeats 4000000 in
theorem walk_poss {n : Int} {c : Con} {Post : Bool → Prop} (hv : vc_poss n c Post) : FnP Try.prog 43 [.int .i64 n, .agg (e25 c)] (fun x => ∃ q0, x = .bool q0 ∧ Post q0) := by
  refine FnP.of_walk (T := tt) (nt := 50) ttOk ttMix ⟨⟨Try.f43, Try.func43, rfl, rfl, rfl, rfl⟩⟩ (by simp) ?_
  unfold vc_poss at hv
  change W _ _ _ ⟨50, look [(0, .int .i64 n), (1, .agg [.int .i64 c.f, .int .i64 c.t, .int .i64 c.m, .int .i64 c.a])], [], false⟩ _
  refine W.tr [(0, .int _ _), (1, .agg _)] [] ⟨rfl, rfl, trivial⟩ rfl ?_
  refine W.rL ?_
  refine cL rfl (o_box (v := .agg _) (p := 0) rfl rfl rfl ?_)
  refine cL rfl (o_assign (v := .bool _) rfl ?_)
  refine eL ?_
  refine W.tr [(0, .int _ _), (3, .ptr _ _)] [.box _ [.int _ _, .int _ _, .int _ _, .int _ _]] ⟨rfl, rfl, trivial⟩ rfl ?_
  refine W.rLm ⟨50, look [(3, .ptr 0 0), (5, .bool (decide (((0 : Int) ≤ (min c.f c.t)) ∧ (((max c.f c.t) < n) ∧ (¬ c.f = c.t)))))], [.box 25 [.int .i64 c.f, .int .i64 c.t, .int .i64 c.m, .int .i64 c.a]], false⟩ ?_ ?_
  · refine cL rfl (o_fa tt25 rfl tt3 rfl ?_)
    refine cL rfl (o_ldS (v := .int _ _) tt3 rfl rfl ⟨_, rfl⟩ ?_)
    refine cL rfl (o_fa tt25 rfl tt3 rfl ?_)
    refine cL rfl (o_ldS (v := .int _ _) tt3 rfl rfl ⟨_, rfl⟩ ?_)
    refine cL rfl (o_min rfl rfl ?_)
    refine cL rfl (o_geq rfl rfl ?_)
    refine cL rfl (o_move (v := .bool _) rfl ?_)
    by_cases c1 : (0 : Int) ≤ (min c.f c.t)
    · refine cLg rfl rfl (decide_eq_true c1) ?_
      refine cL rfl (o_fa tt25 rfl tt3 rfl ?_)
      refine cLg rfl rfl (decide_eq_true c1) ?_
      refine cL rfl (o_ldS (v := .int _ _) tt3 rfl rfl ⟨_, rfl⟩ ?_)
      refine cLg rfl rfl (decide_eq_true c1) ?_
      refine cL rfl (o_fa tt25 rfl tt3 rfl ?_)
      refine cLg rfl rfl (decide_eq_true c1) ?_
      refine cL rfl (o_ldS (v := .int _ _) tt3 rfl rfl ⟨_, rfl⟩ ?_)
      refine cLg rfl rfl (decide_eq_true c1) ?_
      refine cL rfl (o_max rfl rfl ?_)
      refine cLg rfl rfl (decide_eq_true c1) ?_
      refine cL rfl (o_move (v := .int _ _) rfl ?_)
      refine cLg rfl rfl (decide_eq_true c1) ?_
      refine cL rfl (o_lss rfl rfl ?_)
      refine cL rfl (o_pickT (v := .bool _) rfl (decide_eq_true c1) rfl ?_)
      refine cL rfl (o_move (v := .bool _) rfl ?_)
      by_cases c2 : (max c.f c.t) < n
      · refine cLg rfl rfl (decide_eq_true c2) ?_
        refine cL rfl (o_fa tt25 rfl tt3 rfl ?_)
        refine cLg rfl rfl (decide_eq_true c2) ?_
        refine cL rfl (o_ldS (v := .int _ _) tt3 rfl rfl ⟨_, rfl⟩ ?_)
        refine cLg rfl rfl (decide_eq_true c2) ?_
        refine cL rfl (o_fa tt25 rfl tt3 rfl ?_)
        refine cLg rfl rfl (decide_eq_true c2) ?_
        refine cL rfl (o_ldS (v := .int _ _) tt3 rfl rfl ⟨_, rfl⟩ ?_)
        refine cLg rfl rfl (decide_eq_true c2) ?_
        refine cL rfl (o_neI rfl rfl rfl ?_)
        refine cL rfl (o_pickT (v := .bool _) rfl (decide_eq_true c2) rfl ?_)
        refine cL rfl (o_assign (v := .bool _) rfl ?_)
        refine eL ?_
        exact le_mk ⟨rfl, (congrArg AV.bool (dAndT c1 (dAndT c2 (rfl)))).symm, trivial⟩ rfl
      · refine cLs rfl rfl rfl (decide_eq_false c2) ?_
        refine cLs rfl rfl rfl (decide_eq_false c2) ?_
        refine cLs rfl rfl rfl (decide_eq_false c2) ?_
        refine cLs rfl rfl rfl (decide_eq_false c2) ?_
        refine cLs rfl rfl rfl (decide_eq_false c2) ?_
        refine cL rfl (o_pickF (v := .bool _) rfl (decide_eq_false c2) rfl ?_)
        refine cL rfl (o_assign (v := .bool _) rfl ?_)
        refine eL ?_
        exact le_mk ⟨rfl, (congrArg AV.bool (dAndT c1 (dAndF c2))).symm, trivial⟩ rfl
    · refine cLs rfl rfl rfl (decide_eq_false c1) ?_
      refine cLs rfl rfl rfl (decide_eq_false c1) ?_
      refine cLs rfl rfl rfl (decide_eq_false c1) ?_
      refine cLs rfl rfl rfl (decide_eq_false c1) ?_
      refine cLs rfl rfl rfl (decide_eq_false c1) ?_
      refine cLs rfl rfl rfl (decide_eq_false c1) ?_
      refine cLs rfl rfl rfl (decide_eq_false c1) ?_
      refine cL rfl (o_pickF (v := .bool _) rfl (decide_eq_false c1) rfl ?_)
      refine cL rfl (o_move (v := .bool _) rfl ?_)
      refine cLs rfl rfl rfl (rfl) ?_
      refine cLs rfl rfl rfl (rfl) ?_
      refine cLs rfl rfl rfl (rfl) ?_
      refine cLs rfl rfl rfl (rfl) ?_
      refine cLs rfl rfl rfl (rfl) ?_
      refine cL rfl (o_pickF (v := .bool _) rfl rfl rfl ?_)
      refine cL rfl (o_assign (v := .bool _) rfl ?_)
      refine eL ?_
      exact le_mk ⟨rfl, (congrArg AV.bool (dAndF c1)).symm, trivial⟩ rfl
  · obtain ⟨sd, hv⟩ := hv
    refine W.rLm ⟨50, look [(4, .bool (decide ((((0 : Int) ≤ (min c.f c.t)) ∧ (((max c.f c.t) < n) ∧ (¬ c.f = c.t))) ∧ (((-1125899906842624 : Int) ≤ c.m) ∧ ((c.m ≤ (1125899906842624 : Int)) ∧ (((0 : Int) ≤ c.a) ∧ (c.a.fdiv (2 ^ (min (6 : Int).toNat 64)) = (0 : Int))))))))], [.box 25 [.int .i64 c.f, .int .i64 c.t, .int .i64 c.m, .int .i64 c.a]], false⟩ ?_ ?_
    · refine cL rfl (o_move (v := .bool _) rfl ?_)
      refine cL rfl (o_move (v := .bool _) rfl ?_)
      by_cases c1 : ((0 : Int) ≤ (min c.f c.t)) ∧ (((max c.f c.t) < n) ∧ (¬ c.f = c.t))
      · have sd := sd.1 c1
        refine cLg rfl rfl (decide_eq_true c1) ?_
        refine cL rfl (o_fa tt25 rfl tt3 rfl ?_)
        refine cLg rfl rfl (decide_eq_true c1) ?_
        refine cL rfl (o_ldS (v := .int _ _) tt3 rfl rfl ⟨_, rfl⟩ ?_)
        refine cLg rfl rfl (decide_eq_true c1) ?_
        refine cL rfl (o_geq rfl rfl ?_)
        refine cL rfl (o_pickT (v := .bool _) rfl (decide_eq_true c1) rfl ?_)
        refine cL rfl (o_move (v := .bool _) rfl ?_)
        by_cases c2 : (-1125899906842624 : Int) ≤ c.m
        · have sd := sd.1 c2
          refine cLg rfl rfl (decide_eq_true c2) ?_
          refine cL rfl (o_fa tt25 rfl tt3 rfl ?_)
          refine cLg rfl rfl (decide_eq_true c2) ?_
          refine cL rfl (o_ldS (v := .int _ _) tt3 rfl rfl ⟨_, rfl⟩ ?_)
          refine cLg rfl rfl (decide_eq_true c2) ?_
          refine cL rfl (o_leq rfl rfl ?_)
          refine cL rfl (o_pickT (v := .bool _) rfl (decide_eq_true c2) rfl ?_)
          refine cL rfl (o_move (v := .bool _) rfl ?_)
          by_cases c3 : c.m ≤ (1125899906842624 : Int)
          · have sd := sd.1 c3
            refine cLg rfl rfl (decide_eq_true c3) ?_
            refine cL rfl (o_fa tt25 rfl tt3 rfl ?_)
            refine cLg rfl rfl (decide_eq_true c3) ?_
            refine cL rfl (o_ldS (v := .int _ _) tt3 rfl rfl ⟨_, rfl⟩ ?_)
            refine cLg rfl rfl (decide_eq_true c3) ?_
            refine cL rfl (o_geq rfl rfl ?_)
            refine cL rfl (o_pickT (v := .bool _) rfl (decide_eq_true c3) rfl ?_)
            refine cL rfl (o_move (v := .bool _) rfl ?_)
            by_cases c4 : (0 : Int) ≤ c.a
            · have sd := sd.1 c4
              refine cLg rfl rfl (decide_eq_true c4) ?_
              refine cL rfl (o_fa tt25 rfl tt3 rfl ?_)
              refine cLg rfl rfl (decide_eq_true c4) ?_
              refine cL rfl (o_ldS (v := .int _ _) tt3 rfl rfl ⟨_, rfl⟩ ?_)
              refine cLg rfl rfl (decide_eq_true c4) ?_
              obtain ⟨s2, sd⟩ := sd
              refine cL rfl (o_shr rfl rfl s2 ?_)
              refine cLg rfl rfl (decide_eq_true c4) ?_
              refine cL rfl (o_eqI rfl rfl rfl ?_)
              refine cL rfl (o_pickT (v := .bool _) rfl (decide_eq_true c4) rfl ?_)
              refine cL rfl (o_assign (v := .bool _) rfl ?_)
              refine eL ?_
              exact le_mk ⟨(congrArg AV.bool (dAndT c1 (dAndT c2 (dAndT c3 (dAndT c4 (rfl)))))).symm, trivial⟩ rfl
            · refine cLs rfl rfl rfl (decide_eq_false c4) ?_
              refine cLs rfl rfl rfl (decide_eq_false c4) ?_
              refine cLs rfl rfl rfl (decide_eq_false c4) ?_
              refine cLs rfl rfl rfl (decide_eq_false c4) ?_
              refine cL rfl (o_pickF (v := .bool _) rfl (decide_eq_false c4) rfl ?_)
              refine cL rfl (o_assign (v := .bool _) rfl ?_)
              refine eL ?_
              exact le_mk ⟨(congrArg AV.bool (dAndT c1 (dAndT c2 (dAndT c3 (dAndF c4))))).symm, trivial⟩ rfl
          · refine cLs rfl rfl rfl (decide_eq_false c3) ?_
            refine cLs rfl rfl rfl (decide_eq_false c3) ?_
            refine cLs rfl rfl rfl (decide_eq_false c3) ?_
            refine cL rfl (o_pickF (v := .bool _) rfl (decide_eq_false c3) rfl ?_)
            refine cL rfl (o_move (v := .bool _) rfl ?_)
            refine cLs rfl rfl rfl (rfl) ?_
            refine cLs rfl rfl rfl (rfl) ?_
            refine cLs rfl rfl rfl (rfl) ?_
            refine cLs rfl rfl rfl (rfl) ?_
            refine cL rfl (o_pickF (v := .bool _) rfl rfl rfl ?_)
            refine cL rfl (o_assign (v := .bool _) rfl ?_)
            refine eL ?_
            exact le_mk ⟨(congrArg AV.bool (dAndT c1 (dAndT c2 (dAndF c3)))).symm, trivial⟩ rfl
        · refine cLs rfl rfl rfl (decide_eq_false c2) ?_
          refine cLs rfl rfl rfl (decide_eq_false c2) ?_
          refine cLs rfl rfl rfl (decide_eq_false c2) ?_
          refine cL rfl (o_pickF (v := .bool _) rfl (decide_eq_false c2) rfl ?_)
          refine cL rfl (o_move (v := .bool _) rfl ?_)
          refine cLs rfl rfl rfl (rfl) ?_
          refine cLs rfl rfl rfl (rfl) ?_
          refine cLs rfl rfl rfl (rfl) ?_
          refine cL rfl (o_pickF (v := .bool _) rfl rfl rfl ?_)
          refine cL rfl (o_move (v := .bool _) rfl ?_)
          refine cLs rfl rfl rfl (rfl) ?_
          refine cLs rfl rfl rfl (rfl) ?_
          refine cLs rfl rfl rfl (rfl) ?_
          refine cLs rfl rfl rfl (rfl) ?_
          refine cL rfl (o_pickF (v := .bool _) rfl rfl rfl ?_)
          refine cL rfl (o_assign (v := .bool _) rfl ?_)
          refine eL ?_
          exact le_mk ⟨(congrArg AV.bool (dAndT c1 (dAndF c2))).symm, trivial⟩ rfl
      · refine cLs rfl rfl rfl (decide_eq_false c1) ?_
        refine cLs rfl rfl rfl (decide_eq_false c1) ?_
        refine cLs rfl rfl rfl (decide_eq_false c1) ?_
        refine cL rfl (o_pickF (v := .bool _) rfl (decide_eq_false c1) rfl ?_)
        refine cL rfl (o_move (v := .bool _) rfl ?_)
        refine cLs rfl rfl rfl (rfl) ?_
        refine cLs rfl rfl rfl (rfl) ?_
        refine cLs rfl rfl rfl (rfl) ?_
        refine cL rfl (o_pickF (v := .bool _) rfl rfl rfl ?_)
        refine cL rfl (o_move (v := .bool _) rfl ?_)
        refine cLs rfl rfl rfl (rfl) ?_
        refine cLs rfl rfl rfl (rfl) ?_
        refine cLs rfl rfl rfl (rfl) ?_
        refine cL rfl (o_pickF (v := .bool _) rfl rfl rfl ?_)
        refine cL rfl (o_move (v := .bool _) rfl ?_)
        refine cLs rfl rfl rfl (rfl) ?_
        refine cLs rfl rfl rfl (rfl) ?_
        refine cLs rfl rfl rfl (rfl) ?_
        refine cLs rfl rfl rfl (rfl) ?_
        refine cL rfl (o_pickF (v := .bool _) rfl rfl rfl ?_)
        refine cL rfl (o_assign (v := .bool _) rfl ?_)
        refine eL ?_
        exact le_mk ⟨(congrArg AV.bool (dAndF c1)).symm, trivial⟩ rfl
    · refine W.ret ?_
      refine rt ?_
      refine rt_t (v := .bool _) rfl ?_
      refine rt_n ?_
      exact ⟨_, rs_bool _ _ _, (decide ((((0 : Int) ≤ (min c.f c.t)) ∧ (((max c.f c.t) < n) ∧ (¬ c.f = c.t))) ∧ (((-1125899906842624 : Int) ≤ c.m) ∧ ((c.m ≤ (1125899906842624 : Int)) ∧ (((0 : Int) ≤ c.a) ∧ (c.a.fdiv (2 ^ (min (6 : Int).toNat 64)) = (0 : Int))))))), rfl, hv⟩
theorem vcp_poss (n : Int) (c : Con)  : vc_poss n c (fun q0 => q0 = (possM n c)) := by
  unfold vc_poss
  refine ⟨by simp, ?_⟩
  unfold possM
  have e : (2 : Int) ^ (min (6 : Int).toNat 64) = 64 := by decide
  rw [e]
  have e2 : c.a.fdiv 64 = c.a / 64 := Int.fdiv_eq_ediv_of_nonneg _ (by omega)
  rw [e2]
  exact decide_eq_decide.mpr (by omega)
theorem spec_poss (n : Int) (c : Con)  : FnP Try.prog 43 [.int .i64 n, .agg (e25 c)] (fun xR => xR = .bool (possM n c)) :=
  (walk_poss (vcp_poss n c)).mono (by rintro _ ⟨_, rfl, rfl⟩; rfl)
end Go.Lat
namespace Go.Lat
open Go.RowKit Go.Proofs
attribute [local irreducible] closeM rangeM pointM addBM cycleM holdsM validBM sameM madeM pickM plusM validM possM firstM tableM longerM boundsM ofM addM freeM
/-- What the walk through bounds.valid$1 asks. -/
def vc_valid1 (c : Con) (n : Int) (Post : Bool → Prop) : Prop :=
  Post (decide (¬ ((possM n c) = true)))
set_option maxRecDepth 100000 in
set_option maxHeartbeats 4000000 in
theorem walk_valid1 {c : Con} {n : Int} {Post : Bool → Prop} (hv : vc_valid1 c n Post) : FnP Try.prog 57 [.agg (e25 c), .ipt true [.int .i64 n]] (fun x => ∃ q0, x = .bool q0 ∧ Post q0) := by
  refine FnP.of_walk (T := tt) (nt := 8) ttOk ttMix ⟨⟨Try.f57, Try.func57, rfl, rfl, rfl, rfl⟩⟩ (by simp) ?_
  unfold vc_valid1 at hv
  change W _ _ _ ⟨8, look [(0, .agg [.int .i64 c.f, .int .i64 c.t, .int .i64 c.m, .int .i64 c.a]), (1, .ipt true [.int .i64 n])], [], false⟩ _
  refine W.tr [(0, .agg _), (1, .ipt _ _)] [] ⟨rfl, rfl, trivial⟩ rfl ?_
  refine W.rL ?_
  refine cL rfl (o_box (v := .agg _) (p := 0) rfl rfl rfl ?_)
  refine cL rfl (o_assign (v := .bool _) rfl ?_)
  refine eL ?_
  refine W.tr [(1, .ipt _ _), (2, .ptr _ _)] [.box _ [.int _ _, .int _ _, .int _ _, .int _ _]] ⟨rfl, rfl, trivial⟩ rfl ?_
  refine W.rL ?_
  refine cL rfl (o_ldS (v := .int _ _) tt3 rfl rfl ⟨_, rfl⟩ ?_)
  refine cL rfl (o_ldA (cs := [.int _ _, .int _ _, .int _ _, .int _ _]) tt25 rfl rfl ⟨_, rfl⟩ rfl ?_)
  refine cL rfl (o_callP1 (k := 43) (fst := []) (caps := []) (ys := [.int _ _, .agg _]) rfl rfl (spec_poss n c) (Wks.cons (ag_int _ _ _ _) (Wks.cons (ag_agg 5 _ (Wks.cons (ag_int _ _ _ _) (Wks.cons (ag_int _ _ _ _) (Wks.cons (ag_int _ _ _ _) (Wks.cons (ag_int _ _ _ _) (Wks.refl _)))))) (Wks.refl _))) ?_)
  refine cL rfl (o_notB rfl ?_)
  refine cL rfl (o_assign (v := .bool _) rfl ?_)
  refine eL ?_
  refine W.tr [(3, .bool _)] [.box _ [.int _ _, .int _ _, .int _ _, .int _ _]] ⟨rfl, trivial⟩ rfl ?_
  refine W.ret ?_
  refine rt ?_
  refine rt_t (v := .bool _) rfl ?_
  refine rt_n ?_
  exact ⟨_, rs_bool _ _ _, (decide (¬ ((possM n c) = true))), rfl, hv⟩
theorem vcp_valid1 (c : Con) (n : Int)  : vc_valid1 c n (fun q0 => q0 = (!(possM n c))) := by
  unfold vc_valid1
  cases possM n c <;> rfl
theorem spec_valid1 (c : Con) (n : Int)  : FnP Try.prog 57 [.agg (e25 c), .ipt true [.int .i64 n]] (fun xR => xR = .bool (!(possM n c))) :=
  (walk_valid1 (vcp_valid1 c n)).mono (by rintro _ ⟨_, rfl, rfl⟩; rfl)
end Go.Lat
namespace Go.Lat
open Go.RowKit Go.Proofs
attribute [local irreducible] closeM rangeM pointM addBM cycleM holdsM validBM sameM madeM pickM plusM validM possM firstM tableM longerM boundsM ofM addM freeM
/-- What the walk through api.Constraint] asks. -/
def vc_idxV (s : (List Con)) (n : Int) (Post : Int → Prop) : Prop :=
  ∃ (I1 : Int → Prop) (μ1 : Int → Nat), I1 (0 : Int) ∧ ∀ (v8 : Int), I1 v8 → ((v8 < ((s.length : Nat) : Int)) → (0 ≤ v8 ∧ v8 < (s.length : Int)) ∧ (((!(possM n (lat s v8))) = true) → Post v8) ∧ (¬ ((!(possM n (lat s v8))) = true) → (inI (v8 + (1 : Int))) ∧ (I1 (v8 + (1 : Int)) ∧ μ1 (v8 + (1 : Int)) < μ1 v8))) ∧ (¬ (v8 < ((s.length : Nat) : Int)) → Post (-1 : Int))
set_option maxRecDepth 100000 in
set_option maxHeartbeats 4000000 in
theorem walk_idxV {s : (List Con)} {n : Int} {Post : Int → Prop} (hv : vc_idxV s n Post) : FnP Try.prog 60 [.lst true s.length (encL e25 s), .clo 57 [] [.ipt true [.int .i64 n]]] (fun x => ∃ q0, x = .int .i64 q0 ∧ Post q0) := by
  refine FnP.of_walk (T := tt) (nt := 19) ttOk ttMix ⟨⟨Try.f60, Try.func60, rfl, rfl, rfl, rfl⟩⟩ (by simp) ?_
  unfold vc_idxV at hv
  change W _ _ _ ⟨19, look [(0, .lst true s.length (encL e25 s)), (1, .clo 57 [] [.ipt true [.int .i64 n]])], [], false⟩ _
  refine W.tr [(0, .lst _ _ _), (1, .clo _ _ _)] [] ⟨rfl, rfl, trivial⟩ rfl ?_
  refine W.rL ?_
  refine cL rfl (o_assign (v := .int _ _) rfl ?_)
  refine eL ?_
  refine W.tr [(0, .lst _ _ _), (1, .clo _ _ _)] [] ⟨rfl, rfl, trivial⟩ rfl ?_
  refine W.seq' ?_
  refine W.rL ?_
  refine cL rfl (o_move (v := .lst _ _ _) rfl ?_)
  refine cL rfl (o_len (v := .lst _ _ _) tt22 rfl rfl ?_)
  refine cL rfl (o_move (v := .int _ _) rfl ?_)
  refine eL ?_
  refine W.tr [(0, .lst _ _ _), (1, .clo _ _ _), (7, .int _ _), (8, .int _ _)] [] ⟨rfl, rfl, rfl, rfl, trivial⟩ rfl ?_
  refine W.block ?_
  obtain ⟨I1, μ1, hp, hv⟩ := hv
  refine W.loop1 (fun v8 => ⟨19, look [(0, .lst true s.length (encL e25 s)), (1, .clo 57 [] [.ipt true [.int .i64 n]]), (7, .int .i64 ((s.length : Nat) : Int)), (8, .int .i64 v8)], [], false⟩) I1 μ1 (0 : Int) (St.to_mk (φ := []) rfl (.inl rfl) ⟨Ren.lst _ _ _, Ren.clo _ (Rens.nil) (Rens.cons (Ren.ipt _ _) (Rens.nil)), Ren.int _ _, Ren.int _ _, trivial⟩ trivial) hp ?_
  clear hp
  intro v8 hI
  replace hv := hv v8 hI
  clear hI
  refine W.rL ?_
  refine cL rfl (o_lss rfl rfl ?_)
  refine eL ?_
  refine W.tr [(0, .lst _ _ _), (1, .clo _ _ _), (7, .int _ _), (8, .int _ _), (9, .bool _)] [] ⟨rfl, rfl, rfl, rfl, rfl, trivial⟩ rfl ?_
  refine W.seq' ?_
  refine W.cn rfl (fun hc => ?_) (fun hc => ?_)
  · have hv := hv.1 hc
    refine W.skip ?_
    refine th_nrm ?_
    refine W.tr [(0, .lst _ _ _), (1, .clo _ _ _), (7, .int _ _), (8, .int _ _)] [] ⟨rfl, rfl, rfl, rfl, trivial⟩ rfl ?_
    refine W.seq' ?_
    refine W.block ?_
    refine W.rL ?_
    refine cL rfl (o_move (v := .int _ _) rfl ?_)
    refine cL rfl (o_assign (v := .int _ _) rfl ?_)
    refine eL ?_
    refine W.tr [(0, .lst _ _ _), (1, .clo _ _ _), (5, .int _ _), (7, .int _ _), (8, .int _ _)] [] ⟨rfl, rfl, rfl, rfl, rfl, trivial⟩ rfl ?_
    refine W.rL ?_
    refine cL rfl (o_move (v := .clo _ _ _) rfl ?_)
    refine cL rfl (o_move (v := .lst _ _ _) rfl ?_)
    refine cL rfl (o_move (v := .int _ _) rfl ?_)
    obtain ⟨s11, hv⟩ := hv
    refine cL rfl (o_iaL tt22 tt25 rfl rfl (enc25.wd true) rfl s11 ?_)
    intro rest11
    refine cL rfl (o_ldA (cs := [.int _ _, .int _ _, .int _ _, .int _ _]) tt25 rfl rfl ⟨_, rfl⟩ rfl ?_)
    refine cL rfl (o_callP1 (k := 57) (fst := []) (caps := [.ipt _ _]) (ys := [.agg _]) rfl rfl (spec_valid1 (lat s v8) n) (Wks.cons (ag_agg 5 _ (Wks.cons (ag_int _ _ _ _) (Wks.cons (ag_int _ _ _ _) (Wks.cons (ag_int _ _ _ _) (Wks.cons (ag_int _ _ _ _) (Wks.refl _)))))) (Wks.cons (ag_ipt _ _ _ _) (Wks.refl _))) ?_)
    refine eL ?_
    refine W.tr [(0, .lst _ _ _), (1, .clo _ _ _), (5, .int _ _), (7, .int _ _), (8, .int _ _), (16, .bool _)] [] ⟨rfl, rfl, rfl, rfl, rfl, rfl, trivial⟩ rfl ?_
    refine W.cb rfl (fun hc => ?_) (fun hc => ?_)
    · have hv := hv.1 hc
      refine W.rL ?_
      refine cL rfl (o_move (v := .int _ _) rfl ?_)
      refine cL rfl (o_assign (v := .int _ _) rfl ?_)
      refine eL ?_
      refine W.tr [(4, .int _ _)] [] ⟨rfl, trivial⟩ rfl ?_
      refine W.ret ?_
      refine bl_ret (th_ret (th_ret (bl_ret (th_ret (rt ?_)))))
      refine rt_t (v := .int _ _) rfl ?_
      refine rt_n ?_
      exact ⟨_, rs_int _ _ _ _, v8, rfl, hv⟩
    · have hv := hv.2 hc
      refine W.skip ?_
      refine bl_nrm (th_nrm ?_)
      refine W.tr [(0, .lst _ _ _), (1, .clo _ _ _), (7, .int _ _), (8, .int _ _)] [] ⟨rfl, rfl, rfl, rfl, trivial⟩ rfl ?_
      refine W.rL1 ?_
      obtain ⟨s12, hv⟩ := hv
      refine cL rfl (o_add rfl rfl s12 ?_)
      refine cL rfl (o_move (v := .int _ _) rfl ?_)
      refine eL ?_
      exact th_nrm (⟨(), (v8 + (1 : Int)), hv, St.to_mk (φ := []) rfl (.inl rfl) ⟨Ren.lst _ _ _, Ren.clo _ (Rens.nil) (Rens.cons (Ren.ipt _ _) (Rens.nil)), Ren.int _ _, Ren.int _ _, trivial⟩ trivial⟩)
  · have hv := hv.2 hc
    refine W.exit ?_
    refine th_exit (th_exit (bl_hit (th_nrm ?_)))
    refine W.tr [] [] trivial rfl ?_
    refine W.rL ?_
    refine cL rfl (o_assign (v := .int _ _) rfl ?_)
    refine eL ?_
    refine W.tr [(4, .int _ _)] [] ⟨rfl, trivial⟩ rfl ?_
    refine W.ret ?_
    refine rt ?_
    refine rt_t (v := .int _ _) rfl ?_
    refine rt_n ?_
    exact ⟨_, rs_int _ _ _ _, (-1 : Int), rfl, hv⟩
theorem vcp_idxV (s : (List Con)) (n : Int) (h0 : s.length ≤ 1073741824) : vc_idxV s n (fun q0 => q0 = (findIx (fun c => !(possM n c)) s)) := by
  unfold vc_idxV
  refine ⟨fun v => ∃ i : Nat, v = i ∧ i ≤ s.length ∧ ∀ j : Nat, j < i → ¬ (!(possM n (lat s j))) = true, fun v => s.length - v.toNat, ⟨0, rfl, by omega, by omega⟩, ?_⟩
  rintro _ ⟨i, rfl, hi, hj⟩
  refine ⟨fun h1 => ⟨by omega, fun h2 => ?_, fun h2 => ⟨by unfold inI; omega, ⟨i + 1, by omega, by omega, ?_⟩, by dsimp only; omega⟩⟩, fun h1 => ?_⟩
  · exact (findIx_lt (by omega) h2 hj).symm
  · intro j h3
    rcases Nat.lt_or_ge j i with h4 | h4
    · exact hj j h4
    · have : j = i := by omega
      subst this; exact h2
  · exact (findIx_none fun j h3 => hj j (by omega)).symm
theorem spec_idxV (s : (List Con)) (n : Int) (h0 : s.length ≤ 1073741824) : FnP Try.prog 60 [.lst true s.length (encL e25 s), .clo 57 [] [.ipt true [.int .i64 n]]] (fun xR => xR = .int .i64 (findIx (fun c => !(possM n c)) s)) :=
  (walk_idxV (vcp_idxV s n h0)).mono (by rintro _ ⟨_, rfl, rfl⟩; rfl)
end Go.Lat
namespace Go.Lat
open Go.RowKit Go.Proofs
attribute [local irreducible] closeM rangeM pointM addBM cycleM holdsM validBM sameM madeM pickM plusM validM possM firstM tableM longerM boundsM ofM addM freeM
/-- What the walk through api.Constraint] asks. -/
def vc_conV (s : (List Con)) (n : Int) (Post : Bool → Prop) : Prop :=
  (s.length ≤ 1073741824) ∧ Post (decide ((0 : Int) ≤ (findIx (fun c => !(possM n c)) s)))
set_option maxRecDepth 100000 in
set_option maxHeartbeats 4000000 in
theorem walk_conV {s : (List Con)} {n : Int} {Post : Bool → Prop} (hv : vc_conV s n Post) : FnP Try.prog 54 [.lst true s.length (encL e25 s), .clo 57 [] [.ipt true [.int .i64 n]]] (fun x => ∃ q0, x = .bool q0 ∧ Post q0) := by
  refine FnP.of_walk (T := tt) (nt := 9) ttOk ttMix ⟨⟨Try.f54, Try.func54, rfl, rfl, rfl, rfl⟩⟩ (by simp) ?_
  unfold vc_conV at hv
  change W _ _ _ ⟨9, look [(0, .lst true s.length (encL e25 s)), (1, .clo 57 [] [.ipt true [.int .i64 n]])], [], false⟩ _
  refine W.tr [(0, .lst _ _ _), (1, .clo _ _ _)] [] ⟨rfl, rfl, trivial⟩ rfl ?_
  refine W.rL ?_
  refine cL rfl (o_assign (v := .bool _) rfl ?_)
  refine eL ?_
  refine W.tr [(0, .lst _ _ _), (1, .clo _ _ _)] [] ⟨rfl, rfl, trivial⟩ rfl ?_
  refine W.rL ?_
  refine cL rfl (o_move (v := .lst _ _ _) rfl ?_)
  refine cL rfl (o_move (v := .clo _ _ _) rfl ?_)
  obtain ⟨s1, hv⟩ := hv
  refine cL rfl (o_callP1 (k := 60) (fst := []) (caps := []) (ys := [.lst _ _ _, .clo _ _ _]) rfl rfl (spec_idxV s n s1) (Wks.cons (ag_lst _ _ _ _ _) (Wks.cons (ag_clo 5 _ _ (Wks.refl _) (Wks.cons (ag_ipt _ _ _ _) (Wks.refl _))) (Wks.refl _))) ?_)
  refine cL rfl (o_geq rfl rfl ?_)
  refine cL rfl (o_assign (v := .bool _) rfl ?_)
  refine eL ?_
  refine W.tr [(4, .bool _)] [] ⟨rfl, trivial⟩ rfl ?_
  refine W.ret ?_
  refine rt ?_
  refine rt_t (v := .bool _) rfl ?_
  refine rt_n ?_
  exact ⟨_, rs_bool _ _ _, (decide ((0 : Int) ≤ (findIx (fun c => !(possM n c)) s))), rfl, hv⟩
theorem vcp_conV (s : (List Con)) (n : Int) (h0 : s.length ≤ 1073741824) : vc_conV s n (fun q0 => q0 = (!(s.all (possM n)))) := by
  unfold vc_conV
  exact ⟨h0, findIx_nonneg⟩
theorem spec_conV (s : (List Con)) (n : Int) (h0 : s.length ≤ 1073741824) : FnP Try.prog 54 [.lst true s.length (encL e25 s), .clo 57 [] [.ipt true [.int .i64 n]]] (fun xR => xR = .bool (!(s.all (possM n)))) :=
  (walk_conV (vcp_conV s n h0)).mono (by rintro _ ⟨_, rfl, rfl⟩; rfl)
end Go.Lat
namespace Go.Lat
open Go.RowKit Go.Proofs
attribute [local irreducible] closeM rangeM pointM addBM cycleM holdsM validBM sameM madeM pickM plusM validM possM firstM tableM longerM boundsM ofM addM freeM
/-- What the walk through bounds.valid asks. -/
def vc_valid (n : Int) (l : (List Con)) (Post : Bool → Prop) : Prop :=
  (((n < (1 : Int)) ∨ (((24 : Int) < n) ∨ ((2000 : Int) < ((l.length : Nat) : Int)))) → Post false) ∧ (¬ ((n < (1 : Int)) ∨ (((24 : Int) < n) ∨ ((2000 : Int) < ((l.length : Nat) : Int)))) → (l.length ≤ 1073741824) ∧ Post (decide (¬ ((!(l.all (possM n))) = true))))
set_option maxRecDepth 100000 in
set_option maxHeartbeats 4000000 in
theorem walk_valid {n : Int} {l : (List Con)} {Post : Bool → Prop} (hv : vc_valid n l Post) : FnP Try.prog 35 [.int .i64 n, .lst true l.length (encL e25 l)] (fun x => ∃ q0, x = .bool q0 ∧ Post q0) := by
  refine FnP.of_walk (T := tt) (nt := 20) ttOk ttMix ⟨⟨Try.f35, Try.func35, rfl, rfl, rfl, rfl⟩⟩ (by simp) ?_
  unfold vc_valid at hv
  change W _ _ _ ⟨20, look [(0, .int .i64 n), (1, .lst true l.length (encL e25 l))], [], false⟩ _
  refine W.tr [(0, .int _ _), (1, .lst _ _ _)] [] ⟨rfl, rfl, trivial⟩ rfl ?_
  refine W.rL ?_
  refine cL rfl (o_box (v := .int _ _) (p := 0) rfl rfl rfl ?_)
  refine cL rfl (o_assign (v := .bool _) rfl ?_)
  refine eL ?_
  refine W.tr [(1, .lst _ _ _), (2, .ptr _ _)] [.box _ [.int _ _]] ⟨rfl, rfl, trivial⟩ rfl ?_
  refine W.seq' ?_
  refine W.rLm ⟨20, look [(1, .lst true l.length (encL e25 l)), (2, .ptr 0 0), (15, .bool (decide ((n < (1 : Int)) ∨ (((24 : Int) < n) ∨ ((2000 : Int) < ((l.length : Nat) : Int))))))], [.box 3 [.int .i64 n]], false⟩ ?_ ?_
  · refine cL rfl (o_ldS (v := .int _ _) tt3 rfl rfl ⟨_, rfl⟩ ?_)
    refine cL rfl (o_lss rfl rfl ?_)
    refine cL rfl (o_move (v := .bool _) rfl ?_)
    by_cases c1 : n < (1 : Int)
    · refine cLs rfl rfl rfl (decide_eq_true c1) ?_
      refine cLs rfl rfl rfl (decide_eq_true c1) ?_
      refine cL rfl (o_pickT (v := .bool _) rfl (decide_eq_true c1) rfl ?_)
      refine cL rfl (o_move (v := .bool _) rfl ?_)
      refine cLs rfl rfl rfl (rfl) ?_
      refine cLs rfl rfl rfl (rfl) ?_
      refine cLs rfl rfl rfl (rfl) ?_
      refine cL rfl (o_pickT (v := .bool _) rfl rfl rfl ?_)
      refine eL ?_
      exact le_mk ⟨rfl, rfl, (congrArg AV.bool (dOrT c1)).symm, trivial⟩ rfl
    · refine cLg rfl rfl (decide_eq_false c1) ?_
      refine cL rfl (o_ldS (v := .int _ _) tt3 rfl rfl ⟨_, rfl⟩ ?_)
      refine cLg rfl rfl (decide_eq_false c1) ?_
      refine cL rfl (o_gtr rfl rfl ?_)
      refine cL rfl (o_pickF (v := .bool _) rfl (decide_eq_false c1) rfl ?_)
      refine cL rfl (o_move (v := .bool _) rfl ?_)
      by_cases c2 : (24 : Int) < n
      · refine cLs rfl rfl rfl (decide_eq_true c2) ?_
        refine cLs rfl rfl rfl (decide_eq_true c2) ?_
        refine cLs rfl rfl rfl (decide_eq_true c2) ?_
        refine cL rfl (o_pickT (v := .bool _) rfl (decide_eq_true c2) rfl ?_)
        refine eL ?_
        exact le_mk ⟨rfl, rfl, (congrArg AV.bool (dOrF c1 (dOrT c2))).symm, trivial⟩ rfl
      · refine cLg rfl rfl (decide_eq_false c2) ?_
        refine cL rfl (o_move (v := .lst _ _ _) rfl ?_)
        refine cLg rfl rfl (decide_eq_false c2) ?_
        refine cL rfl (o_len (v := .lst _ _ _) tt22 rfl rfl ?_)
        refine cLg rfl rfl (decide_eq_false c2) ?_
        refine cL rfl (o_gtr rfl rfl ?_)
        refine cL rfl (o_pickF (v := .bool _) rfl (decide_eq_false c2) rfl ?_)
        refine eL ?_
        exact le_mk ⟨rfl, rfl, (congrArg AV.bool (dOrF c1 (dOrF c2 (rfl)))).symm, trivial⟩ rfl
  · refine W.cn rfl (fun hc => ?_) (fun hc => ?_)
    · have hv := hv.1 hc
      refine W.rL ?_
      refine cL rfl (o_assign (v := .bool _) rfl ?_)
      refine eL ?_
      refine W.tr [(4, .bool _)] [.box _ [.int _ _]] ⟨rfl, trivial⟩ rfl ?_
      refine W.ret ?_
      refine th_ret (rt ?_)
      refine rt_t (v := .bool _) rfl ?_
      refine rt_n ?_
      exact ⟨_, rs_bool _ _ _, false, rfl, hv⟩
    · have hv := hv.2 hc
      refine W.skip ?_
      refine th_nrm ?_
      refine W.tr [(1, .lst _ _ _), (2, .ptr _ _)] [.box _ [.int _ _]] ⟨rfl, rfl, trivial⟩ rfl ?_
      refine W.rL ?_
      refine cL rfl (o_move (v := .lst _ _ _) rfl ?_)
      refine cL rfl (o_mf (ps := []) (qs := [.ptr _ _]) rfl rfl ?_)
      obtain ⟨s1, hv⟩ := hv
      refine cL rfl (o_callP1 (k := 54) (fst := []) (caps := []) (ys := [.lst _ _ _, .clo _ _ _]) rfl rfl (spec_conV l n s1) (Wks.cons (ag_lst _ _ _ _ _) (Wks.cons (ag_clo 5 _ _ (Wks.refl _) (Wks.cons (ag_box 4 rfl (Wks.cons (ag_int _ _ _ _) (Wks.refl _))) (Wks.refl _))) (Wks.refl _))) ?_)
      refine cL rfl (o_notB rfl ?_)
      refine cL rfl (o_assign (v := .bool _) rfl ?_)
      refine eL ?_
      refine W.tr [(4, .bool _)] [.box _ [.int _ _]] ⟨rfl, trivial⟩ rfl ?_
      refine W.ret ?_
      refine rt ?_
      refine rt_t (v := .bool _) rfl ?_
      refine rt_n ?_
      exact ⟨_, rs_bool _ _ _, (decide (¬ ((!(l.all (possM n))) = true))), rfl, hv⟩
theorem vcp_valid (n : Int) (l : (List Con)) (h0 : l.length ≤ 1073741824) : vc_valid n l (fun q0 => q0 = (validM n l)) := by
  unfold vc_valid
  refine ⟨fun h => ?_, fun h => ⟨h0, ?_⟩⟩
  · unfold validM
    rw [decide_eq_false (by omega)]; rfl
  · unfold validM
    rw [decide_eq_true (by omega)]
    cases l.all (possM n) <;> rfl
theorem spec_valid (n : Int) (l : (List Con)) (h0 : l.length ≤ 1073741824) : FnP Try.prog 35 [.int .i64 n, .lst true l.length (encL e25 l)] (fun xR => xR = .bool (validM n l)) :=
  (walk_valid (vcp_valid n l h0)).mono (by rintro _ ⟨_, rfl, rfl⟩; rfl)
end Go.Lat
namespace Go.Lat
open Go.RowKit Go.Proofs
attribute [local irreducible] closeM rangeM pointM addBM cycleM holdsM validBM sameM madeM pickM plusM validM possM firstM tableM longerM boundsM ofM addM freeM
/-- What the walk through bounds.free asks. -/
def vc_free  (Post : (Vector Int 576) → Prop) : Prop :=
  ∃ (I1 : Int → (Vector Int 576) → Prop) (μ1 : Int → (Vector Int 576) → Nat), I1 (0 : Int) (Vector.replicate 576 0) ∧ ∀ (v4 : Int) (m0 : (Vector Int 576)), I1 v4 m0 → ((v4 < (24 : Int)) → ∃ (I2 : Int → (Vector Int 576) → Prop) (μ2 : Int → (Vector Int 576) → Nat), I2 (0 : Int) m0 ∧ ∀ (v7 : Int) (m0_1 : (Vector Int 576)), I2 v7 m0_1 → ((v7 < (24 : Int)) → ∃ J3 : (Vector Int 576) → Prop, (∀ (b0 : (Vector Int 576)), J3 b0 → (inI (v7 + (1 : Int))) ∧ (I2 (v7 + (1 : Int)) b0 ∧ μ2 (v7 + (1 : Int)) b0 < μ2 v7 m0_1)) ∧ (((¬ v4 = v7) → (0 ≤ v4 ∧ v4 < ((24 : Nat) : Int)) ∧ (0 ≤ v7 ∧ v7 < ((24 : Nat) : Int)) ∧ (v4.toNat * 24 + v7.toNat < 576) ∧ J3 (vset m0_1 (v4.toNat * 24 + v7.toNat) (1152921504606846976 : Int))) ∧ (¬ (¬ v4 = v7) → J3 m0_1))) ∧ (¬ (v7 < (24 : Int)) → (inI (v4 + (1 : Int))) ∧ (I1 (v4 + (1 : Int)) m0_1 ∧ μ1 (v4 + (1 : Int)) m0_1 < μ1 v4 m0))) ∧ (¬ (v4 < (24 : Int)) → Post m0)
set_option maxRecDepth 100000 in
set_option maxHeartbeats 4000000 in
theorem walk_free  {Post : (Vector Int 576) → Prop} (hv : vc_free Post) : FnH Try.prog 36 [] [] (fun x H => ∃ l q0, H = .box 82 (encL eInt q0.toList) :: l ∧ x = .ptr 0 0 ∧ Post q0) := by
  refine FnH.of_walk (T := tt) (nt := 19) ttOk ttMix ⟨⟨Try.f36, Try.func36, rfl, rfl, rfl, rfl⟩⟩ (by simp) (by simp) false (by simp) ?_
  unfold vc_free at hv
  change W _ _ _ ⟨19, look [], [], false⟩ _
  refine W.tr [] [] trivial rfl ?_
  refine W.rL ?_
  refine cL rfl (o_assign (v := .nilP) rfl ?_)
  refine eL ?_
  refine W.tr [] [] trivial rfl ?_
  refine W.rL ?_
  refine cL rfl (o_alloc (p := 0) tt82 rfl (ints_zero 576) ?_)
  refine eL ?_
  refine W.tr [(1, .ptr _ _)] [.box _ _] ⟨rfl, trivial⟩ rfl ?_
  refine W.seq' ?_
  refine W.rL ?_
  refine cL rfl (o_move (v := .int _ _) rfl ?_)
  refine eL ?_
  refine W.tr [(1, .ptr _ _), (4, .int _ _)] [.box _ _] ⟨rfl, rfl, trivial⟩ rfl ?_
  refine W.block ?_
  obtain ⟨I1, μ1, hp, hv⟩ := hv
  refine W.loop2 (fun v4 m0 => ⟨19, look [(1, .ptr 0 0), (4, .int .i64 v4)], [.box 82 (encL eInt m0.toList)], false⟩) I1 μ1 (0 : Int) (Vector.replicate 576 0) (St.to_mk (φ := [some 0]) rfl (.inl rfl) ⟨Ren.ptr rfl, Ren.int _ _, trivial⟩ ⟨.inr ⟨_, rfl, rfl, Rens.enc encInt true _⟩, trivial⟩) hp ?_
  clear hp
  intro v4 m0 hI
  replace hv := hv v4 m0 hI
  clear hI
  refine W.rL ?_
  refine cL rfl (o_lss rfl rfl ?_)
  refine eL ?_
  refine W.tr [(1, .ptr _ _), (4, .int _ _), (5, .bool _)] [.box _ _] ⟨rfl, rfl, rfl, trivial⟩ rfl ?_
  refine W.seq' ?_
  refine W.cn rfl (fun hc => ?_) (fun hc => ?_)
  · have hv := hv.1 hc
    refine W.skip ?_
    refine th_nrm ?_
    refine W.tr [(1, .ptr _ _), (4, .int _ _)] [.box _ _] ⟨rfl, rfl, trivial⟩ rfl ?_
    refine W.seq' ?_
    refine W.block ?_
    refine W.rL ?_
    refine cL rfl (o_move (v := .int _ _) rfl ?_)
    refine cL rfl (o_assign (v := .int _ _) rfl ?_)
    refine eL ?_
    refine W.tr [(1, .ptr _ _), (2, .int _ _), (4, .int _ _)] [.box _ _] ⟨rfl, rfl, rfl, trivial⟩ rfl ?_
    refine W.rL ?_
    refine cL rfl (o_move (v := .int _ _) rfl ?_)
    refine eL ?_
    refine W.tr [(1, .ptr _ _), (2, .int _ _), (4, .int _ _), (7, .int _ _)] [.box _ _] ⟨rfl, rfl, rfl, rfl, trivial⟩ rfl ?_
    refine W.block ?_
    obtain ⟨I2, μ2, hp, hv⟩ := hv
    refine W.loop2 (fun v7 m0_1 => ⟨19, look [(1, .ptr 0 0), (2, .int .i64 v4), (4, .int .i64 v4), (7, .int .i64 v7)], [.box 82 (encL eInt m0_1.toList)], false⟩) I2 μ2 (0 : Int) m0 (St.to_mk (φ := [some 0]) rfl (.inl rfl) ⟨Ren.ptr rfl, Ren.int _ _, Ren.int _ _, Ren.int _ _, trivial⟩ ⟨.inr ⟨_, rfl, rfl, Rens.enc encInt true _⟩, trivial⟩) hp ?_
    clear hp
    intro v7 m0_1 hI
    replace hv := hv v7 m0_1 hI
    clear hI
    refine W.rL ?_
    refine cL rfl (o_lss rfl rfl ?_)
    refine eL ?_
    refine W.tr [(1, .ptr _ _), (2, .int _ _), (4, .int _ _), (7, .int _ _), (8, .bool _)] [.box _ _] ⟨rfl, rfl, rfl, rfl, rfl, trivial⟩ rfl ?_
    refine W.seq' ?_
    refine W.cn rfl (fun hc => ?_) (fun hc => ?_)
    · have hv := hv.1 hc
      refine W.skip ?_
      refine th_nrm ?_
      refine W.tr [(1, .ptr _ _), (2, .int _ _), (4, .int _ _), (7, .int _ _)] [.box _ _] ⟨rfl, rfl, rfl, rfl, trivial⟩ rfl ?_
      obtain ⟨J3, hj, hv⟩ := hv
      refine W.mid1 (fun b0 => ⟨19, look [(1, .ptr 0 0), (2, .int .i64 v4), (4, .int .i64 v4), (7, .int .i64 v7)], [.box 82 (encL eInt b0.toList)], false⟩) J3 ?_ ?_
      · intro b0
        intro hv
        replace hv := hj b0 hv
        refine W.rL1 ?_
        obtain ⟨s254, hv⟩ := hv
        refine cL rfl (o_add rfl rfl s254 ?_)
        refine cL rfl (o_move (v := .int _ _) rfl ?_)
        refine eL ?_
        exact th_nrm (⟨(), (v7 + (1 : Int)), b0, hv, St.to_mk (φ := [some 0]) rfl (.inl rfl) ⟨Ren.ptr rfl, Ren.int _ _, Ren.int _ _, Ren.int _ _, trivial⟩ ⟨.inr ⟨_, rfl, rfl, Rens.enc encInt true _⟩, trivial⟩⟩)
      · clear hj
        refine W.block ?_
        refine W.rL ?_
        refine cL rfl (o_move (v := .int _ _) rfl ?_)
        refine cL rfl (o_assign (v := .int _ _) rfl ?_)
        refine eL ?_
        refine W.tr [(1, .ptr _ _), (2, .int _ _), (3, .int _ _), (4, .int _ _), (7, .int _ _)] [.box _ _] ⟨rfl, rfl, rfl, rfl, rfl, trivial⟩ rfl ?_
        refine W.rL ?_
        refine cL rfl (o_move (v := .int _ _) rfl ?_)
        refine cL rfl (o_move (v := .int _ _) rfl ?_)
        refine cL rfl (o_neI rfl rfl rfl ?_)
        refine eL ?_
        refine W.tr [(1, .ptr _ _), (2, .int _ _), (3, .int _ _), (4, .int _ _), (7, .int _ _), (12, .bool _)] [.box _ _] ⟨rfl, rfl, rfl, rfl, rfl, rfl, trivial⟩ rfl ?_
        refine W.cn rfl (fun hc => ?_) (fun hc => ?_)
        · have hv := hv.1 hc
          refine W.rL1 ?_
          refine cL rfl (o_move (v := .int _ _) rfl ?_)
          refine cL rfl (o_move (v := .int _ _) rfl ?_)
          obtain ⟨s255, hv⟩ := hv
          refine cL rfl (o_iaA tt82 tt73 rfl rfl s255 (Nat.zero_add _) ?_)
          obtain ⟨s256, hv⟩ := hv
          refine cL rfl (o_iaA tt73 tt3 rfl rfl s256 (by rw [Nat.mul_one]) ?_)
          obtain ⟨s257, hv⟩ := hv
          refine cLn (o_stB (v := .int _ _) tt3 rfl rfl rfl rfl rfl (by rw [ints_len]; exact s257) (ints_set _ _ _) ?_)
          refine eL ?_
          exact bl_nrm (th_nrm (⟨(), (vset m0_1 (v4.toNat * 24 + v7.toNat) (1152921504606846976 : Int)), hv, St.to_mk (φ := [some 0]) rfl (.inl rfl) ⟨Ren.ptr rfl, Ren.int _ _, Ren.int _ _, Ren.int _ _, trivial⟩ ⟨.inr ⟨_, rfl, rfl, Rens.enc encInt true _⟩, trivial⟩⟩))
        · have hv := hv.2 hc
          refine W.skip ?_
          exact bl_nrm (th_nrm (⟨(), m0_1, hv, St.to_mk (φ := [some 0]) rfl (.inl rfl) ⟨Ren.ptr rfl, Ren.int _ _, Ren.int _ _, Ren.int _ _, trivial⟩ ⟨.inr ⟨_, rfl, rfl, Rens.enc encInt true _⟩, trivial⟩⟩))
    · have hv := hv.2 hc
      refine W.exit ?_
      refine th_exit (th_exit (bl_hit (bl_nrm (th_nrm ?_))))
      refine W.tr [(1, .ptr _ _), (4, .int _ _)] [.box _ _] ⟨rfl, rfl, trivial⟩ rfl ?_
      refine W.rL1 ?_
      obtain ⟨s258, hv⟩ := hv
      refine cL rfl (o_add rfl rfl s258 ?_)
      refine cL rfl (o_move (v := .int _ _) rfl ?_)
      refine eL ?_
      exact th_nrm (⟨(), (v4 + (1 : Int)), m0_1, hv, St.to_mk (φ := [some 0]) rfl (.inl rfl) ⟨Ren.ptr rfl, Ren.int _ _, trivial⟩ ⟨.inr ⟨_, rfl, rfl, Rens.enc encInt true _⟩, trivial⟩⟩)
  · have hv := hv.2 hc
    refine W.exit ?_
    refine th_exit (th_exit (bl_hit (th_nrm ?_)))
    refine W.tr [(1, .ptr _ _)] [.box _ _] ⟨rfl, trivial⟩ rfl ?_
    refine W.rL ?_
    refine cL rfl (o_assign (v := .ptr _ _) rfl ?_)
    refine eL ?_
    refine W.tr [(0, .ptr _ _)] [.box _ _] ⟨rfl, trivial⟩ rfl ?_
    refine W.to (st' := ⟨19, look [(0, .ptr 0 0)], [.box 82 (encL eInt m0.toList)], false⟩) (St.to_mk (φ := [some 0]) rfl (.inl rfl) ⟨Ren.ptr rfl, trivial⟩ ⟨.inr ⟨_, rfl, rfl, Rens.enc encInt true _⟩, trivial⟩) ?_
    refine W.ret ?_
    refine rt ?_
    refine rt_t (v := .ptr _ _) rfl ?_
    refine rt_n ?_
    exact ⟨_, m0, rfl, rfl, hv⟩
theorem vcp_free   : vc_free (fun q0 => q0 = freeM) := by
  unfold vc_free
  have hNB : NB = 1152921504606846976 := rfl
  refine ⟨fun v m => ∃ i : Nat, v = i ∧ i ≤ 24 ∧ ∀ k, k < 576 → vat m k = if k / 24 < i ∧ ¬ k / 24 = k % 24 then NB else 0, fun v _ => 24 - v.toNat, ⟨0, rfl, by omega, fun k hk => by rw [vat_rep hk]; simp⟩, ?_⟩
  rintro _ m0 ⟨i, rfl, hi, hm⟩
  refine ⟨fun h1 => ⟨fun v m => ∃ j : Nat, v = j ∧ j ≤ 24 ∧ ∀ k, k < 576 → vat m k = if (k / 24 < i ∨ k / 24 = i ∧ k % 24 < j) ∧ ¬ k / 24 = k % 24 then NB else 0, fun v _ => 24 - v.toNat, ⟨0, rfl, by omega, fun k hk => ?_⟩, ?_⟩, fun h1 => ?_⟩
  · rw [hm k hk]; split <;> split <;> omega
  · rintro _ m1 ⟨j, rfl, hj, hk⟩
    refine ⟨fun h2 => ⟨fun b => ∀ k, k < 576 → vat b k = if (k / 24 < i ∨ k / 24 = i ∧ k % 24 < j + 1) ∧ ¬ k / 24 = k % 24 then NB else 0, fun b hb => ⟨by unfold inI; omega, ⟨j + 1, by omega, by omega, hb⟩, by dsimp only; omega⟩, fun h3 => ⟨by omega, by omega, by omega, ?_⟩, fun h3 => ?_⟩, fun h2 => ⟨by unfold inI; omega, ⟨i + 1, by omega, by omega, ?_⟩, by dsimp only; omega⟩⟩
    · intro k hk1
      rw [vat_vset (by omega), hk k hk1]
      simp only [Int.toNat_natCast]
      split <;> split <;> (try split) <;> omega
    · intro k hk1
      rw [hk k hk1]; split <;> split <;> omega
    · intro k hk1
      rw [hk k hk1]; split <;> split <;> omega
  · refine vec_ext fun k hk => ?_
    rw [hm k hk]
    unfold freeM
    rw [vat_ofFn hk]
    dsimp only
    split <;> split <;> omega
theorem spec_free   : FnH Try.prog 36 [] [] (fun xR H => ∃ l, H = .box 82 (encL eInt (freeM).toList) :: l ∧ xR = .ptr 0 0) :=
  (walk_free (vcp_free)).mono (by rintro _ _ ⟨l, _, h1, h2, rfl⟩; exact ⟨l, h1, h2⟩)
end Go.Lat
namespace Go.Lat
open Go.RowKit Go.Proofs
attribute [local irreducible] closeM rangeM pointM addBM cycleM holdsM validBM sameM madeM pickM plusM validM possM firstM tableM longerM boundsM ofM addM freeM
/-- What the walk through bounds.plus asks. -/
def vc_plus (a : Int) (b : Int) (Post : Int → Prop) : Prop :=
  (((a = (1152921504606846976 : Int)) ∨ (b = (1152921504606846976 : Int))) → Post (1152921504606846976 : Int)) ∧ (¬ ((a = (1152921504606846976 : Int)) ∨ (b = (1152921504606846976 : Int))) → (inI (a + b)) ∧ Post (a + b))
set_option maxRecDepth 100000 in
set_option maxHeartbeats 4000000 in
theorem walk_plus {a : Int} {b : Int} {Post : Int → Prop} (hv : vc_plus a b Post) : FnP Try.prog 47 [.int .i64 a, .int .i64 b] (fun x => ∃ q0, x = .int .i64 q0 ∧ Post q0) := by
  refine FnP.of_walk (T := tt) (nt := 14) ttOk ttMix ⟨⟨Try.f47, Try.func47, rfl, rfl, rfl, rfl⟩⟩ (by simp) ?_
  unfold vc_plus at hv
  change W _ _ _ ⟨14, look [(0, .int .i64 a), (1, .int .i64 b)], [], false⟩ _
  refine W.tr [(0, .int _ _), (1, .int _ _)] [] ⟨rfl, rfl, trivial⟩ rfl ?_
  refine W.rL ?_
  refine cL rfl (o_assign (v := .int _ _) rfl ?_)
  refine eL ?_
  refine W.tr [(0, .int _ _), (1, .int _ _)] [] ⟨rfl, rfl, trivial⟩ rfl ?_
  refine W.seq' ?_
  refine W.rLm ⟨14, look [(0, .int .i64 a), (1, .int .i64 b), (10, .bool (decide ((a = (1152921504606846976 : Int)) ∨ (b = (1152921504606846976 : Int)))))], [], false⟩ ?_ ?_
  · refine cL rfl (o_move (v := .int _ _) rfl ?_)
    refine cL rfl (o_eqI rfl rfl rfl ?_)
    refine cL rfl (o_move (v := .bool _) rfl ?_)
    by_cases c1 : a = (1152921504606846976 : Int)
    · refine cLs rfl rfl rfl (decide_eq_true c1) ?_
      refine cLs rfl rfl rfl (decide_eq_true c1) ?_
      refine cL rfl (o_pickT (v := .bool _) rfl (decide_eq_true c1) rfl ?_)
      refine eL ?_
      exact le_mk ⟨rfl, rfl, (congrArg AV.bool (dOrT c1)).symm, trivial⟩ rfl
    · refine cLg rfl rfl (decide_eq_false c1) ?_
      refine cL rfl (o_move (v := .int _ _) rfl ?_)
      refine cLg rfl rfl (decide_eq_false c1) ?_
      refine cL rfl (o_eqI rfl rfl rfl ?_)
      refine cL rfl (o_pickF (v := .bool _) rfl (decide_eq_false c1) rfl ?_)
      refine eL ?_
      exact le_mk ⟨rfl, rfl, (congrArg AV.bool (dOrF c1 (rfl))).symm, trivial⟩ rfl
  · refine W.cn rfl (fun hc => ?_) (fun hc => ?_)
    · have hv := hv.1 hc
      refine W.rL ?_
      refine cL rfl (o_assign (v := .int _ _) rfl ?_)
      refine eL ?_
      refine W.tr [(4, .int _ _)] [] ⟨rfl, trivial⟩ rfl ?_
      refine W.ret ?_
      refine th_ret (rt ?_)
      refine rt_t (v := .int _ _) rfl ?_
      refine rt_n ?_
      exact ⟨_, rs_int _ _ _ _, (1152921504606846976 : Int), rfl, hv⟩
    · have hv := hv.2 hc
      refine W.skip ?_
      refine th_nrm ?_
      refine W.tr [(0, .int _ _), (1, .int _ _)] [] ⟨rfl, rfl, trivial⟩ rfl ?_
      refine W.rL ?_
      refine cL rfl (o_move (v := .int _ _) rfl ?_)
      refine cL rfl (o_move (v := .int _ _) rfl ?_)
      obtain ⟨s1, hv⟩ := hv
      refine cL rfl (o_add rfl rfl s1 ?_)
      refine cL rfl (o_assign (v := .int _ _) rfl ?_)
      refine eL ?_
      refine W.tr [(4, .int _ _)] [] ⟨rfl, trivial⟩ rfl ?_
      refine W.ret ?_
      refine rt ?_
      refine rt_t (v := .int _ _) rfl ?_
      refine rt_n ?_
      exact ⟨_, rs_int _ _ _ _, (a + b), rfl, hv⟩
theorem vcp_plus (a : Int) (b : Int) (h0 : ¬ a = NB → ¬ b = NB → inI (a + b)) : vc_plus a b (fun q0 => q0 = (plusM a b)) := by
  unfold vc_plus plusM
  refine ⟨fun h => by simp only [h, if_true, NB], fun h => ?_⟩
  have ha : ¬ a = NB := fun e => h (.inl e)
  have hb : ¬ b = NB := fun e => h (.inr e)
  exact ⟨h0 ha hb, by simp only [ha, hb, or_self, if_false]⟩
theorem spec_plus (a : Int) (b : Int) (h0 : ¬ a = NB → ¬ b = NB → inI (a + b)) : FnP Try.prog 47 [.int .i64 a, .int .i64 b] (fun xR => xR = .int .i64 (plusM a b)) :=
  (walk_plus (vcp_plus a b h0)).mono (by rintro _ ⟨_, rfl, rfl⟩; rfl)
end Go.Lat
namespace Go.Lat
open Go.RowKit Go.Proofs
attribute [local irreducible] closeM rangeM pointM addBM cycleM holdsM validBM sameM madeM pickM plusM validM possM firstM tableM longerM boundsM ofM addM freeM
/-- What the walk through bounds.matrix).add asks. -/
def vc_add (m : (Vector Int 576)) (f : Int) (t : Int) (w : Int) (Post : (Vector Int 576) → Bool → Prop) : Prop :=
  (0 ≤ t ∧ t < ((24 : Nat) : Int)) ∧ (0 ≤ f ∧ f < ((24 : Nat) : Int)) ∧ (t.toNat * 24 + f.toNat < 576) ∧ (¬ w = NB → ¬ (vat m (t.toNat * 24 + f.toNat)) = NB → inI (w + (vat m (t.toNat * 24 + f.toNat)))) ∧ (((plusM w (vat m (t.toNat * 24 + f.toNat))) < (0 : Int)) → Post m false) ∧ (¬ ((plusM w (vat m (t.toNat * 24 + f.toNat))) < (0 : Int)) → (0 ≤ f ∧ f < ((24 : Nat) : Int)) ∧ (0 ≤ t ∧ t < ((24 : Nat) : Int)) ∧ (f.toNat * 24 + t.toNat < 576) ∧ (((vat m (f.toNat * 24 + t.toNat)) ≤ w) → Post m true) ∧ (¬ ((vat m (f.toNat * 24 + t.toNat)) ≤ w) → ∃ (I1 : Int → (Vector Int 576) → Prop) (μ1 : Int → (Vector Int 576) → Nat), I1 (0 : Int) m ∧ ∀ (v34 : Int) (m0 : (Vector Int 576)), I1 v34 m0 → ((v34 < (24 : Int)) → ∃ J2 : (Vector Int 576) → Prop, (∀ (b0 : (Vector Int 576)), J2 b0 → (inI (v34 + (1 : Int))) ∧ (I1 (v34 + (1 : Int)) b0 ∧ μ1 (v34 + (1 : Int)) b0 < μ1 v34 m0)) ∧ ((0 ≤ v34 ∧ v34 < ((24 : Nat) : Int)) ∧ (0 ≤ f ∧ f < ((24 : Nat) : Int)) ∧ (v34.toNat * 24 + f.toNat < 576) ∧ ((vat m (v34.toNat * 24 + f.toNat) = (1152921504606846976 : Int)) → J2 m0) ∧ (¬ (vat m (v34.toNat * 24 + f.toNat) = (1152921504606846976 : Int)) → ∃ (I3 : Int → (Vector Int 576) → Prop) (μ3 : Int → (Vector Int 576) → Nat), I3 (0 : Int) m0 ∧ ∀ (v43 : Int) (m0_1 : (Vector Int 576)), I3 v43 m0_1 → ((v43 < (24 : Int)) → (0 ≤ v34 ∧ v34 < ((24 : Nat) : Int)) ∧ (0 ≤ v43 ∧ v43 < ((24 : Nat) : Int)) ∧ (v34.toNat * 24 + v43.toNat < 576) ∧ (0 ≤ v34 ∧ v34 < ((24 : Nat) : Int)) ∧ (0 ≤ f ∧ f < ((24 : Nat) : Int)) ∧ (v34.toNat * 24 + f.toNat < 576) ∧ (inI ((vat m (v34.toNat * 24 + f.toNat)) + w)) ∧ (0 ≤ t ∧ t < ((24 : Nat) : Int)) ∧ (0 ≤ v43 ∧ v43 < ((24 : Nat) : Int)) ∧ (t.toNat * 24 + v43.toNat < 576) ∧ (0 ≤ v34 ∧ v34 < ((24 : Nat) : Int)) ∧ (¬ ((vat m (v34.toNat * 24 + f.toNat)) + w) = NB → ¬ (vat m (t.toNat * 24 + v43.toNat)) = NB → inI (((vat m (v34.toNat * 24 + f.toNat)) + w) + (vat m (t.toNat * 24 + v43.toNat)))) ∧ (0 ≤ v43 ∧ v43 < ((24 : Nat) : Int)) ∧ (v34.toNat * 24 + v43.toNat < 576) ∧ (inI (v43 + (1 : Int))) ∧ (I3 (v43 + (1 : Int)) (vset m0_1 (v34.toNat * 24 + v43.toNat) (min (vat m0_1 (v34.toNat * 24 + v43.toNat)) (plusM ((vat m (v34.toNat * 24 + f.toNat)) + w) (vat m (t.toNat * 24 + v43.toNat))))) ∧ μ3 (v43 + (1 : Int)) (vset m0_1 (v34.toNat * 24 + v43.toNat) (min (vat m0_1 (v34.toNat * 24 + v43.toNat)) (plusM ((vat m (v34.toNat * 24 + f.toNat)) + w) (vat m (t.toNat * 24 + v43.toNat))))) < μ3 v43 m0_1)) ∧ (¬ (v43 < (24 : Int)) → J2 m0_1)))) ∧ (¬ (v34 < (24 : Int)) → Post m0 true)))
set_option maxRecDepth 100000 in
set_option maxHeartbeats 4000000 in
theorem walk_add {m : (Vector Int 576)} {f : Int} {t : Int} {w : Int} {Post : (Vector Int 576) → Bool → Prop} (hv : vc_add m f t w Post) : FnH Try.prog 37 [.box 82 (encL eInt m.toList)] [.ptr 0 0, .int .i64 f, .int .i64 t, .int .i64 w] (fun x H => ∃ l q0 q1, H = .box 82 (encL eInt q0.toList) :: l ∧ x = .bool q1 ∧ Post q0 q1) := by
  refine FnH.of_walk (T := tt) (nt := 75) ttOk ttMix ⟨⟨Try.f37, Try.func37, rfl, rfl, rfl, rfl⟩⟩ (by simp) (by simp) true (by simp) ?_
  unfold vc_add at hv
  change W _ _ _ ⟨75, look [(0, .ptr 0 0), (1, .int .i64 f), (2, .int .i64 t), (3, .int .i64 w)], [.box 82 (encL eInt m.toList)], true⟩ _
  refine W.tr [(0, .ptr _ _), (1, .int _ _), (2, .int _ _), (3, .int _ _)] [.box _ _] ⟨rfl, rfl, rfl, rfl, trivial⟩ rfl ?_
  refine W.rL ?_
  refine cL rfl (o_assign (v := .bool _) rfl ?_)
  refine eL ?_
  refine W.tr [(0, .ptr _ _), (1, .int _ _), (2, .int _ _), (3, .int _ _)] [.box _ _] ⟨rfl, rfl, rfl, rfl, trivial⟩ rfl ?_
  refine W.seq' ?_
  refine W.rL ?_
  refine cL rfl (o_move (v := .int _ _) rfl ?_)
  refine cL rfl (o_move (v := .ptr _ _) rfl ?_)
  refine cL rfl (o_move (v := .int _ _) rfl ?_)
  refine cL rfl (o_move (v := .int _ _) rfl ?_)
  refine cL rfl (o_nil rfl ?_)
  obtain ⟨s5, hv⟩ := hv
  refine cL rfl (o_iaA tt82 tt73 rfl rfl s5 (Nat.zero_add _) ?_)
  obtain ⟨s6, hv⟩ := hv
  refine cL rfl (o_iaA tt73 tt3 rfl rfl s6 (by rw [Nat.mul_one]) ?_)
  obtain ⟨s7, hv⟩ := hv
  refine cL rfl (o_ldS tt3 rfl rfl (ca_vec rfl s7) ?_)
  obtain ⟨s8, hv⟩ := hv
  refine cL rfl (o_callP1 (k := 47) (fst := []) (caps := []) (ys := [.int _ _, .int _ _]) rfl rfl (spec_plus w (vat m (t.toNat * 24 + f.toNat)) s8) (Wks.cons (ag_int _ _ _ _) (Wks.cons (ag_int _ _ _ _) (Wks.refl _))) ?_)
  refine cL rfl (o_lss rfl rfl ?_)
  refine eL ?_
  refine W.tr [(0, .ptr _ _), (1, .int _ _), (2, .int _ _), (3, .int _ _), (21, .bool _)] [.box _ _] ⟨rfl, rfl, rfl, rfl, rfl, trivial⟩ rfl ?_
  refine W.cn rfl (fun hc => ?_) (fun hc => ?_)
  · have hv := hv.1 hc
    refine W.rL ?_
    refine cL rfl (o_assign (v := .bool _) rfl ?_)
    refine eL ?_
    refine W.tr [(8, .bool _)] [.box _ _] ⟨rfl, trivial⟩ rfl ?_
    refine W.ret ?_
    refine th_ret (rt ?_)
    refine rt_t (v := .bool _) rfl ?_
    refine rt_n ?_
    exact ⟨_, m, false, rfl, rfl, hv⟩
  · have hv := hv.2 hc
    refine W.skip ?_
    refine th_nrm ?_
    refine W.tr [(0, .ptr _ _), (1, .int _ _), (2, .int _ _), (3, .int _ _)] [.box _ _] ⟨rfl, rfl, rfl, rfl, trivial⟩ rfl ?_
    refine W.seq' ?_
    refine W.rL ?_
    refine cL rfl (o_move (v := .ptr _ _) rfl ?_)
    refine cL rfl (o_move (v := .int _ _) rfl ?_)
    refine cL rfl (o_move (v := .int _ _) rfl ?_)
    refine cL rfl (o_nil rfl ?_)
    obtain ⟨s12, hv⟩ := hv
    refine cL rfl (o_iaA tt82 tt73 rfl rfl s12 (Nat.zero_add _) ?_)
    obtain ⟨s13, hv⟩ := hv
    refine cL rfl (o_iaA tt73 tt3 rfl rfl s13 (by rw [Nat.mul_one]) ?_)
    obtain ⟨s14, hv⟩ := hv
    refine cL rfl (o_ldS tt3 rfl rfl (ca_vec rfl s14) ?_)
    refine cL rfl (o_move (v := .int _ _) rfl ?_)
    refine cL rfl (o_leq rfl rfl ?_)
    refine eL ?_
    refine W.tr [(0, .ptr _ _), (1, .int _ _), (2, .int _ _), (3, .int _ _), (30, .bool _)] [.box _ _] ⟨rfl, rfl, rfl, rfl, rfl, trivial⟩ rfl ?_
    refine W.cn rfl (fun hc => ?_) (fun hc => ?_)
    · have hv := hv.1 hc
      refine W.rL ?_
      refine cL rfl (o_assign (v := .bool _) rfl ?_)
      refine eL ?_
      refine W.tr [(8, .bool _)] [.box _ _] ⟨rfl, trivial⟩ rfl ?_
      refine W.ret ?_
      refine th_ret (rt ?_)
      refine rt_t (v := .bool _) rfl ?_
      refine rt_n ?_
      exact ⟨_, m, true, rfl, rfl, hv⟩
    · have hv := hv.2 hc
      refine W.skip ?_
      refine th_nrm ?_
      refine W.tr [(0, .ptr _ _), (1, .int _ _), (2, .int _ _), (3, .int _ _)] [.box _ _] ⟨rfl, rfl, rfl, rfl, trivial⟩ rfl ?_
      refine W.rL ?_
      refine cL rfl (o_move (v := .ptr _ _) rfl ?_)
      refine cL rfl (o_nil rfl ?_)
      refine cL rfl (o_ldA tt82 rfl rfl (ca_all rfl) (ints_len _) ?_)
      refine cL rfl (o_alloc (p := 1) tt82 rfl (ints_zero 576) ?_)
      refine cLn (o_stB (v := .agg _) tt82 rfl rfl rfl (ints_len _) rfl (vec_in (ints_len _) (ints_len _)) (spl_all _ _ ((ints_len _).trans (ints_len _).symm)) ?_)
      refine eL ?_
      refine W.tr [(0, .ptr _ _), (1, .int _ _), (2, .int _ _), (3, .int _ _), (9, .ptr _ _)] [.box _ _, .box _ _] ⟨rfl, rfl, rfl, rfl, rfl, trivial⟩ rfl ?_
      refine W.seq' ?_
      refine W.rL ?_
      refine cL rfl (o_move (v := .int _ _) rfl ?_)
      refine eL ?_
      refine W.tr [(0, .ptr _ _), (1, .int _ _), (2, .int _ _), (3, .int _ _), (9, .ptr _ _), (34, .int _ _)] [.box _ _, .box _ _] ⟨rfl, rfl, rfl, rfl, rfl, rfl, trivial⟩ rfl ?_
      refine W.block ?_
      obtain ⟨I1, μ1, hp, hv⟩ := hv
      refine W.loop2 (fun v34 m0 => ⟨75, look [(0, .ptr 0 0), (1, .int .i64 f), (2, .int .i64 t), (3, .int .i64 w), (9, .ptr 1 0), (34, .int .i64 v34)], [.box 82 (encL eInt m0.toList), .box 82 (encL eInt m.toList)], true⟩) I1 μ1 (0 : Int) m (St.to_mk (φ := [some 0, some 1]) rfl (.inr (.inr rfl)) ⟨Ren.ptr rfl, Ren.int _ _, Ren.int _ _, Ren.int _ _, Ren.ptr rfl, Ren.int _ _, trivial⟩ ⟨.inr ⟨_, rfl, rfl, Rens.enc encInt true _⟩, .inr ⟨_, rfl, rfl, Rens.enc encInt true _⟩, trivial⟩) hp ?_
      clear hp
      intro v34 m0 hI
      replace hv := hv v34 m0 hI
      clear hI
      refine W.rL ?_
      refine cL rfl (o_lss rfl rfl ?_)
      refine eL ?_
      refine W.tr [(0, .ptr _ _), (1, .int _ _), (2, .int _ _), (3, .int _ _), (9, .ptr _ _), (34, .int _ _), (35, .bool _)] [.box _ _, .box _ _] ⟨rfl, rfl, rfl, rfl, rfl, rfl, rfl, trivial⟩ rfl ?_
      refine W.seq' ?_
      refine W.cn rfl (fun hc => ?_) (fun hc => ?_)
      · have hv := hv.1 hc
        refine W.skip ?_
        refine th_nrm ?_
        refine W.tr [(0, .ptr _ _), (1, .int _ _), (2, .int _ _), (3, .int _ _), (9, .ptr _ _), (34, .int _ _)] [.box _ _, .box _ _] ⟨rfl, rfl, rfl, rfl, rfl, rfl, trivial⟩ rfl ?_
        obtain ⟨J2, hj, hv⟩ := hv
        refine W.mid1 (fun b0 => ⟨75, look [(0, .ptr 0 0), (1, .int .i64 f), (2, .int .i64 t), (3, .int .i64 w), (9, .ptr 1 0), (34, .int .i64 v34)], [.box 82 (encL eInt b0.toList), .box 82 (encL eInt m.toList)], true⟩) J2 ?_ ?_
        · intro b0
          intro hv
          replace hv := hj b0 hv
          refine W.rL1 ?_
          obtain ⟨s1043, hv⟩ := hv
          refine cL rfl (o_add rfl rfl s1043 ?_)
          refine cL rfl (o_move (v := .int _ _) rfl ?_)
          refine eL ?_
          exact th_nrm (⟨(), (v34 + (1 : Int)), b0, hv, St.to_mk (φ := [some 0, some 1]) rfl (.inr (.inr rfl)) ⟨Ren.ptr rfl, Ren.int _ _, Ren.int _ _, Ren.int _ _, Ren.ptr rfl, Ren.int _ _, trivial⟩ ⟨.inr ⟨_, rfl, rfl, Rens.enc encInt true _⟩, .inr ⟨_, rfl, rfl, Rens.enc encInt true _⟩, trivial⟩⟩)
        · clear hj
          refine W.block ?_
          refine W.rL ?_
          refine cL rfl (o_move (v := .int _ _) rfl ?_)
          refine cL rfl (o_assign (v := .int _ _) rfl ?_)
          refine eL ?_
          refine W.tr [(0, .ptr _ _), (1, .int _ _), (2, .int _ _), (3, .int _ _), (9, .ptr _ _), (10, .int _ _), (34, .int _ _)] [.box _ _, .box _ _] ⟨rfl, rfl, rfl, rfl, rfl, rfl, rfl, trivial⟩ rfl ?_
          refine W.seq' ?_
          refine W.rL ?_
          refine cL rfl (o_move (v := .int _ _) rfl ?_)
          refine cL rfl (o_move (v := .int _ _) rfl ?_)
          obtain ⟨s1047, hv⟩ := hv
          refine cL rfl (o_iaA tt82 tt73 rfl rfl s1047 (Nat.zero_add _) ?_)
          obtain ⟨s1048, hv⟩ := hv
          refine cL rfl (o_iaA tt73 tt3 rfl rfl s1048 (by rw [Nat.mul_one]) ?_)
          obtain ⟨s1049, hv⟩ := hv
          refine cL rfl (o_ldS tt3 rfl rfl (ca_vec rfl s1049) ?_)
          refine cL rfl (o_eqI rfl rfl rfl ?_)
          refine eL ?_
          refine W.tr [(0, .ptr _ _), (1, .int _ _), (2, .int _ _), (3, .int _ _), (9, .ptr _ _), (10, .int _ _), (34, .int _ _), (42, .bool _)] [.box _ _, .box _ _] ⟨rfl, rfl, rfl, rfl, rfl, rfl, rfl, rfl, trivial⟩ rfl ?_
          refine W.cn rfl (fun hc => ?_) (fun hc => ?_)
          · have hv := hv.1 hc
            refine W.exit ?_
            exact th_exit (bl_hit (th_nrm (⟨(), m0, hv, St.to_mk (φ := [some 0, some 1]) rfl (.inr (.inr rfl)) ⟨Ren.ptr rfl, Ren.int _ _, Ren.int _ _, Ren.int _ _, Ren.ptr rfl, Ren.int _ _, trivial⟩ ⟨.inr ⟨_, rfl, rfl, Rens.enc encInt true _⟩, .inr ⟨_, rfl, rfl, Rens.enc encInt true _⟩, trivial⟩⟩)))
          · have hv := hv.2 hc
            refine W.skip ?_
            refine th_nrm ?_
            refine W.tr [(0, .ptr _ _), (1, .int _ _), (2, .int _ _), (3, .int _ _), (9, .ptr _ _), (10, .int _ _), (34, .int _ _)] [.box _ _, .box _ _] ⟨rfl, rfl, rfl, rfl, rfl, rfl, rfl, trivial⟩ rfl ?_
            refine W.rL ?_
            refine cL rfl (o_move (v := .int _ _) rfl ?_)
            refine eL ?_
            refine W.tr [(0, .ptr _ _), (1, .int _ _), (2, .int _ _), (3, .int _ _), (9, .ptr _ _), (10, .int _ _), (34, .int _ _), (43, .int _ _)] [.box _ _, .box _ _] ⟨rfl, rfl, rfl, rfl, rfl, rfl, rfl, rfl, trivial⟩ rfl ?_
            refine W.block ?_
            obtain ⟨I3, μ3, hp, hv⟩ := hv
            refine W.loop2 (fun v43 m0_1 => ⟨75, look [(0, .ptr 0 0), (1, .int .i64 f), (2, .int .i64 t), (3, .int .i64 w), (9, .ptr 1 0), (10, .int .i64 v34), (34, .int .i64 v34), (43, .int .i64 v43)], [.box 82 (encL eInt m0_1.toList), .box 82 (encL eInt m.toList)], true⟩) I3 μ3 (0 : Int) m0 (St.to_mk (φ := [some 0, some 1]) rfl (.inr (.inr rfl)) ⟨Ren.ptr rfl, Ren.int _ _, Ren.int _ _, Ren.int _ _, Ren.ptr rfl, Ren.int _ _, Ren.int _ _, Ren.int _ _, trivial⟩ ⟨.inr ⟨_, rfl, rfl, Rens.enc encInt true _⟩, .inr ⟨_, rfl, rfl, Rens.enc encInt true _⟩, trivial⟩) hp ?_
            clear hp
            intro v43 m0_1 hI
            replace hv := hv v43 m0_1 hI
            clear hI
            refine W.rL ?_
            refine cL rfl (o_lss rfl rfl ?_)
            refine eL ?_
            refine W.tr [(0, .ptr _ _), (1, .int _ _), (2, .int _ _), (3, .int _ _), (9, .ptr _ _), (10, .int _ _), (34, .int _ _), (43, .int _ _), (44, .bool _)] [.box _ _, .box _ _] ⟨rfl, rfl, rfl, rfl, rfl, rfl, rfl, rfl, rfl, trivial⟩ rfl ?_
            refine W.seq' ?_
            refine W.cn rfl (fun hc => ?_) (fun hc => ?_)
            · have hv := hv.1 hc
              refine W.skip ?_
              refine th_nrm ?_
              refine W.tr [(0, .ptr _ _), (1, .int _ _), (2, .int _ _), (3, .int _ _), (9, .ptr _ _), (10, .int _ _), (34, .int _ _), (43, .int _ _)] [.box _ _, .box _ _] ⟨rfl, rfl, rfl, rfl, rfl, rfl, rfl, rfl, trivial⟩ rfl ?_
              refine W.seq' ?_
              refine W.block ?_
              refine W.rL ?_
              refine cL rfl (o_move (v := .int _ _) rfl ?_)
              refine cL rfl (o_assign (v := .int _ _) rfl ?_)
              refine eL ?_
              refine W.tr [(0, .ptr _ _), (1, .int _ _), (2, .int _ _), (3, .int _ _), (9, .ptr _ _), (10, .int _ _), (11, .int _ _), (34, .int _ _), (43, .int _ _)] [.box _ _, .box _ _] ⟨rfl, rfl, rfl, rfl, rfl, rfl, rfl, rfl, rfl, trivial⟩ rfl ?_
              refine W.rP1 [0, 1, 2, 3, 4, 5, 6, 7, 8, 9, 10, 11, 12, 13, 14, 15, 16, 17, 18, 19, 20, 21, 24, 25, 22, 23, 26, 27] (by decide +kernel) rfl ?_
              refine cL rfl (o_move (v := .ptr _ _) rfl ?_)
              refine cL rfl (o_move (v := .int _ _) rfl ?_)
              refine cL rfl (o_move (v := .int _ _) rfl ?_)
              refine cL rfl (o_move (v := .ptr _ _) rfl ?_)
              refine cL rfl (o_move (v := .int _ _) rfl ?_)
              refine cL rfl (o_move (v := .int _ _) rfl ?_)
              refine cL rfl (o_nil rfl ?_)
              obtain ⟨s1122, hv⟩ := hv
              refine cL rfl (o_iaA tt82 tt73 rfl rfl s1122 (Nat.zero_add _) ?_)
              obtain ⟨s1123, hv⟩ := hv
              refine cL rfl (o_iaA tt73 tt3 rfl rfl s1123 (by rw [Nat.mul_one]) ?_)
              obtain ⟨s1124, hv⟩ := hv
              refine cL rfl (o_ldS tt3 rfl rfl (ca_vec rfl s1124) ?_)
              refine cL rfl (o_move (v := .int _ _) rfl ?_)
              refine cL rfl (o_move (v := .int _ _) rfl ?_)
              obtain ⟨s1125, hv⟩ := hv
              refine cL rfl (o_iaA tt82 tt73 rfl rfl s1125 (Nat.zero_add _) ?_)
              obtain ⟨s1126, hv⟩ := hv
              refine cL rfl (o_iaA tt73 tt3 rfl rfl s1126 (by rw [Nat.mul_one]) ?_)
              obtain ⟨s1127, hv⟩ := hv
              refine cL rfl (o_ldS tt3 rfl rfl (ca_vec rfl s1127) ?_)
              refine cL rfl (o_move (v := .int _ _) rfl ?_)
              obtain ⟨s1128, hv⟩ := hv
              refine cL rfl (o_add rfl rfl s1128 ?_)
              refine cL rfl (o_move (v := .int _ _) rfl ?_)
              refine cL rfl (o_move (v := .int _ _) rfl ?_)
              obtain ⟨s1129, hv⟩ := hv
              refine cL rfl (o_iaA tt82 tt73 rfl rfl s1129 (Nat.zero_add _) ?_)
              obtain ⟨s1130, hv⟩ := hv
              refine cL rfl (o_iaA tt73 tt3 rfl rfl s1130 (by rw [Nat.mul_one]) ?_)
              obtain ⟨s1131, hv⟩ := hv
              refine cL rfl (o_ldS tt3 rfl rfl (ca_vec rfl s1131) ?_)
              refine cL rfl (o_nil rfl ?_)
              obtain ⟨s1132, hv⟩ := hv
              refine cL rfl (o_iaA tt82 tt73 rfl rfl s1132 (Nat.zero_add _) ?_)
              obtain ⟨s1133, hv⟩ := hv
              refine cL rfl (o_callP1 (k := 47) (fst := []) (caps := []) (ys := [.int _ _, .int _ _]) rfl rfl (spec_plus ((vat m (v34.toNat * 24 + f.toNat)) + w) (vat m (t.toNat * 24 + v43.toNat)) s1133) (Wks.cons (ag_int _ _ _ _) (Wks.cons (ag_int _ _ _ _) (Wks.refl _))) ?_)
              refine cL rfl (o_min rfl rfl ?_)
              obtain ⟨s1134, hv⟩ := hv
              refine cL rfl (o_iaA tt73 tt3 rfl rfl s1134 (by rw [Nat.mul_one]) ?_)
              obtain ⟨s1135, hv⟩ := hv
              refine cLn (o_stB (v := .int _ _) tt3 rfl rfl rfl rfl rfl (by rw [ints_len]; exact s1135) (ints_set _ _ _) ?_)
              refine eL ?_
              refine bl_nrm (th_nrm ?_)
              refine W.tr [(0, .ptr _ _), (1, .int _ _), (2, .int _ _), (3, .int _ _), (9, .ptr _ _), (10, .int _ _), (34, .int _ _), (43, .int _ _)] [.box _ _, .box _ _] ⟨rfl, rfl, rfl, rfl, rfl, rfl, rfl, rfl, trivial⟩ rfl ?_
              refine W.rL1 ?_
              obtain ⟨s1136, hv⟩ := hv
              refine cL rfl (o_add rfl rfl s1136 ?_)
              refine cL rfl (o_move (v := .int _ _) rfl ?_)
              refine eL ?_
              exact th_nrm (⟨(), (v43 + (1 : Int)), (vset m0_1 (v34.toNat * 24 + v43.toNat) (min (vat m0_1 (v34.toNat * 24 + v43.toNat)) (plusM ((vat m (v34.toNat * 24 + f.toNat)) + w) (vat m (t.toNat * 24 + v43.toNat))))), hv, St.to_mk (φ := [some 0, some 1]) rfl (.inr (.inr rfl)) ⟨Ren.ptr rfl, Ren.int _ _, Ren.int _ _, Ren.int _ _, Ren.ptr rfl, Ren.int _ _, Ren.int _ _, Ren.int _ _, trivial⟩ ⟨.inr ⟨_, rfl, rfl, Rens.enc encInt true _⟩, .inr ⟨_, rfl, rfl, Rens.enc encInt true _⟩, trivial⟩⟩)
            · have hv := hv.2 hc
              refine W.exit ?_
              exact th_exit (th_exit (bl_hit (bl_nrm (th_nrm (⟨(), m0_1, hv, St.to_mk (φ := [some 0, some 1]) rfl (.inr (.inr rfl)) ⟨Ren.ptr rfl, Ren.int _ _, Ren.int _ _, Ren.int _ _, Ren.ptr rfl, Ren.int _ _, trivial⟩ ⟨.inr ⟨_, rfl, rfl, Rens.enc encInt true _⟩, .inr ⟨_, rfl, rfl, Rens.enc encInt true _⟩, trivial⟩⟩)))))
      · have hv := hv.2 hc
        refine W.exit ?_
        refine th_exit (th_exit (bl_hit (th_nrm ?_)))
        refine W.tr [] [.box _ _, .box _ _] trivial rfl ?_
        refine W.rL ?_
        refine cL rfl (o_assign (v := .bool _) rfl ?_)
        refine eL ?_
        refine W.tr [(8, .bool _)] [.box _ _, .box _ _] ⟨rfl, trivial⟩ rfl ?_
        refine W.ret ?_
        refine rt ?_
        refine rt_t (v := .bool _) rfl ?_
        refine rt_n ?_
        exact ⟨_, m0, true, rfl, rfl, hv⟩
theorem vcp_add (m : (Vector Int 576)) (f : Int) (t : Int) (w : Int) (h0 : AddOk m f t w) : vc_add m f t w (fun q0 q1 => q0 = (addM m f t w).2 ∧ q1 = (addM m f t w).1) := by
  unfold vc_add
  obtain ⟨hf, ht, hw, hm⟩ := h0
  obtain ⟨f, rfl⟩ : ∃ k : Nat, f = k := ⟨f.toNat, by omega⟩
  obtain ⟨t, rfl⟩ : ∃ k : Nat, t = k := ⟨t.toNat, by omega⟩
  simp only [Int.toNat_natCast]
  refine ⟨by omega, by omega, by omega, fun _ _ => by have := hm (t * 24 + f); unfold inI; omega, fun h1 => ?_, fun h1 => ⟨by omega, by omega, by omega, fun h2 => ?_, fun h2 => ?_⟩⟩
  · rw [addM_neg h1]; exact ⟨rfl, rfl⟩
  · rw [addM_le h1 h2]; exact ⟨rfl, rfl⟩
  have ha : addM m f t w = (true, relaxM m f t w) := addM_relax h1 h2
  rw [ha]
  refine ⟨fun v b => ∃ i : Nat, v = i ∧ i ≤ 24 ∧ ∀ k, k < 576 → vat b k = if k / 24 < i then vat (relaxM m f t w) k else vat m k, fun v _ => 24 - v.toNat, ⟨0, rfl, by omega, fun k hk => by simp⟩, ?_⟩
  rintro _ m0 ⟨i, rfl, hi, h3⟩
  refine ⟨fun h4 => ⟨fun b => ∀ k, k < 576 → vat b k = if k / 24 < i + 1 then vat (relaxM m f t w) k else vat m k, fun b hb => ⟨by unfold inI; omega, ⟨i + 1, by omega, by omega, hb⟩, by dsimp only; omega⟩, by omega, by omega, by simp only [Int.toNat_natCast]; omega, fun h5 => ?_, fun h5 => ?_⟩, fun h4 => ⟨vec_ext fun k hk => ?_, rfl⟩⟩
  · intro k hk
    rw [h3 k hk]
    by_cases e : k / 24 = i
    · rw [if_neg (by omega), if_pos (by omega), vat_relax hk, e, if_pos (by simpa using h5)]
    · split <;> split <;> omega
  · simp only [Int.toNat_natCast] at h5 ⊢
    refine ⟨fun v b => ∃ j : Nat, v = j ∧ j ≤ 24 ∧ ∀ k, k < 576 → vat b k = if k / 24 < i ∨ k / 24 = i ∧ k % 24 < j then vat (relaxM m f t w) k else vat m k, fun v _ => 24 - v.toNat, ⟨0, rfl, by omega, fun k hk => ?_⟩, ?_⟩
    · rw [h3 k hk]; split <;> split <;> omega
    rintro _ m1 ⟨j, rfl, hj, h6⟩
    simp only [Int.toNat_natCast]
    have m1' := hm (i * 24 + f)
    have m2' := hm (t * 24 + j)
    refine ⟨fun h7 => ⟨by omega, by omega, by omega, by omega, by omega, by omega, by unfold inI; omega, by omega, by omega, by omega, by omega, fun _ _ => by unfold inI; omega, by omega, by omega, by unfold inI; omega, ⟨j + 1, by omega, by omega, ?_⟩, by omega⟩, fun h7 => ?_⟩
    · intro k hk
      rw [vat_vset (by omega)]
      by_cases e : k = i * 24 + j
      · subst e
        have e1 : (i * 24 + j) / 24 = i := by omega
        have e2 : (i * 24 + j) % 24 = j := by omega
        rw [if_pos rfl, h6 _ hk, vat_relax hk, e1, e2, if_neg (by omega), if_pos (by omega), if_neg h5]
      · rw [if_neg e, h6 k hk]
        split <;> split <;> omega
    · intro k hk
      rw [h6 k hk]
      split <;> split <;> omega
  · rw [h3 k hk, if_pos (by omega)]
theorem spec_add (m : (Vector Int 576)) (f : Int) (t : Int) (w : Int) (h0 : AddOk m f t w) : FnH Try.prog 37 [.box 82 (encL eInt m.toList)] [.ptr 0 0, .int .i64 f, .int .i64 t, .int .i64 w] (fun xR H => ∃ l, H = .box 82 (encL eInt ((addM m f t w).2).toList) :: l ∧ xR = .bool (addM m f t w).1) :=
  (walk_add (vcp_add m f t w h0)).mono (by rintro _ _ ⟨l, _, _, h1, h2, rfl, rfl⟩; exact ⟨l, h1, h2⟩)
end Go.Lat
namespace Go.Lat
open Go.RowKit Go.Proofs
attribute [local irreducible] closeM rangeM pointM addBM cycleM holdsM validBM sameM madeM pickM plusM validM possM firstM tableM longerM boundsM ofM addM freeM
/-- What the walk through bounds.walks).longer asks. -/
def vc_longer (w : Wlk) (d : (Vector Int 24)) (above : Int) (Post : (Vector Int 24) → Prop) : Prop :=
  ∃ (I1 : Int → (Vector Int 24) → Prop) (μ1 : Int → (Vector Int 24) → Nat), I1 (0 : Int) (Vector.replicate 24 0) ∧ ∀ (v11 : Int) (m3 : (Vector Int 24)), I1 v11 m3 → ((v11 < (24 : Int)) → (0 ≤ v11 ∧ v11 < ((24 : Nat) : Int)) ∧ (v11.toNat < 24) ∧ (inI (v11 + (1 : Int))) ∧ (I1 (v11 + (1 : Int)) (vset m3 v11.toNat (1152921504606846976 : Int)) ∧ μ1 (v11 + (1 : Int)) (vset m3 v11.toNat (1152921504606846976 : Int)) < μ1 v11 m3)) ∧ (¬ (v11 < (24 : Int)) → (inI (above + (1 : Int))) ∧ (0 ≤ (above + (1 : Int)) ∧ (above + (1 : Int)) ≤ (w.l.length : Int) ∧ (w.l.length : Int) ≤ (w.l.length : Int)) ∧ ∃ (I2 : Int → (Vector Int 24) → Prop) (μ2 : Int → (Vector Int 24) → Nat), I2 (0 : Int) m3 ∧ ∀ (v23 : Int) (m3_1 : (Vector Int 24)), I2 v23 m3_1 → ((v23 < (((w.l.drop (above + (1 : Int)).toNat).length : Nat) : Int)) → (0 ≤ v23 ∧ v23 < ((w.l.drop (above + (1 : Int)).toNat).length : Int)) ∧ (0 ≤ ((lat (w.l.drop (above + (1 : Int)).toNat) v23).f) ∧ ((lat (w.l.drop (above + (1 : Int)).toNat) v23).f) < ((24 : Nat) : Int)) ∧ (((lat (w.l.drop (above + (1 : Int)).toNat) v23).f).toNat < 24) ∧ (0 ≤ ((lat (w.l.drop (above + (1 : Int)).toNat) v23).t) ∧ ((lat (w.l.drop (above + (1 : Int)).toNat) v23).t) < ((24 : Nat) : Int)) ∧ (((lat (w.l.drop (above + (1 : Int)).toNat) v23).t).toNat < 24) ∧ (¬ ((lat (w.l.drop (above + (1 : Int)).toNat) v23).m) = NB → ¬ (vat d (((lat (w.l.drop (above + (1 : Int)).toNat) v23).t).toNat)) = NB → inI (((lat (w.l.drop (above + (1 : Int)).toNat) v23).m) + (vat d (((lat (w.l.drop (above + (1 : Int)).toNat) v23).t).toNat)))) ∧ (0 ≤ ((lat (w.l.drop (above + (1 : Int)).toNat) v23).f) ∧ ((lat (w.l.drop (above + (1 : Int)).toNat) v23).f) < ((24 : Nat) : Int)) ∧ (((lat (w.l.drop (above + (1 : Int)).toNat) v23).f).toNat < 24) ∧ (inI (v23 + (1 : Int))) ∧ (I2 (v23 + (1 : Int)) (vset m3_1 (((lat (w.l.drop (above + (1 : Int)).toNat) v23).f).toNat) (min (vat m3_1 (((lat (w.l.drop (above + (1 : Int)).toNat) v23).f).toNat)) (plusM ((lat (w.l.drop (above + (1 : Int)).toNat) v23).m) (vat d (((lat (w.l.drop (above + (1 : Int)).toNat) v23).t).toNat))))) ∧ μ2 (v23 + (1 : Int)) (vset m3_1 (((lat (w.l.drop (above + (1 : Int)).toNat) v23).f).toNat) (min (vat m3_1 (((lat (w.l.drop (above + (1 : Int)).toNat) v23).f).toNat)) (plusM ((lat (w.l.drop (above + (1 : Int)).toNat) v23).m) (vat d (((lat (w.l.drop (above + (1 : Int)).toNat) v23).t).toNat))))) < μ2 v23 m3_1)) ∧ (¬ (v23 < (((w.l.drop (above + (1 : Int)).toNat).length : Nat) : Int)) → Post m3_1))
set_option maxRecDepth 100000 in
set_option maxHeartbeats 4000000 in
theorem walk_longer {w : Wlk} {d : (Vector Int 24)} {above : Int} {Post : (Vector Int 24) → Prop} (hv : vc_longer w d above Post) : FnP Try.prog 61 [.agg ((e65 true) w), .agg (eV24 d), .int .i64 above] (fun x => ∃ q0, x = .agg (eV24 q0) ∧ Post q0) := by
  refine FnP.of_walk (T := tt) (nt := 44) ttOk ttMix ⟨⟨Try.f61, Try.func61, rfl, rfl, rfl, rfl⟩⟩ (by simp) ?_
  unfold vc_longer at hv
  change W _ _ _ ⟨44, look [(0, .agg [.int .i64 w.n, .lst true w.l.length (encL e25 w.l)]), (1, .agg (encL eInt d.toList)), (2, .int .i64 above)], [], false⟩ _
  refine W.tr [(0, .agg _), (1, .agg _), (2, .int _ _)] [] ⟨rfl, rfl, rfl, trivial⟩ rfl ?_
  refine W.rL ?_
  refine cL rfl (o_box (v := .agg _) (p := 0) rfl rfl rfl ?_)
  refine cL rfl (o_box (v := .agg _) (p := 1) rfl rfl rfl ?_)
  refine cL rfl (o_alloc (p := 2) tt73 rfl (ints_zero 24) ?_)
  refine eL ?_
  refine W.tr [(2, .int _ _), (3, .ptr _ _), (4, .ptr _ _), (6, .ptr _ _)] [.box _ [.int _ _, .lst _ _ _], .box _ _, .box _ _] ⟨rfl, rfl, rfl, rfl, trivial⟩ rfl ?_
  refine W.rL ?_
  refine cL rfl (o_alloc (p := 3) tt73 rfl (ints_zero 24) ?_)
  refine eL ?_
  refine W.tr [(2, .int _ _), (3, .ptr _ _), (4, .ptr _ _), (6, .ptr _ _), (7, .ptr _ _)] [.box _ [.int _ _, .lst _ _ _], .box _ _, .box _ _, .box _ _] ⟨rfl, rfl, rfl, rfl, rfl, trivial⟩ rfl ?_
  refine W.seq' ?_
  refine W.rL ?_
  refine cL rfl (o_move (v := .int _ _) rfl ?_)
  refine eL ?_
  refine W.tr [(2, .int _ _), (3, .ptr _ _), (4, .ptr _ _), (6, .ptr _ _), (7, .ptr _ _), (11, .int _ _)] [.box _ [.int _ _, .lst _ _ _], .box _ _, .box _ _, .box _ _] ⟨rfl, rfl, rfl, rfl, rfl, rfl, trivial⟩ rfl ?_
  refine W.block ?_
  obtain ⟨I1, μ1, hp, hv⟩ := hv
  refine W.loop2 (fun v11 m3 => ⟨44, look [(2, .int .i64 above), (3, .ptr 0 0), (4, .ptr 1 0), (6, .ptr 2 0), (7, .ptr 3 0), (11, .int .i64 v11)], [.box 65 [.int .i64 w.n, .lst true w.l.length (encL e25 w.l)], .box 73 (encL eInt d.toList), .box 73 (encL eInt (Vector.replicate 24 0).toList), .box 73 (encL eInt m3.toList)], false⟩) I1 μ1 (0 : Int) (Vector.replicate 24 0) (St.to_mk (φ := [some 0, some 1, some 2, some 3]) rfl (.inl rfl) ⟨Ren.int _ _, Ren.ptr rfl, Ren.ptr rfl, Ren.ptr rfl, Ren.ptr rfl, Ren.int _ _, trivial⟩ ⟨.inr ⟨_, rfl, rfl, Rens.cons (Ren.int _ _) (Rens.cons (Ren.lst _ _ _) (Rens.nil))⟩, .inr ⟨_, rfl, rfl, Rens.enc encInt true _⟩, .inr ⟨_, rfl, rfl, Rens.enc encInt true _⟩, .inr ⟨_, rfl, rfl, Rens.enc encInt true _⟩, trivial⟩) hp ?_
  clear hp
  intro v11 m3 hI
  replace hv := hv v11 m3 hI
  clear hI
  refine W.rL ?_
  refine cL rfl (o_lss rfl rfl ?_)
  refine eL ?_
  refine W.tr [(2, .int _ _), (3, .ptr _ _), (4, .ptr _ _), (6, .ptr _ _), (7, .ptr _ _), (11, .int _ _), (12, .bool _)] [.box _ [.int _ _, .lst _ _ _], .box _ _, .box _ _, .box _ _] ⟨rfl, rfl, rfl, rfl, rfl, rfl, rfl, trivial⟩ rfl ?_
  refine W.seq' ?_
  refine W.cn rfl (fun hc => ?_) (fun hc => ?_)
  · have hv := hv.1 hc
    refine W.skip ?_
    refine th_nrm ?_
    refine W.tr [(2, .int _ _), (3, .ptr _ _), (4, .ptr _ _), (6, .ptr _ _), (7, .ptr _ _), (11, .int _ _)] [.box _ [.int _ _, .lst _ _ _], .box _ _, .box _ _, .box _ _] ⟨rfl, rfl, rfl, rfl, rfl, rfl, trivial⟩ rfl ?_
    refine W.seq' ?_
    refine W.block ?_
    refine W.rL ?_
    refine cL rfl (o_move (v := .int _ _) rfl ?_)
    refine cL rfl (o_assign (v := .int _ _) rfl ?_)
    refine eL ?_
    refine W.tr [(2, .int _ _), (3, .ptr _ _), (4, .ptr _ _), (6, .ptr _ _), (7, .ptr _ _), (8, .int _ _), (11, .int _ _)] [.box _ [.int _ _, .lst _ _ _], .box _ _, .box _ _, .box _ _] ⟨rfl, rfl, rfl, rfl, rfl, rfl, rfl, trivial⟩ rfl ?_
    refine W.rL1 ?_
    refine cL rfl (o_move (v := .int _ _) rfl ?_)
    obtain ⟨s28, hv⟩ := hv
    refine cL rfl (o_iaA tt73 tt3 rfl rfl s28 (by rw [Nat.mul_one, Nat.zero_add]) ?_)
    obtain ⟨s29, hv⟩ := hv
    refine cLn (o_stB (v := .int _ _) tt3 rfl rfl rfl rfl rfl (by rw [ints_len]; exact s29) (ints_set _ _ _) ?_)
    refine eL ?_
    refine bl_nrm (th_nrm ?_)
    refine W.tr [(2, .int _ _), (3, .ptr _ _), (4, .ptr _ _), (6, .ptr _ _), (7, .ptr _ _), (11, .int _ _)] [.box _ [.int _ _, .lst _ _ _], .box _ _, .box _ _, .box _ _] ⟨rfl, rfl, rfl, rfl, rfl, rfl, trivial⟩ rfl ?_
    refine W.rL1 ?_
    obtain ⟨s30, hv⟩ := hv
    refine cL rfl (o_add rfl rfl s30 ?_)
    refine cL rfl (o_move (v := .int _ _) rfl ?_)
    refine eL ?_
    exact th_nrm (⟨(), (v11 + (1 : Int)), (vset m3 v11.toNat (1152921504606846976 : Int)), hv, St.to_mk (φ := [some 0, some 1, some 2, some 3]) rfl (.inl rfl) ⟨Ren.int _ _, Ren.ptr rfl, Ren.ptr rfl, Ren.ptr rfl, Ren.ptr rfl, Ren.int _ _, trivial⟩ ⟨.inr ⟨_, rfl, rfl, Rens.cons (Ren.int _ _) (Rens.cons (Ren.lst _ _ _) (Rens.nil))⟩, .inr ⟨_, rfl, rfl, Rens.enc encInt true _⟩, .inr ⟨_, rfl, rfl, Rens.enc encInt true _⟩, .inr ⟨_, rfl, rfl, Rens.enc encInt true _⟩, trivial⟩⟩)
  · have hv := hv.2 hc
    refine W.exit ?_
    refine th_exit (th_exit (bl_hit (th_nrm ?_)))
    refine W.tr [(2, .int _ _), (3, .ptr _ _), (4, .ptr _ _), (6, .ptr _ _), (7, .ptr _ _)] [.box _ [.int _ _, .lst _ _ _], .box _ _, .box _ _, .box _ _] ⟨rfl, rfl, rfl, rfl, rfl, trivial⟩ rfl ?_
    refine W.seq' ?_
    refine W.rL ?_
    refine cL rfl (o_fa tt65 rfl tt22 rfl ?_)
    refine cL rfl (o_ldS (v := .lst _ _ _) tt22 rfl rfl ⟨_, rfl⟩ ?_)
    refine cL rfl (o_move (v := .int _ _) rfl ?_)
    obtain ⟨s84, hv⟩ := hv
    refine cL rfl (o_add rfl rfl s84 ?_)
    obtain ⟨s85, hv⟩ := hv
    refine cL rfl (o_slL tt22 tt25 rfl (enc25.wd true) rfl rfl rfl s85 (ys := w.l.drop (above + (1 : Int)).toNat) (sl_end _ _) ?_)
    refine cL rfl (o_len (v := .lst _ _ _) tt22 rfl rfl ?_)
    refine cL rfl (o_move (v := .int _ _) rfl ?_)
    refine eL ?_
    refine W.tr [(4, .ptr _ _), (6, .ptr _ _), (7, .ptr _ _), (21, .lst _ _ _), (22, .int _ _), (23, .int _ _)] [.box _ [.int _ _, .lst _ _ _], .box _ _, .box _ _, .box _ _] ⟨rfl, rfl, rfl, rfl, rfl, rfl, trivial⟩ rfl ?_
    refine W.block ?_
    obtain ⟨I2, μ2, hp, hv⟩ := hv
    refine W.loop2 (fun v23 m3_1 => ⟨44, look [(4, .ptr 1 0), (6, .ptr 2 0), (7, .ptr 3 0), (21, .lst true (w.l.drop (above + (1 : Int)).toNat).length (encL e25 (w.l.drop (above + (1 : Int)).toNat))), (22, .int .i64 (((w.l.drop (above + (1 : Int)).toNat).length : Nat) : Int)), (23, .int .i64 v23)], [.dead, .box 73 (encL eInt d.toList), .box 73 (encL eInt (Vector.replicate 24 0).toList), .box 73 (encL eInt m3_1.toList)], false⟩) I2 μ2 (0 : Int) m3 (St.to_mk (φ := [none, some 1, some 2, some 3]) rfl (.inl rfl) ⟨Ren.ptr rfl, Ren.ptr rfl, Ren.ptr rfl, Ren.lst _ _ _, Ren.int _ _, Ren.int _ _, trivial⟩ ⟨rfl, .inr ⟨_, rfl, rfl, Rens.enc encInt true _⟩, .inr ⟨_, rfl, rfl, Rens.enc encInt true _⟩, .inr ⟨_, rfl, rfl, Rens.enc encInt true _⟩, trivial⟩) hp ?_
    clear hp
    intro v23 m3_1 hI
    replace hv := hv v23 m3_1 hI
    clear hI
    refine W.rL ?_
    refine cL rfl (o_lss rfl rfl ?_)
    refine eL ?_
    refine W.tr [(4, .ptr _ _), (6, .ptr _ _), (7, .ptr _ _), (21, .lst _ _ _), (22, .int _ _), (23, .int _ _), (24, .bool _)] [.dead, .box _ _, .box _ _, .box _ _] ⟨rfl, rfl, rfl, rfl, rfl, rfl, rfl, trivial⟩ rfl ?_
    refine W.seq' ?_
    refine W.cn rfl (fun hc => ?_) (fun hc => ?_)
    · have hv := hv.1 hc
      refine W.skip ?_
      refine th_nrm ?_
      refine W.tr [(4, .ptr _ _), (6, .ptr _ _), (7, .ptr _ _), (21, .lst _ _ _), (22, .int _ _), (23, .int _ _)] [.dead, .box _ _, .box _ _, .box _ _] ⟨rfl, rfl, rfl, rfl, rfl, rfl, trivial⟩ rfl ?_
      refine W.seq' ?_
      refine W.block ?_
      refine W.rL ?_
      obtain ⟨s128, hv⟩ := hv
      refine cL rfl (o_iaL tt22 tt25 rfl rfl (enc25.wd true) rfl s128 ?_)
      intro rest128
      refine cL rfl (o_ldA (cs := [.int _ _, .int _ _, .int _ _, .int _ _]) tt25 rfl rfl ⟨_, rfl⟩ rfl ?_)
      refine cL rfl (o_alloc (p := 4) tt25 rfl rfl ?_)
      refine cLn (o_stB (v := .agg _) (vs := [.int _ _, .int _ _, .int _ _, .int _ _]) (cs2 := [.int _ _, .int _ _, .int _ _, .int _ _]) tt25 rfl rfl rfl rfl rfl (Nat.le_of_ble_eq_true rfl) rfl ?_)
      refine eL ?_
      refine W.tr [(4, .ptr _ _), (6, .ptr _ _), (7, .ptr _ _), (10, .ptr _ _), (21, .lst _ _ _), (22, .int _ _), (23, .int _ _)] [.dead, .box _ _, .box _ _, .box _ _, .box _ [.int _ _, .int _ _, .int _ _, .int _ _]] ⟨rfl, rfl, rfl, rfl, rfl, rfl, rfl, trivial⟩ rfl ?_
      refine W.rD1 [0, 1, 2, 3, 4, 5, 6, 7, 8, 9, 10, 11, 12, 13, 14, 15] (by decide +kernel) rfl ?_
      refine cL rfl (o_fa tt25 rfl tt3 rfl ?_)
      refine cL rfl (o_ldS (v := .int _ _) tt3 rfl rfl ⟨_, rfl⟩ ?_)
      refine cL rfl (o_fa tt25 rfl tt3 rfl ?_)
      refine cL rfl (o_ldS (v := .int _ _) tt3 rfl rfl ⟨_, rfl⟩ ?_)
      obtain ⟨s129, hv⟩ := hv
      refine cL rfl (o_iaA tt73 tt3 rfl rfl s129 (by rw [Nat.mul_one, Nat.zero_add]) ?_)
      obtain ⟨s130, hv⟩ := hv
      refine cL rfl (o_ldS tt3 rfl rfl (ca_vec rfl s130) ?_)
      refine cL rfl (o_fa tt25 rfl tt3 rfl ?_)
      refine cL rfl (o_ldS (v := .int _ _) tt3 rfl rfl ⟨_, rfl⟩ ?_)
      refine cL rfl (o_fa tt25 rfl tt3 rfl ?_)
      refine cL rfl (o_ldS (v := .int _ _) tt3 rfl rfl ⟨_, rfl⟩ ?_)
      obtain ⟨s131, hv⟩ := hv
      refine cL rfl (o_iaA tt73 tt3 rfl rfl s131 (by rw [Nat.mul_one, Nat.zero_add]) ?_)
      obtain ⟨s132, hv⟩ := hv
      refine cL rfl (o_ldS tt3 rfl rfl (ca_vec rfl s132) ?_)
      obtain ⟨s133, hv⟩ := hv
      refine cL rfl (o_callP1 (k := 47) (fst := []) (caps := []) (ys := [.int _ _, .int _ _]) rfl rfl (spec_plus ((lat (w.l.drop (above + (1 : Int)).toNat) v23).m) (vat d (((lat (w.l.drop (above + (1 : Int)).toNat) v23).t).toNat)) s133) (Wks.cons (ag_int _ _ _ _) (Wks.cons (ag_int _ _ _ _) (Wks.refl _))) ?_)
      refine cL rfl (o_min rfl rfl ?_)
      obtain ⟨s134, hv⟩ := hv
      refine cL rfl (o_iaA tt73 tt3 rfl rfl s134 (by rw [Nat.mul_one, Nat.zero_add]) ?_)
      obtain ⟨s135, hv⟩ := hv
      refine cLn (o_stB (v := .int _ _) tt3 rfl rfl rfl rfl rfl (by rw [ints_len]; exact s135) (ints_set _ _ _) ?_)
      refine eL ?_
      refine bl_nrm (th_nrm ?_)
      refine W.tr [(4, .ptr _ _), (6, .ptr _ _), (7, .ptr _ _), (21, .lst _ _ _), (22, .int _ _), (23, .int _ _)] [.dead, .box _ _, .box _ _, .box _ _, .box _ [.int _ _, .int _ _, .int _ _, .int _ _]] ⟨rfl, rfl, rfl, rfl, rfl, rfl, trivial⟩ rfl ?_
      refine W.rL1 ?_
      obtain ⟨s136, hv⟩ := hv
      refine cL rfl (o_add rfl rfl s136 ?_)
      refine cL rfl (o_move (v := .int _ _) rfl ?_)
      refine eL ?_
      exact th_nrm (⟨(), (v23 + (1 : Int)), (vset m3_1 (((lat (w.l.drop (above + (1 : Int)).toNat) v23).f).toNat) (min (vat m3_1 (((lat (w.l.drop (above + (1 : Int)).toNat) v23).f).toNat)) (plusM ((lat (w.l.drop (above + (1 : Int)).toNat) v23).m) (vat d (((lat (w.l.drop (above + (1 : Int)).toNat) v23).t).toNat))))), hv, St.to_mk (φ := [none, some 1, some 2, some 3]) rfl (.inl rfl) ⟨Ren.ptr rfl, Ren.ptr rfl, Ren.ptr rfl, Ren.lst _ _ _, Ren.int _ _, Ren.int _ _, trivial⟩ ⟨rfl, .inr ⟨_, rfl, rfl, Rens.enc encInt true _⟩, .inr ⟨_, rfl, rfl, Rens.enc encInt true _⟩, .inr ⟨_, rfl, rfl, Rens.enc encInt true _⟩, trivial⟩⟩)
    · have hv := hv.2 hc
      refine W.exit ?_
      refine th_exit (th_exit (bl_hit (th_nrm ?_)))
      refine W.tr [(6, .ptr _ _), (7, .ptr _ _)] [.dead, .box _ _, .box _ _, .box _ _] ⟨rfl, rfl, trivial⟩ rfl ?_
      refine W.rL ?_
      refine cL rfl (o_ldA tt73 rfl rfl (ca_all rfl) (ints_len _) ?_)
      refine cLn (o_stB (v := .agg _) tt73 rfl rfl rfl (ints_len _) rfl (vec_in (ints_len _) (ints_len _)) (spl_all _ _ ((ints_len _).trans (ints_len _).symm)) ?_)
      refine eL ?_
      refine W.tr [(6, .ptr _ _)] [.dead, .box _ _, .box _ _, .box _ _] ⟨rfl, trivial⟩ rfl ?_
      refine W.ret ?_
      refine rt ?_
      refine rt_c (x := .ptr _ _) rfl (ldA tt73 rfl (ca_all rfl) (ints_len _) ?_)
      refine rt_n ?_
      exact ⟨_, rs_agg 5 _ (rs_vec 4 _ _), m3_1, rfl, hv⟩
theorem vcp_longer (w : Wlk) (d : (Vector Int 24)) (above : Int) (h0 : LongOk w.l d above) : vc_longer w d above (fun q0 => q0 = (longerM w.l d above)) := by
  unfold vc_longer
  have hnb := hNB
  obtain ⟨ha, hlen, hl, hd⟩ := h0
  refine ⟨fun v m => ∃ i : Nat, v = i ∧ i ≤ 24 ∧ ∀ k, k < 24 → vat m k = if k < i then NB else 0, fun v _ => 24 - v.toNat, ⟨0, rfl, by omega, fun k hk => by rw [vat_rep hk]; simp⟩, ?_⟩
  rintro _ m0 ⟨i, rfl, hi, hm⟩
  refine ⟨fun h1 => ⟨by omega, by omega, by unfold inI; omega, ⟨i + 1, by omega, by omega, fun k hk => ?_⟩, by dsimp only; omega⟩, fun h1 => ⟨by unfold inI; omega, by omega, ?_⟩⟩
  · rw [vat_vset (by omega), hm k hk]
    split <;> split <;> (try split) <;> omega
  have hm0 : m0 = Vector.replicate 24 NB := rep_ext fun k hk => by rw [hm k hk, if_pos (by omega)]
  subst hm0
  have hel : ∀ j : Nat, j < (w.l.drop (above + 1).toNat).length → lat (w.l.drop (above + 1).toNat) (j : Int) ∈ w.l := fun j hj => List.mem_of_mem_drop (lat_mem ⟨by omega, by omega⟩)
  have hl2 : (w.l.drop (above + 1).toNat).length ≤ 2000 := by rw [List.length_drop]; omega
  refine ⟨fun v m => ∃ i : Nat, v = i ∧ i ≤ (w.l.drop (above + 1).toNat).length ∧ m = ((w.l.drop (above + 1).toNat).take i).foldl (relStep d) (Vector.replicate 24 NB), fun v _ => (w.l.drop (above + 1).toNat).length - v.toNat, ⟨0, rfl, by omega, rfl⟩, ?_⟩
  rintro _ m1 ⟨i, rfl, hi, hm⟩
  refine ⟨fun h2 => ?_, fun h2 => ?_⟩
  · have hlt : i < (w.l.drop (above + 1).toNat).length := by omega
    obtain ⟨c1, c2, c3, c4⟩ := hl _ (hel i hlt)
    have hdd := hd (lat (w.l.drop (above + 1).toNat) (i : Int)).t.toNat
    refine ⟨by omega, by omega, by omega, by omega, by omega, fun _ _ => by unfold inI; omega, by omega, by omega, by unfold inI; omega, ⟨i + 1, by omega, by omega, ?_⟩, by dsimp only; omega⟩
    rw [List.take_add_one, List.foldl_append, ← hm, List.getElem?_eq_getElem hlt, lat_get hlt]
    rfl
  · have : i = (w.l.drop (above + 1).toNat).length := by omega
    subst this
    rw [List.take_length] at hm
    show m1 = longerM w.l d above
    rw [longerM_eq]; exact hm
theorem spec_longer (w : Wlk) (d : (Vector Int 24)) (above : Int) (h0 : LongOk w.l d above) : FnP Try.prog 61 [.agg ((e65 true) w), .agg (eV24 d), .int .i64 above] (fun xR => xR = .agg (eV24 (longerM w.l d above))) :=
  (walk_longer (vcp_longer w d above h0)).mono (by rintro _ ⟨_, rfl, rfl⟩; rfl)
end Go.Lat
namespace Go.Lat
open Go.RowKit Go.Proofs
attribute [local irreducible] closeM rangeM pointM addBM cycleM holdsM validBM sameM madeM pickM plusM validM possM firstM tableM longerM boundsM ofM addM freeM
/-- What the walk through bounds.walks).table asks. -/
def vc_table (w : Wlk) (to : Int) (above : Int) (many : Int) (Post : (List (Vector Int 24)) → Prop) : Prop :=
  ∃ (I1 : Int → (Vector Int 24) → Prop) (μ1 : Int → (Vector Int 24) → Nat), I1 (0 : Int) (Vector.replicate 24 0) ∧ ∀ (v15 : Int) (m1 : (Vector Int 24)), I1 v15 m1 → ((v15 < (24 : Int)) → (0 ≤ v15 ∧ v15 < ((24 : Nat) : Int)) ∧ (v15.toNat < 24) ∧ (inI (v15 + (1 : Int))) ∧ (I1 (v15 + (1 : Int)) (vset m1 v15.toNat (1152921504606846976 : Int)) ∧ μ1 (v15 + (1 : Int)) (vset m1 v15.toNat (1152921504606846976 : Int)) < μ1 v15 m1)) ∧ (¬ (v15 < (24 : Int)) → (0 ≤ to ∧ to < ((24 : Nat) : Int)) ∧ (to.toNat < 24) ∧ ∃ (I2 : Int → (Vector Int 24) → List (Vector Int 24) → Prop) (μ2 : Int → (Vector Int 24) → List (Vector Int 24) → Nat), I2 (0 : Int) (vset m1 to.toNat (0 : Int)) [vset m1 to.toNat (0 : Int)] ∧ ∀ (v26 : Int) (m1_1 : (Vector Int 24)) (r2 : List (Vector Int 24)), I2 v26 m1_1 r2 → ((v26 < many) → (LongOk w.l m1_1 above) ∧ ((r2 ++ [longerM w.l m1_1 above]).length ≤ 1073741824) ∧ (inI (v26 + (1 : Int))) ∧ (I2 (v26 + (1 : Int)) (longerM w.l m1_1 above) (r2 ++ [longerM w.l m1_1 above]) ∧ μ2 (v26 + (1 : Int)) (longerM w.l m1_1 above) (r2 ++ [longerM w.l m1_1 above]) < μ2 v26 m1_1 r2)) ∧ (¬ (v26 < many) → Post r2))
set_option maxRecDepth 100000 in
set_option maxHeartbeats 4000000 in
theorem walk_table {w : Wlk} {to : Int} {above : Int} {many : Int} {Post : (List (Vector Int 24)) → Prop} (hv : vc_table w to above many Post) : FnP Try.prog 58 [.agg ((e65 true) w), .int .i64 to, .int .i64 above, .int .i64 many] (fun x => ∃ q0, x = .lst false q0.length (encL eV24 q0) ∧ Post q0) := by
  refine FnP.of_walk (T := tt) (nt := 38) ttOk ttMix ⟨⟨Try.f58, Try.func58, rfl, rfl, rfl, rfl⟩⟩ (by simp) ?_
  unfold vc_table at hv
  change W _ _ _ ⟨38, look [(0, .agg [.int .i64 w.n, .lst true w.l.length (encL e25 w.l)]), (1, .int .i64 to), (2, .int .i64 above), (3, .int .i64 many)], [], false⟩ _
  refine W.tr [(0, .agg _), (1, .int _ _), (2, .int _ _), (3, .int _ _)] [] ⟨rfl, rfl, rfl, rfl, trivial⟩ rfl ?_
  refine W.rL ?_
  refine cL rfl (o_box (v := .agg _) (p := 0) rfl rfl rfl ?_)
  refine cL rfl (o_assign (v := .nilS) rfl ?_)
  refine eL ?_
  refine W.tr [(1, .int _ _), (2, .int _ _), (3, .int _ _), (4, .ptr _ _)] [.box _ [.int _ _, .lst _ _ _]] ⟨rfl, rfl, rfl, rfl, trivial⟩ rfl ?_
  refine W.rL ?_
  refine cL rfl (o_ldA (cs := [.int _ _, .lst _ _ _]) tt65 rfl rfl ⟨_, rfl⟩ rfl ?_)
  refine cL rfl (o_mf (ps := [.agg _]) (qs := []) rfl rfl ?_)
  refine cL rfl (o_assign (v := .clo _ _ _) rfl ?_)
  refine eL ?_
  refine W.tr [(1, .int _ _), (2, .int _ _), (3, .int _ _), (9, .clo _ _ _)] [.box _ [.int _ _, .lst _ _ _]] ⟨rfl, rfl, rfl, rfl, trivial⟩ rfl ?_
  refine W.rL ?_
  refine cL rfl (o_alloc (p := 1) tt73 rfl (ints_zero 24) ?_)
  refine eL ?_
  refine W.tr [(1, .int _ _), (2, .int _ _), (3, .int _ _), (9, .clo _ _ _), (10, .ptr _ _)] [.box _ [.int _ _, .lst _ _ _], .box _ _] ⟨rfl, rfl, rfl, rfl, rfl, trivial⟩ rfl ?_
  refine W.seq' ?_
  refine W.rL ?_
  refine cL rfl (o_move (v := .int _ _) rfl ?_)
  refine eL ?_
  refine W.tr [(1, .int _ _), (2, .int _ _), (3, .int _ _), (9, .clo _ _ _), (10, .ptr _ _), (15, .int _ _)] [.box _ [.int _ _, .lst _ _ _], .box _ _] ⟨rfl, rfl, rfl, rfl, rfl, rfl, trivial⟩ rfl ?_
  refine W.block ?_
  obtain ⟨I1, μ1, hp, hv⟩ := hv
  refine W.loop2 (fun v15 m1 => ⟨38, look [(1, .int .i64 to), (2, .int .i64 above), (3, .int .i64 many), (9, .clo 61 [.agg [.int .i64 w.n, .lst true w.l.length (encL e25 w.l)]] []), (10, .ptr 1 0), (15, .int .i64 v15)], [.dead, .box 73 (encL eInt m1.toList)], false⟩) I1 μ1 (0 : Int) (Vector.replicate 24 0) (St.to_mk (φ := [none, some 1]) rfl (.inl rfl) ⟨Ren.int _ _, Ren.int _ _, Ren.int _ _, Ren.clo _ (Rens.cons (Ren.agg (Rens.cons (Ren.int _ _) (Rens.cons (Ren.lst _ _ _) (Rens.nil)))) (Rens.nil)) (Rens.nil), Ren.ptr rfl, Ren.int _ _, trivial⟩ ⟨rfl, .inr ⟨_, rfl, rfl, Rens.enc encInt true _⟩, trivial⟩) hp ?_
  clear hp
  intro v15 m1 hI
  replace hv := hv v15 m1 hI
  clear hI
  refine W.rL ?_
  refine cL rfl (o_lss rfl rfl ?_)
  refine eL ?_
  refine W.tr [(1, .int _ _), (2, .int _ _), (3, .int _ _), (9, .clo _ _ _), (10, .ptr _ _), (15, .int _ _), (16, .bool _)] [.dead, .box _ _] ⟨rfl, rfl, rfl, rfl, rfl, rfl, rfl, trivial⟩ rfl ?_
  refine W.seq' ?_
  refine W.cn rfl (fun hc => ?_) (fun hc => ?_)
  · have hv := hv.1 hc
    refine W.skip ?_
    refine th_nrm ?_
    refine W.tr [(1, .int _ _), (2, .int _ _), (3, .int _ _), (9, .clo _ _ _), (10, .ptr _ _), (15, .int _ _)] [.dead, .box _ _] ⟨rfl, rfl, rfl, rfl, rfl, rfl, trivial⟩ rfl ?_
    refine W.seq' ?_
    refine W.block ?_
    refine W.rL ?_
    refine cL rfl (o_move (v := .int _ _) rfl ?_)
    refine cL rfl (o_assign (v := .int _ _) rfl ?_)
    refine eL ?_
    refine W.tr [(1, .int _ _), (2, .int _ _), (3, .int _ _), (9, .clo _ _ _), (10, .ptr _ _), (11, .int _ _), (15, .int _ _)] [.dead, .box _ _] ⟨rfl, rfl, rfl, rfl, rfl, rfl, rfl, trivial⟩ rfl ?_
    refine W.rL1 ?_
    refine cL rfl (o_move (v := .int _ _) rfl ?_)
    obtain ⟨s28, hv⟩ := hv
    refine cL rfl (o_iaA tt73 tt3 rfl rfl s28 (by rw [Nat.mul_one, Nat.zero_add]) ?_)
    obtain ⟨s29, hv⟩ := hv
    refine cLn (o_stB (v := .int _ _) tt3 rfl rfl rfl rfl rfl (by rw [ints_len]; exact s29) (ints_set _ _ _) ?_)
    refine eL ?_
    refine bl_nrm (th_nrm ?_)
    refine W.tr [(1, .int _ _), (2, .int _ _), (3, .int _ _), (9, .clo _ _ _), (10, .ptr _ _), (15, .int _ _)] [.dead, .box _ _] ⟨rfl, rfl, rfl, rfl, rfl, rfl, trivial⟩ rfl ?_
    refine W.rL1 ?_
    obtain ⟨s30, hv⟩ := hv
    refine cL rfl (o_add rfl rfl s30 ?_)
    refine cL rfl (o_move (v := .int _ _) rfl ?_)
    refine eL ?_
    exact th_nrm (⟨(), (v15 + (1 : Int)), (vset m1 v15.toNat (1152921504606846976 : Int)), hv, St.to_mk (φ := [none, some 1]) rfl (.inl rfl) ⟨Ren.int _ _, Ren.int _ _, Ren.int _ _, Ren.clo _ (Rens.cons (Ren.agg (Rens.cons (Ren.int _ _) (Rens.cons (Ren.lst _ _ _) (Rens.nil)))) (Rens.nil)) (Rens.nil), Ren.ptr rfl, Ren.int _ _, trivial⟩ ⟨rfl, .inr ⟨_, rfl, rfl, Rens.enc encInt true _⟩, trivial⟩⟩)
  · have hv := hv.2 hc
    refine W.exit ?_
    refine th_exit (th_exit (bl_hit (th_nrm ?_)))
    refine W.tr [(1, .int _ _), (2, .int _ _), (3, .int _ _), (9, .clo _ _ _), (10, .ptr _ _)] [.dead, .box _ _] ⟨rfl, rfl, rfl, rfl, rfl, trivial⟩ rfl ?_
    refine W.rL ?_
    refine cL rfl (o_move (v := .int _ _) rfl ?_)
    obtain ⟨s31, hv⟩ := hv
    refine cL rfl (o_iaA tt73 tt3 rfl rfl s31 (by rw [Nat.mul_one, Nat.zero_add]) ?_)
    obtain ⟨s32, hv⟩ := hv
    refine cLn (o_stB (v := .int _ _) tt3 rfl rfl rfl rfl rfl (by rw [ints_len]; exact s32) (ints_set _ _ _) ?_)
    refine eL ?_
    refine W.tr [(2, .int _ _), (3, .int _ _), (9, .clo _ _ _), (10, .ptr _ _)] [.dead, .box _ _] ⟨rfl, rfl, rfl, rfl, trivial⟩ rfl ?_
    refine W.rL ?_
    refine cL rfl (o_ldA tt73 rfl rfl (ca_all rfl) (ints_len _) ?_)
    refine cL rfl (o_bs1 (v := .agg (encL eInt _)) (q := 2) tt83 tt73 rfl rfl rfl (ints_len _) List.length_replicate rfl rfl (encL_one eV24 _) ?_)
    refine cL rfl (o_assign (v := .ref _ _ _) rfl ?_)
    refine eL ?_
    refine W.tr [(2, .int _ _), (3, .int _ _), (9, .clo _ _ _), (10, .ptr _ _), (12, .ref _ _ _)] [.dead, .box _ _, .row _ _ _] ⟨rfl, rfl, rfl, rfl, rfl, trivial⟩ rfl ?_
    refine W.seq' ?_
    refine W.rL ?_
    refine cL rfl (o_move (v := .int _ _) rfl ?_)
    refine cL rfl (o_move (v := .int _ _) rfl ?_)
    refine eL ?_
    refine W.tr [(2, .int _ _), (9, .clo _ _ _), (10, .ptr _ _), (12, .ref _ _ _), (25, .int _ _), (26, .int _ _)] [.dead, .box _ _, .row _ _ _] ⟨rfl, rfl, rfl, rfl, rfl, rfl, trivial⟩ rfl ?_
    refine W.block ?_
    obtain ⟨I2, μ2, hp, hv⟩ := hv
    refine W.loop3 (fun v26 m1_1 r2 => ⟨38, look [(2, .int .i64 above), (9, .clo 61 [.agg [.int .i64 w.n, .lst true w.l.length (encL e25 w.l)]] []), (10, .ptr 1 0), (12, .ref false 2 r2.length), (25, .int .i64 many), (26, .int .i64 v26)], [.dead, .box 73 (encL eInt m1_1.toList), .row 73 24 (encL eV24 r2)], false⟩) I2 μ2 (0 : Int) (vset m1 to.toNat (0 : Int)) [vset m1 to.toNat (0 : Int)] (St.to_mk (φ := [none, some 1, some 2]) rfl (.inl rfl) ⟨Ren.int _ _, Ren.clo _ (Rens.cons (Ren.agg (Rens.cons (Ren.int _ _) (Rens.cons (Ren.lst _ _ _) (Rens.nil)))) (Rens.nil)) (Rens.nil), Ren.ptr rfl, Ren.ref rfl (fun h => h), Ren.int _ _, Ren.int _ _, trivial⟩ ⟨rfl, .inr ⟨_, rfl, rfl, Rens.enc encInt true _⟩, .inr ⟨_, rfl, rfl, rfl, rfl, Rens.enc encV24 false [vset m1 to.toNat (0 : Int)]⟩, trivial⟩) hp ?_
    clear hp
    intro v26 m1_1 r2 hI
    replace hv := hv v26 m1_1 r2 hI
    clear hI
    refine W.rL ?_
    refine cL rfl (o_lss rfl rfl ?_)
    refine eL ?_
    refine W.tr [(2, .int _ _), (9, .clo _ _ _), (10, .ptr _ _), (12, .ref _ _ _), (25, .int _ _), (26, .int _ _), (27, .bool _)] [.dead, .box _ _, .row _ _ _] ⟨rfl, rfl, rfl, rfl, rfl, rfl, rfl, trivial⟩ rfl ?_
    refine W.seq' ?_
    refine W.cn rfl (fun hc => ?_) (fun hc => ?_)
    · have hv := hv.1 hc
      refine W.skip ?_
      refine th_nrm ?_
      refine W.tr [(2, .int _ _), (9, .clo _ _ _), (10, .ptr _ _), (12, .ref _ _ _), (25, .int _ _), (26, .int _ _)] [.dead, .box _ _, .row _ _ _] ⟨rfl, rfl, rfl, rfl, rfl, rfl, trivial⟩ rfl ?_
      refine W.seq' ?_
      refine W.block ?_
      refine W.rL ?_
      refine cL rfl (o_move (v := .clo _ _ _) rfl ?_)
      refine cL rfl (o_ldA tt73 rfl rfl (ca_all rfl) (ints_len _) ?_)
      refine cL rfl (o_move (v := .int _ _) rfl ?_)
      obtain ⟨s60, hv⟩ := hv
      refine cL rfl (o_callP1 (k := 61) (fst := [.agg _]) (caps := []) (ys := [.agg _, .int _ _]) rfl rfl (spec_longer w m1_1 above s60) (Wks.cons (ag_agg 5 _ (Wks.cons (ag_int _ _ _ _) (Wks.cons (ag_lst _ _ _ _ _) (Wks.refl _)))) (Wks.cons (ag_agg 5 _ (ag_vec 4 _ _)) (Wks.cons (ag_int _ _ _ _) (Wks.refl _)))) ?_)
      refine cLn (o_stB (v := .agg _) tt73 rfl rfl rfl (ints_len _) rfl (vec_in (ints_len _) (ints_len _)) (spl_all _ _ ((ints_len _).trans (ints_len _).symm)) ?_)
      refine eL ?_
      refine W.tr [(2, .int _ _), (9, .clo _ _ _), (10, .ptr _ _), (12, .ref _ _ _), (25, .int _ _), (26, .int _ _)] [.dead, .box _ _, .row _ _ _] ⟨rfl, rfl, rfl, rfl, rfl, rfl, trivial⟩ rfl ?_
      refine W.rL1 ?_
      refine cL rfl (o_move (v := .ref _ _ _) rfl ?_)
      refine cL rfl (o_ldA tt73 rfl rfl (ca_all rfl) (ints_len _) ?_)
      refine cL rfl (o_bs1 (v := .agg (encL eInt _)) (q := 3) tt83 tt73 rfl rfl rfl (ints_len _) List.length_replicate rfl rfl (encL_one eV24 _) ?_)
      obtain ⟨s61, hv⟩ := hv
      refine cL rfl (o_apR (p := 4) (q := (r2 ++ [longerM w.l m1_1 above]).length) tt83 tt73 rfl rfl (src_ref rfl (encL_length (encV24.wd false) _)) (encL_length (encV24.wd false) _) rfl (encL_length (encV24.wd false) _) (Nat.le_trans (Nat.le_of_eq (@List.length_append _ (r2) ([longerM w.l m1_1 above])).symm) s61) rfl (@List.length_append _ (r2) ([longerM w.l m1_1 above])).symm (encL_app eV24 r2 [longerM w.l m1_1 above]) ?_)
      refine cL rfl (o_assign (v := .ref _ _ _) rfl ?_)
      refine eL ?_
      refine bl_nrm (th_nrm ?_)
      refine W.tr [(2, .int _ _), (9, .clo _ _ _), (10, .ptr _ _), (12, .ref _ _ _), (25, .int _ _), (26, .int _ _)] [.dead, .box _ _, .dead, .row _ _ _, .row _ _ _] ⟨rfl, rfl, rfl, rfl, rfl, rfl, trivial⟩ rfl ?_
      refine W.rL1 ?_
      obtain ⟨s62, hv⟩ := hv
      refine cL rfl (o_add rfl rfl s62 ?_)
      refine cL rfl (o_move (v := .int _ _) rfl ?_)
      refine eL ?_
      exact th_nrm (⟨(), (v26 + (1 : Int)), (longerM w.l m1_1 above), (r2 ++ [longerM w.l m1_1 above]), hv, St.to_mk (φ := [none, some 1, some 4]) rfl (.inl rfl) ⟨Ren.int _ _, Ren.clo _ (Rens.cons (Ren.agg (Rens.cons (Ren.int _ _) (Rens.cons (Ren.lst _ _ _) (Rens.nil)))) (Rens.nil)) (Rens.nil), Ren.ptr rfl, Ren.ref rfl (fun h => h), Ren.int _ _, Ren.int _ _, trivial⟩ ⟨rfl, .inr ⟨_, rfl, rfl, Rens.enc encInt true _⟩, .inr ⟨_, rfl, rfl, rfl, rfl, Rens.enc encV24 false (r2 ++ [longerM w.l m1_1 above])⟩, trivial⟩⟩)
    · have hv := hv.2 hc
      refine W.exit ?_
      refine th_exit (th_exit (bl_hit (th_nrm ?_)))
      refine W.tr [(12, .ref _ _ _)] [.dead, .box _ _, .row _ _ _] ⟨rfl, trivial⟩ rfl ?_
      refine W.rL ?_
      refine cL rfl (o_move (v := .ref _ _ _) rfl ?_)
      refine cL rfl (o_assign (v := .ref _ _ _) rfl ?_)
      refine eL ?_
      refine W.tr [(8, .ref _ _ _)] [.dead, .box _ _, .row _ _ _] ⟨rfl, trivial⟩ rfl ?_
      refine W.ret ?_
      refine rt ?_
      refine rt_t (v := .ref _ _ _) rfl ?_
      refine rt_n ?_
      exact ⟨_, rs_ref encV24 4 _ rfl rfl, r2, rfl, hv⟩
theorem vcp_table (w : Wlk) (to : Int) (above : Int) (many : Int) (h0 : TabOk w.l to above many) : vc_table w to above many (fun q0 => q0 = (tableM w.l to above many)) := by
  unfold vc_table
  have hnb := hNB
  obtain ⟨ha, hlen, hl, ht, hk⟩ := h0
  refine ⟨fun v m => ∃ i : Nat, v = i ∧ i ≤ 24 ∧ ∀ k, k < 24 → vat m k = if k < i then NB else 0, fun v _ => 24 - v.toNat, ⟨0, rfl, by omega, fun k hk => by rw [vat_rep hk]; simp⟩, ?_⟩
  rintro _ m0 ⟨i, rfl, hi, hm⟩
  refine ⟨fun h1 => ⟨by omega, by omega, by unfold inI; omega, ⟨i + 1, by omega, by omega, fun k hk => ?_⟩, by dsimp only; omega⟩, fun h1 => ⟨by omega, by omega, ?_⟩⟩
  · rw [vat_vset (by omega), hm k hk]
    split <;> split <;> (try split) <;> omega
  have hm0 : m0 = Vector.replicate 24 NB := rep_ext fun k hk => by rw [hm k hk, if_pos (by omega)]
  subst hm0
  refine ⟨fun v m r => ∃ k : Nat, v = k ∧ k ≤ many.toNat ∧ m = tabD w.l to above k ∧ r = (List.range (k + 1)).map (tabD w.l to above), fun v _ _ => many.toNat - v.toNat, ⟨0, rfl, by omega, rfl, rfl⟩, ?_⟩
  rintro _ _ _ ⟨k, rfl, hkk, rfl, rfl⟩
  refine ⟨fun h2 => ⟨⟨ha, hlen, hl, fun j => ?_⟩, by simp; omega, by unfold inI; omega, ⟨k + 1, by omega, by omega, rfl, ?_⟩, by dsimp only; omega⟩, fun h2 => ?_⟩
  · have := tabD_bd (l := w.l) (to := to) (above := above) (fun c hc => ⟨(hl c hc).1, (hl c hc).2.2.1⟩) ht k j
    omega
  · rw [List.range_succ (n := k + 1), List.map_append]; rfl
  · have : k = many.toNat := by omega
    subst this; unfold tableM; rfl
theorem spec_table (w : Wlk) (to : Int) (above : Int) (many : Int) (h0 : TabOk w.l to above many) : FnP Try.prog 58 [.agg ((e65 true) w), .int .i64 to, .int .i64 above, .int .i64 many] (fun xR => xR = .lst false (tableM w.l to above many).length (encL eV24 (tableM w.l to above many))) :=
  (walk_table (vcp_table w to above many h0)).mono (by rintro _ ⟨_, rfl, rfl⟩; rfl)
end Go.Lat
