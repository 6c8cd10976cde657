/- The law latecomerlaw24.ReplayMatchesReference returns true for every input, and each argument reads afterwards as it read before. Part 13 of 15. No condition. -/
import Derived.Test.YtbaillkjjlmehaaLatF
import Derived.Test.YtbaillkjjlmehaaLatD
import Derived.Test.YtbaillkjjlmehaaLatE
import Derived.Test.YtbaillkjjlmehaaLatL
set_option linter.unusedVariables false
set_option linter.unusedSimpArgs false
set_option linter.unnecessarySimpa false
set_option maxRecDepth 100000
set_option maxHeartbeats 4000000
namespace Go.Lat
open Go.RowKit
section
variable {α : Type}
def nstC (q : Nat) (vs : List (List α)) (i : Nat) : List AV := [.ref true (q + i) (lat vs (i : Int)).length]
def nstO (t : TypeId) (sz : Nat) (en : α -> List AV) (vs : List (List α)) (i : Nat) : AObj := .row t sz (zYy en (lat vs (i : Int)))
def nstR (ot : TypeId) (q : Nat) (vs : List (List α)) : AObj := .row ot 1 (cellsN (nstC q vs) vs.length)
def nstT (t : TypeId) (sz : Nat) (en : α -> List AV) (vs : List (List α)) : List AObj := objsN (nstO t sz en vs) vs.length
theorem nst_wd (q : Nat) (vs : List (List α)) : Wd (nstC q vs) 1 := fun _ => rfl
theorem nstT_len (t : TypeId) (sz : Nat) (en : α -> List AV) (vs : List (List α)) : (nstT t sz en vs).length = vs.length := objsN_len _ _
theorem nst_len {A : List AObj} {t : TypeId} {sz : Nat} {en : α -> List AV} {vs : List (List α)} {a : Nat} (h : A.length = a) : (A ++ nstT t sz en vs).length = a + vs.length := by rw [List.length_append, nstT_len, h]
def gS (src : List (Option (Nat ⊕ Nat))) (a n i : Nat) : Option Nat := if i < src.length then (match src[i]? with | some (some (.inl k)) => some k | some (some (.inr p)) => some (a + n + p) | _ => none) else some (a + (i - src.length))
theorem gS_inl {src : List (Option (Nat ⊕ Nat))} {a n j k : Nat} (h : src[j]? = some (some (.inl k))) : (idx (src.length + n) (gS src a n))[j]? = some (some k) := by
  have hj := (List.getElem?_eq_some_iff.1 h).1
  rw [idx_get (by omega)]
  unfold gS
  rw [if_pos hj, h]
theorem gS_inr {src : List (Option (Nat ⊕ Nat))} {a n j p : Nat} (h : src[j]? = some (some (.inr p))) : (idx (src.length + n) (gS src a n))[j]? = some (some (a + n + p)) := by
  have hj := (List.getElem?_eq_some_iff.1 h).1
  rw [idx_get (by omega)]
  unfold gS
  rw [if_pos hj, h]
theorem gS_in0 {src : List (Option (Nat ⊕ Nat))} {a n j : Nat} (h : src[j]? = some (some (.inr 0))) : (idx (src.length + n) (gS src a n))[j]? = some (some (a + n)) := gS_inr h
theorem gS_tl {src : List (Option (Nat ⊕ Nat))} {a n i : Nat} (h : i < n) : (idx (src.length + n) (gS src a n))[src.length + i]? = some (some (a + i)) := by
  rw [idx_get (by omega)]
  unfold gS
  rw [if_neg (by omega), show src.length + i - src.length = i by omega]
def okS (a : Nat) : List (Option (Nat ⊕ Nat)) -> Bool
  | [] => true
  | none :: l => okS a l
  | some (.inl k) :: l => Nat.blt k a && (l.all fun y => decide (y ≠ some (.inl k))) && okS a l
  | some (.inr k) :: l => (l.all fun y => decide (y ≠ some (.inr k))) && okS a l
theorem okS_inj {a : Nat} : ∀ {src : List (Option (Nat ⊕ Nat))}, okS a src = true -> ∀ (i j : Nat) (x : Nat ⊕ Nat), src[i]? = some (some x) -> src[j]? = some (some x) -> i = j
  | [], _, i, _, _, hi, _ => by simp at hi
  | none :: l, h, i, j, x, hi, hj => by
    rcases i with _ | i <;> rcases j with _ | j
    . rfl
    . simp at hi
    . simp at hj
    . have := okS_inj (src := l) h i j x (by simpa using hi) (by simpa using hj); omega
  | some (.inl k) :: l, h, i, j, x, hi, hj => by
    simp only [okS, Bool.and_eq_true, List.all_eq_true, decide_eq_true_eq] at h
    rcases i with _ | i <;> rcases j with _ | j
    . rfl
    . simp only [List.getElem?_cons_zero, List.getElem?_cons_succ, Option.some.injEq] at hi hj
      subst hi; exact absurd rfl (h.1.2 _ (List.mem_of_getElem? hj))
    . simp only [List.getElem?_cons_zero, List.getElem?_cons_succ, Option.some.injEq] at hi hj
      subst hj; exact absurd rfl (h.1.2 _ (List.mem_of_getElem? hi))
    . have := okS_inj (src := l) h.2 i j x (by simpa using hi) (by simpa using hj); omega
  | some (.inr k) :: l, h, i, j, x, hi, hj => by
    simp only [okS, Bool.and_eq_true, List.all_eq_true, decide_eq_true_eq] at h
    rcases i with _ | i <;> rcases j with _ | j
    . rfl
    . simp only [List.getElem?_cons_zero, List.getElem?_cons_succ, Option.some.injEq] at hi hj
      subst hi; exact absurd rfl (h.1 _ (List.mem_of_getElem? hj))
    . simp only [List.getElem?_cons_zero, List.getElem?_cons_succ, Option.some.injEq] at hi hj
      subst hj; exact absurd rfl (h.1 _ (List.mem_of_getElem? hi))
    . have := okS_inj (src := l) h.2 i j x (by simpa using hi) (by simpa using hj); omega
theorem okS_lt {a : Nat} : ∀ {src : List (Option (Nat ⊕ Nat))}, okS a src = true -> ∀ (i k : Nat), src[i]? = some (some (.inl k)) -> k < a
  | [], _, i, _, hi => by simp at hi
  | none :: l, h, i, k, hi => by
    rcases i with _ | i
    . simp at hi
    . exact okS_lt (src := l) h i k (by simpa using hi)
  | some (.inl q) :: l, h, i, k, hi => by
    simp only [okS, Bool.and_eq_true] at h
    rcases i with _ | i
    . simp at hi; subst hi; exact Nat.le_of_ble_eq_true h.1.1
    . exact okS_lt (src := l) h.2 i k (by simpa using hi)
  | some (.inr q) :: l, h, i, k, hi => by
    simp only [okS, Bool.and_eq_true] at h
    rcases i with _ | i
    . simp at hi
    . exact okS_lt (src := l) h.2 i k (by simpa using hi)
theorem gS_inj {src : List (Option (Nat ⊕ Nat))} {a n : Nat} (h : okS a src = true) : injB (idx (src.length + n) (gS src a n)) = true := injB_idx fun i j k hi hj h1 h2 => by
  have look : ∀ i, i < src.length + n -> gS src a n i = some k -> (∃ x, src[i]? = some (some x) /\ (x = .inl k /\ k < a \/ ∃ p, x = .inr p /\ k = a + n + p)) \/ (src.length <= i /\ k = a + (i - src.length)) := fun i hi h3 => by
    unfold gS at h3
    split at h3
    . left
      split at h3
      . rename_i q hq
        cases h3
        exact ⟨_, hq, .inl ⟨rfl, okS_lt h i _ hq⟩⟩
      . rename_i p hp
        cases h3
        exact ⟨_, hp, .inr ⟨p, rfl, rfl⟩⟩
      . cases h3
    . right
      cases h3
      exact ⟨by omega, rfl⟩
  rcases look i hi h1 with ⟨x, hx, hxk⟩ | ⟨hl, hk⟩ <;> rcases look j hj h2 with ⟨y, hy, hyk⟩ | ⟨hl', hk'⟩
  . rcases hxk with ⟨rfl, _⟩ | ⟨p, rfl, hp⟩ <;> rcases hyk with ⟨rfl, _⟩ | ⟨p', rfl, hp'⟩
    . exact okS_inj h i j _ hx hy
    . omega
    . omega
    . have : p = p' := by omega
      subst this
      exact okS_inj h i j _ hx hy
  . rcases hxk with ⟨rfl, _⟩ | ⟨p, rfl, hp⟩ <;> omega
  . rcases hyk with ⟨rfl, _⟩ | ⟨p, rfl, hp⟩ <;> omega
  . omega
def getS (A news : List AObj) : Nat ⊕ Nat -> Option AObj
  | .inl k => A[k]?
  | .inr p => news[p]?
def slotsOk (φ : List (Option Nat)) (A news : List AObj) : List (Option (Nat ⊕ Nat)) -> List AObj -> Prop
  | [], [] => True
  | none :: s, o :: l => o.live = false /\ slotsOk φ A news s l
  | some x :: s, o :: l => (o = .dead \/ ∃ o0, getS A news x = some o0 /\ RenO φ o0 o) /\ slotsOk φ A news s l
  | _, _ => False
theorem slotsOk_at {φ : List (Option Nat)} {A news : List AObj} : ∀ {s : List (Option (Nat ⊕ Nat))} {l : List AObj}, slotsOk φ A news s l -> s.length = l.length /\ ∀ (i : Nat) o, l[i]? = some o -> (s[i]? = some none /\ o.live = false) \/ ∃ x, s[i]? = some (some x) /\ (o = .dead \/ ∃ o0, getS A news x = some o0 /\ RenO φ o0 o)
  | [], [], _ => ⟨rfl, fun i o h => by simp at h⟩
  | [], _ :: _, h => h.elim
  | none :: _, [], h => h.elim
  | some _ :: _, [], h => h.elim
  | none :: s, o :: l, h => by
    obtain ⟨h1, h2⟩ := slotsOk_at h.2
    refine ⟨by simp [h1], fun i o' hi => ?_⟩
    rcases i with _ | i
    . simp at hi; subst hi; exact .inl ⟨rfl, h.1⟩
    . exact h2 i o' (by simpa using hi)
  | some x :: s, o :: l, h => by
    obtain ⟨h1, h2⟩ := slotsOk_at h.2
    refine ⟨by simp [h1], fun i o' hi => ?_⟩
    rcases i with _ | i
    . simp at hi; subst hi; exact .inr ⟨x, rfl, h.1⟩
    . exact h2 i o' (by simpa using hi)
theorem to_nst {nt : Nat} {tm : Nat -> AV} {l : List (Nat × AV)} {A A' news : List AObj} {t : TypeId} {sz : Nat} {en : α -> List AV} {ef : Bool -> α -> List AV} (he : Enc ef sz) (hen : en = ef false) {vs : List (List α)} (src : List (Option (Nat ⊕ Nat))) {a n : Nat} (ha : A.length = a) (hn : vs.length = n) (hok : okS a src = true)
    (hr : regsT (idx (src.length + n) (gS src a n)) tm l) (hA : slotsOk (idx (src.length + n) (gS src a n)) A news src A') : St.to ⟨nt, tm, A ++ nstT t sz en vs ++ news, 0⟩ ⟨nt, look l, A' ++ nstT t sz en vs, 0⟩ := by
  subst ha; subst hn; subst hen
  obtain ⟨hsl, hs⟩ := slotsOk_at hA
  have hlen : (A' ++ nstT t sz (ef false) vs).length = src.length + vs.length := by rw [List.length_append, nstT_len, hsl]
  have hh := RenH.idx (g := gS src A.length vs.length) (h := A ++ nstT t sz (ef false) vs ++ news) (h' := A' ++ nstT t sz (ef false) vs) (by
    rw [hlen]
    intro i o hi
    rcases Nat.lt_or_ge i A'.length with h1 | h1
    . rw [List.getElem?_append_left h1] at hi
      rcases hs i o hi with ⟨h2, h3⟩ | ⟨x, h2, h3⟩
      . left
        refine ⟨?_, h3⟩
        unfold gS
        rw [if_pos (by omega), h2]
      . right
        rcases x with k | p
        . refine ⟨k, ?_, h3.imp id ?_⟩
          . unfold gS; rw [if_pos (by omega), h2]
          . rintro ⟨o0, h4, h5⟩
            have h4 : A[k]? = some o0 := h4
            have hk := (List.getElem?_eq_some_iff.1 h4).1
            refine ⟨o0, ?_, h5⟩
            rw [List.append_assoc, List.getElem?_append_left hk]; exact h4
        . refine ⟨A.length + vs.length + p, ?_, h3.imp id ?_⟩
          . unfold gS; rw [if_pos (by omega), h2]
          . rintro ⟨o0, h4, h5⟩
            have h4 : news[p]? = some o0 := h4
            refine ⟨o0, ?_, h5⟩
            rw [List.getElem?_append_right (by rw [List.length_append, nstT_len]; omega), List.length_append, nstT_len, show A.length + vs.length + p - (A.length + vs.length) = p by omega]; exact h4
    . right
      have hil := (List.getElem?_eq_some_iff.1 hi).1
      rw [hlen] at hil
      rw [List.getElem?_append_right h1] at hi
      have hq : i - A'.length < vs.length := by omega
      unfold nstT at hi
      rw [objsN_get hq] at hi
      cases hi
      refine ⟨A.length + (i - src.length), by unfold gS; rw [if_neg (by omega)], .inr ⟨nstO t sz (ef false) vs (i - A'.length), ?_, rfl, rfl, rfl, Rens.enc he false _⟩⟩
      rw [List.getElem?_append_left (by rw [List.length_append, nstT_len]; omega), <- hsl]
      exact objsN_getA (by omega))
  rw [hlen] at hh
  exact St.to_mk (gS_inj hok) (by simp [pinB, pinF]) hr hh
theorem to_nst0 {nt : Nat} {tm : Nat -> AV} {l : List (Nat × AV)} {A A' : List AObj} {t : TypeId} {sz : Nat} {en : α -> List AV} {ef : Bool -> α -> List AV} (he : Enc ef sz) (hen : en = ef false) {vs : List (List α)} (src : List (Option (Nat ⊕ Nat))) {a n : Nat} (ha : A.length = a) (hn : vs.length = n) (hok : okS a src = true)
    (hr : regsT (idx (src.length + n) (gS src a n)) tm l) (hA : slotsOk (idx (src.length + n) (gS src a n)) A [] src A') : St.to ⟨nt, tm, A ++ nstT t sz en vs, 0⟩ ⟨nt, look l, A' ++ nstT t sz en vs, 0⟩ := by
  have := to_nst (nt := nt) (news := []) he hen src ha hn hok hr hA (t := t)
  rwa [List.append_nil] at this
theorem ren_nstR {src : List (Option (Nat ⊕ Nat))} {a n q ot : Nat} {vs : List (List α)} (hn : vs.length = n) (hq : src.length = q) : RenO (idx (src.length + n) (gS src a n)) (nstR ot a vs) (nstR ot q vs) := by
  subst hn; subst hq
  refine ⟨rfl, rfl, by rw [cellsN_len (nst_wd _ _), cellsN_len (nst_wd _ _)], Rens.cellsN fun i hi => ⟨Rens.cons (Ren.ref (gS_tl hi) fun h => h) Rens.nil, rfl⟩⟩
theorem to_nstM {nt : Nat} {tm : Nat -> AV} {l : List (Nat × AV)} {A A' : List AObj} {t : TypeId} {sz : Nat} {en : α -> List AV} {n : Nat} (src : List (Option (Nat ⊕ Nat))) {a : Nat} (ha : A.length = a) (hok : okS a src = true)
    (hr : regsT (idx (src.length + n) fun i => if i < src.length then gS src a n i else none) tm l) (hA : slotsOk (idx (src.length + n) fun i => if i < src.length then gS src a n i else none) A [] src A') : St.to ⟨nt, tm, A, 0⟩ ⟨nt, look l, A' ++ nstT t sz en (List.replicate n ([] : List α)), 0⟩ := by
  subst ha
  obtain ⟨hsl, hs⟩ := slotsOk_at hA
  have hlen : (A' ++ nstT t sz en (List.replicate n ([] : List α))).length = src.length + n := by rw [List.length_append, nstT_len, hsl, List.length_replicate]
  have hh := RenH.idx (g := fun i => if i < src.length then gS src A.length n i else none) (h := A) (h' := A' ++ nstT t sz en (List.replicate n ([] : List α))) (by
    rw [hlen]
    intro i o hi
    rcases Nat.lt_or_ge i A'.length with h1 | h1
    . rw [List.getElem?_append_left h1] at hi
      rcases hs i o hi with ⟨h2, h3⟩ | ⟨x, h2, h3⟩
      . left
        refine ⟨?_, h3⟩
        rw [if_pos (by omega)]
        unfold gS
        rw [if_pos (by omega), h2]
      . right
        rcases x with k | p
        . refine ⟨k, ?_, h3.imp id ?_⟩
          . rw [if_pos (by omega)]; unfold gS; rw [if_pos (by omega), h2]
          . rintro ⟨o0, h4, h5⟩
            exact ⟨o0, h4, h5⟩
        . refine ⟨A.length + n + p, ?_, h3.imp id ?_⟩
          . rw [if_pos (by omega)]; unfold gS; rw [if_pos (by omega), h2]
          . rintro ⟨o0, h4, h5⟩
            simp [getS] at h4
    . left
      have hil := (List.getElem?_eq_some_iff.1 hi).1
      rw [hlen] at hil
      rw [List.getElem?_append_right h1] at hi
      have hq : i - A'.length < (List.replicate n ([] : List α)).length := by rw [List.length_replicate]; omega
      unfold nstT at hi
      rw [objsN_get hq] at hi
      cases hi
      refine ⟨if_neg (by omega), ?_⟩
      have : lat (List.replicate n ([] : List α)) ((i - A'.length : Nat) : Int) = [] := by
        simp only [lat, List.getD_eq_getElem?_getD]
        rcases h : (List.replicate n ([] : List α))[((i - A'.length : Nat) : Int).toNat]? with _ | x
        . rfl
        . have := List.mem_of_getElem? h
          rw [List.mem_replicate] at this
          rw [this.2]; rfl
      unfold nstO
      rw [this]; rfl)
  rw [hlen] at hh
  have hinj : injB (idx (src.length + n) fun i => if i < src.length then gS src A.length n i else none) = true := injB_idx fun i j k hi hj h1 h2 => by
    have e1 : i < src.length := by
      rcases Nat.lt_or_ge i src.length with h | h
      . exact h
      . rw [if_neg (by omega)] at h1; cases h1
    have e2 : j < src.length := by
      rcases Nat.lt_or_ge j src.length with h | h
      . exact h
      . rw [if_neg (by omega)] at h2; cases h2
    rw [if_pos e1] at h1
    rw [if_pos e2] at h2
    have := injB_spec (gS_inj (n := n) hok) i j k (by rw [idx_get (by omega), h1]) (by rw [idx_get (by omega), h2])
    exact this
  exact St.to_mk hinj (by simp [pinB, pinF]) hr hh
theorem gM_inl {src : List (Option (Nat ⊕ Nat))} {a n j k : Nat} (h : src[j]? = some (some (.inl k))) : (idx (src.length + n) fun i => if i < src.length then gS src a n i else none)[j]? = some (some k) := by
  have hj := (List.getElem?_eq_some_iff.1 h).1
  rw [idx_get (by omega), if_pos hj]
  unfold gS
  rw [if_pos hj, h]
theorem ren_nstM {src : List (Option (Nat ⊕ Nat))} {a n q ot : Nat} {en : Unit -> List AV} (hen : en () = [.nilS]) (hq : src.length = q) : RenO (idx (src.length + n) fun i => if i < src.length then gS src a n i else none) (.row ot 1 (zYy en (List.replicate n ()))) (nstR ot q (List.replicate n ([] : List α))) := by
  subst hq
  have e1 : zYy en (List.replicate n ()) = cellsN (fun _ => [.nilS]) n := by
    unfold cellsN zYy
    rw [List.flatMap_replicate]
    congr 1
    apply List.ext_getElem
    . simp
    . intro i h1 h2; simp [hen]
  have e2 : cellsN (nstC src.length (List.replicate n ([] : List α))) (List.replicate n ([] : List α)).length = cellsN (nstC src.length (List.replicate n ([] : List α))) n := by rw [List.length_replicate]
  unfold nstR
  rw [e1, e2]
  refine ⟨rfl, rfl, by rw [cellsN_len (nst_wd _ _), cellsN_len (sz := 1) (fun _ => rfl)], Rens.cellsN fun i hi => ⟨Rens.cons (Ren.nilR (o := none) ?_ ?_) Rens.nil, rfl⟩⟩
  . rw [idx_get (by omega), if_neg (by omega)]
  . simp only [lat, List.getD_eq_getElem?_getD]
    rw [List.getElem?_replicate]
    split <;> rfl
theorem nst_ca {A : List AObj} {h : List AObj} {q0 q ot : Nat} {vs : List (List α)} {i : Int} (ho : h[q0]? = some (nstR ot q vs)) (hi : 0 <= i /\ i < (vs.length : Int)) : ∃ rest, cellsAt h (.ptr q0 (i.toNat * 1)) = some (.ref true (q + i.toNat) (lat vs i).length :: rest) := by
  obtain ⟨rest, hr⟩ := ca_N (k := 0) ho (nst_wd q vs) (i := i.toNat) (by omega) (Nat.zero_le _)
  refine ⟨rest, ?_⟩
  rw [Nat.add_zero] at hr
  rw [hr]
  have : ((i.toNat : Nat) : Int) = i := by omega
  simp only [nstC, this, List.drop_zero]
  rfl
theorem nst_row {A news : List AObj} {t : TypeId} {sz : Nat} {en : α -> List AV} {vs : List (List α)} {a j : Nat} {i : Int} (ha : A.length = a) (hj : i.toNat = j) (hi : 0 <= i /\ i < (vs.length : Int)) : (A ++ nstT t sz en vs ++ news)[a + j]? = some (.row t sz (zYy en (lat vs i))) := by
  subst ha; subst hj
  rw [List.getElem?_append_left (by rw [List.length_append, nstT_len]; omega)]
  have : (A ++ nstT t sz en vs)[A.length + i.toNat]? = some (nstO t sz en vs i.toNat) := objsN_getA (by omega)
  rw [this]
  unfold nstO
  rw [show ((i.toNat : Nat) : Int) = i by omega]
theorem nst_low {A news : List AObj} {t : TypeId} {sz : Nat} {en : α -> List AV} {vs : List (List α)} {a j q0 : Nat} {o x y : AObj} (ha : A.length = a) (h : A[q0]? = some o) : ((A ++ nstT t sz en vs ++ news).set (a + j) x ++ [y])[q0]? = some o := by
  subst ha
  have hq := (List.getElem?_eq_some_iff.1 h).1
  rw [List.getElem?_append_left (by rw [List.length_set, List.length_append, List.length_append]; omega), List.getElem?_set_ne (by omega), List.append_assoc, List.getElem?_append_left hq]
  exact h
def gA (a n j i : Nat) : Option Nat := if i = a + j then some (a + n + 1) else some i
theorem gA_lt {a n j i : Nat} (h : Nat.blt i a = true) : (idx (a + n) (gA a n j))[i]? = some (some i) := by
  have h : i < a := Nat.le_of_ble_eq_true h
  rw [idx_get (by omega)]
  unfold gA
  rw [if_neg (by omega)]
def slotsA (φ : List (Option Nat)) : List AObj -> List AObj -> Prop
  | [], [] => True
  | o0 :: A, o :: l => (o = .dead \/ RenO φ o0 o) /\ slotsA φ A l
  | _, _ => False
theorem slotsA_at {φ : List (Option Nat)} : ∀ {A l : List AObj}, slotsA φ A l -> A.length = l.length /\ ∀ (i : Nat) o, l[i]? = some o -> ∃ o0, A[i]? = some o0 /\ (o = .dead \/ RenO φ o0 o)
  | [], [], _ => ⟨rfl, fun i o h => by simp at h⟩
  | [], _ :: _, h => h.elim
  | _ :: _, [], h => h.elim
  | o0 :: A, o :: l, h => by
    obtain ⟨h1, h2⟩ := slotsA_at h.2
    refine ⟨by simp [h1], fun i o' hi => ?_⟩
    rcases i with _ | i
    . simp at hi; subst hi; exact ⟨o0, rfl, h.1⟩
    . exact h2 i o' (by simpa using hi)
theorem ren_nstA {a n j ot m : Nat} {vs vs' : List (List α)} {w : List α} (hn : vs.length = n) (hj : j < n) (hv : vs' = vs.set j w) (hm : w.length = m) : RenO (idx (a + n) (gA a n j)) (.row ot 1 (cellsN (fun k => if k = j then [.ref true (a + n + 1) m] else nstC a vs k) n)) (nstR ot a vs') := by
  subst hn; subst hv; subst hm
  have hl : (vs.set j w).length = vs.length := List.length_set
  unfold nstR
  rw [hl]
  refine ⟨rfl, rfl, by rw [cellsN_len (nst_wd _ _), cellsN_len (sz := 1) (fun k => by split <;> rfl)], Rens.cellsN fun i hi => ?_⟩
  by_cases e : i = j
  . subst e
    rw [if_pos rfl]
    have : lat (vs.set i w) (i : Int) = w := by simp [lat, hi]
    refine ⟨Rens.cons (Ren.refL (id := a + vs.length + 1) ?_ (fun h => h) (by rw [this])) Rens.nil, rfl⟩
    rw [idx_get (by omega)]; unfold gA; rw [if_pos rfl]
  . rw [if_neg e]
    have : lat (vs.set j w) (i : Int) = lat vs (i : Int) := by
      simp only [lat, List.getD_eq_getElem?_getD, Int.toNat_natCast]
      rw [List.getElem?_set_ne (Ne.symm e)]
    refine ⟨Rens.cons (Ren.refL (id := a + i) ?_ (fun h => h) (by rw [this])) Rens.nil, rfl⟩
    rw [idx_get (by omega)]; unfold gA; rw [if_neg (by omega)]
theorem to_nstA {nt : Nat} {tm : Nat -> AV} {l : List (Nat × AV)} {A A' : List AObj} {t ot : TypeId} {sz : Nat} {en : α -> List AV} {ef : Bool -> α -> List AV} (he : Enc ef sz) (hen : en = ef false) {vs vs' : List (List α)} {w : List α} {w1 : AObj} {a n j q0 m : Nat} (ha : A.length = a) (hn : vs.length = n) (hj : j < n) (hv : vs' = vs.set j w) (hm : w.length = m) (hq : Nat.blt q0 a = true)
    (hr : regsT (idx (a + n) (gA a n j)) tm l) (hA : slotsA (idx (a + n) (gA a n j)) (A.set q0 (AObj.row ot 1 (cellsN (fun k => if k = j then [AV.ref true (a + n + 1) m] else nstC a vs k) n))) A') :
    St.to ⟨nt, tm, ((A ++ nstT t sz en vs ++ [w1]).set (a + j) .dead ++ [AObj.row t sz (zYy en w)]).set q0 (AObj.row ot 1 (cellsN (fun k => if k = j then [AV.ref true (a + n + 1) m] else nstC a vs k) n)), 0⟩ ⟨nt, look l, A' ++ nstT t sz en vs', 0⟩ := by
  subst ha; subst hn; subst hv; subst hm; subst hen
  have hq : q0 < A.length := Nat.le_of_ble_eq_true hq
  obtain ⟨hAl, hAt⟩ := slotsA_at hA
  rw [List.length_set] at hAl
  have hl : (vs.set j w).length = vs.length := List.length_set
  have hlen : (A' ++ nstT t sz (ef false) (vs.set j w)).length = A.length + vs.length := by rw [List.length_append, nstT_len, hl, hAl]
  generalize hO : (AObj.row ot 1 (cellsN (fun k => if k = j then [AV.ref true (A.length + vs.length + 1) w.length] else nstC A.length vs k) vs.length)) = O at *
  have hh := RenH.idx (g := gA A.length vs.length j) (h := ((A ++ nstT t sz (ef false) vs ++ [w1]).set (A.length + j) .dead ++ [AObj.row t sz (zYy (ef false) w)]).set q0 O) (h' := A' ++ nstT t sz (ef false) (vs.set j w)) (by
    rw [hlen]
    intro i o hi
    right
    rcases Nat.lt_or_ge i A'.length with h1 | h1
    . rw [List.getElem?_append_left h1] at hi
      obtain ⟨o0, h2, h3⟩ := hAt i o hi
      refine ⟨i, by unfold gA; rw [if_neg (by omega)], h3.imp id fun h3 => ⟨o0, ?_, h3⟩⟩
      by_cases e : q0 = i
      . subst e
        rw [List.getElem?_set_self (by omega)] at h2
        rw [List.getElem?_set_self (by simp; omega)]
        exact h2
      . rw [List.getElem?_set_ne e] at h2 ⊢
        rw [List.getElem?_append_left (by rw [List.length_set, List.length_append, List.length_append]; omega), List.getElem?_set_ne (by omega), List.append_assoc, List.getElem?_append_left (by omega)]
        exact h2
    . have hil := (List.getElem?_eq_some_iff.1 hi).1
      rw [hlen] at hil
      rw [List.getElem?_append_right h1] at hi
      have hk : i - A'.length < (vs.set j w).length := by omega
      unfold nstT at hi
      rw [objsN_get hk] at hi
      cases hi
      by_cases e : i = A.length + j
      . refine ⟨A.length + vs.length + 1, by unfold gA; rw [if_pos e], .inr ⟨.row t sz (zYy (ef false) w), ?_, ?_⟩⟩
        . have hL : ((A ++ nstT t sz (ef false) vs ++ [w1]).set (A.length + j) .dead).length = A.length + vs.length + 1 := by rw [List.length_set, List.length_append, List.length_append, nstT_len]; rfl
          rw [List.getElem?_set_ne (by omega), List.getElem?_append_right (by rw [hL]; exact Nat.le_refl _), hL, Nat.sub_self]; rfl
        . have : lat (vs.set j w) ((i - A'.length : Nat) : Int) = w := by rw [show i - A'.length = j by omega]; simp [lat, hj]
          unfold nstO
          rw [this]
          exact ⟨rfl, rfl, rfl, Rens.enc he false _⟩
      . refine ⟨i, by unfold gA; rw [if_neg e], .inr ⟨nstO t sz (ef false) vs (i - A.length), ?_, ?_⟩⟩
        . rw [List.getElem?_set_ne (by omega), List.getElem?_append_left (by rw [List.length_set, List.length_append, List.length_append, nstT_len]; omega), List.getElem?_set_ne (by omega), List.getElem?_append_left (by rw [List.length_append, nstT_len]; omega)]
          have : (A ++ nstT t sz (ef false) vs)[A.length + (i - A.length)]? = some (nstO t sz (ef false) vs (i - A.length)) := objsN_getA (by omega)
          rwa [show A.length + (i - A.length) = i by omega] at this
        . have : lat (vs.set j w) ((i - A'.length : Nat) : Int) = lat vs ((i - A.length : Nat) : Int) := by
            simp only [lat, List.getD_eq_getElem?_getD, Int.toNat_natCast]
            rw [List.getElem?_set_ne (by omega), hAl]
          unfold nstO
          rw [this]
          exact ⟨rfl, rfl, rfl, Rens.enc he false _⟩)
  rw [hlen] at hh
  refine St.to_mk (injB_idx fun i k q hi hk h1 h2 => ?_) (by simp [pinB, pinF]) hr hh
  unfold gA at h1 h2
  split at h1 <;> split at h2 <;> cases h1 <;> simp at h2 <;> omega
theorem nst_len1 {A : List AObj} {t : TypeId} {sz : Nat} {en : α -> List AV} {vs : List (List α)} {a : Nat} {x : AObj} (h : A.length = a) : (A ++ nstT t sz en vs ++ [x]).length = a + vs.length + 1 := by rw [List.length_append, nst_len h]; rfl
theorem nst_new {A : List AObj} {t : TypeId} {sz : Nat} {en : α -> List AV} {vs : List (List α)} {a : Nat} {x : AObj} (h : A.length = a) : (A ++ nstT t sz en vs ++ [x])[a + vs.length]? = some x := by
  rw [<- nst_len (t := t) (sz := sz) (en := en) (vs := vs) h]; exact last_get _ _
theorem to_nstS {nt : Nat} {tm : Nat -> AV} {l : List (Nat × AV)} {A A' : List AObj} {x y : AObj} {t : TypeId} {sz : Nat} {en : α -> List AV} {ef : Bool -> α -> List AV} (he : Enc ef sz) (hen : en = ef false) {vs : List (List α)} (src : List (Option (Nat ⊕ Nat))) {a n : Nat} (ha : A.length = a) (hn : vs.length = n) (hok : okS a src = true)
    (hr : regsT (idx (src.length + n) (gS src a n)) tm l) (hA : slotsOk (idx (src.length + n) (gS src a n)) A [y] src A') : St.to ⟨nt, tm, (A ++ nstT t sz en vs ++ [x]).set (a + n) y, 0⟩ ⟨nt, look l, A' ++ nstT t sz en vs, 0⟩ := by
  have e : (A ++ nstT t sz en vs ++ [x]).set (a + n) y = A ++ nstT t sz en vs ++ [y] := by
    rw [<- hn, <- nst_len (t := t) (sz := sz) (en := en) (vs := vs) ha]; exact last_set _ _ _
  rw [e]
  exact to_nst he hen src ha hn hok hr hA
theorem rs_nst (k : Nat) {A : List AObj} {t ot : TypeId} {sz : Nat} {ef : Bool -> α -> List AV} (he : Enc ef sz) {vs : List (List α)} {a q0 n : Nat} (nb : Bool) (ha : A.length = a) (ho : A[q0]? = some (nstR ot a vs)) (hn : n = vs.length) : Wk (cvO (k + 3) (A ++ nstT t sz (ef false) vs) (.ref nb q0 n)) (.lst false n (zYy (eSl (ef true) true) vs)) := by
  subst ha
  have hq := (List.getElem?_eq_some_iff.1 ho).1
  have e1 : (A ++ nstT t sz (ef false) vs)[q0]? = some (nstR ot A.length vs) := by rw [List.getElem?_append_left hq]; exact ho
  have e2 : cvO (k + 3) (A ++ nstT t sz (ef false) vs) (.ref nb q0 n) = .lst false n (((cellsN (nstC A.length vs) vs.length).take (n * 1)).map (cvI (k + 2) (A ++ nstT t sz (ef false) vs))) := by
    unfold nstR at e1
    simp only [cvO, e1]
  rw [e2]
  refine Wk.lsts _ _ ?_
  rw [List.take_of_length_le (by rw [cellsN_len (nst_wd _ _), hn]; exact Nat.le_refl _), cellsN_map, cellsN_encL]
  refine Wks.cellsN fun i hi => ?_
  refine Wks.cons ?_ (Wks.refl _)
  have hb : (A ++ nstT t sz (ef false) vs)[A.length + i]? = some (nstO t sz (ef false) vs i) := objsN_getA hi
  have e3 : cvI (k + 2) (A ++ nstT t sz (ef false) vs) (.ref true (A.length + i) (lat vs (i : Int)).length) = .lst true (lat vs (i : Int)).length (((zYy (ef false) (lat vs (i : Int))).take ((lat vs (i : Int)).length * sz)).map (cvI (k + 1) (A ++ nstT t sz (ef false) vs))) := by
    unfold nstO at hb
    simp only [cvI, hb]
  rw [e3, List.take_of_length_le (by rw [zYw (he.wd false)]; exact Nat.le_refl _)]
  exact Wk.lsts _ _ (encL_ci he k _ _)
theorem W.toQ {P : Program} {T : TT} {st : St} {Q : Ex -> St -> Prop} {c : Code} (st' : St) (h : W P T c st fun e s => e = .nrm /\ s.to st') (h2 : Q .nrm st') : W P T c st Q := fun hT hf ro hro n X D w0 mA r m a w hR =>
  wpIn_mono (h hT hf ro hro n X D w0 mA r m a w hR) fun e a' w' hq => by
    cases e <;> simp only [relQ] at hq ⊢ <;> try exact hq
    . obtain ⟨ms, r', m', s, h0, ⟨_, hs⟩, hR'⟩ := hq
      obtain ⟨φ, l, h1, h2', h3, h4, h5, h6, h7⟩ := hs
      obtain ⟨nt, tm, hp, ho⟩ := st'
      simp only at h1 h2' h3 h7
      subst h1; subst h2'; subst h3
      exact ⟨ms, _, m', _, h0, h2, hR'.ren φ h4 h5 (regsT_look h6) h7⟩
    . obtain ⟨_, _, _, _, _, ⟨hx, _⟩, _⟩ := hq; cases hx
    . obtain ⟨_, _, _, _, _, ⟨hx, _⟩, _⟩ := hq; cases hx
theorem W.rPmT1 {P : Program} {T : TT} {st : St} {Q : Ex -> St -> Prop} {id : Nat} {ol : List Oper} (st' : St) (ord : List Nat) (hc : chk ol.toArray ord = true) (hl : allIn ol ord = true) (h1 : seqL P T ol [] 0 (pickL ol ord) st fun s => .nrm = Ex.nrm /\ s.to st') (h2 : Q .nrm st') : W P T (.region id ol.toArray true) st Q := W.toQ st' (W.rP1 ord hc hl h1) h2
def eU1 (_ : Unit) : List AV := [.nilS]
end
end Go.Lat
namespace Go.Lat
open Go.RowKit Go.Proofs
attribute [local irreducible] seqL opC
def vc_rrun (sv : (List Int)) (jobs : (List Job)) (Post : (List (List Vis)) -> Int -> Prop) : Prop :=
  (sv.length <= 9223372036854775807) /\ (∀ j ∈ jobs, j.wk.length <= 9223372036854775807) /\ (jobs.length <= 9223372036854775807) /\ ((¬ ((validJ sv jobs) = true)) -> Post [] (230 : Int)) /\ (¬ (¬ ((validJ sv jobs) = true)) -> (0 <= (jobs.length : Int) /\ (jobs.length : Int) <= 1073741824) /\ (0 <= (sv.length : Int) /\ (sv.length : Int) <= 1073741824) /\ (0 <= (jobs.length : Int) /\ (jobs.length : Int) <= 1073741824) /\ ∃ (I1 : Int -> List Int -> Prop) (μ1 : Int -> List Int -> Nat), I1 (0 : Int) (List.replicate (jobs.length : Int).toNat ((0 : Int) : Int)) /\ ∀ (v9 : Int) (r2 : List Int), I1 v9 r2 -> ((v9 < (jobs.length : Int)) -> (0 <= v9 /\ v9 < (jobs.length : Int)) /\ (0 <= v9 /\ v9 < (r2.length : Int)) /\ (inI (v9 + (1 : Int))) /\ (I1 (v9 + (1 : Int)) (r2.set v9.toNat ((lat jobs v9).ar)) /\ μ1 (v9 + (1 : Int)) (r2.set v9.toNat ((lat jobs v9).ar)) < μ1 v9 r2)) /\ (¬ (v9 < (jobs.length : Int)) -> ∃ (I2 : List (List Vis) -> List (Vector Int 4) -> List Int -> Prop) (μ2 : List (List Vis) -> List (Vector Int 4) -> List Int -> Nat), I2 (List.replicate (jobs.length : Int).toNat ([] : (List Vis))) (List.replicate (sv.length : Int).toNat (Vector.replicate 4 0 : (Vector Int 4))) r2 /\ ∀ (r0 : List (List Vis)) (r1 : List (Vector Int 4)) (r2_1 : List Int), I2 r0 r1 r2_1 -> ∃ (I3 : Int -> Int -> Prop) (μ3 : Int -> Int -> Nat), I3 (-1 : Int) (0 : Int) /\ ∀ (v10 : Int) (v11 : Int), I3 v10 v11 -> ((v11 < (jobs.length : Int)) -> ∃ J4 : Int -> Prop, (∀ (v10_1 : Int), J4 v10_1 -> (inI (v11 + (1 : Int))) /\ (I3 v10_1 (v11 + (1 : Int)) /\ μ3 v10_1 (v11 + (1 : Int)) < μ3 v10 v11)) /\ (((0 <= v11 /\ v11 < (r0.length : Int)) /\ (0 <= v11 /\ v11 < (jobs.length : Int)) /\ ((((lat r0 v11).length : Int) < (((lat jobs v11).wk).length : Int)) -> ((v10 < (0 : Int)) -> True) /\ (¬ (v10 < (0 : Int)) -> (0 <= v11 /\ v11 < (r2_1.length : Int)) /\ (0 <= v10 /\ v10 < (r2_1.length : Int)) /\ True)) /\ (¬ (((lat r0 v11).length : Int) < (((lat jobs v11).wk).length : Int)) -> True)) /\ ((((((lat r0 v11).length : Int) < (((lat jobs v11).wk).length : Int)) /\ ((v10 < (0 : Int)) \/ ((lat r2_1 v11) < (lat r2_1 v10)))) -> J4 v11) /\ (¬ ((((lat r0 v11).length : Int) < (((lat jobs v11).wk).length : Int)) /\ ((v10 < (0 : Int)) \/ ((lat r2_1 v11) < (lat r2_1 v10)))) -> J4 v10)))) /\ (¬ (v11 < (jobs.length : Int)) -> ((v10 < (0 : Int)) -> Post r0 (0 : Int)) /\ (¬ (v10 < (0 : Int)) -> (0 <= v10 /\ v10 < (jobs.length : Int)) /\ (0 <= v10 /\ v10 < (r0.length : Int)) /\ (0 <= ((lat r0 v10).length : Int) /\ ((lat r0 v10).length : Int) < (((lat jobs v10).wk).length : Int)) /\ ∃ (I5 : Int -> Int -> Prop) (μ5 : Int -> Int -> Nat), I5 (0 : Int) (1 : Int) /\ ∀ (v13 : Int) (v14 : Int), I5 v13 v14 -> (0 <= ((lat ((lat jobs v10).wk) ((lat r0 v10).length : Int)).st) /\ ((lat ((lat jobs v10).wk) ((lat r0 v10).length : Int)).st) < (sv.length : Int)) /\ ((v14 < (lat sv ((lat ((lat jobs v10).wk) ((lat r0 v10).length : Int)).st))) -> ∃ J6 : Int -> Prop, (∀ (v13_1 : Int), J6 v13_1 -> (inI (v14 + (1 : Int))) /\ (I5 v13_1 (v14 + (1 : Int)) /\ μ5 v13_1 (v14 + (1 : Int)) < μ5 v13 v14)) /\ ((0 <= ((lat ((lat jobs v10).wk) ((lat r0 v10).length : Int)).st) /\ ((lat ((lat jobs v10).wk) ((lat r0 v10).length : Int)).st) < (r1.length : Int)) /\ (0 <= v14 /\ v14 < ((4 : Nat) : Int)) /\ (0 <= ((lat ((lat jobs v10).wk) ((lat r0 v10).length : Int)).st) /\ ((lat ((lat jobs v10).wk) ((lat r0 v10).length : Int)).st) < (r1.length : Int)) /\ (0 <= v13 /\ v13 < ((4 : Nat) : Int)) /\ (((vat (lat r1 ((lat ((lat jobs v10).wk) ((lat r0 v10).length : Int)).st)) v14.toNat) < (vat (lat r1 ((lat ((lat jobs v10).wk) ((lat r0 v10).length : Int)).st)) v13.toNat)) -> J6 v14) /\ (¬ ((vat (lat r1 ((lat ((lat jobs v10).wk) ((lat r0 v10).length : Int)).st)) v14.toNat) < (vat (lat r1 ((lat ((lat jobs v10).wk) ((lat r0 v10).length : Int)).st)) v13.toNat)) -> J6 v13))) /\ (¬ (v14 < (lat sv ((lat ((lat jobs v10).wk) ((lat r0 v10).length : Int)).st))) -> (0 <= v10 /\ v10 < (r2_1.length : Int)) /\ (0 <= ((lat ((lat jobs v10).wk) ((lat r0 v10).length : Int)).st) /\ ((lat ((lat jobs v10).wk) ((lat r0 v10).length : Int)).st) < (r1.length : Int)) /\ (0 <= v13 /\ v13 < ((4 : Nat) : Int)) /\ (inI ((max (lat r2_1 v10) (vat (lat r1 ((lat ((lat jobs v10).wk) ((lat r0 v10).length : Int)).st)) v13.toNat)) + ((lat ((lat jobs v10).wk) ((lat r0 v10).length : Int)).tm))) /\ (0 <= ((lat ((lat jobs v10).wk) ((lat r0 v10).length : Int)).st) /\ ((lat ((lat jobs v10).wk) ((lat r0 v10).length : Int)).st) < (r1.length : Int)) /\ (0 <= v13 /\ v13 < ((4 : Nat) : Int)) /\ (0 <= v10 /\ v10 < (r2_1.length : Int)) /\ (0 <= v10 /\ v10 < (r0.length : Int)) /\ (((lat r0 v10) ++ [(Vis.mk (lat r2_1 v10) (max (lat r2_1 v10) (vat (lat r1 ((lat ((lat jobs v10).wk) ((lat r0 v10).length : Int)).st)) v13.toNat)) ((max (lat r2_1 v10) (vat (lat r1 ((lat ((lat jobs v10).wk) ((lat r0 v10).length : Int)).st)) v13.toNat)) + ((lat ((lat jobs v10).wk) ((lat r0 v10).length : Int)).tm)))]).length <= 1073741824) /\ (I2 (r0.set v10.toNat ((lat r0 v10) ++ [(Vis.mk (lat r2_1 v10) (max (lat r2_1 v10) (vat (lat r1 ((lat ((lat jobs v10).wk) ((lat r0 v10).length : Int)).st)) v13.toNat)) ((max (lat r2_1 v10) (vat (lat r1 ((lat ((lat jobs v10).wk) ((lat r0 v10).length : Int)).st)) v13.toNat)) + ((lat ((lat jobs v10).wk) ((lat r0 v10).length : Int)).tm)))])) (r1.set ((lat ((lat jobs v10).wk) ((lat r0 v10).length : Int)).st).toNat (vset (lat r1 ((lat ((lat jobs v10).wk) ((lat r0 v10).length : Int)).st)) v13.toNat ((max (lat r2_1 v10) (vat (lat r1 ((lat ((lat jobs v10).wk) ((lat r0 v10).length : Int)).st)) v13.toNat)) + ((lat ((lat jobs v10).wk) ((lat r0 v10).length : Int)).tm)))) (r2_1.set v10.toNat ((max (lat r2_1 v10) (vat (lat r1 ((lat ((lat jobs v10).wk) ((lat r0 v10).length : Int)).st)) v13.toNat)) + ((lat ((lat jobs v10).wk) ((lat r0 v10).length : Int)).tm))) /\ μ2 (r0.set v10.toNat ((lat r0 v10) ++ [(Vis.mk (lat r2_1 v10) (max (lat r2_1 v10) (vat (lat r1 ((lat ((lat jobs v10).wk) ((lat r0 v10).length : Int)).st)) v13.toNat)) ((max (lat r2_1 v10) (vat (lat r1 ((lat ((lat jobs v10).wk) ((lat r0 v10).length : Int)).st)) v13.toNat)) + ((lat ((lat jobs v10).wk) ((lat r0 v10).length : Int)).tm)))])) (r1.set ((lat ((lat jobs v10).wk) ((lat r0 v10).length : Int)).st).toNat (vset (lat r1 ((lat ((lat jobs v10).wk) ((lat r0 v10).length : Int)).st)) v13.toNat ((max (lat r2_1 v10) (vat (lat r1 ((lat ((lat jobs v10).wk) ((lat r0 v10).length : Int)).st)) v13.toNat)) + ((lat ((lat jobs v10).wk) ((lat r0 v10).length : Int)).tm)))) (r2_1.set v10.toNat ((max (lat r2_1 v10) (vat (lat r1 ((lat ((lat jobs v10).wk) ((lat r0 v10).length : Int)).st)) v13.toNat)) + ((lat ((lat jobs v10).wk) ((lat r0 v10).length : Int)).tm))) < μ2 r0 r1 r2_1))))))
theorem walk_rrun {sv : (List Int)} {jobs : (List Job)} {Post : (List (List Vis)) -> Int -> Prop} (hv : vc_rrun sv jobs Post) : FnP Try.prog 60 [.lst true sv.length (zYy zYx sv), .lst true jobs.length (zYy (e53 true) jobs)] (fun x => ∃ q0 q1, x = .tup [.lst false q0.length (zYy (eSl e87 true) q0), .int .i64 q1] /\ Post q0 q1) := by
 refine FnP.of_walk (T := tt) (nt := 163) ttOk ttMix ⟨⟨Try.f60, Try.func60, rfl, rfl, rfl, rfl⟩⟩ (by simp) ?_
 unfold vc_rrun at hv
 change W _ _ _ ⟨163, look [(0, .lst true sv.length (zYy zYx sv)), (1, .lst true jobs.length (zYy (e53 true) jobs))], [], 0⟩ _
 refine W.ty [(0, .lst _ _ _), (1, .lst _ _ _)] rfl (W.rL (cL rfl (zZq (v := .nilS) rfl (aI rfl rfl (eL (W.ty [(0, .lst _ _ _), (1, .lst _ _ _)] rfl (W.seq' (W.rL ?_))))))))
 iterate 2 refine mL rfl rfl ?_
 obtain ⟨s4, s5, s6, hv⟩ := hv
 refine cL rfl (zZu (k := 38) (fst := []) (caps := []) (ys := [.lst _ _ _, .lst _ _ _]) rfl rfl (spec_rmvalid sv jobs s4 s5 s6) zk (cL rfl (o_notB rfl (eL (W.ty [(0, .lst _ _ _), (1, .lst _ _ _), (19, .bool _)] rfl (W.cn rfl (fun hc => ?_) (fun hc => ?_)))))))
 have hv := hv.1 hc
 refine W.rL (cL rfl (zZq (v := .nilS) rfl (aI rfl rfl (eL (W.ty [(4, .nilS), (5, .int _ _)] rfl (W.ret (zZr (rt (rt_t (v := .nilS) rfl (rt_t (v := .int _ _) rfl (rt_n (⟨_, rs_tup 5 _ (Wks.cons (rs_nil _ _ _ _ rfl) (Wks.cons (zY _ _ _ _) zk)), [], (230 : Int), rfl, hv⟩))))))))))))
 have hv := hv.2 hc
 refine W.skip (zZ (W.ty [(0, .lst _ _ _), (1, .lst _ _ _)] rfl ?_))
 obtain ⟨s7, hv⟩ := hv
 refine W.rLmT ⟨163, look [(0, .lst true sv.length (zYy zYx sv)), (1, .lst true jobs.length (zYy (e53 true) jobs)), (6, .ref false 0 ((List.replicate (jobs.length : Int).toNat ([] : (List Vis))).length))], [nstR 102 1 (List.replicate (jobs.length : Int).toNat ([] : (List Vis)))] ++ nstT 87 3 e87 (List.replicate (jobs.length : Int).toNat ([] : (List Vis))), 0⟩ ?_ ?_
 refine mL rfl rfl (cL rfl (zXw (v := .lst _ _ _) tt23 rfl rfl (cL rfl (o_mkS (p := 0) (en := eU1) (x0 := ()) tt99 tt102 rfl rfl rfl (fun _ => rfl) rfl s7 rfl ?_))))
 refine cL rfl (zZq (v := .ref _ _ _) rfl (eL (to_nstM (t := 87) (sz := 3) (en := e87) (n := (jobs.length : Int).toNat) [some (.inl 0)] (a := 1) rfl rfl ⟨Ren.lst _ _ _, Ren.lst _ _ _, Ren.refL (gM_inl rfl) id (by simp), trivial⟩ ⟨.inr ⟨_, rfl, (ren_nstM rfl rfl)⟩, trivial⟩)))
 obtain ⟨s8, hv⟩ := hv
 refine W.rLmT ⟨163, look [(0, .lst true sv.length (zYy zYx sv)), (1, .lst true jobs.length (zYy (e53 true) jobs)), (6, .ref false 0 ((List.replicate (jobs.length : Int).toNat ([] : (List Vis))).length)), (7, .ref false 1 ((List.replicate (sv.length : Int).toNat (Vector.replicate 4 0 : (Vector Int 4))).length))], [nstR 102 2 (List.replicate (jobs.length : Int).toNat ([] : (List Vis))), .row 90 4 (zYy eV4 (List.replicate (sv.length : Int).toNat (Vector.replicate 4 0 : (Vector Int 4))))] ++ nstT 87 3 e87 (List.replicate (jobs.length : Int).toNat ([] : (List Vis))), 0⟩ ?_ ?_
 refine mL rfl rfl (cL rfl (zXw (v := .lst _ _ _) tt22 rfl rfl (cL rfl (o_mkS (p := (1 + (List.replicate (jobs.length : Int).toNat ([] : (List Vis))).length)) (x0 := (Vector.replicate 4 0 : (Vector Int 4))) tt63 tt90 rfl rfl rfl (encV4.wd false) rfl s8 (nst_len rfl) (cL rfl (zZq (v := .ref _ _ _) rfl (eL (to_nst enc87 rfl [some (.inl 0), some (.inr 0)] (a := 1) (n := (List.replicate (jobs.length : Int).toNat ([] : (List Vis))).length) rfl rfl rfl ⟨Ren.lst _ _ _, Ren.lst _ _ _, Ren.ref (gS_inl rfl) id, Ren.refL (gS_in0 rfl) id (by simp), trivial⟩ ⟨.inr ⟨_, rfl, (ren_nstR rfl rfl)⟩, .inr ⟨_, rfl, ⟨rfl, rfl, rfl, Rens.enc encV4 false (List.replicate (sv.length : Int).toNat (Vector.replicate 4 0 : (Vector Int 4)))⟩⟩, trivial⟩))))))))
 obtain ⟨s9, hv⟩ := hv
 refine W.rLmT ⟨163, look [(0, .lst true sv.length (zYy zYx sv)), (1, .lst true jobs.length (zYy (e53 true) jobs)), (6, .ref false 0 ((List.replicate (jobs.length : Int).toNat ([] : (List Vis))).length)), (7, .ref false 1 ((List.replicate (sv.length : Int).toNat (Vector.replicate 4 0 : (Vector Int 4))).length)), (8, .ref false 2 ((List.replicate (jobs.length : Int).toNat ((0 : Int) : Int)).length))], [nstR 102 3 (List.replicate (jobs.length : Int).toNat ([] : (List Vis))), .row 90 4 (zYy eV4 (List.replicate (sv.length : Int).toNat (Vector.replicate 4 0 : (Vector Int 4)))), .row 3 1 (zYy zYx (List.replicate (jobs.length : Int).toNat ((0 : Int) : Int)))] ++ nstT 87 3 e87 (List.replicate (jobs.length : Int).toNat ([] : (List Vis))), 0⟩ ?_ ?_
 refine mL rfl rfl (cL rfl (zXw (v := .lst _ _ _) tt23 rfl rfl (cL rfl (o_mkS (p := (2 + (List.replicate (jobs.length : Int).toNat ([] : (List Vis))).length)) (x0 := ((0 : Int) : Int)) tt22 tt3 rfl rfl rfl (zZw.wd false) rfl s9 (nst_len rfl) (cL rfl (zZq (v := .ref _ _ _) rfl (eL (to_nst enc87 rfl [some (.inl 0), some (.inl 1), some (.inr 0)] (a := 2) (n := (List.replicate (jobs.length : Int).toNat ([] : (List Vis))).length) rfl rfl rfl ⟨Ren.lst _ _ _, Ren.lst _ _ _, Ren.ref (gS_inl rfl) id, Ren.ref (gS_inl rfl) id, Ren.refL (gS_in0 rfl) id (by simp), trivial⟩ ⟨.inr ⟨_, rfl, (ren_nstR rfl rfl)⟩, .inr ⟨_, rfl, ⟨rfl, rfl, rfl, Rens.enc encV4 false (List.replicate (sv.length : Int).toNat (Vector.replicate 4 0 : (Vector Int 4)))⟩⟩, .inr ⟨_, rfl, ⟨rfl, rfl, rfl, Rens.enc zZw false (List.replicate (jobs.length : Int).toNat ((0 : Int) : Int))⟩⟩, trivial⟩))))))))
 refine W.seq' (W.rL (aI rfl rfl (eL (W.tz [(0, .lst _ _ _), (1, .lst _ _ _), (6, .ref _ _ _), (7, .ref _ _ _), (8, .ref _ _ _), (9, .int _ _)] ([nstR _ _ _, .row _ _ _, .row _ _ _] ++ nstT _ _ _ _) rfl rfl (W.block ?_)))))
 obtain ⟨I1, μ1, hp, hv⟩ := hv
 refine W.loop2 (fun v9 r2 => ⟨163, look [(0, .lst true sv.length (zYy zYx sv)), (1, .lst true jobs.length (zYy (e53 true) jobs)), (6, .ref false 0 ((List.replicate (jobs.length : Int).toNat ([] : (List Vis))).length)), (7, .ref false 1 ((List.replicate (sv.length : Int).toNat (Vector.replicate 4 0 : (Vector Int 4))).length)), (8, .ref false 2 r2.length), (9, .int .i64 v9)], [nstR 102 3 (List.replicate (jobs.length : Int).toNat ([] : (List Vis))), .row 90 4 (zYy eV4 (List.replicate (sv.length : Int).toNat (Vector.replicate 4 0 : (Vector Int 4)))), .row 3 1 (zYy zYx r2)] ++ nstT 87 3 e87 (List.replicate (jobs.length : Int).toNat ([] : (List Vis))), 0⟩) I1 μ1 (0 : Int) (List.replicate (jobs.length : Int).toNat ((0 : Int) : Int)) (to_nst0 enc87 rfl [some (.inl 0), some (.inl 1), some (.inl 2)] (a := 3) (n := (List.replicate (jobs.length : Int).toNat ([] : (List Vis))).length) rfl rfl rfl ⟨Ren.lst _ _ _, Ren.lst _ _ _, Ren.refL (gS_inl rfl) id (by simp), Ren.refL (gS_inl rfl) id (by simp), Ren.refL (gS_inl rfl) id (by simp), Ren.int _ _, trivial⟩ ⟨.inr ⟨_, rfl, (ren_nstR rfl rfl)⟩, zE encV4 false (List.replicate (sv.length : Int).toNat (Vector.replicate 4 0 : (Vector Int 4))) rfl, zE zZw false (List.replicate (jobs.length : Int).toNat ((0 : Int) : Int)) rfl, trivial⟩) hp ?_
 clear hp
 intro v9 r2 hI
 replace hv := hv v9 r2 hI
 clear hI
 refine W.seq' (W.rL (mI rfl rfl (mL rfl rfl (cL rfl (zXw (v := .lst _ _ _) tt23 rfl rfl (cL rfl (zYq rfl rfl (eL (W.tz [(0, .lst _ _ _), (1, .lst _ _ _), (6, .ref _ _ _), (7, .ref _ _ _), (8, .ref _ _ _), (9, .int _ _), (32, .bool _)] ([nstR _ _ _, .row _ _ _, .row _ _ _] ++ nstT _ _ _ _) rfl rfl (W.cn rfl (fun hc => ?_) (fun hc => ?_)))))))))))
 have hv := hv.1 hc
 refine W.skip (zZ (W.tz [(0, .lst _ _ _), (1, .lst _ _ _), (6, .ref _ _ _), (7, .ref _ _ _), (8, .ref _ _ _), (9, .int _ _)] ([nstR _ _ _, .row _ _ _, .row _ _ _] ++ nstT _ _ _ _) rfl rfl (W.seq' (W.block (W.rL1 (cL rfl (zZp (v := .ref _ _ _) rfl (mI rfl rfl (mL rfl rfl (mI rfl rfl ?_))))))))))
 obtain ⟨s37, hv⟩ := hv
 refine cL rfl (zYu tt23 tt53 rfl rfl (enc53.wd true) rfl s37 ?_)
 intro rest37
 refine cL rfl (o_faP tt53 rfl tt3 rfl (cL rfl (zZx (v := .int _ _) tt3 rfl rfl ⟨_, rfl⟩ ?_)))
 obtain ⟨s38, hv⟩ := hv
 refine cL rfl (o_iaR tt22 tt3 rfl rfl s38 (cLn (o_stR (v := .int _ _) tt3 rfl rfl rfl rfl rfl (row_in (xs := r2) (zZw.wd false) s38 rfl) (row_set (e := zYx) (zZw.wd false) _ _ ((lat jobs v9).ar) rfl s38.1 s38.2) (eL (zYv (zZ (W.tz [(0, .lst _ _ _), (1, .lst _ _ _), (6, .ref _ _ _), (7, .ref _ _ _), (8, .ref _ _ _), (9, .int _ _)] ([nstR _ _ _, .row _ _ _, .row _ _ _] ++ nstT _ _ _ _) rfl rfl (W.rL1 (mI rfl rfl ?_)))))))))
 obtain ⟨s39, hv⟩ := hv
 refine cL rfl (o_add rfl rfl s39 (aI rfl rfl (eL (zZ (⟨(), (v9 + (1 : Int)), (r2.set v9.toNat ((lat jobs v9).ar)), hv, to_nst0 enc87 rfl [some (.inl 0), some (.inl 1), some (.inl 2)] (a := 3) (n := (List.replicate (jobs.length : Int).toNat ([] : (List Vis))).length) rfl rfl rfl ⟨Ren.lst _ _ _, Ren.lst _ _ _, Ren.refL (gS_inl rfl) id (by simp), Ren.refL (gS_inl rfl) id (by simp), Ren.refL (gS_inl rfl) id (by simp), Ren.int _ _, trivial⟩ ⟨.inr ⟨_, rfl, (ren_nstR rfl rfl)⟩, zE encV4 false (List.replicate (sv.length : Int).toNat (Vector.replicate 4 0 : (Vector Int 4))) rfl, zE zZw false (r2.set v9.toNat ((lat jobs v9).ar)) rfl, trivial⟩⟩)))))
 have hv := hv.2 hc
 refine W.exit (zZt (zZt (zYs (zZ (W.tz [(0, .lst _ _ _), (1, .lst _ _ _), (6, .ref _ _ _), (7, .ref _ _ _), (8, .ref _ _ _)] ([nstR _ _ _, .row _ _ _, .row _ _ _] ++ nstT _ _ _ _) rfl rfl (W.block ?_))))))
 obtain ⟨I2, μ2, hp, hv⟩ := hv
 refine W.loop3 (fun r0 r1 r2_1 => ⟨163, look [(0, .lst true sv.length (zYy zYx sv)), (1, .lst true jobs.length (zYy (e53 true) jobs)), (6, .ref false 0 r0.length), (7, .ref false 1 r1.length), (8, .ref false 2 r2_1.length)], [nstR 102 3 r0, .row 90 4 (zYy eV4 r1), .row 3 1 (zYy zYx r2_1)] ++ nstT 87 3 e87 r0, 0⟩) I2 μ2 (List.replicate (jobs.length : Int).toNat ([] : (List Vis))) (List.replicate (sv.length : Int).toNat (Vector.replicate 4 0 : (Vector Int 4))) r2 (to_nst0 enc87 rfl [some (.inl 0), some (.inl 1), some (.inl 2)] (a := 3) (n := (List.replicate (jobs.length : Int).toNat ([] : (List Vis))).length) rfl rfl rfl ⟨Ren.lst _ _ _, Ren.lst _ _ _, Ren.refL (gS_inl rfl) id (by simp), Ren.refL (gS_inl rfl) id (by simp), Ren.ref (gS_inl rfl) id, trivial⟩ ⟨.inr ⟨_, rfl, (ren_nstR rfl rfl)⟩, zE encV4 false (List.replicate (sv.length : Int).toNat (Vector.replicate 4 0 : (Vector Int 4))) rfl, zE zZw false r2 rfl, trivial⟩) hp ?_
 clear hp
 intro r0 r1 r2_1 hI
 replace hv := hv r0 r1 r2_1 hI
 clear hI
 refine W.block (W.rL (aI rfl rfl (eL (W.tz [(0, .lst _ _ _), (1, .lst _ _ _), (6, .ref _ _ _), (7, .ref _ _ _), (8, .ref _ _ _), (10, .int _ _)] ([nstR _ _ _, .row _ _ _, .row _ _ _] ++ nstT _ _ _ _) rfl rfl (W.seq' (W.rL (aI rfl rfl (eL (W.tz [(0, .lst _ _ _), (1, .lst _ _ _), (6, .ref _ _ _), (7, .ref _ _ _), (8, .ref _ _ _), (10, .int _ _), (11, .int _ _)] ([nstR _ _ _, .row _ _ _, .row _ _ _] ++ nstT _ _ _ _) rfl rfl (W.block ?_))))))))))
 obtain ⟨I3, μ3, hp, hv⟩ := hv
 refine W.loop2 (fun v10 v11 => ⟨163, look [(0, .lst true sv.length (zYy zYx sv)), (1, .lst true jobs.length (zYy (e53 true) jobs)), (6, .ref false 0 r0.length), (7, .ref false 1 r1.length), (8, .ref false 2 r2_1.length), (10, .int .i64 v10), (11, .int .i64 v11)], [nstR 102 3 r0, .row 90 4 (zYy eV4 r1), .row 3 1 (zYy zYx r2_1)] ++ nstT 87 3 e87 r0, 0⟩) I3 μ3 (-1 : Int) (0 : Int) (to_nst0 enc87 rfl [some (.inl 0), some (.inl 1), some (.inl 2)] (a := 3) (n := r0.length) rfl rfl rfl ⟨Ren.lst _ _ _, Ren.lst _ _ _, Ren.ref (gS_inl rfl) id, Ren.ref (gS_inl rfl) id, Ren.ref (gS_inl rfl) id, Ren.int _ _, Ren.int _ _, trivial⟩ ⟨.inr ⟨_, rfl, (ren_nstR rfl rfl)⟩, zE encV4 false r1 rfl, zE zZw false r2_1 rfl, trivial⟩) hp ?_
 clear hp
 intro v10 v11 hI
 replace hv := hv v10 v11 hI
 clear hI
 refine W.seq' (W.rL (mI rfl rfl (mL rfl rfl (cL rfl (zXw (v := .lst _ _ _) tt23 rfl rfl (cL rfl (zYq rfl rfl (eL (W.tz [(0, .lst _ _ _), (1, .lst _ _ _), (6, .ref _ _ _), (7, .ref _ _ _), (8, .ref _ _ _), (10, .int _ _), (11, .int _ _), (46, .bool _)] ([nstR _ _ _, .row _ _ _, .row _ _ _] ++ nstT _ _ _ _) rfl rfl (W.cn rfl (fun hc => ?_) (fun hc => ?_)))))))))))
 have hv := hv.1 hc
 refine W.skip (zZ (W.tz [(0, .lst _ _ _), (1, .lst _ _ _), (6, .ref _ _ _), (7, .ref _ _ _), (8, .ref _ _ _), (10, .int _ _), (11, .int _ _)] ([nstR _ _ _, .row _ _ _, .row _ _ _] ++ nstT _ _ _ _) rfl rfl ?_))
 obtain ⟨J4, hj, hv⟩ := hv
 refine W.mid1 (fun v10_1 => ⟨163, look [(0, .lst true sv.length (zYy zYx sv)), (1, .lst true jobs.length (zYy (e53 true) jobs)), (6, .ref false 0 r0.length), (7, .ref false 1 r1.length), (8, .ref false 2 r2_1.length), (10, .int .i64 v10_1), (11, .int .i64 v11)], [nstR 102 3 r0, .row 90 4 (zYy eV4 r1), .row 3 1 (zYy zYx r2_1)] ++ nstT 87 3 e87 r0, 0⟩) J4 ?_ ?_
 intro v10_1
 intro hv
 replace hv := hj v10_1 hv
 refine W.rL1 (mI rfl rfl ?_)
 obtain ⟨s347, hv⟩ := hv
 refine cL rfl (o_add rfl rfl s347 (aI rfl rfl (eL (zZ (⟨(), v10_1, (v11 + (1 : Int)), hv, to_nst0 enc87 rfl [some (.inl 0), some (.inl 1), some (.inl 2)] (a := 3) (n := r0.length) rfl rfl rfl ⟨Ren.lst _ _ _, Ren.lst _ _ _, Ren.ref (gS_inl rfl) id, Ren.ref (gS_inl rfl) id, Ren.ref (gS_inl rfl) id, Ren.int _ _, Ren.int _ _, trivial⟩ ⟨.inr ⟨_, rfl, (ren_nstR rfl rfl)⟩, zE encV4 false r1 rfl, zE zZw false r2_1 rfl, trivial⟩⟩)))))
 clear hj
 refine W.block ?_
 obtain ⟨sd, hv⟩ := hv
 refine W.rDm ⟨163, look [(0, .lst true sv.length (zYy zYx sv)), (1, .lst true jobs.length (zYy (e53 true) jobs)), (6, .ref false 0 r0.length), (7, .ref false 1 r1.length), (8, .ref false 2 r2_1.length), (10, .int .i64 v10), (11, .int .i64 v11), (75, .bool (decide ((((lat r0 v11).length : Int) < (((lat jobs v11).wk).length : Int)) /\ ((v10 < (0 : Int)) \/ ((lat r2_1 v11) < (lat r2_1 v10))))))], [nstR 102 3 r0, .row 90 4 (zYy eV4 r1), .row 3 1 (zYy zYx r2_1)] ++ nstT 87 3 e87 r0, 0⟩ [0, 1, 2, 3, 4, 5, 6, 7, 8, 9, 10, 11, 12, 13, 14, 15, 16, 17, 18, 19, 20, 21, 22, 23, 24, 25, 26] (by decide +kernel) rfl ?_ ?_
 refine cL rfl (zZp (v := .ref _ _ _) rfl (mI rfl rfl ?_))
 obtain ⟨s352, sd⟩ := sd
 refine cL rfl (o_iaR tt99 tt102 rfl rfl s352 (cL rfl (zZx (v := .ref _ _ _) tt102 rfl rfl (nst_ca (A := []) (vs := r0) (i := v11) rfl s352) (cL rfl (zXw (v := .ref _ _ _) tt102 rfl rfl (mL rfl rfl (mI rfl rfl ?_)))))))
 obtain ⟨s353, sd⟩ := sd
 refine cL rfl (zYu tt23 tt53 rfl rfl (enc53.wd true) rfl s353 ?_)
 intro rest353
 refine cL rfl (o_faP tt53 rfl tt51 rfl (cL rfl (zZx (v := .lst _ _ _) tt51 rfl rfl ⟨_, rfl⟩ (cL rfl (zXw (v := .lst _ _ _) tt51 rfl rfl (cL rfl (zYq rfl rfl (mB rfl rfl ?_))))))))
 by_cases c1 : ((lat r0 v11).length : Int) < (((lat jobs v11).wk).length : Int)
 have sd := sd.1 c1
 refine cLg rfl rfl (dT c1) (mI rfl rfl (cLg rfl rfl (dT c1) (cL rfl (zYq rfl rfl (cLg rfl rfl (dT c1) (mB rfl rfl ?_))))))
 by_cases c2 : v10 < (0 : Int)
 iterate 9 refine cLs rfl rfl rfl (dT c2) ?_
 refine cLg rfl rfl (dT c1) (cL rfl (zZv (v := .bool _) rfl (dT c2) rfl (cL rfl (zZv (v := .bool _) rfl (dT c1) rfl (eL (zYz ⟨rfl, rfl, rfl, rfl, rfl, rfl, rfl, (congrArg AV.bool (zXv c1 (dOrT c2))).symm, trivial⟩ rfl))))))
 have sd := sd.2 c2
 refine cLg rfl rfl (dF c2) (cL rfl (zZp (v := .ref _ _ _) rfl (cLg rfl rfl (dF c2) (mI rfl rfl (cLg rfl rfl (dF c2) ?_)))))
 obtain ⟨s354, sd⟩ := sd
 refine cL rfl (o_iaR tt22 tt3 rfl rfl s354 (cLg rfl rfl (dF c2) (cL rfl (zZx (v := .int _ _) tt3 rfl rfl (cell_of (ca_row (xs := r2_1) rfl (zZw.wd false) s354) rfl) (cLg rfl rfl (dF c2) (cL rfl (zZp (v := .ref _ _ _) rfl (cLg rfl rfl (dF c2) (mI rfl rfl (cLg rfl rfl (dF c2) ?_))))))))))
 obtain ⟨s355, sd⟩ := sd
 refine cL rfl (o_iaR tt22 tt3 rfl rfl s355 (cLg rfl rfl (dF c2) (cL rfl (zZx (v := .int _ _) tt3 rfl rfl (cell_of (ca_row (xs := r2_1) rfl (zZw.wd false) s355) rfl) (cLg rfl rfl (dF c2) (cL rfl (zYq rfl rfl (cLg rfl rfl (dT c1) (cL rfl (zZy (v := .bool _) rfl (dF c2) rfl (cL rfl (zZv (v := .bool _) rfl (dT c1) rfl (eL (zYz ⟨rfl, rfl, rfl, rfl, rfl, rfl, rfl, (congrArg AV.bool (zXv c1 (dOrF c2 (rfl)))).symm, trivial⟩ rfl))))))))))))))
 iterate 3 refine cLs rfl rfl rfl (dF c1) ?_
 iterate 4 refine cLu rfl rfl rfl ?_
 iterate 5 refine cLu rfl rfl (by kernel_rfl) ?_
 refine cLs rfl rfl rfl (dF c1) (cL rfl (zZy (v := .bool _) rfl (dF c1) rfl (eL (zYz ⟨rfl, rfl, rfl, rfl, rfl, rfl, rfl, (congrArg AV.bool (dAndF c1)).symm, trivial⟩ rfl))))
 refine W.cn rfl (fun hc => ?_) (fun hc => ?_)
 have hv := hv.1 hc
 refine W.rL1 (mI rfl rfl (aI rfl rfl (eL (zYv (zZ (⟨(), v11, hv, to_nst0 enc87 rfl [some (.inl 0), some (.inl 1), some (.inl 2)] (a := 3) (n := r0.length) rfl rfl rfl ⟨Ren.lst _ _ _, Ren.lst _ _ _, Ren.ref (gS_inl rfl) id, Ren.ref (gS_inl rfl) id, Ren.ref (gS_inl rfl) id, Ren.int _ _, Ren.int _ _, trivial⟩ ⟨.inr ⟨_, rfl, (ren_nstR rfl rfl)⟩, zE encV4 false r1 rfl, zE zZw false r2_1 rfl, trivial⟩⟩))))))
 have hv := hv.2 hc
 refine W.skip (zYv (zZ (⟨(), v10, hv, to_nst0 enc87 rfl [some (.inl 0), some (.inl 1), some (.inl 2)] (a := 3) (n := r0.length) rfl rfl rfl ⟨Ren.lst _ _ _, Ren.lst _ _ _, Ren.ref (gS_inl rfl) id, Ren.ref (gS_inl rfl) id, Ren.ref (gS_inl rfl) id, Ren.int _ _, Ren.int _ _, trivial⟩ ⟨.inr ⟨_, rfl, (ren_nstR rfl rfl)⟩, zE encV4 false r1 rfl, zE zZw false r2_1 rfl, trivial⟩⟩)))
 have hv := hv.2 hc
 refine W.exit (zZt (zZt (zYs (zZ (W.tz [(0, .lst _ _ _), (1, .lst _ _ _), (6, .ref _ _ _), (7, .ref _ _ _), (8, .ref _ _ _), (10, .int _ _)] ([nstR _ _ _, .row _ _ _, .row _ _ _] ++ nstT _ _ _ _) rfl rfl (W.seq' (W.rL (mI rfl rfl (cL rfl (zYq rfl rfl (eL (W.tz [(0, .lst _ _ _), (1, .lst _ _ _), (6, .ref _ _ _), (7, .ref _ _ _), (8, .ref _ _ _), (10, .int _ _), (78, .bool _)] ([nstR _ _ _, .row _ _ _, .row _ _ _] ++ nstT _ _ _ _) rfl rfl (W.cn rfl (fun hc => ?_) (fun hc => ?_))))))))))))))
 have hv := hv.1 hc
 refine W.rL (cL rfl (zZp (v := .ref _ _ _) rfl (cL rfl (zZq (v := .ref _ _ _) rfl (aI rfl rfl (eL (W.tz [(4, .ref _ _ _), (5, .int _ _)] ([nstR _ _ _, .row _ _ _, .row _ _ _] ++ nstT _ _ _ _) rfl rfl (W.ret (zZr (zYt (zZr (zYt (rt (rt_t (v := .ref _ _ _) rfl (rt_t (v := .int _ _) rfl (rt_n (⟨_, rs_tup 5 _ (Wks.cons (rs_nst 2 enc87 false rfl rfl rfl) (Wks.cons (zY _ _ _ _) zk)), r0, (0 : Int), rfl, hv⟩)))))))))))))))))
 have hv := hv.2 hc
 refine W.skip (zZ (W.tz [(0, .lst _ _ _), (1, .lst _ _ _), (6, .ref _ _ _), (7, .ref _ _ _), (8, .ref _ _ _), (10, .int _ _)] ([nstR _ _ _, .row _ _ _, .row _ _ _] ++ nstT _ _ _ _) rfl rfl ?_))
 obtain ⟨s356, s357, s358, hv⟩ := hv
 refine W.rPmT ⟨163, look [(0, .lst true sv.length (zYy zYx sv)), (1, .lst true jobs.length (zYy (e53 true) jobs)), (6, .ref false 0 r0.length), (7, .ref false 1 r1.length), (8, .ref false 2 r2_1.length), (10, .int .i64 v10), (12, .ptr 3 0)], [nstR 102 4 r0, .row 90 4 (zYy eV4 r1), .row 3 1 (zYy zYx r2_1), .box 60 [.int .i64 ((lat ((lat jobs v10).wk) ((lat r0 v10).length : Int)).st), .int .i64 ((lat ((lat jobs v10).wk) ((lat r0 v10).length : Int)).tm)]] ++ nstT 87 3 e87 r0, 0⟩ [0, 1, 2, 3, 4, 5, 6, 7, 8, 9, 10, 11, 12, 13] (by decide +kernel) rfl ?_ ?_
 refine mL rfl rfl (mI rfl rfl (cL rfl (zYu tt23 tt53 rfl rfl (enc53.wd true) rfl s356 ?_)))
 intro rest358
 refine cL rfl (o_faP tt53 rfl tt51 rfl (cL rfl (zZx (v := .lst _ _ _) tt51 rfl rfl ⟨_, rfl⟩ (cL rfl (zZp (v := .ref _ _ _) rfl (mI rfl rfl (cL rfl (o_iaR tt99 tt102 rfl rfl s357 (cL rfl (zZx (v := .ref _ _ _) tt102 rfl rfl (nst_ca (A := []) (vs := r0) (i := v10) rfl s357) (cL rfl (zXw (v := .ref _ _ _) tt102 rfl rfl (cL rfl (zYu tt51 tt60 rfl rfl (enc60.wd true) rfl s358 ?_))))))))))))))
 intro rest358
 refine cL rfl (zYp (cs := [.int _ _, .int _ _]) tt60 rfl rfl ⟨_, rfl⟩ rfl (cL rfl (zXy (p := (3 + r0.length)) tt60 (nst_len rfl) rfl (cLn (o_stB (v := .agg _) (vs := [.int _ _, .int _ _]) (cs2 := [.int _ _, .int _ _]) tt60 rfl rfl rfl rfl (nst_new rfl) (Nat.le_of_ble_eq_true rfl) rfl (eL (to_nstS enc87 rfl [some (.inl 0), some (.inl 1), some (.inl 2), some (.inr 0)] (a := 3) (n := r0.length) rfl rfl rfl ⟨Ren.lst _ _ _, Ren.lst _ _ _, Ren.ref (gS_inl rfl) id, Ren.ref (gS_inl rfl) id, Ren.ref (gS_inl rfl) id, Ren.int _ _, Ren.ptr (gS_in0 rfl), trivial⟩ ⟨.inr ⟨_, rfl, (ren_nstR rfl rfl)⟩, .inr ⟨_, rfl, ⟨rfl, rfl, rfl, Rens.enc encV4 false r1⟩⟩, .inr ⟨_, rfl, ⟨rfl, rfl, rfl, Rens.enc zZw false r2_1⟩⟩, .inr ⟨_, rfl, ⟨rfl, zR rfl⟩⟩, trivial⟩)))))))
 refine W.rL (aI rfl rfl (eL (W.tz [(0, .lst _ _ _), (1, .lst _ _ _), (6, .ref _ _ _), (7, .ref _ _ _), (8, .ref _ _ _), (10, .int _ _), (12, .ptr _ _), (13, .int _ _)] ([nstR _ _ _, .row _ _ _, .row _ _ _, .box _ [.int _ _, .int _ _]] ++ nstT _ _ _ _) rfl rfl (W.seq' (W.rL (aI rfl rfl (eL (W.tz [(0, .lst _ _ _), (1, .lst _ _ _), (6, .ref _ _ _), (7, .ref _ _ _), (8, .ref _ _ _), (10, .int _ _), (12, .ptr _ _), (13, .int _ _), (14, .int _ _)] ([nstR _ _ _, .row _ _ _, .row _ _ _, .box _ [.int _ _, .int _ _]] ++ nstT _ _ _ _) rfl rfl (W.block ?_)))))))))
 obtain ⟨I5, μ5, hp, hv⟩ := hv
 refine W.loop2 (fun v13 v14 => ⟨163, look [(0, .lst true sv.length (zYy zYx sv)), (1, .lst true jobs.length (zYy (e53 true) jobs)), (6, .ref false 0 r0.length), (7, .ref false 1 r1.length), (8, .ref false 2 r2_1.length), (10, .int .i64 v10), (12, .ptr 3 0), (13, .int .i64 v13), (14, .int .i64 v14)], [nstR 102 4 r0, .row 90 4 (zYy eV4 r1), .row 3 1 (zYy zYx r2_1), .box 60 [.int .i64 ((lat ((lat jobs v10).wk) ((lat r0 v10).length : Int)).st), .int .i64 ((lat ((lat jobs v10).wk) ((lat r0 v10).length : Int)).tm)]] ++ nstT 87 3 e87 r0, 0⟩) I5 μ5 (0 : Int) (1 : Int) (to_nst0 enc87 rfl [some (.inl 0), some (.inl 1), some (.inl 2), some (.inl 3)] (a := 4) (n := r0.length) rfl rfl rfl ⟨Ren.lst _ _ _, Ren.lst _ _ _, Ren.ref (gS_inl rfl) id, Ren.ref (gS_inl rfl) id, Ren.ref (gS_inl rfl) id, Ren.int _ _, Ren.ptr (gS_inl rfl), Ren.int _ _, Ren.int _ _, trivial⟩ ⟨.inr ⟨_, rfl, (ren_nstR rfl rfl)⟩, zE encV4 false r1 rfl, zE zZw false r2_1 rfl, (zB rfl rfl), trivial⟩) hp ?_
 clear hp
 intro v13 v14 hI
 replace hv := hv v13 v14 hI
 clear hI
 refine W.seq' (W.rL (mI rfl rfl (mL rfl rfl (cL rfl (o_fa tt60 rfl tt3 rfl (cL rfl (zZx (v := .int _ _) tt3 rfl rfl ⟨_, rfl⟩ ?_)))))))
 obtain ⟨s393, hv⟩ := hv
 refine cL rfl (zYu tt22 tt3 rfl rfl (zZw.wd true) rfl s393 ?_)
 intro rest393
 refine cL rfl (zZx (v := .int _ _) tt3 rfl rfl ⟨_, rfl⟩ (cL rfl (zYq rfl rfl (eL (W.tz [(0, .lst _ _ _), (1, .lst _ _ _), (6, .ref _ _ _), (7, .ref _ _ _), (8, .ref _ _ _), (10, .int _ _), (12, .ptr _ _), (13, .int _ _), (14, .int _ _), (98, .bool _)] ([nstR _ _ _, .row _ _ _, .row _ _ _, .box _ [.int _ _, .int _ _]] ++ nstT _ _ _ _) rfl rfl (W.cn rfl (fun hc => ?_) (fun hc => ?_)))))))
 have hv := hv.1 hc
 refine W.skip (zZ (W.tz [(0, .lst _ _ _), (1, .lst _ _ _), (6, .ref _ _ _), (7, .ref _ _ _), (8, .ref _ _ _), (10, .int _ _), (12, .ptr _ _), (13, .int _ _), (14, .int _ _)] ([nstR _ _ _, .row _ _ _, .row _ _ _, .box _ [.int _ _, .int _ _]] ++ nstT _ _ _ _) rfl rfl ?_))
 obtain ⟨J6, hj, hv⟩ := hv
 refine W.mid1 (fun v13_1 => ⟨163, look [(0, .lst true sv.length (zYy zYx sv)), (1, .lst true jobs.length (zYy (e53 true) jobs)), (6, .ref false 0 r0.length), (7, .ref false 1 r1.length), (8, .ref false 2 r2_1.length), (10, .int .i64 v10), (12, .ptr 3 0), (13, .int .i64 v13_1), (14, .int .i64 v14)], [nstR 102 4 r0, .row 90 4 (zYy eV4 r1), .row 3 1 (zYy zYx r2_1), .box 60 [.int .i64 ((lat ((lat jobs v10).wk) ((lat r0 v10).length : Int)).st), .int .i64 ((lat ((lat jobs v10).wk) ((lat r0 v10).length : Int)).tm)]] ++ nstT 87 3 e87 r0, 0⟩) J6 ?_ ?_
 intro v13_1
 intro hv
 replace hv := hj v13_1 hv
 refine W.rL1 (mI rfl rfl ?_)
 obtain ⟨s398, hv⟩ := hv
 refine cL rfl (o_add rfl rfl s398 (aI rfl rfl (eL (zZ (⟨(), v13_1, (v14 + (1 : Int)), hv, to_nst0 enc87 rfl [some (.inl 0), some (.inl 1), some (.inl 2), some (.inl 3)] (a := 4) (n := r0.length) rfl rfl rfl ⟨Ren.lst _ _ _, Ren.lst _ _ _, Ren.ref (gS_inl rfl) id, Ren.ref (gS_inl rfl) id, Ren.ref (gS_inl rfl) id, Ren.int _ _, Ren.ptr (gS_inl rfl), Ren.int _ _, Ren.int _ _, trivial⟩ ⟨.inr ⟨_, rfl, (ren_nstR rfl rfl)⟩, zE encV4 false r1 rfl, zE zZw false r2_1 rfl, (zB rfl rfl), trivial⟩⟩)))))
 clear hj
 refine W.block (W.rD [0, 1, 2, 3, 4, 5, 6, 7, 8, 9, 10, 11, 12, 13, 14] (by decide +kernel) rfl (cL rfl (zZp (v := .ref _ _ _) rfl (cL rfl (o_fa tt60 rfl tt3 rfl (cL rfl (zZx (v := .int _ _) tt3 rfl rfl ⟨_, rfl⟩ (mI rfl rfl ?_))))))))
 obtain ⟨s399, hv⟩ := hv
 refine cL rfl (o_iaR tt63 tt90 rfl rfl s399 ?_)
 obtain ⟨s400, hv⟩ := hv
 refine cL rfl (o_iaA tt90 tt3 rfl rfl s400 (by rw [Nat.mul_one]) (cL rfl (zZx (v := .int _ _) tt3 rfl rfl (ca_rowV (xs := r1) rfl s399 (by have := s400; omega)) (cL rfl (zZp (v := .ref _ _ _) rfl (cL rfl (o_fa tt60 rfl tt3 rfl (cL rfl (zZx (v := .int _ _) tt3 rfl rfl ⟨_, rfl⟩ (mI rfl rfl ?_))))))))))
 obtain ⟨s401, hv⟩ := hv
 refine cL rfl (o_iaR tt63 tt90 rfl rfl s401 ?_)
 obtain ⟨s402, hv⟩ := hv
 refine cL rfl (o_iaA tt90 tt3 rfl rfl s402 (by rw [Nat.mul_one]) (cL rfl (zZx (v := .int _ _) tt3 rfl rfl (ca_rowV (xs := r1) rfl s401 (by have := s402; omega)) (cL rfl (zYq rfl rfl (eL (W.tz [(0, .lst _ _ _), (1, .lst _ _ _), (6, .ref _ _ _), (7, .ref _ _ _), (8, .ref _ _ _), (10, .int _ _), (12, .ptr _ _), (13, .int _ _), (14, .int _ _), (115, .bool _)] ([nstR _ _ _, .row _ _ _, .row _ _ _, .box _ [.int _ _, .int _ _]] ++ nstT _ _ _ _) rfl rfl (W.cn rfl (fun hc => ?_) (fun hc => ?_)))))))))
 have hv := hv.1 hc
 refine W.rL1 (mI rfl rfl (aI rfl rfl (eL (zYv (zZ (⟨(), v14, hv, to_nst0 enc87 rfl [some (.inl 0), some (.inl 1), some (.inl 2), some (.inl 3)] (a := 4) (n := r0.length) rfl rfl rfl ⟨Ren.lst _ _ _, Ren.lst _ _ _, Ren.ref (gS_inl rfl) id, Ren.ref (gS_inl rfl) id, Ren.ref (gS_inl rfl) id, Ren.int _ _, Ren.ptr (gS_inl rfl), Ren.int _ _, Ren.int _ _, trivial⟩ ⟨.inr ⟨_, rfl, (ren_nstR rfl rfl)⟩, zE encV4 false r1 rfl, zE zZw false r2_1 rfl, (zB rfl rfl), trivial⟩⟩))))))
 have hv := hv.2 hc
 refine W.skip (zYv (zZ (⟨(), v13, hv, to_nst0 enc87 rfl [some (.inl 0), some (.inl 1), some (.inl 2), some (.inl 3)] (a := 4) (n := r0.length) rfl rfl rfl ⟨Ren.lst _ _ _, Ren.lst _ _ _, Ren.ref (gS_inl rfl) id, Ren.ref (gS_inl rfl) id, Ren.ref (gS_inl rfl) id, Ren.int _ _, Ren.ptr (gS_inl rfl), Ren.int _ _, Ren.int _ _, trivial⟩ ⟨.inr ⟨_, rfl, (ren_nstR rfl rfl)⟩, zE encV4 false r1 rfl, zE zZw false r2_1 rfl, (zB rfl rfl), trivial⟩⟩)))
 have hv := hv.2 hc
 refine W.exit (zZt (zZt (zYs (zZ (W.tz [(0, .lst _ _ _), (1, .lst _ _ _), (6, .ref _ _ _), (7, .ref _ _ _), (8, .ref _ _ _), (10, .int _ _), (12, .ptr _ _), (13, .int _ _)] ([nstR _ _ _, .row _ _ _, .row _ _ _, .box _ [.int _ _, .int _ _]] ++ nstT _ _ _ _) rfl rfl ?_)))))
 obtain ⟨s403, s404, s405, hv⟩ := hv
 refine W.rPmT ⟨163, look [(0, .lst true sv.length (zYy zYx sv)), (1, .lst true jobs.length (zYy (e53 true) jobs)), (6, .ref false 0 r0.length), (7, .ref false 1 r1.length), (8, .ref false 2 r2_1.length), (10, .int .i64 v10), (12, .ptr 3 0), (13, .int .i64 v13), (15, .ptr 4 0)], [nstR 102 5 r0, .row 90 4 (zYy eV4 r1), .row 3 1 (zYy zYx r2_1), .box 60 [.int .i64 ((lat ((lat jobs v10).wk) ((lat r0 v10).length : Int)).st), .int .i64 ((lat ((lat jobs v10).wk) ((lat r0 v10).length : Int)).tm)], .box 87 [.int .i64 (lat r2_1 v10), .int .i64 (max (lat r2_1 v10) (vat (lat r1 ((lat ((lat jobs v10).wk) ((lat r0 v10).length : Int)).st)) v13.toNat)), .int .i64 (0 : Int)]] ++ nstT 87 3 e87 r0, 0⟩ [0, 1, 2, 3, 4, 5, 6, 7, 8, 9, 10, 11, 12, 13, 14, 15, 16, 17, 18] (by decide +kernel) rfl ?_ ?_
 refine cL rfl (zZp (v := .ref _ _ _) rfl (mI rfl rfl (cL rfl (o_iaR tt22 tt3 rfl rfl s403 (cL rfl (zZx (v := .int _ _) tt3 rfl rfl (cell_of (ca_row (xs := r2_1) rfl (zZw.wd false) s403) rfl) (cL rfl (zZp (v := .ref _ _ _) rfl (mI rfl rfl (cL rfl (o_iaR tt22 tt3 rfl rfl s403 (cL rfl (zZx (v := .int _ _) tt3 rfl rfl (cell_of (ca_row (xs := r2_1) rfl (zZw.wd false) s403) rfl) (cL rfl (zZp (v := .ref _ _ _) rfl (cL rfl (o_fa tt60 rfl tt3 rfl (cL rfl (zZx (v := .int _ _) tt3 rfl rfl ⟨_, rfl⟩ (mI rfl rfl (cL rfl (o_iaR tt63 tt90 rfl rfl s404 (cL rfl (o_iaA tt90 tt3 rfl rfl s405 (by rw [Nat.mul_one]) (cL rfl (zZx (v := .int _ _) tt3 rfl rfl (ca_rowV (xs := r1) rfl s404 (by have := s405; omega)) (cL rfl (o_max rfl rfl (cL rfl (o_build (qs := [(0, .int _ _), (1, .int _ _)]) (cs := [.int _ _, .int _ _, .int _ _]) tt87 rfl rfl rfl (cL rfl (zXy (p := (4 + r0.length)) tt87 (nst_len rfl) rfl (cLn (o_stB (v := .agg _) (vs := [.int _ _, .int _ _, .int _ _]) (cs2 := [.int _ _, .int _ _, .int _ _]) tt87 rfl rfl rfl rfl (nst_new rfl) (Nat.le_of_ble_eq_true rfl) rfl (eL (to_nstS enc87 rfl [some (.inl 0), some (.inl 1), some (.inl 2), some (.inl 3), some (.inr 0)] (a := 4) (n := r0.length) rfl rfl rfl ⟨Ren.lst _ _ _, Ren.lst _ _ _, Ren.ref (gS_inl rfl) id, Ren.ref (gS_inl rfl) id, Ren.ref (gS_inl rfl) id, Ren.int _ _, Ren.ptr (gS_inl rfl), Ren.int _ _, Ren.ptr (gS_in0 rfl), trivial⟩ ⟨.inr ⟨_, rfl, (ren_nstR rfl rfl)⟩, .inr ⟨_, rfl, ⟨rfl, rfl, rfl, Rens.enc encV4 false r1⟩⟩, .inr ⟨_, rfl, ⟨rfl, rfl, rfl, Rens.enc zZw false r2_1⟩⟩, .inr ⟨_, rfl, ⟨rfl, zR rfl⟩⟩, .inr ⟨_, rfl, ⟨rfl, zR rfl⟩⟩, trivial⟩))))))))))))))))))))))))))))))))))))
 refine W.rL (cL rfl (o_fa tt87 rfl tt3 rfl (cL rfl (zZx (v := .int _ _) tt3 rfl rfl ⟨_, rfl⟩ (cL rfl (o_fa tt60 rfl tt3 rfl (cL rfl (zZx (v := .int _ _) tt3 rfl rfl ⟨_, rfl⟩ ?_))))))))
 obtain ⟨s406, hv⟩ := hv
 refine cL rfl (o_add rfl rfl s406 (cL rfl (o_fa tt87 rfl tt3 rfl (cLn (o_stB (v := .int _ _) (vs := [.int _ _]) (cs2 := [.int _ _, .int _ _, .int _ _]) tt3 rfl rfl rfl rfl rfl (Nat.le_of_ble_eq_true rfl) rfl (eL (W.tz [(0, .lst _ _ _), (1, .lst _ _ _), (6, .ref _ _ _), (7, .ref _ _ _), (8, .ref _ _ _), (10, .int _ _), (12, .ptr _ _), (13, .int _ _), (15, .ptr _ _)] ([nstR _ _ _, .row _ _ _, .row _ _ _, .box _ [.int _ _, .int _ _], .box _ [.int _ _, .int _ _, .int _ _]] ++ nstT _ _ _ _) rfl rfl (W.rD [0, 1, 2, 3, 4, 5, 6, 7, 8] (by decide +kernel) rfl (cL rfl (zZp (v := .ref _ _ _) rfl (cL rfl (o_fa tt60 rfl tt3 rfl (cL rfl (zZx (v := .int _ _) tt3 rfl rfl ⟨_, rfl⟩ (mI rfl rfl (cL rfl (o_fa tt87 rfl tt3 rfl (cL rfl (zZx (v := .int _ _) tt3 rfl rfl ⟨_, rfl⟩ ?_)))))))))))))))))))
 obtain ⟨s407, hv⟩ := hv
 refine cL rfl (o_iaR tt63 tt90 rfl rfl s407 ?_)
 obtain ⟨s408, hv⟩ := hv
 refine cL rfl (o_iaA tt90 tt3 rfl rfl s408 (by rw [Nat.mul_one]) (cLn (o_stR (v := .int _ _) (vs := [.int _ _]) tt3 rfl rfl rfl rfl rfl (row_inV (xs := r1) s407 (by have := s408; omega)) (row_setV r1 s407 (by have := s408; omega) ((max (lat r2_1 v10) (vat (lat r1 ((lat ((lat jobs v10).wk) ((lat r0 v10).length : Int)).st)) v13.toNat)) + ((lat ((lat jobs v10).wk) ((lat r0 v10).length : Int)).tm))) (eL (W.tz [(0, .lst _ _ _), (1, .lst _ _ _), (6, .ref _ _ _), (7, .ref _ _ _), (8, .ref _ _ _), (10, .int _ _), (15, .ptr _ _)] ([nstR _ _ _, .row _ _ _, .row _ _ _, .box _ [.int _ _, .int _ _], .box _ [.int _ _, .int _ _, .int _ _]] ++ nstT _ _ _ _) rfl rfl (W.rL (cL rfl (zZp (v := .ref _ _ _) rfl (mI rfl rfl (cL rfl (o_fa tt87 rfl tt3 rfl (cL rfl (zZx (v := .int _ _) tt3 rfl rfl ⟨_, rfl⟩ ?_)))))))))))))
 obtain ⟨s409, hv⟩ := hv
 refine cL rfl (o_iaR tt22 tt3 rfl rfl s409 (cLn (o_stR (v := .int _ _) tt3 rfl rfl rfl rfl rfl (row_in (xs := r2_1) (zZw.wd false) s409 rfl) (row_set (e := zYx) (zZw.wd false) _ _ ((max (lat r2_1 v10) (vat (lat r1 ((lat ((lat jobs v10).wk) ((lat r0 v10).length : Int)).st)) v13.toNat)) + ((lat ((lat jobs v10).wk) ((lat r0 v10).length : Int)).tm)) rfl s409.1 s409.2) (eL (W.tz [(0, .lst _ _ _), (1, .lst _ _ _), (6, .ref _ _ _), (7, .ref _ _ _), (8, .ref _ _ _), (10, .int _ _), (15, .ptr _ _)] ([nstR _ _ _, .row _ _ _, .row _ _ _, .box _ [.int _ _, .int _ _], .box _ [.int _ _, .int _ _, .int _ _]] ++ nstT _ _ _ _) rfl rfl ?_)))))
 obtain ⟨s410, s411, hv⟩ := hv
 refine W.rPmT1 ⟨163, look [(0, .lst true sv.length (zYy zYx sv)), (1, .lst true jobs.length (zYy (e53 true) jobs)), (6, .ref false 0 ((r0.set v10.toNat ((lat r0 v10) ++ [(Vis.mk (lat r2_1 v10) (max (lat r2_1 v10) (vat (lat r1 ((lat ((lat jobs v10).wk) ((lat r0 v10).length : Int)).st)) v13.toNat)) ((max (lat r2_1 v10) (vat (lat r1 ((lat ((lat jobs v10).wk) ((lat r0 v10).length : Int)).st)) v13.toNat)) + ((lat ((lat jobs v10).wk) ((lat r0 v10).length : Int)).tm)))])).length)), (7, .ref false 1 ((r1.set ((lat ((lat jobs v10).wk) ((lat r0 v10).length : Int)).st).toNat (vset (lat r1 ((lat ((lat jobs v10).wk) ((lat r0 v10).length : Int)).st)) v13.toNat ((max (lat r2_1 v10) (vat (lat r1 ((lat ((lat jobs v10).wk) ((lat r0 v10).length : Int)).st)) v13.toNat)) + ((lat ((lat jobs v10).wk) ((lat r0 v10).length : Int)).tm)))).length)), (8, .ref false 2 ((r2_1.set v10.toNat ((max (lat r2_1 v10) (vat (lat r1 ((lat ((lat jobs v10).wk) ((lat r0 v10).length : Int)).st)) v13.toNat)) + ((lat ((lat jobs v10).wk) ((lat r0 v10).length : Int)).tm))).length))], [nstR 102 5 (r0.set v10.toNat ((lat r0 v10) ++ [(Vis.mk (lat r2_1 v10) (max (lat r2_1 v10) (vat (lat r1 ((lat ((lat jobs v10).wk) ((lat r0 v10).length : Int)).st)) v13.toNat)) ((max (lat r2_1 v10) (vat (lat r1 ((lat ((lat jobs v10).wk) ((lat r0 v10).length : Int)).st)) v13.toNat)) + ((lat ((lat jobs v10).wk) ((lat r0 v10).length : Int)).tm)))])), .row 90 4 (zYy eV4 (r1.set ((lat ((lat jobs v10).wk) ((lat r0 v10).length : Int)).st).toNat (vset (lat r1 ((lat ((lat jobs v10).wk) ((lat r0 v10).length : Int)).st)) v13.toNat ((max (lat r2_1 v10) (vat (lat r1 ((lat ((lat jobs v10).wk) ((lat r0 v10).length : Int)).st)) v13.toNat)) + ((lat ((lat jobs v10).wk) ((lat r0 v10).length : Int)).tm))))), .row 3 1 (zYy zYx (r2_1.set v10.toNat ((max (lat r2_1 v10) (vat (lat r1 ((lat ((lat jobs v10).wk) ((lat r0 v10).length : Int)).st)) v13.toNat)) + ((lat ((lat jobs v10).wk) ((lat r0 v10).length : Int)).tm)))), .dead, .dead] ++ nstT 87 3 e87 (r0.set v10.toNat ((lat r0 v10) ++ [(Vis.mk (lat r2_1 v10) (max (lat r2_1 v10) (vat (lat r1 ((lat ((lat jobs v10).wk) ((lat r0 v10).length : Int)).st)) v13.toNat)) ((max (lat r2_1 v10) (vat (lat r1 ((lat ((lat jobs v10).wk) ((lat r0 v10).length : Int)).st)) v13.toNat)) + ((lat ((lat jobs v10).wk) ((lat r0 v10).length : Int)).tm)))])), 0⟩ [0, 1, 2, 3, 4, 5, 6, 7, 8, 9, 10] (by decide +kernel) rfl ?_ ?_
 refine cL rfl (zZp (v := .ref _ _ _) rfl (mI rfl rfl (cL rfl (zZp (v := .ref _ _ _) rfl (mI rfl rfl (cL rfl (o_iaR tt99 tt102 rfl rfl s410 (cL rfl (zZx (v := .ref _ _ _) tt102 rfl rfl (nst_ca (A := []) (vs := r0) (i := v10) rfl s410) (cL rfl (zYp (cs := [.int _ _, .int _ _, .int _ _]) tt87 rfl rfl ⟨_, rfl⟩ rfl (cL rfl (o_bs1 (v := .agg _) (q := (5 + r0.length)) tt102 tt87 rfl rfl rfl rfl rfl (nst_len rfl) rfl rfl (cL rfl (o_apR (p := 5 + r0.length + 1) (q := (lat r0 v10).length + 1) tt102 tt87 rfl rfl (src_ref (nst_new rfl) rfl) rfl (nst_row rfl rfl s410) (zYw (enc87.wd false) _) (by have := s411; simp at this; omega) (nst_len1 rfl) rfl (encL_app e87 (lat r0 v10) [(Vis.mk (lat r2_1 v10) (max (lat r2_1 v10) (vat (lat r1 ((lat ((lat jobs v10).wk) ((lat r0 v10).length : Int)).st)) v13.toNat)) ((max (lat r2_1 v10) (vat (lat r1 ((lat ((lat jobs v10).wk) ((lat r0 v10).length : Int)).st)) v13.toNat)) + ((lat ((lat jobs v10).wk) ((lat r0 v10).length : Int)).tm)))]) (cL rfl (o_iaR tt99 tt102 rfl rfl s410 (cLn (o_stR (v := .ref _ _ _) (vs := [.ref _ _ _]) tt102 rfl rfl rfl rfl (nst_low rfl rfl) (cellsN_in (k := 0) (nst_wd _ _) (show v10.toNat < r0.length by have := s410; omega) (Nat.le_refl _)) (cellsN_spl (k := 0) (nst_wd _ _) (show v10.toNat < r0.length by have := s410; omega) (Nat.le_refl _)) (eL (⟨rfl, ?_⟩)))))))))))))))))))))
 exact to_nstA enc87 rfl (a := 5) (n := r0.length) rfl rfl (show v10.toNat < r0.length by have := s410; omega) rfl (by simp) rfl ⟨Ren.lst _ _ _, Ren.lst _ _ _, Ren.refL (gA_lt rfl) id (by simp), Ren.refL (gA_lt rfl) id (by simp), Ren.refL (gA_lt rfl) id (by simp), trivial⟩ ⟨.inr (ren_nstA rfl (show v10.toNat < r0.length by have := s410; omega) rfl (by simp)), .inr ⟨rfl, rfl, rfl, Rens.enc encV4 false (r1.set ((lat ((lat jobs v10).wk) ((lat r0 v10).length : Int)).st).toNat (vset (lat r1 ((lat ((lat jobs v10).wk) ((lat r0 v10).length : Int)).st)) v13.toNat ((max (lat r2_1 v10) (vat (lat r1 ((lat ((lat jobs v10).wk) ((lat r0 v10).length : Int)).st)) v13.toNat)) + ((lat ((lat jobs v10).wk) ((lat r0 v10).length : Int)).tm))))⟩, .inr ⟨rfl, rfl, rfl, Rens.enc zZw false (r2_1.set v10.toNat ((max (lat r2_1 v10) (vat (lat r1 ((lat ((lat jobs v10).wk) ((lat r0 v10).length : Int)).st)) v13.toNat)) + ((lat ((lat jobs v10).wk) ((lat r0 v10).length : Int)).tm)))⟩, .inl rfl, .inl rfl, trivial⟩
 exact zYv (zZ (⟨(), (r0.set v10.toNat ((lat r0 v10) ++ [(Vis.mk (lat r2_1 v10) (max (lat r2_1 v10) (vat (lat r1 ((lat ((lat jobs v10).wk) ((lat r0 v10).length : Int)).st)) v13.toNat)) ((max (lat r2_1 v10) (vat (lat r1 ((lat ((lat jobs v10).wk) ((lat r0 v10).length : Int)).st)) v13.toNat)) + ((lat ((lat jobs v10).wk) ((lat r0 v10).length : Int)).tm)))])), (r1.set ((lat ((lat jobs v10).wk) ((lat r0 v10).length : Int)).st).toNat (vset (lat r1 ((lat ((lat jobs v10).wk) ((lat r0 v10).length : Int)).st)) v13.toNat ((max (lat r2_1 v10) (vat (lat r1 ((lat ((lat jobs v10).wk) ((lat r0 v10).length : Int)).st)) v13.toNat)) + ((lat ((lat jobs v10).wk) ((lat r0 v10).length : Int)).tm)))), (r2_1.set v10.toNat ((max (lat r2_1 v10) (vat (lat r1 ((lat ((lat jobs v10).wk) ((lat r0 v10).length : Int)).st)) v13.toNat)) + ((lat ((lat jobs v10).wk) ((lat r0 v10).length : Int)).tm))), hv, to_nst0 enc87 rfl [some (.inl 0), some (.inl 1), some (.inl 2)] (a := 5) (n := (r0.set v10.toNat ((lat r0 v10) ++ [(Vis.mk (lat r2_1 v10) (max (lat r2_1 v10) (vat (lat r1 ((lat ((lat jobs v10).wk) ((lat r0 v10).length : Int)).st)) v13.toNat)) ((max (lat r2_1 v10) (vat (lat r1 ((lat ((lat jobs v10).wk) ((lat r0 v10).length : Int)).st)) v13.toNat)) + ((lat ((lat jobs v10).wk) ((lat r0 v10).length : Int)).tm)))])).length) rfl rfl rfl ⟨Ren.lst _ _ _, Ren.lst _ _ _, Ren.refL (gS_inl rfl) id (by simp), Ren.refL (gS_inl rfl) id (by simp), Ren.refL (gS_inl rfl) id (by simp), trivial⟩ ⟨.inr ⟨_, rfl, (ren_nstR rfl rfl)⟩, zE encV4 false (r1.set ((lat ((lat jobs v10).wk) ((lat r0 v10).length : Int)).st).toNat (vset (lat r1 ((lat ((lat jobs v10).wk) ((lat r0 v10).length : Int)).st)) v13.toNat ((max (lat r2_1 v10) (vat (lat r1 ((lat ((lat jobs v10).wk) ((lat r0 v10).length : Int)).st)) v13.toNat)) + ((lat ((lat jobs v10).wk) ((lat r0 v10).length : Int)).tm)))) rfl, zE zZw false (r2_1.set v10.toNat ((max (lat r2_1 v10) (vat (lat r1 ((lat ((lat jobs v10).wk) ((lat r0 v10).length : Int)).st)) v13.toNat)) + ((lat ((lat jobs v10).wk) ((lat r0 v10).length : Int)).tm))) rfl, trivial⟩⟩))
set_option maxHeartbeats 4000000 in
theorem vcp_rrun (sv : (List Int)) (jobs : (List Job)) (h0 : sv.length <= 9223372036854775807) (h1 : ∀ j ∈ jobs, j.wk.length <= 9223372036854775807) (h2 : jobs.length <= 9223372036854775807) : vc_rrun sv jobs (fun q0 q1 => q0 = (runR sv jobs).1 /\ q1 = (runR sv jobs).2) := by
  unfold vc_rrun
  refine ⟨h0, h1, h2, fun k => by unfold runR; rw [if_neg k]; exact ⟨rfl, rfl⟩, fun k => ?_⟩
  have hV : validJ sv jobs = true := Decidable.not_not.1 k
  obtain ⟨hv1, hv2, hv3⟩ := job_ok hV
  refine ⟨⟨by omega, by omega⟩, ⟨by omega, by omega⟩, ⟨by omega, by omega⟩, fun v r2 => ∃ i : Nat, v = i /\ i <= jobs.length /\ r2.length = jobs.length /\ ∀ a : Nat, a < i -> lat r2 a = (lat jobs a).ar, fun v _ => jobs.length - v.toNat, ⟨0, rfl, by omega, by simp, fun a ha => by omega⟩, ?_⟩
  rintro _ r2 ⟨i, rfl, hi, hl, hr⟩
  refine ⟨fun k1 => ⟨⟨by omega, k1⟩, ⟨by omega, by omega⟩, by unfold inI; omega, ⟨i + 1, by omega, by omega, by rw [List.length_set, hl], fun a ha => ?_⟩, dec_lt k1⟩, fun k1 => ?_⟩
  . rw [lat_set (i := (i : Int)) (j := a) ⟨by omega, by omega⟩]
    by_cases e : (a : Int) = i
    . rw [if_pos e]
      have : a = i := by omega
      subst this; rfl
    . rw [if_neg e]; exact hr a (by omega)
  have e2 : r2 = jobs.map (·.ar) := by
    apply List.ext_getElem (by simpa using hl)
    intro a h1 h2
    have := hr a (by omega)
    rw [lat_get h1, lat_get (by omega)] at this
    simpa using this
  have e3 : stR jobs (List.replicate jobs.length []) (List.replicate sv.length (Vector.replicate 4 0)) r2 = initM sv jobs := stR_init e2
  simp only [Int.toNat_natCast]
  refine ⟨fun r0 r1 r2 => ∃ D c, RInv sv jobs c (stR jobs r0 r1 r2) /\ r0 = rowsM jobs.length D /\ r2.length = jobs.length /\ D ++ runN sv jobs (leftM (stR jobs r0 r1 r2)) (stR jobs r0 r1 r2) = runM sv jobs, fun r0 r1 r2 => leftM (stR jobs r0 r1 r2), ⟨[], 0, by rw [e3]; exact RInv.init hV, (rowsM_nil _).symm, hl, by rw [e3]; rfl⟩, ?_⟩
  clear e3 e2 hr hl k1 hi i r2
  rintro r0 r1 r2 ⟨D, c, hI, hD, hl2, he⟩
  have hl0 : r0.length = jobs.length := by rw [hD, rowsM_len]
  have hl1 : r1.length = sv.length := hI.fl
  refine ⟨fun o v => ∃ i : Nat, v = i /\ i <= jobs.length /\ o = scanR jobs r0 r1 r2 i, fun _ v => jobs.length - v.toNat, ⟨0, rfl, by omega, rfl⟩, ?_⟩
  rintro _ _ ⟨i, rfl, hi, rfl⟩
  refine ⟨fun k1 => ⟨fun o => o = scanR jobs r0 r1 r2 (i + 1), fun o ho => ⟨by unfold inI; omega, ⟨i + 1, by omega, by omega, ho⟩, dec_lt k1⟩, ⟨⟨by omega, by omega⟩, ⟨by omega, k1⟩, fun k2 => ⟨fun _ => trivial, fun k3 => ⟨⟨by omega, by omega⟩, ?_, trivial⟩⟩, fun _ => trivial⟩, fun k2 => ?_, fun k2 => ?_⟩, fun k1 => ⟨fun k2 => ?_, fun k2 => ?_⟩⟩
  . rcases scanR_b jobs r0 r1 r2 i with hb | ⟨q, hb, hq⟩ <;> omega
  . rw [scanR_succ (by omega), if_pos k2]
  . rw [scanR_succ (by omega), if_neg k2]
  . rw [show i = jobs.length by omega, scanR_all] at k2
    rw [runN_neg k2, List.append_nil] at he
    subst he
    unfold runR
    rw [if_pos hV]
    exact ⟨hD, rfl⟩
  rw [show i = jobs.length by omega, scanR_all] at k2 ⊢
  clear k1 hi i
  obtain ⟨i, hi, hil, hid, -⟩ := (leastS_spec (stR jobs r0 r1 r2).ss).resolve_left (fun h => k2 (by omega))
  have so := hI.step (i := i) hil hid
  have hlt := so.lt
  have hS := stR_lat r0 r1 r2 hlt
  have hw : lat (lat jobs (i : Int)).wk ((lat r0 (i : Int)).length : Int) = workM jobs (stR jobs r0 r1 r2) i := by unfold workM; rw [hS]
  have hdn : ((lat r0 (i : Int)).length : Int) < (lat jobs (i : Int)).wk.length := by have := so.dn; rw [hS] at this; exact this
  have h6 := (hv3 _ (lat_mem (xs := jobs) (i := (i : Int)) ⟨by omega, by omega⟩)).1.2.2
  have hst := so.st
  have htm := so.tm
  have hnb := so.nb
  have hvis := so.vis
  have hleft := hI.left
  have hinit := left_init hV
  have hless := so.less
  have hnx := so.next
  rw [hi, hw]
  have hv : ∀ k : Int, k = slotM sv (stR jobs r0 r1 r2) (workM jobs (stR jobs r0 r1 r2) i).st -> Vis.mk (lat r2 (i : Int)) (max (lat r2 (i : Int)) (vat (lat r1 (workM jobs (stR jobs r0 r1 r2) i).st) k.toNat)) (max (lat r2 (i : Int)) (vat (lat r1 (workM jobs (stR jobs r0 r1 r2) i).st) k.toNat) + (workM jobs (stR jobs r0 r1 r2) i).tm) = visM sv jobs (stR jobs r0 r1 r2) i := fun k hk => by
    unfold visM; simp only; rw [hS, hk]; rfl
  have hslot : slotM sv (stR jobs r0 r1 r2) (workM jobs (stR jobs r0 r1 r2) i).st = scanV (lat r1 (workM jobs (stR jobs r0 r1 r2) i).st) (lat sv (workM jobs (stR jobs r0 r1 r2) i).st) (lat sv (workM jobs (stR jobs r0 r1 r2) i).st).toNat := (scanV_all ⟨by omega, by omega⟩).symm
  have hnext := stR_next (sv := sv) (r1 := r1) hlt hl0 hl2
  generalize hW : workM jobs (stR jobs r0 r1 r2) i = w at *
  generalize hN : lat sv w.st = n at *
  generalize hM : lat r1 w.st = M at *
  refine ⟨⟨by omega, by omega⟩, ⟨by omega, by omega⟩, ⟨by omega, hdn⟩, fun o v => ∃ q : Nat, v = q /\ 1 <= q /\ (q : Int) <= n /\ o = scanV M n q, fun _ v => n.toNat - v.toNat, ⟨1, rfl, by omega, by omega, (scanV_one M n).symm⟩, ?_⟩
  rintro _ _ ⟨q, rfl, hq1, hqn, rfl⟩
  obtain ⟨s, hs, hsq⟩ := scanV_b M n hq1
  refine ⟨by omega, fun k3 => ⟨fun o => o = scanV M n (q + 1), fun o ho => ⟨by unfold inI; omega, ⟨q + 1, by omega, by omega, by omega, ho⟩, by show n.toNat - ((q : Int) + 1).toNat < n.toNat - (q : Int).toNat; omega⟩, ⟨by omega, by omega⟩, ⟨by omega, by omega⟩, ⟨by omega, by omega⟩, ⟨by omega, by omega⟩, fun k4 => ?_, fun k4 => ?_⟩, fun k3 => ?_⟩
  . rw [scanV_succ hq1 k3 (by omega), if_pos (by simpa using k4)]
  . rw [scanV_succ hq1 k3 (by omega), if_neg (by simpa using k4)]
  have hqe : q = n.toNat := by omega
  have hv1 := hv (scanV M n q) (by rw [hslot, hqe])
  rw [<- hqe] at hslot
  rw [<- hslot] at hv1 ⊢
  have e1 : max (lat r2 (i : Int)) (vat M (slotM sv (stR jobs r0 r1 r2) w.st).toNat) + w.tm = (visM sv jobs (stR jobs r0 r1 r2) i).en := by rw [<- hv1]
  rw [hv1, e1]
  generalize hVV : visM sv jobs (stR jobs r0 r1 r2) i = V at *
  have hin : inI V.en := by unfold inI; omega
  refine ⟨⟨by omega, by omega⟩, ⟨by omega, by omega⟩, ⟨by omega, by omega⟩, hin, ⟨by omega, by omega⟩, ⟨by omega, by omega⟩, ⟨by omega, by omega⟩, ⟨by omega, by omega⟩, by simp; omega, ?_, ?_⟩
  . simp only [Int.toNat_natCast]
    rw [<- hnext]
    refine ⟨D ++ [⟨(i : Int), V⟩], c + 1, hnx, ?_, by rw [List.length_set]; exact hl2, ?_⟩
    . rw [rowsM_snoc D hlt rfl, <- hD]
    . rw [hless, runN_pos k2, hi, hVV] at he
      rw [List.append_assoc]
      exact he
  . simp only [Int.toNat_natCast]
    rw [<- hnext]; omega
theorem spec_rrun (sv : (List Int)) (jobs : (List Job)) (h0 : sv.length <= 9223372036854775807) (h1 : ∀ j ∈ jobs, j.wk.length <= 9223372036854775807) (h2 : jobs.length <= 9223372036854775807) : FnP Try.prog 60 [.lst true sv.length (zYy zYx sv), .lst true jobs.length (zYy (e53 true) jobs)] (fun xR => xR = .tup [.lst false ((runR sv jobs).1).length (zYy (eSl e87 true) ((runR sv jobs).1)), .int .i64 ((runR sv jobs).2)]) :=
  (walk_rrun (vcp_rrun sv jobs h0 h1 h2)).mono (by rintro _ ⟨_, _, rfl, rfl, rfl⟩; rfl)
def vc_rfin (sv : (List Int)) (jobs : (List Job)) (j : Int) (Post : Int -> Int -> Prop) : Prop :=
  (sv.length <= 9223372036854775807) /\ (∀ j ∈ jobs, j.wk.length <= 9223372036854775807) /\ (jobs.length <= 9223372036854775807) /\ (((¬ (runR sv jobs).2 = (0 : Int)) \/ ((j < (0 : Int)) \/ ((jobs.length : Int) <= j))) -> Post (0 : Int) (230 : Int)) /\ (¬ ((¬ (runR sv jobs).2 = (0 : Int)) \/ ((j < (0 : Int)) \/ ((jobs.length : Int) <= j))) -> (0 <= j /\ j < (((runR sv jobs).1).length : Int)) /\ ((((lat ((runR sv jobs).1) j).length : Int) = (0 : Int)) -> (0 <= j /\ j < (jobs.length : Int)) /\ Post ((lat jobs j).ar) (0 : Int)) /\ (¬ (((lat ((runR sv jobs).1) j).length : Int) = (0 : Int)) -> (0 <= j /\ j < (((runR sv jobs).1).length : Int)) /\ (0 <= j /\ j < (((runR sv jobs).1).length : Int)) /\ (inI (((lat ((runR sv jobs).1) j).length : Int) - (1 : Int))) /\ (0 <= (((lat ((runR sv jobs).1) j).length : Int) - (1 : Int)) /\ (((lat ((runR sv jobs).1) j).length : Int) - (1 : Int)) < ((lat ((runR sv jobs).1) j).length : Int)) /\ Post ((lat (lat ((runR sv jobs).1) j) (((lat ((runR sv jobs).1) j).length : Int) - (1 : Int))).en) (0 : Int)))
theorem walk_rfin {sv : (List Int)} {jobs : (List Job)} {j : Int} {Post : Int -> Int -> Prop} (hv : vc_rfin sv jobs j Post) : FnP Try.prog 45 [.lst true sv.length (zYy zYx sv), .lst true jobs.length (zYy (e53 true) jobs), .int .i64 j] (fun x => ∃ q0 q1, x = .tup [.int .i64 q0, .int .i64 q1] /\ Post q0 q1) := by
 refine FnP.of_walk (T := tt) (nt := 52) ttOk ttMix ⟨⟨Try.f45, Try.func45, rfl, rfl, rfl, rfl⟩⟩ (by simp) ?_
 unfold vc_rfin at hv
 change W _ _ _ ⟨52, look [(0, .lst true sv.length (zYy zYx sv)), (1, .lst true jobs.length (zYy (e53 true) jobs)), (2, .int .i64 j)], [], 0⟩ _
 refine W.ty [(0, .lst _ _ _), (1, .lst _ _ _), (2, .int _ _)] rfl (W.rL ?_)
 iterate 2 refine aI rfl rfl ?_
 refine eL (W.ty [(0, .lst _ _ _), (1, .lst _ _ _), (2, .int _ _)] rfl (W.rL ?_))
 iterate 2 refine mL rfl rfl ?_
 obtain ⟨s1, s2, s3, hv⟩ := hv
 refine cL rfl (zZu (k := 60) (fst := []) (caps := []) (ys := [.lst _ _ _, .lst _ _ _]) rfl rfl (spec_rrun sv jobs s1 s2 s3) zk (cL rfl (zZp (v := .tup _) rfl (cL rfl (o_ext (v := .lst _ _ _) rfl rfl (cL rfl (o_ext (v := .int _ _) rfl rfl (aL rfl rfl (aI rfl rfl (eL (W.ty [(1, .lst _ _ _), (2, .int _ _), (8, .lst _ _ _), (9, .int _ _)] rfl (W.seq' (W.rLm ⟨52, look [(1, .lst true jobs.length (zYy (e53 true) jobs)), (2, .int .i64 j), (8, .lst false ((runR sv jobs).1).length (zYy (eSl e87 true) ((runR sv jobs).1))), (27, .bool (decide ((¬ (runR sv jobs).2 = (0 : Int)) \/ ((j < (0 : Int)) \/ ((jobs.length : Int) <= j)))))], [], 0⟩ ?_ ?_)))))))))))))
 refine mI rfl rfl (cL rfl (o_neI rfl rfl rfl (mB rfl rfl ?_)))
 by_cases c1 : ¬ (runR sv jobs).2 = (0 : Int)
 iterate 2 refine cLs rfl rfl rfl (dT c1) ?_
 refine cL rfl (zZv (v := .bool _) rfl (dT c1) rfl (mB rfl rfl ?_))
 iterate 4 refine cLs rfl rfl rfl (rfl) ?_
 refine cL rfl (zZv (v := .bool _) rfl rfl rfl (eL (zYz ⟨rfl, rfl, rfl, (congrArg AV.bool (dOrT c1)).symm, trivial⟩ rfl)))
 refine cLg rfl rfl (dF c1) (mI rfl rfl (cLg rfl rfl (dF c1) (cL rfl (zYq rfl rfl (cL rfl (zZy (v := .bool _) rfl (dF c1) rfl (mB rfl rfl ?_)))))))
 by_cases c2 : j < (0 : Int)
 iterate 4 refine cLs rfl rfl rfl (dT c2) ?_
 refine cL rfl (zZv (v := .bool _) rfl (dT c2) rfl (eL (zYz ⟨rfl, rfl, rfl, (congrArg AV.bool (dOrF c1 (dOrT c2))).symm, trivial⟩ rfl)))
 refine cLg rfl rfl (dF c2) (mI rfl rfl (cLg rfl rfl (dF c2) (mL rfl rfl (cLg rfl rfl (dF c2) (cL rfl (zXw (v := .lst _ _ _) tt23 rfl rfl (cLg rfl rfl (dF c2) (cL rfl (o_geq rfl rfl (cL rfl (zZy (v := .bool _) rfl (dF c2) rfl (eL (zYz ⟨rfl, rfl, rfl, (congrArg AV.bool (dOrF c1 (dOrF c2 (rfl)))).symm, trivial⟩ rfl)))))))))))))
 refine W.cn rfl (fun hc => ?_) (fun hc => ?_)
 have hv := hv.1 hc
 refine W.rL ?_
 iterate 2 refine aI rfl rfl ?_
 refine eL (W.ty [(6, .int _ _), (7, .int _ _)] rfl (W.ret (zZr (rt ?_))))
 iterate 2 refine rt_t (v := .int _ _) rfl ?_
 refine rt_n (⟨_, rs_tup 5 _ (Wks.cons (zY _ _ _ _) (Wks.cons (zY _ _ _ _) zk)), (0 : Int), (230 : Int), rfl, hv⟩)
 have hv := hv.2 hc
 refine W.skip (zZ (W.ty [(1, .lst _ _ _), (2, .int _ _), (8, .lst _ _ _)] rfl (W.seq' (W.rL (mL rfl rfl (mI rfl rfl ?_))))))
 obtain ⟨s6, hv⟩ := hv
 refine cL rfl (zYu tt99 tt102 rfl rfl ((encSl e87).wd true) rfl s6 ?_)
 intro rest6
 refine cL rfl (zZx (v := .lst _ _ _) tt102 rfl rfl ⟨_, rfl⟩ (cL rfl (zXw (v := .lst _ _ _) tt102 rfl rfl (cL rfl (o_eqI rfl rfl rfl (eL (W.ty [(1, .lst _ _ _), (2, .int _ _), (8, .lst _ _ _), (33, .bool _)] rfl (W.cn rfl (fun hc => ?_) (fun hc => ?_)))))))))
 have hv := hv.1 hc
 refine W.rL (mL rfl rfl (mI rfl rfl ?_))
 obtain ⟨s7, hv⟩ := hv
 refine cL rfl (zYu tt23 tt53 rfl rfl (enc53.wd true) rfl s7 ?_)
 intro rest7
 refine cL rfl (o_faP tt53 rfl tt3 rfl (cL rfl (zZx (v := .int _ _) tt3 rfl rfl ⟨_, rfl⟩ ?_)))
 iterate 2 refine aI rfl rfl ?_
 refine eL (W.ty [(6, .int _ _), (7, .int _ _)] rfl (W.ret (zZr (rt ?_))))
 iterate 2 refine rt_t (v := .int _ _) rfl ?_
 refine rt_n (⟨_, rs_tup 5 _ (Wks.cons (zY _ _ _ _) (Wks.cons (zY _ _ _ _) zk)), ((lat jobs j).ar), (0 : Int), rfl, hv⟩)
 have hv := hv.2 hc
 refine W.skip (zZ (W.ty [(2, .int _ _), (8, .lst _ _ _)] rfl (W.rD [0, 1, 2, 3, 4, 5, 6, 7, 8, 9, 10, 11, 12, 13, 14] (by decide +kernel) rfl (mL rfl rfl (mI rfl rfl ?_)))))
 obtain ⟨s8, hv⟩ := hv
 refine cL rfl (zYu tt99 tt102 rfl rfl ((encSl e87).wd true) rfl s8 ?_)
 intro rest8
 refine cL rfl (zZx (v := .lst _ _ _) tt102 rfl rfl ⟨_, rfl⟩ (mL rfl rfl (mI rfl rfl ?_)))
 obtain ⟨s9, hv⟩ := hv
 refine cL rfl (zYu tt99 tt102 rfl rfl ((encSl e87).wd true) rfl s9 ?_)
 intro rest9
 refine cL rfl (zZx (v := .lst _ _ _) tt102 rfl rfl ⟨_, rfl⟩ (cL rfl (zXw (v := .lst _ _ _) tt102 rfl rfl ?_)))
 obtain ⟨s10, hv⟩ := hv
 refine cL rfl (o_sub rfl rfl s10 ?_)
 obtain ⟨s11, hv⟩ := hv
 refine cL rfl (zYu tt102 tt87 rfl rfl (enc87.wd true) rfl s11 ?_)
 intro rest11
 refine cL rfl (o_faP tt87 rfl tt3 rfl (cL rfl (zZx (v := .int _ _) tt3 rfl rfl ⟨_, rfl⟩ ?_)))
 iterate 2 refine aI rfl rfl ?_
 refine eL (W.ty [(6, .int _ _), (7, .int _ _)] rfl (W.ret (rt ?_)))
 iterate 2 refine rt_t (v := .int _ _) rfl ?_
 refine rt_n (⟨_, rs_tup 5 _ (Wks.cons (zY _ _ _ _) (Wks.cons (zY _ _ _ _) zk)), ((lat (lat ((runR sv jobs).1) j) (((lat ((runR sv jobs).1) j).length : Int) - (1 : Int))).en), (0 : Int), rfl, hv⟩)
set_option maxHeartbeats 4000000 in
theorem vcp_rfin (sv : (List Int)) (jobs : (List Job)) (j : Int) (h0 : sv.length <= 9223372036854775807) (h1 : ∀ q ∈ jobs, q.wk.length <= 9223372036854775807) (h2 : jobs.length <= 9223372036854775807) : vc_rfin sv jobs j (fun q0 q1 => q0 = (finishM sv jobs j).1 /\ q1 = (finishM sv jobs j).2) := by
  unfold vc_rfin
  refine ⟨h0, h1, h2, fun k => ?_, fun k => ?_⟩
  . have : ¬ (validJ sv jobs = true /\ 0 <= j /\ j <= (jobs.length : Int) - 1) := fun h => by
      unfold runR at k
      rw [if_pos h.1] at k
      rcases k with k | k
      . exact k rfl
      . omega
    unfold finishM
    rw [if_neg this]
    exact ⟨rfl, rfl⟩
  have hv : validJ sv jobs = true := Decidable.not_not.1 fun h => k (.inl (by unfold runR; rw [if_neg h]; decide))
  obtain ⟨i, rfl⟩ : ∃ i : Nat, j = i := ⟨j.toNat, by omega⟩
  have hi : i < jobs.length := by omega
  have e0 : (runR sv jobs).1 = rowsM jobs.length (runM sv jobs) := by unfold runR; rw [if_pos hv]
  have hl := runM_len hv
  have hr : (lat (rowsM jobs.length (runM sv jobs)) (i : Int)).length <= 144 := by
    rw [rowsM_lat _ hi, List.length_map]
    exact Nat.le_trans (List.length_filter_le _ _) hl
  have he := endM_rows (n := jobs.length) (l := runM sv jobs) hi (lat jobs (i : Int)).ar
  have hF : finishM sv jobs (i : Int) = (endM (runM sv jobs) (i : Int) (lat jobs (i : Int)).ar, 0) := by unfold finishM; rw [if_pos ⟨hv, by omega, by omega⟩]
  rw [e0, hF, rowsM_len]
  refine ⟨⟨by omega, by omega⟩, fun k2 => ⟨⟨by omega, by omega⟩, ?_, rfl⟩, fun k2 => ⟨⟨by omega, by omega⟩, ⟨by omega, by omega⟩, by unfold inI; omega, ⟨by omega, by omega⟩, ?_, rfl⟩⟩
  . show _ = endM _ _ _
    rw [he, if_pos k2]
  . show _ = endM _ _ _
    rw [he, if_neg k2]
theorem spec_rfin (sv : (List Int)) (jobs : (List Job)) (j : Int) (h0 : sv.length <= 9223372036854775807) (h1 : ∀ q ∈ jobs, q.wk.length <= 9223372036854775807) (h2 : jobs.length <= 9223372036854775807) : FnP Try.prog 45 [.lst true sv.length (zYy zYx sv), .lst true jobs.length (zYy (e53 true) jobs), .int .i64 j] (fun xR => xR = .tup [.int .i64 ((finishM sv jobs j).1), .int .i64 ((finishM sv jobs j).2)]) :=
  (walk_rfin (vcp_rfin sv jobs j h0 h1 h2)).mono (by rintro _ ⟨_, _, rfl, rfl, rfl⟩; rfl)
def vc_rlate (r : Req) (p : Int) (Post : Int -> Int -> Prop) : Prop :=
  (r.sv.length <= 9223372036854775807) /\ (∀ j ∈ r.jobs, j.wk.length <= 9223372036854775807) /\ (r.jobs.length <= 9223372036854775807) /\ (r.ex.length <= 9223372036854775807) /\ ((¬ (withE r p).2 = (0 : Int)) -> Post (0 : Int) ((withE r p).2)) /\ (¬ (¬ (withE r p).2 = (0 : Int)) -> (r.sv.length <= 9223372036854775807) /\ (∀ q ∈ ((withE r p).1), q.wk.length <= 9223372036854775807) /\ (((withE r p).1).length <= 9223372036854775807) /\ ((¬ (finishM r.sv ((withE r p).1) r.late).2 = (0 : Int)) -> Post (0 : Int) (240 : Int)) /\ (¬ (¬ (finishM r.sv ((withE r p).1) r.late).2 = (0 : Int)) -> (0 <= r.late /\ r.late < (r.jobs.length : Int)) /\ (inI (((finishM r.sv ((withE r p).1) r.late).1) - ((lat r.jobs r.late).ar))) /\ (inI ((((finishM r.sv ((withE r p).1) r.late).1) - ((lat r.jobs r.late).ar)) - r.obj)) /\ Post (max (0 : Int) ((((finishM r.sv ((withE r p).1) r.late).1) - ((lat r.jobs r.late).ar)) - r.obj)) (0 : Int)))
theorem walk_rlate {r : Req} {p : Int} {Post : Int -> Int -> Prop} (hv : vc_rlate r p Post) : FnP Try.prog 22 [.agg ((e26 true) r), .int .i64 p] (fun x => ∃ q0 q1, x = .tup [.int .i64 q0, .int .i64 q1] /\ Post q0 q1) := by
 refine FnP.of_walk (T := tt) (nt := 43) ttOk ttMix ⟨⟨Try.f22, Try.func22, rfl, rfl, rfl, rfl⟩⟩ (by simp) ?_
 unfold vc_rlate at hv
 change W _ _ _ ⟨43, look [(0, .agg [.lst true r.sv.length (zYy zYx r.sv), .lst true r.jobs.length (zYy (e53 true) r.jobs), .int .i64 r.late, .int .i64 r.obj, .int .i64 r.causes, .lst true r.ex.length (zYy e58 r.ex)]), (1, .int .i64 p)], [], 0⟩ _
 refine W.ty [(0, .agg _), (1, .int _ _)] rfl (W.rL (cL rfl (o_box (v := .agg _) (p := 0) rfl rfl rfl ?_)))
 iterate 2 refine aI rfl rfl ?_
 refine eL (W.ty [(1, .int _ _), (2, .ptr _ _)] rfl (W.rL (cL rfl (zYp (cs := [.lst _ _ _, .lst _ _ _, .int _ _, .int _ _, .int _ _, .lst _ _ _]) tt26 rfl rfl ⟨_, rfl⟩ rfl (mI rfl rfl ?_)))))
 obtain ⟨s1, s2, s3, s4, hv⟩ := hv
 refine cL rfl (zZu (k := 24) (fst := []) (caps := []) (ys := [.agg _, .int _ _]) rfl rfl (spec_rwith r p s1 s2 s3 s4) zk (cL rfl (zZp (v := .tup _) rfl (cL rfl (o_ext (v := .lst _ _ _) rfl rfl (cL rfl (o_ext (v := .int _ _) rfl rfl (aL rfl rfl (aI rfl rfl (eL (W.ty [(2, .ptr _ _), (6, .lst _ _ _), (7, .int _ _)] rfl (W.seq' (W.rL (mI rfl rfl (cL rfl (o_neI rfl rfl rfl (eL (W.ty [(2, .ptr _ _), (6, .lst _ _ _), (7, .int _ _), (17, .bool _)] rfl (W.cn rfl (fun hc => ?_) (fun hc => ?_))))))))))))))))))))
 have hv := hv.1 hc
 refine W.rL (mI rfl rfl ?_)
 iterate 2 refine aI rfl rfl ?_
 refine eL (W.ty [(4, .int _ _), (5, .int _ _)] rfl (W.ret (zZr (rt ?_))))
 iterate 2 refine rt_t (v := .int _ _) rfl ?_
 refine rt_n (⟨_, rs_tup 5 _ (Wks.cons (zY _ _ _ _) (Wks.cons (zY _ _ _ _) zk)), (0 : Int), ((withE r p).2), rfl, hv⟩)
 have hv := hv.2 hc
 refine W.skip (zZ (W.ty [(2, .ptr _ _), (6, .lst _ _ _)] rfl (W.rL (cL rfl (o_fa tt26 rfl tt22 rfl (cL rfl (zZx (v := .lst _ _ _) tt22 rfl rfl ⟨_, rfl⟩ (mL rfl rfl (cL rfl (o_fa tt26 rfl tt3 rfl (cL rfl (zZx (v := .int _ _) tt3 rfl rfl ⟨_, rfl⟩ ?_))))))))))))
 obtain ⟨s5, s6, s7, hv⟩ := hv
 refine cL rfl (zZu (k := 45) (fst := []) (caps := []) (ys := [.lst _ _ _, .lst _ _ _, .int _ _]) rfl rfl (spec_rfin r.sv ((withE r p).1) r.late s5 s6 s7) zk (cL rfl (zZp (v := .tup _) rfl ?_)))
 iterate 2 refine cL rfl (o_ext (v := .int _ _) rfl rfl ?_)
 iterate 2 refine aI rfl rfl ?_
 refine eL (W.ty [(2, .ptr _ _), (8, .int _ _), (9, .int _ _)] rfl (W.seq' (W.rL (mI rfl rfl (cL rfl (o_neI rfl rfl rfl (eL (W.ty [(2, .ptr _ _), (8, .int _ _), (29, .bool _)] rfl (W.cn rfl (fun hc => ?_) (fun hc => ?_))))))))))
 have hv := hv.1 hc
 refine W.rL ?_
 iterate 2 refine aI rfl rfl ?_
 refine eL (W.ty [(4, .int _ _), (5, .int _ _)] rfl (W.ret (zZr (rt ?_))))
 iterate 2 refine rt_t (v := .int _ _) rfl ?_
 refine rt_n (⟨_, rs_tup 5 _ (Wks.cons (zY _ _ _ _) (Wks.cons (zY _ _ _ _) zk)), (0 : Int), (240 : Int), rfl, hv⟩)
 have hv := hv.2 hc
 refine W.skip (zZ (W.ty [(2, .ptr _ _), (8, .int _ _)] rfl (W.rD [0, 1, 2, 3, 4, 5, 6, 7, 8, 9, 10, 11, 12, 13, 14] (by decide +kernel) rfl (mI rfl rfl (cL rfl (o_fa tt26 rfl tt23 rfl (cL rfl (zZx (v := .lst _ _ _) tt23 rfl rfl ⟨_, rfl⟩ (cL rfl (o_fa tt26 rfl tt3 rfl (cL rfl (zZx (v := .int _ _) tt3 rfl rfl ⟨_, rfl⟩ ?_))))))))))))
 obtain ⟨s8, hv⟩ := hv
 refine cL rfl (zYu tt23 tt53 rfl rfl (enc53.wd true) rfl s8 ?_)
 intro rest8
 refine cL rfl (o_faP tt53 rfl tt3 rfl (cL rfl (zZx (v := .int _ _) tt3 rfl rfl ⟨_, rfl⟩ ?_)))
 obtain ⟨s9, hv⟩ := hv
 refine cL rfl (o_sub rfl rfl s9 (cL rfl (o_fa tt26 rfl tt3 rfl (cL rfl (zZx (v := .int _ _) tt3 rfl rfl ⟨_, rfl⟩ ?_)))))
 obtain ⟨s10, hv⟩ := hv
 refine cL rfl (o_sub rfl rfl s10 (cL rfl (o_max rfl rfl ?_)))
 iterate 2 refine aI rfl rfl ?_
 refine eL (W.ty [(4, .int _ _), (5, .int _ _)] rfl (W.ret (rt ?_)))
 iterate 2 refine rt_t (v := .int _ _) rfl ?_
 refine rt_n (⟨_, rs_tup 5 _ (Wks.cons (zY _ _ _ _) (Wks.cons (zY _ _ _ _) zk)), (max (0 : Int) ((((finishM r.sv ((withE r p).1) r.late).1) - ((lat r.jobs r.late).ar)) - r.obj)), (0 : Int), rfl, hv⟩)
set_option maxHeartbeats 4000000 in
theorem vcp_rlate (r : Req) (p : Int) (h0 : r.sv.length <= 9223372036854775807) (h1 : ∀ j ∈ r.jobs, j.wk.length <= 9223372036854775807) (h2 : r.jobs.length <= 9223372036854775807) (h3 : r.ex.length <= 9223372036854775807) : vc_rlate r p (fun q0 q1 => q0 = (latenessM r p).1 /\ q1 = (latenessM r p).2) := by
  unfold vc_rlate
  rcases Bool.eq_false_or_eq_true (isSetM r p) with ks | ks
  . have kv : validR r = true := by unfold isSetM at ks; rw [Bool.and_eq_true] at ks; exact ks.1
    have hv := (validR_iff r).1 kv
    obtain ⟨hj1, hj2, hj3⟩ := job_ok hv.j
    obtain ⟨hk1, hk2, hk3⟩ := job_ok (hv.with_ok p)
    have e : withE r p = (withM r p, 0) := by unfold withE; rw [if_pos ks]
    have el : latenessM r p = lateM r p := by unfold latenessM; rw [if_pos ks]
    have hf := hv.late2 p
    have hb := finishM_bound r.sv (withM r p) r.late
    have hla := hv.late
    have hob := hv.obj
    have har := (hj3 _ (lat_mem (xs := r.jobs) (i := r.late) ⟨hla.1, hla.2⟩)).1
    rw [e, el]
    refine ⟨h0, h1, h2, h3, fun k => absurd rfl k, fun _ => ⟨h0, fun q hq => by have := (hk3 q hq).1; omega, by simp only; omega, fun k => absurd hf k, fun k => ⟨⟨hla.1, hla.2⟩, by unfold inI; simp only; omega, by unfold inI; simp only; omega, ?_⟩⟩⟩
    unfold lateM latenessM'
    rw [if_neg (fun h => h hf)]
    exact ⟨rfl, rfl⟩
  . have e : withE r p = ([], 240) := by unfold withE; rw [if_neg (by rw [ks]; decide)]
    have el : latenessM r p = (0, 240) := by unfold latenessM; rw [if_neg (by rw [ks]; decide)]
    rw [e, el]
    exact ⟨h0, h1, h2, h3, fun _ => ⟨rfl, rfl⟩, fun k => absurd (by decide) k⟩
theorem spec_rlate (r : Req) (p : Int) (h0 : r.sv.length <= 9223372036854775807) (h1 : ∀ j ∈ r.jobs, j.wk.length <= 9223372036854775807) (h2 : r.jobs.length <= 9223372036854775807) (h3 : r.ex.length <= 9223372036854775807) : FnP Try.prog 22 [.agg ((e26 true) r), .int .i64 p] (fun xR => xR = .tup [.int .i64 ((latenessM r p).1), .int .i64 ((latenessM r p).2)]) :=
  (walk_rlate (vcp_rlate r p h0 h1 h2 h3)).mono (by rintro _ ⟨_, _, rfl, rfl, rfl⟩; rfl)
def vc_rvals (r : Req) (Post : (List Int) -> Int -> Prop) : Prop :=
  (r.sv.length <= 9223372036854775807) /\ (∀ j ∈ r.jobs, j.wk.length <= 9223372036854775807) /\ (r.jobs.length <= 9223372036854775807) /\ (r.ex.length <= 9223372036854775807) /\ ((¬ ((validR r) = true)) -> Post [] (240 : Int)) /\ (¬ (¬ ((validR r) = true)) -> ∃ (I1 : Int -> List Int -> Prop) (μ1 : Int -> List Int -> Nat), I1 (0 : Int) [] /\ ∀ (v5 : Int) (r1 : List Int), I1 v5 r1 -> (0 <= r.causes) /\ (inI ((1 : Int) * 2 ^ (min r.causes.toNat 64))) /\ ((v5 < ((1 : Int) * 2 ^ (min r.causes.toNat 64))) -> (r.sv.length <= 9223372036854775807) /\ (∀ j ∈ r.jobs, j.wk.length <= 9223372036854775807) /\ (r.jobs.length <= 9223372036854775807) /\ (r.ex.length <= 9223372036854775807) /\ ((¬ (latenessM r v5).2 = (0 : Int)) -> Post [] ((latenessM r v5).2)) /\ (¬ (¬ (latenessM r v5).2 = (0 : Int)) -> ((r1 ++ [(latenessM r v5).1]).length <= 1073741824) /\ (inI (v5 + (1 : Int))) /\ (I1 (v5 + (1 : Int)) (r1 ++ [(latenessM r v5).1]) /\ μ1 (v5 + (1 : Int)) (r1 ++ [(latenessM r v5).1]) < μ1 v5 r1))) /\ (¬ (v5 < ((1 : Int) * 2 ^ (min r.causes.toNat 64))) -> Post r1 (0 : Int)))
theorem walk_rvals {r : Req} {Post : (List Int) -> Int -> Prop} (hv : vc_rvals r Post) : FnP Try.prog 18 [.agg ((e26 true) r)] (fun x => ∃ q0 q1, x = .tup [.lst false q0.length (zYy zYx q0), .int .i64 q1] /\ Post q0 q1) := by
 refine FnP.of_walk (T := tt) (nt := 32) ttOk ttMix ⟨⟨Try.f18, Try.func18, rfl, rfl, rfl, rfl⟩⟩ (by simp) ?_
 unfold vc_rvals at hv
 change W _ _ _ ⟨32, look [(0, .agg [.lst true r.sv.length (zYy zYx r.sv), .lst true r.jobs.length (zYy (e53 true) r.jobs), .int .i64 r.late, .int .i64 r.obj, .int .i64 r.causes, .lst true r.ex.length (zYy e58 r.ex)])], [], 0⟩ _
 refine W.ty [(0, .agg _)] rfl (W.rL (cL rfl (o_box (v := .agg _) (p := 0) rfl rfl rfl (cL rfl (zZq (v := .nilS) rfl (aI rfl rfl (eL (W.ty [(1, .ptr _ _)] rfl (W.seq' (W.rL (cL rfl (zYp (cs := [.lst _ _ _, .lst _ _ _, .int _ _, .int _ _, .int _ _, .lst _ _ _]) tt26 rfl rfl ⟨_, rfl⟩ rfl ?_))))))))))))
 obtain ⟨s5, s6, s7, s8, hv⟩ := hv
 refine cL rfl (zZu (k := 14) (fst := []) (caps := []) (ys := [.agg _]) rfl rfl (spec_rvalid r s5 s6 s7 s8) zk (cL rfl (o_notB rfl (eL (W.ty [(1, .ptr _ _), (10, .bool _)] rfl (W.cn rfl (fun hc => ?_) (fun hc => ?_)))))))
 have hv := hv.1 hc
 refine W.rL (cL rfl (zZq (v := .nilS) rfl (aI rfl rfl (eL (W.ty [(2, .nilS), (3, .int _ _)] rfl (W.ret (zZr (rt (rt_t (v := .nilS) rfl (rt_t (v := .int _ _) rfl (rt_n (⟨_, rs_tup 5 _ (Wks.cons (rs_nil _ _ _ _ rfl) (Wks.cons (zY _ _ _ _) zk)), [], (240 : Int), rfl, hv⟩))))))))))))
 have hv := hv.2 hc
 refine W.skip (zZ (W.ty [(1, .ptr _ _)] rfl (W.rL (cL rfl (zZq (v := .nilS) rfl (eL (W.ty [(1, .ptr _ _), (4, .nilS)] rfl (W.seq' (W.rL (aI rfl rfl (eL (W.ty [(1, .ptr _ _), (4, .nilS), (5, .int _ _)] rfl (W.block ?_)))))))))))))
 obtain ⟨I1, μ1, hp, hv⟩ := hv
 refine W.loop2 (fun v5 r1 => ⟨32, look [(1, .ptr 0 0), (4, .ref true 1 r1.length), (5, .int .i64 v5)], [.box 26 [.lst true r.sv.length (zYy zYx r.sv), .lst true r.jobs.length (zYy (e53 true) r.jobs), .int .i64 r.late, .int .i64 r.obj, .int .i64 r.causes, .lst true r.ex.length (zYy e58 r.ex)], .row 3 1 (zYy zYx r1)], 0⟩) I1 μ1 (0 : Int) [] (St.to_mk (φ := [some 0, none]) rfl (rfl) ⟨Ren.ptr rfl, Ren.nilR rfl rfl, Ren.int _ _, trivial⟩ ⟨(zB rfl rfl), rfl, trivial⟩) hp ?_
 clear hp
 intro v5 r1 hI
 replace hv := hv v5 r1 hI
 clear hI
 refine W.seq' (W.rL (mI rfl rfl (cL rfl (o_fa tt26 rfl tt3 rfl (cL rfl (zZx (v := .int _ _) tt3 rfl rfl ⟨_, rfl⟩ ?_))))))
 obtain ⟨s82, s83, hv⟩ := hv
 refine cL rfl (o_shl rfl rfl s82 s83 (cL rfl (zYq rfl rfl (eL (W.ty [(1, .ptr _ _), (4, .ref _ _ _), (5, .int _ _), (15, .bool _)] rfl (W.cn rfl (fun hc => ?_) (fun hc => ?_)))))))
 have hv := hv.1 hc
 refine W.skip (zZ (W.ty [(1, .ptr _ _), (4, .ref _ _ _), (5, .int _ _)] rfl (W.seq' (W.block (W.rL (cL rfl (zYp (cs := [.lst _ _ _, .lst _ _ _, .int _ _, .int _ _, .int _ _, .lst _ _ _]) tt26 rfl rfl ⟨_, rfl⟩ rfl (mI rfl rfl ?_))))))))
 obtain ⟨s89, s90, s91, s92, hv⟩ := hv
 refine cL rfl (zZu (k := 22) (fst := []) (caps := []) (ys := [.agg _, .int _ _]) rfl rfl (spec_rlate r v5 s89 s90 s91 s92) zk (cL rfl (zZp (v := .tup _) rfl ?_)))
 iterate 2 refine cL rfl (o_ext (v := .int _ _) rfl rfl ?_)
 iterate 2 refine aI rfl rfl ?_
 refine eL (W.ty [(1, .ptr _ _), (4, .ref _ _ _), (5, .int _ _), (6, .int _ _), (7, .int _ _)] rfl (W.seq' (W.rL (mI rfl rfl (cL rfl (o_neI rfl rfl rfl (eL (W.ty [(1, .ptr _ _), (4, .ref _ _ _), (5, .int _ _), (6, .int _ _), (7, .int _ _), (25, .bool _)] rfl (W.cn rfl (fun hc => ?_) (fun hc => ?_))))))))))
 have hv := hv.1 hc
 refine W.rL (mI rfl rfl (cL rfl (zZq (v := .nilS) rfl (aI rfl rfl (eL (W.ty [(2, .nilS), (3, .int _ _)] rfl (W.ret (zZr (zYt (zZr (zZr (zYt (zZr (rt (rt_t (v := .nilS) rfl (rt_t (v := .int _ _) rfl (rt_n (⟨_, rs_tup 5 _ (Wks.cons (rs_nil _ _ _ _ rfl) (Wks.cons (zY _ _ _ _) zk)), [], ((latenessM r v5).2), rfl, hv⟩))))))))))))))))))
 have hv := hv.2 hc
 refine W.skip (zZ (W.ty [(1, .ptr _ _), (4, .ref _ _ _), (5, .int _ _), (6, .int _ _)] rfl (W.rL1 (cL rfl (zZp (v := .ref _ _ _) rfl (mI rfl rfl (cL rfl (o_bs1 (v := .int _ _) (q := 2) tt22 tt3 rfl rfl rfl rfl rfl rfl rfl rfl ?_))))))))
 obtain ⟨s93, hv⟩ := hv
 refine cL rfl (o_apR (p := 3) (q := (r1 ++ [(latenessM r v5).1]).length) tt22 tt3 rfl rfl (src_ref rfl rfl) rfl rfl (zYw (zZw.wd false) _) (Nat.le_trans (Nat.le_of_eq (@List.length_append _ (r1) ([(latenessM r v5).1])).symm) s93) rfl (@List.length_append _ (r1) ([(latenessM r v5).1])).symm (encL_app zYx r1 [(latenessM r v5).1]) (cL rfl (zZq (v := .ref _ _ _) rfl (eL (zYv (zZ (W.ty [(1, .ptr _ _), (4, .ref _ _ _), (5, .int _ _)] rfl (W.rL1 (mI rfl rfl ?_)))))))))
 obtain ⟨s94, hv⟩ := hv
 refine cL rfl (o_add rfl rfl s94 (aI rfl rfl (eL (zZ (⟨(), (v5 + (1 : Int)), (r1 ++ [(latenessM r v5).1]), hv, St.to_mk (φ := [some 0, some 3]) rfl (rfl) ⟨Ren.ptr rfl, Ren.ref rfl (fun h => rfl), Ren.int _ _, trivial⟩ ⟨(zB rfl rfl), zE zZw false (r1 ++ [(latenessM r v5).1]) rfl, trivial⟩⟩)))))
 have hv := hv.2 hc
 refine W.exit (zZt (zZt (zYs (zZ (W.ty [(4, .ref _ _ _)] rfl (W.rL (cL rfl (zZp (v := .ref _ _ _) rfl (cL rfl (zZq (v := .ref _ _ _) rfl (aI rfl rfl (eL (W.ty [(2, .ref _ _ _), (3, .int _ _)] rfl (W.ret (rt (rt_t (v := .ref _ _ _) rfl (rt_t (v := .int _ _) rfl (rt_n (⟨_, rs_tup 5 _ (Wks.cons (rs_ref zZw 3 _ rfl rfl) (Wks.cons (zY _ _ _ _) zk)), r1, (0 : Int), rfl, hv⟩)))))))))))))))))))
set_option maxHeartbeats 4000000 in
theorem vcp_rvals (r : Req) (h0 : r.sv.length <= 9223372036854775807) (h1 : ∀ j ∈ r.jobs, j.wk.length <= 9223372036854775807) (h2 : r.jobs.length <= 9223372036854775807) (h3 : r.ex.length <= 9223372036854775807) : vc_rvals r (fun q0 q1 => q0 = (valuesM r).1 /\ q1 = (valuesM r).2) := by
  unfold vc_rvals
  refine ⟨h0, h1, h2, h3, fun k => ?_, fun k => ?_⟩
  . unfold valuesM; rw [if_neg k]; exact ⟨rfl, rfl⟩
  have k := Decidable.not_not.1 k
  have hv := (validR_iff r).1 k
  obtain ⟨c, hc, hc6⟩ : ∃ c : Nat, r.causes = c /\ c <= 6 := ⟨r.causes.toNat, by have := hv.causes; omega, by have := hv.causes; omega⟩
  have e2 : (2 : Int) ^ c = ((2 ^ c : Nat) : Int) := by rw [Int.natCast_pow]; rfl
  have hp : 2 ^ c <= 64 := by rcases c with _ | _ | _ | _ | _ | _ | _ | c <;> first | decide | omega
  have hset : ∀ i : Nat, i < 2 ^ c -> latenessM r (i : Int) = lateM r (i : Int) := fun i hi => by
    unfold latenessM
    rw [if_pos]
    unfold isSetM
    rw [k, hc, Int.toNat_natCast, e2, Bool.true_and, decide_eq_true_eq]; omega
  have hz : ∀ s, (lateM r s).2 = 0 := fun s => by unfold lateM latenessM'; rw [if_neg (fun h => h (hv.late2 s))]
  have hn : (rangeI (2 ^ c)).find? (fun s => decide (¬ (lateM r s).2 = 0)) = none := by
    rw [List.find?_eq_none]
    intro s _
    simp [hz s]
  have hl : (rangeI (2 ^ c)).length = 2 ^ c := by simp [rangeI]
  have hr : ∀ i : Nat, (h : i < (rangeI (2 ^ c)).length) -> (rangeI (2 ^ c))[i] = (i : Int) := fun i h => by simp [rangeI]
  rw [hc, Int.toNat_natCast, Nat.min_eq_left (by omega), Int.one_mul, e2]
  refine ⟨fun v l => ∃ i : Nat, v = i /\ i <= 2 ^ c /\ l = ((rangeI (2 ^ c)).take i).map fun s => (lateM r s).1, fun v _ => 2 ^ c - v.toNat, ⟨0, rfl, by omega, rfl⟩, ?_⟩
  rintro _ _ ⟨i, rfl, hi, rfl⟩
  refine ⟨by omega, by unfold inI; omega, fun k1 => ?_, fun k1 => ?_⟩
  . rw [hset i (by omega)]
    refine ⟨h0, h1, h2, h3, fun kk => absurd (hz _) kk, fun _ => ⟨?_, by unfold inI; omega, ⟨i + 1, by omega, by omega, ?_⟩, by show 2 ^ c - ((i : Int) + 1).toNat < 2 ^ c - (i : Int).toNat; omega⟩⟩
    . rw [List.length_append, List.length_map, List.length_take]; simp only [List.length_singleton]; omega
    . rw [List.take_add_one, List.getElem?_eq_getElem (by omega), hr i (by omega), List.map_append]; rfl
  . unfold valuesM
    rw [if_pos k, hc, Int.toNat_natCast, hn, List.take_of_length_le (by omega)]
    exact ⟨rfl, rfl⟩
theorem spec_rvals (r : Req) (h0 : r.sv.length <= 9223372036854775807) (h1 : ∀ j ∈ r.jobs, j.wk.length <= 9223372036854775807) (h2 : r.jobs.length <= 9223372036854775807) (h3 : r.ex.length <= 9223372036854775807) : FnP Try.prog 18 [.agg ((e26 true) r)] (fun xR => xR = .tup [.lst false ((valuesM r).1).length (zYy zYx ((valuesM r).1)), .int .i64 ((valuesM r).2)]) :=
  (walk_rvals (vcp_rvals r h0 h1 h2 h3)).mono (by rintro _ ⟨_, _, rfl, rfl, rfl⟩; rfl)
def vc_pick20 (c : Int) (n : Int) (Post : Int -> Prop) : Prop :=
  ∃ J1 : Int -> Prop, (∀ (v0 : Int), J1 v0 -> (n ≠ 0) /\ Post (v0.tmod n)) /\ (((c < (0 : Int)) -> (inI (c + (1 : Int))) /\ (inI (-(c + (1 : Int)))) /\ J1 (-(c + (1 : Int)))) /\ (¬ (c < (0 : Int)) -> J1 c))
theorem walk_pick20 {c : Int} {n : Int} {Post : Int -> Prop} (hv : vc_pick20 c n Post) : FnP Try.prog 20 [.int .i64 c, .int .i64 n] (fun x => ∃ q0, x = .int .i64 q0 /\ Post q0) := by
 refine FnP.of_walk (T := tt) (nt := 13) ttOk ttMix ⟨⟨Try.f20, Try.func20, rfl, rfl, rfl, rfl⟩⟩ (by simp) ?_
 unfold vc_pick20 at hv
 change W _ _ _ ⟨13, look [(0, .int .i64 c), (1, .int .i64 n)], [], 0⟩ _
 refine W.ty [(0, .int _ _), (1, .int _ _)] rfl (W.rL (aI rfl rfl (eL (W.ty [(0, .int _ _), (1, .int _ _)] rfl ?_))))
 obtain ⟨J1, hj, hv⟩ := hv
 refine W.mid1 (fun v0 => ⟨13, look [(0, .int .i64 v0), (1, .int .i64 n)], [], 0⟩) J1 ?_ ?_
 intro v0
 intro hv
 replace hv := hj v0 hv
 refine W.rL ?_
 iterate 2 refine mI rfl rfl ?_
 obtain ⟨s3, hv⟩ := hv
 refine cL rfl (o_rem rfl rfl s3 (aI rfl rfl (eL (W.ty [(4, .int _ _)] rfl (W.ret (rt (rt_t (v := .int _ _) rfl (rt_n (⟨_, zY _ _ _ _, (v0.tmod n), rfl, hv⟩)))))))))
 clear hj
 refine W.rL (mI rfl rfl (cL rfl (zYq rfl rfl (eL (W.ty [(0, .int _ _), (1, .int _ _), (6, .bool _)] rfl (W.cn rfl (fun hc => ?_) (fun hc => ?_)))))))
 have hv := hv.1 hc
 refine W.rL1 (mI rfl rfl ?_)
 obtain ⟨s4, hv⟩ := hv
 refine cL rfl (o_add rfl rfl s4 ?_)
 obtain ⟨s5, hv⟩ := hv
 refine cL rfl (o_neg rfl s5 (aI rfl rfl (eL (zZ (⟨(), (-(c + (1 : Int))), hv, St.to_mk (φ := []) rfl (rfl) (zT rfl rfl) trivial⟩)))))
 have hv := hv.2 hc
 refine W.skip (zZ (⟨(), c, hv, St.to_mk (φ := []) rfl (rfl) (zT rfl rfl) trivial⟩))
set_option maxHeartbeats 4000000 in
theorem vcp_pick20 (c : Int) (n : Int) (h0 : 1 <= n) (h1 : inI c) : vc_pick20 c n (fun q0 => q0 = (pickM c n)) := by
  unfold vc_pick20
  refine ⟨fun v => v = if c < 0 then -(c + 1) else c, fun v hv => ⟨by omega, by subst hv; rfl⟩, fun h => ⟨by unfold inI at *; omega, by unfold inI at *; omega, (if_pos h).symm⟩, fun h => (if_neg h).symm⟩
theorem spec_pick20 (c : Int) (n : Int) (h0 : 1 <= n) (h1 : inI c) : FnP Try.prog 20 [.int .i64 c, .int .i64 n] (fun xR => xR = .int .i64 (pickM c n)) :=
  (walk_pick20 (vcp_pick20 c n h0 h1)).mono (by rintro _ ⟨_, rfl, rfl⟩; rfl)
def vc_same (a : (List Job)) (b : (List Job)) (Post : Bool -> Prop) : Prop :=
  ((¬ (a.length : Int) = (b.length : Int)) -> Post false) /\ (¬ (¬ (a.length : Int) = (b.length : Int)) -> ∃ (I1 : Int -> Prop) (μ1 : Int -> Nat), I1 (0 : Int) /\ ∀ (v5 : Int), I1 v5 -> ((v5 < (a.length : Int)) -> ((0 <= v5 /\ v5 < (a.length : Int)) /\ (0 <= v5 /\ v5 < (b.length : Int)) /\ ((¬ (lat a v5).ar = (lat b v5).ar) -> True) /\ (¬ (¬ (lat a v5).ar = (lat b v5).ar) -> (0 <= v5 /\ v5 < (a.length : Int)) /\ (0 <= v5 /\ v5 < (b.length : Int)) /\ True)) /\ ((((¬ (lat a v5).ar = (lat b v5).ar) \/ (¬ (((lat a v5).wk).length : Int) = (((lat b v5).wk).length : Int))) -> Post false) /\ (¬ ((¬ (lat a v5).ar = (lat b v5).ar) \/ (¬ (((lat a v5).wk).length : Int) = (((lat b v5).wk).length : Int))) -> ∃ (I2 : Int -> Prop) (μ2 : Int -> Nat), I2 (0 : Int) /\ ∀ (v6 : Int), I2 v6 -> (0 <= v5 /\ v5 < (a.length : Int)) /\ ((v6 < (((lat a v5).wk).length : Int)) -> (0 <= v5 /\ v5 < (a.length : Int)) /\ (0 <= v6 /\ v6 < (((lat a v5).wk).length : Int)) /\ (0 <= v5 /\ v5 < (b.length : Int)) /\ (0 <= v6 /\ v6 < (((lat b v5).wk).length : Int)) /\ ((¬ (lat ((lat a v5).wk) v6) = (lat ((lat b v5).wk) v6)) -> Post false) /\ (¬ (¬ (lat ((lat a v5).wk) v6) = (lat ((lat b v5).wk) v6)) -> (inI (v6 + (1 : Int))) /\ (I2 (v6 + (1 : Int)) /\ μ2 (v6 + (1 : Int)) < μ2 v6))) /\ (¬ (v6 < (((lat a v5).wk).length : Int)) -> (inI (v5 + (1 : Int))) /\ (I1 (v5 + (1 : Int)) /\ μ1 (v5 + (1 : Int)) < μ1 v5))))) /\ (¬ (v5 < (a.length : Int)) -> Post true))
theorem walk_same {a : (List Job)} {b : (List Job)} {Post : Bool -> Prop} (hv : vc_same a b Post) : FnP Try.prog 25 [.lst true a.length (zYy (e53 true) a), .lst true b.length (zYy (e53 true) b)] (fun x => ∃ q0, x = .bool q0 /\ Post q0) := by
 refine FnP.of_walk (T := tt) (nt := 71) ttOk ttMix ⟨⟨Try.f25, Try.func25, rfl, rfl, rfl, rfl⟩⟩ (by simp) ?_
 unfold vc_same at hv
 change W _ _ _ ⟨71, look [(0, .lst true a.length (zYy (e53 true) a)), (1, .lst true b.length (zYy (e53 true) b))], [], 0⟩ _
 refine W.ty [(0, .lst _ _ _), (1, .lst _ _ _)] rfl (W.rL (aB rfl rfl (eL (W.ty [(0, .lst _ _ _), (1, .lst _ _ _)] rfl (W.seq' (W.rL (mL rfl rfl (cL rfl (zXw (v := .lst _ _ _) tt23 rfl rfl (mL rfl rfl (cL rfl (zXw (v := .lst _ _ _) tt23 rfl rfl (cL rfl (o_neI rfl rfl rfl (eL (W.ty [(0, .lst _ _ _), (1, .lst _ _ _), (11, .bool _)] rfl (W.cn rfl (fun hc => ?_) (fun hc => ?_))))))))))))))))))
 have hv := hv.1 hc
 refine W.rL (aB rfl rfl (eL (W.ty [(4, .bool _)] rfl (W.ret (zZr (rt (rt_t (v := .bool _) rfl (rt_n (⟨_, zYr _ _ _, false, rfl, hv⟩)))))))))
 have hv := hv.2 hc
 refine W.skip (zZ (W.ty [(0, .lst _ _ _), (1, .lst _ _ _)] rfl (W.seq' (W.rL (aI rfl rfl (eL (W.ty [(0, .lst _ _ _), (1, .lst _ _ _), (5, .int _ _)] rfl (W.block ?_))))))))
 obtain ⟨I1, μ1, hp, hv⟩ := hv
 refine W.loop1 (fun v5 => ⟨71, look [(0, .lst true a.length (zYy (e53 true) a)), (1, .lst true b.length (zYy (e53 true) b)), (5, .int .i64 v5)], [], 0⟩) I1 μ1 (0 : Int) (St.to_mk (φ := []) rfl (rfl) (zT rfl rfl) trivial) hp ?_
 clear hp
 intro v5 hI
 replace hv := hv v5 hI
 clear hI
 refine W.seq' (W.rL (mI rfl rfl (mL rfl rfl (cL rfl (zXw (v := .lst _ _ _) tt23 rfl rfl (cL rfl (zYq rfl rfl (eL (W.ty [(0, .lst _ _ _), (1, .lst _ _ _), (5, .int _ _), (15, .bool _)] rfl (W.cn rfl (fun hc => ?_) (fun hc => ?_)))))))))))
 have hv := hv.1 hc
 refine W.skip (zZ (W.ty [(0, .lst _ _ _), (1, .lst _ _ _), (5, .int _ _)] rfl (W.seq' (W.block (W.seq' ?_)))))
 obtain ⟨sd, hv⟩ := hv
 refine W.rDm ⟨71, look [(0, .lst true a.length (zYy (e53 true) a)), (1, .lst true b.length (zYy (e53 true) b)), (5, .int .i64 v5), (43, .bool (decide ((¬ (lat a v5).ar = (lat b v5).ar) \/ (¬ (((lat a v5).wk).length : Int) = (((lat b v5).wk).length : Int)))))], [], 0⟩ [0, 1, 2, 3, 4, 5, 6, 7, 8, 9, 10, 11, 12, 13, 14, 15, 16, 17, 18, 19, 20, 21, 22, 23, 24, 25] (by decide +kernel) rfl ?_ ?_
 refine mL rfl rfl (mI rfl rfl ?_)
 obtain ⟨s282, sd⟩ := sd
 refine cL rfl (zYu tt23 tt53 rfl rfl (enc53.wd true) rfl s282 ?_)
 intro rest282
 refine cL rfl (o_faP tt53 rfl tt3 rfl (cL rfl (zZx (v := .int _ _) tt3 rfl rfl ⟨_, rfl⟩ (mL rfl rfl (mI rfl rfl ?_)))))
 obtain ⟨s283, sd⟩ := sd
 refine cL rfl (zYu tt23 tt53 rfl rfl (enc53.wd true) rfl s283 ?_)
 intro rest283
 refine cL rfl (o_faP tt53 rfl tt3 rfl (cL rfl (zZx (v := .int _ _) tt3 rfl rfl ⟨_, rfl⟩ (cL rfl (o_neI rfl rfl rfl (mB rfl rfl ?_))))))
 by_cases c1 : ¬ (lat a v5).ar = (lat b v5).ar
 iterate 13 refine cLs rfl rfl rfl (dT c1) ?_
 refine cL rfl (zZv (v := .bool _) rfl (dT c1) rfl (eL (zYz ⟨rfl, rfl, rfl, (congrArg AV.bool (dOrT c1)).symm, trivial⟩ rfl)))
 have sd := sd.2 c1
 refine cLg rfl rfl (dF c1) (mL rfl rfl (cLg rfl rfl (dF c1) (mI rfl rfl (cLg rfl rfl (dF c1) ?_))))
 obtain ⟨s284, sd⟩ := sd
 refine cL rfl (zYu tt23 tt53 rfl rfl (enc53.wd true) rfl s284 ?_)
 intro rest284
 refine cLg rfl rfl (dF c1) (cL rfl (o_faP tt53 rfl tt51 rfl (cLg rfl rfl (dF c1) (cL rfl (zZx (v := .lst _ _ _) tt51 rfl rfl ⟨_, rfl⟩ (cLg rfl rfl (dF c1) (cL rfl (zXw (v := .lst _ _ _) tt51 rfl rfl (cLg rfl rfl (dF c1) (mL rfl rfl (cLg rfl rfl (dF c1) (mI rfl rfl (cLg rfl rfl (dF c1) ?_)))))))))))))
 obtain ⟨s285, sd⟩ := sd
 refine cL rfl (zYu tt23 tt53 rfl rfl (enc53.wd true) rfl s285 ?_)
 intro rest285
 refine cLg rfl rfl (dF c1) (cL rfl (o_faP tt53 rfl tt51 rfl (cLg rfl rfl (dF c1) (cL rfl (zZx (v := .lst _ _ _) tt51 rfl rfl ⟨_, rfl⟩ (cLg rfl rfl (dF c1) (cL rfl (zXw (v := .lst _ _ _) tt51 rfl rfl (cLg rfl rfl (dF c1) (cL rfl (o_neI rfl rfl rfl (cL rfl (zZy (v := .bool _) rfl (dF c1) rfl (eL (zYz ⟨rfl, rfl, rfl, (congrArg AV.bool (dOrF c1 (rfl))).symm, trivial⟩ rfl)))))))))))))))
 refine W.cn rfl (fun hc => ?_) (fun hc => ?_)
 have hv := hv.1 hc
 refine W.rL (aB rfl rfl (eL (W.ty [(4, .bool _)] rfl (W.ret (zZr (zYt (zZr (zZr (zYt (zZr (rt (rt_t (v := .bool _) rfl (rt_n (⟨_, zYr _ _ _, false, rfl, hv⟩))))))))))))))
 have hv := hv.2 hc
 refine W.skip (zZ (W.ty [(0, .lst _ _ _), (1, .lst _ _ _), (5, .int _ _)] rfl (W.rL (aI rfl rfl (eL (W.ty [(0, .lst _ _ _), (1, .lst _ _ _), (5, .int _ _), (6, .int _ _)] rfl (W.block ?_)))))))
 obtain ⟨I2, μ2, hp, hv⟩ := hv
 refine W.loop1 (fun v6 => ⟨71, look [(0, .lst true a.length (zYy (e53 true) a)), (1, .lst true b.length (zYy (e53 true) b)), (5, .int .i64 v5), (6, .int .i64 v6)], [], 0⟩) I2 μ2 (0 : Int) (St.to_mk (φ := []) rfl (rfl) (zT rfl rfl) trivial) hp ?_
 clear hp
 intro v6 hI
 replace hv := hv v6 hI
 clear hI
 refine W.seq' (W.rL (mI rfl rfl (mL rfl rfl (mI rfl rfl ?_))))
 obtain ⟨s298, hv⟩ := hv
 refine cL rfl (zYu tt23 tt53 rfl rfl (enc53.wd true) rfl s298 ?_)
 intro rest298
 refine cL rfl (o_faP tt53 rfl tt51 rfl (cL rfl (zZx (v := .lst _ _ _) tt51 rfl rfl ⟨_, rfl⟩ (cL rfl (zXw (v := .lst _ _ _) tt51 rfl rfl (cL rfl (zYq rfl rfl (eL (W.ty [(0, .lst _ _ _), (1, .lst _ _ _), (5, .int _ _), (6, .int _ _), (51, .bool _)] rfl (W.cn rfl (fun hc => ?_) (fun hc => ?_)))))))))))
 have hv := hv.1 hc
 refine W.skip (zZ (W.ty [(0, .lst _ _ _), (1, .lst _ _ _), (5, .int _ _), (6, .int _ _)] rfl (W.seq' (W.block (W.rD [0, 1, 2, 3, 4, 5, 6, 7, 8, 9, 10, 11, 12, 13, 14, 15, 16] (by decide +kernel) rfl (mL rfl rfl (mI rfl rfl ?_)))))))
 obtain ⟨s303, hv⟩ := hv
 refine cL rfl (zYu tt23 tt53 rfl rfl (enc53.wd true) rfl s303 ?_)
 intro rest303
 refine cL rfl (o_faP tt53 rfl tt51 rfl (cL rfl (zZx (v := .lst _ _ _) tt51 rfl rfl ⟨_, rfl⟩ (mI rfl rfl ?_))))
 obtain ⟨s304, hv⟩ := hv
 refine cL rfl (zYu tt51 tt60 rfl rfl (enc60.wd true) rfl s304 ?_)
 intro rest304
 refine cL rfl (zYp (cs := [.int _ _, .int _ _]) tt60 rfl rfl ⟨_, rfl⟩ rfl (mL rfl rfl (mI rfl rfl ?_)))
 obtain ⟨s305, hv⟩ := hv
 refine cL rfl (zYu tt23 tt53 rfl rfl (enc53.wd true) rfl s305 ?_)
 intro rest305
 refine cL rfl (o_faP tt53 rfl tt51 rfl (cL rfl (zZx (v := .lst _ _ _) tt51 rfl rfl ⟨_, rfl⟩ (mI rfl rfl ?_))))
 obtain ⟨s306, hv⟩ := hv
 refine cL rfl (zYu tt51 tt60 rfl rfl (enc60.wd true) rfl s306 ?_)
 intro rest306
 refine cL rfl (zYp (cs := [.int _ _, .int _ _]) tt60 rfl rfl ⟨_, rfl⟩ rfl (cL rfl (o_neS [(lat ((lat a v5).wk) v6).st, (lat ((lat a v5).wk) v6).tm] [(lat ((lat b v5).wk) v6).st, (lat ((lat b v5).wk) v6).tm] tt60 eqf60 rfl rfl rfl rfl rfl rfl (eq60 (lat ((lat a v5).wk) v6) (lat ((lat b v5).wk) v6)) (eL (W.ty [(0, .lst _ _ _), (1, .lst _ _ _), (5, .int _ _), (6, .int _ _), (70, .bool _)] rfl (W.cn rfl (fun hc => ?_) (fun hc => ?_)))))))
 have hv := hv.1 hc
 refine W.rL (aB rfl rfl (eL (W.ty [(4, .bool _)] rfl (W.ret (zYt (zZr (zZr (zYt (zYt (zZr (zZr (zYt (zZr (rt (rt_t (v := .bool _) rfl (rt_n (⟨_, zYr _ _ _, false, rfl, hv⟩)))))))))))))))))
 have hv := hv.2 hc
 refine W.skip (zYv (zZ (W.ty [(0, .lst _ _ _), (1, .lst _ _ _), (5, .int _ _), (6, .int _ _)] rfl (W.rL1 (mI rfl rfl ?_)))))
 obtain ⟨s307, hv⟩ := hv
 refine cL rfl (o_add rfl rfl s307 (aI rfl rfl (eL (zZ (⟨(), (v6 + (1 : Int)), hv, St.to_mk (φ := []) rfl (rfl) (zT rfl rfl) trivial⟩)))))
 have hv := hv.2 hc
 refine W.exit (zZt (zZt (zYs (zYv (zZ (W.ty [(0, .lst _ _ _), (1, .lst _ _ _), (5, .int _ _)] rfl (W.rL1 (mI rfl rfl ?_))))))))
 obtain ⟨s308, hv⟩ := hv
 refine cL rfl (o_add rfl rfl s308 (aI rfl rfl (eL (zZ (⟨(), (v5 + (1 : Int)), hv, St.to_mk (φ := []) rfl (rfl) (zT rfl rfl) trivial⟩)))))
 have hv := hv.2 hc
 refine W.exit (zZt (zZt (zYs (zZ (W.ty [] rfl (W.rL (aB rfl rfl (eL (W.ty [(4, .bool _)] rfl (W.ret (rt (rt_t (v := .bool _) rfl (rt_n (⟨_, zYr _ _ _, true, rfl, hv⟩))))))))))))))
set_option maxHeartbeats 4000000 in
theorem vcp_same (a : (List Job)) (b : (List Job)) (h0 : a.length <= 9223372036854775807) (h1 : b.length <= 9223372036854775807) (h2 : ∀ j ∈ a, j.wk.length <= 9223372036854775807) (h3 : ∀ j ∈ b, j.wk.length <= 9223372036854775807) : vc_same a b (fun q0 => q0 = (decide (a = b))) := by
  have bad : ∀ {q : Prop}, (a = b -> q) -> ¬ q -> false = decide (a = b) := fun h k => (decide_eq_false fun e => k (h e)).symm
  unfold vc_same
  refine ⟨fun k => bad (fun h => by rw [h]) k, fun k => ?_⟩
  have hl : a.length = b.length := by have := Decidable.not_not.1 k; omega
  refine ⟨fun v => ∃ i : Nat, v = i /\ i <= a.length /\ ∀ q : Nat, q < i -> lat a (q : Int) = lat b (q : Int), fun v => a.length - v.toNat, ⟨0, rfl, by omega, fun a ha => by omega⟩, ?_⟩
  rintro _ ⟨i, rfl, hi, hx⟩
  refine ⟨fun k1 => ⟨⟨⟨by omega, k1⟩, ⟨by omega, by omega⟩, fun _ => trivial, fun _ => ⟨⟨by omega, k1⟩, ⟨by omega, by omega⟩, trivial⟩⟩, fun k2 => bad (q := (lat a (i : Int)).ar = (lat b (i : Int)).ar /\ (lat a (i : Int)).wk.length = (lat b (i : Int)).wk.length) (fun h => by rw [h]; exact ⟨rfl, rfl⟩) (by omega), fun k2 => ?_⟩, fun k1 => ?_⟩
  . have ha := h2 _ (lat_mem (xs := a) (i := (i : Int)) ⟨by omega, k1⟩)
    have hwl : (lat a (i : Int)).wk.length = (lat b (i : Int)).wk.length := by omega
    refine ⟨fun v => ∃ p : Nat, v = p /\ p <= (lat a (i : Int)).wk.length /\ ∀ q : Nat, q < p -> lat (lat a (i : Int)).wk (q : Int) = lat (lat b (i : Int)).wk (q : Int), fun v => (lat a (i : Int)).wk.length - v.toNat, ⟨0, rfl, by omega, fun a ha => by omega⟩, ?_⟩
    rintro _ ⟨p, rfl, hp, hy⟩
    refine ⟨⟨by omega, k1⟩, fun k3 => ⟨⟨by omega, k1⟩, ⟨by omega, k3⟩, ⟨by omega, by omega⟩, ⟨by omega, by omega⟩, fun k4 => bad (fun h => by rw [h]) k4, fun k4 => ⟨by unfold inI; omega, ⟨p + 1, by omega, by omega, fun q hq => ?_⟩, dec_lt k3⟩⟩, fun k3 => ⟨by unfold inI; omega, ⟨i + 1, by omega, by omega, fun q hq => ?_⟩, dec_lt k1⟩⟩
    . rcases Nat.lt_or_ge q p with h | h
      . exact hy q h
      . rw [show q = p by omega]; exact Decidable.not_not.1 k4
    . rcases Nat.lt_or_ge q i with h | h
      . exact hx q h
      . rw [show q = i by omega]
        have e1 : (lat a (i : Int)).ar = (lat b (i : Int)).ar := Decidable.not_not.1 fun h => k2 (.inl h)
        have e2 : (lat a (i : Int)).wk = (lat b (i : Int)).wk := by
          apply List.ext_getElem hwl
          intro m m1 m2
          have := hy m (by omega)
          rwa [lat_get m1, lat_get m2] at this
        generalize lat a (i : Int) = x at *
        generalize lat b (i : Int) = y at *
        cases x; cases y
        simp only at e1 e2
        rw [e1, e2]
  . show true = decide (a = b)
    symm
    rw [decide_eq_true_eq]
    apply List.ext_getElem hl
    intro m m1 m2
    have := hx m (by omega)
    rwa [lat_get m1, lat_get m2] at this
theorem spec_same (a : (List Job)) (b : (List Job)) (h0 : a.length <= 9223372036854775807) (h1 : b.length <= 9223372036854775807) (h2 : ∀ j ∈ a, j.wk.length <= 9223372036854775807) (h3 : ∀ j ∈ b, j.wk.length <= 9223372036854775807) : FnP Try.prog 25 [.lst true a.length (zYy (e53 true) a), .lst true b.length (zYy (e53 true) b)] (fun xR => xR = .bool (decide (a = b))) :=
  (walk_same (vcp_same a b h0 h1 h2 h3)).mono (by rintro _ ⟨_, rfl, rfl⟩; rfl)
end Go.Lat
