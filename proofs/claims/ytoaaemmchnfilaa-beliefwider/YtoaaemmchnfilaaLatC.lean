/- The law latecomerlaw10.BeliefWider returns true for every input, and each argument reads afterwards as it read before. Part 3 of 12. No condition. -/
import Derived.Test.YtoaaemmchnfilaaLatB
import Derived.WalkKit
import Derived.ProofKit
import Derived.OpenShut
import Derived.ShutString
import Derived.ChangeOld
import Derived.Below
import Derived.Deep.Slices
import Derived.Test.YtoaaemmchnfilaaProg
import Derived.KernelRfl
import Derived.WideShapes
set_option linter.unusedVariables false
set_option linter.unusedSimpArgs false
set_option linter.unnecessarySimpa false
namespace Go.Lat
open Go.RowKit

def rmap (φ : List (Option Nat)) (r : Rho) : Rho := φ.map fun o => match o with
  | some i => r.getD i (0, 0)
  | none => (0, 0)
def Ren (φ : List (Option Nat)) (x y : AV) : Prop := ∀ (r : Rho) (m : MM) v, Low m → VR r m x v → VR (rmap φ r) m y v
def Rens (φ : List (Option Nat)) (xs ys : List AV) : Prop := ∀ (r : Rho) (m : MM) vs, Low m → VRs r m xs vs → VRs (rmap φ r) m ys vs
section
variable {φ : List (Option Nat)} {r : Rho} {m : MM}
theorem rmap_get {j i : Nat} {x : Nat × Nat} (hφ : φ[j]? = some (some i)) (h : r[i]? = some x) : (rmap φ r)[j]? = some x := by
  simp only [rmap, List.getElem?_map, hφ, Option.map_some, Option.some.injEq]
  simp [List.getD, h]
theorem rmap_some {j : Nat} {o : Option Nat} (hφ : φ[j]? = some o) : ∃ x, (rmap φ r)[j]? = some x := by
  simp only [rmap, List.getElem?_map, hφ, Option.map_some]
  exact ⟨_, rfl⟩
def clV : AV → Bool
  | .int _ _ | .bool _ | .nilS | .nilP | .nilF | .lst _ _ _ | .ipt _ _ | .any => true
  | _ => false
theorem VR_clV {r r' : Rho} {x : AV} {v : Value} (h : clV x = true) (hv : VR r m x v) : VR r' m x v := by
  cases x <;> simp only [clV, Bool.false_eq_true] at h <;> simpa only [VR] using hv
theorem Ren.cl {x : AV} (h : clV x = true) : Ren φ x x := fun _ _ _ _ hv => VR_clV h hv
theorem Ren.wk {x y z : AV} (h : Ren φ x y) (k : Wk y z) : Ren φ x z := fun r m v hm hv => k _ m v hm (h r m v hm hv)
theorem Ren.any (x : AV) : Ren φ x .any := fun _ _ _ _ _ => by simp only [VR]
theorem Ren.int (k : IntKind) (n : Int) : Ren φ (.int k n) (.int k n) := Ren.cl rfl
theorem Ren.bool (b : Bool) : Ren φ (.bool b) (.bool b) := Ren.cl rfl
theorem Ren.nilS : Ren φ .nilS .nilS := Ren.cl rfl
theorem Ren.nilP : Ren φ .nilP .nilP := Ren.cl rfl
theorem Ren.lst (fl : Bool) (n : Nat) (cs : List AV) : Ren φ (.lst fl n cs) (.lst fl n cs) := Ren.cl rfl
theorem Ren.ipt (fl : Bool) (cs : List AV) : Ren φ (.ipt fl cs) (.ipt fl cs) := Ren.cl rfl
theorem Ren.ref {nb nb' : Bool} {id j n : Nat} (hφ : φ[j]? = some (some id)) (hb : nb' = true → nb = true) : Ren φ (.ref nb id n) (.ref nb' j n) := fun r m v _ hv => by
  simp only [VR] at hv ⊢
  rcases hv with ⟨h0, _, h1 | ⟨hnb, a, h1⟩⟩ | ⟨h0, b, c, h1, h2⟩
  · exact .inl ⟨h0, rmap_some hφ, .inl h1⟩
  · refine .inl ⟨h0, rmap_some hφ, .inr ⟨?_, a, h1⟩⟩
    cases nb' with
    | false => rfl
    | true => rw [hb rfl] at hnb; cases hnb
  · exact .inr ⟨h0, b, c, rmap_get hφ h1, h2⟩
theorem Ren.nilR {nb : Bool} {j n : Nat} {o : Option Nat} (hφ : φ[j]? = some o) (hn : n = 0) : Ren φ .nilS (.ref nb j n) := fun r m v _ hv => by
  simp only [VR] at hv ⊢
  exact .inl ⟨hn, rmap_some hφ, .inl hv⟩
theorem Ren.sub {id j off n : Nat} (hφ : φ[j]? = some (some id)) : Ren φ (.sub id off n) (.sub j off n) := fun r m v _ hv => by
  simp only [VR] at hv ⊢
  obtain ⟨b, c, a, cap, h1, h2⟩ := hv
  exact ⟨b, c, a, cap, rmap_get hφ h1, h2⟩
theorem Ren.ptr {id j off : Nat} (hφ : φ[j]? = some (some id)) : Ren φ (.ptr id off) (.ptr j off) := fun r m v _ hv => by
  simp only [VR] at hv ⊢
  obtain ⟨b, c, h1, h2⟩ := hv
  exact ⟨b, c, rmap_get hφ h1, h2⟩
theorem Rens.nil : Rens φ [] [] := fun _ _ _ _ h => by simpa only [VRs] using h
theorem Rens.cons {x y : AV} {xs ys : List AV} (h : Ren φ x y) (k : Rens φ xs ys) : Rens φ (x :: xs) (y :: ys) := fun r m vs hm hv => by
  simp only [VRs] at hv ⊢
  obtain ⟨v, vs', h1, h2, h3⟩ := hv
  exact ⟨v, vs', h1, h r m v hm h2, k r m vs' hm h3⟩
theorem Rens.cl : ∀ {xs : List AV}, (∀ x ∈ xs, clV x = true) → Rens φ xs xs
  | [], _ => Rens.nil
  | x :: xs, h => Rens.cons (Ren.cl (h x (by simp))) (Rens.cl fun y hy => h y (by simp [hy]))
theorem Rens.wk {xs ys zs : List AV} (h : Rens φ xs ys) (k : Wks ys zs) : Rens φ xs zs := fun r m v hm hv => k _ m v hm (h r m v hm hv)
theorem Ren.agg {cs ds : List AV} (h : Rens φ cs ds) : Ren φ (.agg cs) (.agg ds) := fun r m v hm hv => by
  simp only [VR] at hv ⊢
  obtain ⟨arr, h1, h2, h3⟩ := hv
  exact ⟨arr, h1, h2, h r m _ hm h3⟩
theorem Ren.tup {cs ds : List AV} (h : Rens φ cs ds) : Ren φ (.tup cs) (.tup ds) := fun r m v hm hv => by
  simp only [VR] at hv ⊢
  obtain ⟨arr, h1, h3⟩ := hv
  exact ⟨arr, h1, h r m _ hm h3⟩
theorem Ren.clo (f : FuncId) {a b c d : List AV} (h : Rens φ a c) (k : Rens φ b d) : Ren φ (.clo f a b) (.clo f c d) := fun r m v hm hv => by
  simp only [VR] at hv ⊢
  obtain ⟨x, y, h1, h2, h3⟩ := hv
  exact ⟨x, y, h1, h r m _ hm h2, k r m _ hm h3⟩
end

def RenO (φ : List (Option Nat)) : AObj → AObj → Prop
  | _, .dead => True
  | .row t sz cs, .row t' sz' cs' => t = t' ∧ sz = sz' ∧ cs'.length = cs.length ∧ Rens φ cs cs'
  | .box t cs, .box t' cs' => t = t' ∧ Rens φ cs cs'
  | _, _ => False
def RenH (φ : List (Option Nat)) (h : List AObj) : List (Option Nat) → List AObj → Prop
  | [], [] => True
  | none :: p, o :: l => o.live = false ∧ RenH φ h p l
  | some k :: p, o :: l => (o = .dead ∨ ∃ o0, h[k]? = some o0 ∧ RenO φ o0 o) ∧ RenH φ h p l
  | _, _ => False
def injB : List (Option Nat) → Bool
  | [] => true
  | none :: l => injB l
  | some k :: l => !l.contains (some k) && injB l
theorem injB_spec : ∀ {φ : List (Option Nat)}, injB φ = true → ∀ (i j k : Nat), φ[i]? = some (some k) → φ[j]? = some (some k) → i = j
  | [], _, i, _, _, hi, _ => by simp at hi
  | o :: l, h, i, j, k, hi, hj => by
    have hl : injB l = true := by
      cases o with
      | none => exact h
      | some q => simp only [injB, Bool.and_eq_true] at h; exact h.2
    have hq : ∀ q, o = some q → some q ∉ l := by
      rintro q rfl
      simp only [injB, Bool.and_eq_true, Bool.not_eq_true', List.contains_eq_mem, decide_eq_false_iff_not] at h
      exact h.1
    rcases i with _ | i <;> rcases j with _ | j
    · rfl
    · simp only [List.getElem?_cons_zero, Option.some.injEq, List.getElem?_cons_succ] at hi hj
      exact absurd (List.mem_of_getElem? hj) (hq k hi)
    · simp only [List.getElem?_cons_zero, Option.some.injEq, List.getElem?_cons_succ] at hi hj
      exact absurd (List.mem_of_getElem? hi) (hq k hj)
    · simp only [List.getElem?_cons_succ] at hi hj
      rw [injB_spec hl i j k hi hj]
theorem RenH.get {φ : List (Option Nat)} {h : List AObj} : ∀ {p : List (Option Nat)} {l : List AObj}, RenH φ h p l → p.length = l.length ∧ ∀ (i : Nat) o, l[i]? = some o → o.live = true → ∃ k o0, p[i]? = some (some k) ∧ h[k]? = some o0 ∧ RenO φ o0 o
  | [], [], _ => ⟨rfl, fun i o h => by simp at h⟩
  | [], _ :: _, hr => hr.elim
  | none :: p, [], hr => hr.elim
  | some k :: p, [], hr => hr.elim
  | none :: p, o :: l, hr => by
    obtain ⟨h1, h2⟩ := hr
    obtain ⟨h3, h4⟩ := RenH.get h2
    refine ⟨by simp [h3], fun i o' hi hl => ?_⟩
    rcases i with _ | i
    · simp only [List.getElem?_cons_zero, Option.some.injEq] at hi
      subst hi
      rw [h1] at hl; cases hl
    · simpa using h4 i o' (by simpa using hi) hl
  | some k :: p, o :: l, hr => by
    obtain ⟨h1, h2⟩ := hr
    obtain ⟨h3, h4⟩ := RenH.get h2
    refine ⟨by simp [h3], fun i o' hi hl => ?_⟩
    rcases i with _ | i
    · simp only [List.getElem?_cons_zero, Option.some.injEq] at hi
      subst hi
      rcases h1 with rfl | ⟨o0, h5, h6⟩
      · cases hl
      · exact ⟨k, o0, by simp, h5, h6⟩
    · simpa using h4 i o' (by simpa using hi) hl

section
variable {X : Nat → Prop} {D : List Deferred × Rho} {w0 : World} {mA : Mem} {r : Rho} {m : MM} {st : St} {a : Act} {w : World} {P : Program} {T : TT}

theorem OR_dead {i : Nat} {o : AObj} (h : o.live = false) : OR r m w i o := by
  cases o with
  | dead => trivial
  | box t cs => cases h
  | row t sz cs => cases cs with
    | nil => exact .inl rfl
    | cons c cs => cases h

theorem RenO.live {φ : List (Option Nat)} {o o' : AObj} (h : RenO φ o o') (hl : o'.live = true) : o.live = true := by
  cases o <;> cases o' <;> try (exact h.elim)
  all_goals try (cases hl; done)
  · rename_i t sz cs t' sz' cs'
    obtain ⟨_, _, h3, _⟩ := h
    cases cs with
    | nil => cases cs' with
      | nil => cases hl
      | cons => cases h3
    | cons => rfl
  · rfl

def pinF (φ : List (Option Nat)) : Nat → Nat → Bool
  | 0, _ => true
  | q + 1, i => (match φ.getD i none with | some k => Nat.beq k i | none => false) && pinF φ q (i + 1)
def pinB (φ : List (Option Nat)) (q n : Nat) : Bool := pinF φ (min q n) 0
theorem pinF_spec {φ : List (Option Nat)} : ∀ {q i : Nat}, pinF φ q i = true → ∀ k, i ≤ k → k < i + q → φ[k]? = some (some k)
  | 0, _, _, _, _, _ => by omega
  | q + 1, i, h, k, h1, h2 => by
    simp only [pinF, Bool.and_eq_true] at h
    by_cases e : k = i
    · subst e
      obtain ⟨h, -⟩ := h
      rw [List.getD_eq_getElem?_getD] at h
      rcases hφ : φ[k]? with _ | x
      · rw [hφ] at h; cases h
      · rw [hφ] at h
        cases x with
        | none => cases h
        | some y => rw [Nat.eq_of_beq_eq_true h]
    · exact pinF_spec h.2 k (by omega) (by omega)
theorem R.ren (h : R X D w0 mA r m st a w) (φ : List (Option Nat)) (hφ : injB φ = true) (h0 : pinB φ st.ho st.heap.length = true) {tm' : Nat → AV} (ht : ∀ t, Ren φ (st.tm t) (tm' t)) {h' : List AObj} (hh : RenH φ st.heap φ h') :
    R X D w0 mA (rmap φ r) m ⟨st.nt, tm', h', st.ho⟩ a w := by
  obtain ⟨hlen, hget⟩ := RenH.get hh
  have hinj := injB_spec hφ
  have low : Low m := fun p v hv => h.low p v hv
  have get : ∀ (i : Nat) o (b c : Nat), h'[i]? = some o → o.live = true → (rmap φ r)[i]? = some (b, c) → ∃ k o0, φ[i]? = some (some k) ∧ st.heap[k]? = some o0 ∧ RenO φ o0 o ∧ o0.live = true ∧ r[k]? = some (b, c) := by
    intro i o b c ho hl hr
    obtain ⟨k, o0, h1, h2, h3⟩ := hget i o ho hl
    have hk : k < r.length := by rw [h.len]; exact (List.getElem?_eq_some_iff.1 h2).1
    have := rmap_get (r := r) h1 (List.getElem?_eq_getElem hk)
    rw [hr] at this
    exact ⟨k, o0, h1, h2, h3, h3.live hl, by rw [List.getElem?_eq_getElem hk, ← this]⟩
  refine { os := h.os, tape := h.tape, output := h.output, size := h.size, old := h.old, len := by simp [rmap, hlen], lt := ?_, mem := h.mem, low := h.low, newer := h.newer, lim := h.lim, apart := ?_, obj := ?_, own := ?_, inj := ?_, size' := h.size', tmps := fun t => ht t r m _ low (h.tmps t), defers := h.defers, base := ?_, short := h.short, nox := h.nox, marks := h.marks, mnod := h.mnod }
  · intro i o b c ho hl hr
    obtain ⟨k, o0, h1, h2, h3, h4, h5⟩ := get i o b c ho hl hr
    exact h.lt k o0 b c h2 h4 h5
  · intro p v hp i o b c ho hl hr
    obtain ⟨k, o0, h1, h2, h3, h4, h5⟩ := get i o b c ho hl hr
    exact h.apart p v hp k o0 b c h2 h4 h5
  · intro i o ho
    rcases hlv : o.live with _ | _
    · exact OR_dead hlv
    · obtain ⟨k, o0, h1, h2, h3⟩ := hget i o ho hlv
      have hob := h.obj k o0 h2
      cases o0 <;> cases o <;> try (exact h3.elim)
      all_goals try (cases hlv; done)
      · rename_i t sz cs t' sz' cs'
        obtain ⟨rfl, rfl, h4, h5⟩ := h3
        rcases hob with rfl | ⟨b, c, cur, e1, e2, e3, e4, e5, e6, e7⟩
        · left
          exact List.eq_nil_of_length_eq_zero (by simpa using h4)
        · right
          refine ⟨b, c, cur, rmap_get h1 e1, e2, by rw [h4]; exact e3, e4, e5, by omega, ?_⟩
          rw [h4]
          exact h5 r m _ low e7
      · rename_i t cs t' cs'
        obtain ⟨rfl, h5⟩ := h3
        obtain ⟨b, c, cur, e1, e2, e3, e7⟩ := hob
        exact ⟨b, c, cur, rmap_get h1 e1, e2, e3, h5 r m _ low e7⟩
  · intro i o b c ho hl hr
    obtain ⟨k, o0, h1, h2, h3, h4, h5⟩ := get i o b c ho hl hr
    exact h.own k o0 b c h2 h4 h5
  · intro i j oi oj b c c' hi hj hli hlj hri hrj
    obtain ⟨k, o0, h1, h2, h3, h4, h5⟩ := get i oi b c hi hli hri
    obtain ⟨k', o0', h1', h2', h3', h4', h5'⟩ := get j oj b c' hj hlj hrj
    have := h.inj k k' o0 o0' b c c' h2 h2' h4 h4' h5 h5'
    subst this
    exact hinj i j k h1 h1'
  · intro i x hi
    have hs := h.short
    have hi0 := (List.getElem?_eq_some_iff.1 hi).1
    have hb := h.base i x hi
    have hi1 := (List.getElem?_eq_some_iff.1 hb).1
    have hl := h.len
    exact rmap_get (pinF_spec h0 i (by omega) (by omega)) hb

def regsT (φ : List (Option Nat)) (tm : Nat → AV) : List (Nat × AV) → Prop
  | [] => True
  | (t, v) :: l => Ren φ (tm t) v ∧ regsT φ tm l
theorem regsT_look {φ : List (Option Nat)} {tm : Nat → AV} : ∀ {l : List (Nat × AV)}, regsT φ tm l → ∀ t, Ren φ (tm t) (look l t)
  | [], _, t => Ren.any _
  | (k, v) :: l, h, t => by
    rw [look_cons]
    split
    · rename_i e; subst e; exact h.1
    · exact regsT_look h.2 t

def St.to (s s' : St) : Prop := ∃ φ l, s'.nt = s.nt ∧ s'.ho = s.ho ∧ s'.tm = look l ∧ injB φ = true ∧ pinB φ s.ho s.heap.length = true ∧ regsT φ s.tm l ∧ RenH φ s.heap φ s'.heap
theorem W.to {st st' : St} {Q : Ex → St → Prop} {c : Code} (hl : st.to st') (h : W P T c st' Q) : W P T c st Q := fun hT hf ro hro n X D w0 mA r m a w hR => by
  obtain ⟨φ, l, h1, h2, h3, h4, h5, h6, h7⟩ := hl
  obtain ⟨nt, tm, hp, ho⟩ := st'
  simp only at h1 h2 h3 h7
  subst h1; subst h2; subst h3
  exact h hT hf ro hro n X D w0 mA _ m a w (hR.ren φ h4 h5 (regsT_look h6) h7)
theorem St.to_mk {φ : List (Option Nat)} {n : Nat} {tm : Nat → AV} {h h' : List AObj} {b : Nat} {l : List (Nat × AV)} (h1 : injB φ = true) (h2 : pinB φ b h.length = true) (h3 : regsT φ tm l) (h4 : RenH φ h φ h') : St.to ⟨n, tm, h, b⟩ ⟨n, look l, h', b⟩ :=
  ⟨φ, l, rfl, rfl, rfl, h1, h2, h3, h4⟩

theorem W.loopT {Q : Ex → St → Prop} {c : Code} {α : Type} (S : α → St) (p : α → Prop) (μ : α → Nat) (x0 : α) (hs : st.to (S x0)) (hp : p x0)
    (h : ∀ x, p x → W P T c (S x) (thenA (fun s => ∃ y, (p y ∧ μ y < μ x) ∧ s.to (S y)) Q)) : W P T (.loop c) st Q :=
  W.loop (fun k s => ∃ x, μ x = k ∧ p x ∧ s.to (S x)) (k := μ x0) ⟨x0, rfl, hp, hs⟩ fun k s ⟨x, hk, hx, hle⟩ => by
    refine W.to hle ((h x hx).mono fun e s' hs' => ?_)
    cases e <;> simp only [thenA] at hs' ⊢ <;> try exact hs'
    obtain ⟨y, ⟨h2, h1⟩, h3⟩ := hs'
    exact ⟨μ y, by omega, y, rfl, h2, h3⟩

def SealV (fl : Bool) (x y : AV) : Prop := ∀ (r : Rho) (m : MM) v, Low m → VR r m x v → VR [] (nest (m fl)) y v
def SealVs (fl : Bool) (xs ys : List AV) : Prop := ∀ (r : Rho) (m : MM) vs, Low m → VRs r m xs vs → VRs [] (nest (m fl)) ys vs
theorem SealV.int (fl : Bool) (k : IntKind) (n : Int) : SealV fl (.int k n) (.int k n) := fun r m v _ h => by simpa only [VR] using h
theorem SealV.bool (fl : Bool) (b : Bool) : SealV fl (.bool b) (.bool b) := fun r m v _ h => by simpa only [VR] using h
theorem SealV.nilS (fl : Bool) : SealV fl .nilS .nilS := fun r m v _ h => by simpa only [VR] using h
theorem SealV.lst (fl : Bool) (n : Nat) (cs : List AV) : SealV fl (.lst fl n cs) (.lst true n cs) := fun r m v _ h => by
  simp only [VR] at h ⊢
  exact h
theorem SealV.wk {fl : Bool} {x y z : AV} (h : SealV fl x y) (k : Wk y z) : SealV fl x z := fun r m v hm hv => k _ _ v (Low.nest _) (h r m v hm hv)
theorem SealVs.nil (fl : Bool) : SealVs fl [] [] := fun _ _ _ _ h => by simpa only [VRs] using h
theorem SealVs.cons {fl : Bool} {x y : AV} {xs ys : List AV} (h : SealV fl x y) (k : SealVs fl xs ys) : SealVs fl (x :: xs) (y :: ys) := fun r m vs hm hv => by
  simp only [VRs] at hv ⊢
  obtain ⟨v, vs', h1, h2, h3⟩ := hv
  exact ⟨v, vs', h1, h r m v hm h2, k r m vs' hm h3⟩
theorem SealVs.app {fl : Bool} {xs ys us ws : List AV} (h : SealVs fl xs ys) (k : SealVs fl us ws) : SealVs fl (xs ++ us) (ys ++ ws) := fun r m vs hm hv => by
  have sp : ∀ (xs us : List AV) (vs : List Value), VRs r m (xs ++ us) vs → ∃ a b, vs = a ++ b ∧ VRs r m xs a ∧ VRs r m us b := by
    intro xs us
    induction xs with
    | nil => exact fun vs hv => ⟨[], vs, rfl, VRs.nil, hv⟩
    | cons z l ih =>
      intro vs hv
      simp only [List.cons_append, VRs] at hv
      obtain ⟨v, vs', rfl, h2, h3⟩ := hv
      obtain ⟨a, b, rfl, h4, h5⟩ := ih _ h3
      exact ⟨v :: a, b, rfl, by simp only [VRs]; exact ⟨v, a, rfl, h2, h4⟩, h5⟩
  obtain ⟨a, b, rfl, h1, h2⟩ := sp xs us vs hv
  exact (h r m a hm h1).app (k r m b hm h2)

open Classical in
theorem R.sealH (h : R X D w0 mA r m st a w) (hho : st.ho = 0) (fl : Bool) {id : Nat} {t : TypeId} {sz : Nat} {cs cs' : List AV} (ho : st.heap[id]? = some (.row t sz cs)) (hc : SealVs fl cs cs') :
    ∃ m', MLe m m' ∧ R X D w0 mA r m' { st with heap := st.heap.set id .dead } a w ∧ ∀ nb n v, cs.length = n * sz → VR r m (.ref nb id n) v → VR r m' (.lst fl n cs') v := by
  have low : Low m := fun p v hv => h.low p v hv
  rcases Nat.eq_zero_or_pos cs.length with hz | hpos
  · have : cs = [] := List.eq_nil_of_length_eq_zero hz
    subst this
    refine ⟨m, MLe.refl m, h.kill id, fun nb n v hn hv => ?_⟩
    simp only [VR] at hv ⊢
    have hcs' : cs' = [] := by
      have := hc r m [] low VRs.nil
      cases cs' with
      | nil => rfl
      | cons => simp only [VRs] at this; obtain ⟨_, _, h1, _⟩ := this; cases h1
    subst hcs'
    rcases hv with ⟨h0, _, h1 | ⟨_, a, h1⟩⟩ | ⟨h0, b, c, h1, h2, h3⟩
    · exact .inl ⟨h0, h1⟩
    · subst h0
      exact .inr ⟨a, 0, [], Nat.le_refl _, h1, Sealed.nil, VRs.nil⟩
    · exact .inr ⟨_, c, [], h2, h3, Sealed.nil, VRs.nil⟩
  · have hlv := live_row (t := t) (sz := sz) hpos
    rcases h.obj id _ ho with rfl | ⟨b, c, cur, e1, e2, e3, e4, e5, e6, e7⟩
    · cases hpos
    have hk := h.kill id
    have hbn : w0.heap.size ≤ b := (h.own id _ b c ho hlv e1).resolve_right ((h.nox hho).1 b)
    have hbl := h.lt id _ b c ho hlv e1
    obtain ⟨m', hle, hle2, hR⟩ := hk.learn (fl := fl) (mR := fun p => if p.block = b then w.cell? p else none) (fun p u hu => by
      split at hu
      · rename_i hb; subst hb; exact ⟨hu, hbl⟩
      · cases hu) (fun p u hu => by
      split at hu
      · rename_i hb
        refine .inl ⟨by rw [hb]; exact hbn, fun i o b' c' hi hl hr hbb => ?_⟩
        simp only at hi
        by_cases hii : id = i
        · subst hii
          rw [List.getElem?_set_self (List.getElem?_eq_some_iff.1 ho).1] at hi
          cases hi
          cases hl
        · rw [List.getElem?_set_ne hii] at hi
          have e : b' = b := hbb.symm.trans hb
          subst e
          exact hii (h.inj id i _ o b' c c' ho hi hlv hl e1 hr)
      · cases hu)
    refine ⟨m', hle, hR, fun nb n v hn hv => ?_⟩
    have low' : Low m' := fun p v hv => hR.low p v hv
    have key : Sealed (m' fl) ⟨b, 0, none⟩ (cur.toList.take cs.length) := by
      intro i u hu
      have hu' : u ∈ cur.toList.take cs.length := List.mem_of_getElem? hu
      refine ⟨?_, e3 u hu'⟩
      have hcell : w.cell? ((⟨b, 0, none⟩ : Addr).add i) = some u := by
        rw [Addr.add_lit]
        simp only [World.cell?, e2]
        rw [List.getElem?_take] at hu
        split at hu
        · simpa using hu
        · cases hu
      have hr0 : (fun p : Addr => if p.block = b then w.cell? p else none) ((⟨b, 0, none⟩ : Addr).add i) = some u := by
        simp only
        rw [if_pos (block_add _ _)]
        exact hcell
      cases fl with
      | true => exact hle2 true _ _ hr0
      | false => exact hle2 false _ _ hr0
    simp only [VR] at hv ⊢
    rcases hv with ⟨h0, _, h1 | ⟨_, a', h1⟩⟩ | ⟨h0, b', c', h1, h2, h3⟩
    · exact .inl ⟨h0, h1⟩
    · subst h0
      rw [Nat.zero_mul] at hn
      omega
    · rw [e1] at h1
      cases h1
      exact .inr ⟨_, _, _, h2, h3, key, hc r m' _ low' (e7.mono (RLe.refl r) hle)⟩

def sealT (fl : Bool) (id sz k : Nat) (cs' : List AV) (tm : Nat → AV) : List (Nat × AV) → Prop
  | [] => True
  | (t, v) :: l => (v = tm t ∨ ∃ nb n, tm t = .ref nb id n ∧ k = n * sz ∧ v = .lst fl n cs') ∧ sealT fl id sz k cs' tm l
theorem W.sealH {Q : Ex → St → Prop} {c : Code} (fl : Bool) (id : Nat) {n sz : Nat} {t : TypeId} {cs cs' : List AV} {h h' : List AObj} {tm : Nat → AV} {l : List (Nat × AV)} (ho : h[id]? = some (.row t sz cs)) (hc : SealVs fl cs cs')
    (hl : sealT fl id sz cs.length cs' tm l) (hh : h.set id .dead = h') (hw : W P T c ⟨n, look l, h', 0⟩ Q) : W P T c ⟨n, tm, h, 0⟩ Q := fun hT hf ro hro k X D w0 mA r m a w hR => by
  obtain ⟨m', hle, hR', hv⟩ := hR.sealH rfl fl ho hc
  subst hh
  refine hw hT hf ro hro k X D w0 mA r m' a w { hR' with tmps := fun t => ?_, size' := hR'.size', nox := hR'.nox }
  have key : ∀ (l : List (Nat × AV)), sealT fl id sz cs.length cs' tm l → VR r m' (look l t) (a.tmps.getD t undef) := by
    intro l
    induction l with
    | nil => intro _; simp only [look, VR]
    | cons p l ih =>
      obtain ⟨q, v⟩ := p
      intro hl
      rw [look_cons]
      split
      · rename_i e
        subst e
        rcases hl.1 with e | ⟨nb, n', e1, e2, e3⟩
        · rw [e]; exact hR'.tmps t
        · rw [e3]
          exact hv nb n' _ e2 (by have := hR.tmps t; simp only at this; rw [e1] at this; exact this)
      · exact ih hl.2
  exact key l hl
end
end Go.Lat
namespace Go.Lat
open Go.RowKit

def encL {α : Type} (e : α → List AV) (xs : List α) : List AV := xs.flatMap e
def Wd {α : Type} (e : α → List AV) (sz : Nat) : Prop := ∀ a, (e a).length = sz
def eInt (x : Int) : List AV := [.int .i64 x]
def eBool (b : Bool) : List AV := [.bool b]
def lat {α : Type} [Inhabited α] (xs : List α) (j : Int) : α := xs.getD j.toNat default
def vat {n : Nat} (M : Vector Int n) (k : Nat) : Int := M.toList.getD k 0
def vset {n : Nat} (M : Vector Int n) (k : Nat) (v : Int) : Vector Int n := M.setIfInBounds k v
def bat {n : Nat} (M : Vector Bool n) (k : Nat) : Bool := M.toList.getD k false
def bset {n : Nat} (M : Vector Bool n) (k : Nat) (v : Bool) : Vector Bool n := M.setIfInBounds k v
theorem wdInt : Wd eInt 1 := fun _ => rfl
theorem encL_cons {α : Type} (e : α → List AV) (x : α) (xs : List α) : encL e (x :: xs) = e x ++ encL e xs := by simp [encL]
theorem encL_app {α : Type} (e : α → List AV) (xs ys : List α) : encL e xs ++ encL e ys = encL e (xs ++ ys) := by simp [encL]
theorem encL_length {α : Type} {e : α → List AV} {sz : Nat} (h : Wd e sz) (xs : List α) : (encL e xs).length = xs.length * sz := by
  induction xs with
  | nil => simp [encL]
  | cons x xs ih => rw [encL_cons, List.length_append, h x, ih, List.length_cons, Nat.add_mul]; omega
theorem encL_drop {α : Type} {e : α → List AV} {sz : Nat} (h : Wd e sz) : ∀ (xs : List α) (k : Nat), (encL e xs).drop (k * sz) = encL e (xs.drop k)
  | [], k => by simp [encL]
  | x :: xs, 0 => by simp
  | x :: xs, k + 1 => by
    rw [encL_cons, List.drop_succ_cons, ← encL_drop h xs k, List.drop_append, h x, Nat.add_mul, Nat.one_mul]
    rw [List.drop_eq_nil_of_le (by rw [h x]; omega), List.nil_append, Nat.add_sub_cancel]
theorem encL_take {α : Type} {e : α → List AV} {sz : Nat} (h : Wd e sz) : ∀ (xs : List α) (k : Nat), (encL e xs).take (k * sz) = encL e (xs.take k)
  | [], k => by simp [encL]
  | x :: xs, 0 => by simp [encL]
  | x :: xs, k + 1 => by
    rw [encL_cons, List.take_succ_cons, encL_cons, ← encL_take h xs k, List.take_append, h x, Nat.add_mul, Nat.one_mul]
    rw [List.take_of_length_le (by rw [h x]; omega), Nat.add_sub_cancel]
theorem encL_at {α : Type} [Inhabited α] {e : α → List AV} {sz : Nat} (h : Wd e sz) (xs : List α) (j : Int) (h1 : 0 ≤ j) (h2 : j < (xs.length : Int)) : ∃ rest, (encL e xs).drop (j.toNat * sz) = e (lat xs j) ++ rest := by
  have hj : j.toNat < xs.length := by omega
  refine ⟨encL e (xs.drop (j.toNat + 1)), ?_⟩
  rw [encL_drop h, List.drop_eq_getElem_cons hj, encL_cons]
  simp [lat, List.getD, hj]
theorem encL_at' {α : Type} [Inhabited α] {e : α → List AV} {sz : Nat} (h : Wd e sz) (xs : List α) (j : Int) (k : Nat) (hk : k ≤ sz) (h1 : 0 ≤ j) (h2 : j < (xs.length : Int)) : ∃ rest, (encL e xs).drop (j.toNat * sz + k) = (e (lat xs j)).drop k ++ rest := by
  obtain ⟨rest, hr⟩ := encL_at h xs j h1 h2
  refine ⟨rest, ?_⟩
  rw [← List.drop_drop, hr, List.drop_append, h, Nat.sub_eq_zero_of_le hk, List.drop_zero]
theorem encL_set {α : Type} {e : α → List AV} {sz : Nat} (h : Wd e sz) : ∀ (xs : List α) (k : Nat) (x : α), k < xs.length → (encL e xs).take (k * sz) ++ e x ++ (encL e xs).drop (k * sz + sz) = encL e (xs.set k x) := by
  intro xs k x hk
  have e1 : k * sz + sz = (k + 1) * sz := by rw [Nat.add_mul, Nat.one_mul]
  rw [e1, encL_drop h, encL_take h, List.set_eq_take_append_cons_drop, if_pos hk, ← encL_app, encL_cons, List.append_assoc]
theorem ints_map (l : List Int) : encL eInt l = l.map (AV.int .i64) := by
  induction l with
  | nil => rfl
  | cons x l ih => rw [encL_cons, ih]; rfl
theorem ints_at {n : Nat} (M : Vector Int n) (k : Nat) (h : k < n) : ∃ rest, (encL eInt M.toList).drop k = .int .i64 (vat M k) :: rest := by
  obtain ⟨rest, hr⟩ := encL_at wdInt M.toList (k : Int) (by omega) (by simpa using h)
  rw [Int.toNat_natCast, Nat.mul_one] at hr
  exact ⟨rest, by rw [hr]; simp [eInt, lat, vat]⟩
theorem ints_set {n : Nat} (M : Vector Int n) (k : Nat) (v : Int) : Lat.spl (encL eInt M.toList) k [.int .i64 v] = encL eInt (vset M k v).toList := by
  rw [ints_map, ints_map]; simp [Lat.spl, vset, List.map_set]
theorem ints_zero (n : Nat) : List.replicate n (AV.int .i64 0) = encL eInt (Vector.replicate n 0).toList := by
  rw [ints_map]; simp
theorem ints_len {n : Nat} (M : Vector Int n) : (encL eInt M.toList).length = n := by rw [encL_length wdInt]; simp
theorem row_set {α : Type} {e : α → List AV} {sz : Nat} (h : Wd e sz) (xs : List α) (j : Int) (x : α) {vs : List AV} (hv : vs = e x) (h1 : 0 ≤ j) (h2 : j < (xs.length : Int)) : Lat.spl (encL e xs) (j.toNat * sz) vs = encL e (xs.set j.toNat x) := by
  subst hv
  have hj : j.toNat < xs.length := by omega
  have : j.toNat * sz + sz ≤ xs.length * sz := by
    have := Nat.mul_le_mul_right sz hj
    rw [Nat.succ_mul] at this
    exact this
  rw [Lat.spl_eq _ _ _ (by rw [encL_length h, h]; exact this), h, encL_set h xs _ x hj]

def regsL (tm : Nat → AV) : List (Nat × AV) → Prop
  | [] => True
  | (t, v) :: l => tm t = v ∧ regsL tm l
theorem regsL_look {tm : Nat → AV} : ∀ {l : List (Nat × AV)}, regsL tm l → ∀ t, look l t = .any ∨ look l t = tm t
  | [], _, t => .inl rfl
  | (k, v) :: l, h, t => by
    rw [look_cons]
    split
    · rename_i e; subst e; exact .inr h.1.symm
    · exact regsL_look h.2 t

section
variable {P : Program} {T : TT} {ops rest : List Oper} {o : Op} {ty : TypeId} {pos : String} {af : Array Edge} {j n : Nat} {l l' : List (Nat × AV)} {h h' : List AObj} {b : Nat} {K : AV → List AObj → Prop} {KS : St → Prop} {Q : Ex → St → Prop} {c : Code} {st : St}

theorem St.put_look (d : Nat) (v : AV) (hd : d < n) : St.put ⟨n, look l, h, b⟩ (some d) v = ⟨n, look ((d, v) :: l), h, b⟩ := by
  simp only [St.put, if_pos hd]
  congr 1
theorem cL {d : Nat} (hd : Nat.ble (d + 1) n = true) (h1 : opC P T ⟨some d, o, ty, pos, af, none⟩ ⟨n, look l, h, b⟩ fun v h' => seqL P T ops [] (j + 1) rest ⟨n, look ((d, v) :: l), h', b⟩ KS) :
    seqL P T ops [] j (⟨some d, o, ty, pos, af, none⟩ :: rest) ⟨n, look l, h, b⟩ KS := by
  have hd' : d < n := Nat.le_of_ble_eq_true hd
  show opC P T ⟨some d, o, ty, pos, af, none⟩ ⟨n, look l, h, b⟩ fun v h' => seqL P T ops [] (j + 1) rest (St.put ⟨n, look l, h', b⟩ (some d) v) KS
  have e : (fun v h' => seqL P T ops [] (j + 1) rest (St.put ⟨n, look l, h', b⟩ (some d) v) KS) = fun v h' => seqL P T ops [] (j + 1) rest ⟨n, look ((d, v) :: l), h', b⟩ KS := by
    funext v h'
    rw [St.put_look d v hd']
  rw [e]
  exact h1
theorem cLn (h1 : opC P T ⟨none, o, ty, pos, af, none⟩ ⟨n, look l, h, b⟩ fun _ h' => seqL P T ops [] (j + 1) rest ⟨n, look l, h', b⟩ KS) :
    seqL P T ops [] j (⟨none, o, ty, pos, af, none⟩ :: rest) ⟨n, look l, h, b⟩ KS := h1
theorem cLg {d : Option Tmp} {i : Nat} {want q : Bool} {t : Tmp} (hg : gdT ops i = some t) (hb : look l t = .bool q) (hq : q = want) (h1 : seqL P T ops [] j (⟨d, o, ty, pos, af, none⟩ :: rest) ⟨n, look l, h, b⟩ KS) :
    seqL P T ops [] j (⟨d, o, ty, pos, af, some (i, want)⟩ :: rest) ⟨n, look l, h, b⟩ KS := by
  subst hq
  show stepG P T ops ⟨d, o, ty, pos, af, some (i, q)⟩ ⟨n, look l, h, b⟩ _
  unfold stepG
  simp only [hg, hb, true_imp_iff, ne_eq, not_true_eq_false, false_imp_iff, and_true]
  exact h1
theorem cLs {d : Nat} {i : Nat} {want q : Bool} {t : Tmp} (hd : Nat.ble (d + 1) n = true) (hg : gdT ops i = some t) (hb : look l t = .bool q) (hq : q = !want) (h1 : seqL P T ops [] (j + 1) rest ⟨n, look ((d, .tup []) :: l), h, b⟩ KS) :
    seqL P T ops [] j (⟨some d, o, ty, pos, af, some (i, want)⟩ :: rest) ⟨n, look l, h, b⟩ KS := by
  subst hq
  have hd' : d < n := Nat.le_of_ble_eq_true hd
  show stepG P T ops ⟨some d, o, ty, pos, af, some (i, want)⟩ ⟨n, look l, h, b⟩ _
  unfold stepG
  simp only [hg, hb]
  refine ⟨fun hc => (by cases want <;> cases hc), fun _ => ?_⟩
  rw [St.put_look d _ hd']
  exact h1
theorem cLu {d : Nat} {i : Nat} {want : Bool} {t : Tmp} (hd : Nat.ble (d + 1) n = true) (hg : gdT ops i = some t) (hb : look l t = .tup []) (h1 : seqL P T ops [] (j + 1) rest ⟨n, look ((d, .tup []) :: l), h, b⟩ KS) :
    seqL P T ops [] j (⟨some d, o, ty, pos, af, some (i, want)⟩ :: rest) ⟨n, look l, h, b⟩ KS := by
  have hd' : d < n := Nat.le_of_ble_eq_true hd
  show stepG P T ops ⟨some d, o, ty, pos, af, some (i, want)⟩ ⟨n, look l, h, b⟩ _
  unfold stepG
  simp only [hg, hb]
  rw [St.put_look d _ hd']
  exact h1
theorem eL (h1 : KS st) : seqL P T ops [] j [] st KS := h1

theorem stepH_of_G {o : Oper} {ops : List Oper} (h1 : stepG P T ops o st KS) : stepH P T ops o st KS := by
  unfold stepH
  split
  · exact .inl h1
  · exact h1
theorem cH {d : Nat} (hd : Nat.ble (d + 1) n = true) (h1 : opC P T ⟨some d, o, ty, pos, af, none⟩ ⟨n, look l, h, b⟩ fun v h' => seqH P T ops rest ⟨n, look ((d, v) :: l), h', b⟩ KS) :
    seqH P T ops (⟨some d, o, ty, pos, af, none⟩ :: rest) ⟨n, look l, h, b⟩ KS := by
  have hd' : d < n := Nat.le_of_ble_eq_true hd
  refine stepH_of_G ?_
  show opC P T ⟨some d, o, ty, pos, af, none⟩ ⟨n, look l, h, b⟩ fun v h' => seqH P T ops rest (St.put ⟨n, look l, h', b⟩ (some d) v) KS
  have e : (fun v h' => seqH P T ops rest (St.put ⟨n, look l, h', b⟩ (some d) v) KS) = fun v h' => seqH P T ops rest ⟨n, look ((d, v) :: l), h', b⟩ KS := by
    funext v h'
    rw [St.put_look d v hd']
  rw [e]
  exact h1
theorem cHc {d : Nat} {f : Operand} {args : Array Operand} {tys : Array TypeId} (hd : Nat.ble (d + 1) n = true) (h1 : callH P h (St.eval ⟨n, look l, h, b⟩ f) (args.toList.map (St.eval ⟨n, look l, h, b⟩)) fun v h' => seqH P T ops rest ⟨n, look ((d, v) :: l), h', b⟩ KS) :
    seqH P T ops (⟨some d, .call ⟨.value f, args, tys⟩, ty, pos, af, none⟩ :: rest) ⟨n, look l, h, b⟩ KS := by
  have hd' : d < n := Nat.le_of_ble_eq_true hd
  refine Or.inr ?_
  have e : (fun v h' => seqH P T ops rest (St.put ⟨n, look l, h', b⟩ (some d) v) KS) = fun v h' => seqH P T ops rest ⟨n, look ((d, v) :: l), h', b⟩ KS := by
    funext v h'
    rw [St.put_look d v hd']
  show callH P h (St.eval ⟨n, look l, h, b⟩ f) (args.toList.map (St.eval ⟨n, look l, h, b⟩)) fun v h' => seqH P T ops rest (St.put ⟨n, look l, h', b⟩ (some d) v) KS
  rw [e]
  exact h1
theorem eH (h1 : KS st) : seqH P T ops [] st KS := h1

theorem W.rL {id : Nat} {ol : List Oper} (h1 : seqL P T ol [] 0 ol st fun s => W P T c s Q) : W P T (.seq (.region id ol.toArray false) c) st Q := W.seq _ (W.region [] h1) fun _ h => h
theorem W.rL1 {id : Nat} {ol : List Oper} (h1 : seqL P T ol [] 0 ol st (Q .nrm)) : W P T (.region id ol.toArray false) st Q := W.region [] h1
theorem W.rH1 {id : Nat} {ol : List Oper} (h1 : seqH P T ol ol st (Q .nrm)) : W P T (.region id ol.toArray false) st Q := fun hT _ ro _ n X D w0 mA r m a w hR =>
  wpIn_region_list (seqH_sound hT (fun s r' m' a' w' hs hR' => ⟨[], r', m', s, fun _ => rfl, hs, hR'⟩) ol hR h1)
theorem W.rH {id : Nat} {ol : List Oper} (h1 : seqH P T ol ol st fun s => W P T c s Q) : W P T (.seq (.region id ol.toArray false) c) st Q := W.seq _ (W.rH1 h1) fun _ h => h
theorem W.rD1 {id : Nat} {ol : List Oper} (ord : List Nat) (hc : chk ol.toArray ord = true) (hl : (ord.map fun i => ol[i]?) = ol.map some) (h1 : seqL P T ol [] 0 ol st (Q .nrm)) : W P T (.region id ol.toArray true) st Q :=
  W.draw ord hc (seqL_seqI ord ol 0 st hl h1)
theorem W.rD {id : Nat} {ol : List Oper} (ord : List Nat) (hc : chk ol.toArray ord = true) (hl : (ord.map fun i => ol[i]?) = ol.map some) (h1 : seqL P T ol [] 0 ol st fun s => W P T c s Q) : W P T (.seq (.region id ol.toArray true) c) st Q :=
  W.seq _ (W.rD1 ord hc hl h1) fun _ h => h
theorem W.rO1 {id : Nat} {ol : List Oper} (ord : List Nat) (ol' : List Oper) (hc : chk ol.toArray ord = true) (hl : (ord.map fun i => ol[i]?) = ol'.map some) (h1 : seqL P T ol [] 0 ol' st (Q .nrm)) : W P T (.region id ol.toArray true) st Q :=
  W.draw ord hc (seqL_seqI ord ol' 0 st hl h1)
theorem W.rO {id : Nat} {ol : List Oper} (ord : List Nat) (ol' : List Oper) (hc : chk ol.toArray ord = true) (hl : (ord.map fun i => ol[i]?) = ol'.map some) (h1 : seqL P T ol [] 0 ol' st fun s => W P T c s Q) : W P T (.seq (.region id ol.toArray true) c) st Q :=
  W.seq _ (W.rO1 ord ol' hc hl h1) fun _ h => h
theorem W.tr {tm : Nat → AV} (l' : List (Nat × AV)) (h' : List AObj) (hl : regsL tm l') (hh : h = h') (hw : W P T c ⟨n, look l', h', b⟩ Q) : W P T c ⟨n, tm, h, b⟩ Q := by
  subst hh
  exact W.le (st' := ⟨n, look l', h, b⟩) ⟨rfl, rfl, rfl, regsL_look hl⟩ hw
theorem bl_hit {id : Nat} {s : St} (h1 : Q .nrm s) : blockA id Q (.exit id) s := by simp only [blockA, if_pos]; exact h1
theorem bl_miss {id k : Nat} {s : St} (hk : Nat.beq k id = false) (h1 : Q (.exit k) s) : blockA id Q (.exit k) s := by
  have : k ≠ id := Nat.ne_of_beq_eq_false hk
  simp only [blockA, if_neg this]; exact h1
theorem bl_nrm {id : Nat} {s : St} (h1 : Q .nrm s) : blockA id Q .nrm s := h1
theorem bl_ret {id : Nat} {s : St} (h1 : Q .ret s) : blockA id Q .ret s := h1
theorem th_nrm {N : St → Prop} {s : St} (h1 : N s) : thenA N Q .nrm s := h1
theorem th_exit {N : St → Prop} {k : Nat} {s : St} (h1 : Q (.exit k) s) : thenA N Q (.exit k) s := h1
theorem th_ret {N : St → Prop} {s : St} (h1 : Q .ret s) : thenA N Q .ret s := h1
theorem W.cn {p : Prop} [Decidable p] {x : Operand} {c1 c2 : Code} (hx : st.eval x = .bool (decide p)) (h1 : p → W P T c1 st Q) (h2 : ¬ p → W P T c2 st Q) : W P T (.cond x c1 c2) st Q :=
  W.cond hx (fun h => h1 (of_decide_eq_true h)) (fun h => h2 (of_decide_eq_false h))
theorem W.cb {q : Bool} {x : Operand} {c1 c2 : Code} (hx : st.eval x = .bool q) (h1 : q = true → W P T c1 st Q) (h2 : ¬ q = true → W P T c2 st Q) : W P T (.cond x c1 c2) st Q :=
  W.cond hx h1 (fun h => h2 (by rw [h]; simp))
theorem W.cT {x : Operand} {c1 c2 : Code} (hx : st.eval x = .bool true) (h1 : W P T c1 st Q) : W P T (.cond x c1 c2) st Q := W.cond hx (fun _ => h1) (fun h => by cases h)
theorem W.cF {x : Operand} {c1 c2 : Code} (hx : st.eval x = .bool false) (h1 : W P T c2 st Q) : W P T (.cond x c1 c2) st Q := W.cond hx (fun h => by cases h) (fun _ => h1)
end
end Go.Lat
namespace Go.Lat
open Go.ChangeShapes Go.WideShapes Go.ChangeAt Go.RowKit
section
variable {H : Type} {enc : TypeId × Value → H} {P : Program} {w : World} {base : Nat} {spare : Nat → Bool} {held : Bool}
def memOf (w : World) : Mem := fun p => if p.block < w.heap.size then w.cell? p else none
theorem memOf_ok {w : World} (p : Addr) (v : Value) (h : memOf w p = some v) : w.cell? p = some v ∧ p.block < w.heap.size := by
  unfold memOf at h
  split at h
  · exact ⟨h, ‹_›⟩
  · cases h
theorem inI_of_wf {n : Int} (h : (Lit.int .i64 n).wf = true) : inI n := bounds_i64 h
def IntCells (enc : TypeId × Value → H) (P : Program) (w : World) (base : Nat) (spare : Nat → Bool) (held : Bool) (e : TypeId) (k : Nat) : Prop :=
  ∀ n cs d, DataW.trod enc P w base spare held n e cs = some d → ∃ zs : List Int, zs.length = k ∧ cs = zs.map (Value.int .i64) ∧ ∀ z ∈ zs, inI z
theorem intCells_int {e : TypeId} (he : P.underlying e = some (.int .i64)) : IntCells enc P w base spare held e 1 := by
  intro n cs d h
  obtain ⟨z, rfl, -, hz⟩ := DataW.trod_int he h
  exact ⟨[z], rfl, rfl, by simpa using inI_of_wf hz⟩
theorem ints_join {cs : List Value} {k : Nat} (hl : cs.length = k) (h : ∀ i, i < k → ∃ z, (cs.drop i).take 1 = [.int .i64 z] ∧ inI z) : ∃ zs : List Int, zs.length = k ∧ cs = zs.map (Value.int .i64) ∧ ∀ z ∈ zs, inI z := by
  induction cs generalizing k with
  | nil => exact ⟨[], by simpa using hl, rfl, by simp⟩
  | cons c cs ih =>
    obtain ⟨k, rfl⟩ : ∃ k', k = k' + 1 := ⟨k - 1, by simp at hl; omega⟩
    obtain ⟨z, hz, iz⟩ := h 0 (by omega)
    simp at hz
    obtain ⟨zs, h1, h2, h3⟩ := ih (k := k) (by simpa using hl) (fun i hi => by
      have := h (i + 1) (by omega)
      simpa using this)
    refine ⟨z :: zs, by simp [h1], by rw [hz, h2]; rfl, fun y hy => ?_⟩
    rcases List.mem_cons.mp hy with rfl | hy
    · exact iz
    · exact h3 y hy
theorem intCells_arr {t e : TypeId} {k : Nat} (ht : P.underlying t = some (.array k e)) (he : P.underlying e = some (.int .i64)) (ce : P.cellsOf e = 1) (ct : P.cellsOf t = k) : IntCells enc P w base spare held t k := by
  intro n cs d h
  obtain ⟨xs, m, -, -, hl, hx, hi⟩ := DataW.trod_array ht h
  refine ints_join (by rw [hl, ct]) fun i hik => ?_
  have h1 := hi i hik
  rw [ce, Nat.mul_one, List.getElem?_eq_getElem (by omega)] at h1
  obtain ⟨z, hz, -, wz⟩ := DataW.trod_int he h1
  exact ⟨z, hz, inI_of_wf wz⟩
theorem VRs_intsW {r : Rho} {m : MM} : ∀ zs : List Int, VRs r m (zs.map fun z => AV.int .i64 z) (zs.map (Value.int .i64))
  | [] => rfl
  | z :: zs => ⟨_, _, rfl, rfl, VRs_intsW zs⟩
theorem flatten_get {k : Nat} : ∀ {L : List (List Int)}, (∀ r ∈ L, r.length = k) → ∀ (i : Nat) z, L.flatten[i]? = some z → ∃ r, L[i / k]? = some r ∧ r[i % k]? = some z := by
  intro L
  induction L with
  | nil => intro _ i z h; simp at h
  | cons r L ih =>
    intro hk i z h
    have hr := hk r (by simp)
    rw [List.flatten_cons] at h
    rcases Nat.lt_or_ge i k with h1 | h1
    · rw [List.getElem?_append_left (by omega)] at h
      exact ⟨r, by rw [Nat.div_eq_of_lt h1]; rfl, by rw [Nat.mod_eq_of_lt h1]; exact h⟩
    · rw [List.getElem?_append_right (by omega), hr] at h
      obtain ⟨r', h2, h3⟩ := ih (fun r' h' => hk r' (by simp [h'])) (i - k) z h
      have hk0 : 0 < k := by
        rcases Nat.eq_zero_or_pos k with h0 | h0
        · subst h0
          have hz : ∀ r'' ∈ L, r''.length = 0 := fun r'' h'' => hk r'' (by simp [h''])
          have : L.flatten = [] := List.flatten_eq_nil_iff.mpr fun r'' h'' => List.eq_nil_of_length_eq_zero (hz r'' h'')
          rw [this] at h; simp at h
        · exact h0
      have e1 : i / k = (i - k) / k + 1 := Nat.div_eq_sub_div hk0 h1
      have e2 : i % k = (i - k) % k := by rw [Nat.mod_eq_sub_mod h1]
      exact ⟨r', by rw [e1]; exact h2, by rw [e2]; exact h3⟩
theorem open_flat {t e : TypeId} {k : Nat} {v : Value} {d : DataW H} {ps : List MemPlace} (ht : P.underlying t = some (.slice e)) (ce : P.cellsOf e = k) (hk : 0 < k) (hv : ∃ a len cap, v = .slice a len cap) (he : IntCells enc P w base spare held e k)
    (h : DataW.Trod enc P w base spare held t v d ps) : ∃ L : List (List Int), (∀ r ∈ L, r.length = k ∧ ∀ z ∈ r, inI z) ∧ VR [] (nest (memOf w)) (.lst true L.length (L.flatten.map fun z => AV.int .i64 z)) v := by
  obtain ⟨fuel, hf⟩ := h
  obtain ⟨a0, len0, cap0, rfl⟩ := hv
  rcases Go.Deep.open_slice ht hf with ⟨hcs, -⟩ | ⟨a, len, cap, m, n, D, Pl, hcs, hb, hl, hm, hmm, -, hx⟩
  · simp [Value.cells] at hcs
    obtain ⟨rfl, rfl, rfl⟩ := hcs
    exact ⟨[], by simp, .inl ⟨rfl, rfl⟩⟩
  · simp [Value.cells] at hcs
    obtain ⟨rfl, rfl, rfl⟩ := hcs
    have hlm : len0 ≤ m := by rw [hmm]; split <;> omega
    obtain ⟨F, hF⟩ := Go.Deep.choose_lt (α := List Int) (n := len0) (p := fun i zs => zs.length = k ∧ (∀ z ∈ zs, inI z) ∧ ∀ j, j < k → w.cell? ((a.add (i * k)).add j) = (zs.map (Value.int .i64))[j]?) (fun i hi => by
      obtain ⟨cs', h1, h2⟩ := hx i (by omega)
      obtain ⟨zs, z1, rfl, z3⟩ := he _ _ _ h2
      obtain ⟨-, -, h5⟩ := World.cells?_some h1
      rw [ce] at h5
      exact ⟨zs, z1, z3, h5⟩)
    refine ⟨(List.range len0).map F, fun r hr => ?_, .inr ⟨a, cap0, ((List.range len0).map F).flatten.map (Value.int .i64), by simpa using hl, by simp, fun i u hu => ?_, VRs_intsW _⟩⟩
    · rw [List.mem_map] at hr
      obtain ⟨i, hi, rfl⟩ := hr
      have := hF i (List.mem_range.mp hi)
      exact ⟨this.1, this.2.1⟩
    · rw [List.getElem?_map] at hu
      rcases hz : ((List.range len0).map F).flatten[i]? with _ | z
      · rw [hz] at hu; cases hu
      rw [hz] at hu
      cases hu
      obtain ⟨r, h1, h2⟩ := flatten_get (k := k) (fun r hr => by
        rw [List.mem_map] at hr
        obtain ⟨i, hi, rfl⟩ := hr
        exact (hF i (List.mem_range.mp hi)).1) i z hz
      have hik : i / k < len0 := by
        rcases Nat.lt_or_ge (i / k) len0 with h | h
        · exact h
        · rw [List.getElem?_eq_none (by simpa using h)] at h1; cases h1
      rw [List.getElem?_map, List.getElem?_range hik] at h1
      cases h1
      have h3 := (hF (i / k) hik).2.2 (i % k) (Nat.mod_lt _ hk)
      rw [List.getElem?_map, h2] at h3
      have e : (a.add (i / k * k)).add (i % k) = a.add i := by
        have e1 : i / k * k + i % k = i := by rw [Nat.mul_comm]; exact Nat.div_add_mod i k
        generalize i / k * k = x at e1
        generalize i % k = y at e1
        subst e1
        unfold Addr.add
        by_cases hx0 : x = 0
        · subst hx0; simp
        · by_cases hy0 : y = 0
          · subst hy0; simp
          · rw [if_neg hy0, if_neg hx0, if_neg (by omega)]; simp only [Nat.add_assoc]
      rw [e] at h3
      refine ⟨?_, rfl⟩
      show memOf w (a.add i) = _
      unfold memOf
      rw [if_pos ?_]
      · exact h3
      · exact World.block_lt_of_cell? _ _ h3
end
end Go.Lat
namespace Go.Lat
open Go.RowKit

def lenV : AV → Option Nat
  | .nilS => some 0
  | .lst _ n _ => some n
  | .ref _ _ n => some n
  | .sub _ _ n => some n
  | _ => none
def fillE (place : Nat → Option (Nat × Nat)) (cells : List AV) : List (Nat × AV) → Option (List AV)
  | [] => some cells
  | (i, v) :: rest => match place i, v.cells with
    | some (off, size), some vs => if (Nat.beq vs.length size && Nat.ble (off + size) cells.length) = true then fillE place (Lat.spl cells off vs) rest else none
    | _, _ => none
theorem fillE_spec {place : Nat → Option (Nat × Nat)} {K : List AV → Prop} : ∀ {qs : List (Nat × AV)} {cells cs : List AV}, fillE place cells qs = some cs → K cs → fillP place cells K qs
  | [], cells, cs, h, hk => by simp only [fillE, Option.some.injEq] at h; subst h; exact hk
  | (i, v) :: rest, cells, cs, h, hk => by
    unfold fillE at h
    unfold fillP
    split at h <;> try cases h
    rename_i off size vs h1 h2
    split at h
    · rename_i hc
      simp only [Bool.and_eq_true] at hc
      rw [h1, h2]
      exact ⟨Nat.eq_of_beq_eq_true hc.1, Nat.le_of_ble_eq_true hc.2, fillE_spec h hk⟩
    · cases h

section
variable {P : Program} {T : TT} {d : Option Tmp} {ty : TypeId} {pos : String} {af : Array Edge} {g : Option (Nat × Bool)} {n : Nat} {l : List (Nat × AV)} {h : List AObj} {b : Nat} {K : AV → List AObj → Prop} {a a2 a3 : Operand}
theorem o_move {v : AV} (h1 : St.eval ⟨n, look l, h, b⟩ a = v) (hk : K v h) : opC P T ⟨d, .move a, ty, pos, af, g⟩ ⟨n, look l, h, b⟩ K := by
  show K (St.eval ⟨n, look l, h, b⟩ a) h
  rw [h1]; exact hk
theorem o_assign {v : AV} (h1 : St.eval ⟨n, look l, h, b⟩ a = v) (hk : K v h) : opC P T ⟨d, .assign a, ty, pos, af, g⟩ ⟨n, look l, h, b⟩ K := by
  show K (St.eval ⟨n, look l, h, b⟩ a) h
  rw [h1]; exact hk
theorem o_pickT {q : Bool} {v : AV} (h1 : St.eval ⟨n, look l, h, b⟩ a = .bool q) (hq : q = true) (h2 : St.eval ⟨n, look l, h, b⟩ a2 = v) (hk : K v h) : opC P T ⟨d, .pick a a2 a3, ty, pos, af, g⟩ ⟨n, look l, h, b⟩ K := by
  subst hq
  show (match St.eval ⟨n, look l, h, b⟩ a, St.eval ⟨n, look l, h, b⟩ a2, St.eval ⟨n, look l, h, b⟩ a3 with
    | .bool t, .bool x, .bool y => K (.bool (if t then x else y)) h
    | .bool true, x, _ => K x h
    | .bool false, _, y => K y h
    | _, _, _ => False)
  rw [h1, h2]
  generalize St.eval ⟨n, look l, h, b⟩ a3 = w
  cases v <;> cases w <;> exact hk
theorem o_pickF {q : Bool} {v : AV} (h1 : St.eval ⟨n, look l, h, b⟩ a = .bool q) (hq : q = false) (h2 : St.eval ⟨n, look l, h, b⟩ a3 = v) (hk : K v h) : opC P T ⟨d, .pick a a2 a3, ty, pos, af, g⟩ ⟨n, look l, h, b⟩ K := by
  subst hq
  show (match St.eval ⟨n, look l, h, b⟩ a, St.eval ⟨n, look l, h, b⟩ a2, St.eval ⟨n, look l, h, b⟩ a3 with
    | .bool t, .bool x, .bool y => K (.bool (if t then x else y)) h
    | .bool true, x, _ => K x h
    | .bool false, _, y => K y h
    | _, _, _ => False)
  rw [h1, h2]
  generalize St.eval ⟨n, look l, h, b⟩ a2 = w
  cases v <;> cases w <;> exact hk
theorem o_alloc {t : TypeId} {k : TK} {s by_ : Nat} {z z' : List AV} {p : Nat} (ht : T t = some ⟨k, s, by_, z⟩) (hp : h.length = p) (hz : z = z') (hk : K (.ptr p 0) (h ++ [.box t z'])) : opC P T ⟨d, .alloc t, ty, pos, af, g⟩ ⟨n, look l, h, b⟩ K := by
  show allocA T h t K
  subst hp; subst hz
  simp only [allocA, ht]; exact hk
theorem o_box {t : TypeId} {v : AV} {cs : List AV} {p : Nat} (h1 : St.eval ⟨n, look l, h, b⟩ a = v) (hc : v.cells = some cs) (hp : h.length = p) (hk : K (.ptr p 0) (h ++ [.box t cs])) : opC P T ⟨d, .box t a, ty, pos, af, g⟩ ⟨n, look l, h, b⟩ K := by
  show boxA h t (St.eval ⟨n, look l, h, b⟩ a) K
  subst hp
  rw [h1]; simp only [boxA, hc]; exact hk
theorem ldS {t : TypeId} {k : TK} {s by_ : Nat} {z : List AV} {x v : AV} (ht : T t = some ⟨k, s, by_, z⟩) (ha : k.agg = false) (hc : ∃ rest, cellsAt h x = some (v :: rest)) (hk : K v h) : loadA T h t x K := by
  obtain ⟨rest, hc⟩ := hc
  simp only [loadA, ht, hc, ha]
  exact ⟨by simp, hk⟩
theorem ldA {t : TypeId} {k : TK} {s by_ : Nat} {z : List AV} {x : AV} {cs : List AV} (ht : T t = some ⟨k, s, by_, z⟩) (ha : k.agg = true) (hc : ∃ rest, cellsAt h x = some (cs ++ rest)) (hl : cs.length = s) (hk : K (.agg cs) h) : loadA T h t x K := by
  obtain ⟨rest, hc⟩ := hc
  subst hl
  simp only [loadA, ht, hc, ha]
  exact ⟨by simp, by rw [List.take_left]; exact hk⟩
theorem o_ldS {t : TypeId} {k : TK} {s by_ : Nat} {z : List AV} {x v : AV} (ht : T t = some ⟨k, s, by_, z⟩) (ha : k.agg = false) (h1 : St.eval ⟨n, look l, h, b⟩ a = x) (hc : ∃ rest, cellsAt h x = some (v :: rest)) (hk : K v h) : opC P T ⟨d, .load t a, ty, pos, af, g⟩ ⟨n, look l, h, b⟩ K := by
  show loadA T h t (St.eval ⟨n, look l, h, b⟩ a) K
  rw [h1]; exact ldS ht ha hc hk
theorem o_ldA {t : TypeId} {k : TK} {s by_ : Nat} {z : List AV} {x : AV} {cs : List AV} (ht : T t = some ⟨k, s, by_, z⟩) (ha : k.agg = true) (h1 : St.eval ⟨n, look l, h, b⟩ a = x) (hc : ∃ rest, cellsAt h x = some (cs ++ rest)) (hl : cs.length = s) (hk : K (.agg cs) h) : opC P T ⟨d, .load t a, ty, pos, af, g⟩ ⟨n, look l, h, b⟩ K := by
  show loadA T h t (St.eval ⟨n, look l, h, b⟩ a) K
  rw [h1]; exact ldA ht ha hc hl hk
theorem o_stB {t t2 : TypeId} {k : TK} {s by_ id off : Nat} {z : List AV} {v : AV} {vs cs cs2 : List AV} (ht : T t = some ⟨k, s, by_, z⟩) (h1 : St.eval ⟨n, look l, h, b⟩ a = .ptr id off) (h2 : St.eval ⟨n, look l, h, b⟩ a2 = v) (hc : v.cells = some vs) (hl : vs.length = s) (ho : h[id]? = some (.box t2 cs)) (hb : off + vs.length ≤ cs.length) (he : Lat.spl cs off vs = cs2) (hk : K .any (h.set id (.box t2 cs2))) : opC P T ⟨d, .store t a a2, ty, pos, af, g⟩ ⟨n, look l, h, b⟩ K := by
  show storeA T h t (St.eval ⟨n, look l, h, b⟩ a) (St.eval ⟨n, look l, h, b⟩ a2) K
  subst he
  rw [h1, h2]; simp only [storeA, ht, hc, putCells, ho]
  exact ⟨hl, hb, hk⟩
theorem o_stR {t t2 : TypeId} {k : TK} {s by_ id off sz : Nat} {z : List AV} {v : AV} {vs cs cs2 : List AV} (ht : T t = some ⟨k, s, by_, z⟩) (h1 : St.eval ⟨n, look l, h, b⟩ a = .ptr id off) (h2 : St.eval ⟨n, look l, h, b⟩ a2 = v) (hc : v.cells = some vs) (hl : vs.length = s) (ho : h[id]? = some (.row t2 sz cs)) (hb : off + vs.length ≤ cs.length) (he : Lat.spl cs off vs = cs2) (hk : K .any (h.set id (.row t2 sz cs2))) : opC P T ⟨d, .store t a a2, ty, pos, af, g⟩ ⟨n, look l, h, b⟩ K := by
  show storeA T h t (St.eval ⟨n, look l, h, b⟩ a) (St.eval ⟨n, look l, h, b⟩ a2) K
  subst he
  rw [h1, h2]; simp only [storeA, ht, hc, putCells, ho]
  exact ⟨hl, hb, hk⟩
theorem o_iaL {t e : TypeId} {s by_ es eb : Nat} {z ez : List AV} {ek : TK} (ht : T t = some ⟨.sl e, s, by_, z⟩) (he : T e = some ⟨ek, es, eb, ez⟩) {α : Type} [Inhabited α] {en : α → List AV} {xs : List α} {fl : Bool} {m : Nat} (h1 : St.eval ⟨n, look l, h, b⟩ a = .lst fl m (encL en xs)) {ik : IntKind} {i : Int} (h2 : St.eval ⟨n, look l, h, b⟩ a2 = .int ik i) (hw : Wd en es) (hm : m = xs.length) (hj : 0 ≤ i ∧ i < (xs.length : Int)) (hk : ∀ rest, K (.ipt fl (en (lat xs i) ++ rest)) h) : opC P T ⟨d, .indexAddr t a a2, ty, pos, af, g⟩ ⟨n, look l, h, b⟩ K := by
  show indexAddrA T t (St.eval ⟨n, look l, h, b⟩ a) (St.eval ⟨n, look l, h, b⟩ a2) (fun v => K v h)
  rw [h1, h2]; simp only [indexAddrA, ht, he]
  subst hm
  obtain ⟨rest, hr⟩ := encL_at hw xs i hj.1 hj.2
  rw [hr]
  exact ⟨hj, hk rest⟩
theorem o_iaR {t e : TypeId} {s by_ es eb : Nat} {z ez : List AV} {ek : TK} (ht : T t = some ⟨.sl e, s, by_, z⟩) (he : T e = some ⟨ek, es, eb, ez⟩) {nb : Bool} {id m : Nat} (h1 : St.eval ⟨n, look l, h, b⟩ a = .ref nb id m) {ik : IntKind} {i : Int} (h2 : St.eval ⟨n, look l, h, b⟩ a2 = .int ik i) (hj : 0 ≤ i ∧ i < (m : Int)) (hk : K (.ptr id (i.toNat * es)) h) : opC P T ⟨d, .indexAddr t a a2, ty, pos, af, g⟩ ⟨n, look l, h, b⟩ K := by
  show indexAddrA T t (St.eval ⟨n, look l, h, b⟩ a) (St.eval ⟨n, look l, h, b⟩ a2) (fun v => K v h)
  rw [h1, h2]; simp only [indexAddrA, ht, he]
  exact ⟨hj, hk⟩
theorem o_iaA {t e : TypeId} {m s by_ es eb : Nat} {z ez : List AV} {ek : TK} (ht : T t = some ⟨.ar m e, s, by_, z⟩) (he : T e = some ⟨ek, es, eb, ez⟩) {id off : Nat} (h1 : St.eval ⟨n, look l, h, b⟩ a = .ptr id off) {ik : IntKind} {i : Int} (h2 : St.eval ⟨n, look l, h, b⟩ a2 = .int ik i) {off2 : Nat} (hj : 0 ≤ i ∧ i < (m : Int)) (hoff : off + i.toNat * es = off2) (hk : K (.ptr id off2) h) : opC P T ⟨d, .indexAddr t a a2, ty, pos, af, g⟩ ⟨n, look l, h, b⟩ K := by
  show indexAddrA T t (St.eval ⟨n, look l, h, b⟩ a) (St.eval ⟨n, look l, h, b⟩ a2) (fun v => K v h)
  rw [h1, h2]; simp only [indexAddrA, ht, he]
  subst hoff
  exact ⟨hj, hk⟩
theorem o_iaP {t e : TypeId} {m s by_ es eb : Nat} {z ez : List AV} {ek : TK} (ht : T t = some ⟨.ar m e, s, by_, z⟩) (he : T e = some ⟨ek, es, eb, ez⟩) {fl : Bool} {cs : List AV} (h1 : St.eval ⟨n, look l, h, b⟩ a = .ipt fl cs) {ik : IntKind} {i : Int} (h2 : St.eval ⟨n, look l, h, b⟩ a2 = .int ik i) (hj : 0 ≤ i ∧ i < (m : Int)) (hk : K (.ipt fl (cs.drop (i.toNat * es))) h) : opC P T ⟨d, .indexAddr t a a2, ty, pos, af, g⟩ ⟨n, look l, h, b⟩ K := by
  show indexAddrA T t (St.eval ⟨n, look l, h, b⟩ a) (St.eval ⟨n, look l, h, b⟩ a2) (fun v => K v h)
  rw [h1, h2]; simp only [indexAddrA, ht, he]
  exact ⟨hj, hk⟩
theorem o_fa {t ft : TypeId} {fs : List (Nat × TypeId)} {s by_ off i : Nat} {z : List AV} {fk : TK} {fz fb : Nat} {fzz : List AV} (ht : T t = some ⟨.st fs, s, by_, z⟩) (hf : fs[i]? = some (off, ft)) (hft : T ft = some ⟨fk, fz + 1, fb, fzz⟩) {id q : Nat} (h1 : St.eval ⟨n, look l, h, b⟩ a = .ptr id q) (hk : K (.ptr id (q + off)) h) : opC P T ⟨d, .fieldAddr t a i, ty, pos, af, g⟩ ⟨n, look l, h, b⟩ K := by
  show fieldAddrA T t (St.eval ⟨n, look l, h, b⟩ a) i (fun v => K v h)
  rw [h1]; simp only [fieldAddrA, ht, hf, hft]
  exact ⟨by simp, hk⟩
theorem o_faP {t ft : TypeId} {fs : List (Nat × TypeId)} {s by_ off i : Nat} {z : List AV} {fk : TK} {fz fb : Nat} {fzz : List AV} (ht : T t = some ⟨.st fs, s, by_, z⟩) (hf : fs[i]? = some (off, ft)) (hft : T ft = some ⟨fk, fz + 1, fb, fzz⟩) {fl : Bool} {cs : List AV} (h1 : St.eval ⟨n, look l, h, b⟩ a = .ipt fl cs) (hk : K (.ipt fl (cs.drop off)) h) : opC P T ⟨d, .fieldAddr t a i, ty, pos, af, g⟩ ⟨n, look l, h, b⟩ K := by
  show fieldAddrA T t (St.eval ⟨n, look l, h, b⟩ a) i (fun v => K v h)
  rw [h1]; simp only [fieldAddrA, ht, hf, hft]
  exact ⟨by simp, hk⟩
theorem o_len {t e : TypeId} {s by_ : Nat} {z : List AV} {m : Nat} {v : AV} (ht : T t = some ⟨.sl e, s, by_, z⟩) (h1 : St.eval ⟨n, look l, h, b⟩ a = v) (hv : lenV v = some m) (hk : K (.int .i64 m) h) : opC P T ⟨d, .call ⟨.builtin .len, #[a], #[t]⟩, ty, pos, af, g⟩ ⟨n, look l, h, b⟩ K := by
  show lenA T t (St.eval ⟨n, look l, h, b⟩ a) (fun v => K v h)
  rw [h1]; simp only [lenA, ht]
  cases v <;> simp only [lenV, Option.some.injEq, reduceCtorEq] at hv <;> subst hv <;> exact hk
theorem o_min {tys : Array TypeId} {k : IntKind} {x y : Int} (h1 : St.eval ⟨n, look l, h, b⟩ a = .int k x) (h2 : St.eval ⟨n, look l, h, b⟩ a2 = .int k y) (hk : K (.int k (min x y)) h) : opC P T ⟨d, .call ⟨.builtin .min, #[a, a2], tys⟩, ty, pos, af, g⟩ ⟨n, look l, h, b⟩ K := by
  obtain ⟨tys⟩ := tys
  show minA (St.eval ⟨n, look l, h, b⟩ a) (St.eval ⟨n, look l, h, b⟩ a2) (fun v => K v h)
  rw [h1, h2]; exact ⟨rfl, hk⟩
theorem o_max {tys : Array TypeId} {k : IntKind} {x y : Int} (h1 : St.eval ⟨n, look l, h, b⟩ a = .int k x) (h2 : St.eval ⟨n, look l, h, b⟩ a2 = .int k y) (hk : K (.int k (max x y)) h) : opC P T ⟨d, .call ⟨.builtin .max, #[a, a2], tys⟩, ty, pos, af, g⟩ ⟨n, look l, h, b⟩ K := by
  obtain ⟨tys⟩ := tys
  show maxA (St.eval ⟨n, look l, h, b⟩ a) (St.eval ⟨n, look l, h, b⟩ a2) (fun v => K v h)
  rw [h1, h2]; exact ⟨rfl, hk⟩
theorem o_add {t u : TypeId} {x y : Int} (h1 : St.eval ⟨n, look l, h, b⟩ a = .int .i64 x) (h2 : St.eval ⟨n, look l, h, b⟩ a2 = .int .i64 y) (hi : inI (x + y)) (hk : K (.int .i64 (x + y)) h) : opC P T ⟨d, .binOp .add t a a2 u, ty, pos, af, g⟩ ⟨n, look l, h, b⟩ K := by
  have hn : nilC .add a2 = false := rfl
  show (if nilC .add a2 = true then nilEqA T t (BinOp.add == BinOp.neq) (St.eval ⟨n, look l, h, b⟩ a) (fun v => K v h) else binA T .add t (St.eval ⟨n, look l, h, b⟩ a) (St.eval ⟨n, look l, h, b⟩ a2) (fun v => K v h))
  rw [hn, if_neg (by simp), h1, h2]
  exact ⟨hi, hk⟩
theorem o_sub {t u : TypeId} {x y : Int} (h1 : St.eval ⟨n, look l, h, b⟩ a = .int .i64 x) (h2 : St.eval ⟨n, look l, h, b⟩ a2 = .int .i64 y) (hi : inI (x - y)) (hk : K (.int .i64 (x - y)) h) : opC P T ⟨d, .binOp .sub t a a2 u, ty, pos, af, g⟩ ⟨n, look l, h, b⟩ K := by
  have hn : nilC .sub a2 = false := rfl
  show (if nilC .sub a2 = true then nilEqA T t (BinOp.sub == BinOp.neq) (St.eval ⟨n, look l, h, b⟩ a) (fun v => K v h) else binA T .sub t (St.eval ⟨n, look l, h, b⟩ a) (St.eval ⟨n, look l, h, b⟩ a2) (fun v => K v h))
  rw [hn, if_neg (by simp), h1, h2]
  exact ⟨hi, hk⟩
theorem o_quo {t u : TypeId} {x y : Int} (h1 : St.eval ⟨n, look l, h, b⟩ a = .int .i64 x) (h2 : St.eval ⟨n, look l, h, b⟩ a2 = .int .i64 y) (h0 : y ≠ 0) (hi : inI (x.tdiv y)) (hk : K (.int .i64 (x.tdiv y)) h) : opC P T ⟨d, .binOp .quo t a a2 u, ty, pos, af, g⟩ ⟨n, look l, h, b⟩ K := by
  have hn : nilC .quo a2 = false := rfl
  show (if nilC .quo a2 = true then nilEqA T t (BinOp.quo == BinOp.neq) (St.eval ⟨n, look l, h, b⟩ a) (fun v => K v h) else binA T .quo t (St.eval ⟨n, look l, h, b⟩ a) (St.eval ⟨n, look l, h, b⟩ a2) (fun v => K v h))
  rw [hn, if_neg (by simp), h1, h2]
  exact ⟨h0, hi, hk⟩
theorem o_rem {t u : TypeId} {k : IntKind} {x y : Int} (h1 : St.eval ⟨n, look l, h, b⟩ a = .int k x) (h2 : St.eval ⟨n, look l, h, b⟩ a2 = .int k y) (h0 : y ≠ 0) (hk : K (.int k (x.tmod y)) h) : opC P T ⟨d, .binOp .rem t a a2 u, ty, pos, af, g⟩ ⟨n, look l, h, b⟩ K := by
  have hn : nilC .rem a2 = false := rfl
  show (if nilC .rem a2 = true then nilEqA T t (BinOp.rem == BinOp.neq) (St.eval ⟨n, look l, h, b⟩ a) (fun v => K v h) else binA T .rem t (St.eval ⟨n, look l, h, b⟩ a) (St.eval ⟨n, look l, h, b⟩ a2) (fun v => K v h))
  rw [hn, if_neg (by simp), h1, h2]
  exact ⟨rfl, h0, hk⟩
theorem o_lss {t u : TypeId} {k : IntKind} {x y : Int} (h1 : St.eval ⟨n, look l, h, b⟩ a = .int k x) (h2 : St.eval ⟨n, look l, h, b⟩ a2 = .int k y)  (hk : K (.bool (decide (x < y))) h) : opC P T ⟨d, .binOp .lss t a a2 u, ty, pos, af, g⟩ ⟨n, look l, h, b⟩ K := by
  have hn : nilC .lss a2 = false := rfl
  show (if nilC .lss a2 = true then nilEqA T t (BinOp.lss == BinOp.neq) (St.eval ⟨n, look l, h, b⟩ a) (fun v => K v h) else binA T .lss t (St.eval ⟨n, look l, h, b⟩ a) (St.eval ⟨n, look l, h, b⟩ a2) (fun v => K v h))
  rw [hn, if_neg (by simp), h1, h2]
  exact ⟨rfl, hk⟩
theorem o_leq {t u : TypeId} {k : IntKind} {x y : Int} (h1 : St.eval ⟨n, look l, h, b⟩ a = .int k x) (h2 : St.eval ⟨n, look l, h, b⟩ a2 = .int k y)  (hk : K (.bool (decide (x ≤ y))) h) : opC P T ⟨d, .binOp .leq t a a2 u, ty, pos, af, g⟩ ⟨n, look l, h, b⟩ K := by
  have hn : nilC .leq a2 = false := rfl
  show (if nilC .leq a2 = true then nilEqA T t (BinOp.leq == BinOp.neq) (St.eval ⟨n, look l, h, b⟩ a) (fun v => K v h) else binA T .leq t (St.eval ⟨n, look l, h, b⟩ a) (St.eval ⟨n, look l, h, b⟩ a2) (fun v => K v h))
  rw [hn, if_neg (by simp), h1, h2]
  exact ⟨rfl, hk⟩
theorem o_gtr {t u : TypeId} {k : IntKind} {x y : Int} (h1 : St.eval ⟨n, look l, h, b⟩ a = .int k x) (h2 : St.eval ⟨n, look l, h, b⟩ a2 = .int k y)  (hk : K (.bool (decide (y < x))) h) : opC P T ⟨d, .binOp .gtr t a a2 u, ty, pos, af, g⟩ ⟨n, look l, h, b⟩ K := by
  have hn : nilC .gtr a2 = false := rfl
  show (if nilC .gtr a2 = true then nilEqA T t (BinOp.gtr == BinOp.neq) (St.eval ⟨n, look l, h, b⟩ a) (fun v => K v h) else binA T .gtr t (St.eval ⟨n, look l, h, b⟩ a) (St.eval ⟨n, look l, h, b⟩ a2) (fun v => K v h))
  rw [hn, if_neg (by simp), h1, h2]
  exact ⟨rfl, hk⟩
theorem o_geq {t u : TypeId} {k : IntKind} {x y : Int} (h1 : St.eval ⟨n, look l, h, b⟩ a = .int k x) (h2 : St.eval ⟨n, look l, h, b⟩ a2 = .int k y)  (hk : K (.bool (decide (y ≤ x))) h) : opC P T ⟨d, .binOp .geq t a a2 u, ty, pos, af, g⟩ ⟨n, look l, h, b⟩ K := by
  have hn : nilC .geq a2 = false := rfl
  show (if nilC .geq a2 = true then nilEqA T t (BinOp.geq == BinOp.neq) (St.eval ⟨n, look l, h, b⟩ a) (fun v => K v h) else binA T .geq t (St.eval ⟨n, look l, h, b⟩ a) (St.eval ⟨n, look l, h, b⟩ a2) (fun v => K v h))
  rw [hn, if_neg (by simp), h1, h2]
  exact ⟨rfl, hk⟩
theorem o_shl {t u : TypeId} {k2 : IntKind} {x y : Int} (h1 : St.eval ⟨n, look l, h, b⟩ a = .int .i64 x) (h2 : St.eval ⟨n, look l, h, b⟩ a2 = .int k2 y) (h0 : 0 ≤ y) (hi : inI (x * 2 ^ (min y.toNat 64))) (hk : K (.int .i64 (x * 2 ^ (min y.toNat 64))) h) : opC P T ⟨d, .binOp .shl t a a2 u, ty, pos, af, g⟩ ⟨n, look l, h, b⟩ K := by
  have hn : nilC .shl a2 = false := rfl
  show (if nilC .shl a2 = true then nilEqA T t (BinOp.shl == BinOp.neq) (St.eval ⟨n, look l, h, b⟩ a) (fun v => K v h) else binA T .shl t (St.eval ⟨n, look l, h, b⟩ a) (St.eval ⟨n, look l, h, b⟩ a2) (fun v => K v h))
  rw [hn, if_neg (by simp), h1, h2]
  exact ⟨h0, hi, hk⟩
theorem o_shr {t u : TypeId} {k : IntKind} {k2 : IntKind} {x y : Int} (h1 : St.eval ⟨n, look l, h, b⟩ a = .int k x) (h2 : St.eval ⟨n, look l, h, b⟩ a2 = .int k2 y) (h0 : 0 ≤ y) (hk : K (.int k (x.fdiv (2 ^ (min y.toNat k.bits)))) h) : opC P T ⟨d, .binOp .shr t a a2 u, ty, pos, af, g⟩ ⟨n, look l, h, b⟩ K := by
  have hn : nilC .shr a2 = false := rfl
  show (if nilC .shr a2 = true then nilEqA T t (BinOp.shr == BinOp.neq) (St.eval ⟨n, look l, h, b⟩ a) (fun v => K v h) else binA T .shr t (St.eval ⟨n, look l, h, b⟩ a) (St.eval ⟨n, look l, h, b⟩ a2) (fun v => K v h))
  rw [hn, if_neg (by simp), h1, h2]
  exact ⟨h0, hk⟩
theorem o_and {t u : TypeId} {k : IntKind} {x y : Int} (h1 : St.eval ⟨n, look l, h, b⟩ a = .int k x) (h2 : St.eval ⟨n, look l, h, b⟩ a2 = .int k y)  (hk : K (.int k (bitI .and k x y)) h) : opC P T ⟨d, .binOp .and t a a2 u, ty, pos, af, g⟩ ⟨n, look l, h, b⟩ K := by
  have hn : nilC .and a2 = false := rfl
  show (if nilC .and a2 = true then nilEqA T t (BinOp.and == BinOp.neq) (St.eval ⟨n, look l, h, b⟩ a) (fun v => K v h) else binA T .and t (St.eval ⟨n, look l, h, b⟩ a) (St.eval ⟨n, look l, h, b⟩ a2) (fun v => K v h))
  rw [hn, if_neg (by simp), h1, h2]
  exact ⟨rfl, hk⟩
theorem o_or {t u : TypeId} {k : IntKind} {x y : Int} (h1 : St.eval ⟨n, look l, h, b⟩ a = .int k x) (h2 : St.eval ⟨n, look l, h, b⟩ a2 = .int k y)  (hk : K (.int k (bitI .or k x y)) h) : opC P T ⟨d, .binOp .or t a a2 u, ty, pos, af, g⟩ ⟨n, look l, h, b⟩ K := by
  have hn : nilC .or a2 = false := rfl
  show (if nilC .or a2 = true then nilEqA T t (BinOp.or == BinOp.neq) (St.eval ⟨n, look l, h, b⟩ a) (fun v => K v h) else binA T .or t (St.eval ⟨n, look l, h, b⟩ a) (St.eval ⟨n, look l, h, b⟩ a2) (fun v => K v h))
  rw [hn, if_neg (by simp), h1, h2]
  exact ⟨rfl, hk⟩
theorem o_anN {t u : TypeId} {k : IntKind} {x y : Int} (h1 : St.eval ⟨n, look l, h, b⟩ a = .int k x) (h2 : St.eval ⟨n, look l, h, b⟩ a2 = .int k y)  (hk : K (.int k (bitI .andNot k x y)) h) : opC P T ⟨d, .binOp .andNot t a a2 u, ty, pos, af, g⟩ ⟨n, look l, h, b⟩ K := by
  have hn : nilC .andNot a2 = false := rfl
  show (if nilC .andNot a2 = true then nilEqA T t (BinOp.andNot == BinOp.neq) (St.eval ⟨n, look l, h, b⟩ a) (fun v => K v h) else binA T .andNot t (St.eval ⟨n, look l, h, b⟩ a) (St.eval ⟨n, look l, h, b⟩ a2) (fun v => K v h))
  rw [hn, if_neg (by simp), h1, h2]
  exact ⟨rfl, hk⟩
theorem o_eqI {t u : TypeId} {k : IntKind} {x y : Int} (hn : nilC .eql a2 = false) (h1 : St.eval ⟨n, look l, h, b⟩ a = .int k x) (h2 : St.eval ⟨n, look l, h, b⟩ a2 = .int k y) (hk : K (.bool (decide (x = y))) h) : opC P T ⟨d, .binOp .eql t a a2 u, ty, pos, af, g⟩ ⟨n, look l, h, b⟩ K := by
  show (if nilC .eql a2 = true then nilEqA T t (BinOp.eql == BinOp.neq) (St.eval ⟨n, look l, h, b⟩ a) (fun v => K v h) else binA T .eql t (St.eval ⟨n, look l, h, b⟩ a) (St.eval ⟨n, look l, h, b⟩ a2) (fun v => K v h))
  rw [hn, if_neg (by simp), h1, h2]
  refine ⟨rfl, ?_⟩
  have e : (x == y) = decide (x = y) := by by_cases h : x = y <;> simp [h]
  simpa [e] using hk
theorem o_neI {t u : TypeId} {k : IntKind} {x y : Int} (hn : nilC .neq a2 = false) (h1 : St.eval ⟨n, look l, h, b⟩ a = .int k x) (h2 : St.eval ⟨n, look l, h, b⟩ a2 = .int k y) (hk : K (.bool (decide (¬ x = y))) h) : opC P T ⟨d, .binOp .neq t a a2 u, ty, pos, af, g⟩ ⟨n, look l, h, b⟩ K := by
  show (if nilC .neq a2 = true then nilEqA T t (BinOp.neq == BinOp.neq) (St.eval ⟨n, look l, h, b⟩ a) (fun v => K v h) else binA T .neq t (St.eval ⟨n, look l, h, b⟩ a) (St.eval ⟨n, look l, h, b⟩ a2) (fun v => K v h))
  rw [hn, if_neg (by simp), h1, h2]
  refine ⟨rfl, ?_⟩
  have e : (x != y) = decide (¬ x = y) := by by_cases h : x = y <;> simp [h]
  simpa [e] using hk
theorem o_nilER {t u e : TypeId} {s by_ id m : Nat} {z : List AV} (ht : T t = some ⟨.sl e, s, by_, z⟩) (h1 : St.eval ⟨n, look l, h, b⟩ a = .ref true id m) (hk : K (.bool (decide (m = 0))) h) : opC P T ⟨d, .binOp .eql t a (.const (.slice none 0 0)) u, ty, pos, af, g⟩ ⟨n, look l, h, b⟩ K := by
  show nilEqA T t false (St.eval ⟨n, look l, h, b⟩ a) (fun v => K v h)
  rw [h1]
  refine ⟨⟨_, _, ht, rfl⟩, .inl rfl, ?_⟩
  by_cases h0 : m = 0 <;> simpa [h0] using hk
theorem o_nilEL {t u e : TypeId} {s by_ m : Nat} {z cs : List AV} {fl : Bool} (ht : T t = some ⟨.sl e, s, by_, z⟩) (h1 : St.eval ⟨n, look l, h, b⟩ a = .lst fl m cs) (hk : (0 < m → K (.bool false) h) ∧ (m = 0 → K (.bool true) h ∧ K (.bool false) h)) : opC P T ⟨d, .binOp .eql t a (.const (.slice none 0 0)) u, ty, pos, af, g⟩ ⟨n, look l, h, b⟩ K := by
  show nilEqA T t false (St.eval ⟨n, look l, h, b⟩ a) (fun v => K v h)
  rw [h1]
  exact ⟨⟨_, _, ht, rfl⟩, hk⟩
theorem o_not {t : TypeId} {p : Prop} [Decidable p] (h1 : St.eval ⟨n, look l, h, b⟩ a = .bool (decide p)) (hk : K (.bool (decide (¬ p))) h) : opC P T ⟨d, .unOp .not t a, ty, pos, af, g⟩ ⟨n, look l, h, b⟩ K := by
  show unA .not (St.eval ⟨n, look l, h, b⟩ a) (fun v => K v h)
  rw [h1]
  show K (.bool (!decide p)) h
  rw [← decide_not]
  exact hk
theorem o_notB {t : TypeId} {q : Bool} (h1 : St.eval ⟨n, look l, h, b⟩ a = .bool q) (hk : K (.bool (decide (¬ q = true))) h) : opC P T ⟨d, .unOp .not t a, ty, pos, af, g⟩ ⟨n, look l, h, b⟩ K := by
  show unA .not (St.eval ⟨n, look l, h, b⟩ a) (fun v => K v h)
  rw [h1]
  show K (.bool (!q)) h
  cases q <;> exact hk
theorem o_neg {t : TypeId} {x : Int} (h1 : St.eval ⟨n, look l, h, b⟩ a = .int .i64 x) (hi : inI (-x)) (hk : K (.int .i64 (-x)) h) : opC P T ⟨d, .unOp .neg t a, ty, pos, af, g⟩ ⟨n, look l, h, b⟩ K := by
  show unA .neg (St.eval ⟨n, look l, h, b⟩ a) (fun v => K v h)
  rw [h1]
  exact ⟨hi, hk⟩
theorem o_conv {t u : TypeId} {si : TI} {k k2 : IntKind} {s by_ : Nat} {z : List AV} {x y : Int} (ht : T t = some si) (hu : T u = some ⟨.int k2, s, by_, z⟩) (h1 : St.eval ⟨n, look l, h, b⟩ a = .int k x) (hy : k2.wrap x = y) (hk : K (.int k2 y) h) : opC P T ⟨d, .convert t u a, ty, pos, af, g⟩ ⟨n, look l, h, b⟩ K := by
  show convA T t u (St.eval ⟨n, look l, h, b⟩ a) (fun v => K v h)
  subst hy
  rw [h1]; simp only [convA, ht, hu]; exact hk
theorem o_nil {id off : Nat} (h1 : St.eval ⟨n, look l, h, b⟩ a = .ptr id off) (hk : K (.ptr id off) h) : opC P T ⟨d, .nilCheck a, ty, pos, af, g⟩ ⟨n, look l, h, b⟩ K := by
  show (match St.eval ⟨n, look l, h, b⟩ a with
    | .ptr id off => K (.ptr id off) h
    | .ipt fl cs => K (.ipt fl cs) h
    | .clo f a b => K (.clo f a b) h
    | _ => False)
  rw [h1]; exact hk
theorem o_nilP {fl : Bool} {cs : List AV} (h1 : St.eval ⟨n, look l, h, b⟩ a = .ipt fl cs) (hk : K (.ipt fl cs) h) : opC P T ⟨d, .nilCheck a, ty, pos, af, g⟩ ⟨n, look l, h, b⟩ K := by
  show (match St.eval ⟨n, look l, h, b⟩ a with
    | .ptr id off => K (.ptr id off) h
    | .ipt fl cs => K (.ipt fl cs) h
    | .clo f a b => K (.clo f a b) h
    | _ => False)
  rw [h1]; exact hk
theorem o_mf {f : FuncId} {p q : Array Operand} {ps qs : List AV} (hp : p.toList.map (St.eval ⟨n, look l, h, b⟩) = ps) (hq : q.toList.map (St.eval ⟨n, look l, h, b⟩) = qs) (hk : K (.clo f ps qs) h) : opC P T ⟨d, .makeFunc (.func f) p q, ty, pos, af, g⟩ ⟨n, look l, h, b⟩ K := by
  subst hp; subst hq
  exact hk
theorem o_ext {i : Nat} {cs : List AV} {v : AV} (h1 : St.eval ⟨n, look l, h, b⟩ a = .tup cs) (hv : cs[i]? = some v) (hk : K v h) : opC P T ⟨d, .extract a i, ty, pos, af, g⟩ ⟨n, look l, h, b⟩ K := by
  show (match St.eval ⟨n, look l, h, b⟩ a with
    | .tup cs => i < cs.length ∧ K (cs.getD i .any) h
    | _ => False)
  rw [h1]
  refine ⟨(List.getElem?_eq_some_iff.1 hv).1, ?_⟩
  rw [List.getD_eq_getElem?_getD, hv]; exact hk
theorem o_build {t : TypeId} {ps : Array (Nat × Operand)} {i : TI} {fs : List (Nat × TypeId)} {qs : List (Nat × AV)} {cs : List AV} (ht : T t = some i) (hk0 : i.k = .st fs) (hp : (ps.toList.map fun p => (p.1, St.eval ⟨n, look l, h, b⟩ p.2)) = qs) (hf : fillE (fieldPl T fs) i.zero qs = some cs) (hk : K (.agg cs) h) : opC P T ⟨d, .build t ps, ty, pos, af, g⟩ ⟨n, look l, h, b⟩ K := by
  show buildA T t (ps.toList.map fun p => (p.1, St.eval ⟨n, look l, h, b⟩ p.2)) (fun v => K v h)
  rw [hp]; simp only [buildA, ht, hk0]
  exact fillE_spec hf hk
theorem o_buildS {t e : TypeId} {m : Nat} {ps : Array (Nat × Operand)} {s by_ es eb q : Nat} {z ez : List AV} {ek : TK} {qs : List (Nat × AV)} {cs : List AV} (ht : T t = some ⟨.sl e, s, by_, z⟩) (he : T e = some ⟨ek, es, eb, ez⟩) (hb : (Nat.ble m 65536 && Nat.ble 1 es && Nat.ble es 256) = true) (hp : (ps.toList.map fun p => (p.1, St.eval ⟨n, look l, h, b⟩ p.2)) = qs) (hq : h.length = q) (hf : fillE (fun j => some (j * es, es)) (zerosA m es ez) qs = some cs) (hk : K (.ref false q m) (h ++ [.row e es cs])) : opC P T ⟨d, .buildSlice t m ps, ty, pos, af, g⟩ ⟨n, look l, h, b⟩ K := by
  show buildSliceA T h t m (ps.toList.map fun p => (p.1, St.eval ⟨n, look l, h, b⟩ p.2)) K
  subst hq
  rw [hp]; simp only [buildSliceA, ht, he]
  simp only [Bool.and_eq_true] at hb
  exact ⟨⟨Nat.le_of_ble_eq_true hb.1.1, Nat.le_of_ble_eq_true hb.1.2, Nat.le_of_ble_eq_true hb.2⟩, fillE_spec (K := fun cs => K (.ref false h.length m) (h ++ [.row e es cs])) hf hk⟩
theorem o_slL {t e : TypeId} {s by_ es eb : Nat} {z ez : List AV} {ek : TK} (ht : T t = some ⟨.sl e, s, by_, z⟩) (he : T e = some ⟨ek, es, eb, ez⟩) {lo hi : Option Operand} {x y : Int} {α : Type} {en : α → List AV} {xs ys : List α} {fl : Bool} {m : Nat} (h1 : St.eval ⟨n, look l, h, b⟩ a = .lst fl m (encL en xs)) (hw : Wd en es) (hm : m = xs.length) (hlo : boundA 0 (lo.map (St.eval ⟨n, look l, h, b⟩)) = some x) (hhi : boundA m (hi.map (St.eval ⟨n, look l, h, b⟩)) = some y) (hj : 0 ≤ x ∧ x ≤ y ∧ y ≤ (xs.length : Int)) (hy : (xs.drop x.toNat).take (y.toNat - x.toNat) = ys) (hk : K (.lst fl ys.length (encL en ys)) h) : opC P T ⟨d, .slice t a lo hi none, ty, pos, af, g⟩ ⟨n, look l, h, b⟩ K := by
  show sliceA T t (St.eval ⟨n, look l, h, b⟩ a) (lo.map (St.eval ⟨n, look l, h, b⟩)) (hi.map (St.eval ⟨n, look l, h, b⟩)) none (fun v => K v h)
  subst hm
  rw [h1]; simp only [sliceA, ht, he, hlo, hhi]
  refine ⟨hj, ?_⟩
  rw [encL_drop hw, encL_take hw, hy]
  have e : y.toNat - x.toNat = ys.length := by rw [← hy]; simp; omega
  rw [e]; exact hk
theorem o_slR {t e : TypeId} {s by_ es eb : Nat} {z ez : List AV} {ek : TK} (ht : T t = some ⟨.sl e, s, by_, z⟩) (he : T e = some ⟨ek, es, eb, ez⟩) {lo hi : Option Operand} {x y : Int} {nb : Bool} {id m off c : Nat} (h1 : St.eval ⟨n, look l, h, b⟩ a = .ref nb id m) (hlo : boundA 0 (lo.map (St.eval ⟨n, look l, h, b⟩)) = some x) (hhi : boundA m (hi.map (St.eval ⟨n, look l, h, b⟩)) = some y) (hj : 0 < m ∧ 0 ≤ x ∧ x ≤ y ∧ y ≤ (m : Int)) (hoff : x.toNat * es = off) (hc : y.toNat - x.toNat = c) (hk : K (.sub id off c) h) : opC P T ⟨d, .slice t a lo hi none, ty, pos, af, g⟩ ⟨n, look l, h, b⟩ K := by
  show sliceA T t (St.eval ⟨n, look l, h, b⟩ a) (lo.map (St.eval ⟨n, look l, h, b⟩)) (hi.map (St.eval ⟨n, look l, h, b⟩)) none (fun v => K v h)
  subst hoff; subst hc
  rw [h1]; simp only [sliceA, ht, he, hlo, hhi]
  exact ⟨hj, hk⟩
theorem o_slA {t e : TypeId} {m s by_ es eb : Nat} {z ez : List AV} {ek : TK} (ht : T t = some ⟨.ar m e, s, by_, z⟩) (he : T e = some ⟨ek, es, eb, ez⟩) {lo hi : Option Operand} {x y : Int} {id q off c : Nat} (h1 : St.eval ⟨n, look l, h, b⟩ a = .ptr id q) (hlo : boundA 0 (lo.map (St.eval ⟨n, look l, h, b⟩)) = some x) (hhi : boundA m (hi.map (St.eval ⟨n, look l, h, b⟩)) = some y) (hj : 0 ≤ x ∧ x ≤ y ∧ y ≤ (m : Int)) (hoff : q + x.toNat * es = off) (hc : y.toNat - x.toNat = c) (hk : K (.sub id off c) h) : opC P T ⟨d, .slice t a lo hi none, ty, pos, af, g⟩ ⟨n, look l, h, b⟩ K := by
  show sliceA T t (St.eval ⟨n, look l, h, b⟩ a) (lo.map (St.eval ⟨n, look l, h, b⟩)) (hi.map (St.eval ⟨n, look l, h, b⟩)) none (fun v => K v h)
  subst hoff; subst hc
  rw [h1]; simp only [sliceA, ht, he, hlo, hhi]
  exact ⟨hj, hk⟩
theorem o_apR {t e : TypeId} {s by_ es eb : Nat} {z ez ys : List AV} {ek : TK} {m p q : Nat} {cc : List AV} (ht : T t = some ⟨.sl e, s, by_, z⟩) (he : T e = some ⟨ek, es, eb, ez⟩) (hb : (Nat.ble 1 es && Nat.ble eb 131072) = true) {nb : Bool} {id k : Nat} {cs : List AV} (h1 : St.eval ⟨n, look l, h, b⟩ a = .ref nb id k) (hs : srcA h es (St.eval ⟨n, look l, h, b⟩ a2) = some (m, ys)) (hl : ys.length = m * es) (ho : h[id]? = some (.row e es cs)) (hcl : cs.length = k * es) (hm : k + m ≤ 1073741824) (hp : h.length = p) (hq : k + m = q) (hcc : cs ++ ys = cc) (hk : K (.ref nb p q) (h.set id .dead ++ [.row e es cc])) : opC P T ⟨d, .call ⟨.builtin .append, #[a, a2], #[t, t]⟩, ty, pos, af, g⟩ ⟨n, look l, h, b⟩ K := by
  show (t = t ∧ appendA T h t (St.eval ⟨n, look l, h, b⟩ a) (St.eval ⟨n, look l, h, b⟩ a2) K)
  subst hp; subst hq; subst hcc
  rw [h1]; simp only [appendA, ht, he, hs, ho]
  simp only [Bool.and_eq_true] at hb
  refine ⟨trivial, ⟨Nat.le_of_ble_eq_true hb.1, Nat.le_of_ble_eq_true hb.2⟩, hl, ⟨trivial, trivial, by omega, hm⟩, ?_⟩
  rw [← hcl, List.take_length]
  exact hk
theorem src_lst {α : Type} {en : α → List AV} {sz : Nat} (hw : Wd en sz) (xs : List α) (fl : Bool) {m : Nat} (hm : m = xs.length) : srcA h sz (.lst fl m (encL en xs)) = some (xs.length, encL en xs) := by
  subst hm
  simp only [srcA]
  rw [← encL_length hw xs, List.take_length]
theorem src_ref {sz t sz' id m : Nat} {nb : Bool} {cs : List AV} (ho : h[id]? = some (.row t sz' cs)) (hl : cs.length = m * sz) : srcA h sz (.ref nb id m) = some (m, cs) := by
  simp only [srcA, ho]
  rw [← hl, List.take_length]
theorem ca_vec {k t id off : Nat} {M : Vector Int k} (ho : h[id]? = some (.box t (encL eInt M.toList))) (hlt : off < k) : ∃ rest, cellsAt h (.ptr id off) = some (.int .i64 (vat M off) :: rest) := by
  obtain ⟨rest, hr⟩ := ints_at M off hlt
  exact ⟨rest, by simp only [cellsAt, ho, hr]⟩
theorem ca_all {t id : Nat} {cs : List AV} (ho : h[id]? = some (.box t cs)) : ∃ rest, cellsAt h (.ptr id 0) = some (cs ++ rest) := ⟨[], by simp [cellsAt, ho]⟩
theorem ca_row {α : Type} [Inhabited α] {en : α → List AV} {xs : List α} {t sz id : Nat} {i : Int} (ho : h[id]? = some (.row t sz (encL en xs))) (hw : Wd en sz) (hj : 0 ≤ i ∧ i < (xs.length : Int)) : ∃ rest, cellsAt h (.ptr id (i.toNat * sz)) = some (en (lat xs i) ++ rest) := by
  obtain ⟨rest, hr⟩ := encL_at hw xs i hj.1 hj.2
  exact ⟨rest, by simp only [cellsAt, ho, hr]⟩
theorem ca_rowF {α : Type} [Inhabited α] {en : α → List AV} {xs : List α} {t sz id k : Nat} {i : Int} (ho : h[id]? = some (.row t sz (encL en xs))) (hw : Wd en sz) (hj : 0 ≤ i ∧ i < (xs.length : Int)) (hk : Nat.ble k sz = true) : ∃ rest, cellsAt h (.ptr id (i.toNat * sz + k)) = some ((en (lat xs i)).drop k ++ rest) := by
  obtain ⟨rest, hr⟩ := encL_at' hw xs i k (Nat.le_of_ble_eq_true hk) hj.1 hj.2
  exact ⟨rest, by simp only [cellsAt, ho, hr]⟩

theorem FnP.wk {k : FuncId} {xs ys : List AV} {Post : AV → Prop} (hw : Wks xs ys) (hf : FnP P k ys Post) : FnP P k xs Post := ⟨hf.1, fun m w vs hm hv => hf.2 m w vs hm (hw _ _ _ (Low.nest m) hv)⟩
theorem FnS.wk {k : FuncId} {xs ys : List AV} {Post : AV → Prop} (hw : Wks xs ys) (hf : FnS P k ys Post) : FnS P k xs Post := ⟨hf.1, fun m w vs hm hv => hf.2 m w vs hm (hw _ _ _ (Low.nest m) hv)⟩
theorem o_callP {f : Operand} {args : Array Operand} {tys : Array TypeId} {k : FuncId} {fst caps ys xs : List AV} {Post : AV → Prop} (hf : St.eval ⟨n, look l, h, b⟩ f = .clo k fst caps) (ha : args.toList.map (St.eval ⟨n, look l, h, b⟩) = ys)
    (spec : FnP P k xs Post) (hw : Wks ((fst ++ ys ++ caps).map (conv 6 h)) xs) (hk : ∀ x, Post x → K x h) : opC P T ⟨d, .call ⟨.value f, args, tys⟩, ty, pos, af, g⟩ ⟨n, look l, h, b⟩ K := by
  show callR P ⟨.value f, args, tys⟩ ⟨n, look l, h, b⟩ K
  unfold callR
  simp only [hf]
  subst ha
  exact .inl ⟨Post, spec.wk hw, hk⟩
theorem o_callS {f : Operand} {args : Array Operand} {tys : Array TypeId} {k : FuncId} {fst caps ys xs : List AV} {Post : AV → Prop} (hf : St.eval ⟨n, look l, h, b⟩ f = .clo k fst caps) (ha : args.toList.map (St.eval ⟨n, look l, h, b⟩) = ys)
    (spec : FnS P k xs Post) (hw : Wks ((fst ++ ys ++ caps).map (conv 6 [])) xs) (hk : ∀ x, Post x → K x h) : opC P T ⟨d, .call ⟨.value f, args, tys⟩, ty, pos, af, g⟩ ⟨n, look l, h, b⟩ K := by
  show callR P ⟨.value f, args, tys⟩ ⟨n, look l, h, b⟩ K
  unfold callR
  simp only [hf]
  subst ha
  exact .inr ⟨Post, spec.wk hw, hk⟩
theorem o_callP1 {f : Operand} {args : Array Operand} {tys : Array TypeId} {k : FuncId} {fst caps ys xs : List AV} {v : AV} (hf : St.eval ⟨n, look l, h, b⟩ f = .clo k fst caps) (ha : args.toList.map (St.eval ⟨n, look l, h, b⟩) = ys)
    (spec : FnP P k xs (fun x => x = v)) (hw : Wks ((fst ++ ys ++ caps).map (conv 6 h)) xs) (hk : K v h) : opC P T ⟨d, .call ⟨.value f, args, tys⟩, ty, pos, af, g⟩ ⟨n, look l, h, b⟩ K := o_callP hf ha spec hw (by rintro _ rfl; exact hk)
theorem o_callS1 {f : Operand} {args : Array Operand} {tys : Array TypeId} {k : FuncId} {fst caps ys xs : List AV} {v : AV} (hf : St.eval ⟨n, look l, h, b⟩ f = .clo k fst caps) (ha : args.toList.map (St.eval ⟨n, look l, h, b⟩) = ys)
    (spec : FnS P k xs (fun x => x = v)) (hw : Wks ((fst ++ ys ++ caps).map (conv 6 [])) xs) (hk : K v h) : opC P T ⟨d, .call ⟨.value f, args, tys⟩, ty, pos, af, g⟩ ⟨n, look l, h, b⟩ K := o_callS hf ha spec hw (by rintro _ rfl; exact hk)

structure Enc {α : Type} (ef : Bool → α → List AV) (sz : Nat) : Prop where
  wd : ∀ fl, Wd (ef fl) sz
  cv : ∀ k h fl a, Wks ((ef fl a).map (conv (k + 1) h)) (ef true a)
  ci : ∀ k h a, Wks ((ef false a).map (cvI (k + 1) h)) (ef true a)
  co : ∀ k h a, Wks ((ef false a).map (cvO (k + 1) h)) (ef false a)
  sl : ∀ fl a, SealVs fl (ef fl a) (ef true a)
  cl : ∀ fl a, ∀ x ∈ ef fl a, clV x = true
theorem encL_cv {α : Type} {ef : Bool → α → List AV} {sz : Nat} (he : Enc ef sz) (k : Nat) (h : List AObj) (fl : Bool) : ∀ xs, Wks ((encL (ef fl) xs).map (conv (k + 1) h)) (encL (ef true) xs)
  | [] => Wks.refl _
  | x :: xs => by
    rw [encL_cons, encL_cons, List.map_append]
    exact Wks.app (he.cv k h fl x) (encL_cv he k h fl xs) (by rw [List.length_map, he.wd, he.wd])
theorem encL_ci {α : Type} {ef : Bool → α → List AV} {sz : Nat} (he : Enc ef sz) (k : Nat) (h : List AObj) : ∀ xs, Wks ((encL (ef false) xs).map (cvI (k + 1) h)) (encL (ef true) xs)
  | [] => Wks.refl _
  | x :: xs => by
    rw [encL_cons, encL_cons, List.map_append]
    exact Wks.app (he.ci k h x) (encL_ci he k h xs) (by rw [List.length_map, he.wd, he.wd])
theorem encL_sl {α : Type} {ef : Bool → α → List AV} {sz : Nat} (he : Enc ef sz) (fl : Bool) : ∀ xs, SealVs fl (encL (ef fl) xs) (encL (ef true) xs)
  | [] => SealVs.nil fl
  | x :: xs => by
    rw [encL_cons, encL_cons]
    exact SealVs.app (he.sl fl x) (encL_sl he fl xs)
theorem encL_cl {α : Type} {ef : Bool → α → List AV} {sz : Nat} (he : Enc ef sz) (fl : Bool) (xs : List α) : ∀ x ∈ encL (ef fl) xs, clV x = true := by
  intro x hx
  simp only [encL, List.mem_flatMap] at hx
  obtain ⟨a, _, ha⟩ := hx
  exact he.cl fl a x ha
theorem Rens.enc {φ : List (Option Nat)} {α : Type} {ef : Bool → α → List AV} {sz : Nat} (he : Enc ef sz) (fl : Bool) (xs : List α) : Rens φ (encL (ef fl) xs) (encL (ef fl) xs) := Rens.cl (encL_cl he fl xs)
theorem conv_int (k : Nat) (h : List AObj) (q : IntKind) (x : Int) : conv k h (.int q x) = .int q x := by cases k <;> rfl
theorem conv_lst (k : Nat) (h : List AObj) (fl : Bool) (m : Nat) (cs : List AV) : conv k h (.lst fl m cs) = .lst true m cs := by cases k <;> rfl
theorem cvI_int (k : Nat) (h : List AObj) (q : IntKind) (x : Int) : cvI k h (.int q x) = .int q x := by cases k <;> rfl
theorem cvI_lst (k : Nat) (h : List AObj) (m : Nat) (cs : List AV) : cvI k h (.lst false m cs) = .lst true m cs := by cases k <;> rfl
theorem cvO_int (k : Nat) (h : List AObj) (q : IntKind) (x : Int) : cvO k h (.int q x) = .int q x := by cases k <;> rfl
theorem cvO_bool (k : Nat) (h : List AObj) (x : Bool) : cvO k h (.bool x) = .bool x := by cases k <;> rfl
theorem cvO_lst (k : Nat) (h : List AObj) (m : Nat) (cs : List AV) : cvO k h (.lst false m cs) = .lst false m cs := by cases k <;> rfl
theorem encInt : Enc (fun _ => eInt) 1 where
  wd _ _ := rfl
  cv k h _ a := by rw [eInt, List.map_cons, conv_int]; exact Wks.refl _
  ci k h a := by rw [eInt, List.map_cons, cvI_int]; exact Wks.refl _
  co k h a := by rw [eInt, List.map_cons, cvO_int]; exact Wks.refl _
  sl fl a := SealVs.cons (SealV.int fl _ _) (SealVs.nil fl)
  cl _ a x hx := by simp only [eInt, List.mem_singleton] at hx; subst hx; rfl
def eSl {α : Type} (e : α → List AV) (fl : Bool) (r : List α) : List AV := [.lst fl r.length (encL e r)]
theorem encSl {α : Type} (e : α → List AV) : Enc (eSl e) 1 where
  wd _ _ := rfl
  cv k h fl a := by rw [eSl, List.map_cons, conv_lst]; exact Wks.refl _
  ci k h a := by rw [eSl, List.map_cons, cvI_lst]; exact Wks.refl _
  co k h a := by rw [eSl, List.map_cons, cvO_lst]; exact Wks.refl _
  sl fl a := SealVs.cons (SealV.lst fl _ _) (SealVs.nil fl)
  cl _ a x hx := by simp only [eSl, List.mem_singleton] at hx; subst hx; rfl

section
variable {α : Type} {ef : Bool → α → List AV} {sz : Nat}
theorem ag_int (k : Nat) (h : List AObj) (q : IntKind) (x : Int) : Wk (conv k h (.int q x)) (.int q x) := by rw [conv_int]; exact Wk.refl _
theorem ag_lst (k : Nat) (h : List AObj) (fl : Bool) (m : Nat) (cs : List AV) : Wk (conv k h (.lst fl m cs)) (.lst true m cs) := by rw [conv_lst]; exact Wk.refl _
theorem ag_nil (k : Nat) (h : List AObj) (m : Nat) (cs : List AV) (hm : m = 0) : Wk (conv k h .nilS) (.lst true m cs) := by
  have : conv k h .nilS = .nilS := by cases k <;> rfl
  rw [this]; exact Wk.nil' _ _ _ hm
theorem ag_ref (he : Enc ef sz) (k : Nat) {h : List AObj} {id t : Nat} {fl : Bool} {xs : List α} (nb : Bool) {m : Nat} (ho : h[id]? = some (.row t sz (encL (ef fl) xs))) (hm : m = xs.length) : Wk (conv (k + 2) h (.ref nb id m)) (.lst true xs.length (encL (ef true) xs)) := by
  subst hm
  simp only [conv, ho]
  rw [← encL_length (he.wd fl) xs, List.take_length]
  exact Wk.lsts _ _ (encL_cv he k h fl xs)
theorem ag_subv (k : Nat) {h : List AObj} {id t off m q : Nat} {M : Vector Int q} {ys : List Int} (ho : h[id]? = some (.box t (encL eInt M.toList))) (hy : (M.toList.drop off).take m = ys) (hm : m = ys.length) : Wk (conv (k + 2) h (.sub id off m)) (.lst true ys.length (encL eInt ys)) := by
  subst hm
  simp only [conv, ho]
  split
  · rename_i h0
    have : ys = [] := List.eq_nil_of_length_eq_zero h0
    subst this
    exact Wk.refl _
  · have e1 := encL_drop wdInt M.toList off
    rw [Nat.mul_one] at e1
    rw [e1]
    refine (Wk.lsts _ _ (encL_cv encInt k h true (M.toList.drop off))).trans ?_
    have e2 := encL_take wdInt (M.toList.drop off) ys.length
    rw [hy] at e2
    rw [← e2]
    exact Wk.take _ _ _ _
theorem ag_agg (k : Nat) (h : List AObj) {cs ds : List AV} (hc : Wks (cs.map (conv k h)) ds) : Wk (conv (k + 1) h (.agg cs)) (.agg ds) := Wk.agg hc
theorem ag_vec (k : Nat) (h : List AObj) {q : Nat} (M : Vector Int q) : Wks ((encL eInt M.toList).map (conv (k + 1) h)) (encL eInt M.toList) := encL_cv encInt k h true M.toList
theorem ag_clo (k : Nat) (h : List AObj) (f : FuncId) {a b c d : List AV} (h1 : Wks (a.map (conv k h)) c) (h2 : Wks (b.map (conv k h)) d) : Wk (conv (k + 1) h (.clo f a b)) (.clo f c d) := Wk.clo f h1 h2
theorem ag_box (k : Nat) {h : List AObj} {id t : Nat} {cs ds : List AV} (ho : h[id]? = some (.box t cs)) (hc : Wks (cs.map (conv k h)) ds) : Wk (conv (k + 1) h (.ptr id 0)) (.ipt true ds) := by
  simp only [conv, ho, List.drop_zero]
  intro r m v hm hv
  simp only [VR] at hv ⊢
  obtain ⟨a, vs, h2, h3, h4⟩ := hv
  exact ⟨a, vs, h2, h3, hc _ _ _ (Low.nest _) h4⟩
theorem ag_ipt (k : Nat) (h : List AObj) (fl : Bool) (cs : List AV) : Wk (conv k h (.ipt fl cs)) (.ipt true cs) := by
  have : conv k h (.ipt fl cs) = .ipt true cs := by cases k <;> rfl
  rw [this]; exact Wk.refl _
theorem rs_int (k : Nat) (h : List AObj) (q : IntKind) (x : Int) : Wk (cvO k h (.int q x)) (.int q x) := by rw [cvO_int]; exact Wk.refl _
theorem rs_bool (k : Nat) (h : List AObj) (x : Bool) : Wk (cvO k h (.bool x)) (.bool x) := by rw [cvO_bool]; exact Wk.refl _
theorem rs_lst (k : Nat) (h : List AObj) (m : Nat) (cs : List AV) : Wk (cvO k h (.lst false m cs)) (.lst false m cs) := by rw [cvO_lst]; exact Wk.refl _
theorem rs_nil (k : Nat) (h : List AObj) (m : Nat) (cs : List AV) (hm : m = 0) : Wk (cvO k h .nilS) (.lst false m cs) := by
  have : cvO k h .nilS = .nilS := by cases k <;> rfl
  rw [this]; exact Wk.nil' _ _ _ hm
theorem rs_ref (he : Enc ef sz) (k : Nat) {h : List AObj} {id t : Nat} {xs : List α} (nb : Bool) {m : Nat} (ho : h[id]? = some (.row t sz (encL (ef false) xs))) (hm : m = xs.length) : Wk (cvO (k + 2) h (.ref nb id m)) (.lst false xs.length (encL (ef true) xs)) := by
  subst hm
  simp only [cvO, ho]
  rw [← encL_length (he.wd false) xs, List.take_length]
  exact Wk.lsts _ _ (encL_ci he k h xs)
theorem rs_agg (k : Nat) (h : List AObj) {cs ds : List AV} (hc : Wks (cs.map (cvO k h)) ds) : Wk (cvO (k + 1) h (.agg cs)) (.agg ds) := Wk.agg hc
theorem rs_vec (k : Nat) (h : List AObj) {q : Nat} (M : Vector Int q) : Wks ((encL eInt M.toList).map (cvO (k + 1) h)) (encL eInt M.toList) := by
  have : ∀ (xs : List Int), (encL eInt xs).map (cvO (k + 1) h) = encL eInt xs := by
    intro xs
    induction xs with
    | nil => rfl
    | cons x xs ih => rw [encL_cons, List.map_append, ih]; rfl
  rw [this]; exact Wks.refl _
theorem rs_tup (k : Nat) (h : List AObj) {cs ds : List AV} (hc : Wks (cs.map (cvO k h)) ds) : Wk (cvO (k + 1) h (.tup cs)) (.tup ds) := Wk.tup hc
end

theorem rt {rs : List ResultVar} {KK : St → AV → Prop} {s : St} (h1 : resL T s rs fun vs => match vs with | [v] => KK s v | vs => KK s (.tup vs)) : retA T rs KK .ret s := h1
theorem rt_t {t : Tmp} {rs : List ResultVar} {KV : List AV → Prop} {s : St} {v : AV} (hv : s.tm t = v) (h1 : resL T s rs fun vs => KV (v :: vs)) : resL T s (.tmp t :: rs) KV := by subst hv; exact h1
theorem rt_c {p : Tmp} {t : TypeId} {rs : List ResultVar} {KV : List AV → Prop} {s : St} {x : AV} (hx : s.tm p = x) (h1 : loadA T s.heap t x fun v _ => resL T s rs fun vs => KV (v :: vs)) : resL T s (.cell p t :: rs) KV := by subst hx; exact h1
theorem rt_n {KV : List AV → Prop} {s : St} (h1 : KV []) : resL T s [] KV := h1
theorem dAndT {p q : Prop} [Decidable p] [Decidable q] (hp : p) {x : Bool} (hq : decide q = x) : decide (p ∧ q) = x := by rw [← hq]; simp [hp]
theorem dAndF {p q : Prop} [Decidable p] [Decidable q] (hp : ¬ p) : decide (p ∧ q) = false := by simp [hp]
theorem dOrT {p q : Prop} [Decidable p] [Decidable q] (hp : p) : decide (p ∨ q) = true := by simp [hp]
theorem dOrF {p q : Prop} [Decidable p] [Decidable q] (hp : ¬ p) {x : Bool} (hq : decide q = x) : decide (p ∨ q) = x := by rw [← hq]; simp [hp]
end
end Go.Lat
namespace Go.Lat
open Go.RowKit
section
variable {P : Program} {T : TT} {st st' : St} {Q : Ex → St → Prop} {c c' : Code} {n : Nat} {l l' : List (Nat × AV)} {h h' : List AObj} {b : Nat}
theorem W.rLm {id : Nat} {ol : List Oper} (st' : St) (h1 : seqL P T ol [] 0 ol st fun s => s.le st') (h2 : W P T c st' Q) : W P T (.seq (.region id ol.toArray false) c) st Q := W.seq _ (W.region [] h1) fun _ h => W.le h h2
theorem W.rDm {id : Nat} {ol : List Oper} (st' : St) (ord : List Nat) (hc : chk ol.toArray ord = true) (hl : (ord.map fun i => ol[i]?) = ol.map some) (h1 : seqL P T ol [] 0 ol st fun s => s.le st') (h2 : W P T c st' Q) : W P T (.seq (.region id ol.toArray true) c) st Q :=
  W.seq (fun s => s.le st') (W.rD1 ord hc hl h1) fun _ h => W.le h h2
theorem le_mk (h1 : regsL (look l) l') (h2 : h = h') : St.le ⟨n, look l, h, b⟩ ⟨n, look l', h', b⟩ := by subst h2; exact ⟨rfl, rfl, rfl, regsL_look h1⟩
theorem dVar (b : Bool) : decide (b = true) = b := by cases b <;> rfl
theorem W.mid0 (S : St) (p : Prop) (h' : p → W P T c' (S) Q) (h : W P T c st (thenA (fun s => ∃ (_ : Unit), p ∧ s.to (S)) Q)) : W P T (.seq c c') st Q :=
  W.seq _ h fun _ ⟨_, hx, hs⟩ => W.to hs (h' hx)
theorem W.mid1 {α0 : Type} (S : α0 → St) (p : α0 → Prop) (h' : ∀ x0, p x0 → W P T c' (S x0) Q) (h : W P T c st (thenA (fun s => ∃ (_ : Unit) (x0 : α0), p x0 ∧ s.to (S x0)) Q)) : W P T (.seq c c') st Q :=
  W.seq _ h fun _ ⟨_, x0, hx, hs⟩ => W.to hs (h' x0 hx)
theorem W.loop1 {α0 : Type} (S : α0 → St) (p : α0 → Prop) (μ : α0 → Nat) (z0 : α0) (hs : st.to (S z0)) (hp : p z0)
    (h : ∀ x0, p x0 → W P T c (S x0) (thenA (fun s => ∃ (_ : Unit) (y0 : α0), (p y0 ∧ μ y0 < μ x0) ∧ s.to (S y0)) Q)) : W P T (.loop c) st Q :=
  W.loopT (α := α0) (fun x => S x) (fun x => p x) (fun x => μ x) (z0) hs hp fun x hx => (h x hx).mono fun e s hs' => by
    cases e <;> simp only [thenA] at hs' ⊢ <;> try exact hs'
    obtain ⟨_, y0, h1, h2⟩ := hs'
    exact ⟨(y0), h1, h2⟩
theorem W.mid2 {α0 α1 : Type} (S : α0 → α1 → St) (p : α0 → α1 → Prop) (h' : ∀ x0 x1, p x0 x1 → W P T c' (S x0 x1) Q) (h : W P T c st (thenA (fun s => ∃ (_ : Unit) (x0 : α0) (x1 : α1), p x0 x1 ∧ s.to (S x0 x1)) Q)) : W P T (.seq c c') st Q :=
  W.seq _ h fun _ ⟨_, x0, x1, hx, hs⟩ => W.to hs (h' x0 x1 hx)
theorem W.loop2 {α0 α1 : Type} (S : α0 → α1 → St) (p : α0 → α1 → Prop) (μ : α0 → α1 → Nat) (z0 : α0) (z1 : α1) (hs : st.to (S z0 z1)) (hp : p z0 z1)
    (h : ∀ x0 x1, p x0 x1 → W P T c (S x0 x1) (thenA (fun s => ∃ (_ : Unit) (y0 : α0) (y1 : α1), (p y0 y1 ∧ μ y0 y1 < μ x0 x1) ∧ s.to (S y0 y1)) Q)) : W P T (.loop c) st Q :=
  W.loopT (α := α0 × α1) (fun x => S x.1 x.2) (fun x => p x.1 x.2) (fun x => μ x.1 x.2) (z0, z1) hs hp fun x hx => (h x.1 x.2 hx).mono fun e s hs' => by
    cases e <;> simp only [thenA] at hs' ⊢ <;> try exact hs'
    obtain ⟨_, y0, y1, h1, h2⟩ := hs'
    exact ⟨(y0, y1), h1, h2⟩
theorem W.mid3 {α0 α1 α2 : Type} (S : α0 → α1 → α2 → St) (p : α0 → α1 → α2 → Prop) (h' : ∀ x0 x1 x2, p x0 x1 x2 → W P T c' (S x0 x1 x2) Q) (h : W P T c st (thenA (fun s => ∃ (_ : Unit) (x0 : α0) (x1 : α1) (x2 : α2), p x0 x1 x2 ∧ s.to (S x0 x1 x2)) Q)) : W P T (.seq c c') st Q :=
  W.seq _ h fun _ ⟨_, x0, x1, x2, hx, hs⟩ => W.to hs (h' x0 x1 x2 hx)
theorem W.loop3 {α0 α1 α2 : Type} (S : α0 → α1 → α2 → St) (p : α0 → α1 → α2 → Prop) (μ : α0 → α1 → α2 → Nat) (z0 : α0) (z1 : α1) (z2 : α2) (hs : st.to (S z0 z1 z2)) (hp : p z0 z1 z2)
    (h : ∀ x0 x1 x2, p x0 x1 x2 → W P T c (S x0 x1 x2) (thenA (fun s => ∃ (_ : Unit) (y0 : α0) (y1 : α1) (y2 : α2), (p y0 y1 y2 ∧ μ y0 y1 y2 < μ x0 x1 x2) ∧ s.to (S y0 y1 y2)) Q)) : W P T (.loop c) st Q :=
  W.loopT (α := α0 × α1 × α2) (fun x => S x.1 x.2.1 x.2.2) (fun x => p x.1 x.2.1 x.2.2) (fun x => μ x.1 x.2.1 x.2.2) (z0, z1, z2) hs hp fun x hx => (h x.1 x.2.1 x.2.2 hx).mono fun e s hs' => by
    cases e <;> simp only [thenA] at hs' ⊢ <;> try exact hs'
    obtain ⟨_, y0, y1, y2, h1, h2⟩ := hs'
    exact ⟨(y0, y1, y2), h1, h2⟩
theorem W.mid4 {α0 α1 α2 α3 : Type} (S : α0 → α1 → α2 → α3 → St) (p : α0 → α1 → α2 → α3 → Prop) (h' : ∀ x0 x1 x2 x3, p x0 x1 x2 x3 → W P T c' (S x0 x1 x2 x3) Q) (h : W P T c st (thenA (fun s => ∃ (_ : Unit) (x0 : α0) (x1 : α1) (x2 : α2) (x3 : α3), p x0 x1 x2 x3 ∧ s.to (S x0 x1 x2 x3)) Q)) : W P T (.seq c c') st Q :=
  W.seq _ h fun _ ⟨_, x0, x1, x2, x3, hx, hs⟩ => W.to hs (h' x0 x1 x2 x3 hx)
theorem W.loop4 {α0 α1 α2 α3 : Type} (S : α0 → α1 → α2 → α3 → St) (p : α0 → α1 → α2 → α3 → Prop) (μ : α0 → α1 → α2 → α3 → Nat) (z0 : α0) (z1 : α1) (z2 : α2) (z3 : α3) (hs : st.to (S z0 z1 z2 z3)) (hp : p z0 z1 z2 z3)
    (h : ∀ x0 x1 x2 x3, p x0 x1 x2 x3 → W P T c (S x0 x1 x2 x3) (thenA (fun s => ∃ (_ : Unit) (y0 : α0) (y1 : α1) (y2 : α2) (y3 : α3), (p y0 y1 y2 y3 ∧ μ y0 y1 y2 y3 < μ x0 x1 x2 x3) ∧ s.to (S y0 y1 y2 y3)) Q)) : W P T (.loop c) st Q :=
  W.loopT (α := α0 × α1 × α2 × α3) (fun x => S x.1 x.2.1 x.2.2.1 x.2.2.2) (fun x => p x.1 x.2.1 x.2.2.1 x.2.2.2) (fun x => μ x.1 x.2.1 x.2.2.1 x.2.2.2) (z0, z1, z2, z3) hs hp fun x hx => (h x.1 x.2.1 x.2.2.1 x.2.2.2 hx).mono fun e s hs' => by
    cases e <;> simp only [thenA] at hs' ⊢ <;> try exact hs'
    obtain ⟨_, y0, y1, y2, y3, h1, h2⟩ := hs'
    exact ⟨(y0, y1, y2, y3), h1, h2⟩
end
end Go.Lat
namespace Go.Lat
open Go.RowKit
theorem stepR_scope' {P : Program} {b : Frame} {a : Act} {k : List Item} {cs : List Frame} {w : World} {c : Code} : step P (lone (b.atR a (.code (.scope c) :: k)) cs w) = .next (lone (b.atR a (.code c :: .inScope c :: k)) cs w) :=
  step_lone_go (by simp [Go.stepG, Go.stepG.exec, Frame.atR])
theorem stepR_inScope' {P : Program} {b : Frame} {a : Act} {k : List Item} {cs : List Frame} {w : World} {c : Code} : step P (lone (b.atR a (.inScope c :: k)) cs w) = .next (lone (b.atR a k) cs w) :=
  step_lone_go (by simp [Go.stepG, Go.stepG.exec, Frame.atR])
theorem W.scope {P : Program} {T : TT} {st : St} {Q : Ex → St → Prop} {c : Code} (h : W P T c st Q) : W P T (.scope c) st Q := fun hT hf ro hng n X D w0 mA r m a w hR => by
  intro b k cs hro hb hr
  have h0 : (lone (b.atR a (.code (.scope c) :: k)) cs w).fenced P (FW ro) := fenced_calm hb hr rfl
  obtain ⟨e, a1, w1, hq, harr⟩ := h hT hf ro hng n X D w0 mA r m a w hR b (.inScope c :: k) cs hro hb hr
  cases e with
  | normal => exact ⟨.normal, a1, w1, hq, .head h0 stepR_scope' (StepsIn.trans harr (.one (fenced_calm hb hr rfl) stepR_inScope'))⟩
  | exit id =>
    have hx : exitTo id (.inScope c :: k) = exitTo id k := by simp [exitTo]
    exact ⟨.exit id, a1, w1, hq, fun k' hk => .head h0 stepR_scope' (harr.1 k' (by rw [hx]; exact hk)), fun hr' hk => let ⟨k1, h1, h2⟩ := harr.2 hr' (by rw [hx]; exact hk); ⟨k1, h1, .head h0 stepR_scope' h2⟩⟩
  | goto l => exact hq.elim
  | ret => exact ⟨_, a1, w1, hq, .of_steps (.one h0 stepR_scope') harr⟩
  | panic ch => exact ⟨_, a1, w1, hq, .of_steps (.one h0 stepR_scope') harr⟩
  | outgrown => exact ⟨_, a1, w1, hq, .of_steps (.one h0 stepR_scope') harr⟩
section
variable {P : Program} {T : TT} {d : Option Tmp} {ty : TypeId} {pos : String} {af : Array Edge} {g : Option (Nat × Bool)} {n : Nat} {l : List (Nat × AV)} {h : List AObj} {b : Nat} {K : AV → List AObj → Prop} {a a2 a3 : Operand}
theorem cell_of {X : Option (List AV)} {cs ds : List AV} {v : AV} (hc : ∃ rest, X = some (cs ++ rest)) (h1 : cs = v :: ds) : ∃ rest, X = some (v :: rest) := by
  obtain ⟨rest, hc⟩ := hc
  subst h1
  exact ⟨ds ++ rest, hc⟩
theorem row_in {α : Type} {e : α → List AV} {sz : Nat} (hw : Wd e sz) {xs : List α} {i : Int} (hj : 0 ≤ i ∧ i < (xs.length : Int)) {vs : List AV} (hv : vs.length = sz) : i.toNat * sz + vs.length ≤ (encL e xs).length := by
  rw [encL_length hw, hv]
  have hj' : i.toNat < xs.length := by omega
  have := Nat.mul_le_mul_right sz hj'
  rw [Nat.succ_mul] at this
  exact this
theorem vec_in {cs vs : List AV} {k : Nat} (h1 : vs.length = k) (h2 : cs.length = k) : 0 + vs.length ≤ cs.length := by omega
theorem encL_one {α : Type} (e : α → List AV) (x : α) : e x = encL e [x] := by simp [encL]
theorem spl_all (cs vs : List AV) (h1 : vs.length = cs.length) : Lat.spl cs 0 vs = vs := by
  rw [Lat.spl_eq _ _ _ (by omega)]
  simp [h1]
theorem sl_end {α : Type} (xs : List α) (k : Nat) : (xs.drop k).take ((xs.length : Int).toNat - k) = xs.drop k := by
  rw [Int.toNat_natCast, List.take_of_length_le (by simp)]
def vput {n : Nat} (M : Vector Int n) (off : Nat) (xs : List Int) : Vector Int n :=
  if h : off + xs.length ≤ n then ⟨(M.toList.take off ++ xs ++ M.toList.drop (off + xs.length)).toArray, by simp; omega⟩ else M
theorem vput_toList {m : Nat} (M : Vector Int m) (off : Nat) (xs : List Int) (h1 : off + xs.length ≤ m) : (vput M off xs).toList = M.toList.take off ++ xs ++ M.toList.drop (off + xs.length) := by
  unfold vput
  rw [dif_pos h1]
  rfl
theorem ints_put {m : Nat} (M : Vector Int m) (off : Nat) (xs : List Int) (h1 : off + xs.length ≤ m) : Lat.spl (encL eInt M.toList) off (encL eInt xs) = encL eInt (vput M off xs).toList := by
  rw [vput_toList M off xs h1, Lat.spl_eq _ _ _ (by rw [ints_len, encL_length wdInt]; omega), ← encL_app, ← encL_app]
  have e1 := encL_take wdInt M.toList off
  have e2 := encL_drop wdInt M.toList (off + xs.length)
  rw [Nat.mul_one] at e1 e2
  rw [e1, encL_length wdInt, Nat.mul_one, e2]
theorem vput_nil {m : Nat} (M : Vector Int m) (off : Nat) : vput M off [] = M := by
  unfold vput
  split
  · apply Vector.toList_inj.1
    show M.toList.take off ++ [] ++ M.toList.drop (off + 0) = M.toList
    simp
  · rfl
theorem o_cpV {t t2 e : TypeId} {s by_ eb : Nat} {z ez : List AV} {ek : TK} {k q id off dn : Nat} {M : Vector Int k} {xs : List Int} (ht : T t = some ⟨.sl e, s, by_, z⟩) (he : T e = some ⟨ek, 1, eb, ez⟩)
    (h1 : St.eval ⟨n, look l, h, b⟩ a = .sub id off dn) (h2 : srcA h 1 (St.eval ⟨n, look l, h, b⟩ a2) = some (xs.length, encL eInt xs)) (ho : h[id]? = some (.box q (encL eInt M.toList))) (hj : off + dn ≤ k)
    (hk : K (.int .i64 ((min xs.length dn : Nat) : Int)) (h.set id (.box q (encL eInt (vput M off (xs.take dn)).toList)))) : opC P T ⟨d, .call ⟨.builtin .copy, #[a, a2], #[t, t2]⟩, ty, pos, af, g⟩ ⟨n, look l, h, b⟩ K := by
  show copyA T h t (St.eval ⟨n, look l, h, b⟩ a) (St.eval ⟨n, look l, h, b⟩ a2) K
  rw [h1]
  simp only [copyA, ht, he, h2]
  have ht1 := encL_take wdInt xs (min xs.length dn)
  rw [Nat.mul_one] at ht1
  refine ⟨by rw [encL_length wdInt], fun h0 => ?_, fun h0 => ?_⟩
  · have hx : xs.take dn = [] := by
      rcases Nat.eq_zero_or_pos xs.length with hx | hx
      · rw [List.eq_nil_of_length_eq_zero hx]; simp
      · have : dn = 0 := by omega
        rw [this]; simp
    rw [hx, vput_nil, h0] at hk
    have e0 : h.set id (.box q (encL eInt M.toList)) = h := by
      apply List.ext_getElem?
      intro j
      by_cases hij : id = j
      · subst hij
        rw [List.getElem?_set_self (List.getElem?_eq_some_iff.1 ho).1, ho]
      · rw [List.getElem?_set_ne hij]
    rw [e0] at hk
    exact hk
  · have e1 : xs.take (min xs.length dn) = xs.take dn := by
      rcases Nat.le_total xs.length dn with hx | hx
      · rw [Nat.min_eq_left hx, List.take_length, List.take_of_length_le hx]
      · rw [Nat.min_eq_right hx]
    have hl : (encL eInt (xs.take dn)).length = min xs.length dn := by rw [encL_length wdInt]; simp; omega
    rw [Nat.mul_one, ht1, e1]
    simp only [putCells, ho]
    refine ⟨by rw [hl, ints_len]; omega, ?_⟩
    rw [ints_put M off (xs.take dn) (by simp; omega)]
    exact hk
theorem o_iaPV {t e : TypeId} {s by_ eb k : Nat} {z ez : List AV} {ek : TK} {M : Vector Int k} {fl : Bool} {rest : List AV} (ht : T t = some ⟨.ar k e, s, by_, z⟩) (he : T e = some ⟨ek, 1, eb, ez⟩)
    (h1 : St.eval ⟨n, look l, h, b⟩ a = .ipt fl (encL eInt M.toList ++ rest)) {ik : IntKind} {i : Int} (h2 : St.eval ⟨n, look l, h, b⟩ a2 = .int ik i) (hj : 0 ≤ i ∧ i < (k : Int))
    (hk : ∀ rest, K (.ipt fl (.int .i64 (vat M i.toNat) :: rest)) h) : opC P T ⟨d, .indexAddr t a a2, ty, pos, af, g⟩ ⟨n, look l, h, b⟩ K := by
  show indexAddrA T t (St.eval ⟨n, look l, h, b⟩ a) (St.eval ⟨n, look l, h, b⟩ a2) (fun v => K v h)
  rw [h1, h2]; simp only [indexAddrA, ht, he]
  refine ⟨hj, ?_⟩
  obtain ⟨r2, hr⟩ := ints_at M i.toNat (by omega)
  rw [Nat.mul_one, List.drop_append_of_le_length (by rw [ints_len]; omega), hr]
  exact hk _
theorem o_bs1 {t e i : TypeId} {s by_ es eb q : Nat} {z ez : List AV} {ek : TK} {v : AV} {cs cs2 : List AV} (ht : T t = some ⟨.sl e, s, by_, z⟩) (he : T e = some ⟨ek, es, eb, ez⟩) (hb : (Nat.ble 1 es && Nat.ble es 256) = true)
    (h1 : St.eval ⟨n, look l, h, b⟩ a = v) (hc : v.cells = some cs) (hl : cs.length = es) (hz : ez.length = es) (hq : h.length = q) (_hi : i = 0) (hcs : cs = cs2) (hk : K (.ref false q 1) (h ++ [.row e es cs2])) : opC P T ⟨d, .buildSlice t 1 #[(i, a)], ty, pos, af, g⟩ ⟨n, look l, h, b⟩ K := by
  subst _hi; subst hcs
  show buildSliceA T h t 1 [((0 : Nat), St.eval ⟨n, look l, h, b⟩ a)] K
  subst hq
  simp only [Bool.and_eq_true] at hb
  rw [h1]; simp only [buildSliceA, ht, he]
  have hpos := Nat.le_of_ble_eq_true hb.1
  refine ⟨⟨by omega, hpos, Nat.le_of_ble_eq_true hb.2⟩, ?_⟩
  have hzl : (zerosA 1 es ez).length = es := by simp [zerosA]
  simp only [fillP, hc]
  refine ⟨hl, by rw [hzl]; omega, ?_⟩
  rw [Nat.zero_mul, spl_all _ _ (by rw [hl, hzl])]
  exact hk
theorem o_slW {t e : TypeId} {m s by_ eb k off : Nat} {z ez : List AV} {ek : TK} {M : Vector Int k} {fl : Bool} {hi : Option Operand} {y : Int} {ys : List Int} (ht : T t = some ⟨.ar m e, s, by_, z⟩) (he : T e = some ⟨ek, 1, eb, ez⟩)
    (h1 : St.eval ⟨n, look l, h, b⟩ a = .ipt fl ((encL eInt M.toList).drop off)) (hhi : boundA m (hi.map (St.eval ⟨n, look l, h, b⟩)) = some y) (hj : 0 ≤ ((0 : Nat) : Int) ∧ ((0 : Nat) : Int) ≤ y ∧ y ≤ (m : Int)) (hof : off + m ≤ k)
    (hy : (M.toList.drop off).take y.toNat = ys) (hk : K (.lst fl ys.length (encL eInt ys)) h) : opC P T ⟨d, .slice t a none hi none, ty, pos, af, g⟩ ⟨n, look l, h, b⟩ K := by
  show sliceA T t (St.eval ⟨n, look l, h, b⟩ a) none (hi.map (St.eval ⟨n, look l, h, b⟩)) none (fun v => K v h)
  rw [h1]; simp only [sliceA, ht, he, boundA] at hhi ⊢
  simp only [hhi]
  refine ⟨hj, ?_⟩
  have e1 := encL_drop wdInt M.toList off
  have e2 := encL_take wdInt (M.toList.drop off) y.toNat
  rw [Nat.mul_one] at e1 e2
  have e3 : y.toNat - ((0 : Nat) : Int).toNat = ys.length := by rw [← hy]; simp; omega
  have e4 : ((0 : Nat) : Int).toNat * 1 = 0 := rfl
  rw [e4, List.drop_zero, e1, e3, Nat.mul_one]
  have e5 : (encL eInt (M.toList.drop off)).take ys.length = encL eInt ys := by
    have : ys.length = y.toNat := by rw [← hy]; simp; omega
    rw [this, e2, hy]
  rw [e5]
  exact hk
theorem callH_N1 {k : FuncId} {args xs : List AV} {o : AObj} (hf : FnH P k [] xs (fun x H' => ∃ l, H' = o :: l ∧ x = .ptr 0 0)) (hw : Wks (args.map (conv 6 h)) xs) (hfl : flatO o) (hp : h.length = n)
    (hk : K (.ptr n 0) (h ++ [o])) : callH P h (.clo k [] []) args K := by
  subst hp
  refine .inl ⟨fun o' => o' = o, ⟨hf.1, fun mA w r0 vs h1 h2 h3 h4 h5 h6 h7 => (hf.2 mA w r0 vs h1 h2 h3 h4 h5 h6 ?_).mono ?_⟩, ?_⟩
  · have : r0 = [] := List.eq_nil_of_length_eq_zero h3
    subst this
    exact hw _ _ _ (Low.nest mA) h7
  · rintro e w' ⟨v, x, r', m', H', a', h8, ⟨l, h9, h10⟩, h11⟩
    exact ⟨v, x, r', m', H', a', h8, ⟨o, l, h9, h10, hfl, rfl⟩, h11⟩
  · rintro _ rfl; exact hk
theorem callH_R1 {k : FuncId} {args xs : List AV} {o : AObj} {nb : Bool} {m q : Nat} (hf : FnH P k [] xs (fun x H' => ∃ l, H' = o :: l ∧ x = .ref nb 0 m)) (hw : Wks (args.map (conv 6 h)) xs) (hfl : flatR o) (hp : h.length = q)
    (hk : K (.ref nb q m) (h ++ [o])) : callH P h (.clo k [] []) args K := by
  subst hp
  refine .inr (.inr ⟨nb, fun n' o' => n' = m ∧ o' = o, ⟨hf.1, fun mA w r0 vs h1 h2 h3 h4 h5 h6 h7 => (hf.2 mA w r0 vs h1 h2 h3 h4 h5 h6 ?_).mono ?_⟩, ?_⟩)
  · have : r0 = [] := List.eq_nil_of_length_eq_zero h3
    subst this
    exact hw _ _ _ (Low.nest mA) h7
  · rintro e w' ⟨v, x, r', m', H', a', h8, ⟨l, h9, h10⟩, h11⟩
    exact ⟨v, x, r', m', H', a', h8, ⟨m, o, l, h9, h10, hfl, rfl, rfl⟩, h11⟩
  · rintro _ _ ⟨rfl, rfl⟩; exact hk
theorem callH_M1 {k : FuncId} {y0 x0 z : AV} {ys xs : List AV} {id : Nat} {o o' : AObj} (hf : FnH P k [o] (x0 :: xs) (fun x H' => ∃ l, H' = o' :: l ∧ x = z)) (ho : h[id]? = some o) (hfl : flatO o) (hfl' : flatO o') (hz : flatV z = true)
    (h0 : (∃ off, y0 = .ptr id off ∧ x0 = .ptr 0 off) ∨ (∃ nb n, y0 = .ref nb id n ∧ x0 = .ref nb 0 n) ∨ (∃ off n, y0 = .sub id off n ∧ x0 = .sub 0 off n)) (hx : Wks (ys.map (conv 6 (h.set id .dead))) xs)
    (hk : K z (h.set id o')) : callH P h (.clo k [] []) (y0 :: ys) K := by
  refine .inr (.inl ⟨id, o, x0, y0, ys, fun x q => x = z ∧ q = o', rfl, ho, hfl, h0, ⟨hf.1, fun mA w r0 vs h1 h2 h3 h4 h5 h6 h7 => (hf.2 mA w r0 vs h1 h2 h3 h4 h5 h6 ?_).mono ?_⟩, ?_⟩)
  · simp only [VRs] at h7 ⊢
    obtain ⟨v, vs', e1, e2, e3⟩ := h7
    exact ⟨v, vs', e1, e2, hx _ _ _ (Low.nest mA) e3⟩
  · rintro e w' ⟨v, x, r', m', H', a', h8, ⟨l, h9, h10⟩, h11⟩
    exact ⟨v, x, r', m', H', a', h8, ⟨o', l, h9, by rw [h10]; exact hz, hfl', h10, rfl⟩, h11⟩
  · rintro x q ⟨rfl, rfl⟩; exact hk
theorem flatI {M : List Int} : ∀ c ∈ encL eInt M, flatV c = true := by
  intro c hc
  simp only [encL, eInt, List.mem_flatMap, List.mem_singleton] at hc
  obtain ⟨x, _, rfl⟩ := hc
  rfl
end
theorem FnH.mono {P : Program} {f : FuncId} {H : List AObj} {args : List AV} {A B : AV → List AObj → Prop} (h : FnH P f H args A) (hab : ∀ x l, A x l → B x l) : FnH P f H args B :=
  ⟨h.1, fun mA w r0 vs h1 h2 h3 h4 h5 h6 h7 => (h.2 mA w r0 vs h1 h2 h3 h4 h5 h6 h7).mono fun _ _ ⟨v, x, r', m', H', a', e1, e2, e3⟩ => ⟨v, x, r', m', H', a', e1, hab _ _ e2, e3⟩⟩
def pickL (ol : List Oper) : List Nat → List Oper
  | [] => []
  | i :: l => match ol[i]? with
    | some o => o :: pickL ol l
    | none => pickL ol l
def allIn (ol : List Oper) (ord : List Nat) : Bool := ord.all fun i => Nat.blt i ol.length
theorem pickL_spec {ol : List Oper} : ∀ {ord : List Nat}, allIn ol ord = true → (ord.map fun i => ol[i]?) = (pickL ol ord).map some
  | [], _ => rfl
  | i :: l, h => by
    simp only [allIn, List.all_cons, Bool.and_eq_true] at h
    have hi : i < ol.length := Nat.le_of_ble_eq_true h.1
    simp only [List.map_cons, pickL, List.getElem?_eq_getElem hi]
    rw [pickL_spec (ord := l) h.2]
theorem W.rP {P : Program} {T : TT} {st : St} {Q : Ex → St → Prop} {c : Code} {id : Nat} {ol : List Oper} (ord : List Nat) (hc : chk ol.toArray ord = true) (hl : allIn ol ord = true) (h1 : seqL P T ol [] 0 (pickL ol ord) st fun s => W P T c s Q) : W P T (.seq (.region id ol.toArray true) c) st Q :=
  W.rO ord _ hc (pickL_spec hl) h1
theorem W.rP1 {P : Program} {T : TT} {st : St} {Q : Ex → St → Prop} {id : Nat} {ol : List Oper} (ord : List Nat) (hc : chk ol.toArray ord = true) (hl : allIn ol ord = true) (h1 : seqL P T ol [] 0 (pickL ol ord) st (Q .nrm)) : W P T (.region id ol.toArray true) st Q :=
  W.rO1 ord _ hc (pickL_spec hl) h1
theorem Ren.refL {φ : List (Option Nat)} {nb nb' : Bool} {id j n n' : Nat} (hφ : φ[j]? = some (some id)) (hb : nb' = true → nb = true) (hn : n = n') : Ren φ (.ref nb id n) (.ref nb' j n') := by
  subst hn; exact Ren.ref hφ hb
theorem Ren.boolE {φ : List (Option Nat)} {a b : Bool} (h : b = a) : Ren φ (.bool a) (.bool b) := by subst h; exact Ren.bool _
theorem W.rLmT {P : Program} {T : TT} {st : St} {Q : Ex → St → Prop} {c : Code} {id : Nat} {ol : List Oper} (st' : St) (h1 : seqL P T ol [] 0 ol st fun s => s.to st') (h2 : W P T c st' Q) : W P T (.seq (.region id ol.toArray false) c) st Q := W.seq _ (W.region [] h1) fun _ h => W.to h h2
theorem W.rPmT {P : Program} {T : TT} {st : St} {Q : Ex → St → Prop} {c : Code} {id : Nat} {ol : List Oper} (st' : St) (ord : List Nat) (hc : chk ol.toArray ord = true) (hl : allIn ol ord = true) (h1 : seqL P T ol [] 0 (pickL ol ord) st fun s => s.to st') (h2 : W P T c st' Q) : W P T (.seq (.region id ol.toArray true) c) st Q :=
  W.seq (fun s => s.to st') (W.rP1 ord hc hl h1) fun _ h => W.to h h2
theorem ag_subR {α : Type} {ef : Bool → α → List AV} {sz : Nat} (he : Enc ef sz) (q : Nat) {h : List AObj} {id t off m k : Nat} {fl : Bool} {xs ys : List α} (ho : h[id]? = some (.row t sz (encL (ef fl) xs))) (hoff : off = k * sz) (hy : (xs.drop k).take m = ys) (hm : m = ys.length) : Wk (conv (q + 2) h (.sub id off m)) (.lst true ys.length (encL (ef true) ys)) := by
  subst hm; subst hoff
  simp only [conv, ho]
  split
  · rename_i h0
    have : ys = [] := List.eq_nil_of_length_eq_zero h0
    subst this
    exact Wk.refl _
  · rw [encL_drop (he.wd fl)]
    refine (Wk.lsts _ _ (encL_cv he q h fl (xs.drop k))).trans ?_
    have e2 := encL_take (he.wd true) (xs.drop k) ys.length
    rw [hy] at e2
    rw [← e2]
    exact Wk.take _ _ _ _
theorem encL_co {α : Type} {ef : Bool → α → List AV} {sz : Nat} (he : Enc ef sz) (k : Nat) (h : List AObj) : ∀ xs, Wks ((encL (ef false) xs).map (cvO (k + 1) h)) (encL (ef false) xs)
  | [] => Wks.refl _
  | x :: xs => by
    rw [encL_cons, List.map_append]
    exact Wks.app (he.co k h x) (encL_co he k h xs) (by rw [List.length_map])
theorem agI_int (k : Nat) (h : List AObj) (q : IntKind) (x : Int) : Wk (cvI k h (.int q x)) (.int q x) := by rw [cvI_int]; exact Wk.refl _
end Go.Lat
namespace Go.Lat
open Go.RowKit Go.Proofs
set_option maxRecDepth 100000
def tt : TT := fun t =>
  if t = 3 then some ⟨.int .i64, 1, 8, [.int .i64 0]⟩ else
  if t = 36 then some ⟨.int .i64, 1, 8, [.int .i64 0]⟩ else
  if t = 73 then some ⟨.int .i64, 1, 8, [.int .i64 0]⟩ else
  if t = 115 then some ⟨.int .u64, 1, 8, [.int .u64 0]⟩ else
  if t = 121 then some ⟨.int .u64, 1, 8, [.int .u64 0]⟩ else
  if t = 4 then some ⟨.bool, 1, 1, [.bool false]⟩ else
  if t = 22 then some ⟨.sl 29, 1, 24, [.nilS]⟩ else
  if t = 23 then some ⟨.sl 3, 1, 24, [.nilS]⟩ else
  if t = 28 then some ⟨.sl 66, 1, 24, [.nilS]⟩ else
  if t = 51 then some ⟨.sl 23, 1, 24, [.nilS]⟩ else
  if t = 57 then some ⟨.sl 61, 1, 24, [.nilS]⟩ else
  if t = 76 then some ⟨.sl 53, 1, 24, [.nilS]⟩ else
  if t = 109 then some ⟨.sl 104, 1, 24, [.nilS]⟩ else
  if t = 66 then some ⟨.st [(0, 3), (1, 3), (2, 3), (3, 3)], 4, 32, [.int .i64 0, .int .i64 0, .int .i64 0, .int .i64 0]⟩ else
  if t = 29 then some ⟨.ar 3 3, 3, 24, [.int .i64 0, .int .i64 0, .int .i64 0]⟩ else
  if t = 61 then some ⟨.ar 2 3, 2, 16, [.int .i64 0, .int .i64 0]⟩ else
  if t = 53 then some ⟨.st [(0, 3), (1, 51)], 2, 32, [.int .i64 0, .nilS]⟩ else
  if t = 88 then some ⟨.st [(0, 3), (1, 28)], 2, 32, [.int .i64 0, .nilS]⟩ else
  if t = 27 then some ⟨.st [(0, 23), (1, 3), (2, 3), (3, 23), (4, 23)], 5, 88, [.nilS, .int .i64 0, .int .i64 0, .nilS, .nilS]⟩ else
  if t = 75 then some ⟨.st [(0, 53), (2, 73)], 3, 40, [.int .i64 0, .nilS, .int .i64 0]⟩ else
  if t = 25 then some ⟨.st [(0, 3), (1, 3), (2, 22), (3, 23), (4, 3)], 5, 72, [.int .i64 0, .int .i64 0, .nilS, .nilS, .int .i64 0]⟩ else
  if t = 84 then some ⟨.one, 1, 8, [.nilP]⟩ else
  if t = 104 then some ⟨.ar 24 3, 24, 192, List.replicate 24 (.int .i64 0)⟩ else
  if t = 108 then some ⟨.ar 24 104, 576, 4608, List.replicate 576 (.int .i64 0)⟩ else
  none
theorem tt3 : tt 3 = some ⟨.int .i64, 1, 8, [.int .i64 0]⟩ := by rfl
theorem tt36 : tt 36 = some ⟨.int .i64, 1, 8, [.int .i64 0]⟩ := by rfl
theorem tt73 : tt 73 = some ⟨.int .i64, 1, 8, [.int .i64 0]⟩ := by rfl
theorem tt115 : tt 115 = some ⟨.int .u64, 1, 8, [.int .u64 0]⟩ := by rfl
theorem tt121 : tt 121 = some ⟨.int .u64, 1, 8, [.int .u64 0]⟩ := by rfl
theorem tt4 : tt 4 = some ⟨.bool, 1, 1, [.bool false]⟩ := by rfl
theorem tt22 : tt 22 = some ⟨.sl 29, 1, 24, [.nilS]⟩ := by rfl
theorem tt23 : tt 23 = some ⟨.sl 3, 1, 24, [.nilS]⟩ := by rfl
theorem tt28 : tt 28 = some ⟨.sl 66, 1, 24, [.nilS]⟩ := by rfl
theorem tt51 : tt 51 = some ⟨.sl 23, 1, 24, [.nilS]⟩ := by rfl
theorem tt57 : tt 57 = some ⟨.sl 61, 1, 24, [.nilS]⟩ := by rfl
theorem tt76 : tt 76 = some ⟨.sl 53, 1, 24, [.nilS]⟩ := by rfl
theorem tt109 : tt 109 = some ⟨.sl 104, 1, 24, [.nilS]⟩ := by rfl
theorem tt66 : tt 66 = some ⟨.st [(0, 3), (1, 3), (2, 3), (3, 3)], 4, 32, [.int .i64 0, .int .i64 0, .int .i64 0, .int .i64 0]⟩ := by rfl
theorem tt29 : tt 29 = some ⟨.ar 3 3, 3, 24, [.int .i64 0, .int .i64 0, .int .i64 0]⟩ := by rfl
theorem tt61 : tt 61 = some ⟨.ar 2 3, 2, 16, [.int .i64 0, .int .i64 0]⟩ := by rfl
theorem tt53 : tt 53 = some ⟨.st [(0, 3), (1, 51)], 2, 32, [.int .i64 0, .nilS]⟩ := by rfl
theorem tt88 : tt 88 = some ⟨.st [(0, 3), (1, 28)], 2, 32, [.int .i64 0, .nilS]⟩ := by rfl
theorem tt27 : tt 27 = some ⟨.st [(0, 23), (1, 3), (2, 3), (3, 23), (4, 23)], 5, 88, [.nilS, .int .i64 0, .int .i64 0, .nilS, .nilS]⟩ := by rfl
theorem tt75 : tt 75 = some ⟨.st [(0, 53), (2, 73)], 3, 40, [.int .i64 0, .nilS, .int .i64 0]⟩ := by rfl
theorem tt25 : tt 25 = some ⟨.st [(0, 3), (1, 3), (2, 22), (3, 23), (4, 3)], 5, 72, [.int .i64 0, .int .i64 0, .nilS, .nilS, .int .i64 0]⟩ := by rfl
theorem tt84 : tt 84 = some ⟨.one, 1, 8, [.nilP]⟩ := by rfl
theorem tt104 : tt 104 = some ⟨.ar 24 3, 24, 192, List.replicate 24 (.int .i64 0)⟩ := by rfl
theorem tt108 : tt 108 = some ⟨.ar 24 104, 576, 4608, List.replicate 576 (.int .i64 0)⟩ := by rfl
theorem tok3 : TOk Try.prog 3 ⟨.int .i64, 1, 8, [.int .i64 0]⟩ where
  info := ⟨Try.t3, _, Try.type3, rfl, rfl, rfl, by simp [Value.cells, VRs, VR], by simp [Value.cells, Value.oneCell'], rfl⟩
  kind := Try.underlying3
  eqs := trivial
theorem tok36 : TOk Try.prog 36 ⟨.int .i64, 1, 8, [.int .i64 0]⟩ where
  info := ⟨Try.t36, _, Try.type36, rfl, rfl, rfl, by simp [Value.cells, VRs, VR], by simp [Value.cells, Value.oneCell'], rfl⟩
  kind := Try.underlying36
  eqs := trivial
theorem tok73 : TOk Try.prog 73 ⟨.int .i64, 1, 8, [.int .i64 0]⟩ where
  info := ⟨Try.t73, _, Try.type73, rfl, rfl, rfl, by simp [Value.cells, VRs, VR], by simp [Value.cells, Value.oneCell'], rfl⟩
  kind := Try.underlying73
  eqs := trivial
theorem tok115 : TOk Try.prog 115 ⟨.int .u64, 1, 8, [.int .u64 0]⟩ where
  info := ⟨Try.t115, _, Try.type115, rfl, rfl, rfl, by simp [Value.cells, VRs, VR], by simp [Value.cells, Value.oneCell'], rfl⟩
  kind := Try.underlying115
  eqs := trivial
theorem tok121 : TOk Try.prog 121 ⟨.int .u64, 1, 8, [.int .u64 0]⟩ where
  info := ⟨Try.t121, _, Try.type121, rfl, rfl, rfl, by simp [Value.cells, VRs, VR], by simp [Value.cells, Value.oneCell'], rfl⟩
  kind := Try.underlying121
  eqs := trivial
theorem tok4 : TOk Try.prog 4 ⟨.bool, 1, 1, [.bool false]⟩ where
  info := ⟨Try.t4, _, Try.type4, rfl, rfl, rfl, by simp [Value.cells, VRs, VR], by simp [Value.cells, Value.oneCell'], rfl⟩
  kind := Try.underlying4
  eqs := trivial
theorem tok22 : TOk Try.prog 22 ⟨.sl 29, 1, 24, [.nilS]⟩ where
  info := ⟨Try.t22, _, Try.type22, rfl, rfl, rfl, by simp [Value.cells, VRs, VR], by simp [Value.cells, Value.oneCell'], rfl⟩
  kind := Try.underlying22
  eqs := trivial
theorem tok23 : TOk Try.prog 23 ⟨.sl 3, 1, 24, [.nilS]⟩ where
  info := ⟨Try.t23, _, Try.type23, rfl, rfl, rfl, by simp [Value.cells, VRs, VR], by simp [Value.cells, Value.oneCell'], rfl⟩
  kind := Try.underlying23
  eqs := trivial
theorem tok28 : TOk Try.prog 28 ⟨.sl 66, 1, 24, [.nilS]⟩ where
  info := ⟨Try.t28, _, Try.type28, rfl, rfl, rfl, by simp [Value.cells, VRs, VR], by simp [Value.cells, Value.oneCell'], rfl⟩
  kind := Try.underlying28
  eqs := trivial
theorem tok51 : TOk Try.prog 51 ⟨.sl 23, 1, 24, [.nilS]⟩ where
  info := ⟨Try.t51, _, Try.type51, rfl, rfl, rfl, by simp [Value.cells, VRs, VR], by simp [Value.cells, Value.oneCell'], rfl⟩
  kind := Try.underlying51
  eqs := trivial
theorem tok57 : TOk Try.prog 57 ⟨.sl 61, 1, 24, [.nilS]⟩ where
  info := ⟨Try.t57, _, Try.type57, rfl, rfl, rfl, by simp [Value.cells, VRs, VR], by simp [Value.cells, Value.oneCell'], rfl⟩
  kind := Try.underlying57
  eqs := trivial
theorem tok76 : TOk Try.prog 76 ⟨.sl 53, 1, 24, [.nilS]⟩ where
  info := ⟨Try.t76, _, Try.type76, rfl, rfl, rfl, by simp [Value.cells, VRs, VR], by simp [Value.cells, Value.oneCell'], rfl⟩
  kind := Try.underlying76
  eqs := trivial
theorem tok109 : TOk Try.prog 109 ⟨.sl 104, 1, 24, [.nilS]⟩ where
  info := ⟨Try.t109, _, Try.type109, rfl, rfl, rfl, by simp [Value.cells, VRs, VR], by simp [Value.cells, Value.oneCell'], rfl⟩
  kind := Try.underlying109
  eqs := trivial
theorem tok66 : TOk Try.prog 66 ⟨.st [(0, 3), (1, 3), (2, 3), (3, 3)], 4, 32, [.int .i64 0, .int .i64 0, .int .i64 0, .int .i64 0]⟩ where
  info := ⟨Try.t66, _, Try.type66, rfl, rfl, rfl, by simp [Value.cells, VRs, VR], by simp [Value.cells, Value.oneCell'], rfl⟩
  kind := ⟨_, Try.underlying66, rfl, by
    intro f hf
    simp only [List.mem_cons, List.not_mem_nil, or_false] at hf
    rcases hf with rfl | rfl | rfl | rfl
    · exact ⟨_, Try.type3⟩
    · exact ⟨_, Try.type3⟩
    · exact ⟨_, Try.type3⟩
    · exact ⟨_, Try.type3⟩⟩
  eqs := ⟨by kernel_rfl, by kernel_rfl, by intro F hF; rw [Try.underlying66] at hF; cases hF; simp⟩
theorem tok29 : TOk Try.prog 29 ⟨.ar 3 3, 3, 24, [.int .i64 0, .int .i64 0, .int .i64 0]⟩ where
  info := ⟨Try.t29, _, Try.type29, rfl, rfl, rfl, by simp [Value.cells, VRs, VR], by simp [Value.cells, Value.oneCell'], rfl⟩
  kind := Try.underlying29
  eqs := trivial
theorem tok61 : TOk Try.prog 61 ⟨.ar 2 3, 2, 16, [.int .i64 0, .int .i64 0]⟩ where
  info := ⟨Try.t61, _, Try.type61, rfl, rfl, rfl, by simp [Value.cells, VRs, VR], by simp [Value.cells, Value.oneCell'], rfl⟩
  kind := Try.underlying61
  eqs := trivial
theorem tok53 : TOk Try.prog 53 ⟨.st [(0, 3), (1, 51)], 2, 32, [.int .i64 0, .nilS]⟩ where
  info := ⟨Try.t53, _, Try.type53, rfl, rfl, rfl, by simp [Value.cells, VRs, VR], by simp [Value.cells, Value.oneCell'], rfl⟩
  kind := ⟨_, Try.underlying53, rfl, by
    intro f hf
    simp only [List.mem_cons, List.not_mem_nil, or_false] at hf
    rcases hf with rfl | rfl
    · exact ⟨_, Try.type3⟩
    · exact ⟨_, Try.type51⟩⟩
  eqs := ⟨by kernel_rfl, by kernel_rfl, by intro F hF; rw [Try.underlying53] at hF; cases hF; simp⟩
theorem tok88 : TOk Try.prog 88 ⟨.st [(0, 3), (1, 28)], 2, 32, [.int .i64 0, .nilS]⟩ where
  info := ⟨Try.t88, _, Try.type88, rfl, rfl, rfl, by simp [Value.cells, VRs, VR], by simp [Value.cells, Value.oneCell'], rfl⟩
  kind := ⟨_, Try.underlying88, rfl, by
    intro f hf
    simp only [List.mem_cons, List.not_mem_nil, or_false] at hf
    rcases hf with rfl | rfl
    · exact ⟨_, Try.type3⟩
    · exact ⟨_, Try.type28⟩⟩
  eqs := ⟨by kernel_rfl, by kernel_rfl, by intro F hF; rw [Try.underlying88] at hF; cases hF; simp⟩
theorem tok27 : TOk Try.prog 27 ⟨.st [(0, 23), (1, 3), (2, 3), (3, 23), (4, 23)], 5, 88, [.nilS, .int .i64 0, .int .i64 0, .nilS, .nilS]⟩ where
  info := ⟨Try.t27, _, Try.type27, rfl, rfl, rfl, by simp [Value.cells, VRs, VR], by simp [Value.cells, Value.oneCell'], rfl⟩
  kind := ⟨_, Try.underlying27, rfl, by
    intro f hf
    simp only [List.mem_cons, List.not_mem_nil, or_false] at hf
    rcases hf with rfl | rfl | rfl | rfl | rfl
    · exact ⟨_, Try.type23⟩
    · exact ⟨_, Try.type3⟩
    · exact ⟨_, Try.type3⟩
    · exact ⟨_, Try.type23⟩
    · exact ⟨_, Try.type23⟩⟩
  eqs := ⟨by kernel_rfl, by kernel_rfl, by intro F hF; rw [Try.underlying27] at hF; cases hF; simp⟩
theorem tok75 : TOk Try.prog 75 ⟨.st [(0, 53), (2, 73)], 3, 40, [.int .i64 0, .nilS, .int .i64 0]⟩ where
  info := ⟨Try.t75, _, Try.type75, rfl, rfl, rfl, by simp [Value.cells, VRs, VR], by simp [Value.cells, Value.oneCell'], rfl⟩
  kind := ⟨_, Try.underlying75, rfl, by
    intro f hf
    simp only [List.mem_cons, List.not_mem_nil, or_false] at hf
    rcases hf with rfl | rfl
    · exact ⟨_, Try.type53⟩
    · exact ⟨_, Try.type73⟩⟩
  eqs := ⟨by kernel_rfl, by kernel_rfl, by intro F hF; rw [Try.underlying75] at hF; cases hF; simp⟩
theorem tok25 : TOk Try.prog 25 ⟨.st [(0, 3), (1, 3), (2, 22), (3, 23), (4, 3)], 5, 72, [.int .i64 0, .int .i64 0, .nilS, .nilS, .int .i64 0]⟩ where
  info := ⟨Try.t25, _, Try.type25, rfl, rfl, rfl, by simp [Value.cells, VRs, VR], by simp [Value.cells, Value.oneCell'], rfl⟩
  kind := ⟨_, Try.underlying25, rfl, by
    intro f hf
    simp only [List.mem_cons, List.not_mem_nil, or_false] at hf
    rcases hf with rfl | rfl | rfl | rfl | rfl
    · exact ⟨_, Try.type3⟩
    · exact ⟨_, Try.type3⟩
    · exact ⟨_, Try.type22⟩
    · exact ⟨_, Try.type23⟩
    · exact ⟨_, Try.type3⟩⟩
  eqs := ⟨by kernel_rfl, by kernel_rfl, by intro F hF; rw [Try.underlying25] at hF; cases hF; simp⟩
theorem tok84 : TOk Try.prog 84 ⟨.one, 1, 8, [.nilP]⟩ where
  info := ⟨Try.t84, _, Try.type84, rfl, rfl, rfl, by simp [Value.cells, VRs, VR], by simp [Value.cells, Value.oneCell'], rfl⟩
  kind := ⟨_, Try.underlying84, by simp, by simp⟩
  eqs := trivial
theorem tok104 : TOk Try.prog 104 ⟨.ar 24 3, 24, 192, List.replicate 24 (.int .i64 0)⟩ where
  info := ⟨Try.t104, .agg (List.replicate 24 (.int .i64 0)).toArray, Try.type104, rfl, rfl, by kernel_rfl, (VRs.replicate (n := 24) (x := .int .i64 0) (v := .int .i64 0) (by simp only [VR])), fun u hu => (by have := List.eq_of_mem_replicate hu; subst this; rfl), List.length_replicate⟩
  kind := Try.underlying104
  eqs := trivial
theorem tok108 : TOk Try.prog 108 ⟨.ar 24 104, 576, 4608, List.replicate 576 (.int .i64 0)⟩ where
  info := ⟨Try.t108, .agg (List.replicate 576 (.int .i64 0)).toArray, Try.type108, rfl, rfl, by kernel_rfl, (VRs.replicate (n := 576) (x := .int .i64 0) (v := .int .i64 0) (by simp only [VR])), fun u hu => (by have := List.eq_of_mem_replicate hu; subst this; rfl), List.length_replicate⟩
  kind := Try.underlying108
  eqs := trivial
theorem ttOk : TsOk Try.prog tt := by
  intro t i h
  by_cases e3 : t = 3
  · subst e3; rw [tt3] at h; cases h; exact tok3
  by_cases e36 : t = 36
  · subst e36; rw [tt36] at h; cases h; exact tok36
  by_cases e73 : t = 73
  · subst e73; rw [tt73] at h; cases h; exact tok73
  by_cases e115 : t = 115
  · subst e115; rw [tt115] at h; cases h; exact tok115
  by_cases e121 : t = 121
  · subst e121; rw [tt121] at h; cases h; exact tok121
  by_cases e4 : t = 4
  · subst e4; rw [tt4] at h; cases h; exact tok4
  by_cases e22 : t = 22
  · subst e22; rw [tt22] at h; cases h; exact tok22
  by_cases e23 : t = 23
  · subst e23; rw [tt23] at h; cases h; exact tok23
  by_cases e28 : t = 28
  · subst e28; rw [tt28] at h; cases h; exact tok28
  by_cases e51 : t = 51
  · subst e51; rw [tt51] at h; cases h; exact tok51
  by_cases e57 : t = 57
  · subst e57; rw [tt57] at h; cases h; exact tok57
  by_cases e76 : t = 76
  · subst e76; rw [tt76] at h; cases h; exact tok76
  by_cases e109 : t = 109
  · subst e109; rw [tt109] at h; cases h; exact tok109
  by_cases e66 : t = 66
  · subst e66; rw [tt66] at h; cases h; exact tok66
  by_cases e29 : t = 29
  · subst e29; rw [tt29] at h; cases h; exact tok29
  by_cases e61 : t = 61
  · subst e61; rw [tt61] at h; cases h; exact tok61
  by_cases e53 : t = 53
  · subst e53; rw [tt53] at h; cases h; exact tok53
  by_cases e88 : t = 88
  · subst e88; rw [tt88] at h; cases h; exact tok88
  by_cases e27 : t = 27
  · subst e27; rw [tt27] at h; cases h; exact tok27
  by_cases e75 : t = 75
  · subst e75; rw [tt75] at h; cases h; exact tok75
  by_cases e25 : t = 25
  · subst e25; rw [tt25] at h; cases h; exact tok25
  by_cases e84 : t = 84
  · subst e84; rw [tt84] at h; cases h; exact tok84
  by_cases e104 : t = 104
  · subst e104; rw [tt104] at h; cases h; exact tok104
  by_cases e108 : t = 108
  · subst e108; rw [tt108] at h; cases h; exact tok108
  exfalso
  unfold tt at h
  rw [if_neg e3, if_neg e36, if_neg e73, if_neg e115, if_neg e121, if_neg e4, if_neg e22, if_neg e23, if_neg e28, if_neg e51, if_neg e57, if_neg e76, if_neg e109, if_neg e66, if_neg e29, if_neg e61, if_neg e53, if_neg e88, if_neg e27, if_neg e75, if_neg e25, if_neg e84, if_neg e104, if_neg e108] at h
  cases h
theorem ttMix : Try.prog.follows .mixedOrders = true := by kernel_rfl
structure Con where
  f : Int
  t : Int
  m : Int
  a : Int
instance : Inhabited Con := ⟨⟨0, 0, 0, 0⟩⟩
def e66 (c : Con) : List AV := [.int .i64 c.f, .int .i64 c.t, .int .i64 c.m, .int .i64 c.a]
theorem enc66 : Enc (fun _ => e66) 4 where
  wd _ _ := rfl
  cv _ _ _ _ := Wks.cons (ag_int _ _ _ _) (Wks.cons (ag_int _ _ _ _) (Wks.cons (ag_int _ _ _ _) (Wks.cons (ag_int _ _ _ _) (Wks.refl _))))
  ci _ _ _ := Wks.cons (agI_int _ _ _ _) (Wks.cons (agI_int _ _ _ _) (Wks.cons (agI_int _ _ _ _) (Wks.cons (agI_int _ _ _ _) (Wks.refl _))))
  co _ _ _ := Wks.cons (rs_int _ _ _ _) (Wks.cons (rs_int _ _ _ _) (Wks.cons (rs_int _ _ _ _) (Wks.cons (rs_int _ _ _ _) (Wks.refl _))))
  sl fl _ := SealVs.cons (SealV.int _ _ _) (SealVs.cons (SealV.int _ _ _) (SealVs.cons (SealV.int _ _ _) (SealVs.cons (SealV.int _ _ _) (SealVs.nil fl))))
  cl _ _ x hx := by
    simp only [e66, List.mem_cons, List.not_mem_nil, or_false] at hx
    rcases hx with rfl | rfl | rfl | rfl <;> rfl
theorem eqf66 : ∀ f ∈ ([(0, 3), (1, 3), (2, 3), (3, 3)] : List (Nat × TypeId)), ∃ s b z, tt f.2 = some ⟨.int .i64, s, b, z⟩ := by
  intro f hf
  simp only [List.mem_cons, List.not_mem_nil, or_false] at hf
  rcases hf with rfl | rfl | rfl | rfl
  · exact ⟨_, _, _, tt3⟩
  · exact ⟨_, _, _, tt3⟩
  · exact ⟨_, _, _, tt3⟩
  · exact ⟨_, _, _, tt3⟩
theorem flat66 (xs : List Con) : ∀ c ∈ encL e66 xs, flatV c = true := by
  intro c hc
  simp only [encL, e66, List.mem_flatMap, List.mem_cons, List.not_mem_nil, or_false] at hc
  obtain ⟨x, _, h⟩ := hc
  rcases h with rfl | rfl | rfl | rfl <;> rfl
instance : DecidableEq Con := fun x y => decidable_of_iff (x.f = y.f ∧ x.t = y.t ∧ x.m = y.m ∧ x.a = y.a) (by cases x; cases y; simp)
theorem eq66 (x y : Con) : decide ([x.f, x.t, x.m, x.a] = [y.f, y.t, y.m, y.a]) = decide (x = y) := by
  cases x; cases y; simp
structure A3 where
  x0 : Int
  x1 : Int
  x2 : Int
instance : Inhabited A3 := ⟨⟨0, 0, 0⟩⟩
def e29 (c : A3) : List AV := [.int .i64 c.x0, .int .i64 c.x1, .int .i64 c.x2]
theorem enc29 : Enc (fun _ => e29) 3 where
  wd _ _ := rfl
  cv _ _ _ _ := Wks.cons (ag_int _ _ _ _) (Wks.cons (ag_int _ _ _ _) (Wks.cons (ag_int _ _ _ _) (Wks.refl _)))
  ci _ _ _ := Wks.cons (agI_int _ _ _ _) (Wks.cons (agI_int _ _ _ _) (Wks.cons (agI_int _ _ _ _) (Wks.refl _)))
  co _ _ _ := Wks.cons (rs_int _ _ _ _) (Wks.cons (rs_int _ _ _ _) (Wks.cons (rs_int _ _ _ _) (Wks.refl _)))
  sl fl _ := SealVs.cons (SealV.int _ _ _) (SealVs.cons (SealV.int _ _ _) (SealVs.cons (SealV.int _ _ _) (SealVs.nil fl)))
  cl _ _ x hx := by
    simp only [e29, List.mem_cons, List.not_mem_nil, or_false] at hx
    rcases hx with rfl | rfl | rfl <;> rfl
structure A2 where
  y0 : Int
  y1 : Int
instance : Inhabited A2 := ⟨⟨0, 0⟩⟩
def e61 (c : A2) : List AV := [.int .i64 c.y0, .int .i64 c.y1]
theorem enc61 : Enc (fun _ => e61) 2 where
  wd _ _ := rfl
  cv _ _ _ _ := Wks.cons (ag_int _ _ _ _) (Wks.cons (ag_int _ _ _ _) (Wks.refl _))
  ci _ _ _ := Wks.cons (agI_int _ _ _ _) (Wks.cons (agI_int _ _ _ _) (Wks.refl _))
  co _ _ _ := Wks.cons (rs_int _ _ _ _) (Wks.cons (rs_int _ _ _ _) (Wks.refl _))
  sl fl _ := SealVs.cons (SealV.int _ _ _) (SealVs.cons (SealV.int _ _ _) (SealVs.nil fl))
  cl _ _ x hx := by
    simp only [e61, List.mem_cons, List.not_mem_nil, or_false] at hx
    rcases hx with rfl | rfl <;> rfl
structure Bd where
  n : Int
  most : (List (List Int))
instance : Inhabited Bd := ⟨⟨0, []⟩⟩
def e53 (fl : Bool) (c : Bd) : List AV := [.int .i64 c.n, .lst fl c.most.length (encL (eSl eInt true) c.most)]
structure Wlk where
  n : Int
  l : (List Con)
instance : Inhabited Wlk := ⟨⟨0, []⟩⟩
def e88 (fl : Bool) (c : Wlk) : List AV := [.int .i64 c.n, .lst fl c.l.length (encL e66 c.l)]
structure Flt where
  dr : (List Int)
  la : Int
  li : Int
  sv : (List Int)
  tm : (List Int)
instance : Inhabited Flt := ⟨⟨[], 0, 0, [], []⟩⟩
def e27 (fl : Bool) (c : Flt) : List AV := [.lst fl c.dr.length (encL eInt c.dr), .int .i64 c.la, .int .i64 c.li, .lst fl c.sv.length (encL eInt c.sv), .lst fl c.tm.length (encL eInt c.tm)]
structure Cho where
  b : Bd
  s : Int
instance : Inhabited Cho := ⟨⟨default, 0⟩⟩
def e75 (fl : Bool) (c : Cho) : List AV := [.int .i64 c.b.n, .lst fl c.b.most.length (encL (eSl eInt true) c.b.most), .int .i64 c.s]
structure Cas where
  fl : Int
  n : Int
  x : (List A3)
  tr : (List Int)
  ho : Int
instance : Inhabited Cas := ⟨⟨0, 0, [], [], 0⟩⟩
def e25 (fl : Bool) (c : Cas) : List AV := [.int .i64 c.fl, .int .i64 c.n, .lst fl c.x.length (encL e29 c.x), .lst fl c.tr.length (encL eInt c.tr), .int .i64 c.ho]
def eV24 (v : Vector Int 24) : List AV := encL eInt v.toList
theorem encV24 : Enc (fun _ => eV24) 24 where
  wd _ a := ints_len a
  cv k h fl a := encL_cv encInt k h fl a.toList
  ci k h a := encL_ci encInt k h a.toList
  co k h a := encL_co encInt k h a.toList
  sl fl a := encL_sl encInt fl a.toList
  cl fl a := encL_cl encInt fl a.toList
def eV576 (v : Vector Int 576) : List AV := encL eInt v.toList
end Go.Lat
namespace Go.Lat

abbrev NB : Int := 1152921504606846976
def plusM (a b : Int) : Int := if a = NB ∨ b = NB then NB else a + b
def pickM (c n : Int) : Int := (if c < 0 then -(c + 1) else c).tmod n
def possM (n : Int) (c : Con) : Bool := decide (0 ≤ c.f ∧ c.f < n ∧ 0 ≤ c.t ∧ c.t < n ∧ ¬ c.f = c.t ∧ -1125899906842624 ≤ c.m ∧ c.m ≤ 1125899906842624 ∧ 0 ≤ c.a ∧ c.a < 64)
def validM (n : Int) (l : List Con) : Bool := decide (1 ≤ n ∧ n ≤ 24 ∧ l.length ≤ 2000) && l.all (possM n)
def madeM (n : Int) (x : List A3) : List Con :=
  if 1 < n then (x.take 30).map fun y => ⟨pickM y.x0 n, (pickM y.x0 n + 1 + pickM y.x1 (n - 1)).tmod n, pickM y.x2 20 - 6, 2 ^ (pickM (y.x1.tdiv 30) 6).toNat⟩ else []
def mm (m : Vector Int 576) (i j : Nat) : Int := vat m (i * 24 + j)
def freeM : Vector Int 576 := Vector.ofFn fun k => if k.1 / 24 = k.1 % 24 then 0 else NB
def relaxM (m : Vector Int 576) (f t : Nat) (w : Int) : Vector Int 576 :=
  Vector.ofFn fun k => if mm m (k.1 / 24) f = NB then vat m k.1 else min (vat m k.1) (plusM (mm m (k.1 / 24) f + w) (mm m t (k.1 % 24)))
def addM (m : Vector Int 576) (f t w : Int) : Bool × Vector Int 576 :=
  if plusM w (mm m t.toNat f.toNat) < 0 then (false, m) else if mm m f.toNat t.toNat ≤ w then (true, m) else (true, relaxM m f.toNat t.toNat w)
def findIx {α : Type} (p : α → Bool) (l : List α) : Int := match l.findIdx? p with
  | some i => (i : Int)
  | none => -1
structure AddOk (m : Vector Int 576) (f t w : Int) : Prop where
  f : 0 ≤ f ∧ f < 24
  t : 0 ≤ t ∧ t < 24
  w : -72057594037927936 ≤ w ∧ w ≤ 72057594037927936
  m : ∀ k, -1152921504606846976 ≤ vat m k ∧ vat m k ≤ 1152921504606846976
def boundsM (m : Vector Int 576) (n : Int) : Bd := ⟨n, (List.range n.toNat).map fun i => (m.toList.drop (i * 24)).take n.toNat⟩
def ofM (b : Bd) : Vector Int 576 := (List.range b.most.length).foldl (fun m i => vput m (i * 24) ((b.most.getD i []).take 24)) freeM
def okX (x : Int) : Bool := decide (x = NB ∨ -36028797018963968 ≤ x ∧ x ≤ 36028797018963968)
def bm (b : Bd) (i j : Nat) : Int := (b.most.getD i []).getD j 0
def validBM (b : Bd) : Bool :=
  decide (1 ≤ b.n ∧ b.n ≤ 24 ∧ (b.most.length : Int) = b.n) &&
  (List.range b.most.length).all (fun i => decide ((((b.most.getD i []).length : Nat) : Int) = b.n ∧ bm b i i = 0) && (b.most.getD i []).all okX) &&
  (List.range b.most.length).all fun i => (List.range b.most.length).all fun j => decide (bm b i j = NB) || (List.range b.most.length).all fun k => decide (bm b i k ≤ plusM (bm b i j) (bm b j k))
def sameM (a b : Bd) : Bool := decide (a.n = b.n) && decide (a.most = b.most)
def addAll : Vector Int 576 → List Con → Option (Vector Int 576)
  | m, [] => some m
  | m, c :: l => if (addM m c.f c.t c.m).1 = true then addAll (addM m c.f c.t c.m).2 l else none
def longerM (l : List Con) (d : Vector Int 24) (above : Int) : Vector Int 24 :=
  (l.drop (above + 1).toNat).foldl (fun o c => vset o c.f.toNat (min (vat o c.f.toNat) (plusM c.m (vat d c.t.toNat)))) (Vector.replicate 24 NB)
structure LongOk (l : List Con) (d : Vector Int 24) (above : Int) : Prop where
  a : 0 ≤ above + 1 ∧ above + 1 ≤ l.length
  len : l.length ≤ 2000
  l : ∀ c ∈ l, (0 ≤ c.f ∧ c.f < 24) ∧ (0 ≤ c.t ∧ c.t < 24) ∧ -1125899906842624 ≤ c.m ∧ c.m ≤ 1125899906842624
  d : ∀ k, -1152921504606846976 ≤ vat d k ∧ vat d k ≤ 1152921504606846976
structure TabOk (l : List Con) (to above many : Int) : Prop where
  a : 0 ≤ above + 1 ∧ above + 1 ≤ l.length
  len : l.length ≤ 2000
  l : ∀ c ∈ l, (0 ≤ c.f ∧ c.f < 24) ∧ (0 ≤ c.t ∧ c.t < 24) ∧ -1125899906842624 ≤ c.m ∧ c.m ≤ 1125899906842624
  t : 0 ≤ to ∧ to < 24
  k : 0 ≤ many ∧ many ≤ 25
def FirstOk (n : Int) (l : List Con) : Prop := validM n l = true
def tabD (l : List Con) (to above : Int) : Nat → Vector Int 24
  | 0 => vset (Vector.replicate 24 NB) to.toNat 0
  | k + 1 => longerM l (tabD l to above k) above
def tableM (l : List Con) (to above many : Int) : List (Vector Int 24) := (List.range (many.toNat + 1)).map (tabD l to above)
def sizeAt (n : Int) (l : List Con) (v : Nat) : Option Nat := (List.range (n.toNat + 1)).find? fun r => decide (vat (tabD l v (-1) r) v < 0)
def sizeM (n : Int) (l : List Con) : Int := (List.range n.toNat).foldl (fun s v => match sizeAt n l v with | some r => min s (r : Int) | none => s) (n + 1)
def nextC (l : List Con) (d : Nat → Vector Int 24) (size : Int) (s len : Nat) (at_ total : Int) : Option Nat :=
  ((List.range l.length).drop (s + 1)).find? fun i => decide ((l.getD i default).f = at_ ∧ plusM (total + (l.getD i default).m) (vat (d (size - len - 1).toNat) (l.getD i default).t.toNat) < 0)
def chainC (l : List Con) (d : Nat → Vector Int 24) (size : Int) (s : Nat) : Nat → List Int → Int → Int → Option (List Int)
  | 0, out, _, _ => some out
  | k + 1, out, at_, total =>
    if (out.length : Int) < size then
      match nextC l d size s out.length at_ total with
      | some i => chainC l d size s k (out ++ [(i : Int)]) (l.getD i default).t (total + (l.getD i default).m)
      | none => none
    else some out
def firstAt (l : List Con) (size : Int) (s : Nat) : Option (List Int) :=
  let c := l.getD s default
  let d := tabD l c.f s
  if 0 ≤ plusM c.m (vat (d (size - 1).toNat) c.t.toNat) then none else chainC l d size s size.toNat [(s : Int)] c.t c.m
def firstM (n : Int) (l : List Con) : List Int := ((List.range l.length).findSome? fun s => firstAt l (sizeM n l) s).getD []
def closeM (n : Int) (l : List Con) : Bd × List Int × Int :=
  if validM n l = true then match addAll freeM l with
    | some m => (boundsM m n, [], 0)
    | none => (⟨0, []⟩, firstM n l, 70)
  else (⟨0, []⟩, [], 2)
def addBM (b : Bd) (c : Con) : Bd × Bool × Int :=
  if validBM b = true ∧ possM b.n c = true then
    if (addM (ofM b) c.f c.t c.m).1 = true then
      let out := boundsM (addM (ofM b) c.f c.t c.m).2 b.n
      if (out.most.all fun r => r.all okX) = true then (out, true, 0) else (⟨0, []⟩, false, 2)
    else (⟨0, []⟩, false, 0)
  else (⟨0, []⟩, false, 2)
def rangeM (b : Bd) (f t : Int) : Int × Int × Int :=
  if validBM b = true ∧ 0 ≤ min f t ∧ max f t < b.n then (-bm b t.toNat f.toNat, bm b f.toNat t.toNat, 0) else (0, 0, 2)
def pointV (m : Vector Int 576) (f n : Nat) : List Int := (List.range n).map fun j =>
  if mm m f j = NB then (List.range n).foldl (fun o i => if mm m f i = NB ∧ ¬ mm m i j = NB then min o (576460752303423488 + mm m i j) else o) 576460752303423488 else mm m f j
def pointM (b : Bd) (f t v : Int) : List Int × Int :=
  let r := rangeM b f t
  if r.2.2 = 0 ∧ max r.1 (-36028797018963968) ≤ v ∧ v ≤ min r.2.1 36028797018963968 then
    let m := ofM b
    let m := if f = t then m else (addM (addM m f t v).2 t f (-v)).2
    (pointV m f.toNat b.n.toNat, 0)
  else ([], 2)
def holdsM (l : List Con) (x : List Int) : Bool :=
  validM x.length l && x.all (fun v => decide (-1152921504606846976 ≤ v ∧ v ≤ 1152921504606846976)) && l.all (fun c => decide (lat x c.t - lat x c.f ≤ c.m))
def cycStep (l : List Con) (c : List Int) (i : Nat) : Bool :=
  let k := lat c i
  decide (0 ≤ k ∧ k < (l.length : Int)) && (List.range i).all (fun j => decide (¬ (lat l (lat c j)).f = (lat l k).f)) && (decide (i = 0) || decide ((lat l (lat c (i - 1))).t = (lat l k).f))
def cycleM (l : List Con) (c : List Int) : Bool :=
  validM 24 l && decide (1 ≤ c.length ∧ c.length ≤ 24) && (List.range c.length).all (cycStep l c) && decide ((c.map fun k => (lat l k).m).sum < 0 ∧ (lat l (lat c (c.length - 1))).t = (lat l (lat c 0)).f)
def nextFrom (m : Nat) (most : Int) : Nat → Nat → List Int → Bool × List Int
  | 0, _, x => (false, x)
  | k + 1, i, x => if i < m then if x.getD i 0 < most then (true, x.set i (x.getD i 0 + 1)) else nextFrom m most k (i + 1) (x.set i (-most)) else (false, x)
def nextM (x : List Int) (m : Nat) (most : Int) : Bool × List Int := nextFrom m most m 1 x
structure NextOk (x : List Int) (m : Nat) (most : Int) : Prop where
  m : m ≤ x.length
  most : 0 ≤ most ∧ most ≤ 1000
  el : ∀ v ∈ x, -1000 ≤ v ∧ v ≤ 1000
  len : x.length ≤ 1000
end Go.Lat
namespace Go.Lat

def inM (x lo hi : Int) : Bool := decide (lo ≤ x ∧ x ≤ hi)
def allM (l : List Int) (lo hi most : Int) : Bool := l.all (fun y => decide (0 ≤ y ∧ y ≤ most)) && decide (lo ≤ (l.length : Int) ∧ (l.length : Int) ≤ hi)
def cvalidM (f : Flt) : Bool := allM f.dr 1 6 1000 && decide (0 ≤ f.la ∧ f.la ≤ 1000000) && decide (0 ≤ f.li ∧ f.li ≤ 2) && decide (f.li < (f.dr.length : Int)) && allM f.tm 1 8 3 && allM f.sv 1 12 ((f.tm.length : Int) - 1)
def pcM (x : Int) : Int := ((List.range 6).map fun a => x / 2 ^ a % 2).sum
def inSet (c : Con) (s : Int) : Bool := decide (bitI .andNot .i64 c.a s = 0)
def partM (l : List Con) (s : Int) : List Con := l.filter fun c => inSet c s
def conOk (f : Flt) (n : Int) (c : Con) : Bool := decide (0 ≤ min c.f c.t ∧ max c.f c.t < n ∧ ¬ c.f = c.t ∧ -1125899906842624 ≤ c.m ∧ c.m ≤ 1125899906842624 ∧ 0 ≤ c.a ∧ c.a.fdiv (2 ^ (min f.dr.length 64)) = 0)
def bvalidM (f : Flt) (n : Int) (l : List Con) : Bool := cvalidM f && decide ((closeM n []).2.2 = 0 ∧ l.length ≤ 2000) && l.all (conOk f n)
def choice1 (f : Flt) (n : Int) (l : List Con) (s : Int) : Option Cho :=
  if pcM s = (f.dr.length : Int) - f.li ∧ (closeM n (partM l s)).2.2 = 0 then some ⟨(closeM n (partM l s)).1, s⟩ else none
def choicesM (f : Flt) (n : Int) (l : List Con) : List Cho := (List.range (2 ^ f.dr.length)).filterMap fun (s : Nat) => choice1 f n l (s : Int)
def chM (f : Flt) (n : Int) (l : List Con) : List Int × Int :=
  if bvalidM f n l = true then (if choicesM f n l = [] then ([], 100) else ((choicesM f n l).map (·.s), 0)) else ([], 2)
def liM (f : Flt) (n : Int) (l : List Con) : Int × Int :=
  if (chM f n l).2 = 0 then ((chM f n l).1.foldl (fun o s => bitI .andNot .i64 o s) (2 ^ f.dr.length - 1), 0) else (0, (chM f n l).2)
def loM (l : List Cho) (f t : Int) : Int := l.foldl (fun o c => min o (-bm c.b t.toNat f.toNat)) NB
def hiM (l : List Cho) (f t : Int) : Int := l.foldl (fun o c => max o (bm c.b f.toNat t.toNat)) (-NB)
def brangeM (f : Flt) (n : Int) (l : List Con) (a b : Int) : Int × Int × Int :=
  if bvalidM f n l = true ∧ 0 ≤ min a b ∧ max a b < n then
    (if hiM (choicesM f n l) a b < loM (choicesM f n l) a b then (0, 0, 100) else (loM (choicesM f n l) a b, hiM (choicesM f n l) a b, 0))
  else (0, 0, 2)
def witM (f : Flt) (n : Int) (l : List Con) (a b v : Int) : List Int × Int × Int :=
  if (brangeM f n l a b).2.2 = 0 then
    match (choicesM f n l).find? (fun c => decide ((pointM c.b a b v).2 = 0)) with
    | some c => ((pointM c.b a b v).1, c.s, 0)
    | none => ([], 0, 100)
  else ([], 0, (brangeM f n l a b).2.2)
def PossOk (f : Flt) (l : List Con) : Prop := f.dr.length ≤ 6 ∧ l.length ≤ 1073741824 ∧ 0 ≤ f.li ∧ f.li ≤ 2
def fleetM (n : Int) : Flt :=
  let dr := (List.range ((pickM n 5).toNat + 1)).map fun (a : Nat) => pickM (n.tdiv 7 + a) 40
  ⟨dr, pickM (n.tdiv 30) 5, min (pickM (n.tdiv 5) 3) ((dr.length : Int) - 1), [0], [0]⟩
def bmade1 (f : Flt) (honest : Int) (truth : List Int) (c : Con) (y : A3) : Con :=
  let a := bitI .or .i64 (2 ^ (pickM (y.x1.tdiv 30) f.dr.length).toNat) (2 ^ (pickM (y.x1.tdiv 200) f.dr.length).toNat)
  if bitI .and .i64 a honest = a then ⟨c.f, c.t, lat truth c.t - lat truth c.f + max c.m 0, a⟩ else ⟨c.f, c.t, c.m, a⟩
def bmadeM (f : Flt) (n : Int) (x : List A3) (honest : Int) (truth : List Int) : List Con :=
  List.zipWith (bmade1 f honest truth) (madeM n (x.take 24)) (x.take 24)
def honStep (ho : Int) (hl : Int × Int) (a : Nat) : Int × Int :=
  if 0 < hl.2 ∧ pickM ho 64 / 2 ^ a % 2 = 0 then (bitI .andNot .i64 hl.1 (2 ^ a), hl.2 - 1) else hl
def honM (f : Flt) (ho : Int) : Int := ((List.range f.dr.length).foldl (honStep ho) (2 ^ f.dr.length - 1, f.li)).1
def truthM (n : Int) (tr : List Int) : List Int := (List.range n.toNat).map fun i => if i < tr.length then pickM (tr.getD i 0) 60 else 0
def mkM (c : Cas) : Flt × Int × List Con × List Int × Int :=
  let f := fleetM c.fl
  let n := 1 + pickM c.n 6
  let honest := honM f c.ho
  let truth := truthM n c.tr
  (f, n, bmadeM f n c.x honest truth, truth, honest)
def BMadeOk (f : Flt) (n : Int) (x : List A3) (_honest : Int) (truth : List Int) : Prop :=
  (1 ≤ f.dr.length ∧ f.dr.length ≤ 6) ∧ (1 ≤ n ∧ n ≤ 24) ∧ (∀ y ∈ x, inI y.x0 ∧ inI y.x1 ∧ inI y.x2) ∧ truth.length = n.toNat ∧ ∀ v ∈ truth, 0 ≤ v ∧ v ≤ 1000
def CasOk (c : Cas) : Prop := inI c.fl ∧ inI c.n ∧ inI c.ho ∧ (∀ y ∈ c.x, inI y.x0 ∧ inI y.x1 ∧ inI y.x2) ∧ ∀ v ∈ c.tr, inI v
def RgsOk (f : Flt) (n : Int) (l : List Con) : Prop := (f.dr.length ≤ 1073741824 ∧ f.sv.length ≤ 1073741824 ∧ f.tm.length ≤ 1073741824) ∧ l.length ≤ 1073741824 ∧ (0 ≤ n ∧ n ≤ 24) ∧ ∀ i j : Nat, (i : Int) < n → (j : Int) < n → (brangeM f n l i j).2.2 = 0
def rangesM (f : Flt) (n : Int) (l : List Con) : List A2 × Int :=
  ((List.range n.toNat).flatMap fun (i : Nat) => (List.range n.toNat).map fun (j : Nat) => (⟨(brangeM f n l i j).1, (brangeM f n l i j).2.1⟩ : A2), 0)
end Go.Lat
namespace Go.Lat
open Go.ChangeShapes Go.WideShapes Go.ChangeAt Go.RowKit
open Go.Proofs
section
variable {H : Type} {enc : TypeId × Value → H} {w : World} {base : Nat} {spare : Nat → Bool} {held : Bool}
theorem c10_3 : Try.prog.cellsOf 3 = 1 := by kernel_rfl
theorem c10_22 : Try.prog.cellsOf 22 = 1 := by kernel_rfl
theorem c10_23 : Try.prog.cellsOf 23 = 1 := by kernel_rfl
theorem c10_29 : Try.prog.cellsOf 29 = 3 := by kernel_rfl
theorem c10_25 : Try.prog.cellsOf 25 = 5 := by kernel_rfl
theorem cells_slice {t e : TypeId} {fuel : Nat} {cs : List Value} {x : DataW H × List MemPlace} (ht : Try.prog.underlying t = some (.slice e)) (h : DataW.trod enc Try.prog w base spare held fuel t cs = some x) :
    ∃ v, cs = [v] ∧ (∃ a len cap, v = .slice a len cap) ∧ DataW.Trod enc Try.prog w base spare held t v x.1 x.2 := by
  rcases Go.Deep.open_slice ht h with ⟨rfl, rfl⟩ | ⟨a, len, cap, m, n, D, Pl, rfl, _, _, _, _, rfl, _⟩
  · exact ⟨_, rfl, ⟨_, _, _, rfl⟩, fuel, h⟩
  · exact ⟨_, rfl, ⟨_, _, _, rfl⟩, fuel, h⟩
theorem open_ints10 {v : Value} {d : DataW H} {ps : List MemPlace} (hv : ∃ a len cap, v = .slice a len cap) (h : DataW.Trod enc Try.prog w base spare held 23 v d ps) :
    ∃ x : List Int, (∀ z ∈ x, inI z) ∧ VR [] (nest (memOf w)) (.lst true x.length (encL eInt x)) v := by
  obtain ⟨L, h1, h2⟩ := open_flat Try.underlying23 c10_3 (by omega) hv (intCells_int Try.underlying3) h
  refine ⟨L.map fun r => r.getD 0 0, fun z hz => ?_, ?_⟩
  · rw [List.mem_map] at hz
    obtain ⟨r, hr, rfl⟩ := hz
    obtain ⟨a, b⟩ := h1 r hr
    match r, a with
    | [y], _ => exact b y (by simp)
  · have e : encL eInt (L.map fun r => r.getD 0 0) = L.flatten.map fun z => AV.int .i64 z := by
      clear h2
      induction L with
      | nil => rfl
      | cons r L ih =>
        obtain ⟨a, -⟩ := h1 r (by simp)
        match r, a with
        | [y], _ =>
          rw [List.map_cons, List.flatten_cons, List.map_append, ← ih (fun r hr => h1 r (by simp [hr]))]
          rfl
    rw [List.length_map, e]; exact h2
theorem open_a3s10 {v : Value} {d : DataW H} {ps : List MemPlace} (hv : ∃ a len cap, v = .slice a len cap) (h : DataW.Trod enc Try.prog w base spare held 22 v d ps) :
    ∃ x : List A3, (∀ y ∈ x, inI y.x0 ∧ inI y.x1 ∧ inI y.x2) ∧ VR [] (nest (memOf w)) (.lst true x.length (encL e29 x)) v := by
  obtain ⟨L, h1, h2⟩ := open_flat Try.underlying22 c10_29 (by omega) hv (intCells_arr Try.underlying29 Try.underlying3 c10_3 c10_29) h
  refine ⟨L.map fun r => ⟨r.getD 0 0, r.getD 1 0, r.getD 2 0⟩, fun z hz => ?_, ?_⟩
  · rw [List.mem_map] at hz
    obtain ⟨r, hr, rfl⟩ := hz
    obtain ⟨a, b⟩ := h1 r hr
    match r, a with
    | [y0, y1, y2], _ => exact ⟨b y0 (by simp), b y1 (by simp), b y2 (by simp)⟩
  · have e : encL e29 (L.map fun r => (⟨r.getD 0 0, r.getD 1 0, r.getD 2 0⟩ : A3)) = L.flatten.map fun z => AV.int .i64 z := by
      clear h2
      induction L with
      | nil => rfl
      | cons r L ih =>
        obtain ⟨a, -⟩ := h1 r (by simp)
        match r, a with
        | [y0, y1, y2], _ =>
          rw [List.map_cons, List.flatten_cons, List.map_append, ← ih (fun r hr => h1 r (by simp [hr]))]
          rfl
    rw [List.length_map, e]; exact h2
theorem fld {fs : Array Field} {Q : Field → Prop} {i t o : Nat} (h : ∀ f, fs[i]? = some f → Q f) (hf : ∃ f, fs[i]? = some f ∧ f.type = t ∧ f.offset = o) : ∃ f, f.type = t ∧ f.offset = o ∧ Q f := by
  obtain ⟨f, h1, h2, h3⟩ := hf
  exact ⟨f, h2, h3, h f h1⟩
theorem open_cas {v : Value} {d : DataW H} {ps : List MemPlace} (hv : ∃ cs, v = .agg cs) (h : DataW.Trod enc Try.prog w base spare held 25 v d ps) :
    ∃ c : Cas, CasOk c ∧ VR [] (nest (memOf w)) (.agg (e25 true c)) v := by
  obtain ⟨fuel, hf⟩ := h
  obtain ⟨cs, rfl⟩ := hv
  obtain ⟨xs, m, -, -, hl, hx, hi⟩ := DataW.trod_struct Try.underlying25 hf
  rw [c10_25] at hl
  have hl5 : cs.toList.length = 5 := hl
  generalize hcs : cs.toList = l at *
  match l, hl5 with
  | [u0, u1, u2, u3, u4], _ =>
    have xl : xs.length = 5 := hx
    match xs, xl with
    | [y0, y1, y2, y3, y4], _ =>
      obtain ⟨f0, b0, g0, i0⟩ := fld (t := 3) (o := 0) (hi 0) ⟨_, rfl, rfl, rfl⟩
      rw [b0, g0] at i0
      obtain ⟨f1, b1, g1, i1⟩ := fld (t := 3) (o := 1) (hi 1) ⟨_, rfl, rfl, rfl⟩
      rw [b1, g1] at i1
      obtain ⟨f2, b2, g2, i2⟩ := fld (t := 22) (o := 2) (hi 2) ⟨_, rfl, rfl, rfl⟩
      rw [b2, g2] at i2
      obtain ⟨f3, b3, g3, i3⟩ := fld (t := 23) (o := 3) (hi 3) ⟨_, rfl, rfl, rfl⟩
      rw [b3, g3] at i3
      obtain ⟨f4, b4, g4, i4⟩ := fld (t := 3) (o := 4) (hi 4) ⟨_, rfl, rfl, rfl⟩
      rw [b4, g4] at i4
      obtain ⟨z0, e0, -, w0⟩ := DataW.trod_int Try.underlying3 i0
      obtain ⟨z1, e1, -, w1⟩ := DataW.trod_int Try.underlying3 i1
      obtain ⟨v2, e2, s2, t2⟩ := cells_slice Try.underlying22 i2
      obtain ⟨v3, e3, s3, t3⟩ := cells_slice Try.underlying23 i3
      obtain ⟨z4, e4, -, w4⟩ := DataW.trod_int Try.underlying3 i4
      obtain ⟨x, px, hx2⟩ := open_a3s10 s2 t2
      obtain ⟨tr, ptr, htr⟩ := open_ints10 s3 t3
      rw [c10_3] at e0 e1 e4
      rw [c10_22] at e2
      rw [c10_23] at e3
      have ecell : (Value.agg cs).cells.toList = [u0, u1, u2, u3, u4] := hcs
      rw [ecell] at e0 e1 e2 e3 e4
      have f0 : u0 = .int .i64 z0 := by simpa using e0
      have f1 : u1 = .int .i64 z1 := by simpa using e1
      have f2 : u2 = v2 := by simpa using e2
      have f3 : u3 = v3 := by simpa using e3
      have f4 : u4 = .int .i64 z4 := by simpa using e4
      subst f0 f1 f2 f3 f4
      refine ⟨⟨z0, z1, x, tr, z4⟩, ⟨inI_of_wf w0, inI_of_wf w1, inI_of_wf w4, px, ptr⟩, cs, rfl, fun u hu => ?_, ?_⟩
      · rw [hcs] at hu
        simp only [List.mem_cons, List.not_mem_nil, or_false] at hu
        obtain ⟨a2, b2, c2, rfl⟩ := s2
        obtain ⟨a3, b3, c3, rfl⟩ := s3
        rcases hu with rfl | rfl | rfl | rfl | rfl <;> rfl
      · rw [hcs]
        exact ⟨_, _, rfl, rfl, _, _, rfl, rfl, _, _, rfl, hx2, _, _, rfl, htr, _, _, rfl, rfl, rfl⟩
end
end Go.Lat
