/- The law latecomerlaw23.ModelApart returns true for every input, and each argument reads afterwards as it read before. Part 1 of 14. No condition. -/
import Derived.CallsIn
import Derived.OrdersIn
import Derived.Below
import Derived.Maps.AppendAt
import Derived.OwnWalkIn
import Derived.Laws.CopyRow
import Derived.IntWalk
import Derived.Laws.OwnMore
import Derived.Laws.StructEq
set_option linter.unusedVariables false
set_option linter.unusedSimpArgs false
set_option linter.unnecessarySimpa false
namespace Go.Lat
open Go.RowKit

inductive AV where
  | int (k : IntKind) (n : Int)
  | bool (b : Bool)
  | agg (cs : List AV)
  | tup (cs : List AV)
  | nilS
  | nilP
  | nilF
  | ref (nb : Bool) (id len : Nat)
  | sub (id off len : Nat)
  | lst (fl : Bool) (len : Nat) (cs : List AV)
  | ptr (id off : Nat)
  | ipt (fl : Bool) (cs : List AV)
  | clo (f : FuncId) (fst caps : List AV)
  | yl (l : Nat)
  | gh (i : Nat)
  | chn (id : Nat)
  | cut (ex : Bool) (id off k len cap : Nat)
  | any
  deriving Inhabited

abbrev Rho := List (Nat × Nat)
abbrev Mem := Addr -> Option Value
abbrev MM := Bool -> Mem

def RLe (r r' : Rho) : Prop := ∀ (i : Nat) (x : Nat × Nat), r[i]? = some x -> r'[i]? = some x
def MLe (m m' : MM) : Prop := ∀ b p v, m b p = some v -> m' b p = some v
theorem RLe.refl (r : Rho) : RLe r r := fun _ _ h => h
theorem RLe.trans {a b c : Rho} (h : RLe a b) (k : RLe b c) : RLe a c := fun i x hx => k i x (h i x hx)
theorem RLe.app (r l : Rho) : RLe r (r ++ l) := fun i x h => by
  have hi : i < r.length := by
    rcases Nat.lt_or_ge i r.length with h' | h'
    . exact h'
    . rw [List.getElem?_eq_none h'] at h; cases h
  rw [List.getElem?_append_left hi]; exact h
theorem MLe.refl (m : MM) : MLe m m := fun _ _ _ h => h
theorem MLe.trans {a b c : MM} (h : MLe a b) (k : MLe b c) : MLe a c := fun f i x hx => k f i x (h f i x hx)
def nest (m : Mem) : MM := fun b => if b then m else fun _ => none
theorem MLe.nest {m m' : MM} (h : MLe m m') (fl : Bool) : MLe (Lat.nest (m fl)) (Lat.nest (m' fl)) := fun b p v hv => by
  cases b with
  | true => exact h fl p v hv
  | false => cases hv

def Sealed (m : Mem) (a : Addr) (vs : List Value) : Prop := ∀ (i : Nat) u, vs[i]? = some u -> m (a.add i) = some u /\ u.oneCell' = true

mutual
def VR (r : Rho) (m : MM) : AV -> Value -> Prop
  | .int k n, v => v = .int k n
  | .bool b, v => v = .bool b
  | .agg cs, v => ∃ arr, v = .agg arr /\ (∀ u ∈ arr.toList, u.oneCell' = true) /\ VRs r m cs arr.toList
  | .tup cs, v => ∃ arr, v = .tuple arr /\ VRs r m cs arr.toList
  | .nilS, v => v = .slice none 0 0
  | .nilP, v => v = .pointer none
  | .nilF, v => v = .nilFunc
  | .ref nb id len, v => (len = 0 /\ (∃ x, r[id]? = some x) /\ (v = .slice none 0 0 \/ (nb = false /\ ∃ a, v = .slice (some a) 0 0))) \/ (0 < len /\ ∃ b c, r[id]? = some (b, c) /\ len <= c /\ v = .slice (some ⟨b, 0, none⟩) len c)
  | .sub id off len, v => ∃ b c a cap, r[id]? = some (b, c) /\ len <= cap /\ v = .slice (some a) len cap /\ (0 < len -> a = ⟨b, off, none⟩)
  | .lst fl len cs, v => (len = 0 /\ v = .slice none 0 0) \/ ∃ a cap vs, len <= cap /\ v = .slice (some a) len cap /\ Sealed (m fl) a vs /\ VRs [] (nest (m fl)) cs vs
  | .ptr id off, v => ∃ b c, r[id]? = some (b, c) /\ v = .pointer (some ⟨b, off, none⟩)
  | .ipt fl cs, v => ∃ a vs, v = .pointer (some a) /\ Sealed (m fl) a vs /\ VRs [] (nest (m fl)) cs vs
  | .clo f fst caps, v => ∃ x y, v = .func (.func f) x y /\ VRs r m fst x.toList /\ VRs r m caps y.toList
  | .yl l, v => v = .func (.yield l) #[] #[]
  | .gh _, _ => True
  | .chn id, v => ∃ b c, r[id]? = some (b, c) /\ v = .chan (some b)
  | .cut ex id off k len cap, v => (ex = false /\ len = 0 /\ cap = 0 /\ (v = .slice none 0 0 \/ ∃ a, v = .slice (some a) 0 0)) \/ ∃ b c, r[id]? = some (b, c) /\ len <= cap /\ k + cap <= c /\ (ex = true -> k + cap = c) /\ v = .slice (some ⟨b, off, none⟩) len cap
  | .any, _ => True
def VRs (r : Rho) (m : MM) : List AV -> List Value -> Prop
  | [], vs => vs = []
  | x :: xs, vs => ∃ v vs', vs = v :: vs' /\ VR r m x v /\ VRs r m xs vs'
end

mutual
theorem VR.mono {r r' : Rho} {m m' : MM} (hr : RLe r r') (hm : MLe m m') : ∀ (x : AV) (v : Value), VR r m x v -> VR r' m' x v
  | .int _ _, _, h => by simpa only [VR] using h
  | .bool _, _, h => by simpa only [VR] using h
  | .agg cs, _, h => by
    simp only [VR] at h ⊢
    obtain ⟨arr, h1, h0, h2⟩ := h
    exact ⟨arr, h1, h0, VRs.mono hr hm cs _ h2⟩
  | .tup cs, _, h => by
    simp only [VR] at h ⊢
    obtain ⟨arr, h1, h2⟩ := h
    exact ⟨arr, h1, VRs.mono hr hm cs _ h2⟩
  | .nilS, _, h => by simpa only [VR] using h
  | .nilP, _, h => by simpa only [VR] using h
  | .nilF, _, h => by simpa only [VR] using h
  | .ref _ _ _, _, h => by
    simp only [VR] at h ⊢
    rcases h with ⟨h1, ⟨x, h2⟩, h3⟩ | ⟨h0, b, c, h1, h2⟩
    . exact .inl ⟨h1, ⟨x, hr _ _ h2⟩, h3⟩
    . exact .inr ⟨h0, b, c, hr _ _ h1, h2⟩
  | .sub _ _ _, _, h => by
    simp only [VR] at h ⊢
    obtain ⟨b, c, a, cap, h1, h2⟩ := h
    exact ⟨b, c, a, cap, hr _ _ h1, h2⟩
  | .lst fl _ cs, _, h => by
    simp only [VR] at h ⊢
    rcases h with h | ⟨a, cap, vs, h1, h2, h3, h4⟩
    . exact .inl h
    exact .inr ⟨a, cap, vs, h1, h2, fun i u hu => ⟨hm _ _ _ (h3 i u hu).1, (h3 i u hu).2⟩, VRs.mono (RLe.refl []) (hm.nest fl) cs _ h4⟩
  | .ptr _ _, _, h => by
    simp only [VR] at h ⊢
    obtain ⟨b, c, h1, h2⟩ := h
    exact ⟨b, c, hr _ _ h1, h2⟩
  | .ipt fl cs, _, h => by
    simp only [VR] at h ⊢
    obtain ⟨a, vs, h2, h3, h4⟩ := h
    exact ⟨a, vs, h2, fun i u hu => ⟨hm _ _ _ (h3 i u hu).1, (h3 i u hu).2⟩, VRs.mono (RLe.refl []) (hm.nest fl) cs _ h4⟩
  | .clo _ fst caps, _, h => by
    simp only [VR] at h ⊢
    obtain ⟨x, y, h1, h2, h3⟩ := h
    exact ⟨x, y, h1, VRs.mono hr hm fst _ h2, VRs.mono hr hm caps _ h3⟩
  | .yl _, _, h => by simpa only [VR] using h
  | .gh _, _, _ => by simp only [VR]
  | .chn _, _, h => by
    simp only [VR] at h ⊢
    obtain ⟨b, c, h1, h2⟩ := h
    exact ⟨b, c, hr _ _ h1, h2⟩
  | .cut _ _ _ _ _ _, _, h => by
    simp only [VR] at h ⊢
    rcases h with h | ⟨b, c, h1, h2⟩
    . exact .inl h
    . exact .inr ⟨b, c, hr _ _ h1, h2⟩
  | .any, _, _ => by simp only [VR]
theorem VRs.mono {r r' : Rho} {m m' : MM} (hr : RLe r r') (hm : MLe m m') : ∀ (xs : List AV) (vs : List Value), VRs r m xs vs -> VRs r' m' xs vs
  | [], _, h => by simpa only [VRs] using h
  | x :: xs, _, h => by
    simp only [VRs] at h ⊢
    obtain ⟨v, vs', h1, h2, h3⟩ := h
    exact ⟨v, vs', h1, VR.mono hr hm x _ h2, VRs.mono hr hm xs _ h3⟩
end

theorem VRs.length {r : Rho} {m : MM} : ∀ {xs : List AV} {vs : List Value}, VRs r m xs vs -> vs.length = xs.length
  | [], _, h => by simp only [VRs] at h; subst h; rfl
  | x :: xs, _, h => by
    simp only [VRs] at h
    obtain ⟨v, vs', rfl, _, h3⟩ := h
    simp [VRs.length h3]

theorem VRs.get {r : Rho} {m : MM} : ∀ {xs : List AV} {vs : List Value}, VRs r m xs vs -> ∀ (i : Nat) (x : AV), xs[i]? = some x -> ∃ v, vs[i]? = some v /\ VR r m x v
  | [], _, _, i, x, hx => by simp at hx
  | y :: ys, _, h, i, x, hx => by
    simp only [VRs] at h
    obtain ⟨v, vs', rfl, h2, h3⟩ := h
    cases i with
    | zero => simp at hx; subst hx; exact ⟨v, by simp, h2⟩
    | succ i => simp at hx; simpa using VRs.get h3 i x hx

theorem VRs.getD {r : Rho} {m : MM} {xs : List AV} {vs : List Value} (h : VRs r m xs vs) (i : Nat) (u : Value) : VR r m (xs.getD i .any) (vs.getD i u) := by
  rcases hx : xs[i]? with _ | x
  . simp [List.getD, hx, VR]
  . obtain ⟨v, hv, hr⟩ := h.get i x hx
    simp [List.getD, hx, hv, hr]

theorem VRs.set {r : Rho} {m : MM} : ∀ {xs : List AV} {vs : List Value}, VRs r m xs vs -> ∀ (i : Nat) {x : AV} {v : Value}, VR r m x v -> VRs r m (xs.set i x) (vs.set i v)
  | [], _, h, i, x, v, _ => by simp only [VRs] at h; subst h; simp [VRs]
  | y :: ys, _, h, i, x, v, hx => by
    simp only [VRs] at h
    obtain ⟨w, vs', rfl, h2, h3⟩ := h
    cases i with
    | zero => simp only [List.set_cons_zero, VRs]; exact ⟨v, vs', rfl, hx, h3⟩
    | succ i => simp only [List.set_cons_succ, VRs]; exact ⟨w, _, rfl, h2, h3.set i hx⟩

theorem VRs.app {r : Rho} {m : MM} : ∀ {xs : List AV} {vs : List Value}, VRs r m xs vs -> ∀ {ys : List AV} {us : List Value}, VRs r m ys us -> VRs r m (xs ++ ys) (vs ++ us)
  | [], _, h, ys, us, k => by simp only [VRs] at h; subst h; simpa using k
  | y :: ys, _, h, zs, us, k => by
    simp only [VRs] at h
    obtain ⟨w, vs', rfl, h2, h3⟩ := h
    simp only [List.cons_append, VRs]
    exact ⟨w, _, rfl, h2, h3.app k⟩

theorem VRs.take {r : Rho} {m : MM} : ∀ {xs : List AV} {vs : List Value}, VRs r m xs vs -> ∀ n, VRs r m (xs.take n) (vs.take n)
  | [], _, h, n => by simp only [VRs] at h; subst h; simp [VRs]
  | y :: ys, _, h, n => by
    simp only [VRs] at h
    obtain ⟨w, vs', rfl, h2, h3⟩ := h
    cases n with
    | zero => simp [VRs]
    | succ n => simp only [List.take_succ_cons, VRs]; exact ⟨w, _, rfl, h2, h3.take n⟩

theorem VRs.drop {r : Rho} {m : MM} : ∀ {xs : List AV} {vs : List Value}, VRs r m xs vs -> ∀ n, VRs r m (xs.drop n) (vs.drop n)
  | [], _, h, n => by simp only [VRs] at h; subst h; simp [VRs]
  | y :: ys, _, h, n => by
    simp only [VRs] at h
    obtain ⟨w, vs', rfl, h2, h3⟩ := h
    cases n with
    | zero => simp only [List.drop_zero, VRs]; exact ⟨w, _, rfl, h2, h3⟩
    | succ n => simpa using h3.drop n

theorem VRs.one {r : Rho} {m : MM} {x : AV} {v : Value} (h : VR r m x v) : VRs r m [x] [v] := by
  simp only [VRs]; exact ⟨v, [], rfl, h, rfl⟩
theorem VRs.nil {r : Rho} {m : MM} : VRs r m [] [] := by simp only [VRs]
theorem VRs.replicate {r : Rho} {m : MM} {x : AV} {v : Value} (h : VR r m x v) : ∀ n, VRs r m (List.replicate n x) (List.replicate n v)
  | 0 => by simp [VRs]
  | n + 1 => by simp only [List.replicate_succ, VRs]; exact ⟨v, _, rfl, h, VRs.replicate h n⟩
theorem RLe.nil (r : Rho) : RLe [] r := fun _ _ h => by simp at h
theorem dT {p : Prop} [Decidable p] (h : p) : decide p = true := decide_eq_true h
theorem dF {p : Prop} [Decidable p] (h : ¬ p) : decide p = false := decide_eq_false h
end Go.Lat
namespace Go.Lat
open Go.RowKit

inductive AObj where
  | row (t : TypeId) (sz : Nat) (cs : List AV)
  | box (t : TypeId) (cs : List AV)
  | chan (cap : Nat) (closed : Bool) (buf : List AV)
  | dead
  deriving Inhabited

def AObj.live : AObj -> Bool
  | .dead => false
  | .row _ _ cs => !cs.isEmpty
  | _ => true
theorem live_row {t : TypeId} {sz : Nat} {cs : List AV} (h : 0 < cs.length) : (AObj.row t sz cs).live = true := by
  cases cs with
  | nil => cases h
  | cons c cs => rfl

structure St where
  nt : Nat
  tm : Nat -> AV
  heap : List AObj
  ho : Nat

def St.get (s : St) (t : Nat) : AV := s.tm t
def putT (s : Nat -> AV) (d : Nat) (v : AV) : Nat -> AV := fun t => if t = d then v else s t
def constAV : Value -> AV
  | .int k n => .int k n
  | .bool b => .bool b
  | .slice none 0 0 => .nilS
  | .pointer none => .nilP
  | .nilFunc => .nilF
  | _ => .any
def St.eval (s : St) : Operand -> AV
  | .tmp t => s.get t
  | .const v => constAV v
  | .global _ => .any
  | .func f => .clo f [] []
def St.put (s : St) (d : Option Tmp) (v : AV) : St :=
  match d with
  | some d => if d < s.nt then { s with tm := putT s.tm d v } else s
  | none => s

def OR (r : Rho) (m : MM) (w : World) (id : Nat) : AObj -> Prop
  | .row t sz cs => cs = [] \/ ∃ b c cur, r[id]? = some (b, c) /\ w.heap[b]? = some (.cells cur t (0, 0)) /\ (∀ u ∈ cur.toList.take cs.length, u.oneCell' = true) /\ c <= maxLen /\ cur.size = c * sz /\ cs.length <= cur.size /\ VRs r m cs (cur.toList.take cs.length)
  | .box t cs => ∃ b c cur, r[id]? = some (b, c) /\ w.heap[b]? = some (.cells cur t (0, 0)) /\ (∀ u ∈ cur.toList, u.oneCell' = true) /\ VRs r m cs cur.toList
  | .chan cap cl buf => ∃ b c bv s rc, r[id]? = some (b, c) /\ w.heap[b]? = some (.chan cap bv cl s rc false) /\ VRs r m buf bv.toList
  | .dead => True

theorem froz_of {w w' : World} {p : Addr} (h : w'.heap[p.block]? = w.heap[p.block]?) : w'.frozen? p = w.frozen? p := by unfold World.frozen?; rw [h]

structure R (X : Nat -> Prop) (D : List Deferred × Rho) (w0 : World) (mA : Mem) (r : Rho) (m : MM) (st : St) (a : Act) (w : World) : Prop where
  os : w.os = w0.os
  tape : w.tape = w0.tape
  output : w.output = w0.output
  size : w0.heap.size <= w.heap.size
  old : ∀ k, k < w0.heap.size -> ¬ X k -> w.heap[k]? = w0.heap[k]?
  len : r.length = st.heap.length
  lt : ∀ (i : Nat) o (b c : Nat), st.heap[i]? = some o -> o.live = true -> r[i]? = some (b, c) -> b < w.heap.size
  mem : ∀ p v, m true p = some v -> w.cell? p = some v /\ p.block < w.heap.size
  low : ∀ p v, m false p = some v -> m true p = some v
  newer : ∀ p v, m false p = some v -> w0.heap.size <= p.block
  fz : ∀ p v, m false p = some v -> w.frozen? p = false
  lim : ∀ p v, m true p = some v -> mA p = some v \/ w0.heap.size <= p.block
  apart : ∀ p v, m true p = some v -> ∀ (i : Nat) o (b c : Nat), st.heap[i]? = some o -> o.live = true -> r[i]? = some (b, c) -> p.block ≠ b
  obj : ∀ (i : Nat) o, st.heap[i]? = some o -> OR r m w i o
  own : ∀ (i : Nat) o (b c : Nat), st.heap[i]? = some o -> o.live = true -> r[i]? = some (b, c) -> w0.heap.size <= b \/ X b
  inj : ∀ (i j : Nat) oi oj (b c c' : Nat), st.heap[i]? = some oi -> st.heap[j]? = some oj -> oi.live = true -> oj.live = true -> r[i]? = some (b, c) -> r[j]? = some (b, c') -> i = j
  size' : a.tmps.size = st.nt
  tmps : ∀ t, VR r m (st.tm t) (a.tmps.getD t undef)
  defers : a.defers = D.1
  base : RLe D.2 r
  short : D.2.length <= st.ho
  nox : st.ho = 0 -> (∀ k, ¬ X k) /\ D.2 = []
  marks : ∀ d ∈ D.1, ∃ b, d = { target := .collected b, args := #[] } /\ w0.heap.size <= b /\ w.heap[b]? = some (.deferred (some []))
  mnod : D.1.Nodup

section
variable {X : Nat -> Prop} {D : List Deferred × Rho} {w0 : World} {mA : Mem} {r : Rho} {m : MM} {st : St} {a : Act} {w w' : World}

theorem VR_const (r : Rho) (m : MM) (v : Value) : VR r m (constAV v) v := by
  unfold constAV
  split <;> simp only [VR]

theorem R.eval (h : R X D w0 mA r m st a w) (x : Operand) : VR r m (st.eval x) (a.eval x) := by
  cases x with
  | tmp t =>
    exact h.tmps t
  | const v => exact VR_const r m v
  | global g => simp only [St.eval, VR]
  | func f => simp only [St.eval, VR, Act.eval]; exact ⟨#[], #[], rfl, VRs.nil, VRs.nil⟩

theorem R.put (h : R X D w0 mA r m st a w) (d : Option Tmp) {x : AV} {v : Value} (hx : VR r m x v) : R X D w0 mA r m (st.put d x) (a.put d v) w := by
  cases d with
  | none => exact h
  | some d =>
    by_cases hd : d < st.nt
    . simp only [St.put, if_pos hd]
      have hs := h.size'
      refine { h with tmps := ?_, defers := ?_, len := ?_, obj := ?_, own := ?_, inj := ?_, apart := ?_, size' := ?_, nox := h.nox }
      . exact h.len
      . exact h.apart
      . exact h.obj
      . exact h.own
      . exact h.inj
      . simpa [Act.put] using h.size'
      . intro t
        simp only [Act.put, putT]
        by_cases ht : t = d
        . subst ht
          rw [if_pos rfl]
          simp [hs, hd]
          exact hx
        . rw [if_neg ht]
          have := h.tmps t
          simpa [Array.getElem?_setIfInBounds, Ne.symm ht] using this
      . exact h.defers
    . simp only [St.put, if_neg hd]
      refine { h with tmps := ?_, defers := ?_, size' := ?_ }
      . simpa [Act.put] using h.size'
      . intro t
        have := h.tmps t
        have hs := h.size'
        simp only [Act.put]
        rw [show a.tmps.setIfInBounds d v = a.tmps from by simp [Array.setIfInBounds, hs, hd]]
        exact this
      . exact h.defers

theorem OR.mono {r' : Rho} {m' : MM} (hr : RLe r r') (hm : MLe m m') {i : Nat} {o : AObj} (h : OR r m w i o) : OR r' m' w i o := by
  cases o with
  | row t sz cs =>
    rcases h with h | ⟨b, c, cur, h1, h2, h0, h3, h4, h5, h6⟩
    . exact .inl h
    exact .inr ⟨b, c, cur, hr _ _ h1, h2, h0, h3, h4, h5, h6.mono hr hm⟩
  | box t cs =>
    obtain ⟨b, c, cur, h1, h2, h0, h3⟩ := h
    exact ⟨b, c, cur, hr _ _ h1, h2, h0, h3.mono hr hm⟩
  | chan cap cl buf =>
    obtain ⟨b, c, bv, s, rc, h1, h2, h3⟩ := h
    exact ⟨b, c, bv, s, rc, hr _ _ h1, h2, h3.mono hr hm⟩
  | dead => trivial

theorem OR.same {i : Nat} {o : AObj} (h : OR r m w i o) (hs : ∀ (b c : Nat), r[i]? = some (b, c) -> o.live = true -> w'.heap[b]? = w.heap[b]?) : OR r m w' i o := by
  cases o with
  | row t sz cs =>
    rcases h with h | ⟨b, c, cur, h1, h2, h0, h3, h4, h5, h6⟩
    . exact .inl h
    . rcases Nat.eq_zero_or_pos cs.length with hz | hz
      . exact .inl (List.eq_nil_of_length_eq_zero hz)
      exact .inr ⟨b, c, cur, h1, (hs b c h1 (live_row hz)).trans h2, h0, h3, h4, h5, h6⟩
  | box t cs =>
    obtain ⟨b, c, cur, h1, h2, h0, h3⟩ := h
    exact ⟨b, c, cur, h1, (hs b c h1 rfl).trans h2, h0, h3⟩
  | chan cap cl buf =>
    obtain ⟨b, c, bv, s, rc, h1, h2, h3⟩ := h
    exact ⟨b, c, bv, s, rc, h1, (hs b c h1 rfl).trans h2, h3⟩
  | dead => trivial

theorem OR.cells {i : Nat} {o : AObj} (h : OR r m w i o) (hl : o.live = true) {b c : Nat} (hi : r[i]? = some (b, c)) : ∃ x, w.heap[b]? = some x /\ (∀ d, x ≠ .deferred d) /\ ∀ l, x ≠ .loop l := by
  cases o with
  | row t sz cs =>
    rcases h with h | ⟨b', c', cur, h1, h2, _⟩
    . subst h; cases hl
    . rw [hi] at h1; cases h1; exact ⟨_, h2, by simp, by simp⟩
  | box t cs =>
    obtain ⟨b', c', cur, h1, h2, _⟩ := h
    rw [hi] at h1; cases h1; exact ⟨_, h2, by simp, by simp⟩
  | chan cap cl buf =>
    obtain ⟨b', c', bv, s, rc, h1, h2, _⟩ := h
    rw [hi] at h1; cases h1; exact ⟨_, h2, by simp, by simp⟩
  | dead => cases hl

theorem R.grown (h : R X D w0 mA r m st a w) (g : w.grownBy w' none) : R X D w0 mA r m st a w' := by
  have hb : ∀ b, b < w.heap.size -> w'.heap[b]? = w.heap[b]? := fun b hb => g.block b hb (by simp)
  refine { h with os := g.os.trans h.os, tape := g.tape.trans h.tape, output := g.output.trans h.output, size := Nat.le_trans h.size g.size, old := ?_, lt := ?_, mem := ?_, fz := fun p v hp => (froz_of (hb _ (h.mem p v (h.low p v hp)).2)).trans (h.fz p v hp), obj := ?_, marks := ?_ }
  . intro k hk hX
    exact (hb k (Nat.lt_of_lt_of_le hk h.size)).trans (h.old k hk hX)
  . intro i o b c ho hl hi
    exact Nat.lt_of_lt_of_le (h.lt i o b c ho hl hi) g.size
  . intro p v hp
    obtain ⟨h1, h2⟩ := h.mem p v hp
    exact ⟨(World.cell?_of_block (hb _ h2)).trans h1, Nat.lt_of_lt_of_le h2 g.size⟩
  . intro i o ho
    exact (h.obj i o ho).same fun b c hi hl => hb b (h.lt i o b c ho hl hi)
  . intro d hd
    obtain ⟨b, e1, e0, e2⟩ := h.marks d hd
    exact ⟨b, e1, e0, (hb b (Array.getElem?_eq_some_iff.1 e2).1).trans e2⟩

theorem R.modify (h : R X D w0 mA r m st a w) {i : Nat} {o o' : AObj} {b c : Nat} (ho : st.heap[i]? = some o) (hl : o.live = true) (hi : r[i]? = some (b, c))
    (g : w.grownBy w' (some b)) (h' : OR r m w' i o') : R X D w0 mA r m { st with heap := st.heap.set i o' } a w' := by
  have hb : ∀ k, k < w.heap.size -> k ≠ b -> w'.heap[k]? = w.heap[k]? := fun k hk hne => g.block k hk (by simpa using hne)
  have hlen : i < st.heap.length := by
    rcases Nat.lt_or_ge i st.heap.length with h1 | h1
    . exact h1
    . rw [List.getElem?_eq_none h1] at ho; cases ho
  have get : ∀ (j : Nat) oj, (st.heap.set i o')[j]? = some oj -> (j = i /\ oj = o') \/ (j ≠ i /\ st.heap[j]? = some oj) := by
    intro j oj hj
    by_cases hji : j = i
    . subst hji
      rw [List.getElem?_set_self hlen] at hj
      exact .inl ⟨rfl, (Option.some.inj hj).symm⟩
    . rw [List.getElem?_set_ne (Ne.symm hji)] at hj
      exact .inr ⟨hji, hj⟩
  refine { os := g.os.trans h.os, tape := g.tape.trans h.tape, output := g.output.trans h.output, size := Nat.le_trans h.size g.size, old := ?_, len := ?_, lt := ?_, mem := ?_, low := h.low, newer := h.newer, fz := fun p v hp => (froz_of (hb _ (h.mem p v (h.low p v hp)).2 (h.apart p v (h.low p v hp) i o b c ho hl hi))).trans (h.fz p v hp), lim := h.lim, apart := ?_, obj := ?_, own := ?_, inj := ?_, size' := h.size', tmps := h.tmps, defers := h.defers, base := h.base, short := h.short, nox := h.nox, mnod := h.mnod, marks := ?_ }
  . intro k hk hX
    refine (hb k (Nat.lt_of_lt_of_le hk h.size) ?_).trans (h.old k hk hX)
    rintro rfl
    rcases h.own i o k c ho hl hi with h1 | h1
    . omega
    . exact hX h1
  . simpa using h.len
  . intro j oj b' c' hj hlj hrj
    rcases get j oj hj with ⟨rfl, rfl⟩ | ⟨hne, hj'⟩
    . rw [hi] at hrj
      cases hrj
      exact Nat.lt_of_lt_of_le (h.lt _ o b c ho hl hi) g.size
    . exact Nat.lt_of_lt_of_le (h.lt j oj b' c' hj' hlj hrj) g.size
  . intro p v hp
    obtain ⟨h1, h2⟩ := h.mem p v hp
    exact ⟨(World.cell?_of_block (hb _ h2 (h.apart p v hp i o b c ho hl hi))).trans h1, Nat.lt_of_lt_of_le h2 g.size⟩
  . intro p v hp j oj b' c' hj hlj hrj
    rcases get j oj hj with ⟨rfl, rfl⟩ | ⟨hne, hj'⟩
    . rw [hi] at hrj
      cases hrj
      exact h.apart p v hp _ o b c ho hl hi
    . exact h.apart p v hp j oj b' c' hj' hlj hrj
  . intro j oj hj
    rcases get j oj hj with ⟨rfl, rfl⟩ | ⟨hne, hj'⟩
    . exact h'
    . refine (h.obj j oj hj').same fun b' c' hrj hlj => hb b' (h.lt j oj b' c' hj' hlj hrj) ?_
      rintro rfl
      exact hne (h.inj j i oj o b' c' c hj' ho hlj hl hrj hi)
  . intro j oj b' c' hj hlj hrj
    rcases get j oj hj with ⟨rfl, rfl⟩ | ⟨hne, hj'⟩
    . rw [hi] at hrj
      cases hrj
      exact h.own _ o b c ho hl hi
    . exact h.own j oj b' c' hj' hlj hrj
  . intro j k oj ok b' c1 c2 hj hk hlj hlk hrj hrk
    rcases get j oj hj with ⟨rfl, rfl⟩ | ⟨hnj, hj'⟩ <;> rcases get k ok hk with ⟨rfl, rfl⟩ | ⟨hnk, hk'⟩
    . rfl
    . rw [hi] at hrj
      cases hrj
      exact h.inj _ k o ok b _ c2 ho hk' hl hlk hi hrk
    . rw [hi] at hrk
      cases hrk
      exact h.inj j _ oj o b c1 _ hj' ho hlj hl hrj hi
    . exact h.inj j k oj ok b' c1 c2 hj' hk' hlj hlk hrj hrk
  . intro d hd
    obtain ⟨k, e1, e0, e2⟩ := h.marks d hd
    refine ⟨k, e1, e0, (hb k (Array.getElem?_eq_some_iff.1 e2).1 ?_).trans e2⟩
    rintro rfl
    obtain ⟨x, e3, e4, _⟩ := (h.obj i o ho).cells hl hi
    rw [e2] at e3; cases e3; exact e4 _ rfl

theorem R.push (h : R X D w0 mA r m st a w) {o : AObj} {b c : Nat} (hb : b < w.heap.size)
    (hfree : ∀ (i : Nat) oi (c' : Nat), st.heap[i]? = some oi -> oi.live = true -> r[i]? = some (b, c') -> False)
    (hseal : ∀ p v, m true p = some v -> p.block ≠ b) (hown : w0.heap.size <= b \/ X b)
    (h' : OR (r ++ [(b, c)]) m w st.heap.length o) : R X D w0 mA (r ++ [(b, c)]) m { st with heap := st.heap ++ [o] } a w := by
  have hr := RLe.app r [(b, c)]
  have get : ∀ (j : Nat) oj, (st.heap ++ [o])[j]? = some oj -> (j < st.heap.length /\ st.heap[j]? = some oj) \/ (j = st.heap.length /\ oj = o) := by
    intro j oj hj
    rcases Nat.lt_or_ge j st.heap.length with h1 | h1
    . rw [List.getElem?_append_left h1] at hj
      exact .inl ⟨h1, hj⟩
    . rw [List.getElem?_append_right h1] at hj
      rcases Nat.eq_zero_or_pos (j - st.heap.length) with h2 | h2
      . rw [h2] at hj
        simp at hj
        exact .inr ⟨by omega, hj.symm⟩
      . rw [List.getElem?_eq_none (by simp; omega)] at hj
        cases hj
  have rget : ∀ (j b' c' : Nat), (r ++ [(b, c)])[j]? = some (b', c') -> (j < r.length /\ r[j]? = some (b', c')) \/ (j = r.length /\ b' = b /\ c' = c) := by
    intro j b' c' hj
    rcases Nat.lt_or_ge j r.length with h1 | h1
    . rw [List.getElem?_append_left h1] at hj
      exact .inl ⟨h1, hj⟩
    . rw [List.getElem?_append_right h1] at hj
      rcases Nat.eq_zero_or_pos (j - r.length) with h2 | h2
      . rw [h2] at hj
        simp at hj
        exact .inr ⟨by omega, hj.1.symm, hj.2.symm⟩
      . rw [List.getElem?_eq_none (by simp; omega)] at hj
        cases hj
  have hlen := h.len
  refine { h with len := ?_, lt := ?_, apart := ?_, obj := ?_, own := ?_, inj := ?_, tmps := ?_, base := h.base.trans hr }
  . simp [h.len]
  . intro j oj b' c' hj hlj hrj
    rcases rget j b' c' hrj with ⟨hlt, hrj'⟩ | ⟨heq, rfl, _⟩
    . rcases get j oj hj with ⟨_, hj'⟩ | ⟨he, _⟩
      . exact h.lt j oj b' c' hj' hlj hrj'
      . omega
    . exact hb
  . intro p v hp j oj b' c' hj hlj hrj
    rcases rget j b' c' hrj with ⟨hlt, hrj'⟩ | ⟨heq, rfl, _⟩
    . rcases get j oj hj with ⟨_, hj'⟩ | ⟨he, _⟩
      . exact h.apart p v hp j oj b' c' hj' hlj hrj'
      . omega
    . exact hseal p v hp
  . intro j oj hj
    rcases get j oj hj with ⟨_, hj'⟩ | ⟨rfl, rfl⟩
    . exact (h.obj j oj hj').mono hr (MLe.refl m)
    . exact h'
  . intro j oj b' c' hj hlj hrj
    rcases rget j b' c' hrj with ⟨hlt, hrj'⟩ | ⟨heq, rfl, _⟩
    . rcases get j oj hj with ⟨_, hj'⟩ | ⟨he, _⟩
      . exact h.own j oj b' c' hj' hlj hrj'
      . omega
    . exact hown
  . intro j k oj ok b' c1 c2 hj hk hlj hlk hrj hrk
    rcases rget j b' c1 hrj with ⟨hlt1, hrj'⟩ | ⟨heq1, hb1, _⟩ <;> rcases rget k b' c2 hrk with ⟨hlt2, hrk'⟩ | ⟨heq2, hb2, _⟩
    . rcases get j oj hj with ⟨_, hj'⟩ | ⟨he, _⟩ <;> rcases get k ok hk with ⟨_, hk'⟩ | ⟨he', _⟩
      . exact h.inj j k oj ok b' c1 c2 hj' hk' hlj hlk hrj' hrk'
      all_goals omega
    . rcases get j oj hj with ⟨_, hj'⟩ | ⟨he, _⟩
      . subst hb2; exact (hfree j oj c1 hj' hlj hrj').elim
      . omega
    . rcases get k ok hk with ⟨_, hk'⟩ | ⟨he, _⟩
      . subst hb1; exact (hfree k ok c2 hk' hlk hrk').elim
      . omega
    . omega
  . exact fun t => (h.tmps t).mono hr (MLe.refl m)

theorem R.kill (h : R X D w0 mA r m st a w) (i : Nat) : R X D w0 mA r m { st with heap := st.heap.set i .dead } a w := by
  have live : ∀ (j : Nat) o, (st.heap.set i .dead)[j]? = some o -> o.live = true -> st.heap[j]? = some o := fun j o ho hlv => by
    by_cases hji : i = j
    . subst hji
      rcases Nat.lt_or_ge i st.heap.length with h1 | h1
      . rw [List.getElem?_set_self h1] at ho
        cases ho
        cases hlv
      . rw [List.getElem?_eq_none (by simpa using h1)] at ho; cases ho
    . rwa [List.getElem?_set_ne hji] at ho
  refine { h with len := by simpa using h.len, lt := ?_, apart := ?_, obj := ?_, own := ?_, inj := ?_ }
  . exact fun j o b c ho hl hr => h.lt j o b c (live j o ho hl) hl hr
  . exact fun p v hp j o b c ho hlv hr => h.apart p v hp j o b c (live j o ho hlv) hlv hr
  . intro j o ho
    by_cases hl : o.live = true
    . exact h.obj j o (live j o ho hl)
    . cases o with
      | dead => trivial
      | box t cs => exact absurd rfl hl
      | chan cap cl buf => exact absurd rfl hl
      | row t sz cs =>
        cases cs with
        | nil => exact .inl rfl
        | cons c cs => exact absurd rfl hl
  . exact fun j o b c ho hlv hr => h.own j o b c (live j o ho hlv) hlv hr
  . exact fun j k oj ok b c c' hj hk hlj hlk => h.inj j k oj ok b c c' (live j oj hj hlj) (live k ok hk hlk) hlj hlk

theorem R.pushN (h : R X D w0 mA r m st a w) (t : TypeId) (sz : Nat) (e : Nat × Nat := (0, 0)) : R X D w0 mA (r ++ [e]) m { st with heap := st.heap ++ [.row t sz []] } a w := by
  have hr := RLe.app r [e]
  have get : ∀ (j : Nat) oj, (st.heap ++ [.row t sz []])[j]? = some oj -> oj.live = true -> j < st.heap.length /\ st.heap[j]? = some oj := by
    intro j oj hj hl
    rcases Nat.lt_or_ge j st.heap.length with h1 | h1
    . rw [List.getElem?_append_left h1] at hj
      exact ⟨h1, hj⟩
    . rw [List.getElem?_append_right h1] at hj
      rcases Nat.eq_zero_or_pos (j - st.heap.length) with h2 | h2
      . rw [h2] at hj
        simp at hj
        subst hj
        cases hl
      . rw [List.getElem?_eq_none (by simp; omega)] at hj
        cases hj
  have rget : ∀ (j b' c' : Nat), j < st.heap.length -> (r ++ [e])[j]? = some (b', c') -> r[j]? = some (b', c') := by
    intro j b' c' hlt hj
    rwa [List.getElem?_append_left (by rw [h.len]; exact hlt)] at hj
  refine { h with len := by simp [h.len], lt := ?_, apart := ?_, obj := ?_, own := ?_, inj := ?_, tmps := fun t => (h.tmps t).mono hr (MLe.refl m), base := h.base.trans hr }
  . intro j oj b c hj hl hrj
    obtain ⟨h1, h2⟩ := get j oj hj hl
    exact h.lt j oj b c h2 hl (rget j b c h1 hrj)
  . intro p v hp j oj b c hj hl hrj
    obtain ⟨h1, h2⟩ := get j oj hj hl
    exact h.apart p v hp j oj b c h2 hl (rget j b c h1 hrj)
  . intro j oj hj
    by_cases hl : oj.live = true
    . obtain ⟨h1, h2⟩ := get j oj hj hl
      exact (h.obj j oj h2).mono hr (MLe.refl m)
    . cases oj with
      | dead => trivial
      | box t cs => exact absurd rfl hl
      | chan cap cl buf => exact absurd rfl hl
      | row t sz cs =>
        cases cs with
        | nil => exact .inl rfl
        | cons c cs => exact absurd rfl hl
  . intro j oj b c hj hl hrj
    obtain ⟨h1, h2⟩ := get j oj hj hl
    exact h.own j oj b c h2 hl (rget j b c h1 hrj)
  . intro j k oj ok b c c' hj hk hlj hlk hrj hrk
    obtain ⟨h1, h2⟩ := get j oj hj hlj
    obtain ⟨h3, h4⟩ := get k ok hk hlk
    exact h.inj j k oj ok b c c' h2 h4 hlj hlk (rget j b c h1 hrj) (rget k b c' h3 hrk)

theorem R.fresh (h : R X D w0 mA r m st a w) {o : AObj} {c : Nat} (g : w.grownBy w' none) (hb : w.heap.size < w'.heap.size)
    (h' : OR (r ++ [(w.heap.size, c)]) m w' st.heap.length o) : R X D w0 mA (r ++ [(w.heap.size, c)]) m { st with heap := st.heap ++ [o] } a w' := by
  refine (h.grown g).push hb ?_ ?_ ?_ h'
  . intro i oi c' hi hl hr
    have := h.lt i oi _ c' hi hl hr
    omega
  . intro p v hp
    have := (h.mem p v hp).2
    omega
  . exact .inl h.size
end
end Go.Lat
namespace Go.Lat
open Go.RowKit

inductive TK where
  | one
  | int (k : IntKind)
  | bool
  | sl (e : TypeId)
  | st (fs : List (Nat × TypeId))
  | ar (n : Nat) (e : TypeId)
  | ch (e : TypeId)
structure TI where
  k : TK
  size : Nat
  bytes : Nat
  zero : List AV
def TK.agg : TK -> Bool
  | .st _ | .ar _ _ => true
  | _ => false
abbrev TT := TypeId -> Option TI

structure TOk (P : Program) (t : TypeId) (i : TI) : Prop where
  info : ∃ inf z, P.info? t = some inf /\ inf.size = i.size /\ inf.bytes = i.bytes /\ inf.zero = some z /\ VRs [] (fun _ _ => none) i.zero z.cells.toList /\ (∀ u ∈ z.cells.toList, u.oneCell' = true) /\ i.zero.length = i.size
  kind : match i.k with
    | .one => ∃ d, P.underlying t = some d /\ (∀ f, d ≠ .struct f) /\ (∀ n e, d ≠ .array n e)
    | .int k => P.underlying t = some (.int k)
    | .sl e => P.underlying t = some (.slice e)
    | .bool => P.underlying t = some .bool
    | .st fs => ∃ F, P.underlying t = some (.struct F) /\ (F.toList.map fun f => (f.offset, f.type)) = fs /\ ∀ f ∈ F.toList, ∃ inf, P.info? f.type = some inf
    | .ar n e => P.underlying t = some (.array n e)
    | .ch e => ∃ d, P.underlying t = some (.chan d e)
  eqs : match i.k with
    | .st _ => P.eqGuardType P.depth t = false /\ P.stoodInHeld t = false /\ ∀ F, P.underlying t = some (.struct F) -> ∀ f ∈ F.toList, f.name ≠ "_"
    | _ => True

def TsOk (P : Program) (T : TT) : Prop := ∀ t i, T t = some i -> TOk P t i

section
variable {P : Program} {T : TT} {t : TypeId} {i : TI}
theorem TOk.run_sizeOf (h : TOk P t i) (w : World) : (sizeOf t).run P w = .ok i.size w := by
  obtain ⟨inf, z, h1, h2, _⟩ := h.info
  simp [sizeOf, typeInfo, program, Sem.run, h1, h2, Sem.run_bind, Result.andThen, Sem.run_pure]
theorem TOk.run_isAgg (h : TOk P t i) (w : World) : (isAgg t).run P w = .ok i.k.agg w := by
  have hk := h.kind
  unfold isAgg
  rcases hi : i.k with _ | k | _ | e | fs | ⟨n, e⟩ | e <;> rw [hi] at hk <;> simp only [TK.agg]
  . obtain ⟨d, h1, h2, h3⟩ := hk
    rw [Sem.run_bind, run_underlying h1]
    simp only [Result.andThen_ok]
    cases d <;> first | rfl | (exact absurd rfl (h2 _)) | (exact absurd rfl (h3 _ _))
  . rw [Sem.run_bind, run_underlying hk]; rfl
  . rw [Sem.run_bind, run_underlying hk]; rfl
  . rw [Sem.run_bind, run_underlying hk]; rfl
  . obtain ⟨F, h1, _⟩ := hk
    rw [Sem.run_bind, run_underlying h1]; rfl
  . rw [Sem.run_bind, run_underlying hk]; rfl
  . obtain ⟨d, h1⟩ := hk
    rw [Sem.run_bind, run_underlying h1]; rfl
theorem TOk.und (h : TOk P t i) : ∃ d, P.underlying t = some d := by
  have hk := h.kind
  rcases hi : i.k with _ | k | _ | e | fs | ⟨n, e⟩ | e <;> rw [hi] at hk
  . exact ⟨_, hk.choose_spec.1⟩
  . exact ⟨_, hk⟩
  . exact ⟨_, hk⟩
  . exact ⟨_, hk⟩
  . exact ⟨_, hk.choose_spec.1⟩
  . exact ⟨_, hk⟩
  . exact ⟨_, hk.choose_spec⟩
theorem TOk.run_zero (h : TOk P t i) (w : World) : ∃ z, (zeroValue t).run P w = .ok z w /\ VRs [] (fun _ _ => none) i.zero z.cells.toList /\ (∀ u ∈ z.cells.toList, u.oneCell' = true) := by
  obtain ⟨inf, z, h1, _, _, h4, h5, h6, _⟩ := h.info
  refine ⟨z, ?_, h5, h6⟩
  simp [zeroValue, typeInfo, program, Sem.run, h1, h4, Sem.run_bind, Result.andThen, Sem.run_pure]
end

def cellsAt (h : List AObj) : AV -> Option (List AV)
  | .ptr id off => match h[id]? with
    | some (.row _ _ cs) => some (cs.drop off)
    | some (.box _ cs) => some (cs.drop off)
    | _ => none
  | .ipt _ cs => some cs
  | _ => none
def AV.cells : AV -> Option (List AV)
  | .agg cs => some cs
  | .tup _ | .any | .yl _ | .gh _ | .cut _ _ _ _ _ _ => none
  | x => some [x]

section
variable {X : Nat -> Prop} {D : List Deferred × Rho} {w0 : World} {mA : Mem} {r : Rho} {m : MM} {st : St} {a : Act} {w w' : World}

theorem cells_sound {x : AV} {v : Value} {cs : List AV} (hv : VR r m x v) (hc : x.cells = some cs) : VRs r m cs v.cells.toList /\ (∀ u ∈ v.cells.toList, u.oneCell' = true) := by
  cases x <;> simp only [AV.cells, Option.some.injEq, reduceCtorEq] at hc <;> try subst hc
  case agg cs =>
    simp only [VR] at hv
    obtain ⟨arr, rfl, h1, h2⟩ := hv
    exact ⟨h2, h1⟩
  case int k n => have h := hv; simp only [VR] at h; subst h; exact ⟨VRs.one hv, by simp [Value.cells, Value.oneCell']⟩
  case bool b => have h := hv; simp only [VR] at h; subst h; exact ⟨VRs.one hv, by simp [Value.cells, Value.oneCell']⟩
  case nilS => have h := hv; simp only [VR] at h; subst h; exact ⟨VRs.one hv, by simp [Value.cells, Value.oneCell']⟩
  case nilP => have h := hv; simp only [VR] at h; subst h; exact ⟨VRs.one hv, by simp [Value.cells, Value.oneCell']⟩
  case nilF => have h := hv; simp only [VR] at h; subst h; exact ⟨VRs.one hv, by simp [Value.cells, Value.oneCell']⟩
  case ref => have h := hv; simp only [VR] at h; rcases h with ⟨_, _, rfl | ⟨_, _, rfl⟩⟩ | ⟨_, b, c, _, _, rfl⟩ <;> exact ⟨VRs.one hv, by simp [Value.cells, Value.oneCell']⟩
  case sub => have h := hv; simp only [VR] at h; obtain ⟨b, c, _, _, _, _, rfl, _⟩ := h; exact ⟨VRs.one hv, by simp [Value.cells, Value.oneCell']⟩
  case lst => have h := hv; simp only [VR] at h; rcases h with ⟨_, rfl⟩ | ⟨_, _, _, _, rfl, _⟩ <;> exact ⟨VRs.one hv, by simp [Value.cells, Value.oneCell']⟩
  case ptr => have h := hv; simp only [VR] at h; obtain ⟨_, _, _, rfl⟩ := h; exact ⟨VRs.one hv, by simp [Value.cells, Value.oneCell']⟩
  case chn => have h := hv; simp only [VR] at h; obtain ⟨_, _, _, rfl⟩ := h; exact ⟨VRs.one hv, by simp [Value.cells, Value.oneCell']⟩
  case ipt => have h := hv; simp only [VR] at h; obtain ⟨_, _, rfl, _⟩ := h; exact ⟨VRs.one hv, by simp [Value.cells, Value.oneCell']⟩
  case clo => have h := hv; simp only [VR] at h; obtain ⟨_, _, rfl, _⟩ := h; exact ⟨VRs.one hv, by simp [Value.cells, Value.oneCell']⟩

theorem R.lowS (h : R X D w0 mA r m st a w) (fl : Bool) {p : Addr} {v : Value} (hv : m fl p = some v) : m true p = some v := by
  cases fl with
  | true => exact hv
  | false => exact h.low p v hv
theorem R.lowM (h : R X D w0 mA r m st a w) (fl : Bool) : MLe (nest (m fl)) m := fun b p v hv => by
  cases b with
  | true => exact h.lowS fl hv
  | false => cases hv

theorem R.cellsAt (h : R X D w0 mA r m st a w) {x : AV} {v : Value} {cs : List AV} (hv : VR r m x v) (hc : cellsAt st.heap x = some cs) :
    ∃ p vs, v = .pointer (some p) /\ VRs r m cs vs /\ ∀ (i : Nat) u, vs[i]? = some u -> w.cell? (p.add i) = some u /\ u.oneCell' = true := by
  cases x <;> simp only [Lat.cellsAt, reduceCtorEq, Option.some.injEq] at hc
  case ptr id off =>
    simp only [VR] at hv
    obtain ⟨b, c, hb, rfl⟩ := hv
    rcases ho : st.heap[id]? with _ | o
    . simp [ho] at hc
    . have hob := h.obj id o ho
      cases o with
      | row t sz cs' =>
        simp only [ho, Option.some.injEq] at hc
        rcases hob with rfl | ⟨b', c', cur, h1, h2, h0, h3, h4, h5, h6⟩
        . subst hc
          exact ⟨_, [], rfl, by simp only [List.drop_nil, VRs], by simp⟩
        rw [hb] at h1
        cases h1
        subst hc
        refine ⟨_, _, rfl, h6.drop off, ?_⟩
        intro i u hu
        rw [List.getElem?_drop, List.getElem?_take] at hu
        split at hu
        . rename_i hlt
          refine ⟨?_, h0 u (List.mem_of_getElem? (i := off + i) (by rw [List.getElem?_take, if_pos hlt]; exact hu))⟩
          rw [Addr.add_lit]
          simp only [World.cell?, h2]
          simpa using hu
        . cases hu
      | box t cs' =>
        simp only [ho, Option.some.injEq] at hc
        obtain ⟨b', c', cur, h1, h2, h0, h3⟩ := hob
        rw [hb] at h1
        cases h1
        subst hc
        refine ⟨_, _, rfl, h3.drop off, ?_⟩
        intro i u hu
        rw [List.getElem?_drop] at hu
        refine ⟨?_, h0 u (List.mem_of_getElem? hu)⟩
        rw [Addr.add_lit]
        simp only [World.cell?, h2]
        simpa using hu
      | chan cap cl buf => simp [ho] at hc
      | dead => simp [ho] at hc
  case ipt fl cs' =>
    subst hc
    simp only [VR] at hv
    obtain ⟨p, vs, rfl, h1, h2⟩ := hv
    exact ⟨p, vs, rfl, h2.mono (RLe.nil r) (h.lowM fl), fun i u hu => ⟨(h.mem _ _ (h.lowS fl (h1 i u hu).1)).1, (h1 i u hu).2⟩⟩

theorem run_loadCells_take {P : Program} {p : Addr} {vs : List Value} (hc : ∀ (i : Nat) u, vs[i]? = some u -> w.cell? (p.add i) = some u) (n : Nat) (hn : n <= vs.length) :
    (loadCells p n).run P w = .ok (vs.take n).toArray w := by
  have := run_loadCells_list (P := P) (w := w) p (vs.take n) (fun j v hj => by
    rw [List.getElem?_take] at hj
    split at hj
    . exact hc j v hj
    . cases hj)
  rwa [List.length_take, Nat.min_eq_left hn] at this

def loadA (T : TT) (h : List AObj) (t : TypeId) (p : AV) (K : AV -> List AObj -> Prop) : Prop :=
  match T t, Lat.cellsAt h p with
  | some i, some cs => if i.k.agg = true then i.size <= cs.length /\ K (.agg (cs.take i.size)) h else 0 < cs.length /\ K (cs.getD 0 .any) h
  | _, _ => False

theorem load_sound {P : Program} {T : TT} (hT : TsOk P T) (h : R X D w0 mA r m st a w) {t : TypeId} {x : AV} {v : Value} (hv : VR r m x v) {K : AV -> List AObj -> Prop}
    (hl : loadA T st.heap t x K) : ∃ y u, K y st.heap /\ VR r m y u /\ (Instr.loadAt t v).run P w = .ok u w := by
  unfold loadA at hl
  split at hl
  case h_2 => exact hl.elim
  case h_1 i cs hti hcs =>
    obtain ⟨p, vs, rfl, hvs, hcell⟩ := h.cellsAt hv hcs
    have hok := hT t i hti
    have hlen := hvs.length
    simp only [Instr.loadAt, Instr.sureAddr, Sem.run_bind, Sem.run_pure, Result.andThen_ok, loadVar, hok.run_isAgg]
    split at hl
    . rename_i hag
      obtain ⟨hsz, hK⟩ := hl
      refine ⟨_, .agg (vs.take i.size).toArray, hK, ?_, ?_⟩
      . simp only [VR]
        refine ⟨_, rfl, ?_, by simpa using hvs.take i.size⟩
        intro u hu
        have hu' : u ∈ vs := List.mem_of_mem_take (by simpa using hu)
        obtain ⟨j, hj⟩ := List.getElem?_of_mem hu'
        exact (hcell j u hj).2
      . simp only [hag, if_true, Sem.run_bind, hok.run_sizeOf, Result.andThen_ok, run_loadCells_take (fun i u hu => (hcell i u hu).1) i.size (by omega), Sem.run_pure]
    . rename_i hag
      obtain ⟨hsz, hK⟩ := hl
      have h0 : cs[0]? = some (cs.getD 0 .any) := by
        cases cs with
        | nil => simp at hsz
        | cons c cs => simp
      obtain ⟨u, hu, hru⟩ := hvs.get 0 _ h0
      refine ⟨_, u, hK, hru, ?_⟩
      have hc0 := (hcell 0 u hu).1
      have hp : p.add 0 = p := by simp [Addr.add]
      rw [hp] at hc0
      simp only [hag, Bool.false_eq_true, if_false, load, Sem.run, hc0]
end
end Go.Lat
namespace Go.Lat
open Go.RowKit

def spl {α : Type} (cs : List α) (off : Nat) : List α -> List α
  | [v] => cs.set off v
  | vs => cs.take off ++ vs ++ cs.drop (off + vs.length)
theorem spl_eq {α : Type} (cs : List α) (off : Nat) (vs : List α) (h : off + vs.length <= cs.length) : spl cs off vs = cs.take off ++ vs ++ cs.drop (off + vs.length) := by
  unfold spl
  split
  . rename_i v
    simp only [List.length_cons, List.length_nil, Nat.zero_add] at h ⊢
    rw [List.set_eq_take_append_cons_drop, if_pos (by omega)]
    simp
  . rfl
theorem spl_length {α : Type} (cs : List α) (off : Nat) (vs : List α) (h : off + vs.length <= cs.length) : (spl cs off vs).length = cs.length := by
  rw [spl_eq cs off vs h]
  simp
  omega

theorem grownBy_setRow (w : World) (g : Nat) (cs : Array Value) : w.grownBy (w.setRow g cs) (some g) :=
  ⟨rfl, rfl, rfl, by simp, fun k _ hk => setRow_other w g k cs (by simpa using hk)⟩

section
variable {X : Nat -> Prop} {D : List Deferred × Rho} {w0 : World} {mA : Mem} {r : Rho} {m : MM} {st : St} {a : Act} {w w' : World}

theorem VRs.spl {cs vs : List AV} {us xs : List Value} (h : VRs r m cs us) (k : VRs r m vs xs) (off : Nat) (hl : off + vs.length <= cs.length) :
    VRs r m (Lat.spl cs off vs) (us.take off ++ xs ++ us.drop (off + xs.length)) := by
  rw [spl_eq cs off vs hl, k.length]
  exact ((h.take off).app k).app (h.drop _)

def putCells (h : List AObj) (id off : Nat) (vs : List AV) (K : List AObj -> Prop) : Prop :=
  match h[id]? with
  | some (.row t sz cs) => off + vs.length <= cs.length /\ K (h.set id (.row t sz (Lat.spl cs off vs)))
  | some (.box t cs) => off + vs.length <= cs.length /\ K (h.set id (.box t (Lat.spl cs off vs)))
  | _ => False

theorem putCells_sound {P : Program} (h : R X D w0 mA r m st a w) {id off : Nat} {vs : List AV} {xs : List Value} {b c : Nat} (hb : r[id]? = some (b, c))
    (hv : VRs r m vs xs) (h1 : ∀ u ∈ xs, u.oneCell' = true) {K : List AObj -> Prop} (hp : putCells st.heap id off vs K) :
    ∃ w' h', K h' /\ (storeCells ⟨b, off, none⟩ xs 0).run P w = .ok () w' /\ R X D w0 mA r m { st with heap := h' } a w' := by
  have hxl := hv.length
  unfold putCells at hp
  split at hp
  . rename_i t sz cs ho
    obtain ⟨hle, hK⟩ := hp
    rcases h.obj id _ ho with rfl | ⟨b', c', cur, e1, h2, h0, h3, h4, h5, h6⟩
    . have hv0 : vs = [] := List.eq_nil_of_length_eq_zero (by simp only [List.length_nil] at hle; omega)
      subst hv0
      have hx0 : xs = [] := List.eq_nil_of_length_eq_zero (by simpa using hxl)
      subst hx0
      have e0 : st.heap.set id (.row t sz (Lat.spl [] off [])) = st.heap := by
        have : Lat.spl ([] : List AV) off [] = [] := by simp [Lat.spl]
        rw [this]
        apply List.ext_getElem?
        intro k
        by_cases hk : id = k
        . subst hk
          have hlen : id < st.heap.length := by
            rcases Nat.lt_or_ge id st.heap.length with h1 | h1
            . exact h1
            . rw [List.getElem?_eq_none h1] at ho; cases ho
          rw [List.getElem?_set_self hlen, ho]
        . rw [List.getElem?_set_ne hk]
      rw [e0] at hK
      exact ⟨w, _, hK, rfl, h⟩
    have hpos : 0 < cs.length \/ cs = [] := by
      rcases Nat.eq_zero_or_pos cs.length with h | h
      . exact .inr (List.eq_nil_of_length_eq_zero h)
      . exact .inl h
    rcases hpos with hpos | rfl
    case inr =>
      have hv0 : vs = [] := List.eq_nil_of_length_eq_zero (by simp only [List.length_nil] at hle; omega)
      subst hv0
      have hx0 : xs = [] := List.eq_nil_of_length_eq_zero (by simpa using hxl)
      subst hx0
      have e0 : st.heap.set id (.row t sz (Lat.spl [] off [])) = st.heap := by
        have : Lat.spl ([] : List AV) off [] = [] := by simp [Lat.spl]
        rw [this]
        apply List.ext_getElem?
        intro k
        by_cases hk : id = k
        . subst hk
          have hlen : id < st.heap.length := by
            rcases Nat.lt_or_ge id st.heap.length with h1 | h1
            . exact h1
            . rw [List.getElem?_eq_none h1] at ho; cases ho
          rw [List.getElem?_set_self hlen, ho]
        . rw [List.getElem?_set_ne hk]
      rw [e0] at hK
      exact ⟨w, _, hK, rfl, h⟩
    rw [hb] at e1
    cases e1
    refine ⟨_, _, hK, run_storeCells_at (P := P) b off t xs 0 cur w h2 (by simp; omega) h1, ?_⟩
    refine h.modify ho (live_row hpos) hb (grownBy_setRow w b _) (.inr ?_)
    have e : ((cur.toList.take (off + 0) ++ xs ++ cur.toList.drop (off + 0 + xs.length)).toArray.toList.take (Lat.spl cs off vs).length) = (cur.toList.take cs.length).take off ++ xs ++ (cur.toList.take cs.length).drop (off + xs.length) := by
      rw [spl_length _ _ _ hle]
      simp only [Nat.add_zero]
      have l1 : (List.take off cur.toList).length = off := by simp; omega
      rw [List.take_append, List.take_append, List.drop_take, List.take_take]
      simp only [List.length_append, l1, List.take_take]
      rw [Nat.min_eq_right (show off <= cs.length by omega), Nat.min_eq_left (show off <= cs.length by omega), List.take_of_length_le (show xs.length <= cs.length - off by omega)]
    refine ⟨b, c, _, hb, setRow_heap w b cur _ t (0, 0) h2, ?_, h3, ?_, ?_, ?_⟩
    . intro u hu
      rw [e] at hu
      simp only [List.mem_append] at hu
      rcases hu with (hu | hu) | hu
      . exact h0 u (List.mem_of_mem_take hu)
      . exact h1 u hu
      . exact h0 u (List.mem_of_mem_drop hu)
    . simp; omega
    . rw [spl_length _ _ _ hle]; simp; omega
    . rw [e]
      exact h6.spl hv off hle
  . rename_i t cs ho
    obtain ⟨hle, hK⟩ := hp
    obtain ⟨b', c', cur, e1, h2, h0, h6⟩ := h.obj id _ ho
    rw [hb] at e1
    cases e1
    have hcl := h6.length
    simp only [Array.length_toList] at hcl
    refine ⟨_, _, hK, run_storeCells_at (P := P) b off t xs 0 cur w h2 (by simp; omega) h1, ?_⟩
    refine h.modify ho rfl hb (grownBy_setRow w b _) ?_
    refine ⟨b, c, _, hb, setRow_heap w b cur _ t (0, 0) h2, ?_, ?_⟩
    . intro u hu
      simp only [Nat.add_zero, List.mem_append] at hu
      rcases hu with (hu | hu) | hu
      . exact h0 u (List.mem_of_mem_take hu)
      . exact h1 u hu
      . exact h0 u (List.mem_of_mem_drop hu)
    . simpa using h6.spl hv off hle
  . exact hp.elim

def storeA (T : TT) (h : List AObj) (t : TypeId) (p v : AV) (K : AV -> List AObj -> Prop) : Prop :=
  match T t, p, v.cells with
  | some i, .ptr id off, some vs => vs.length = i.size /\ putCells h id off vs (K .any)
  | _, _, _ => False

theorem store_sound {P : Program} {T : TT} (hT : TsOk P T) (h : R X D w0 mA r m st a w) {t : TypeId} {x y : AV} {p v : Value} (hx : VR r m x p) (hy : VR r m y v) {K : AV -> List AObj -> Prop}
    (hs : storeA T st.heap t x y K) : ∃ w' h', K .any h' /\ (Instr.storeAt t p v).run P w = .ok () w' /\ R X D w0 mA r m { st with heap := h' } a w' := by
  unfold storeA at hs
  split at hs
  case h_2 => exact hs.elim
  case h_1 i id off vs hti hcs =>
    obtain ⟨hlen, hput⟩ := hs
    obtain ⟨hvs, h1⟩ := cells_sound hy hcs
    simp only [VR] at hx
    obtain ⟨b, c, hb, rfl⟩ := hx
    obtain ⟨w', h', hK, hrun, hR⟩ := putCells_sound (P := P) h hb hvs h1 hput
    refine ⟨w', h', hK, ?_, hR⟩
    have hsz : v.cells.size = i.size := by have := hvs.length; simp only [Array.length_toList] at this; omega
    simp only [Instr.storeAt, Instr.sureAddr, Sem.run_bind, Sem.run_pure, Result.andThen_ok, storeVar, (hT t i hti).run_sizeOf, hsz, ne_eq, not_true_eq_false, if_false]
    exact hrun

theorem newRow_sound {P : Program} (h : R X D w0 mA r m st a w) (e : TypeId) (cells : Array Value) (c : Nat) (o : AObj)
    (ho : OR (r ++ [(w.heap.size, c)]) m (w.alloc (.cells cells e)) st.heap.length o) :
    (newRow e cells).run P w = .ok ⟨w.heap.size, 0, none⟩ (w.alloc (.cells cells e)) /\ R X D w0 mA (r ++ [(w.heap.size, c)]) m { st with heap := st.heap ++ [o] } a (w.alloc (.cells cells e)) := by
  refine ⟨rfl, h.fresh (World.grownBy_alloc w _ none) (by simp) ho⟩

theorem heap_new (w : World) (o : Obj) : (w.alloc o).heap[w.heap.size]? = some o := by show (w.heap.push o)[w.heap.size]? = _; simp

theorem rget_new (r : Rho) (x : Nat × Nat) {n : Nat} (h : r.length = n) : (r ++ [x])[n]? = some x := by subst h; simp

theorem newVar_sound {P : Program} (h : R X D w0 mA r m st a w) (t : TypeId) {v : Value} {cs : List AV} (hv : VRs r m cs v.cells.toList) (h1 : ∀ u ∈ v.cells.toList, u.oneCell' = true) :
    ∃ w' r', RLe r r' /\ (newVar t v).run P w = .ok ⟨w.heap.size, 0, none⟩ w' /\ R X D w0 mA r' m { st with heap := st.heap ++ [.box t cs] } a w' /\ VR r' m (.ptr st.heap.length 0) (.pointer (some ⟨w.heap.size, 0, none⟩)) := by
  have hn := rget_new r (w.heap.size, 0) h.len
  obtain ⟨e, hR⟩ := newRow_sound (P := P) h t v.cells 0 (.box t cs) ⟨_, _, _, hn, heap_new w _, h1, hv.mono (RLe.app _ _) (MLe.refl m)⟩
  refine ⟨_, _, RLe.app _ _, e, hR, ?_⟩
  simp only [VR]
  exact ⟨_, _, hn, rfl⟩

def allocA (T : TT) (h : List AObj) (t : TypeId) (K : AV -> List AObj -> Prop) : Prop :=
  match T t with
  | some i => K (.ptr h.length 0) (h ++ [.box t i.zero])
  | none => False
theorem alloc_sound {P : Program} {T : TT} (hT : TsOk P T) (h : R X D w0 mA r m st a w) {t : TypeId} {K : AV -> List AObj -> Prop} (hs : allocA T st.heap t K) :
    ∃ y u w' r' h', K y h' /\ RLe r r' /\ VR r' m y u /\ (Instr.alloc t true (.tuple #[])).run P w = .ok u w' /\ R X D w0 mA r' m { st with heap := h' } a w' := by
  unfold allocA at hs
  split at hs
  case h_2 => exact hs.elim
  case h_1 i hti =>
    obtain ⟨z, hz, hzv, hz1⟩ := (hT t i hti).run_zero (P := P) w
    obtain ⟨w', r', hr, e, hR, hv⟩ := newVar_sound (P := P) h t (hzv.mono (fun _ _ hh => by simp at hh) (fun _ _ _ hh => by cases hh)) hz1
    refine ⟨_, _, w', r', _, hs, hr, hv, ?_, hR⟩
    simp only [Instr.alloc, Sem.run_bind, hz, Result.andThen_ok, e, Sem.run_pure]
def boxA (h : List AObj) (t : TypeId) (v : AV) (K : AV -> List AObj -> Prop) : Prop :=
  match v.cells with
  | some cs => K (.ptr h.length 0) (h ++ [.box t cs])
  | none => False
theorem box_sound {P : Program} (h : R X D w0 mA r m st a w) {t : TypeId} {x : AV} {v : Value} (hx : VR r m x v) {K : AV -> List AObj -> Prop} (hs : boxA st.heap t x K) :
    ∃ y u w' r' h', K y h' /\ RLe r r' /\ VR r' m y u /\ (Instr.box t v).run P w = .ok u w' /\ R X D w0 mA r' m { st with heap := h' } a w' := by
  unfold boxA at hs
  split at hs
  case h_2 => exact hs.elim
  case h_1 cs hcs =>
    obtain ⟨hv, h1⟩ := cells_sound hx hcs
    obtain ⟨w', r', hr, e, hR, hv⟩ := newVar_sound (P := P) h t hv h1
    refine ⟨_, _, w', r', _, hs, hr, hv, ?_, hR⟩
    simp only [Instr.box, Sem.run_bind, Result.andThen_ok, e, Sem.run_pure]
end
end Go.Lat
namespace Go.Lat
open Go.RowKit

def inI (n : Int) : Prop := -9223372036854775808 <= n /\ n <= 9223372036854775807

theorem addr_add_add (p : Addr) (i j : Nat) : (p.add i).add j = p.add (i + j) := by
  unfold Addr.add
  by_cases hi : i = 0 <;> by_cases hj : j = 0 <;> simp [hi, hj, Nat.add_assoc]
theorem Sealed.drop {m : Mem} {p : Addr} {vs : List Value} (h : Sealed m p vs) (n : Nat) : Sealed m (p.add n) (vs.drop n) := fun i u hu => by
  rw [addr_add_add]
  exact h (n + i) u (by simpa [List.getElem?_drop] using hu)
theorem Sealed.take {m : Mem} {p : Addr} {vs : List Value} (h : Sealed m p vs) (n : Nat) : Sealed m p (vs.take n) := fun i u hu => by
  rw [List.getElem?_take] at hu
  split at hu
  . exact h i u hu
  . cases hu
theorem Sealed.nil {m : Mem} {p : Addr} : Sealed m p [] := fun i u hu => by simp at hu

def fieldAddrA (T : TT) (s : TypeId) (x : AV) (f : Nat) (K : AV -> Prop) : Prop :=
  match T s with
  | some i => match i.k with
    | .st fs => match fs[f]? with
      | some (off, ft) => match T ft with
        | some fi => fi.size ≠ 0 /\ match x with
          | .ptr id o => K (.ptr id (o + off))
          | .ipt fl cs => K (.ipt fl (cs.drop off))
          | _ => False
        | none => False
      | none => False
    | _ => False
  | none => False

def fieldA (T : TT) (s : TypeId) (x : AV) (f : Nat) (K : AV -> Prop) : Prop :=
  match T s with
  | some i => match i.k with
    | .st fs => match fs[f]? with
      | some (off, ft) => match T ft with
        | some fi => match x with
          | .agg cs => if fi.k.agg = true then off + fi.size <= cs.length /\ K (.agg ((cs.drop off).take fi.size)) else off < cs.length /\ K (cs.getD off .any)
          | _ => False
        | none => False
      | none => False
    | _ => False
  | none => False

def indexAddrA (T : TT) (t : TypeId) (x i : AV) (K : AV -> Prop) : Prop :=
  match T t, i with
  | some ti, .int _ j => match ti.k with
    | .sl e => match T e with
      | some ei => match x with
        | .lst fl n cs => (0 <= j /\ j < (n : Int)) /\ K (.ipt fl (cs.drop (j.toNat * ei.size)))
        | .ref _ id n => (0 <= j /\ j < (n : Int)) /\ K (.ptr id (j.toNat * ei.size))
        | .sub id off n => (0 <= j /\ j < (n : Int)) /\ K (.ptr id (off + j.toNat * ei.size))
        | _ => False
      | none => False
    | .ar n e => match T e with
      | some ei => match x with
        | .ipt fl cs => (0 <= j /\ j < (n : Int)) /\ K (.ipt fl (cs.drop (j.toNat * ei.size)))
        | .ptr id o => (0 <= j /\ j < (n : Int)) /\ K (.ptr id (o + j.toNat * ei.size))
        | _ => False
      | none => False
    | _ => False
  | _, _ => False

def indexA (T : TT) (t : TypeId) (x i : AV) (K : AV -> Prop) : Prop :=
  match T t, i with
  | some ti, .int _ j => match ti.k with
    | .ar n e => match T e with
      | some ei => match x with
        | .agg cs => (0 <= j /\ j < (n : Int)) /\ if ei.k.agg = true then j.toNat * ei.size + ei.size <= cs.length /\ K (.agg ((cs.drop (j.toNat * ei.size)).take ei.size)) else j.toNat * ei.size < cs.length /\ K (cs.getD (j.toNat * ei.size) .any)
        | _ => False
      | none => False
    | _ => False
  | _, _ => False

section
variable {P : Program} {T : TT} {r : Rho} {m : MM} {w : World}

theorem TOk.sl {t e : TypeId} {i : TI} (h : TOk P t i) (hk : i.k = .sl e) : P.underlying t = some (.slice e) := by have := h.kind; rw [hk] at this; exact this
theorem TOk.ar {t e : TypeId} {n : Nat} {i : TI} (h : TOk P t i) (hk : i.k = .ar n e) : P.underlying t = some (.array n e) := by have := h.kind; rw [hk] at this; exact this
theorem TOk.int {t : TypeId} {k : IntKind} {i : TI} (h : TOk P t i) (hk : i.k = .int k) : P.underlying t = some (.int k) := by have := h.kind; rw [hk] at this; exact this
theorem TOk.st {t : TypeId} {fs : List (Nat × TypeId)} {i : TI} (h : TOk P t i) (hk : i.k = .st fs) {f off : Nat} {ft : TypeId} (hf : fs[f]? = some (off, ft)) :
    ∃ F fd, P.underlying t = some (.struct F) /\ F[f]? = some fd /\ fd.offset = off /\ fd.type = ft := by
  have := h.kind
  rw [hk] at this
  obtain ⟨F, h1, h2, _⟩ := this
  subst h2
  rw [List.getElem?_map] at hf
  obtain ⟨fd, h3, h4⟩ := Option.map_eq_some_iff.1 hf
  simp only [Prod.mk.injEq] at h4
  exact ⟨F, fd, h1, by simpa using h3, h4.1, h4.2⟩

theorem part_sound {t : TypeId} {i : TI} (hok : TOk P t i) {arr : Array Value} {cs : List AV} (h1 : ∀ u ∈ arr.toList, u.oneCell' = true) (hv : VRs r m cs arr.toList) (off : Nat) {K : AV -> Prop}
    (h : if i.k.agg = true then off + i.size <= cs.length /\ K (.agg ((cs.drop off).take i.size)) else off < cs.length /\ K (cs.getD off .any)) :
    ∃ y u, K y /\ VR r m y u /\ (part t arr off).run P w = .ok u w := by
  have hl := hv.length
  unfold part
  rw [Sem.run_bind, hok.run_isAgg]
  split at h
  . rename_i hag
    refine ⟨_, .agg (arr.extract off (off + i.size)), h.2, ?_, ?_⟩
    . simp only [VR]
      have e : (arr.extract off (off + i.size)).toList = (arr.toList.drop off).take i.size := by simp [Array.toList_extract, List.extract, Nat.add_sub_cancel_left]
      refine ⟨_, rfl, ?_, ?_⟩
      . intro u hu
        rw [e] at hu
        exact h1 u (List.mem_of_mem_drop (List.mem_of_mem_take hu))
      . rw [e]; exact (hv.drop off).take _
    . simp only [Result.andThen_ok, hag, if_true, Sem.run_bind, hok.run_sizeOf, Sem.run_pure]
  . rename_i hag
    have h0 : cs[off]? = some (cs.getD off .any) := by simp [List.getD, List.getElem?_eq_getElem h.1]
    obtain ⟨u, hu, hru⟩ := hv.get off _ h0
    refine ⟨_, u, h.2, hru, ?_⟩
    have hu' : arr[off]? = some u := by simpa using hu
    simp only [Result.andThen_ok, hag, Bool.false_eq_true, if_false, hu', Sem.run_pure]

theorem fieldAddr_sound (hT : TsOk P T) {s : TypeId} {x : AV} {v : Value} {f : Nat} {K : AV -> Prop} (hx : VR r m x v) (h : fieldAddrA T s x f K) :
    ∃ y u, K y /\ VR r m y u /\ (Instr.fieldAt s v f).run P w = .ok u w := by
  unfold fieldAddrA at h
  split at h <;> try exact h.elim
  rename_i i hi
  split at h <;> try exact h.elim
  rename_i fs hk
  split at h <;> try exact h.elim
  rename_i off ft hf
  split at h <;> try exact h.elim
  rename_i fi hfi
  obtain ⟨hsz, h⟩ := h
  obtain ⟨F, fd, hu, hF, ho, ht⟩ := (hT s i hi).st hk hf
  subst ho; subst ht
  have run : ∀ p : Addr, (Instr.fieldAt s (.pointer (some p)) f).run P w = .ok (.pointer (some (p.add fd.offset))) w := fun p => by
    simp only [Instr.fieldAt, Sem.run_bind, run_underlying hu, Result.andThen_ok, hF, Instr.sureAddr, Sem.run_pure, fieldPlace, (hT _ fi hfi).run_sizeOf, hsz, if_false]
  split at h
  . rename_i id o
    simp only [VR] at hx
    obtain ⟨b, c, hb, rfl⟩ := hx
    refine ⟨_, _, h, ?_, run _⟩
    simp only [VR]
    exact ⟨b, c, hb, by rw [Addr.add_lit]⟩
  . rename_i fl cs
    simp only [VR] at hx
    obtain ⟨p, vs, rfl, h1, h2⟩ := hx
    refine ⟨_, _, h, ?_, run _⟩
    simp only [VR]
    exact ⟨_, _, rfl, h1.drop _, h2.drop _⟩
  . exact h.elim

theorem field_sound (hT : TsOk P T) {s : TypeId} {x : AV} {v : Value} {f : Nat} {K : AV -> Prop} (hx : VR r m x v) (h : fieldA T s x f K) :
    ∃ y u, K y /\ VR r m y u /\ (Instr.field s v f).run P w = .ok u w := by
  unfold fieldA at h
  split at h <;> try exact h.elim
  rename_i i hi
  split at h <;> try exact h.elim
  rename_i fs hk
  split at h <;> try exact h.elim
  rename_i off ft hf
  split at h <;> try exact h.elim
  rename_i fi hfi
  split at h <;> try exact h.elim
  rename_i cs
  obtain ⟨F, fd, hu, hF, ho, ht⟩ := (hT s i hi).st hk hf
  subst ho; subst ht
  simp only [VR] at hx
  obtain ⟨arr, rfl, h1, h2⟩ := hx
  obtain ⟨y, u, hK, hv, hr⟩ := part_sound (w := w) (hT _ fi hfi) h1 h2 fd.offset h
  refine ⟨y, u, hK, hv, ?_⟩
  simp only [Instr.field, Sem.run_bind, run_underlying hu, Result.andThen_ok, hF, asAgg, Sem.run_pure, hr]

theorem run_indexAt_slice {t e : TypeId} {ei : TI} (hs : P.underlying t = some (.slice e)) (he : TOk P e ei) {k : IntKind} {j : Int} {n cap : Nat} (p : Addr) (hj : 0 <= j /\ j < (n : Int)) :
    (Instr.indexAt t (.slice (some p) n cap) (.int k j)).run P w = .ok (.pointer (some (p.add (j.toNat * ei.size)))) w := by
  simp only [Instr.indexAt, asIntOf, Sem.run_bind, Sem.run_pure, Result.andThen_ok, run_underlying hs]
  rw [if_pos hj]
  simp only [Sem.run_bind, he.run_sizeOf, Result.andThen_ok, Sem.run_pure]
theorem run_indexAt_array {t e : TypeId} {ei : TI} {n : Nat} (hs : P.underlying t = some (.array n e)) (he : TOk P e ei) {k : IntKind} {j : Int} (p : Addr) (hj : 0 <= j /\ j < (n : Int)) :
    (Instr.indexAt t (.pointer (some p)) (.int k j)).run P w = .ok (.pointer (some (p.add (j.toNat * ei.size)))) w := by
  simp only [Instr.indexAt, asIntOf, Sem.run_bind, Sem.run_pure, Result.andThen_ok, run_underlying hs, Instr.sureAddr]
  rw [if_pos hj]
  simp only [Sem.run_bind, he.run_sizeOf, Result.andThen_ok, Sem.run_pure]

theorem indexAddr_sound (hT : TsOk P T) {t : TypeId} {x i : AV} {v vi : Value} {K : AV -> Prop} (hx : VR r m x v) (hi : VR r m i vi) (h : indexAddrA T t x i K) :
    ∃ y u, K y /\ VR r m y u /\ (Instr.indexAt t v vi).run P w = .ok u w := by
  unfold indexAddrA at h
  split at h <;> try exact h.elim
  rename_i ti k j hti
  simp only [VR] at hi
  subst hi
  split at h <;> try exact h.elim
  . rename_i e hk
    split at h <;> try exact h.elim
    rename_i ei hei
    have hs := (hT t ti hti).sl hk
    have he := hT e ei hei
    split at h <;> try exact h.elim
    . rename_i fl n cs
      simp only [VR] at hx
      rcases hx with ⟨h0, _⟩ | ⟨p, cap, vs, hle, rfl, h1, h2⟩
      . omega
      refine ⟨_, _, h.2, ?_, run_indexAt_slice hs he p h.1⟩
      simp only [VR]
      exact ⟨_, _, rfl, h1.drop _, h2.drop _⟩
    . rename_i nb id n
      simp only [VR] at hx
      rcases hx with ⟨h0, _⟩ | ⟨_, b, c, hb, hle, rfl⟩
      . omega
      refine ⟨_, _, h.2, ?_, run_indexAt_slice hs he _ h.1⟩
      simp only [VR]
      exact ⟨b, c, hb, by rw [Addr.add_lit, Nat.zero_add]⟩
    . rename_i id off n
      simp only [VR] at hx
      obtain ⟨b, c, p, cap, hb, hle, rfl, hp⟩ := hx
      refine ⟨_, _, h.2, ?_, run_indexAt_slice hs he _ h.1⟩
      simp only [VR]
      exact ⟨b, c, hb, by rw [hp (by omega), Addr.add_lit]⟩
  . rename_i n e hk
    split at h <;> try exact h.elim
    rename_i ei hei
    have hs := (hT t ti hti).ar hk
    have he := hT e ei hei
    split at h <;> try exact h.elim
    . rename_i fl cs
      simp only [VR] at hx
      obtain ⟨p, vs, rfl, h1, h2⟩ := hx
      refine ⟨_, _, h.2, ?_, run_indexAt_array hs he p h.1⟩
      simp only [VR]
      exact ⟨_, _, rfl, h1.drop _, h2.drop _⟩
    . rename_i id o
      simp only [VR] at hx
      obtain ⟨b, c, hb, rfl⟩ := hx
      refine ⟨_, _, h.2, ?_, run_indexAt_array hs he _ h.1⟩
      simp only [VR]
      exact ⟨b, c, hb, by rw [Addr.add_lit]⟩

theorem index_sound (hT : TsOk P T) {t : TypeId} {x i : AV} {v vi : Value} {K : AV -> Prop} (hx : VR r m x v) (hi : VR r m i vi) (h : indexA T t x i K) :
    ∃ y u, K y /\ VR r m y u /\ (Instr.index t v vi).run P w = .ok u w := by
  unfold indexA at h
  split at h <;> try exact h.elim
  rename_i ti k j hti
  simp only [VR] at hi
  subst hi
  split at h <;> try exact h.elim
  rename_i n e hk
  split at h <;> try exact h.elim
  rename_i ei hei
  have hs := (hT t ti hti).ar hk
  have he := hT e ei hei
  split at h <;> try exact h.elim
  rename_i cs
  obtain ⟨hj, h⟩ := h
  simp only [VR] at hx
  obtain ⟨arr, rfl, h1, h2⟩ := hx
  obtain ⟨y, u, hK, hv, hr⟩ := part_sound (w := w) he h1 h2 _ h
  refine ⟨y, u, hK, hv, ?_⟩
  simp only [Instr.index, asIntOf, Sem.run_bind, Sem.run_pure, Result.andThen_ok, run_underlying hs]
  rw [if_pos hj]
  simp only [Sem.run_bind, he.run_sizeOf, Result.andThen_ok, hr]
end
end Go.Lat
namespace Go.Lat
open Go.RowKit

def boundA (d : Nat) : Option AV -> Option Int
  | none => some d
  | some (.int _ j) => some j
  | some _ => none

def sliceA (T : TT) (t : TypeId) (x : AV) (lo hi mx : Option AV) (K : AV -> Prop) : Prop :=
  match T t, mx with
  | some ti, none => match ti.k with
    | .sl e => match T e with
      | some ei => match x with
        | .nilS => match boundA 0 lo, boundA 0 hi with
          | some l, some u => (l = 0 /\ u = 0) /\ K .nilS
          | _, _ => False
        | .lst fl n cs => match boundA 0 lo, boundA n hi with
          | some l, some u => (0 <= l /\ l <= u /\ u <= (n : Int)) /\ K (.lst fl (u.toNat - l.toNat) ((cs.drop (l.toNat * ei.size)).take ((u.toNat - l.toNat) * ei.size)))
          | _, _ => False
        | .ref _ id n => match boundA 0 lo, boundA n hi with
          | some l, some u => (0 < n /\ 0 <= l /\ l <= u /\ u <= (n : Int)) /\ K (.sub id (l.toNat * ei.size) (u.toNat - l.toNat))
          | _, _ => False
        | .sub id off n => match boundA 0 lo, boundA n hi with
          | some l, some u => (0 <= l /\ l <= u /\ u <= (n : Int)) /\ K (.sub id (off + l.toNat * ei.size) (u.toNat - l.toNat))
          | _, _ => False
        | .cut ex id off k n cp => match boundA 0 lo, boundA n hi with
          | some l, some u => (0 <= l /\ l <= u /\ u <= (cp : Int) /\ l < (cp : Int)) /\ K (.cut ex id (off + l.toNat * ei.size) (k + l.toNat) (u.toNat - l.toNat) (cp - l.toNat))
          | _, _ => False
        | _ => False
      | none => False
    | .ar n e => match T e with
      | some ei => match boundA 0 lo, boundA n hi with
        | some l, some u => (0 <= l /\ l <= u /\ u <= (n : Int)) /\ match x with
          | .ptr id o => K (.sub id (o + l.toNat * ei.size) (u.toNat - l.toNat))
          | .ipt fl cs => K (.lst fl (u.toNat - l.toNat) ((cs.drop (l.toNat * ei.size)).take ((u.toNat - l.toNat) * ei.size)))
          | _ => False
        | _, _ => False
      | none => False
    | _ => False
  | some ti, some mx => match ti.k with
    | .sl e => match T e with
      | some _ => match x, lo, hi, mx with
        | .ref _ id n, none, some (.int _ u), .int _ u' => (u = u' /\ 0 <= u /\ u <= (n : Int)) /\ K (.cut false id 0 0 u.toNat u.toNat)
        | .nilS, none, some (.int _ u), .int _ u' => (u = 0 /\ u' = 0) /\ K .nilS
        | _, _, _, _ => False
      | none => False
    | _ => False
  | none, _ => False

section
variable {P : Program} {T : TT} {r : Rho} {m : MM} {w : World}

theorem bound_of {d : Nat} {lo : Option AV} {vl : Option Value} {l : Int} (hl : ∀ x, lo = some x -> ∃ v, vl = some v /\ VR r m x v) (hl0 : lo = none -> vl = none) (el : boundA d lo = some l) :
    (vl = none /\ l = (d : Int)) \/ ∃ k, vl = some (.int k l) := by
  cases lo with
  | none =>
    simp only [boundA, Option.some.injEq] at el
    exact .inl ⟨hl0 rfl, el.symm⟩
  | some x =>
    obtain ⟨v, e, hv⟩ := hl x rfl
    cases x <;> simp only [boundA, Option.some.injEq, reduceCtorEq] at el
    subst el
    simp only [VR] at hv
    exact .inr ⟨_, by rw [e, hv]⟩

theorem run_bound1 (y : Nat) (code : BoundsCode) (k : IntKind) (j : Int) (h0 : 0 <= j) (h1 : j <= (y : Int)) : (Instr.sliceBound (.int k j) y code).run P w = .ok j.toNat w := by
  simp only [Instr.sliceBound, asIntOf, Sem.run_bind, Sem.run_pure, Result.andThen_ok]
  rw [if_pos ⟨h0, h1⟩]
  rfl

theorem run_bounds0 {len cap : Nat} {vl vh : Option Value} {isS : Bool} {l u : Int} (el : (vl = none /\ l = 0) \/ ∃ k, vl = some (.int k l)) (eu : (vh = none /\ u = (len : Int)) \/ ∃ k, vh = some (.int k u))
    (h : 0 <= l /\ l <= u /\ u <= (len : Int)) (hc : len <= cap) : (Instr.sliceBounds isS len cap vl vh none).run P w = .ok (l.toNat, u.toNat, cap) w := by
  have h2 : ((u.toNat : Nat) : Int) = u := by omega
  unfold Instr.sliceBounds
  rcases eu with ⟨rfl, rfl⟩ | ⟨k, rfl⟩ <;> rcases el with ⟨rfl, rfl⟩ | ⟨k', rfl⟩ <;> simp only [Sem.run_bind, Sem.run_pure, Result.andThen_ok]
  . simp
  . rw [run_bound1 _ _ _ _ (by omega) (by omega)]; simp
  . rw [run_bound1 _ _ _ _ (by omega) (by omega)]; simp
  . rw [run_bound1 _ _ _ _ (by omega) (by omega)]
    simp only [Result.andThen_ok]
    rw [run_bound1 _ _ _ _ (by omega) (by omega)]
    simp

theorem run_bounds {len cap : Nat} {lo hi : Option AV} {vl vh : Option Value} {isS : Bool} {l u : Int} (hl : ∀ x, lo = some x -> ∃ v, vl = some v /\ VR r m x v) (hl0 : lo = none -> vl = none)
    (hh : ∀ x, hi = some x -> ∃ v, vh = some v /\ VR r m x v) (hh0 : hi = none -> vh = none)
    (el : boundA 0 lo = some l) (eu : boundA len hi = some u) (h : 0 <= l /\ l <= u /\ u <= (len : Int)) (hc : len <= cap) :
    (Instr.sliceBounds isS len cap vl vh none).run P w = .ok (l.toNat, u.toNat, cap) w :=
  run_bounds0 (by simpa using bound_of hl hl0 el) (bound_of hh hh0 eu) h hc

set_option maxHeartbeats 1000000 in
theorem slice_sound (hT : TsOk P T) {t : TypeId} {x : AV} {v : Value} {lo hi mx : Option AV} {vl vh vm : Option Value} {K : AV -> Prop} (hx : VR r m x v)
    (hl : ∀ x, lo = some x -> ∃ v, vl = some v /\ VR r m x v) (hl0 : lo = none -> vl = none)
    (hh : ∀ x, hi = some x -> ∃ v, vh = some v /\ VR r m x v) (hh0 : hi = none -> vh = none) (hm : ∀ x, mx = some x -> ∃ v, vm = some v /\ VR r m x v) (hm0 : mx = none -> vm = none)
    (h : sliceA T t x lo hi mx K) : ∃ y u, K y /\ VR r m y u /\ (Instr.sliceAt t v vl vh vm).run P w = .ok u w := by
  unfold sliceA at h
  split at h
  case h_3 => exact h.elim
  case h_2 ti mx' hti =>
    split at h <;> try exact h.elim
    rename_i e hk
    split at h <;> try exact h.elim
    rename_i ei hei
    have hs := (hT t ti hti).sl hk
    have he := hT e ei hei
    split at h <;> try exact h.elim
    rotate_left
    . rename_i ku u ku' u'
      obtain ⟨⟨rfl, rfl⟩, hK⟩ := h
      have := hl0 rfl
      subst this
      obtain ⟨vh', rfl, hvh⟩ := hh _ rfl
      obtain ⟨vm', rfl, hvm⟩ := hm _ rfl
      simp only [VR] at hvh hvm hx
      subst hvh; subst hvm; subst hx
      have hb : (Instr.sliceBounds true 0 0 none (some (.int ku 0)) (some (.int ku' 0))).run P w = .ok (0, 0, 0) w := by
        unfold Instr.sliceBounds
        simp only [Sem.run_bind, Sem.run_pure, Result.andThen_ok]
        rw [run_bound1 _ _ _ _ (by omega) (by omega)]
        simp only [Result.andThen_ok]
        rw [run_bound1 _ _ _ _ (by omega) (by omega)]
        simp
      refine ⟨_, _, hK, by simp only [VR]; rfl, ?_⟩
      simp only [Instr.sliceAt, Sem.run_bind, run_underlying hs, Result.andThen_ok, Instr.slice, hb, he.run_sizeOf, Sem.run_pure]
      rfl
    rename_i nb id n ku u ku' u'
    obtain ⟨⟨rfl, h0, hn⟩, hK⟩ := h
    have := hl0 rfl
    subst this
    obtain ⟨vh', rfl, hvh⟩ := hh _ rfl
    obtain ⟨vm', rfl, hvm⟩ := hm _ rfl
    simp only [VR] at hvh hvm
    subst hvh; subst hvm
    have hb : ∀ cap : Nat, u <= (cap : Int) -> (Instr.sliceBounds true n cap none (some (.int ku u)) (some (.int ku' u))).run P w = .ok (0, u.toNat, u.toNat) w := fun cap hc => by
      have h2 : ((u.toNat : Nat) : Int) = u := by omega
      unfold Instr.sliceBounds
      simp only [Sem.run_bind, Sem.run_pure, Result.andThen_ok]
      rw [run_bound1 _ _ _ _ (by omega) (by omega)]
      simp only [Result.andThen_ok]
      rw [run_bound1 _ _ _ _ (by omega) (by omega)]
      simp
    have run : ∀ (ad : Option Addr) (cap : Nat), u <= (cap : Int) -> (Instr.sliceAt t (.slice ad n cap) none (some (.int ku u)) (some (.int ku' u))).run P w = .ok (.slice (if u.toNat = 0 then ad else ad.map (·.add (0 * ei.size))) u.toNat u.toNat) w := fun ad cap hc => by
      simp only [Instr.sliceAt, Sem.run_bind, run_underlying hs, Result.andThen_ok, Instr.slice, hb cap hc, he.run_sizeOf, Sem.run_pure, Nat.sub_zero]
    simp only [VR] at hx
    rcases hx with ⟨hz, _, hx⟩ | ⟨hz, b, c, hb0, hle, rfl⟩
    . have hu : u = 0 := by omega
      subst hu
      subst hz
      rcases hx with rfl | ⟨_, a', rfl⟩
      . exact ⟨_, _, hK, by simp only [VR]; exact .inl ⟨trivial, rfl, rfl, .inl rfl⟩, run none 0 (by omega)⟩
      . exact ⟨_, _, hK, by simp only [VR]; exact .inl ⟨trivial, rfl, rfl, .inr ⟨_, rfl⟩⟩, run _ 0 (by omega)⟩
    . refine ⟨_, _, hK, ?_, run _ c (by omega)⟩
      simp only [VR]
      refine .inr ⟨b, c, hb0, Nat.le_refl _, by omega, fun h => (by cases h), ?_⟩
      rw [Nat.zero_mul]
      split <;> simp [Addr.add]
  rename_i ti hti
  have := hm0 rfl
  subst this
  split at h <;> try exact h.elim
  . rename_i e hk
    split at h <;> try exact h.elim
    rename_i ei hei
    have hs := (hT t ti hti).sl hk
    have he := hT e ei hei
    have run : ∀ (ad : Option Addr) (n cap : Nat) (l u : Int), boundA 0 lo = some l -> boundA n hi = some u -> (0 <= l /\ l <= u /\ u <= (n : Int)) -> n <= cap →
        (Instr.sliceAt t (.slice ad n cap) vl vh none).run P w = .ok (.slice (if cap = l.toNat then ad else ad.map (·.add (l.toNat * ei.size))) (u.toNat - l.toNat) (cap - l.toNat)) w := fun ad n cap l u el eu hb hc => by
      simp only [Instr.sliceAt, Sem.run_bind, run_underlying hs, Result.andThen_ok, Instr.slice, run_bounds hl hl0 hh hh0 el eu hb hc, he.run_sizeOf, Sem.run_pure]
    split at h <;> try exact h.elim
    . split at h <;> try exact h.elim
      rename_i l u el eu
      obtain ⟨⟨rfl, rfl⟩, hK⟩ := h
      simp only [VR] at hx
      subst hx
      refine ⟨_, _, hK, ?_, run none 0 0 0 0 el eu (by omega) (Nat.le_refl _)⟩
      simp only [VR]
      rfl
    . rename_i fl n cs
      split at h <;> try exact h.elim
      rename_i l u el eu
      obtain ⟨hb, hK⟩ := h
      simp only [VR] at hx
      rcases hx with ⟨h0, rfl⟩ | ⟨p, cap, vs, hle, rfl, h1, h2⟩
      . subst h0
        refine ⟨_, _, hK, ?_, run none 0 0 l u el eu hb (Nat.le_refl _)⟩
        simp only [VR]
        refine .inl ⟨by omega, ?_⟩
        rw [show l.toNat = 0 by omega, show u.toNat = 0 by omega]
        simp
      refine ⟨_, _, hK, ?_, run _ n cap l u el eu hb hle⟩
      simp only [VR]
      refine .inr ?_
      by_cases hc : cap = l.toNat
      . rw [if_pos hc]
        have e0 : (u.toNat - l.toNat) * ei.size = 0 := by rw [show u.toNat - l.toNat = 0 by omega, Nat.zero_mul]
        refine ⟨p, _, [], by omega, rfl, Sealed.nil, ?_⟩
        rw [e0, List.take_zero]
        exact VRs.nil
      . rw [if_neg hc]
        exact ⟨_, _, _, by omega, rfl, (h1.drop _).take _, (h2.drop _).take _⟩
    . rename_i nb id n
      split at h <;> try exact h.elim
      . rename_i l u el eu
        obtain ⟨⟨hn0, hb⟩, hK⟩ := h
        simp only [VR] at hx
        rcases hx with ⟨h0, _⟩ | ⟨_, b, c, hb0, hle, rfl⟩
        . omega
        refine ⟨_, _, hK, ?_, run _ n c l u el eu hb hle⟩
        simp only [VR]
        by_cases hc : c = l.toNat
        . rw [if_pos hc]
          exact ⟨b, c, _, _, hb0, by omega, rfl, by omega⟩
        . rw [if_neg hc]
          refine ⟨b, c, _, _, hb0, ?_, rfl, fun _ => by show Addr.add _ _ = _; rw [Addr.add_lit, Nat.zero_add]⟩
          omega
    . rename_i id off n
      split at h <;> try exact h.elim
      rename_i l u el eu
      obtain ⟨hb, hK⟩ := h
      simp only [VR] at hx
      obtain ⟨b, c, p, cap, hb0, hle, rfl, hp⟩ := hx
      refine ⟨_, _, hK, ?_, run _ n cap l u el eu hb hle⟩
      simp only [VR]
      by_cases hc : cap = l.toNat
      . rw [if_pos hc]
        exact ⟨b, c, _, _, hb0, by omega, rfl, by omega⟩
      . rw [if_neg hc]
        refine ⟨b, c, _, _, hb0, ?_, rfl, fun _ => by show Addr.add _ _ = _; rw [hp (by omega), Addr.add_lit]⟩
        omega
    . rename_i ex id off k n cp
      split at h <;> try exact h.elim
      rename_i l u el eu
      obtain ⟨hb, hK⟩ := h
      simp only [VR] at hx
      rcases hx with ⟨_, _, hz, _⟩ | ⟨b, c, hb0, hle, hkc, hex, rfl⟩
      . omega
      have hb2 : (Instr.sliceBounds true n cp vl vh none).run P w = .ok (l.toNat, u.toNat, cp) w := by
        have h2 : ((u.toNat : Nat) : Int) = u := by omega
        unfold Instr.sliceBounds
        rcases bound_of hh hh0 eu with ⟨rfl, rfl⟩ | ⟨kk, rfl⟩ <;> rcases bound_of hl hl0 el with ⟨rfl, rfl⟩ | ⟨k', rfl⟩ <;> simp only [Sem.run_bind, Sem.run_pure, Result.andThen_ok]
        . simp
        . rw [run_bound1 _ _ _ _ (by omega) (by omega)]; simp
        . rw [run_bound1 _ _ _ _ (by omega) (by omega)]; simp
        . rw [run_bound1 _ _ _ _ (by omega) (by omega)]
          simp only [Result.andThen_ok]
          rw [run_bound1 _ _ _ _ (by omega) (by omega)]
          simp
      have run2 : (Instr.sliceAt t (.slice (some ⟨b, off, none⟩) n cp) vl vh none).run P w = .ok (.slice (if cp = l.toNat then some ⟨b, off, none⟩ else (some (⟨b, off, none⟩ : Addr)).map (·.add (l.toNat * ei.size))) (u.toNat - l.toNat) (cp - l.toNat)) w := by
        simp only [Instr.sliceAt, Sem.run_bind, run_underlying hs, Result.andThen_ok, Instr.slice, hb2, he.run_sizeOf, Sem.run_pure]
      refine ⟨_, _, hK, ?_, run2⟩
      simp only [VR]
      rw [if_neg (by omega)]
      refine .inr ⟨b, c, hb0, by omega, by omega, fun h => by have := hex h; omega, ?_⟩
      show Value.slice (some (Addr.add _ _)) _ _ = _
      rw [Addr.add_lit]
  . rename_i n e hk
    split at h <;> try exact h.elim
    rename_i ei hei
    have hs := (hT t ti hti).ar hk
    have he := hT e ei hei
    split at h <;> try exact h.elim
    rename_i l u el eu
    obtain ⟨hb, h⟩ := h
    have run : ∀ (p : Addr), (Instr.sliceAt t (.pointer (some p)) vl vh none).run P w = .ok (.slice (some (if n = l.toNat then p else p.add (l.toNat * ei.size))) (u.toNat - l.toNat) (n - l.toNat)) w := fun p => by
      simp only [Instr.sliceAt, Sem.run_bind, run_underlying hs, Result.andThen_ok, Instr.sureAddr, Sem.run_pure, run_bounds hl hl0 hh hh0 el eu hb (Nat.le_refl n), he.run_sizeOf]
    split at h <;> try exact h.elim
    . rename_i id o
      simp only [VR] at hx
      obtain ⟨b, c, hb0, rfl⟩ := hx
      refine ⟨_, _, h, ?_, run _⟩
      simp only [VR]
      by_cases hc : n = l.toNat
      . rw [if_pos hc]
        exact ⟨b, c, _, _, hb0, by omega, rfl, by omega⟩
      . rw [if_neg hc]
        exact ⟨b, c, _, _, hb0, by omega, rfl, fun _ => by rw [Addr.add_lit]⟩
    . rename_i fl cs
      simp only [VR] at hx
      obtain ⟨p, vs, rfl, h1, h2⟩ := hx
      refine ⟨_, _, h, ?_, run _⟩
      simp only [VR]
      by_cases hc : n = l.toNat
      . rw [if_pos hc]
        have e0 : (u.toNat - l.toNat) * ei.size = 0 := by rw [show u.toNat - l.toNat = 0 by omega, Nat.zero_mul]
        refine .inr ⟨p, _, [], by omega, rfl, Sealed.nil, ?_⟩
        rw [e0, List.take_zero]
        exact VRs.nil
      . rw [if_neg hc]
        exact .inr ⟨_, _, _, by omega, rfl, (h1.drop _).take _, (h2.drop _).take _⟩
end
end Go.Lat
namespace Go.Lat
open Go.RowKit

def bitI (op : BinOp) (k : IntKind) (x y : Int) : Int :=
  match op with
  | .and => k.wrap (BitVec.ofInt k.bits x &&& BitVec.ofInt k.bits y).toNat
  | .or => k.wrap (BitVec.ofInt k.bits x ||| BitVec.ofInt k.bits y).toNat
  | .andNot => k.wrap (BitVec.ofInt k.bits x &&& ~~~ BitVec.ofInt k.bits y).toNat
  | _ => 0

def isNil : AV -> Option Bool
  | .nilS => some true
  | .sub _ _ _ => some false
  | _ => none

def eqStA (T : TT) (t : TypeId) (neg : Bool) (xs ys : List AV) (K : AV -> Prop) : Prop :=
  ∃ (fs : List (Nat × TypeId)) (s b : Nat) (z : List AV) (as_ bs : List Int), T t = some ⟨.st fs, s, b, z⟩ /\ (∀ f ∈ fs, ∃ s' b' z', T f.2 = some ⟨.int .i64, s', b', z'⟩) /\ fs.map (·.1) = List.range fs.length ∧
    xs = as_.map (.int .i64) /\ ys = bs.map (.int .i64) /\ as_.length = fs.length /\ bs.length = fs.length /\ K (.bool (if neg then !(decide (as_ = bs)) else decide (as_ = bs)))
def eqA (T : TT) (t : TypeId) (neg : Bool) (x y : AV) (K : AV -> Prop) : Prop :=
  match x, y with
  | .int k a, .int k' b => k = k' /\ K (.bool (if neg then a != b else a == b))
  | .bool a, .bool b => (∃ i, T t = some i /\ i.k = .bool) /\ K (.bool (if neg then a != b else a == b))
  | x, .nilS => match isNil x with
    | some b => (∃ i e, T t = some i /\ i.k = .sl e) /\ K (.bool (if neg then !b else b))
    | none => False
  | .agg xs, .agg ys => eqStA T t neg xs ys K
  | _, _ => False

def binA (T : TT) (op : BinOp) (t : TypeId) (x y : AV) (K : AV -> Prop) : Prop :=
  match op with
  | .eql => eqA T t false x y K
  | .neq => eqA T t true x y K
  | .add => match x, y with
    | .int .i64 a, .int .i64 b => inI (a + b) /\ K (.int .i64 (a + b))
    | .int .u64 a, .int .u64 b => K (.int .u64 (IntKind.u64.wrap (a + b)))
    | _, _ => False
  | .sub => match x, y with
    | .int .i64 a, .int .i64 b => inI (a - b) /\ K (.int .i64 (a - b))
    | _, _ => False
  | .mul => match x, y with
    | .int .i64 a, .int .i64 b => inI (a * b) /\ K (.int .i64 (a * b))
    | _, _ => False
  | .quo => match x, y with
    | .int .i64 a, .int .i64 b => b ≠ 0 /\ inI (a.tdiv b) /\ K (.int .i64 (a.tdiv b))
    | _, _ => False
  | .rem => match x, y with
    | .int k a, .int k' b => k = k' /\ b ≠ 0 /\ K (.int k (a.tmod b))
    | _, _ => False
  | .lss => match x, y with
    | .int k a, .int k' b => k = k' /\ K (.bool (decide (a < b)))
    | _, _ => False
  | .leq => match x, y with
    | .int k a, .int k' b => k = k' /\ K (.bool (decide (a <= b)))
    | _, _ => False
  | .gtr => match x, y with
    | .int k a, .int k' b => k = k' /\ K (.bool (decide (b < a)))
    | _, _ => False
  | .geq => match x, y with
    | .int k a, .int k' b => k = k' /\ K (.bool (decide (b <= a)))
    | _, _ => False
  | .shl => match x, y with
    | .int .i64 a, .int _ b => 0 <= b /\ inI (a * 2 ^ (min b.toNat 64)) /\ K (.int .i64 (a * 2 ^ (min b.toNat 64)))
    | _, _ => False
  | .shr => match x, y with
    | .int k a, .int _ b => 0 <= b /\ K (.int k (a.fdiv (2 ^ (min b.toNat k.bits))))
    | _, _ => False
  | .and => match x, y with
    | .int k a, .int k' b => k = k' /\ K (.int k (bitI .and k a b))
    | _, _ => False
  | .or => match x, y with
    | .int k a, .int k' b => k = k' /\ K (.int k (bitI .or k a b))
    | _, _ => False
  | .andNot => match x, y with
    | .int k a, .int k' b => k = k' /\ K (.int k (bitI .andNot k a b))
    | _, _ => False
  | _ => False

def unA (op : UnOp) (x : AV) (K : AV -> Prop) : Prop :=
  match op, x with
  | .not, .bool b => K (.bool (!b))
  | .neg, .int .i64 n => inI (-n) /\ K (.int .i64 (-n))
  | _, _ => False

def convA (T : TT) (s d : TypeId) (x : AV) (K : AV -> Prop) : Prop :=
  match T s, T d, x with
  | some _, some di, .int _ n => match di.k with
    | .int k => K (.int k (k.wrap n))
    | _ => False
  | _, _, _ => False

section
variable {P : Program} {T : TT} {r : Rho} {m : MM} {w : World}

theorem wrapI {n : Int} (h : inI n) : IntKind.i64.wrap n = n := IntWalk.i64_in n h

theorem eqGuard_plain (op : BinOp) (t : TypeId) (x y : Operand) (a b : Value) (h : ∀ u, a ≠ .agg u) (h' : a ≠ .nilIface) : (eqGuard op t x y a b).run P w = .ok () w := by
  unfold eqGuard
  cases op <;> simp <;> cases a <;> cases b <;> simp_all

theorem run_eqGuard_ne (op : BinOp) (t : TypeId) (x y : Operand) (a b : Value) (h1 : op ≠ .eql) (h2 : op ≠ .neq) : (eqGuard op t x y a b).run P w = .ok () w := by
  unfold eqGuard
  cases op <;> simp_all

theorem equalIn_bool (d : Nat) {t : TypeId} (h : P.underlying t = some .bool) (a b : Bool) : (Op.equalIn (d + 1) t (.bool a) (.bool b)).run P w = .ok (a == b) w := by
  simp [Op.equalIn, run_underlying h]
theorem equal_bool {t : TypeId} (h : P.underlying t = some .bool) (a b : Bool) : (Op.equal t (.bool a) (.bool b)).run P w = .ok (a == b) w := equalIn_bool 9999 h a b
theorem equalIn_nil (d : Nat) {t e : TypeId} (h : P.underlying t = some (.slice e)) (p : Option Addr) (n c n' c' : Nat) : (Op.equalIn (d + 1) t (.slice p n c) (.slice none n' c')).run P w = .ok p.isNone w := by
  cases p <;> simp [Op.equalIn, run_underlying h]
theorem equal_nil {t e : TypeId} (h : P.underlying t = some (.slice e)) (p : Option Addr) (n c n' c' : Nat) : (Op.equal t (.slice p n c) (.slice none n' c')).run P w = .ok p.isNone w := equalIn_nil 9999 h p n c n' c'

theorem VRs_ints : ∀ (as_ : List Int) (vs : List Value), VRs r m (as_.map (.int .i64)) vs -> vs = as_.map (.int .i64)
  | [], vs, h => by simpa only [List.map_nil, VRs] using h
  | a :: as_, vs, h => by
    simp only [List.map_cons, VRs] at h
    obtain ⟨v, vs', h1, h2, h3⟩ := h
    simp only [VR] at h2
    rw [h1, h2, VRs_ints as_ vs' h3]; rfl
theorem eqFields_run (hT : TsOk P T) (d : Nat) {as_ bs : List Int} {xs ys : Array Value} (hx : xs.toList = as_.map (.int .i64)) (hy : ys.toList = bs.map (.int .i64)) (hl : as_.length = bs.length) :
    ∀ (L : List Field) (i : Nat), (∀ f ∈ L, f.name ≠ "_") -> (∀ f ∈ L, ∃ s' b' z', T f.type = some ⟨.int .i64, s', b', z'⟩) -> L.map (·.offset) = List.range' i L.length -> i + L.length = as_.length →
      (Op.eqFields (d + 1) xs ys L).run P w = .ok (decide (as_.drop i = bs.drop i)) w
  | [], i, _, _, _, hi => by
    simp only [Op.eqFields, Sem.run_pure]
    rw [List.drop_eq_nil_of_le (by simp at hi; omega), List.drop_eq_nil_of_le (by simp at hi; omega)]
    rfl
  | f :: L, i, hn, ht, ho, hi => by
    simp only [List.length_cons] at hi
    simp only [List.map_cons, List.length_cons, List.range'_succ, List.cons.injEq] at ho
    obtain ⟨o1, o2⟩ := ho
    obtain ⟨s', b', z', hf⟩ := ht f (by simp)
    have hia : i < as_.length := by omega
    have hib : i < bs.length := by omega
    have hint : P.underlying f.type = some (.int .i64) := ((hT _ _ hf).kind : _)
    have hpart : ∀ (xs : Array Value) (as_ : List Int) (h : i < as_.length), xs.toList = as_.map (.int .i64) -> (part f.type xs f.offset).run P w = .ok (.int .i64 as_[i]) w := by
      intro xs as_ h hx
      have e : xs[f.offset]? = some (.int .i64 as_[i]) := by
        rw [<- Array.getElem?_toList, hx, o1, List.getElem?_map, List.getElem?_eq_getElem h]; rfl
      unfold part
      rw [Sem.run_bind, (hT _ _ hf).run_isAgg]
      simp [Result.andThen, TK.agg, e, Sem.run_pure]
    unfold Op.eqFields
    rw [if_pos (hn f (by simp)), Sem.run_bind, hpart xs as_ hia hx]
    simp only [Result.andThen_ok, Sem.run_bind]
    rw [hpart ys bs hib hy]
    simp only [Result.andThen_ok]
    rw [run_equalIn_int w d f.type .i64 .i64 _ _ hint]
    simp only [Result.andThen_ok]
    have ih := eqFields_run hT d hx hy hl L (i + 1) (fun f hf => hn f (by simp [hf])) (fun f hf => ht f (by simp [hf])) o2 (by omega)
    have ed : (as_.drop i = bs.drop i) ↔ (as_[i] = bs[i] /\ as_.drop (i + 1) = bs.drop (i + 1)) := by
      rw [List.drop_eq_getElem_cons hia, List.drop_eq_getElem_cons hib, List.cons.injEq]
    by_cases he : as_[i] = bs[i]
    . rw [show (as_[i] == bs[i]) = true from by simp [he]]
      simp only [Bool.not_true, Bool.false_eq_true, if_false]
      rw [ih]
      congr 1
      simp [ed, he]
    . rw [show (as_[i] == bs[i]) = false from by simp [he]]
      simp only [Bool.not_false, if_true, Sem.run_pure]
      congr 1
      simp [ed, he]
theorem eq_sound (hT : TsOk P T) {op : BinOp} {t : TypeId} {x y : AV} {xo yo : Operand} {u v : Value} {neg : Bool} (hop : op = if neg then .neq else .eql) {K : AV -> Prop}
    (hx : VR r m x u) (hy : VR r m y v) (h : eqA T t neg x y K) :
    ∃ z q, K z /\ VR r m z q /\ (do eqGuard op t xo yo u v; binOp op t u v : Sem Value).run P w = .ok q w := by
  subst hop
  unfold eqA at h
  split at h
  . simp only [VR] at hx hy
    subst hx hy
    obtain ⟨rfl, hK⟩ := h
    refine ⟨_, _, hK, by simp only [VR]; rfl, ?_⟩
    rw [Sem.run_bind, eqGuard_plain _ _ _ _ _ _ (by simp) (by simp)]
    cases neg <;> simp [binOp, Op.intCmp]
  . simp only [VR] at hx hy
    subst hx hy
    obtain ⟨⟨i, hi, hk⟩, hK⟩ := h
    have hu : P.underlying t = some .bool := by have := (hT t i hi).kind; rw [hk] at this; exact this
    refine ⟨_, _, hK, by simp only [VR]; rfl, ?_⟩
    rw [Sem.run_bind, eqGuard_plain _ _ _ _ _ _ (by simp) (by simp)]
    cases neg <;> simp [binOp, equal_bool hu, bne]
  . simp only [VR] at hy
    subst hy
    split at h
    case h_2 => exact h.elim
    rename_i b hb
    obtain ⟨⟨i, e, hi, hk⟩, hK⟩ := h
    have hs := (hT t i hi).sl hk
    have hv : ∃ p n c, u = .slice p n c /\ p.isNone = b := by
      cases x <;> simp only [isNil, Option.some.injEq, reduceCtorEq] at hb <;> subst hb <;> simp only [VR] at hx
      . exact ⟨_, _, _, hx, rfl⟩
      . obtain ⟨b', c, _, _, _, _, e', _⟩ := hx; exact ⟨_, _, _, e', rfl⟩
    obtain ⟨p, n, c, rfl, rfl⟩ := hv
    refine ⟨_, _, hK, by simp only [VR]; rfl, ?_⟩
    rw [Sem.run_bind, eqGuard_plain _ _ _ _ _ _ (by simp) (by simp)]
    cases neg <;> simp [binOp, equal_nil hs]
  . obtain ⟨fs, s, b, z, as_, bs, ht, hf, ho, rfl, rfl, l1, l2, hK⟩ := h
    simp only [VR] at hx hy
    obtain ⟨xs, rfl, _, hx⟩ := hx
    obtain ⟨ys, rfl, _, hy⟩ := hy
    have hx' := VRs_ints _ _ hx
    have hy' := VRs_ints _ _ hy
    have hok := hT t _ ht
    obtain ⟨e1, e2, e3⟩ := hok.eqs
    obtain ⟨F, k1, k2, k3⟩ := hok.kind
    have hfo : P.fieldsOf t = F := by simp [Program.fieldsOf, k1]
    have run : (Op.equalIn 10000 t (.agg xs) (.agg ys)).run P w = .ok (decide (as_ = bs)) w := by
      rw [run_equalIn_struct w 9999 t xs ys (by rw [hfo]; exact k1) e2, hfo]
      have := eqFields_run (w := w) hT 9998 hx' hy' (by omega) F.toList 0 (e3 F k1) (fun f hf' => hf (f.offset, f.type) (by rw [<- k2]; exact List.mem_map.2 ⟨f, hf', rfl⟩)) (by
        rw [<- List.range_eq_range', show F.toList.length = fs.length by rw [<- k2, List.length_map], <- ho, <- k2, List.map_map]; rfl) (by rw [l1, <- k2, List.length_map]; omega)
      simpa using this
    refine ⟨_, _, hK, by simp only [VR]; rfl, ?_⟩
    rw [Sem.run_bind, run_eqGuard_agg w _ t xo yo xs ys e1]
    simp only [Result.andThen_ok]
    cases neg
    . simp only [Bool.false_eq_true, if_false]
      rw [run_eql_struct, run]; rfl
    . simp only [if_true]
      rw [run_neq_struct, run]; rfl
  . exact h.elim

def nilEqA (T : TT) (t : TypeId) (neg : Bool) (x : AV) (K : AV -> Prop) : Prop :=
  (∃ i e, T t = some i /\ i.k = .sl e) /\ match x with
  | .nilS => K (.bool (!neg))
  | .sub _ _ _ => K (.bool neg)
  | .ref nb _ n => (nb = true \/ 0 < n) /\ K (.bool (decide (n = 0) != neg))
  | .lst _ n _ => (0 < n -> K (.bool neg)) /\ (n = 0 -> K (.bool true) /\ K (.bool false))
  | _ => False
def nilC (op : BinOp) (y : Operand) : Bool :=
  match op, y with
  | .eql, .const (.slice none 0 0) => true
  | .neq, .const (.slice none 0 0) => true
  | _, _ => false

theorem nilEq_sound (hT : TsOk P T) {op : BinOp} {t : TypeId} {x : AV} {xo yo : Operand} {u : Value} {neg : Bool} (hop : op = if neg then .neq else .eql) {K : AV -> Prop}
    (hx : VR r m x u) (h : nilEqA T t neg x K) :
    ∃ z q, K z /\ VR r m z q /\ (do eqGuard op t xo yo u (.slice none 0 0); binOp op t u (.slice none 0 0) : Sem Value).run P w = .ok q w := by
  subst hop
  obtain ⟨⟨i, e, hi, hk⟩, h⟩ := h
  have hs := (hT t i hi).sl hk
  have run : ∀ (p : Option Addr) (n c : Nat), (do eqGuard (if neg then .neq else .eql) t xo yo (.slice p n c) (.slice none 0 0); binOp (if neg then .neq else .eql) t (.slice p n c) (.slice none 0 0) : Sem Value).run P w = .ok (.bool (p.isNone != neg)) w := by
    intro p n c
    rw [Sem.run_bind, eqGuard_plain _ _ _ _ _ _ (by simp) (by simp)]
    cases neg <;> simp [binOp, equal_nil hs]
  split at h <;> try exact h.elim
  all_goals simp only [VR] at hx
  . subst hx
    exact ⟨_, _, h, by simp only [VR]; rfl, by rw [run]; cases neg <;> rfl⟩
  . obtain ⟨b', c, _, _, _, _, rfl, _⟩ := hx
    exact ⟨_, _, h, by simp only [VR]; rfl, by rw [run]; cases neg <;> rfl⟩
  . rename_i nb id n
    obtain ⟨h1, hK⟩ := h
    rcases hx with ⟨rfl, _, rfl | ⟨hb, a, rfl⟩⟩ | ⟨h0, b, c, _, _, rfl⟩
    . exact ⟨_, _, hK, by simp only [VR]; rfl, by rw [run]; rfl⟩
    . rcases h1 with h1 | h1
      . rw [hb] at h1; cases h1
      . omega
    . refine ⟨_, _, hK, by simp only [VR]; rfl, ?_⟩
      rw [run]
      have : decide (n = 0) = false := by simp; omega
      rw [this]; rfl
  . rename_i fl n cs
    rcases hx with ⟨rfl, rfl⟩ | ⟨a, cap, vs, _, rfl, _⟩
    . obtain ⟨h2, h3⟩ := h.2 rfl
      cases neg
      . exact ⟨_, _, h2, by simp only [VR]; rfl, by rw [run]; rfl⟩
      . exact ⟨_, _, h3, by simp only [VR]; rfl, by rw [run]; rfl⟩
    . rcases Nat.eq_zero_or_pos n with h0 | h0
      . obtain ⟨h2, h3⟩ := h.2 h0
        cases neg
        . exact ⟨_, _, h3, by simp only [VR]; rfl, by rw [run]; rfl⟩
        . exact ⟨_, _, h2, by simp only [VR]; rfl, by rw [run]; rfl⟩
      . exact ⟨_, _, h.1 h0, by simp only [VR]; rfl, by rw [run]; cases neg <;> rfl⟩

theorem bin_sound (hT : TsOk P T) {op : BinOp} {t : TypeId} {x y : AV} {xo yo : Operand} {u v : Value} {K : AV -> Prop} (hx : VR r m x u) (hy : VR r m y v) (h : binA T op t x y K) :
    ∃ z q, K z /\ VR r m z q /\ (do eqGuard op t xo yo u v; binOp op t u v : Sem Value).run P w = .ok q w := by
  unfold binA at h
  split at h
  case h_1 => exact eq_sound hT (neg := false) rfl hx hy h
  case h_2 => exact eq_sound hT (neg := true) rfl hx hy h
  all_goals first
    | exact h.elim
    | (split at h
       case h_3 => exact h.elim
       case h_2 =>
        simp only [VR] at hx hy
        subst hx hy
        rw [Sem.run_bind, run_eqGuard_ne _ _ _ _ _ _ (by simp) (by simp)]
        refine ⟨_, _, h, by simp only [VR]; rfl, ?_⟩
        simp [binOp, Op.intArith]
       case h_1 =>
        simp only [VR] at hx hy
        subst hx hy
        rw [Sem.run_bind, run_eqGuard_ne _ _ _ _ _ _ (by simp) (by simp)]
        obtain ⟨h0, hK⟩ := h
        refine ⟨_, _, hK, by simp only [VR]; rfl, ?_⟩
        simp [binOp, Op.intArith, wrapI h0]; done)
    | (split at h
       case h_2 => exact h.elim
       case h_1 =>
        simp only [VR] at hx hy
        subst hx hy
        rw [Sem.run_bind, run_eqGuard_ne _ _ _ _ _ _ (by simp) (by simp)]
        first
          | (obtain ⟨h0, hK⟩ := h
             refine ⟨_, _, hK, by simp only [VR]; rfl, ?_⟩
             simp [binOp, Op.intArith, wrapI h0]; done)
          | (obtain ⟨hb, h0, hK⟩ := h
             refine ⟨_, _, hK, by simp only [VR]; rfl, ?_⟩
             simp [binOp, Op.intDiv, hb, wrapI h0]; done)
          | (obtain ⟨rfl, hb, hK⟩ := h
             refine ⟨_, _, hK, by simp only [VR]; rfl, ?_⟩
             simp [binOp, Op.intDiv, hb]; done)
          | (obtain ⟨rfl, hK⟩ := h
             refine ⟨_, _, hK, by simp only [VR]; rfl, ?_⟩
             simp [binOp, Op.intCmp, Op.intBits, bitI]; done)
          | (obtain ⟨hb, h0, hK⟩ := h
             refine ⟨_, _, hK, by simp only [VR]; rfl, ?_⟩
             have hb' : ¬ (_ : Int) < 0 := Int.not_lt.2 hb
             simp [binOp, Op.shift, hb', IntKind.bits, wrapI h0]; done)
          | (obtain ⟨hb, hK⟩ := h
             refine ⟨_, _, hK, by simp only [VR]; rfl, ?_⟩
             have hb' : ¬ (_ : Int) < 0 := Int.not_lt.2 hb
             simp [binOp, Op.shift, hb']; done))

theorem un_sound {op : UnOp} {x : AV} {u : Value} {K : AV -> Prop} (hx : VR r m x u) (h : unA op x K) : ∃ z q, K z /\ VR r m z q /\ (Op.unary op u).run P w = .ok q w := by
  unfold unA at h
  split at h
  . simp only [VR] at hx
    subst hx
    exact ⟨_, _, h, by simp only [VR]; rfl, by simp [Op.unary]⟩
  . simp only [VR] at hx
    subst hx
    refine ⟨_, _, h.2, by simp only [VR]; rfl, ?_⟩
    simp [Op.unary, Op.intArith, wrapI h.1]
  . exact h.elim

theorem conv_sound (hT : TsOk P T) {s d : TypeId} {x : AV} {u : Value} {K : AV -> Prop} (hx : VR r m x u) (h : convA T s d x K) : ∃ z q, K z /\ VR r m z q /\ (convert s d u).run P w = .ok q w := by
  unfold convA at h
  split at h <;> try exact h.elim
  rename_i si di k n hs hd
  split at h <;> try exact h.elim
  rename_i k' hk
  simp only [VR] at hx
  subst hx
  obtain ⟨ds, hds⟩ := (hT s si hs).und
  refine ⟨_, _, h, by simp only [VR]; rfl, ?_⟩
  simp only [convert, Sem.run_bind, run_underlying hds, run_underlying ((hT d di hd).int hk), Result.andThen_ok, Conv.intToInt, Sem.run_pure]
end
end Go.Lat
namespace Go.Lat
open Go.RowKit

def srcA (h : List AObj) (size : Nat) : AV -> Option (Nat × List AV)
  | .nilS => some (0, [])
  | .lst _ n cs => some (n, cs.take (n * size))
  | .ref _ id n => match h[id]? with
    | some (.row _ _ cs) => some (n, cs.take (n * size))
    | _ => none
  | .sub id off n => match h[id]? with
    | some (.row _ _ cs) => some (n, (cs.drop off).take (n * size))
    | some (.box _ cs) => some (n, (cs.drop off).take (n * size))
    | _ => none
  | _ => none

section
variable {X : Nat -> Prop} {D : List Deferred × Rho} {w0 : World} {mA : Mem} {r : Rho} {m : MM} {st : St} {a : Act} {w w' : World} {P : Program} {T : TT}

theorem src_sound (h : R X D w0 mA r m st a w) {size n : Nat} {x : AV} {v : Value} {ys : List AV} (hx : VR r m x v) (hs : srcA st.heap size x = some (n, ys)) (hl : ys.length = n * size) :
    ∃ ao cap vs, v = .slice ao n cap /\ VRs r m ys vs /\ (∀ u ∈ vs, u.oneCell' = true) /\ (ao = none -> n = 0) ∧
      ∀ p, ao = some p -> ∀ (i : Nat) u, vs[i]? = some u -> w.cell? (p.add i) = some u := by
  cases x <;> simp only [srcA, reduceCtorEq, Option.some.injEq, Prod.mk.injEq] at hs
  case nilS =>
    obtain ⟨rfl, rfl⟩ := hs
    simp only [VR] at hx
    exact ⟨_, _, [], hx, VRs.nil, by simp, by simp, by simp⟩
  case lst fl k cs =>
    obtain ⟨rfl, rfl⟩ := hs
    simp only [VR] at hx
    rcases hx with ⟨h0, rfl⟩ | ⟨p, cap, vs, hle, rfl, h1, h2⟩
    . subst h0
      have e0 : cs.take (0 * size) = [] := by rw [Nat.zero_mul, List.take_zero]
      rw [e0]
      exact ⟨_, _, [], rfl, VRs.nil, by simp, by simp, by simp⟩
    refine ⟨_, _, vs.take (k * size), rfl, (h2.take _).mono (RLe.nil r) (h.lowM fl), ?_, by simp, ?_⟩
    . intro u hu
      obtain ⟨j, hj⟩ := List.getElem?_of_mem (List.mem_of_mem_take hu)
      exact (h1 j u hj).2
    . rintro p' hp i u hu
      cases hp
      exact (h.mem _ _ (h.lowS fl (h1.take _ i u hu).1)).1
  case ref nb id k =>
    simp only [VR] at hx
    rcases hx with ⟨h0, _, hx⟩ | ⟨hk0, b, c, hb, hle, rfl⟩
    . have e0 : ys = [] /\ n = 0 := by
        rcases ho : st.heap[id]? with _ | o
        . simp [ho] at hs
        . cases o <;> simp only [ho, reduceCtorEq, Option.some.injEq, Prod.mk.injEq] at hs
          obtain ⟨rfl, rfl⟩ := hs
          subst h0
          exact ⟨by rw [Nat.zero_mul, List.take_zero], rfl⟩
      obtain ⟨rfl, rfl⟩ := e0
      rcases hx with rfl | ⟨_, a', rfl⟩
      . exact ⟨_, _, [], rfl, VRs.nil, by simp, by simp, by simp⟩
      . exact ⟨_, _, [], rfl, VRs.nil, by simp, by simp, by simp⟩
    rcases ho : st.heap[id]? with _ | o
    . simp [ho] at hs
    . cases o <;> simp only [ho, reduceCtorEq, Option.some.injEq, Prod.mk.injEq] at hs
      obtain ⟨rfl, rfl⟩ := hs
      rcases h.obj id _ ho with rfl | ⟨b', c', cur, e1, h2, h0, h3, h4, h5, h6⟩
      . rw [List.take_nil]
        exact ⟨_, _, [], rfl, VRs.nil, by simp, by simp, by simp⟩
      rw [hb] at e1
      cases e1
      refine ⟨_, _, _, rfl, h6.take _, ?_, by simp, ?_⟩
      . intro u hu
        exact h0 u (List.mem_of_mem_take hu)
      . rintro p' hp i u hu
        cases hp
        rw [Addr.add_lit]
        simp only [World.cell?, h2]
        rw [List.take_take, List.getElem?_take] at hu
        split at hu
        . simpa using hu
        . cases hu
  case sub id off k =>
    simp only [VR] at hx
    obtain ⟨b, c, p, cap, hb, hle, rfl, hp⟩ := hx
    rcases ho : st.heap[id]? with _ | o
    . simp [ho] at hs
    . cases o <;> simp only [ho, reduceCtorEq, Option.some.injEq, Prod.mk.injEq] at hs
      case row t sz cs =>
        obtain ⟨rfl, rfl⟩ := hs
        rcases h.obj id _ ho with rfl | ⟨b', c', cur, e1, h2, h0, h3, h4, h5, h6⟩
        . rw [List.drop_nil, List.take_nil]
          exact ⟨_, _, [], rfl, VRs.nil, by simp, by simp, by simp⟩
        rw [hb] at e1
        cases e1
        refine ⟨_, _, _, rfl, (h6.drop off).take _, ?_, by simp, ?_⟩
        . intro u hu
          exact h0 u (List.mem_of_mem_drop (List.mem_of_mem_take hu))
        . rintro p' hp' i u hu
          cases hp'
          have hk : 0 < k := by
            rcases Nat.eq_zero_or_pos k with h | h
            . subst h; simp at hu
            . exact h
          rw [hp hk, Addr.add_lit]
          simp only [World.cell?, h2]
          rw [List.getElem?_take] at hu
          split at hu
          . rw [List.getElem?_drop, List.getElem?_take] at hu
            split at hu
            . simpa using hu
            . cases hu
          . cases hu
      case box t cs =>
        obtain ⟨rfl, rfl⟩ := hs
        obtain ⟨b', c', cur, e1, h2, h0, h6⟩ := h.obj id _ ho
        rw [hb] at e1
        cases e1
        refine ⟨_, _, _, rfl, (h6.drop off).take _, ?_, by simp, ?_⟩
        . intro u hu
          exact h0 u (List.mem_of_mem_drop (List.mem_of_mem_take hu))
        . rintro p' hp' i u hu
          cases hp'
          have hk : 0 < k := by
            rcases Nat.eq_zero_or_pos k with h | h
            . subst h; simp at hu
            . exact h
          rw [hp hk, Addr.add_lit]
          simp only [World.cell?, h2]
          rw [List.getElem?_take] at hu
          split at hu
          . rw [List.getElem?_drop] at hu
            simpa using hu
          . cases hu

def lenA (T : TT) (t : TypeId) (x : AV) (K : AV -> Prop) : Prop :=
  match T t with
  | some i => match i.k with
    | .sl _ => match x with
      | .nilS => K (.int .i64 0)
      | .lst _ n _ => K (.int .i64 n)
      | .ref _ _ n => K (.int .i64 n)
      | .sub _ _ n => K (.int .i64 n)
      | .cut _ _ _ _ n _ => K (.int .i64 n)
      | _ => False
    | .ar n _ => K (.int .i64 n)
    | _ => False
  | none => False
theorem len_sound (hT : TsOk P T) {t ty : TypeId} {x : AV} {v : Value} {K : AV -> Prop} (hx : VR r m x v) (h : lenA T t x K) : ∃ y u, K y /\ VR r m y u /\ (Builtin.len_ #[t] ty #[v]).run P w = .ok u w := by
  unfold lenA at h
  split at h <;> try exact h.elim
  rename_i i hi
  split at h <;> try exact h.elim
  . rename_i e hk
    have hs := (hT t i hi).sl hk
    have run : ∀ p n c, (Builtin.len_ #[t] ty #[.slice p n c]).run P w = .ok (goInt n) w := fun p n c => by simp [Builtin.len_, run_underlying hs]
    split at h <;> try exact h.elim
    all_goals simp only [VR] at hx
    . subst hx; exact ⟨_, _, h, by simp only [VR]; rfl, run _ _ _⟩
    . rcases hx with ⟨rfl, rfl⟩ | ⟨_, _, _, _, rfl, _⟩ <;> exact ⟨_, _, h, by simp only [VR, goInt], run _ _ _⟩
    . rcases hx with ⟨rfl, _, rfl | ⟨_, _, rfl⟩⟩ | ⟨_, _, _, _, _, rfl⟩ <;> exact ⟨_, _, h, by simp only [VR, goInt], run _ _ _⟩
    . obtain ⟨_, _, _, _, _, _, rfl, _⟩ := hx; exact ⟨_, _, h, by simp only [VR, goInt], run _ _ _⟩
    . rcases hx with ⟨_, rfl, _, rfl | ⟨_, rfl⟩⟩ | ⟨_, _, _, _, _, _, rfl⟩ <;> exact ⟨_, _, h, by simp only [VR, goInt], run _ _ _⟩
  . rename_i n e hk
    have hs := (hT t i hi).ar hk
    exact ⟨_, _, h, by simp only [VR]; rfl, by simp [Builtin.len_, run_underlying hs, goInt]⟩

def capA (T : TT) (t : TypeId) (x : AV) (K : AV -> Prop) : Prop :=
  match T t with
  | some i => match i.k with
    | .sl _ => match x with
      | .cut _ _ _ _ _ c => K (.int .i64 c)
      | _ => False
    | _ => False
  | none => False
theorem cap_sound (hT : TsOk P T) {t ty : TypeId} {x : AV} {v : Value} {K : AV -> Prop} (hx : VR r m x v) (h : capA T t x K) : ∃ y u, K y /\ VR r m y u /\ (Builtin.cap_ #[t] ty #[v]).run P w = .ok u w := by
  unfold capA at h
  split at h <;> try exact h.elim
  rename_i i hi
  split at h <;> try exact h.elim
  rename_i e hk
  have hs := (hT t i hi).sl hk
  have run : ∀ p n c, (Builtin.cap_ #[t] ty #[.slice p n c]).run P w = .ok (goInt c) w := fun p n c => by simp [Builtin.cap_, run_underlying hs]
  split at h <;> try exact h.elim
  simp only [VR] at hx
  rcases hx with ⟨_, _, rfl, rfl | ⟨_, rfl⟩⟩ | ⟨_, _, _, _, _, _, rfl⟩ <;> exact ⟨_, _, h, by simp only [VR, goInt], run _ _ _⟩

def minA (x y : AV) (K : AV -> Prop) : Prop :=
  match x, y with
  | .int k a, .int k' b => k = k' /\ K (.int k (min a b))
  | _, _ => False
def maxA (x y : AV) (K : AV -> Prop) : Prop :=
  match x, y with
  | .int k a, .int k' b => k = k' /\ K (.int k (max a b))
  | _, _ => False
theorem min_sound {ts : Array TypeId} {ty : TypeId} {x y : AV} {u v : Value} {K : AV -> Prop} (hx : VR r m x u) (hy : VR r m y v) (h : minA x y K) : ∃ z q, K z /\ VR r m z q /\ (Builtin.min_ ts ty #[u, v]).run P w = .ok q w := by
  unfold minA at h
  split at h <;> try exact h.elim
  rename_i k a k' b
  simp only [VR] at hx hy
  subst hx hy
  obtain ⟨rfl, hK⟩ := h
  refine ⟨_, .int k (min a b), hK, by simp only [VR], ?_⟩
  have e : (if b < a then b else a) = min a b := by split <;> omega
  simp [Builtin.min_, Builtin.min2, e]
theorem max_sound {ts : Array TypeId} {ty : TypeId} {x y : AV} {u v : Value} {K : AV -> Prop} (hx : VR r m x u) (hy : VR r m y v) (h : maxA x y K) : ∃ z q, K z /\ VR r m z q /\ (Builtin.max_ ts ty #[u, v]).run P w = .ok q w := by
  unfold maxA at h
  split at h <;> try exact h.elim
  rename_i k a k' b
  simp only [VR] at hx hy
  subst hx hy
  obtain ⟨rfl, hK⟩ := h
  refine ⟨_, .int k (max a b), hK, by simp only [VR], ?_⟩
  have e : (if b > a then b else a) = max a b := by split <;> omega
  simp [Builtin.max_, Builtin.max2, e]

def fillP (place : Nat -> Option (Nat × Nat)) (cells : List AV) (K : List AV -> Prop) : List (Nat × AV) -> Prop
  | [] => K cells
  | (i, v) :: rest => match place i, v.cells with
    | some (off, size), some vs => vs.length = size /\ off + size <= cells.length /\ fillP place (Lat.spl cells off vs) K rest
    | _, _ => False

theorem foldl_set (off : Nat) : ∀ (l : List Value) (k : Nat) (cur : Array Value), off + k + l.length <= cur.size →
    ((l.zipIdx k).foldl (fun (cs : Array Value) (p : Value × Nat) => cs.setIfInBounds (off + p.2) p.1) cur).toList = cur.toList.take (off + k) ++ l ++ cur.toList.drop (off + k + l.length)
  | [], k, cur, _ => by simp
  | v :: l, k, cur, h => by
    simp only [List.length_cons] at h
    simp only [List.zipIdx_cons, List.foldl_cons]
    rw [foldl_set off l (k + 1) _ (by simp; omega)]
    simp only [Array.toList_setIfInBounds]
    have := list_seg_step cur.toList (off + k) v l (by simp; omega)
    simp only [List.length_cons]
    rw [show off + (k + 1) = off + k + 1 by omega, this]

theorem fill_sound {place place' : Nat -> Option (Nat × Nat)} (hp : ∀ i x, place i = some x -> place' i = some x) : ∀ (parts : List (Nat × AV)) (parts' : List (Nat × Value)) (cells : List AV) (cur : Array Value) (K : List AV -> Prop),
    parts'.map (·.1) = parts.map (·.1) -> VRs r m (parts.map (·.2)) (parts'.map (·.2)) -> VRs r m cells cur.toList -> (∀ u ∈ cur.toList, u.oneCell' = true) -> fillP place cells K parts →
    ∃ cells' cur', K cells' /\ VRs r m cells' cur'.toList /\ (∀ u ∈ cur'.toList, u.oneCell' = true) /\ Instr.fill place' cur parts' = some cur'
  | [], parts', cells, cur, K, he, _, hv, h1, hK => by
    have : parts' = [] := by simpa using he
    subst this
    exact ⟨cells, cur, hK, hv, h1, rfl⟩
  | (i, x) :: parts, [], cells, cur, K, he, _, hv, h1, hK => by simp at he
  | (i, x) :: parts, (j, v) :: parts', cells, cur, K, he, hvs, hv, h1, hK => by
    simp only [List.map_cons, List.cons.injEq] at he hvs
    obtain ⟨rfl, he⟩ := he
    simp only [VRs] at hvs
    obtain ⟨v', vs', e, hxv, hvs⟩ := hvs
    simp only [List.cons.injEq] at e
    obtain ⟨rfl, rfl⟩ := e
    unfold fillP at hK
    split at hK
    case h_2 => exact hK.elim
    case h_1 off size vs hpl hcs =>
      obtain ⟨hlen, hle, hK⟩ := hK
      obtain ⟨hcv, hc1⟩ := cells_sound hxv hcs
      have hcl := hcv.length
      have hl := hv.length
      simp only [Array.length_toList] at hcl hl
      have hsz : v.cells.size = size := by omega
      have hb : off + v.cells.size <= cur.size := by omega
      have key := foldl_set off v.cells.toList 0 cur (by simp; omega)
      have e2 : (v.cells.zipIdx.foldl (fun (cs : Array Value) (p : Value × Nat) => cs.setIfInBounds (off + p.2) p.1) cur) = ((v.cells.toList.zipIdx 0).foldl (fun (cs : Array Value) (p : Value × Nat) => cs.setIfInBounds (off + p.2) p.1) cur) := by
        rw [<- Array.foldl_toList, Array.toList_zipIdx]
      have e3 := key
      rw [<- e2] at e3
      simp only [Nat.add_zero] at e3
      obtain ⟨cells', cur', hK', hv', h1', hf⟩ := fill_sound hp parts parts' _ (v.cells.zipIdx.foldl (fun (cs : Array Value) (p : Value × Nat) => cs.setIfInBounds (off + p.2) p.1) cur) K he hvs
        (by rw [e3]; exact hv.spl hcv off (by omega))
        (by
          intro u hu
          rw [e3] at hu
          simp only [List.mem_append] at hu
          rcases hu with (hu | hu) | hu
          . exact h1 u (List.mem_of_mem_take hu)
          . exact hc1 u hu
          . exact h1 u (List.mem_of_mem_drop hu)) hK
      refine ⟨cells', cur', hK', hv', h1', ?_⟩
      unfold Instr.fill
      simp only [hp _ _ hpl]
      rw [if_neg (by simp [hsz]; omega)]
      exact hf
end
end Go.Lat
namespace Go.Lat
open Go.RowKit

def fieldPl (T : TT) (fs : List (Nat × TypeId)) (i : Nat) : Option (Nat × Nat) :=
  match fs[i]? with
  | some (off, ft) => match T ft with
    | some fi => some (off, fi.size)
    | none => none
  | none => none

def buildA (T : TT) (t : TypeId) (parts : List (Nat × AV)) (K : AV -> Prop) : Prop :=
  match T t with
  | some i => match i.k with
    | .st fs => fillP (fieldPl T fs) i.zero (fun cs => K (.agg cs)) parts
    | .ar _ e => match T e with
      | some ei => fillP (fun j => some (j * ei.size, ei.size)) i.zero (fun cs => K (.agg cs)) parts
      | none => False
    | _ => False
  | none => False

def zerosA (n s : Nat) (zs : List AV) : List AV := (List.range (n * s)).map fun i => zs.getD (i % s) .any

def buildSliceA (T : TT) (h : List AObj) (t : TypeId) (len : Nat) (parts : List (Nat × AV)) (K : AV -> List AObj -> Prop) : Prop :=
  match T t with
  | some i => match i.k with
    | .sl e => match T e with
      | some ei => (len <= 65536 /\ 0 < ei.size /\ ei.size <= 256) /\ fillP (fun j => some (j * ei.size, ei.size)) (zerosA len ei.size ei.zero) (fun cs => K (.ref false h.length len) (h ++ [.row e ei.size cs])) parts
      | none => False
    | _ => False
  | none => False

section
variable {X : Nat -> Prop} {D : List Deferred × Rho} {w0 : World} {mA : Mem} {r : Rho} {m : MM} {st : St} {a : Act} {w w' : World} {P : Program} {T : TT}

theorem run_places (hT : TsOk P T) : ∀ (F : List Field), (∀ f ∈ F, ∃ inf, P.info? f.type = some inf) →
    ∃ L : List (Nat × Nat), (F.mapM fun f => (do pure (f.offset, <- sizeOf f.type) : Sem (Nat × Nat))).run P w = .ok L w /\ L.length = F.length /\ ∀ (i : Nat) f fi, F[i]? = some f -> T f.type = some fi -> L[i]? = some (f.offset, fi.size)
  | [], _ => ⟨[], by simp [Sem.run_pure], rfl, by simp⟩
  | f :: F, h => by
    obtain ⟨inf, hinf⟩ := h f (by simp)
    obtain ⟨L, hr, hl, hg⟩ := run_places hT F (fun g hg => h g (by simp [hg]))
    have hs : (sizeOf f.type).run P w = .ok inf.size w := by simp [sizeOf, typeInfo, program, Sem.run, hinf, Sem.run_bind, Result.andThen, Sem.run_pure]
    refine ⟨(f.offset, inf.size) :: L, ?_, by simp [hl], ?_⟩
    . simp only [List.mapM_cons, Sem.run_bind, hs, Result.andThen_ok, Sem.run_pure, hr]
    . intro i g fi hi hti
      cases i with
      | zero =>
        simp only [List.getElem?_cons_zero, Option.some.injEq] at hi
        subst hi
        have := (hT _ fi hti).run_sizeOf (P := P) w
        rw [hs] at this
        simp only [Result.ok.injEq, and_true] at this
        simp [this]
      | succ i => simpa using hg i g fi (by simpa using hi) hti

theorem build_sound (hT : TsOk P T) {t : TypeId} {parts : List (Nat × AV)} {parts' : List (Nat × Value)} {K : AV -> Prop} (he : parts'.map (·.1) = parts.map (·.1)) (hv : VRs r m (parts.map (·.2)) (parts'.map (·.2)))
    (h : buildA T t parts K) : ∃ y u, K y /\ VR r m y u /\ (Instr.build t parts'.toArray).run P w = .ok u w := by
  unfold buildA at h
  split at h <;> try exact h.elim
  rename_i i hi
  obtain ⟨z, hz, hzv, hz1⟩ := (hT t i hi).run_zero (P := P) w
  have hzv' : VRs r m i.zero z.cells.toList := hzv.mono (fun _ _ hh => by simp at hh) (fun _ _ _ hh => by cases hh)
  split at h <;> try exact h.elim
  . rename_i fs hk
    have hkd := (hT t i hi).kind
    rw [hk] at hkd
    obtain ⟨F, hF, hfs, hin⟩ := hkd
    obtain ⟨L, hrun, hlen, hget⟩ := run_places (w := w) hT F.toList hin
    obtain ⟨cs, cur, hK, hcv, hc1, hfill⟩ := fill_sound (place' := (L.toArray[·]?)) (fun j x hx => by
      unfold fieldPl at hx
      split at hx <;> try (cases hx; done)
      rename_i off ft hf
      split at hx <;> try (cases hx; done)
      rename_i fi hfi
      simp only [Option.some.injEq] at hx
      subst hx
      rw [<- hfs, List.getElem?_map] at hf
      obtain ⟨fd, h3, h4⟩ := Option.map_eq_some_iff.1 hf
      simp only [Prod.mk.injEq] at h4
      obtain ⟨rfl, rfl⟩ := h4
      simpa using hget j fd fi h3 hfi) parts parts' i.zero z.cells _ he hv hzv' hz1 h
    refine ⟨_, _, hK, by simp only [VR]; exact ⟨cur, rfl, hc1, hcv⟩, ?_⟩
    have hm : (F.mapM fun f => (do pure (f.offset, <- sizeOf f.type) : Sem (Nat × Nat))).run P w = .ok L.toArray w := by
      rw [Array.mapM_eq_mapM_toList]
      simp only [map_eq_pure_bind, Sem.run_bind, hrun, Result.andThen_ok, Sem.run_pure]
    simp only [Instr.build, Sem.run_bind, hz, Result.andThen_ok, run_underlying hF, hm]
    simp only [hfill, Sem.run_pure]
  . rename_i n e hk
    split at h <;> try exact h.elim
    rename_i ei hei
    have hs := (hT t i hi).ar hk
    obtain ⟨cs, cur, hK, hcv, hc1, hfill⟩ := fill_sound (place' := fun j => some (j * ei.size, ei.size)) (fun j x hx => hx) parts parts' i.zero z.cells _ he hv hzv' hz1 h
    refine ⟨_, _, hK, by simp only [VR]; exact ⟨cur, rfl, hc1, hcv⟩, ?_⟩
    simp only [Instr.build, Sem.run_bind, hz, Result.andThen_ok, run_underlying hs, (hT e ei hei).run_sizeOf]
    simp only [hfill, Sem.run_pure]

theorem VRs.of_get : ∀ {xs : List AV} {vs : List Value}, vs.length = xs.length -> (∀ (i : Nat) x v, xs[i]? = some x -> vs[i]? = some v -> VR r m x v) -> VRs r m xs vs
  | [], vs, hl, _ => by simp only [VRs]; simpa using hl
  | x :: xs, [], hl, _ => by simp at hl
  | x :: xs, v :: vs, hl, h => by
    simp only [VRs]
    exact ⟨v, vs, rfl, h 0 x v (by simp) (by simp), VRs.of_get (by simpa using hl) fun i y u hy hu => h (i + 1) y u (by simpa using hy) (by simpa using hu)⟩

theorem zeros_sound {n s : Nat} {zs : List AV} {z : Array Value} (hv : VRs r m zs z.toList) (hs : zs.length = s) (hp : 0 < s) :
    VRs r m (zerosA n s zs) ((Array.range (n * s)).map (z[· % z.size]!)).toList := by
  have hz : z.size = s := by have := hv.length; simp only [Array.length_toList] at this; omega
  refine VRs.of_get (by simp [zerosA]) fun i x v hx hi => ?_
  simp only [zerosA, List.getElem?_map] at hx
  have hlt : i < n * s := by
    rcases Nat.lt_or_ge i (n * s) with h | h
    . exact h
    . rw [List.getElem?_eq_none (by simpa using h)] at hi; cases hi
  rw [List.getElem?_range hlt] at hx
  simp only [Option.map_some, Option.some.injEq] at hx
  subst hx
  have hm : i % s < s := Nat.mod_lt _ hp
  rw [Array.getElem?_toList, Array.getElem?_map, Array.getElem?_range] at hi
  rw [if_pos hlt] at hi
  simp only [Option.map_some, Option.some.injEq, hz] at hi
  subst hi
  have := hv.getD (i % s) default
  rw [List.getD_eq_getElem?_getD, List.getD_eq_getElem?_getD] at this
  rw [List.getD_eq_getElem?_getD]
  have e : z[i % s]! = z.toList[i % s]?.getD default := by
    rw [getElem!_pos z (i % s) (by omega)]
    simp [show i % s < z.size by omega]
  rw [e]
  exact this

def appendA (T : TT) (h : List AObj) (t : TypeId) (s x : AV) (K : AV -> List AObj -> Prop) : Prop :=
  match T t with
  | some i => match i.k with
    | .sl e => match T e with
      | some ei => (0 < ei.size /\ ei.bytes <= 131072) /\ match srcA h ei.size x with
        | some (n, ys) => ys.length = n * ei.size /\ match s with
          | .nilS => n <= 1073741824 /\ K (.ref true h.length n) (h ++ [.row e ei.size ys])
          | .ref nb id k => match h[id]? with
            | some (.row e' sz cs) => (e' = e /\ sz = ei.size /\ k * ei.size <= cs.length /\ k + n <= 1073741824) /\ K (.ref nb h.length (k + n)) (h.set id .dead ++ [.row e ei.size (cs.take (k * ei.size) ++ ys)])
            | _ => False
          | .cut _ id off _ len cp => match h[id]? with
            | some (.row e' sz cs) => (e' = e /\ sz = ei.size /\ off = 0 /\ 0 < n /\ len * ei.size <= cs.length /\ cp < len + n /\ len + n <= 1073741824) /\ K (.ref true h.length (len + n)) (h ++ [.row e ei.size (cs.take (len * ei.size) ++ ys)])
            | _ => False
          | _ => False
        | none => False
      | none => False
    | _ => False
  | none => False

theorem append_step (hT : TsOk P T) {t ty e : TypeId} {ei : TI} (hs : P.underlying t = some (.slice e)) (hei : T e = some ei) (hsz : 0 < ei.size) (hby : ei.bytes <= 131072) {v : Value} {n k : Nat} {xs vs : List Value}
    (hown : w.ownsRow 0 e ei.size v k xs) {ao : Option Addr} {cap : Nat} (hl : vs.length = n * ei.size) (h1 : ∀ u ∈ vs, u.oneCell' = true) (hn0 : ao = none -> n = 0)
    (hc : ∀ p, ao = some p -> ∀ (i : Nat) u, vs[i]? = some u -> w.cell? (p.add i) = some u) (hle : k + n <= 1073741824) :
    ∃ v' w', (Builtin.append_ #[t, t] ty #[v, .slice ao n cap]).run P w = .ok v' w' /\ w'.ownsRow 0 e ei.size v' (k + n) (xs ++ vs) /\ w.grownBy w' v.ownBlock ∧
      (v' = .slice none 0 0 ↔ v = .slice none 0 0 /\ n = 0) /\ (v'.ownBlock = v.ownBlock \/ v'.ownBlock = some w.heap.size) := by
  obtain ⟨inf, z, hi, hi1, hi2, hi3, hi4, hi5, hi6⟩ := (hT e ei hei).info
  have hzs : z.cells.size = ei.size := by have := hi4.length; simp only [Array.length_toList] at this; omega
  cases ao with
  | some p =>
    exact run_append_own_at (P := P) w 0 t ty e inf z ei.size ei.bytes hs hi hi3 hi1 hi2 hzs hsz v k xs hown p n cap vs hl (hc p rfl) h1 (by unfold maxLen; omega)
      (by have := Nat.mul_le_mul hle hby; omega) (Nat.zero_le _)
  | none =>
    have hn := hn0 rfl
    subst hn
    have hv0 : vs = [] := List.eq_nil_of_length_eq_zero (by simpa using hl)
    subst hv0
    refine ⟨v, w, ?_, by simpa using hown, World.grownBy.refl w _, by simp, .inl rfl⟩
    rcases hown.2 with ⟨rfl, rfl⟩ | ⟨g, c, cur, rfl, _, _, hnc, _⟩
    . simp [Builtin.append_, run_underlying hs, sizeOf, typeInfo, program, Sem.run, hi, Builtin.lenOf, Builtin.firstCells]
    . simp [Builtin.append_, run_underlying hs, sizeOf, typeInfo, program, Sem.run, hi, Builtin.lenOf, Builtin.firstCells, hnc, storeCells]

theorem append0_sound (hT : TsOk P T) (h : R X D w0 mA r m st a w) {t ty e : TypeId} {ei : TI} (hsl : P.underlying t = some (.slice e)) (hei : T e = some ei) (hsz : 0 < ei.size) (hby : ei.bytes <= 131072) {nb : Bool} {u : Value}
    (hu : u = .slice none 0 0 \/ (nb = false /\ ∃ a, u = .slice (some a) 0 0)) {ys : List AV} {vs : List Value} {n cap : Nat} {ao : Option Addr} (hyl : ys.length = n * ei.size) (hvs : VRs r m ys vs)
    (hv1 : ∀ u ∈ vs, u.oneCell' = true) (hn0 : ao = none -> n = 0) (hcell : ∀ p, ao = some p -> ∀ (i : Nat) u, vs[i]? = some u -> w.cell? (p.add i) = some u) (hle : n <= 1073741824) :
    ∃ q w' r', RLe r r' /\ VR r' m (.ref nb st.heap.length n) q /\ (Builtin.append_ #[t, t] ty #[u, .slice ao n cap]).run P w = .ok q w' /\ R X D w0 mA r' m { st with heap := st.heap ++ [.row e ei.size ys] } a w' := by
  have hvl : vs.length = n * ei.size := by rw [hvs.length, hyl]
  have hown0 : w.ownsRow 0 e ei.size (.slice none 0 0) 0 [] := ⟨by simp, .inl ⟨rfl, rfl⟩⟩
  obtain ⟨inf, z, hi, hi1, hi2, hi3, hi4, hi5, hi6⟩ := (hT e ei hei).info
  have hzs : z.cells.size = ei.size := by have := hi4.length; simp only [Array.length_toList] at this; omega
  rcases Nat.eq_zero_or_pos n with h0 | h0
  . subst h0
    have hy0 : ys = [] := List.eq_nil_of_length_eq_zero (by simpa using hyl)
    subst hy0
    have hv0 : vs = [] := List.eq_nil_of_length_eq_zero (by simpa using hvl)
    subst hv0
    refine ⟨u, w, _, RLe.app r [(0, 0)], ?_, ?_, h.pushN e ei.size⟩
    . simp only [VR]
      exact .inl ⟨trivial, ⟨_, rget_new r (0, 0) h.len⟩, hu⟩
    . rcases hu with rfl | ⟨_, q, rfl⟩
      . cases ao with
        | none => simp [Builtin.append_, run_underlying hsl, sizeOf, typeInfo, program, Sem.run, hi, Builtin.lenOf, Builtin.firstCells]
        | some p => simp [Builtin.append_, run_underlying hsl, sizeOf, typeInfo, program, Sem.run, hi, Builtin.lenOf, Builtin.firstCells, loadCells, loadCellsFrom]
      . cases ao with
        | none => simp [Builtin.append_, run_underlying hsl, sizeOf, typeInfo, program, Sem.run, hi, Builtin.lenOf, Builtin.firstCells, storeCells]
        | some p => simp [Builtin.append_, run_underlying hsl, sizeOf, typeInfo, program, Sem.run, hi, Builtin.lenOf, Builtin.firstCells, loadCells, loadCellsFrom, storeCells]
  . obtain ⟨p, rfl⟩ : ∃ p, ao = some p := by
      cases ao with
      | none => have := hn0 rfl; omega
      | some p => exact ⟨p, rfl⟩
    have fin : ∀ (q : Value) (w' : World) (c : Nat) (cur : Array Value), q = .slice (some ⟨w.heap.size, 0, none⟩) n c -> w.grownBy w' none -> w'.heap[w.heap.size]? = some (.cells cur e (0, 0)) -> n <= c -> c <= maxLen -> cur.size = c * ei.size -> cur.toList.take (n * ei.size) = vs →
        (Builtin.append_ #[t, t] ty #[u, .slice (some p) n cap]).run P w = .ok q w' →
        ∃ q w' r', RLe r r' /\ VR r' m (.ref nb st.heap.length n) q /\ (Builtin.append_ #[t, t] ty #[u, .slice (some p) n cap]).run P w = .ok q w' /\ R X D w0 mA r' m { st with heap := st.heap ++ [.row e ei.size ys] } a w' := by
      intro q w' c cur hq hgn hh hnc hcm hcs htk hrun
      have hlt : w.heap.size < w'.heap.size := by
        rcases Nat.lt_or_ge w.heap.size w'.heap.size with h1 | h1
        . exact h1
        . rw [Array.getElem?_eq_none h1] at hh; cases hh
      have hnew := rget_new r (w.heap.size, c) h.len
      have hle2 : n * ei.size <= c * ei.size := Nat.mul_le_mul_right _ hnc
      refine ⟨q, w', _, RLe.app r [(w.heap.size, c)], ?_, hrun, h.fresh hgn hlt (.inr ⟨_, _, cur, hnew, hh, ?_, hcm, hcs, by omega, ?_⟩)⟩
      . simp only [VR]
        exact .inr ⟨h0, _, _, hnew, hnc, hq⟩
      . rw [hyl, htk]; exact hv1
      . rw [hyl, htk]; exact hvs.mono (RLe.app _ _) (MLe.refl m)
    rcases hu with rfl | ⟨_, q, rfl⟩
    . obtain ⟨v', w', hrun, hown, hg, hiff, hblk⟩ := append_step (P := P) hT (ty := ty) (cap := cap) hsl hei hsz hby hown0 hvl hv1 hn0 hcell (by omega)
      simp only [Nat.zero_add, List.nil_append] at hown
      rcases hown.2 with ⟨_, h00⟩ | ⟨g, c, cur, rfl, _, hh, hnc, hcm, hcs, htk⟩
      . omega
      . have hgs : g = w.heap.size := by
          rcases hblk with hb | hb <;> simp [Value.ownBlock] at hb
          exact hb
        subst hgs
        exact fin _ w' c cur rfl hg hh hnc hcm hcs htk hrun
    . have hr := run_append_grow (P := P) w t ty e inf z hsl hi hi3 q 0 0 [] (by simp) (by simp) p n cap vs (by rw [hi1]; exact hvl) (hcell p rfl) (by omega) (by omega)
        (growslice_fits (by omega) (by have := Nat.mul_le_mul hle hby; rw [hi2, Nat.zero_add]; omega))
      simp only [Nat.zero_add] at hr
      refine fin _ _ _ (#[] ++ vs.toArray ++ Builtin.zeroCells z.cells (grownCap w n 0 e - n)) rfl ?_ ?_ (grownCap_ge _ _ _ _) (grownCap_le_maxLen _ _ _ _ (by unfold maxLen; omega)) ?_ ?_ hr
      . exact ⟨rfl, rfl, rfl, by simp, fun k hk _ => (by show (w.drew.heap.push _)[k]? = w.drew.heap[k]?; have hk2 : k < w.drew.heap.size := hk; rw [Array.getElem?_push, if_neg (Nat.ne_of_lt hk2)])⟩
      . exact heap_new w.drew _
      . have hge := grownCap_ge w n 0 e
        simp only [Array.size_append, List.size_toArray, size_zeroCells, hzs, hvl, List.length_nil, Nat.zero_add, <- Nat.add_mul]
        congr 1
        omega
      . simp only [Array.toList_append]
        rw [<- hvl]
        simp

theorem appendC_sound (hT : TsOk P T) (h : R X D w0 mA r m st a w) {t ty e : TypeId} {ei : TI} (hsl : P.underlying t = some (.slice e)) (hei : T e = some ei) (hsz : 0 < ei.size) (hby : ei.bytes <= 131072) {id len cp b c : Nat} (hb : r[id]? = some (b, c))
    {cs : List AV} (ho : st.heap[id]? = some (.row e ei.size cs)) (hk : len * ei.size <= cs.length) {ys : List AV} {vs : List Value} {n cap : Nat} {p : Addr} (hn : 0 < n) (hyl : ys.length = n * ei.size) (hvs : VRs r m ys vs)
    (hv1 : ∀ u ∈ vs, u.oneCell' = true) (hcell : ∀ (i : Nat) u, vs[i]? = some u -> w.cell? (p.add i) = some u) (hcp : cp < len + n) (hle : len + n <= 1073741824) :
    ∃ q w' r', RLe r r' /\ VR r' m (.ref true st.heap.length (len + n)) q /\ (Builtin.append_ #[t, t] ty #[.slice (some ⟨b, 0, none⟩) len cp, .slice (some p) n cap]).run P w = .ok q w' /\ R X D w0 mA r' m { st with heap := st.heap ++ [.row e ei.size (cs.take (len * ei.size) ++ ys)] } a w' := by
  have hvl : vs.length = n * ei.size := by rw [hvs.length, hyl]
  obtain ⟨inf, z, hi, hi1, hi2, hi3, hi4, hi5, hi6⟩ := (hT e ei hei).info
  have hzs : z.cells.size = ei.size := by have := hi4.length; simp only [Array.length_toList] at this; omega
  obtain ⟨olds, hol, hov, ho1, hoc⟩ : ∃ olds : List Value, olds.length = len * ei.size /\ VRs r m (cs.take (len * ei.size)) olds /\ (∀ u ∈ olds, u.oneCell' = true) /\ ∀ (j : Nat) u, olds[j]? = some u -> w.cell? ((⟨b, 0, none⟩ : Addr).add j) = some u := by
    rcases h.obj id _ ho with rfl | ⟨b', c', cur, e1, h2, h0, h3, h4, h5, h6⟩
    . simp only [List.length_nil, Nat.le_zero_eq] at hk
      exact ⟨[], by simp [hk], by rw [List.take_nil]; exact VRs.nil, by simp, by simp⟩
    rw [hb] at e1
    cases e1
    refine ⟨(cur.toList.take cs.length).take (len * ei.size), ?_, h6.take _, fun u hu => h0 u (List.mem_of_mem_take hu), fun j u hu => ?_⟩
    . have hcl : cs.length <= cur.toList.length := by simpa using h5
      rw [List.take_take, List.length_take]; omega
    . rw [Addr.add_lit]
      simp only [World.cell?, h2]
      rw [List.take_take, List.getElem?_take] at hu
      split at hu
      . simpa using hu
      . cases hu
  have hr := run_append_grow (P := P) w t ty e inf z hsl hi hi3 ⟨b, 0, none⟩ len cp olds (by rw [hi1]; exact hol) hoc p n cap vs (by rw [hi1]; exact hvl) hcell hcp (by omega)
    (growslice_fits (by omega) (by have := Nat.mul_le_mul hle hby; rw [hi2]; omega))
  have hnew := rget_new r (w.heap.size, grownCap w (len + n) cp e) h.len
  have hge := grownCap_ge w (len + n) cp e
  have hszE : (olds.toArray ++ vs.toArray ++ Builtin.zeroCells z.cells (grownCap w (len + n) cp e - (len + n))).size = grownCap w (len + n) cp e * ei.size := by
    simp only [Array.size_append, List.size_toArray, size_zeroCells, hzs, hvl, hol, <- Nat.add_mul]
    congr 1
    omega
  have hxl : (cs.take (len * ei.size) ++ ys).length = (len + n) * ei.size := by rw [List.length_append, List.length_take, Nat.min_eq_left hk, hyl, Nat.add_mul]
  have htk : (olds.toArray ++ vs.toArray ++ Builtin.zeroCells z.cells (grownCap w (len + n) cp e - (len + n))).toList.take ((cs.take (len * ei.size) ++ ys).length) = olds ++ vs := by
    rw [hxl]
    simp only [Array.toList_append]
    have : (len + n) * ei.size = (olds ++ vs).length := by rw [List.length_append, hol, hvl, Nat.add_mul]
    rw [this]
    exact List.take_left
  refine ⟨_, _, _, RLe.app r [(w.heap.size, _)], ?_, hr, h.fresh (c := grownCap w (len + n) cp e) ⟨rfl, rfl, rfl, by simp, fun k hk _ => (by show (w.drew.heap.push _)[k]? = w.drew.heap[k]?; have hk2 : k < w.drew.heap.size := hk; rw [Array.getElem?_push, if_neg (Nat.ne_of_lt hk2)])⟩ (by show w.drew.heap.size < (w.drew.heap.push _).size; rw [Array.size_push]; exact Nat.lt_succ_self _) (.inr ⟨_, _, _, hnew, heap_new w.drew _, ?_, grownCap_le_maxLen _ _ _ _ (by unfold maxLen; omega), hszE, ?_, ?_⟩)⟩
  . simp only [VR]
    exact .inr ⟨by omega, _, _, hnew, hge, rfl⟩
  . rw [htk]
    intro u hu
    rcases List.mem_append.1 hu with hu | hu
    . exact ho1 u hu
    . exact hv1 u hu
  . rw [hszE, hxl]
    exact Nat.mul_le_mul_right _ hge
  . rw [htk]
    exact (hov.app hvs).mono (RLe.app _ _) (MLe.refl m)

theorem append_sound (hT : TsOk P T) (h : R X D w0 mA r m st a w) {t ty : TypeId} {x y : AV} {u v : Value} (hx : VR r m x u) (hy : VR r m y v) {K : AV -> List AObj -> Prop} (hs : appendA T st.heap t x y K) :
    ∃ z q w' r' h', K z h' /\ RLe r r' /\ VR r' m z q /\ (Builtin.append_ #[t, t] ty #[u, v]).run P w = .ok q w' /\ R X D w0 mA r' m { st with heap := h' } a w' := by
  unfold appendA at hs
  split at hs <;> try exact hs.elim
  rename_i i hi
  split at hs <;> try exact hs.elim
  rename_i e hk
  split at hs <;> try exact hs.elim
  rename_i ei hei
  obtain ⟨⟨hsz, hby⟩, hs⟩ := hs
  split at hs <;> try exact hs.elim
  rename_i n ys hsrc
  obtain ⟨hyl, hs⟩ := hs
  have hsl := (hT t i hi).sl hk
  obtain ⟨ao, cap, vs, rfl, hvs, hv1, hn0, hcell⟩ := src_sound h hy hsrc hyl
  have hvl : vs.length = n * ei.size := by rw [hvs.length, hyl]
  split at hs <;> try exact hs.elim
  . obtain ⟨hle, hK⟩ := hs
    simp only [VR] at hx
    obtain ⟨q, w', r', hr, hv, hrun, hR⟩ := append0_sound (P := P) (ty := ty) (cap := cap) (nb := true) hT h hsl hei hsz hby (.inl hx) hyl hvs hv1 hn0 hcell hle
    exact ⟨_, q, w', r', _, hK, hr, hv, hrun, hR⟩
  . rename_i nb id k
    split at hs <;> try exact hs.elim
    rename_i e' sz cs ho
    obtain ⟨⟨rfl, rfl, hkc, hle⟩, hK⟩ := hs
    have hidlt : id < st.heap.length := by
      rcases Nat.lt_or_ge id st.heap.length with h1 | h1
      . exact h1
      . rw [List.getElem?_eq_none h1] at ho; cases ho
    simp only [VR] at hx
    rcases hx with ⟨hk0, _, hu⟩ | ⟨hk0, b, c, hb, hkcap, rfl⟩
    . subst hk0
      obtain ⟨q, w', r', hr, hv, hrun, hR⟩ := append0_sound (P := P) (ty := ty) (cap := cap) (nb := nb) hT h hsl hei hsz hby hu hyl hvs hv1 hn0 hcell (by omega)
      have hR' := hR.kill id
      have e0 : (st.heap ++ [AObj.row e' ei.size ys]).set id .dead = st.heap.set id .dead ++ [.row e' ei.size (cs.take (0 * ei.size) ++ ys)] := by
        rw [List.set_append_left _ _ hidlt, Nat.zero_mul, List.take_zero, List.nil_append]
      simp only at hR'
      rw [e0] at hR'
      rw [Nat.zero_add] at hK
      exact ⟨_, q, w', r', _, hK, hr, hv, hrun, hR'⟩
    have hcpos : 0 < cs.length := by
      have := Nat.mul_pos hk0 hsz
      omega
    rcases h.obj id _ ho with rfl | ⟨b', c', cur, e1, h2, h0, h3, h4, h5, h6⟩
    . cases hcpos
    rw [hb] at e1
    cases e1
    have htt : (cur.toList.take cs.length).take (k * ei.size) = cur.toList.take (k * ei.size) := by rw [List.take_take, Nat.min_eq_left hkc]
    have hown0 : w.ownsRow 0 e' ei.size (.slice (some ⟨b, 0, none⟩) k c) k (cur.toList.take (k * ei.size)) :=
      ⟨by simp; omega, .inr ⟨b, c, cur, rfl, Nat.zero_le _, h2, hkcap, h3, h4, rfl⟩⟩
    obtain ⟨v', w', hrun, hown, hg, hiff, hblk⟩ := append_step (P := P) hT (ty := ty) (cap := cap) hsl hei hsz hby hown0 hvl hv1 hn0 hcell hle
    have hdead : R X D w0 mA r m { st with heap := st.heap.set id .dead } a w' := h.modify ho (live_row hcpos) hb hg trivial
    rcases hown.2 with ⟨h00, _⟩ | ⟨g, c', cur', rfl, _, hh, hnc, hcm, hcs, htk⟩
    . exact absurd (hiff.1 h00).1 (by simp)
    . have hgs : g = b \/ g = w.heap.size := by
        rcases hblk with hb | hb <;> simp [Value.ownBlock] at hb
        . exact .inl hb
        . exact .inr hb
      have hlt : g < w'.heap.size := by
        rcases Nat.lt_or_ge g w'.heap.size with h1 | h1
        . exact h1
        . rw [Array.getElem?_eq_none h1] at hh; cases hh
      have hlen' : r.length = (st.heap.set id AObj.dead).length := by simpa using h.len
      have hnew : (r ++ [(g, c')])[(st.heap.set id AObj.dead).length]? = some (g, c') := rget_new r (g, c') hlen'
      have hnew' : (r ++ [(g, c')])[st.heap.length]? = some (g, c') := by simpa using hnew
      have hle2 : (k + n) * ei.size <= c' * ei.size := Nat.mul_le_mul_right _ hnc
      have hxl : (cs.take (k * ei.size) ++ ys).length = (k + n) * ei.size := by
        rw [List.length_append, List.length_take, Nat.min_eq_left hkc, hyl, Nat.add_mul]
      refine ⟨_, _, w', _, _, hK, RLe.app r [(g, c')], ?_, hrun, hdead.push (c := c') hlt ?_ ?_ ?_ (.inr ⟨_, _, cur', hnew, hh, ?_, hcm, hcs, by rw [hxl]; omega, ?_⟩)⟩
      . simp only [VR]
        exact .inr ⟨by omega, _, _, hnew', hnc, rfl⟩
      . intro j oj c2 hj hl hr
        have hj0 : j ≠ id := by
          rintro rfl
          rw [List.getElem?_set_self hidlt] at hj
          cases hj
          cases hl
        rw [List.getElem?_set_ne (Ne.symm hj0)] at hj
        rcases hgs with rfl | rfl
        . exact hj0 (h.inj j id oj _ _ c2 c hj ho hl (live_row hcpos) hr hb)
        . have := h.lt j oj _ c2 hj hl hr
          omega
      . intro p q hp
        rcases hgs with rfl | rfl
        . exact h.apart p q hp id _ _ c ho (live_row hcpos) hb
        . have := (h.mem p q hp).2
          omega
      . rcases hgs with rfl | rfl
        . exact h.own id _ _ c ho (live_row hcpos) hb
        . exact .inl h.size
      . rw [hxl, htk]
        intro u hu
        rcases List.mem_append.1 hu with hu | hu
        . exact h0 u (by rw [<- htt] at hu; exact List.mem_of_mem_take hu)
        . exact hv1 u hu
      . rw [hxl, htk]
        have := (h6.take (k * ei.size)).app hvs
        rw [htt] at this
        exact this.mono (RLe.app _ _) (MLe.refl m)
  . rename_i ex id off k len cp
    split at hs <;> try exact hs.elim
    rename_i e' sz cs ho
    obtain ⟨⟨rfl, rfl, rfl, hn, hk', hcp, hle⟩, hK⟩ := hs
    simp only [VR] at hx
    rcases hx with ⟨_, rfl, rfl, hu⟩ | ⟨b, c, hb, hlc, hkc, _, rfl⟩
    . obtain ⟨q, w', r', hr, hv, hrun, hR⟩ := append0_sound (P := P) (ty := ty) (cap := cap) (nb := false) hT h hsl hei hsz hby (hu.imp (fun h => h) fun h => ⟨rfl, h⟩) hyl hvs hv1 hn0 hcell (by omega)
      rw [Nat.zero_mul, List.take_zero, List.nil_append, Nat.zero_add] at hK
      refine ⟨_, q, w', r', _, hK, hr, ?_, hrun, hR⟩
      simp only [VR] at hv ⊢
      rcases hv with ⟨h0, _⟩ | hv
      . omega
      . exact .inr hv
    . obtain ⟨p, rfl⟩ : ∃ p, ao = some p := by
        cases ao with
        | none => have := hn0 rfl; omega
        | some p => exact ⟨p, rfl⟩
      obtain ⟨q, w', r', hr, hv, hrun, hR⟩ := appendC_sound (P := P) (ty := ty) (cap := cap) hT h hsl hei hsz hby hb ho hk' hn hyl hvs hv1 (hcell p rfl) hcp hle
      exact ⟨_, q, w', r', _, hK, hr, hv, hrun, hR⟩
end
end Go.Lat
