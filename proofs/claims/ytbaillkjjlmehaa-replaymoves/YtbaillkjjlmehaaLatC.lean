/- The law latecomerlaw24.ReplayMoves returns true for every input, and each argument reads afterwards as it read before. Part 3 of 12. No condition. -/
import Derived.Test.YtbaillkjjlmehaaLatB
import Derived.WalkKit
import Derived.ProofKit
import Derived.OpenShut
import Derived.ShutString
import Derived.ChangeOld
import Derived.Below
import Derived.Deep.Slices
set_option linter.unusedVariables false
set_option linter.unusedSimpArgs false
set_option linter.unnecessarySimpa false
namespace Go.Lat
open Go.RowKit

def Up (x y : AV) : Prop := ∀ (r : Rho) (m : MM) v, Low m -> VR r m x v -> VR r (nest (m true)) y v
def Ups (xs ys : List AV) : Prop := ∀ (r : Rho) (m : MM) vs, Low m -> VRs r m xs vs -> VRs r (nest (m true)) ys vs
def UpO : AObj -> AObj -> Prop
  | _, .dead => True
  | .row t sz cs, .row t' sz' cs' => t = t' /\ sz = sz' /\ cs'.length = cs.length /\ Ups cs cs'
  | .box t cs, .box t' cs' => t = t' /\ Ups cs cs'
  | .chan c cl b, .chan c' cl' b' => c = c' /\ cl = cl' /\ Ups b b'
  | _, _ => False
def UpH (h h' : List AObj) : Prop := h'.length = h.length /\ ∀ (i : Nat) o', h'[i]? = some o' -> o'.live = true -> ∃ o, h[i]? = some o /\ UpO o o'

def FnG (P : Program) (f : FuncId) (H : List AObj) (args : List AV) (Post : AV -> List AObj -> Prop) : Prop :=
  Callable P f /\ ∀ (mA : Mem) (w : World) (r0 : Rho) (vs : List Value), (∀ p v, mA p = some v -> w.cell? p = some v /\ p.block < w.heap.size) →
    (∀ p v, mA p = some v -> ∀ (i : Nat) o (b c : Nat), H[i]? = some o -> o.live = true -> r0[i]? = some (b, c) -> p.block ≠ b) -> r0.length = H.length -> (∀ (i : Nat) o (b c : Nat), H[i]? = some o -> o.live = true -> r0[i]? = some (b, c) -> b < w.heap.size) →
    (∀ (i : Nat) o, H[i]? = some o -> OR r0 (nest mA) w i o) -> (∀ (i j : Nat) oi oj (b c c' : Nat), H[i]? = some oi -> H[j]? = some oj -> oi.live = true -> oj.live = true -> r0[i]? = some (b, c) -> r0[j]? = some (b, c') -> i = j) -> VRs r0 (nest mA) args vs →
    Calls P f vs.toArray w (fun e w' => ∃ v x r' m' H' a', e = .returned v /\ Post x H' /\ VR r' m' x v /\ R (fun k => ∃ (i : Nat) (o : AObj) (c : Nat), H[i]? = some o /\ o.live = true /\ r0[i]? = some (k, c)) ([], r0) w mA r' m' ⟨a'.tmps.size, fun _ => .any, H', H.length⟩ a' w')

def callG (P : Program) (h : List AObj) (f : AV) (args : List AV) (K : AV -> List AObj -> Prop) : Prop :=
  match f with
  | .clo k fst caps => ∃ (H0 : List AObj) (args0 : List AV) (Post : AV -> List AObj -> Prop), FnG P k H0 args0 Post /\ UpH h H0 /\ Ups (fst ++ args ++ caps) args0 /\ ∀ x H', Post x H' -> K x H'
  | _ => False

section
variable {X : Nat -> Prop} {D : List Deferred × Rho} {w0 : World} {mA : Mem} {r : Rho} {m : MM} {st : St} {a : Act} {w w' : World} {P : Program} {T : TT}

theorem UpO.live {o o' : AObj} (h : UpO o o') (hl : o'.live = true) : o.live = true := by
  cases o <;> cases o' <;> try (first | exact h.elim | (cases hl; done) | rfl)
  rename_i t sz cs t' sz' cs'
  obtain ⟨rfl, rfl, h4, h5⟩ := h
  refine live_row ?_
  have : cs' ≠ [] := by rintro rfl; cases hl
  have := List.length_pos_iff.mpr this
  omega

theorem UpH.or {h h' : List AObj} (hh : UpH h h') (low : Low m) {r : Rho} (hob : ∀ (i : Nat) o, h[i]? = some o -> OR r m w i o) : ∀ (i : Nat) o, h'[i]? = some o -> OR r (nest (m true)) w i o := by
  intro i o hi
  rcases hlv : o.live with _ | _
  . cases o with
    | dead => trivial
    | row t sz cs =>
      cases cs with
      | nil => exact .inl rfl
      | cons c cs => cases hlv
    | box => cases hlv
    | chan => cases hlv
  . obtain ⟨o0, h2, h3⟩ := hh.2 i o hi hlv
    have hb := hob i o0 h2
    cases o0 <;> cases o <;> try (exact h3.elim)
    all_goals try (cases hlv; done)
    . rename_i t sz cs t' sz' cs'
      obtain ⟨rfl, rfl, h4, h5⟩ := h3
      rcases hb with rfl | ⟨b, c, cur, e1, e2, e3, e4, e5, e6, e7⟩
      . left
        exact List.eq_nil_of_length_eq_zero (by simpa using h4)
      . right
        refine ⟨b, c, cur, e1, e2, by rw [h4]; exact e3, e4, e5, by omega, ?_⟩
        rw [h4]
        exact h5 r m _ low e7
    . rename_i t cs t' cs'
      obtain ⟨rfl, h5⟩ := h3
      obtain ⟨b, c, cur, e1, e2, e3, e7⟩ := hb
      exact ⟨b, c, cur, e1, e2, e3, h5 r m _ low e7⟩
    . rename_i cap cl bu cap' cl' bu'
      obtain ⟨rfl, rfl, h5⟩ := h3
      obtain ⟨b, c, bv, s, rc, e1, e2, e7⟩ := hb
      exact ⟨b, c, bv, s, rc, e1, e2, h5 r m _ low e7⟩

theorem R.after (hR : R X D w0 mA r m st a w) {H H' : List AObj} (hU : UpH st.heap H) {r' : Rho} {m' : MM} {a' : Act}
    (hR' : R (fun k => ∃ (i : Nat) (o : AObj) (c : Nat), H[i]? = some o /\ o.live = true /\ r[i]? = some (k, c)) ([], r) w (m true) r' m' ⟨a'.tmps.size, fun _ => .any, H', H.length⟩ a' w') :
    ∃ m'', MLe m' m'' /\ R X D w0 mA r' m'' { st with heap := H' } a w' := by
  have hX : ∀ k, (∃ (i : Nat) (o : AObj) (c : Nat), H[i]? = some o /\ o.live = true /\ r[i]? = some (k, c)) -> ∃ (i : Nat) (o : AObj) (c : Nat), st.heap[i]? = some o /\ o.live = true /\ r[i]? = some (k, c) := by
    rintro k ⟨i, o, c, h1, h2, h3⟩
    obtain ⟨o0, h4, h5⟩ := hU.2 i o h1 h2
    exact ⟨i, o0, c, h4, h5.live h2, h3⟩
  -- what is sealed stays
  have keep : ∀ p v, m true p = some v -> w'.cell? p = some v /\ p.block < w'.heap.size := fun p v hp => by
    obtain ⟨h1, h2⟩ := hR.mem p v hp
    have h3 := hR'.old p.block h2 (fun hx => by
      obtain ⟨i, o, c, e1, e2, e3⟩ := hX _ hx
      exact hR.apart p v hp i o _ c e1 e2 e3 rfl)
    exact ⟨(World.cell?_of_block h3).trans h1, Nat.lt_of_lt_of_le h2 hR'.size⟩
  have same : ∀ p u v, m true p = some u -> m' true p = some v -> u = v := fun p u v h1 h2 => by
    have e1 := (keep p u h1).1
    have e2 := (hR'.mem p v h2).1
    rw [e1] at e2; exact Option.some.inj e2
  let m1 : MM := fun b p => match m b p with | some v => some v | none => m' b p
  have l1 : MLe m m1 := fun b p v hv => by show (match m b p with | some v => some v | none => m' b p) = some v; rw [hv]
  have l2 : MLe m' m1 := fun b p v hv => by
    show (match m b p with | some v => some v | none => m' b p) = some v
    rcases hm : m b p with _ | u
    . exact hv
    . have hu : m true p = some u := by
        cases b with
        | true => exact hm
        | false => exact hR.low p u hm
      have hv' : m' true p = some v := by
        cases b with
        | true => exact hv
        | false => exact hR'.low p v hv
      rw [same p u v hu hv']
  have inv : ∀ b p v, m1 b p = some v -> m b p = some v \/ m' b p = some v := fun b p v hv => by
    have hv : (match m b p with | some v => some v | none => m' b p) = some v := hv
    rcases hm : m b p with _ | u
    . rw [hm] at hv; exact .inr hv
    . rw [hm] at hv; exact .inl hv
  refine ⟨m1, l2, { os := hR'.os.trans hR.os, tape := hR'.tape.trans hR.tape, output := hR'.output.trans hR.output, size := Nat.le_trans hR.size hR'.size, old := ?_, len := hR'.len, lt := hR'.lt, mem := ?_, low := ?_, newer := ?_, lim := ?_, apart := ?_, obj := fun i o ho => (hR'.obj i o ho).mono (RLe.refl _) l2, own := ?_, inj := hR'.inj, size' := hR.size', tmps := fun t => (hR.tmps t).mono hR'.base l1, defers := hR.defers, base := hR.base.trans hR'.base, short := hR.short, nox := hR.nox, marks := ?_, mnod := hR.mnod }⟩
  . intro k hk hXk
    refine (hR'.old k (Nat.lt_of_lt_of_le hk hR.size) fun hx => ?_).trans (hR.old k hk hXk)
    obtain ⟨i, o, c, e1, e2, e3⟩ := hX _ hx
    rcases hR.own i o k c e1 e2 e3 with h1 | h1
    . omega
    . exact hXk h1
  . intro p v hp
    rcases inv true p v hp with h1 | h1
    . exact keep p v h1
    . exact hR'.mem p v h1
  . intro p v hp
    rcases inv false p v hp with h1 | h1
    . exact l1 true p v (hR.low p v h1)
    . exact l2 true p v (hR'.low p v h1)
  . intro p v hp
    rcases inv false p v hp with h1 | h1
    . exact hR.newer p v h1
    . exact Nat.le_trans hR.size (hR'.newer p v h1)
  . intro p v hp
    rcases inv true p v hp with h1 | h1
    . exact hR.lim p v h1
    . rcases hR'.lim p v h1 with h2 | h2
      . exact hR.lim p v h2
      . exact .inr (Nat.le_trans hR.size h2)
  . intro p v hp i o b c ho hl hr
    rcases inv true p v hp with h1 | h1
    . rcases hR'.own i o b c ho hl hr with h2 | h2
      . have := (hR.mem p v h1).2; omega
      . obtain ⟨j, oj, cj, e1, e2, e3⟩ := hX _ h2
        exact hR.apart p v h1 j oj b cj e1 e2 e3
    . exact hR'.apart p v h1 i o b c ho hl hr
  . intro i o b c ho hl hr
    rcases hR'.own i o b c ho hl hr with h2 | h2
    . exact .inl (Nat.le_trans hR.size h2)
    . obtain ⟨j, oj, cj, e1, e2, e3⟩ := hX _ h2
      exact hR.own j oj b cj e1 e2 e3
  . intro d hd
    obtain ⟨b, e1, e0, e2⟩ := hR.marks d hd
    refine ⟨b, e1, e0, ?_⟩
    have hlt := (Array.getElem?_eq_some_iff.1 e2).1
    refine (hR'.old b hlt fun hx => ?_).trans e2
    obtain ⟨i, o, c, f1, f2, f3⟩ := hX _ hx
    obtain ⟨x, g1, g2, _⟩ := (hR.obj i o f1).cells f2 f3
    rw [e2] at g1
    exact g2 _ (Option.some.inj g1).symm

theorem callG_sound (hR : R X D w0 mA r m st a w) {o : Oper} {f : Operand} {args : Array Operand} {tys : Array TypeId} (hop : o.op = .call ⟨.value f, args, tys⟩) {K : AV -> List AObj -> Prop}
    (h : callG P st.heap (st.eval f) (args.toList.map st.eval) K) {ro : Option Nat} {n : Nat} {next : Act -> World -> Prop} {Q : Exit -> Act -> World -> Prop}
    (hnext : ∀ x h' r' m' u w', K x h' -> R X D w0 mA r' m' { st with heap := h' } a w' -> VR r' m' x u -> next (a.put o.dst u) w') : o.wpIn (FW ro) n P a w next Q := by
  refine ⟨fun _ _ => trivial, ?_⟩
  rw [Oper.semAt_eq _ _ _ (fun c' h' => by rw [hop] at h'; cases h')]
  unfold callG at h
  split at h <;> try exact h.elim
  rename_i k fst caps hf
  have hfv := hR.eval f
  rw [hf] at hfv
  simp only [VR] at hfv
  obtain ⟨x, y, hx, hx1, hy1⟩ := hfv
  have hargs : VRs r m (fst ++ args.toList.map st.eval ++ caps) (x.toList ++ args.toList.map a.eval ++ y.toList) := (hx1.app (VRs_map hR args.toList)).app hy1
  have hcall : ∀ (hc : Callable P k), (execOp a.eval o).run P w = .ok (.enter k (x.toList ++ args.toList.map a.eval ++ y.toList).toArray) w := fun hc => by
    have e : (x.toList ++ args.toList.map a.eval ++ y.toList).toArray = x ++ args.map a.eval ++ y := by
      apply Array.toList_inj.1
      simp
    rw [e]
    simp only [execOp, hop, resolve, Deferred.ofValue, hx, Sem.run_bind, Sem.run_pure, Result.andThen_ok, invoke, run_callFunc hc]
  obtain ⟨H0, args0, Post, hfn, hU, hA, hpost⟩ := h
  rw [hcall hfn.1]
  refine ⟨fun h => (by cases h), ?_⟩
  have low : Low m := fun p v hv => hR.low p v hv
  have up : ∀ (i : Nat) o, H0[i]? = some o -> o.live = true -> ∃ o0, st.heap[i]? = some o0 /\ o0.live = true := fun i o hi hl => by
    obtain ⟨o0, h1, h2⟩ := hU.2 i o hi hl
    exact ⟨o0, h1, h2.live hl⟩
  have hc := hfn.2 (m true) w r _ hR.mem (fun p v hp i o b c hi hl hr => by
      obtain ⟨o0, h1, h2⟩ := up i o hi hl
      exact hR.apart p v hp i o0 b c h1 h2 hr) (by rw [hR.len, hU.1]) (fun i o b c hi hl hr => by
      obtain ⟨o0, h1, h2⟩ := up i o hi hl
      exact hR.lt i o0 b c h1 h2 hr) (hU.or low hR.obj) (fun i j oi oj b c c' hi hj hli hlj hri hrj => by
      obtain ⟨o0, h1, h2⟩ := up i oi hi hli
      obtain ⟨o1, h3, h4⟩ := up j oj hj hlj
      exact hR.inj i j o0 o1 b c c' h1 h3 h2 h4 hri hrj) (hA r m _ low hargs)
  refine callsIn_FW (hc.mono ?_)
  rintro e w' ⟨v, z, r', m', H', a', rfl, hp, hv, hR'⟩
  obtain ⟨m'', hle, hR''⟩ := hR.after hU hR'
  exact hnext z H' r' m'' v w' (hpost z H' hp) hR'' (hv.mono (RLe.refl _) hle)

theorem callG_mono {h : List AObj} {f : AV} {args : List AV} {A B : AV -> List AObj -> Prop} (hc : callG P h f args A) (hab : ∀ v h', A v h' -> B v h') : callG P h f args B := by
  unfold callG at hc ⊢
  split at hc <;> try exact hc.elim
  obtain ⟨H0, args0, Post, hfn, hU, hA, hpost⟩ := hc
  exact ⟨H0, args0, Post, hfn, hU, hA, fun x H' hp => hab _ _ (hpost x H' hp)⟩
end

theorem FnG.of_walk {P : Program} {T : TT} {f : FuncId} {c : Code} {nt : Nat} {rs : List ResultVar} {args : List AV} {H : List AObj} (hT : TsOk P T) (hm : P.follows .mixedOrders = true) (hf : IsFn P f c nt rs) {Post : AV -> List AObj -> Prop} (hn : args.length <= nt) (hpos : 0 < H.length)
    (h : W P T c ⟨nt, look (enumT 0 args), H, H.length⟩ (retA T rs fun s x => Post x s.heap)) : FnG P f H args Post := by
  obtain ⟨fn, h1, h2, h3, h4, h5⟩ := hf.fn
  refine ⟨⟨fn, h1, h2, by rw [h3]; rfl⟩, fun mA w r0 vs hmA hap hlen hlt hob hinj hv => ?_⟩
  have hlen' := hv.length
  have hR : R (fun k => ∃ (i : Nat) (o : AObj) (c : Nat), H[i]? = some o /\ o.live = true /\ r0[i]? = some (k, c)) ([], r0) w mA r0 (nest mA) ⟨nt, look (enumT 0 args), H, H.length⟩ { tmps := vs.toArray ++ Array.replicate (nt - vs.toArray.size) undef, defers := [] } w := by
    refine { os := rfl, tape := rfl, output := rfl, size := Nat.le_refl _, old := fun _ _ _ => rfl, len := hlen, lt := hlt, mem := hmA, low := (by intro p v h; cases h), newer := (by intro p v h; cases h), lim := fun p v h => .inl h, apart := hap, obj := hob, own := fun i o b c ho hl hr => .inr ⟨i, o, c, ho, hl, hr⟩, inj := hinj, size' := ?_, tmps := ?_, defers := rfl, base := RLe.refl _, short := (by
      show r0.length <= H.length
      omega), nox := fun h0 => by (have h0 : H.length = 0 := h0); omega, marks := fun d hd => (by cases hd), mnod := List.nodup_nil }
    . simp [hlen']; omega
    . intro t
      simp only [look_enumT, Nat.zero_le, if_true, Nat.sub_zero]
      rcases Nat.lt_or_ge t args.length with h | h
      . have h0 : args[t]? = some args[t] := List.getElem?_eq_getElem h
        obtain ⟨v, hv1, hv2⟩ := hv.get t _ h0
        rw [List.getD_eq_getElem?_getD, h0, Array.getD_eq_getD_getElem?]
        rw [Array.getElem?_append_left (by simp; omega)]
        simpa [hv1] using hv2
      . rw [List.getD_eq_getElem?_getD, List.getElem?_eq_none h]
        simp only [Option.getD_none, VR]
  refine callsIn_wide (n := 0).1 (callsIn_of_wp_marks h1 h3 trivial ?_)
  rw [h4]
  refine wpIn_mono (h hT hm none (fun h => (h rfl).elim) 0 _ _ _ _ _ _ _ _ hR) ?_
  have fin : ∀ (a' : Act) (w' : World) r m s, resA T s rs (fun x => Post x s.heap) -> R (fun k => ∃ (i : Nat) (o : AObj) (c : Nat), H[i]? = some o /\ o.live = true /\ r0[i]? = some (k, c)) ([], r0) w mA r m s a' w' →
      ∃ v, (results fn a'.tmps).run P w' = .ok v w' /\ ∃ v' x r' m' H' a'', Ending.returned v = .returned v' /\ Post x H' /\ VR r' m' x v' /\ R (fun k => ∃ (i : Nat) (o : AObj) (c : Nat), H[i]? = some o /\ o.live = true /\ r0[i]? = some (k, c)) ([], r0) w mA r' m' ⟨a''.tmps.size, fun _ => .any, H', H.length⟩ a'' w' := by
    intro a' w' r m s hs hR'
    rw [<- h5] at hs
    obtain ⟨x, v, hp, hv, hrun⟩ := resA_sound hT hR' fn hs
    exact ⟨v, hrun, v, x, r, m, s.heap, a', rfl, hp, hv, { hR'.le (s' := ⟨a'.tmps.size, s.tm, s.heap, s.ho⟩) ⟨hR'.size', rfl, rfl, fun t => .inr rfl⟩ with tmps := fun t => (by simp only [VR]), nox := fun h0 => (by (have h0 : H.length = 0 := h0); omega), size' := rfl, short := (by show r0.length <= H.length; omega) }⟩
  intro e a' w' he
  cases e <;> simp only [relQ, retA, bodyPostM] at he ⊢ <;> try exact he.elim
  . obtain ⟨ms, r, m, s, -, hs, hR'⟩ := he
    rw [hR'.defers]
    refine R.leaves (fun a'' w'' ha hR'' => ?_) _ a' w' rfl (by rw [List.append_nil] at hR' ⊢; exact hR')
    rw [<- ha]
    exact fin a'' w'' r m s hs hR''
  . obtain ⟨ms, r, m, s, -, hs, hR'⟩ := he
    exact hs.elim
  . obtain ⟨ms, r, m, s, -, hs, hR'⟩ := he
    rw [hR'.defers]
    refine R.leaves (fun a'' w'' ha hR'' => ?_) _ a' w' rfl (by rw [List.append_nil] at hR' ⊢; exact hR')
    rw [<- ha]
    exact fin a'' w'' r m s hs hR''
end Go.Lat
namespace Go.Lat
open Go.RowKit

def flatV : AV -> Bool
  | .int _ _ | .bool _ | .nilS | .nilP | .nilF => true
  | _ => false
def flatO : AObj -> Prop
  | .row _ _ cs => 0 < cs.length /\ ∀ c ∈ cs, flatV c = true
  | .box _ cs => ∀ c ∈ cs, flatV c = true
  | .chan _ _ _ => False
  | .dead => False
theorem VR_flat {r r' : Rho} {m m' : MM} {x : AV} {v : Value} (h : flatV x = true) (hv : VR r m x v) : VR r' m' x v := by
  cases x <;> simp only [flatV, Bool.false_eq_true] at h <;> simpa only [VR] using hv
theorem VRs_flat {r r' : Rho} {m m' : MM} : ∀ {xs : List AV} {vs : List Value}, (∀ x ∈ xs, flatV x = true) -> VRs r m xs vs -> VRs r' m' xs vs
  | [], _, _, hv => by simpa only [VRs] using hv
  | x :: xs, _, h, hv => by
    simp only [VRs] at hv ⊢
    obtain ⟨v, vs', h1, h2, h3⟩ := hv
    exact ⟨v, vs', h1, VR_flat (h x (by simp)) h2, VRs_flat (fun y hy => h y (by simp [hy])) h3⟩
def flatR : AObj -> Prop
  | .row _ _ cs => ∀ c ∈ cs, flatV c = true
  | _ => False
def flatB : AV -> Bool
  | .agg cs => cs.all flatV
  | x => flatV x
theorem VR_flatB {r r' : Rho} {m m' : MM} {x : AV} {v : Value} (h : flatB x = true) (hv : VR r m x v) : VR r' m' x v := by
  cases x <;> simp only [flatB] at h <;> try exact VR_flat h hv
  simp only [VR] at hv ⊢
  obtain ⟨arr, h1, h2, h3⟩ := hv
  exact ⟨arr, h1, h2, VRs_flat (fun x hx => List.all_eq_true.1 h x hx) h3⟩
theorem VRs_flatB {r r' : Rho} {m m' : MM} : ∀ {xs : List AV} {vs : List Value}, (∀ x ∈ xs, flatB x = true) -> VRs r m xs vs -> VRs r' m' xs vs
  | [], _, _, hv => by simpa only [VRs] using hv
  | x :: xs, _, h, hv => by
    simp only [VRs] at hv ⊢
    obtain ⟨v, vs', h1, h2, h3⟩ := hv
    exact ⟨v, vs', h1, VR_flatB (h x (by simp)) h2, VRs_flatB (fun y hy => h y (by simp [hy])) h3⟩
def flatC : AObj -> Prop
  | .chan _ _ buf => ∀ c ∈ buf, flatB c = true
  | _ => False
theorem OR_flatC {r r' : Rho} {m m' : MM} {w : World} {i j b c : Nat} {o : AObj} (h : flatC o) (h1 : r[i]? = some (b, c)) (h2 : r'[j]? = some (b, c)) (ho : OR r m w i o) : OR r' m' w j o := by
  cases o <;> try exact h.elim
  obtain ⟨b', c', bv, s, rc, e1, e2, e3⟩ := ho
  rw [h1] at e1; cases e1
  exact ⟨b, c, bv, s, rc, h2, e2, VRs_flatB h e3⟩
theorem flatC.live {o : AObj} (h : flatC o) : o.live = true := by
  cases o <;> first | rfl | exact h.elim
theorem flatO.live {o : AObj} (h : flatO o) : o.live = true := by
  cases o with
  | row t sz cs => exact live_row h.1
  | box => rfl
  | chan => rfl
  | dead => exact h.elim
theorem OR_flat {r r' : Rho} {m m' : MM} {w : World} {i j b c : Nat} {o : AObj} (h : flatO o) (h1 : r[i]? = some (b, c)) (h2 : r'[j]? = some (b, c)) (ho : OR r m w i o) : OR r' m' w j o := by
  cases o with
  | row t sz cs =>
    rcases ho with rfl | ⟨b', c', cur, e1, e2, e3, e4, e5, e6, e7⟩
    . exact .inl rfl
    rw [h1] at e1; cases e1
    exact .inr ⟨b, c, cur, h2, e2, e3, e4, e5, e6, VRs_flat h.2 e7⟩
  | box t cs =>
    obtain ⟨b', c', cur, e1, e2, e3, e7⟩ := ho
    rw [h1] at e1; cases e1
    exact ⟨b, c, cur, h2, e2, e3, VRs_flat h e7⟩
  | chan => exact h.elim
  | dead => exact h.elim
theorem OR_at {r : Rho} {m : MM} {w : World} {i : Nat} {o : AObj} (h : o.live = true) (ho : OR r m w i o) : ∃ b c, r[i]? = some (b, c) := by
  cases o with
  | row t sz cs =>
    rcases ho with rfl | ⟨b', c', cur, e1, _⟩
    . cases h
    . exact ⟨_, _, e1⟩
  | box t cs => obtain ⟨b', c', cur, e1, _⟩ := ho; exact ⟨_, _, e1⟩
  | chan cap cl buf => obtain ⟨b', c', bv, s, rc, e1, _⟩ := ho; exact ⟨_, _, e1⟩
  | dead => cases h

def FnH (P : Program) (f : FuncId) (H : List AObj) (args : List AV) (Post : AV -> List AObj -> Prop) : Prop :=
  Callable P f /\ ∀ (mA : Mem) (w : World) (r0 : Rho) (vs : List Value), (∀ p v, mA p = some v -> w.cell? p = some v /\ p.block < w.heap.size) →
    (∀ p v, mA p = some v -> ∀ (i b c : Nat), r0[i]? = some (b, c) -> p.block ≠ b) -> r0.length = H.length -> (∀ (i b c : Nat), r0[i]? = some (b, c) -> b < w.heap.size) →
    (∀ (i : Nat) o, H[i]? = some o -> OR r0 (nest mA) w i o) -> (∀ (i j b c c' : Nat), r0[i]? = some (b, c) -> r0[j]? = some (b, c') -> i = j) -> VRs r0 (nest mA) args vs →
    Calls P f vs.toArray w (fun e w' => ∃ v x r' m' H' a', e = .returned v /\ Post x H' /\ VR r' m' x v /\ R (fun k => ∃ (i c : Nat), r0[i]? = some (k, c)) ([], r0) w mA r' m' ⟨a'.tmps.size, fun _ => .any, H', 1⟩ a' w')

def callH (P : Program) (h : List AObj) (f : AV) (args : List AV) (K : AV -> List AObj -> Prop) : Prop :=
  match f with
  | .clo k [] [] =>
    (∃ Post : AObj -> Prop, FnH P k [] (args.map (conv 6 h)) (fun x H' => ∃ o l, H' = o :: l /\ x = .ptr 0 0 /\ flatO o /\ Post o) /\ ∀ o, Post o -> K (.ptr h.length 0) (h ++ [o])) ∨
    (∃ (id : Nat) (o : AObj) (x0 y0 : AV) (ys : List AV) (Post : AV -> AObj -> Prop), args = y0 :: ys /\ h[id]? = some o /\ flatO o /\ ((∃ off, y0 = .ptr id off /\ x0 = .ptr 0 off) \/ (∃ nb n, y0 = .ref nb id n /\ x0 = .ref nb 0 n) \/ (∃ off n, y0 = .sub id off n /\ x0 = .sub 0 off n)) ∧
      FnH P k [o] (x0 :: ys.map (conv 6 (h.set id .dead))) (fun x H' => ∃ o' l, H' = o' :: l /\ flatV x = true /\ flatO o' /\ Post x o') /\ ∀ x o', Post x o' -> K x (h.set id o')) ∨
    (∃ (nb : Bool) (Post : Nat -> AObj -> Prop), FnH P k [] (args.map (conv 6 h)) (fun x H' => ∃ n o l, H' = o :: l /\ x = .ref nb 0 n /\ flatR o /\ Post n o) /\ ∀ n o, Post n o -> K (.ref nb h.length n) (h ++ [o])) ∨
    (∃ (Post : AObj -> Prop), FnH P k [] (args.map (conv 6 h)) (fun x H' => ∃ o l, H' = o :: l /\ x = .chn 0 /\ flatC o /\ Post o) /\ ∀ o, Post o -> K (.chn h.length) (h ++ [o]))
  | _ => False

section
variable {X : Nat -> Prop} {D : List Deferred × Rho} {w0 : World} {mA : Mem} {r : Rho} {m : MM} {st : St} {a : Act} {w w' : World} {P : Program} {T : TT}

theorem callH_sound (hR : R X D w0 mA r m st a w) {o : Oper} {f : Operand} {args : Array Operand} {tys : Array TypeId} (hop : o.op = .call ⟨.value f, args, tys⟩) {K : AV -> List AObj -> Prop}
    (h : callH P st.heap (st.eval f) (args.toList.map st.eval) K) {ro : Option Nat} {n : Nat} {next : Act -> World -> Prop} {Q : Exit -> Act -> World -> Prop}
    (hnext : ∀ x h' r' m' u w', K x h' -> R X D w0 mA r' m' { st with heap := h' } a w' -> VR r' m' x u -> next (a.put o.dst u) w') : o.wpIn (FW ro) n P a w next Q := by
  refine ⟨fun _ _ => trivial, ?_⟩
  rw [Oper.semAt_eq _ _ _ (fun c' h' => by rw [hop] at h'; cases h')]
  unfold callH at h
  split at h <;> try exact h.elim
  rename_i k hf
  have hfv := hR.eval f
  rw [hf] at hfv
  simp only [VR, VRs] at hfv
  obtain ⟨x, y, hx, hx1, hy1⟩ := hfv
  have ex : x = #[] := Array.toList_inj.1 (by simpa using hx1)
  have ey : y = #[] := Array.toList_inj.1 (by simpa using hy1)
  subst ex; subst ey
  have hargs := VRs_map hR args.toList
  have hcall : ∀ (hc : Callable P k), (execOp a.eval o).run P w = .ok (.enter k (args.toList.map a.eval).toArray) w := fun hc => by
    have e : (args.toList.map a.eval).toArray = args.map a.eval := by
      apply Array.toList_inj.1
      simp
    rw [e]
    simp only [execOp, hop, resolve, Deferred.ofValue, hx, Sem.run_bind, Sem.run_pure, Result.andThen_ok, invoke, run_callFunc hc]
    simp
  rcases h with ⟨Post, hfn, hpost⟩ | ⟨id, ob, x0, y0, ys, Post, hae, hob, hfl, hx0, hfn, hpost⟩ | ⟨nb, Post, hfn, hpost⟩ | ⟨Post, hfn, hpost⟩
  . rw [hcall hfn.1]
    refine ⟨fun h => (by cases h), ?_⟩
    have hc := hfn.2 (memAll r m st.heap w) w [] _ (memAll_ok hR) (fun _ _ _ _ _ _ h => by simp at h) rfl (fun _ _ _ h => by simp at h) (fun _ _ h => by simp at h) (fun _ _ _ _ _ h => by simp at h)
      (vrs_map_conv (fun x v hv => cv_sound hR 6 x v hv) _ _ hargs)
    refine callsIn_FW (hc.mono ?_)
    rintro e w' ⟨v, z, r', m', H', a', rfl, ⟨ob, l, rfl, rfl, hfl, hp⟩, hv, hR'⟩
    simp only [VR] at hv
    obtain ⟨b, c, hb, rfl⟩ := hv
    have hob := hR'.obj 0 ob rfl
    have hbw : w.heap.size <= b := (hR'.own 0 ob b c rfl hfl.live hb).resolve_right (by rintro ⟨i, c, h⟩; simp at h)
    have hg : w.grownBy w' none := { os := hR'.os, tape := hR'.tape, output := hR'.output, size := hR'.size, block := fun k hk _ => hR'.old k hk (by rintro ⟨i, c, h⟩; simp at h) }
    have hpush := (hR.grown hg).push (o := ob) (b := b) (c := c) (hR'.lt 0 ob b c rfl hfl.live hb) (fun i oi c' ho hl hri => by have := hR.lt i oi b c' ho hl hri; omega)
      (fun p v hp => by have := (hR.mem p v hp).2; omega) (.inl (Nat.le_trans hR.size hbw)) (OR_flat hfl hb (by rw [<- hR.len]; simp) hob)
    exact hnext _ _ _ m _ w' (hpost ob hp) hpush (by simp only [VR]; exact ⟨b, c, by rw [<- hR.len]; simp, rfl⟩)
  . rw [hcall hfn.1]
    refine ⟨fun h => (by cases h), ?_⟩
    have hkl := hR.kills (st.heap.set id .dead) (by simp) (fun i o hi => by
      by_cases e : id = i
      . subst e
        rw [List.getElem?_set_self (List.getElem?_eq_some_iff.1 hob).1] at hi
        exact .inl (Option.some.inj hi).symm
      . rw [List.getElem?_set_ne e] at hi
        exact .inr hi)
    have hor := hR.obj id ob hob
    obtain ⟨b, c, hb⟩ := OR_at hfl.live hor
    rw [hae] at hargs
    have hargs' := hargs
    simp only [VRs] at hargs
    obtain ⟨v0, vs', hvs, hv0, hvs'⟩ := hargs
    rw [hvs]
    have hc := hfn.2 (memAll r m (st.heap.set id .dead) w) w [(b, c)] (v0 :: vs') (memAll_ok hkl) (fun p v hp i b' c' hi => by
        have hi0 : i = 0 := by
          rcases i with _ | i
          . rfl
          . simp at hi
        subst hi0
        simp at hi
        obtain ⟨rfl, rfl⟩ := hi
        unfold memAll at hp
        split at hp
        . rename_i u hu
          exact hR.apart p u hu id ob b c hob hfl.live hb
        . split at hp
          . rename_i hex
            obtain ⟨j, oj, cj, hj, hlj, hrj⟩ := hex
            intro hpb
            by_cases e : id = j
            . subst e
              rw [List.getElem?_set_self (List.getElem?_eq_some_iff.1 hob).1] at hj
              cases hj
              cases hlj
            . rw [List.getElem?_set_ne e] at hj
              rw [hpb] at hrj
              exact e (hR.inj id j ob oj b c cj hob hj hfl.live hlj hb hrj)
          . cases hp)
      rfl (fun i b' c' hi => by
        rcases i with _ | i
        . simp at hi
          obtain ⟨rfl, rfl⟩ := hi
          exact hR.lt id ob b c hob hfl.live hb
        . simp at hi) (fun i o' hi => by
        rcases i with _ | i
        . simp at hi
          subst hi
          exact OR_flat hfl hb rfl hor
        . simp at hi) (fun i j b' c1 c2 hi hj => by
        rcases i with _ | i
        . rcases j with _ | j
          . rfl
          . simp at hj
        . simp at hi) (by
        simp only [VRs]
        refine ⟨v0, vs', rfl, ?_, (vrs_map_conv (fun x v hv => cv_sound hkl 6 x v hv) ys vs' hvs').mono (RLe.nil _) (MLe.refl _)⟩
        rcases hx0 with ⟨off, rfl, rfl⟩ | ⟨nb, n, rfl, rfl⟩ | ⟨off, n, rfl, rfl⟩
        . simp only [VR] at hv0 ⊢
          obtain ⟨b', c', hb', hv0⟩ := hv0
          rw [hb] at hb'
          cases hb'
          exact ⟨b, c, rfl, hv0⟩
        . simp only [VR] at hv0 ⊢
          rcases hv0 with ⟨h0, _, hv0⟩ | ⟨h0, b', c', hb', hle, hv0⟩
          . exact .inl ⟨h0, ⟨_, rfl⟩, hv0⟩
          rw [hb] at hb'
          cases hb'
          exact .inr ⟨h0, b, c, rfl, hle, hv0⟩
        . simp only [VR] at hv0 ⊢
          obtain ⟨b', c', a', cap, hb', hle, hv0⟩ := hv0
          rw [hb] at hb'
          cases hb'
          exact ⟨b, c, a', cap, rfl, hle, hv0⟩)
    refine callsIn_FW (hc.mono ?_)
    rintro e w' ⟨v, z, r', m', H', a', rfl, ⟨ob', l, rfl, hfz, hfl', hp⟩, hv, hR'⟩
    have hb' : r'[0]? = some (b, c) := hR'.base 0 (b, c) rfl
    have hor' := hR'.obj 0 ob' rfl
    have hg : w.grownBy w' (some b) := { os := hR'.os, tape := hR'.tape, output := hR'.output, size := hR'.size, block := fun k hk hne => hR'.old k hk (by
      rintro ⟨i, c', h⟩
      rcases i with _ | i
      . simp at h
        exact hne (by rw [h.1])
      . simp at h) }
    exact hnext _ _ r m _ w' (hpost z ob' hp) (hR.modify hob hfl.live hb hg (OR_flat hfl' hb' hb hor')) (VR_flat hfz hv)
  . rw [hcall hfn.1]
    refine ⟨fun h => (by cases h), ?_⟩
    have hc := hfn.2 (memAll r m st.heap w) w [] _ (memAll_ok hR) (fun _ _ _ _ _ _ h => by simp at h) rfl (fun _ _ _ h => by simp at h) (fun _ _ h => by simp at h) (fun _ _ _ _ _ h => by simp at h)
      (vrs_map_conv (fun x v hv => cv_sound hR 6 x v hv) _ _ hargs)
    refine callsIn_FW (hc.mono ?_)
    rintro e w' ⟨v, z, r', m', H', a', rfl, ⟨n, ob, l, rfl, rfl, hfl, hp⟩, hv, hR'⟩
    have hg : w.grownBy w' none := { os := hR'.os, tape := hR'.tape, output := hR'.output, size := hR'.size, block := fun k hk _ => hR'.old k hk (by rintro ⟨i, c, h⟩; simp at h) }
    have key : ∃ bc, r'[0]? = some bc := by
      have := hR'.len
      rcases hz : r'[0]? with _ | bc
      . rw [List.getElem?_eq_none_iff] at hz; simp at this; omega
      . exact ⟨bc, rfl⟩
    obtain ⟨⟨b, c⟩, hb⟩ := key
    have hval : VR (r ++ [(b, c)]) m (.ref nb st.heap.length n) v := by
      have hnew : (r ++ [(b, c)])[st.heap.length]? = some (b, c) := by rw [<- hR.len]; simp
      simp only [VR] at hv ⊢
      rcases hv with ⟨h0, _, h1⟩ | ⟨h0, b', c', h1, h2⟩
      . exact .inl ⟨h0, ⟨_, hnew⟩, h1⟩
      . rw [hb] at h1
        cases h1
        exact .inr ⟨h0, b, c, hnew, h2⟩
    cases ob with
    | dead => exact hfl.elim
    | chan => exact hfl.elim
    | box t cs => exact hfl.elim
    | row t sz cs =>
      rcases Nat.eq_zero_or_pos cs.length with hz | hz
      . have : cs = [] := List.eq_nil_of_length_eq_zero hz
        subst this
        exact hnext _ _ _ m _ w' (hpost n _ hp) ((hR.grown hg).pushN t sz (b, c)) hval
      . have hlv := live_row (t := t) (sz := sz) hz
        have hob := hR'.obj 0 _ rfl
        have hbw : w.heap.size <= b := (hR'.own 0 _ b c rfl hlv hb).resolve_right (by rintro ⟨i, c, h⟩; simp at h)
        have hpush := (hR.grown hg).push (o := .row t sz cs) (b := b) (c := c) (hR'.lt 0 _ b c rfl hlv hb) (fun i oi c' ho hl hri => by have := hR.lt i oi b c' ho hl hri; omega)
          (fun p v hp => by have := (hR.mem p v hp).2; omega) (.inl (Nat.le_trans hR.size hbw)) (OR_flat (o := .row t sz cs) ⟨hz, hfl⟩ hb (by rw [<- hR.len]; simp) hob)
        exact hnext _ _ _ m _ w' (hpost n _ hp) hpush hval
  . rw [hcall hfn.1]
    refine ⟨fun h => (by cases h), ?_⟩
    have hc := hfn.2 (memAll r m st.heap w) w [] _ (memAll_ok hR) (fun _ _ _ _ _ _ h => by simp at h) rfl (fun _ _ _ h => by simp at h) (fun _ _ h => by simp at h) (fun _ _ _ _ _ h => by simp at h)
      (vrs_map_conv (fun x v hv => cv_sound hR 6 x v hv) _ _ hargs)
    refine callsIn_FW (hc.mono ?_)
    rintro e w' ⟨v, z, r', m', H', a', rfl, ⟨ob, l, rfl, rfl, hfl, hp⟩, hv, hR'⟩
    simp only [VR] at hv
    obtain ⟨b, c, hb, rfl⟩ := hv
    have hob := hR'.obj 0 ob rfl
    have hbw : w.heap.size <= b := (hR'.own 0 ob b c rfl hfl.live hb).resolve_right (by rintro ⟨i, c, h⟩; simp at h)
    have hg : w.grownBy w' none := { os := hR'.os, tape := hR'.tape, output := hR'.output, size := hR'.size, block := fun k hk _ => hR'.old k hk (by rintro ⟨i, c, h⟩; simp at h) }
    have hpush := (hR.grown hg).push (o := ob) (b := b) (c := c) (hR'.lt 0 ob b c rfl hfl.live hb) (fun i oi c' ho hl hri => by have := hR.lt i oi b c' ho hl hri; omega)
      (fun p v hp => by have := (hR.mem p v hp).2; omega) (.inl (Nat.le_trans hR.size hbw)) (OR_flatC hfl hb (by rw [<- hR.len]; simp) hob)
    exact hnext _ _ _ m _ w' (hpost ob hp) hpush (by simp only [VR]; exact ⟨b, c, by rw [<- hR.len]; simp, rfl⟩)

def stepH (P : Program) (T : TT) (ops : List Oper) (o : Oper) (st : St) (K : St -> Prop) : Prop :=
  match o with
  | ⟨d, .call ⟨.value f, args, tys⟩, ty, pos, af, none⟩ =>
    callA P st.heap (st.eval f) (args.toList.map st.eval) (fun v h => K ({ st with heap := h }.put d v)) \/ callH P st.heap (st.eval f) (args.toList.map st.eval) (fun v h => K ({ st with heap := h }.put d v)) \/ callG P st.heap (st.eval f) (args.toList.map st.eval) (fun v h => K ({ st with heap := h }.put d v))
  | o => stepG P T ops o st K
def seqH (P : Program) (T : TT) (ops : List Oper) : List Oper -> St -> (St -> Prop) -> Prop
  | [], st, K => K st
  | o :: l, st, K => stepH P T ops o st fun s => seqH P T ops l s K

theorem seqH_sound (hT : TsOk P T) {ops : Array Oper} {ro : Option Nat} {n : Nat} {Q : Exit -> Act -> World -> Prop} {K : St -> Prop}
    (hQ : ∀ s r' m' a' w', K s -> R X D w0 mA r' m' s a' w' -> Q .normal a' w') :
    ∀ (l : List Oper) {r : Rho} {m : MM} {st : St} {a : Act} {w : World}, R X D w0 mA r m st a w -> seqH P T ops.toList l st K -> wpListIn (FW ro) n P ops Q l a w
  | [], _, _, _, _, _, hR, h => hQ _ _ _ _ _ h hR
  | o :: l, r, m, st, a, w, hR, h => wpListIn_step fun K' hK' => by
      unfold seqH stepH at h
      split at h
      . rename_i d f args tys ty pos af
        rw [if_pos (by rfl)]
        rcases h with h | h | h
        . exact opC_sound (o := ⟨d, .call ⟨.value f, args, tys⟩, ty, pos, af, none⟩) hT hR (K := fun v h => seqH P T ops.toList l (St.put ⟨st.nt, st.tm, h, st.ho⟩ d v) K) h fun x h' r' m' u w' hK hR' hv => hK' _ w' (seqH_sound hT hQ l (hR'.put d hv) hK)
        . exact callH_sound (o := ⟨d, .call ⟨.value f, args, tys⟩, ty, pos, af, none⟩) hR rfl (K := fun v h => seqH P T ops.toList l (St.put ⟨st.nt, st.tm, h, st.ho⟩ d v) K) h fun x h' r' m' u w' hK hR' hv => hK' _ w' (seqH_sound hT hQ l (hR'.put d hv) hK)
        . exact callG_sound (o := ⟨d, .call ⟨.value f, args, tys⟩, ty, pos, af, none⟩) hR rfl (K := fun v h => seqH P T ops.toList l (St.put ⟨st.nt, st.tm, h, st.ho⟩ d v) K) h fun x h' r' m' u w' hK hR' hv => hK' _ w' (seqH_sound hT hQ l (hR'.put d hv) hK)
      . exact stepG_sound hT hR h fun s r' m' a' w' hs hR' => hK' a' w' (seqH_sound hT hQ l hR' hs)
end

theorem FnH.of_walk {P : Program} {T : TT} {f : FuncId} {c : Code} {nt : Nat} {rs : List ResultVar} {args : List AV} {H : List AObj} (hT : TsOk P T) (hm : P.follows .mixedOrders = true) (hf : IsFn P f c nt rs) {Post : AV -> List AObj -> Prop} (hn : args.length <= nt) (hH : H.length <= 1) (ho : Nat) (hho : ho = 0 -> H = [])
    (h : W P T c ⟨nt, look (enumT 0 args), H, ho⟩ (retA T rs fun s x => Post x s.heap)) : FnH P f H args Post := by
  obtain ⟨fn, h1, h2, h3, h4, h5⟩ := hf.fn
  refine ⟨⟨fn, h1, h2, by rw [h3]; rfl⟩, fun mA w r0 vs hmA hap hlen hlt hob hinj hv => ?_⟩
  have hlen' := hv.length
  have hR : R (fun k => ∃ (i c : Nat), r0[i]? = some (k, c)) ([], r0) w mA r0 (nest mA) ⟨nt, look (enumT 0 args), H, ho⟩ { tmps := vs.toArray ++ Array.replicate (nt - vs.toArray.size) undef, defers := [] } w := by
    refine { os := rfl, tape := rfl, output := rfl, size := Nat.le_refl _, old := fun _ _ _ => rfl, len := hlen, lt := fun i o b c _ _ hr => hlt i b c hr, mem := hmA, low := (by intro p v h; cases h), newer := (by intro p v h; cases h), lim := fun p v h => .inl h, apart := fun p v hp i o b c _ _ hr => hap p v hp i b c hr, obj := hob, own := fun i o b c _ _ hr => .inr ⟨i, c, hr⟩, inj := fun i j oi oj b c c' _ _ _ _ hi hj => hinj i j b c c' hi hj, size' := ?_, tmps := ?_, defers := rfl, base := RLe.refl _, short := (by
      show r0.length <= ho
      rcases Nat.eq_zero_or_pos ho with h0 | h0
      . rw [hlen, hho h0]; simp
      . omega), nox := fun h0 => ⟨fun k => by rintro ⟨i, c, hi⟩; rw [hho h0] at hlen; rw [List.eq_nil_of_length_eq_zero hlen] at hi; simp at hi, by rw [hho h0] at hlen; exact List.eq_nil_of_length_eq_zero hlen⟩, marks := fun d hd => (by cases hd), mnod := List.nodup_nil }
    . simp [hlen']; omega
    . intro t
      simp only [look_enumT, Nat.zero_le, if_true, Nat.sub_zero]
      rcases Nat.lt_or_ge t args.length with h | h
      . have h0 : args[t]? = some args[t] := List.getElem?_eq_getElem h
        obtain ⟨v, hv1, hv2⟩ := hv.get t _ h0
        rw [List.getD_eq_getElem?_getD, h0, Array.getD_eq_getD_getElem?]
        rw [Array.getElem?_append_left (by simp; omega)]
        simpa [hv1] using hv2
      . rw [List.getD_eq_getElem?_getD, List.getElem?_eq_none h]
        simp only [Option.getD_none, VR]
  refine callsIn_wide (n := 0).1 (callsIn_of_wp_marks h1 h3 trivial ?_)
  rw [h4]
  refine wpIn_mono (h hT hm none (fun h => (h rfl).elim) 0 _ _ _ _ _ _ _ _ hR) ?_
  have fin : ∀ (a' : Act) (w' : World) r m s, resA T s rs (fun x => Post x s.heap) -> R (fun k => ∃ (i c : Nat), r0[i]? = some (k, c)) ([], r0) w mA r m s a' w' →
      ∃ v, (results fn a'.tmps).run P w' = .ok v w' /\ ∃ v' x r' m' H' a'', Ending.returned v = .returned v' /\ Post x H' /\ VR r' m' x v' /\ R (fun k => ∃ (i c : Nat), r0[i]? = some (k, c)) ([], r0) w mA r' m' ⟨a''.tmps.size, fun _ => .any, H', 1⟩ a'' w' := by
    intro a' w' r m s hs hR'
    rw [<- h5] at hs
    obtain ⟨x, v, hp, hv, hrun⟩ := resA_sound hT hR' fn hs
    exact ⟨v, hrun, v, x, r, m, s.heap, a', rfl, hp, hv, { hR'.le (s' := ⟨a'.tmps.size, s.tm, s.heap, s.ho⟩) ⟨hR'.size', rfl, rfl, fun t => .inr rfl⟩ with tmps := fun t => (by simp only [VR]), nox := fun h0 => (by cases h0), size' := rfl, short := (by show r0.length <= 1; omega) }⟩
  intro e a' w' he
  cases e <;> simp only [relQ, retA, bodyPostM] at he ⊢ <;> try exact he.elim
  . obtain ⟨ms, r, m, s, -, hs, hR'⟩ := he
    rw [hR'.defers]
    refine R.leaves (fun a'' w'' ha hR'' => ?_) _ a' w' rfl (by rw [List.append_nil] at hR' ⊢; exact hR')
    rw [<- ha]
    exact fin a'' w'' r m s hs hR''
  . obtain ⟨ms, r, m, s, -, hs, hR'⟩ := he
    exact hs.elim
  . obtain ⟨ms, r, m, s, -, hs, hR'⟩ := he
    rw [hR'.defers]
    refine R.leaves (fun a'' w'' ha hR'' => ?_) _ a' w' rfl (by rw [List.append_nil] at hR' ⊢; exact hR')
    rw [<- ha]
    exact fin a'' w'' r m s hs hR''
end Go.Lat
namespace Go.Lat
open Go.RowKit

def rmap (φ : List (Option Nat)) (r : Rho) : Rho := φ.map fun o => match o with
  | some i => r.getD i (0, 0)
  | none => (0, 0)
def Ren (φ : List (Option Nat)) (x y : AV) : Prop := ∀ (r : Rho) (m : MM) v, Low m -> VR r m x v -> VR (rmap φ r) m y v
def Rens (φ : List (Option Nat)) (xs ys : List AV) : Prop := ∀ (r : Rho) (m : MM) vs, Low m -> VRs r m xs vs -> VRs (rmap φ r) m ys vs
section
variable {φ : List (Option Nat)} {r : Rho} {m : MM}
theorem rmap_get {j i : Nat} {x : Nat × Nat} (hφ : φ[j]? = some (some i)) (h : r[i]? = some x) : (rmap φ r)[j]? = some x := by
  simp only [rmap, List.getElem?_map, hφ, Option.map_some, Option.some.injEq]
  simp [List.getD, h]
theorem rmap_some {j : Nat} {o : Option Nat} (hφ : φ[j]? = some o) : ∃ x, (rmap φ r)[j]? = some x := by
  simp only [rmap, List.getElem?_map, hφ, Option.map_some]
  exact ⟨_, rfl⟩
def clV : AV -> Bool
  | .int _ _ | .bool _ | .nilS | .nilP | .nilF | .lst _ _ _ | .ipt _ _ | .any => true
  | .clo _ [] [] => true
  | .clo _ [] [.ipt _ _] => true
  | _ => false
theorem VR_clV {r r' : Rho} {x : AV} {v : Value} (h : clV x = true) (hv : VR r m x v) : VR r' m x v := by
  unfold clV at h
  split at h
  all_goals first
    | (cases h; done)
    | (simpa only [VR] using hv)
    | (simp only [VR, VRs] at hv ⊢; exact hv)
theorem Ren.cl {x : AV} (h : clV x = true) : Ren φ x x := fun _ _ _ _ hv => VR_clV h hv
theorem Ren.wk {x y z : AV} (h : Ren φ x y) (k : Wk y z) : Ren φ x z := fun r m v hm hv => k _ m v hm (h r m v hm hv)
theorem Ren.any (x : AV) : Ren φ x .any := fun _ _ _ _ _ => by simp only [VR]
theorem Ren.int (k : IntKind) (n : Int) : Ren φ (.int k n) (.int k n) := Ren.cl rfl
theorem Ren.bool (b : Bool) : Ren φ (.bool b) (.bool b) := Ren.cl rfl
theorem Ren.nilS : Ren φ .nilS .nilS := Ren.cl rfl
theorem Ren.nilP : Ren φ .nilP .nilP := Ren.cl rfl
theorem Ren.lst (fl : Bool) (n : Nat) (cs : List AV) : Ren φ (.lst fl n cs) (.lst fl n cs) := Ren.cl rfl
theorem Ren.ipt (fl : Bool) (cs : List AV) : Ren φ (.ipt fl cs) (.ipt fl cs) := Ren.cl rfl
theorem Ren.ref {nb nb' : Bool} {id j n : Nat} (hφ : φ[j]? = some (some id)) (hb : nb' = true -> nb = true) : Ren φ (.ref nb id n) (.ref nb' j n) := fun r m v _ hv => by
  simp only [VR] at hv ⊢
  rcases hv with ⟨h0, _, h1 | ⟨hnb, a, h1⟩⟩ | ⟨h0, b, c, h1, h2⟩
  . exact .inl ⟨h0, rmap_some hφ, .inl h1⟩
  . refine .inl ⟨h0, rmap_some hφ, .inr ⟨?_, a, h1⟩⟩
    cases nb' with
    | false => rfl
    | true => rw [hb rfl] at hnb; cases hnb
  . exact .inr ⟨h0, b, c, rmap_get hφ h1, h2⟩
theorem Ren.nilR {nb : Bool} {j n : Nat} {o : Option Nat} (hφ : φ[j]? = some o) (hn : n = 0) : Ren φ .nilS (.ref nb j n) := fun r m v _ hv => by
  simp only [VR] at hv ⊢
  exact .inl ⟨hn, rmap_some hφ, .inl hv⟩
theorem Ren.sub {id j off n : Nat} (hφ : φ[j]? = some (some id)) : Ren φ (.sub id off n) (.sub j off n) := fun r m v _ hv => by
  simp only [VR] at hv ⊢
  obtain ⟨b, c, a, cap, h1, h2⟩ := hv
  exact ⟨b, c, a, cap, rmap_get hφ h1, h2⟩
theorem Ren.ptr {id j off : Nat} (hφ : φ[j]? = some (some id)) : Ren φ (.ptr id off) (.ptr j off) := fun r m v _ hv => by
  simp only [VR] at hv ⊢
  obtain ⟨b, c, h1, h2⟩ := hv
  exact ⟨b, c, rmap_get hφ h1, h2⟩
theorem Ren.chn {id j : Nat} (hφ : φ[j]? = some (some id)) : Ren φ (.chn id) (.chn j) := fun r m v _ hv => by
  simp only [VR] at hv ⊢
  obtain ⟨b, c, h1, h2⟩ := hv
  exact ⟨b, c, rmap_get hφ h1, h2⟩
theorem Rens.nil : Rens φ [] [] := fun _ _ _ _ h => by simpa only [VRs] using h
theorem Rens.cons {x y : AV} {xs ys : List AV} (h : Ren φ x y) (k : Rens φ xs ys) : Rens φ (x :: xs) (y :: ys) := fun r m vs hm hv => by
  simp only [VRs] at hv ⊢
  obtain ⟨v, vs', h1, h2, h3⟩ := hv
  exact ⟨v, vs', h1, h r m v hm h2, k r m vs' hm h3⟩
theorem Rens.cl : ∀ {xs : List AV}, (∀ x ∈ xs, clV x = true) -> Rens φ xs xs
  | [], _ => Rens.nil
  | x :: xs, h => Rens.cons (Ren.cl (h x (by simp))) (Rens.cl fun y hy => h y (by simp [hy]))
theorem Rens.wk {xs ys zs : List AV} (h : Rens φ xs ys) (k : Wks ys zs) : Rens φ xs zs := fun r m v hm hv => k _ m v hm (h r m v hm hv)
theorem Ren.agg {cs ds : List AV} (h : Rens φ cs ds) : Ren φ (.agg cs) (.agg ds) := fun r m v hm hv => by
  simp only [VR] at hv ⊢
  obtain ⟨arr, h1, h2, h3⟩ := hv
  exact ⟨arr, h1, h2, h r m _ hm h3⟩
theorem Ren.tup {cs ds : List AV} (h : Rens φ cs ds) : Ren φ (.tup cs) (.tup ds) := fun r m v hm hv => by
  simp only [VR] at hv ⊢
  obtain ⟨arr, h1, h3⟩ := hv
  exact ⟨arr, h1, h r m _ hm h3⟩
theorem Ren.clo (f : FuncId) {a b c d : List AV} (h : Rens φ a c) (k : Rens φ b d) : Ren φ (.clo f a b) (.clo f c d) := fun r m v hm hv => by
  simp only [VR] at hv ⊢
  obtain ⟨x, y, h1, h2, h3⟩ := hv
  exact ⟨x, y, h1, h r m _ hm h2, k r m _ hm h3⟩
end

def RenO (φ : List (Option Nat)) : AObj -> AObj -> Prop
  | _, .dead => True
  | .row t sz cs, .row t' sz' cs' => t = t' /\ sz = sz' /\ cs'.length = cs.length /\ Rens φ cs cs'
  | .box t cs, .box t' cs' => t = t' /\ Rens φ cs cs'
  | .chan c cl b, .chan c' cl' b' => c = c' /\ cl = cl' /\ Rens φ b b'
  | _, _ => False
def RenH (φ : List (Option Nat)) (h : List AObj) : List (Option Nat) -> List AObj -> Prop
  | [], [] => True
  | none :: p, o :: l => o.live = false /\ RenH φ h p l
  | some k :: p, o :: l => (o = .dead \/ ∃ o0, h[k]? = some o0 /\ RenO φ o0 o) /\ RenH φ h p l
  | _, _ => False
def injB : List (Option Nat) -> Bool
  | [] => true
  | none :: l => injB l
  | some k :: l => !l.contains (some k) && injB l
theorem injB_spec : ∀ {φ : List (Option Nat)}, injB φ = true -> ∀ (i j k : Nat), φ[i]? = some (some k) -> φ[j]? = some (some k) -> i = j
  | [], _, i, _, _, hi, _ => by simp at hi
  | o :: l, h, i, j, k, hi, hj => by
    have hl : injB l = true := by
      cases o with
      | none => exact h
      | some q => simp only [injB, Bool.and_eq_true] at h; exact h.2
    have hq : ∀ q, o = some q -> some q ∉ l := by
      rintro q rfl
      simp only [injB, Bool.and_eq_true, Bool.not_eq_true', List.contains_eq_mem, decide_eq_false_iff_not] at h
      exact h.1
    rcases i with _ | i <;> rcases j with _ | j
    . rfl
    . simp only [List.getElem?_cons_zero, Option.some.injEq, List.getElem?_cons_succ] at hi hj
      exact absurd (List.mem_of_getElem? hj) (hq k hi)
    . simp only [List.getElem?_cons_zero, Option.some.injEq, List.getElem?_cons_succ] at hi hj
      exact absurd (List.mem_of_getElem? hi) (hq k hj)
    . simp only [List.getElem?_cons_succ] at hi hj
      rw [injB_spec hl i j k hi hj]
theorem RenH.get {φ : List (Option Nat)} {h : List AObj} : ∀ {p : List (Option Nat)} {l : List AObj}, RenH φ h p l -> p.length = l.length /\ ∀ (i : Nat) o, l[i]? = some o -> o.live = true -> ∃ k o0, p[i]? = some (some k) /\ h[k]? = some o0 /\ RenO φ o0 o
  | [], [], _ => ⟨rfl, fun i o h => by simp at h⟩
  | [], _ :: _, hr => hr.elim
  | none :: p, [], hr => hr.elim
  | some k :: p, [], hr => hr.elim
  | none :: p, o :: l, hr => by
    obtain ⟨h1, h2⟩ := hr
    obtain ⟨h3, h4⟩ := RenH.get h2
    refine ⟨by simp [h3], fun i o' hi hl => ?_⟩
    rcases i with _ | i
    . simp only [List.getElem?_cons_zero, Option.some.injEq] at hi
      subst hi
      rw [h1] at hl; cases hl
    . simpa using h4 i o' (by simpa using hi) hl
  | some k :: p, o :: l, hr => by
    obtain ⟨h1, h2⟩ := hr
    obtain ⟨h3, h4⟩ := RenH.get h2
    refine ⟨by simp [h3], fun i o' hi hl => ?_⟩
    rcases i with _ | i
    . simp only [List.getElem?_cons_zero, Option.some.injEq] at hi
      subst hi
      rcases h1 with rfl | ⟨o0, h5, h6⟩
      . cases hl
      . exact ⟨k, o0, by simp, h5, h6⟩
    . simpa using h4 i o' (by simpa using hi) hl

section
variable {X : Nat -> Prop} {D : List Deferred × Rho} {w0 : World} {mA : Mem} {r : Rho} {m : MM} {st : St} {a : Act} {w : World} {P : Program} {T : TT}

theorem OR_dead {i : Nat} {o : AObj} (h : o.live = false) : OR r m w i o := by
  cases o with
  | dead => trivial
  | box t cs => cases h
  | chan => cases h
  | row t sz cs => cases cs with
    | nil => exact .inl rfl
    | cons c cs => cases h

theorem RenO.live {φ : List (Option Nat)} {o o' : AObj} (h : RenO φ o o') (hl : o'.live = true) : o.live = true := by
  cases o <;> cases o' <;> try (exact h.elim)
  all_goals try (cases hl; done)
  . rename_i t sz cs t' sz' cs'
    obtain ⟨_, _, h3, _⟩ := h
    cases cs with
    | nil => cases cs' with
      | nil => cases hl
      | cons => cases h3
    | cons => rfl
  . rfl
  . rfl

def pinF (φ : List (Option Nat)) : Nat -> Nat -> Bool
  | 0, _ => true
  | q + 1, i => (match φ.getD i none with | some k => Nat.beq k i | none => false) && pinF φ q (i + 1)
def pinB (φ : List (Option Nat)) (q n : Nat) : Bool := pinF φ (min q n) 0
theorem pinF_spec {φ : List (Option Nat)} : ∀ {q i : Nat}, pinF φ q i = true -> ∀ k, i <= k -> k < i + q -> φ[k]? = some (some k)
  | 0, _, _, _, _, _ => by omega
  | q + 1, i, h, k, h1, h2 => by
    simp only [pinF, Bool.and_eq_true] at h
    by_cases e : k = i
    . subst e
      obtain ⟨h, -⟩ := h
      rw [List.getD_eq_getElem?_getD] at h
      rcases hφ : φ[k]? with _ | x
      . rw [hφ] at h; cases h
      . rw [hφ] at h
        cases x with
        | none => cases h
        | some y => rw [Nat.eq_of_beq_eq_true h]
    . exact pinF_spec h.2 k (by omega) (by omega)
theorem R.ren (h : R X D w0 mA r m st a w) (φ : List (Option Nat)) (hφ : injB φ = true) (h0 : pinB φ st.ho st.heap.length = true) {tm' : Nat -> AV} (ht : ∀ t, Ren φ (st.tm t) (tm' t)) {h' : List AObj} (hh : RenH φ st.heap φ h') :
    R X D w0 mA (rmap φ r) m ⟨st.nt, tm', h', st.ho⟩ a w := by
  obtain ⟨hlen, hget⟩ := RenH.get hh
  have hinj := injB_spec hφ
  have low : Low m := fun p v hv => h.low p v hv
  have get : ∀ (i : Nat) o (b c : Nat), h'[i]? = some o -> o.live = true -> (rmap φ r)[i]? = some (b, c) -> ∃ k o0, φ[i]? = some (some k) /\ st.heap[k]? = some o0 /\ RenO φ o0 o /\ o0.live = true /\ r[k]? = some (b, c) := by
    intro i o b c ho hl hr
    obtain ⟨k, o0, h1, h2, h3⟩ := hget i o ho hl
    have hk : k < r.length := by rw [h.len]; exact (List.getElem?_eq_some_iff.1 h2).1
    have := rmap_get (r := r) h1 (List.getElem?_eq_getElem hk)
    rw [hr] at this
    exact ⟨k, o0, h1, h2, h3, h3.live hl, by rw [List.getElem?_eq_getElem hk, <- this]⟩
  refine { os := h.os, tape := h.tape, output := h.output, size := h.size, old := h.old, len := by simp [rmap, hlen], lt := ?_, mem := h.mem, low := h.low, newer := h.newer, lim := h.lim, apart := ?_, obj := ?_, own := ?_, inj := ?_, size' := h.size', tmps := fun t => ht t r m _ low (h.tmps t), defers := h.defers, base := ?_, short := h.short, nox := h.nox, marks := h.marks, mnod := h.mnod }
  . intro i o b c ho hl hr
    obtain ⟨k, o0, h1, h2, h3, h4, h5⟩ := get i o b c ho hl hr
    exact h.lt k o0 b c h2 h4 h5
  . intro p v hp i o b c ho hl hr
    obtain ⟨k, o0, h1, h2, h3, h4, h5⟩ := get i o b c ho hl hr
    exact h.apart p v hp k o0 b c h2 h4 h5
  . intro i o ho
    rcases hlv : o.live with _ | _
    . exact OR_dead hlv
    . obtain ⟨k, o0, h1, h2, h3⟩ := hget i o ho hlv
      have hob := h.obj k o0 h2
      cases o0 <;> cases o <;> try (exact h3.elim)
      all_goals try (cases hlv; done)
      . rename_i t sz cs t' sz' cs'
        obtain ⟨rfl, rfl, h4, h5⟩ := h3
        rcases hob with rfl | ⟨b, c, cur, e1, e2, e3, e4, e5, e6, e7⟩
        . left
          exact List.eq_nil_of_length_eq_zero (by simpa using h4)
        . right
          refine ⟨b, c, cur, rmap_get h1 e1, e2, by rw [h4]; exact e3, e4, e5, by omega, ?_⟩
          rw [h4]
          exact h5 r m _ low e7
      . rename_i t cs t' cs'
        obtain ⟨rfl, h5⟩ := h3
        obtain ⟨b, c, cur, e1, e2, e3, e7⟩ := hob
        exact ⟨b, c, cur, rmap_get h1 e1, e2, e3, h5 r m _ low e7⟩
      . rename_i cap cl bu cap' cl' bu'
        obtain ⟨rfl, rfl, h5⟩ := h3
        obtain ⟨b, c, bv, s, rc, e1, e2, e7⟩ := hob
        exact ⟨b, c, bv, s, rc, rmap_get h1 e1, e2, h5 r m _ low e7⟩
  . intro i o b c ho hl hr
    obtain ⟨k, o0, h1, h2, h3, h4, h5⟩ := get i o b c ho hl hr
    exact h.own k o0 b c h2 h4 h5
  . intro i j oi oj b c c' hi hj hli hlj hri hrj
    obtain ⟨k, o0, h1, h2, h3, h4, h5⟩ := get i oi b c hi hli hri
    obtain ⟨k', o0', h1', h2', h3', h4', h5'⟩ := get j oj b c' hj hlj hrj
    have := h.inj k k' o0 o0' b c c' h2 h2' h4 h4' h5 h5'
    subst this
    exact hinj i j k h1 h1'
  . intro i x hi
    have hs := h.short
    have hi0 := (List.getElem?_eq_some_iff.1 hi).1
    have hb := h.base i x hi
    have hi1 := (List.getElem?_eq_some_iff.1 hb).1
    have hl := h.len
    exact rmap_get (pinF_spec h0 i (by omega) (by omega)) hb

def regsT (φ : List (Option Nat)) (tm : Nat -> AV) : List (Nat × AV) -> Prop
  | [] => True
  | (t, v) :: l => Ren φ (tm t) v /\ regsT φ tm l
theorem regsT_look {φ : List (Option Nat)} {tm : Nat -> AV} : ∀ {l : List (Nat × AV)}, regsT φ tm l -> ∀ t, Ren φ (tm t) (look l t)
  | [], _, t => Ren.any _
  | (k, v) :: l, h, t => by
    rw [look_cons]
    split
    . rename_i e; subst e; exact h.1
    . exact regsT_look h.2 t

def St.to (s s' : St) : Prop := ∃ φ l, s'.nt = s.nt /\ s'.ho = s.ho /\ s'.tm = look l /\ injB φ = true /\ pinB φ s.ho s.heap.length = true /\ regsT φ s.tm l /\ RenH φ s.heap φ s'.heap
theorem W.to {st st' : St} {Q : Ex -> St -> Prop} {c : Code} (hl : st.to st') (h : W P T c st' Q) : W P T c st Q := fun hT hf ro hro n X D w0 mA r m a w hR => by
  obtain ⟨φ, l, h1, h2, h3, h4, h5, h6, h7⟩ := hl
  obtain ⟨nt, tm, hp, ho⟩ := st'
  simp only at h1 h2 h3 h7
  subst h1; subst h2; subst h3
  exact h hT hf ro hro n X D w0 mA _ m a w (hR.ren φ h4 h5 (regsT_look h6) h7)
theorem St.to_mk {φ : List (Option Nat)} {n : Nat} {tm : Nat -> AV} {h h' : List AObj} {b : Nat} {l : List (Nat × AV)} (h1 : injB φ = true) (h2 : pinB φ b h.length = true) (h3 : regsT φ tm l) (h4 : RenH φ h φ h') : St.to ⟨n, tm, h, b⟩ ⟨n, look l, h', b⟩ :=
  ⟨φ, l, rfl, rfl, rfl, h1, h2, h3, h4⟩

theorem W.loopT {Q : Ex -> St -> Prop} {c : Code} {α : Type} (S : α -> St) (p : α -> Prop) (μ : α -> Nat) (x0 : α) (hs : st.to (S x0)) (hp : p x0)
    (h : ∀ x, p x -> W P T c (S x) (thenA (fun s => ∃ y, (p y /\ μ y < μ x) /\ s.to (S y)) Q)) : W P T (.loop c) st Q :=
  W.loop (fun k s => ∃ x, μ x = k /\ p x /\ s.to (S x)) (k := μ x0) ⟨x0, rfl, hp, hs⟩ fun k s ⟨x, hk, hx, hle⟩ => by
    refine W.to hle ((h x hx).mono fun e s' hs' => ?_)
    cases e <;> simp only [thenA] at hs' ⊢ <;> try exact hs'
    obtain ⟨y, ⟨h2, h1⟩, h3⟩ := hs'
    exact ⟨μ y, by omega, y, rfl, h2, h3⟩

def SealV (fl : Bool) (x y : AV) : Prop := ∀ (r : Rho) (m : MM) v, Low m -> VR r m x v -> VR [] (nest (m fl)) y v
def SealVs (fl : Bool) (xs ys : List AV) : Prop := ∀ (r : Rho) (m : MM) vs, Low m -> VRs r m xs vs -> VRs [] (nest (m fl)) ys vs
theorem SealV.int (fl : Bool) (k : IntKind) (n : Int) : SealV fl (.int k n) (.int k n) := fun r m v _ h => by simpa only [VR] using h
theorem SealV.bool (fl : Bool) (b : Bool) : SealV fl (.bool b) (.bool b) := fun r m v _ h => by simpa only [VR] using h
theorem SealV.nilS (fl : Bool) : SealV fl .nilS .nilS := fun r m v _ h => by simpa only [VR] using h
theorem SealV.lst (fl : Bool) (n : Nat) (cs : List AV) : SealV fl (.lst fl n cs) (.lst true n cs) := fun r m v _ h => by
  simp only [VR] at h ⊢
  exact h
theorem SealV.wk {fl : Bool} {x y z : AV} (h : SealV fl x y) (k : Wk y z) : SealV fl x z := fun r m v hm hv => k _ _ v (Low.nest _) (h r m v hm hv)
theorem SealVs.nil (fl : Bool) : SealVs fl [] [] := fun _ _ _ _ h => by simpa only [VRs] using h
theorem SealVs.cons {fl : Bool} {x y : AV} {xs ys : List AV} (h : SealV fl x y) (k : SealVs fl xs ys) : SealVs fl (x :: xs) (y :: ys) := fun r m vs hm hv => by
  simp only [VRs] at hv ⊢
  obtain ⟨v, vs', h1, h2, h3⟩ := hv
  exact ⟨v, vs', h1, h r m v hm h2, k r m vs' hm h3⟩
theorem SealVs.app {fl : Bool} {xs ys us ws : List AV} (h : SealVs fl xs ys) (k : SealVs fl us ws) : SealVs fl (xs ++ us) (ys ++ ws) := fun r m vs hm hv => by
  have sp : ∀ (xs us : List AV) (vs : List Value), VRs r m (xs ++ us) vs -> ∃ a b, vs = a ++ b /\ VRs r m xs a /\ VRs r m us b := by
    intro xs us
    induction xs with
    | nil => exact fun vs hv => ⟨[], vs, rfl, VRs.nil, hv⟩
    | cons z l ih =>
      intro vs hv
      simp only [List.cons_append, VRs] at hv
      obtain ⟨v, vs', rfl, h2, h3⟩ := hv
      obtain ⟨a, b, rfl, h4, h5⟩ := ih _ h3
      exact ⟨v :: a, b, rfl, by simp only [VRs]; exact ⟨v, a, rfl, h2, h4⟩, h5⟩
  obtain ⟨a, b, rfl, h1, h2⟩ := sp xs us vs hv
  exact (h r m a hm h1).app (k r m b hm h2)

open Classical in
theorem R.sealH (h : R X D w0 mA r m st a w) (hho : st.ho = 0) (fl : Bool) {id : Nat} {t : TypeId} {sz : Nat} {cs cs' : List AV} (ho : st.heap[id]? = some (.row t sz cs)) (hc : SealVs fl cs cs') :
    ∃ m', MLe m m' /\ R X D w0 mA r m' { st with heap := st.heap.set id .dead } a w /\ ∀ nb n v, cs.length = n * sz -> VR r m (.ref nb id n) v -> VR r m' (.lst fl n cs') v := by
  have low : Low m := fun p v hv => h.low p v hv
  rcases Nat.eq_zero_or_pos cs.length with hz | hpos
  . have : cs = [] := List.eq_nil_of_length_eq_zero hz
    subst this
    refine ⟨m, MLe.refl m, h.kill id, fun nb n v hn hv => ?_⟩
    simp only [VR] at hv ⊢
    have hcs' : cs' = [] := by
      have := hc r m [] low VRs.nil
      cases cs' with
      | nil => rfl
      | cons => simp only [VRs] at this; obtain ⟨_, _, h1, _⟩ := this; cases h1
    subst hcs'
    rcases hv with ⟨h0, _, h1 | ⟨_, a, h1⟩⟩ | ⟨h0, b, c, h1, h2, h3⟩
    . exact .inl ⟨h0, h1⟩
    . subst h0
      exact .inr ⟨a, 0, [], Nat.le_refl _, h1, Sealed.nil, VRs.nil⟩
    . exact .inr ⟨_, c, [], h2, h3, Sealed.nil, VRs.nil⟩
  . have hlv := live_row (t := t) (sz := sz) hpos
    rcases h.obj id _ ho with rfl | ⟨b, c, cur, e1, e2, e3, e4, e5, e6, e7⟩
    . cases hpos
    have hk := h.kill id
    have hbn : w0.heap.size <= b := (h.own id _ b c ho hlv e1).resolve_right ((h.nox hho).1 b)
    have hbl := h.lt id _ b c ho hlv e1
    obtain ⟨m', hle, hle2, hR⟩ := hk.learn (fl := fl) (mR := fun p => if p.block = b then w.cell? p else none) (fun p u hu => by
      split at hu
      . rename_i hb; subst hb; exact ⟨hu, hbl⟩
      . cases hu) (fun p u hu => by
      split at hu
      . rename_i hb
        refine .inl ⟨by rw [hb]; exact hbn, fun i o b' c' hi hl hr hbb => ?_⟩
        simp only at hi
        by_cases hii : id = i
        . subst hii
          rw [List.getElem?_set_self (List.getElem?_eq_some_iff.1 ho).1] at hi
          cases hi
          cases hl
        . rw [List.getElem?_set_ne hii] at hi
          have e : b' = b := hbb.symm.trans hb
          subst e
          exact hii (h.inj id i _ o b' c c' ho hi hlv hl e1 hr)
      . cases hu)
    refine ⟨m', hle, hR, fun nb n v hn hv => ?_⟩
    have low' : Low m' := fun p v hv => hR.low p v hv
    have key : Sealed (m' fl) ⟨b, 0, none⟩ (cur.toList.take cs.length) := by
      intro i u hu
      have hu' : u ∈ cur.toList.take cs.length := List.mem_of_getElem? hu
      refine ⟨?_, e3 u hu'⟩
      have hcell : w.cell? ((⟨b, 0, none⟩ : Addr).add i) = some u := by
        rw [Addr.add_lit]
        simp only [World.cell?, e2]
        rw [List.getElem?_take] at hu
        split at hu
        . simpa using hu
        . cases hu
      have hr0 : (fun p : Addr => if p.block = b then w.cell? p else none) ((⟨b, 0, none⟩ : Addr).add i) = some u := by
        simp only
        rw [if_pos (block_add _ _)]
        exact hcell
      cases fl with
      | true => exact hle2 true _ _ hr0
      | false => exact hle2 false _ _ hr0
    simp only [VR] at hv ⊢
    rcases hv with ⟨h0, _, h1 | ⟨_, a', h1⟩⟩ | ⟨h0, b', c', h1, h2, h3⟩
    . exact .inl ⟨h0, h1⟩
    . subst h0
      rw [Nat.zero_mul] at hn
      omega
    . rw [e1] at h1
      cases h1
      exact .inr ⟨_, _, _, h2, h3, key, hc r m' _ low' (e7.mono (RLe.refl r) hle)⟩

def sealT (fl : Bool) (id sz k : Nat) (cs' : List AV) (tm : Nat -> AV) : List (Nat × AV) -> Prop
  | [] => True
  | (t, v) :: l => (v = tm t \/ ∃ nb n, tm t = .ref nb id n /\ k = n * sz /\ v = .lst fl n cs') /\ sealT fl id sz k cs' tm l
theorem W.sealH {Q : Ex -> St -> Prop} {c : Code} (fl : Bool) (id : Nat) {n sz : Nat} {t : TypeId} {cs cs' : List AV} {h h' : List AObj} {tm : Nat -> AV} {l : List (Nat × AV)} (ho : h[id]? = some (.row t sz cs)) (hc : SealVs fl cs cs')
    (hl : sealT fl id sz cs.length cs' tm l) (hh : h.set id .dead = h') (hw : W P T c ⟨n, look l, h', 0⟩ Q) : W P T c ⟨n, tm, h, 0⟩ Q := fun hT hf ro hro k X D w0 mA r m a w hR => by
  obtain ⟨m', hle, hR', hv⟩ := hR.sealH rfl fl ho hc
  subst hh
  refine hw hT hf ro hro k X D w0 mA r m' a w { hR' with tmps := fun t => ?_, size' := hR'.size', nox := hR'.nox }
  have key : ∀ (l : List (Nat × AV)), sealT fl id sz cs.length cs' tm l -> VR r m' (look l t) (a.tmps.getD t undef) := by
    intro l
    induction l with
    | nil => intro _; simp only [look, VR]
    | cons p l ih =>
      obtain ⟨q, v⟩ := p
      intro hl
      rw [look_cons]
      split
      . rename_i e
        subst e
        rcases hl.1 with e | ⟨nb, n', e1, e2, e3⟩
        . rw [e]; exact hR'.tmps t
        . rw [e3]
          exact hv nb n' _ e2 (by have := hR.tmps t; simp only at this; rw [e1] at this; exact this)
      . exact ih hl.2
  exact key l hl
end
end Go.Lat
namespace Go.Lat
open Go.RowKit

def zYy {α : Type} (e : α -> List AV) (xs : List α) : List AV := xs.flatMap e
def Wd {α : Type} (e : α -> List AV) (sz : Nat) : Prop := ∀ a, (e a).length = sz
def zYx (x : Int) : List AV := [.int .i64 x]
def eBool (b : Bool) : List AV := [.bool b]
def lat {α : Type} [Inhabited α] (xs : List α) (j : Int) : α := xs.getD j.toNat default
def vat {n : Nat} (M : Vector Int n) (k : Nat) : Int := M.toList.getD k 0
def vset {n : Nat} (M : Vector Int n) (k : Nat) (v : Int) : Vector Int n := M.setIfInBounds k v
def bat {n : Nat} (M : Vector Bool n) (k : Nat) : Bool := M.toList.getD k false
def bset {n : Nat} (M : Vector Bool n) (k : Nat) (v : Bool) : Vector Bool n := M.setIfInBounds k v
theorem wdInt : Wd zYx 1 := fun _ => rfl
theorem encL_cons {α : Type} (e : α -> List AV) (x : α) (xs : List α) : zYy e (x :: xs) = e x ++ zYy e xs := by simp [zYy]
theorem encL_app {α : Type} (e : α -> List AV) (xs ys : List α) : zYy e xs ++ zYy e ys = zYy e (xs ++ ys) := by simp [zYy]
theorem zYw {α : Type} {e : α -> List AV} {sz : Nat} (h : Wd e sz) (xs : List α) : (zYy e xs).length = xs.length * sz := by
  induction xs with
  | nil => simp [zYy]
  | cons x xs ih => rw [encL_cons, List.length_append, h x, ih, List.length_cons, Nat.add_mul]; omega
theorem encL_drop {α : Type} {e : α -> List AV} {sz : Nat} (h : Wd e sz) : ∀ (xs : List α) (k : Nat), (zYy e xs).drop (k * sz) = zYy e (xs.drop k)
  | [], k => by simp [zYy]
  | x :: xs, 0 => by simp
  | x :: xs, k + 1 => by
    rw [encL_cons, List.drop_succ_cons, <- encL_drop h xs k, List.drop_append, h x, Nat.add_mul, Nat.one_mul]
    rw [List.drop_eq_nil_of_le (by rw [h x]; omega), List.nil_append, Nat.add_sub_cancel]
theorem encL_take {α : Type} {e : α -> List AV} {sz : Nat} (h : Wd e sz) : ∀ (xs : List α) (k : Nat), (zYy e xs).take (k * sz) = zYy e (xs.take k)
  | [], k => by simp [zYy]
  | x :: xs, 0 => by simp [zYy]
  | x :: xs, k + 1 => by
    rw [encL_cons, List.take_succ_cons, encL_cons, <- encL_take h xs k, List.take_append, h x, Nat.add_mul, Nat.one_mul]
    rw [List.take_of_length_le (by rw [h x]; omega), Nat.add_sub_cancel]
theorem encL_at {α : Type} [Inhabited α] {e : α -> List AV} {sz : Nat} (h : Wd e sz) (xs : List α) (j : Int) (h1 : 0 <= j) (h2 : j < (xs.length : Int)) : ∃ rest, (zYy e xs).drop (j.toNat * sz) = e (lat xs j) ++ rest := by
  have hj : j.toNat < xs.length := by omega
  refine ⟨zYy e (xs.drop (j.toNat + 1)), ?_⟩
  rw [encL_drop h, List.drop_eq_getElem_cons hj, encL_cons]
  simp [lat, List.getD, hj]
theorem encL_at' {α : Type} [Inhabited α] {e : α -> List AV} {sz : Nat} (h : Wd e sz) (xs : List α) (j : Int) (k : Nat) (hk : k <= sz) (h1 : 0 <= j) (h2 : j < (xs.length : Int)) : ∃ rest, (zYy e xs).drop (j.toNat * sz + k) = (e (lat xs j)).drop k ++ rest := by
  obtain ⟨rest, hr⟩ := encL_at h xs j h1 h2
  refine ⟨rest, ?_⟩
  rw [<- List.drop_drop, hr, List.drop_append, h, Nat.sub_eq_zero_of_le hk, List.drop_zero]
theorem encL_set {α : Type} {e : α -> List AV} {sz : Nat} (h : Wd e sz) : ∀ (xs : List α) (k : Nat) (x : α), k < xs.length -> (zYy e xs).take (k * sz) ++ e x ++ (zYy e xs).drop (k * sz + sz) = zYy e (xs.set k x) := by
  intro xs k x hk
  have e1 : k * sz + sz = (k + 1) * sz := by rw [Nat.add_mul, Nat.one_mul]
  rw [e1, encL_drop h, encL_take h, List.set_eq_take_append_cons_drop, if_pos hk, <- encL_app, encL_cons, List.append_assoc]
theorem ints_map (l : List Int) : zYy zYx l = l.map (AV.int .i64) := by
  induction l with
  | nil => rfl
  | cons x l ih => rw [encL_cons, ih]; rfl
theorem ints_at {n : Nat} (M : Vector Int n) (k : Nat) (h : k < n) : ∃ rest, (zYy zYx M.toList).drop k = .int .i64 (vat M k) :: rest := by
  obtain ⟨rest, hr⟩ := encL_at wdInt M.toList (k : Int) (by omega) (by simpa using h)
  rw [Int.toNat_natCast, Nat.mul_one] at hr
  exact ⟨rest, by rw [hr]; simp [zYx, lat, vat]⟩
theorem ints_set {n : Nat} (M : Vector Int n) (k : Nat) (v : Int) : Lat.spl (zYy zYx M.toList) k [.int .i64 v] = zYy zYx (vset M k v).toList := by
  rw [ints_map, ints_map]; simp [Lat.spl, vset, List.map_set]
theorem zX {n : Nat} (M : Vector Int n) : (zYy zYx M.toList).length = n := by rw [zYw wdInt]; simp
theorem row_set {α : Type} {e : α -> List AV} {sz : Nat} (h : Wd e sz) (xs : List α) (j : Int) (x : α) {vs : List AV} (hv : vs = e x) (h1 : 0 <= j) (h2 : j < (xs.length : Int)) : Lat.spl (zYy e xs) (j.toNat * sz) vs = zYy e (xs.set j.toNat x) := by
  subst hv
  have hj : j.toNat < xs.length := by omega
  have : j.toNat * sz + sz <= xs.length * sz := by
    have := Nat.mul_le_mul_right sz hj
    rw [Nat.succ_mul] at this
    exact this
  rw [Lat.spl_eq _ _ _ (by rw [zYw h, h]; exact this), h, encL_set h xs _ x hj]

def regsL (tm : Nat -> AV) : List (Nat × AV) -> Prop
  | [] => True
  | (t, v) :: l => tm t = v /\ regsL tm l
theorem regsL_look {tm : Nat -> AV} : ∀ {l : List (Nat × AV)}, regsL tm l -> ∀ t, look l t = .any \/ look l t = tm t
  | [], _, t => .inl rfl
  | (k, v) :: l, h, t => by
    rw [look_cons]
    split
    . rename_i e; subst e; exact .inr h.1.symm
    . exact regsL_look h.2 t

section
variable {P : Program} {T : TT} {ops rest : List Oper} {o : Op} {ty : TypeId} {pos : String} {af : Array Edge} {j n : Nat} {l l' : List (Nat × AV)} {h h' : List AObj} {b : Nat} {K : AV -> List AObj -> Prop} {KS : St -> Prop} {Q : Ex -> St -> Prop} {c : Code} {st : St}

theorem St.put_look (d : Nat) (v : AV) (hd : d < n) : St.put ⟨n, look l, h, b⟩ (some d) v = ⟨n, look ((d, v) :: l), h, b⟩ := by
  simp only [St.put, if_pos hd]
  congr 1
theorem cL {d : Nat} (hd : Nat.ble (d + 1) n = true) (h1 : opC P T ⟨some d, o, ty, pos, af, none⟩ ⟨n, look l, h, b⟩ fun v h' => seqL P T ops [] (j + 1) rest ⟨n, look ((d, v) :: l), h', b⟩ KS) :
    seqL P T ops [] j (⟨some d, o, ty, pos, af, none⟩ :: rest) ⟨n, look l, h, b⟩ KS := by
  have hd' : d < n := Nat.le_of_ble_eq_true hd
  show opC P T ⟨some d, o, ty, pos, af, none⟩ ⟨n, look l, h, b⟩ fun v h' => seqL P T ops [] (j + 1) rest (St.put ⟨n, look l, h', b⟩ (some d) v) KS
  have e : (fun v h' => seqL P T ops [] (j + 1) rest (St.put ⟨n, look l, h', b⟩ (some d) v) KS) = fun v h' => seqL P T ops [] (j + 1) rest ⟨n, look ((d, v) :: l), h', b⟩ KS := by
    funext v h'
    rw [St.put_look d v hd']
  rw [e]
  exact h1
theorem cLn (h1 : opC P T ⟨none, o, ty, pos, af, none⟩ ⟨n, look l, h, b⟩ fun _ h' => seqL P T ops [] (j + 1) rest ⟨n, look l, h', b⟩ KS) :
    seqL P T ops [] j (⟨none, o, ty, pos, af, none⟩ :: rest) ⟨n, look l, h, b⟩ KS := h1
theorem cLg {d : Option Tmp} {i : Nat} {want q : Bool} {t : Tmp} (hg : gdT ops i = some t) (hb : look l t = .bool q) (hq : q = want) (h1 : seqL P T ops [] j (⟨d, o, ty, pos, af, none⟩ :: rest) ⟨n, look l, h, b⟩ KS) :
    seqL P T ops [] j (⟨d, o, ty, pos, af, some (i, want)⟩ :: rest) ⟨n, look l, h, b⟩ KS := by
  subst hq
  show stepG P T ops ⟨d, o, ty, pos, af, some (i, q)⟩ ⟨n, look l, h, b⟩ _
  unfold stepG
  simp only [hg, hb, true_imp_iff, ne_eq, not_true_eq_false, false_imp_iff, and_true]
  exact h1
theorem cLs {d : Nat} {i : Nat} {want q : Bool} {t : Tmp} (hd : Nat.ble (d + 1) n = true) (hg : gdT ops i = some t) (hb : look l t = .bool q) (hq : q = !want) (h1 : seqL P T ops [] (j + 1) rest ⟨n, look ((d, .tup []) :: l), h, b⟩ KS) :
    seqL P T ops [] j (⟨some d, o, ty, pos, af, some (i, want)⟩ :: rest) ⟨n, look l, h, b⟩ KS := by
  subst hq
  have hd' : d < n := Nat.le_of_ble_eq_true hd
  show stepG P T ops ⟨some d, o, ty, pos, af, some (i, want)⟩ ⟨n, look l, h, b⟩ _
  unfold stepG
  simp only [hg, hb]
  refine ⟨fun hc => (by cases want <;> cases hc), fun _ => ?_⟩
  rw [St.put_look d _ hd']
  exact h1
theorem cLu {d : Nat} {i : Nat} {want : Bool} {t : Tmp} (hd : Nat.ble (d + 1) n = true) (hg : gdT ops i = some t) (hb : look l t = .tup []) (h1 : seqL P T ops [] (j + 1) rest ⟨n, look ((d, .tup []) :: l), h, b⟩ KS) :
    seqL P T ops [] j (⟨some d, o, ty, pos, af, some (i, want)⟩ :: rest) ⟨n, look l, h, b⟩ KS := by
  have hd' : d < n := Nat.le_of_ble_eq_true hd
  show stepG P T ops ⟨some d, o, ty, pos, af, some (i, want)⟩ ⟨n, look l, h, b⟩ _
  unfold stepG
  simp only [hg, hb]
  rw [St.put_look d _ hd']
  exact h1
theorem eL (h1 : KS st) : seqL P T ops [] j [] st KS := h1

theorem stepH_of_G {o : Oper} {ops : List Oper} (h1 : stepG P T ops o st KS) : stepH P T ops o st KS := by
  unfold stepH
  split
  . exact .inl h1
  . exact h1
theorem cH {d : Nat} (hd : Nat.ble (d + 1) n = true) (h1 : opC P T ⟨some d, o, ty, pos, af, none⟩ ⟨n, look l, h, b⟩ fun v h' => seqH P T ops rest ⟨n, look ((d, v) :: l), h', b⟩ KS) :
    seqH P T ops (⟨some d, o, ty, pos, af, none⟩ :: rest) ⟨n, look l, h, b⟩ KS := by
  have hd' : d < n := Nat.le_of_ble_eq_true hd
  refine stepH_of_G ?_
  show opC P T ⟨some d, o, ty, pos, af, none⟩ ⟨n, look l, h, b⟩ fun v h' => seqH P T ops rest (St.put ⟨n, look l, h', b⟩ (some d) v) KS
  have e : (fun v h' => seqH P T ops rest (St.put ⟨n, look l, h', b⟩ (some d) v) KS) = fun v h' => seqH P T ops rest ⟨n, look ((d, v) :: l), h', b⟩ KS := by
    funext v h'
    rw [St.put_look d v hd']
  rw [e]
  exact h1
theorem cHc {d : Nat} {f : Operand} {args : Array Operand} {tys : Array TypeId} (hd : Nat.ble (d + 1) n = true) (h1 : callH P h (St.eval ⟨n, look l, h, b⟩ f) (args.toList.map (St.eval ⟨n, look l, h, b⟩)) fun v h' => seqH P T ops rest ⟨n, look ((d, v) :: l), h', b⟩ KS) :
    seqH P T ops (⟨some d, .call ⟨.value f, args, tys⟩, ty, pos, af, none⟩ :: rest) ⟨n, look l, h, b⟩ KS := by
  have hd' : d < n := Nat.le_of_ble_eq_true hd
  refine Or.inr (Or.inl ?_)
  have e : (fun v h' => seqH P T ops rest (St.put ⟨n, look l, h', b⟩ (some d) v) KS) = fun v h' => seqH P T ops rest ⟨n, look ((d, v) :: l), h', b⟩ KS := by
    funext v h'
    rw [St.put_look d v hd']
  show callH P h (St.eval ⟨n, look l, h, b⟩ f) (args.toList.map (St.eval ⟨n, look l, h, b⟩)) fun v h' => seqH P T ops rest (St.put ⟨n, look l, h', b⟩ (some d) v) KS
  rw [e]
  exact h1
theorem eH (h1 : KS st) : seqH P T ops [] st KS := h1

theorem W.rL {id : Nat} {ol : List Oper} (h1 : seqL P T ol [] 0 ol st fun s => W P T c s Q) : W P T (.seq (.region id ol.toArray false) c) st Q := W.seq _ (W.region [] h1) fun _ h => h
theorem W.rL1 {id : Nat} {ol : List Oper} (h1 : seqL P T ol [] 0 ol st (Q .nrm)) : W P T (.region id ol.toArray false) st Q := W.region [] h1
theorem W.rH1 {id : Nat} {ol : List Oper} (h1 : seqH P T ol ol st (Q .nrm)) : W P T (.region id ol.toArray false) st Q := fun hT _ ro _ n X D w0 mA r m a w hR =>
  wpIn_region_list (seqH_sound hT (fun s r' m' a' w' hs hR' => ⟨[], r', m', s, fun _ => rfl, hs, hR'⟩) ol hR h1)
theorem W.rH {id : Nat} {ol : List Oper} (h1 : seqH P T ol ol st fun s => W P T c s Q) : W P T (.seq (.region id ol.toArray false) c) st Q := W.seq _ (W.rH1 h1) fun _ h => h
theorem W.rD1 {id : Nat} {ol : List Oper} (ord : List Nat) (hc : chk ol.toArray ord = true) (hl : (ord.map fun i => ol[i]?) = ol.map some) (h1 : seqL P T ol [] 0 ol st (Q .nrm)) : W P T (.region id ol.toArray true) st Q :=
  W.draw ord hc (seqL_seqI ord ol 0 st hl h1)
theorem W.rD {id : Nat} {ol : List Oper} (ord : List Nat) (hc : chk ol.toArray ord = true) (hl : (ord.map fun i => ol[i]?) = ol.map some) (h1 : seqL P T ol [] 0 ol st fun s => W P T c s Q) : W P T (.seq (.region id ol.toArray true) c) st Q :=
  W.seq _ (W.rD1 ord hc hl h1) fun _ h => h
theorem W.rO1 {id : Nat} {ol : List Oper} (ord : List Nat) (ol' : List Oper) (hc : chk ol.toArray ord = true) (hl : (ord.map fun i => ol[i]?) = ol'.map some) (h1 : seqL P T ol [] 0 ol' st (Q .nrm)) : W P T (.region id ol.toArray true) st Q :=
  W.draw ord hc (seqL_seqI ord ol' 0 st hl h1)
theorem W.rO {id : Nat} {ol : List Oper} (ord : List Nat) (ol' : List Oper) (hc : chk ol.toArray ord = true) (hl : (ord.map fun i => ol[i]?) = ol'.map some) (h1 : seqL P T ol [] 0 ol' st fun s => W P T c s Q) : W P T (.seq (.region id ol.toArray true) c) st Q :=
  W.seq _ (W.rO1 ord ol' hc hl h1) fun _ h => h
theorem W.tr {tm : Nat -> AV} (l' : List (Nat × AV)) (h' : List AObj) (hl : regsL tm l') (hh : h = h') (hw : W P T c ⟨n, look l', h', b⟩ Q) : W P T c ⟨n, tm, h, b⟩ Q := by
  subst hh
  exact W.le (st' := ⟨n, look l', h, b⟩) ⟨rfl, rfl, rfl, regsL_look hl⟩ hw
theorem zYs {id : Nat} {s : St} (h1 : Q .nrm s) : blockA id Q (.exit id) s := by simp only [blockA, if_pos]; exact h1
theorem zYv {id : Nat} {s : St} (h1 : Q .nrm s) : blockA id Q .nrm s := h1
theorem zYt {id : Nat} {s : St} (h1 : Q .ret s) : blockA id Q .ret s := h1
theorem zZ {N : St -> Prop} {s : St} (h1 : N s) : thenA N Q .nrm s := h1
theorem zZt {N : St -> Prop} {k : Nat} {s : St} (h1 : Q (.exit k) s) : thenA N Q (.exit k) s := h1
theorem zZr {N : St -> Prop} {s : St} (h1 : Q .ret s) : thenA N Q .ret s := h1
theorem W.cn {p : Prop} [Decidable p] {x : Operand} {c1 c2 : Code} (hx : st.eval x = .bool (decide p)) (h1 : p -> W P T c1 st Q) (h2 : ¬ p -> W P T c2 st Q) : W P T (.cond x c1 c2) st Q :=
  W.cond hx (fun h => h1 (of_decide_eq_true h)) (fun h => h2 (of_decide_eq_false h))
theorem W.cb {q : Bool} {x : Operand} {c1 c2 : Code} (hx : st.eval x = .bool q) (h1 : q = true -> W P T c1 st Q) (h2 : ¬ q = true -> W P T c2 st Q) : W P T (.cond x c1 c2) st Q :=
  W.cond hx h1 (fun h => h2 (by rw [h]; simp))
theorem W.cT {x : Operand} {c1 c2 : Code} (hx : st.eval x = .bool true) (h1 : W P T c1 st Q) : W P T (.cond x c1 c2) st Q := W.cond hx (fun _ => h1) (fun h => by cases h)
theorem W.cF {x : Operand} {c1 c2 : Code} (hx : st.eval x = .bool false) (h1 : W P T c2 st Q) : W P T (.cond x c1 c2) st Q := W.cond hx (fun h => by cases h) (fun _ => h1)
end
end Go.Lat
namespace Go.Lat
open Go.ChangeShapes Go.WideShapes Go.ChangeAt Go.RowKit
section
variable {H : Type} {enc : TypeId × Value -> H} {P : Program} {w : World} {base : Nat} {spare : Nat -> Bool} {held : Bool}
def memOf (w : World) : Mem := fun p => if p.block < w.heap.size then w.cell? p else none
theorem memOf_ok {w : World} (p : Addr) (v : Value) (h : memOf w p = some v) : w.cell? p = some v /\ p.block < w.heap.size := by
  unfold memOf at h
  split at h
  . exact ⟨h, ‹_›⟩
  . cases h
theorem inI_of_wf {n : Int} (h : (Lit.int .i64 n).wf = true) : inI n := bounds_i64 h
def IntCells (enc : TypeId × Value -> H) (P : Program) (w : World) (base : Nat) (spare : Nat -> Bool) (held : Bool) (e : TypeId) (k : Nat) : Prop :=
  ∀ n cs d, DataW.trod enc P w base spare held n e cs = some d -> ∃ zs : List Int, zs.length = k /\ cs = zs.map (Value.int .i64) /\ ∀ z ∈ zs, inI z
theorem ints_join {cs : List Value} {k : Nat} (hl : cs.length = k) (h : ∀ i, i < k -> ∃ z, (cs.drop i).take 1 = [.int .i64 z] /\ inI z) : ∃ zs : List Int, zs.length = k /\ cs = zs.map (Value.int .i64) /\ ∀ z ∈ zs, inI z := by
  induction cs generalizing k with
  | nil => exact ⟨[], by simpa using hl, rfl, by simp⟩
  | cons c cs ih =>
    obtain ⟨k, rfl⟩ : ∃ k', k = k' + 1 := ⟨k - 1, by simp at hl; omega⟩
    obtain ⟨z, hz, iz⟩ := h 0 (by omega)
    simp at hz
    obtain ⟨zs, h1, h2, h3⟩ := ih (k := k) (by simpa using hl) (fun i hi => by
      have := h (i + 1) (by omega)
      simpa using this)
    refine ⟨z :: zs, by simp [h1], by rw [hz, h2]; rfl, fun y hy => ?_⟩
    rcases List.mem_cons.mp hy with rfl | hy
    . exact iz
    . exact h3 y hy
theorem intCells_arr {t e : TypeId} {k : Nat} (ht : P.underlying t = some (.array k e)) (he : P.underlying e = some (.int .i64)) (ce : P.cellsOf e = 1) (ct : P.cellsOf t = k) : IntCells enc P w base spare held t k := by
  intro n cs d h
  obtain ⟨xs, m, -, -, hl, hx, hi⟩ := DataW.trod_array ht h
  refine ints_join (by rw [hl, ct]) fun i hik => ?_
  have h1 := hi i hik
  rw [ce, Nat.mul_one, List.getElem?_eq_getElem (by omega)] at h1
  obtain ⟨z, hz, -, wz⟩ := DataW.trod_int he h1
  exact ⟨z, hz, inI_of_wf wz⟩
theorem VRs_intsW {r : Rho} {m : MM} : ∀ zs : List Int, VRs r m (zs.map fun z => AV.int .i64 z) (zs.map (Value.int .i64))
  | [] => rfl
  | z :: zs => ⟨_, _, rfl, rfl, VRs_intsW zs⟩
theorem flatten_get {k : Nat} : ∀ {L : List (List Int)}, (∀ r ∈ L, r.length = k) -> ∀ (i : Nat) z, L.flatten[i]? = some z -> ∃ r, L[i / k]? = some r /\ r[i % k]? = some z := by
  intro L
  induction L with
  | nil => intro _ i z h; simp at h
  | cons r L ih =>
    intro hk i z h
    have hr := hk r (by simp)
    rw [List.flatten_cons] at h
    rcases Nat.lt_or_ge i k with h1 | h1
    . rw [List.getElem?_append_left (by omega)] at h
      exact ⟨r, by rw [Nat.div_eq_of_lt h1]; rfl, by rw [Nat.mod_eq_of_lt h1]; exact h⟩
    . rw [List.getElem?_append_right (by omega), hr] at h
      obtain ⟨r', h2, h3⟩ := ih (fun r' h' => hk r' (by simp [h'])) (i - k) z h
      have hk0 : 0 < k := by
        rcases Nat.eq_zero_or_pos k with h0 | h0
        . subst h0
          have hz : ∀ r'' ∈ L, r''.length = 0 := fun r'' h'' => hk r'' (by simp [h''])
          have : L.flatten = [] := List.flatten_eq_nil_iff.mpr fun r'' h'' => List.eq_nil_of_length_eq_zero (hz r'' h'')
          rw [this] at h; simp at h
        . exact h0
      have e1 : i / k = (i - k) / k + 1 := Nat.div_eq_sub_div hk0 h1
      have e2 : i % k = (i - k) % k := by rw [Nat.mod_eq_sub_mod h1]
      exact ⟨r', by rw [e1]; exact h2, by rw [e2]; exact h3⟩
theorem open_flat {t e : TypeId} {k : Nat} {v : Value} {d : DataW H} {ps : List MemPlace} (ht : P.underlying t = some (.slice e)) (ce : P.cellsOf e = k) (hk : 0 < k) (hv : ∃ a len cap, v = .slice a len cap) (he : IntCells enc P w base spare held e k)
    (h : DataW.Trod enc P w base spare held t v d ps) : ∃ L : List (List Int), (∀ r ∈ L, r.length = k /\ ∀ z ∈ r, inI z) /\ VR [] (nest (memOf w)) (.lst true L.length (L.flatten.map fun z => AV.int .i64 z)) v := by
  obtain ⟨fuel, hf⟩ := h
  obtain ⟨a0, len0, cap0, rfl⟩ := hv
  rcases Go.Deep.open_slice ht hf with ⟨hcs, -⟩ | ⟨a, len, cap, m, n, D, Pl, hcs, hb, hl, hm, hmm, -, hx⟩
  . simp [Value.cells] at hcs
    obtain ⟨rfl, rfl, rfl⟩ := hcs
    exact ⟨[], by simp, .inl ⟨rfl, rfl⟩⟩
  . simp [Value.cells] at hcs
    obtain ⟨rfl, rfl, rfl⟩ := hcs
    have hlm : len0 <= m := by rw [hmm]; split <;> omega
    obtain ⟨F, hF⟩ := Go.Deep.choose_lt (α := List Int) (n := len0) (p := fun i zs => zs.length = k /\ (∀ z ∈ zs, inI z) /\ ∀ j, j < k -> w.cell? ((a.add (i * k)).add j) = (zs.map (Value.int .i64))[j]?) (fun i hi => by
      obtain ⟨cs', h1, h2⟩ := hx i (by omega)
      obtain ⟨zs, z1, rfl, z3⟩ := he _ _ _ h2
      obtain ⟨-, -, h5⟩ := World.cells?_some h1
      rw [ce] at h5
      exact ⟨zs, z1, z3, h5⟩)
    refine ⟨(List.range len0).map F, fun r hr => ?_, .inr ⟨a, cap0, ((List.range len0).map F).flatten.map (Value.int .i64), by simpa using hl, by simp, fun i u hu => ?_, VRs_intsW _⟩⟩
    . rw [List.mem_map] at hr
      obtain ⟨i, hi, rfl⟩ := hr
      have := hF i (List.mem_range.mp hi)
      exact ⟨this.1, this.2.1⟩
    . rw [List.getElem?_map] at hu
      rcases hz : ((List.range len0).map F).flatten[i]? with _ | z
      . rw [hz] at hu; cases hu
      rw [hz] at hu
      cases hu
      obtain ⟨r, h1, h2⟩ := flatten_get (k := k) (fun r hr => by
        rw [List.mem_map] at hr
        obtain ⟨i, hi, rfl⟩ := hr
        exact (hF i (List.mem_range.mp hi)).1) i z hz
      have hik : i / k < len0 := by
        rcases Nat.lt_or_ge (i / k) len0 with h | h
        . exact h
        . rw [List.getElem?_eq_none (by simpa using h)] at h1; cases h1
      rw [List.getElem?_map, List.getElem?_range hik] at h1
      cases h1
      have h3 := (hF (i / k) hik).2.2 (i % k) (Nat.mod_lt _ hk)
      rw [List.getElem?_map, h2] at h3
      have e : (a.add (i / k * k)).add (i % k) = a.add i := by
        have e1 : i / k * k + i % k = i := by rw [Nat.mul_comm]; exact Nat.div_add_mod i k
        generalize i / k * k = x at e1
        generalize i % k = y at e1
        subst e1
        unfold Addr.add
        by_cases hx0 : x = 0
        . subst hx0; simp
        . by_cases hy0 : y = 0
          . subst hy0; simp
          . rw [if_neg hy0, if_neg hx0, if_neg (by omega)]; simp only [Nat.add_assoc]
      rw [e] at h3
      refine ⟨?_, rfl⟩
      show memOf w (a.add i) = _
      unfold memOf
      rw [if_pos ?_]
      . exact h3
      . exact World.block_lt_of_cell? _ _ h3
end
end Go.Lat
namespace Go.Lat
open Go.RowKit

def lenV : AV -> Option Nat
  | .nilS => some 0
  | .lst _ n _ => some n
  | .ref _ _ n => some n
  | .sub _ _ n => some n
  | _ => none
def fillE (place : Nat -> Option (Nat × Nat)) (cells : List AV) : List (Nat × AV) -> Option (List AV)
  | [] => some cells
  | (i, v) :: rest => match place i, v.cells with
    | some (off, size), some vs => if (Nat.beq vs.length size && Nat.ble (off + size) cells.length) = true then fillE place (Lat.spl cells off vs) rest else none
    | _, _ => none
theorem fillE_spec {place : Nat -> Option (Nat × Nat)} {K : List AV -> Prop} : ∀ {qs : List (Nat × AV)} {cells cs : List AV}, fillE place cells qs = some cs -> K cs -> fillP place cells K qs
  | [], cells, cs, h, hk => by simp only [fillE, Option.some.injEq] at h; subst h; exact hk
  | (i, v) :: rest, cells, cs, h, hk => by
    unfold fillE at h
    unfold fillP
    split at h <;> try cases h
    rename_i off size vs h1 h2
    split at h
    . rename_i hc
      simp only [Bool.and_eq_true] at hc
      rw [h1, h2]
      exact ⟨Nat.eq_of_beq_eq_true hc.1, Nat.le_of_ble_eq_true hc.2, fillE_spec h hk⟩
    . cases h

section
variable {P : Program} {T : TT} {d : Option Tmp} {ty : TypeId} {pos : String} {af : Array Edge} {g : Option (Nat × Bool)} {n : Nat} {l : List (Nat × AV)} {h : List AObj} {b : Nat} {K : AV -> List AObj -> Prop} {a a2 a3 : Operand}
theorem zZp {v : AV} (h1 : St.eval ⟨n, look l, h, b⟩ a = v) (hk : K v h) : opC P T ⟨d, .move a, ty, pos, af, g⟩ ⟨n, look l, h, b⟩ K := by
  show K (St.eval ⟨n, look l, h, b⟩ a) h
  rw [h1]; exact hk
theorem zZq {v : AV} (h1 : St.eval ⟨n, look l, h, b⟩ a = v) (hk : K v h) : opC P T ⟨d, .assign a, ty, pos, af, g⟩ ⟨n, look l, h, b⟩ K := by
  show K (St.eval ⟨n, look l, h, b⟩ a) h
  rw [h1]; exact hk
theorem zZv {q : Bool} {v : AV} (h1 : St.eval ⟨n, look l, h, b⟩ a = .bool q) (hq : q = true) (h2 : St.eval ⟨n, look l, h, b⟩ a2 = v) (hk : K v h) : opC P T ⟨d, .pick a a2 a3, ty, pos, af, g⟩ ⟨n, look l, h, b⟩ K := by
  subst hq
  show (match St.eval ⟨n, look l, h, b⟩ a, St.eval ⟨n, look l, h, b⟩ a2, St.eval ⟨n, look l, h, b⟩ a3 with
    | .bool t, .bool x, .bool y => K (.bool (if t then x else y)) h
    | .bool true, x, _ => K x h
    | .bool false, _, y => K y h
    | _, _, _ => False)
  rw [h1, h2]
  generalize St.eval ⟨n, look l, h, b⟩ a3 = w
  cases v <;> cases w <;> exact hk
theorem zZy {q : Bool} {v : AV} (h1 : St.eval ⟨n, look l, h, b⟩ a = .bool q) (hq : q = false) (h2 : St.eval ⟨n, look l, h, b⟩ a3 = v) (hk : K v h) : opC P T ⟨d, .pick a a2 a3, ty, pos, af, g⟩ ⟨n, look l, h, b⟩ K := by
  subst hq
  show (match St.eval ⟨n, look l, h, b⟩ a, St.eval ⟨n, look l, h, b⟩ a2, St.eval ⟨n, look l, h, b⟩ a3 with
    | .bool t, .bool x, .bool y => K (.bool (if t then x else y)) h
    | .bool true, x, _ => K x h
    | .bool false, _, y => K y h
    | _, _, _ => False)
  rw [h1, h2]
  generalize St.eval ⟨n, look l, h, b⟩ a2 = w
  cases v <;> cases w <;> exact hk
theorem zXy {t : TypeId} {k : TK} {s by_ : Nat} {z z' : List AV} {p : Nat} (ht : T t = some ⟨k, s, by_, z⟩) (hp : h.length = p) (hz : z = z') (hk : K (.ptr p 0) (h ++ [.box t z'])) : opC P T ⟨d, .alloc t, ty, pos, af, g⟩ ⟨n, look l, h, b⟩ K := by
  show allocA T h t K
  subst hp; subst hz
  simp only [allocA, ht]; exact hk
theorem o_box {t : TypeId} {v : AV} {cs : List AV} {p : Nat} (h1 : St.eval ⟨n, look l, h, b⟩ a = v) (hc : v.cells = some cs) (hp : h.length = p) (hk : K (.ptr p 0) (h ++ [.box t cs])) : opC P T ⟨d, .box t a, ty, pos, af, g⟩ ⟨n, look l, h, b⟩ K := by
  show boxA h t (St.eval ⟨n, look l, h, b⟩ a) K
  subst hp
  rw [h1]; simp only [boxA, hc]; exact hk
theorem ldS {t : TypeId} {k : TK} {s by_ : Nat} {z : List AV} {x v : AV} (ht : T t = some ⟨k, s, by_, z⟩) (ha : k.agg = false) (hc : ∃ rest, cellsAt h x = some (v :: rest)) (hk : K v h) : loadA T h t x K := by
  obtain ⟨rest, hc⟩ := hc
  simp only [loadA, ht, hc, ha]
  exact ⟨by simp, hk⟩
theorem ldA {t : TypeId} {k : TK} {s by_ : Nat} {z : List AV} {x : AV} {cs : List AV} (ht : T t = some ⟨k, s, by_, z⟩) (ha : k.agg = true) (hc : ∃ rest, cellsAt h x = some (cs ++ rest)) (hl : cs.length = s) (hk : K (.agg cs) h) : loadA T h t x K := by
  obtain ⟨rest, hc⟩ := hc
  subst hl
  simp only [loadA, ht, hc, ha]
  exact ⟨by simp, by rw [List.take_left]; exact hk⟩
theorem zZx {t : TypeId} {k : TK} {s by_ : Nat} {z : List AV} {x v : AV} (ht : T t = some ⟨k, s, by_, z⟩) (ha : k.agg = false) (h1 : St.eval ⟨n, look l, h, b⟩ a = x) (hc : ∃ rest, cellsAt h x = some (v :: rest)) (hk : K v h) : opC P T ⟨d, .load t a, ty, pos, af, g⟩ ⟨n, look l, h, b⟩ K := by
  show loadA T h t (St.eval ⟨n, look l, h, b⟩ a) K
  rw [h1]; exact ldS ht ha hc hk
theorem zYp {t : TypeId} {k : TK} {s by_ : Nat} {z : List AV} {x : AV} {cs : List AV} (ht : T t = some ⟨k, s, by_, z⟩) (ha : k.agg = true) (h1 : St.eval ⟨n, look l, h, b⟩ a = x) (hc : ∃ rest, cellsAt h x = some (cs ++ rest)) (hl : cs.length = s) (hk : K (.agg cs) h) : opC P T ⟨d, .load t a, ty, pos, af, g⟩ ⟨n, look l, h, b⟩ K := by
  show loadA T h t (St.eval ⟨n, look l, h, b⟩ a) K
  rw [h1]; exact ldA ht ha hc hl hk
theorem o_stB {t t2 : TypeId} {k : TK} {s by_ id off : Nat} {z : List AV} {v : AV} {vs cs cs2 : List AV} (ht : T t = some ⟨k, s, by_, z⟩) (h1 : St.eval ⟨n, look l, h, b⟩ a = .ptr id off) (h2 : St.eval ⟨n, look l, h, b⟩ a2 = v) (hc : v.cells = some vs) (hl : vs.length = s) (ho : h[id]? = some (.box t2 cs)) (hb : off + vs.length <= cs.length) (he : Lat.spl cs off vs = cs2) (hk : K .any (h.set id (.box t2 cs2))) : opC P T ⟨d, .store t a a2, ty, pos, af, g⟩ ⟨n, look l, h, b⟩ K := by
  show storeA T h t (St.eval ⟨n, look l, h, b⟩ a) (St.eval ⟨n, look l, h, b⟩ a2) K
  subst he
  rw [h1, h2]; simp only [storeA, ht, hc, putCells, ho]
  exact ⟨hl, hb, hk⟩
theorem o_stR {t t2 : TypeId} {k : TK} {s by_ id off sz : Nat} {z : List AV} {v : AV} {vs cs cs2 : List AV} (ht : T t = some ⟨k, s, by_, z⟩) (h1 : St.eval ⟨n, look l, h, b⟩ a = .ptr id off) (h2 : St.eval ⟨n, look l, h, b⟩ a2 = v) (hc : v.cells = some vs) (hl : vs.length = s) (ho : h[id]? = some (.row t2 sz cs)) (hb : off + vs.length <= cs.length) (he : Lat.spl cs off vs = cs2) (hk : K .any (h.set id (.row t2 sz cs2))) : opC P T ⟨d, .store t a a2, ty, pos, af, g⟩ ⟨n, look l, h, b⟩ K := by
  show storeA T h t (St.eval ⟨n, look l, h, b⟩ a) (St.eval ⟨n, look l, h, b⟩ a2) K
  subst he
  rw [h1, h2]; simp only [storeA, ht, hc, putCells, ho]
  exact ⟨hl, hb, hk⟩
theorem zYu {t e : TypeId} {s by_ es eb : Nat} {z ez : List AV} {ek : TK} (ht : T t = some ⟨.sl e, s, by_, z⟩) (he : T e = some ⟨ek, es, eb, ez⟩) {α : Type} [Inhabited α] {en : α -> List AV} {xs : List α} {fl : Bool} {m : Nat} (h1 : St.eval ⟨n, look l, h, b⟩ a = .lst fl m (zYy en xs)) {ik : IntKind} {i : Int} (h2 : St.eval ⟨n, look l, h, b⟩ a2 = .int ik i) (hw : Wd en es) (hm : m = xs.length) (hj : 0 <= i /\ i < (xs.length : Int)) (hk : ∀ rest, K (.ipt fl (en (lat xs i) ++ rest)) h) : opC P T ⟨d, .indexAddr t a a2, ty, pos, af, g⟩ ⟨n, look l, h, b⟩ K := by
  show indexAddrA T t (St.eval ⟨n, look l, h, b⟩ a) (St.eval ⟨n, look l, h, b⟩ a2) (fun v => K v h)
  rw [h1, h2]; simp only [indexAddrA, ht, he]
  subst hm
  obtain ⟨rest, hr⟩ := encL_at hw xs i hj.1 hj.2
  rw [hr]
  exact ⟨hj, hk rest⟩
theorem o_iaR {t e : TypeId} {s by_ es eb : Nat} {z ez : List AV} {ek : TK} (ht : T t = some ⟨.sl e, s, by_, z⟩) (he : T e = some ⟨ek, es, eb, ez⟩) {nb : Bool} {id m : Nat} (h1 : St.eval ⟨n, look l, h, b⟩ a = .ref nb id m) {ik : IntKind} {i : Int} (h2 : St.eval ⟨n, look l, h, b⟩ a2 = .int ik i) (hj : 0 <= i /\ i < (m : Int)) (hk : K (.ptr id (i.toNat * es)) h) : opC P T ⟨d, .indexAddr t a a2, ty, pos, af, g⟩ ⟨n, look l, h, b⟩ K := by
  show indexAddrA T t (St.eval ⟨n, look l, h, b⟩ a) (St.eval ⟨n, look l, h, b⟩ a2) (fun v => K v h)
  rw [h1, h2]; simp only [indexAddrA, ht, he]
  exact ⟨hj, hk⟩
theorem o_iaA {t e : TypeId} {m s by_ es eb : Nat} {z ez : List AV} {ek : TK} (ht : T t = some ⟨.ar m e, s, by_, z⟩) (he : T e = some ⟨ek, es, eb, ez⟩) {id off : Nat} (h1 : St.eval ⟨n, look l, h, b⟩ a = .ptr id off) {ik : IntKind} {i : Int} (h2 : St.eval ⟨n, look l, h, b⟩ a2 = .int ik i) {off2 : Nat} (hj : 0 <= i /\ i < (m : Int)) (hoff : off + i.toNat * es = off2) (hk : K (.ptr id off2) h) : opC P T ⟨d, .indexAddr t a a2, ty, pos, af, g⟩ ⟨n, look l, h, b⟩ K := by
  show indexAddrA T t (St.eval ⟨n, look l, h, b⟩ a) (St.eval ⟨n, look l, h, b⟩ a2) (fun v => K v h)
  rw [h1, h2]; simp only [indexAddrA, ht, he]
  subst hoff
  exact ⟨hj, hk⟩
theorem o_iaP {t e : TypeId} {m s by_ es eb : Nat} {z ez : List AV} {ek : TK} (ht : T t = some ⟨.ar m e, s, by_, z⟩) (he : T e = some ⟨ek, es, eb, ez⟩) {fl : Bool} {cs : List AV} (h1 : St.eval ⟨n, look l, h, b⟩ a = .ipt fl cs) {ik : IntKind} {i : Int} (h2 : St.eval ⟨n, look l, h, b⟩ a2 = .int ik i) (hj : 0 <= i /\ i < (m : Int)) (hk : K (.ipt fl (cs.drop (i.toNat * es))) h) : opC P T ⟨d, .indexAddr t a a2, ty, pos, af, g⟩ ⟨n, look l, h, b⟩ K := by
  show indexAddrA T t (St.eval ⟨n, look l, h, b⟩ a) (St.eval ⟨n, look l, h, b⟩ a2) (fun v => K v h)
  rw [h1, h2]; simp only [indexAddrA, ht, he]
  exact ⟨hj, hk⟩
theorem o_fa {t ft : TypeId} {fs : List (Nat × TypeId)} {s by_ off i : Nat} {z : List AV} {fk : TK} {fz fb : Nat} {fzz : List AV} (ht : T t = some ⟨.st fs, s, by_, z⟩) (hf : fs[i]? = some (off, ft)) (hft : T ft = some ⟨fk, fz + 1, fb, fzz⟩) {id q : Nat} (h1 : St.eval ⟨n, look l, h, b⟩ a = .ptr id q) (hk : K (.ptr id (q + off)) h) : opC P T ⟨d, .fieldAddr t a i, ty, pos, af, g⟩ ⟨n, look l, h, b⟩ K := by
  show fieldAddrA T t (St.eval ⟨n, look l, h, b⟩ a) i (fun v => K v h)
  rw [h1]; simp only [fieldAddrA, ht, hf, hft]
  exact ⟨by simp, hk⟩
theorem o_faP {t ft : TypeId} {fs : List (Nat × TypeId)} {s by_ off i : Nat} {z : List AV} {fk : TK} {fz fb : Nat} {fzz : List AV} (ht : T t = some ⟨.st fs, s, by_, z⟩) (hf : fs[i]? = some (off, ft)) (hft : T ft = some ⟨fk, fz + 1, fb, fzz⟩) {fl : Bool} {cs : List AV} (h1 : St.eval ⟨n, look l, h, b⟩ a = .ipt fl cs) (hk : K (.ipt fl (cs.drop off)) h) : opC P T ⟨d, .fieldAddr t a i, ty, pos, af, g⟩ ⟨n, look l, h, b⟩ K := by
  show fieldAddrA T t (St.eval ⟨n, look l, h, b⟩ a) i (fun v => K v h)
  rw [h1]; simp only [fieldAddrA, ht, hf, hft]
  exact ⟨by simp, hk⟩
theorem zXw {t e : TypeId} {s by_ : Nat} {z : List AV} {m : Nat} {v : AV} (ht : T t = some ⟨.sl e, s, by_, z⟩) (h1 : St.eval ⟨n, look l, h, b⟩ a = v) (hv : lenV v = some m) (hk : K (.int .i64 m) h) : opC P T ⟨d, .call ⟨.builtin .len, #[a], #[t]⟩, ty, pos, af, g⟩ ⟨n, look l, h, b⟩ K := by
  show lenA T t (St.eval ⟨n, look l, h, b⟩ a) (fun v => K v h)
  rw [h1]; simp only [lenA, ht]
  cases v <;> simp only [lenV, Option.some.injEq, reduceCtorEq] at hv <;> subst hv <;> exact hk
theorem o_min {tys : Array TypeId} {k : IntKind} {x y : Int} (h1 : St.eval ⟨n, look l, h, b⟩ a = .int k x) (h2 : St.eval ⟨n, look l, h, b⟩ a2 = .int k y) (hk : K (.int k (min x y)) h) : opC P T ⟨d, .call ⟨.builtin .min, #[a, a2], tys⟩, ty, pos, af, g⟩ ⟨n, look l, h, b⟩ K := by
  obtain ⟨tys⟩ := tys
  show minA (St.eval ⟨n, look l, h, b⟩ a) (St.eval ⟨n, look l, h, b⟩ a2) (fun v => K v h)
  rw [h1, h2]; exact ⟨rfl, hk⟩
theorem o_max {tys : Array TypeId} {k : IntKind} {x y : Int} (h1 : St.eval ⟨n, look l, h, b⟩ a = .int k x) (h2 : St.eval ⟨n, look l, h, b⟩ a2 = .int k y) (hk : K (.int k (max x y)) h) : opC P T ⟨d, .call ⟨.builtin .max, #[a, a2], tys⟩, ty, pos, af, g⟩ ⟨n, look l, h, b⟩ K := by
  obtain ⟨tys⟩ := tys
  show maxA (St.eval ⟨n, look l, h, b⟩ a) (St.eval ⟨n, look l, h, b⟩ a2) (fun v => K v h)
  rw [h1, h2]; exact ⟨rfl, hk⟩
theorem o_add {t u : TypeId} {x y : Int} (h1 : St.eval ⟨n, look l, h, b⟩ a = .int .i64 x) (h2 : St.eval ⟨n, look l, h, b⟩ a2 = .int .i64 y) (hi : inI (x + y)) (hk : K (.int .i64 (x + y)) h) : opC P T ⟨d, .binOp .add t a a2 u, ty, pos, af, g⟩ ⟨n, look l, h, b⟩ K := by
  have hn : nilC .add a2 = false := rfl
  show (if nilC .add a2 = true then nilEqA T t (BinOp.add == BinOp.neq) (St.eval ⟨n, look l, h, b⟩ a) (fun v => K v h) else binA T .add t (St.eval ⟨n, look l, h, b⟩ a) (St.eval ⟨n, look l, h, b⟩ a2) (fun v => K v h))
  rw [hn, if_neg (by simp), h1, h2]
  exact ⟨hi, hk⟩
theorem o_sub {t u : TypeId} {x y : Int} (h1 : St.eval ⟨n, look l, h, b⟩ a = .int .i64 x) (h2 : St.eval ⟨n, look l, h, b⟩ a2 = .int .i64 y) (hi : inI (x - y)) (hk : K (.int .i64 (x - y)) h) : opC P T ⟨d, .binOp .sub t a a2 u, ty, pos, af, g⟩ ⟨n, look l, h, b⟩ K := by
  have hn : nilC .sub a2 = false := rfl
  show (if nilC .sub a2 = true then nilEqA T t (BinOp.sub == BinOp.neq) (St.eval ⟨n, look l, h, b⟩ a) (fun v => K v h) else binA T .sub t (St.eval ⟨n, look l, h, b⟩ a) (St.eval ⟨n, look l, h, b⟩ a2) (fun v => K v h))
  rw [hn, if_neg (by simp), h1, h2]
  exact ⟨hi, hk⟩
theorem o_quo {t u : TypeId} {x y : Int} (h1 : St.eval ⟨n, look l, h, b⟩ a = .int .i64 x) (h2 : St.eval ⟨n, look l, h, b⟩ a2 = .int .i64 y) (h0 : y ≠ 0) (hi : inI (x.tdiv y)) (hk : K (.int .i64 (x.tdiv y)) h) : opC P T ⟨d, .binOp .quo t a a2 u, ty, pos, af, g⟩ ⟨n, look l, h, b⟩ K := by
  have hn : nilC .quo a2 = false := rfl
  show (if nilC .quo a2 = true then nilEqA T t (BinOp.quo == BinOp.neq) (St.eval ⟨n, look l, h, b⟩ a) (fun v => K v h) else binA T .quo t (St.eval ⟨n, look l, h, b⟩ a) (St.eval ⟨n, look l, h, b⟩ a2) (fun v => K v h))
  rw [hn, if_neg (by simp), h1, h2]
  exact ⟨h0, hi, hk⟩
theorem o_rem {t u : TypeId} {k : IntKind} {x y : Int} (h1 : St.eval ⟨n, look l, h, b⟩ a = .int k x) (h2 : St.eval ⟨n, look l, h, b⟩ a2 = .int k y) (h0 : y ≠ 0) (hk : K (.int k (x.tmod y)) h) : opC P T ⟨d, .binOp .rem t a a2 u, ty, pos, af, g⟩ ⟨n, look l, h, b⟩ K := by
  have hn : nilC .rem a2 = false := rfl
  show (if nilC .rem a2 = true then nilEqA T t (BinOp.rem == BinOp.neq) (St.eval ⟨n, look l, h, b⟩ a) (fun v => K v h) else binA T .rem t (St.eval ⟨n, look l, h, b⟩ a) (St.eval ⟨n, look l, h, b⟩ a2) (fun v => K v h))
  rw [hn, if_neg (by simp), h1, h2]
  exact ⟨rfl, h0, hk⟩
theorem zYq {t u : TypeId} {k : IntKind} {x y : Int} (h1 : St.eval ⟨n, look l, h, b⟩ a = .int k x) (h2 : St.eval ⟨n, look l, h, b⟩ a2 = .int k y)  (hk : K (.bool (decide (x < y))) h) : opC P T ⟨d, .binOp .lss t a a2 u, ty, pos, af, g⟩ ⟨n, look l, h, b⟩ K := by
  have hn : nilC .lss a2 = false := rfl
  show (if nilC .lss a2 = true then nilEqA T t (BinOp.lss == BinOp.neq) (St.eval ⟨n, look l, h, b⟩ a) (fun v => K v h) else binA T .lss t (St.eval ⟨n, look l, h, b⟩ a) (St.eval ⟨n, look l, h, b⟩ a2) (fun v => K v h))
  rw [hn, if_neg (by simp), h1, h2]
  exact ⟨rfl, hk⟩
theorem o_leq {t u : TypeId} {k : IntKind} {x y : Int} (h1 : St.eval ⟨n, look l, h, b⟩ a = .int k x) (h2 : St.eval ⟨n, look l, h, b⟩ a2 = .int k y)  (hk : K (.bool (decide (x <= y))) h) : opC P T ⟨d, .binOp .leq t a a2 u, ty, pos, af, g⟩ ⟨n, look l, h, b⟩ K := by
  have hn : nilC .leq a2 = false := rfl
  show (if nilC .leq a2 = true then nilEqA T t (BinOp.leq == BinOp.neq) (St.eval ⟨n, look l, h, b⟩ a) (fun v => K v h) else binA T .leq t (St.eval ⟨n, look l, h, b⟩ a) (St.eval ⟨n, look l, h, b⟩ a2) (fun v => K v h))
  rw [hn, if_neg (by simp), h1, h2]
  exact ⟨rfl, hk⟩
theorem o_gtr {t u : TypeId} {k : IntKind} {x y : Int} (h1 : St.eval ⟨n, look l, h, b⟩ a = .int k x) (h2 : St.eval ⟨n, look l, h, b⟩ a2 = .int k y)  (hk : K (.bool (decide (y < x))) h) : opC P T ⟨d, .binOp .gtr t a a2 u, ty, pos, af, g⟩ ⟨n, look l, h, b⟩ K := by
  have hn : nilC .gtr a2 = false := rfl
  show (if nilC .gtr a2 = true then nilEqA T t (BinOp.gtr == BinOp.neq) (St.eval ⟨n, look l, h, b⟩ a) (fun v => K v h) else binA T .gtr t (St.eval ⟨n, look l, h, b⟩ a) (St.eval ⟨n, look l, h, b⟩ a2) (fun v => K v h))
  rw [hn, if_neg (by simp), h1, h2]
  exact ⟨rfl, hk⟩
theorem o_geq {t u : TypeId} {k : IntKind} {x y : Int} (h1 : St.eval ⟨n, look l, h, b⟩ a = .int k x) (h2 : St.eval ⟨n, look l, h, b⟩ a2 = .int k y)  (hk : K (.bool (decide (y <= x))) h) : opC P T ⟨d, .binOp .geq t a a2 u, ty, pos, af, g⟩ ⟨n, look l, h, b⟩ K := by
  have hn : nilC .geq a2 = false := rfl
  show (if nilC .geq a2 = true then nilEqA T t (BinOp.geq == BinOp.neq) (St.eval ⟨n, look l, h, b⟩ a) (fun v => K v h) else binA T .geq t (St.eval ⟨n, look l, h, b⟩ a) (St.eval ⟨n, look l, h, b⟩ a2) (fun v => K v h))
  rw [hn, if_neg (by simp), h1, h2]
  exact ⟨rfl, hk⟩
theorem o_shl {t u : TypeId} {k2 : IntKind} {x y : Int} (h1 : St.eval ⟨n, look l, h, b⟩ a = .int .i64 x) (h2 : St.eval ⟨n, look l, h, b⟩ a2 = .int k2 y) (h0 : 0 <= y) (hi : inI (x * 2 ^ (min y.toNat 64))) (hk : K (.int .i64 (x * 2 ^ (min y.toNat 64))) h) : opC P T ⟨d, .binOp .shl t a a2 u, ty, pos, af, g⟩ ⟨n, look l, h, b⟩ K := by
  have hn : nilC .shl a2 = false := rfl
  show (if nilC .shl a2 = true then nilEqA T t (BinOp.shl == BinOp.neq) (St.eval ⟨n, look l, h, b⟩ a) (fun v => K v h) else binA T .shl t (St.eval ⟨n, look l, h, b⟩ a) (St.eval ⟨n, look l, h, b⟩ a2) (fun v => K v h))
  rw [hn, if_neg (by simp), h1, h2]
  exact ⟨h0, hi, hk⟩
theorem o_shr {t u : TypeId} {k : IntKind} {k2 : IntKind} {x y : Int} (h1 : St.eval ⟨n, look l, h, b⟩ a = .int k x) (h2 : St.eval ⟨n, look l, h, b⟩ a2 = .int k2 y) (h0 : 0 <= y) (hk : K (.int k (x.fdiv (2 ^ (min y.toNat k.bits)))) h) : opC P T ⟨d, .binOp .shr t a a2 u, ty, pos, af, g⟩ ⟨n, look l, h, b⟩ K := by
  have hn : nilC .shr a2 = false := rfl
  show (if nilC .shr a2 = true then nilEqA T t (BinOp.shr == BinOp.neq) (St.eval ⟨n, look l, h, b⟩ a) (fun v => K v h) else binA T .shr t (St.eval ⟨n, look l, h, b⟩ a) (St.eval ⟨n, look l, h, b⟩ a2) (fun v => K v h))
  rw [hn, if_neg (by simp), h1, h2]
  exact ⟨h0, hk⟩
theorem o_and {t u : TypeId} {k : IntKind} {x y : Int} (h1 : St.eval ⟨n, look l, h, b⟩ a = .int k x) (h2 : St.eval ⟨n, look l, h, b⟩ a2 = .int k y)  (hk : K (.int k (bitI .and k x y)) h) : opC P T ⟨d, .binOp .and t a a2 u, ty, pos, af, g⟩ ⟨n, look l, h, b⟩ K := by
  have hn : nilC .and a2 = false := rfl
  show (if nilC .and a2 = true then nilEqA T t (BinOp.and == BinOp.neq) (St.eval ⟨n, look l, h, b⟩ a) (fun v => K v h) else binA T .and t (St.eval ⟨n, look l, h, b⟩ a) (St.eval ⟨n, look l, h, b⟩ a2) (fun v => K v h))
  rw [hn, if_neg (by simp), h1, h2]
  exact ⟨rfl, hk⟩
theorem o_eqI {t u : TypeId} {k : IntKind} {x y : Int} (hn : nilC .eql a2 = false) (h1 : St.eval ⟨n, look l, h, b⟩ a = .int k x) (h2 : St.eval ⟨n, look l, h, b⟩ a2 = .int k y) (hk : K (.bool (decide (x = y))) h) : opC P T ⟨d, .binOp .eql t a a2 u, ty, pos, af, g⟩ ⟨n, look l, h, b⟩ K := by
  show (if nilC .eql a2 = true then nilEqA T t (BinOp.eql == BinOp.neq) (St.eval ⟨n, look l, h, b⟩ a) (fun v => K v h) else binA T .eql t (St.eval ⟨n, look l, h, b⟩ a) (St.eval ⟨n, look l, h, b⟩ a2) (fun v => K v h))
  rw [hn, if_neg (by simp), h1, h2]
  refine ⟨rfl, ?_⟩
  have e : (x == y) = decide (x = y) := by by_cases h : x = y <;> simp [h]
  simpa [e] using hk
theorem o_neI {t u : TypeId} {k : IntKind} {x y : Int} (hn : nilC .neq a2 = false) (h1 : St.eval ⟨n, look l, h, b⟩ a = .int k x) (h2 : St.eval ⟨n, look l, h, b⟩ a2 = .int k y) (hk : K (.bool (decide (¬ x = y))) h) : opC P T ⟨d, .binOp .neq t a a2 u, ty, pos, af, g⟩ ⟨n, look l, h, b⟩ K := by
  show (if nilC .neq a2 = true then nilEqA T t (BinOp.neq == BinOp.neq) (St.eval ⟨n, look l, h, b⟩ a) (fun v => K v h) else binA T .neq t (St.eval ⟨n, look l, h, b⟩ a) (St.eval ⟨n, look l, h, b⟩ a2) (fun v => K v h))
  rw [hn, if_neg (by simp), h1, h2]
  refine ⟨rfl, ?_⟩
  have e : (x != y) = decide (¬ x = y) := by by_cases h : x = y <;> simp [h]
  simpa [e] using hk
theorem o_not {t : TypeId} {p : Prop} [Decidable p] (h1 : St.eval ⟨n, look l, h, b⟩ a = .bool (decide p)) (hk : K (.bool (decide (¬ p))) h) : opC P T ⟨d, .unOp .not t a, ty, pos, af, g⟩ ⟨n, look l, h, b⟩ K := by
  show unA .not (St.eval ⟨n, look l, h, b⟩ a) (fun v => K v h)
  rw [h1]
  show K (.bool (!decide p)) h
  rw [<- decide_not]
  exact hk
theorem o_notB {t : TypeId} {q : Bool} (h1 : St.eval ⟨n, look l, h, b⟩ a = .bool q) (hk : K (.bool (decide (¬ q = true))) h) : opC P T ⟨d, .unOp .not t a, ty, pos, af, g⟩ ⟨n, look l, h, b⟩ K := by
  show unA .not (St.eval ⟨n, look l, h, b⟩ a) (fun v => K v h)
  rw [h1]
  show K (.bool (!q)) h
  cases q <;> exact hk
theorem o_neg {t : TypeId} {x : Int} (h1 : St.eval ⟨n, look l, h, b⟩ a = .int .i64 x) (hi : inI (-x)) (hk : K (.int .i64 (-x)) h) : opC P T ⟨d, .unOp .neg t a, ty, pos, af, g⟩ ⟨n, look l, h, b⟩ K := by
  show unA .neg (St.eval ⟨n, look l, h, b⟩ a) (fun v => K v h)
  rw [h1]
  exact ⟨hi, hk⟩
theorem o_conv {t u : TypeId} {si : TI} {k k2 : IntKind} {s by_ : Nat} {z : List AV} {x y : Int} (ht : T t = some si) (hu : T u = some ⟨.int k2, s, by_, z⟩) (h1 : St.eval ⟨n, look l, h, b⟩ a = .int k x) (hy : k2.wrap x = y) (hk : K (.int k2 y) h) : opC P T ⟨d, .convert t u a, ty, pos, af, g⟩ ⟨n, look l, h, b⟩ K := by
  show convA T t u (St.eval ⟨n, look l, h, b⟩ a) (fun v => K v h)
  subst hy
  rw [h1]; simp only [convA, ht, hu]; exact hk
theorem o_nil {id off : Nat} (h1 : St.eval ⟨n, look l, h, b⟩ a = .ptr id off) (hk : K (.ptr id off) h) : opC P T ⟨d, .nilCheck a, ty, pos, af, g⟩ ⟨n, look l, h, b⟩ K := by
  show (match St.eval ⟨n, look l, h, b⟩ a with
    | .ptr id off => K (.ptr id off) h
    | .ipt fl cs => K (.ipt fl cs) h
    | .clo f a b => K (.clo f a b) h
    | _ => False)
  rw [h1]; exact hk
theorem o_mf {f : FuncId} {p q : Array Operand} {ps qs : List AV} (hp : p.toList.map (St.eval ⟨n, look l, h, b⟩) = ps) (hq : q.toList.map (St.eval ⟨n, look l, h, b⟩) = qs) (hk : K (.clo f ps qs) h) : opC P T ⟨d, .makeFunc (.func f) p q, ty, pos, af, g⟩ ⟨n, look l, h, b⟩ K := by
  subst hp; subst hq
  exact hk
theorem o_ext {i : Nat} {cs : List AV} {v : AV} (h1 : St.eval ⟨n, look l, h, b⟩ a = .tup cs) (hv : cs[i]? = some v) (hk : K v h) : opC P T ⟨d, .extract a i, ty, pos, af, g⟩ ⟨n, look l, h, b⟩ K := by
  show (match St.eval ⟨n, look l, h, b⟩ a with
    | .tup cs => i < cs.length /\ K (cs.getD i .any) h
    | _ => False)
  rw [h1]
  refine ⟨(List.getElem?_eq_some_iff.1 hv).1, ?_⟩
  rw [List.getD_eq_getElem?_getD, hv]; exact hk
theorem o_build {t : TypeId} {ps : Array (Nat × Operand)} {i : TI} {fs : List (Nat × TypeId)} {qs : List (Nat × AV)} {cs : List AV} (ht : T t = some i) (hk0 : i.k = .st fs) (hp : (ps.toList.map fun p => (p.1, St.eval ⟨n, look l, h, b⟩ p.2)) = qs) (hf : fillE (fieldPl T fs) i.zero qs = some cs) (hk : K (.agg cs) h) : opC P T ⟨d, .build t ps, ty, pos, af, g⟩ ⟨n, look l, h, b⟩ K := by
  show buildA T t (ps.toList.map fun p => (p.1, St.eval ⟨n, look l, h, b⟩ p.2)) (fun v => K v h)
  rw [hp]; simp only [buildA, ht, hk0]
  exact fillE_spec hf hk
theorem o_buildS {t e : TypeId} {m : Nat} {ps : Array (Nat × Operand)} {s by_ es eb q : Nat} {z ez : List AV} {ek : TK} {qs : List (Nat × AV)} {cs : List AV} (ht : T t = some ⟨.sl e, s, by_, z⟩) (he : T e = some ⟨ek, es, eb, ez⟩) (hb : (Nat.ble m 65536 && Nat.ble 1 es && Nat.ble es 256) = true) (hp : (ps.toList.map fun p => (p.1, St.eval ⟨n, look l, h, b⟩ p.2)) = qs) (hq : h.length = q) (hf : fillE (fun j => some (j * es, es)) (zerosA m es ez) qs = some cs) (hk : K (.ref false q m) (h ++ [.row e es cs])) : opC P T ⟨d, .buildSlice t m ps, ty, pos, af, g⟩ ⟨n, look l, h, b⟩ K := by
  show buildSliceA T h t m (ps.toList.map fun p => (p.1, St.eval ⟨n, look l, h, b⟩ p.2)) K
  subst hq
  rw [hp]; simp only [buildSliceA, ht, he]
  simp only [Bool.and_eq_true] at hb
  exact ⟨⟨Nat.le_of_ble_eq_true hb.1.1, Nat.le_of_ble_eq_true hb.1.2, Nat.le_of_ble_eq_true hb.2⟩, fillE_spec (K := fun cs => K (.ref false h.length m) (h ++ [.row e es cs])) hf hk⟩
theorem o_slA {t e : TypeId} {m s by_ es eb : Nat} {z ez : List AV} {ek : TK} (ht : T t = some ⟨.ar m e, s, by_, z⟩) (he : T e = some ⟨ek, es, eb, ez⟩) {lo hi : Option Operand} {x y : Int} {id q off c : Nat} (h1 : St.eval ⟨n, look l, h, b⟩ a = .ptr id q) (hlo : boundA 0 (lo.map (St.eval ⟨n, look l, h, b⟩)) = some x) (hhi : boundA m (hi.map (St.eval ⟨n, look l, h, b⟩)) = some y) (hj : 0 <= x /\ x <= y /\ y <= (m : Int)) (hoff : q + x.toNat * es = off) (hc : y.toNat - x.toNat = c) (hk : K (.sub id off c) h) : opC P T ⟨d, .slice t a lo hi none, ty, pos, af, g⟩ ⟨n, look l, h, b⟩ K := by
  show sliceA T t (St.eval ⟨n, look l, h, b⟩ a) (lo.map (St.eval ⟨n, look l, h, b⟩)) (hi.map (St.eval ⟨n, look l, h, b⟩)) none (fun v => K v h)
  subst hoff; subst hc
  rw [h1]; simp only [sliceA, ht, he, hlo, hhi]
  exact ⟨hj, hk⟩
theorem o_apR {t e : TypeId} {s by_ es eb : Nat} {z ez ys : List AV} {ek : TK} {m p q : Nat} {cc : List AV} (ht : T t = some ⟨.sl e, s, by_, z⟩) (he : T e = some ⟨ek, es, eb, ez⟩) (hb : (Nat.ble 1 es && Nat.ble eb 131072) = true) {nb : Bool} {id k : Nat} {cs : List AV} (h1 : St.eval ⟨n, look l, h, b⟩ a = .ref nb id k) (hs : srcA h es (St.eval ⟨n, look l, h, b⟩ a2) = some (m, ys)) (hl : ys.length = m * es) (ho : h[id]? = some (.row e es cs)) (hcl : cs.length = k * es) (hm : k + m <= 1073741824) (hp : h.length = p) (hq : k + m = q) (hcc : cs ++ ys = cc) (hk : K (.ref nb p q) (h.set id .dead ++ [.row e es cc])) : opC P T ⟨d, .call ⟨.builtin .append, #[a, a2], #[t, t]⟩, ty, pos, af, g⟩ ⟨n, look l, h, b⟩ K := by
  show (t = t /\ appendA T h t (St.eval ⟨n, look l, h, b⟩ a) (St.eval ⟨n, look l, h, b⟩ a2) K)
  subst hp; subst hq; subst hcc
  rw [h1]; simp only [appendA, ht, he, hs, ho]
  simp only [Bool.and_eq_true] at hb
  refine ⟨trivial, ⟨Nat.le_of_ble_eq_true hb.1, Nat.le_of_ble_eq_true hb.2⟩, hl, ⟨trivial, trivial, by omega, hm⟩, ?_⟩
  rw [<- hcl, List.take_length]
  exact hk
theorem src_lst {α : Type} {en : α -> List AV} {sz : Nat} (hw : Wd en sz) (xs : List α) (fl : Bool) {m : Nat} (hm : m = xs.length) : srcA h sz (.lst fl m (zYy en xs)) = some (xs.length, zYy en xs) := by
  subst hm
  simp only [srcA]
  rw [<- zYw hw xs, List.take_length]
theorem src_ref {sz t sz' id m : Nat} {nb : Bool} {cs : List AV} (ho : h[id]? = some (.row t sz' cs)) (hl : cs.length = m * sz) : srcA h sz (.ref nb id m) = some (m, cs) := by
  simp only [srcA, ho]
  rw [<- hl, List.take_length]
theorem ca_rowF {α : Type} [Inhabited α] {en : α -> List AV} {xs : List α} {t sz id k : Nat} {i : Int} (ho : h[id]? = some (.row t sz (zYy en xs))) (hw : Wd en sz) (hj : 0 <= i /\ i < (xs.length : Int)) (hk : Nat.ble k sz = true) : ∃ rest, cellsAt h (.ptr id (i.toNat * sz + k)) = some ((en (lat xs i)).drop k ++ rest) := by
  obtain ⟨rest, hr⟩ := encL_at' hw xs i k (Nat.le_of_ble_eq_true hk) hj.1 hj.2
  exact ⟨rest, by simp only [cellsAt, ho, hr]⟩

theorem FnP.wk {k : FuncId} {xs ys : List AV} {Post : AV -> Prop} (hw : Wks xs ys) (hf : FnP P k ys Post) : FnP P k xs Post := ⟨hf.1, fun m w vs hm hv => hf.2 m w vs hm (hw _ _ _ (Low.nest m) hv)⟩
theorem FnS.wk {k : FuncId} {xs ys : List AV} {Post : AV -> Prop} (hw : Wks xs ys) (hf : FnS P k ys Post) : FnS P k xs Post := ⟨hf.1, fun m w vs hm hv => hf.2 m w vs hm (hw _ _ _ (Low.nest m) hv)⟩
theorem o_callP {f : Operand} {args : Array Operand} {tys : Array TypeId} {k : FuncId} {fst caps ys xs : List AV} {Post : AV -> Prop} (hf : St.eval ⟨n, look l, h, b⟩ f = .clo k fst caps) (ha : args.toList.map (St.eval ⟨n, look l, h, b⟩) = ys)
    (spec : FnP P k xs Post) (hw : Wks ((fst ++ ys ++ caps).map (conv 6 h)) xs) (hk : ∀ x, Post x -> K x h) : opC P T ⟨d, .call ⟨.value f, args, tys⟩, ty, pos, af, g⟩ ⟨n, look l, h, b⟩ K := by
  show callR P ⟨.value f, args, tys⟩ ⟨n, look l, h, b⟩ K
  unfold callR
  simp only [hf]
  subst ha
  exact .inl ⟨Post, spec.wk hw, hk⟩
theorem o_callS {f : Operand} {args : Array Operand} {tys : Array TypeId} {k : FuncId} {fst caps ys xs : List AV} {Post : AV -> Prop} (hf : St.eval ⟨n, look l, h, b⟩ f = .clo k fst caps) (ha : args.toList.map (St.eval ⟨n, look l, h, b⟩) = ys)
    (spec : FnS P k xs Post) (hw : Wks ((fst ++ ys ++ caps).map (conv 6 [])) xs) (hk : ∀ x, Post x -> K x h) : opC P T ⟨d, .call ⟨.value f, args, tys⟩, ty, pos, af, g⟩ ⟨n, look l, h, b⟩ K := by
  show callR P ⟨.value f, args, tys⟩ ⟨n, look l, h, b⟩ K
  unfold callR
  simp only [hf]
  subst ha
  exact .inr ⟨Post, spec.wk hw, hk⟩
theorem zZu {f : Operand} {args : Array Operand} {tys : Array TypeId} {k : FuncId} {fst caps ys xs : List AV} {v : AV} (hf : St.eval ⟨n, look l, h, b⟩ f = .clo k fst caps) (ha : args.toList.map (St.eval ⟨n, look l, h, b⟩) = ys)
    (spec : FnP P k xs (fun x => x = v)) (hw : Wks ((fst ++ ys ++ caps).map (conv 6 h)) xs) (hk : K v h) : opC P T ⟨d, .call ⟨.value f, args, tys⟩, ty, pos, af, g⟩ ⟨n, look l, h, b⟩ K := o_callP hf ha spec hw (by rintro _ rfl; exact hk)
theorem o_callS1 {f : Operand} {args : Array Operand} {tys : Array TypeId} {k : FuncId} {fst caps ys xs : List AV} {v : AV} (hf : St.eval ⟨n, look l, h, b⟩ f = .clo k fst caps) (ha : args.toList.map (St.eval ⟨n, look l, h, b⟩) = ys)
    (spec : FnS P k xs (fun x => x = v)) (hw : Wks ((fst ++ ys ++ caps).map (conv 6 [])) xs) (hk : K v h) : opC P T ⟨d, .call ⟨.value f, args, tys⟩, ty, pos, af, g⟩ ⟨n, look l, h, b⟩ K := o_callS hf ha spec hw (by rintro _ rfl; exact hk)

structure Enc {α : Type} (ef : Bool -> α -> List AV) (sz : Nat) : Prop where
  wd : ∀ fl, Wd (ef fl) sz
  cv : ∀ k h fl a, Wks ((ef fl a).map (conv (k + 1) h)) (ef true a)
  ci : ∀ k h a, Wks ((ef false a).map (cvI (k + 1) h)) (ef true a)
  co : ∀ k h a, Wks ((ef false a).map (cvO (k + 1) h)) (ef false a)
  sl : ∀ fl a, SealVs fl (ef fl a) (ef true a)
  cl : ∀ fl a, ∀ x ∈ ef fl a, clV x = true
theorem encL_cv {α : Type} {ef : Bool -> α -> List AV} {sz : Nat} (he : Enc ef sz) (k : Nat) (h : List AObj) (fl : Bool) : ∀ xs, Wks ((zYy (ef fl) xs).map (conv (k + 1) h)) (zYy (ef true) xs)
  | [] => Wks.refl _
  | x :: xs => by
    rw [encL_cons, encL_cons, List.map_append]
    exact Wks.app (he.cv k h fl x) (encL_cv he k h fl xs) (by rw [List.length_map, he.wd, he.wd])
theorem encL_ci {α : Type} {ef : Bool -> α -> List AV} {sz : Nat} (he : Enc ef sz) (k : Nat) (h : List AObj) : ∀ xs, Wks ((zYy (ef false) xs).map (cvI (k + 1) h)) (zYy (ef true) xs)
  | [] => Wks.refl _
  | x :: xs => by
    rw [encL_cons, encL_cons, List.map_append]
    exact Wks.app (he.ci k h x) (encL_ci he k h xs) (by rw [List.length_map, he.wd, he.wd])
theorem encL_sl {α : Type} {ef : Bool -> α -> List AV} {sz : Nat} (he : Enc ef sz) (fl : Bool) : ∀ xs, SealVs fl (zYy (ef fl) xs) (zYy (ef true) xs)
  | [] => SealVs.nil fl
  | x :: xs => by
    rw [encL_cons, encL_cons]
    exact SealVs.app (he.sl fl x) (encL_sl he fl xs)
theorem encL_cl {α : Type} {ef : Bool -> α -> List AV} {sz : Nat} (he : Enc ef sz) (fl : Bool) (xs : List α) : ∀ x ∈ zYy (ef fl) xs, clV x = true := by
  intro x hx
  simp only [zYy, List.mem_flatMap] at hx
  obtain ⟨a, _, ha⟩ := hx
  exact he.cl fl a x ha
theorem Rens.enc {φ : List (Option Nat)} {α : Type} {ef : Bool -> α -> List AV} {sz : Nat} (he : Enc ef sz) (fl : Bool) (xs : List α) : Rens φ (zYy (ef fl) xs) (zYy (ef fl) xs) := Rens.cl (encL_cl he fl xs)
theorem conv_int (k : Nat) (h : List AObj) (q : IntKind) (x : Int) : conv k h (.int q x) = .int q x := by cases k <;> rfl
theorem conv_bool (k : Nat) (h : List AObj) (x : Bool) : conv k h (.bool x) = .bool x := by cases k <;> rfl
theorem conv_lst (k : Nat) (h : List AObj) (fl : Bool) (m : Nat) (cs : List AV) : conv k h (.lst fl m cs) = .lst true m cs := by cases k <;> rfl
theorem cvI_int (k : Nat) (h : List AObj) (q : IntKind) (x : Int) : cvI k h (.int q x) = .int q x := by cases k <;> rfl
theorem cvI_lst (k : Nat) (h : List AObj) (m : Nat) (cs : List AV) : cvI k h (.lst false m cs) = .lst true m cs := by cases k <;> rfl
theorem cvO_int (k : Nat) (h : List AObj) (q : IntKind) (x : Int) : cvO k h (.int q x) = .int q x := by cases k <;> rfl
theorem cvO_bool (k : Nat) (h : List AObj) (x : Bool) : cvO k h (.bool x) = .bool x := by cases k <;> rfl
theorem cvO_lst (k : Nat) (h : List AObj) (m : Nat) (cs : List AV) : cvO k h (.lst false m cs) = .lst false m cs := by cases k <;> rfl
theorem zZw : Enc (fun _ => zYx) 1 where
  wd _ _ := rfl
  cv k h _ a := by rw [zYx, List.map_cons, conv_int]; exact Wks.refl _
  ci k h a := by rw [zYx, List.map_cons, cvI_int]; exact Wks.refl _
  co k h a := by rw [zYx, List.map_cons, cvO_int]; exact Wks.refl _
  sl fl a := SealVs.cons (SealV.int fl _ _) (SealVs.nil fl)
  cl _ a x hx := by simp only [zYx, List.mem_singleton] at hx; subst hx; rfl
def eSl {α : Type} (e : α -> List AV) (fl : Bool) (r : List α) : List AV := [.lst fl r.length (zYy e r)]
section
variable {α : Type} {ef : Bool -> α -> List AV} {sz : Nat}
theorem zZz (k : Nat) (h : List AObj) (q : IntKind) (x : Int) : Wk (conv k h (.int q x)) (.int q x) := by rw [conv_int]; exact Wk.refl _
theorem ag_bool (k : Nat) (h : List AObj) (x : Bool) : Wk (conv k h (.bool x)) (.bool x) := by rw [conv_bool]; exact Wk.refl _
theorem zZs (k : Nat) (h : List AObj) (fl : Bool) (m : Nat) (cs : List AV) : Wk (conv k h (.lst fl m cs)) (.lst true m cs) := by rw [conv_lst]; exact Wk.refl _
theorem ag_nil (k : Nat) (h : List AObj) (m : Nat) (cs : List AV) (hm : m = 0) : Wk (conv k h .nilS) (.lst true m cs) := by
  have : conv k h .nilS = .nilS := by cases k <;> rfl
  rw [this]; exact Wk.nil' _ _ _ hm
theorem ag_ref (he : Enc ef sz) (k : Nat) {h : List AObj} {id t : Nat} {fl : Bool} {xs : List α} (nb : Bool) {m : Nat} (ho : h[id]? = some (.row t sz (zYy (ef fl) xs))) (hm : m = xs.length) : Wk (conv (k + 2) h (.ref nb id m)) (.lst true xs.length (zYy (ef true) xs)) := by
  subst hm
  simp only [conv, ho]
  rw [<- zYw (he.wd fl) xs, List.take_length]
  exact Wk.lsts _ _ (encL_cv he k h fl xs)
theorem zXx (k : Nat) (h : List AObj) {cs ds : List AV} (hc : Wks (cs.map (conv k h)) ds) : Wk (conv (k + 1) h (.agg cs)) (.agg ds) := Wk.agg hc
theorem ag_clo (k : Nat) (h : List AObj) (f : FuncId) {a b c d : List AV} (h1 : Wks (a.map (conv k h)) c) (h2 : Wks (b.map (conv k h)) d) : Wk (conv (k + 1) h (.clo f a b)) (.clo f c d) := Wk.clo f h1 h2
theorem ag_box (k : Nat) {h : List AObj} {id t : Nat} {cs ds : List AV} (ho : h[id]? = some (.box t cs)) (hc : Wks (cs.map (conv k h)) ds) : Wk (conv (k + 1) h (.ptr id 0)) (.ipt true ds) := by
  simp only [conv, ho, List.drop_zero]
  intro r m v hm hv
  simp only [VR] at hv ⊢
  obtain ⟨a, vs, h2, h3, h4⟩ := hv
  exact ⟨a, vs, h2, h3, hc _ _ _ (Low.nest _) h4⟩
theorem ag_ipt (k : Nat) (h : List AObj) (fl : Bool) (cs : List AV) : Wk (conv k h (.ipt fl cs)) (.ipt true cs) := by
  have : conv k h (.ipt fl cs) = .ipt true cs := by cases k <;> rfl
  rw [this]; exact Wk.refl _
theorem zY (k : Nat) (h : List AObj) (q : IntKind) (x : Int) : Wk (cvO k h (.int q x)) (.int q x) := by rw [cvO_int]; exact Wk.refl _
theorem zYr (k : Nat) (h : List AObj) (x : Bool) : Wk (cvO k h (.bool x)) (.bool x) := by rw [cvO_bool]; exact Wk.refl _
theorem rs_lst (k : Nat) (h : List AObj) (m : Nat) (cs : List AV) : Wk (cvO k h (.lst false m cs)) (.lst false m cs) := by rw [cvO_lst]; exact Wk.refl _
theorem rs_nil (k : Nat) (h : List AObj) (m : Nat) (cs : List AV) (hm : m = 0) : Wk (cvO k h .nilS) (.lst false m cs) := by
  have : cvO k h .nilS = .nilS := by cases k <;> rfl
  rw [this]; exact Wk.nil' _ _ _ hm
theorem rs_ref (he : Enc ef sz) (k : Nat) {h : List AObj} {id t : Nat} {xs : List α} (nb : Bool) {m : Nat} (ho : h[id]? = some (.row t sz (zYy (ef false) xs))) (hm : m = xs.length) : Wk (cvO (k + 2) h (.ref nb id m)) (.lst false xs.length (zYy (ef true) xs)) := by
  subst hm
  simp only [cvO, ho]
  rw [<- zYw (he.wd false) xs, List.take_length]
  exact Wk.lsts _ _ (encL_ci he k h xs)
theorem rs_agg (k : Nat) (h : List AObj) {cs ds : List AV} (hc : Wks (cs.map (cvO k h)) ds) : Wk (cvO (k + 1) h (.agg cs)) (.agg ds) := Wk.agg hc
theorem rs_tup (k : Nat) (h : List AObj) {cs ds : List AV} (hc : Wks (cs.map (cvO k h)) ds) : Wk (cvO (k + 1) h (.tup cs)) (.tup ds) := Wk.tup hc
end

theorem rt {rs : List ResultVar} {KK : St -> AV -> Prop} {s : St} (h1 : resL T s rs fun vs => match vs with | [v] => KK s v | vs => KK s (.tup vs)) : retA T rs KK .ret s := h1
theorem rn {rs : List ResultVar} {KK : St -> AV -> Prop} {s : St} (h1 : resL T s rs fun vs => match vs with | [v] => KK s v | vs => KK s (.tup vs)) : retA T rs KK .nrm s := h1
theorem rt_t {t : Tmp} {rs : List ResultVar} {KV : List AV -> Prop} {s : St} {v : AV} (hv : s.tm t = v) (h1 : resL T s rs fun vs => KV (v :: vs)) : resL T s (.tmp t :: rs) KV := by subst hv; exact h1
theorem rt_c {p : Tmp} {t : TypeId} {rs : List ResultVar} {KV : List AV -> Prop} {s : St} {x : AV} (hx : s.tm p = x) (h1 : loadA T s.heap t x fun v _ => resL T s rs fun vs => KV (v :: vs)) : resL T s (.cell p t :: rs) KV := by subst hx; exact h1
theorem rt_n {KV : List AV -> Prop} {s : St} (h1 : KV []) : resL T s [] KV := h1
theorem zXv {p q : Prop} [Decidable p] [Decidable q] (hp : p) {x : Bool} (hq : decide q = x) : decide (p /\ q) = x := by rw [<- hq]; simp [hp]
theorem dAndF {p q : Prop} [Decidable p] [Decidable q] (hp : ¬ p) : decide (p /\ q) = false := by simp [hp]
theorem dOrT {p q : Prop} [Decidable p] [Decidable q] (hp : p) : decide (p \/ q) = true := by simp [hp]
theorem dOrF {p q : Prop} [Decidable p] [Decidable q] (hp : ¬ p) {x : Bool} (hq : decide q = x) : decide (p \/ q) = x := by rw [<- hq]; simp [hp]
end
end Go.Lat
namespace Go.Lat
open Go.RowKit
section
variable {P : Program} {T : TT} {st st' : St} {Q : Ex -> St -> Prop} {c c' : Code} {n : Nat} {l l' : List (Nat × AV)} {h h' : List AObj} {b : Nat}
theorem W.rLm {id : Nat} {ol : List Oper} (st' : St) (h1 : seqL P T ol [] 0 ol st fun s => s.le st') (h2 : W P T c st' Q) : W P T (.seq (.region id ol.toArray false) c) st Q := W.seq _ (W.region [] h1) fun _ h => W.le h h2
theorem W.rDm {id : Nat} {ol : List Oper} (st' : St) (ord : List Nat) (hc : chk ol.toArray ord = true) (hl : (ord.map fun i => ol[i]?) = ol.map some) (h1 : seqL P T ol [] 0 ol st fun s => s.le st') (h2 : W P T c st' Q) : W P T (.seq (.region id ol.toArray true) c) st Q :=
  W.seq (fun s => s.le st') (W.rD1 ord hc hl h1) fun _ h => W.le h h2
theorem zYz (h1 : regsL (look l) l') (h2 : h = h') : St.le ⟨n, look l, h, b⟩ ⟨n, look l', h', b⟩ := by subst h2; exact ⟨rfl, rfl, rfl, regsL_look h1⟩
theorem dVar (b : Bool) : decide (b = true) = b := by cases b <;> rfl
theorem W.mid1 {α0 : Type} (S : α0 -> St) (p : α0 -> Prop) (h' : ∀ x0, p x0 -> W P T c' (S x0) Q) (h : W P T c st (thenA (fun s => ∃ (_ : Unit) (x0 : α0), p x0 /\ s.to (S x0)) Q)) : W P T (.seq c c') st Q :=
  W.seq _ h fun _ ⟨_, x0, hx, hs⟩ => W.to hs (h' x0 hx)
theorem W.loop1 {α0 : Type} (S : α0 -> St) (p : α0 -> Prop) (μ : α0 -> Nat) (z0 : α0) (hs : st.to (S z0)) (hp : p z0)
    (h : ∀ x0, p x0 -> W P T c (S x0) (thenA (fun s => ∃ (_ : Unit) (y0 : α0), (p y0 /\ μ y0 < μ x0) /\ s.to (S y0)) Q)) : W P T (.loop c) st Q :=
  W.loopT (α := α0) (fun x => S x) (fun x => p x) (fun x => μ x) (z0) hs hp fun x hx => (h x hx).mono fun e s hs' => by
    cases e <;> simp only [thenA] at hs' ⊢ <;> try exact hs'
    obtain ⟨_, y0, h1, h2⟩ := hs'
    exact ⟨(y0), h1, h2⟩
theorem W.mid2 {α0 α1 : Type} (S : α0 -> α1 -> St) (p : α0 -> α1 -> Prop) (h' : ∀ x0 x1, p x0 x1 -> W P T c' (S x0 x1) Q) (h : W P T c st (thenA (fun s => ∃ (_ : Unit) (x0 : α0) (x1 : α1), p x0 x1 /\ s.to (S x0 x1)) Q)) : W P T (.seq c c') st Q :=
  W.seq _ h fun _ ⟨_, x0, x1, hx, hs⟩ => W.to hs (h' x0 x1 hx)
theorem W.loop2 {α0 α1 : Type} (S : α0 -> α1 -> St) (p : α0 -> α1 -> Prop) (μ : α0 -> α1 -> Nat) (z0 : α0) (z1 : α1) (hs : st.to (S z0 z1)) (hp : p z0 z1)
    (h : ∀ x0 x1, p x0 x1 -> W P T c (S x0 x1) (thenA (fun s => ∃ (_ : Unit) (y0 : α0) (y1 : α1), (p y0 y1 /\ μ y0 y1 < μ x0 x1) /\ s.to (S y0 y1)) Q)) : W P T (.loop c) st Q :=
  W.loopT (α := α0 × α1) (fun x => S x.1 x.2) (fun x => p x.1 x.2) (fun x => μ x.1 x.2) (z0, z1) hs hp fun x hx => (h x.1 x.2 hx).mono fun e s hs' => by
    cases e <;> simp only [thenA] at hs' ⊢ <;> try exact hs'
    obtain ⟨_, y0, y1, h1, h2⟩ := hs'
    exact ⟨(y0, y1), h1, h2⟩
theorem W.mid3 {α0 α1 α2 : Type} (S : α0 -> α1 -> α2 -> St) (p : α0 -> α1 -> α2 -> Prop) (h' : ∀ x0 x1 x2, p x0 x1 x2 -> W P T c' (S x0 x1 x2) Q) (h : W P T c st (thenA (fun s => ∃ (_ : Unit) (x0 : α0) (x1 : α1) (x2 : α2), p x0 x1 x2 /\ s.to (S x0 x1 x2)) Q)) : W P T (.seq c c') st Q :=
  W.seq _ h fun _ ⟨_, x0, x1, x2, hx, hs⟩ => W.to hs (h' x0 x1 x2 hx)
theorem W.loop3 {α0 α1 α2 : Type} (S : α0 -> α1 -> α2 -> St) (p : α0 -> α1 -> α2 -> Prop) (μ : α0 -> α1 -> α2 -> Nat) (z0 : α0) (z1 : α1) (z2 : α2) (hs : st.to (S z0 z1 z2)) (hp : p z0 z1 z2)
    (h : ∀ x0 x1 x2, p x0 x1 x2 -> W P T c (S x0 x1 x2) (thenA (fun s => ∃ (_ : Unit) (y0 : α0) (y1 : α1) (y2 : α2), (p y0 y1 y2 /\ μ y0 y1 y2 < μ x0 x1 x2) /\ s.to (S y0 y1 y2)) Q)) : W P T (.loop c) st Q :=
  W.loopT (α := α0 × α1 × α2) (fun x => S x.1 x.2.1 x.2.2) (fun x => p x.1 x.2.1 x.2.2) (fun x => μ x.1 x.2.1 x.2.2) (z0, z1, z2) hs hp fun x hx => (h x.1 x.2.1 x.2.2 hx).mono fun e s hs' => by
    cases e <;> simp only [thenA] at hs' ⊢ <;> try exact hs'
    obtain ⟨_, y0, y1, y2, h1, h2⟩ := hs'
    exact ⟨(y0, y1, y2), h1, h2⟩
theorem W.mid4 {α0 α1 α2 α3 : Type} (S : α0 -> α1 -> α2 -> α3 -> St) (p : α0 -> α1 -> α2 -> α3 -> Prop) (h' : ∀ x0 x1 x2 x3, p x0 x1 x2 x3 -> W P T c' (S x0 x1 x2 x3) Q) (h : W P T c st (thenA (fun s => ∃ (_ : Unit) (x0 : α0) (x1 : α1) (x2 : α2) (x3 : α3), p x0 x1 x2 x3 /\ s.to (S x0 x1 x2 x3)) Q)) : W P T (.seq c c') st Q :=
  W.seq _ h fun _ ⟨_, x0, x1, x2, x3, hx, hs⟩ => W.to hs (h' x0 x1 x2 x3 hx)
theorem W.loop4 {α0 α1 α2 α3 : Type} (S : α0 -> α1 -> α2 -> α3 -> St) (p : α0 -> α1 -> α2 -> α3 -> Prop) (μ : α0 -> α1 -> α2 -> α3 -> Nat) (z0 : α0) (z1 : α1) (z2 : α2) (z3 : α3) (hs : st.to (S z0 z1 z2 z3)) (hp : p z0 z1 z2 z3)
    (h : ∀ x0 x1 x2 x3, p x0 x1 x2 x3 -> W P T c (S x0 x1 x2 x3) (thenA (fun s => ∃ (_ : Unit) (y0 : α0) (y1 : α1) (y2 : α2) (y3 : α3), (p y0 y1 y2 y3 /\ μ y0 y1 y2 y3 < μ x0 x1 x2 x3) /\ s.to (S y0 y1 y2 y3)) Q)) : W P T (.loop c) st Q :=
  W.loopT (α := α0 × α1 × α2 × α3) (fun x => S x.1 x.2.1 x.2.2.1 x.2.2.2) (fun x => p x.1 x.2.1 x.2.2.1 x.2.2.2) (fun x => μ x.1 x.2.1 x.2.2.1 x.2.2.2) (z0, z1, z2, z3) hs hp fun x hx => (h x.1 x.2.1 x.2.2.1 x.2.2.2 hx).mono fun e s hs' => by
    cases e <;> simp only [thenA] at hs' ⊢ <;> try exact hs'
    obtain ⟨_, y0, y1, y2, y3, h1, h2⟩ := hs'
    exact ⟨(y0, y1, y2, y3), h1, h2⟩
theorem W.loop5 {α0 α1 α2 α3 α4 : Type} (S : α0 -> α1 -> α2 -> α3 -> α4 -> St) (p : α0 -> α1 -> α2 -> α3 -> α4 -> Prop) (μ : α0 -> α1 -> α2 -> α3 -> α4 -> Nat) (z0 : α0) (z1 : α1) (z2 : α2) (z3 : α3) (z4 : α4) (hs : st.to (S z0 z1 z2 z3 z4)) (hp : p z0 z1 z2 z3 z4)
    (h : ∀ x0 x1 x2 x3 x4, p x0 x1 x2 x3 x4 -> W P T c (S x0 x1 x2 x3 x4) (thenA (fun s => ∃ (_ : Unit) (y0 : α0) (y1 : α1) (y2 : α2) (y3 : α3) (y4 : α4), (p y0 y1 y2 y3 y4 /\ μ y0 y1 y2 y3 y4 < μ x0 x1 x2 x3 x4) /\ s.to (S y0 y1 y2 y3 y4)) Q)) : W P T (.loop c) st Q :=
  W.loopT (α := α0 × α1 × α2 × α3 × α4) (fun x => S x.1 x.2.1 x.2.2.1 x.2.2.2.1 x.2.2.2.2) (fun x => p x.1 x.2.1 x.2.2.1 x.2.2.2.1 x.2.2.2.2) (fun x => μ x.1 x.2.1 x.2.2.1 x.2.2.2.1 x.2.2.2.2) (z0, z1, z2, z3, z4) hs hp fun x hx => (h x.1 x.2.1 x.2.2.1 x.2.2.2.1 x.2.2.2.2 hx).mono fun e s hs' => by
    cases e <;> simp only [thenA] at hs' ⊢ <;> try exact hs'
    obtain ⟨_, y0, y1, y2, y3, y4, h1, h2⟩ := hs'
    exact ⟨(y0, y1, y2, y3, y4), h1, h2⟩
theorem W.loop6 {α0 α1 α2 α3 α4 α5 : Type} (S : α0 -> α1 -> α2 -> α3 -> α4 -> α5 -> St) (p : α0 -> α1 -> α2 -> α3 -> α4 -> α5 -> Prop) (μ : α0 -> α1 -> α2 -> α3 -> α4 -> α5 -> Nat) (z0 : α0) (z1 : α1) (z2 : α2) (z3 : α3) (z4 : α4) (z5 : α5) (hs : st.to (S z0 z1 z2 z3 z4 z5)) (hp : p z0 z1 z2 z3 z4 z5)
    (h : ∀ x0 x1 x2 x3 x4 x5, p x0 x1 x2 x3 x4 x5 -> W P T c (S x0 x1 x2 x3 x4 x5) (thenA (fun s => ∃ (_ : Unit) (y0 : α0) (y1 : α1) (y2 : α2) (y3 : α3) (y4 : α4) (y5 : α5), (p y0 y1 y2 y3 y4 y5 /\ μ y0 y1 y2 y3 y4 y5 < μ x0 x1 x2 x3 x4 x5) /\ s.to (S y0 y1 y2 y3 y4 y5)) Q)) : W P T (.loop c) st Q :=
  W.loopT (α := α0 × α1 × α2 × α3 × α4 × α5) (fun x => S x.1 x.2.1 x.2.2.1 x.2.2.2.1 x.2.2.2.2.1 x.2.2.2.2.2) (fun x => p x.1 x.2.1 x.2.2.1 x.2.2.2.1 x.2.2.2.2.1 x.2.2.2.2.2) (fun x => μ x.1 x.2.1 x.2.2.1 x.2.2.2.1 x.2.2.2.2.1 x.2.2.2.2.2) (z0, z1, z2, z3, z4, z5) hs hp fun x hx => (h x.1 x.2.1 x.2.2.1 x.2.2.2.1 x.2.2.2.2.1 x.2.2.2.2.2 hx).mono fun e s hs' => by
    cases e <;> simp only [thenA] at hs' ⊢ <;> try exact hs'
    obtain ⟨_, y0, y1, y2, y3, y4, y5, h1, h2⟩ := hs'
    exact ⟨(y0, y1, y2, y3, y4, y5), h1, h2⟩
end
end Go.Lat
namespace Go.Lat
open Go.RowKit
theorem stepR_scope' {P : Program} {b : Frame} {a : Act} {k : List Item} {cs : List Frame} {w : World} {c : Code} : step P (lone (b.atR a (.code (.scope c) :: k)) cs w) = .next (lone (b.atR a (.code c :: .inScope c :: k)) cs w) :=
  step_lone_go (by simp [Go.stepG, Go.stepG.exec, Frame.atR])
theorem stepR_inScope' {P : Program} {b : Frame} {a : Act} {k : List Item} {cs : List Frame} {w : World} {c : Code} : step P (lone (b.atR a (.inScope c :: k)) cs w) = .next (lone (b.atR a k) cs w) :=
  step_lone_go (by simp [Go.stepG, Go.stepG.exec, Frame.atR])
theorem W.scope {P : Program} {T : TT} {st : St} {Q : Ex -> St -> Prop} {c : Code} (h : W P T c st Q) : W P T (.scope c) st Q := fun hT hf ro hng n X D w0 mA r m a w hR => by
  intro b k cs hro hb hr
  have h0 : (lone (b.atR a (.code (.scope c) :: k)) cs w).fenced P (FW ro) := fenced_calm hb hr rfl
  obtain ⟨e, a1, w1, hq, harr⟩ := h hT hf ro hng n X D w0 mA r m a w hR b (.inScope c :: k) cs hro hb hr
  cases e with
  | normal => exact ⟨.normal, a1, w1, hq, .head h0 stepR_scope' (StepsIn.trans harr (.one (fenced_calm hb hr rfl) stepR_inScope'))⟩
  | exit id =>
    have hx : exitTo id (.inScope c :: k) = exitTo id k := by simp [exitTo]
    exact ⟨.exit id, a1, w1, hq, fun k' hk => .head h0 stepR_scope' (harr.1 k' (by rw [hx]; exact hk)), fun hr' hk => let ⟨k1, h1, h2⟩ := harr.2 hr' (by rw [hx]; exact hk); ⟨k1, h1, .head h0 stepR_scope' h2⟩⟩
  | goto l => exact hq.elim
  | ret => exact ⟨_, a1, w1, hq, .of_steps (.one h0 stepR_scope') harr⟩
  | panic ch => exact ⟨_, a1, w1, hq, .of_steps (.one h0 stepR_scope') harr⟩
  | outgrown => exact ⟨_, a1, w1, hq, .of_steps (.one h0 stepR_scope') harr⟩
section
variable {P : Program} {T : TT} {d : Option Tmp} {ty : TypeId} {pos : String} {af : Array Edge} {g : Option (Nat × Bool)} {n : Nat} {l : List (Nat × AV)} {h : List AObj} {b : Nat} {K : AV -> List AObj -> Prop} {a a2 a3 : Operand}
theorem cell_of {X : Option (List AV)} {cs ds : List AV} {v : AV} (hc : ∃ rest, X = some (cs ++ rest)) (h1 : cs = v :: ds) : ∃ rest, X = some (v :: rest) := by
  obtain ⟨rest, hc⟩ := hc
  subst h1
  exact ⟨ds ++ rest, hc⟩
theorem row_in {α : Type} {e : α -> List AV} {sz : Nat} (hw : Wd e sz) {xs : List α} {i : Int} (hj : 0 <= i /\ i < (xs.length : Int)) {vs : List AV} (hv : vs.length = sz) : i.toNat * sz + vs.length <= (zYy e xs).length := by
  rw [zYw hw, hv]
  have hj' : i.toNat < xs.length := by omega
  have := Nat.mul_le_mul_right sz hj'
  rw [Nat.succ_mul] at this
  exact this
theorem spl_all (cs vs : List AV) (h1 : vs.length = cs.length) : Lat.spl cs 0 vs = vs := by
  rw [Lat.spl_eq _ _ _ (by omega)]
  simp [h1]
def vput {n : Nat} (M : Vector Int n) (off : Nat) (xs : List Int) : Vector Int n :=
  if h : off + xs.length <= n then ⟨(M.toList.take off ++ xs ++ M.toList.drop (off + xs.length)).toArray, by simp; omega⟩ else M
theorem o_iaPV {t e : TypeId} {s by_ eb k : Nat} {z ez : List AV} {ek : TK} {M : Vector Int k} {fl : Bool} {rest : List AV} (ht : T t = some ⟨.ar k e, s, by_, z⟩) (he : T e = some ⟨ek, 1, eb, ez⟩)
    (h1 : St.eval ⟨n, look l, h, b⟩ a = .ipt fl (zYy zYx M.toList ++ rest)) {ik : IntKind} {i : Int} (h2 : St.eval ⟨n, look l, h, b⟩ a2 = .int ik i) (hj : 0 <= i /\ i < (k : Int))
    (hk : ∀ rest, K (.ipt fl (.int .i64 (vat M i.toNat) :: rest)) h) : opC P T ⟨d, .indexAddr t a a2, ty, pos, af, g⟩ ⟨n, look l, h, b⟩ K := by
  show indexAddrA T t (St.eval ⟨n, look l, h, b⟩ a) (St.eval ⟨n, look l, h, b⟩ a2) (fun v => K v h)
  rw [h1, h2]; simp only [indexAddrA, ht, he]
  refine ⟨hj, ?_⟩
  obtain ⟨r2, hr⟩ := ints_at M i.toNat (by omega)
  rw [Nat.mul_one, List.drop_append_of_le_length (by rw [zX]; omega), hr]
  exact hk _
theorem o_bs1 {t e i : TypeId} {s by_ es eb q : Nat} {z ez : List AV} {ek : TK} {v : AV} {cs cs2 : List AV} (ht : T t = some ⟨.sl e, s, by_, z⟩) (he : T e = some ⟨ek, es, eb, ez⟩) (hb : (Nat.ble 1 es && Nat.ble es 256) = true)
    (h1 : St.eval ⟨n, look l, h, b⟩ a = v) (hc : v.cells = some cs) (hl : cs.length = es) (hz : ez.length = es) (hq : h.length = q) (_hi : i = 0) (hcs : cs = cs2) (hk : K (.ref false q 1) (h ++ [.row e es cs2])) : opC P T ⟨d, .buildSlice t 1 #[(i, a)], ty, pos, af, g⟩ ⟨n, look l, h, b⟩ K := by
  subst _hi; subst hcs
  show buildSliceA T h t 1 [((0 : Nat), St.eval ⟨n, look l, h, b⟩ a)] K
  subst hq
  simp only [Bool.and_eq_true] at hb
  rw [h1]; simp only [buildSliceA, ht, he]
  have hpos := Nat.le_of_ble_eq_true hb.1
  refine ⟨⟨by omega, hpos, Nat.le_of_ble_eq_true hb.2⟩, ?_⟩
  have hzl : (zerosA 1 es ez).length = es := by simp [zerosA]
  simp only [fillP, hc]
  refine ⟨hl, by rw [hzl]; omega, ?_⟩
  rw [Nat.zero_mul, spl_all _ _ (by rw [hl, hzl])]
  exact hk
theorem callH_C1 {k : FuncId} {args xs : List AV} {o : AObj} (hf : FnH P k [] xs (fun x H' => ∃ l, H' = o :: l /\ x = .chn 0)) (hw : Wks (args.map (conv 6 h)) xs) (hfl : flatC o) (hp : h.length = n)
    (hk : K (.chn n) (h ++ [o])) : callH P h (.clo k [] []) args K := by
  subst hp
  refine .inr (.inr (.inr ⟨fun o' => o' = o, ⟨hf.1, fun mA w r0 vs h1 h2 h3 h4 h5 h6 h7 => (hf.2 mA w r0 vs h1 h2 h3 h4 h5 h6 ?_).mono ?_⟩, ?_⟩))
  . have : r0 = [] := List.eq_nil_of_length_eq_zero h3
    subst this
    exact hw _ _ _ (Low.nest mA) h7
  . rintro e w' ⟨v, x, r', m', H', a', h8, ⟨l, h9, h10⟩, h11⟩
    exact ⟨v, x, r', m', H', a', h8, ⟨o, l, h9, h10, hfl, rfl⟩, h11⟩
  . rintro _ rfl; exact hk
end
theorem FnH.mono {P : Program} {f : FuncId} {H : List AObj} {args : List AV} {A B : AV -> List AObj -> Prop} (h : FnH P f H args A) (hab : ∀ x l, A x l -> B x l) : FnH P f H args B :=
  ⟨h.1, fun mA w r0 vs h1 h2 h3 h4 h5 h6 h7 => (h.2 mA w r0 vs h1 h2 h3 h4 h5 h6 h7).mono fun _ _ ⟨v, x, r', m', H', a', e1, e2, e3⟩ => ⟨v, x, r', m', H', a', e1, hab _ _ e2, e3⟩⟩
def pickL (ol : List Oper) : List Nat -> List Oper
  | [] => []
  | i :: l => match ol[i]? with
    | some o => o :: pickL ol l
    | none => pickL ol l
def allIn (ol : List Oper) (ord : List Nat) : Bool := ord.all fun i => Nat.blt i ol.length
theorem pickL_spec {ol : List Oper} : ∀ {ord : List Nat}, allIn ol ord = true -> (ord.map fun i => ol[i]?) = (pickL ol ord).map some
  | [], _ => rfl
  | i :: l, h => by
    simp only [allIn, List.all_cons, Bool.and_eq_true] at h
    have hi : i < ol.length := Nat.le_of_ble_eq_true h.1
    simp only [List.map_cons, pickL, List.getElem?_eq_getElem hi]
    rw [pickL_spec (ord := l) h.2]
theorem W.rP {P : Program} {T : TT} {st : St} {Q : Ex -> St -> Prop} {c : Code} {id : Nat} {ol : List Oper} (ord : List Nat) (hc : chk ol.toArray ord = true) (hl : allIn ol ord = true) (h1 : seqL P T ol [] 0 (pickL ol ord) st fun s => W P T c s Q) : W P T (.seq (.region id ol.toArray true) c) st Q :=
  W.rO ord _ hc (pickL_spec hl) h1
theorem W.rP1 {P : Program} {T : TT} {st : St} {Q : Ex -> St -> Prop} {id : Nat} {ol : List Oper} (ord : List Nat) (hc : chk ol.toArray ord = true) (hl : allIn ol ord = true) (h1 : seqL P T ol [] 0 (pickL ol ord) st (Q .nrm)) : W P T (.region id ol.toArray true) st Q :=
  W.rO1 ord _ hc (pickL_spec hl) h1
theorem W.rPm {P : Program} {T : TT} {st : St} {Q : Ex -> St -> Prop} {c : Code} {id : Nat} {ol : List Oper} (st' : St) (ord : List Nat) (hc : chk ol.toArray ord = true) (hl : allIn ol ord = true) (h1 : seqL P T ol [] 0 (pickL ol ord) st fun s => s.le st') (h2 : W P T c st' Q) : W P T (.seq (.region id ol.toArray true) c) st Q :=
  W.seq (fun s => s.le st') (W.rP1 ord hc hl h1) fun _ h => W.le h h2
theorem Ren.refL {φ : List (Option Nat)} {nb nb' : Bool} {id j n n' : Nat} (hφ : φ[j]? = some (some id)) (hb : nb' = true -> nb = true) (hn : n = n') : Ren φ (.ref nb id n) (.ref nb' j n') := by
  subst hn; exact Ren.ref hφ hb
theorem Ren.boolE {φ : List (Option Nat)} {a b : Bool} (h : b = a) : Ren φ (.bool a) (.bool b) := by subst h; exact Ren.bool _
theorem W.rLmT {P : Program} {T : TT} {st : St} {Q : Ex -> St -> Prop} {c : Code} {id : Nat} {ol : List Oper} (st' : St) (h1 : seqL P T ol [] 0 ol st fun s => s.to st') (h2 : W P T c st' Q) : W P T (.seq (.region id ol.toArray false) c) st Q := W.seq _ (W.region [] h1) fun _ h => W.to h h2
theorem W.rPmT {P : Program} {T : TT} {st : St} {Q : Ex -> St -> Prop} {c : Code} {id : Nat} {ol : List Oper} (st' : St) (ord : List Nat) (hc : chk ol.toArray ord = true) (hl : allIn ol ord = true) (h1 : seqL P T ol [] 0 (pickL ol ord) st fun s => s.to st') (h2 : W P T c st' Q) : W P T (.seq (.region id ol.toArray true) c) st Q :=
  W.seq (fun s => s.to st') (W.rP1 ord hc hl h1) fun _ h => W.to h h2
theorem St.le_to {s s' s'' : St} (hl : s.le s') (h : s'.to s'') : s.to s'' := by
  obtain ⟨φ, l, h1, h2, h3, h4, h5, h6, h7⟩ := h
  obtain ⟨e1, e2, e3, e4⟩ := hl
  refine ⟨φ, l, h1.trans e1, h2.trans e3, h3, h4, by rw [<- e2, <- e3]; exact h5, ?_, by rw [<- e2]; exact h7⟩
  clear h3
  induction l with
  | nil => trivial
  | cons p l ih =>
    obtain ⟨t, v⟩ := p
    refine ⟨?_, ih h6.2⟩
    rcases e4 t with e | e
    . have h8 := h6.1
      rw [e] at h8
      exact fun r m u hm _ => h8 r m u hm (by simp only [VR])
    . rw [<- e]; exact h6.1
theorem W.rLm1 {P : Program} {T : TT} {st : St} {Q : Ex -> St -> Prop} {id : Nat} {ol : List Oper} (st' : St) (hd : ∀ s, s.le st' -> Q .nrm st' -> Q .nrm s) (h1 : seqL P T ol [] 0 ol st fun s => s.le st') (h2 : Q .nrm st') : W P T (.region id ol.toArray false) st Q :=
  (W.region (Q := thenA (fun s => s.le st') Q) [] h1).mono fun e s hs => by
    cases e <;> first | exact hd s hs h2 | exact hs
theorem encL_co {α : Type} {ef : Bool -> α -> List AV} {sz : Nat} (he : Enc ef sz) (k : Nat) (h : List AObj) : ∀ xs, Wks ((zYy (ef false) xs).map (cvO (k + 1) h)) (zYy (ef false) xs)
  | [] => Wks.refl _
  | x :: xs => by
    rw [encL_cons, List.map_append]
    exact Wks.app (he.co k h x) (encL_co he k h xs) (by rw [List.length_map])
theorem agI_int (k : Nat) (h : List AObj) (q : IntKind) (x : Int) : Wk (cvI k h (.int q x)) (.int q x) := by rw [cvI_int]; exact Wk.refl _
theorem agI_lst (k : Nat) (h : List AObj) (m : Nat) (cs : List AV) : Wk (cvI k h (.lst false m cs)) (.lst true m cs) := by rw [cvI_lst]; exact Wk.refl _
end Go.Lat
