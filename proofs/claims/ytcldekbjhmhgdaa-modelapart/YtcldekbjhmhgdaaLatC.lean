/- The law latecomerlaw23.ModelApart returns true for every input, and each argument reads afterwards as it read before. Part 3 of 14. No condition. -/
import Derived.Test.YtcldekbjhmhgdaaLatB
import Derived.WalkKit
import Derived.ProofKit
import Derived.OpenShut
import Derived.ShutString
import Derived.ChangeOld
import Derived.Below
import Derived.Deep.Slices
set_option linter.unusedVariables false
set_option linter.unusedSimpArgs false
set_option linter.unnecessarySimpa false
namespace Go.Lat
open Go.RowKit

mutual
def okV (n : Nat) : AV -> Prop
  | .agg cs => okVs n cs
  | .tup cs => okVs n cs
  | .ref _ id _ => id < n
  | .sub id _ _ => id < n
  | .ptr id _ => id < n
  | .chn id => id < n
  | .cut _ id _ _ _ _ => id < n \/ True
  | .clo _ a b => okVs n a /\ okVs n b
  | _ => True
def okVs (n : Nat) : List AV -> Prop
  | [] => True
  | x :: l => okV n x /\ okVs n l
end
theorem okVs_mem {n : Nat} : ∀ {l : List AV}, okVs n l -> ∀ x ∈ l, okV n x
  | [], _, x, hx => by cases hx
  | y :: l, h, x, hx => by
    simp only [okVs] at h
    rcases List.mem_cons.1 hx with rfl | hx
    . exact h.1
    . exact okVs_mem h.2 x hx
theorem okVs_of {n : Nat} : ∀ {l : List AV}, (∀ x ∈ l, okV n x) -> okVs n l
  | [], _ => by simp only [okVs]
  | y :: l, h => by simp only [okVs]; exact ⟨h y (by simp), okVs_of fun x hx => h x (by simp [hx])⟩

mutual
theorem okV_of_VR {r : Rho} {m : MM} : ∀ (x : AV) (v : Value), VR r m x v -> okV r.length x
  | .agg cs, v, h => by
    simp only [VR] at h; simp only [okV]
    obtain ⟨arr, _, _, h2⟩ := h
    exact okVs_of_VRs cs _ h2
  | .tup cs, v, h => by
    simp only [VR] at h; simp only [okV]
    obtain ⟨arr, _, h2⟩ := h
    exact okVs_of_VRs cs _ h2
  | .ref nb id n, v, h => by
    simp only [VR] at h; simp only [okV]
    rcases h with ⟨_, ⟨_, hb⟩, _⟩ | ⟨_, b, c, hb, _⟩
    . exact (List.getElem?_eq_some_iff.1 hb).1
    . exact (List.getElem?_eq_some_iff.1 hb).1
  | .sub id o n, v, h => by
    simp only [VR] at h; simp only [okV]
    obtain ⟨b, c, _, _, hb, _⟩ := h
    exact (List.getElem?_eq_some_iff.1 hb).1
  | .ptr id o, v, h => by
    simp only [VR] at h; simp only [okV]
    obtain ⟨b, c, hb, _⟩ := h
    exact (List.getElem?_eq_some_iff.1 hb).1
  | .chn id, v, h => by
    simp only [VR] at h; simp only [okV]
    obtain ⟨b, c, hb, _⟩ := h
    exact (List.getElem?_eq_some_iff.1 hb).1
  | .clo f a b, v, h => by
    simp only [VR] at h; simp only [okV]
    obtain ⟨x, y, _, h1, h2⟩ := h
    exact ⟨okVs_of_VRs a _ h1, okVs_of_VRs b _ h2⟩
  | .int _ _, _, _ => by simp only [okV]
  | .bool _, _, _ => by simp only [okV]
  | .nilS, _, _ => by simp only [okV]
  | .nilP, _, _ => by simp only [okV]
  | .nilF, _, _ => by simp only [okV]
  | .lst _ _ _, _, _ => by simp only [okV]
  | .ipt _ _, _, _ => by simp only [okV]
  | .yl _, _, _ => by simp only [okV]
  | .gh _, _, _ => by simp only [okV]
  | .cut _ _ _ _ _ _, _, _ => by simp only [okV, or_true]
  | .any, _, _ => by simp only [okV]
theorem okVs_of_VRs {r : Rho} {m : MM} : ∀ (xs : List AV) (vs : List Value), VRs r m xs vs -> okVs r.length xs
  | [], _, _ => by simp only [okVs]
  | x :: xs, vs, h => by
    simp only [VRs] at h; simp only [okVs]
    obtain ⟨v, vs', _, h1, h2⟩ := h
    exact ⟨okV_of_VR x v h1, okVs_of_VRs xs vs' h2⟩
end

def okO (n : Nat) : AObj -> Prop
  | .row _ _ cs => okVs n cs
  | .box _ cs => okVs n cs
  | .chan _ _ buf => okVs n buf
  | .dead => True
structure Wf (s : St) : Prop where
  tm : ∀ t, okV s.heap.length (s.tm t)
  obj : ∀ (i : Nat) o, s.heap[i]? = some o -> okO s.heap.length o

theorem R.wf {X : Nat -> Prop} {D : List Deferred × Rho} {w0 : World} {mA : Mem} {r : Rho} {m : MM} {st : St} {a : Act} {w : World} (h : R X D w0 mA r m st a w) : Wf st where
  tm t := by rw [<- h.len]; exact okV_of_VR _ _ (h.tmps t)
  obj i o ho := by
    rw [<- h.len]
    have := h.obj i o ho
    cases o with
    | row t sz cs =>
      rcases this with rfl | ⟨b, c, cur, h1, h2, h0, h3, h4, h5, h6⟩
      . simp only [okO, okVs]
      . exact okVs_of_VRs cs _ h6
    | box t cs => obtain ⟨b, c, cur, h1, h2, h0, h6⟩ := this; exact okVs_of_VRs cs _ h6
    | chan cap cl buf => obtain ⟨b, c, bv, s, rc, h1, h2, h6⟩ := this; exact okVs_of_VRs buf _ h6
    | dead => trivial

theorem conv_app {h l : List AObj} (hh : ∀ (i : Nat) o, h[i]? = some o -> okO h.length o) : ∀ (k : Nat) (x : AV), okV h.length x -> conv k (h ++ l) x = conv k h x
  | 0, x, _ => by cases x <;> rfl
  | k + 1, x, hx => by
    have ih : ∀ {cs : List AV}, okVs h.length cs -> cs.map (conv k (h ++ l)) = cs.map (conv k h) := fun hcs => List.map_congr_left fun y hy => conv_app hh k y (okVs_mem hcs y hy)
    have mem : ∀ {id : Nat} {t : TypeId} {sz : Nat} {cs : List AV}, h[id]? = some (.row t sz cs) -> okVs h.length cs := fun ho => hh _ _ ho
    have mem2 : ∀ {id : Nat} {t : TypeId} {cs : List AV}, h[id]? = some (.box t cs) -> okVs h.length cs := fun ho => hh _ _ ho
    have sub : ∀ {cs cs' : List AV}, okVs h.length cs -> (∀ y ∈ cs', y ∈ cs) -> okVs h.length cs' := fun hcs hs => okVs_of fun y hy => okVs_mem hcs y (hs y hy)
    cases x <;> simp only [okV] at hx <;> try rfl
    case agg cs => simp only [conv, ih hx]
    case tup cs => simp only [conv, ih hx]
    case clo f a b => simp only [conv, ih hx.1, ih hx.2]
    case ref nb id n =>
      simp only [conv, List.getElem?_append_left hx]
      split
      . rename_i ho
        rw [ih (sub (mem ho) fun y hy => List.mem_of_mem_take hy)]
      . rfl
    case sub id off n =>
      simp only [conv, List.getElem?_append_left hx]
      split
      . rename_i ho
        rw [ih (sub (mem ho) fun y hy => List.mem_of_mem_drop hy)]
      . rename_i ho
        rw [ih (sub (mem2 ho) fun y hy => List.mem_of_mem_drop hy)]
      . rfl
    case ptr id off =>
      simp only [conv, List.getElem?_append_left hx]
      split
      . rename_i ho
        rw [ih (sub (mem ho) fun y hy => List.mem_of_mem_drop hy)]
      . rename_i ho
        rw [ih (sub (mem2 ho) fun y hy => List.mem_of_mem_drop hy)]
      . rfl

section
variable {P : Program} {T : TT} {ops : Array Oper} {o : Oper} {st st' : St} {K K' : St -> Prop}

theorem out_call (hp : Op.isCall o.op = true) (h : stepG P T ops.toList o st K) {st' : St} {K' : St -> Prop} (ha : Agr (o.looksAt ops) st st')
    (hc : ∀ x ∈ o.op.operands, ∀ f a b, st.eval x = .clo f a b -> (a ++ b).map (conv 6 st'.heap) = (a ++ b).map (conv 6 st.heap)) (hc2 : ∀ x ∈ o.op.operands, conv 6 st'.heap (st.eval x) = conv 6 st.heap (st.eval x))
    (hk : ∀ v, K (st.put o.dst v) -> K' (st'.put o.dst v)) : stepG P T ops.toList o st' K' := by
  rcases stepG_cases h with ⟨h1, h2⟩ | ⟨h1, h2⟩
  . refine h2 st' K' ha ?_
    have he := ha.eval
    revert hp h1 hc hc2 he
    unfold opC
    generalize o.op = op
    intro hp hc hc2 h1 he
    cases op <;> try (cases hp; done)
    rename_i c
    obtain ⟨cal, args, tys⟩ := c
    cases cal <;> try (cases hp; done)
    rename_i f
    simp only at h1 ⊢
    unfold callR at h1 ⊢
    simp only at h1 ⊢
    have hf : f ∈ (Op.call ⟨.value f, args, tys⟩).operands := by simp [Op.operands, Call.operands]
    have hm : ∀ x ∈ args, x ∈ (Op.call ⟨.value f, args, tys⟩).operands := fun x hx => by simp [Op.operands, Call.operands, hx]
    rw [he f hf]
    split at h1 <;> try exact h1.elim
    rename_i k fst caps hfv
    have e0 : args.toList.map st'.eval = args.toList.map st.eval := List.map_congr_left fun x hx => he x (hm x (by simpa using hx))
    have e1 := hc f hf k fst caps hfv
    simp only [List.map_append] at e1
    have e2 : ((args.toList.map st.eval).map (conv 6 st'.heap)) = ((args.toList.map st.eval).map (conv 6 st.heap)) := by
      rw [List.map_map, List.map_map]
      exact List.map_congr_left fun x hx => hc2 x (hm x (by simpa using hx))
    have hlen : (fst.map (conv 6 st'.heap)).length = (fst.map (conv 6 st.heap)).length := by simp
    obtain ⟨e3, e4⟩ := List.append_inj e1 hlen
    rw [e0]
    rcases h1 with ⟨Post, h3, h4⟩ | ⟨Post, h3, h4⟩
    . refine .inl ⟨Post, ?_, fun x hx => hk x (h4 x hx)⟩
      simp only [List.map_append] at h3 ⊢
      rw [e2, e3, e4]
      exact h3
    . exact .inr ⟨Post, h3, fun x hx => hk x (h4 x hx)⟩
  . exact h2 st' K' ha (hk _ h1)

def Op.cls (o : Op) : Nat := if Op.pureO o then 0 else if Op.isLoad o then 1 else if Op.isExt o then 2 else if Op.isApp o then 3 else if Op.isCall o then 4 else if Op.isStore o then 6 else 5
def clsOk (j i : Nat) : Bool :=
  match i with
  | 0 => j <= 3 || j == 6
  | 1 => j <= 3
  | 2 => j <= 1
  | 3 => j == 0
  | 4 => j <= 2
  | 6 => j == 0
  | _ => false
def okP (ops : Array Oper) (j i : Nat) : Bool :=
  match ops[j]?, ops[i]? with
  | some oj, some oi => oi.apart ops oj && clsOk (Op.cls oj.op) (Op.cls oi.op)
  | _, _ => false

theorem putT_comm {s : Nat -> AV} {d e : Nat} {v u : AV} (h : d ≠ e) : putT (putT s d v) e u = putT (putT s e u) d v := by
  funext t
  simp only [putT]
  by_cases h1 : t = e <;> by_cases h2 : t = d <;> simp_all
theorem put_comm {s : St} {d e : Option Tmp} {v u : AV} (h : ∀ x, d = some x -> e ≠ some x) : (s.put d v).put e u = (s.put e u).put d v := by
  cases d with
  | none => rfl
  | some d => cases e with
    | none => rfl
    | some e =>
      have hne : d ≠ e := fun hh => h d rfl (by rw [hh])
      simp only [St.put]
      by_cases h1 : d < s.nt <;> by_cases h2 : e < s.nt <;> simp [h1, h2, putT_comm hne]
theorem put_heap {s : St} {d : Option Tmp} {v : AV} : (s.put d v).heap = s.heap := by
  cases d with
  | none => rfl
  | some d => simp only [St.put]; split <;> rfl
theorem put_nt {s : St} {d : Option Tmp} {v : AV} : (s.put d v).nt = s.nt := by
  cases d with
  | none => rfl
  | some d => simp only [St.put]; split <;> rfl
theorem put_with {s : St} {d : Option Tmp} {v : AV} {h : List AObj} : ({ s with heap := h } : St).put d v = { s.put d v with heap := h } := by
  cases d with
  | none => rfl
  | some d => simp only [St.put]; split <;> rfl
theorem put_tm {s : St} {d : Option Tmp} {v : AV} {t : Nat} (h : d ≠ some t) : (s.put d v).tm t = s.tm t := by
  cases d with
  | none => rfl
  | some d =>
    have : t ≠ d := fun hh => h (by rw [hh])
    simp only [St.put]; split <;> simp [putT, this]
theorem Agr.put {l : List Tmp} {s : St} {d : Option Tmp} {v : AV} {h : List AObj} (hd : ∀ x, d = some x -> x ∉ l) : Agr l s { s.put d v with heap := h } :=
  ⟨put_nt, fun t ht => put_tm fun hh => hd t hh ht⟩
theorem Agr.symm {l : List Tmp} {s s' : St} (h : Agr l s s') : Agr l s' s := ⟨h.1.symm, fun t ht => (h.2 t ht).symm⟩
theorem Agr.trans {l : List Tmp} {s s' s'' : St} (h : Agr l s s') (h' : Agr l s' s'') : Agr l s s'' := ⟨h'.1.trans h.1, fun t ht => (h'.2 t ht).trans (h.2 t ht)⟩

structure Inv (ops : Array Oper) (oi : Oper) (st0 st : St) : Prop where
  agr : Agr (oi.looksAt ops) st0 st
  len : st0.heap.length <= st.heap.length
  ext : Op.cls oi.op = 4 -> ∃ l, st.heap = st0.heap ++ l

theorem cls_split (o : Op) : (Op.pureO o = true /\ Op.cls o = 0) \/ (Op.isLoad o = true /\ Op.cls o = 1) \/ (Op.isExt o = true /\ Op.cls o = 2) \/ (Op.isApp o = true /\ Op.cls o = 3) \/ (Op.isCall o = true /\ Op.cls o = 4) \/ (Op.isStore o = true /\ Op.cls o = 6) \/ Op.cls o = 5 := by
  unfold Op.cls
  by_cases h0 : Op.pureO o = true
  . simp [h0]
  . by_cases h1 : Op.isLoad o = true
    . simp [h0, h1]
    . by_cases h2 : Op.isExt o = true
      . simp [h0, h1, h2]
      . by_cases h3 : Op.isApp o = true
        . simp [h0, h1, h2, h3]
        . by_cases h4 : Op.isCall o = true
          . simp [h0, h1, h2, h3, h4]
          . by_cases h5 : Op.isStore o = true
            . simp [h0, h1, h2, h3, h4, h5]
            . simp [h0, h1, h2, h3, h4, h5]
theorem isLoad_eq {o : Op} (h : Op.isLoad o = true) : ∃ t x, o = .load t x := by
  cases o <;> simp [Op.isLoad] at h
  exact ⟨_, _, rfl⟩

structure Outc (P : Program) (T : TT) (ops : Array Oper) (oj : Oper) (st : St) (v : AV) (h : List AObj) : Prop where
  len : st.heap.length <= h.length
  kl : Op.cls oj.op <= 3 -> Kl st.heap h
  again : ∀ (st' : St) (K' : St -> Prop), Agr (oj.looksAt ops) st st' -> st'.heap = st.heap -> K' ({ st'.put oj.dst v with heap := h }) -> stepG P T ops.toList oj st' K'

def Live (h h' : List AObj) : Prop := ∀ (id : Nat) ob, h[id]? = some ob -> ob ≠ .dead -> h'[id]? = some ob

theorem outc {oj : Oper} (hc : Op.cls oj.op <= 3 \/ Op.cls oj.op = 6) (h : stepG P T ops.toList oj st K) :
    ∃ v hp, K { st.put oj.dst v with heap := hp } /\ Outc P T ops oj st v hp /\ (Op.cls oj.op <= 2 -> ∃ l, hp = st.heap ++ l) ∧
      (Op.cls oj.op <= 1 -> hp = st.heap /\ ∀ (st' : St) (K' : St -> Prop), Agr (oj.looksAt ops) st st' -> Live st.heap st'.heap -> K' (st'.put oj.dst v) -> stepG P T ops.toList oj st' K') ∧
      (Op.cls oj.op = 0 -> ∀ (st' : St) (K' : St -> Prop), Agr (oj.looksAt ops) st st' -> K' (st'.put oj.dst v) -> stepG P T ops.toList oj st' K') := by
  have self : ∀ (s : St) d v, ({ s.put d v with heap := s.heap } : St) = s.put d v := fun s d v => by
    have := put_heap (s := s) (d := d) (v := v)
    rw [<- this]
  rcases cls_split oj.op with ⟨h1, h2⟩ | ⟨h1, h2⟩ | ⟨h1, h2⟩ | ⟨h1, h2⟩ | ⟨h1, h2⟩ | ⟨h1, h2⟩ | h2
  . obtain ⟨v, hk, hall⟩ := out_pure h1 h
    exact ⟨v, st.heap, by rw [self]; exact hk, ⟨Nat.le_refl _, fun _ => Kl.refl _, fun st' K' ha hh hk' => hall st' K' ha (by rw [<- hh, self] at hk'; exact hk')⟩, fun _ => ⟨[], by simp⟩, fun _ => ⟨rfl, fun st' K' ha _ hk' => hall st' K' ha hk'⟩, fun _ => hall⟩
  . obtain ⟨t, x, e⟩ := isLoad_eq h1
    obtain ⟨v, hk, hall⟩ := out_load e h
    exact ⟨v, st.heap, by rw [self]; exact hk, ⟨Nat.le_refl _, fun _ => Kl.refl _, fun st' K' ha hh hk' => hall st' K' ha (fun id off ob _ ho _ => by rw [hh]; exact ho) (by rw [<- hh, self] at hk'; exact hk')⟩, fun _ => ⟨[], by simp⟩, fun _ => ⟨rfl, fun st' K' ha hl hk' => hall st' K' ha (fun id off ob _ ho hlv => hl id ob ho hlv) hk'⟩, fun hz => by omega⟩
  . obtain ⟨mk, l, hk, hall⟩ := out_ext h1 h
    refine ⟨mk st.heap.length, st.heap ++ l, by rw [put_with] at hk; exact hk, ⟨by simp, fun _ => Kl.app _ _, fun st' K' ha hh hk' => hall st' K' ha (by rw [put_with, hh]; exact hk')⟩, fun _ => ⟨l, rfl⟩, fun hle => by omega, fun hle => by omega⟩
  . obtain ⟨v, hp, hk, hkl, hall⟩ := out_app h1 h
    exact ⟨v, hp, by rw [put_with] at hk; exact hk, ⟨hkl.1, fun _ => hkl, fun st' K' ha hh hk' => hall st' K' ha hh (by rw [put_with]; exact hk')⟩, fun hle => by omega, fun hle => by omega, fun hle => by omega⟩
  . omega
  . obtain ⟨v, hp, hk, hlen, hall⟩ := out_store h1 h
    exact ⟨v, hp, by rw [put_with] at hk; exact hk, ⟨by omega, fun hle => by omega, fun st' K' ha hh hk' => hall st' K' ha hh (by rw [put_with]; exact hk')⟩, fun hle => by omega, fun hle => by omega, fun hle => by omega⟩
  . omega

theorem Wf.eval (h : Wf st) (x : Operand) : okV st.heap.length (st.eval x) := by
  cases x with
  | tmp t => exact h.tm t
  | const v =>
    show okV _ (constAV v)
    unfold constAV
    split <;> simp only [okV]
  | global g => simp only [St.eval, okV]
  | func f => simp only [St.eval, okV, okVs]; exact ⟨trivial, trivial⟩

theorem swap {oi oj : Oper} {st0 : St} (hw : Wf st0) (hap : oi.apart ops oj = true) (hcl : clsOk (Op.cls oj.op) (Op.cls oi.op) = true) (hI : Inv ops oi st0 st)
    {K : St -> Prop} (h : stepG P T ops.toList oj st fun s => Inv ops oi st0 s -> stepG P T ops.toList oi s K) : stepG P T ops.toList oi st fun s => stepG P T ops.toList oj s K := by
  obtain ⟨a1, a2, a3⟩ := Oper.apart_spec hap
  have hj3 : Op.cls oj.op <= 3 \/ Op.cls oj.op = 6 := by
    unfold clsOk at hcl
    split at hcl <;> simp at hcl <;> omega
  obtain ⟨v, hp, hk, hout, hq2, hq1, hq0⟩ := outc hj3 h
  have hagr : Agr (oi.looksAt ops) st { st.put oj.dst v with heap := hp } := Agr.put a3
  have hinv : Inv ops oi st0 { st.put oj.dst v with heap := hp } := by
    refine ⟨hI.agr.trans hagr, Nat.le_trans hI.len hout.len, fun e4 => ?_⟩
    obtain ⟨l, hl⟩ := hI.ext e4
    have : Op.cls oj.op <= 2 := by
      rw [e4] at hcl
      simpa [clsOk] using hcl
    obtain ⟨l', hl'⟩ := hq2 this
    exact ⟨l ++ l', by rw [<- List.append_assoc, <- hl]; exact hl'⟩
  have hi := hk hinv
  have fin : ∀ u H, ({ (({ st.put oj.dst v with heap := hp } : St).put oi.dst u) with heap := H } : St) = { (st.put oi.dst u).put oj.dst v with heap := H } := fun u H => by
    rw [put_with, put_comm (s := st) (d := oj.dst) (e := oi.dst) (fun x hx hh => a2 x hh hx)]
  have fin' : ∀ u, (({ st.put oj.dst v with heap := hp } : St).put oi.dst u) = { (st.put oi.dst u).put oj.dst v with heap := hp } := fun u => by
    rw [put_with, put_comm (s := st) (d := oj.dst) (e := oi.dst) (fun x hx hh => a2 x hh hx)]
  have agj : ∀ u, Agr (oj.looksAt ops) st (st.put oi.dst u) := fun u => by
    have := Agr.put (l := oj.looksAt ops) (s := st) (d := oi.dst) (v := u) (h := (st.put oi.dst u).heap) a1
    exact this
  have agj' : ∀ u H, Agr (oj.looksAt ops) st { st.put oi.dst u with heap := H } := fun u H => Agr.put a1
  have redo : ∀ u, K (({ st.put oj.dst v with heap := hp } : St).put oi.dst u) -> stepG P T ops.toList oj (st.put oi.dst u) K := fun u hu =>
    hout.again _ K (agj u) put_heap (by rw [fin'] at hu; exact hu)
  rcases cls_split oi.op with ⟨h1, h2⟩ | ⟨h1, h2⟩ | ⟨h1, h2⟩ | ⟨h1, h2⟩ | ⟨h1, h2⟩ | ⟨h1, h2⟩ | h2
  . obtain ⟨u, hu, hall⟩ := out_pure h1 hi
    exact hall st _ hagr.symm (redo u hu)
  . obtain ⟨t, x, e⟩ := isLoad_eq h1
    obtain ⟨u, hu, hall⟩ := out_load e hi
    refine hall st _ hagr.symm ?_ (redo u hu)
    intro id off ob hx ho hl
    have hx0 : st0.eval x = .ptr id off := by
      rw [<- hx]
      exact ((hI.agr.trans hagr).eval x (by rw [e]; simp [Op.operands])).symm
    have hid := hw.eval x
    rw [hx0] at hid
    simp only [okV] at hid
    have hjl : Op.cls oj.op <= 3 := by
      rw [h2] at hcl
      simpa [clsOk] using hcl
    rcases (hout.kl hjl).2 id (Nat.lt_of_lt_of_le hid hI.len) with h5 | h5
    . rw [<- h5]; exact ho
    . rw [show ({ st.put oj.dst v with heap := hp } : St).heap = hp from rfl, h5] at ho
      cases ho
      exact absurd rfl hl
  . have hj1 : Op.cls oj.op <= 1 := by
      rw [h2] at hcl
      simpa [clsOk] using hcl
    obtain ⟨rfl, hag⟩ := hq1 hj1
    obtain ⟨mk, l, hu, hall⟩ := out_ext h1 hi
    refine hall st _ hagr.symm ?_
    rw [put_with]
    refine hag _ K (agj' _ _) (fun id ob ho hl => ?_) ?_
    . have hlt : id < st.heap.length := (List.getElem?_eq_some_iff.1 ho).1
      show (st.heap ++ l)[id]? = some ob
      rw [List.getElem?_append_left hlt]
      exact ho
    . rw [put_with] at hu ⊢
      rw [fin] at hu
      exact hu
  . have hj0 : Op.cls oj.op = 0 := by
      rw [h2] at hcl
      simpa [clsOk] using hcl
    obtain ⟨rfl, _⟩ := hq1 (by omega)
    obtain ⟨u, H, hu, _, hall⟩ := out_app h1 hi
    refine hall st _ hagr.symm rfl ?_
    rw [put_with]
    refine hq0 hj0 _ K (agj' _ _) ?_
    rw [put_with] at hu ⊢
    rw [fin] at hu
    exact hu
  . have hj2 : Op.cls oj.op <= 2 := by
      rw [h2] at hcl
      simpa [clsOk] using hcl
    obtain ⟨l', hl'⟩ := hq2 hj2
    obtain ⟨l0, hl0⟩ := hI.ext h2
    have c1 : ∀ y, okV st0.heap.length y -> conv 6 st.heap y = conv 6 hp y := fun y hy => by
      rw [hl', hl0, List.append_assoc, conv_app hw.obj 6 y hy, conv_app hw.obj 6 y hy]
    have hx0 : ∀ x ∈ oi.op.operands, ({ st.put oj.dst v with heap := hp } : St).eval x = st0.eval x := fun x hx => (hI.agr.trans hagr).eval x hx
    refine out_call h1 hi hagr.symm (fun x hx f a b hf => ?_) (fun x hx => ?_) redo
    . rw [hx0 x hx] at hf
      have := hw.eval x
      rw [hf] at this
      simp only [okV] at this
      exact List.map_congr_left fun y hy => c1 y (by
        rcases List.mem_append.1 hy with h6 | h6
        . exact okVs_mem this.1 y h6
        . exact okVs_mem this.2 y h6)
    . rw [hx0 x hx]
      exact c1 _ (hw.eval x)
  . have hj0 : Op.cls oj.op = 0 := by
      rw [h2] at hcl
      simpa [clsOk] using hcl
    obtain ⟨rfl, _⟩ := hq1 (by omega)
    obtain ⟨u, H, hu, _, hall⟩ := out_store h1 hi
    refine hall st _ hagr.symm rfl ?_
    rw [put_with]
    refine hq0 hj0 _ K (agj' _ _) ?_
    rw [put_with] at hu ⊢
    rw [fin] at hu
    exact hu
  . rw [h2] at hcl
    simp [clsOk] at hcl
end
end Go.Lat
namespace Go.Lat
open Go.RowKit

def stepI (P : Program) (T : TT) (ops : Array Oper) (i : Nat) (st : St) (K : St -> Prop) : Prop :=
  match ops[i]? with
  | none => K st
  | some o => stepG P T ops.toList o st K
def seqI (P : Program) (T : TT) (ops : Array Oper) : List Nat -> St -> (St -> Prop) -> Prop
  | [], st, K => K st
  | i :: l, st, K => stepI P T ops i st fun s => seqI P T ops l s K
def anyS (P : Program) (T : TT) (ops : Array Oper) (K : St -> Prop) : Nat -> Array Bool -> St -> Prop
  | 0, listed, st => Region.ready .any ops listed = [] /\ K st
  | n + 1, listed, st => Wf st -> (Region.ready .any ops listed = [] -> K st) /\ ∀ i ∈ Region.ready .any ops listed, stepI P T ops i st fun s => anyS P T ops K n (listed.setIfInBounds i true) s

section
variable {X : Nat -> Prop} {D : List Deferred × Rho} {w0 : World} {mA : Mem} {P : Program} {T : TT} {ops : Array Oper} {K : St -> Prop}

theorem anyS_sound (hT : TsOk P T) {ro : Option Nat} {n : Nat} {Q : Exit -> Act -> World -> Prop} (hQ : ∀ s r' m' a' w', K s -> R X D w0 mA r' m' s a' w' -> Q .normal a' w') :
    ∀ (fuel : Nat) (listed : Array Bool) {r : Rho} {m : MM} {st : St} {a : Act} {w : World}, R X D w0 mA r m st a w -> anyS P T ops K fuel listed st -> wpAnyIn (FW ro) n P .any ops Q fuel listed a w
  | 0, listed, _, _, _, _, _, hR, h => ⟨h.1, hQ _ _ _ _ _ h.2 hR⟩
  | fuel + 1, listed, _, _, _, _, _, hR, h => by
    obtain ⟨h1, h2⟩ := h hR.wf
    refine ⟨fun hn => hQ _ _ _ _ _ (h1 hn) hR, fun i hi => ?_⟩
    have h3 := h2 i hi
    unfold stepI at h3
    unfold wpOpIn
    split
    . rename_i ho
      rw [ho] at h3
      exact anyS_sound hT hQ fuel _ hR h3
    . rename_i o ho
      rw [ho] at h3
      exact stepG_sound hT hR h3 fun s r' m' a' w' hs hR' => anyS_sound hT hQ fuel _ hR' hs

theorem putCells_mono {h : List AObj} {id off : Nat} {vs : List AV} {K K' : List AObj -> Prop} (hk : ∀ x, K x -> K' x) (hp : putCells h id off vs K) : putCells h id off vs K' := by
  revert hp
  unfold putCells
  split
  . exact fun h => ⟨h.1, hk _ h.2⟩
  . exact fun h => ⟨h.1, hk _ h.2⟩
  . exact fun h => h.elim
theorem stepG_mono' {o : Oper} {st : St} {K K' : St -> Prop} (h : stepG P T ops.toList o st K) (hk : ∀ s, K s -> K' s) : stepG P T ops.toList o st K' := by
  have refl : Agr (o.looksAt ops) st st := ⟨rfl, fun _ _ => rfl⟩
  rcases cls_split o.op with ⟨h1, h2⟩ | ⟨h1, h2⟩ | ⟨h1, h2⟩ | ⟨h1, h2⟩ | ⟨h1, h2⟩ | ⟨h1, h2⟩ | h2
  case inr.inr.inr.inr.inl => exact out_call h1 h refl (fun _ _ _ _ _ _ => rfl) (fun _ _ => rfl) fun v hv => hk _ hv
  case inr.inr.inr.inr.inr.inr =>
    rcases stepG_cases h with ⟨h3, h4⟩ | ⟨h3, h4⟩
    . refine h4 st K' refl ?_
      revert h2 h3
      unfold opC
      generalize o.op = op
      intro h2 h3
      cases op <;> try (exact h3.elim)
      all_goals try (simp [Op.cls, Op.pureO, Op.isLoad, Op.isExt, Op.isApp, Op.isCall, Op.isStore] at h2; done)
      case binOp b t x y u =>
        have hn : nilC b y = true := by
          rcases hb : nilC b y with _ | _
          . simp [Op.cls, Op.pureO, hb] at h2
          . rfl
        simp only [opR, if_pos hn] at h3 ⊢
        revert h3
        unfold nilEqA
        split
        all_goals first
          | exact fun h => h.2.elim
          | exact fun h => ⟨h.1, hk _ h.2⟩
          | exact fun h => ⟨h.1, h.2.1, hk _ h.2.2⟩
          | exact fun h => ⟨h.1, fun hz => hk _ (h.2.1 hz), fun hz => ⟨hk _ (h.2.2 hz).1, hk _ (h.2.2 hz).2⟩⟩
      case makeChan t s =>
        simp only [opR] at h3 ⊢
        revert h3
        unfold makeChanA
        repeat' split
        all_goals first
          | exact fun h => h.elim
          | exact fun h => ⟨h.1, hk _ h.2⟩
      case call c =>
        obtain ⟨cal, args, tys⟩ := c
        cases cal
        case value f => simp [Op.cls, Op.pureO, Op.isLoad, Op.isExt, Op.isApp, Op.isCall, Op.isStore] at h2
        case invoke => exact h3.elim
        case builtin b =>
          cases b <;> try (simp [Op.cls, Op.pureO, Op.isLoad, Op.isExt, Op.isApp, Op.isCall, Op.isStore] at h2; done)
          all_goals try (exact h3.elim)
          case copy =>
            obtain ⟨args⟩ := args
            obtain ⟨tys⟩ := tys
            rcases args with _ | ⟨x, _ | ⟨y, _ | ⟨z, l⟩⟩⟩ <;> rcases tys with _ | ⟨t, _ | ⟨t', _ | ⟨u, us⟩⟩⟩ <;> try (exact h3.elim)
            simp only [opR] at h3 ⊢
            revert h3
            unfold copyA
            repeat' split
            all_goals first
              | exact fun h => h.elim
              | exact fun h => cutPut_mono (fun x hx => hk _ hx) h
              | exact fun h => ⟨h.1, fun hz => hk _ (h.2.1 hz), fun hz => putCells_mono (fun x hx => hk _ hx) (h.2.2 hz)⟩
              | exact fun h => ⟨h.1, hk _ h.2⟩
          case cap =>
            obtain ⟨args⟩ := args
            obtain ⟨tys⟩ := tys
            rcases args with _ | ⟨x, _ | ⟨y, l⟩⟩ <;> rcases tys with _ | ⟨t, _ | ⟨t', l'⟩⟩ <;> try (exact h3.elim)
            simp only [opR] at h3 ⊢
            revert h3
            unfold capA
            repeat' split
            all_goals first
              | exact fun h => h.elim
              | exact fun h => hk _ h
          case close =>
            obtain ⟨args⟩ := args
            obtain ⟨tys⟩ := tys
            rcases args with _ | ⟨x, _ | ⟨y, l⟩⟩ <;> try (exact h3.elim)
            simp only [opR] at h3 ⊢
            revert h3
            unfold closeA
            repeat' split
            all_goals first
              | exact fun h => h.elim
              | exact fun h => hk _ h
    . exact h4 st K' refl (hk _ h3)
  all_goals
    obtain ⟨v, hp, hv, hout, _⟩ := outc (by omega) h
    exact hout.again st K' refl rfl (hk _ hv)

def dirs (ops : Array Oper) (i : Nat) : List Nat :=
  match ops[i]? with
  | some o => (o.after.toList.filter (Region.binds .any)).map (·.on)
  | none => []
def addN (l : List Nat) (x : Nat) : List Nat := if l.contains x then l else x :: l
def ancs (ops : Array Oper) : List (List Nat) :=
  (List.range ops.size).foldl (fun A i => A ++ [(dirs ops i ++ ((dirs ops i).map fun p => if p < i then A.getD p [] else []).flatten).foldl addN []]) []
def chkA (ops : Array Oper) (A : List (List Nat)) : Bool :=
  (List.range ops.size).all fun i => (A.getD i []).all fun j => (dirs ops i).contains j || (dirs ops i).any fun p => decide (p < i) && (A.getD p []).contains j
def relB (ops : Array Oper) (A : List (List Nat)) (a b : Nat) : Bool := !(dirs ops a).contains b && ((A.getD b []).contains a || okP ops a b)
def pairB (ops : Array Oper) (A : List (List Nat)) : List Nat -> Bool
  | [] => true
  | a :: l => l.all (relB ops A a) && pairB ops A l
def chk (ops : Array Oper) (ord : List Nat) : Bool :=
  let A := ancs ops
  chkA ops A && pairB ops A ord && decide ord.Nodup && decide (ord.length = ops.size) && (List.range ops.size).all (fun i => ord.contains i && (dirs ops i).all (fun p => decide (p < ops.size) && p != i)) && ord.all (fun i => decide (i < ops.size))

theorem pairB_spec {A : List (List Nat)} : ∀ {l : List Nat}, pairB ops A l = true -> l.Pairwise (fun a b => relB ops A a b = true)
  | [], _ => List.Pairwise.nil
  | a :: l, h => by
    simp only [pairB, Bool.and_eq_true, List.all_eq_true] at h
    exact List.Pairwise.cons h.1 (pairB_spec h.2)

theorem dirs_ready {i : Nat} {listed : Array Bool} (h : i ∈ Region.ready .any ops listed) : ∀ p ∈ dirs ops i, listed.getD p false = true := by
  obtain ⟨_, o, ho, hall⟩ := mem_ready.1 h
  intro p hp
  simp only [dirs, ho, List.mem_map, List.mem_filter] at hp
  obtain ⟨e, ⟨he, hb⟩, rfl⟩ := hp
  exact hall e (by simpa using he) hb

structure Rest (ops : Array Oper) (A : List (List Nat)) (listed : Array Bool) (l : List Nat) : Prop where
  size : listed.size = ops.size
  open' : ∀ k ∈ l, listed.getD k true = false
  all : ∀ k, k < ops.size -> listed.getD k false = true \/ k ∈ l
  closed : ∀ k, listed.getD k false = true -> ∀ p ∈ dirs ops k, listed.getD p false = true
  pair : l.Pairwise (fun a b => relB ops A a b = true)
  nodup : l.Nodup
  self : ∀ k, k < ops.size -> ∀ p ∈ dirs ops k, p < ops.size /\ p ≠ k

theorem getD_tf {listed : Array Bool} {k : Nat} (h : listed.getD k true = false) : listed.getD k false = false := by
  rcases hk : listed[k]? with _ | b
  . simp [hk] at h
  . simp [hk] at h ⊢; exact h

theorem Rest.anc {A : List (List Nat)} {listed : Array Bool} {l : List Nat} (h : Rest ops A listed l) (hA : chkA ops A = true) :
    ∀ (i : Nat), (∀ p ∈ dirs ops i, listed.getD p false = true) -> ∀ j ∈ A.getD i [], i < ops.size -> listed.getD j false = true := by
  intro i
  induction i using Nat.strongRecOn with
  | _ i ih =>
    intro hi j hj hlt
    simp only [chkA, List.all_eq_true, List.mem_range, Bool.or_eq_true, List.contains_iff_mem, List.any_eq_true, Bool.and_eq_true, decide_eq_true_eq] at hA
    rcases hA i hlt j hj with h1 | ⟨p, hp, hpi, hjp⟩
    . exact hi j h1
    . exact ih p hpi (h.closed p (hi p hp)) j hjp (by omega)

theorem Rest.ready_mem {A : List (List Nat)} {listed : Array Bool} {l : List Nat} (h : Rest ops A listed l) {i : Nat} (hi : i ∈ Region.ready .any ops listed) : i ∈ l := by
  obtain ⟨h0, o, ho, _⟩ := mem_ready.1 hi
  have hlt : i < ops.size := by
    rcases Nat.lt_or_ge i ops.size with h' | h'
    . exact h'
    . rw [Array.getElem?_eq_none h'] at ho; cases ho
  rcases h.all i hlt with h1 | h1
  . rw [getD_tf h0] at h1; cases h1
  . exact h1

theorem Rest.next {A : List (List Nat)} {listed : Array Bool} {pre rest : List Nat} {i : Nat} (h : Rest ops A listed (pre ++ i :: rest)) (hi : i ∈ Region.ready .any ops listed) :
    Rest ops A (listed.setIfInBounds i true) (pre ++ rest) := by
  have hsub : (pre ++ rest).Sublist (pre ++ i :: rest) := List.Sublist.append_left (List.sublist_cons_self i rest) pre
  have hne : ∀ k ∈ pre ++ rest, k ≠ i := by
    intro k hk hki
    subst hki
    have := h.nodup
    rw [List.nodup_append] at this
    obtain ⟨_, h2, h3⟩ := this
    rcases List.mem_append.1 hk with h4 | h4
    . exact h3 k h4 k (by simp) rfl
    . exact (List.nodup_cons.1 h2).1 h4
  refine ⟨by simpa using h.size, fun k hk => ?_, fun k hk => ?_, fun k hk p hp => ?_, h.pair.sublist hsub, h.nodup.sublist hsub, h.self⟩
  . rw [getD_set_ne true (Ne.symm (hne k hk))]
    exact h.open' k (hsub.subset hk)
  . rcases h.all k hk with h1 | h1
    . exact .inl (getD_set_true h1)
    . by_cases hki : k = i
      . subst hki
        have := h.size
        left
        simp [this, hk]
      . right
        simp only [List.mem_append, List.mem_cons] at h1 ⊢
        rcases h1 with h1 | h1 | h1
        . exact .inl h1
        . exact absurd h1 hki
        . exact .inr h1
  . by_cases hki : k = i
    . subst hki
      exact getD_set_true (dirs_ready hi p hp)
    . rw [getD_set_ne false (Ne.symm hki)] at hk
      exact getD_set_true (h.closed k hk p hp)

theorem bubble {oi : Oper} {i : Nat} (ho : ops[i]? = some oi) {st0 : St} (hw : Wf st0) {rest : List Nat} : ∀ (pre : List Nat) (st : St), Inv ops oi st0 st →
    (∀ j ∈ pre, okP ops j i = true) -> seqI P T ops (pre ++ i :: rest) st K -> stepG P T ops.toList oi st fun s => seqI P T ops (pre ++ rest) s K
  | [], st, _, _, h => by
    simp only [List.nil_append, seqI, stepI, ho] at h ⊢
    exact h
  | j :: pre, st, hI, hp, h => by
    have hj := hp j (by simp)
    unfold okP at hj
    rw [ho] at hj
    split at hj
    . rename_i oj oi' hoj he
      cases he
      simp only [Bool.and_eq_true] at hj
      simp only [List.cons_append, seqI, stepI, hoj] at h ⊢
      exact swap hw hj.1 hj.2 hI (stepG_mono' h fun s hs hinv => bubble ho hw pre s hinv (fun k hk => hp k (by simp [hk])) hs)
    . cases hj

theorem any_of_seq {A : List (List Nat)} (hA : chkA ops A = true) : ∀ (fuel : Nat) (listed : Array Bool) (l : List Nat) (st : St), Rest ops A listed l -> l.length = fuel -> seqI P T ops l st K -> anyS P T ops K fuel listed st := by
  intro fuel
  induction fuel with
  | zero =>
    intro listed l st hr hl h
    have : l = [] := List.eq_nil_of_length_eq_zero hl
    subst this
    refine ⟨?_, h⟩
    rcases hrd : Region.ready .any ops listed with _ | ⟨i, l'⟩
    . rfl
    . have := hr.ready_mem (i := i) (by rw [hrd]; simp)
      simp at this
  | succ fuel ih =>
    intro listed l st hr hl h hw
    refine ⟨fun hnil => ?_, fun i hi => ?_⟩
    . exfalso
      cases l with
      | nil => simp at hl
      | cons i l =>
        have h1 := hr.open' i (by simp)
        have hlt : i < ops.size := by
          rw [<- hr.size]
          rcases Nat.lt_or_ge i listed.size with h' | h'
          . exact h'
          . simp [Array.getElem?_eq_none h'] at h1
        have : i ∈ Region.ready .any ops listed := by
          refine mem_ready.2 ⟨h1, ops[i], by simp [hlt], fun e he hb => ?_⟩
          have hd : e.on ∈ dirs ops i := by
            simp only [dirs, Array.getElem?_eq_getElem hlt, List.mem_map, List.mem_filter]
            exact ⟨e, ⟨by simpa using he, hb⟩, rfl⟩
          by_cases hsz : e.on < ops.size
          . rcases hr.all e.on hsz with h2 | h2
            . exact h2
            . exfalso
              rcases List.mem_cons.1 h2 with h3 | h3
              . exact (hr.self i hlt _ hd).2 h3
              . have h4 := (List.pairwise_cons.1 hr.pair).1 _ h3
                simp only [relB, Bool.and_eq_true, Bool.not_eq_true'] at h4
                have h5 := h4.1
                simp at h5
                exact h5 hd
          . exact absurd (hr.self i hlt _ hd).1 hsz
        rw [hnil] at this
        cases this
    . have hmem := hr.ready_mem hi
      obtain ⟨pre, rest, rfl⟩ := List.append_of_mem hmem
      obtain ⟨_, oi, ho, _⟩ := mem_ready.1 hi
      have hlt : i < ops.size := by
        rcases Nat.lt_or_ge i ops.size with h' | h'
        . exact h'
        . rw [Array.getElem?_eq_none h'] at ho; cases ho
      have hok : ∀ j ∈ pre, okP ops j i = true := by
        intro j hj
        have hp := hr.pair
        rw [List.pairwise_append] at hp
        have h4 := hp.2.2 j hj i (by simp)
        simp only [relB, Bool.and_eq_true, Bool.or_eq_true, List.contains_iff_mem] at h4
        rcases h4.2 with h5 | h5
        . have := hr.anc hA i (dirs_ready hi) j h5 hlt
          rw [getD_tf (hr.open' j (by simp [hj]))] at this
          cases this
        . exact h5
      have hb := bubble (K := K) ho hw pre st ⟨⟨rfl, fun _ _ => rfl⟩, Nat.le_refl _, fun _ => ⟨[], by simp⟩⟩ hok h
      simp only [stepI, ho]
      exact stepG_mono' hb fun s hs => ih _ _ s (hr.next hi) (by simp at hl ⊢; omega) hs

theorem chk_rest {ord : List Nat} (h : chk ops ord = true) : chkA ops (ancs ops) = true /\ Rest ops (ancs ops) (Array.replicate ops.size false) ord /\ ord.length = ops.size := by
  simp only [chk, Bool.and_eq_true, decide_eq_true_eq, List.all_eq_true, List.mem_range, List.contains_iff_mem, bne_iff_ne, ne_eq] at h
  obtain ⟨⟨⟨⟨⟨h1, h2⟩, h3⟩, h4⟩, h5⟩, h6⟩ := h
  have hno : ∀ k, (Array.replicate ops.size false).getD k false = false := fun k => by
    rw [Array.getD_eq_getD_getElem?]
    by_cases hk : k < ops.size <;> simp [hk]
  refine ⟨h1, ⟨by simp, fun k hk => ?_, fun k hk => .inr (h5 k hk).1, fun k hk => ?_, pairB_spec h2, h3, fun k hk p hp => (h5 k hk).2 p hp⟩, h4⟩
  . rw [Array.getD_eq_getD_getElem?]
    simp [h6 k hk]
  . rw [hno k] at hk; cases hk
end

theorem W.draw {P : Program} {T : TT} {st : St} {Q : Ex -> St -> Prop} {id : Nat} {ops : Array Oper} (ord : List Nat) (hc : chk ops ord = true) (h : seqI P T ops ord st (Q .nrm)) : W P T (.region id ops true) st Q := fun hT hf ro hro n X D w0 mA r m a w hR => by
  obtain ⟨h1, h2, h3⟩ := chk_rest hc
  refine wpIn_region_any hf ?_
  have hR' : R X D w0 mA r m st a { w with drawn := w.drawn + 1 } := { hR with }
  exact anyS_sound hT (fun s r' m' a' w' hs hR' => ⟨[], r', m', s, fun _ => rfl, hs, hR'⟩) ops.size _ hR' (any_of_seq h1 ops.size _ ord st h2 h3 h)

theorem seqL_seqI {P : Program} {T : TT} {l : List Oper} {G : List Nat} {K : St -> Prop} : ∀ (ord : List Nat) (l' : List Oper) (j : Nat) (st : St), (ord.map fun i => l[i]?) = l'.map some -> seqL P T l G j l' st K -> seqI P T l.toArray ord st K
  | [], [], _, _, _, h => h
  | i :: ord, o :: l', j, st, e, h => by
    simp only [List.map_cons, List.cons.injEq] at e
    simp only [seqI, stepI, seqL, List.getElem?_toArray, e.1] at h ⊢
    exact stepG_mono' h fun s hs => seqL_seqI ord l' (j + 1) s e.2 (splitT_sound hs)
  | [], _ :: _, _, _, e, _ => by simp at e
  | _ :: _, [], _, _, e, _ => by simp at e

end Go.Lat
namespace Go.Lat
open Go.RowKit

def Up (x y : AV) : Prop := ∀ (r : Rho) (m : MM) v, Low m -> VR r m x v -> VR r (nest (m true)) y v
def Ups (xs ys : List AV) : Prop := ∀ (r : Rho) (m : MM) vs, Low m -> VRs r m xs vs -> VRs r (nest (m true)) ys vs
def UpO : AObj -> AObj -> Prop
  | _, .dead => True
  | .row t sz cs, .row t' sz' cs' => t = t' /\ sz = sz' /\ cs'.length = cs.length /\ Ups cs cs'
  | .box t cs, .box t' cs' => t = t' /\ Ups cs cs'
  | .chan c cl b, .chan c' cl' b' => c = c' /\ cl = cl' /\ Ups b b'
  | _, _ => False
def UpH (h h' : List AObj) : Prop := h'.length = h.length /\ ∀ (i : Nat) o', h'[i]? = some o' -> o'.live = true -> ∃ o, h[i]? = some o /\ UpO o o'

def FnG (P : Program) (f : FuncId) (H : List AObj) (args : List AV) (Post : AV -> List AObj -> Prop) : Prop :=
  Callable P f /\ ∀ (mA : Mem) (w : World) (r0 : Rho) (vs : List Value), (∀ p v, mA p = some v -> w.cell? p = some v /\ p.block < w.heap.size) →
    (∀ p v, mA p = some v -> ∀ (i : Nat) o (b c : Nat), H[i]? = some o -> o.live = true -> r0[i]? = some (b, c) -> p.block ≠ b) -> r0.length = H.length -> (∀ (i : Nat) o (b c : Nat), H[i]? = some o -> o.live = true -> r0[i]? = some (b, c) -> b < w.heap.size) →
    (∀ (i : Nat) o, H[i]? = some o -> OR r0 (nest mA) w i o) -> (∀ (i j : Nat) oi oj (b c c' : Nat), H[i]? = some oi -> H[j]? = some oj -> oi.live = true -> oj.live = true -> r0[i]? = some (b, c) -> r0[j]? = some (b, c') -> i = j) -> VRs r0 (nest mA) args vs →
    Calls P f vs.toArray w (fun e w' => ∃ v x r' m' H' a', e = .returned v /\ Post x H' /\ VR r' m' x v /\ R (fun k => ∃ (i : Nat) (o : AObj) (c : Nat), H[i]? = some o /\ o.live = true /\ r0[i]? = some (k, c)) ([], r0) w mA r' m' ⟨a'.tmps.size, fun _ => .any, H', H.length⟩ a' w')

def callG (P : Program) (h : List AObj) (f : AV) (args : List AV) (K : AV -> List AObj -> Prop) : Prop :=
  match f with
  | .clo k fst caps => ∃ (H0 : List AObj) (args0 : List AV) (Post : AV -> List AObj -> Prop), FnG P k H0 args0 Post /\ UpH h H0 /\ Ups (fst ++ args ++ caps) args0 /\ ∀ x H', Post x H' -> K x H'
  | _ => False

section
variable {X : Nat -> Prop} {D : List Deferred × Rho} {w0 : World} {mA : Mem} {r : Rho} {m : MM} {st : St} {a : Act} {w w' : World} {P : Program} {T : TT}

theorem UpO.live {o o' : AObj} (h : UpO o o') (hl : o'.live = true) : o.live = true := by
  cases o <;> cases o' <;> try (first | exact h.elim | (cases hl; done) | rfl)
  rename_i t sz cs t' sz' cs'
  obtain ⟨rfl, rfl, h4, h5⟩ := h
  refine live_row ?_
  have : cs' ≠ [] := by rintro rfl; cases hl
  have := List.length_pos_iff.mpr this
  omega

theorem UpH.or {h h' : List AObj} (hh : UpH h h') (low : Low m) {r : Rho} (hob : ∀ (i : Nat) o, h[i]? = some o -> OR r m w i o) : ∀ (i : Nat) o, h'[i]? = some o -> OR r (nest (m true)) w i o := by
  intro i o hi
  rcases hlv : o.live with _ | _
  . cases o with
    | dead => trivial
    | row t sz cs =>
      cases cs with
      | nil => exact .inl rfl
      | cons c cs => cases hlv
    | box => cases hlv
    | chan => cases hlv
  . obtain ⟨o0, h2, h3⟩ := hh.2 i o hi hlv
    have hb := hob i o0 h2
    cases o0 <;> cases o <;> try (exact h3.elim)
    all_goals try (cases hlv; done)
    . rename_i t sz cs t' sz' cs'
      obtain ⟨rfl, rfl, h4, h5⟩ := h3
      rcases hb with rfl | ⟨b, c, cur, e1, e2, e3, e4, e5, e6, e7⟩
      . left
        exact List.eq_nil_of_length_eq_zero (by simpa using h4)
      . right
        refine ⟨b, c, cur, e1, e2, by rw [h4]; exact e3, e4, e5, by omega, ?_⟩
        rw [h4]
        exact h5 r m _ low e7
    . rename_i t cs t' cs'
      obtain ⟨rfl, h5⟩ := h3
      obtain ⟨b, c, cur, e1, e2, e3, e7⟩ := hb
      exact ⟨b, c, cur, e1, e2, e3, h5 r m _ low e7⟩
    . rename_i cap cl bu cap' cl' bu'
      obtain ⟨rfl, rfl, h5⟩ := h3
      obtain ⟨b, c, bv, s, rc, e1, e2, e7⟩ := hb
      exact ⟨b, c, bv, s, rc, e1, e2, h5 r m _ low e7⟩

theorem R.after (hR : R X D w0 mA r m st a w) {H H' : List AObj} (hU : UpH st.heap H) {r' : Rho} {m' : MM} {a' : Act}
    (hR' : R (fun k => ∃ (i : Nat) (o : AObj) (c : Nat), H[i]? = some o /\ o.live = true /\ r[i]? = some (k, c)) ([], r) w (m true) r' m' ⟨a'.tmps.size, fun _ => .any, H', H.length⟩ a' w') :
    ∃ m'', MLe m' m'' /\ R X D w0 mA r' m'' { st with heap := H' } a w' := by
  have hX : ∀ k, (∃ (i : Nat) (o : AObj) (c : Nat), H[i]? = some o /\ o.live = true /\ r[i]? = some (k, c)) -> ∃ (i : Nat) (o : AObj) (c : Nat), st.heap[i]? = some o /\ o.live = true /\ r[i]? = some (k, c) := by
    rintro k ⟨i, o, c, h1, h2, h3⟩
    obtain ⟨o0, h4, h5⟩ := hU.2 i o h1 h2
    exact ⟨i, o0, c, h4, h5.live h2, h3⟩
  -- what is sealed stays
  have keep : ∀ p v, m true p = some v -> w'.cell? p = some v /\ p.block < w'.heap.size := fun p v hp => by
    obtain ⟨h1, h2⟩ := hR.mem p v hp
    have h3 := hR'.old p.block h2 (fun hx => by
      obtain ⟨i, o, c, e1, e2, e3⟩ := hX _ hx
      exact hR.apart p v hp i o _ c e1 e2 e3 rfl)
    exact ⟨(World.cell?_of_block h3).trans h1, Nat.lt_of_lt_of_le h2 hR'.size⟩
  have keepb : ∀ p v, m true p = some v -> w'.heap[p.block]? = w.heap[p.block]? := fun p v hp =>
    hR'.old p.block (hR.mem p v hp).2 (fun hx => by
      obtain ⟨i, o, c, e1, e2, e3⟩ := hX _ hx
      exact hR.apart p v hp i o _ c e1 e2 e3 rfl)
  have same : ∀ p u v, m true p = some u -> m' true p = some v -> u = v := fun p u v h1 h2 => by
    have e1 := (keep p u h1).1
    have e2 := (hR'.mem p v h2).1
    rw [e1] at e2; exact Option.some.inj e2
  let m1 : MM := fun b p => match m b p with | some v => some v | none => m' b p
  have l1 : MLe m m1 := fun b p v hv => by show (match m b p with | some v => some v | none => m' b p) = some v; rw [hv]
  have l2 : MLe m' m1 := fun b p v hv => by
    show (match m b p with | some v => some v | none => m' b p) = some v
    rcases hm : m b p with _ | u
    . exact hv
    . have hu : m true p = some u := by
        cases b with
        | true => exact hm
        | false => exact hR.low p u hm
      have hv' : m' true p = some v := by
        cases b with
        | true => exact hv
        | false => exact hR'.low p v hv
      rw [same p u v hu hv']
  have inv : ∀ b p v, m1 b p = some v -> m b p = some v \/ m' b p = some v := fun b p v hv => by
    have hv : (match m b p with | some v => some v | none => m' b p) = some v := hv
    rcases hm : m b p with _ | u
    . rw [hm] at hv; exact .inr hv
    . rw [hm] at hv; exact .inl hv
  refine ⟨m1, l2, { os := hR'.os.trans hR.os, tape := hR'.tape.trans hR.tape, output := hR'.output.trans hR.output, size := Nat.le_trans hR.size hR'.size, old := ?_, len := hR'.len, lt := hR'.lt, mem := ?_, low := ?_, newer := ?_, fz := fun p v hp => (inv false p v hp).elim (fun h1 => (froz_of (keepb p v (hR.low p v h1))).trans (hR.fz p v h1)) (hR'.fz p v), lim := ?_, apart := ?_, obj := fun i o ho => (hR'.obj i o ho).mono (RLe.refl _) l2, own := ?_, inj := hR'.inj, size' := hR.size', tmps := fun t => (hR.tmps t).mono hR'.base l1, defers := hR.defers, base := hR.base.trans hR'.base, short := hR.short, nox := hR.nox, marks := ?_, mnod := hR.mnod }⟩
  . intro k hk hXk
    refine (hR'.old k (Nat.lt_of_lt_of_le hk hR.size) fun hx => ?_).trans (hR.old k hk hXk)
    obtain ⟨i, o, c, e1, e2, e3⟩ := hX _ hx
    rcases hR.own i o k c e1 e2 e3 with h1 | h1
    . omega
    . exact hXk h1
  . intro p v hp
    rcases inv true p v hp with h1 | h1
    . exact keep p v h1
    . exact hR'.mem p v h1
  . intro p v hp
    rcases inv false p v hp with h1 | h1
    . exact l1 true p v (hR.low p v h1)
    . exact l2 true p v (hR'.low p v h1)
  . intro p v hp
    rcases inv false p v hp with h1 | h1
    . exact hR.newer p v h1
    . exact Nat.le_trans hR.size (hR'.newer p v h1)
  . intro p v hp
    rcases inv true p v hp with h1 | h1
    . exact hR.lim p v h1
    . rcases hR'.lim p v h1 with h2 | h2
      . exact hR.lim p v h2
      . exact .inr (Nat.le_trans hR.size h2)
  . intro p v hp i o b c ho hl hr
    rcases inv true p v hp with h1 | h1
    . rcases hR'.own i o b c ho hl hr with h2 | h2
      . have := (hR.mem p v h1).2; omega
      . obtain ⟨j, oj, cj, e1, e2, e3⟩ := hX _ h2
        exact hR.apart p v h1 j oj b cj e1 e2 e3
    . exact hR'.apart p v h1 i o b c ho hl hr
  . intro i o b c ho hl hr
    rcases hR'.own i o b c ho hl hr with h2 | h2
    . exact .inl (Nat.le_trans hR.size h2)
    . obtain ⟨j, oj, cj, e1, e2, e3⟩ := hX _ h2
      exact hR.own j oj b cj e1 e2 e3
  . intro d hd
    obtain ⟨b, e1, e0, e2⟩ := hR.marks d hd
    refine ⟨b, e1, e0, ?_⟩
    have hlt := (Array.getElem?_eq_some_iff.1 e2).1
    refine (hR'.old b hlt fun hx => ?_).trans e2
    obtain ⟨i, o, c, f1, f2, f3⟩ := hX _ hx
    obtain ⟨x, g1, g2, _⟩ := (hR.obj i o f1).cells f2 f3
    rw [e2] at g1
    exact g2 _ (Option.some.inj g1).symm

theorem callG_sound (hR : R X D w0 mA r m st a w) {o : Oper} {f : Operand} {args : Array Operand} {tys : Array TypeId} (hop : o.op = .call ⟨.value f, args, tys⟩) {K : AV -> List AObj -> Prop}
    (h : callG P st.heap (st.eval f) (args.toList.map st.eval) K) {ro : Option Nat} {n : Nat} {next : Act -> World -> Prop} {Q : Exit -> Act -> World -> Prop}
    (hnext : ∀ x h' r' m' u w', K x h' -> R X D w0 mA r' m' { st with heap := h' } a w' -> VR r' m' x u -> next (a.put o.dst u) w') : o.wpIn (FW ro) n P a w next Q := by
  refine ⟨fun _ _ => trivial, ?_⟩
  rw [Oper.semAt_eq _ _ _ (fun c' h' => by rw [hop] at h'; cases h')]
  unfold callG at h
  split at h <;> try exact h.elim
  rename_i k fst caps hf
  have hfv := hR.eval f
  rw [hf] at hfv
  simp only [VR] at hfv
  obtain ⟨x, y, hx, hx1, hy1⟩ := hfv
  have hargs : VRs r m (fst ++ args.toList.map st.eval ++ caps) (x.toList ++ args.toList.map a.eval ++ y.toList) := (hx1.app (VRs_map hR args.toList)).app hy1
  have hcall : ∀ (hc : Callable P k), (execOp a.eval o).run P w = .ok (.enter k (x.toList ++ args.toList.map a.eval ++ y.toList).toArray) w := fun hc => by
    have e : (x.toList ++ args.toList.map a.eval ++ y.toList).toArray = x ++ args.map a.eval ++ y := by
      apply Array.toList_inj.1
      simp
    rw [e]
    simp only [execOp, hop, resolve, Deferred.ofValue, hx, Sem.run_bind, Sem.run_pure, Result.andThen_ok, invoke, run_callFunc hc]
  obtain ⟨H0, args0, Post, hfn, hU, hA, hpost⟩ := h
  rw [hcall hfn.1]
  refine ⟨fun h => (by cases h), ?_⟩
  have low : Low m := fun p v hv => hR.low p v hv
  have up : ∀ (i : Nat) o, H0[i]? = some o -> o.live = true -> ∃ o0, st.heap[i]? = some o0 /\ o0.live = true := fun i o hi hl => by
    obtain ⟨o0, h1, h2⟩ := hU.2 i o hi hl
    exact ⟨o0, h1, h2.live hl⟩
  have hc := hfn.2 (m true) w r _ hR.mem (fun p v hp i o b c hi hl hr => by
      obtain ⟨o0, h1, h2⟩ := up i o hi hl
      exact hR.apart p v hp i o0 b c h1 h2 hr) (by rw [hR.len, hU.1]) (fun i o b c hi hl hr => by
      obtain ⟨o0, h1, h2⟩ := up i o hi hl
      exact hR.lt i o0 b c h1 h2 hr) (hU.or low hR.obj) (fun i j oi oj b c c' hi hj hli hlj hri hrj => by
      obtain ⟨o0, h1, h2⟩ := up i oi hi hli
      obtain ⟨o1, h3, h4⟩ := up j oj hj hlj
      exact hR.inj i j o0 o1 b c c' h1 h3 h2 h4 hri hrj) (hA r m _ low hargs)
  refine callsIn_FW (hc.mono ?_)
  rintro e w' ⟨v, z, r', m', H', a', rfl, hp, hv, hR'⟩
  obtain ⟨m'', hle, hR''⟩ := hR.after hU hR'
  exact hnext z H' r' m'' v w' (hpost z H' hp) hR'' (hv.mono (RLe.refl _) hle)

end

theorem FnG.of_walk {P : Program} {T : TT} {f : FuncId} {c : Code} {nt : Nat} {rs : List ResultVar} {args : List AV} {H : List AObj} (hT : TsOk P T) (hm : P.follows .mixedOrders = true) (hf : IsFn P f c nt rs) {Post : AV -> List AObj -> Prop} (hn : args.length <= nt) (hpos : 0 < H.length)
    (h : W P T c ⟨nt, look (enumT 0 args), H, H.length⟩ (retA T rs fun s x => Post x s.heap)) : FnG P f H args Post := by
  obtain ⟨fn, h1, h2, h3, h4, h5⟩ := hf.fn
  refine ⟨⟨fn, h1, h2, by rw [h3]; rfl⟩, fun mA w r0 vs hmA hap hlen hlt hob hinj hv => ?_⟩
  have hlen' := hv.length
  have hR : R (fun k => ∃ (i : Nat) (o : AObj) (c : Nat), H[i]? = some o /\ o.live = true /\ r0[i]? = some (k, c)) ([], r0) w mA r0 (nest mA) ⟨nt, look (enumT 0 args), H, H.length⟩ { tmps := vs.toArray ++ Array.replicate (nt - vs.toArray.size) undef, defers := [] } w := by
    refine { os := rfl, tape := rfl, output := rfl, size := Nat.le_refl _, old := fun _ _ _ => rfl, len := hlen, lt := hlt, mem := hmA, low := (by intro p v h; cases h), newer := (by intro p v h; cases h), fz := (by intro p v h; cases h), lim := fun p v h => .inl h, apart := hap, obj := hob, own := fun i o b c ho hl hr => .inr ⟨i, o, c, ho, hl, hr⟩, inj := hinj, size' := ?_, tmps := ?_, defers := rfl, base := RLe.refl _, short := (by
      show r0.length <= H.length
      omega), nox := fun h0 => by (have h0 : H.length = 0 := h0); omega, marks := fun d hd => (by cases hd), mnod := List.nodup_nil }
    . simp [hlen']; omega
    . intro t
      simp only [look_enumT, Nat.zero_le, if_true, Nat.sub_zero]
      rcases Nat.lt_or_ge t args.length with h | h
      . have h0 : args[t]? = some args[t] := List.getElem?_eq_getElem h
        obtain ⟨v, hv1, hv2⟩ := hv.get t _ h0
        rw [List.getD_eq_getElem?_getD, h0, Array.getD_eq_getD_getElem?]
        rw [Array.getElem?_append_left (by simp; omega)]
        simpa [hv1] using hv2
      . rw [List.getD_eq_getElem?_getD, List.getElem?_eq_none h]
        simp only [Option.getD_none, VR]
  refine callsIn_wide (n := 0).1 (callsIn_of_wp_marks h1 h3 trivial ?_)
  rw [h4]
  refine wpIn_mono (h hT hm none (fun h => (h rfl).elim) 0 _ _ _ _ _ _ _ _ hR) ?_
  have fin : ∀ (a' : Act) (w' : World) r m s, resA T s rs (fun x => Post x s.heap) -> R (fun k => ∃ (i : Nat) (o : AObj) (c : Nat), H[i]? = some o /\ o.live = true /\ r0[i]? = some (k, c)) ([], r0) w mA r m s a' w' →
      ∃ v, (results fn a'.tmps).run P w' = .ok v w' /\ ∃ v' x r' m' H' a'', Ending.returned v = .returned v' /\ Post x H' /\ VR r' m' x v' /\ R (fun k => ∃ (i : Nat) (o : AObj) (c : Nat), H[i]? = some o /\ o.live = true /\ r0[i]? = some (k, c)) ([], r0) w mA r' m' ⟨a''.tmps.size, fun _ => .any, H', H.length⟩ a'' w' := by
    intro a' w' r m s hs hR'
    rw [<- h5] at hs
    obtain ⟨x, v, hp, hv, hrun⟩ := resA_sound hT hR' fn hs
    exact ⟨v, hrun, v, x, r, m, s.heap, a', rfl, hp, hv, { hR'.le (s' := ⟨a'.tmps.size, s.tm, s.heap, s.ho⟩) ⟨hR'.size', rfl, rfl, fun t => .inr rfl⟩ with tmps := fun t => (by simp only [VR]), nox := fun h0 => (by (have h0 : H.length = 0 := h0); omega), size' := rfl, short := (by show r0.length <= H.length; omega) }⟩
  intro e a' w' he
  cases e <;> simp only [relQ, retA, bodyPostM] at he ⊢ <;> try exact he.elim
  . obtain ⟨ms, r, m, s, -, hs, hR'⟩ := he
    rw [hR'.defers]
    refine R.leaves (fun a'' w'' ha hR'' => ?_) _ a' w' rfl (by rw [List.append_nil] at hR' ⊢; exact hR')
    rw [<- ha]
    exact fin a'' w'' r m s hs hR''
  . obtain ⟨ms, r, m, s, -, hs, hR'⟩ := he
    exact hs.elim
  . obtain ⟨ms, r, m, s, -, hs, hR'⟩ := he
    rw [hR'.defers]
    refine R.leaves (fun a'' w'' ha hR'' => ?_) _ a' w' rfl (by rw [List.append_nil] at hR' ⊢; exact hR')
    rw [<- ha]
    exact fin a'' w'' r m s hs hR''
end Go.Lat
namespace Go.Lat
open Go.RowKit

def flatV : AV -> Bool
  | .int _ _ | .bool _ | .nilS | .nilP | .nilF => true
  | _ => false
def flatO : AObj -> Prop
  | .row _ _ cs => 0 < cs.length /\ ∀ c ∈ cs, flatV c = true
  | .box _ cs => ∀ c ∈ cs, flatV c = true
  | .chan _ _ _ => False
  | .dead => False
theorem VR_flat {r r' : Rho} {m m' : MM} {x : AV} {v : Value} (h : flatV x = true) (hv : VR r m x v) : VR r' m' x v := by
  cases x <;> simp only [flatV, Bool.false_eq_true] at h <;> simpa only [VR] using hv
theorem VRs_flat {r r' : Rho} {m m' : MM} : ∀ {xs : List AV} {vs : List Value}, (∀ x ∈ xs, flatV x = true) -> VRs r m xs vs -> VRs r' m' xs vs
  | [], _, _, hv => by simpa only [VRs] using hv
  | x :: xs, _, h, hv => by
    simp only [VRs] at hv ⊢
    obtain ⟨v, vs', h1, h2, h3⟩ := hv
    exact ⟨v, vs', h1, VR_flat (h x (by simp)) h2, VRs_flat (fun y hy => h y (by simp [hy])) h3⟩
def flatR : AObj -> Prop
  | .row _ _ cs => ∀ c ∈ cs, flatV c = true
  | _ => False
def flatB : AV -> Bool
  | .agg cs => cs.all flatV
  | x => flatV x
theorem VR_flatB {r r' : Rho} {m m' : MM} {x : AV} {v : Value} (h : flatB x = true) (hv : VR r m x v) : VR r' m' x v := by
  cases x <;> simp only [flatB] at h <;> try exact VR_flat h hv
  simp only [VR] at hv ⊢
  obtain ⟨arr, h1, h2, h3⟩ := hv
  exact ⟨arr, h1, h2, VRs_flat (fun x hx => List.all_eq_true.1 h x hx) h3⟩
theorem VRs_flatB {r r' : Rho} {m m' : MM} : ∀ {xs : List AV} {vs : List Value}, (∀ x ∈ xs, flatB x = true) -> VRs r m xs vs -> VRs r' m' xs vs
  | [], _, _, hv => by simpa only [VRs] using hv
  | x :: xs, _, h, hv => by
    simp only [VRs] at hv ⊢
    obtain ⟨v, vs', h1, h2, h3⟩ := hv
    exact ⟨v, vs', h1, VR_flatB (h x (by simp)) h2, VRs_flatB (fun y hy => h y (by simp [hy])) h3⟩
def flatC : AObj -> Prop
  | .chan _ _ buf => ∀ c ∈ buf, flatB c = true
  | _ => False
theorem OR_flatC {r r' : Rho} {m m' : MM} {w : World} {i j b c : Nat} {o : AObj} (h : flatC o) (h1 : r[i]? = some (b, c)) (h2 : r'[j]? = some (b, c)) (ho : OR r m w i o) : OR r' m' w j o := by
  cases o <;> try exact h.elim
  obtain ⟨b', c', bv, s, rc, e1, e2, e3⟩ := ho
  rw [h1] at e1; cases e1
  exact ⟨b, c, bv, s, rc, h2, e2, VRs_flatB h e3⟩
theorem flatC.live {o : AObj} (h : flatC o) : o.live = true := by
  cases o <;> first | rfl | exact h.elim
theorem flatO.live {o : AObj} (h : flatO o) : o.live = true := by
  cases o with
  | row t sz cs => exact live_row h.1
  | box => rfl
  | chan => rfl
  | dead => exact h.elim
theorem OR_flat {r r' : Rho} {m m' : MM} {w : World} {i j b c : Nat} {o : AObj} (h : flatO o) (h1 : r[i]? = some (b, c)) (h2 : r'[j]? = some (b, c)) (ho : OR r m w i o) : OR r' m' w j o := by
  cases o with
  | row t sz cs =>
    rcases ho with rfl | ⟨b', c', cur, e1, e2, e3, e4, e5, e6, e7⟩
    . exact .inl rfl
    rw [h1] at e1; cases e1
    exact .inr ⟨b, c, cur, h2, e2, e3, e4, e5, e6, VRs_flat h.2 e7⟩
  | box t cs =>
    obtain ⟨b', c', cur, e1, e2, e3, e7⟩ := ho
    rw [h1] at e1; cases e1
    exact ⟨b, c, cur, h2, e2, e3, VRs_flat h e7⟩
  | chan => exact h.elim
  | dead => exact h.elim
theorem OR_at {r : Rho} {m : MM} {w : World} {i : Nat} {o : AObj} (h : o.live = true) (ho : OR r m w i o) : ∃ b c, r[i]? = some (b, c) := by
  cases o with
  | row t sz cs =>
    rcases ho with rfl | ⟨b', c', cur, e1, _⟩
    . cases h
    . exact ⟨_, _, e1⟩
  | box t cs => obtain ⟨b', c', cur, e1, _⟩ := ho; exact ⟨_, _, e1⟩
  | chan cap cl buf => obtain ⟨b', c', bv, s, rc, e1, _⟩ := ho; exact ⟨_, _, e1⟩
  | dead => cases h

def FnH (P : Program) (f : FuncId) (H : List AObj) (args : List AV) (Post : AV -> List AObj -> Prop) : Prop :=
  Callable P f /\ ∀ (mA : Mem) (w : World) (r0 : Rho) (vs : List Value), (∀ p v, mA p = some v -> w.cell? p = some v /\ p.block < w.heap.size) →
    (∀ p v, mA p = some v -> ∀ (i b c : Nat), r0[i]? = some (b, c) -> p.block ≠ b) -> r0.length = H.length -> (∀ (i b c : Nat), r0[i]? = some (b, c) -> b < w.heap.size) →
    (∀ (i : Nat) o, H[i]? = some o -> OR r0 (nest mA) w i o) -> (∀ (i j b c c' : Nat), r0[i]? = some (b, c) -> r0[j]? = some (b, c') -> i = j) -> VRs r0 (nest mA) args vs →
    Calls P f vs.toArray w (fun e w' => ∃ v x r' m' H' a', e = .returned v /\ Post x H' /\ VR r' m' x v /\ R (fun k => ∃ (i c : Nat), r0[i]? = some (k, c)) ([], r0) w mA r' m' ⟨a'.tmps.size, fun _ => .any, H', 1⟩ a' w')

def callH (P : Program) (h : List AObj) (f : AV) (args : List AV) (K : AV -> List AObj -> Prop) : Prop :=
  match f with
  | .clo k [] [] =>
    (∃ Post : AObj -> Prop, FnH P k [] (args.map (conv 6 h)) (fun x H' => ∃ o l, H' = o :: l /\ x = .ptr 0 0 /\ flatO o /\ Post o) /\ ∀ o, Post o -> K (.ptr h.length 0) (h ++ [o])) ∨
    (∃ (id : Nat) (o : AObj) (x0 y0 : AV) (ys : List AV) (Post : AV -> AObj -> Prop), args = y0 :: ys /\ h[id]? = some o /\ flatO o /\ ((∃ off, y0 = .ptr id off /\ x0 = .ptr 0 off) \/ (∃ nb n, y0 = .ref nb id n /\ x0 = .ref nb 0 n) \/ (∃ off n, y0 = .sub id off n /\ x0 = .sub 0 off n)) ∧
      FnH P k [o] (x0 :: ys.map (conv 6 (h.set id .dead))) (fun x H' => ∃ o' l, H' = o' :: l /\ flatV x = true /\ flatO o' /\ Post x o') /\ ∀ x o', Post x o' -> K x (h.set id o')) ∨
    (∃ (nb : Bool) (Post : Nat -> AObj -> Prop), FnH P k [] (args.map (conv 6 h)) (fun x H' => ∃ n o l, H' = o :: l /\ x = .ref nb 0 n /\ flatR o /\ Post n o) /\ ∀ n o, Post n o -> K (.ref nb h.length n) (h ++ [o])) ∨
    (∃ (Post : AObj -> Prop), FnH P k [] (args.map (conv 6 h)) (fun x H' => ∃ o l, H' = o :: l /\ x = .chn 0 /\ flatC o /\ Post o) /\ ∀ o, Post o -> K (.chn h.length) (h ++ [o]))
  | _ => False

section
variable {X : Nat -> Prop} {D : List Deferred × Rho} {w0 : World} {mA : Mem} {r : Rho} {m : MM} {st : St} {a : Act} {w w' : World} {P : Program} {T : TT}

theorem callH_sound (hR : R X D w0 mA r m st a w) {o : Oper} {f : Operand} {args : Array Operand} {tys : Array TypeId} (hop : o.op = .call ⟨.value f, args, tys⟩) {K : AV -> List AObj -> Prop}
    (h : callH P st.heap (st.eval f) (args.toList.map st.eval) K) {ro : Option Nat} {n : Nat} {next : Act -> World -> Prop} {Q : Exit -> Act -> World -> Prop}
    (hnext : ∀ x h' r' m' u w', K x h' -> R X D w0 mA r' m' { st with heap := h' } a w' -> VR r' m' x u -> next (a.put o.dst u) w') : o.wpIn (FW ro) n P a w next Q := by
  refine ⟨fun _ _ => trivial, ?_⟩
  rw [Oper.semAt_eq _ _ _ (fun c' h' => by rw [hop] at h'; cases h')]
  unfold callH at h
  split at h <;> try exact h.elim
  rename_i k hf
  have hfv := hR.eval f
  rw [hf] at hfv
  simp only [VR, VRs] at hfv
  obtain ⟨x, y, hx, hx1, hy1⟩ := hfv
  have ex : x = #[] := Array.toList_inj.1 (by simpa using hx1)
  have ey : y = #[] := Array.toList_inj.1 (by simpa using hy1)
  subst ex; subst ey
  have hargs := VRs_map hR args.toList
  have hcall : ∀ (hc : Callable P k), (execOp a.eval o).run P w = .ok (.enter k (args.toList.map a.eval).toArray) w := fun hc => by
    have e : (args.toList.map a.eval).toArray = args.map a.eval := by
      apply Array.toList_inj.1
      simp
    rw [e]
    simp only [execOp, hop, resolve, Deferred.ofValue, hx, Sem.run_bind, Sem.run_pure, Result.andThen_ok, invoke, run_callFunc hc]
    simp
  rcases h with ⟨Post, hfn, hpost⟩ | ⟨id, ob, x0, y0, ys, Post, hae, hob, hfl, hx0, hfn, hpost⟩ | ⟨nb, Post, hfn, hpost⟩ | ⟨Post, hfn, hpost⟩
  . rw [hcall hfn.1]
    refine ⟨fun h => (by cases h), ?_⟩
    have hc := hfn.2 (memAll r m st.heap w) w [] _ (memAll_ok hR) (fun _ _ _ _ _ _ h => by simp at h) rfl (fun _ _ _ h => by simp at h) (fun _ _ h => by simp at h) (fun _ _ _ _ _ h => by simp at h)
      (vrs_map_conv (fun x v hv => cv_sound hR 6 x v hv) _ _ hargs)
    refine callsIn_FW (hc.mono ?_)
    rintro e w' ⟨v, z, r', m', H', a', rfl, ⟨ob, l, rfl, rfl, hfl, hp⟩, hv, hR'⟩
    simp only [VR] at hv
    obtain ⟨b, c, hb, rfl⟩ := hv
    have hob := hR'.obj 0 ob rfl
    have hbw : w.heap.size <= b := (hR'.own 0 ob b c rfl hfl.live hb).resolve_right (by rintro ⟨i, c, h⟩; simp at h)
    have hg : w.grownBy w' none := { os := hR'.os, tape := hR'.tape, output := hR'.output, size := hR'.size, block := fun k hk _ => hR'.old k hk (by rintro ⟨i, c, h⟩; simp at h) }
    have hpush := (hR.grown hg).push (o := ob) (b := b) (c := c) (hR'.lt 0 ob b c rfl hfl.live hb) (fun i oi c' ho hl hri => by have := hR.lt i oi b c' ho hl hri; omega)
      (fun p v hp => by have := (hR.mem p v hp).2; omega) (.inl (Nat.le_trans hR.size hbw)) (OR_flat hfl hb (by rw [<- hR.len]; simp) hob)
    exact hnext _ _ _ m _ w' (hpost ob hp) hpush (by simp only [VR]; exact ⟨b, c, by rw [<- hR.len]; simp, rfl⟩)
  . rw [hcall hfn.1]
    refine ⟨fun h => (by cases h), ?_⟩
    have hkl := hR.kills (st.heap.set id .dead) (by simp) (fun i o hi => by
      by_cases e : id = i
      . subst e
        rw [List.getElem?_set_self (List.getElem?_eq_some_iff.1 hob).1] at hi
        exact .inl (Option.some.inj hi).symm
      . rw [List.getElem?_set_ne e] at hi
        exact .inr hi)
    have hor := hR.obj id ob hob
    obtain ⟨b, c, hb⟩ := OR_at hfl.live hor
    rw [hae] at hargs
    have hargs' := hargs
    simp only [VRs] at hargs
    obtain ⟨v0, vs', hvs, hv0, hvs'⟩ := hargs
    rw [hvs]
    have hc := hfn.2 (memAll r m (st.heap.set id .dead) w) w [(b, c)] (v0 :: vs') (memAll_ok hkl) (fun p v hp i b' c' hi => by
        have hi0 : i = 0 := by
          rcases i with _ | i
          . rfl
          . simp at hi
        subst hi0
        simp at hi
        obtain ⟨rfl, rfl⟩ := hi
        unfold memAll at hp
        split at hp
        . rename_i u hu
          exact hR.apart p u hu id ob b c hob hfl.live hb
        . split at hp
          . rename_i hex
            obtain ⟨j, oj, cj, hj, hlj, hrj⟩ := hex
            intro hpb
            by_cases e : id = j
            . subst e
              rw [List.getElem?_set_self (List.getElem?_eq_some_iff.1 hob).1] at hj
              cases hj
              cases hlj
            . rw [List.getElem?_set_ne e] at hj
              rw [hpb] at hrj
              exact e (hR.inj id j ob oj b c cj hob hj hfl.live hlj hb hrj)
          . cases hp)
      rfl (fun i b' c' hi => by
        rcases i with _ | i
        . simp at hi
          obtain ⟨rfl, rfl⟩ := hi
          exact hR.lt id ob b c hob hfl.live hb
        . simp at hi) (fun i o' hi => by
        rcases i with _ | i
        . simp at hi
          subst hi
          exact OR_flat hfl hb rfl hor
        . simp at hi) (fun i j b' c1 c2 hi hj => by
        rcases i with _ | i
        . rcases j with _ | j
          . rfl
          . simp at hj
        . simp at hi) (by
        simp only [VRs]
        refine ⟨v0, vs', rfl, ?_, (vrs_map_conv (fun x v hv => cv_sound hkl 6 x v hv) ys vs' hvs').mono (RLe.nil _) (MLe.refl _)⟩
        rcases hx0 with ⟨off, rfl, rfl⟩ | ⟨nb, n, rfl, rfl⟩ | ⟨off, n, rfl, rfl⟩
        . simp only [VR] at hv0 ⊢
          obtain ⟨b', c', hb', hv0⟩ := hv0
          rw [hb] at hb'
          cases hb'
          exact ⟨b, c, rfl, hv0⟩
        . simp only [VR] at hv0 ⊢
          rcases hv0 with ⟨h0, _, hv0⟩ | ⟨h0, b', c', hb', hle, hv0⟩
          . exact .inl ⟨h0, ⟨_, rfl⟩, hv0⟩
          rw [hb] at hb'
          cases hb'
          exact .inr ⟨h0, b, c, rfl, hle, hv0⟩
        . simp only [VR] at hv0 ⊢
          obtain ⟨b', c', a', cap, hb', hle, hv0⟩ := hv0
          rw [hb] at hb'
          cases hb'
          exact ⟨b, c, a', cap, rfl, hle, hv0⟩)
    refine callsIn_FW (hc.mono ?_)
    rintro e w' ⟨v, z, r', m', H', a', rfl, ⟨ob', l, rfl, hfz, hfl', hp⟩, hv, hR'⟩
    have hb' : r'[0]? = some (b, c) := hR'.base 0 (b, c) rfl
    have hor' := hR'.obj 0 ob' rfl
    have hg : w.grownBy w' (some b) := { os := hR'.os, tape := hR'.tape, output := hR'.output, size := hR'.size, block := fun k hk hne => hR'.old k hk (by
      rintro ⟨i, c', h⟩
      rcases i with _ | i
      . simp at h
        exact hne (by rw [h.1])
      . simp at h) }
    exact hnext _ _ r m _ w' (hpost z ob' hp) (hR.modify hob hfl.live hb hg (OR_flat hfl' hb' hb hor')) (VR_flat hfz hv)
  . rw [hcall hfn.1]
    refine ⟨fun h => (by cases h), ?_⟩
    have hc := hfn.2 (memAll r m st.heap w) w [] _ (memAll_ok hR) (fun _ _ _ _ _ _ h => by simp at h) rfl (fun _ _ _ h => by simp at h) (fun _ _ h => by simp at h) (fun _ _ _ _ _ h => by simp at h)
      (vrs_map_conv (fun x v hv => cv_sound hR 6 x v hv) _ _ hargs)
    refine callsIn_FW (hc.mono ?_)
    rintro e w' ⟨v, z, r', m', H', a', rfl, ⟨n, ob, l, rfl, rfl, hfl, hp⟩, hv, hR'⟩
    have hg : w.grownBy w' none := { os := hR'.os, tape := hR'.tape, output := hR'.output, size := hR'.size, block := fun k hk _ => hR'.old k hk (by rintro ⟨i, c, h⟩; simp at h) }
    have key : ∃ bc, r'[0]? = some bc := by
      have := hR'.len
      rcases hz : r'[0]? with _ | bc
      . rw [List.getElem?_eq_none_iff] at hz; simp at this; omega
      . exact ⟨bc, rfl⟩
    obtain ⟨⟨b, c⟩, hb⟩ := key
    have hval : VR (r ++ [(b, c)]) m (.ref nb st.heap.length n) v := by
      have hnew : (r ++ [(b, c)])[st.heap.length]? = some (b, c) := by rw [<- hR.len]; simp
      simp only [VR] at hv ⊢
      rcases hv with ⟨h0, _, h1⟩ | ⟨h0, b', c', h1, h2⟩
      . exact .inl ⟨h0, ⟨_, hnew⟩, h1⟩
      . rw [hb] at h1
        cases h1
        exact .inr ⟨h0, b, c, hnew, h2⟩
    cases ob with
    | dead => exact hfl.elim
    | chan => exact hfl.elim
    | box t cs => exact hfl.elim
    | row t sz cs =>
      rcases Nat.eq_zero_or_pos cs.length with hz | hz
      . have : cs = [] := List.eq_nil_of_length_eq_zero hz
        subst this
        exact hnext _ _ _ m _ w' (hpost n _ hp) ((hR.grown hg).pushN t sz (b, c)) hval
      . have hlv := live_row (t := t) (sz := sz) hz
        have hob := hR'.obj 0 _ rfl
        have hbw : w.heap.size <= b := (hR'.own 0 _ b c rfl hlv hb).resolve_right (by rintro ⟨i, c, h⟩; simp at h)
        have hpush := (hR.grown hg).push (o := .row t sz cs) (b := b) (c := c) (hR'.lt 0 _ b c rfl hlv hb) (fun i oi c' ho hl hri => by have := hR.lt i oi b c' ho hl hri; omega)
          (fun p v hp => by have := (hR.mem p v hp).2; omega) (.inl (Nat.le_trans hR.size hbw)) (OR_flat (o := .row t sz cs) ⟨hz, hfl⟩ hb (by rw [<- hR.len]; simp) hob)
        exact hnext _ _ _ m _ w' (hpost n _ hp) hpush hval
  . rw [hcall hfn.1]
    refine ⟨fun h => (by cases h), ?_⟩
    have hc := hfn.2 (memAll r m st.heap w) w [] _ (memAll_ok hR) (fun _ _ _ _ _ _ h => by simp at h) rfl (fun _ _ _ h => by simp at h) (fun _ _ h => by simp at h) (fun _ _ _ _ _ h => by simp at h)
      (vrs_map_conv (fun x v hv => cv_sound hR 6 x v hv) _ _ hargs)
    refine callsIn_FW (hc.mono ?_)
    rintro e w' ⟨v, z, r', m', H', a', rfl, ⟨ob, l, rfl, rfl, hfl, hp⟩, hv, hR'⟩
    simp only [VR] at hv
    obtain ⟨b, c, hb, rfl⟩ := hv
    have hob := hR'.obj 0 ob rfl
    have hbw : w.heap.size <= b := (hR'.own 0 ob b c rfl hfl.live hb).resolve_right (by rintro ⟨i, c, h⟩; simp at h)
    have hg : w.grownBy w' none := { os := hR'.os, tape := hR'.tape, output := hR'.output, size := hR'.size, block := fun k hk _ => hR'.old k hk (by rintro ⟨i, c, h⟩; simp at h) }
    have hpush := (hR.grown hg).push (o := ob) (b := b) (c := c) (hR'.lt 0 ob b c rfl hfl.live hb) (fun i oi c' ho hl hri => by have := hR.lt i oi b c' ho hl hri; omega)
      (fun p v hp => by have := (hR.mem p v hp).2; omega) (.inl (Nat.le_trans hR.size hbw)) (OR_flatC hfl hb (by rw [<- hR.len]; simp) hob)
    exact hnext _ _ _ m _ w' (hpost ob hp) hpush (by simp only [VR]; exact ⟨b, c, by rw [<- hR.len]; simp, rfl⟩)

def stepH (P : Program) (T : TT) (ops : List Oper) (o : Oper) (st : St) (K : St -> Prop) : Prop :=
  match o with
  | ⟨d, .call ⟨.value f, args, tys⟩, ty, pos, af, none⟩ =>
    callA P st.heap (st.eval f) (args.toList.map st.eval) (fun v h => K ({ st with heap := h }.put d v)) \/ callH P st.heap (st.eval f) (args.toList.map st.eval) (fun v h => K ({ st with heap := h }.put d v)) \/ callG P st.heap (st.eval f) (args.toList.map st.eval) (fun v h => K ({ st with heap := h }.put d v))
  | o => stepG P T ops o st K
def seqH (P : Program) (T : TT) (ops : List Oper) : List Oper -> St -> (St -> Prop) -> Prop
  | [], st, K => K st
  | o :: l, st, K => stepH P T ops o st fun s => seqH P T ops l s K

theorem seqH_sound (hT : TsOk P T) {ops : Array Oper} {ro : Option Nat} {n : Nat} {Q : Exit -> Act -> World -> Prop} {K : St -> Prop}
    (hQ : ∀ s r' m' a' w', K s -> R X D w0 mA r' m' s a' w' -> Q .normal a' w') :
    ∀ (l : List Oper) {r : Rho} {m : MM} {st : St} {a : Act} {w : World}, R X D w0 mA r m st a w -> seqH P T ops.toList l st K -> wpListIn (FW ro) n P ops Q l a w
  | [], _, _, _, _, _, hR, h => hQ _ _ _ _ _ h hR
  | o :: l, r, m, st, a, w, hR, h => wpListIn_step fun K' hK' => by
      unfold seqH stepH at h
      split at h
      . rename_i d f args tys ty pos af
        rw [if_pos (by rfl)]
        rcases h with h | h | h
        . exact opC_sound (o := ⟨d, .call ⟨.value f, args, tys⟩, ty, pos, af, none⟩) hT hR (K := fun v h => seqH P T ops.toList l (St.put ⟨st.nt, st.tm, h, st.ho⟩ d v) K) h fun x h' r' m' u w' hK hR' hv => hK' _ w' (seqH_sound hT hQ l (hR'.put d hv) hK)
        . exact callH_sound (o := ⟨d, .call ⟨.value f, args, tys⟩, ty, pos, af, none⟩) hR rfl (K := fun v h => seqH P T ops.toList l (St.put ⟨st.nt, st.tm, h, st.ho⟩ d v) K) h fun x h' r' m' u w' hK hR' hv => hK' _ w' (seqH_sound hT hQ l (hR'.put d hv) hK)
        . exact callG_sound (o := ⟨d, .call ⟨.value f, args, tys⟩, ty, pos, af, none⟩) hR rfl (K := fun v h => seqH P T ops.toList l (St.put ⟨st.nt, st.tm, h, st.ho⟩ d v) K) h fun x h' r' m' u w' hK hR' hv => hK' _ w' (seqH_sound hT hQ l (hR'.put d hv) hK)
      . exact stepG_sound hT hR h fun s r' m' a' w' hs hR' => hK' a' w' (seqH_sound hT hQ l hR' hs)
end

theorem FnH.of_walk {P : Program} {T : TT} {f : FuncId} {c : Code} {nt : Nat} {rs : List ResultVar} {args : List AV} {H : List AObj} (hT : TsOk P T) (hm : P.follows .mixedOrders = true) (hf : IsFn P f c nt rs) {Post : AV -> List AObj -> Prop} (hn : args.length <= nt) (hH : H.length <= 1) (ho : Nat) (hho : ho = 0 -> H = [])
    (h : W P T c ⟨nt, look (enumT 0 args), H, ho⟩ (retA T rs fun s x => Post x s.heap)) : FnH P f H args Post := by
  obtain ⟨fn, h1, h2, h3, h4, h5⟩ := hf.fn
  refine ⟨⟨fn, h1, h2, by rw [h3]; rfl⟩, fun mA w r0 vs hmA hap hlen hlt hob hinj hv => ?_⟩
  have hlen' := hv.length
  have hR : R (fun k => ∃ (i c : Nat), r0[i]? = some (k, c)) ([], r0) w mA r0 (nest mA) ⟨nt, look (enumT 0 args), H, ho⟩ { tmps := vs.toArray ++ Array.replicate (nt - vs.toArray.size) undef, defers := [] } w := by
    refine { os := rfl, tape := rfl, output := rfl, size := Nat.le_refl _, old := fun _ _ _ => rfl, len := hlen, lt := fun i o b c _ _ hr => hlt i b c hr, mem := hmA, low := (by intro p v h; cases h), newer := (by intro p v h; cases h), fz := (by intro p v h; cases h), lim := fun p v h => .inl h, apart := fun p v hp i o b c _ _ hr => hap p v hp i b c hr, obj := hob, own := fun i o b c _ _ hr => .inr ⟨i, c, hr⟩, inj := fun i j oi oj b c c' _ _ _ _ hi hj => hinj i j b c c' hi hj, size' := ?_, tmps := ?_, defers := rfl, base := RLe.refl _, short := (by
      show r0.length <= ho
      rcases Nat.eq_zero_or_pos ho with h0 | h0
      . rw [hlen, hho h0]; simp
      . omega), nox := fun h0 => ⟨fun k => by rintro ⟨i, c, hi⟩; rw [hho h0] at hlen; rw [List.eq_nil_of_length_eq_zero hlen] at hi; simp at hi, by rw [hho h0] at hlen; exact List.eq_nil_of_length_eq_zero hlen⟩, marks := fun d hd => (by cases hd), mnod := List.nodup_nil }
    . simp [hlen']; omega
    . intro t
      simp only [look_enumT, Nat.zero_le, if_true, Nat.sub_zero]
      rcases Nat.lt_or_ge t args.length with h | h
      . have h0 : args[t]? = some args[t] := List.getElem?_eq_getElem h
        obtain ⟨v, hv1, hv2⟩ := hv.get t _ h0
        rw [List.getD_eq_getElem?_getD, h0, Array.getD_eq_getD_getElem?]
        rw [Array.getElem?_append_left (by simp; omega)]
        simpa [hv1] using hv2
      . rw [List.getD_eq_getElem?_getD, List.getElem?_eq_none h]
        simp only [Option.getD_none, VR]
  refine callsIn_wide (n := 0).1 (callsIn_of_wp_marks h1 h3 trivial ?_)
  rw [h4]
  refine wpIn_mono (h hT hm none (fun h => (h rfl).elim) 0 _ _ _ _ _ _ _ _ hR) ?_
  have fin : ∀ (a' : Act) (w' : World) r m s, resA T s rs (fun x => Post x s.heap) -> R (fun k => ∃ (i c : Nat), r0[i]? = some (k, c)) ([], r0) w mA r m s a' w' →
      ∃ v, (results fn a'.tmps).run P w' = .ok v w' /\ ∃ v' x r' m' H' a'', Ending.returned v = .returned v' /\ Post x H' /\ VR r' m' x v' /\ R (fun k => ∃ (i c : Nat), r0[i]? = some (k, c)) ([], r0) w mA r' m' ⟨a''.tmps.size, fun _ => .any, H', 1⟩ a'' w' := by
    intro a' w' r m s hs hR'
    rw [<- h5] at hs
    obtain ⟨x, v, hp, hv, hrun⟩ := resA_sound hT hR' fn hs
    exact ⟨v, hrun, v, x, r, m, s.heap, a', rfl, hp, hv, { hR'.le (s' := ⟨a'.tmps.size, s.tm, s.heap, s.ho⟩) ⟨hR'.size', rfl, rfl, fun t => .inr rfl⟩ with tmps := fun t => (by simp only [VR]), nox := fun h0 => (by cases h0), size' := rfl, short := (by show r0.length <= 1; omega) }⟩
  intro e a' w' he
  cases e <;> simp only [relQ, retA, bodyPostM] at he ⊢ <;> try exact he.elim
  . obtain ⟨ms, r, m, s, -, hs, hR'⟩ := he
    rw [hR'.defers]
    refine R.leaves (fun a'' w'' ha hR'' => ?_) _ a' w' rfl (by rw [List.append_nil] at hR' ⊢; exact hR')
    rw [<- ha]
    exact fin a'' w'' r m s hs hR''
  . obtain ⟨ms, r, m, s, -, hs, hR'⟩ := he
    exact hs.elim
  . obtain ⟨ms, r, m, s, -, hs, hR'⟩ := he
    rw [hR'.defers]
    refine R.leaves (fun a'' w'' ha hR'' => ?_) _ a' w' rfl (by rw [List.append_nil] at hR' ⊢; exact hR')
    rw [<- ha]
    exact fin a'' w'' r m s hs hR''
end Go.Lat
namespace Go.Lat
open Go.RowKit

def rmap (φ : List (Option Nat)) (r : Rho) : Rho := φ.map fun o => match o with
  | some i => r.getD i (0, 0)
  | none => (0, 0)
def Ren (φ : List (Option Nat)) (x y : AV) : Prop := ∀ (r : Rho) (m : MM) v, Low m -> VR r m x v -> VR (rmap φ r) m y v
def Rens (φ : List (Option Nat)) (xs ys : List AV) : Prop := ∀ (r : Rho) (m : MM) vs, Low m -> VRs r m xs vs -> VRs (rmap φ r) m ys vs
section
variable {φ : List (Option Nat)} {r : Rho} {m : MM}
theorem rmap_get {j i : Nat} {x : Nat × Nat} (hφ : φ[j]? = some (some i)) (h : r[i]? = some x) : (rmap φ r)[j]? = some x := by
  simp only [rmap, List.getElem?_map, hφ, Option.map_some, Option.some.injEq]
  simp [List.getD, h]
theorem rmap_some {j : Nat} {o : Option Nat} (hφ : φ[j]? = some o) : ∃ x, (rmap φ r)[j]? = some x := by
  simp only [rmap, List.getElem?_map, hφ, Option.map_some]
  exact ⟨_, rfl⟩
def clV : AV -> Bool
  | .int _ _ | .bool _ | .nilS | .nilP | .nilF | .lst _ _ _ | .ipt _ _ | .any => true
  | .clo _ [] [] => true
  | .clo _ [] [.ipt _ _] => true
  | _ => false
theorem VR_clV {r r' : Rho} {x : AV} {v : Value} (h : clV x = true) (hv : VR r m x v) : VR r' m x v := by
  unfold clV at h
  split at h
  all_goals first
    | (cases h; done)
    | (simpa only [VR] using hv)
    | (simp only [VR, VRs] at hv ⊢; exact hv)
theorem Ren.cl {x : AV} (h : clV x = true) : Ren φ x x := fun _ _ _ _ hv => VR_clV h hv
theorem Ren.wk {x y z : AV} (h : Ren φ x y) (k : Wk y z) : Ren φ x z := fun r m v hm hv => k _ m v hm (h r m v hm hv)
theorem Ren.any (x : AV) : Ren φ x .any := fun _ _ _ _ _ => by simp only [VR]
theorem Ren.int (k : IntKind) (n : Int) : Ren φ (.int k n) (.int k n) := Ren.cl rfl
theorem Ren.bool (b : Bool) : Ren φ (.bool b) (.bool b) := Ren.cl rfl
theorem Ren.nilS : Ren φ .nilS .nilS := Ren.cl rfl
theorem Ren.nilP : Ren φ .nilP .nilP := Ren.cl rfl
theorem Ren.lst (fl : Bool) (n : Nat) (cs : List AV) : Ren φ (.lst fl n cs) (.lst fl n cs) := Ren.cl rfl
theorem Ren.ipt (fl : Bool) (cs : List AV) : Ren φ (.ipt fl cs) (.ipt fl cs) := Ren.cl rfl
theorem Ren.ref {nb nb' : Bool} {id j n : Nat} (hφ : φ[j]? = some (some id)) (hb : nb' = true -> nb = true) : Ren φ (.ref nb id n) (.ref nb' j n) := fun r m v _ hv => by
  simp only [VR] at hv ⊢
  rcases hv with ⟨h0, _, h1 | ⟨hnb, a, h1⟩⟩ | ⟨h0, b, c, h1, h2⟩
  . exact .inl ⟨h0, rmap_some hφ, .inl h1⟩
  . refine .inl ⟨h0, rmap_some hφ, .inr ⟨?_, a, h1⟩⟩
    cases nb' with
    | false => rfl
    | true => rw [hb rfl] at hnb; cases hnb
  . exact .inr ⟨h0, b, c, rmap_get hφ h1, h2⟩
theorem Ren.nilR {nb : Bool} {j n : Nat} {o : Option Nat} (hφ : φ[j]? = some o) (hn : n = 0) : Ren φ .nilS (.ref nb j n) := fun r m v _ hv => by
  simp only [VR] at hv ⊢
  exact .inl ⟨hn, rmap_some hφ, .inl hv⟩
theorem Ren.sub {id j off n : Nat} (hφ : φ[j]? = some (some id)) : Ren φ (.sub id off n) (.sub j off n) := fun r m v _ hv => by
  simp only [VR] at hv ⊢
  obtain ⟨b, c, a, cap, h1, h2⟩ := hv
  exact ⟨b, c, a, cap, rmap_get hφ h1, h2⟩
theorem Ren.ptr {id j off : Nat} (hφ : φ[j]? = some (some id)) : Ren φ (.ptr id off) (.ptr j off) := fun r m v _ hv => by
  simp only [VR] at hv ⊢
  obtain ⟨b, c, h1, h2⟩ := hv
  exact ⟨b, c, rmap_get hφ h1, h2⟩
theorem Ren.chn {id j : Nat} (hφ : φ[j]? = some (some id)) : Ren φ (.chn id) (.chn j) := fun r m v _ hv => by
  simp only [VR] at hv ⊢
  obtain ⟨b, c, h1, h2⟩ := hv
  exact ⟨b, c, rmap_get hφ h1, h2⟩
theorem Rens.nil : Rens φ [] [] := fun _ _ _ _ h => by simpa only [VRs] using h
theorem Rens.cons {x y : AV} {xs ys : List AV} (h : Ren φ x y) (k : Rens φ xs ys) : Rens φ (x :: xs) (y :: ys) := fun r m vs hm hv => by
  simp only [VRs] at hv ⊢
  obtain ⟨v, vs', h1, h2, h3⟩ := hv
  exact ⟨v, vs', h1, h r m v hm h2, k r m vs' hm h3⟩
theorem Rens.cl : ∀ {xs : List AV}, (∀ x ∈ xs, clV x = true) -> Rens φ xs xs
  | [], _ => Rens.nil
  | x :: xs, h => Rens.cons (Ren.cl (h x (by simp))) (Rens.cl fun y hy => h y (by simp [hy]))
theorem Rens.wk {xs ys zs : List AV} (h : Rens φ xs ys) (k : Wks ys zs) : Rens φ xs zs := fun r m v hm hv => k _ m v hm (h r m v hm hv)
theorem Ren.agg {cs ds : List AV} (h : Rens φ cs ds) : Ren φ (.agg cs) (.agg ds) := fun r m v hm hv => by
  simp only [VR] at hv ⊢
  obtain ⟨arr, h1, h2, h3⟩ := hv
  exact ⟨arr, h1, h2, h r m _ hm h3⟩
theorem Ren.tup {cs ds : List AV} (h : Rens φ cs ds) : Ren φ (.tup cs) (.tup ds) := fun r m v hm hv => by
  simp only [VR] at hv ⊢
  obtain ⟨arr, h1, h3⟩ := hv
  exact ⟨arr, h1, h r m _ hm h3⟩
theorem Ren.clo (f : FuncId) {a b c d : List AV} (h : Rens φ a c) (k : Rens φ b d) : Ren φ (.clo f a b) (.clo f c d) := fun r m v hm hv => by
  simp only [VR] at hv ⊢
  obtain ⟨x, y, h1, h2, h3⟩ := hv
  exact ⟨x, y, h1, h r m _ hm h2, k r m _ hm h3⟩
end

def RenO (φ : List (Option Nat)) : AObj -> AObj -> Prop
  | _, .dead => True
  | .row t sz cs, .row t' sz' cs' => t = t' /\ sz = sz' /\ cs'.length = cs.length /\ Rens φ cs cs'
  | .box t cs, .box t' cs' => t = t' /\ Rens φ cs cs'
  | .chan c cl b, .chan c' cl' b' => c = c' /\ cl = cl' /\ Rens φ b b'
  | _, _ => False
def RenH (φ : List (Option Nat)) (h : List AObj) : List (Option Nat) -> List AObj -> Prop
  | [], [] => True
  | none :: p, o :: l => o.live = false /\ RenH φ h p l
  | some k :: p, o :: l => (o = .dead \/ ∃ o0, h[k]? = some o0 /\ RenO φ o0 o) /\ RenH φ h p l
  | _, _ => False
def injB : List (Option Nat) -> Bool
  | [] => true
  | none :: l => injB l
  | some k :: l => !l.contains (some k) && injB l
theorem injB_spec : ∀ {φ : List (Option Nat)}, injB φ = true -> ∀ (i j k : Nat), φ[i]? = some (some k) -> φ[j]? = some (some k) -> i = j
  | [], _, i, _, _, hi, _ => by simp at hi
  | o :: l, h, i, j, k, hi, hj => by
    have hl : injB l = true := by
      cases o with
      | none => exact h
      | some q => simp only [injB, Bool.and_eq_true] at h; exact h.2
    have hq : ∀ q, o = some q -> some q ∉ l := by
      rintro q rfl
      simp only [injB, Bool.and_eq_true, Bool.not_eq_true', List.contains_eq_mem, decide_eq_false_iff_not] at h
      exact h.1
    rcases i with _ | i <;> rcases j with _ | j
    . rfl
    . simp only [List.getElem?_cons_zero, Option.some.injEq, List.getElem?_cons_succ] at hi hj
      exact absurd (List.mem_of_getElem? hj) (hq k hi)
    . simp only [List.getElem?_cons_zero, Option.some.injEq, List.getElem?_cons_succ] at hi hj
      exact absurd (List.mem_of_getElem? hi) (hq k hj)
    . simp only [List.getElem?_cons_succ] at hi hj
      rw [injB_spec hl i j k hi hj]
theorem RenH.get {φ : List (Option Nat)} {h : List AObj} : ∀ {p : List (Option Nat)} {l : List AObj}, RenH φ h p l -> p.length = l.length /\ ∀ (i : Nat) o, l[i]? = some o -> o.live = true -> ∃ k o0, p[i]? = some (some k) /\ h[k]? = some o0 /\ RenO φ o0 o
  | [], [], _ => ⟨rfl, fun i o h => by simp at h⟩
  | [], _ :: _, hr => hr.elim
  | none :: p, [], hr => hr.elim
  | some k :: p, [], hr => hr.elim
  | none :: p, o :: l, hr => by
    obtain ⟨h1, h2⟩ := hr
    obtain ⟨h3, h4⟩ := RenH.get h2
    refine ⟨by simp [h3], fun i o' hi hl => ?_⟩
    rcases i with _ | i
    . simp only [List.getElem?_cons_zero, Option.some.injEq] at hi
      subst hi
      rw [h1] at hl; cases hl
    . simpa using h4 i o' (by simpa using hi) hl
  | some k :: p, o :: l, hr => by
    obtain ⟨h1, h2⟩ := hr
    obtain ⟨h3, h4⟩ := RenH.get h2
    refine ⟨by simp [h3], fun i o' hi hl => ?_⟩
    rcases i with _ | i
    . simp only [List.getElem?_cons_zero, Option.some.injEq] at hi
      subst hi
      rcases h1 with rfl | ⟨o0, h5, h6⟩
      . cases hl
      . exact ⟨k, o0, by simp, h5, h6⟩
    . simpa using h4 i o' (by simpa using hi) hl

section
variable {X : Nat -> Prop} {D : List Deferred × Rho} {w0 : World} {mA : Mem} {r : Rho} {m : MM} {st : St} {a : Act} {w : World} {P : Program} {T : TT}

theorem OR_dead {i : Nat} {o : AObj} (h : o.live = false) : OR r m w i o := by
  cases o with
  | dead => trivial
  | box t cs => cases h
  | chan => cases h
  | row t sz cs => cases cs with
    | nil => exact .inl rfl
    | cons c cs => cases h

theorem RenO.live {φ : List (Option Nat)} {o o' : AObj} (h : RenO φ o o') (hl : o'.live = true) : o.live = true := by
  cases o <;> cases o' <;> try (exact h.elim)
  all_goals try (cases hl; done)
  . rename_i t sz cs t' sz' cs'
    obtain ⟨_, _, h3, _⟩ := h
    cases cs with
    | nil => cases cs' with
      | nil => cases hl
      | cons => cases h3
    | cons => rfl
  . rfl
  . rfl

def pinF (φ : List (Option Nat)) : Nat -> Nat -> Bool
  | 0, _ => true
  | q + 1, i => (match φ.getD i none with | some k => Nat.beq k i | none => false) && pinF φ q (i + 1)
def pinB (φ : List (Option Nat)) (q n : Nat) : Bool := pinF φ (min q n) 0
theorem pinF_spec {φ : List (Option Nat)} : ∀ {q i : Nat}, pinF φ q i = true -> ∀ k, i <= k -> k < i + q -> φ[k]? = some (some k)
  | 0, _, _, _, _, _ => by omega
  | q + 1, i, h, k, h1, h2 => by
    simp only [pinF, Bool.and_eq_true] at h
    by_cases e : k = i
    . subst e
      obtain ⟨h, -⟩ := h
      rw [List.getD_eq_getElem?_getD] at h
      rcases hφ : φ[k]? with _ | x
      . rw [hφ] at h; cases h
      . rw [hφ] at h
        cases x with
        | none => cases h
        | some y => rw [Nat.eq_of_beq_eq_true h]
    . exact pinF_spec h.2 k (by omega) (by omega)
theorem R.ren (h : R X D w0 mA r m st a w) (φ : List (Option Nat)) (hφ : injB φ = true) (h0 : pinB φ st.ho st.heap.length = true) {tm' : Nat -> AV} (ht : ∀ t, Ren φ (st.tm t) (tm' t)) {h' : List AObj} (hh : RenH φ st.heap φ h') :
    R X D w0 mA (rmap φ r) m ⟨st.nt, tm', h', st.ho⟩ a w := by
  obtain ⟨hlen, hget⟩ := RenH.get hh
  have hinj := injB_spec hφ
  have low : Low m := fun p v hv => h.low p v hv
  have get : ∀ (i : Nat) o (b c : Nat), h'[i]? = some o -> o.live = true -> (rmap φ r)[i]? = some (b, c) -> ∃ k o0, φ[i]? = some (some k) /\ st.heap[k]? = some o0 /\ RenO φ o0 o /\ o0.live = true /\ r[k]? = some (b, c) := by
    intro i o b c ho hl hr
    obtain ⟨k, o0, h1, h2, h3⟩ := hget i o ho hl
    have hk : k < r.length := by rw [h.len]; exact (List.getElem?_eq_some_iff.1 h2).1
    have := rmap_get (r := r) h1 (List.getElem?_eq_getElem hk)
    rw [hr] at this
    exact ⟨k, o0, h1, h2, h3, h3.live hl, by rw [List.getElem?_eq_getElem hk, <- this]⟩
  refine { os := h.os, tape := h.tape, output := h.output, size := h.size, old := h.old, len := by simp [rmap, hlen], lt := ?_, mem := h.mem, low := h.low, newer := h.newer, fz := h.fz, lim := h.lim, apart := ?_, obj := ?_, own := ?_, inj := ?_, size' := h.size', tmps := fun t => ht t r m _ low (h.tmps t), defers := h.defers, base := ?_, short := h.short, nox := h.nox, marks := h.marks, mnod := h.mnod }
  . intro i o b c ho hl hr
    obtain ⟨k, o0, h1, h2, h3, h4, h5⟩ := get i o b c ho hl hr
    exact h.lt k o0 b c h2 h4 h5
  . intro p v hp i o b c ho hl hr
    obtain ⟨k, o0, h1, h2, h3, h4, h5⟩ := get i o b c ho hl hr
    exact h.apart p v hp k o0 b c h2 h4 h5
  . intro i o ho
    rcases hlv : o.live with _ | _
    . exact OR_dead hlv
    . obtain ⟨k, o0, h1, h2, h3⟩ := hget i o ho hlv
      have hob := h.obj k o0 h2
      cases o0 <;> cases o <;> try (exact h3.elim)
      all_goals try (cases hlv; done)
      . rename_i t sz cs t' sz' cs'
        obtain ⟨rfl, rfl, h4, h5⟩ := h3
        rcases hob with rfl | ⟨b, c, cur, e1, e2, e3, e4, e5, e6, e7⟩
        . left
          exact List.eq_nil_of_length_eq_zero (by simpa using h4)
        . right
          refine ⟨b, c, cur, rmap_get h1 e1, e2, by rw [h4]; exact e3, e4, e5, by omega, ?_⟩
          rw [h4]
          exact h5 r m _ low e7
      . rename_i t cs t' cs'
        obtain ⟨rfl, h5⟩ := h3
        obtain ⟨b, c, cur, e1, e2, e3, e7⟩ := hob
        exact ⟨b, c, cur, rmap_get h1 e1, e2, e3, h5 r m _ low e7⟩
      . rename_i cap cl bu cap' cl' bu'
        obtain ⟨rfl, rfl, h5⟩ := h3
        obtain ⟨b, c, bv, s, rc, e1, e2, e7⟩ := hob
        exact ⟨b, c, bv, s, rc, rmap_get h1 e1, e2, h5 r m _ low e7⟩
  . intro i o b c ho hl hr
    obtain ⟨k, o0, h1, h2, h3, h4, h5⟩ := get i o b c ho hl hr
    exact h.own k o0 b c h2 h4 h5
  . intro i j oi oj b c c' hi hj hli hlj hri hrj
    obtain ⟨k, o0, h1, h2, h3, h4, h5⟩ := get i oi b c hi hli hri
    obtain ⟨k', o0', h1', h2', h3', h4', h5'⟩ := get j oj b c' hj hlj hrj
    have := h.inj k k' o0 o0' b c c' h2 h2' h4 h4' h5 h5'
    subst this
    exact hinj i j k h1 h1'
  . intro i x hi
    have hs := h.short
    have hi0 := (List.getElem?_eq_some_iff.1 hi).1
    have hb := h.base i x hi
    have hi1 := (List.getElem?_eq_some_iff.1 hb).1
    have hl := h.len
    exact rmap_get (pinF_spec h0 i (by omega) (by omega)) hb

def regsT (φ : List (Option Nat)) (tm : Nat -> AV) : List (Nat × AV) -> Prop
  | [] => True
  | (t, v) :: l => Ren φ (tm t) v /\ regsT φ tm l
theorem regsT_look {φ : List (Option Nat)} {tm : Nat -> AV} : ∀ {l : List (Nat × AV)}, regsT φ tm l -> ∀ t, Ren φ (tm t) (look l t)
  | [], _, t => Ren.any _
  | (k, v) :: l, h, t => by
    rw [look_cons]
    split
    . rename_i e; subst e; exact h.1
    . exact regsT_look h.2 t

def St.to (s s' : St) : Prop := ∃ φ l, s'.nt = s.nt /\ s'.ho = s.ho /\ s'.tm = look l /\ injB φ = true /\ pinB φ s.ho s.heap.length = true /\ regsT φ s.tm l /\ RenH φ s.heap φ s'.heap
theorem W.to {st st' : St} {Q : Ex -> St -> Prop} {c : Code} (hl : st.to st') (h : W P T c st' Q) : W P T c st Q := fun hT hf ro hro n X D w0 mA r m a w hR => by
  obtain ⟨φ, l, h1, h2, h3, h4, h5, h6, h7⟩ := hl
  obtain ⟨nt, tm, hp, ho⟩ := st'
  simp only at h1 h2 h3 h7
  subst h1; subst h2; subst h3
  exact h hT hf ro hro n X D w0 mA _ m a w (hR.ren φ h4 h5 (regsT_look h6) h7)
theorem St.to_mk {φ : List (Option Nat)} {n : Nat} {tm : Nat -> AV} {h h' : List AObj} {b : Nat} {l : List (Nat × AV)} (h1 : injB φ = true) (h2 : pinB φ b h.length = true) (h3 : regsT φ tm l) (h4 : RenH φ h φ h') : St.to ⟨n, tm, h, b⟩ ⟨n, look l, h', b⟩ :=
  ⟨φ, l, rfl, rfl, rfl, h1, h2, h3, h4⟩

theorem W.loopT {Q : Ex -> St -> Prop} {c : Code} {α : Type} (S : α -> St) (p : α -> Prop) (μ : α -> Nat) (x0 : α) (hs : st.to (S x0)) (hp : p x0)
    (h : ∀ x, p x -> W P T c (S x) (thenA (fun s => ∃ y, (p y /\ μ y < μ x) /\ s.to (S y)) Q)) : W P T (.loop c) st Q :=
  W.loop (fun k s => ∃ x, μ x = k /\ p x /\ s.to (S x)) (k := μ x0) ⟨x0, rfl, hp, hs⟩ fun k s ⟨x, hk, hx, hle⟩ => by
    refine W.to hle ((h x hx).mono fun e s' hs' => ?_)
    cases e <;> simp only [thenA] at hs' ⊢ <;> try exact hs'
    obtain ⟨y, ⟨h2, h1⟩, h3⟩ := hs'
    exact ⟨μ y, by omega, y, rfl, h2, h3⟩

def SealV (fl : Bool) (x y : AV) : Prop := ∀ (r : Rho) (m : MM) v, Low m -> VR r m x v -> VR [] (nest (m fl)) y v
def SealVs (fl : Bool) (xs ys : List AV) : Prop := ∀ (r : Rho) (m : MM) vs, Low m -> VRs r m xs vs -> VRs [] (nest (m fl)) ys vs
theorem SealV.int (fl : Bool) (k : IntKind) (n : Int) : SealV fl (.int k n) (.int k n) := fun r m v _ h => by simpa only [VR] using h
theorem SealV.bool (fl : Bool) (b : Bool) : SealV fl (.bool b) (.bool b) := fun r m v _ h => by simpa only [VR] using h
theorem SealV.nilS (fl : Bool) : SealV fl .nilS .nilS := fun r m v _ h => by simpa only [VR] using h
theorem SealV.lst (fl : Bool) (n : Nat) (cs : List AV) : SealV fl (.lst fl n cs) (.lst true n cs) := fun r m v _ h => by
  simp only [VR] at h ⊢
  exact h
theorem SealV.wk {fl : Bool} {x y z : AV} (h : SealV fl x y) (k : Wk y z) : SealV fl x z := fun r m v hm hv => k _ _ v (Low.nest _) (h r m v hm hv)
theorem SealVs.nil (fl : Bool) : SealVs fl [] [] := fun _ _ _ _ h => by simpa only [VRs] using h
theorem SealVs.cons {fl : Bool} {x y : AV} {xs ys : List AV} (h : SealV fl x y) (k : SealVs fl xs ys) : SealVs fl (x :: xs) (y :: ys) := fun r m vs hm hv => by
  simp only [VRs] at hv ⊢
  obtain ⟨v, vs', h1, h2, h3⟩ := hv
  exact ⟨v, vs', h1, h r m v hm h2, k r m vs' hm h3⟩
theorem SealVs.app {fl : Bool} {xs ys us ws : List AV} (h : SealVs fl xs ys) (k : SealVs fl us ws) : SealVs fl (xs ++ us) (ys ++ ws) := fun r m vs hm hv => by
  have sp : ∀ (xs us : List AV) (vs : List Value), VRs r m (xs ++ us) vs -> ∃ a b, vs = a ++ b /\ VRs r m xs a /\ VRs r m us b := by
    intro xs us
    induction xs with
    | nil => exact fun vs hv => ⟨[], vs, rfl, VRs.nil, hv⟩
    | cons z l ih =>
      intro vs hv
      simp only [List.cons_append, VRs] at hv
      obtain ⟨v, vs', rfl, h2, h3⟩ := hv
      obtain ⟨a, b, rfl, h4, h5⟩ := ih _ h3
      exact ⟨v :: a, b, rfl, by simp only [VRs]; exact ⟨v, a, rfl, h2, h4⟩, h5⟩
  obtain ⟨a, b, rfl, h1, h2⟩ := sp xs us vs hv
  exact (h r m a hm h1).app (k r m b hm h2)

open Classical in
theorem R.sealH (h : R X D w0 mA r m st a w) (hho : st.ho = 0) (fl : Bool) {id : Nat} {t : TypeId} {sz : Nat} {cs cs' : List AV} (ho : st.heap[id]? = some (.row t sz cs)) (hc : SealVs fl cs cs') :
    ∃ m', MLe m m' /\ R X D w0 mA r m' { st with heap := st.heap.set id .dead } a w /\ ∀ nb n v, cs.length = n * sz -> VR r m (.ref nb id n) v -> VR r m' (.lst fl n cs') v := by
  have low : Low m := fun p v hv => h.low p v hv
  rcases Nat.eq_zero_or_pos cs.length with hz | hpos
  . have : cs = [] := List.eq_nil_of_length_eq_zero hz
    subst this
    refine ⟨m, MLe.refl m, h.kill id, fun nb n v hn hv => ?_⟩
    simp only [VR] at hv ⊢
    have hcs' : cs' = [] := by
      have := hc r m [] low VRs.nil
      cases cs' with
      | nil => rfl
      | cons => simp only [VRs] at this; obtain ⟨_, _, h1, _⟩ := this; cases h1
    subst hcs'
    rcases hv with ⟨h0, _, h1 | ⟨_, a, h1⟩⟩ | ⟨h0, b, c, h1, h2, h3⟩
    . exact .inl ⟨h0, h1⟩
    . subst h0
      exact .inr ⟨a, 0, [], Nat.le_refl _, h1, Sealed.nil, VRs.nil⟩
    . exact .inr ⟨_, c, [], h2, h3, Sealed.nil, VRs.nil⟩
  . have hlv := live_row (t := t) (sz := sz) hpos
    rcases h.obj id _ ho with rfl | ⟨b, c, cur, e1, e2, e3, e4, e5, e6, e7⟩
    . cases hpos
    have hk := h.kill id
    have hbn : w0.heap.size <= b := (h.own id _ b c ho hlv e1).resolve_right ((h.nox hho).1 b)
    have hbl := h.lt id _ b c ho hlv e1
    obtain ⟨m', hle, hle2, hR⟩ := hk.learn (fl := fl) (mR := fun p => if p.block = b then w.cell? p else none) (fun p u hu => by
      split at hu
      . rename_i hb; subst hb; exact ⟨hu, hbl⟩
      . cases hu) (fun p u hu => by
      split at hu
      . rename_i hb
        refine .inl ⟨by rw [hb]; exact hbn, fun i o b' c' hi hl hr hbb => ?_⟩
        simp only at hi
        by_cases hii : id = i
        . subst hii
          rw [List.getElem?_set_self (List.getElem?_eq_some_iff.1 ho).1] at hi
          cases hi
          cases hl
        . rw [List.getElem?_set_ne hii] at hi
          have e : b' = b := hbb.symm.trans hb
          subst e
          exact hii (h.inj id i _ o b' c c' ho hi hlv hl e1 hr)
      . cases hu) (fun _ p u hu => by
      split at hu
      . rename_i hb; exact (h.obj id _ ho).thaw hlv (c := c) (by rw [hb]; exact e1)
      . cases hu)
    refine ⟨m', hle, hR, fun nb n v hn hv => ?_⟩
    have low' : Low m' := fun p v hv => hR.low p v hv
    have key : Sealed (m' fl) ⟨b, 0, none⟩ (cur.toList.take cs.length) := by
      intro i u hu
      have hu' : u ∈ cur.toList.take cs.length := List.mem_of_getElem? hu
      refine ⟨?_, e3 u hu'⟩
      have hcell : w.cell? ((⟨b, 0, none⟩ : Addr).add i) = some u := by
        rw [Addr.add_lit]
        simp only [World.cell?, e2]
        rw [List.getElem?_take] at hu
        split at hu
        . simpa using hu
        . cases hu
      have hr0 : (fun p : Addr => if p.block = b then w.cell? p else none) ((⟨b, 0, none⟩ : Addr).add i) = some u := by
        simp only
        rw [if_pos (block_add _ _)]
        exact hcell
      cases fl with
      | true => exact hle2 true _ _ hr0
      | false => exact hle2 false _ _ hr0
    simp only [VR] at hv ⊢
    rcases hv with ⟨h0, _, h1 | ⟨_, a', h1⟩⟩ | ⟨h0, b', c', h1, h2, h3⟩
    . exact .inl ⟨h0, h1⟩
    . subst h0
      rw [Nat.zero_mul] at hn
      omega
    . rw [e1] at h1
      cases h1
      exact .inr ⟨_, _, _, h2, h3, key, hc r m' _ low' (e7.mono (RLe.refl r) hle)⟩

def sealT (fl : Bool) (id sz k : Nat) (cs' : List AV) (tm : Nat -> AV) : List (Nat × AV) -> Prop
  | [] => True
  | (t, v) :: l => (v = tm t \/ ∃ nb n, tm t = .ref nb id n /\ k = n * sz /\ v = .lst fl n cs') /\ sealT fl id sz k cs' tm l
theorem W.sealH {Q : Ex -> St -> Prop} {c : Code} (fl : Bool) (id : Nat) {n sz : Nat} {t : TypeId} {cs cs' : List AV} {h h' : List AObj} {tm : Nat -> AV} {l : List (Nat × AV)} (ho : h[id]? = some (.row t sz cs)) (hc : SealVs fl cs cs')
    (hl : sealT fl id sz cs.length cs' tm l) (hh : h.set id .dead = h') (hw : W P T c ⟨n, look l, h', 0⟩ Q) : W P T c ⟨n, tm, h, 0⟩ Q := fun hT hf ro hro k X D w0 mA r m a w hR => by
  obtain ⟨m', hle, hR', hv⟩ := hR.sealH rfl fl ho hc
  subst hh
  refine hw hT hf ro hro k X D w0 mA r m' a w { hR' with tmps := fun t => ?_, size' := hR'.size', nox := hR'.nox }
  have key : ∀ (l : List (Nat × AV)), sealT fl id sz cs.length cs' tm l -> VR r m' (look l t) (a.tmps.getD t undef) := by
    intro l
    induction l with
    | nil => intro _; simp only [look, VR]
    | cons p l ih =>
      obtain ⟨q, v⟩ := p
      intro hl
      rw [look_cons]
      split
      . rename_i e
        subst e
        rcases hl.1 with e | ⟨nb, n', e1, e2, e3⟩
        . rw [e]; exact hR'.tmps t
        . rw [e3]
          exact hv nb n' _ e2 (by have := hR.tmps t; simp only at this; rw [e1] at this; exact this)
      . exact ih hl.2
  exact key l hl
end
end Go.Lat
namespace Go.Lat
open Go.RowKit

def zYy {α : Type} (e : α -> List AV) (xs : List α) : List AV := xs.flatMap e
def Wd {α : Type} (e : α -> List AV) (sz : Nat) : Prop := ∀ a, (e a).length = sz
def zYx (x : Int) : List AV := [.int .i64 x]
def eBool (b : Bool) : List AV := [.bool b]
def lat {α : Type} [Inhabited α] (xs : List α) (j : Int) : α := xs.getD j.toNat default
def vat {n : Nat} (M : Vector Int n) (k : Nat) : Int := M.toList.getD k 0
def vset {n : Nat} (M : Vector Int n) (k : Nat) (v : Int) : Vector Int n := M.setIfInBounds k v
def bat {n : Nat} (M : Vector Bool n) (k : Nat) : Bool := M.toList.getD k false
def bset {n : Nat} (M : Vector Bool n) (k : Nat) (v : Bool) : Vector Bool n := M.setIfInBounds k v
theorem wdInt : Wd zYx 1 := fun _ => rfl
theorem encL_cons {α : Type} (e : α -> List AV) (x : α) (xs : List α) : zYy e (x :: xs) = e x ++ zYy e xs := by simp [zYy]
theorem encL_app {α : Type} (e : α -> List AV) (xs ys : List α) : zYy e xs ++ zYy e ys = zYy e (xs ++ ys) := by simp [zYy]
theorem zYw {α : Type} {e : α -> List AV} {sz : Nat} (h : Wd e sz) (xs : List α) : (zYy e xs).length = xs.length * sz := by
  induction xs with
  | nil => simp [zYy]
  | cons x xs ih => rw [encL_cons, List.length_append, h x, ih, List.length_cons, Nat.add_mul]; omega
theorem encL_drop {α : Type} {e : α -> List AV} {sz : Nat} (h : Wd e sz) : ∀ (xs : List α) (k : Nat), (zYy e xs).drop (k * sz) = zYy e (xs.drop k)
  | [], k => by simp [zYy]
  | x :: xs, 0 => by simp
  | x :: xs, k + 1 => by
    rw [encL_cons, List.drop_succ_cons, <- encL_drop h xs k, List.drop_append, h x, Nat.add_mul, Nat.one_mul]
    rw [List.drop_eq_nil_of_le (by rw [h x]; omega), List.nil_append, Nat.add_sub_cancel]
theorem encL_take {α : Type} {e : α -> List AV} {sz : Nat} (h : Wd e sz) : ∀ (xs : List α) (k : Nat), (zYy e xs).take (k * sz) = zYy e (xs.take k)
  | [], k => by simp [zYy]
  | x :: xs, 0 => by simp [zYy]
  | x :: xs, k + 1 => by
    rw [encL_cons, List.take_succ_cons, encL_cons, <- encL_take h xs k, List.take_append, h x, Nat.add_mul, Nat.one_mul]
    rw [List.take_of_length_le (by rw [h x]; omega), Nat.add_sub_cancel]
theorem encL_at {α : Type} [Inhabited α] {e : α -> List AV} {sz : Nat} (h : Wd e sz) (xs : List α) (j : Int) (h1 : 0 <= j) (h2 : j < (xs.length : Int)) : ∃ rest, (zYy e xs).drop (j.toNat * sz) = e (lat xs j) ++ rest := by
  have hj : j.toNat < xs.length := by omega
  refine ⟨zYy e (xs.drop (j.toNat + 1)), ?_⟩
  rw [encL_drop h, List.drop_eq_getElem_cons hj, encL_cons]
  simp [lat, List.getD, hj]
theorem encL_at' {α : Type} [Inhabited α] {e : α -> List AV} {sz : Nat} (h : Wd e sz) (xs : List α) (j : Int) (k : Nat) (hk : k <= sz) (h1 : 0 <= j) (h2 : j < (xs.length : Int)) : ∃ rest, (zYy e xs).drop (j.toNat * sz + k) = (e (lat xs j)).drop k ++ rest := by
  obtain ⟨rest, hr⟩ := encL_at h xs j h1 h2
  refine ⟨rest, ?_⟩
  rw [<- List.drop_drop, hr, List.drop_append, h, Nat.sub_eq_zero_of_le hk, List.drop_zero]
theorem encL_set {α : Type} {e : α -> List AV} {sz : Nat} (h : Wd e sz) : ∀ (xs : List α) (k : Nat) (x : α), k < xs.length -> (zYy e xs).take (k * sz) ++ e x ++ (zYy e xs).drop (k * sz + sz) = zYy e (xs.set k x) := by
  intro xs k x hk
  have e1 : k * sz + sz = (k + 1) * sz := by rw [Nat.add_mul, Nat.one_mul]
  rw [e1, encL_drop h, encL_take h, List.set_eq_take_append_cons_drop, if_pos hk, <- encL_app, encL_cons, List.append_assoc]
theorem ints_map (l : List Int) : zYy zYx l = l.map (AV.int .i64) := by
  induction l with
  | nil => rfl
  | cons x l ih => rw [encL_cons, ih]; rfl
theorem ints_at {n : Nat} (M : Vector Int n) (k : Nat) (h : k < n) : ∃ rest, (zYy zYx M.toList).drop k = .int .i64 (vat M k) :: rest := by
  obtain ⟨rest, hr⟩ := encL_at wdInt M.toList (k : Int) (by omega) (by simpa using h)
  rw [Int.toNat_natCast, Nat.mul_one] at hr
  exact ⟨rest, by rw [hr]; simp [zYx, lat, vat]⟩
theorem ints_set {n : Nat} (M : Vector Int n) (k : Nat) (v : Int) : Lat.spl (zYy zYx M.toList) k [.int .i64 v] = zYy zYx (vset M k v).toList := by
  rw [ints_map, ints_map]; simp [Lat.spl, vset, List.map_set]
theorem zX {n : Nat} (M : Vector Int n) : (zYy zYx M.toList).length = n := by rw [zYw wdInt]; simp
theorem row_set {α : Type} {e : α -> List AV} {sz : Nat} (h : Wd e sz) (xs : List α) (j : Int) (x : α) {vs : List AV} (hv : vs = e x) (h1 : 0 <= j) (h2 : j < (xs.length : Int)) : Lat.spl (zYy e xs) (j.toNat * sz) vs = zYy e (xs.set j.toNat x) := by
  subst hv
  have hj : j.toNat < xs.length := by omega
  have : j.toNat * sz + sz <= xs.length * sz := by
    have := Nat.mul_le_mul_right sz hj
    rw [Nat.succ_mul] at this
    exact this
  rw [Lat.spl_eq _ _ _ (by rw [zYw h, h]; exact this), h, encL_set h xs _ x hj]

def regsL (tm : Nat -> AV) : List (Nat × AV) -> Prop
  | [] => True
  | (t, v) :: l => tm t = v /\ regsL tm l
theorem regsL_look {tm : Nat -> AV} : ∀ {l : List (Nat × AV)}, regsL tm l -> ∀ t, look l t = .any \/ look l t = tm t
  | [], _, t => .inl rfl
  | (k, v) :: l, h, t => by
    rw [look_cons]
    split
    . rename_i e; subst e; exact .inr h.1.symm
    . exact regsL_look h.2 t

section
variable {P : Program} {T : TT} {ops rest : List Oper} {o : Op} {ty : TypeId} {pos : String} {af : Array Edge} {j n : Nat} {l l' : List (Nat × AV)} {h h' : List AObj} {b : Nat} {K : AV -> List AObj -> Prop} {KS : St -> Prop} {Q : Ex -> St -> Prop} {c : Code} {st : St}

theorem St.put_look (d : Nat) (v : AV) (hd : d < n) : St.put ⟨n, look l, h, b⟩ (some d) v = ⟨n, look ((d, v) :: l), h, b⟩ := by
  simp only [St.put, if_pos hd]
  congr 1
theorem cL {d : Nat} (hd : Nat.ble (d + 1) n = true) (h1 : opC P T ⟨some d, o, ty, pos, af, none⟩ ⟨n, look l, h, b⟩ fun v h' => seqL P T ops [] (j + 1) rest ⟨n, look ((d, v) :: l), h', b⟩ KS) :
    seqL P T ops [] j (⟨some d, o, ty, pos, af, none⟩ :: rest) ⟨n, look l, h, b⟩ KS := by
  have hd' : d < n := Nat.le_of_ble_eq_true hd
  show opC P T ⟨some d, o, ty, pos, af, none⟩ ⟨n, look l, h, b⟩ fun v h' => seqL P T ops [] (j + 1) rest (St.put ⟨n, look l, h', b⟩ (some d) v) KS
  have e : (fun v h' => seqL P T ops [] (j + 1) rest (St.put ⟨n, look l, h', b⟩ (some d) v) KS) = fun v h' => seqL P T ops [] (j + 1) rest ⟨n, look ((d, v) :: l), h', b⟩ KS := by
    funext v h'
    rw [St.put_look d v hd']
  rw [e]
  exact h1
theorem cLn (h1 : opC P T ⟨none, o, ty, pos, af, none⟩ ⟨n, look l, h, b⟩ fun _ h' => seqL P T ops [] (j + 1) rest ⟨n, look l, h', b⟩ KS) :
    seqL P T ops [] j (⟨none, o, ty, pos, af, none⟩ :: rest) ⟨n, look l, h, b⟩ KS := h1
theorem cLg {d : Option Tmp} {i : Nat} {want q : Bool} {t : Tmp} (hg : gdT ops i = some t) (hb : look l t = .bool q) (hq : q = want) (h1 : seqL P T ops [] j (⟨d, o, ty, pos, af, none⟩ :: rest) ⟨n, look l, h, b⟩ KS) :
    seqL P T ops [] j (⟨d, o, ty, pos, af, some (i, want)⟩ :: rest) ⟨n, look l, h, b⟩ KS := by
  subst hq
  show stepG P T ops ⟨d, o, ty, pos, af, some (i, q)⟩ ⟨n, look l, h, b⟩ _
  unfold stepG
  simp only [hg, hb, true_imp_iff, ne_eq, not_true_eq_false, false_imp_iff, and_true]
  exact h1
theorem cLs {d : Nat} {i : Nat} {want q : Bool} {t : Tmp} (hd : Nat.ble (d + 1) n = true) (hg : gdT ops i = some t) (hb : look l t = .bool q) (hq : q = !want) (h1 : seqL P T ops [] (j + 1) rest ⟨n, look ((d, .tup []) :: l), h, b⟩ KS) :
    seqL P T ops [] j (⟨some d, o, ty, pos, af, some (i, want)⟩ :: rest) ⟨n, look l, h, b⟩ KS := by
  subst hq
  have hd' : d < n := Nat.le_of_ble_eq_true hd
  show stepG P T ops ⟨some d, o, ty, pos, af, some (i, want)⟩ ⟨n, look l, h, b⟩ _
  unfold stepG
  simp only [hg, hb]
  refine ⟨fun hc => (by cases want <;> cases hc), fun _ => ?_⟩
  rw [St.put_look d _ hd']
  exact h1
theorem cLu {d : Nat} {i : Nat} {want : Bool} {t : Tmp} (hd : Nat.ble (d + 1) n = true) (hg : gdT ops i = some t) (hb : look l t = .tup []) (h1 : seqL P T ops [] (j + 1) rest ⟨n, look ((d, .tup []) :: l), h, b⟩ KS) :
    seqL P T ops [] j (⟨some d, o, ty, pos, af, some (i, want)⟩ :: rest) ⟨n, look l, h, b⟩ KS := by
  have hd' : d < n := Nat.le_of_ble_eq_true hd
  show stepG P T ops ⟨some d, o, ty, pos, af, some (i, want)⟩ ⟨n, look l, h, b⟩ _
  unfold stepG
  simp only [hg, hb]
  rw [St.put_look d _ hd']
  exact h1
theorem eL (h1 : KS st) : seqL P T ops [] j [] st KS := h1

theorem stepH_of_G {o : Oper} {ops : List Oper} (h1 : stepG P T ops o st KS) : stepH P T ops o st KS := by
  unfold stepH
  split
  . exact .inl h1
  . exact h1
theorem cH {d : Nat} (hd : Nat.ble (d + 1) n = true) (h1 : opC P T ⟨some d, o, ty, pos, af, none⟩ ⟨n, look l, h, b⟩ fun v h' => seqH P T ops rest ⟨n, look ((d, v) :: l), h', b⟩ KS) :
    seqH P T ops (⟨some d, o, ty, pos, af, none⟩ :: rest) ⟨n, look l, h, b⟩ KS := by
  have hd' : d < n := Nat.le_of_ble_eq_true hd
  refine stepH_of_G ?_
  show opC P T ⟨some d, o, ty, pos, af, none⟩ ⟨n, look l, h, b⟩ fun v h' => seqH P T ops rest (St.put ⟨n, look l, h', b⟩ (some d) v) KS
  have e : (fun v h' => seqH P T ops rest (St.put ⟨n, look l, h', b⟩ (some d) v) KS) = fun v h' => seqH P T ops rest ⟨n, look ((d, v) :: l), h', b⟩ KS := by
    funext v h'
    rw [St.put_look d v hd']
  rw [e]
  exact h1
theorem cHc {d : Nat} {f : Operand} {args : Array Operand} {tys : Array TypeId} (hd : Nat.ble (d + 1) n = true) (h1 : callH P h (St.eval ⟨n, look l, h, b⟩ f) (args.toList.map (St.eval ⟨n, look l, h, b⟩)) fun v h' => seqH P T ops rest ⟨n, look ((d, v) :: l), h', b⟩ KS) :
    seqH P T ops (⟨some d, .call ⟨.value f, args, tys⟩, ty, pos, af, none⟩ :: rest) ⟨n, look l, h, b⟩ KS := by
  have hd' : d < n := Nat.le_of_ble_eq_true hd
  refine Or.inr (Or.inl ?_)
  have e : (fun v h' => seqH P T ops rest (St.put ⟨n, look l, h', b⟩ (some d) v) KS) = fun v h' => seqH P T ops rest ⟨n, look ((d, v) :: l), h', b⟩ KS := by
    funext v h'
    rw [St.put_look d v hd']
  show callH P h (St.eval ⟨n, look l, h, b⟩ f) (args.toList.map (St.eval ⟨n, look l, h, b⟩)) fun v h' => seqH P T ops rest (St.put ⟨n, look l, h', b⟩ (some d) v) KS
  rw [e]
  exact h1
theorem cHg {d : Nat} {f : Operand} {args : Array Operand} {tys : Array TypeId} (hd : Nat.ble (d + 1) n = true) (h1 : callG P h (St.eval ⟨n, look l, h, b⟩ f) (args.toList.map (St.eval ⟨n, look l, h, b⟩)) fun v h' => seqH P T ops rest ⟨n, look ((d, v) :: l), h', b⟩ KS) :
    seqH P T ops (⟨some d, .call ⟨.value f, args, tys⟩, ty, pos, af, none⟩ :: rest) ⟨n, look l, h, b⟩ KS := by
  have hd' : d < n := Nat.le_of_ble_eq_true hd
  refine Or.inr (Or.inr ?_)
  have e : (fun v h' => seqH P T ops rest (St.put ⟨n, look l, h', b⟩ (some d) v) KS) = fun v h' => seqH P T ops rest ⟨n, look ((d, v) :: l), h', b⟩ KS := by
    funext v h'
    rw [St.put_look d v hd']
  show callG P h (St.eval ⟨n, look l, h, b⟩ f) (args.toList.map (St.eval ⟨n, look l, h, b⟩)) fun v h' => seqH P T ops rest (St.put ⟨n, look l, h', b⟩ (some d) v) KS
  rw [e]
  exact h1
theorem eH (h1 : KS st) : seqH P T ops [] st KS := h1

theorem W.rL {id : Nat} {ol : List Oper} (h1 : seqL P T ol [] 0 ol st fun s => W P T c s Q) : W P T (.seq (.region id ol.toArray false) c) st Q := W.seq _ (W.region [] h1) fun _ h => h
theorem W.rL1 {id : Nat} {ol : List Oper} (h1 : seqL P T ol [] 0 ol st (Q .nrm)) : W P T (.region id ol.toArray false) st Q := W.region [] h1
theorem W.rH1 {id : Nat} {ol : List Oper} (h1 : seqH P T ol ol st (Q .nrm)) : W P T (.region id ol.toArray false) st Q := fun hT _ ro _ n X D w0 mA r m a w hR =>
  wpIn_region_list (seqH_sound hT (fun s r' m' a' w' hs hR' => ⟨[], r', m', s, fun _ => rfl, hs, hR'⟩) ol hR h1)
theorem W.rH {id : Nat} {ol : List Oper} (h1 : seqH P T ol ol st fun s => W P T c s Q) : W P T (.seq (.region id ol.toArray false) c) st Q := W.seq _ (W.rH1 h1) fun _ h => h
theorem W.rD1 {id : Nat} {ol : List Oper} (ord : List Nat) (hc : chk ol.toArray ord = true) (hl : (ord.map fun i => ol[i]?) = ol.map some) (h1 : seqL P T ol [] 0 ol st (Q .nrm)) : W P T (.region id ol.toArray true) st Q :=
  W.draw ord hc (seqL_seqI ord ol 0 st hl h1)
theorem W.rD {id : Nat} {ol : List Oper} (ord : List Nat) (hc : chk ol.toArray ord = true) (hl : (ord.map fun i => ol[i]?) = ol.map some) (h1 : seqL P T ol [] 0 ol st fun s => W P T c s Q) : W P T (.seq (.region id ol.toArray true) c) st Q :=
  W.seq _ (W.rD1 ord hc hl h1) fun _ h => h
theorem W.rO1 {id : Nat} {ol : List Oper} (ord : List Nat) (ol' : List Oper) (hc : chk ol.toArray ord = true) (hl : (ord.map fun i => ol[i]?) = ol'.map some) (h1 : seqL P T ol [] 0 ol' st (Q .nrm)) : W P T (.region id ol.toArray true) st Q :=
  W.draw ord hc (seqL_seqI ord ol' 0 st hl h1)
theorem W.rO {id : Nat} {ol : List Oper} (ord : List Nat) (ol' : List Oper) (hc : chk ol.toArray ord = true) (hl : (ord.map fun i => ol[i]?) = ol'.map some) (h1 : seqL P T ol [] 0 ol' st fun s => W P T c s Q) : W P T (.seq (.region id ol.toArray true) c) st Q :=
  W.seq _ (W.rO1 ord ol' hc hl h1) fun _ h => h
theorem W.tr {tm : Nat -> AV} (l' : List (Nat × AV)) (h' : List AObj) (hl : regsL tm l') (hh : h = h') (hw : W P T c ⟨n, look l', h', b⟩ Q) : W P T c ⟨n, tm, h, b⟩ Q := by
  subst hh
  exact W.le (st' := ⟨n, look l', h, b⟩) ⟨rfl, rfl, rfl, regsL_look hl⟩ hw
theorem zYs {id : Nat} {s : St} (h1 : Q .nrm s) : blockA id Q (.exit id) s := by simp only [blockA, if_pos]; exact h1
theorem zYv {id : Nat} {s : St} (h1 : Q .nrm s) : blockA id Q .nrm s := h1
theorem zYt {id : Nat} {s : St} (h1 : Q .ret s) : blockA id Q .ret s := h1
theorem zZ {N : St -> Prop} {s : St} (h1 : N s) : thenA N Q .nrm s := h1
theorem zZt {N : St -> Prop} {k : Nat} {s : St} (h1 : Q (.exit k) s) : thenA N Q (.exit k) s := h1
theorem zZr {N : St -> Prop} {s : St} (h1 : Q .ret s) : thenA N Q .ret s := h1
theorem W.cn {p : Prop} [Decidable p] {x : Operand} {c1 c2 : Code} (hx : st.eval x = .bool (decide p)) (h1 : p -> W P T c1 st Q) (h2 : ¬ p -> W P T c2 st Q) : W P T (.cond x c1 c2) st Q :=
  W.cond hx (fun h => h1 (of_decide_eq_true h)) (fun h => h2 (of_decide_eq_false h))
theorem W.cb {q : Bool} {x : Operand} {c1 c2 : Code} (hx : st.eval x = .bool q) (h1 : q = true -> W P T c1 st Q) (h2 : ¬ q = true -> W P T c2 st Q) : W P T (.cond x c1 c2) st Q :=
  W.cond hx h1 (fun h => h2 (by rw [h]; simp))
theorem W.cT {x : Operand} {c1 c2 : Code} (hx : st.eval x = .bool true) (h1 : W P T c1 st Q) : W P T (.cond x c1 c2) st Q := W.cond hx (fun _ => h1) (fun h => by cases h)
theorem W.cF {x : Operand} {c1 c2 : Code} (hx : st.eval x = .bool false) (h1 : W P T c2 st Q) : W P T (.cond x c1 c2) st Q := W.cond hx (fun h => by cases h) (fun _ => h1)
end
end Go.Lat
namespace Go.Lat
open Go.ChangeShapes Go.WideShapes Go.ChangeAt Go.RowKit
section
variable {H : Type} {enc : TypeId × Value -> H} {P : Program} {w : World} {base : Nat} {spare : Nat -> Bool} {held : Bool}
def memOf (w : World) : Mem := fun p => if p.block < w.heap.size then w.cell? p else none
theorem memOf_ok {w : World} (p : Addr) (v : Value) (h : memOf w p = some v) : w.cell? p = some v /\ p.block < w.heap.size := by
  unfold memOf at h
  split at h
  . exact ⟨h, ‹_›⟩
  . cases h
theorem inI_of_wf {n : Int} (h : (Lit.int .i64 n).wf = true) : inI n := bounds_i64 h
def IntCells (enc : TypeId × Value -> H) (P : Program) (w : World) (base : Nat) (spare : Nat -> Bool) (held : Bool) (e : TypeId) (k : Nat) : Prop :=
  ∀ n cs d, DataW.trod enc P w base spare held n e cs = some d -> ∃ zs : List Int, zs.length = k /\ cs = zs.map (Value.int .i64) /\ ∀ z ∈ zs, inI z
theorem ints_join {cs : List Value} {k : Nat} (hl : cs.length = k) (h : ∀ i, i < k -> ∃ z, (cs.drop i).take 1 = [.int .i64 z] /\ inI z) : ∃ zs : List Int, zs.length = k /\ cs = zs.map (Value.int .i64) /\ ∀ z ∈ zs, inI z := by
  induction cs generalizing k with
  | nil => exact ⟨[], by simpa using hl, rfl, by simp⟩
  | cons c cs ih =>
    obtain ⟨k, rfl⟩ : ∃ k', k = k' + 1 := ⟨k - 1, by simp at hl; omega⟩
    obtain ⟨z, hz, iz⟩ := h 0 (by omega)
    simp at hz
    obtain ⟨zs, h1, h2, h3⟩ := ih (k := k) (by simpa using hl) (fun i hi => by
      have := h (i + 1) (by omega)
      simpa using this)
    refine ⟨z :: zs, by simp [h1], by rw [hz, h2]; rfl, fun y hy => ?_⟩
    rcases List.mem_cons.mp hy with rfl | hy
    . exact iz
    . exact h3 y hy
theorem intCells_arr {t e : TypeId} {k : Nat} (ht : P.underlying t = some (.array k e)) (he : P.underlying e = some (.int .i64)) (ce : P.cellsOf e = 1) (ct : P.cellsOf t = k) : IntCells enc P w base spare held t k := by
  intro n cs d h
  obtain ⟨xs, m, -, -, hl, hx, hi⟩ := DataW.trod_array ht h
  refine ints_join (by rw [hl, ct]) fun i hik => ?_
  have h1 := hi i hik
  rw [ce, Nat.mul_one, List.getElem?_eq_getElem (by omega)] at h1
  obtain ⟨z, hz, -, wz⟩ := DataW.trod_int he h1
  exact ⟨z, hz, inI_of_wf wz⟩
theorem VRs_intsW {r : Rho} {m : MM} : ∀ zs : List Int, VRs r m (zs.map fun z => AV.int .i64 z) (zs.map (Value.int .i64))
  | [] => rfl
  | z :: zs => ⟨_, _, rfl, rfl, VRs_intsW zs⟩
theorem flatten_get {k : Nat} : ∀ {L : List (List Int)}, (∀ r ∈ L, r.length = k) -> ∀ (i : Nat) z, L.flatten[i]? = some z -> ∃ r, L[i / k]? = some r /\ r[i % k]? = some z := by
  intro L
  induction L with
  | nil => intro _ i z h; simp at h
  | cons r L ih =>
    intro hk i z h
    have hr := hk r (by simp)
    rw [List.flatten_cons] at h
    rcases Nat.lt_or_ge i k with h1 | h1
    . rw [List.getElem?_append_left (by omega)] at h
      exact ⟨r, by rw [Nat.div_eq_of_lt h1]; rfl, by rw [Nat.mod_eq_of_lt h1]; exact h⟩
    . rw [List.getElem?_append_right (by omega), hr] at h
      obtain ⟨r', h2, h3⟩ := ih (fun r' h' => hk r' (by simp [h'])) (i - k) z h
      have hk0 : 0 < k := by
        rcases Nat.eq_zero_or_pos k with h0 | h0
        . subst h0
          have hz : ∀ r'' ∈ L, r''.length = 0 := fun r'' h'' => hk r'' (by simp [h''])
          have : L.flatten = [] := List.flatten_eq_nil_iff.mpr fun r'' h'' => List.eq_nil_of_length_eq_zero (hz r'' h'')
          rw [this] at h; simp at h
        . exact h0
      have e1 : i / k = (i - k) / k + 1 := Nat.div_eq_sub_div hk0 h1
      have e2 : i % k = (i - k) % k := by rw [Nat.mod_eq_sub_mod h1]
      exact ⟨r', by rw [e1]; exact h2, by rw [e2]; exact h3⟩
theorem open_flat {t e : TypeId} {k : Nat} {v : Value} {d : DataW H} {ps : List MemPlace} (ht : P.underlying t = some (.slice e)) (ce : P.cellsOf e = k) (hk : 0 < k) (hv : ∃ a len cap, v = .slice a len cap) (he : IntCells enc P w base spare held e k)
    (h : DataW.Trod enc P w base spare held t v d ps) : ∃ L : List (List Int), (∀ r ∈ L, r.length = k /\ ∀ z ∈ r, inI z) /\ VR [] (nest (memOf w)) (.lst true L.length (L.flatten.map fun z => AV.int .i64 z)) v := by
  obtain ⟨fuel, hf⟩ := h
  obtain ⟨a0, len0, cap0, rfl⟩ := hv
  rcases Go.Deep.open_slice ht hf with ⟨hcs, -⟩ | ⟨a, len, cap, m, n, D, Pl, hcs, hb, hl, hm, hmm, -, hx⟩
  . simp [Value.cells] at hcs
    obtain ⟨rfl, rfl, rfl⟩ := hcs
    exact ⟨[], by simp, .inl ⟨rfl, rfl⟩⟩
  . simp [Value.cells] at hcs
    obtain ⟨rfl, rfl, rfl⟩ := hcs
    have hlm : len0 <= m := by rw [hmm]; split <;> omega
    obtain ⟨F, hF⟩ := Go.Deep.choose_lt (α := List Int) (n := len0) (p := fun i zs => zs.length = k /\ (∀ z ∈ zs, inI z) /\ ∀ j, j < k -> w.cell? ((a.add (i * k)).add j) = (zs.map (Value.int .i64))[j]?) (fun i hi => by
      obtain ⟨cs', h1, h2⟩ := hx i (by omega)
      obtain ⟨zs, z1, rfl, z3⟩ := he _ _ _ h2
      obtain ⟨-, -, h5⟩ := World.cells?_some h1
      rw [ce] at h5
      exact ⟨zs, z1, z3, h5⟩)
    refine ⟨(List.range len0).map F, fun r hr => ?_, .inr ⟨a, cap0, ((List.range len0).map F).flatten.map (Value.int .i64), by simpa using hl, by simp, fun i u hu => ?_, VRs_intsW _⟩⟩
    . rw [List.mem_map] at hr
      obtain ⟨i, hi, rfl⟩ := hr
      have := hF i (List.mem_range.mp hi)
      exact ⟨this.1, this.2.1⟩
    . rw [List.getElem?_map] at hu
      rcases hz : ((List.range len0).map F).flatten[i]? with _ | z
      . rw [hz] at hu; cases hu
      rw [hz] at hu
      cases hu
      obtain ⟨r, h1, h2⟩ := flatten_get (k := k) (fun r hr => by
        rw [List.mem_map] at hr
        obtain ⟨i, hi, rfl⟩ := hr
        exact (hF i (List.mem_range.mp hi)).1) i z hz
      have hik : i / k < len0 := by
        rcases Nat.lt_or_ge (i / k) len0 with h | h
        . exact h
        . rw [List.getElem?_eq_none (by simpa using h)] at h1; cases h1
      rw [List.getElem?_map, List.getElem?_range hik] at h1
      cases h1
      have h3 := (hF (i / k) hik).2.2 (i % k) (Nat.mod_lt _ hk)
      rw [List.getElem?_map, h2] at h3
      have e : (a.add (i / k * k)).add (i % k) = a.add i := by
        have e1 : i / k * k + i % k = i := by rw [Nat.mul_comm]; exact Nat.div_add_mod i k
        generalize i / k * k = x at e1
        generalize i % k = y at e1
        subst e1
        unfold Addr.add
        by_cases hx0 : x = 0
        . subst hx0; simp
        . by_cases hy0 : y = 0
          . subst hy0; simp
          . rw [if_neg hy0, if_neg hx0, if_neg (by omega)]; simp only [Nat.add_assoc]
      rw [e] at h3
      refine ⟨?_, rfl⟩
      show memOf w (a.add i) = _
      unfold memOf
      rw [if_pos ?_]
      . exact h3
      . exact World.block_lt_of_cell? _ _ h3
end
end Go.Lat
