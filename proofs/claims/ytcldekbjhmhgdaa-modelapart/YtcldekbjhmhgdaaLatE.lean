/- The law latecomerlaw23.ModelApart returns true for every input, and each argument reads afterwards as it read before. Part 5 of 14. No condition. -/
import Derived.Test.YtcldekbjhmhgdaaLatD
import Derived.Conc.LoneCalls
import Derived.Test.YtcldekbjhmhgdaaLatC
import Derived.WideShapes
set_option linter.unusedVariables false
set_option linter.unusedSimpArgs false
set_option linter.unnecessarySimpa false
namespace Go.Lat
open Go.RowKit Go.Conc

def OpsTo (F : Fence) (n : Nat) (P : Program) (ops : Array Oper) (Q : Exit -> Act -> World -> Prop) (l : List Nat) (a : Act) (w : World) : Prop :=
  ∀ (b : Frame) (k : List Item) (cs : List Frame), b.roundOf = F.round -> F.fn b.fn -> F.room (cs.length + 1 + n) →
    ∃ e a' w', Q e a' w' /\ ArrivesIn (Machine.fenced P F) P (lone (b.atR a (.inRegion ops l :: k)) cs w) b k cs e a' w'
section
variable {n : Nat} {P : Program} {ops : Array Oper} {Q : Exit -> Act -> World -> Prop} {a : Act} {w : World} {ro : Option Nat}
theorem OpsTo.nil (h : Q .normal a w) : OpsTo (FW ro) n P ops Q [] a w := fun b k cs _ hb hr => ⟨.normal, a, w, h, .one (fenced_calm hb hr rfl) stepR_region_end⟩
theorem wpIn_region_to {id : Nat} (h : OpsTo (FW ro) n P ops Q (List.range ops.size) a w) : (Code.region id ops false).wpIn (FW ro) n P Q a w :=
  fun b k cs hro hb hr => let ⟨e, a', w', q, r⟩ := h b k cs hro hb hr; ⟨e, a', w', q, .of_steps (.one (fenced_calm hb hr rfl) stepR_region) r⟩
theorem wpIn_region_draw_to {id : Nat} (h : ∀ t, OpsTo (FW ro) n P ops Q (Region.schedule (P.follows .mixedOrders) ops t) a { w with drawn := w.drawn + 1 }) : (Code.region id ops true).wpIn (FW ro) n P Q a w :=
  fun b k cs hro hb hr => let ⟨e, a', w', q, r⟩ := h _ b k cs hro hb hr; ⟨e, a', w', q, .of_steps (.one (fenced_calm hb hr rfl) stepR_region_draw) r⟩
def OpTo (ro : Option Nat) (n : Nat) (P : Program) (ops : Array Oper) (Q : Exit -> Act -> World -> Prop) (i : Nat) (K : Act -> World -> Prop) (a : Act) (w : World) : Prop :=
  ∀ rest, (∀ a1 w1, K a1 w1 -> OpsTo (FW ro) n P ops Q rest a1 w1) -> OpsTo (FW ro) n P ops Q (i :: rest) a w
theorem OpTo.mono {i : Nat} {K K' : Act -> World -> Prop} (h : OpTo ro n P ops Q i K a w) (hk : ∀ a w, K a w -> K' a w) : OpTo ro n P ops Q i K' a w := fun rest hr => h rest fun a1 w1 h1 => hr a1 w1 (hk a1 w1 h1)
theorem fin_atR {b : Frame} {i : Nat} {rest : List Nat} {k : List Item} {o : Oper} (ho : ops[i]? = some o) (v : Value) : (b.atR a (.inRegion ops (i :: rest) :: k)).finish v = b.atR (a.put o.dst v) (.inRegion ops rest :: k) := by
  rw [Frame.finish_atR, ho]; rfl
theorem OpTo.plain {i : Nat} {o : Oper} {K : Act -> World -> Prop} (ho : ops[i]? = some o) (hw : Region.wanted o (yielded ops a.tmps) = true) {nx : Next} {u : Value} {w' : World} (hd : ∀ c, o.op ≠ .defer c)
    (hr : (execOp a.eval o).run P w = .ok nx w') (hn : nx = .value u \/ (nx = .skip /\ u = undef)) (h : K (a.put o.dst u) w') : OpTo ro n P ops Q i K a w := by
  intro rest hk b k cs hro hb hrm
  obtain ⟨e, a', w'', hq, harr⟩ := hk _ _ h b k cs hro hb hrm
  have h0 : (lone (b.atR a (.inRegion ops (i :: rest) :: k)) cs w).fenced P (FW ro) := fenced_oper hb hrm ho fun _ _ => trivial
  have hg := stepGR_op (P := P) (b := b) (k := k) (cs := cs) (w := w) (rest := rest) ho hw
  rw [Oper.semAt_eq _ _ _ hd] at hg
  refine ⟨e, a', w'', hq, .of_steps (.one h0 (step_lone_go ?_)) harr⟩
  rw [hg, <- fin_atR ho]
  rcases hn with rfl | ⟨rfl, rfl⟩ <;> simp [stepG.apply, hr]
theorem OpTo.skipped {i : Nat} {K : Act -> World -> Prop} (hw : ∀ o, ops[i]? = some o -> Region.wanted o (yielded ops a.tmps) = false) (h : K (a.put ((ops[i]?).bind (·.dst)) undef) w) : OpTo ro n P ops Q i K a w := by
  intro rest hk b k cs hro hb hrm
  obtain ⟨e, a', w'', hq, harr⟩ := hk _ _ h b k cs hro hb hrm
  have hs := stepR_op_skip (P := P) (b := b) (a := a) (k := k) (cs := cs) (w := w) (ops := ops) (i := i) (rest := rest) (by
    rcases ho : ops[i]? with _ | o
    . simp
    . simpa using hw o ho)
  rcases ho : ops[i]? with _ | o
  . rw [ho] at hs harr
    exact ⟨e, a', w'', hq, .of_steps (.one (fenced_noOper hb hrm ho) hs) harr⟩
  . rw [ho] at hs harr
    exact ⟨e, a', w'', hq, .of_steps (.one (fenced_oper hb hrm ho fun _ _ => trivial) hs) harr⟩
theorem stepG_commR {b : Frame} {k : List Item} {cs : List Frame} {i : Nat} {rest : List Nat} {o : Oper} {cases : Array CommCase} {blocking : Bool} {shape : CommShape} {w' : World} (ho : ops[i]? = some o) (hw : Region.wanted o (yielded ops a.tmps) = true)
    (hd : ∀ c, o.op ≠ .defer c) (hr : (execOp a.eval o).run P w = .ok (.comm cases blocking shape) w') :
    ∃ es, Go.stepG P true (G (b.atR a (.inRegion ops (i :: rest) :: k)) cs) w = .comm (G (b.atR a (.inRegion ops (i :: rest) :: k)) cs) cases blocking shape w' es := by
  have hg := stepGR_op (P := P) (b := b) (k := k) (cs := cs) (w := w) (rest := rest) ho hw
  rw [Oper.semAt_eq _ _ _ hd] at hg
  have key : ∃ es, stepG.apply P true (b.atR a (.inRegion ops (i :: rest) :: k)) cs none (execOp a.eval o) w = .comm (G (b.atR a (.inRegion ops (i :: rest) :: k)) cs) cases blocking shape w' es := by
    unfold stepG.apply
    simp only [Sem.runT_eq, hr, if_true]
    exact ⟨_, rfl⟩
  obtain ⟨es, he⟩ := key
  exact ⟨es, hg.trans he⟩
theorem OpTo.send {i c cap s r : Nat} {o : Oper} {K : Act -> World -> Prop} (ho : ops[i]? = some o) (hw : Region.wanted o (yielded ops a.tmps) = true) {x y : Operand} (hop : o.op = .send x y) (hx : a.eval x = .chan (some c)) {buf : Array Value}
    (hc : w.heap[c]? = some (.chan cap buf false s r false)) (hroom : buf.size < cap) (h : K (a.put o.dst undef) (w.putObj c (.chan cap (buf.push (a.eval y)) false (s + 1) r false))) : OpTo ro n P ops Q i K a w := by
  intro rest hk b k cs hro hb hrm
  obtain ⟨e, a', w'', hq, harr⟩ := hk _ _ h b k cs hro hb hrm
  have h0 : (lone (b.atR a (.inRegion ops (i :: rest) :: k)) cs w).fenced P (FW ro) := fenced_oper hb hrm ho fun _ _ => trivial
  obtain ⟨es, hg⟩ := stepG_commR (P := P) (b := b) (k := k) (cs := cs) (rest := rest) ho hw (fun c' h' => by rw [hop] at h'; cases h') (w := w) (cases := #[scase c (a.eval y) (.tuple #[])]) (blocking := true) (shape := .send) (w' := w) (by simp [execOp, hop, hx, scase])
  refine ⟨e, a', w'', hq, .of_steps (.one h0 ?_) harr⟩
  have := step_lone_send_room hg hc hroom
  rw [fin_atR ho] at this
  exact this
theorem OpTo.recv {i c cap s r : Nat} {o : Oper} {K : Act -> World -> Prop} (ho : ops[i]? = some o) (hw : Region.wanted o (yielded ops a.tmps) = true) {x : Operand} {t e : TypeId} {d : ChanDir} {z : Value} (hop : o.op = .recv t x true) (hx : a.eval x = .chan (some c))
    (ht : P.underlying t = some (.chan d e)) (hz : (zeroValue e).run P w = .ok z w) {buf : Array Value} {cl : Bool} (hc : w.heap[c]? = some (.chan cap buf cl s r false))
    (h1 : 0 < buf.size -> K (a.put o.dst (.tuple #[buf.getD 0 undef, .bool true])) (w.putObj c (.chan cap (buf.extract 1 buf.size) cl s (r + 1) false)))
    (h2 : buf.size = 0 -> cl = true /\ K (a.put o.dst (.tuple #[z, .bool false])) w) : OpTo ro n P ops Q i K a w := by
  intro rest hk b k cs hro hb hrm
  have h0 : (lone (b.atR a (.inRegion ops (i :: rest) :: k)) cs w).fenced P (FW ro) := fenced_oper hb hrm ho fun _ _ => trivial
  obtain ⟨es, hg⟩ := stepG_commR (P := P) (b := b) (k := k) (cs := cs) (rest := rest) ho hw (fun c' h' => by rw [hop] at h'; cases h') (w := w) (cases := #[rcase c z]) (blocking := true) (shape := .recv true) (w' := w) (by simp [execOp, hop, hx, rcase, run_underlying ht, hz])
  rcases Nat.eq_zero_or_pos buf.size with hb0 | hb0
  . obtain ⟨rfl, hK⟩ := h2 hb0
    obtain ⟨e, a', w'', hq, harr⟩ := hk _ _ hK b k cs hro hb hrm
    have hbe : buf = #[] := Array.size_eq_zero_iff.1 hb0
    subst hbe
    refine ⟨e, a', w'', hq, .of_steps (.one h0 ?_) harr⟩
    have := step_lone_recv_shut true hg hc
    rw [fin_atR ho] at this
    exact this
  . obtain ⟨e, a', w'', hq, harr⟩ := hk _ _ (h1 hb0) b k cs hro hb hrm
    refine ⟨e, a', w'', hq, .of_steps (.one h0 ?_) harr⟩
    have := step_lone_recv_buf true hg hc hb0
    rw [fin_atR ho] at this
    exact this
end
end Go.Lat
namespace Go.Lat
open Go.RowKit Go.Conc

section
variable {X : Nat -> Prop} {D : List Deferred × Rho} {w0 : World} {mA : Mem} {P : Program} {T : TT}
def simpleO (o : Oper) : Bool := !Op.isCall o.op && o.guard.isNone
theorem opTo_stepI (hT : TsOk P T) {ops ops' : Array Oper} {i : Nat} {K : St -> Prop} (he : ops[i]? = ops'[i]?) (hp : ∀ o, ops[i]? = some o -> simpleO o = true) {st : St} (h : stepI P T ops' i st K) {r : Rho} {m : MM} {a : Act} {w : World} (hR : R X D w0 mA r m st a w)
    {ro : Option Nat} {n : Nat} {Q : Exit -> Act -> World -> Prop} : OpTo ro n P ops Q i (fun a w => ∃ s r m, K s /\ R X D w0 mA r m s a w) a w := by
  unfold stepI at h
  rcases ho : ops'[i]? with _ | o
  . rw [ho] at h he
    refine OpTo.skipped (fun o h' => by rw [he] at h'; cases h') ?_
    rw [he]
    exact ⟨st, r, m, h, hR⟩
  . rw [ho] at h he
    have hs := hp o he
    simp only [simpleO, Bool.and_eq_true, Bool.not_eq_true', Option.isNone_iff_eq_none] at hs
    have hg := hs.2
    have h : Go.Lat.stepG P T ops'.toList o st K := h
    unfold Go.Lat.stepG at h
    rw [hg] at h
    have h : opC P T o st (fun v hp => K (St.put ⟨st.nt, st.tm, hp, st.ho⟩ o.dst v)) := h
    rw [opC_plain (fun f args tys hf => by rw [hf] at hs; cases hs.1)] at h
    obtain ⟨y, u, w', r', h', nx, hK, _, hv, hrun, hnx, hR'⟩ := opR_sound hT hR o h
    refine OpTo.plain he (by simp [Region.wanted, hg]) (fun c hc => by rw [hc] at h; exact h) hrun hnx ?_
    exact ⟨_, r', m, hK, hR'.put o.dst hv⟩

theorem Rest.head {ops : Array Oper} {A : List (List Nat)} {listed : Array Bool} {i : Nat} {l : List Nat} (hr : Rest ops A listed (i :: l)) : i ∈ Region.ready .any ops listed := by
  have h1 := hr.open' i (by simp)
  have hlt : i < ops.size := by
    rw [<- hr.size]
    rcases Nat.lt_or_ge i listed.size with h' | h'
    . exact h'
    . simp [Array.getElem?_eq_none h'] at h1
  refine mem_ready.2 ⟨h1, ops[i], by simp [hlt], fun e he hb => ?_⟩
  have hd : e.on ∈ dirs ops i := by
    simp only [dirs, Array.getElem?_eq_getElem hlt, List.mem_map, List.mem_filter]
    exact ⟨e, ⟨by simpa using he, hb⟩, rfl⟩
  by_cases hsz : e.on < ops.size
  . rcases hr.all e.on hsz with h2 | h2
    . exact h2
    . exfalso
      rcases List.mem_cons.1 h2 with h3 | h3
      . exact (hr.self i hlt _ hd).2 h3
      . have h4 := (List.pairwise_cons.1 hr.pair).1 _ h3
        simp only [relB, Bool.and_eq_true, Bool.not_eq_true'] at h4
        have h5 := h4.1
        simp at h5
        exact h5 hd
  . exact absurd (hr.self i hlt _ hd).1 hsz

theorem any_last (hT : TsOk P T) {ops ops' : Array Oper} {A : List (List Nat)} {z : Nat} {oz : Oper} (hA : chkA ops' A = true) (hsz : ops'.size = ops.size) (hsame : ∀ i, i ≠ z -> ops[i]? = ops'[i]?)
    (hrd : ∀ listed, Region.ready .any ops' listed = Region.ready .any ops listed) (hp : ∀ i o, i ≠ z -> ops[i]? = some o -> simpleO o = true) (hz' : ops'[z]? = some oz) (hzo : oz.op = .move (.const (.bool true)) /\ oz.dst = none /\ oz.guard = none)
    (hall : ∀ j, j < ops.size -> j ≠ z -> j ∈ A.getD z []) {K : St -> Prop} {ro : Option Nat} {n : Nat} {Q : Exit -> Act -> World -> Prop}
    (hK : ∀ s r m a w, K s -> R X D w0 mA r m s a w -> OpTo ro n P ops Q z (fun a w => Q .normal a w) a w) :
    ∀ (fuel t : Nat) (listed : Array Bool) (l : List Nat) (st : St) {r : Rho} {m : MM} {a : Act} {w : World}, Rest ops' A listed l -> z ∈ l -> l.length = fuel -> R X D w0 mA r m st a w -> anyS P T ops' K fuel listed st →
      OpsTo (FW ro) n P ops Q (Region.linearise.go .any ops fuel t listed []) a w := by
  intro fuel
  induction fuel with
  | zero =>
    intro t listed l st r m a w hr hzl hl hR h
    rw [List.eq_nil_of_length_eq_zero hl] at hzl
    cases hzl
  | succ fuel ih =>
    intro t listed l st r m a w hr hzl hl hR h
    obtain ⟨_, h2⟩ := h hR.wf
    simp only [Region.linearise.go]
    change OpsTo (FW ro) n P ops Q (match (Region.ready .any ops listed)[t % (Region.ready .any ops listed).length]? with
      | some i => Region.linearise.go .any ops fuel (t / (Region.ready .any ops listed).length) (listed.setIfInBounds i true) [i]
      | none => [].reverse) a w
    obtain ⟨i0, l0, rfl⟩ : ∃ i l', l = i :: l' := by
      cases l with
      | nil => cases hzl
      | cons i l' => exact ⟨i, l', rfl⟩
    have hne : (Region.ready .any ops listed).length ≠ 0 := by
      have := hr.head
      rw [hrd] at this
      intro h0
      rw [List.eq_nil_of_length_eq_zero h0] at this
      cases this
    cases hi : (Region.ready .any ops listed)[t % (Region.ready .any ops listed).length]? with
    | none =>
      have hlt : t % (Region.ready .any ops listed).length < (Region.ready .any ops listed).length := Nat.mod_lt _ (by omega)
      rw [List.getElem?_eq_getElem hlt] at hi
      cases hi
    | some i =>
      simp only []
      rw [linearise_go_acc, List.reverse_singleton, List.singleton_append]
      have hmem : i ∈ Region.ready .any ops' listed := by rw [hrd]; exact List.mem_of_getElem? hi
      have hstep := h2 i hmem
      have hil := hr.ready_mem hmem
      obtain ⟨pre, rest, hpr⟩ := List.append_of_mem hil
      rw [hpr] at hr hzl hl
      have hnext := hr.next hmem
      by_cases hiz : i = z
      . subst hiz
        have hltz : i < ops'.size := (Array.getElem?_eq_some_iff.1 hz').1
        have hlist : ∀ j, j < ops'.size -> (listed.setIfInBounds i true).getD j false = true := fun j hj => by
          by_cases hji : j = i
          . subst hji
            have := hr.size
            simp [this, hltz]
          . exact getD_set_true (hr.anc hA i (dirs_ready hmem) j (hall j (by omega) hji) hltz)
        have hnil : Region.ready .any ops (listed.setIfInBounds i true) = [] := by
          rw [<- hrd]
          rcases hq : Region.ready .any ops' (listed.setIfInBounds i true) with _ | ⟨j, l'⟩
          . rfl
          . have hj : j ∈ Region.ready .any ops' (listed.setIfInBounds i true) := by rw [hq]; simp
            obtain ⟨e1, o, ho, _⟩ := mem_ready.1 hj
            have := hlist j (Array.getElem?_eq_some_iff.1 ho).1
            rw [getD_tf e1] at this
            cases this
        have hst : anyS P T ops' K fuel (listed.setIfInBounds i true) st := by
          unfold stepI at hstep
          rw [hz'] at hstep
          have hstep : Go.Lat.stepG P T ops'.toList oz st (fun s => anyS P T ops' K fuel (listed.setIfInBounds i true) s) := hstep
          unfold Go.Lat.stepG at hstep
          rw [hzo.2.2] at hstep
          have hstep : opC P T oz st (fun v hp => anyS P T ops' K fuel (listed.setIfInBounds i true) (St.put ⟨st.nt, st.tm, hp, st.ho⟩ oz.dst v)) := hstep
          unfold opC at hstep
          rw [hzo.1, hzo.2.1] at hstep
          exact hstep
        have hKst : K st := by
          cases fuel with
          | zero => exact hst.2
          | succ f => exact (hst hR.wf).1 (by rw [hrd]; exact hnil)
        refine hK st r m a w hKst hR _ fun a1 w1 hq => ?_
        have : Region.linearise.go .any ops fuel (t / (Region.ready .any ops listed).length) (listed.setIfInBounds i true) [] = [] := by
          cases fuel with
          | zero => rfl
          | succ f =>
            simp only [Region.linearise.go]
            change (match (Region.ready .any ops (listed.setIfInBounds i true))[(t / (Region.ready .any ops listed).length) % (Region.ready .any ops (listed.setIfInBounds i true)).length]? with
              | some i' => Region.linearise.go .any ops f ((t / (Region.ready .any ops listed).length) / (Region.ready .any ops (listed.setIfInBounds i true)).length) ((listed.setIfInBounds i true).setIfInBounds i' true) [i']
              | none => [].reverse) = []
            rw [hnil]
            rfl
        rw [this]
        exact OpsTo.nil hq
      . refine opTo_stepI hT (hsame i hiz) (fun o ho => hp i o hiz ho) hstep hR _ ?_
        rintro a1 w1 ⟨s, r1, m1, hs, hR1⟩
        refine ih _ _ (pre ++ rest) s hnext ?_ (by simp at hl ⊢; omega) hR1 hs
        rcases List.mem_append.1 hzl with h3 | h3
        . exact List.mem_append_left _ h3
        . rcases List.mem_cons.1 h3 with h4 | h4
          . exact absurd h4.symm hiz
          . exact List.mem_append_right _ h4
end

theorem W.sendD {P : Program} {T : TT} {st : St} {Q : Ex -> St -> Prop} {c : Code} {id : Nat} {ol A : List Oper} {x y : Operand} {ty : TypeId} {pos : String} {af : Array Edge} (ord : List Nat) (hl : ol = A ++ [⟨none, .send x y, ty, pos, af, none⟩])
    (hc : chk (A ++ [(⟨none, .move (.const (.bool true)), ty, pos, af, none⟩ : Oper)]).toArray ord = true) (hin : allIn (A ++ [(⟨none, .move (.const (.bool true)), ty, pos, af, none⟩ : Oper)]) ord = true) (hs : A.all simpleO = true)
    (ha : (List.range A.length).all (fun j => ((ancs (A ++ [(⟨none, .move (.const (.bool true)), ty, pos, af, none⟩ : Oper)]).toArray).getD A.length []).contains j) = true)
    (h : seqL P T (A ++ [(⟨none, .move (.const (.bool true)), ty, pos, af, none⟩ : Oper)]) [] 0 (pickL (A ++ [(⟨none, .move (.const (.bool true)), ty, pos, af, none⟩ : Oper)]) ord) st fun s =>
      ∃ (i cap : Nat) (buf : List AV), St.eval s x = .chn i /\ s.heap[i]? = some (.chan cap false buf) /\ buf.length < cap /\ W P T c { s with heap := s.heap.set i (.chan cap false (buf ++ [St.eval s y])) } Q) :
    W P T (.seq (.region id ol.toArray true) c) st Q := fun hT hf ro hro n X D w0 mA r m a w hR => by
  subst hl
  have hro2 : ro ≠ none -> noRg c = true := fun h0 => by have := hro h0; simpa only [noRg, Bool.and_eq_true, true_and] using this
  refine wpIn_seq (wpIn_region_draw_to fun t => ?_)
  have hR' : R X D w0 mA r m st a { w with drawn := w.drawn + 1 } := { hR with }
  obtain ⟨h1, h2, h3⟩ := chk_rest hc
  have hany := any_of_seq (P := P) (T := T) h1 _ _ ord st h2 h3 (seqL_seqI (G := []) ord _ 0 st (pickL_spec hin) h)
  simp only [Region.schedule, hf, Bool.true_or, if_true]
  have gl : ∀ i, i ≠ A.length -> (A ++ [(⟨none, .send x y, ty, pos, af, none⟩ : Oper)]).toArray[i]? = (A ++ [(⟨none, .move (.const (.bool true)), ty, pos, af, none⟩ : Oper)]).toArray[i]? := fun i hi => by
    simp only [List.getElem?_toArray]
    rcases Nat.lt_or_ge i A.length with hlt | hge
    . rw [List.getElem?_append_left hlt, List.getElem?_append_left hlt]
    . rw [List.getElem?_eq_none (by simp; omega), List.getElem?_eq_none (by simp; omega)]
  have hsz : (A ++ [(⟨none, .send x y, ty, pos, af, none⟩ : Oper)]).toArray.size = (A ++ [(⟨none, .move (.const (.bool true)), ty, pos, af, none⟩ : Oper)]).toArray.size := by simp
  show OpsTo _ _ _ _ _ (Region.linearise .any _ t) _ _
  unfold Region.linearise
  rw [hsz]
  refine any_last hT h1 hsz.symm gl ?_ ?_ (z := A.length) (oz := ⟨none, .move (.const (.bool true)), ty, pos, af, none⟩) (by simp) ⟨rfl, rfl, rfl⟩ ?_ ?_ _ t _ ord st h2 ?_ h3 hR' hany
  . intro listed
    unfold Region.ready
    rw [hsz]
    refine List.filter_congr fun i hi => ?_
    by_cases e : i = A.length
    . subst e; simp
    . rw [gl i e]
  . intro i o hi ho
    rw [List.getElem?_toArray] at ho
    rcases Nat.lt_or_ge i A.length with hlt | hge
    . rw [List.getElem?_append_left hlt] at ho
      exact List.all_eq_true.1 hs o (List.mem_of_getElem? ho)
    . rw [List.getElem?_eq_none (by simp; omega)] at ho; cases ho
  . intro j hj hne
    have hlt : j < A.length := by simp at hj; omega
    have := List.all_eq_true.1 ha j (by simpa using hlt)
    simpa using this
  . rintro s r1 m1 a1 w1 ⟨i, cap, buf, e1, e2, e3, hW⟩ hR1
    have hx := hR1.eval x
    rw [e1] at hx
    simp only [VR] at hx
    obtain ⟨b, c0, hb, hx⟩ := hx
    obtain ⟨b', c', bv, s0, rc, f1, f2, f3⟩ := hR1.obj i _ e2
    rw [hb] at f1; cases f1
    have hlen := f3.length
    simp only [Array.length_toList] at hlen
    have hlt := (Array.getElem?_eq_some_iff.1 f2).1
    refine OpTo.send (by simp; rfl) (by simp [Region.wanted]) (x := x) (y := y) rfl hx f2 (by omega) ?_
    have hR2 : R X D w0 mA r1 m1 { s with heap := s.heap.set i (.chan cap false (buf ++ [St.eval s y])) } a1 (w1.putObj b (.chan cap (bv.push (a1.eval y)) false (s0 + 1) rc false)) :=
      hR1.modify e2 rfl hb (grownBy_putObj' w1 b _) ⟨b, c0, _, s0 + 1, rc, hb, World.putObj_heap_same hlt, by rw [Array.toList_push]; exact f3.app (VRs.one (hR1.eval y))⟩
    exact wpIn_mono (hW hT hf ro hro2 n X D w0 mA r1 m1 a1 _ hR2) fun _ _ _ => relQ_weak fun hh => by simpa only [noRg, Bool.and_eq_true, true_and] using hh
  . have := h2.all A.length (by simp)
    rcases this with h4 | h4
    . exfalso
      rw [Array.getD_eq_getD_getElem?] at h4
      simp at h4
    . exact h4
end Go.Lat
namespace Go.Lat
open Go.RowKit
def encC {α : Type} (e : α -> List AV) (xs : List α) : List AV := xs.map fun x => .agg (e x)
theorem zeros_encL {α : Type} {e : α -> List AV} {sz : Nat} (hw : Wd e sz) (x : α) (n : Nat) : zerosA n sz (e x) = zYy e (List.replicate n x) := by
  apply List.ext_getElem?
  intro i
  unfold zerosA
  rcases Nat.lt_or_ge i (n * sz) with h | h
  . rw [List.getElem?_map, List.getElem?_range h]
    have hsz : 0 < sz := by
      rcases Nat.eq_zero_or_pos sz with h0 | h0
      . subst h0; simp at h
      . exact h0
    have hq : i / sz < n := Nat.div_lt_of_lt_mul (by rw [Nat.mul_comm]; exact h)
    have e1 : i = i / sz * sz + i % sz := by rw [Nat.mul_comm]; exact (Nat.div_add_mod i sz).symm
    have e2 := encL_drop hw (List.replicate n x) (i / sz)
    have e3 : (List.replicate n x).drop (i / sz) = x :: (List.replicate n x).drop (i / sz + 1) := by
      rw [List.drop_eq_getElem_cons (by simpa using hq)]; simp
    rw [e3, encL_cons] at e2
    have hm : i % sz < (e x).length := by rw [hw]; exact Nat.mod_lt _ hsz
    have e4 : (zYy e (List.replicate n x))[i]? = ((zYy e (List.replicate n x)).drop (i / sz * sz))[i % sz]? := by
      rw [List.getElem?_drop, <- e1]
    rw [e4, e2, List.getElem?_append_left hm]
    simp [List.getD, List.getElem?_eq_getElem hm]
  . rw [List.getElem?_eq_none (by simpa using h), List.getElem?_eq_none (by rw [zYw hw, List.length_replicate]; exact h)]
section
variable {P : Program} {T : TT} {d : Option Tmp} {ty : TypeId} {pos : String} {af : Array Edge} {g : Option (Nat × Bool)} {n : Nat} {l : List (Nat × AV)} {h : List AObj} {b : Nat} {K : AV -> List AObj -> Prop} {a a2 a3 : Operand}
theorem o_mkS {t e : TypeId} {s by_ es eb p : Nat} {z ez : List AV} {ek : TK} {α : Type} {en : α -> List AV} {x0 : α} {x : Int} (ht : T t = some ⟨.sl e, s, by_, z⟩) (he : T e = some ⟨ek, es, eb, ez⟩) (hb : (Nat.ble 1 es && Nat.ble eb 131072) = true)
    (h1 : St.eval ⟨n, look l, h, b⟩ a = .int .i64 x) (h2 : St.eval ⟨n, look l, h, b⟩ a2 = .int .i64 x) (hw : Wd en es) (hz : ez = en x0) (hx : 0 <= x /\ x <= 1073741824) (hp : h.length = p) (hk : K (.ref false p x.toNat) (h ++ [.row e es (zYy en (List.replicate x.toNat x0))])) :
    opC P T ⟨d, .makeSlice t a a2, ty, pos, af, g⟩ ⟨n, look l, h, b⟩ K := by
  subst hp; subst hz
  show makeSliceA T h t (St.eval ⟨n, look l, h, b⟩ a) (St.eval ⟨n, look l, h, b⟩ a2) K
  simp only [Bool.and_eq_true] at hb
  rw [h1, h2]; simp only [makeSliceA, ht, he]
  rw [zeros_encL hw]
  exact ⟨⟨trivial, hx.1, hx.2, Nat.le_of_ble_eq_true hb.1, Nat.le_of_ble_eq_true hb.2⟩, hk⟩
theorem o_mkC {α : Type} (en : α -> List AV) {t e : TypeId} {s by_ es eb p : Nat} {z ez : List AV} {ek : TK} {x : Int} (ht : T t = some ⟨.ch e, s, by_, z⟩) (he : T e = some ⟨ek, es, eb, ez⟩) (hb : Nat.ble eb 131072 = true) (h1 : St.eval ⟨n, look l, h, b⟩ a = .int .i64 x) (hx : 0 <= x /\ x <= 65536) {c : Nat} (hc : x.toNat = c) (hp : h.length = p)
    (hk : K (.chn p) (h ++ [.chan c false (encC en [])])) : opC P T ⟨d, .makeChan t a, ty, pos, af, g⟩ ⟨n, look l, h, b⟩ K := by
  subst hp; subst hc
  show makeChanA T h t (St.eval ⟨n, look l, h, b⟩ a) K
  rw [h1]; simp only [makeChanA, ht, he]
  exact ⟨⟨hx.1, hx.2, Nat.le_of_ble_eq_true hb⟩, hk⟩
theorem o_close {i c : Nat} {buf : List AV} {tys : Array TypeId} (h1 : St.eval ⟨n, look l, h, b⟩ a = .chn i) (ho : h[i]? = some (.chan c false buf)) (hk : K (.tup []) (h.set i (.chan c true buf))) : opC P T ⟨d, .call ⟨.builtin .close, #[a], tys⟩, ty, pos, af, g⟩ ⟨n, look l, h, b⟩ K := by
  show closeA h (St.eval ⟨n, look l, h, b⟩ a) K
  rw [h1]; simp only [closeA, ho]
  exact hk
theorem wdV {q : Nat} : Wd (fun v : Vector Int q => zYy zYx v.toList) q := fun v => by
  show (zYy zYx v.toList).length = q
  rw [ints_map]; simp
theorem ca_rowV {q : Nat} {xs : List (Vector Int q)} {t id : Nat} {i : Int} {k : Nat} (ho : h[id]? = some (.row t q (zYy (fun v : Vector Int q => zYy zYx v.toList) xs))) (hj : 0 <= i /\ i < (xs.length : Int)) (hk : k < q) :
    ∃ rest, cellsAt h (.ptr id (i.toNat * q + k)) = some (.int .i64 (vat (lat xs i) k) :: rest) := by
  obtain ⟨rest, hr⟩ := encL_at' wdV xs i k (Nat.le_of_lt hk) hj.1 hj.2
  obtain ⟨r2, hr2⟩ := ints_at (lat xs i) k hk
  refine ⟨r2 ++ rest, ?_⟩
  simp only [cellsAt, ho, hr]
  rw [hr2]; rfl
theorem row_inV {q : Nat} {xs : List (Vector Int q)} {i : Int} (hj : 0 <= i /\ i < (xs.length : Int)) {k : Nat} (hk : k < q) : i.toNat * q + k + [AV.int .i64 0].length <= (zYy (fun v : Vector Int q => zYy zYx v.toList) xs).length := by
  rw [zYw wdV]
  have hj' : i.toNat < xs.length := by omega
  have := Nat.mul_le_mul_right q hj'
  rw [Nat.succ_mul] at this
  show _ + 1 <= _
  omega
theorem row_setV {q : Nat} (xs : List (Vector Int q)) {i : Int} (hj : 0 <= i /\ i < (xs.length : Int)) {k : Nat} (hk : k < q) (v : Int) :
    Lat.spl (zYy (fun v : Vector Int q => zYy zYx v.toList) xs) (i.toNat * q + k) [.int .i64 v] = zYy (fun v : Vector Int q => zYy zYx v.toList) (xs.set i.toNat (vset (lat xs i) k v)) := by
  have hw : Wd (fun v : Vector Int q => zYy zYx v.toList) q := wdV
  have hlt : i.toNat < xs.length := by omega
  have hlen : (zYy (fun v : Vector Int q => zYy zYx v.toList) xs).length = xs.length * q := zYw hw xs
  have hle : i.toNat * q + q <= xs.length * q := by
    have := Nat.mul_le_mul_right q hlt
    rw [Nat.succ_mul] at this
    exact this
  have hs := ints_set (lat xs i) k v
  have hr0 := row_set hw xs i (vset (lat xs i) k v) rfl hj.1 hj.2
  have hlB : (zYy zYx (lat xs i).toList).length = q := by rw [ints_map]; simp
  have hlC : (zYy zYx (vset (lat xs i) k v).toList).length = q := by rw [ints_map]; simp
  rw [Lat.spl_eq _ _ _ (by rw [hlB]; show k + 1 <= q; omega)] at hs
  rw [Lat.spl_eq _ _ _ (by rw [hlen]; show _ + (zYy zYx (vset (lat xs i) k v).toList).length <= _; rw [hlC]; exact hle)] at hr0
  rw [Lat.spl_eq _ _ _ (by rw [hlen]; show i.toNat * q + k + 1 <= _; omega), <- hr0]
  show _ = _ ++ zYy zYx (vset (lat xs i) k v).toList ++ List.drop (_ + (zYy zYx (vset (lat xs i) k v).toList).length) _
  rw [hlC, <- hs]
  obtain ⟨rest, hr⟩ := encL_at hw xs i hj.1 hj.2
  have hl : (zYy zYx (lat xs i).toList).length = q := by rw [ints_map]; simp
  generalize zYy (fun v : Vector Int q => zYy zYx v.toList) xs = A at *
  generalize zYy zYx (lat xs i).toList = B at *
  generalize i.toNat * q = m at *
  have e1 : A = A.take m ++ (B ++ rest) := by rw [<- hr, List.take_append_drop]
  have hm : (A.take m).length = m := by rw [List.length_take]; omega
  have f1 : A.take (m + k) = A.take m ++ B.take k := by
    conv => lhs; rw [e1]
    rw [List.take_append, hm, List.take_of_length_le (by omega), show m + k - m = k by omega, List.take_append, show k - B.length = 0 by omega]; simp
  have f2 : A.drop (m + k + 1) = B.drop (k + 1) ++ rest := by
    conv => lhs; rw [e1]
    rw [List.drop_append, hm, List.drop_of_length_le (by omega), show m + k + 1 - m = k + 1 by omega, List.drop_append, show k + 1 - B.length = 0 by omega]; simp
  have f3 : A.drop (m + q) = rest := by
    conv => lhs; rw [e1]
    rw [List.drop_append, hm, List.drop_of_length_le (by omega), show m + q - m = q by omega, List.drop_append, List.drop_of_length_le (by omega), hl]; simp
  show A.take (m + k) ++ [AV.int .i64 v] ++ A.drop (m + k + 1) = A.take m ++ (B.take k ++ [AV.int .i64 v] ++ B.drop (k + 1)) ++ A.drop (m + q)
  rw [f1, f2, f3]
  simp
theorem ag_subA (k : Nat) {id t q m : Nat} {i : Int} {xs : List (Vector Int q)} {ys : List Int} (ho : h[id]? = some (.row t q (zYy (fun v : Vector Int q => zYy zYx v.toList) xs))) (hj : 0 <= i /\ i < (xs.length : Int)) (hy : (lat xs i).toList.take m = ys) (hm : m = ys.length) :
    Wk (conv (k + 2) h (.sub id (i.toNat * q) m)) (.lst true ys.length (zYy zYx ys)) := by
  subst hm
  simp only [conv, ho]
  split
  . rename_i h0
    have : ys = [] := List.eq_nil_of_length_eq_zero h0
    subst this
    exact Wk.refl _
  . obtain ⟨rest, hr⟩ := encL_at wdV xs i hj.1 hj.2
    rw [hr, List.map_append]
    refine (Wk.lsts _ _ (Wks.app (encL_cv zZw k h true (lat xs i).toList) (Wks.refl _) (by rw [List.length_map]))).trans ?_
    have e2 := encL_take wdInt (lat xs i).toList ys.length
    rw [hy] at e2
    have e3 : (zYy zYx (lat xs i).toList ++ rest.map (conv (k + 1) h)).take (ys.length * 1) = zYy zYx ys := by
      have hle : ys.length <= (lat xs i).toList.length := by rw [<- hy, List.length_take]; omega
      rw [List.take_append, ints_map (lat xs i).toList, List.length_map, show ys.length * 1 - (lat xs i).toList.length = 0 by omega, List.take_zero, List.append_nil, <- ints_map, e2]
    rw [<- e3]
    exact Wk.take _ _ _ _
end
theorem encC_one {α : Type} (e : α -> List AV) (xs : List α) (x : α) : encC e xs ++ [.agg (e x)] = encC e (xs ++ [x]) := by simp [encC]
theorem flatC_enc {α : Type} {e : α -> List AV} (hf : ∀ x, (e x).all flatV = true) (k : Nat) (cl : Bool) (xs : List α) : flatC (.chan k cl (encC e xs)) := by
  intro c hc
  obtain ⟨x, -, rfl⟩ := List.mem_map.1 hc
  exact hf x
theorem Rens.encC {α : Type} {e : α -> List AV} (hf : ∀ x, (e x).all flatV = true) (φ : List (Option Nat)) (xs : List α) : Rens φ (encC e xs) (Lat.encC e xs) := fun r m vs hm hv => VRs_flatB (fun c hc => by
  obtain ⟨x, -, rfl⟩ := List.mem_map.1 hc
  exact hf x) hv
section
variable {P : Program} {T : TT} {Q : Ex -> St -> Prop} {c : Code} {n : Nat} {l : List (Nat × AV)} {h : List AObj} {b : Nat}
theorem sndE {α : Type} {e : α -> List AV} {xs : List α} {x : α} {i cap : Nat} {xo yo : Operand} (h1 : St.eval ⟨n, look l, h, b⟩ xo = .chn i) (h2 : h[i]? = some (.chan cap false (encC e xs))) (hl : xs.length < cap) (hv : St.eval ⟨n, look l, h, b⟩ yo = .agg (e x))
    (hk : W P T c ⟨n, look l, h.set i (.chan cap false (encC e (xs ++ [x]))), b⟩ Q) :
    ∃ (i cap : Nat) (buf : List AV), St.eval ⟨n, look l, h, b⟩ xo = .chn i /\ (St.mk n (look l) h b).heap[i]? = some (.chan cap false buf) /\ buf.length < cap /\ W P T c { (St.mk n (look l) h b) with heap := (St.mk n (look l) h b).heap.set i (.chan cap false (buf ++ [St.eval ⟨n, look l, h, b⟩ yo])) } Q :=
  ⟨i, cap, _, h1, h2, by simpa [encC] using hl, by rw [hv, encC_one]; exact hk⟩
end
theorem W.rcv {P : Program} {T : TT} {Q : Ex -> St -> Prop} {c : Code} {n : Nat} {l : List (Nat × AV)} {h : List AObj} {b : Nat} {id d i cap : Nat} {α : Type} {e : α -> List AV} {xs : List α} {B : List Oper} {t et : TypeId} {s by_ es eb : Nat} {z ez : List AV} {ek : TK} {x : Operand} {ty : TypeId} {pos : String} {af : Array Edge}
    (ht : T t = some ⟨.ch et, s, by_, z⟩) (he : T et = some ⟨ek, es, eb, ez⟩) (hB : B.all simpleO = true) (h1 : St.eval ⟨n, look l, h, b⟩ x = .chn i) (h2 : h[i]? = some (.chan cap true (encC e xs))) (hd : Nat.ble (d + 1) n = true)
    (hk1 : ∀ y ys, xs = y :: ys -> seqL P T (⟨some d, .recv t x true, ty, pos, af, none⟩ :: B) [] 1 B ⟨n, look ((d, .tup [.agg (e y), .bool true]) :: l), h.set i (.chan cap true (encC e ys)), b⟩ fun s => W P T c s Q)
    (hk2 : xs = [] -> seqL P T (⟨some d, .recv t x true, ty, pos, af, none⟩ :: B) [] 1 B ⟨n, look ((d, .tup [.any, .bool false]) :: l), h, b⟩ fun s => W P T c s Q) :
    W P T (.seq (.region id (⟨some d, .recv t x true, ty, pos, af, none⟩ :: B).toArray false) c) ⟨n, look l, h, b⟩ Q := fun hT hf ro hro N X D w0 mA r m a w hR => by
  have hro2 : ro ≠ none -> noRg c = true := fun h0 => by have := hro h0; simpa only [noRg, Bool.and_eq_true, true_and] using this
  generalize hol : (⟨some d, .recv t x true, ty, pos, af, none⟩ :: B : List Oper) = ol at *
  have hdn : d < n := Nat.le_of_ble_eq_true hd
  have hx := hR.eval x
  rw [h1] at hx
  simp only [VR] at hx
  obtain ⟨bb, c0, hb, hx⟩ := hx
  obtain ⟨b', c', bv, s0, rc, f1, f2, f3⟩ := hR.obj i _ h2
  rw [hb] at f1; cases f1
  have hlt := (Array.getElem?_eq_some_iff.1 f2).1
  obtain ⟨zz, hz, hzv, hz1⟩ := (hT et _ he).run_zero (P := P) w
  obtain ⟨dd, hch⟩ := (hT t _ ht).kind
  -- what follows
  have tail : ∀ (l' : List Oper) (j : Nat) {r : Rho} {m : MM} {st : St} {a : Act} {w : World}, R X D w0 mA r m st a w -> seqL P T ol [] j l' st (fun s => W P T c s Q) -> (∀ k o, l'[k]? = some o -> ol[j + k]? = some o /\ simpleO o = true) →
      OpsTo (FW ro) N P ol.toArray (fun e a w => Exit.then (c.wpIn (FW ro) N P (relQ (noRg c) X D w0 mA Q)) (relQ (noRg c) X D w0 mA Q) e a w) (List.range' j l'.length) a w := by
    intro l'
    induction l' with
    | nil => intro j r m st a w hR' hs _; exact OpsTo.nil (hs hT hf ro hro2 N X D w0 mA r m a w hR')
    | cons o l' ih =>
      intro j r m st a w hR' hs hg
      obtain ⟨g1, g2⟩ := hg 0 o rfl
      rw [Nat.add_zero] at g1
      rw [List.length_cons, List.range'_succ]
      have hstep : stepI P T ol.toArray j st (fun s => seqL P T ol [] (j + 1) l' s fun s => W P T c s Q) := by
        unfold stepI
        rw [List.getElem?_toArray, g1]
        have hs : Lat.stepG P T ol o st fun s => splitT (List.contains [] j) o.dst s fun s' => seqL P T ol [] (j + 1) l' s' fun s => W P T c s Q := hs
        exact stepG_mono' (ops := ol.toArray) hs fun s h => splitT_sound h
      refine opTo_stepI hT rfl (fun o' ho' => ?_) hstep hR' _ ?_
      . rw [List.getElem?_toArray, g1] at ho'
        cases ho'; exact g2
      . rintro a1 w1 ⟨s1, r1, m1, q1, q2⟩
        exact ih (j + 1) q2 q1 fun k o' hk => by
          have := hg (k + 1) o' (by simpa using hk)
          rw [show j + (k + 1) = j + 1 + k by omega] at this
          exact this
  have hB' : ∀ k o, B[k]? = some o -> ol[1 + k]? = some o /\ simpleO o = true := fun k o hk => by
    rw [<- hol, Nat.add_comm]
    exact ⟨by simpa using hk, List.all_eq_true.1 hB o (List.mem_of_getElem? hk)⟩
  refine wpIn_seq (wpIn_mono (Q := fun e a w => Exit.then (c.wpIn (FW ro) N P (relQ (noRg c) X D w0 mA Q)) (relQ (noRg c) X D w0 mA Q) e a w) (wpIn_region_to ?_) fun e' a' w' he' => ?_)
  . have e1 : List.range ol.toArray.size = 0 :: List.range' 1 B.length := by
      rw [<- hol, List.range_eq_range']; simp [List.range'_succ]
    rw [e1]
    have g0 : ol.toArray[0]? = some ⟨some d, .recv t x true, ty, pos, af, none⟩ := by rw [<- hol]; rfl
    refine OpTo.recv (K := fun a1 w1 => OpsTo (FW ro) N P ol.toArray (fun e a w => Exit.then (c.wpIn (FW ro) N P (relQ (noRg c) X D w0 mA Q)) (relQ (noRg c) X D w0 mA Q) e a w) (List.range' 1 B.length) a1 w1) g0 (by simp [Region.wanted]) rfl hx hch hz f2 (fun hp => ?_) (fun h0 => ?_) _ fun _ _ hk => hk
    . have hlen := f3.length
      cases xs with
      | nil => simp only [encC, List.map_nil, List.length_nil, Array.length_toList] at hlen; omega
      | cons y ys =>
        have f3' := f3
        simp only [encC, List.map_cons, VRs] at f3'
        obtain ⟨v, vs', e2, e3, e4⟩ := f3'
        have hR2 : R X D w0 mA r m ⟨n, look l, h.set i (.chan cap true (encC e ys)), b⟩ a (w.putObj bb (.chan cap (bv.extract 1 bv.size) true s0 (rc + 1) false)) :=
          hR.modify h2 rfl hb (grownBy_putObj' w bb _) ⟨bb, c0, _, s0, rc + 1, hb, World.putObj_heap_same hlt, by
            have : (bv.extract 1 bv.size).toList = vs' := by
              rw [Array.toList_extract, e2]
              simp [<- Array.length_toList, e2]
            rw [this]; exact e4⟩
        have hgv : bv.getD 0 undef = v := by
          rw [Array.getD_eq_getD_getElem?, <- Array.getElem?_toList, e2]; rfl
        have hR3 := hR2.put (some d) (x := .tup [.agg (e y), .bool true]) (v := .tuple #[bv.getD 0 undef, .bool true]) (by
          rw [hgv]
          simp only [VR, VRs]
          exact ⟨_, rfl, v, [.bool true], rfl, by simpa only [VR] using e3, _, [], rfl, rfl, rfl⟩)
        have hst : St.put ⟨n, look l, h.set i (.chan cap true (encC e ys)), b⟩ (some d) (.tup [.agg (e y), .bool true]) = ⟨n, look ((d, .tup [.agg (e y), .bool true]) :: l), h.set i (.chan cap true (encC e ys)), b⟩ := by
          simp only [St.put, if_pos hdn]; congr 1
        rw [hst] at hR3
        exact tail B 1 hR3 (hk1 y ys rfl) hB'
    . have hlen := f3.length
      have hx0 : xs = [] := by
        cases xs with
        | nil => rfl
        | cons y ys => simp only [encC, List.map_cons, List.length_cons, Array.length_toList] at hlen; omega
      have hR3 := hR.put (some d) (x := .tup [.any, .bool false]) (v := .tuple #[zz, .bool false]) (by
        simp only [VR, VRs]
        exact ⟨_, rfl, zz, [.bool false], rfl, trivial, _, [], rfl, rfl, rfl⟩)
      have hst : St.put ⟨n, look l, h, b⟩ (some d) (.tup [.any, .bool false]) = ⟨n, look ((d, .tup [.any, .bool false]) :: l), h, b⟩ := by
        simp only [St.put, if_pos hdn]; congr 1
      rw [hst] at hR3
      exact ⟨rfl, tail B 1 hR3 (hk2 hx0) hB'⟩
  . cases e' <;> simp only [Exit.then] at he' ⊢
    case normal => exact wpIn_mono he' fun _ _ _ => relQ_weak fun hh => by simpa only [noRg, Bool.and_eq_true, true_and] using hh
    all_goals exact relQ_weak (fun hh => by simpa only [noRg, Bool.and_eq_true, true_and] using hh) he'
theorem W.sendK {P : Program} {T : TT} {st : St} {Q : Ex -> St -> Prop} {c : Code} {id : Nat} {ol : List Oper} {x y : Operand} {ty : TypeId} {pos : String} {af : Array Edge} (k : Nat) (ord : List Nat) (hz : ol[k]? = some ⟨none, .send x y, ty, pos, af, none⟩) (hlen : ol.length = k + 1)
    (hc : chk (ol.take k ++ [(⟨none, .move (.const (.bool true)), ty, pos, af, none⟩ : Oper)]).toArray ord = true) (hin : allIn (ol.take k ++ [(⟨none, .move (.const (.bool true)), ty, pos, af, none⟩ : Oper)]) ord = true) (hs : (ol.take k).all simpleO = true)
    (ha : (List.range (ol.take k).length).all (fun j => ((ancs (ol.take k ++ [(⟨none, .move (.const (.bool true)), ty, pos, af, none⟩ : Oper)]).toArray).getD (ol.take k).length []).contains j) = true)
    (h : seqL P T (ol.take k ++ [(⟨none, .move (.const (.bool true)), ty, pos, af, none⟩ : Oper)]) [] 0 (pickL (ol.take k ++ [(⟨none, .move (.const (.bool true)), ty, pos, af, none⟩ : Oper)]) ord) st fun s =>
      ∃ (i cap : Nat) (buf : List AV), St.eval s x = .chn i /\ s.heap[i]? = some (.chan cap false buf) /\ buf.length < cap /\ W P T c { s with heap := s.heap.set i (.chan cap false (buf ++ [St.eval s y])) } Q) :
    W P T (.seq (.region id ol.toArray true) c) st Q :=
  W.sendD ord (by
    have h1 : ol = ol.take k ++ ol.drop k := (List.take_append_drop k ol).symm
    have hk : k < ol.length := by omega
    rw [List.getElem?_eq_getElem hk] at hz
    rw [List.drop_eq_getElem_cons hk, Option.some.inj hz, List.drop_eq_nil_of_le (by omega)] at h1
    exact h1) hc hin hs ha h
end Go.Lat
namespace Go.Lat
open Go.RowKit
section
variable {X : Nat -> Prop} {D : List Deferred × Rho} {w0 : World} {mA : Mem} {r : Rho} {m : MM} {st : St} {a : Act} {w : World}
theorem R.sealP (h : R X D w0 mA r m st a w) (hho : st.ho = 0) (fl : Bool) {id : Nat} {t : TypeId} {cs cs' : List AV} (ho : st.heap[id]? = some (.box t cs)) (hc : SealVs fl cs cs') :
    ∃ m', MLe m m' /\ R X D w0 mA r m' { st with heap := st.heap.set id .dead } a w /\ ∀ v, VR r m (.ptr id 0) v -> VR r m' (.ipt fl cs') v := by
  obtain ⟨b, c, cur, e1, e2, e3, e7⟩ := h.obj id _ ho
  have hlv : (AObj.box t cs).live = true := rfl
  have hk := h.kill id
  have hbn : w0.heap.size <= b := (h.own id _ b c ho hlv e1).resolve_right ((h.nox hho).1 b)
  have hbl := h.lt id _ b c ho hlv e1
  obtain ⟨m', hle, hle2, hR⟩ := hk.learn (fl := fl) (mR := fun p => if p.block = b then w.cell? p else none) (fun p u hu => by
    split at hu
    . rename_i hb; subst hb; exact ⟨hu, hbl⟩
    . cases hu) (fun p u hu => by
    split at hu
    . rename_i hb
      refine .inl ⟨by rw [hb]; exact hbn, fun i o b' c' hi hl hr hbb => ?_⟩
      simp only at hi
      by_cases hii : id = i
      . subst hii
        rw [List.getElem?_set_self (List.getElem?_eq_some_iff.1 ho).1] at hi
        cases hi
        cases hl
      . rw [List.getElem?_set_ne hii] at hi
        have e : b' = b := hbb.symm.trans hb
        subst e
        exact hii (h.inj id i _ o b' c c' ho hi hlv hl e1 hr)
    . cases hu) (fun _ p u hu => by
    split at hu
    . rename_i hb; exact (h.obj id _ ho).thaw hlv (c := c) (by rw [hb]; exact e1)
    . cases hu)
  refine ⟨m', hle, hR, fun v hv => ?_⟩
  have low' : Low m' := fun p v hv => hR.low p v hv
  simp only [VR] at hv ⊢
  obtain ⟨b', c', h1, rfl⟩ := hv
  rw [e1] at h1
  cases h1
  refine ⟨_, cur.toList, rfl, fun i u hu => ⟨?_, e3 u (List.mem_of_getElem? hu)⟩, hc r m' _ low' (e7.mono (RLe.refl r) hle)⟩
  have hcell : w.cell? ((⟨b, 0, none⟩ : Addr).add i) = some u := by
    rw [Addr.add_lit]
    simp only [World.cell?, e2]
    simpa using hu
  have hr0 : (fun p : Addr => if p.block = b then w.cell? p else none) ((⟨b, 0, none⟩ : Addr).add i) = some u := by
    simp only
    rw [if_pos (block_add _ _)]
    exact hcell
  cases fl with
  | true => exact hle2 true _ _ hr0
  | false => exact hle2 false _ _ hr0
end
def sealPT (fl : Bool) (id : Nat) (cs' : List AV) (tm : Nat -> AV) : List (Nat × AV) -> Prop
  | [] => True
  | (t, v) :: l => (v = tm t \/ (tm t = .ptr id 0 /\ v = .ipt fl cs')) /\ sealPT fl id cs' tm l
theorem W.sealP {P : Program} {T : TT} {Q : Ex -> St -> Prop} {c : Code} (fl : Bool) (id : Nat) {n : Nat} {t : TypeId} {cs cs' : List AV} {h h' : List AObj} {tm : Nat -> AV} {l : List (Nat × AV)} (ho : h[id]? = some (.box t cs)) (hc : SealVs fl cs cs')
    (hl : sealPT fl id cs' tm l) (hh : h.set id .dead = h') (hw : W P T c ⟨n, look l, h', 0⟩ Q) : W P T c ⟨n, tm, h, 0⟩ Q := fun hT hf ro hro k X D w0 mA r m a w hR => by
  obtain ⟨m', hle, hR', hv⟩ := hR.sealP rfl fl ho hc
  subst hh
  refine hw hT hf ro hro k X D w0 mA r m' a w { hR' with tmps := fun t => ?_, size' := hR'.size', nox := hR'.nox }
  have key : ∀ (l : List (Nat × AV)), sealPT fl id cs' tm l -> VR r m' (look l t) (a.tmps.getD t undef) := by
    intro l
    induction l with
    | nil => intro _; simp only [look, VR]
    | cons p l ih =>
      obtain ⟨q, v⟩ := p
      intro hl
      rw [look_cons]
      split
      . rename_i e
        subst e
        rcases hl.1 with e | ⟨e1, e3⟩
        . rw [e]; exact hR'.tmps t
        . rw [e3]
          exact hv _ (by have := hR.tmps t; simp only at this; rw [e1] at this; exact this)
      . exact ih hl.2
  exact key l hl

def cellsN (e : Nat -> List AV) (n : Nat) : List AV := zYy e (List.range n)
def objsN (g : Nat -> AObj) (n : Nat) : List AObj := (List.range n).map g
theorem objsN_len (g : Nat -> AObj) (n : Nat) : (objsN g n).length = n := by simp [objsN]
theorem objsN_get {g : Nat -> AObj} {n i : Nat} (h : i < n) : (objsN g n)[i]? = some (g i) := by simp [objsN, h]
theorem objsN_getA {A : List AObj} {g : Nat -> AObj} {n i : Nat} (h : i < n) : (A ++ objsN g n)[A.length + i]? = some (g i) := by
  rw [List.getElem?_append_right (by omega), Nat.add_sub_cancel_left, objsN_get h]
theorem last_get (h : List AObj) (o : AObj) : (h ++ [o])[h.length]? = some o := by simp
theorem last_set (h : List AObj) (o o' : AObj) : (h ++ [o]).set h.length o' = h ++ [o'] := by simp
theorem cellsN_len {e : Nat -> List AV} {sz : Nat} (he : Wd e sz) (n : Nat) : (cellsN e n).length = n * sz := by rw [cellsN, zYw he, List.length_range]
theorem cellsN_congr {e e' : Nat -> List AV} {n : Nat} (h : ∀ i, i < n -> e i = e' i) : cellsN e n = cellsN e' n := by
  unfold cellsN zYy
  rw [List.flatMap_def, List.flatMap_def, List.map_congr_left fun i hi => h i (by simpa using hi)]
theorem cellsN_encL {α : Type} [Inhabited α] (e : α -> List AV) (xs : List α) : zYy e xs = cellsN (fun i => e (lat xs (i : Int))) xs.length := by
  unfold cellsN zYy
  induction xs with
  | nil => rfl
  | cons x l ih =>
    rw [List.flatMap_cons, ih, List.length_cons, List.range_succ_eq_map, List.flatMap_cons, List.flatMap_map]
    congr 1
theorem cellsN_succ (e : Nat -> List AV) (n : Nat) : cellsN e (n + 1) = cellsN e n ++ e n := by simp [cellsN, zYy, List.range_succ]
theorem spl_left {A B vs : List AV} {off : Nat} (h : off + vs.length <= A.length) : Lat.spl (A ++ B) off vs = Lat.spl A off vs ++ B := by
  rw [Lat.spl_eq _ _ _ (by rw [List.length_append]; omega), Lat.spl_eq _ _ _ h, List.take_append_of_le_length (by omega), List.drop_append_of_le_length (by omega)]
  simp
theorem spl_right {A B vs : List AV} {k : Nat} (h : k + vs.length <= B.length) : Lat.spl (A ++ B) (A.length + k) vs = A ++ Lat.spl B k vs := by
  rw [Lat.spl_eq _ _ _ (by rw [List.length_append]; omega), Lat.spl_eq _ _ _ h, List.take_append, List.drop_append]
  rw [List.take_of_length_le (by omega), show A.length + k - A.length = k by omega, List.drop_of_length_le (by omega), show A.length + k + vs.length - A.length = k + vs.length by omega]
  simp
theorem mul_in {i n sz k : Nat} (h : i < n) (hk : k <= sz) : i * sz + k <= n * sz := by
  have := Nat.mul_le_mul_right sz h
  rw [Nat.succ_mul] at this
  omega
theorem cellsN_spl {e : Nat -> List AV} {sz : Nat} (he : Wd e sz) {n i k : Nat} {vs : List AV} (hi : i < n) (hk : k + vs.length <= sz) : Lat.spl (cellsN e n) (i * sz + k) vs = cellsN (fun j => if j = i then Lat.spl (e i) k vs else e j) n := by
  induction n with
  | zero => omega
  | succ n ih =>
    rw [cellsN_succ, cellsN_succ]
    rcases Nat.lt_or_ge i n with h | h
    . have h1 := mul_in h hk
      rw [spl_left (by rw [cellsN_len he]; omega), ih h, if_neg (by omega)]
    . have : i = n := by omega
      subst this
      rw [if_pos rfl, show i * sz + k = (cellsN e i).length + k by rw [cellsN_len he], spl_right (by rw [he]; exact hk)]
      congr 1
      exact cellsN_congr fun j hj => by rw [if_neg (by omega)]
theorem cellsN_in {e : Nat -> List AV} {sz : Nat} (he : Wd e sz) {n i k : Nat} {vs : List AV} (hi : i < n) (hk : k + vs.length <= sz) : i * sz + k + vs.length <= (cellsN e n).length := by
  rw [cellsN_len he]
  have := mul_in hi hk
  omega
theorem cellsN_at {e : Nat -> List AV} {sz : Nat} (he : Wd e sz) {n i k : Nat} (hi : i < n) (hk : k <= sz) : ∃ rest, (cellsN e n).drop (i * sz + k) = (e i).drop k ++ rest := by
  induction n with
  | zero => omega
  | succ n ih =>
    rw [cellsN_succ]
    rcases Nat.lt_or_ge i n with h | h
    . obtain ⟨rest, hr⟩ := ih h
      have h1 := mul_in h hk
      rw [List.drop_append_of_le_length (by rw [cellsN_len he]; exact h1), hr]
      exact ⟨rest ++ e n, by rw [List.append_assoc]⟩
    . have : i = n := by omega
      subst this
      refine ⟨[], ?_⟩
      rw [List.drop_append, List.drop_of_length_le (by rw [cellsN_len he]; omega), cellsN_len he, show i * sz + k - i * sz = k by omega]
      simp
theorem ca_N {h : List AObj} {id t sz : Nat} {e : Nat -> List AV} {n i k : Nat} (ho : h[id]? = some (.row t sz (cellsN e n))) (he : Wd e sz) (hi : i < n) (hk : k <= sz) : ∃ rest, cellsAt h (.ptr id (i * sz + k)) = some ((e i).drop k ++ rest) := by
  obtain ⟨rest, hr⟩ := cellsN_at he hi hk
  exact ⟨rest, by simp only [cellsAt, ho, hr]⟩
theorem VRs.split {r : Rho} {m : MM} : ∀ {xs us : List AV} {vs : List Value}, VRs r m (xs ++ us) vs -> ∃ a b, vs = a ++ b /\ VRs r m xs a /\ VRs r m us b
  | [], _, vs, hv => ⟨[], vs, rfl, VRs.nil, hv⟩
  | z :: l, _, vs, hv => by
    simp only [List.cons_append, VRs] at hv
    obtain ⟨v, vs', rfl, h2, h3⟩ := hv
    obtain ⟨a, b, rfl, h4, h5⟩ := VRs.split h3
    exact ⟨v :: a, b, rfl, by simp only [VRs]; exact ⟨v, a, rfl, h2, h4⟩, h5⟩
theorem Rens.cellsN {φ : List (Option Nat)} {e e' : Nat -> List AV} : ∀ {n : Nat}, (∀ i, i < n -> Rens φ (e i) (e' i) /\ (e i).length = (e' i).length) -> Rens φ (cellsN e n) (cellsN e' n)
  | 0, _ => Rens.nil
  | n + 1, h => by
    rw [cellsN_succ, cellsN_succ]
    intro r m vs hm hv
    obtain ⟨a, b, rfl, h1, h2⟩ := VRs.split hv
    exact (Rens.cellsN (fun i hi => h i (by omega)) r m a hm h1).app ((h n (by omega)).1 r m b hm h2)
theorem Ups.cellsN {e e' : Nat -> List AV} : ∀ {n : Nat}, (∀ i, i < n -> Ups (e i) (e' i)) -> Ups (cellsN e n) (cellsN e' n)
  | 0, _ => fun r m vs hm hv => by
    have : vs = [] := by simpa only [Lat.cellsN, zYy, List.range_zero, List.flatMap_nil, VRs] using hv
    subst this
    exact VRs.nil
  | n + 1, h => by
    rw [cellsN_succ, cellsN_succ]
    intro r m vs hm hv
    obtain ⟨a, b, rfl, h1, h2⟩ := VRs.split hv
    exact (Ups.cellsN (fun i hi => h i (by omega)) r m a hm h1).app (h n (by omega) r m b hm h2)
theorem Wks.cellsN {e e' : Nat -> List AV} : ∀ {n : Nat}, (∀ i, i < n -> Wks (e i) (e' i)) -> Wks (cellsN e n) (cellsN e' n)
  | 0, _ => Wks.refl _
  | n + 1, h => by
    rw [cellsN_succ, cellsN_succ]
    intro r m vs hm hv
    obtain ⟨a, b, rfl, h1, h2⟩ := VRs.split hv
    exact (Wks.cellsN (fun i hi => h i (by omega)) r m a hm h1).app (h n (by omega) r m b hm h2)
theorem cellsN_map {e : Nat -> List AV} (f : AV -> AV) (n : Nat) : (cellsN e n).map f = cellsN (fun i => (e i).map f) n := by
  unfold cellsN zYy
  rw [List.map_flatMap]
def idx (n : Nat) (g : Nat -> Option Nat) : List (Option Nat) := (List.range n).map g
theorem idx_get {n : Nat} {g : Nat -> Option Nat} {i : Nat} (h : i < n) : (idx n g)[i]? = some (g i) := by simp [idx, h]
theorem idx_none {n : Nat} {g : Nat -> Option Nat} {i : Nat} (h : n <= i) : (idx n g)[i]? = none := by simp [idx, h]
theorem injB_of : ∀ {φ : List (Option Nat)}, (∀ (i j k : Nat), φ[i]? = some (some k) -> φ[j]? = some (some k) -> i = j) -> injB φ = true
  | [], _ => rfl
  | none :: l, h => by
    show injB l = true
    exact injB_of fun i j k hi hj => by have := h (i + 1) (j + 1) k (by simpa using hi) (by simpa using hj); omega
  | some q :: l, h => by
    simp only [injB, Bool.and_eq_true, Bool.not_eq_true', List.contains_eq_mem, decide_eq_false_iff_not]
    refine ⟨fun hm => ?_, injB_of fun i j k hi hj => by have := h (i + 1) (j + 1) k (by simpa using hi) (by simpa using hj); omega⟩
    obtain ⟨j, hj⟩ := List.mem_iff_getElem?.1 hm
    have := h 0 (j + 1) q (by simp) (by simpa using hj)
    omega
theorem RenH.of {φ : List (Option Nat)} {h : List AObj} : ∀ {p : List (Option Nat)} {l : List AObj}, p.length = l.length →
    (∀ (i : Nat) o x, l[i]? = some o -> p[i]? = some x -> (x = none /\ o.live = false) \/ ∃ k, x = some k /\ (o = .dead \/ ∃ o0, h[k]? = some o0 /\ RenO φ o0 o)) -> RenH φ h p l
  | [], [], _, _ => trivial
  | [], _ :: _, hl, _ => by simp at hl
  | _ :: _, [], hl, _ => by simp at hl
  | x :: p, o :: l, hl, hg => by
    have ih : RenH φ h p l := RenH.of (by simpa using hl) (fun i o x h1 h2 => hg (i + 1) o x (by simpa using h1) (by simpa using h2))
    rcases hg 0 o x (by simp) (by simp) with ⟨rfl, h1⟩ | ⟨k, rfl, h1⟩
    . exact ⟨h1, ih⟩
    . exact ⟨h1, ih⟩
theorem RenH.idx {g : Nat -> Option Nat} {h h' : List AObj} (hg : ∀ (i : Nat) o, h'[i]? = some o -> (g i = none /\ o.live = false) \/ ∃ k, g i = some k /\ (o = .dead \/ ∃ o0, h[k]? = some o0 /\ RenO (idx h'.length g) o0 o)) : RenH (Lat.idx h'.length g) h (Lat.idx h'.length g) h' :=
  RenH.of (by simp [Lat.idx]) fun i o x h1 h2 => by
    have hi := (List.getElem?_eq_some_iff.1 h1).1
    rw [idx_get hi] at h2
    cases h2
    exact hg i o h1
theorem injB_idx {n : Nat} {g : Nat -> Option Nat} (h : ∀ i j k, i < n -> j < n -> g i = some k -> g j = some k -> i = j) : injB (idx n g) = true := injB_of fun i j k hi hj => by
  have h1 : i < n := by
    rcases Nat.lt_or_ge i n with h1 | h1
    . exact h1
    . rw [idx_none h1] at hi; cases hi
  have h2 : j < n := by
    rcases Nat.lt_or_ge j n with h2 | h2
    . exact h2
    . rw [idx_none h2] at hj; cases hj
  rw [idx_get h1] at hi
  rw [idx_get h2] at hj
  exact h i j k h1 h2 (Option.some.inj hi) (Option.some.inj hj)
def upV : AV -> Bool
  | .int _ _ | .bool _ | .nilS | .nilP | .nilF | .ref _ _ _ | .sub _ _ _ | .ptr _ _ | .any => true
  | _ => false
theorem Up.up {x : AV} (h : upV x = true) : Up x x := fun r m v _ hv => by
  cases x <;> simp only [upV, Bool.false_eq_true] at h <;> simpa only [VR] using hv
theorem Up.lst (fl : Bool) (n : Nat) (cs : List AV) : Up (.lst fl n cs) (.lst true n cs) := fun r m v hm hv => by
  simp only [VR] at hv ⊢
  rcases hv with hv | ⟨a, cap, vs, h1, h2, h3, h4⟩
  . exact .inl hv
  exact .inr ⟨a, cap, vs, h1, h2, fun i u hu => ⟨hm.up fl (h3 i u hu).1, (h3 i u hu).2⟩, VRs.mono (RLe.refl []) (hm.le fl) cs _ h4⟩
theorem Up.ipt (fl : Bool) (cs : List AV) : Up (.ipt fl cs) (.ipt true cs) := fun r m v hm hv => by
  simp only [VR] at hv ⊢
  obtain ⟨a, vs, h2, h3, h4⟩ := hv
  exact ⟨a, vs, h2, fun i u hu => ⟨hm.up fl (h3 i u hu).1, (h3 i u hu).2⟩, VRs.mono (RLe.refl []) (hm.le fl) cs _ h4⟩
theorem Ups.nil : Ups [] [] := fun _ _ _ _ h => by simpa only [VRs] using h
theorem Ups.cons {x y : AV} {xs ys : List AV} (h : Up x y) (k : Ups xs ys) : Ups (x :: xs) (y :: ys) := fun r m vs hm hv => by
  simp only [VRs] at hv ⊢
  obtain ⟨v, vs', h1, h2, h3⟩ := hv
  exact ⟨v, vs', h1, h r m v hm h2, k r m vs' hm h3⟩
theorem Ups.up {xs : List AV} (h : ∀ x ∈ xs, upV x = true) : Ups xs xs := by
  induction xs with
  | nil => exact Ups.nil
  | cons x xs ih => exact Ups.cons (Up.up (h x (by simp))) (ih fun y hy => h y (by simp [hy]))
end Go.Lat
namespace Go.Lat
theorem SealV.ipt (fl : Bool) (cs : List AV) : SealV fl (.ipt fl cs) (.ipt true cs) := fun r m v _ h => by
  simp only [VR] at h ⊢
  exact h
end Go.Lat
namespace Go.Lat
def pickM (c n : Int) : Int := (if c < 0 then -(c + 1) else c).tmod n
theorem lat_nat {α : Type} [Inhabited α] (xs : List α) (i : Nat) : lat xs (i : Int) = xs.getD i default := by simp [lat]
theorem lat_get {α : Type} [Inhabited α] {xs : List α} {i : Nat} (h : i < xs.length) : lat xs (i : Int) = xs[i] := by simp [lat, h]
theorem lat_mem {α : Type} [Inhabited α] {xs : List α} {i : Int} (h : 0 <= i /\ i < xs.length) : lat xs i ∈ xs := by
  have : i.toNat < xs.length := by omega
  simp [lat, this]
theorem vat_lt {n : Nat} {M : Vector Int n} {k : Nat} (h : k < n) : vat M k = M[k] := by simp [vat, h]
theorem vat_ge {n : Nat} {M : Vector Int n} {k : Nat} (h : n <= k) : vat M k = 0 := by
  have : M.toList.length = n := by simp
  unfold vat
  rw [List.getD_eq_getElem?_getD, List.getElem?_eq_none (by omega)]; rfl
theorem vat_vset {n : Nat} {M : Vector Int n} {k j : Nat} {v : Int} (h : k < n) : vat (vset M k v) j = if j = k then v else vat M j := by
  rcases Nat.lt_or_ge j n with hj | hj
  . rw [vat_lt hj, vat_lt hj]
    simp only [vset, Vector.getElem_setIfInBounds hj]
    by_cases e : k = j
    . subst e; simp
    . have : ¬ j = k := fun x => e x.symm
      simp [e, this]
  . rw [vat_ge hj, vat_ge hj, if_neg (by omega)]
theorem vat_rep {n : Nat} {v : Int} {k : Nat} (h : k < n) : vat (Vector.replicate n v) k = v := by rw [vat_lt h]; simp
theorem zXz {c n : Int} (h : 1 <= n) : 0 <= pickM c n /\ pickM c n < n := by
  unfold pickM
  have h0 : 0 <= (if c < 0 then -(c + 1) else c) := by split <;> omega
  exact ⟨Int.tmod_nonneg _ h0, Int.tmod_lt_of_pos _ (by omega)⟩
theorem tdiv_parts (n k : Int) (h : 0 < k) : n = k * n.tdiv k + n.tmod k /\ n.tmod k < k /\ -k < n.tmod k := ⟨(Int.mul_tdiv_add_tmod _ _).symm, Int.tmod_lt_of_pos n h, Int.lt_tmod_of_pos n h⟩
theorem lat_set {α : Type} [Inhabited α] {l : List α} {i : Int} {j : Nat} {x : α} (hi : 0 <= i /\ i < l.length) : lat (l.set i.toNat x) (j : Int) = if (j : Int) = i then x else lat l (j : Int) := by
  rw [lat_nat, lat_nat, List.getD_eq_getElem?_getD, List.getD_eq_getElem?_getD, List.getElem?_set]
  by_cases e : (j : Int) = i
  . rw [if_pos e, if_pos (by omega), if_pos (by omega)]; rfl
  . rw [if_neg e, if_neg (by omega)]
theorem lat_set' {α : Type} [Inhabited α] {l : List α} {i j : Int} {x : α} (hi : 0 <= i /\ i < l.length) (hj : 0 <= j) : lat (l.set i.toNat x) j = if j = i then x else lat l j := by
  have := lat_set (j := j.toNat) (x := x) hi
  rwa [show ((j.toNat : Nat) : Int) = j by omega] at this
theorem map_range_succ {α : Type} {g : Nat -> α} {i : Nat} : (List.range (i + 1)).map g = (List.range i).map g ++ [g i] := by rw [List.range_succ, List.map_append]; rfl
theorem take_succ_lat {α : Type} [Inhabited α] {l : List α} {i : Nat} (h : i < l.length) : l.take (i + 1) = l.take i ++ [lat l i] := by
  rw [lat_get h, List.take_add_one, List.getElem?_eq_getElem h]; rfl
def leastStep {α : Type} [Inhabited α] (cnt : α -> Bool) (val : α -> Int) (l : List α) (o : Int) (i : Nat) : Int :=
  if cnt (lat l i) = true /\ (o < 0 \/ val (lat l i) < val (lat l o)) then (i : Int) else o
def leastN {α : Type} [Inhabited α] (cnt : α -> Bool) (val : α -> Int) (l : List α) (n : Nat) : Int := (List.range n).foldl (leastStep cnt val l) (-1)
def leastM {α : Type} [Inhabited α] (cnt : α -> Bool) (val : α -> Int) (l : List α) : Int := leastN cnt val l l.length
theorem leastN_succ {α : Type} [Inhabited α] (cnt : α -> Bool) (val : α -> Int) (l : List α) (n : Nat) : leastN cnt val l (n + 1) = leastStep cnt val l (leastN cnt val l n) n := by
  unfold leastN; rw [List.range_succ, List.foldl_append]; rfl
theorem leastN_spec {α : Type} [Inhabited α] (cnt : α -> Bool) (val : α -> Int) (l : List α) : ∀ n : Nat, (leastN cnt val l n = -1 /\ ∀ i : Nat, i < n -> ¬ cnt (lat l i) = true) ∨
    ∃ i : Nat, leastN cnt val l n = i /\ i < n /\ cnt (lat l i) = true /\ ∀ k : Nat, k < n -> cnt (lat l k) = true -> val (lat l i) <= val (lat l k) /\ (k < i -> val (lat l i) < val (lat l k))
  | 0 => .inl ⟨rfl, fun i h => by omega⟩
  | n + 1 => by
    rw [leastN_succ]
    unfold leastStep
    rcases leastN_spec cnt val l n with ⟨h1, h2⟩ | ⟨i, h1, h2, h3, h4⟩
    . rw [h1]
      by_cases hc : cnt (lat l n) = true
      . rw [if_pos ⟨hc, .inl (by omega)⟩]
        refine .inr ⟨n, rfl, by omega, hc, fun k hk hck => ?_⟩
        rcases Nat.lt_or_ge k n with h | h
        . exact absurd hck (h2 k h)
        . have : k = n := by omega
          subst this; exact ⟨Int.le_refl _, fun h => by omega⟩
      . rw [if_neg (fun h => hc h.1)]
        refine .inl ⟨rfl, fun i hi => ?_⟩
        rcases Nat.lt_or_ge i n with h | h
        . exact h2 i h
        . have : i = n := by omega
          subst this; exact hc
    . rw [h1]
      by_cases hc : cnt (lat l n) = true /\ val (lat l n) < val (lat l i)
      . rw [if_pos ⟨hc.1, .inr hc.2⟩]
        refine .inr ⟨n, rfl, by omega, hc.1, fun k hk hck => ?_⟩
        rcases Nat.lt_or_ge k n with h | h
        . have := (h4 k h hck).1
          exact ⟨by omega, fun _ => by omega⟩
        . have : k = n := by omega
          subst this; exact ⟨Int.le_refl _, fun h => by omega⟩
      . rw [if_neg (fun h => hc ⟨h.1, h.2.resolve_left (by omega)⟩)]
        refine .inr ⟨i, rfl, by omega, h3, fun k hk hck => ?_⟩
        rcases Nat.lt_or_ge k n with h | h
        . exact h4 k h hck
        . have : k = n := by omega
          subst this
          have : ¬ val (lat l k) < val (lat l i) := fun h => hc ⟨hck, h⟩
          exact ⟨by omega, fun h => by omega⟩
theorem dec_lt {n i : Nat} (h : (i : Int) < (n : Int)) : n - ((i : Int) + 1).toNat < n - ((i : Int)).toNat := by omega
end Go.Lat
namespace Go.Lat
def inM (n lo hi : Int) : Bool := decide (lo <= n /\ n <= hi)
def jobOk (k : Int) (j : Job) : Bool := decide (0 <= j.ar /\ j.ar <= 4398046511104 /\ j.wk.length <= 6) && j.wk.all fun w => decide (0 <= w.st /\ w.st <= k - 1 /\ 0 <= w.tm /\ w.tm <= 1099511627776)
def validJ (sv : List Int) (jobs : List Job) : Bool := decide (1 <= sv.length /\ sv.length <= 6 /\ jobs.length <= 24) && sv.all (fun n => decide (1 <= n /\ n <= 4)) && jobs.all (jobOk sv.length)
def leastS (l : List Sta) : Int := leastM (fun s => decide (s.dn < s.al)) (·.rd) l
def leastI (l : List Int) : Int := leastM (fun _ => true) (fun n => n) l
structure RunS where
  fr : List (Vector Int 4)
  ss : List Sta
def workM (jobs : List Job) (s : RunS) (j : Int) : Ld := lat (lat jobs j).wk (lat s.ss j).dn
def slotM (sv : List Int) (s : RunS) (st : Int) : Int := leastI ((lat s.fr st).toList.take (lat sv st).toNat)
def visM (sv : List Int) (jobs : List Job) (s : RunS) (j : Int) : Vis :=
  let w := workM jobs s j
  let b := max (lat s.ss j).rd (vat (lat s.fr w.st) (slotM sv s w.st).toNat)
  ⟨(lat s.ss j).rd, b, b + w.tm⟩
def nextM (sv : List Int) (jobs : List Job) (s : RunS) (j : Int) : RunS :=
  let w := workM jobs s j
  let v := visM sv jobs s j
  ⟨s.fr.set w.st.toNat (vset (lat s.fr w.st) (slotM sv s w.st).toNat v.en), s.ss.set j.toNat ⟨(lat s.ss j).dn + 1, (lat s.ss j).al, v.en⟩⟩
def runN (sv : List Int) (jobs : List Job) : Nat -> RunS -> List Dn
  | 0, _ => []
  | n + 1, s => if leastS s.ss < 0 then [] else ⟨leastS s.ss, visM sv jobs s (leastS s.ss)⟩ :: runN sv jobs n (nextM sv jobs s (leastS s.ss))
def initM (sv : List Int) (jobs : List Job) : RunS := ⟨List.replicate sv.length (Vector.replicate 4 0), jobs.map fun j => ⟨0, j.wk.length, j.ar⟩⟩
def leftM (s : RunS) : Nat := (s.ss.map fun x => (x.al - x.dn).toNat).sum
def runM (sv : List Int) (jobs : List Job) : List Dn := runN sv jobs (leftM (initM sv jobs)) (initM sv jobs)
def endM (l : List Dn) (j o : Int) : Int := l.foldl (fun o d => if d.j = j then d.v.en else o) o
def finishM (sv : List Int) (jobs : List Job) (j : Int) : Int × Int :=
  if validJ sv jobs = true /\ 0 <= j /\ j <= (jobs.length : Int) - 1 then (endM (runM sv jobs) j (lat jobs j).ar, 0) else (0, 230)
def cmpM (x y : Int) : Int := if x < y then -1 else if y < x then 1 else 0
def orM (l : List Int) : Int := l.foldr (fun x acc => if ¬ x = 0 then x else acc) 0
def rangeI (n : Nat) : List Int := (List.range n).map fun i : Nat => (i : Int)
def cmpR (a b : Rg) : Int := orM [cmpM a.op b.op, cmpM a.ver b.ver]
def bsGo (l : List Rg) (x : Rg) : Nat -> Int -> Int -> Int
  | 0, i, _ => i
  | n + 1, i, j => if i < j then (if cmpR (lat l ((i + j).tdiv 2)) x < 0 then bsGo l x n ((i + j).tdiv 2 + 1) j else bsGo l x n i ((i + j).tdiv 2)) else i
def bsI (l : List Rg) (x : Rg) : Int := bsGo l x (l.length + 1) 0 l.length
def bsM (l : List Rg) (x : Rg) : Int × Bool := (bsI l x, decide (bsI l x < l.length /\ cmpR (lat l (bsI l x)) x = 0))
def rgOk (r : Rg) : Bool := decide ((0 <= r.op /\ r.op <= 11) /\ (0 <= r.ver /\ r.ver <= 9) /\ (1 <= r.nu /\ r.nu <= 1000000) /\ (0 <= r.le /\ r.le <= r.mo) /\ r.mo <= 4398046511104)
def validRgs (l : List Rg) : Bool := (List.range l.length).all fun i => rgOk (lat l (i : Int)) && (decide (i = 0) || decide (cmpR (lat l ((i : Int) - 1)) (lat l (i : Int)) < 0))
def allowsM (l : List Rg) (op ver t : Int) : Bool := decide (validRgs l = true /\ (bsM l ⟨op, ver, 0, 0, 0⟩).2 = true /\ 3 <= (lat l (bsI l ⟨op, ver, 0, 0, 0⟩)).nu /\ (lat l (bsI l ⟨op, ver, 0, 0, 0⟩)).le <= t /\ t <= (lat l (bsI l ⟨op, ver, 0, 0, 0⟩)).mo)
end Go.Lat
namespace Go.Lat
open Go.RowKit
theorem job_ok {sv : List Int} {jobs : List Job} (h : validJ sv jobs = true) : (1 <= sv.length /\ sv.length <= 6 /\ jobs.length <= 24) /\ (∀ n ∈ sv, 1 <= n /\ n <= 4) ∧
    ∀ j ∈ jobs, (0 <= j.ar /\ j.ar <= 4398046511104 /\ j.wk.length <= 6) /\ ∀ w ∈ j.wk, 0 <= w.st /\ w.st <= (sv.length : Int) - 1 /\ 0 <= w.tm /\ w.tm <= 1099511627776 := by
  unfold validJ at h
  simp only [Bool.and_eq_true, List.all_eq_true, decide_eq_true_eq] at h
  refine ⟨h.1.1, h.1.2, fun j hj => ?_⟩
  have := h.2 j hj
  unfold jobOk at this
  simp only [Bool.and_eq_true, List.all_eq_true, decide_eq_true_eq] at this
  exact this
theorem leastS_spec (l : List Sta) : (leastS l = -1 /\ ∀ i : Nat, i < l.length -> ¬ (lat l i).dn < (lat l i).al) ∨
    ∃ i : Nat, leastS l = i /\ i < l.length /\ (lat l i).dn < (lat l i).al /\ ∀ k : Nat, k < l.length -> (lat l k).dn < (lat l k).al -> (lat l i).rd <= (lat l k).rd /\ (k < i -> (lat l i).rd < (lat l k).rd) := by
  have := leastN_spec (fun s : Sta => decide (s.dn < s.al)) (·.rd) l l.length
  simp only [decide_eq_true_eq] at this
  exact this
theorem leastI_spec (l : List Int) (h : 0 < l.length) : ∃ i : Nat, leastI l = i /\ i < l.length /\ ∀ k : Nat, k < l.length -> lat l i <= lat l k /\ (k < i -> lat l i < lat l k) := by
  rcases leastN_spec (fun _ : Int => true) (fun n => n) l l.length with ⟨_, h2⟩ | ⟨i, h1, h2, h3, h4⟩
  . exact absurd rfl (h2 0 h)
  . exact ⟨i, h1, h2, fun k hk => h4 k hk rfl⟩
structure RInv (sv : List Int) (jobs : List Job) (c : Nat) (s : RunS) : Prop where
  v : validJ sv jobs = true
  fl : s.fr.length = sv.length
  sl : s.ss.length = jobs.length
  al : ∀ i : Nat, i < jobs.length -> (lat s.ss i).al = (lat jobs i).wk.length /\ 0 <= (lat s.ss i).dn /\ (lat s.ss i).dn <= (lat s.ss i).al
  rd : ∀ i : Nat, i < jobs.length -> 0 <= (lat s.ss i).rd /\ (lat s.ss i).rd <= 4398046511104 + c * 1099511627776
  fb : ∀ i k : Nat, i < sv.length -> 0 <= vat (lat s.fr i) k /\ vat (lat s.fr i) k <= 4398046511104 + c * 1099511627776
  left : c + leftM s = leftM (initM sv jobs)
theorem sum_le {l : List Nat} {b : Nat} (h : ∀ x ∈ l, x <= b) : l.sum <= b * l.length := by
  induction l with
  | nil => simp
  | cons x l ih =>
    have := ih fun y hy => h y (by simp [hy])
    have := h x (by simp)
    rw [List.sum_cons, List.length_cons, Nat.mul_add]; omega
theorem left_init {sv : List Int} {jobs : List Job} (h : validJ sv jobs = true) : leftM (initM sv jobs) <= 144 := by
  obtain ⟨h1, h2, h3⟩ := job_ok h
  have := sum_le (b := 6) (l := (initM sv jobs).ss.map fun x => (x.al - x.dn).toNat) (fun x hx => by
    simp only [initM, List.map_map, List.mem_map, Function.comp] at hx
    obtain ⟨j, hj, rfl⟩ := hx
    have := (h3 j hj).1.2.2
    omega)
  simp only [initM, List.length_map] at this
  unfold leftM
  simp only [initM]
  omega
theorem RInv.init {sv : List Int} {jobs : List Job} (h : validJ sv jobs = true) : RInv sv jobs 0 (initM sv jobs) := by
  obtain ⟨h1, h2, h3⟩ := job_ok h
  have key : ∀ i : Nat, i < jobs.length -> lat (initM sv jobs).ss i = ⟨0, (lat jobs i).wk.length, (lat jobs i).ar⟩ := fun i hi => by
    rw [lat_get (by simpa [initM] using hi), lat_get hi]; simp [initM]
  refine ⟨h, by simp [initM], by simp [initM], fun i hi => ?_, fun i hi => ?_, fun i k hi => ?_, by omega⟩
  . rw [key i hi]; simp
  . rw [key i hi]
    have := (h3 (lat jobs i) (lat_mem ⟨by omega, by omega⟩)).1
    simp only; omega
  . have : lat (initM sv jobs).fr i = Vector.replicate 4 0 := by rw [lat_get (by simpa [initM] using hi)]; simp [initM]
    rw [this]
    rcases Nat.lt_or_ge k 4 with h | h
    . rw [vat_rep h]; omega
    . rw [vat_ge h]; omega
theorem sum_set {l : List Nat} {i x : Nat} (h : i < l.length) : (l.set i x).sum + l.getD i 0 = l.sum + x := by
  induction l generalizing i with
  | nil => simp at h
  | cons y l ih =>
    cases i with
    | zero => simp; omega
    | succ i =>
      have := ih (i := i) (by simpa using h)
      simp only [List.set_cons_succ, List.sum_cons, List.getD_cons_succ]
      omega
structure StepOk (sv : List Int) (jobs : List Job) (c : Nat) (s : RunS) (i : Nat) : Prop where
  lt : i < jobs.length
  dn : (lat s.ss i).dn < (lat jobs i).wk.length
  st : 0 <= (workM jobs s i).st /\ (workM jobs s i).st < sv.length
  tm : 0 <= (workM jobs s i).tm /\ (workM jobs s i).tm <= 1099511627776
  nb : 1 <= lat sv (workM jobs s i).st /\ lat sv (workM jobs s i).st <= 4
  slot : ∃ k : Nat, slotM sv s (workM jobs s i).st = k /\ (k : Int) < lat sv (workM jobs s i).st /\ ∀ q : Nat, (q : Int) < lat sv (workM jobs s i).st -> vat (lat s.fr (workM jobs s i).st) k <= vat (lat s.fr (workM jobs s i).st) q
  vis : 0 <= (visM sv jobs s i).st /\ (visM sv jobs s i).st <= 4398046511104 + c * 1099511627776 /\ (visM sv jobs s i).en = (visM sv jobs s i).st + (workM jobs s i).tm
  next : RInv sv jobs (c + 1) (nextM sv jobs s i)
  less : leftM s = leftM (nextM sv jobs s i) + 1
theorem take_vat {q : Nat} (M : Vector Int q) {m k : Nat} (hk : k < m) (_hm : m <= q) : lat (M.toList.take m) (k : Int) = vat M k := by
  rw [lat_nat, List.getD_eq_getElem?_getD, List.getElem?_take_of_lt hk]
  unfold vat
  rw [List.getD_eq_getElem?_getD]; rfl
theorem RInv.step {sv : List Int} {jobs : List Job} {c : Nat} {s : RunS} (h : RInv sv jobs c s) {i : Nat} (hi : i < s.ss.length) (hd : (lat s.ss i).dn < (lat s.ss i).al) : StepOk sv jobs c s i := by
  obtain ⟨h1, h2, h3⟩ := job_ok h.v
  have hlt : i < jobs.length := by rw [<- h.sl]; exact hi
  have a := h.al i hlt
  have hdn : (lat s.ss i).dn < (lat jobs i).wk.length := by omega
  have hj := h3 (lat jobs i) (lat_mem ⟨by omega, by omega⟩)
  have hw : 0 <= (workM jobs s i).st /\ (workM jobs s i).st <= (sv.length : Int) - 1 /\ 0 <= (workM jobs s i).tm /\ (workM jobs s i).tm <= 1099511627776 := hj.2 _ (lat_mem ⟨a.2.1, hdn⟩)
  have hs := h2 (lat sv (workM jobs s i).st) (lat_mem ⟨hw.1, by omega⟩)
  obtain ⟨p, hp⟩ : ∃ p : Nat, (workM jobs s i).st = p := ⟨(workM jobs s i).st.toNat, by omega⟩
  have hfb := fun k => h.fb p k (by omega)
  have hl4 : (((lat s.fr (workM jobs s i).st)).toList.take (lat sv (workM jobs s i).st).toNat).length = (lat sv (workM jobs s i).st).toNat := by
    rw [List.length_take, Vector.length_toList]; omega
  obtain ⟨k, k1, k2, k3⟩ := leastI_spec (((lat s.fr (workM jobs s i).st)).toList.take (lat sv (workM jobs s i).st).toNat) (by omega)
  have hslot : slotM sv s (workM jobs s i).st = k := k1
  have hr := h.rd i hlt
  have hv : (visM sv jobs s i).st = max (lat s.ss i).rd (vat (lat s.fr (workM jobs s i).st) k) := by unfold visM; simp only [hslot, Int.toNat_natCast]
  have he : (visM sv jobs s i).en = (visM sv jobs s i).st + (workM jobs s i).tm := rfl
  have hf := hfb k
  rw [<- hp] at hf
  have hvb : 0 <= (visM sv jobs s i).st /\ (visM sv jobs s i).st <= 4398046511104 + c * 1099511627776 := by rw [hv]; omega
  have hB : ((c + 1 : Nat) : Int) * 1099511627776 = c * 1099511627776 + 1099511627776 := by omega
  have hless : leftM s = leftM (nextM sv jobs s i) + 1 := by
    unfold leftM nextM
    simp only [List.map_set]
    have e := sum_set (l := s.ss.map fun x => (x.al - x.dn).toNat) (i := i) (x := ((lat s.ss i).al - ((lat s.ss i).dn + 1)).toNat) (by simpa using hi)
    have e2 : (s.ss.map fun x => (x.al - x.dn).toNat).getD i 0 = ((lat s.ss i).al - (lat s.ss i).dn).toNat := by
      rw [List.getD_eq_getElem?_getD, List.getElem?_map, List.getElem?_eq_getElem hi, lat_get hi]; rfl
    rw [e2] at e
    simp only [Int.toNat_natCast]
    omega
  refine ⟨hlt, hdn, ⟨hw.1, by omega⟩, ⟨hw.2.2.1, hw.2.2.2⟩, hs, ⟨k, hslot, by omega, fun q hq => ?_⟩, ⟨hvb.1, hvb.2, he⟩, ?_, hless⟩
  . have := (k3 q (by omega)).1
    rw [take_vat _ (by omega) (by omega), take_vat _ (by omega) (by omega)] at this
    exact this
  . refine ⟨h.v, by simp [nextM, h.fl], by simp [nextM, h.sl], fun j hj => ?_, fun j hj => ?_, fun j q hj => ?_, by have := h.left; omega⟩
    . have aj := h.al j hj
      have := lat_set (l := s.ss) (i := (i : Int)) (j := j) (x := (⟨(lat s.ss i).dn + 1, (lat s.ss i).al, (visM sv jobs s i).en⟩ : Sta)) ⟨by omega, by omega⟩
      simp only [nextM]
      rw [this]
      by_cases e : (j : Int) = i
      . rw [if_pos e]
        have : j = i := by omega
        subst this
        simp only; omega
      . rw [if_neg e]; exact aj
    . have rj := h.rd j hj
      have := lat_set (l := s.ss) (i := (i : Int)) (j := j) (x := (⟨(lat s.ss i).dn + 1, (lat s.ss i).al, (visM sv jobs s i).en⟩ : Sta)) ⟨by omega, by omega⟩
      simp only [nextM]
      rw [this]
      by_cases e : (j : Int) = i
      . rw [if_pos e]
        simp only; omega
      . rw [if_neg e]; omega
    . have fj := h.fb j q hj
      have := lat_set (l := s.fr) (i := (workM jobs s i).st) (j := j) (x := vset (lat s.fr (workM jobs s i).st) k (visM sv jobs s i).en) ⟨hw.1, by rw [h.fl]; omega⟩
      simp only [nextM]
      rw [hslot, Int.toNat_natCast, this]
      by_cases e : (j : Int) = (workM jobs s i).st
      . rw [if_pos e, vat_vset (by omega), <- e]
        split
        . omega
        . omega
      . rw [if_neg e]; omega
theorem runN_neg {sv : List Int} {jobs : List Job} {n : Nat} {s : RunS} (h : leastS s.ss < 0) : runN sv jobs n s = [] := by
  cases n with
  | zero => rfl
  | succ n => unfold runN; rw [if_pos h]
theorem runN_pos {sv : List Int} {jobs : List Job} {n : Nat} {s : RunS} (h : ¬ leastS s.ss < 0) : runN sv jobs (n + 1) s = ⟨leastS s.ss, visM sv jobs s (leastS s.ss)⟩ :: runN sv jobs n (nextM sv jobs s (leastS s.ss)) := by
  conv => lhs; unfold runN
  rw [if_neg h]
end Go.Lat
namespace Go.Lat
open Go.RowKit Go.Proofs
def ToO (g : Nat -> Option Nat) (n : Nat) (h : List AObj) (i : Nat) (o : AObj) : Prop := (g i = none /\ o.live = false) \/ ∃ k, g i = some k /\ (o = .dead \/ ∃ o0, h[k]? = some o0 /\ RenO (idx n g) o0 o)
theorem lat_map {α β : Type} [Inhabited α] [Inhabited β] {f : α -> β} {xs : List α} {k : Nat} (h : k < xs.length) : lat (xs.map f) (k : Int) = f (lat xs (k : Int)) := by
  rw [lat_get h, lat_get (by simpa using h)]; simp
theorem lat_rep {α : Type} [Inhabited α] {x : α} {n k : Nat} (h : k < n) : lat (List.replicate n x) (k : Int) = x := by
  rw [lat_get (by simpa using h)]; simp
end Go.Lat
namespace Go.Lat
open Go.RowKit
theorem orM2 (a b : Int) : orM [a, b] = if ¬ a = 0 then a else b := by
  unfold orM
  simp only [List.foldr_cons, List.foldr_nil]
  by_cases h : b = 0
  . subst h; simp
  . simp [h]
end Go.Lat
namespace Go.Lat
open Go.RowKit
theorem runN_bound {sv : List Int} {jobs : List Job} : ∀ (n c : Nat) (s : RunS), RInv sv jobs c s -> ∀ d ∈ runN sv jobs n s, (0 <= d.j /\ d.j < jobs.length) /\ 0 <= d.v.en /\ d.v.en <= 163827240599552
  | 0, c, s, _, d, hd => by cases hd
  | n + 1, c, s, h, d, hd => by
    by_cases hl : leastS s.ss < 0
    . rw [runN_neg hl] at hd; cases hd
    . rw [runN_pos hl] at hd
      obtain ⟨i, hi, hil, hid, -⟩ := (leastS_spec s.ss).resolve_left (fun h => hl (by omega))
      rw [hi] at hd
      have so := h.step hil hid
      rcases List.mem_cons.1 hd with rfl | hd
      . have h1 := so.lt
        have h2 := so.vis
        have h3 := so.tm
        have h4 := h.left
        have h5 := left_init h.v
        have h6 := so.less
        have hc : ((c : Nat) : Int) <= 143 := by omega
        exact ⟨⟨by show (0 : Int) <= i; omega, by show (i : Int) < _; omega⟩, by show 0 <= (visM sv jobs s i).en; omega, by show (visM sv jobs s i).en <= _; omega⟩
      . exact runN_bound n (c + 1) _ so.next d hd
theorem runM_bound {sv : List Int} {jobs : List Job} (h : validJ sv jobs = true) : ∀ d ∈ runM sv jobs, (0 <= d.j /\ d.j < jobs.length) /\ 0 <= d.v.en /\ d.v.en <= 163827240599552 := runN_bound _ 0 _ (RInv.init h)
end Go.Lat
namespace Go.Lat
open Go.RowKit
theorem bsGo_range (l : List Rg) (x : Rg) : ∀ (n : Nat) (i j : Int), 0 <= i -> i <= j -> i <= bsGo l x n i j /\ bsGo l x n i j <= j
  | 0, i, j, h0, h => ⟨Int.le_refl _, h⟩
  | n + 1, i, j, h0, h => by
    unfold bsGo
    split
    . rename_i hij
      have ht : (i + j).tdiv 2 = (i + j) / 2 := Int.tdiv_eq_ediv_of_nonneg (by omega)
      rw [ht]
      split
      . have := bsGo_range l x n ((i + j) / 2 + 1) j (by omega) (by omega)
        omega
      . have := bsGo_range l x n i ((i + j) / 2) h0 (by omega)
        omega
    . exact ⟨Int.le_refl _, h⟩
theorem bsI_nonneg (l : List Rg) (x : Rg) : 0 <= bsI l x := (bsGo_range l x _ 0 l.length (by omega) (by omega)).1
theorem bsI_le (l : List Rg) (x : Rg) : bsI l x <= l.length := (bsGo_range l x _ 0 l.length (by omega) (by omega)).2
theorem bsGo_fuel (l : List Rg) (x : Rg) : ∀ (n m : Nat) (i j : Int), 0 <= i -> j - i < n -> j - i < m -> bsGo l x n i j = bsGo l x m i j
  | 0, m, i, j, h0, h1, h2 => by
    cases m with
    | zero => rfl
    | succ m => unfold bsGo; rw [if_neg (by omega)]
  | n + 1, 0, i, j, h0, h1, h2 => by unfold bsGo; rw [if_neg (by omega)]
  | n + 1, m + 1, i, j, h0, h1, h2 => by
    unfold bsGo
    split
    . rename_i hij
      have ht : (i + j).tdiv 2 = (i + j) / 2 := Int.tdiv_eq_ediv_of_nonneg (by omega)
      rw [ht]
      split
      . exact bsGo_fuel l x n m _ _ (by omega) (by omega) (by omega)
      . exact bsGo_fuel l x n m _ _ (by omega) (by omega) (by omega)
    . rfl
theorem half_wrap {n : Int} (h : 0 <= n /\ n <= 9223372036854775807) : IntKind.i64.wrap ((IntKind.u64.wrap n).fdiv (2 ^ (min (1 : Int).toNat 64))) = n.tdiv 2 := by
  have h1 : IntKind.u64.wrap n = n := IntWalk.u64_in n ⟨h.1, by omega⟩
  have ht : n.tdiv 2 = n / 2 := Int.tdiv_eq_ediv_of_nonneg h.1
  rw [h1, ht]
  have h2 : n.fdiv (2 ^ (min (1 : Int).toNat 64)) = n / 2 := by
    show n.fdiv 2 = n / 2
    exact Int.fdiv_eq_ediv_of_nonneg _ (by omega)
  rw [h2]
  exact wrapI (by unfold inI; omega)
structure RgsOk (l : List Rg) : Prop where
  ok : ∀ i : Nat, i < l.length -> (0 <= (lat l i).op /\ (lat l i).op <= 11) /\ (0 <= (lat l i).ver /\ (lat l i).ver <= 9) /\ (1 <= (lat l i).nu /\ (lat l i).nu <= 1000000) /\ (0 <= (lat l i).le /\ (lat l i).le <= (lat l i).mo) /\ (lat l i).mo <= 4398046511104
  ord : ∀ i : Nat, i + 1 < l.length -> cmpR (lat l i) (lat l ((i + 1 : Nat) : Int)) < 0
theorem validRgs_iff (l : List Rg) : validRgs l = true ↔ RgsOk l := by
  unfold validRgs
  rw [List.all_eq_true]
  constructor
  . intro h
    refine ⟨fun i hi => ?_, fun i hi => ?_⟩
    . have := h i (by simpa using hi)
      rw [Bool.and_eq_true] at this
      exact of_decide_eq_true this.1
    . have := h (i + 1) (by simpa using hi)
      rw [Bool.and_eq_true, Bool.or_eq_true, decide_eq_true_eq, decide_eq_true_eq] at this
      have := this.2.resolve_left (by omega)
      rwa [show (((i + 1 : Nat) : Int) - 1) = (i : Int) by omega] at this
  . intro h i hi
    have hi : i < l.length := by simpa using hi
    rw [Bool.and_eq_true, Bool.or_eq_true, decide_eq_true_eq, decide_eq_true_eq]
    refine ⟨decide_eq_true (h.ok i hi), ?_⟩
    rcases i with _ | i
    . exact .inl rfl
    . right
      have := h.ord i hi
      rwa [show (((i + 1 : Nat) : Int) - 1) = (i : Int) by omega]
theorem cmpR_lt (a b : Rg) : cmpR a b < 0 ↔ a.op < b.op \/ a.op = b.op /\ a.ver < b.ver := by
  unfold cmpR
  rw [orM2]
  unfold cmpM
  split <;> split <;> omega
theorem cmpR_eq (a b : Rg) : cmpR a b = 0 ↔ a.op = b.op /\ a.ver = b.ver := by
  unfold cmpR
  rw [orM2]
  unfold cmpM
  split <;> split <;> omega
end Go.Lat
namespace Go.Lat
def atM (jobs : List (Vector Int 6)) (i : Nat) : Int := ((jobs.take i).map fun j => pickM (vat j 0) 5).sum
def manyM (j : Vector Int 6) (lone : Bool) : Int := if lone = true then min (pickM (vat j 1) 4) 1 else pickM (vat j 1) 4
def ldM (n : Int) (j : Vector Int 6) (k : Nat) : Ld := ⟨pickM (vat j (2 + k)) n, pickM ((vat j (2 + k)).tdiv 3) 9⟩
def wkM (n : Int) (j : Vector Int 6) (m : Nat) : List Ld := (List.range m).map (ldM n j)
def jobM (jobs : List (Vector Int 6)) (n : Int) (lone : Bool) (i : Nat) : Job := ⟨atM jobs (i + 1), wkM n (lat jobs i) (manyM (lat jobs i) lone).toNat⟩
def jobsM0 (jobs : List (Vector Int 6)) (n : Int) (lone : Bool) : List Job := (List.range (min jobs.length 6)).map (jobM jobs n lone)
def jobsM (jobs : List (Vector Int 6)) (n : Int) (lone : Bool) : List Job := if (jobsM0 jobs n lone).length = 0 then [⟨0, [⟨0, 5⟩]⟩] else jobsM0 jobs n lone
def touch (out : List Bool) (wk : List Ld) : Bool := wk.any fun w => lat out w.st
def mark (out : List Bool) (wk : List Ld) : List Bool := wk.foldl (fun o w => o.set w.st.toNat true) out
def joinStep (out : List Bool) (j : Job) : List Bool := if touch out j.wk = true then mark out j.wk else out
def joinRound (jobs : List Job) (out : List Bool) : List Bool := jobs.foldl joinStep out
end Go.Lat
namespace Go.Lat
def insM {α : Type} (xs : List α) (i : Nat) (v : α) : List α := xs.take i ++ [v] ++ xs.drop i
theorem insM_len {α : Type} (xs : List α) (i : Nat) (v : α) : (insM xs i v).length = xs.length + 1 := by
  have h : (xs.take i ++ xs.drop i).length = xs.length := by rw [List.take_append_drop]
  rw [List.length_append] at h
  simp only [insM, List.length_append, List.length_singleton]
  omega
def factOk (x : Fct) : Bool := decide ((0 <= x.tr /\ x.tr <= 999) /\ (0 <= x.sp /\ x.sp <= 9) /\ (0 <= x.se /\ x.se <= 7) /\ (0 <= x.ver /\ x.ver <= 9) /\ (0 <= x.op /\ x.op <= 11) /\ (-1 <= x.pe /\ x.pe <= 19) /\ x.da = x.tr.tdiv 10 /\ (0 <= x.lo /\ x.lo <= x.hi) /\ x.hi <= 4398046511104 /\ (0 <= x.by_ /\ x.by_ <= 24000))
def mixR (o r : Rg) : Rg := ⟨o.op, o.ver, o.nu + r.nu, min o.le r.le, max o.mo r.mo⟩
def putM (out : List Rg) (r : Rg) : List Rg := if (bsM out r).2 = true then out.set (bsM out r).1.toNat (mixR (lat out (bsM out r).1) r) else insM out (bsM out r).1.toNat r
def joinM (l : List Rg) : List Rg := l.foldl putM []
def fRg (f : Fct) : Rg := ⟨f.op, f.ver, 1, f.lo, f.hi⟩
def fitM (l : List Fct) : List Rg × Int := if 400 < l.length \/ ¬ l.all factOk = true then ([], 230) else (joinM (l.map fRg), 0)
def factLo (y : Vector Int 4) : Int := if pickM (vat y 3) 4 = 3 then pickM (vat y 2) 2199023255552 else pickM (vat y 2) 40
def factM (y : Vector Int 4) : Fct :=
  ⟨pickM (vat y 0) 30, pickM ((vat y 0).tdiv 30) 4, pickM (vat y 1) 2, pickM ((vat y 1).tdiv 2) 3, 2 * pickM (vat y 1) 2 + pickM ((vat y 1).tdiv 3000) 2, pickM ((vat y 1).tdiv 6) 5 - 1, (pickM (vat y 0) 30).tdiv 10,
    factLo y, factLo y + pickM ((vat y 3).tdiv 4) 3 * pickM ((vat y 3).tdiv 12) 30, pickM ((vat y 1).tdiv 30) 100⟩
def lessF (o f : Fct) : Prop := o.tr < f.tr \/ o.tr = f.tr /\ o.sp < f.sp
instance (o f : Fct) : Decidable (lessF o f) := by unfold lessF; infer_instance
def posF (out : List Fct) (f : Fct) : Nat := (out.takeWhile fun o => decide (lessF o f)).length
def factStep (out : List Fct) (y : Vector Int 4) : List Fct :=
  if posF out (factM y) < out.length /\ (lat out (posF out (factM y) : Int)).tr = (factM y).tr /\ (lat out (posF out (factM y) : Int)).sp = (factM y).sp then out else out.take (posF out (factM y)) ++ ([factM y] ++ out.drop (posF out (factM y)))
def factsM (x : List (Vector Int 4)) : List Fct := (x.take 40).foldl factStep []
end Go.Lat
namespace Go.Lat
open Go.RowKit
theorem inI_td {x k : Int} (hk : 0 < k) (h : inI x) : inI (x.tdiv k) := by
  have h1 := (tdiv_parts x k hk).1
  have h2 := (tdiv_parts x k hk).2
  unfold inI at *
  rcases Int.le_total 0 x with hx | hx
  . have := Int.tdiv_nonneg hx (Int.le_of_lt hk)
    have : x.tdiv k <= x := by rw [Int.tdiv_eq_ediv_of_nonneg hx]; exact Int.ediv_le_self _ hx
    omega
  . have e : x.tdiv k = -((-x).tdiv k) := by rw [Int.neg_tdiv]; omega
    have := Int.tdiv_nonneg (a := -x) (by omega) (Int.le_of_lt hk)
    have : (-x).tdiv k <= -x := by rw [Int.tdiv_eq_ediv_of_nonneg (by omega : 0 <= -x)]; exact Int.ediv_le_self _ (by omega)
    omega
structure JobMade (n : Int) (lone : Bool) (j : Job) : Prop where
  ar : 0 <= j.ar /\ j.ar <= 24
  wl : j.wk.length <= 3 /\ (lone = true -> j.wk.length <= 1)
  wk : ∀ w ∈ j.wk, (0 <= w.st /\ w.st < n) /\ 0 <= w.tm /\ w.tm <= 8
def ksM (q : Nat) : List Int := (List.range q).map fun k : Nat => (k : Int) - 1
end Go.Lat
namespace Go.Lat
open Go.RowKit
theorem lat_insM {α : Type} [Inhabited α] {xs : List α} {i : Nat} {v : α} (hi : i <= xs.length) {k : Nat} : lat (insM xs i v) (k : Int) = if k < i then lat xs (k : Int) else if k = i then v else lat xs ((k : Int) - 1) := by
  have hl : (xs.take i).length = i := by rw [List.length_take]; omega
  unfold insM
  rw [lat_nat, List.append_assoc, List.getD_eq_getElem?_getD]
  by_cases h1 : k < i
  . rw [if_pos h1, List.getElem?_append_left (by omega), List.getElem?_take_of_lt h1, lat_nat, List.getD_eq_getElem?_getD]
  . rw [if_neg h1, List.getElem?_append_right (by omega), hl]
    by_cases h2 : k = i
    . subst h2; rw [if_pos rfl, Nat.sub_self]; rfl
    . rw [if_neg h2, show ((k : Int) - 1) = ((k - 1 : Nat) : Int) by omega, lat_nat, List.getElem?_append_right (by simp; omega), List.getElem?_drop, List.getD_eq_getElem?_getD]
      simp only [List.length_singleton]
      rw [show i + (k - i - 1) = k - 1 by omega]
theorem mem_insM {α : Type} {xs : List α} {i : Nat} {v y : α} : y ∈ insM xs i v ↔ y = v \/ y ∈ xs := by
  unfold insM
  have : y ∈ xs ↔ y ∈ xs.take i \/ y ∈ xs.drop i := by
    rw [<- List.mem_append, List.take_append_drop]
  rw [this]
  simp only [List.mem_append, List.mem_singleton]
  constructor
  . rintro ((h | h) | h)
    . exact .inr (.inl h)
    . exact .inl h
    . exact .inr (.inr h)
  . rintro (h | h | h)
    . exact .inl (.inr h)
    . exact .inl (.inl h)
    . exact .inr h
theorem bsM_fst (l : List Rg) (x : Rg) : (bsM l x).1 = bsI l x := rfl
theorem bsM_in {l : List Rg} {x : Rg} (h : (bsM l x).2 = true) : 0 <= (bsM l x).1 /\ (bsM l x).1 < (l.length : Int) := ⟨bsI_nonneg _ _, (of_decide_eq_true h).1⟩
theorem bsM_le (l : List Rg) (x : Rg) : 0 <= (bsM l x).1 /\ (bsM l x).1 <= (l.length : Int) := ⟨bsI_nonneg _ _, bsI_le _ _⟩
theorem putM_len (out : List Rg) (r : Rg) : (putM out r).length <= out.length + 1 := by
  unfold putM
  split
  . rw [List.length_set]; omega
  . rw [insM_len]; omega
theorem putM_nu {out : List Rg} {r : Rg} {q : Int} (hq : 0 <= q) (h : ∀ x ∈ out, 0 <= x.nu /\ x.nu <= q) (hr : 0 <= r.nu /\ r.nu <= 1000000) : ∀ x ∈ putM out r, 0 <= x.nu /\ x.nu <= q + 1000000 := by
  intro x hx
  unfold putM at hx
  split at hx
  . rename_i hf
    have hm := h _ (lat_mem (bsM_in hf))
    rcases List.mem_or_eq_of_mem_set hx with hx | rfl
    . have := h x hx; omega
    . show 0 <= _ + _ /\ _ + _ <= _; omega
  . rcases mem_insM.1 hx with rfl | hx
    . omega
    . have := h x hx; omega
theorem joinM_snoc (l : List Rg) (r : Rg) : joinM (l ++ [r]) = putM (joinM l) r := by unfold joinM; rw [List.foldl_append]; rfl
theorem joinM_take {l : List Rg} {i : Nat} (h : i < l.length) : joinM (l.take (i + 1)) = putM (joinM (l.take i)) (lat l (i : Int)) := by rw [take_succ_lat h, joinM_snoc]
theorem joinM_len {l : List Rg} : ∀ i : Nat, i <= l.length -> (joinM (l.take i)).length <= i
  | 0, _ => by simp [joinM]
  | i + 1, h => by
    rw [joinM_take (by omega)]
    have := joinM_len (l := l) i (by omega)
    have := putM_len (joinM (l.take i)) (lat l (i : Int))
    omega
theorem joinM_nu {l : List Rg} (hl : ∀ x ∈ l, 0 <= x.nu /\ x.nu <= 1000000) : ∀ i : Nat, i <= l.length -> ∀ x ∈ joinM (l.take i), 0 <= x.nu /\ x.nu <= i * 1000000
  | 0, _ => by intro x hx; simp [joinM] at hx
  | i + 1, h => by
    rw [joinM_take (by omega)]
    intro x hx
    have := putM_nu (q := i * 1000000) (by omega) (joinM_nu hl i (by omega)) (hl _ (lat_mem (xs := l) (i := (i : Int)) ⟨by omega, by omega⟩)) x hx
    omega
theorem set_again {l : List Rg} {i : Int} (hi : 0 <= i /\ i < l.length) (A : Rg) (f : Rg -> Rg) : (l.set i.toNat A).set i.toNat (f (lat (l.set i.toNat A) i)) = l.set i.toNat (f A) := by
  have := lat_set' (x := A) hi hi.1
  rw [if_pos rfl] at this
  rw [List.set_set, this]
theorem fitM_bad {l : List Fct} {i : Nat} (hi : i < l.length) (h : 400 < l.length \/ ¬ factOk (lat l (i : Int)) = true) : fitM l = ([], 230) := by
  unfold fitM
  rw [if_pos]
  rcases h with h | h
  . exact .inl h
  . right
    rw [List.all_eq_true]
    intro h2
    exact h (h2 _ (lat_mem ⟨by omega, by omega⟩))
structure FactIs (f : Fct) : Prop where
  ok : factOk f = true
end Go.Lat
namespace Go.Lat
open Go.RowKit
def ltK (a b : Rg) : Prop := a.op < b.op \/ a.op = b.op /\ a.ver < b.ver
def eqK (a b : Rg) : Prop := a.op = b.op /\ a.ver = b.ver
instance (a b : Rg) : Decidable (ltK a b) := by unfold ltK; infer_instance
instance (a b : Rg) : Decidable (eqK a b) := by unfold eqK; infer_instance
def SortedR (l : List Rg) : Prop := ∀ i j : Nat, i < j -> j < l.length -> ltK (lat l (i : Int)) (lat l (j : Int))
theorem bsGo_spec {l : List Rg} {x : Rg} (hs : SortedR l) : ∀ (n : Nat) (i j : Nat), i <= j -> j <= l.length -> j - i < n -> (∀ p : Nat, p < i -> ltK (lat l (p : Int)) x) -> (∀ p : Nat, j <= p -> p < l.length -> ¬ ltK (lat l (p : Int)) x) →
    ∃ k : Nat, bsGo l x n i j = k /\ k <= l.length /\ (∀ p : Nat, p < k -> ltK (lat l (p : Int)) x) /\ ∀ p : Nat, k <= p -> p < l.length -> ¬ ltK (lat l (p : Int)) x
  | 0, i, j, h1, h2, h3, h4, h5 => by omega
  | n + 1, i, j, h1, h2, h3, h4, h5 => by
    unfold bsGo
    by_cases hij : (i : Int) < (j : Int)
    . rw [if_pos hij]
      obtain ⟨m, hm⟩ : ∃ m : Nat, ((i : Int) + (j : Int)).tdiv 2 = m := ⟨((i : Int) + (j : Int)).tdiv 2 |>.toNat, by rw [Int.tdiv_eq_ediv_of_nonneg (by omega)]; omega⟩
      have hmr : i <= m /\ m < j := by rw [Int.tdiv_eq_ediv_of_nonneg (by omega)] at hm; omega
      rw [hm]
      by_cases hc : cmpR (lat l (m : Int)) x < 0
      . rw [if_pos hc]
        have hc := (cmpR_lt _ _).1 hc
        refine bsGo_spec hs n (m + 1) j (by omega) h2 (by omega) (fun p hp => ?_) h5
        rcases Nat.lt_or_ge p m with h | h
        . have := hs p m h (by omega)
          unfold ltK at this ⊢; omega
        . rw [show p = m by omega]; exact hc
      . rw [if_neg hc]
        have hc : ¬ ltK (lat l (m : Int)) x := fun h => hc ((cmpR_lt _ _).2 h)
        refine bsGo_spec hs n i m (by omega) (by omega) (by omega) h4 (fun p hp hl => ?_)
        rcases Nat.lt_or_ge m p with h | h
        . have := hs m p h hl
          unfold ltK at this hc ⊢; omega
        . rw [show p = m by omega]; exact hc
    . rw [if_neg hij]
      have : i = j := by omega
      subst this
      exact ⟨i, rfl, h2, h4, h5⟩
theorem bs_spec {l : List Rg} (x : Rg) (hs : SortedR l) : ∃ k : Nat, bsI l x = k /\ k <= l.length /\ (∀ p : Nat, p < k -> ltK (lat l (p : Int)) x) /\ ∀ p : Nat, k <= p -> p < l.length -> ¬ ltK (lat l (p : Int)) x :=
  bsGo_spec hs (l.length + 1) 0 l.length (by omega) (Nat.le_refl _) (by omega) (fun p hp => by omega) (fun p h1 h2 => by omega)
theorem bs_found {l : List Rg} (x : Rg) (hs : SortedR l) : (bsM l x).2 = true ↔ ∃ i : Nat, i < l.length /\ eqK (lat l (i : Int)) x /\ (bsM l x).1 = i := by
  obtain ⟨k, h1, h2, h3, h4⟩ := bs_spec x hs
  show decide (bsI l x < l.length /\ cmpR (lat l (bsI l x)) x = 0) = true ↔ ∃ i : Nat, i < l.length /\ eqK (lat l (i : Int)) x /\ bsI l x = i
  rw [decide_eq_true_eq, h1, cmpR_eq]
  constructor
  . rintro ⟨h5, h6⟩
    exact ⟨k, by omega, h6, rfl⟩
  . rintro ⟨i, h5, h6, h7⟩
    have : k = i := by omega
    subst this
    exact ⟨by omega, h6⟩
theorem bs_hit {l : List Rg} {x : Rg} (hs : SortedR l) {i : Nat} (hi : i < l.length) (h : eqK (lat l (i : Int)) x) : (bsM l x).2 = true /\ (bsM l x).1 = i := by
  obtain ⟨k, h1, h2, h3, h4⟩ := bs_spec x hs
  have hk : k = i := by
    rcases Nat.lt_trichotomy k i with e | e | e
    . have := h4 k (Nat.le_refl _) (by omega)
      have := hs k i e hi
      unfold ltK eqK at *; omega
    . exact e
    . have := h3 i e
      unfold ltK eqK at *; omega
  subst hk
  exact ⟨(bs_found x hs).2 ⟨k, hi, h, h1⟩, h1⟩
structure Agg (l : List Rg) (r : Rg) : Prop where
  nu : r.nu = ((l.filter fun x => decide (eqK x r)).map (·.nu)).sum
  bd : ∀ x ∈ l, eqK x r -> r.le <= x.le /\ x.mo <= r.mo
  le : ∃ x ∈ l, eqK x r /\ x.le = r.le
  mo : ∃ x ∈ l, eqK x r /\ x.mo = r.mo
structure JR (l out : List Rg) : Prop where
  pw : SortedR out
  el : ∀ i : Nat, i < out.length -> Agg l (lat out (i : Int))
  cov : ∀ x ∈ l, ∃ i : Nat, i < out.length /\ eqK (lat out (i : Int)) x
theorem Agg.old {l : List Rg} {r x : Rg} (h : Agg l r) (hn : ¬ eqK x r) : Agg (l ++ [x]) r := by
  refine ⟨?_, fun y hy he => ?_, ?_, ?_⟩
  . rw [List.filter_append, List.filter_cons_of_neg (by simpa using hn), List.filter_nil, List.append_nil]; exact h.nu
  . rcases List.mem_append.1 hy with hy | hy
    . exact h.bd y hy he
    . rw [List.mem_singleton] at hy; subst hy; exact absurd he hn
  . obtain ⟨y, h1, h2⟩ := h.le; exact ⟨y, List.mem_append_left _ h1, h2⟩
  . obtain ⟨y, h1, h2⟩ := h.mo; exact ⟨y, List.mem_append_left _ h1, h2⟩
theorem Agg.mix {l : List Rg} {r x : Rg} (h : Agg l r) (he : eqK r x) : Agg (l ++ [x]) (mixR r x) := by
  have e0 : ∀ y, eqK y (mixR r x) ↔ eqK y r := fun y => Iff.rfl
  have ex : eqK x (mixR r x) := ⟨he.1.symm, he.2.symm⟩
  refine ⟨?_, fun y hy hk => ?_, ?_, ?_⟩
  . rw [List.filter_append, List.filter_cons_of_pos (by simpa using ex), List.filter_nil, List.map_append, List.sum_append]
    show r.nu + x.nu = _ + (x.nu + 0)
    rw [h.nu]
    show _ = ((l.filter fun y => decide (eqK y r)).map (·.nu)).sum + _
    omega
  . rcases List.mem_append.1 hy with hy | hy
    . have := h.bd y hy hk
      show min r.le x.le <= y.le /\ y.mo <= max r.mo x.mo
      omega
    . rw [List.mem_singleton] at hy; subst hy
      show min r.le y.le <= y.le /\ y.mo <= max r.mo y.mo
      omega
  . obtain ⟨y, h1, h2, h3⟩ := h.le
    by_cases hc : r.le <= x.le
    . exact ⟨y, List.mem_append_left _ h1, h2, by show y.le = min r.le x.le; omega⟩
    . exact ⟨x, by simp, ex, by show x.le = min r.le x.le; omega⟩
  . obtain ⟨y, h1, h2, h3⟩ := h.mo
    by_cases hc : x.mo <= r.mo
    . exact ⟨y, List.mem_append_left _ h1, h2, by show y.mo = max r.mo x.mo; omega⟩
    . exact ⟨x, by simp, ex, by show x.mo = max r.mo x.mo; omega⟩
theorem Agg.new {l : List Rg} {x : Rg} (h : ∀ y ∈ l, ¬ eqK y x) : Agg (l ++ [x]) x := by
  have hx : eqK x x := ⟨rfl, rfl⟩
  refine ⟨?_, fun y hy hk => ?_, ⟨x, by simp, hx, rfl⟩, ⟨x, by simp, hx, rfl⟩⟩
  . rw [List.filter_append, List.filter_cons_of_pos (by simpa using hx), List.filter_nil, List.filter_eq_nil_iff.2 (fun y hy => by simpa using h y hy)]
    show x.nu = x.nu + 0
    omega
  . rcases List.mem_append.1 hy with hy | hy
    . exact absurd hk (h y hy)
    . rw [List.mem_singleton] at hy; subst hy; exact ⟨Int.le_refl _, Int.le_refl _⟩
theorem JR.nil : JR [] [] := ⟨fun i j _ h => by simp at h, fun i h => by simp at h, fun x h => by cases h⟩
theorem JR.put {l out : List Rg} (h : JR l out) (x : Rg) : JR (l ++ [x]) (putM out x) := by
  obtain ⟨k, h1, h2, h3, h4⟩ := bs_spec x h.pw
  by_cases hf : (bsM out x).2 = true
  . obtain ⟨i, hi, he, hb⟩ := (bs_found x h.pw).1 hf
    have hp : putM out x = out.set i (mixR (lat out (i : Int)) x) := by unfold putM; rw [if_pos hf, hb, Int.toNat_natCast]
    have hl : ∀ j : Nat, lat (out.set i (mixR (lat out (i : Int)) x)) (j : Int) = if j = i then mixR (lat out (i : Int)) x else lat out (j : Int) := fun j => by
      have := lat_set (l := out) (i := (i : Int)) (j := j) (x := mixR (lat out (i : Int)) x) ⟨by omega, by omega⟩
      rw [Int.toNat_natCast] at this
      rw [this]
      by_cases e : j = i
      . rw [if_pos (by omega), if_pos e]
      . rw [if_neg (by omega), if_neg e]
    have hkey : ∀ j : Nat, eqK (lat (out.set i (mixR (lat out (i : Int)) x)) (j : Int)) (lat out (j : Int)) := fun j => by
      rw [hl]
      split
      . rename_i e; subst e; exact ⟨rfl, rfl⟩
      . exact ⟨rfl, rfl⟩
    rw [hp]
    refine ⟨fun a b hab hb => ?_, fun a ha => ?_, fun y hy => ?_⟩
    . rw [List.length_set] at hb
      have := h.pw a b hab hb
      have k1 := hkey a
      have k2 := hkey b
      unfold ltK eqK at *; omega
    . rw [List.length_set] at ha
      rw [hl]
      split
      . exact (h.el i hi).mix he
      . rename_i e
        refine (h.el a ha).old fun hk => ?_
        rcases Nat.lt_or_gt_of_ne e with e | e
        . have := h.pw a i e hi; unfold ltK eqK at *; omega
        . have := h.pw i a e ha; unfold ltK eqK at *; omega
    . rcases List.mem_append.1 hy with hy | hy
      . obtain ⟨j, hj, hk⟩ := h.cov y hy
        have := hkey j
        exact ⟨j, by rw [List.length_set]; exact hj, by unfold eqK at *; omega⟩
      . rw [List.mem_singleton] at hy
        subst hy
        have := hkey i
        exact ⟨i, by rw [List.length_set]; exact hi, by unfold eqK at *; omega⟩
  . have hp : putM out x = insM out k x := by unfold putM; rw [if_neg hf, bsM_fst, h1, Int.toNat_natCast]
    have hne : ∀ j : Nat, j < out.length -> ¬ eqK (lat out (j : Int)) x := fun j hj he => hf (bs_hit h.pw hj he).1
    have hgt : ∀ j : Nat, k <= j -> j < out.length -> ltK x (lat out (j : Int)) := fun j hj hl => by
      have a := h4 j hj hl
      have b := hne j hl
      unfold ltK eqK at *; omega
    have hl : ∀ j : Nat, lat (insM out k x) (j : Int) = if j < k then lat out (j : Int) else if j = k then x else lat out ((j - 1 : Nat) : Int) := fun j => by
      rw [lat_insM h2]
      split
      . rfl
      . split
        . rfl
        . rw [show ((j : Int) - 1) = ((j - 1 : Nat) : Int) by omega]
    have hnl : ∀ y ∈ l, ¬ eqK y x := fun y hy he => by
      obtain ⟨j, hj, hk⟩ := h.cov y hy
      exact hne j hj ⟨by unfold eqK at *; omega, by unfold eqK at *; omega⟩
    rw [hp]
    refine ⟨fun a b hab hb => ?_, fun a ha => ?_, fun y hy => ?_⟩
    . rw [insM_len] at hb
      rw [hl, hl]
      by_cases c1 : a < k
      . rw [if_pos c1]
        by_cases c2 : b < k
        . rw [if_pos c2]; exact h.pw a b hab (by omega)
        . rw [if_neg c2]
          by_cases c3 : b = k
          . rw [if_pos c3]; exact h3 a c1
          . rw [if_neg c3]; exact h.pw a (b - 1) (by omega) (by omega)
      . rw [if_neg c1, if_neg (by omega : ¬ b < k), if_neg (by omega : ¬ b = k)]
        by_cases c2 : a = k
        . rw [if_pos c2]; exact hgt (b - 1) (by omega) (by omega)
        . rw [if_neg c2]; exact h.pw (a - 1) (b - 1) (by omega) (by omega)
    . rw [insM_len] at ha
      rw [hl]
      have swap : ∀ j : Nat, j < out.length -> ¬ eqK x (lat out (j : Int)) := fun j hj he => hne j hj ⟨he.1.symm, he.2.symm⟩
      split
      . exact (h.el a (by omega)).old (swap a (by omega))
      . split
        . exact Agg.new hnl
        . exact (h.el (a - 1) (by omega)).old (swap (a - 1) (by omega))
    . rcases List.mem_append.1 hy with hy | hy
      . obtain ⟨j, hj, hk⟩ := h.cov y hy
        by_cases c1 : j < k
        . exact ⟨j, by rw [insM_len]; omega, by rw [hl, if_pos c1]; exact hk⟩
        . exact ⟨j + 1, by rw [insM_len]; omega, by rw [hl, if_neg (by omega), if_neg (by omega)]; exact hk⟩
      . rw [List.mem_singleton] at hy
        subst hy
        exact ⟨k, by rw [insM_len]; omega, by rw [hl, if_neg (by omega), if_pos rfl]; exact ⟨rfl, rfl⟩⟩
end Go.Lat
namespace Go.Lat
open Go.RowKit
def rowsM (n : Nat) (l : List Dn) : List (List Vis) := (List.range n).map fun i : Nat => (l.filter fun d => decide (d.j = (i : Int))).map (·.v)
def runR (sv : List Int) (jobs : List Job) : List (List Vis) × Int := if validJ sv jobs = true then (rowsM jobs.length (runM sv jobs), 0) else ([], 230)
theorem rowsM_len (n : Nat) (l : List Dn) : (rowsM n l).length = n := by simp [rowsM]
theorem rowsM_lat {n i : Nat} (l : List Dn) (h : i < n) : lat (rowsM n l) (i : Int) = (l.filter fun d => decide (d.j = (i : Int))).map (·.v) := by
  rw [lat_get (by simpa [rowsM] using h)]; simp [rowsM]
theorem rowsM_nil (n : Nat) : rowsM n [] = List.replicate n [] := by
  apply List.ext_getElem (by simp [rowsM])
  intro a h1 h2
  simp [rowsM]
theorem rowsM_snoc {n i : Nat} (l : List Dn) {d : Dn} (hi : i < n) (hd : d.j = i) : rowsM n (l ++ [d]) = (rowsM n l).set i (lat (rowsM n l) (i : Int) ++ [d.v]) := by
  apply List.ext_getElem (by simp [rowsM])
  intro a h1 h2
  have ha : a < n := by simpa [rowsM] using h1
  rw [List.getElem_set]
  by_cases e : i = a
  . rw [if_pos e, rowsM_lat _ hi]
    subst e
    simp [rowsM, hd]
  . rw [if_neg e]
    have : ¬ (i : Int) = (a : Int) := by omega
    simp [rowsM, hd, this]
def stR (jobs : List Job) (r0 : List (List Vis)) (r1 : List (Vector Int 4)) (r2 : List Int) : RunS :=
  ⟨r1, (List.range jobs.length).map fun i : Nat => ⟨((lat r0 (i : Int)).length : Nat), ((lat jobs (i : Int)).wk.length : Nat), lat r2 (i : Int)⟩⟩
def scanR (jobs : List Job) (r0 : List (List Vis)) (r1 : List (Vector Int 4)) (r2 : List Int) (i : Nat) : Int := leastN (fun s : Sta => decide (s.dn < s.al)) (·.rd) (stR jobs r0 r1 r2).ss i
def scanV (M : Vector Int 4) (n : Int) (q : Nat) : Int := leastN (fun _ : Int => true) (fun n => n) (M.toList.take n.toNat) q
end Go.Lat
namespace Go.Lat
open Go.RowKit
deriving instance DecidableEq for Job
theorem runN_len (sv : List Int) (jobs : List Job) : ∀ (n : Nat) (s : RunS), (runN sv jobs n s).length <= n
  | 0, s => by simp [runN]
  | n + 1, s => by
    unfold runN
    split
    . simp
    . have := runN_len sv jobs n (nextM sv jobs s (leastS s.ss))
      rw [List.length_cons]; omega
theorem runM_len {sv : List Int} {jobs : List Job} (h : validJ sv jobs = true) : (runM sv jobs).length <= 144 := Nat.le_trans (runN_len _ _ _ _) (left_init h)
theorem endM_last (j : Int) : ∀ (l : List Dn) (o : Int), endM l j o = (((l.filter fun d => decide (d.j = j)).getLast?).map (·.v.en)).getD o
  | [], o => rfl
  | d :: l, o => by
    have e : endM (d :: l) j o = endM l j (if d.j = j then d.v.en else o) := rfl
    rw [e, endM_last j l, List.filter_cons]
    by_cases h : d.j = j
    . rw [if_pos h, if_pos (decide_eq_true h), List.getLast?_cons]
      generalize (l.filter fun d => decide (d.j = j)).getLast? = q
      cases q <;> rfl
    . rw [if_neg h, if_neg (by simpa using h)]
theorem endM_rows {n : Nat} {l : List Dn} {i : Nat} (hi : i < n) (o : Int) : endM l i o = if ((lat (rowsM n l) (i : Int)).length : Int) = 0 then o else (lat (lat (rowsM n l) (i : Int)) (((lat (rowsM n l) (i : Int)).length : Int) - 1)).en := by
  rw [endM_last, rowsM_lat _ hi, List.length_map]
  generalize (l.filter fun d => decide (d.j = (i : Int))) = m
  by_cases h : (m.length : Int) = 0
  . rw [if_pos h]
    have : m = [] := List.length_eq_zero_iff.1 (by omega)
    subst this; rfl
  . rw [if_neg h, show ((m.length : Int) - 1) = ((m.length - 1 : Nat) : Int) by omega, lat_get (by rw [List.length_map]; omega), List.getElem_map, List.getLast?_eq_getElem?, List.getElem?_eq_getElem (by omega)]
    rfl
end Go.Lat
namespace Go.Lat
open Go.RowKit
def partV (v : Vis) (fr to : Int) : Int := max 0 (min v.en to - max v.st fr)
def busyJ (j : Job) (l : List Vis) (s fr to : Int) : Int := ((List.range l.length).map fun k : Nat => if (lat j.wk (k : Int)).st = s then partV (lat l (k : Int)) fr to else 0).sum
def busyL (jobs : List Job) (l : List (List Vis)) (s fr to : Int) : Int := ((List.range jobs.length).map fun i : Nat => busyJ (lat jobs (i : Int)) (lat l (i : Int)) s fr to).sum
def busyM (sv : List Int) (jobs : List Job) (s fr to : Int) : Int × Int :=
  if validJ sv jobs = true /\ (0 <= s /\ s <= (sv.length : Int) - 1) /\ (0 <= fr /\ fr <= to) /\ to <= 1125899906842624 then (busyL jobs (runR sv jobs).1 s fr to, 0) else (0, 230)
def serversM (n : Int) : List Int := (List.range (1 + pickM n 3).toNat).map fun i : Nat => 1 + pickM (n.tdiv (3 + i)) 3
def jobM23 (n : Int) (y : Vector Int 4) : Job := ⟨pickM (vat y 0) 40, (List.range (pickM (vat y 1) 4).toNat).map fun k : Nat => ⟨pickM ((vat y 2).tdiv (1 + k)) n, pickM ((vat y 3).tdiv (1 + 3 * k)) 13⟩⟩
def jobsM23 (n : Int) (x : List (Vector Int 4)) : List Job := (x.take 12).map (jobM23 n)
def placeJ (jobs : List Job) (l : List (List Vis)) (i : Nat) : List Plc := (List.range (lat l (i : Int)).length).map fun k : Nat => ⟨i, (lat (lat jobs (i : Int)).wk (k : Int)).st, (lat (lat jobs (i : Int)).wk (k : Int)).tm, lat (lat l (i : Int)) (k : Int)⟩
def placesA (jobs : List Job) (l : List (List Vis)) (n : Nat) : List Plc := ((List.range n).map (placeJ jobs l)).flatten
def fitsL (jobs : List Job) (l : List (List Vis)) : Prop := l.length = jobs.length /\ ∀ i : Nat, i < jobs.length -> (lat l (i : Int)).length = (lat jobs (i : Int)).wk.length
def placesM (jobs : List Job) (l : List (List Vis)) : List Plc × Bool := if l.length = jobs.length /\ (List.range jobs.length).all (fun i : Nat => decide ((lat l (i : Int)).length = (lat jobs (i : Int)).wk.length)) = true then (placesA jobs l jobs.length, true) else ([], false)
def singleJ (j : Job) : Job := ⟨j.ar, if 0 < j.wk.length then [⟨0, (lat j.wk 0).tm⟩] else []⟩
def singleM (jobs : List Job) : List Job := jobs.map singleJ
def posR (l : List Rg) (r : Rg) : Nat := (l.takeWhile fun x => decide (x.op < r.op \/ x.op = r.op /\ x.ver < r.ver)).length
def rputM (l : List Rg) (r : Rg) : List Rg :=
  if posR l r < l.length /\ (lat l (posR l r : Int)).op = r.op /\ (lat l (posR l r : Int)).ver = r.ver then l.take (posR l r) ++ [mixR (lat l (posR l r : Int)) r] ++ l.drop (posR l r + 1) else l.take (posR l r) ++ [r] ++ l.drop (posR l r)
def joinE (a b : List Rg) : List Rg × Int := if validRgs a = true /\ validRgs b = true /\ validRgs (joinM (a ++ b)) = true then (joinM (a ++ b), 0) else ([], 230)
def fewM (sv : List Int) (jobs : List Job) : List Int × List Job := (sv.take 7, (jobs.take 26).map fun j => ⟨j.ar, j.wk.take 7⟩)
theorem SortedR.take {l : List Rg} (h : SortedR l) (n : Nat) : SortedR (l.take n) := fun i j hij hj => by
  rw [List.length_take] at hj
  have e : ∀ k : Nat, k < n -> lat (l.take n) (k : Int) = lat l (k : Int) := fun k hk => by
    rw [lat_nat, lat_nat, List.getD_eq_getElem?_getD, List.getD_eq_getElem?_getD, List.getElem?_take_of_lt hk]
  rw [e i (by omega), e j (by omega)]
  exact h i j hij (by omega)
theorem RgsOk.mem {l : List Rg} (h : RgsOk l) {x : Rg} (hx : x ∈ l) : (0 <= x.op /\ x.op <= 11) /\ (0 <= x.ver /\ x.ver <= 9) /\ (1 <= x.nu /\ x.nu <= 1000000) /\ (0 <= x.le /\ x.le <= x.mo) /\ x.mo <= 4398046511104 := by
  obtain ⟨i, hi, rfl⟩ := List.mem_iff_getElem.1 hx
  have := h.ok i hi
  rwa [lat_get hi] at this
theorem placesA_succ (jobs : List Job) (l : List (List Vis)) (i : Nat) : placesA jobs l (i + 1) = placesA jobs l i ++ placeJ jobs l i := by
  unfold placesA
  rw [map_range_succ, List.flatten_append]; simp
end Go.Lat
namespace Go.Lat
open Go.RowKit
inductive Ends (sv : List Int) (jobs : List Job) : RunS -> RunS -> Prop
  | stop {s : RunS} : leastS s.ss < 0 -> Ends sv jobs s s
  | step {s t : RunS} : ¬ leastS s.ss < 0 -> Ends sv jobs (nextM sv jobs s (leastS s.ss)) t -> Ends sv jobs s t
theorem leastS_eq {l : List Sta} {i : Nat} (hi : i < l.length) (hp : (lat l i).dn < (lat l i).al) (h : ∀ k : Nat, k < l.length -> (lat l k).dn < (lat l k).al -> (lat l i).rd <= (lat l k).rd /\ (k < i -> (lat l i).rd < (lat l k).rd)) : leastS l = i := by
  rcases leastS_spec l with ⟨_, h2⟩ | ⟨k, h1, h2, h3, h4⟩
  . exact absurd hp (h2 i hi)
  . have a := h k h2 h3
    have b := h4 i hi hp
    rw [h1]
    rcases Nat.lt_trichotomy i k with e | e | e
    . have := b.2 e; omega
    . rw [e]
    . have := a.2 e; omega
theorem leastS_neg {l : List Sta} (h : ∀ i : Nat, i < l.length -> ¬ (lat l i).dn < (lat l i).al) : leastS l < 0 := by
  rcases leastS_spec l with ⟨h1, _⟩ | ⟨i, _, h2, h3, _⟩
  . omega
  . exact absurd h3 (h i h2)
def slots (sv : List Int) (s : RunS) (q : Int) : List Int := (lat s.fr q).toList.take (lat sv q).toNat
def cnt (sv : List Int) (s : RunS) (q x : Int) : Nat := (slots sv s q).countP fun m => decide (m <= x)
structure StepC (sv : List Int) (jobs : List Job) (s : RunS) (i : Nat) : Prop where
  vis : ∀ x, (visM sv jobs s i).st <= x ↔ (lat s.ss i).rd <= x /\ 1 <= cnt sv s (workM jobs s i).st x
  en : (visM sv jobs s i).en = (visM sv jobs s i).st + (workM jobs s i).tm
  tm : 0 <= (workM jobs s i).tm
  st : 0 <= (workM jobs s i).st /\ (workM jobs s i).st < sv.length
  cnt : ∀ q x, 0 <= q -> cnt sv (nextM sv jobs s i) q x + (if q = (workM jobs s i).st /\ 1 <= cnt sv s q x /\ x < (visM sv jobs s i).en then 1 else 0) = cnt sv s q x
  ss : ∀ j : Nat, lat (nextM sv jobs s i).ss j = if j = i then ⟨(lat s.ss i).dn + 1, (lat s.ss i).al, (visM sv jobs s i).en⟩ else lat s.ss j
theorem StepOk.c {sv : List Int} {jobs : List Job} {c : Nat} {s : RunS} {i : Nat} (h : RInv sv jobs c s) (o : StepOk sv jobs c s i) : StepC sv jobs s i := by
  obtain ⟨k, k1, k2, k3⟩ := o.slot
  have nb := o.nb
  have hlen : (slots sv s (workM jobs s i).st).length = (lat sv (workM jobs s i).st).toNat := by
    unfold slots; rw [List.length_take, Vector.length_toList]; omega
  have hget : ∀ q : Nat, (q : Int) < lat sv (workM jobs s i).st -> ∀ hq : q < (slots sv s (workM jobs s i).st).length, (slots sv s (workM jobs s i).st)[q] = vat (lat s.fr (workM jobs s i).st) q := fun q h1 hq => by
    rw [<- lat_get hq]
    exact take_vat _ (by omega) (by omega)
  have hkl : k < (slots sv s (workM jobs s i).st).length := by rw [hlen]; omega
  have hm : ∀ x, 1 <= cnt sv s (workM jobs s i).st x ↔ vat (lat s.fr (workM jobs s i).st) k <= x := fun x => by
    unfold cnt
    rw [Nat.succ_le_iff, List.countP_pos_iff]
    constructor
    . rintro ⟨a, ha, h2⟩
      obtain ⟨q, hq, rfl⟩ := List.mem_iff_getElem.1 ha
      have h2 := of_decide_eq_true h2
      have hq2 : (q : Int) < lat sv (workM jobs s i).st := by omega
      rw [hget q hq2] at h2
      have := k3 q hq2
      omega
    . intro h2
      exact ⟨_, List.getElem_mem hkl, by rw [hget k k2]; exact decide_eq_true h2⟩
  have hv : (visM sv jobs s i).st = max (lat s.ss i).rd (vat (lat s.fr (workM jobs s i).st) k) := by unfold visM; simp only [k1, Int.toNat_natCast]
  have hen := o.vis.2.2
  have htm := o.tm.1
  refine ⟨fun x => ?_, hen, htm, o.st, fun q x hq => ?_, fun j => ?_⟩
  . rw [hm, hv]; omega
  . by_cases e : q = (workM jobs s i).st
    . subst e
      have e1 : slots sv (nextM sv jobs s i) (workM jobs s i).st = (slots sv s (workM jobs s i).st).set k (visM sv jobs s i).en := by
        unfold slots nextM
        simp only [k1, Int.toNat_natCast]
        rw [lat_set' ⟨o.st.1, by rw [h.fl]; exact o.st.2⟩ o.st.1, if_pos rfl]
        show List.take _ (Vector.toList (Vector.setIfInBounds _ _ _)) = _
        rw [Vector.toList_setIfInBounds, List.take_set]
      have e2 : (if vat (lat s.fr (workM jobs s i).st) k <= x then 1 else 0) <= (cnt sv s (workM jobs s i).st x) := by
        split
        . rename_i h; exact (hm x).2 h
        . omega
      have e3 : Go.Lat.cnt sv (nextM sv jobs s i) (workM jobs s i).st x = (slots sv (nextM sv jobs s i) (workM jobs s i).st).countP fun m => decide (m <= x) := rfl
      have e4 : Go.Lat.cnt sv (nextM sv jobs s i) (workM jobs s i).st x = Go.Lat.cnt sv s (workM jobs s i).st x - (if vat (lat s.fr (workM jobs s i).st) k <= x then 1 else 0) + (if (visM sv jobs s i).en <= x then 1 else 0) := by
        rw [e3, e1, List.countP_set hkl, hget k k2]
        simp only [decide_eq_true_eq]
        rfl
      have hmx := hm x
      have hge : vat (lat s.fr (workM jobs s i).st) k <= (visM sv jobs s i).en := by omega
      generalize Go.Lat.cnt sv (nextM sv jobs s i) (workM jobs s i).st x = A at *
      generalize Go.Lat.cnt sv s (workM jobs s i).st x = B at *
      generalize (visM sv jobs s i).en = en at *
      generalize vat (lat s.fr (workM jobs s i).st) k = m at *
      rw [e4]
      by_cases c1 : m <= x
      . rw [if_pos c1]
        rw [if_pos c1] at e2
        by_cases c2 : en <= x
        . rw [if_pos c2, if_neg (by omega)]; omega
        . rw [if_neg c2, if_pos ⟨rfl, e2, by omega⟩]; omega
      . rw [if_neg c1, if_neg (by omega), if_neg (by omega)]; omega
    . rw [if_neg (fun h => e h.1)]
      show (slots sv (nextM sv jobs s i) q).countP _ = (slots sv s q).countP _
      have : slots sv (nextM sv jobs s i) q = slots sv s q := by
        unfold slots nextM
        simp only
        rw [lat_set' ⟨o.st.1, by rw [h.fl]; exact o.st.2⟩ hq, if_neg e]
      rw [this]
  . have := lat_set (l := s.ss) (i := (i : Int)) (j := j) (x := (⟨(lat s.ss i).dn + 1, (lat s.ss i).al, (visM sv jobs s i).en⟩ : Sta)) ⟨by omega, by rw [h.sl]; have := o.lt; omega⟩
    unfold nextM
    simp only
    rw [this]
    by_cases e : j = i
    . rw [if_pos (by omega), if_pos e]
    . rw [if_neg (by omega), if_neg e]
theorem RInv.go {sv : List Int} {jobs : List Job} {c : Nat} {s : RunS} (h : RInv sv jobs c s) (hl : ¬ leastS s.ss < 0) : ∃ i : Nat, leastS s.ss = i /\ i < jobs.length /\ (lat s.ss i).dn < (lat s.ss i).al ∧
    (∀ k : Nat, k < jobs.length -> (lat s.ss k).dn < (lat s.ss k).al -> (lat s.ss i).rd <= (lat s.ss k).rd /\ (k < i -> (lat s.ss i).rd < (lat s.ss k).rd)) /\ StepC sv jobs s i /\ RInv sv jobs (c + 1) (nextM sv jobs s i) /\ leftM s = leftM (nextM sv jobs s i) + 1 := by
  obtain ⟨i, hi, hil, hid, hk⟩ := (leastS_spec s.ss).resolve_left (fun h => hl (by omega))
  have so := h.step hil hid
  exact ⟨i, hi, so.lt, hid, fun k hk' hd => hk k (by rw [h.sl]; exact hk') hd, so.c h, so.next, so.less⟩
theorem RInv.none {sv : List Int} {jobs : List Job} {c : Nat} {s : RunS} (h : RInv sv jobs c s) (hl : leastS s.ss < 0) : ∀ i : Nat, i < jobs.length -> ¬ (lat s.ss i).dn < (lat s.ss i).al := by
  rcases leastS_spec s.ss with ⟨_, h2⟩ | ⟨i, h1, _⟩
  . intro i hi; exact h2 i (by rw [h.sl]; exact hi)
  . omega
theorem init_lat {sv : List Int} {jobs : List Job} {i : Nat} (hi : i < jobs.length) : lat (initM sv jobs).ss i = ⟨0, (lat jobs i).wk.length, (lat jobs i).ar⟩ := by
  rw [lat_get (by simpa [initM] using hi), lat_get hi]; simp [initM]
theorem init_cnt {sv : List Int} {jobs : List Job} {q : Int} (hq : 0 <= q /\ q < sv.length) (x : Int) : cnt sv (initM sv jobs) q x = if 0 <= x then (slots sv (initM sv jobs) q).length else 0 := by
  have hf : lat (initM sv jobs).fr q = Vector.replicate 4 0 := by
    obtain ⟨k, hk⟩ : ∃ k : Nat, q = k := ⟨q.toNat, by omega⟩
    subst hk
    exact lat_rep (by omega)
  unfold cnt
  have hz : ∀ a ∈ slots sv (initM sv jobs) q, a = 0 := fun a ha => by
    unfold slots at ha
    rw [hf] at ha
    have ha := List.mem_of_mem_take ha
    rw [Vector.toList_replicate] at ha
    exact List.eq_of_mem_replicate ha
  split
  . rename_i h
    rw [List.countP_eq_length]
    intro a ha
    rw [hz a ha]; exact decide_eq_true h
  . rename_i h
    rw [List.countP_eq_zero]
    intro a ha
    rw [hz a ha]
    simpa using h
theorem slots_init (sv : List Int) (jobs jobs' : List Job) (q : Int) : slots sv (initM sv jobs) q = slots sv (initM sv jobs') q := rfl
end Go.Lat
namespace Go.Lat
open Go.RowKit
theorem run_ind_aux {sv : List Int} {jobs : List Job} {P : List Dn -> RunS -> Prop}
    (hs : ∀ (D : List Dn) (s : RunS) (c i : Nat), RInv sv jobs c s -> P D s -> i < jobs.length -> leastS s.ss = i -> (lat s.ss i).dn < (lat s.ss i).al →
      (∀ k : Nat, k < jobs.length -> (lat s.ss k).dn < (lat s.ss k).al -> (lat s.ss i).rd <= (lat s.ss k).rd /\ (k < i -> (lat s.ss i).rd < (lat s.ss k).rd)) -> StepC sv jobs s i -> P (D ++ [⟨i, visM sv jobs s i⟩]) (nextM sv jobs s i)) :
    ∀ (m : Nat) (D : List Dn) (s : RunS) (c : Nat), RInv sv jobs c s -> leftM s = m -> P D s -> ∃ t c', RInv sv jobs c' t /\ P (D ++ runN sv jobs m s) t /\ leastS t.ss < 0
  | 0, D, s, c, h, hm, hp => by
    have hl : leastS s.ss < 0 := by
      rcases Int.lt_or_le (leastS s.ss) 0 with hl | hl
      . exact hl
      . obtain ⟨i, _, _, _, _, _, _, h7⟩ := h.go (by omega)
        omega
    refine ⟨s, c, h, ?_, hl⟩
    show P (D ++ []) s
    rw [List.append_nil]; exact hp
  | m + 1, D, s, c, h, hm, hp => by
    by_cases hl : leastS s.ss < 0
    . exact ⟨s, c, h, by rw [runN_neg hl, List.append_nil]; exact hp, hl⟩
    . obtain ⟨i, h1, h2, h3, h4, h5, h6, h7⟩ := h.go hl
      obtain ⟨t, c', a, b, d⟩ := run_ind_aux hs m (D ++ [⟨i, visM sv jobs s i⟩]) (nextM sv jobs s i) (c + 1) h6 (by omega) (hs D s c i h hp h2 h1 h3 h4 h5)
      refine ⟨t, c', a, ?_, d⟩
      rw [runN_pos hl, h1]
      rw [List.append_assoc] at b
      exact b
theorem run_ind {sv : List Int} {jobs : List Job} {P : List Dn -> RunS -> Prop} (hv : validJ sv jobs = true) (h0 : P [] (initM sv jobs))
    (hs : ∀ (D : List Dn) (s : RunS) (c i : Nat), RInv sv jobs c s -> P D s -> i < jobs.length -> leastS s.ss = i -> (lat s.ss i).dn < (lat s.ss i).al →
      (∀ k : Nat, k < jobs.length -> (lat s.ss k).dn < (lat s.ss k).al -> (lat s.ss i).rd <= (lat s.ss k).rd /\ (k < i -> (lat s.ss i).rd < (lat s.ss k).rd)) -> StepC sv jobs s i -> P (D ++ [⟨i, visM sv jobs s i⟩]) (nextM sv jobs s i)) :
    ∃ t c, RInv sv jobs c t /\ P (runM sv jobs) t /\ leastS t.ss < 0 := by
  obtain ⟨t, c, h1, h2, h3⟩ := run_ind_aux hs _ [] (initM sv jobs) 0 (RInv.init hv) rfl h0
  exact ⟨t, c, h1, by rwa [List.nil_append] at h2, h3⟩
structure Rw (sv : List Int) (jobs : List Job) (D : List Dn) (s : RunS) : Prop where
  dn : ∀ i : Nat, i < jobs.length -> (lat s.ss i).dn = ((lat (rowsM jobs.length D) (i : Int)).length : Int)
  rd : ∀ i : Nat, i < jobs.length -> (lat s.ss i).rd = if (lat (rowsM jobs.length D) (i : Int)).length = 0 then (lat jobs (i : Int)).ar else (lat (lat (rowsM jobs.length D) (i : Int)) (((lat (rowsM jobs.length D) (i : Int)).length - 1 : Nat) : Int)).en
  vis : ∀ i : Nat, i < jobs.length -> ∀ k : Nat, k < (lat (rowsM jobs.length D) (i : Int)).length →
    (lat (lat (rowsM jobs.length D) (i : Int)) (k : Int)).rd = (if k = 0 then (lat jobs (i : Int)).ar else (lat (lat (rowsM jobs.length D) (i : Int)) ((k - 1 : Nat) : Int)).en) ∧
    (0 <= (lat (lat (rowsM jobs.length D) (i : Int)) (k : Int)).rd /\ (lat (lat (rowsM jobs.length D) (i : Int)) (k : Int)).rd <= (lat (lat (rowsM jobs.length D) (i : Int)) (k : Int)).st) ∧
    (lat (lat (rowsM jobs.length D) (i : Int)) (k : Int)).en = (lat (lat (rowsM jobs.length D) (i : Int)) (k : Int)).st + (lat (lat jobs (i : Int)).wk (k : Int)).tm ∧
    (0 <= (lat (lat jobs (i : Int)).wk (k : Int)).tm /\ (lat (lat jobs (i : Int)).wk (k : Int)).tm <= 1099511627776)
theorem Rw.init {sv : List Int} {jobs : List Job} : Rw sv jobs [] (initM sv jobs) := by
  have e : ∀ i : Nat, lat (rowsM jobs.length []) (i : Int) = [] := fun i => by
    rw [rowsM_nil, lat_nat, List.getD_eq_getElem?_getD]
    rcases Nat.lt_or_ge i jobs.length with h | h
    . rw [List.getElem?_replicate_of_lt h]; rfl
    . rw [List.getElem?_eq_none (by simpa using h)]; rfl
  refine ⟨fun i hi => ?_, fun i hi => ?_, fun i hi k hk => ?_⟩
  . rw [e, init_lat hi]; rfl
  . rw [e, init_lat hi]; rfl
  . rw [e] at hk; simp at hk
theorem lat_app_lt {α : Type} [Inhabited α] {l m : List α} {k : Nat} (h : k < l.length) : lat (l ++ m) (k : Int) = lat l (k : Int) := by
  rw [lat_get (by rw [List.length_append]; omega), lat_get h, List.getElem_append_left h]
theorem lat_app_end {α : Type} [Inhabited α] {l : List α} {x : α} : lat (l ++ [x]) (l.length : Int) = x := by
  rw [lat_get (by simp)]; simp
theorem rowsM_step {n i : Nat} (D : List Dn) (v : Vis) (hi : i < n) (j : Nat) : lat (rowsM n (D ++ [⟨(i : Int), v⟩])) (j : Int) = if j = i then lat (rowsM n D) (i : Int) ++ [v] else lat (rowsM n D) (j : Int) := by
  rw [rowsM_snoc D (d := ⟨(i : Int), v⟩) hi rfl]
  have := lat_set (l := rowsM n D) (i := (i : Int)) (j := j) (x := lat (rowsM n D) (i : Int) ++ [v]) ⟨by omega, by rw [rowsM_len]; omega⟩
  rw [Int.toNat_natCast] at this
  rw [this]
  by_cases e : j = i
  . rw [if_pos e, if_pos (by omega)]
  . rw [if_neg e, if_neg (by omega)]
theorem Rw.step {sv : List Int} {jobs : List Job} {D : List Dn} {s : RunS} {c i : Nat} (h : Rw sv jobs D s) (R : RInv sv jobs c s) (hi : i < jobs.length) (hd : (lat s.ss i).dn < (lat s.ss i).al) (o : StepC sv jobs s i) :
    Rw sv jobs (D ++ [⟨i, visM sv jobs s i⟩]) (nextM sv jobs s i) := by
  have so := R.step (i := i) (by rw [R.sl]; exact hi) hd
  have hw : workM jobs s i = lat (lat jobs (i : Int)).wk ((lat (rowsM jobs.length D) (i : Int)).length : Int) := by unfold workM; rw [h.dn i hi]
  have hrd : (visM sv jobs s i).rd = (lat s.ss i).rd := rfl
  have hst : (visM sv jobs s i).rd <= (visM sv jobs s i).st := ((o.vis _).1 (Int.le_refl _)).1
  have h0 := (R.rd i hi).1
  have hen := o.en
  have htm := so.tm
  rw [hw] at hen htm
  generalize hV : visM sv jobs s i = v at *
  refine ⟨fun j hj => ?_, fun j hj => ?_, fun j hj k hk => ?_⟩
  . rw [rowsM_step D v hi, o.ss]
    by_cases e : j = i
    . subst e
      rw [if_pos rfl, if_pos rfl, List.length_append, List.length_singleton, h.dn j hi]; rfl
    . rw [if_neg e, if_neg e]; exact h.dn j hj
  . rw [rowsM_step D v hi, o.ss]
    by_cases e : j = i
    . subst e
      rw [if_pos rfl, if_pos rfl, if_neg (by simp), List.length_append, List.length_singleton, Nat.add_sub_cancel, lat_app_end]; exact congrArg Vis.en hV
    . rw [if_neg e, if_neg e]; exact h.rd j hj
  . rw [rowsM_step D v hi] at hk ⊢
    by_cases e : j = i
    . subst e
      rw [if_pos rfl] at hk ⊢
      rw [List.length_append, List.length_singleton] at hk
      rcases Nat.lt_or_ge k (lat (rowsM jobs.length D) (j : Int)).length with hk1 | hk1
      . rw [lat_app_lt hk1, lat_app_lt (k := k - 1) (by omega)]
        exact h.vis j hj k hk1
      . have ek : k = (lat (rowsM jobs.length D) (j : Int)).length := by omega
        rw [ek, lat_app_end]
        have hr := h.rd j hj
        refine ⟨?_, ⟨by omega, hst⟩, hen, htm⟩
        rw [hrd, hr]
        by_cases e0 : (lat (rowsM jobs.length D) (j : Int)).length = 0
        . rw [if_pos e0, if_pos e0]
        . rw [if_neg e0, if_neg e0, lat_app_lt (by omega)]
    . rw [if_neg e] at hk ⊢
      exact h.vis j hj k hk
theorem run_rw {sv : List Int} {jobs : List Job} (hv : validJ sv jobs = true) : ∃ t c, RInv sv jobs c t /\ Rw sv jobs (runM sv jobs) t /\ leastS t.ss < 0 :=
  run_ind hv Rw.init fun _ _ _ _ R h hi _ hd _ o => h.step R hi hd o
theorem run_len {sv : List Int} {jobs : List Job} (hv : validJ sv jobs = true) {i : Nat} (hi : i < jobs.length) : (lat (rowsM jobs.length (runM sv jobs)) (i : Int)).length = (lat jobs (i : Int)).wk.length := by
  obtain ⟨t, c, R, h, hl⟩ := run_rw hv
  have h1 := h.dn i hi
  have h2 := R.none hl i hi
  have h3 := R.al i hi
  omega
theorem sum_upd {f g : Nat -> Int} {i : Nat} : ∀ {n : Nat}, (∀ k, k < n -> k ≠ i -> g k = f k) -> ((List.range n).map g).sum = ((List.range n).map f).sum + if i < n then g i - f i else 0
  | 0, _ => by simp
  | n + 1, h => by
    have ih := sum_upd (n := n) (f := f) (g := g) (i := i) fun k hk => h k (by omega)
    rw [map_range_succ, map_range_succ, List.sum_append, List.sum_append, ih]
    simp only [List.sum_cons, List.sum_nil, Int.add_zero]
    by_cases e : n = i
    . subst e
      rw [if_neg (Nat.lt_irrefl _), if_pos (by omega)]; omega
    . rw [h n (by omega) e]
      by_cases e2 : i < n
      . rw [if_pos e2, if_pos (by omega)]; omega
      . rw [if_neg e2, if_neg (by omega)]; omega
theorem busyJ_snoc (j : Job) (l : List Vis) (v : Vis) (s fr to : Int) : busyJ j (l ++ [v]) s fr to = busyJ j l s fr to + if (lat j.wk (l.length : Int)).st = s then partV v fr to else 0 := by
  unfold busyJ
  rw [List.length_append, List.length_singleton, map_range_succ, List.sum_append]
  simp only [List.sum_cons, List.sum_nil, Int.add_zero]
  rw [lat_app_end]
  congr 1
  refine congrArg _ (List.map_congr_left fun k hk => ?_)
  rw [lat_app_lt (List.mem_range.1 hk)]
theorem busyL_step {jobs : List Job} {D : List Dn} {i : Nat} {v : Vis} (hi : i < jobs.length) (s fr to : Int) : busyL jobs (rowsM jobs.length (D ++ [⟨(i : Int), v⟩])) s fr to = busyL jobs (rowsM jobs.length D) s fr to + if (lat (lat jobs (i : Int)).wk ((lat (rowsM jobs.length D) (i : Int)).length : Int)).st = s then partV v fr to else 0 := by
  unfold busyL
  rw [sum_upd (i := i) (f := fun k : Nat => busyJ (lat jobs (k : Int)) (lat (rowsM jobs.length D) (k : Int)) s fr to) fun k hk hne => by
    rw [rowsM_step D v hi, if_neg hne]]
  rw [if_pos hi, rowsM_step D v hi, if_pos rfl, busyJ_snoc]
  omega
theorem busyL_nil (jobs : List Job) (s fr to : Int) : busyL jobs (rowsM jobs.length []) s fr to = 0 := by
  unfold busyL
  have : ∀ n : Nat, n <= jobs.length -> ((List.range n).map fun i : Nat => busyJ (lat jobs (i : Int)) (lat (rowsM jobs.length []) (i : Int)) s fr to).sum = 0 := by
    intro n
    induction n with
    | zero => intro _; rfl
    | succ n ih =>
      intro hn
      rw [map_range_succ, List.sum_append, ih (by omega), rowsM_lat _ (by omega)]
      rfl
  exact this _ (Nat.le_refl _)
theorem row_mem {n i : Nat} {l : List Dn} (hi : i < n) {v : Vis} (h : v ∈ lat (rowsM n l) (i : Int)) : ∃ d ∈ l, d.v = v := by
  rw [rowsM_lat _ hi, List.mem_map] at h
  obtain ⟨d, hd, rfl⟩ := h
  exact ⟨d, (List.mem_filter.1 hd).1, rfl⟩
theorem run_vis {sv : List Int} {jobs : List Job} (hv : validJ sv jobs = true) {i k : Nat} (hi : i < jobs.length) (hk : k < (lat jobs (i : Int)).wk.length) :
    (lat (lat (rowsM jobs.length (runM sv jobs)) (i : Int)) (k : Int)).rd = (if k = 0 then (lat jobs (i : Int)).ar else (lat (lat (rowsM jobs.length (runM sv jobs)) (i : Int)) ((k - 1 : Nat) : Int)).en) ∧
    (0 <= (lat (lat (rowsM jobs.length (runM sv jobs)) (i : Int)) (k : Int)).rd /\ (lat (lat (rowsM jobs.length (runM sv jobs)) (i : Int)) (k : Int)).rd <= (lat (lat (rowsM jobs.length (runM sv jobs)) (i : Int)) (k : Int)).st) ∧
    (lat (lat (rowsM jobs.length (runM sv jobs)) (i : Int)) (k : Int)).en = (lat (lat (rowsM jobs.length (runM sv jobs)) (i : Int)) (k : Int)).st + (lat (lat jobs (i : Int)).wk (k : Int)).tm ∧
    (0 <= (lat (lat jobs (i : Int)).wk (k : Int)).tm /\ (lat (lat jobs (i : Int)).wk (k : Int)).tm <= 1099511627776) /\ (lat (lat (rowsM jobs.length (runM sv jobs)) (i : Int)) (k : Int)).en <= 163827240599552 := by
  have hl := run_len hv hi
  obtain ⟨t, c, R, h, _⟩ := run_rw hv
  obtain ⟨a, b, d, e⟩ := h.vis i hi k (by omega)
  refine ⟨a, b, d, e, ?_⟩
  obtain ⟨x, hx, he⟩ := row_mem hi (lat_mem (xs := lat (rowsM jobs.length (runM sv jobs)) (i : Int)) (i := (k : Int)) ⟨by omega, by omega⟩)
  rw [<- he]
  exact (runM_bound hv x hx).2.2
end Go.Lat
namespace Go.Lat
open Go.RowKit
theorem runR_len (sv : List Int) (jobs : List Job) : (runR sv jobs).1.length <= 9223372036854775807 /\ ∀ j ∈ (runR sv jobs).1, j.length <= 9223372036854775807 := by
  unfold runR
  split
  . rename_i hv
    have hj := (job_ok hv).1
    have hl := runM_len hv
    refine ⟨by show (rowsM _ _).length <= _; rw [rowsM_len]; omega, fun j hj' => ?_⟩
    obtain ⟨i, hi, rfl⟩ := List.mem_iff_getElem.1 hj'
    have hi' : i < jobs.length := by simpa [rowsM_len] using hi
    have e := rowsM_lat (runM sv jobs) hi'
    rw [lat_get (by rw [rowsM_len]; exact hi')] at e
    show (rowsM jobs.length (runM sv jobs))[i].length <= _
    rw [e, List.length_map]
    have := List.length_filter_le (fun d : Dn => decide (d.j = (i : Int))) (runM sv jobs)
    omega
  . exact ⟨by simp, fun j hj => by cases hj⟩
theorem servers_len (n : Int) : 1 <= (serversM n).length /\ (serversM n).length <= 3 := by
  have := zXz (c := n) (n := 3) (by omega)
  unfold serversM
  rw [List.length_map, List.length_range]; omega
theorem jobs_len (n : Int) (x : List (Vector Int 4)) : (jobsM23 n x).length <= 12 /\ ∀ j ∈ jobsM23 n x, j.wk.length <= 3 := by
  unfold jobsM23
  refine ⟨by rw [List.length_map, List.length_take]; omega, fun j hj => ?_⟩
  obtain ⟨y, _, rfl⟩ := List.mem_map.1 hj
  have := zXz (c := vat y 1) (n := 4) (by omega)
  show ((List.range (pickM (vat y 1) 4).toNat).map _).length <= 3
  rw [List.length_map, List.length_range]; omega
end Go.Lat
namespace Go.Lat
open Go.ChangeShapes Go.WideShapes Go.ChangeAt Go.RowKit
open Go.Proofs
section
variable {H : Type} {enc : TypeId × Value -> H} {w : World} {base : Nat} {spare : Nat -> Bool} {held : Bool}
theorem c23_3 : Try.prog.cellsOf 3 = 1 := by kernel_rfl
theorem c23_73 : Try.prog.cellsOf 73 = 4 := by kernel_rfl
theorem slice_le {t e : TypeId} {v : Value} {d : DataW H} {ps : List MemPlace} {n : Nat} {cs : List AV} {m : MM} (ht : Try.prog.underlying t = some (.slice e)) (h : DataW.Trod enc Try.prog w base spare held t v d ps) (hv : VR [] m (.lst true n cs) v) : n <= 9223372036854775807 := by
  obtain ⟨fuel, hf⟩ := h
  simp only [VR] at hv
  rcases hv with ⟨rfl, -⟩ | ⟨a, cap, vs, hle, rfl, -⟩
  . omega
  . rcases Go.Deep.open_slice ht hf with ⟨hcs, -⟩ | ⟨a', len, cap', k, q, D, Pl, hcs, hb, hl, hm, -⟩
    . simp [Value.cells] at hcs
    . simp [Value.cells] at hcs
      obtain ⟨-, rfl, rfl⟩ := hcs
      unfold maxLen at hm
      omega
def vecL (n : Nat) (r : List Int) : Vector Int n := Vector.ofFn fun i : Fin n => r.getD i.val 0
theorem vecL_toList {n : Nat} {r : List Int} (h : r.length = n) : (vecL n r).toList = r := by
  unfold vecL
  apply List.ext_getElem (by simp [h])
  intro i h1 h2
  simp [h2]
theorem vecL_inI {n : Nat} {r : List Int} (h : r.length = n) (hr : ∀ z ∈ r, inI z) (k : Nat) : inI (vat (vecL n r) k) := by
  unfold vat
  rw [vecL_toList h, List.getD_eq_getElem?_getD]
  rcases Nat.lt_or_ge k r.length with hk | hk
  . rw [List.getElem?_eq_getElem hk]; exact hr _ (List.getElem_mem hk)
  . rw [List.getElem?_eq_none hk]; unfold inI; show (-9223372036854775808 : Int) <= 0 /\ (0 : Int) <= 9223372036854775807; omega
theorem encInts (r : List Int) : zYy zYx r = r.map fun z => AV.int .i64 z := by
  induction r with
  | nil => rfl
  | cons z r ih =>
    show zYx z ++ zYy zYx r = _
    rw [ih]; rfl
theorem encVecs {n : Nat} : ∀ {L : List (List Int)}, (∀ r ∈ L, r.length = n) -> zYy (fun v : Vector Int n => zYy zYx v.toList) (L.map (vecL n)) = L.flatten.map fun z => AV.int .i64 z
  | [], _ => rfl
  | r :: L, h => by
    show zYy zYx (vecL n r).toList ++ zYy (fun v : Vector Int n => zYy zYx v.toList) (L.map (vecL n)) = _
    rw [vecL_toList (h r List.mem_cons_self), encVecs (fun x hx => h x (List.mem_cons_of_mem _ hx)), encInts, List.flatten_cons, List.map_append]
theorem open_v4 {v : Value} {d : DataW H} {ps : List MemPlace} (hv : ∃ a len cap, v = .slice a len cap) (h : DataW.Trod enc Try.prog w base spare held 22 v d ps) :
    ∃ x : List (Vector Int 4), (x.length <= 9223372036854775807 /\ ∀ y ∈ x, ∀ k, inI (vat y k)) /\ VR [] (nest (memOf w)) (.lst true x.length (zYy eV4 x)) v := by
  obtain ⟨L, h1, h2⟩ := open_flat Try.underlying22 c23_73 (by omega) hv (intCells_arr Try.underlying73 Try.underlying3 c23_3 c23_73) h
  have hx : VR [] (nest (memOf w)) (.lst true (L.map (vecL 4)).length (zYy eV4 (L.map (vecL 4)))) v := by
    rw [List.length_map]
    show VR [] _ (.lst true L.length (zYy (fun v : Vector Int 4 => zYy zYx v.toList) (L.map (vecL 4)))) v
    rw [encVecs fun r hr => (h1 r hr).1]; exact h2
  refine ⟨L.map (vecL 4), ⟨slice_le Try.underlying22 h hx, fun y hy k => ?_⟩, hx⟩
  obtain ⟨r, hr, rfl⟩ := List.mem_map.1 hy
  exact vecL_inI (h1 r hr).1 (h1 r hr).2 k
end
end Go.Lat
namespace Go.Lat
open Go.ChangeShapes Go.WideShapes Go.ChangeAt Go.RowKit
open Go.Proofs
section
variable {H : Type} {enc : TypeId × Value -> H} {P : Program} {w : World} {base : Nat} {spare : Nat -> Bool} {held : Bool}
def CellsAs {α : Type} (enc : TypeId × Value -> H) (P : Program) (w : World) (base : Nat) (spare : Nat -> Bool) (held : Bool) (e : TypeId) (k : Nat) (en : α -> List AV) (Q : α -> Prop) : Prop :=
  ∀ n cs d, DataW.trod enc P w base spare held n e cs = some d -> cs.length = k /\ (∀ u ∈ cs, u.oneCell' = true) /\ ∃ x : α, Q x /\ VRs [] (nest (memOf w)) (en x) cs
end
section
variable {H : Type} {enc : TypeId × Value -> H} {w : World} {base : Nat} {spare : Nat -> Bool} {held : Bool}
end
end Go.Lat
namespace Go.Lat
open Go.RowKit
def plc (jobs : List Job) (D : List Dn) (i : Nat) (v : Vis) : Plc := ⟨i, (lat (lat jobs (i : Int)).wk ((lat (rowsM jobs.length D) (i : Int)).length : Int)).st, (lat (lat jobs (i : Int)).wk ((lat (rowsM jobs.length D) (i : Int)).length : Int)).tm, v⟩
def places (jobs : List Job) (D : List Dn) : List Plc := placesA jobs (rowsM jobs.length D) jobs.length
theorem placeJ_step {jobs : List Job} {D : List Dn} {i : Nat} (v : Vis) (hi : i < jobs.length) (j : Nat) : placeJ jobs (rowsM jobs.length (D ++ [⟨(i : Int), v⟩])) j = if j = i then placeJ jobs (rowsM jobs.length D) i ++ [plc jobs D i v] else placeJ jobs (rowsM jobs.length D) j := by
  unfold placeJ
  rw [rowsM_step D v hi]
  by_cases e : j = i
  . subst e
    rw [if_pos rfl, if_pos rfl, List.length_append, List.length_singleton, map_range_succ, lat_app_end]
    congr 1
    refine List.map_congr_left fun k hk => ?_
    rw [lat_app_lt (List.mem_range.1 hk)]
  . rw [if_neg e, if_neg e]
theorem places_count {jobs : List Job} {D : List Dn} {i : Nat} (v : Vis) (hi : i < jobs.length) (p : Plc -> Bool) : (places jobs (D ++ [⟨(i : Int), v⟩])).countP p = (places jobs D).countP p + if p (plc jobs D i v) = true then 1 else 0 := by
  unfold places
  have : ∀ m : Nat, (placesA jobs (rowsM jobs.length (D ++ [⟨(i : Int), v⟩])) m).countP p = (placesA jobs (rowsM jobs.length D) m).countP p + if i < m /\ p (plc jobs D i v) = true then 1 else 0 := by
    intro m
    induction m with
    | zero => simp [placesA]
    | succ m ih =>
      rw [placesA_succ, placesA_succ, List.countP_append, List.countP_append, ih, placeJ_step v hi]
      by_cases e : m = i
      . subst e
        rw [if_pos rfl, List.countP_append, if_neg (fun h => absurd h.1 (Nat.lt_irrefl _))]
        by_cases hp : p (plc jobs D m v) = true
        . rw [if_pos ⟨by omega, hp⟩]; simp [hp]; omega
        . rw [if_neg (fun h => hp h.2)]; simp [hp]
      . rw [if_neg e]
        by_cases hp : i < m /\ p (plc jobs D i v) = true
        . rw [if_pos hp, if_pos ⟨by omega, hp.2⟩]; omega
        . rw [if_neg hp, if_neg (fun h => hp ⟨by omega, h.2⟩)]; omega
  rw [this]
  by_cases hp : p (plc jobs D i v) = true
  . rw [if_pos ⟨hi, hp⟩, if_pos hp]
  . rw [if_neg (fun h => hp h.2), if_neg hp]
theorem places_mem {jobs : List Job} {D : List Dn} {i : Nat} (v : Vis) (hi : i < jobs.length) (x : Plc) : x ∈ places jobs (D ++ [⟨(i : Int), v⟩]) ↔ x ∈ places jobs D \/ x = plc jobs D i v := by
  have h := places_count (D := D) v hi fun y => decide (y.j = x.j /\ y.s = x.s /\ y.t = x.t /\ y.v.rd = x.v.rd /\ y.v.st = x.v.st /\ y.v.en = x.v.en)
  have eq : ∀ y : Plc, (decide (y.j = x.j /\ y.s = x.s /\ y.t = x.t /\ y.v.rd = x.v.rd /\ y.v.st = x.v.st /\ y.v.en = x.v.en) = true) ↔ y = x := fun y => by
    rw [decide_eq_true_eq]
    constructor
    . rintro ⟨a, b, c, d, e, f⟩
      rcases y with ⟨y1, y2, y3, ⟨y4, y5, y6⟩⟩
      rcases x with ⟨x1, x2, x3, ⟨x4, x5, x6⟩⟩
      simp only at a b c d e f
      rw [a, b, c, d, e, f]
    . rintro rfl; exact ⟨rfl, rfl, rfl, rfl, rfl, rfl⟩
  have hm : ∀ l : List Plc, 0 < l.countP (fun y => decide (y.j = x.j /\ y.s = x.s /\ y.t = x.t /\ y.v.rd = x.v.rd /\ y.v.st = x.v.st /\ y.v.en = x.v.en)) ↔ x ∈ l := fun l => by
    rw [List.countP_pos_iff]
    constructor
    . rintro ⟨y, hy, he⟩
      rwa [<- (eq y).1 he]
    . intro hx
      exact ⟨x, hx, (eq x).2 rfl⟩
  rw [<- hm, h, <- hm]
  by_cases e : plc jobs D i v = x
  . rw [if_pos ((eq _).2 e)]
    exact ⟨fun _ => .inr e.symm, fun _ => by omega⟩
  . rw [if_neg (fun k => e ((eq _).1 k)), Nat.add_zero]
    exact ⟨fun k => .inl k, fun k => k.resolve_right fun k => e k.symm⟩
end Go.Lat
namespace Go.Lat
open Go.RowKit
def inProg (jobs : List Job) (D : List Dn) (q x : Int) : Nat := (places jobs D).countP fun p => decide (p.s = q /\ p.v.st <= x /\ x < p.v.en)
def behind (jobs : List Job) (D : List Dn) (q x : Int) : Nat := (places jobs D).countP fun p => decide (p.s = q /\ x < p.v.en)
structure PI (sv : List Int) (jobs : List Job) (D : List Dn) (s : RunS) : Prop where
  ok : ∀ p ∈ places jobs D, (0 <= p.s /\ p.s < sv.length) /\ 0 <= p.v.rd /\ p.v.rd <= p.v.st /\ p.v.st <= p.v.en
  rd : ∀ p ∈ places jobs D, ∀ i : Nat, i < jobs.length -> (lat s.ss i).dn < (lat s.ss i).al -> p.v.rd <= (lat s.ss i).rd
  st : ∀ p ∈ places jobs D, ∀ (x : Int) (i : Nat), i < jobs.length -> (lat s.ss i).dn < (lat s.ss i).al -> (lat s.ss i).rd <= x -> 1 <= cnt sv s p.s x -> p.v.st <= x
  free : ∀ q x : Int, 0 <= q -> q < sv.length -> 0 <= x -> (∀ p ∈ places jobs D, p.s = q -> p.v.st <= x) -> behind jobs D q x + cnt sv s q x = (slots sv (initM sv jobs) q).length
  busy : ∀ q x : Int, 0 <= q -> q < sv.length -> inProg jobs D q x <= (slots sv (initM sv jobs) q).length
  wait : ∀ p ∈ places jobs D, ∀ x : Int, p.v.rd <= x -> x < p.v.st -> inProg jobs D p.s x = (slots sv (initM sv jobs) p.s).length
  ord : ∀ p ∈ places jobs D, ∀ p' ∈ places jobs D, p.s = p'.s -> p.v.rd < p'.v.rd -> p.v.st <= p'.v.st
theorem PI.step {sv : List Int} {jobs : List Job} {D : List Dn} {s : RunS} {c i : Nat} (h : PI sv jobs D s) (W : Rw sv jobs D s) (R : RInv sv jobs c s) (hi : i < jobs.length) (hd : (lat s.ss i).dn < (lat s.ss i).al)
    (hmin : ∀ k : Nat, k < jobs.length -> (lat s.ss k).dn < (lat s.ss k).al -> (lat s.ss i).rd <= (lat s.ss k).rd /\ (k < i -> (lat s.ss i).rd < (lat s.ss k).rd)) (o : StepC sv jobs s i) :
    PI sv jobs (D ++ [⟨i, visM sv jobs s i⟩]) (nextM sv jobs s i) := by
  have hw : workM jobs s i = lat (lat jobs (i : Int)).wk ((lat (rowsM jobs.length D) (i : Int)).length : Int) := by unfold workM; rw [W.dn i hi]
  have ps : (plc jobs D i (visM sv jobs s i)).s = (workM jobs s i).st := by rw [hw]; rfl
  have pv : (plc jobs D i (visM sv jobs s i)).v = visM sv jobs s i := rfl
  have hrd : (visM sv jobs s i).rd = (lat s.ss i).rd := rfl
  have hst := (o.vis _).1 (Int.le_refl _)
  have h0 := (R.rd i hi).1
  have hen := o.en
  have htm := o.tm
  have hos := o.st
  have hmem := places_mem (D := D) (visM sv jobs s i) hi
  have hcnt := places_count (D := D) (visM sv jobs s i) hi
  have hvis := o.vis
  have hoc := o.cnt
  have hss := o.ss
  generalize plc jobs D i (visM sv jobs s i) = p0 at *
  have low : ∀ p ∈ places jobs D, ∀ x : Int, p.s = p0.s -> (visM sv jobs s i).st <= x -> p.v.st <= x := fun p hp x e hx => by
    have := (hvis x).1 hx
    exact h.st p hp x i hi hd this.1 (by rw [e, ps]; exact this.2)
  have free' : ∀ q x : Int, 0 <= q -> q < sv.length -> 0 <= x -> (∀ p ∈ places jobs (D ++ [⟨(i : Int), visM sv jobs s i⟩]), p.s = q -> p.v.st <= x) -> behind jobs (D ++ [⟨(i : Int), visM sv jobs s i⟩]) q x + cnt sv (nextM sv jobs s i) q x = (slots sv (initM sv jobs) q).length := fun q x hq hq2 hx hall => by
    have h1 := h.free q x hq hq2 hx fun p hp => hall p ((hmem p).2 (.inl hp))
    have h2 : behind jobs (D ++ [⟨(i : Int), visM sv jobs s i⟩]) q x = behind jobs D q x + if (decide (p0.s = q /\ x < p0.v.en)) = true then 1 else 0 := hcnt _
    have h3 := hoc q x hq
    have h4 : (decide (p0.s = q /\ x < p0.v.en) = true) ↔ (q = (workM jobs s i).st /\ 1 <= cnt sv s q x /\ x < (visM sv jobs s i).en) := by
      rw [decide_eq_true_eq, ps, pv]
      constructor
      . rintro ⟨a, b⟩
        have := hall p0 ((hmem p0).2 (.inr rfl)) (by rw [ps]; exact a)
        rw [pv] at this
        exact ⟨a.symm, by rw [<- a]; exact ((hvis x).1 this).2, b⟩
      . rintro ⟨a, _, b⟩; exact ⟨a.symm, b⟩
    by_cases e : q = (workM jobs s i).st /\ 1 <= cnt sv s q x /\ x < (visM sv jobs s i).en
    . rw [if_pos e] at h3; rw [if_pos (h4.2 e)] at h2; omega
    . rw [if_neg e] at h3; rw [if_neg (fun k => e (h4.1 k))] at h2; omega
  refine ⟨fun p hp => ?_, fun p hp j hj hdj => ?_, fun p hp x j hj hdj hx hc => ?_, free', fun q x hq hq2 => ?_, fun p hp x h1 h2 => ?_, fun p hp p' hp' e1 e2 => ?_⟩
  . rcases (hmem p).1 hp with hp | rfl
    . exact h.ok p hp
    . rw [ps, pv]; omega
  . have key : (lat s.ss i).rd <= (lat (nextM sv jobs s i).ss j).rd := by
      rw [hss j] at hdj ⊢
      by_cases e : j = i
      . rw [if_pos e]; show _ <= (visM sv jobs s i).en; omega
      . rw [if_neg e] at hdj ⊢; exact (hmin j hj hdj).1
    rcases (hmem p).1 hp with hp | rfl
    . have := h.rd p hp i hi hd; omega
    . rw [pv]; omega
  . have key : (lat s.ss i).rd <= (lat (nextM sv jobs s i).ss j).rd := by
      rw [hss j] at hdj ⊢
      by_cases e : j = i
      . rw [if_pos e]; show _ <= (visM sv jobs s i).en; omega
      . rw [if_neg e] at hdj ⊢; exact (hmin j hj hdj).1
    rcases (hmem p).1 hp with hp | rfl
    . have h3 := hoc p.s x (h.ok p hp).1.1
      exact h.st p hp x i hi hd (by omega) (by split at h3 <;> omega)
    . rw [ps] at hc
      have h3 := hoc (workM jobs s i).st x hos.1
      rw [pv]
      exact (hvis x).2 ⟨by omega, by split at h3 <;> omega⟩
  . have h1 := h.busy q x hq hq2
    have h2 : inProg jobs (D ++ [⟨(i : Int), visM sv jobs s i⟩]) q x = inProg jobs D q x + if (decide (p0.s = q /\ p0.v.st <= x /\ x < p0.v.en)) = true then 1 else 0 := hcnt _
    by_cases e : p0.s = q /\ p0.v.st <= x /\ x < p0.v.en
    . have e2 := e.2.1
      rw [pv] at e2
      have h3 := free' q x hq hq2 (by omega) fun p hp hs => by
        rcases (hmem p).1 hp with hp | rfl
        . exact low p hp x (by rw [hs, e.1]) e2
        . exact e.2.1
      have h4 : inProg jobs (D ++ [⟨(i : Int), visM sv jobs s i⟩]) q x <= behind jobs (D ++ [⟨(i : Int), visM sv jobs s i⟩]) q x := List.countP_mono_left fun p _ hp => by
        have := of_decide_eq_true hp
        exact decide_eq_true ⟨this.1, this.2.2⟩
      omega
    . rw [if_neg (by simpa using e)] at h2; omega
  . have h3 : inProg jobs (D ++ [⟨(i : Int), visM sv jobs s i⟩]) p.s x = inProg jobs D p.s x + if (decide (p0.s = p.s /\ p0.v.st <= x /\ x < p0.v.en)) = true then 1 else 0 := hcnt _
    rcases (hmem p).1 hp with hp | rfl
    . have e : ¬ (p0.s = p.s /\ p0.v.st <= x /\ x < p0.v.en) := fun e => by
        have e2 := e.2.1
        rw [pv] at e2
        have := low p hp x e.1.symm e2
        omega
      rw [h3, if_neg (by simpa using e)]
      exact h.wait p hp x h1 h2
    . rw [h3, if_neg (by simp; omega), Nat.add_zero]
      rw [pv] at h1 h2
      by_cases hx : ∃ p' ∈ places jobs D, p'.s = p.s /\ x < p'.v.st
      . obtain ⟨p', hp', e1, e2⟩ := hx
        rw [<- e1]
        exact h.wait p' hp' x (by have := h.rd p' hp' i hi hd; omega) e2
      . have hall : ∀ p' ∈ places jobs D, p'.s = p.s -> p'.v.st <= x := fun p' hp' e => by
          rcases Int.lt_or_le x p'.v.st with k | k
          . exact absurd ⟨p', hp', e, k⟩ hx
          . exact k
        have h4 := h.free p.s x (by rw [ps]; exact hos.1) (by rw [ps]; exact hos.2) (by omega) hall
        have h5 : ¬ 1 <= cnt sv s p.s x := fun k => by
          have := (hvis x).2 ⟨by omega, by rw [<- ps]; exact k⟩
          omega
        have h6 : inProg jobs D p.s x = behind jobs D p.s x := List.countP_congr fun p' hp' => by
          rw [decide_eq_true_eq, decide_eq_true_eq]
          exact ⟨fun k => ⟨k.1, k.2.2⟩, fun k => ⟨k.1, hall p' hp' k.1, k.2⟩⟩
        omega
  . rcases (hmem p).1 hp with hp | rfl
    . rcases (hmem p').1 hp' with hp' | rfl
      . exact h.ord p hp p' hp' e1 e2
      . rw [pv]; exact low p hp _ e1 (Int.le_refl _)
    . rcases (hmem p').1 hp' with hp' | rfl
      . have := h.rd p' hp' i hi hd
        rw [pv] at e2; omega
      . omega
theorem places_nil (jobs : List Job) : places jobs [] = [] := by
  unfold places
  have : ∀ m : Nat, m <= jobs.length -> placesA jobs (rowsM jobs.length []) m = [] := by
    intro m
    induction m with
    | zero => intro _; simp [placesA]
    | succ m ih =>
      intro hm
      rw [placesA_succ, ih (by omega)]
      unfold placeJ
      rw [rowsM_lat _ (by omega)]; rfl
  exact this _ (Nat.le_refl _)
theorem PI.init {sv : List Int} {jobs : List Job} : PI sv jobs [] (initM sv jobs) := by
  have e := places_nil jobs
  refine ⟨fun p hp => ?_, fun p hp => ?_, fun p hp => ?_, fun q x hq hq2 hx _ => ?_, fun q x hq hq2 => ?_, fun p hp => ?_, fun p hp => ?_⟩
  . rw [e] at hp; cases hp
  . rw [e] at hp; cases hp
  . rw [e] at hp; cases hp
  . unfold behind
    rw [e, init_cnt ⟨hq, hq2⟩, if_pos hx]; simp
  . unfold inProg
    rw [e]; simp
  . rw [e] at hp; cases hp
  . rw [e] at hp; cases hp
end Go.Lat
namespace Go.Lat
open Go.RowKit
structure PSm (jobs : List Job) (D : List Dn) (s : RunS) : Prop where
  en : ∀ p ∈ places jobs D, p.v.en <= 39 + 12 * (D.length : Int)
  rd : ∀ i : Nat, i < jobs.length -> (lat s.ss i).rd <= 39 + 12 * (D.length : Int)
theorem slots_init_len {sv : List Int} {jobs : List Job} (hv : validJ sv jobs = true) {q : Int} (hq : 0 <= q /\ q < sv.length) : ((slots sv (initM sv jobs) q).length : Int) = lat sv q := by
  obtain ⟨_, h2, _⟩ := job_ok hv
  have := h2 _ (lat_mem (xs := sv) (i := q) hq)
  unfold slots
  rw [List.length_take, Vector.length_toList]; omega
theorem PSm.step {sv : List Int} {jobs : List Job} {D : List Dn} {s : RunS} {c i : Nat} (hv : validJ sv jobs = true) (hj : ∀ j ∈ jobs, ∀ w ∈ j.wk, w.tm <= 12) (h : PSm jobs D s) (I : PI sv jobs D s) (R : RInv sv jobs c s) (hi : i < jobs.length) (hd : (lat s.ss i).dn < (lat s.ss i).al) (o : StepC sv jobs s i) :
    PSm jobs (D ++ [⟨i, visM sv jobs s i⟩]) (nextM sv jobs s i) := by
  have h1 := h.rd i hi
  have h0 := (R.rd i hi).1
  have hal := R.al i hi
  have hw : workM jobs s i ∈ (lat jobs (i : Int)).wk := lat_mem ⟨hal.2.1, by omega⟩
  have htm := hj _ (lat_mem (xs := jobs) (i := (i : Int)) ⟨by omega, by omega⟩) _ hw
  have hf := I.free (workM jobs s i).st (39 + 12 * (D.length : Int)) o.st.1 o.st.2 (by omega) fun p hp _ => by
    have := (I.ok p hp).2
    have := h.en p hp
    omega
  have hb : behind jobs D (workM jobs s i).st (39 + 12 * (D.length : Int)) = 0 := by
    unfold behind
    rw [List.countP_eq_zero]
    intro p hp hk
    have := (of_decide_eq_true hk).2
    have := h.en p hp
    omega
  have hs := slots_init_len hv o.st
  have hn := (job_ok hv).2.1 _ (lat_mem (xs := sv) (i := (workM jobs s i).st) o.st)
  have hst : (visM sv jobs s i).st <= 39 + 12 * (D.length : Int) := (o.vis _).2 ⟨h1, by omega⟩
  have hen := o.en
  have hl : ((D ++ [(⟨(i : Int), visM sv jobs s i⟩ : Dn)]).length : Int) = D.length + 1 := by simp
  refine ⟨fun p hp => ?_, fun j hj' => ?_⟩
  . rw [hl]
    rcases (places_mem (visM sv jobs s i) hi p).1 hp with hp | rfl
    . have := h.en p hp; omega
    . show (visM sv jobs s i).en <= _; omega
  . rw [hl, o.ss j]
    by_cases e : j = i
    . rw [if_pos e]; show (visM sv jobs s i).en <= _; omega
    . rw [if_neg e]; have := h.rd j hj'; omega
theorem PSm.init {sv : List Int} {jobs : List Job} (ha : ∀ j ∈ jobs, j.ar <= 39) : PSm jobs [] (initM sv jobs) := by
  refine ⟨fun p hp => ?_, fun i hi => ?_⟩
  . rw [places_nil] at hp; cases hp
  . rw [init_lat hi]
    have := ha _ (lat_mem (xs := jobs) (i := (i : Int)) ⟨by omega, by omega⟩)
    simpa using this
end Go.Lat
namespace Go.Lat
open Go.RowKit
theorem made_jobs {m : Int} (hm : 1 <= m) (x : List (Vector Int 4)) : (jobsM23 m x).length <= 12 /\ ∀ j ∈ jobsM23 m x, (0 <= j.ar /\ j.ar <= 39 /\ j.wk.length <= 3) /\ ∀ w ∈ j.wk, (0 <= w.st /\ w.st < m) /\ 0 <= w.tm /\ w.tm <= 12 := by
  refine ⟨(jobs_len m x).1, fun j hj => ?_⟩
  have h3 := (jobs_len m x).2 j hj
  unfold jobsM23 at hj
  obtain ⟨y, _, rfl⟩ := List.mem_map.1 hj
  have p0 := zXz (c := vat y 0) (n := 40) (by omega)
  refine ⟨⟨p0.1, by show pickM (vat y 0) 40 <= 39; omega, h3⟩, fun w hw => ?_⟩
  obtain ⟨k, _, rfl⟩ := List.mem_map.1 hw
  have p1 := zXz (c := (vat y 2).tdiv (1 + k)) (n := m) hm
  have p2 := zXz (c := (vat y 3).tdiv (1 + 3 * k)) (n := 13) (by omega)
  exact ⟨p1, p2.1, by show pickM _ 13 <= 12; omega⟩
theorem made_servers (n : Int) : ∀ k ∈ serversM n, 1 <= k /\ k <= 3 := fun k hk => by
  unfold serversM at hk
  obtain ⟨i, _, rfl⟩ := List.mem_map.1 hk
  have := zXz (c := n.tdiv (3 + i)) (n := 3) (by omega)
  omega
theorem made_valid (n : Int) (x : List (Vector Int 4)) : validJ (serversM n) (jobsM23 ((serversM n).length : Int) x) = true := by
  have h1 := servers_len n
  have h2 := made_jobs (m := ((serversM n).length : Int)) (by omega) x
  unfold validJ
  rw [Bool.and_eq_true, Bool.and_eq_true, decide_eq_true_eq, List.all_eq_true, List.all_eq_true]
  refine ⟨⟨by omega, fun k hk => decide_eq_true (by have := made_servers n k hk; omega)⟩, fun j hj => ?_⟩
  obtain ⟨a, b⟩ := h2.2 j hj
  unfold jobOk
  rw [Bool.and_eq_true, decide_eq_true_eq, List.all_eq_true]
  exact ⟨by omega, fun w hw => decide_eq_true (by have := b w hw; omega)⟩
end Go.Lat
