/- The law latecomerlaw07.BoundsCheckedMatchesReference returns true for every input, and each argument reads afterwards as it read before. Part 4 of 13. No condition. -/
import Derived.Test.YtikbpchifcjomaaLatC
import Derived.Test.YtikbpchifcjomaaProg
import Derived.KernelRfl
set_option linter.unusedVariables false
set_option linter.unusedSimpArgs false
set_option linter.unnecessarySimpa false
namespace Go.Lat
open Go.RowKit
theorem stepR_scope' {P : Program} {b : Frame} {a : Act} {k : List Item} {cs : List Frame} {w : World} {c : Code} : step P (lone (b.atR a (.code (.scope c) :: k)) cs w) = .next (lone (b.atR a (.code c :: .inScope c :: k)) cs w) :=
  step_lone_go (by simp [Go.stepG, Go.stepG.exec, Frame.atR])
theorem stepR_inScope' {P : Program} {b : Frame} {a : Act} {k : List Item} {cs : List Frame} {w : World} {c : Code} : step P (lone (b.atR a (.inScope c :: k)) cs w) = .next (lone (b.atR a k) cs w) :=
  step_lone_go (by simp [Go.stepG, Go.stepG.exec, Frame.atR])
theorem W.scope {P : Program} {T : TT} {st : St} {Q : Ex → St → Prop} {c : Code} (h : W P T c st Q) : W P T (.scope c) st Q := fun hT hf ro n X D w0 mA r m a w hR => by
  intro b k cs hro hb hr
  have h0 : (lone (b.atR a (.code (.scope c) :: k)) cs w).fenced P (FW ro) := fenced_calm hb hr rfl
  obtain ⟨e, a1, w1, hq, harr⟩ := h hT hf ro n X D w0 mA r m a w hR b (.inScope c :: k) cs hro hb hr
  cases e with
  | normal => exact ⟨.normal, a1, w1, hq, .head h0 stepR_scope' (StepsIn.trans harr (.one (fenced_calm hb hr rfl) stepR_inScope'))⟩
  | exit id =>
    have hx : exitTo id (.inScope c :: k) = exitTo id k := by simp [exitTo]
    exact ⟨.exit id, a1, w1, hq, fun k' hk => .head h0 stepR_scope' (harr.1 k' (by rw [hx]; exact hk)), fun hr' hk => let ⟨k1, h1, h2⟩ := harr.2 hr' (by rw [hx]; exact hk); ⟨k1, h1, .head h0 stepR_scope' h2⟩⟩
  | goto l => exact hq.elim
  | ret => exact ⟨_, a1, w1, hq, .of_steps (.one h0 stepR_scope') harr⟩
  | panic ch => exact ⟨_, a1, w1, hq, .of_steps (.one h0 stepR_scope') harr⟩
  | outgrown => exact ⟨_, a1, w1, hq, .of_steps (.one h0 stepR_scope') harr⟩
section
variable {P : Program} {T : TT} {d : Option Tmp} {ty : TypeId} {pos : String} {af : Array Edge} {g : Option (Nat × Bool)} {n : Nat} {l : List (Nat × AV)} {h : List AObj} {b : Bool} {K : AV → List AObj → Prop} {a a2 a3 : Operand}
theorem cell_of {X : Option (List AV)} {cs ds : List AV} {v : AV} (hc : ∃ rest, X = some (cs ++ rest)) (h1 : cs = v :: ds) : ∃ rest, X = some (v :: rest) := by
  obtain ⟨rest, hc⟩ := hc
  subst h1
  exact ⟨ds ++ rest, hc⟩
theorem row_in {α : Type} {e : α → List AV} {sz : Nat} (hw : Wd e sz) {xs : List α} {i : Int} (hj : 0 ≤ i ∧ i < (xs.length : Int)) {vs : List AV} (hv : vs.length = sz) : i.toNat * sz + vs.length ≤ (encL e xs).length := by
  rw [encL_length hw, hv]
  have hj' : i.toNat < xs.length := by omega
  have := Nat.mul_le_mul_right sz hj'
  rw [Nat.succ_mul] at this
  exact this
theorem vec_in {cs vs : List AV} {k : Nat} (h1 : vs.length = k) (h2 : cs.length = k) : 0 + vs.length ≤ cs.length := by omega
theorem encL_one {α : Type} (e : α → List AV) (x : α) : e x = encL e [x] := by simp [encL]
theorem spl_all (cs vs : List AV) (h1 : vs.length = cs.length) : Lat.spl cs 0 vs = vs := by
  rw [Lat.spl_eq _ _ _ (by omega)]
  simp [h1]
theorem sl_end {α : Type} (xs : List α) (k : Nat) : (xs.drop k).take ((xs.length : Int).toNat - k) = xs.drop k := by
  rw [Int.toNat_natCast, List.take_of_length_le (by simp)]
/-- A part of an array is overwritten. -/
def vput {n : Nat} (M : Vector Int n) (off : Nat) (xs : List Int) : Vector Int n :=
  if h : off + xs.length ≤ n then ⟨(M.toList.take off ++ xs ++ M.toList.drop (off + xs.length)).toArray, by simp; omega⟩ else M
theorem vput_toList {m : Nat} (M : Vector Int m) (off : Nat) (xs : List Int) (h1 : off + xs.length ≤ m) : (vput M off xs).toList = M.toList.take off ++ xs ++ M.toList.drop (off + xs.length) := by
  unfold vput
  rw [dif_pos h1]
  rfl
theorem ints_put {m : Nat} (M : Vector Int m) (off : Nat) (xs : List Int) (h1 : off + xs.length ≤ m) : Lat.spl (encL eInt M.toList) off (encL eInt xs) = encL eInt (vput M off xs).toList := by
  rw [vput_toList M off xs h1, Lat.spl_eq _ _ _ (by rw [ints_len, encL_length wdInt]; omega), ← encL_app, ← encL_app]
  have e1 := encL_take wdInt M.toList off
  have e2 := encL_drop wdInt M.toList (off + xs.length)
  rw [Nat.mul_one] at e1 e2
  rw [e1, encL_length wdInt, Nat.mul_one, e2]
theorem vput_nil {m : Nat} (M : Vector Int m) (off : Nat) : vput M off [] = M := by
  unfold vput
  split
  · apply Vector.toList_inj.1
    show M.toList.take off ++ [] ++ M.toList.drop (off + 0) = M.toList
    simp
  · rfl
theorem o_cpV {t t2 e : TypeId} {s by_ eb : Nat} {z ez : List AV} {ek : TK} {k q id off dn : Nat} {M : Vector Int k} {xs : List Int} (ht : T t = some ⟨.sl e, s, by_, z⟩) (he : T e = some ⟨ek, 1, eb, ez⟩)
    (h1 : St.eval ⟨n, look l, h, b⟩ a = .sub id off dn) (h2 : srcA h 1 (St.eval ⟨n, look l, h, b⟩ a2) = some (xs.length, encL eInt xs)) (ho : h[id]? = some (.box q (encL eInt M.toList))) (hj : off + dn ≤ k)
    (hk : K (.int .i64 ((min xs.length dn : Nat) : Int)) (h.set id (.box q (encL eInt (vput M off (xs.take dn)).toList)))) : opC P T ⟨d, .call ⟨.builtin .copy, #[a, a2], #[t, t2]⟩, ty, pos, af, g⟩ ⟨n, look l, h, b⟩ K := by
  show copyA T h t (St.eval ⟨n, look l, h, b⟩ a) (St.eval ⟨n, look l, h, b⟩ a2) K
  rw [h1]
  simp only [copyA, ht, he, h2]
  have ht1 := encL_take wdInt xs (min xs.length dn)
  rw [Nat.mul_one] at ht1
  refine ⟨by rw [encL_length wdInt], fun h0 => ?_, fun h0 => ?_⟩
  · have hx : xs.take dn = [] := by
      rcases Nat.eq_zero_or_pos xs.length with hx | hx
      · rw [List.eq_nil_of_length_eq_zero hx]; simp
      · have : dn = 0 := by omega
        rw [this]; simp
    rw [hx, vput_nil, h0] at hk
    have e0 : h.set id (.box q (encL eInt M.toList)) = h := by
      apply List.ext_getElem?
      intro j
      by_cases hij : id = j
      · subst hij
        rw [List.getElem?_set_self (List.getElem?_eq_some_iff.1 ho).1, ho]
      · rw [List.getElem?_set_ne hij]
    rw [e0] at hk
    exact hk
  · have e1 : xs.take (min xs.length dn) = xs.take dn := by
      rcases Nat.le_total xs.length dn with hx | hx
      · rw [Nat.min_eq_left hx, List.take_length, List.take_of_length_le hx]
      · rw [Nat.min_eq_right hx]
    have hl : (encL eInt (xs.take dn)).length = min xs.length dn := by rw [encL_length wdInt]; simp; omega
    rw [Nat.mul_one, ht1, e1]
    simp only [putCells, ho]
    refine ⟨by rw [hl, ints_len]; omega, ?_⟩
    rw [ints_put M off (xs.take dn) (by simp; omega)]
    exact hk
theorem o_iaPV {t e : TypeId} {s by_ eb k : Nat} {z ez : List AV} {ek : TK} {M : Vector Int k} {fl : Bool} {rest : List AV} (ht : T t = some ⟨.ar k e, s, by_, z⟩) (he : T e = some ⟨ek, 1, eb, ez⟩)
    (h1 : St.eval ⟨n, look l, h, b⟩ a = .ipt fl (encL eInt M.toList ++ rest)) {ik : IntKind} {i : Int} (h2 : St.eval ⟨n, look l, h, b⟩ a2 = .int ik i) (hj : 0 ≤ i ∧ i < (k : Int))
    (hk : ∀ rest, K (.ipt fl (.int .i64 (vat M i.toNat) :: rest)) h) : opC P T ⟨d, .indexAddr t a a2, ty, pos, af, g⟩ ⟨n, look l, h, b⟩ K := by
  show indexAddrA T t (St.eval ⟨n, look l, h, b⟩ a) (St.eval ⟨n, look l, h, b⟩ a2) (fun v => K v h)
  rw [h1, h2]; simp only [indexAddrA, ht, he]
  refine ⟨hj, ?_⟩
  obtain ⟨r2, hr⟩ := ints_at M i.toNat (by omega)
  rw [Nat.mul_one, List.drop_append_of_le_length (by rw [ints_len]; omega), hr]
  exact hk _
theorem o_bs1 {t e i : TypeId} {s by_ es eb q : Nat} {z ez : List AV} {ek : TK} {v : AV} {cs cs2 : List AV} (ht : T t = some ⟨.sl e, s, by_, z⟩) (he : T e = some ⟨ek, es, eb, ez⟩) (hb : (Nat.ble 1 es && Nat.ble es 256) = true)
    (h1 : St.eval ⟨n, look l, h, b⟩ a = v) (hc : v.cells = some cs) (hl : cs.length = es) (hz : ez.length = es) (hq : h.length = q) (_hi : i = 0) (hcs : cs = cs2) (hk : K (.ref false q 1) (h ++ [.row e es cs2])) : opC P T ⟨d, .buildSlice t 1 #[(i, a)], ty, pos, af, g⟩ ⟨n, look l, h, b⟩ K := by
  subst _hi; subst hcs
  show buildSliceA T h t 1 [((0 : Nat), St.eval ⟨n, look l, h, b⟩ a)] K
  subst hq
  simp only [Bool.and_eq_true] at hb
  rw [h1]; simp only [buildSliceA, ht, he]
  have hpos := Nat.le_of_ble_eq_true hb.1
  refine ⟨⟨by omega, hpos, Nat.le_of_ble_eq_true hb.2⟩, ?_⟩
  have hzl : (zerosA 1 es ez).length = es := by simp [zerosA]
  simp only [fillP, hc]
  refine ⟨hl, by rw [hzl]; omega, ?_⟩
  rw [Nat.zero_mul, spl_all _ _ (by rw [hl, hzl])]
  exact hk
theorem o_slW {t e : TypeId} {m s by_ eb k off : Nat} {z ez : List AV} {ek : TK} {M : Vector Int k} {fl : Bool} {hi : Option Operand} {y : Int} {ys : List Int} (ht : T t = some ⟨.ar m e, s, by_, z⟩) (he : T e = some ⟨ek, 1, eb, ez⟩)
    (h1 : St.eval ⟨n, look l, h, b⟩ a = .ipt fl ((encL eInt M.toList).drop off)) (hhi : boundA m (hi.map (St.eval ⟨n, look l, h, b⟩)) = some y) (hj : 0 ≤ ((0 : Nat) : Int) ∧ ((0 : Nat) : Int) ≤ y ∧ y ≤ (m : Int)) (hof : off + m ≤ k)
    (hy : (M.toList.drop off).take y.toNat = ys) (hk : K (.lst fl ys.length (encL eInt ys)) h) : opC P T ⟨d, .slice t a none hi none, ty, pos, af, g⟩ ⟨n, look l, h, b⟩ K := by
  show sliceA T t (St.eval ⟨n, look l, h, b⟩ a) none (hi.map (St.eval ⟨n, look l, h, b⟩)) none (fun v => K v h)
  rw [h1]; simp only [sliceA, ht, he, boundA] at hhi ⊢
  simp only [hhi]
  refine ⟨hj, ?_⟩
  have e1 := encL_drop wdInt M.toList off
  have e2 := encL_take wdInt (M.toList.drop off) y.toNat
  rw [Nat.mul_one] at e1 e2
  have e3 : y.toNat - ((0 : Nat) : Int).toNat = ys.length := by rw [← hy]; simp; omega
  have e4 : ((0 : Nat) : Int).toNat * 1 = 0 := rfl
  rw [e4, List.drop_zero, e1, e3, Nat.mul_one]
  have e5 : (encL eInt (M.toList.drop off)).take ys.length = encL eInt ys := by
    have : ys.length = y.toNat := by rw [← hy]; simp; omega
    rw [this, e2, hy]
  rw [e5]
  exact hk
/-! ### A new object; an object that changes -/
theorem callH_N1 {k : FuncId} {args xs : List AV} {o : AObj} (hf : FnH P k [] xs (fun x H' => ∃ l, H' = o :: l ∧ x = .ptr 0 0)) (hw : Wks (args.map (conv 6 h)) xs) (hfl : flatO o) (hp : h.length = n)
    (hk : K (.ptr n 0) (h ++ [o])) : callH P h (.clo k [] []) args K := by
  subst hp
  refine .inl ⟨fun o' => o' = o, ⟨hf.1, fun mA w r0 vs h1 h2 h3 h4 h5 h6 h7 => (hf.2 mA w r0 vs h1 h2 h3 h4 h5 h6 ?_).mono ?_⟩, ?_⟩
  · have : r0 = [] := List.eq_nil_of_length_eq_zero h3
    subst this
    exact hw _ _ _ (Low.nest mA) h7
  · rintro e w' ⟨v, x, r', m', H', a', h8, ⟨l, h9, h10⟩, h11⟩
    exact ⟨v, x, r', m', H', a', h8, ⟨o, l, h9, h10, hfl, rfl⟩, h11⟩
  · rintro _ rfl; exact hk
theorem callH_R1 {k : FuncId} {args xs : List AV} {o : AObj} {nb : Bool} {m q : Nat} (hf : FnH P k [] xs (fun x H' => ∃ l, H' = o :: l ∧ x = .ref nb 0 m)) (hw : Wks (args.map (conv 6 h)) xs) (hfl : flatR o) (hp : h.length = q)
    (hk : K (.ref nb q m) (h ++ [o])) : callH P h (.clo k [] []) args K := by
  subst hp
  refine .inr (.inr ⟨nb, fun n' o' => n' = m ∧ o' = o, ⟨hf.1, fun mA w r0 vs h1 h2 h3 h4 h5 h6 h7 => (hf.2 mA w r0 vs h1 h2 h3 h4 h5 h6 ?_).mono ?_⟩, ?_⟩)
  · have : r0 = [] := List.eq_nil_of_length_eq_zero h3
    subst this
    exact hw _ _ _ (Low.nest mA) h7
  · rintro e w' ⟨v, x, r', m', H', a', h8, ⟨l, h9, h10⟩, h11⟩
    exact ⟨v, x, r', m', H', a', h8, ⟨m, o, l, h9, h10, hfl, rfl, rfl⟩, h11⟩
  · rintro _ _ ⟨rfl, rfl⟩; exact hk
theorem callH_M1 {k : FuncId} {y0 x0 z : AV} {ys xs : List AV} {id : Nat} {o o' : AObj} (hf : FnH P k [o] (x0 :: xs) (fun x H' => ∃ l, H' = o' :: l ∧ x = z)) (ho : h[id]? = some o) (hfl : flatO o) (hfl' : flatO o') (hz : flatV z = true)
    (h0 : (∃ off, y0 = .ptr id off ∧ x0 = .ptr 0 off) ∨ (∃ nb n, y0 = .ref nb id n ∧ x0 = .ref nb 0 n) ∨ (∃ off n, y0 = .sub id off n ∧ x0 = .sub 0 off n)) (hx : Wks (ys.map (conv 6 (h.set id .dead))) xs)
    (hk : K z (h.set id o')) : callH P h (.clo k [] []) (y0 :: ys) K := by
  refine .inr (.inl ⟨id, o, x0, y0, ys, fun x q => x = z ∧ q = o', rfl, ho, hfl, h0, ⟨hf.1, fun mA w r0 vs h1 h2 h3 h4 h5 h6 h7 => (hf.2 mA w r0 vs h1 h2 h3 h4 h5 h6 ?_).mono ?_⟩, ?_⟩)
  · simp only [VRs] at h7 ⊢
    obtain ⟨v, vs', e1, e2, e3⟩ := h7
    exact ⟨v, vs', e1, e2, hx _ _ _ (Low.nest mA) e3⟩
  · rintro e w' ⟨v, x, r', m', H', a', h8, ⟨l, h9, h10⟩, h11⟩
    exact ⟨v, x, r', m', H', a', h8, ⟨o', l, h9, by rw [h10]; exact hz, hfl', h10, rfl⟩, h11⟩
  · rintro x q ⟨rfl, rfl⟩; exact hk
theorem flatI {M : List Int} : ∀ c ∈ encL eInt M, flatV c = true := by
  intro c hc
  simp only [encL, eInt, List.mem_flatMap, List.mem_singleton] at hc
  obtain ⟨x, _, rfl⟩ := hc
  rfl
end
theorem FnH.mono {P : Program} {f : FuncId} {H : List AObj} {args : List AV} {A B : AV → List AObj → Prop} (h : FnH P f H args A) (hab : ∀ x l, A x l → B x l) : FnH P f H args B :=
  ⟨h.1, fun mA w r0 vs h1 h2 h3 h4 h5 h6 h7 => (h.2 mA w r0 vs h1 h2 h3 h4 h5 h6 h7).mono fun _ _ ⟨v, x, r', m', H', a', e1, e2, e3⟩ => ⟨v, x, r', m', H', a', e1, hab _ _ e2, e3⟩⟩
/-- The operations in another order. -/
def pickL (ol : List Oper) : List Nat → List Oper
  | [] => []
  | i :: l => match ol[i]? with
    | some o => o :: pickL ol l
    | none => pickL ol l
def allIn (ol : List Oper) (ord : List Nat) : Bool := ord.all fun i => Nat.blt i ol.length
theorem pickL_spec {ol : List Oper} : ∀ {ord : List Nat}, allIn ol ord = true → (ord.map fun i => ol[i]?) = (pickL ol ord).map some
  | [], _ => rfl
  | i :: l, h => by
    simp only [allIn, List.all_cons, Bool.and_eq_true] at h
    have hi : i < ol.length := Nat.le_of_ble_eq_true h.1
    simp only [List.map_cons, pickL, List.getElem?_eq_getElem hi]
    rw [pickL_spec (ord := l) h.2]
theorem W.rP {P : Program} {T : TT} {st : St} {Q : Ex → St → Prop} {c : Code} {id : Nat} {ol : List Oper} (ord : List Nat) (hc : chk ol.toArray ord = true) (hl : allIn ol ord = true) (h1 : seqL P T ol [] 0 (pickL ol ord) st fun s => W P T c s Q) : W P T (.seq (.region id ol.toArray true) c) st Q :=
  W.rO ord _ hc (pickL_spec hl) h1
theorem W.rP1 {P : Program} {T : TT} {st : St} {Q : Ex → St → Prop} {id : Nat} {ol : List Oper} (ord : List Nat) (hc : chk ol.toArray ord = true) (hl : allIn ol ord = true) (h1 : seqL P T ol [] 0 (pickL ol ord) st (Q .nrm)) : W P T (.region id ol.toArray true) st Q :=
  W.rO1 ord _ hc (pickL_spec hl) h1
theorem W.rPm {P : Program} {T : TT} {st : St} {Q : Ex → St → Prop} {c : Code} {id : Nat} {ol : List Oper} (st' : St) (ord : List Nat) (hc : chk ol.toArray ord = true) (hl : allIn ol ord = true) (h1 : seqL P T ol [] 0 (pickL ol ord) st fun s => s.le st') (h2 : W P T c st' Q) : W P T (.seq (.region id ol.toArray true) c) st Q :=
  W.seq (fun s => s.le st') (W.rP1 ord hc hl h1) fun _ h => W.le h h2
theorem Ren.refL {φ : List (Option Nat)} {nb nb' : Bool} {id j n n' : Nat} (hφ : φ[j]? = some (some id)) (hb : nb' = true → nb = true) (hn : n = n') : Ren φ (.ref nb id n) (.ref nb' j n') := by
  subst hn; exact Ren.ref hφ hb
theorem Ren.boolE {φ : List (Option Nat)} {a b : Bool} (h : b = a) : Ren φ (.bool a) (.bool b) := by subst h; exact Ren.bool _
theorem W.rLmT {P : Program} {T : TT} {st : St} {Q : Ex → St → Prop} {c : Code} {id : Nat} {ol : List Oper} (st' : St) (h1 : seqL P T ol [] 0 ol st fun s => s.to st') (h2 : W P T c st' Q) : W P T (.seq (.region id ol.toArray false) c) st Q := W.seq _ (W.region [] h1) fun _ h => W.to h h2
theorem W.rPmT {P : Program} {T : TT} {st : St} {Q : Ex → St → Prop} {c : Code} {id : Nat} {ol : List Oper} (st' : St) (ord : List Nat) (hc : chk ol.toArray ord = true) (hl : allIn ol ord = true) (h1 : seqL P T ol [] 0 (pickL ol ord) st fun s => s.to st') (h2 : W P T c st' Q) : W P T (.seq (.region id ol.toArray true) c) st Q :=
  W.seq (fun s => s.to st') (W.rP1 ord hc hl h1) fun _ h => W.to h h2
theorem St.le_to {s s' s'' : St} (hl : s.le s') (h : s'.to s'') : s.to s'' := by
  obtain ⟨φ, l, h1, h2, h3, h4, h5, h6, h7⟩ := h
  obtain ⟨e1, e2, e3, e4⟩ := hl
  refine ⟨φ, l, h1.trans e1, h2.trans e3, h3, h4, by rw [← e2, ← e3]; exact h5, ?_, by rw [← e2]; exact h7⟩
  clear h3
  induction l with
  | nil => trivial
  | cons p l ih =>
    obtain ⟨t, v⟩ := p
    refine ⟨?_, ih h6.2⟩
    rcases e4 t with e | e
    · have h8 := h6.1
      rw [e] at h8
      exact fun r m u hm _ => h8 r m u hm (by simp only [VR])
    · rw [← e]; exact h6.1
theorem W.rLm1 {P : Program} {T : TT} {st : St} {Q : Ex → St → Prop} {id : Nat} {ol : List Oper} (st' : St) (hd : ∀ s, s.le st' → Q .nrm st' → Q .nrm s) (h1 : seqL P T ol [] 0 ol st fun s => s.le st') (h2 : Q .nrm st') : W P T (.region id ol.toArray false) st Q :=
  (W.region (Q := thenA (fun s => s.le st') Q) [] h1).mono fun e s hs => by
    cases e <;> first | exact hd s hs h2 | exact hs
theorem W.rDm1 {P : Program} {T : TT} {st : St} {Q : Ex → St → Prop} {id : Nat} {ol : List Oper} (st' : St) (hd : ∀ s, s.le st' → Q .nrm st' → Q .nrm s) (ord : List Nat) (hc : chk ol.toArray ord = true) (hl : allIn ol ord = true) (h1 : seqL P T ol [] 0 (pickL ol ord) st fun s => s.le st') (h2 : Q .nrm st') : W P T (.region id ol.toArray true) st Q :=
  (W.rP1 (Q := thenA (fun s => s.le st') Q) ord hc hl h1).mono fun e s hs => by
    cases e <;> first | exact hd s hs h2 | exact hs
theorem src_subR {α : Type} {e : α → List AV} {sz t id off k m : Nat} {xs ys : List α} {h : List AObj} (hw : Wd e sz) (ho : h[id]? = some (.row t sz (encL e xs))) (hoff : off = k * sz) (hy : (xs.drop k).take m = ys) (hm : m = ys.length) : srcA h sz (.sub id off m) = some (ys.length, encL e ys) := by
  subst hoff; subst hm
  simp only [srcA, ho]
  rw [encL_drop hw, encL_take hw, hy]
theorem ag_subR {α : Type} {ef : Bool → α → List AV} {sz : Nat} (he : Enc ef sz) (q : Nat) {h : List AObj} {id t off m k : Nat} {fl : Bool} {xs ys : List α} (ho : h[id]? = some (.row t sz (encL (ef fl) xs))) (hoff : off = k * sz) (hy : (xs.drop k).take m = ys) (hm : m = ys.length) : Wk (conv (q + 2) h (.sub id off m)) (.lst true ys.length (encL (ef true) ys)) := by
  subst hm; subst hoff
  simp only [conv, ho]
  split
  · rename_i h0
    have : ys = [] := List.eq_nil_of_length_eq_zero h0
    subst this
    exact Wk.refl _
  · rw [encL_drop (he.wd fl)]
    refine (Wk.lsts _ _ (encL_cv he q h fl (xs.drop k))).trans ?_
    have e2 := encL_take (he.wd true) (xs.drop k) ys.length
    rw [hy] at e2
    rw [← e2]
    exact Wk.take _ _ _ _
theorem encL_co {α : Type} {ef : Bool → α → List AV} {sz : Nat} (he : Enc ef sz) (k : Nat) (h : List AObj) : ∀ xs, Wks ((encL (ef false) xs).map (cvO (k + 1) h)) (encL (ef false) xs)
  | [] => Wks.refl _
  | x :: xs => by
    rw [encL_cons, List.map_append]
    exact Wks.app (he.co k h x) (encL_co he k h xs) (by rw [List.length_map])
theorem agI_int (k : Nat) (h : List AObj) (q : IntKind) (x : Int) : Wk (cvI k h (.int q x)) (.int q x) := by rw [cvI_int]; exact Wk.refl _
theorem agI_bool (k : Nat) (h : List AObj) (x : Bool) : Wk (cvI k h (.bool x)) (.bool x) := by rw [cvI_bool]; exact Wk.refl _
theorem agI_lst (k : Nat) (h : List AObj) (m : Nat) (cs : List AV) : Wk (cvI k h (.lst false m cs)) (.lst true m cs) := by rw [cvI_lst]; exact Wk.refl _
end Go.Lat
namespace Go.Lat
open Go.RowKit Go.Proofs
def tt : TT
  | 3 => some ⟨.int .i64, 1, 8, [.int .i64 0]⟩
  | 4 => some ⟨.bool, 1, 1, [.bool false]⟩
  | 22 => some ⟨.sl 25, 1, 24, [.nilS]⟩
  | 23 => some ⟨.sl 26, 1, 24, [.nilS]⟩
  | 25 => some ⟨.st [(0, 3), (1, 3), (2, 3), (3, 3)], 4, 32, [.int .i64 0, .int .i64 0, .int .i64 0, .int .i64 0]⟩
  | 26 => some ⟨.ar 3 3, 3, 24, [.int .i64 0, .int .i64 0, .int .i64 0]⟩
  | 31 => some ⟨.sl 22, 1, 24, [.nilS]⟩
  | 32 => some ⟨.sl 35, 1, 24, [.nilS]⟩
  | 34 => some ⟨.st [(0, 3), (1, 32)], 2, 32, [.int .i64 0, .nilS]⟩
  | 35 => some ⟨.sl 3, 1, 24, [.nilS]⟩
  | 36 => some ⟨.int .i64, 1, 8, [.int .i64 0]⟩
  | 41 => some ⟨.sl 34, 1, 24, [.nilS]⟩
  | 61 => some ⟨.one, 1, 8, [.nilP]⟩
  | 65 => some ⟨.st [(0, 3), (1, 22)], 2, 32, [.int .i64 0, .nilS]⟩
  | 73 => some ⟨.ar 24 3, 24, 192, List.replicate 24 (.int .i64 0)⟩
  | 80 => some ⟨.ar 24 4, 24, 24, List.replicate 24 (.bool false)⟩
  | 82 => some ⟨.ar 24 73, 576, 4608, List.replicate 576 (.int .i64 0)⟩
  | 83 => some ⟨.sl 73, 1, 24, [.nilS]⟩
  | _ => none
theorem tt3 : tt 3 = some ⟨.int .i64, 1, 8, [.int .i64 0]⟩ := by rfl
theorem tt4 : tt 4 = some ⟨.bool, 1, 1, [.bool false]⟩ := by rfl
theorem tt22 : tt 22 = some ⟨.sl 25, 1, 24, [.nilS]⟩ := by rfl
theorem tt23 : tt 23 = some ⟨.sl 26, 1, 24, [.nilS]⟩ := by rfl
theorem tt25 : tt 25 = some ⟨.st [(0, 3), (1, 3), (2, 3), (3, 3)], 4, 32, [.int .i64 0, .int .i64 0, .int .i64 0, .int .i64 0]⟩ := by rfl
theorem tt26 : tt 26 = some ⟨.ar 3 3, 3, 24, [.int .i64 0, .int .i64 0, .int .i64 0]⟩ := by rfl
theorem tt31 : tt 31 = some ⟨.sl 22, 1, 24, [.nilS]⟩ := by rfl
theorem tt32 : tt 32 = some ⟨.sl 35, 1, 24, [.nilS]⟩ := by rfl
theorem tt34 : tt 34 = some ⟨.st [(0, 3), (1, 32)], 2, 32, [.int .i64 0, .nilS]⟩ := by rfl
theorem tt35 : tt 35 = some ⟨.sl 3, 1, 24, [.nilS]⟩ := by rfl
theorem tt36 : tt 36 = some ⟨.int .i64, 1, 8, [.int .i64 0]⟩ := by rfl
theorem tt41 : tt 41 = some ⟨.sl 34, 1, 24, [.nilS]⟩ := by rfl
theorem tt61 : tt 61 = some ⟨.one, 1, 8, [.nilP]⟩ := by rfl
theorem tt65 : tt 65 = some ⟨.st [(0, 3), (1, 22)], 2, 32, [.int .i64 0, .nilS]⟩ := by rfl
theorem tt73 : tt 73 = some ⟨.ar 24 3, 24, 192, List.replicate 24 (.int .i64 0)⟩ := by rfl
theorem tt80 : tt 80 = some ⟨.ar 24 4, 24, 24, List.replicate 24 (.bool false)⟩ := by rfl
theorem tt82 : tt 82 = some ⟨.ar 24 73, 576, 4608, List.replicate 576 (.int .i64 0)⟩ := by rfl
theorem tt83 : tt 83 = some ⟨.sl 73, 1, 24, [.nilS]⟩ := by rfl
theorem tok3 : TOk Try.prog 3 ⟨.int .i64, 1, 8, [.int .i64 0]⟩ where
  info := ⟨Try.t3, _, Try.type3, rfl, rfl, rfl, by simp [Value.cells, VRs, VR], by simp [Value.cells, Value.oneCell'], rfl⟩
  kind := Try.underlying3
theorem tok4 : TOk Try.prog 4 ⟨.bool, 1, 1, [.bool false]⟩ where
  info := ⟨Try.t4, _, Try.type4, rfl, rfl, rfl, by simp [Value.cells, VRs, VR], by simp [Value.cells, Value.oneCell'], rfl⟩
  kind := Try.underlying4
theorem tok22 : TOk Try.prog 22 ⟨.sl 25, 1, 24, [.nilS]⟩ where
  info := ⟨Try.t22, _, Try.type22, rfl, rfl, rfl, by simp [Value.cells, VRs, VR], by simp [Value.cells, Value.oneCell'], rfl⟩
  kind := Try.underlying22
theorem tok23 : TOk Try.prog 23 ⟨.sl 26, 1, 24, [.nilS]⟩ where
  info := ⟨Try.t23, _, Try.type23, rfl, rfl, rfl, by simp [Value.cells, VRs, VR], by simp [Value.cells, Value.oneCell'], rfl⟩
  kind := Try.underlying23
theorem tok25 : TOk Try.prog 25 ⟨.st [(0, 3), (1, 3), (2, 3), (3, 3)], 4, 32, [.int .i64 0, .int .i64 0, .int .i64 0, .int .i64 0]⟩ where
  info := ⟨Try.t25, _, Try.type25, rfl, rfl, rfl, by simp [Value.cells, VRs, VR], by simp [Value.cells, Value.oneCell'], rfl⟩
  kind := ⟨_, Try.underlying25, rfl, by
    intro f hf
    simp only [List.mem_cons, List.not_mem_nil, or_false] at hf
    rcases hf with rfl | rfl | rfl | rfl
    · exact ⟨_, Try.type3⟩
    · exact ⟨_, Try.type3⟩
    · exact ⟨_, Try.type3⟩
    · exact ⟨_, Try.type3⟩⟩
theorem tok26 : TOk Try.prog 26 ⟨.ar 3 3, 3, 24, [.int .i64 0, .int .i64 0, .int .i64 0]⟩ where
  info := ⟨Try.t26, _, Try.type26, rfl, rfl, rfl, by simp [Value.cells, VRs, VR], by simp [Value.cells, Value.oneCell'], rfl⟩
  kind := Try.underlying26
theorem tok31 : TOk Try.prog 31 ⟨.sl 22, 1, 24, [.nilS]⟩ where
  info := ⟨Try.t31, _, Try.type31, rfl, rfl, rfl, by simp [Value.cells, VRs, VR], by simp [Value.cells, Value.oneCell'], rfl⟩
  kind := Try.underlying31
theorem tok32 : TOk Try.prog 32 ⟨.sl 35, 1, 24, [.nilS]⟩ where
  info := ⟨Try.t32, _, Try.type32, rfl, rfl, rfl, by simp [Value.cells, VRs, VR], by simp [Value.cells, Value.oneCell'], rfl⟩
  kind := Try.underlying32
theorem tok34 : TOk Try.prog 34 ⟨.st [(0, 3), (1, 32)], 2, 32, [.int .i64 0, .nilS]⟩ where
  info := ⟨Try.t34, _, Try.type34, rfl, rfl, rfl, by simp [Value.cells, VRs, VR], by simp [Value.cells, Value.oneCell'], rfl⟩
  kind := ⟨_, Try.underlying34, rfl, by
    intro f hf
    simp only [List.mem_cons, List.not_mem_nil, or_false] at hf
    rcases hf with rfl | rfl
    · exact ⟨_, Try.type3⟩
    · exact ⟨_, Try.type32⟩⟩
theorem tok35 : TOk Try.prog 35 ⟨.sl 3, 1, 24, [.nilS]⟩ where
  info := ⟨Try.t35, _, Try.type35, rfl, rfl, rfl, by simp [Value.cells, VRs, VR], by simp [Value.cells, Value.oneCell'], rfl⟩
  kind := Try.underlying35
theorem tok36 : TOk Try.prog 36 ⟨.int .i64, 1, 8, [.int .i64 0]⟩ where
  info := ⟨Try.t36, _, Try.type36, rfl, rfl, rfl, by simp [Value.cells, VRs, VR], by simp [Value.cells, Value.oneCell'], rfl⟩
  kind := Try.underlying36
theorem tok41 : TOk Try.prog 41 ⟨.sl 34, 1, 24, [.nilS]⟩ where
  info := ⟨Try.t41, _, Try.type41, rfl, rfl, rfl, by simp [Value.cells, VRs, VR], by simp [Value.cells, Value.oneCell'], rfl⟩
  kind := Try.underlying41
theorem tok61 : TOk Try.prog 61 ⟨.one, 1, 8, [.nilP]⟩ where
  info := ⟨Try.t61, _, Try.type61, rfl, rfl, rfl, by simp [Value.cells, VRs, VR], by simp [Value.cells, Value.oneCell'], rfl⟩
  kind := ⟨_, Try.underlying61, by simp, by simp⟩
theorem tok65 : TOk Try.prog 65 ⟨.st [(0, 3), (1, 22)], 2, 32, [.int .i64 0, .nilS]⟩ where
  info := ⟨Try.t65, _, Try.type65, rfl, rfl, rfl, by simp [Value.cells, VRs, VR], by simp [Value.cells, Value.oneCell'], rfl⟩
  kind := ⟨_, Try.underlying65, rfl, by
    intro f hf
    simp only [List.mem_cons, List.not_mem_nil, or_false] at hf
    rcases hf with rfl | rfl
    · exact ⟨_, Try.type3⟩
    · exact ⟨_, Try.type22⟩⟩
theorem tok73 : TOk Try.prog 73 ⟨.ar 24 3, 24, 192, List.replicate 24 (.int .i64 0)⟩ where
  info := ⟨Try.t73, .agg (List.replicate 24 (.int .i64 0)).toArray, Try.type73, rfl, rfl, by kernel_rfl, (VRs.replicate (n := 24) (x := .int .i64 0) (v := .int .i64 0) (by simp only [VR])), fun u hu => (by have := List.eq_of_mem_replicate hu; subst this; rfl), List.length_replicate⟩
  kind := Try.underlying73
theorem tok80 : TOk Try.prog 80 ⟨.ar 24 4, 24, 24, List.replicate 24 (.bool false)⟩ where
  info := ⟨Try.t80, .agg (List.replicate 24 (.bool false)).toArray, Try.type80, rfl, rfl, by kernel_rfl, (VRs.replicate (n := 24) (x := .bool false) (v := .bool false) (by simp only [VR])), fun u hu => (by have := List.eq_of_mem_replicate hu; subst this; rfl), List.length_replicate⟩
  kind := Try.underlying80
theorem tok82 : TOk Try.prog 82 ⟨.ar 24 73, 576, 4608, List.replicate 576 (.int .i64 0)⟩ where
  info := ⟨Try.t82, .agg (List.replicate 576 (.int .i64 0)).toArray, Try.type82, rfl, rfl, by kernel_rfl, (VRs.replicate (n := 576) (x := .int .i64 0) (v := .int .i64 0) (by simp only [VR])), fun u hu => (by have := List.eq_of_mem_replicate hu; subst this; rfl), List.length_replicate⟩
  kind := Try.underlying82
theorem tok83 : TOk Try.prog 83 ⟨.sl 73, 1, 24, [.nilS]⟩ where
  info := ⟨Try.t83, _, Try.type83, rfl, rfl, rfl, by simp [Value.cells, VRs, VR], by simp [Value.cells, Value.oneCell'], rfl⟩
  kind := Try.underlying83
theorem ttOk : TsOk Try.prog tt := by
  intro t i h
  unfold tt at h
  split at h <;> cases h
  · exact tok3
  · exact tok4
  · exact tok22
  · exact tok23
  · exact tok25
  · exact tok26
  · exact tok31
  · exact tok32
  · exact tok34
  · exact tok35
  · exact tok36
  · exact tok41
  · exact tok61
  · exact tok65
  · exact tok73
  · exact tok80
  · exact tok82
  · exact tok83
theorem ttMix : Try.prog.follows .mixedOrders = true := by kernel_rfl
structure Con where
  f : Int
  t : Int
  m : Int
  a : Int
instance : Inhabited Con := ⟨⟨0, 0, 0, 0⟩⟩
def e25 (c : Con) : List AV := [.int .i64 c.f, .int .i64 c.t, .int .i64 c.m, .int .i64 c.a]
theorem enc25 : Enc (fun _ => e25) 4 where
  wd _ _ := rfl
  cv _ _ _ _ := Wks.cons (ag_int _ _ _ _) (Wks.cons (ag_int _ _ _ _) (Wks.cons (ag_int _ _ _ _) (Wks.cons (ag_int _ _ _ _) (Wks.refl _))))
  ci _ _ _ := Wks.cons (agI_int _ _ _ _) (Wks.cons (agI_int _ _ _ _) (Wks.cons (agI_int _ _ _ _) (Wks.cons (agI_int _ _ _ _) (Wks.refl _))))
  co _ _ _ := Wks.cons (rs_int _ _ _ _) (Wks.cons (rs_int _ _ _ _) (Wks.cons (rs_int _ _ _ _) (Wks.cons (rs_int _ _ _ _) (Wks.refl _))))
  sl fl _ := SealVs.cons (SealV.int _ _ _) (SealVs.cons (SealV.int _ _ _) (SealVs.cons (SealV.int _ _ _) (SealVs.cons (SealV.int _ _ _) (SealVs.nil fl))))
  cl _ _ x hx := by
    simp only [e25, List.mem_cons, List.not_mem_nil, or_false] at hx
    rcases hx with rfl | rfl | rfl | rfl <;> rfl
structure A3 where
  x0 : Int
  x1 : Int
  x2 : Int
instance : Inhabited A3 := ⟨⟨0, 0, 0⟩⟩
def e26 (c : A3) : List AV := [.int .i64 c.x0, .int .i64 c.x1, .int .i64 c.x2]
theorem enc26 : Enc (fun _ => e26) 3 where
  wd _ _ := rfl
  cv _ _ _ _ := Wks.cons (ag_int _ _ _ _) (Wks.cons (ag_int _ _ _ _) (Wks.cons (ag_int _ _ _ _) (Wks.refl _)))
  ci _ _ _ := Wks.cons (agI_int _ _ _ _) (Wks.cons (agI_int _ _ _ _) (Wks.cons (agI_int _ _ _ _) (Wks.refl _)))
  co _ _ _ := Wks.cons (rs_int _ _ _ _) (Wks.cons (rs_int _ _ _ _) (Wks.cons (rs_int _ _ _ _) (Wks.refl _)))
  sl fl _ := SealVs.cons (SealV.int _ _ _) (SealVs.cons (SealV.int _ _ _) (SealVs.cons (SealV.int _ _ _) (SealVs.nil fl)))
  cl _ _ x hx := by
    simp only [e26, List.mem_cons, List.not_mem_nil, or_false] at hx
    rcases hx with rfl | rfl | rfl <;> rfl
structure Bd where
  n : Int
  most : (List (List Int))
instance : Inhabited Bd := ⟨⟨0, []⟩⟩
def e34 (fl : Bool) (c : Bd) : List AV := [.int .i64 c.n, .lst fl c.most.length (encL (eSl eInt true) c.most)]
theorem enc34 : Enc e34 2 where
  wd _ _ := rfl
  cv _ _ _ _ := Wks.cons (ag_int _ _ _ _) (Wks.cons (ag_lst _ _ _ _ _) (Wks.refl _))
  ci _ _ _ := Wks.cons (agI_int _ _ _ _) (Wks.cons (agI_lst _ _ _ _) (Wks.refl _))
  co _ _ _ := Wks.cons (rs_int _ _ _ _) (Wks.cons (rs_lst _ _ _ _) (Wks.refl _))
  sl fl _ := SealVs.cons (SealV.int _ _ _) (SealVs.cons (SealV.lst _ _ _) (SealVs.nil fl))
  cl _ _ x hx := by
    simp only [e34, List.mem_cons, List.not_mem_nil, or_false] at hx
    rcases hx with rfl | rfl <;> rfl
structure Wlk where
  n : Int
  l : (List Con)
instance : Inhabited Wlk := ⟨⟨0, []⟩⟩
def e65 (fl : Bool) (c : Wlk) : List AV := [.int .i64 c.n, .lst fl c.l.length (encL e25 c.l)]
theorem enc65 : Enc e65 2 where
  wd _ _ := rfl
  cv _ _ _ _ := Wks.cons (ag_int _ _ _ _) (Wks.cons (ag_lst _ _ _ _ _) (Wks.refl _))
  ci _ _ _ := Wks.cons (agI_int _ _ _ _) (Wks.cons (agI_lst _ _ _ _) (Wks.refl _))
  co _ _ _ := Wks.cons (rs_int _ _ _ _) (Wks.cons (rs_lst _ _ _ _) (Wks.refl _))
  sl fl _ := SealVs.cons (SealV.int _ _ _) (SealVs.cons (SealV.lst _ _ _) (SealVs.nil fl))
  cl _ _ x hx := by
    simp only [e65, List.mem_cons, List.not_mem_nil, or_false] at hx
    rcases hx with rfl | rfl <;> rfl
def eVB24 (v : Vector Bool 24) : List AV := encL eBool v.toList
theorem encVB24 : Enc (fun _ => eVB24) 24 where
  wd _ a := bools_len a
  cv k h fl a := encL_cv encBool k h fl a.toList
  ci k h a := encL_ci encBool k h a.toList
  co k h a := encL_co encBool k h a.toList
  sl fl a := encL_sl encBool fl a.toList
  cl fl a := encL_cl encBool fl a.toList
def eV24 (v : Vector Int 24) : List AV := encL eInt v.toList
theorem encV24 : Enc (fun _ => eV24) 24 where
  wd _ a := ints_len a
  cv k h fl a := encL_cv encInt k h fl a.toList
  ci k h a := encL_ci encInt k h a.toList
  co k h a := encL_co encInt k h a.toList
  sl fl a := encL_sl encInt fl a.toList
  cl fl a := encL_cl encInt fl a.toList
def eV576 (v : Vector Int 576) : List AV := encL eInt v.toList
theorem encV576 : Enc (fun _ => eV576) 576 where
  wd _ a := ints_len a
  cv k h fl a := encL_cv encInt k h fl a.toList
  ci k h a := encL_ci encInt k h a.toList
  co k h a := encL_co encInt k h a.toList
  sl fl a := encL_sl encInt fl a.toList
  cl fl a := encL_cl encInt fl a.toList
end Go.Lat
namespace Go.Lat

/-! ### What the functions of layer 7 compute -/
abbrev NB : Int := 1152921504606846976
def plusM (a b : Int) : Int := if a = NB ∨ b = NB then NB else a + b
def pickM (c n : Int) : Int := (if c < 0 then -(c + 1) else c).tmod n
def possM (n : Int) (c : Con) : Bool := decide (0 ≤ c.f ∧ c.f < n ∧ 0 ≤ c.t ∧ c.t < n ∧ ¬ c.f = c.t ∧ -1125899906842624 ≤ c.m ∧ c.m ≤ 1125899906842624 ∧ 0 ≤ c.a ∧ c.a < 64)
def validM (n : Int) (l : List Con) : Bool := decide (1 ≤ n ∧ n ≤ 24 ∧ l.length ≤ 2000) && l.all (possM n)
def madeM (n : Int) (x : List A3) : List Con :=
  if 1 < n then (x.take 30).map fun y => ⟨pickM y.x0 n, (pickM y.x0 n + 1 + pickM y.x1 (n - 1)).tmod n, pickM y.x2 20 - 6, 2 ^ (pickM (y.x1.tdiv 30) 6).toNat⟩ else []
def mm (m : Vector Int 576) (i j : Nat) : Int := vat m (i * 24 + j)
def freeM : Vector Int 576 := Vector.ofFn fun k => if k.1 / 24 = k.1 % 24 then 0 else NB
def relaxM (m : Vector Int 576) (f t : Nat) (w : Int) : Vector Int 576 :=
  Vector.ofFn fun k => if mm m (k.1 / 24) f = NB then vat m k.1 else min (vat m k.1) (plusM (mm m (k.1 / 24) f + w) (mm m t (k.1 % 24)))
def addM (m : Vector Int 576) (f t w : Int) : Bool × Vector Int 576 :=
  if plusM w (mm m t.toNat f.toNat) < 0 then (false, m) else if mm m f.toNat t.toNat ≤ w then (true, m) else (true, relaxM m f.toNat t.toNat w)
/-- The first element of which it is true; -1 if there is none. -/
def findIx {α : Type} (p : α → Bool) (l : List α) : Int := match l.findIdx? p with
  | some i => (i : Int)
  | none => -1
structure AddOk (m : Vector Int 576) (f t w : Int) : Prop where
  f : 0 ≤ f ∧ f < 24
  t : 0 ≤ t ∧ t < 24
  w : -72057594037927936 ≤ w ∧ w ≤ 72057594037927936
  m : ∀ k, -1152921504606846976 ≤ vat m k ∧ vat m k ≤ 1152921504606846976
def boundsM (m : Vector Int 576) (n : Int) : Bd := ⟨n, (List.range n.toNat).map fun i => (m.toList.drop (i * 24)).take n.toNat⟩
def ofM (b : Bd) : Vector Int 576 := (List.range b.most.length).foldl (fun m i => vput m (i * 24) ((b.most.getD i []).take 24)) freeM
def okX (x : Int) : Bool := decide (x = NB ∨ -36028797018963968 ≤ x ∧ x ≤ 36028797018963968)
def bm (b : Bd) (i j : Nat) : Int := (b.most.getD i []).getD j 0
def validBM (b : Bd) : Bool :=
  decide (1 ≤ b.n ∧ b.n ≤ 24 ∧ (b.most.length : Int) = b.n) &&
  (List.range b.most.length).all (fun i => decide ((((b.most.getD i []).length : Nat) : Int) = b.n ∧ bm b i i = 0) && (b.most.getD i []).all okX) &&
  (List.range b.most.length).all fun i => (List.range b.most.length).all fun j => decide (bm b i j = NB) || (List.range b.most.length).all fun k => decide (bm b i k ≤ plusM (bm b i j) (bm b j k))
def sameM (a b : Bd) : Bool := decide (a.n = b.n) && decide (a.most = b.most)
def addAll : Vector Int 576 → List Con → Option (Vector Int 576)
  | m, [] => some m
  | m, c :: l => if (addM m c.f c.t c.m).1 = true then addAll (addM m c.f c.t c.m).2 l else none
def longerM (l : List Con) (d : Vector Int 24) (above : Int) : Vector Int 24 :=
  (l.drop (above + 1).toNat).foldl (fun o c => vset o c.f.toNat (min (vat o c.f.toNat) (plusM c.m (vat d c.t.toNat)))) (Vector.replicate 24 NB)
structure LongOk (l : List Con) (d : Vector Int 24) (above : Int) : Prop where
  a : 0 ≤ above + 1 ∧ above + 1 ≤ l.length
  len : l.length ≤ 2000
  l : ∀ c ∈ l, (0 ≤ c.f ∧ c.f < 24) ∧ (0 ≤ c.t ∧ c.t < 24) ∧ -1125899906842624 ≤ c.m ∧ c.m ≤ 1125899906842624
  d : ∀ k, -1152921504606846976 ≤ vat d k ∧ vat d k ≤ 1152921504606846976
structure TabOk (l : List Con) (to above many : Int) : Prop where
  a : 0 ≤ above + 1 ∧ above + 1 ≤ l.length
  len : l.length ≤ 2000
  l : ∀ c ∈ l, (0 ≤ c.f ∧ c.f < 24) ∧ (0 ≤ c.t ∧ c.t < 24) ∧ -1125899906842624 ≤ c.m ∧ c.m ≤ 1125899906842624
  t : 0 ≤ to ∧ to < 24
  k : 0 ≤ many ∧ many ≤ 25
def FirstOk (n : Int) (l : List Con) : Prop := validM n l = true
def tabD (l : List Con) (to above : Int) : Nat → Vector Int 24
  | 0 => vset (Vector.replicate 24 NB) to.toNat 0
  | k + 1 => longerM l (tabD l to above k) above
def tableM (l : List Con) (to above many : Int) : List (Vector Int 24) := (List.range (many.toNat + 1)).map (tabD l to above)
/-- The least number of constraints of a cycle of negative sum through a variable; or more than there are. -/
def sizeAt (n : Int) (l : List Con) (v : Nat) : Option Nat := (List.range (n.toNat + 1)).find? fun r => decide (vat (tabD l v (-1) r) v < 0)
def sizeM (n : Int) (l : List Con) : Int := (List.range n.toNat).foldl (fun s v => match sizeAt n l v with | some r => min s (r : Int) | none => s) (n + 1)
def nextC (l : List Con) (d : Nat → Vector Int 24) (size : Int) (s len : Nat) (at_ total : Int) : Option Nat :=
  ((List.range l.length).drop (s + 1)).find? fun i => decide ((l.getD i default).f = at_ ∧ plusM (total + (l.getD i default).m) (vat (d (size - len - 1).toNat) (l.getD i default).t.toNat) < 0)
def chainC (l : List Con) (d : Nat → Vector Int 24) (size : Int) (s : Nat) : Nat → List Int → Int → Int → Option (List Int)
  | 0, out, _, _ => some out
  | k + 1, out, at_, total =>
    if (out.length : Int) < size then
      match nextC l d size s out.length at_ total with
      | some i => chainC l d size s k (out ++ [(i : Int)]) (l.getD i default).t (total + (l.getD i default).m)
      | none => none
    else some out
def firstAt (l : List Con) (size : Int) (s : Nat) : Option (List Int) :=
  let c := l.getD s default
  let d := tabD l c.f s
  if 0 ≤ plusM c.m (vat (d (size - 1).toNat) c.t.toNat) then none else chainC l d size s size.toNat [(s : Int)] c.t c.m
def firstM (n : Int) (l : List Con) : List Int := ((List.range l.length).findSome? fun s => firstAt l (sizeM n l) s).getD []
def closeM (n : Int) (l : List Con) : Bd × List Int × Int :=
  if validM n l = true then match addAll freeM l with
    | some m => (boundsM m n, [], 0)
    | none => (⟨0, []⟩, firstM n l, 70)
  else (⟨0, []⟩, [], 2)
def addBM (b : Bd) (c : Con) : Bd × Bool × Int :=
  if validBM b = true ∧ possM b.n c = true then
    if (addM (ofM b) c.f c.t c.m).1 = true then
      let out := boundsM (addM (ofM b) c.f c.t c.m).2 b.n
      if (out.most.all fun r => r.all okX) = true then (out, true, 0) else (⟨0, []⟩, false, 2)
    else (⟨0, []⟩, false, 0)
  else (⟨0, []⟩, false, 2)
def rangeM (b : Bd) (f t : Int) : Int × Int × Int :=
  if validBM b = true ∧ 0 ≤ min f t ∧ max f t < b.n then (-bm b t.toNat f.toNat, bm b f.toNat t.toNat, 0) else (0, 0, 2)
def pointV (m : Vector Int 576) (f n : Nat) : List Int := (List.range n).map fun j =>
  if mm m f j = NB then (List.range n).foldl (fun o i => if mm m f i = NB ∧ ¬ mm m i j = NB then min o (576460752303423488 + mm m i j) else o) 576460752303423488 else mm m f j
def pointM (b : Bd) (f t v : Int) : List Int × Int :=
  let r := rangeM b f t
  if r.2.2 = 0 ∧ max r.1 (-36028797018963968) ≤ v ∧ v ≤ min r.2.1 36028797018963968 then
    let m := ofM b
    let m := if f = t then m else (addM (addM m f t v).2 t f (-v)).2
    (pointV m f.toNat b.n.toNat, 0)
  else ([], 2)
def holdsM (l : List Con) (x : List Int) : Bool :=
  validM x.length l && x.all (fun v => decide (-1152921504606846976 ≤ v ∧ v ≤ 1152921504606846976)) && l.all (fun c => decide (lat x c.t - lat x c.f ≤ c.m))
def cycStep (l : List Con) (c : List Int) (i : Nat) : Bool :=
  let k := lat c i
  decide (0 ≤ k ∧ k < (l.length : Int)) && (List.range i).all (fun j => decide (¬ (lat l (lat c j)).f = (lat l k).f)) && (decide (i = 0) || decide ((lat l (lat c (i - 1))).t = (lat l k).f))
def cycleM (l : List Con) (c : List Int) : Bool :=
  validM 24 l && decide (1 ≤ c.length ∧ c.length ≤ 24) && (List.range c.length).all (cycStep l c) && decide ((c.map fun k => (lat l k).m).sum < 0 ∧ (lat l (lat c (c.length - 1))).t = (lat l (lat c 0)).f)
/-- The next assignment: the first elements alone count. -/
def nextFrom (m : Nat) (most : Int) : Nat → Nat → List Int → Bool × List Int
  | 0, _, x => (false, x)
  | k + 1, i, x => if i < m then if x.getD i 0 < most then (true, x.set i (x.getD i 0 + 1)) else nextFrom m most k (i + 1) (x.set i (-most)) else (false, x)
def nextM (x : List Int) (m : Nat) (most : Int) : Bool × List Int := nextFrom m most m 1 x
structure NextOk (x : List Int) (m : Nat) (most : Int) : Prop where
  m : m ≤ x.length
  most : 0 ≤ most ∧ most ≤ 1000
  el : ∀ v ∈ x, -1000 ≤ v ∧ v ≤ 1000
  len : x.length ≤ 1000
end Go.Lat
namespace Go.Lat
open Go.ChangeShapes Go.WideShapes Go.ChangeAt Go.RowKit
open Go.Proofs
section
variable {H : Type} {enc : TypeId × Value → H} {w : World} {base : Nat} {spare : Nat → Bool} {held : Bool}
theorem c07_3 : Try.prog.cellsOf 3 = 1 := by kernel_rfl
theorem c07_26 : Try.prog.cellsOf 26 = 3 := by kernel_rfl
theorem c07_25 : Try.prog.cellsOf 25 = 4 := by kernel_rfl
theorem open_ints07 {v : Value} {d : DataW H} {ps : List MemPlace} (hv : ∃ a len cap, v = .slice a len cap) (h : DataW.Trod enc Try.prog w base spare held 35 v d ps) :
    ∃ x : List Int, (∀ z ∈ x, inI z) ∧ VR [] (nest (memOf w)) (.lst true x.length (encL eInt x)) v := by
  obtain ⟨L, h1, h2⟩ := open_flat Try.underlying35 c07_3 (by omega) hv (intCells_int Try.underlying3) h
  refine ⟨L.map fun r => r.getD 0 0, fun z hz => ?_, ?_⟩
  · rw [List.mem_map] at hz
    obtain ⟨r, hr, rfl⟩ := hz
    obtain ⟨a, b⟩ := h1 r hr
    match r, a with
    | [y], _ => exact b y (by simp)
  · have e : encL eInt (L.map fun r => r.getD 0 0) = L.flatten.map fun z => AV.int .i64 z := by
      clear h2
      induction L with
      | nil => rfl
      | cons r L ih =>
        obtain ⟨a, -⟩ := h1 r (by simp)
        match r, a with
        | [y], _ =>
          rw [List.map_cons, List.flatten_cons, List.map_append, ← ih (fun r hr => h1 r (by simp [hr]))]
          rfl
    rw [List.length_map, e]; exact h2
theorem open_a3s {v : Value} {d : DataW H} {ps : List MemPlace} (hv : ∃ a len cap, v = .slice a len cap) (h : DataW.Trod enc Try.prog w base spare held 23 v d ps) :
    ∃ x : List A3, (∀ y ∈ x, inI y.x0 ∧ inI y.x1 ∧ inI y.x2) ∧ VR [] (nest (memOf w)) (.lst true x.length (encL e26 x)) v := by
  obtain ⟨L, h1, h2⟩ := open_flat Try.underlying23 c07_26 (by omega) hv (intCells_arr Try.underlying26 Try.underlying3 c07_3 c07_26) h
  refine ⟨L.map fun r => ⟨r.getD 0 0, r.getD 1 0, r.getD 2 0⟩, fun z hz => ?_, ?_⟩
  · rw [List.mem_map] at hz
    obtain ⟨r, hr, rfl⟩ := hz
    obtain ⟨a, b⟩ := h1 r hr
    match r, a with
    | [y0, y1, y2], _ => exact ⟨b y0 (by simp), b y1 (by simp), b y2 (by simp)⟩
  · have e : encL e26 (L.map fun r => (⟨r.getD 0 0, r.getD 1 0, r.getD 2 0⟩ : A3)) = L.flatten.map fun z => AV.int .i64 z := by
      clear h2
      induction L with
      | nil => rfl
      | cons r L ih =>
        obtain ⟨a, -⟩ := h1 r (by simp)
        match r, a with
        | [y0, y1, y2], _ =>
          rw [List.map_cons, List.flatten_cons, List.map_append, ← ih (fun r hr => h1 r (by simp [hr]))]
          rfl
    rw [List.length_map, e]; exact h2
theorem open_cons {v : Value} {d : DataW H} {ps : List MemPlace} (hv : ∃ a len cap, v = .slice a len cap) (h : DataW.Trod enc Try.prog w base spare held 22 v d ps) :
    ∃ x : List Con, (∀ c ∈ x, inI c.f ∧ inI c.t ∧ inI c.m ∧ inI c.a) ∧ VR [] (nest (memOf w)) (.lst true x.length (encL e25 x)) v := by
  obtain ⟨L, h1, h2⟩ := open_flat Try.underlying22 c07_25 (by omega) hv (intCells_st Try.underlying25 Try.underlying3 c07_3 c07_25 rfl (fun i hi => by
    match i, hi with
    | 0, _ => exact ⟨_, rfl, rfl, rfl⟩
    | 1, _ => exact ⟨_, rfl, rfl, rfl⟩
    | 2, _ => exact ⟨_, rfl, rfl, rfl⟩
    | 3, _ => exact ⟨_, rfl, rfl, rfl⟩)) h
  refine ⟨L.map fun r => ⟨r.getD 0 0, r.getD 1 0, r.getD 2 0, r.getD 3 0⟩, fun z hz => ?_, ?_⟩
  · rw [List.mem_map] at hz
    obtain ⟨r, hr, rfl⟩ := hz
    obtain ⟨a, b⟩ := h1 r hr
    match r, a with
    | [y0, y1, y2, y3], _ => exact ⟨b y0 (by simp), b y1 (by simp), b y2 (by simp), b y3 (by simp)⟩
  · have e : encL e25 (L.map fun r => (⟨r.getD 0 0, r.getD 1 0, r.getD 2 0, r.getD 3 0⟩ : Con)) = L.flatten.map fun z => AV.int .i64 z := by
      clear h2
      induction L with
      | nil => rfl
      | cons r L ih =>
        obtain ⟨a, -⟩ := h1 r (by simp)
        match r, a with
        | [y0, y1, y2, y3], _ =>
          rw [List.map_cons, List.flatten_cons, List.map_append, ← ih (fun r hr => h1 r (by simp [hr]))]
          rfl
    rw [List.length_map, e]; exact h2
theorem open_a3 {v : Value} {d : DataW H} {ps : List MemPlace} (hv : ∃ cs, v = .agg cs) (h : DataW.Trod enc Try.prog w base spare held 26 v d ps) :
    ∃ y : A3, (inI y.x0 ∧ inI y.x1 ∧ inI y.x2) ∧ VR [] (nest (memOf w)) (.agg (e26 y)) v := by
  obtain ⟨zs, h1, h2, h3⟩ := open_cells hv (intCells_arr Try.underlying26 Try.underlying3 c07_3 c07_26) h
  match zs, h1 with
  | [y0, y1, y2], _ => exact ⟨⟨y0, y1, y2⟩, ⟨h2 y0 (by simp), h2 y1 (by simp), h2 y2 (by simp)⟩, h3⟩
end
end Go.Lat
namespace Go.Lat
theorem lat_nat {α : Type} [Inhabited α] (xs : List α) (i : Nat) : lat xs (i : Int) = xs.getD i default := by simp [lat]
theorem lat_get {α : Type} [Inhabited α] {xs : List α} {i : Nat} (h : i < xs.length) : lat xs (i : Int) = xs[i] := by simp [lat, h]
theorem lat_mem {α : Type} [Inhabited α] {xs : List α} {i : Int} (h : 0 ≤ i ∧ i < xs.length) : lat xs i ∈ xs := by
  have : i.toNat < xs.length := by omega
  simp [lat, this]
theorem vat_lt {n : Nat} {M : Vector Int n} {k : Nat} (h : k < n) : vat M k = M[k] := by simp [vat, h]
theorem vat_ge {n : Nat} {M : Vector Int n} {k : Nat} (h : n ≤ k) : vat M k = 0 := by
  have : M.toList.length = n := by simp
  unfold vat
  rw [List.getD_eq_getElem?_getD, List.getElem?_eq_none (by omega)]; rfl
theorem vat_vset {n : Nat} {M : Vector Int n} {k j : Nat} {v : Int} (h : k < n) : vat (vset M k v) j = if j = k then v else vat M j := by
  rcases Nat.lt_or_ge j n with hj | hj
  · rw [vat_lt hj, vat_lt hj]
    simp only [vset, Vector.getElem_setIfInBounds hj]
    by_cases e : k = j
    · subst e; simp
    · have : ¬ j = k := fun x => e x.symm
      simp [e, this]
  · rw [vat_ge hj, vat_ge hj, if_neg (by omega)]
theorem vec_ext {n : Nat} {a b : Vector Int n} (h : ∀ k, k < n → vat a k = vat b k) : a = b := by
  apply Vector.ext
  intro i hi
  have := h i hi
  rw [vat_lt hi, vat_lt hi] at this
  exact this
theorem vat_ofFn {n : Nat} {f : Fin n → Int} {k : Nat} (h : k < n) : vat (Vector.ofFn f) k = f ⟨k, h⟩ := by rw [vat_lt h]; simp
theorem vat_rep {n : Nat} {v : Int} {k : Nat} (h : k < n) : vat (Vector.replicate n v) k = v := by rw [vat_lt h]; simp
theorem vat_vput {n : Nat} {M : Vector Int n} {off k : Nat} {xs : List Int} (h : off + xs.length ≤ n) : vat (vput M off xs) k = if off ≤ k ∧ k < off + xs.length then xs.getD (k - off) 0 else vat M k := by
  have hl : M.toList.length = n := by simp
  unfold vat
  rw [vput_toList _ _ _ h]
  simp only [List.getD_eq_getElem?_getD]
  rcases Nat.lt_or_ge k off with h1 | h1
  · rw [if_neg (by omega), List.append_assoc, List.getElem?_append_left (by simp; omega), List.getElem?_take_of_lt h1]
  · rcases Nat.lt_or_ge k (off + xs.length) with h2 | h2
    · rw [if_pos ⟨h1, h2⟩, List.append_assoc, List.getElem?_append_right (by simp; omega), List.getElem?_append_left (by simp; omega)]
      simp only [List.length_take, hl]
      rw [show min off n = off by omega]
    · rw [if_neg (by omega), List.getElem?_append_right (by simp; omega), List.getElem?_drop]
      simp only [List.length_append, List.length_take, hl]
      rw [show off + xs.length + (k - (min off n + xs.length)) = k by omega]
theorem pickM_nonneg {c n : Int} (h : 1 ≤ n) : 0 ≤ pickM c n ∧ pickM c n < n := by
  unfold pickM
  have h0 : 0 ≤ (if c < 0 then -(c + 1) else c) := by split <;> omega
  exact ⟨Int.tmod_nonneg _ h0, Int.tmod_lt_of_pos _ (by omega)⟩
theorem vat_relax {m : Vector Int 576} {f t : Nat} {w : Int} {k : Nat} (h : k < 576) : vat (relaxM m f t w) k = if vat m (k / 24 * 24 + f) = NB then vat m k else min (vat m k) (plusM (vat m (k / 24 * 24 + f) + w) (vat m (t * 24 + k % 24))) := by
  unfold relaxM
  rw [vat_ofFn h]
  rfl
theorem addM_neg {m : Vector Int 576} {f t : Nat} {w : Int} (h : plusM w (vat m (t * 24 + f)) < 0) : addM m f t w = (false, m) := by
  have e1 : plusM w (mm m (t : Int).toNat (f : Int).toNat) < 0 := h
  unfold addM
  rw [if_pos e1]
theorem addM_le {m : Vector Int 576} {f t : Nat} {w : Int} (h : ¬ plusM w (vat m (t * 24 + f)) < 0) (h2 : vat m (f * 24 + t) ≤ w) : addM m f t w = (true, m) := by
  have e1 : ¬ plusM w (mm m (t : Int).toNat (f : Int).toNat) < 0 := h
  have e2 : mm m (f : Int).toNat (t : Int).toNat ≤ w := h2
  unfold addM
  rw [if_neg e1, if_pos e2]
theorem addM_relax {m : Vector Int 576} {f t : Nat} {w : Int} (h : ¬ plusM w (vat m (t * 24 + f)) < 0) (h2 : ¬ vat m (f * 24 + t) ≤ w) : addM m f t w = (true, relaxM m f t w) := by
  have e1 : ¬ plusM w (mm m (t : Int).toNat (f : Int).toNat) < 0 := h
  have e2 : ¬ mm m (f : Int).toNat (t : Int).toNat ≤ w := h2
  unfold addM
  rw [if_neg e1, if_neg e2]
  rfl
end Go.Lat
namespace Go.Lat
theorem findIx_lt {α : Type} [Inhabited α] {p : α → Bool} {s : List α} {i : Nat} (h : i < s.length) (hp : p (lat s i) = true) (hn : ∀ j : Nat, j < i → ¬ p (lat s j) = true) : findIx p s = i := by
  unfold findIx
  have : s.findIdx? p = some i := by
    rw [List.findIdx?_eq_some_iff_getElem]
    refine ⟨h, by rw [lat_get h] at hp; exact hp, fun j hj => ?_⟩
    have := hn j hj
    rwa [lat_get (by omega)] at this
  rw [this]
theorem findIx_none {α : Type} [Inhabited α] {p : α → Bool} {s : List α} (hn : ∀ j : Nat, j < s.length → ¬ p (lat s j) = true) : findIx p s = -1 := by
  unfold findIx
  have : s.findIdx? p = none := by
    rw [List.findIdx?_eq_none_iff]
    intro x hx
    obtain ⟨j, hj, rfl⟩ := List.getElem_of_mem hx
    have := hn j hj
    rw [lat_get hj] at this
    simpa using this
  rw [this]
theorem findIx_nonneg {α : Type} {p : α → Bool} {s : List α} : decide ((0 : Int) ≤ findIx (fun x => !(p x)) s) = !(s.all p) := by
  unfold findIx
  rcases h : s.findIdx? (fun x => !(p x)) with _ | i
  · rw [List.findIdx?_eq_none_iff] at h
    have : s.all p = true := by
      rw [List.all_eq_true]; intro x hx; have := h x hx; simpa using this
    rw [this]; rfl
  · rw [List.findIdx?_eq_some_iff_getElem] at h
    obtain ⟨h1, h2, -⟩ := h
    have : s.all p = false := by
      rw [List.all_eq_false]; exact ⟨s[i], List.getElem_mem h1, by simpa using h2⟩
    rw [this]
    simp
end Go.Lat
namespace Go.Lat
theorem possM_iff {n : Int} {c : Con} : possM n c = true ↔ 0 ≤ c.f ∧ c.f < n ∧ 0 ≤ c.t ∧ c.t < n ∧ ¬ c.f = c.t ∧ -1125899906842624 ≤ c.m ∧ c.m ≤ 1125899906842624 ∧ 0 ≤ c.a ∧ c.a < 64 := by
  unfold possM; exact decide_eq_true_iff
theorem validM_iff {n : Int} {l : List Con} : validM n l = true ↔ (1 ≤ n ∧ n ≤ 24 ∧ l.length ≤ 2000) ∧ ∀ c ∈ l, possM n c = true := by
  unfold validM; rw [Bool.and_eq_true, decide_eq_true_iff, List.all_eq_true]
theorem holdsM_iff {l : List Con} {x : List Int} : holdsM l x = true ↔ (validM x.length l = true ∧ ∀ v ∈ x, -1152921504606846976 ≤ v ∧ v ≤ 1152921504606846976) ∧ ∀ c ∈ l, lat x c.t - lat x c.f ≤ c.m := by
  unfold holdsM
  simp only [Bool.and_eq_true, List.all_eq_true, decide_eq_true_iff]
end Go.Lat
namespace Go.Lat
theorem hNB : NB = 1152921504606846976 := rfl
theorem lat_lat (b : Bd) (i j : Nat) : lat (lat b.most (i : Int)) (j : Int) = bm b i j := by rw [lat_nat, lat_nat]; rfl
theorem okX_iff {x : Int} : okX x = true ↔ x = NB ∨ -36028797018963968 ≤ x ∧ x ≤ 36028797018963968 := by unfold okX; exact decide_eq_true_iff
theorem all_getD {p : Int → Bool} {l : List Int} : l.all p = true ↔ ∀ j, j < l.length → p (l.getD j 0) = true := by
  rw [List.all_eq_true]
  constructor
  · intro h j hj
    have := h l[j] (List.getElem_mem hj)
    simpa [hj] using this
  · intro h x hx
    obtain ⟨j, hj, rfl⟩ := List.getElem_of_mem hx
    have := h j hj
    simpa [hj] using this
structure VB (b : Bd) : Prop where
  n : 1 ≤ b.n ∧ b.n ≤ 24 ∧ (b.most.length : Int) = b.n
  row : ∀ i, i < b.most.length → (b.most.getD i []).length = b.most.length
  diag : ∀ i, i < b.most.length → bm b i i = 0
  ok : ∀ i j, i < b.most.length → j < b.most.length → bm b i j = NB ∨ -36028797018963968 ≤ bm b i j ∧ bm b i j ≤ 36028797018963968
  tri : ∀ i j k, i < b.most.length → j < b.most.length → k < b.most.length → bm b i j = NB ∨ bm b i k ≤ plusM (bm b i j) (bm b j k)
theorem validBM_iff {b : Bd} : validBM b = true ↔ VB b := by
  unfold validBM
  simp only [Bool.and_eq_true, Bool.or_eq_true, List.all_eq_true, List.mem_range, decide_eq_true_iff]
  constructor
  · rintro ⟨⟨h1, h2⟩, h3⟩
    have hr : ∀ i, i < b.most.length → (b.most.getD i []).length = b.most.length := fun i hi => by have := (h2 i hi).1.1; omega
    refine ⟨h1, hr, fun i hi => (h2 i hi).1.2, fun i j hi hj => ?_, fun i j k hi hj hk => ?_⟩
    · have := (h2 i hi).2
      have h4 := all_getD.mp (List.all_eq_true.mpr this) j (by rw [hr i hi]; exact hj)
      exact okX_iff.mp h4
    · rcases h3 i hi j hj with h | h
      · exact .inl h
      · exact .inr (h k hk)
  · rintro ⟨h1, h2, h3, h4, h5⟩
    refine ⟨⟨h1, fun i hi => ⟨⟨by rw [h2 i hi]; exact h1.2.2, h3 i hi⟩, ?_⟩⟩, fun i hi j hj => ?_⟩
    · refine List.all_eq_true.mp (all_getD.mpr fun j hj => ?_)
      rw [h2 i hi] at hj
      exact okX_iff.mpr (h4 i j hi hj)
    · by_cases e : bm b i j = NB
      · exact .inl e
      · exact .inr fun k hk => (h5 i j k hi hj hk).resolve_left e
theorem plusM_nb {a b : Int} (ha : ¬ a = NB) (hb : ¬ b = NB) : plusM a b = a + b := by unfold plusM; rw [if_neg (by omega)]
theorem plusM_inf {a b : Int} (h : a = NB ∨ b = NB) : plusM a b = NB := by unfold plusM; rw [if_pos h]
theorem rep_ext {n : Nat} {m : Vector Int n} {v : Int} (h : ∀ k, k < n → vat m k = v) : m = Vector.replicate n v := vec_ext fun k hk => by rw [h k hk, vat_rep hk]
def relStep (d : Vector Int 24) (o : Vector Int 24) (c : Con) : Vector Int 24 := vset o c.f.toNat (min (vat o c.f.toNat) (plusM c.m (vat d c.t.toNat)))
theorem longerM_eq {l : List Con} {d : Vector Int 24} {above : Int} : longerM l d above = (l.drop (above + 1).toNat).foldl (relStep d) (Vector.replicate 24 NB) := rfl
/-- The entries of a table stay within these bounds. -/
theorem relStep_bd {d o : Vector Int 24} {c : Con} {B : Int} (hc : 0 ≤ c.f ∧ c.f < 24) (hm : -1125899906842624 ≤ c.m) (hd : ∀ k, -B ≤ vat d k ∧ vat d k ≤ NB)
    (ho : ∀ k, -(B + 1125899906842624) ≤ vat o k ∧ vat o k ≤ NB) : ∀ k, -(B + 1125899906842624) ≤ vat (relStep d o c) k ∧ vat (relStep d o c) k ≤ NB := by
  intro k
  unfold relStep
  rw [vat_vset (by omega)]
  split
  · have h1 := ho c.f.toNat
    have h2 := hd c.t.toNat
    have h4 := hNB
    have h3 : -(B + 1125899906842624) ≤ plusM c.m (vat d c.t.toNat) := by
      unfold plusM; split <;> omega
    omega
  · exact ho k
theorem foldl_bd {d : Vector Int 24} {l : List Con} {B : Int} (hl : ∀ c ∈ l, (0 ≤ c.f ∧ c.f < 24) ∧ -1125899906842624 ≤ c.m) (hd : ∀ k, -B ≤ vat d k ∧ vat d k ≤ NB) :
    ∀ o : Vector Int 24, (∀ k, -(B + 1125899906842624) ≤ vat o k ∧ vat o k ≤ NB) → ∀ k, -(B + 1125899906842624) ≤ vat (l.foldl (relStep d) o) k ∧ vat (l.foldl (relStep d) o) k ≤ NB := by
  induction l with
  | nil => exact fun o ho => ho
  | cons c l ih =>
    intro o ho
    have hc := hl c (by simp)
    exact ih (fun c' h' => hl c' (by simp [h'])) _ (relStep_bd hc.1 hc.2 hd ho)
theorem rep_bd {B : Int} (hB : 0 ≤ B) : ∀ k, -B ≤ vat (Vector.replicate 24 NB) k ∧ vat (Vector.replicate 24 NB) k ≤ NB := by
  intro k
  have := hNB
  rcases Nat.lt_or_ge k 24 with h | h
  · rw [vat_rep h]; omega
  · rw [vat_ge h]; omega
theorem tabD_bd {l : List Con} {to above : Int} (hl : ∀ c ∈ l, (0 ≤ c.f ∧ c.f < 24) ∧ -1125899906842624 ≤ c.m) (ht : 0 ≤ to ∧ to < 24) (n : Nat) :
    ∀ k, -((n : Int) * 1125899906842624) ≤ vat (tabD l to above n) k ∧ vat (tabD l to above n) k ≤ NB := by
  induction n with
  | zero =>
    intro k
    have h1 := rep_bd (B := 0) (by omega) k
    have := hNB
    show _ ≤ vat (vset _ _ _) k ∧ vat (vset _ _ _) k ≤ _
    rw [vat_vset (by omega)]
    split <;> omega
  | succ n ih =>
    intro k
    show _ ≤ vat (longerM _ _ _) k ∧ vat (longerM _ _ _) k ≤ _
    rw [longerM_eq]
    have := foldl_bd (d := tabD l to above n) (l := l.drop (above + 1).toNat) (B := (n : Int) * 1125899906842624) (fun c hc => hl c (List.mem_of_mem_drop hc)) ih _ (rep_bd (by omega)) k
    omega
end Go.Lat
namespace Go.Lat
theorem find_drop_some {n a i : Nat} {p : Nat → Bool} (h : a ≤ i ∧ i < n) (hp : p i = true) (hn : ∀ j, a ≤ j → j < i → ¬ p j = true) : ((List.range n).drop a).find? p = some i := by
  rw [List.range_eq_range', List.drop_range', List.find?_range'_eq_some]
  refine ⟨hp, ?_, fun j h1 h2 => ?_⟩
  · rw [List.mem_range'_1]; omega
  · have := hn j (by omega) h2
    simpa using this
theorem find_drop_none {n a : Nat} {p : Nat → Bool} (hn : ∀ j, a ≤ j → j < n → ¬ p j = true) : ((List.range n).drop a).find? p = none := by
  rw [List.range_eq_range', List.drop_range', List.find?_range'_eq_none]
  intro j h1 h2
  have := hn j (by omega) (by omega)
  simpa using this
theorem findSome_range_some {α : Type} {n i : Nat} {p : Nat → Option α} {x : α} (h : i < n) (hp : p i = some x) (hn : ∀ j, j < i → p j = none) : (List.range n).findSome? p = some x := by
  have e : List.range n = List.range i ++ i :: (List.range' (i + 1) (n - i - 1)) := by
    have : List.range' 0 n = List.range' 0 i ++ List.range' i (n - i) := by
      have := (List.range'_append (s := 0) (m := i) (n := n - i) (step := 1)).symm
      rw [show i + (n - i) = n by omega, show 0 + 1 * i = i by omega] at this
      exact this
    rw [List.range_eq_range', this, ← List.range_eq_range']
    congr 1
    rw [show n - i = (n - i - 1) + 1 by omega, List.range'_succ]
    simp
  rw [e, List.findSome?_append]
  have : (List.range i).findSome? p = none := by
    rw [List.findSome?_eq_none_iff]; intro j hj; exact hn j (List.mem_range.mp hj)
  rw [this]
  simp [hp]
theorem findSome_range_none {α : Type} {n : Nat} {p : Nat → Option α} (hn : ∀ j, j < n → p j = none) : (List.range n).findSome? p = none := by
  rw [List.findSome?_eq_none_iff]; intro j hj; exact hn j (List.mem_range.mp hj)
theorem tableM_len {l : List Con} {to above many : Int} : (tableM l to above many).length = many.toNat + 1 := by unfold tableM; simp
theorem tableM_at {l : List Con} {to above many : Int} {k : Int} (h : 0 ≤ k ∧ k ≤ many) : lat (tableM l to above many) k = tabD l to above k.toNat := by
  have : k.toNat < (List.range (many.toNat + 1)).length := by simp; omega
  unfold tableM lat
  rw [List.getD_eq_getElem?_getD, List.getElem?_map, List.getElem?_eq_getElem this]
  simp
def sizeStep (n : Int) (l : List Con) (s : Int) (v : Nat) : Int := match sizeAt n l v with | some r => min s (r : Int) | none => s
theorem sizeM_eq {n : Int} {l : List Con} : sizeM n l = (List.range n.toNat).foldl (sizeStep n l) (n + 1) := rfl
theorem sizeAt_pos {n : Int} {l : List Con} {v r : Nat} (hv : v < 24) (h : sizeAt n l v = some r) : 1 ≤ r ∧ (r : Int) ≤ max n 0 := by
  unfold sizeAt at h
  have h2 := List.mem_of_find?_eq_some h
  rw [List.mem_range] at h2
  have h3 := List.find?_some h
  have h4 := of_decide_eq_true h3
  refine ⟨?_, by omega⟩
  rcases r with _ | r
  · exfalso
    have e : vat (tabD l v (-1) 0) v = 0 := by
      show vat (vset _ _ _) _ = _
      rw [vat_vset (by simpa using hv)]; simp
    rw [e] at h4; omega
  · omega
theorem sizeM_bd {n : Int} {l : List Con} (hn : 1 ≤ n ∧ n ≤ 24) : ∀ k : Nat, k ≤ n → 1 ≤ (List.range k).foldl (sizeStep n l) (n + 1) ∧ (List.range k).foldl (sizeStep n l) (n + 1) ≤ n + 1 := by
  intro k
  induction k with
  | zero => intro _; simp; omega
  | succ k ih =>
    intro hk
    have := ih (by omega)
    rw [List.range_succ, List.foldl_append]
    simp only [List.foldl_cons, List.foldl_nil]
    generalize (List.range k).foldl (sizeStep n l) (n + 1) = s at this
    unfold sizeStep
    rcases h : sizeAt n l k with _ | r
    · exact this
    · have := sizeAt_pos (by omega) h
      dsimp only
      omega
theorem chain_done {l : List Con} {d : Nat → Vector Int 24} {size : Int} {s k : Nat} {out : List Int} {a t : Int} (h : ¬ (out.length : Int) < size) : chainC l d size s k out a t = some out := by
  cases k with
  | zero => rfl
  | succ k => show (if (out.length : Int) < size then _ else _) = _; rw [if_neg h]
theorem chain_some {l : List Con} {d : Nat → Vector Int 24} {size : Int} {s k i : Nat} {out : List Int} {a t : Int} (h : (out.length : Int) < size) (h2 : nextC l d size s out.length a t = some i) :
    chainC l d size s (k + 1) out a t = chainC l d size s k (out ++ [(i : Int)]) (l.getD i default).t (t + (l.getD i default).m) := by
  show (if (out.length : Int) < size then _ else _) = _; rw [if_pos h, h2]
theorem chain_none {l : List Con} {d : Nat → Vector Int 24} {size : Int} {s k : Nat} {out : List Int} {a t : Int} (h : (out.length : Int) < size) (h2 : nextC l d size s out.length a t = none) :
    chainC l d size s (k + 1) out a t = none := by
  show (if (out.length : Int) < size then _ else _) = _; rw [if_pos h, h2]
theorem firstAt_none {l : List Con} {size : Int} {s : Nat} (h : 0 ≤ plusM (l.getD s default).m (vat (tabD l (l.getD s default).f s (size - 1).toNat) (l.getD s default).t.toNat)) : firstAt l size s = none := by
  unfold firstAt; simp only []; rw [if_pos h]
theorem firstAt_some {l : List Con} {size : Int} {s : Nat} (h : ¬ 0 ≤ plusM (l.getD s default).m (vat (tabD l (l.getD s default).f s (size - 1).toNat) (l.getD s default).t.toNat)) :
    firstAt l size s = chainC l (tabD l (l.getD s default).f s) size s size.toNat [(s : Int)] (l.getD s default).t (l.getD s default).m := by
  unfold firstAt; simp only []; rw [if_neg h]
end Go.Lat
namespace Go.Lat
/-! ### Closed matrices -/
structure Cl (n : Nat) (m : Vector Int 576) (B : Int) : Prop where
  n24 : n ≤ 24
  diag : ∀ i, i < n → mm m i i = 0
  tri : ∀ i j k, i < n → j < n → k < n → ¬ mm m i j = NB → ¬ mm m j k = NB → mm m i k ≤ mm m i j + mm m j k
  bd : ∀ i j, i < n → j < n → mm m i j = NB ∨ -B ≤ mm m i j ∧ mm m i j ≤ B
def Sol (n : Nat) (m : Vector Int 576) (x : Nat → Int) : Prop := ∀ i j, i < n → j < n → ¬ mm m i j = NB → x j - x i ≤ mm m i j
theorem Cl.fin {n : Nat} {m : Vector Int 576} {B : Int} (h : Cl n m B) (hB : B ≤ 288230376151711744) {i j k : Nat} (hi : i < n) (hj : j < n) (hk : k < n) (h1 : ¬ mm m i j = NB) (h2 : ¬ mm m j k = NB) : ¬ mm m i k = NB := by
  have a := h.tri i j k hi hj hk h1 h2
  have b := h.bd i j hi hj
  have c := h.bd j k hj hk
  have := hNB
  omega
theorem Cl.mono {n : Nat} {m : Vector Int 576} {B C : Int} (h : Cl n m B) (hc : B ≤ C) : Cl n m C :=
  ⟨h.n24, h.diag, h.tri, fun i j hi hj => by have := h.bd i j hi hj; omega⟩
/-- What one more constraint makes of a closed matrix. -/
structure Rel (n : Nat) (m m' : Vector Int 576) (f t : Nat) (w : Int) : Prop where
  le : ∀ i j, i < n → j < n → mm m' i j ≤ mm m i j
  via : ∀ i j, i < n → j < n → ¬ mm m i f = NB → ¬ mm m t j = NB → mm m' i j ≤ mm m i f + w + mm m t j
  one : ∀ i j, i < n → j < n → mm m' i j = mm m i j ∨ (¬ mm m i f = NB ∧ ¬ mm m t j = NB ∧ mm m' i j = mm m i f + w + mm m t j)
theorem mm_relax {m : Vector Int 576} {f t : Nat} {w : Int} {i j : Nat} (hi : i < 24) (hj : j < 24) : mm (relaxM m f t w) i j = if mm m i f = NB then mm m i j else min (mm m i j) (plusM (mm m i f + w) (mm m t j)) := by
  show vat _ _ = _
  rw [vat_relax (by omega), show (i * 24 + j) / 24 = i by omega, show (i * 24 + j) % 24 = j by omega]
  rfl
theorem Cl.rel {n : Nat} {m : Vector Int 576} {B : Int} {f t : Nat} {w : Int} (h : Cl n m B) (hB : B ≤ 288230376151711744) (hf : f < n) (ht : t < n) (hw : -72057594037927936 ≤ w ∧ w ≤ 72057594037927936)
    (hs : (addM m f t w).1 = true) : Rel n m (addM m f t w).2 f t w := by
  have hnb := hNB
  have hn := h.n24
  by_cases h1 : plusM w (vat m (t * 24 + f)) < 0
  · rw [addM_neg h1] at hs; cases hs
  by_cases h2 : vat m (f * 24 + t) ≤ w
  · rw [addM_le h1 h2]
    change mm m f t ≤ w at h2
    refine ⟨fun i j _ _ => Int.le_refl _, fun i j hi hj a b => ?_, fun i j _ _ => .inl rfl⟩
    show mm m i j ≤ _
    have b0 := h.bd f t hf ht
    have h3 : ¬ mm m f t = NB := by omega
    have b1 := h.tri i f t hi hf ht a h3
    have b2 := h.tri i t j hi ht hj (h.fin hB hi hf ht a h3) b
    omega
  · rw [addM_relax h1 h2]
    have e : ∀ i j, i < n → j < n → mm (relaxM m f t w) i j = if mm m i f = NB then mm m i j else min (mm m i j) (plusM (mm m i f + w) (mm m t j)) := fun i j hi hj => mm_relax (by omega) (by omega)
    refine ⟨fun i j hi hj => ?_, fun i j hi hj a b => ?_, fun i j hi hj => ?_⟩
    · show mm (relaxM m f t w) i j ≤ _
      rw [e i j hi hj]; split
      · exact Int.le_refl _
      · omega
    · show mm (relaxM m f t w) i j ≤ _
      rw [e i j hi hj, if_neg a, plusM_nb (by have := h.bd i f hi hf; omega) b]
      omega
    · show mm (relaxM m f t w) i j = _ ∨ _ ∧ _ ∧ mm (relaxM m f t w) i j = _
      rw [e i j hi hj]
      by_cases a : mm m i f = NB
      · rw [if_pos a]; exact .inl rfl
      · rw [if_neg a]
        have b0 := h.bd i f hi hf
        by_cases b : mm m t j = NB
        · rw [plusM_inf (.inr b)]
          have := h.bd i j hi hj
          exact .inl (by omega)
        · rw [plusM_nb (by omega) b]
          rcases Int.le_total (mm m i j) (mm m i f + w + mm m t j) with h3 | h3
          · exact .inl (by omega)
          · exact .inr ⟨a, b, by omega⟩
theorem Cl.ok_pos {n : Nat} {m : Vector Int 576} {B : Int} {f t : Nat} {w : Int} (h : Cl n m B) (hB : B ≤ 288230376151711744) (hf : f < n) (ht : t < n) (hw : -72057594037927936 ≤ w ∧ w ≤ 72057594037927936)
    (hs : (addM m f t w).1 = true) : mm m t f = NB ∨ 0 ≤ w + mm m t f := by
  have hnb := hNB
  by_cases h1 : plusM w (vat m (t * 24 + f)) < 0
  · rw [addM_neg h1] at hs; cases hs
  change ¬ plusM w (mm m t f) < 0 at h1
  by_cases h2 : mm m t f = NB
  · exact .inl h2
  · rw [plusM_nb (by omega) h2] at h1; exact .inr (by omega)
theorem Cl.bad {n : Nat} {m : Vector Int 576} {B : Int} {f t : Nat} {w : Int} (h : Cl n m B) (hf : f < n) (ht : t < n) (hw : -72057594037927936 ≤ w ∧ w ≤ 72057594037927936)
    (hs : ¬ (addM m f t w).1 = true) : ¬ mm m t f = NB ∧ w + mm m t f < 0 := by
  have hnb := hNB
  by_cases h1 : plusM w (vat m (t * 24 + f)) < 0
  · change plusM w (mm m t f) < 0 at h1
    by_cases h2 : mm m t f = NB
    · rw [plusM_inf (.inr h2)] at h1; omega
    · rw [plusM_nb (by omega) h2] at h1; exact ⟨h2, h1⟩
  · exfalso
    by_cases h2 : vat m (f * 24 + t) ≤ w
    · exact hs (by rw [addM_le h1 h2])
    · exact hs (by rw [addM_relax h1 h2])
theorem Cl.step {n : Nat} {m m' : Vector Int 576} {B : Int} {f t : Nat} {w : Int} (h : Cl n m B) (hB : 0 ≤ B ∧ B ≤ 144115188075855872) (hf : f < n) (ht : t < n) (hw : -72057594037927936 ≤ w ∧ w ≤ 72057594037927936)
    (hr : Rel n m m' f t w) (hp : mm m t f = NB ∨ 0 ≤ w + mm m t f) : Cl n m' (2 * B + 72057594037927936) := by
  have hnb := hNB
  have F := fun {i j k : Nat} => h.fin (i := i) (j := j) (k := k) (by omega)
  refine ⟨h.n24, fun i hi => ?_, fun i j k hi hj hk a b => ?_, fun i j hi hj => ?_⟩
  · have d := h.diag i hi
    rcases hr.one i i hi hi with e | ⟨a, b, e⟩
    · rw [e, d]
    · have h1 := hr.le i i hi hi
      have h2 := h.tri t i f ht hi hf b a
      have h3 := F ht hi hf b a
      omega
  · rcases hr.one i j hi hj with e | ⟨a1, a2, e⟩ <;> rcases hr.one j k hj hk with e' | ⟨b1, b2, e'⟩
    · have h1 := hr.le i k hi hk
      have h2 := h.tri i j k hi hj hk (by rwa [← e]) (by rwa [← e'])
      omega
    · have h0 := F hi hj hf (by rwa [← e]) b1
      have h1 := hr.via i k hi hk h0 b2
      have h2 := h.tri i j f hi hj hf (by rwa [← e]) b1
      omega
    · have h0 := F ht hj hk a2 (by rwa [← e'])
      have h1 := hr.via i k hi hk a1 h0
      have h2 := h.tri t j k ht hj hk a2 (by rwa [← e'])
      omega
    · have h1 := hr.via i k hi hk a1 b2
      have h2 := h.tri t j f ht hj hf a2 b1
      have h3 := F ht hj hf a2 b1
      omega
  · have h0 := h.bd i j hi hj
    rcases hr.one i j hi hj with e | ⟨a1, a2, e⟩
    · rw [e]; omega
    · have h1 := h.bd i f hi hf
      have h2 := h.bd t j ht hj
      omega
theorem Rel.sol {n : Nat} {m m' : Vector Int 576} {B : Int} {f t : Nat} {w : Int} (h : Cl n m B) (hB : B ≤ 288230376151711744) (hf : f < n) (ht : t < n) (hw : w ≤ 72057594037927936)
    (hr : Rel n m m' f t w) (x : Nat → Int) : Sol n m' x ↔ Sol n m x ∧ x t - x f ≤ w := by
  have hnb := hNB
  constructor
  · intro hx
    refine ⟨fun i j hi hj a => ?_, ?_⟩
    · have h1 := hr.le i j hi hj
      have h2 := h.bd i j hi hj
      have h3 := hx i j hi hj (by omega)
      omega
    · have d1 := h.diag f hf
      have d2 := h.diag t ht
      have h1 := hr.via f t hf ht (by omega) (by omega)
      have h3 := hx f t hf ht (by omega)
      omega
  · rintro ⟨hx, hw⟩ i j hi hj a
    rcases hr.one i j hi hj with e | ⟨a1, a2, e⟩
    · have := hx i j hi hj (by rwa [← e]); omega
    · have h1 := hx i f hi hf a1
      have h2 := hx t j ht hj a2
      omega
/-! ### The point of a closed matrix -/
def ptF (m : Vector Int 576) (f n : Nat) (j : Nat) : Int :=
  if mm m f j = NB then (List.range n).foldl (fun o i => if mm m f i = NB ∧ ¬ mm m i j = NB then min o (576460752303423488 + mm m i j) else o) 576460752303423488 else mm m f j
theorem pointV_eq {m : Vector Int 576} {f n : Nat} : pointV m f n = (List.range n).map (ptF m f n) := rfl
theorem foldMin {p : Nat → Prop} [DecidablePred p] {g : Nat → Int} {s : Int} (n : Nat) :
    let r := (List.range n).foldl (fun o i => if p i then min o (g i) else o) s
    (r ≤ s ∧ ∀ i, i < n → p i → r ≤ g i) ∧ (r = s ∨ ∃ i, i < n ∧ p i ∧ r = g i) := by
  induction n with
  | zero => exact ⟨⟨Int.le_refl _, by omega⟩, .inl rfl⟩
  | succ n ih =>
    rw [List.range_succ, List.foldl_append]
    simp only [List.foldl_cons, List.foldl_nil] at ih ⊢
    generalize (List.range n).foldl (fun o i => if p i then min o (g i) else o) s = r at ih ⊢
    obtain ⟨⟨h1, h2⟩, h3⟩ := ih
    by_cases hp : p n
    · rw [if_pos hp]
      refine ⟨⟨by omega, fun i hi hpi => ?_⟩, ?_⟩
      · rcases Nat.lt_or_ge i n with h | h
        · have := h2 i h hpi; omega
        · have : i = n := by omega
          subst this; omega
      · rcases Int.le_total r (g n) with h | h
        · rw [show min r (g n) = r by omega]
          rcases h3 with h3 | ⟨i, hi, h4⟩
          · exact .inl h3
          · exact .inr ⟨i, by omega, h4⟩
        · exact .inr ⟨n, by omega, hp, by omega⟩
    · rw [if_neg hp]
      refine ⟨⟨h1, fun i hi hpi => ?_⟩, ?_⟩
      · rcases Nat.lt_or_ge i n with h | h
        · exact h2 i h hpi
        · have : i = n := by omega
          subst this; exact (hp hpi).elim
      · rcases h3 with h3 | ⟨i, hi, h4⟩
        · exact .inl h3
        · exact .inr ⟨i, by omega, h4⟩
structure PtOk (n : Nat) (m : Vector Int 576) (f : Nat) (B : Int) (x : Nat → Int) : Prop where
  fin : ∀ j, j < n → ¬ mm m f j = NB → x j = mm m f j
  inf : ∀ j, j < n → mm m f j = NB → 576460752303423488 - B ≤ x j ∧ x j ≤ 576460752303423488
  sol : Sol n m x
theorem Cl.pt {n : Nat} {m : Vector Int 576} {B : Int} {f : Nat} (h : Cl n m B) (hB : 0 ≤ B ∧ B ≤ 144115188075855872) (hf : f < n) : PtOk n m f B (ptF m f n) := by
  have hnb := hNB
  have P := fun j => foldMin (p := fun i => mm m f i = NB ∧ ¬ mm m i j = NB) (g := fun i => 576460752303423488 + mm m i j) (s := 576460752303423488) n
  have e1 : ∀ j, ¬ mm m f j = NB → ptF m f n j = mm m f j := fun j a => by unfold ptF; rw [if_neg a]
  have e2 : ∀ j, mm m f j = NB → ptF m f n j = (List.range n).foldl (fun o i => if mm m f i = NB ∧ ¬ mm m i j = NB then min o (576460752303423488 + mm m i j) else o) 576460752303423488 := fun j a => by unfold ptF; rw [if_pos a]
  have I : ∀ j, j < n → mm m f j = NB → 576460752303423488 - B ≤ ptF m f n j ∧ ptF m f n j ≤ 576460752303423488 := fun j hj a => by
    rw [e2 j a]
    obtain ⟨⟨p1, -⟩, p3⟩ := P j
    refine ⟨?_, p1⟩
    rcases p3 with p3 | ⟨i, hi, ⟨-, q2⟩, q⟩
    · rw [p3]; omega
    · rw [q]; have := h.bd i j hi hj; omega
  refine ⟨fun j _ a => e1 j a, I, fun a b ha hb hab => ?_⟩
  have bab := h.bd a b ha hb
  by_cases fa : mm m f a = NB
  · have ia := I a ha fa
    by_cases fb : mm m f b = NB
    · obtain ⟨⟨p1, p2⟩, -⟩ := P b
      obtain ⟨-, q3⟩ := P a
      rw [← e2 b fb] at p1 p2
      rw [← e2 a fa] at q3
      rcases q3 with q3 | ⟨i, hi, ⟨i1, i2⟩, q⟩
      · have := p2 a ha ⟨fa, hab⟩; omega
      · have t := h.tri i a b hi ha hb i2 hab
        have := p2 i hi ⟨i1, h.fin (by omega) hi ha hb i2 hab⟩
        omega
    · rw [e1 b fb]
      have := h.bd f b hf hb
      omega
  · have fb := h.fin (by omega) hf ha hb fa hab
    rw [e1 a fa, e1 b fb]
    have := h.tri f a b hf ha hb fa hab
    omega
/-- Fewer solutions: smaller entries. -/
theorem Cl.le_of_sol {n : Nat} {m1 m2 : Vector Int 576} {B : Int} (h1 : Cl n m1 B) (h2 : Cl n m2 B) (hB : 0 ≤ B ∧ B ≤ 144115188075855872) (hs : ∀ x, Sol n m1 x → Sol n m2 x) {i j : Nat} (hi : i < n) (hj : j < n) : mm m1 i j ≤ mm m2 i j := by
  have hnb := hNB
  obtain ⟨p1, p2, p3⟩ := h1.pt hB hi
  have b1 := h1.bd i j hi hj
  have b2 := h2.bd i j hi hj
  by_cases e : mm m2 i j = NB
  · omega
  have d := h1.diag i hi
  have := hs _ p3 i j hi hj e
  rw [p1 i hi (by omega), d] at this
  by_cases f : mm m1 i j = NB
  · have := p2 j hj f; omega
  · rw [p1 j hj f] at this; omega
theorem Cl.eq_of_sol {n : Nat} {m1 m2 : Vector Int 576} {B : Int} (h1 : Cl n m1 B) (h2 : Cl n m2 B) (hB : 0 ≤ B ∧ B ≤ 144115188075855872) (hs : ∀ x, Sol n m1 x ↔ Sol n m2 x) {i j : Nat} (hi : i < n) (hj : j < n) : mm m1 i j = mm m2 i j :=
  Int.le_antisymm (h1.le_of_sol h2 hB (fun x => (hs x).mp) hi hj) (h2.le_of_sol h1 hB (fun x => (hs x).mpr) hi hj)
/-! ### A gap among few values -/
theorem countP_lt {l : List Nat} {p q : Nat → Bool} (h : ∀ r ∈ l, p r = true → q r = true) (r : Nat) (hr : r ∈ l) (h1 : q r = true) (h2 : ¬ p r = true) : l.countP p + 1 ≤ l.countP q := by
  induction l with
  | nil => cases hr
  | cons a l ih =>
    have hm : l.countP p ≤ l.countP q := List.countP_mono_left fun r hr => h r (by simp [hr])
    simp only [List.countP_cons]
    rcases List.mem_cons.mp hr with rfl | hr'
    · simp only [h1, h2]; simp; omega
    · have := ih (fun r hr => h r (by simp [hr])) hr'
      have h3 := h a (by simp)
      split <;> split <;> first | omega | (exfalso; simp_all)
theorem gap {n : Nat} (hn : n ≤ 24) {P : Nat → Nat → Prop} [∀ k r, Decidable (P k r)] (hm : ∀ k r, P k r → P (k + 1) r) (i j : Nat) (hi : i < n) (hj : j < n) (h0 : P 0 i) (h1 : ¬ P 23 j) :
    ∃ k, k < 23 ∧ ∀ r, r < n → P (k + 1) r → P k r := by
  apply Classical.byContradiction
  intro hno
  have hk : ∀ k, k ≤ 23 → k + 1 ≤ (List.range n).countP fun r => decide (P k r) := by
    intro k
    induction k with
    | zero =>
      intro _
      have : 0 < (List.range n).countP fun r => decide (P 0 r) := List.countP_pos_iff.mpr ⟨i, List.mem_range.mpr hi, decide_eq_true h0⟩
      omega
    | succ k ih =>
      intro hk
      have h2 := ih (by omega)
      have h3 : ¬ ∀ r, r < n → P (k + 1) r → P k r := fun h => hno ⟨k, by omega, h⟩
      simp only [Classical.not_forall] at h3
      obtain ⟨r, hr, h4, h5⟩ := h3
      have := countP_lt (l := List.range n) (p := fun r => decide (P k r)) (q := fun r => decide (P (k + 1) r)) (fun r _ h => decide_eq_true (hm k r (of_decide_eq_true h))) r (List.mem_range.mpr hr) (decide_eq_true h4) (fun h => h5 (of_decide_eq_true h))
      omega
  have h2 := hk 23 (by omega)
  have h3 := countP_lt (l := List.range n) (p := fun r => decide (P 23 r)) (q := fun _ => true) (fun _ _ _ => rfl) j (List.mem_range.mpr hj) rfl (fun h => h1 (of_decide_eq_true h))
  have h4 : (List.range n).countP (fun _ => true) ≤ n := by
    have := List.countP_le_length (p := fun _ => true) (l := List.range n)
    simpa using this
  omega
/-! ### The solutions of constraints -/
def SolL (l : List Con) (x : Nat → Int) : Prop := ∀ c ∈ l, x c.t.toNat - x c.f.toNat ≤ c.m
def Good (n : Nat) (l : List Con) : Prop := ∀ c ∈ l, (0 ≤ c.f ∧ c.f < n) ∧ (0 ≤ c.t ∧ c.t < n) ∧ -1125899906842624 ≤ c.m ∧ c.m ≤ 1125899906842624
theorem Cl.small {n : Nat} {m : Vector Int 576} {B : Int} {l : List Con} (h : Cl n m B) (hB : 0 ≤ B ∧ B ≤ 144115188075855872) (hl : Good n l) (hs : ∀ x, Sol n m x ↔ SolL l x) : Cl n m 25895697857380352 := by
  have hnb := hNB
  refine ⟨h.n24, h.diag, h.tri, fun i j hi hj => ?_⟩
  by_cases fin : mm m i j = NB
  · exact .inl fin
  refine .inr ?_
  obtain ⟨p1, p2, p3⟩ := h.pt hB hi
  have hL := (hs _).mp p3
  have d := h.diag i hi
  have hno : ∀ U : Nat → Prop, [DecidablePred U] → ¬ U i → U j → ¬ SolL l (fun r => ptF m i n r + if U r then 1 else 0) := by
    intro U _ hUi hUj hS
    have := (hs _).mpr hS i j hi hj fin
    rw [if_pos hUj, if_neg hUi, p1 i hi (by omega), p1 j hj fin] at this
    omega
  constructor
  · apply Classical.byContradiction
    intro hlt
    obtain ⟨k, hk, hg⟩ := gap h.n24 (P := fun k r => ¬ mm m i r = NB ∧ -(k * 1125899906842624 : Int) ≤ mm m i r) (fun k r hp => ⟨hp.1, by have := hp.2; omega⟩) i j hi hj ⟨by omega, by omega⟩ (fun hp => by have := hp.2; omega)
    refine hno (fun r => ¬ mm m i r = NB ∧ mm m i r < -(k * 1125899906842624 : Int)) (by omega) ⟨fin, by omega⟩ fun c hc => ?_
    obtain ⟨c1, c2, c3, c4⟩ := hl c hc
    have h1 := hL c hc
    dsimp only
    split
    · rename_i hb
      split
      · omega
      · rename_i ha
        have hg' := hg c.t.toNat (by omega)
        rw [p1 c.t.toNat (by omega) hb.1] at h1 ⊢
        by_cases fa : mm m i c.f.toNat = NB
        · have := p2 _ (by omega) fa; omega
        · rw [p1 c.f.toNat (by omega) fa] at h1 ⊢; omega
    · split <;> omega
  · apply Classical.byContradiction
    intro hlt
    obtain ⟨k, hk, hg⟩ := gap h.n24 (P := fun k r => ¬ mm m i r = NB ∧ mm m i r ≤ (k * 1125899906842624 : Int)) (fun k r hp => ⟨hp.1, by have := hp.2; omega⟩) i j hi hj ⟨by omega, by omega⟩ (fun hp => by have := hp.2; omega)
    refine hno (fun r => ¬ mm m i r = NB ∧ (k * 1125899906842624 : Int) < mm m i r) (by omega) ⟨fin, by omega⟩ fun c hc => ?_
    obtain ⟨c1, c2, c3, c4⟩ := hl c hc
    have h1 := hL c hc
    dsimp only
    split
    · rename_i hb
      split
      · omega
      · rename_i ha
        have hg' := hg c.t.toNat (by omega)
        rw [p1 c.t.toNat (by omega) hb.1] at h1 ⊢
        by_cases fa : mm m i c.f.toNat = NB
        · have := p2 _ (by omega) fa
          have := h.bd i c.t.toNat hi (by omega)
          omega
        · rw [p1 c.f.toNat (by omega) fa] at h1 ⊢; omega
    · split <;> omega
end Go.Lat
namespace Go.Lat
abbrev B0 : Int := 25895697857380352
theorem hB0 : B0 = 25895697857380352 := rfl
theorem Cl.addOk {m : Vector Int 576} {B : Int} {f t w : Int} (h : Cl 24 m B) (hB : B ≤ 288230376151711744) (hf : 0 ≤ f ∧ f < 24) (ht : 0 ≤ t ∧ t < 24) (hw : -72057594037927936 ≤ w ∧ w ≤ 72057594037927936) : AddOk m f t w := by
  have hnb := hNB
  refine ⟨hf, ht, hw, fun k => ?_⟩
  rcases Nat.lt_or_ge k 576 with hk | hk
  · have := h.bd (k / 24) (k % 24) (by omega) (by omega)
    have e : mm m (k / 24) (k % 24) = vat m k := by unfold mm; rw [show k / 24 * 24 + k % 24 = k by omega]
    rw [e] at this; omega
  · rw [vat_ge hk]; omega
theorem mm_free {i j : Nat} (hi : i < 24) (hj : j < 24) : mm freeM i j = if i = j then 0 else NB := by
  unfold mm freeM
  rw [vat_ofFn (by omega)]
  dsimp only
  rw [show (i * 24 + j) / 24 = i by omega, show (i * 24 + j) % 24 = j by omega]
theorem free_cl : Cl 24 freeM 0 := by
  have hnb := hNB
  refine ⟨by omega, fun i hi => by rw [mm_free hi hi, if_pos rfl], fun i j k hi hj hk a b => ?_, fun i j hi hj => ?_⟩
  · rw [mm_free hi hj] at a ⊢
    rw [mm_free hj hk] at b ⊢
    rw [mm_free hi hk]
    split at a
    · rename_i e
      subst e
      rw [if_pos rfl]; omega
    · exact (a rfl).elim
  · rw [mm_free hi hj]
    split
    · exact .inr (by omega)
    · exact .inl rfl
theorem free_sol (x : Nat → Int) : Sol 24 freeM x := by
  intro i j hi hj a
  rw [mm_free hi hj] at a ⊢
  split at a
  · rename_i e
    subst e
    rw [if_pos rfl]; omega
  · exact (a rfl).elim
/-- One constraint more. -/
theorem Cl.add {m : Vector Int 576} {B : Int} {f t w : Int} (h : Cl 24 m B) (hB : 0 ≤ B ∧ B ≤ 36028797018963968) (hf : 0 ≤ f ∧ f < 24) (ht : 0 ≤ t ∧ t < 24) (hw : -36028797018963968 ≤ w ∧ w ≤ 36028797018963968) :
    ((addM m f t w).1 = true → Cl 24 (addM m f t w).2 144115188075855872 ∧ ∀ x, Sol 24 (addM m f t w).2 x ↔ Sol 24 m x ∧ x t.toNat - x f.toNat ≤ w) ∧
    (¬ (addM m f t w).1 = true → ∀ x, ¬ (Sol 24 m x ∧ x t.toNat - x f.toNat ≤ w)) ∧
    ((addM m f t w).1 = true ↔ mm m t.toNat f.toNat = NB ∨ 0 ≤ w + mm m t.toNat f.toNat) := by
  obtain ⟨f, rfl⟩ : ∃ k : Nat, f = k := ⟨f.toNat, by omega⟩
  obtain ⟨t, rfl⟩ : ∃ k : Nat, t = k := ⟨t.toNat, by omega⟩
  simp only [Int.toNat_natCast]
  refine ⟨fun hs => ?_, fun hs => ?_, fun hs => ?_, fun hs => ?_⟩
  · have r := h.rel (by omega) (by omega) (by omega) (by omega) hs
    have p := h.ok_pos (by omega) (by omega) (by omega) (by omega) hs
    exact ⟨(h.step (by omega) (by omega) (by omega) (by omega) r p).mono (by omega), fun x => r.sol h (by omega) (by omega) (by omega) (by omega) x⟩
  · intro x ⟨hx, hx2⟩
    obtain ⟨b1, b2⟩ := h.bad (by omega) (by omega) (by omega) hs
    have := hx t f (by omega) (by omega) b1
    omega
  · exact h.ok_pos (by omega) (by omega) (by omega) (by omega) hs
  · apply Classical.byContradiction
    intro hn
    obtain ⟨b1, b2⟩ := h.bad (by omega) (by omega) (by omega) hn
    omega
theorem SolL_append {a b : List Con} {x : Nat → Int} : SolL (a ++ b) x ↔ SolL a x ∧ SolL b x := by
  unfold SolL
  simp only [List.mem_append]
  exact ⟨fun h => ⟨fun c hc => h c (.inl hc), fun c hc => h c (.inr hc)⟩, fun h c hc => hc.elim (h.1 c) (h.2 c)⟩
theorem SolL_one {c : Con} {x : Nat → Int} : SolL [c] x ↔ x c.t.toNat - x c.f.toNat ≤ c.m := by unfold SolL; simp
theorem Good.append {n : Nat} {a b : List Con} (ha : Good n a) (hb : Good n b) : Good n (a ++ b) := fun c hc => (List.mem_append.mp hc).elim (ha c) (hb c)
structure CM (m : Vector Int 576) (l : List Con) : Prop where
  cl : Cl 24 m B0
  sol : ∀ x, Sol 24 m x ↔ SolL l x
theorem CM.free : CM freeM [] := ⟨free_cl.mono (by rw [hB0]; omega), fun x => ⟨fun _ _ h => (by cases h), fun _ => free_sol x⟩⟩
theorem CM.addOk {m : Vector Int 576} {p : List Con} {c : Con} (h : CM m p) (hc : Good 24 [c]) : AddOk m c.f c.t c.m := by
  have := hB0
  obtain ⟨c1, c2, c3⟩ := hc c (by simp)
  exact h.cl.addOk (by omega) c1 c2 (by omega)
theorem CM.step {m : Vector Int 576} {p : List Con} {c : Con} (h : CM m p) (hp : Good 24 p) (hc : Good 24 [c]) (hs : (addM m c.f c.t c.m).1 = true) : CM (addM m c.f c.t c.m).2 (p ++ [c]) := by
  have := hB0
  obtain ⟨c1, c2, c3⟩ := hc c (by simp)
  obtain ⟨a, -, -⟩ := h.cl.add (f := c.f) (t := c.t) (w := c.m) (by omega) c1 c2 (by omega)
  obtain ⟨a1, a2⟩ := a hs
  have hsol : ∀ x, Sol 24 (addM m c.f c.t c.m).2 x ↔ SolL (p ++ [c]) x := fun x => by rw [a2, h.sol, SolL_append, SolL_one]
  exact ⟨a1.small (by omega) (hp.append hc) hsol, hsol⟩
theorem CM.stop {m : Vector Int 576} {p : List Con} {c : Con} (h : CM m p) (hc : Good 24 [c]) (hs : ¬ (addM m c.f c.t c.m).1 = true) (x : Nat → Int) : ¬ SolL (p ++ [c]) x := by
  have := hB0
  obtain ⟨c1, c2, c3⟩ := hc c (by simp)
  obtain ⟨-, a, -⟩ := h.cl.add (f := c.f) (t := c.t) (w := c.m) (by omega) c1 c2 (by omega)
  have := a hs x
  rwa [h.sol, ← SolL_one, ← SolL_append] at this
theorem addAll_spec {l : List Con} : ∀ {m : Vector Int 576} {p : List Con}, CM m p → Good 24 p → Good 24 l → (∀ m', addAll m l = some m' → CM m' (p ++ l)) ∧ (addAll m l = none → ∀ x, ¬ SolL (p ++ l) x) := by
  induction l with
  | nil =>
    intro m p h _ _
    refine ⟨fun m' e => ?_, fun e => by cases e⟩
    cases e; simpa using h
  | cons c l ih =>
    intro m p h hp hl
    have hc : Good 24 [c] := fun c' h' => hl c' (by simp at h'; simp [h'])
    have hl' : Good 24 l := fun c' h' => hl c' (by simp [h'])
    by_cases hs : (addM m c.f c.t c.m).1 = true
    · have := ih (h.step hp hc hs) (hp.append hc) hl'
      have e : addAll m (c :: l) = addAll (addM m c.f c.t c.m).2 l := by show (if _ then _ else _) = _; rw [if_pos hs]
      rw [e]
      simpa using this
    · have e : addAll m (c :: l) = none := by show (if _ then _ else _) = _; rw [if_neg hs]
      rw [e]
      refine ⟨fun m' e => (by cases e), fun _ x hx => h.stop hc hs x ?_⟩
      rw [show p ++ c :: l = (p ++ [c]) ++ l by simp, SolL_append] at hx
      exact hx.1
theorem close_spec {l : List Con} (hl : Good 24 l) : (∀ m, addAll freeM l = some m → CM m l) ∧ (addAll freeM l = none → ∀ x, ¬ SolL l x) := by
  simpa using addAll_spec (l := l) CM.free (fun _ h => by cases h) hl
theorem validM_good {n : Int} {l : List Con} (h : validM n l = true) : Good 24 l := fun c hc => by
  obtain ⟨⟨a, b, -⟩, hp⟩ := validM_iff.mp h
  have := possM_iff.mp (hp c hc); omega
theorem validM_goodn {n : Int} {l : List Con} (h : validM n l = true) : Good n.toNat l := fun c hc => by
  obtain ⟨⟨a, b, -⟩, hp⟩ := validM_iff.mp h
  have := possM_iff.mp (hp c hc); omega
/-! ### Bounds of a matrix, and the matrix of bounds -/
theorem bounds_len {m : Vector Int 576} {n : Int} : (boundsM m n).most.length = n.toNat := by unfold boundsM; simp
theorem bounds_row {m : Vector Int 576} {n : Int} (hn : n ≤ 24) {i : Nat} (hi : i < n.toNat) : ((boundsM m n).most.getD i []).length = n.toNat := by
  unfold boundsM
  simp only [List.getD_eq_getElem?_getD, List.getElem?_map, List.getElem?_range hi]
  simp; omega
theorem bm_bounds {m : Vector Int 576} {n : Int} {i j : Nat} (hi : i < n.toNat) (hj : j < n.toNat) : bm (boundsM m n) i j = mm m i j := by
  have hl : m.toList.length = 576 := by simp
  unfold boundsM bm mm vat
  simp only [List.getD_eq_getElem?_getD, List.getElem?_map, List.getElem?_range hi]
  simp only [Option.map_some, Option.getD_some]
  rw [List.getElem?_take_of_lt hj, List.getElem?_drop]
theorem Cl.vb {m : Vector Int 576} {B : Int} (h : Cl 24 m B) (hB : B ≤ 36028797018963968) {n : Int} (hn : 1 ≤ n ∧ n ≤ 24) : VB (boundsM m n) := by
  have hnb := hNB
  have e : (boundsM m n).n = n := rfl
  have E := fun {i j : Nat} => bm_bounds (m := m) (n := n) (i := i) (j := j)
  refine ⟨by rw [e, bounds_len]; omega, fun i hi => ?_, fun i hi => ?_, fun i j hi hj => ?_, fun i j k hi hj hk => ?_⟩ <;> rw [bounds_len] at *
  · exact bounds_row hn.2 hi
  · rw [E hi hi]; exact h.diag i (by omega)
  · rw [E hi hj]; have := h.bd i j (by omega) (by omega); omega
  · rw [E hi hj, E hj hk, E hi hk]
    by_cases e1 : mm m i j = NB
    · exact .inl e1
    · refine .inr ?_
      by_cases e2 : mm m j k = NB
      · rw [plusM_inf (.inr e2)]
        have := h.bd i k (by omega) (by omega); omega
      · rw [plusM_nb e1 e2]; exact h.tri i j k (by omega) (by omega) (by omega) e1 e2
theorem of_at {b : Bd} (v : VB b) {i j : Nat} (hi : i < 24) (hj : j < 24) : mm (ofM b) i j = if i < b.n.toNat ∧ j < b.n.toNat then bm b i j else if i = j then 0 else NB := by
  have hn := v.n
  have K : ∀ k : Nat, k ≤ b.most.length → mm ((List.range k).foldl (fun m i => vput m (i * 24) ((b.most.getD i []).take 24)) freeM) i j = if i < k ∧ j < b.n.toNat then bm b i j else if i = j then 0 else NB := by
    intro k
    induction k with
    | zero => intro _; rw [if_neg (by omega)]; exact mm_free hi hj
    | succ k ih =>
      intro hk
      have ih := ih (by omega)
      rw [List.range_succ, List.foldl_append]
      simp only [List.foldl_cons, List.foldl_nil]
      generalize (List.range k).foldl (fun m i => vput m (i * 24) ((b.most.getD i []).take 24)) freeM = m at ih
      have hr := v.row k (by omega)
      have hl : ((b.most.getD k []).take 24).length = b.most.length := by rw [List.length_take, hr]; omega
      unfold mm at ih ⊢
      rw [vat_vput (by omega), hl]
      by_cases h1 : i = k
      · subst h1
        by_cases h2 : j < b.n.toNat
        · rw [if_pos (by omega), if_pos (by omega)]
          unfold bm
          rw [show i * 24 + j - i * 24 = j by omega, List.take_of_length_le (by omega)]
        · rw [if_neg (by omega), ih]
          have e1 : ¬ (i < i ∧ j < b.n.toNat) := by omega
          have e2 : ¬ (i < i + 1 ∧ j < b.n.toNat) := by omega
          rw [if_neg e1, if_neg e2]
      · rw [if_neg (by omega), ih]
        have e1 : (i < k ∧ j < b.n.toNat) ↔ (i < k + 1 ∧ j < b.n.toNat) := by omega
        simp only [e1]
  have := K b.most.length (by omega)
  unfold ofM
  rw [this]
  have e1 : (i < b.most.length ∧ j < b.n.toNat) ↔ (i < b.n.toNat ∧ j < b.n.toNat) := by omega
  simp only [e1]
theorem VB.cl {b : Bd} (v : VB b) : Cl 24 (ofM b) 36028797018963968 := by
  have hnb := hNB
  have hn := v.n
  refine ⟨by omega, fun i hi => ?_, fun i j k hi hj hk a c => ?_, fun i j hi hj => ?_⟩
  · rw [of_at v hi hi]
    split
    · exact v.diag i (by omega)
    · rw [if_pos rfl]
  · rw [of_at v hi hj] at a ⊢
    rw [of_at v hj hk] at c ⊢
    rw [of_at v hi hk]
    by_cases h1 : i < b.n.toNat ∧ j < b.n.toNat
    · rw [if_pos h1] at a ⊢
      by_cases h2 : k < b.n.toNat
      · rw [if_pos (by omega)] at c ⊢
        rw [if_pos (by omega)]
        have := (v.tri i j k (by omega) (by omega) (by omega)).resolve_left a
        rwa [plusM_nb a c] at this
      · rw [if_neg (by omega), if_neg (by omega)] at c
        exact (c rfl).elim
    · rw [if_neg h1] at a ⊢
      split at a
      · rename_i e
        subst e
        rw [if_pos rfl]; omega
      · exact (a rfl).elim
  · rw [of_at v hi hj]
    split
    · have := v.ok i j (by omega) (by omega); omega
    · split
      · exact .inr (by omega)
      · exact .inl rfl
end Go.Lat
namespace Go.Lat
theorem addAll_cons {m : Vector Int 576} {c : Con} {l : List Con} : addAll m (c :: l) = if (addM m c.f c.t c.m).1 = true then addAll (addM m c.f c.t c.m).2 l else none := rfl
theorem close_inv {n : Int} {l : List Con} (h : ¬ validM n l = true) : closeM n l = (⟨0, []⟩, [], 2) := by unfold closeM; rw [if_neg h]
theorem close_none {n : Int} {l : List Con} (h : validM n l = true) (e : addAll freeM l = none) : closeM n l = (⟨0, []⟩, firstM n l, 70) := by unfold closeM; rw [if_pos h, e]
theorem close_some {n : Int} {l : List Con} {m : Vector Int 576} (h : validM n l = true) (e : addAll freeM l = some m) : closeM n l = (boundsM m n, [], 0) := by unfold closeM; rw [if_pos h, e]
theorem boundsOk {m : Vector Int 576} {n : Int} (hn : n ≤ 24) : ((boundsM m n).most.all fun r => r.all okX) = true ↔ ∀ i j, i < n.toNat → j < n.toNat → okX (mm m i j) = true := by
  rw [List.all_eq_true]
  constructor
  · intro h i j hi hj
    have hi' : i < (boundsM m n).most.length := by rw [bounds_len]; exact hi
    have h1 := h (boundsM m n).most[i] (List.getElem_mem hi')
    have h2 := bounds_row (m := m) hn hi
    have h3 : (boundsM m n).most[i] = (boundsM m n).most.getD i [] := by simp [hi']
    rw [h3, all_getD] at h1
    have h4 := h1 j (by rw [h2]; exact hj)
    have h5 := bm_bounds (m := m) (n := n) hi hj
    unfold bm at h5
    rwa [h5] at h4
  · intro h r hr
    obtain ⟨i, hi, rfl⟩ := List.getElem_of_mem hr
    rw [bounds_len] at hi
    have h2 := bounds_row (m := m) hn hi
    have h3 : (boundsM m n).most[i] = (boundsM m n).most.getD i [] := by simp [bounds_len, hi]
    rw [h3, all_getD]
    intro j hj
    rw [h2] at hj
    have h5 := bm_bounds (m := m) (n := n) hi hj
    unfold bm at h5
    rw [h5]
    exact h i j hi hj
theorem addB_inv {b : Bd} {c : Con} (h : ¬ (validBM b = true ∧ possM b.n c = true)) : addBM b c = (⟨0, []⟩, false, 2) := by unfold addBM; rw [if_neg h]
theorem addB_no {b : Bd} {c : Con} (h : validBM b = true ∧ possM b.n c = true) (h2 : ¬ (addM (ofM b) c.f c.t c.m).1 = true) : addBM b c = (⟨0, []⟩, false, 0) := by unfold addBM; rw [if_pos h, if_neg h2]
theorem addB_big {b : Bd} {c : Con} (h : validBM b = true ∧ possM b.n c = true) (h2 : (addM (ofM b) c.f c.t c.m).1 = true) (h3 : ¬ ((boundsM (addM (ofM b) c.f c.t c.m).2 b.n).most.all fun r => r.all okX) = true) : addBM b c = (⟨0, []⟩, false, 2) := by
  unfold addBM; rw [if_pos h, if_pos h2]; simp only []; rw [if_neg h3]
theorem addB_ok {b : Bd} {c : Con} (h : validBM b = true ∧ possM b.n c = true) (h2 : (addM (ofM b) c.f c.t c.m).1 = true) (h3 : ((boundsM (addM (ofM b) c.f c.t c.m).2 b.n).most.all fun r => r.all okX) = true) : addBM b c = (boundsM (addM (ofM b) c.f c.t c.m).2 b.n, true, 0) := by
  unfold addBM; rw [if_pos h, if_pos h2]; simp only []; rw [if_pos h3]
theorem range_pos {b : Bd} {f t : Nat} (h : validBM b = true) (hf : f < b.n) (ht : t < b.n) : rangeM b f t = (-bm b t f, bm b f t, 0) := by unfold rangeM; rw [if_pos ⟨h, by omega, by omega⟩]; rfl
theorem range_neg {b : Bd} {f t : Int} (h : ¬ (validBM b = true ∧ 0 ≤ min f t ∧ max f t < b.n)) : rangeM b f t = (0, 0, 2) := by unfold rangeM; rw [if_neg h]
theorem range_ok {b : Bd} {f t : Int} (h : (rangeM b f t).2.2 = 0) : validBM b = true ∧ (0 ≤ f ∧ f < b.n) ∧ (0 ≤ t ∧ t < b.n) := by
  by_cases e : validBM b = true ∧ 0 ≤ min f t ∧ max f t < b.n
  · exact ⟨e.1, by omega, by omega⟩
  · rw [range_neg e] at h; cases h
def ptM (b : Bd) (f t v : Int) : Vector Int 576 := if f = t then ofM b else (addM (addM (ofM b) f t v).2 t f (-v)).2
theorem point_pos {b : Bd} {f t v : Int} (h : (rangeM b f t).2.2 = 0 ∧ max (rangeM b f t).1 (-36028797018963968) ≤ v ∧ v ≤ min (rangeM b f t).2.1 36028797018963968) : pointM b f t v = (pointV (ptM b f t v) f.toNat b.n.toNat, 0) := by
  unfold pointM; simp only []; rw [if_pos h]; rfl
theorem point_neg {b : Bd} {f t v : Int} (h : ¬ ((rangeM b f t).2.2 = 0 ∧ max (rangeM b f t).1 (-36028797018963968) ≤ v ∧ v ≤ min (rangeM b f t).2.1 36028797018963968)) : pointM b f t v = ([], 2) := by
  unfold pointM; simp only []; rw [if_neg h]
theorem lat_map {n : Nat} {g : Nat → Int} {i : Nat} (h : i < n) : lat ((List.range n).map g) i = g i := by rw [lat_nat]; simp [List.getD_eq_getElem?_getD, List.getElem?_map, List.getElem?_range h]
theorem map_set {n : Nat} {g : Nat → Int} {i : Nat} {v : Int} : ((List.range n).map g).set i v = (List.range n).map fun k => if k = i then v else g k := by
  apply List.ext_getElem?
  intro k
  rw [List.getElem?_set]
  rcases Nat.lt_or_ge k n with h | h
  · simp only [List.getElem?_map, List.getElem?_range h, List.length_map, List.length_range, Option.map_some]
    by_cases e : i = k
    · subst e; simp [h]
    · have : ¬ k = i := fun x => e x.symm
      simp [e, this]
  · rw [List.getElem?_eq_none (by simp; omega), List.getElem?_eq_none (by simp; omega)]
    split
    · split
      · rename_i h1 h2; simp at h2; omega
      · rfl
    · rfl
theorem row_map {m : Vector Int 576} {f n : Nat} (hf : f < 24) (hn : n ≤ 24) : (m.toList.drop (f * 24)).take n = (List.range n).map (mm m f) := by
  have hl : m.toList.length = 576 := by simp
  apply List.ext_getElem?
  intro k
  rcases Nat.lt_or_ge k n with h | h
  · rw [List.getElem?_take_of_lt h, List.getElem?_drop, List.getElem?_map, List.getElem?_range h]
    have hk : f * 24 + k < m.toList.length := by omega
    unfold mm vat
    rw [List.getElem?_eq_getElem hk]
    simp only [Option.map_some, List.getD_eq_getElem?_getD, List.getElem?_eq_getElem hk, Option.getD_some]
  · rw [List.getElem?_eq_none (by simp; omega), List.getElem?_eq_none (by simp; omega)]
theorem Cl.res {m : Vector Int 576} {B : Int} {n : Nat} (h : Cl 24 m B) (hn : n ≤ 24) : Cl n m B :=
  ⟨hn, fun i hi => h.diag i (by omega), fun i j k hi hj hk => h.tri i j k (by omega) (by omega) (by omega), fun i j hi hj => h.bd i j (by omega) (by omega)⟩
structure Two (m m2 : Vector Int 576) (f t : Nat) (v : Int) : Prop where
  cl : Cl 24 m2 108086391056891904
  sol : ∀ x, Sol 24 m2 x ↔ Sol 24 m x ∧ x t - x f = v
theorem Cl.two {m : Vector Int 576} {f t : Nat} {v : Int} (h : Cl 24 m 36028797018963968) (hf : f < 24) (ht : t < 24) (hw : -36028797018963968 ≤ v ∧ v ≤ 36028797018963968)
    (h1 : mm m t f = NB ∨ -mm m t f ≤ v) (h2 : v ≤ mm m f t) :
    AddOk m f t v ∧ AddOk (addM m f t v).2 t f (-v) ∧ Two m (addM (addM m f t v).2 t f (-v)).2 f t v := by
  have hnb := hNB
  obtain ⟨a1, -, a3⟩ := h.add (f := f) (t := t) (w := v) (by omega) (by omega) (by omega) hw
  simp only [Int.toNat_natCast] at a1 a3
  have ok1 : (addM m f t v).1 = true := a3.mpr (by omega)
  obtain ⟨c1, s1⟩ := a1 ok1
  have r1 := h.rel (f := f) (t := t) (w := v) (by omega) (by omega) (by omega) (by omega) ok1
  refine ⟨h.addOk (by omega) (by omega) (by omega) (by omega), c1.addOk (by omega) (by omega) (by omega) (by omega), ?_⟩
  generalize (addM m f t v).2 = m1 at c1 s1 r1
  have dF := h.diag f hf
  have dT := h.diag t ht
  have ok2 : (addM m1 t f (-v)).1 = true := by
    apply Classical.byContradiction
    intro hn
    obtain ⟨b1, b2⟩ := c1.bad (f := t) (t := f) (by omega) (by omega) (by omega) hn
    rcases r1.one f t hf ht with e | ⟨-, -, e⟩ <;> omega
  have r2 := c1.rel (f := t) (t := f) (w := -v) (by omega) (by omega) (by omega) (by omega) ok2
  have p2 := c1.ok_pos (f := t) (t := f) (w := -v) (by omega) (by omega) (by omega) (by omega) ok2
  generalize (addM m1 t f (-v)).2 = m2 at r2
  have c2 := c1.step (by omega) (by omega) (by omega) (by omega) r2 p2
  refine ⟨⟨c2.n24, c2.diag, c2.tri, fun i j hi hj => ?_⟩, fun x => ?_⟩
  · have b0 := h.bd i j hi hj
    have b1 := h.bd i f hi hf
    have b2 := h.bd i t hi ht
    have b3 := h.bd f j hf hj
    have b4 := h.bd t j ht hj
    rcases r2.one i j hi hj with e | ⟨q1, q2, e⟩
    · rcases r1.one i j hi hj with e' | ⟨q1, q2, e'⟩ <;> omega
    · rcases r1.one i t hi ht with e1 | ⟨q3, q4, e1⟩ <;> rcases r1.one f j hf hj with e2 | ⟨q5, q6, e2⟩ <;> omega
  · rw [r2.sol c1 (by omega) (by omega) (by omega) (by omega), s1]
    constructor
    · rintro ⟨⟨q1, q2⟩, q3⟩; exact ⟨q1, by omega⟩
    · rintro ⟨q1, q2⟩; exact ⟨⟨q1, by omega⟩, by omega⟩
/-- What Point returns. -/
theorem ptM_spec {b : Bd} {f t : Nat} {v : Int} (hv : validBM b = true) (hf : (f : Int) < b.n) (ht : (t : Int) < b.n)
    (hr : max (-bm b t f) (-36028797018963968) ≤ v ∧ v ≤ min (bm b f t) 36028797018963968) :
    (¬ f = t → AddOk (ofM b) f t v ∧ AddOk (addM (ofM b) f t v).2 t f (-v)) ∧ Two (ofM b) (ptM b f t v) f t v := by
  have vb := validBM_iff.mp hv
  have hn := vb.n
  have cl := vb.cl
  have r1 := of_at vb (i := t) (j := f) (by omega) (by omega)
  have r2 := of_at vb (i := f) (j := t) (by omega) (by omega)
  rw [if_pos (by omega)] at r1 r2
  obtain ⟨w1, w2, w3⟩ := cl.two (f := f) (t := t) (v := v) (by omega) (by omega) (by omega) (by omega) (by omega)
  refine ⟨fun _ => ⟨w1, w2⟩, ?_⟩
  unfold ptM
  by_cases e : f = t
  · subst e
    rw [if_pos rfl]
    have d := cl.diag f (by omega)
    refine ⟨cl.mono (by omega), fun x => ?_⟩
    constructor
    · intro hx; exact ⟨hx, by omega⟩
    · exact fun hx => hx.1
  · rw [if_neg (by omega)]; exact w3
theorem bat_lt {n : Nat} {M : Vector Bool n} {k : Nat} (h : k < n) : bat M k = M[k] := by simp [bat, h]
theorem bat_bset {n : Nat} {M : Vector Bool n} {k j : Nat} {v : Bool} (h : k < n) : bat (bset M k v) j = if j = k then v else bat M j := by
  unfold bset
  rcases Nat.lt_or_ge j n with hj | hj
  · rw [bat_lt hj, bat_lt hj, Vector.getElem_setIfInBounds hj]
    by_cases e : k = j
    · subst e; simp
    · have : ¬ j = k := fun x => e x.symm
      simp [e, this]
  · rw [if_neg (by omega)]
    unfold bat
    have l1 : (M.setIfInBounds k v).toList.length = n := by simp
    have l2 : M.toList.length = n := by simp
    rw [List.getD_eq_getElem?_getD, List.getD_eq_getElem?_getD, List.getElem?_eq_none (by omega), List.getElem?_eq_none (by omega)]
end Go.Lat
namespace Go.Lat
theorem tmod_bd {a n : Int} (ha : 0 ≤ a) (hn : 0 < n) : 0 ≤ a.tmod n ∧ a.tmod n < n := ⟨Int.tmod_nonneg _ ha, Int.tmod_lt_of_pos _ hn⟩
theorem tmod_wrap {a n : Int} (ha : 0 ≤ a) (h2 : a < 2 * n) : a.tmod n = if a < n then a else a - n := by
  split
  · rename_i h; exact Int.tmod_eq_of_lt ha h
  · rename_i h
    have h1 : a.tmod n = a % n := Int.tmod_eq_emod_of_nonneg ha
    rw [h1, show a = (a - n) + n by omega, Int.add_emod_right, Int.emod_eq_of_lt (by omega) (by omega)]
    omega
theorem two_pow_lt {q : Nat} (h : q < 6) : (0 : Int) ≤ 2 ^ q ∧ (2 : Int) ^ q ≤ 32 := by
  match q, h with
  | 0, _ => decide
  | 1, _ => decide
  | 2, _ => decide
  | 3, _ => decide
  | 4, _ => decide
  | 5, _ => decide
theorem made_len {n : Int} {x : List A3} : (madeM n x).length ≤ 30 := by
  unfold madeM
  split
  · simp; omega
  · simp
theorem made_poss {n : Int} {x : List A3} : ∀ c ∈ madeM n x, (possM n c = true) ∧ -6 ≤ c.m ∧ c.m ≤ 13 := by
  intro c hc
  unfold madeM at hc
  split at hc
  · rename_i h1
    rw [List.mem_map] at hc
    obtain ⟨y, -, rfl⟩ := hc
    have p1 := pickM_nonneg (c := y.x0) (n := n) (by omega)
    have p2 := pickM_nonneg (c := y.x1) (n := n - 1) (by omega)
    have p3 := pickM_nonneg (c := y.x2) (n := 20) (by omega)
    have p4 := pickM_nonneg (c := y.x1.tdiv 30) (n := 6) (by omega)
    have p5 := two_pow_lt (q := (pickM (y.x1.tdiv 30) 6).toNat) (by omega)
    have p6 := tmod_wrap (a := pickM y.x0 n + 1 + pickM y.x1 (n - 1)) (n := n) (by omega) (by omega)
    refine ⟨possM_iff.mpr ⟨p1.1, p1.2, ?_⟩, by dsimp only; omega, by dsimp only; omega⟩
    dsimp only
    rw [p6]
    split <;> omega
  · cases hc
theorem made_valid {n : Int} {x : List A3} (hn : 1 ≤ n ∧ n ≤ 24) : validM n (madeM n x) = true :=
  validM_iff.mpr ⟨⟨hn.1, hn.2, by have := made_len (n := n) (x := x); omega⟩, fun c hc => (made_poss c hc).1⟩
theorem close_cases {n : Int} {l : List Con} (h : validM n l = true) : (∃ m, CM m l ∧ closeM n l = (boundsM m n, [], 0)) ∨ ((∀ x, ¬ SolL l x) ∧ closeM n l = (⟨0, []⟩, firstM n l, 70)) := by
  obtain ⟨h1, h2⟩ := close_spec (validM_good h)
  rcases e : addAll freeM l with _ | m
  · exact .inr ⟨h2 e, close_none h e⟩
  · exact .inl ⟨m, h1 m e, close_some h e⟩
theorem CM.sol_ex {m : Vector Int 576} {l : List Con} (h : CM m l) : ∃ x, SolL l x := by
  have := hB0
  obtain ⟨-, -, s⟩ := h.cl.pt (f := 0) (by omega) (by omega)
  exact ⟨_, (h.sol _).mp s⟩
theorem SolL_congr {a b : List Con} (h : ∀ c, c ∈ a ↔ c ∈ b) (x : Nat → Int) : SolL a x ↔ SolL b x :=
  ⟨fun s c hc => s c ((h c).mpr hc), fun s c hc => s c ((h c).mp hc)⟩
theorem CM.le {m : Vector Int 576} {l : List Con} (h : CM m l) (hg : Good 24 l) {c : Con} (hc : c ∈ l) : mm m c.f.toNat c.t.toNat ≤ c.m := by
  have := hB0
  have hnb := hNB
  obtain ⟨c1, c2, c3⟩ := hg c hc
  obtain ⟨p1, p2, s⟩ := h.cl.pt (f := c.f.toNat) (by omega) (by omega)
  have s := (h.sol _).mp s c hc
  have d := h.cl.diag c.f.toNat (by omega)
  rw [p1 c.f.toNat (by omega) (by omega), d] at s
  by_cases e : mm m c.f.toNat c.t.toNat = NB
  · have := p2 c.t.toNat (by omega) e
    omega
  · rw [p1 _ (by omega) e] at s; omega
theorem CM.congr {m m' : Vector Int 576} {l l' : List Con} (h : CM m l) (h' : CM m' l') (hs : ∀ x, SolL l x ↔ SolL l' x) {i j : Nat} (hi : i < 24) (hj : j < 24) : mm m i j = mm m' i j := by
  have := hB0
  exact h.cl.eq_of_sol h'.cl (by omega) (fun x => by rw [h.sol, h'.sol, hs]) hi hj
theorem bounds_congr {m m' : Vector Int 576} {n : Int} (hn : n ≤ 24) (h : ∀ i j, i < n.toNat → j < n.toNat → mm m i j = mm m' i j) : boundsM m n = boundsM m' n := by
  unfold boundsM
  congr 1
  refine List.map_congr_left fun i hi => ?_
  rw [List.mem_range] at hi
  rw [row_map (by omega) (by omega), row_map (by omega) (by omega)]
  refine List.map_congr_left fun j hj => ?_
  rw [List.mem_range] at hj
  exact h i j hi hj
theorem CM.vb {m : Vector Int 576} {l : List Con} (h : CM m l) {n : Int} (hn : 1 ≤ n ∧ n ≤ 24) : VB (boundsM m n) := h.cl.vb (by have := hB0; omega) hn
theorem of_bounds_at {m : Vector Int 576} {B : Int} (h : Cl 24 m B) (hB : B ≤ 36028797018963968) {n : Int} (hn : 1 ≤ n ∧ n ≤ 24) {i j : Nat} (hi : i < 24) (hj : j < 24) :
    mm (ofM (boundsM m n)) i j = if i < n.toNat ∧ j < n.toNat then mm m i j else if i = j then 0 else NB := by
  rw [of_at (h.vb hB hn) hi hj]
  have e : (boundsM m n).n = n := rfl
  rw [e]
  split
  · rename_i h1; exact bm_bounds h1.1 h1.2
  · rfl
theorem CM.of_bounds {m : Vector Int 576} {l : List Con} (h : CM m l) {n : Int} (hn : 1 ≤ n ∧ n ≤ 24) (hg : Good n.toNat l) : CM (ofM (boundsM m n)) l := by
  have hb := hB0
  have hnb := hNB
  have hg24 : Good 24 l := fun c hc => by have := hg c hc; omega
  have E := fun {i j : Nat} => of_bounds_at (i := i) (j := j) h.cl (by omega) hn
  have hs : ∀ x, Sol 24 (ofM (boundsM m n)) x ↔ SolL l x := by
    intro x
    constructor
    · intro s c hc
      have c1 := hg c hc
      have c2 := h.le hg24 hc
      have := s c.f.toNat c.t.toNat (by omega) (by omega)
      rw [E (by omega) (by omega), if_pos (by omega)] at this
      have := this (by omega)
      omega
    · intro s i j hi hj
      rw [E hi hj]
      split
      · exact (h.sol x).mpr s i j hi hj
      · split
        · rename_i e; subst e; intro _; omega
        · exact fun e => (e rfl).elim
  exact ⟨(h.vb hn).cl.small (by omega) hg24 hs, hs⟩
/-- Add, at the bounds of constraints. -/
theorem CM.addB {m : Vector Int 576} {l : List Con} (h : CM m l) {n : Int} (hn : 1 ≤ n ∧ n ≤ 24) (hg : Good n.toNat l) {c : Con} (hc : possM n c = true) :
    (∃ m', CM m' (l ++ [c]) ∧ addBM (boundsM m n) c = (boundsM m' n, true, 0)) ∨ ((∀ x, ¬ SolL (l ++ [c]) x) ∧ addBM (boundsM m n) c = (⟨0, []⟩, false, 0)) := by
  have hb := hB0
  have h' := h.of_bounds hn hg
  have hg24 : Good 24 l := fun c hc => by have := hg c hc; omega
  have hc24 : Good 24 [c] := fun c' hc' => by
    rw [List.mem_singleton] at hc'; subst hc'
    have := possM_iff.mp hc; omega
  have hv : validBM (boundsM m n) = true ∧ possM (boundsM m n).n c = true := ⟨validBM_iff.mpr (h.vb hn), hc⟩
  by_cases hs : (addM (ofM (boundsM m n)) c.f c.t c.m).1 = true
  · have h2 := h'.step hg24 hc24 hs
    refine .inl ⟨_, h2, addB_ok hv hs ((boundsOk hn.2).mpr fun i j hi hj => okX_iff.mpr ?_)⟩
    have := h2.cl.bd i j (by omega) (by omega)
    omega
  · exact .inr ⟨h'.stop hc24 hs, addB_no hv hs⟩
theorem swap_mem {α : Type} [Inhabited α] {r : List α} {j k : Int} (hj : 0 ≤ j ∧ j < r.length) (hk : 0 ≤ k ∧ k < r.length) (c : α) : c ∈ (r.set j.toNat (lat r k)).set k.toNat (lat r j) ↔ c ∈ r := by
  constructor
  · intro h
    rcases List.mem_or_eq_of_mem_set h with h | h
    · rcases List.mem_or_eq_of_mem_set h with h | h
      · exact h
      · rw [h]; exact lat_mem hk
    · rw [h]; exact lat_mem hj
  · intro h
    obtain ⟨q, hq, rfl⟩ := List.getElem_of_mem h
    obtain ⟨j, rfl⟩ : ∃ i : Nat, j = i := ⟨j.toNat, by omega⟩
    obtain ⟨k, rfl⟩ : ∃ i : Nat, k = i := ⟨k.toNat, by omega⟩
    rw [lat_get (by omega), lat_get (by omega)]
    simp only [Int.toNat_natCast]
    rw [List.mem_iff_getElem?]
    by_cases e1 : q = j
    · refine ⟨k, ?_⟩
      rw [List.getElem?_set, if_pos rfl, if_pos (by rw [List.length_set]; omega)]
      subst e1; rfl
    · by_cases e2 : q = k
      · refine ⟨j, ?_⟩
        rw [List.getElem?_set]
        by_cases e3 : k = j
        · omega
        · rw [if_neg e3, List.getElem?_set, if_pos rfl, if_pos (by omega)]
          subst e2; rfl
      · refine ⟨q, ?_⟩
        rw [List.getElem?_set, if_neg (by omega), List.getElem?_set, if_neg (by omega), List.getElem?_eq_getElem hq]
theorem take_succ_lat {α : Type} [Inhabited α] {l : List α} {i : Nat} (h : i < l.length) : l.take (i + 1) = l.take i ++ [lat l (i : Int)] := by
  rw [lat_get h, List.take_add_one, List.getElem?_eq_getElem h]; rfl
theorem bounds_most_len {m : Vector Int 576} {n : Int} (hn : n ≤ 24) : (boundsM m n).most.length ≤ 1073741824 ∧ ∀ r ∈ (boundsM m n).most, r.length ≤ 1073741824 := by
  refine ⟨by rw [bounds_len]; omega, fun r hr => ?_⟩
  obtain ⟨i, hi, rfl⟩ := List.getElem_of_mem hr
  have hi' := hi
  rw [bounds_len] at hi
  have h2 := bounds_row (m := m) hn hi
  have h3 : (boundsM m n).most[i] = (boundsM m n).most.getD i [] := by simp [hi']
  rw [h3, h2]; omega
theorem sameM_self {b : Bd} : sameM b b = true := by unfold sameM; simp
end Go.Lat
namespace Go.Lat
theorem close_ok {n : Int} {l : List Con} (h : (closeM n l).2.2 = 0) : validM n l = true ∧ ∃ m, CM m l ∧ closeM n l = (boundsM m n, [], 0) := by
  by_cases hv : validM n l = true
  · refine ⟨hv, ?_⟩
    rcases close_cases hv with h1 | ⟨-, e⟩
    · exact h1
    · rw [e] at h; cases h
  · rw [close_inv hv] at h; cases h
theorem le_of_sub {m : Vector Int 576} {B : Int} {l : List Con} (h : Cl 24 m B) (hB : 0 ≤ B ∧ B ≤ 144115188075855872) (hs : ∀ x, Sol 24 m x → SolL l x) (hg : Good 24 l) {c : Con} (hc : c ∈ l) : mm m c.f.toNat c.t.toNat ≤ c.m := by
  have hnb := hNB
  obtain ⟨c1, c2, c3⟩ := hg c hc
  obtain ⟨p1, p2, s⟩ := h.pt hB (f := c.f.toNat) (by omega)
  have s := hs _ s c hc
  have d := h.diag c.f.toNat (by omega)
  rw [p1 c.f.toNat (by omega) (by omega), d] at s
  by_cases e : mm m c.f.toNat c.t.toNat = NB
  · have := p2 c.t.toNat (by omega) e
    omega
  · rw [p1 _ (by omega) e] at s; omega
theorem CM.range {m : Vector Int 576} {l : List Con} (h : CM m l) {n : Int} (hn : 1 ≤ n ∧ n ≤ 24) {f t : Nat} (hf : (f : Int) < n) (ht : (t : Int) < n) : rangeM (boundsM m n) f t = (-mm m t f, mm m f t, 0) := by
  rw [range_pos (validBM_iff.mpr (h.vb hn)) hf ht, bm_bounds (by omega) (by omega), bm_bounds (by omega) (by omega)]
theorem CM.low_high {m : Vector Int 576} {l : List Con} (h : CM m l) {f t : Nat} (hf : f < 24) (ht : t < 24) : -mm m t f ≤ mm m f t := by
  have hnb := hNB
  have hb := hB0
  have b1 := h.cl.bd t f ht hf
  have b2 := h.cl.bd f t hf ht
  by_cases e1 : mm m t f = NB
  · omega
  · by_cases e2 : mm m f t = NB
    · omega
    · have := h.cl.tri f t f hf ht hf e2 e1
      have := h.cl.diag f hf
      omega
structure PtSpec (m : Vector Int 576) (l : List Con) (n : Nat) (f t : Nat) (w : Int) (a : List Int) : Prop where
  len : a.length = n
  f : lat a f = 0
  t : lat a t = w
  bd : ∀ v ∈ a, -1152921504606846976 ≤ v ∧ v ≤ 1152921504606846976
  sol : ∀ c ∈ l, lat a c.t - lat a c.f ≤ c.m
theorem CM.point {m : Vector Int 576} {l : List Con} (h : CM m l) {n : Int} (hn : 1 ≤ n ∧ n ≤ 24) (hg : Good n.toNat l) {f t : Nat} {w : Int} (hf : (f : Int) < n) (ht : (t : Int) < n)
    (hw : max (-mm m t f) (-36028797018963968) ≤ w ∧ w ≤ min (mm m f t) 36028797018963968) : ∃ a, pointM (boundsM m n) f t w = (a, 0) ∧ PtSpec m l n.toNat f t w a := by
  have hnb := hNB
  have hb := hB0
  have hg24 : Good 24 l := fun c hc => by have := hg c hc; omega
  have hv : validBM (boundsM m n) = true := validBM_iff.mpr (h.vb hn)
  have e : (boundsM m n).n = n := rfl
  have hr := h.range hn hf ht
  have h' := h.of_bounds hn hg
  obtain ⟨-, T⟩ := ptM_spec (b := boundsM m n) (f := f) (t := t) (v := w) hv (by rw [e]; exact hf) (by rw [e]; exact ht) (by rw [bm_bounds (by omega) (by omega), bm_bounds (by omega) (by omega)]; exact hw)
  refine ⟨_, point_pos (by rw [hr]; exact ⟨rfl, hw⟩), ?_⟩
  rw [e, Int.toNat_natCast, pointV_eq]
  generalize ptM (boundsM m n) f t w = m2 at T
  have hsub : ∀ x, Sol 24 m2 x → SolL l x := fun x hx => (h'.sol x).mp ((T.sol x).mp hx).1
  have d := T.cl.diag f (by omega)
  have hmt : mm m2 f t = w := by
    obtain ⟨p1, p2, s⟩ := T.cl.pt (f := f) (by omega) (by omega)
    have s2 := ((T.sol _).mp s).2
    rw [p1 f (by omega) (by omega), d] at s2
    by_cases e1 : mm m2 f t = NB
    · have := p2 t (by omega) e1; omega
    · rw [p1 t (by omega) e1] at s2; omega
  obtain ⟨p1, p2, s⟩ := (T.cl.res (n := n.toNat) (by omega)).pt (f := f) (by omega) (by omega)
  have hat : ∀ k : Nat, k < n.toNat → lat ((List.range n.toNat).map (ptF m2 f n.toNat)) (k : Int) = ptF m2 f n.toNat k := fun k hk => lat_map hk
  refine ⟨by simp, by rw [hat f (by omega), p1 f (by omega) (by omega), d], by rw [hat t (by omega), p1 t (by omega) (by omega), hmt], fun v hv => ?_, fun c hc => ?_⟩
  · rw [List.mem_map] at hv
    obtain ⟨k, hk, rfl⟩ := hv
    rw [List.mem_range] at hk
    have hbd := T.cl.bd f k (by omega) (by omega)
    by_cases e1 : mm m2 f k = NB
    · have := p2 k hk e1; omega
    · rw [p1 k hk e1]; omega
  · obtain ⟨c1, c2, c3⟩ := hg c hc
    have h1 := le_of_sub T.cl (by omega) hsub hg24 hc
    have h2 := s c.f.toNat c.t.toNat (by omega) (by omega) (by omega)
    have a1 := hat c.f.toNat (by omega)
    have a2 := hat c.t.toNat (by omega)
    rw [show ((c.f.toNat : Nat) : Int) = c.f by omega] at a1
    rw [show ((c.t.toNat : Nat) : Int) = c.t by omega] at a2
    rw [a1, a2]; omega
theorem CM.point_out {m : Vector Int 576} {l : List Con} (h : CM m l) {n : Int} (hn : 1 ≤ n ∧ n ≤ 24) {f t : Nat} {w : Int} (hf : (f : Int) < n) (ht : (t : Int) < n)
    (hw : ¬ (max (-mm m t f) (-36028797018963968) ≤ w ∧ w ≤ min (mm m f t) 36028797018963968)) : pointM (boundsM m n) f t w = ([], 2) := by
  refine point_neg fun e => hw ?_
  rw [h.range hn hf ht] at e
  exact e.2
theorem PtSpec.holds {m : Vector Int 576} {l : List Con} {n : Int} {f t : Nat} {w : Int} {a : List Int} (h : PtSpec m l n.toNat f t w a) (hv : validM n l = true) (hn : 1 ≤ n) : holdsM l a = true :=
  holdsM_iff.mpr ⟨⟨by rw [h.len, show ((n.toNat : Nat) : Int) = n by omega]; exact hv, h.bd⟩, h.sol⟩
end Go.Lat
namespace Go.Lat
/-! ### Renumbering -/
def renC (n k : Int) (c : Con) : Con := ⟨(c.f + k).tmod n, (c.t + k).tmod n, c.m, c.a⟩
def sg (n k i : Nat) : Nat := if i + k < n then i + k else i + k - n
section
variable {n k : Nat}
theorem sg_lt (hk : k < n) {i : Nat} (hi : i < n) : sg n k i < n := by unfold sg; split <;> omega
theorem sg_inj (hk : k < n) {i j : Nat} (hi : i < n) (hj : j < n) (h : sg n k i = sg n k j) : i = j := by unfold sg at h; split at h <;> split at h <;> omega
def sgi (n k j : Nat) : Nat := if k ≤ j then j - k else j + n - k
theorem sgi_lt (hk : k < n) {j : Nat} (hj : j < n) : sgi n k j < n := by unfold sgi; split <;> omega
theorem sg_sgi (hk : k < n) {j : Nat} (hj : j < n) : sg n k (sgi n k j) = j := by unfold sg sgi; split <;> split <;> omega
theorem sgi_sg (hk : k < n) {i : Nat} (hi : i < n) : sgi n k (sg n k i) = i := by unfold sg sgi; split <;> split <;> omega
theorem sg_int (hk : k < n) {a : Int} (ha : 0 ≤ a ∧ a < n) : (a + k).tmod n = ((sg n k a.toNat : Nat) : Int) := by
  rw [tmod_wrap (by omega) (by omega)]
  unfold sg
  split <;> split <;> omega
theorem sg_int_lt (hk : k < n) {a : Int} (ha : 0 ≤ a ∧ a < n) : 0 ≤ (a + k).tmod n ∧ (a + k).tmod n < n := by
  rw [sg_int hk ha]; have := sg_lt hk (i := a.toNat) (by omega); omega
theorem sg_int_inj (hk : k < n) {a b : Int} (ha : 0 ≤ a ∧ a < n) (hb : 0 ≤ b ∧ b < n) : (a + k).tmod n = (b + k).tmod n ↔ a = b := by
  rw [sg_int hk ha, sg_int hk hb]
  constructor
  · intro h
    have := sg_inj hk (i := a.toNat) (j := b.toNat) (by omega) (by omega) (by omega)
    omega
  · intro h; rw [h]
theorem ren_poss (hk : k < n) {c : Con} (h : possM n c = true) : possM n (renC n k c) = true := by
  obtain ⟨a1, a2, a3, a4, a5, a6⟩ := possM_iff.mp h
  have b1 := sg_int_lt hk ⟨a1, a2⟩
  have b2 := sg_int_lt hk ⟨a3, a4⟩
  have b3 := sg_int_inj hk ⟨a1, a2⟩ ⟨a3, a4⟩
  exact possM_iff.mpr ⟨b1.1, b1.2, b2.1, b2.2, fun e => a5 (b3.mp e), a6⟩
theorem ren_valid (hk : k < n) {l : List Con} (h : validM n l = true) : validM n (l.map (renC n k)) = true := by
  obtain ⟨h1, h2⟩ := validM_iff.mp h
  refine validM_iff.mpr ⟨by rw [List.length_map]; exact h1, fun c hc => ?_⟩
  rw [List.mem_map] at hc
  obtain ⟨c', hc', rfl⟩ := hc
  exact ren_poss hk (h2 c' hc')
theorem ren_sol (hk : k < n) {l : List Con} (hg : Good n l) (x : Nat → Int) : SolL (l.map (renC n k)) x ↔ SolL l (fun i => x (sg n k i)) := by
  have e : ∀ c ∈ l, (renC n k c).f.toNat = sg n k c.f.toNat ∧ (renC n k c).t.toNat = sg n k c.t.toNat := fun c hc => by
    obtain ⟨c1, c2, -⟩ := hg c hc
    unfold renC
    dsimp only
    rw [sg_int hk c1, sg_int hk c2]
    omega
  constructor
  · intro h c hc
    have := h (renC n k c) (List.mem_map_of_mem hc)
    rw [(e c hc).1, (e c hc).2] at this
    exact this
  · intro h c hc
    rw [List.mem_map] at hc
    obtain ⟨c', hc', rfl⟩ := hc
    rw [(e c' hc').1, (e c' hc').2]
    exact h c' hc'
theorem SolL_local {l : List Con} (hg : Good n l) {x y : Nat → Int} (h : ∀ i, i < n → x i = y i) : SolL l x ↔ SolL l y := by
  have : ∀ c ∈ l, x c.t.toNat - x c.f.toNat = y c.t.toNat - y c.f.toNat := fun c hc => by
    obtain ⟨c1, c2, -⟩ := hg c hc
    rw [h _ (by omega), h _ (by omega)]
  exact ⟨fun s c hc => by rw [← this c hc]; exact s c hc, fun s c hc => by rw [this c hc]; exact s c hc⟩
theorem CM.entry_le {m m' : Vector Int 576} {l l' : List Con} (h : CM m l) (h' : CM m' l') {i j i' j' : Nat} (hi : i < 24) (hj : j < 24) (hi' : i' < 24) (hj' : j' < 24)
    (hx : ∀ x', SolL l' x' → ∃ x, SolL l x ∧ x i = x' i' ∧ x j = x' j') : mm m' i' j' ≤ mm m i j := by
  have hb := hB0
  have hnb := hNB
  obtain ⟨p1, p2, s⟩ := h'.cl.pt (f := i') (by omega) hi'
  obtain ⟨x, hs, e1, e2⟩ := hx _ ((h'.sol _).mp s)
  have b1 := h.cl.bd i j hi hj
  have b2 := h'.cl.bd i' j' hi' hj'
  have d := h'.cl.diag i' hi'
  by_cases e : mm m i j = NB
  · omega
  · have := (h.sol x).mpr hs i j hi hj e
    rw [e1, e2, p1 i' hi' (by omega), d] at this
    by_cases f : mm m' i' j' = NB
    · have := p2 j' hj' f; omega
    · rw [p1 j' hj' f] at this; omega
theorem ren_entry (hk : k < n) (hn : n ≤ 24) {m m' : Vector Int 576} {l : List Con} (hg : Good n l) (h : CM m l) (h' : CM m' (l.map (renC n k))) {i j : Nat} (hi : i < n) (hj : j < n) :
    mm m' (sg n k i) (sg n k j) = mm m i j := by
  have s1 := sg_lt hk hi
  have s2 := sg_lt hk hj
  refine Int.le_antisymm (h.entry_le h' (by omega) (by omega) (by omega) (by omega) fun x' hx => ⟨_, (ren_sol hk hg x').mp hx, rfl, rfl⟩) (h'.entry_le h (by omega) (by omega) (by omega) (by omega) fun x hx => ⟨fun q => x (sgi n k q), ?_, ?_, ?_⟩)
  · rw [ren_sol hk hg]
    exact (SolL_local hg fun i hi => by rw [sgi_sg hk hi]).mp hx
  · show x (sgi n k (sg n k i)) = x i; rw [sgi_sg hk hi]
  · show x (sgi n k (sg n k j)) = x j; rw [sgi_sg hk hj]
/-! The first cycle -/
def Rl (n k : Nat) (d d' : Vector Int 24) : Prop := ∀ e, e < n → vat d' (sg n k e) = vat d e
theorem rl_step (hk : k < n) (hn : n ≤ 24) {d d' o o' : Vector Int 24} {c : Con} (hc : (0 ≤ c.f ∧ c.f < n) ∧ (0 ≤ c.t ∧ c.t < n)) (hd : Rl n k d d') (ho : Rl n k o o') : Rl n k (relStep d o c) (relStep d' o' (renC n k c)) := by
  intro e he
  have e1 : (renC n k c).f.toNat = sg n k c.f.toNat := by unfold renC; dsimp only; rw [sg_int hk hc.1]; omega
  have e2 : (renC n k c).t.toNat = sg n k c.t.toNat := by unfold renC; dsimp only; rw [sg_int hk hc.2]; omega
  have s1 := sg_lt hk (i := c.f.toNat) (by omega)
  unfold relStep
  rw [e1, e2, vat_vset (by omega), vat_vset (by omega)]
  by_cases h : e = c.f.toNat
  · rw [if_pos (by rw [h]), if_pos h, ho _ (by omega), hd _ (by omega)]; rfl
  · rw [if_neg (fun x => h (sg_inj hk he (by omega) x)), if_neg h, ho e he]
theorem rl_fold (hk : k < n) (hn : n ≤ 24) {d d' : Vector Int 24} (hd : Rl n k d d') : ∀ (l : List Con), Good n l → ∀ o o', Rl n k o o' → Rl n k (l.foldl (relStep d) o) ((l.map (renC n k)).foldl (relStep d') o')
  | [], _, _, _, h => h
  | c :: l, hg, o, o', h => rl_fold hk hn hd l (fun c' h' => hg c' (by simp [h'])) _ _ (rl_step hk hn ⟨(hg c (by simp)).1, (hg c (by simp)).2.1⟩ hd h)
theorem rl_rep (hk : k < n) (hn : n ≤ 24) : Rl n k (Vector.replicate 24 NB) (Vector.replicate 24 NB) := fun e he => by
  have := sg_lt hk he
  rw [vat_rep (by omega), vat_rep (by omega)]
theorem rl_tab (hk : k < n) (hn : n ≤ 24) {l : List Con} (hg : Good n l) {v : Int} (hv : 0 ≤ v ∧ v < n) (above : Int) : ∀ r, Rl n k (tabD l v above r) (tabD (l.map (renC n k)) ((v + k).tmod n) above r)
  | 0 => fun e he => by
    show vat (vset _ _ _) _ = vat (vset _ _ _) _
    have s1 := sg_lt hk (i := v.toNat) (by omega)
    have s2 := sg_lt hk he
    rw [sg_int hk hv, Int.toNat_natCast, vat_vset (by omega), vat_vset (by omega), vat_rep (by omega), vat_rep (by omega)]
    by_cases h : e = v.toNat
    · rw [if_pos (by rw [h]), if_pos h]
    · rw [if_neg (fun x => h (sg_inj hk he (by omega) x)), if_neg h]
  | r + 1 => by
    show Rl n k (longerM _ _ _) (longerM _ _ _)
    rw [longerM_eq, longerM_eq, ← List.map_drop]
    exact rl_fold hk hn (rl_tab hk hn hg hv above r) _ (fun c hc => hg c (List.mem_of_mem_drop hc)) _ _ (rl_rep hk hn)
theorem find_congr {α : Type} {p q : α → Bool} : ∀ {l : List α}, (∀ x ∈ l, p x = q x) → l.find? p = l.find? q
  | [], _ => rfl
  | a :: l, h => by rw [List.find?_cons, List.find?_cons, h a (by simp), find_congr fun x hx => h x (by simp [hx])]
theorem sizeAt_ren (hk : k < n) (hn : n ≤ 24) {l : List Con} (hg : Good n l) {v : Nat} (hv : v < n) : sizeAt n (l.map (renC n k)) (sg n k v) = sizeAt n l v := by
  unfold sizeAt
  refine find_congr fun r _ => ?_
  have := rl_tab hk hn hg (v := (v : Int)) (by omega) (-1) r v hv
  rw [sg_int hk (by omega), Int.toNat_natCast] at this
  rw [this]
theorem sizeM_le {n : Nat} {l : List Con} {s : Int} : s ≤ sizeM n l ↔ s ≤ n + 1 ∧ ∀ v, v < n → ∀ r, sizeAt n l v = some r → s ≤ r := by
  rw [sizeM_eq]
  have K : ∀ q : Nat, s ≤ (List.range q).foldl (sizeStep n l) (n + 1) ↔ s ≤ n + 1 ∧ ∀ v, v < q → ∀ r, sizeAt n l v = some r → s ≤ r := by
    intro q
    induction q with
    | zero => simp
    | succ q ih =>
      rw [List.range_succ, List.foldl_append]
      simp only [List.foldl_cons, List.foldl_nil]
      generalize (List.range q).foldl (sizeStep n l) (n + 1) = z at ih
      unfold sizeStep
      rcases hq : sizeAt n l q with _ | r
      · dsimp only
        rw [ih]
        constructor
        · rintro ⟨a, b⟩
          refine ⟨a, fun v hv r hr => ?_⟩
          rcases Nat.lt_or_ge v q with h | h
          · exact b v h r hr
          · have : v = q := by omega
            subst this; rw [hq] at hr; cases hr
        · rintro ⟨a, b⟩; exact ⟨a, fun v hv => b v (by omega)⟩
      · dsimp only
        constructor
        · intro h
          obtain ⟨a, b⟩ := ih.mp (by omega)
          refine ⟨a, fun v hv r' hr => ?_⟩
          rcases Nat.lt_or_ge v q with h' | h'
          · exact b v h' r' hr
          · have : v = q := by omega
            subst this; rw [hq] at hr; cases hr; omega
        · rintro ⟨a, b⟩
          have h1 := ih.mpr ⟨a, fun v hv => b v (by omega)⟩
          have h2 := b q (by omega) r hq
          omega
  have := K n
  rw [show ((n : Int)).toNat = n by omega]
  exact this
theorem sizeM_ren (hk : k < n) (hn : n ≤ 24) {l : List Con} (hg : Good n l) : sizeM n (l.map (renC n k)) = sizeM n l := by
  refine Int.le_antisymm ?_ ?_
  · have := sizeM_le.mp (Int.le_refl (sizeM n (l.map (renC n k))))
    refine sizeM_le.mpr ⟨this.1, fun v hv r hr => this.2 (sg n k v) (sg_lt hk hv) r ?_⟩
    rw [sizeAt_ren hk hn hg hv]; exact hr
  · have := sizeM_le.mp (Int.le_refl (sizeM n l))
    refine sizeM_le.mpr ⟨this.1, fun v hv r hr => this.2 (sgi n k v) (sgi_lt hk hv) r ?_⟩
    rw [← sizeAt_ren hk hn hg (sgi_lt hk hv), sg_sgi hk hv]; exact hr
theorem getD_ren {l : List Con} {i : Nat} (hi : i < l.length) : (l.map (renC n k)).getD i default = renC n k (l.getD i default) := by simp [hi]
theorem next_ren (hk : k < n) (hn : n ≤ 24) {l : List Con} (hg : Good n l) {v : Int} (hv : 0 ≤ v ∧ v < n) {above : Int} {size : Int} {s len : Nat} {a total : Int} (ha : 0 ≤ a ∧ a < n) :
    nextC (l.map (renC n k)) (tabD (l.map (renC n k)) ((v + k).tmod n) above) size s len ((a + k).tmod n) total = nextC l (tabD l v above) size s len a total := by
  unfold nextC
  rw [List.length_map]
  refine find_congr fun i hi => ?_
  have hi' : i < l.length := List.mem_range.mp (List.mem_of_mem_drop hi)
  obtain ⟨c1, c2, -⟩ := hg (l.getD i default) (by simp [hi'])
  rw [getD_ren hi']
  have e1 : (renC n k (l.getD i default)).f = (a + k).tmod n ↔ (l.getD i default).f = a := sg_int_inj hk c1 ha
  have e2 : (renC n k (l.getD i default)).t.toNat = sg n k (l.getD i default).t.toNat := by unfold renC; dsimp only; rw [sg_int hk c2]; omega
  have e3 : (renC n k (l.getD i default)).m = (l.getD i default).m := rfl
  rw [e2, e3, rl_tab hk hn hg hv above _ _ (by omega)]
  simp only [e1]
theorem chain_ren (hk : k < n) (hn : n ≤ 24) {l : List Con} (hg : Good n l) {v : Int} (hv : 0 ≤ v ∧ v < n) {above : Int} {size : Int} {s : Nat} : ∀ (q : Nat) (out : List Int) (a total : Int), 0 ≤ a ∧ a < n →
    chainC (l.map (renC n k)) (tabD (l.map (renC n k)) ((v + k).tmod n) above) size s q out ((a + k).tmod n) total = chainC l (tabD l v above) size s q out a total
  | 0, _, _, _, _ => rfl
  | q + 1, out, a, total, ha => by
    by_cases h : (out.length : Int) < size
    · have hn' := next_ren hk hn hg hv (above := above) (size := size) (s := s) (len := out.length) (total := total) ha
      rcases e : nextC l (tabD l v above) size s out.length a total with _ | i
      · rw [chain_none h e, chain_none h (hn'.trans e)]
      · have hi : i < l.length := List.mem_range.mp (List.mem_of_mem_drop (List.mem_of_find?_eq_some e))
        obtain ⟨c1, c2, -⟩ := hg (l.getD i default) (by simp [hi])
        rw [chain_some h e, chain_some h (hn'.trans e), getD_ren hi]
        exact chain_ren hk hn hg hv q _ _ _ c2
    · rw [chain_done h, chain_done h]
theorem first_ren (hk : k < n) (hn : n ≤ 24) {l : List Con} (hg : Good n l) : firstM n (l.map (renC n k)) = firstM n l := by
  unfold firstM
  rw [List.length_map, sizeM_ren hk hn hg]
  congr 1
  have : ∀ s, s < l.length → firstAt (l.map (renC n k)) (sizeM n l) s = firstAt l (sizeM n l) s := by
    intro s hs
    obtain ⟨c1, c2, -⟩ := hg (l.getD s default) (by simp [hs])
    have e2 : (renC n k (l.getD s default)).t.toNat = sg n k (l.getD s default).t.toNat := by unfold renC; dsimp only; rw [sg_int hk c2]; omega
    have e3 : (renC n k (l.getD s default)).m = (l.getD s default).m := rfl
    have e4 : (renC n k (l.getD s default)).f = ((l.getD s default).f + k).tmod n := rfl
    have e5 : (renC n k (l.getD s default)).t = ((l.getD s default).t + k).tmod n := rfl
    have hr := rl_tab hk hn hg c1 (s : Int) (sizeM n l - 1).toNat (l.getD s default).t.toNat (by omega)
    by_cases h : 0 ≤ plusM (l.getD s default).m (vat (tabD l (l.getD s default).f s (sizeM n l - 1).toNat) (l.getD s default).t.toNat)
    · rw [firstAt_none h, firstAt_none (by rw [getD_ren hs, e2, e3, e4, hr]; exact h)]
    · rw [firstAt_some h, firstAt_some (by rw [getD_ren hs, e2, e3, e4, hr]; exact h), getD_ren hs, e3, e4, e5]
      exact chain_ren hk hn hg c1 _ _ _ _ c2
  have K : ∀ q, q ≤ l.length → (List.range q).findSome? (fun s => firstAt (l.map (renC n k)) (sizeM n l) s) = (List.range q).findSome? fun s => firstAt l (sizeM n l) s := by
    intro q
    induction q with
    | zero => intro _; rfl
    | succ q ih =>
      intro hq
      rw [List.range_succ, List.findSome?_append, List.findSome?_append, ih (by omega)]
      simp only [List.findSome?_cons, List.findSome?_nil, this q (by omega)]
  exact K _ (Nat.le_refl _)
end
theorem chain_len {l : List Con} {d : Nat → Vector Int 24} {size : Int} {s : Nat} : ∀ (q : Nat) (out : List Int) (a t : Int) (o : List Int), chainC l d size s q out a t = some o → o.length ≤ max out.length size.toNat
  | 0, out, a, t, o, h => by cases h; omega
  | q + 1, out, a, t, o, h => by
    by_cases hs : (out.length : Int) < size
    · rcases e : nextC l d size s out.length a t with _ | i
      · rw [chain_none hs e] at h; cases h
      · rw [chain_some hs e] at h
        have := chain_len q _ _ _ o h
        rw [List.length_append] at this
        simp only [List.length_cons, List.length_nil] at this
        omega
    · rw [chain_done hs] at h; cases h; omega
theorem first_len {n : Int} (hn : 1 ≤ n ∧ n ≤ 24) {l : List Con} : (firstM n l).length ≤ 25 := by
  unfold firstM
  rcases e : (List.range l.length).findSome? (fun s => firstAt l (sizeM n l) s) with _ | o
  · simp
  · obtain ⟨s, -, hs⟩ := List.exists_of_findSome?_eq_some e
    have hz := sizeM_bd (l := l) hn n.toNat (by omega)
    rw [← sizeM_eq] at hz
    by_cases h : 0 ≤ plusM (l.getD s default).m (vat (tabD l (l.getD s default).f s (sizeM n l - 1).toNat) (l.getD s default).t.toNat)
    · rw [firstAt_none h] at hs; cases hs
    · rw [firstAt_some h] at hs
      have := chain_len _ _ _ _ o hs
      simp only [List.length_cons, List.length_nil] at this
      show o.length ≤ 25
      omega
end Go.Lat
namespace Go.Lat
/-! ### Walks -/
def Wk2 : Nat → List Con → Nat → Prop
  | u, [], v => u = v
  | u, c :: w, v => c.f.toNat = u ∧ Wk2 c.t.toNat w v
def wt (w : List Con) : Int := (w.map (·.m)).sum
theorem wt_nil : wt [] = 0 := rfl
theorem wt_cons (c : Con) (w : List Con) : wt (c :: w) = c.m + wt w := by simp [wt]
theorem wt_append (a b : List Con) : wt (a ++ b) = wt a + wt b := by simp [wt, List.sum_append]
theorem Wk2.app : ∀ {a b : List Con} {u v z : Nat}, Wk2 u a v → Wk2 v b z → Wk2 u (a ++ b) z
  | [], _, _, _, _, h, k => by cases h; exact k
  | _ :: _, _, _, _, _, h, k => ⟨h.1, Wk2.app h.2 k⟩
theorem Wk2.split : ∀ {a b : List Con} {u z : Nat}, Wk2 u (a ++ b) z → ∃ v, Wk2 u a v ∧ Wk2 v b z
  | [], _, u, _, h => ⟨u, rfl, h⟩
  | _ :: _, _, _, _, h => by
    obtain ⟨v, h1, h2⟩ := Wk2.split h.2
    exact ⟨v, ⟨h.1, h1⟩, h2⟩
/-- Entries of the matrix of constraints are weights of walks. -/
def Byw (m : Vector Int 576) (l : List Con) : Prop := ∀ i j, i < 24 → j < 24 → ¬ mm m i j = NB → ∃ w, (∀ c ∈ w, c ∈ l) ∧ Wk2 i w j ∧ wt w = mm m i j
theorem byw_free : Byw freeM [] := by
  intro i j hi hj h
  rw [mm_free hi hj] at h ⊢
  split at h
  · rename_i e
    subst e
    exact ⟨[], by simp, rfl, by rw [if_pos rfl]; rfl⟩
  · exact (h rfl).elim
theorem byw_step {m : Vector Int 576} {l : List Con} {c : Con} (h : CM m l) (hb : Byw m l) (hc : Good 24 [c]) (hs : (addM m c.f c.t c.m).1 = true) : Byw (addM m c.f c.t c.m).2 (l ++ [c]) := by
  have := hB0
  obtain ⟨c1, c2, c3⟩ := hc c (by simp)
  have hs' : (addM m (c.f.toNat : Int) (c.t.toNat : Int) c.m).1 = true := by rw [show ((c.f.toNat : Nat) : Int) = c.f by omega, show ((c.t.toNat : Nat) : Int) = c.t by omega]; exact hs
  have r := h.cl.rel (f := c.f.toNat) (t := c.t.toNat) (w := c.m) (by omega) (by omega) (by omega) (by omega) hs'
  rw [show ((c.f.toNat : Nat) : Int) = c.f by omega, show ((c.t.toNat : Nat) : Int) = c.t by omega] at r
  intro i j hi hj hn
  rcases r.one i j hi hj with e | ⟨a1, a2, e⟩
  · obtain ⟨w, w1, w2, w3⟩ := hb i j hi hj (by rwa [← e])
    exact ⟨w, fun c hc => List.mem_append_left _ (w1 c hc), w2, by rw [e]; exact w3⟩
  · obtain ⟨w, w1, w2, w3⟩ := hb i c.f.toNat hi (by omega) a1
    obtain ⟨y, y1, y2, y3⟩ := hb c.t.toNat j (by omega) hj a2
    refine ⟨w ++ c :: y, fun d hd => ?_, w2.app ⟨rfl, y2⟩, by rw [wt_append, wt_cons, e, w3, y3]; omega⟩
    simp only [List.mem_append, List.mem_cons] at hd ⊢
    rcases hd with h1 | h1 | h1
    · exact .inl (w1 d h1)
    · exact .inr (.inl h1)
    · exact .inl (y1 d h1)
/-- Contradictory constraints have a closed walk of negative weight. -/
theorem neg_of_none : ∀ (l : List Con) {m : Vector Int 576} {p : List Con}, CM m p → Byw m p → Good 24 p → Good 24 l → addAll m l = none → ∃ u w, u < 24 ∧ (∀ c ∈ w, c ∈ p ++ l) ∧ Wk2 u w u ∧ wt w < 0
  | [], _, _, _, _, _, _, e => by cases e
  | c :: l, m, p, h, hb, hp, hl, e => by
    have hc : Good 24 [c] := fun c' h' => hl c' (by rw [List.mem_singleton] at h'; simp [h'])
    have hl' : Good 24 l := fun c' h' => hl c' (by simp [h'])
    rw [addAll_cons] at e
    by_cases hs : (addM m c.f c.t c.m).1 = true
    · rw [if_pos hs] at e
      have := neg_of_none l (h.step hp hc hs) (byw_step h hb hc hs) (hp.append hc) hl' e
      simpa using this
    · obtain ⟨c1, c2, c3⟩ := hc c (by simp)
      have hs' : ¬ (addM m (c.f.toNat : Int) (c.t.toNat : Int) c.m).1 = true := by rw [show ((c.f.toNat : Nat) : Int) = c.f by omega, show ((c.t.toNat : Nat) : Int) = c.t by omega]; exact hs
      obtain ⟨b1, b2⟩ := h.cl.bad (f := c.f.toNat) (t := c.t.toNat) (w := c.m) (by omega) (by omega) (by omega) hs'
      obtain ⟨w, w1, w2, w3⟩ := hb c.t.toNat c.f.toNat (by omega) (by omega) b1
      refine ⟨c.f.toNat, c :: w, by omega, fun d hd => ?_, ⟨rfl, w2⟩, by rw [wt_cons, w3]; exact b2⟩
      rcases List.mem_cons.mp hd with h1 | h1
      · rw [h1]; simp
      · exact List.mem_append_left _ (w1 d h1)
/-- A closed walk of negative weight with as few constraints as may be has each variable once. -/
def NegW (l : List Con) (u : Nat) (w : List Con) : Prop := (∀ c ∈ w, c ∈ l) ∧ Wk2 u w u ∧ wt w < 0
theorem neg_short {l : List Con} : ∀ (k : Nat) (u : Nat) (w : List Con), NegW l u w → w.length ≤ k → ∃ u' w', NegW l u' w' ∧ w'.length ≤ w.length ∧ ∀ u'' w'', NegW l u'' w'' → w'.length ≤ w''.length
  | 0, u, w, h, hk => ⟨u, w, h, Nat.le_refl _, fun _ _ _ => by omega⟩
  | k + 1, u, w, h, hk => by
    by_cases hex : ∃ u' w', NegW l u' w' ∧ w'.length < w.length
    · obtain ⟨u', w', h1, h2⟩ := hex
      obtain ⟨a, b, h3, h4, h5⟩ := neg_short k u' w' h1 (by omega)
      exact ⟨a, b, h3, by omega, h5⟩
    · refine ⟨u, w, h, Nat.le_refl _, fun u'' w'' h'' => ?_⟩
      rcases Nat.lt_or_ge w''.length w.length with h1 | h1
      · exact (hex ⟨u'', w'', h'', h1⟩).elim
      · exact h1
theorem simple_of_min {l : List Con} {u : Nat} {w : List Con} (h : NegW l u w) (hmin : ∀ u'' w'', NegW l u'' w'' → w.length ≤ w''.length) : w.Pairwise fun a b => ¬ a.f.toNat = b.f.toNat := by
  rw [List.pairwise_iff_forall_sublist]
  intro a b hab hf
  obtain ⟨x, y, z, rfl⟩ : ∃ x y z, w = x ++ a :: (y ++ b :: z) := by
    have : ∀ w : List Con, [a, b].Sublist w → ∃ x y z, w = x ++ a :: (y ++ b :: z) := by
      intro w hw
      induction w with
      | nil => cases hw
      | cons c w ih =>
        cases hw with
        | cons _ h1 => obtain ⟨x, y, z, rfl⟩ := ih h1; exact ⟨c :: x, y, z, rfl⟩
        | cons_cons _ h1 =>
          have : b ∈ w := h1.subset (by simp)
          obtain ⟨y, z, rfl⟩ := List.append_of_mem this
          exact ⟨[], y, z, rfl⟩
    exact this w hab
  obtain ⟨h1, h2, h3⟩ := h
  obtain ⟨v, p1, p2⟩ := h2.split
  obtain ⟨q1, q2⟩ := p2
  obtain ⟨v2, r1, r2⟩ := q2.split
  obtain ⟨s1, s2⟩ := r2
  -- the inner part, and the outer one
  have in1 : Wk2 v (a :: y) v := ⟨q1, by rw [← q1, hf, s1]; exact r1⟩
  have out1 : Wk2 u (x ++ b :: z) u := p1.app ⟨by rw [← hf, q1], s2⟩
  have hw : wt (x ++ a :: (y ++ b :: z)) = wt (a :: y) + wt (x ++ b :: z) := by simp only [wt_append, wt_cons]; omega
  have hl : (x ++ a :: (y ++ b :: z)).length = (a :: y).length + (x ++ b :: z).length := by simp; omega
  by_cases hneg : wt (a :: y) < 0
  · have := hmin v (a :: y) ⟨fun c hc => h1 c (by
      simp only [List.mem_cons, List.mem_append] at hc ⊢
      rcases hc with h | h
      · exact .inr (.inl h)
      · exact .inr (.inr (.inl h))), in1, hneg⟩
    simp only [List.length_append, List.length_cons] at this
    omega
  · have := hmin u (x ++ b :: z) ⟨fun c hc => h1 c (by
      simp only [List.mem_cons, List.mem_append] at hc ⊢
      rcases hc with h | h | h
      · exact .inl h
      · exact .inr (.inr (.inr (.inl h)))
      · exact .inr (.inr (.inr (.inr h)))), out1, by omega⟩
    simp only [List.length_append, List.length_cons] at this
    omega
end Go.Lat
namespace Go.Lat
theorem len_le_of_sub {α : Type} : ∀ {w q : List α}, w.Pairwise (fun a b => ¬ a = b) → (∀ a ∈ w, a ∈ q) → w.length ≤ q.length
  | [], _, _, _ => Nat.zero_le _
  | a :: w, q, hp, hs => by
    rw [List.pairwise_cons] at hp
    obtain ⟨s, t, rfl⟩ := List.append_of_mem (hs a (by simp))
    have := len_le_of_sub (w := w) (q := s ++ t) hp.2 (fun b hb => by
      have h1 := hs b (by simp [hb])
      have h2 := hp.1 b hb
      simp only [List.mem_append, List.mem_cons] at h1 ⊢
      rcases h1 with h | h | h
      · exact .inl h
      · exact (h2 h.symm).elim
      · exact .inr h)
    simp only [List.length_cons, List.length_append] at this ⊢
    omega
theorem simple_len {n : Nat} {l w : List Con} (hg : Good n l) (hw : ∀ c ∈ w, c ∈ l) (hs : w.Pairwise fun a b => ¬ a.f.toNat = b.f.toNat) : w.length ≤ n := by
  have h1 : (w.map fun c => c.f.toNat).Pairwise (fun a b => ¬ a = b) := by rw [List.pairwise_map]; exact hs
  have := len_le_of_sub h1 (q := List.range n) (fun a ha => by
    rw [List.mem_map] at ha
    obtain ⟨c, hc, rfl⟩ := ha
    have := hg c (hw c hc)
    exact List.mem_range.mpr (by omega))
  simpa using this
theorem simple_sub {q w : List Con} (hw : ∀ c ∈ w, c ∈ q) (hs : w.Pairwise fun a b => ¬ a.f.toNat = b.f.toNat) : w.length ≤ q.length :=
  len_le_of_sub (hs.imp fun h e => h (by rw [e])) hw
theorem wt_bd {n : Nat} {l : List Con} (hg : Good n l) : ∀ {w : List Con}, (∀ c ∈ w, c ∈ l) → -(w.length * 1125899906842624 : Int) ≤ wt w ∧ wt w ≤ w.length * 1125899906842624
  | [], _ => by simp [wt_nil]
  | c :: w, h => by
    have := wt_bd hg (w := w) (fun c hc => h c (by simp [hc]))
    obtain ⟨-, -, c3⟩ := hg c (h c (by simp))
    rw [wt_cons, List.length_cons]
    omega
theorem fold_le {n : Nat} (hn : n ≤ 24) {d : Vector Int 24} : ∀ (l : List Con), Good n l → ∀ (o : Vector Int 24),
    (∀ u, vat (l.foldl (relStep d) o) u ≤ vat o u) ∧ ∀ c ∈ l, vat (l.foldl (relStep d) o) c.f.toNat ≤ plusM c.m (vat d c.t.toNat)
  | [], _, _ => ⟨fun _ => Int.le_refl _, fun _ h => by cases h⟩
  | c :: l, hg, o => by
    obtain ⟨c1, c2, c3⟩ := hg c (by simp)
    obtain ⟨h1, h2⟩ := fold_le hn l (fun c' h' => hg c' (by simp [h'])) (relStep d o c)
    have e : ∀ u, vat (relStep d o c) u ≤ vat o u := fun u => by
      unfold relStep; rw [vat_vset (by omega)]; split
      · rename_i h; subst h; omega
      · exact Int.le_refl _
    have e2 : vat (relStep d o c) c.f.toNat ≤ plusM c.m (vat d c.t.toNat) := by
      unfold relStep; rw [vat_vset (by omega), if_pos rfl]; omega
    refine ⟨fun u => Int.le_trans (h1 u) (e u), fun c' hc' => ?_⟩
    rcases List.mem_cons.mp hc' with h | h
    · subst h; exact Int.le_trans (h1 _) e2
    · exact h2 c' h
theorem fold_ex {n : Nat} (hn : n ≤ 24) {d : Vector Int 24} : ∀ (l : List Con), Good n l → ∀ (o : Vector Int 24) (u : Nat),
    vat (l.foldl (relStep d) o) u = vat o u ∨ ∃ c ∈ l, c.f.toNat = u ∧ vat (l.foldl (relStep d) o) u = plusM c.m (vat d c.t.toNat)
  | [], _, _, _ => .inl rfl
  | c :: l, hg, o, u => by
    obtain ⟨c1, c2, c3⟩ := hg c (by simp)
    show vat (l.foldl (relStep d) (relStep d o c)) u = vat o u ∨ ∃ c' ∈ c :: l, c'.f.toNat = u ∧ vat (l.foldl (relStep d) (relStep d o c)) u = plusM c'.m (vat d c'.t.toNat)
    rcases fold_ex hn l (fun c' h' => hg c' (by simp [h'])) (relStep d o c) u with h | ⟨c', h1, h2, h3⟩
    · by_cases e : u = c.f.toNat
      · have e1 : vat (relStep d o c) u = min (vat o c.f.toNat) (plusM c.m (vat d c.t.toNat)) := by unfold relStep; rw [vat_vset (by omega), if_pos e]
        rw [h, e1]
        rcases Int.le_total (vat o c.f.toNat) (plusM c.m (vat d c.t.toNat)) with h4 | h4
        · exact .inl (by rw [e]; omega)
        · exact .inr ⟨c, by simp, e.symm, by omega⟩
      · have e1 : vat (relStep d o c) u = vat o u := by unfold relStep; rw [vat_vset (by omega), if_neg e]
        exact .inl (by rw [h, e1])
    · exact .inr ⟨c', by simp [h1], h2, h3⟩
section
variable {n : Nat} (hn : n ≤ 24) {l : List Con} (hg : Good n l) {v : Int} (hv : 0 ≤ v ∧ v < n) {above : Int}
include hn hg hv
theorem tab_le : ∀ (r : Nat) (u : Nat) (w : List Con), u < n → r ≤ 25 → w.length = r → (∀ c ∈ w, c ∈ l.drop (above + 1).toNat) → Wk2 u w v.toNat → vat (tabD l v above r) u ≤ wt w
  | 0, u, w, hu, _, hw, _, hk => by
    have : w = [] := List.eq_nil_of_length_eq_zero hw
    subst this
    cases hk
    show vat (vset _ _ _) _ ≤ _
    rw [vat_vset (by omega), if_pos rfl]
    exact Int.le_refl _
  | r + 1, u, w, hu, hr, hw, hm, hk => by
    have hnb := hNB
    match w, hw, hm, hk with
    | c :: w, hw, hm, hk =>
      obtain ⟨k1, k2⟩ := hk
      have hgd : Good n (l.drop (above + 1).toNat) := fun c hc => hg c (List.mem_of_mem_drop hc)
      obtain ⟨c1, c2, c3⟩ := hgd c (hm c (by simp))
      have ih := tab_le r c.t.toNat w (by omega) (by omega) (by simpa using hw) (fun c hc => hm c (by simp [hc])) k2
      have hb := wt_bd hgd (w := w) (fun c hc => hm c (by simp [hc]))
      have hw' : w.length = r := by simpa using hw
      have h2 := (fold_le hn (d := tabD l v above r) _ hgd (Vector.replicate 24 NB)).2 c (hm c (by simp))
      show vat (longerM _ _ _) _ ≤ _
      rw [longerM_eq, wt_cons, ← k1]
      have : vat (tabD l v above r) c.t.toNat ≤ 25 * 1125899906842624 := by
        have : (w.length : Int) ≤ 25 := by omega
        omega
      rw [plusM_nb (by omega) (by omega)] at h2
      omega
theorem tab_ex : ∀ (r : Nat) (u : Nat), u < n → vat (tabD l v above r) u < NB → ∃ w, w.length = r ∧ (∀ c ∈ w, c ∈ l.drop (above + 1).toNat) ∧ Wk2 u w v.toNat ∧ wt w = vat (tabD l v above r) u
  | 0, u, hu, h => by
    change vat (vset _ _ _) _ < NB at h
    rw [vat_vset (by omega), vat_rep (by omega)] at h
    split at h
    · rename_i e
      refine ⟨[], rfl, fun c hc => (by cases hc), e, ?_⟩
      show _ = vat (vset _ _ _) _
      rw [vat_vset (by omega), if_pos e]; rfl
    · omega
  | r + 1, u, hu, h => by
    have hnb := hNB
    have hgd : Good n (l.drop (above + 1).toNat) := fun c hc => hg c (List.mem_of_mem_drop hc)
    have e : tabD l v above (r + 1) = (l.drop (above + 1).toNat).foldl (relStep (tabD l v above r)) (Vector.replicate 24 NB) := longerM_eq
    rw [e] at h ⊢
    rcases fold_ex hn (d := tabD l v above r) _ hgd (Vector.replicate 24 NB) u with h1 | ⟨c, hc, h1, h2⟩
    · rw [h1, vat_rep (by omega)] at h; omega
    · obtain ⟨c1, c2, c3⟩ := hgd c hc
      rw [h2] at h ⊢
      by_cases f : vat (tabD l v above r) c.t.toNat = NB
      · rw [plusM_inf (.inr f)] at h; omega
      · rw [plusM_nb (by omega) f] at h ⊢
        have hb := tabD_bd (l := l) (to := v) (above := above) (fun c hc => ⟨⟨(hg c hc).1.1, by have := (hg c hc).1.2; omega⟩, (hg c hc).2.2.1⟩) ⟨hv.1, by omega⟩ r c.t.toNat
        obtain ⟨w, w1, w2, w3, w4⟩ := tab_ex r c.t.toNat (by omega) (by omega)
        refine ⟨c :: w, by simp [w1], fun d hd => ?_, ⟨h1, w3⟩, by rw [wt_cons, w4]⟩
        rcases List.mem_cons.mp hd with h | h
        · rw [h]; exact hc
        · exact w2 d h
end
/-- A negative closed walk is at least as long as the size. -/
theorem size_le {n : Nat} (hn : 1 ≤ n ∧ n ≤ 24) {l : List Con} (hg : Good n l) {u : Nat} {w : List Con} (h : NegW l u w) : sizeM n l ≤ w.length := by
  obtain ⟨u', w', h', hl, hmin⟩ := neg_short w.length u w h (Nat.le_refl _)
  have hs := simple_of_min h' hmin
  have hlen := simple_len hg h'.1 hs
  obtain ⟨k1, k2, k3⟩ := h'
  have hne : w' ≠ [] := fun e => by subst e; rw [wt_nil] at k3; omega
  have hu' : u' < n := by
    match w', hne, k1, k2 with
    | c :: w, _, k1, k2 =>
      have := hg c (k1 c (by simp))
      have := k2.1
      omega
  have ht := tab_le hn.2 hg (v := (u' : Int)) (by omega) (above := -1) w'.length u' w' hu' (by omega) rfl (by simpa using k1) (by simpa using k2)
  have hz := sizeM_le.mp (Int.le_refl (sizeM n l))
  rcases e : sizeAt n l u' with _ | r
  · exfalso
    unfold sizeAt at e
    rw [List.find?_eq_none] at e
    have := e w'.length (List.mem_range.mpr (by omega))
    simp at this
    omega
  · have h1 := hz.2 u' hu' r e
    have h2 : r ≤ w'.length := by
      unfold sizeAt at e
      rw [List.find?_range_eq_some] at e
      rcases Nat.lt_or_ge w'.length r with h3 | h3
      · have := e.2.2 w'.length h3
        simp at this
        omega
      · exact h3
    omega
/-- Fewer constraints are not contradictory. -/
theorem fewer_ok {n : Nat} (hn : 1 ≤ n ∧ n ≤ 24) {l q : List Con} (hg : Good n l) (hq : ∀ c ∈ q, c ∈ l) (hlen : (q.length : Int) < sizeM n l) : ∃ x, SolL q x := by
  have hgq : Good 24 q := fun c hc => by have := hg c (hq c hc); omega
  rcases e : addAll freeM q with _ | m
  · exfalso
    obtain ⟨u, w, -, w1, w2, w3⟩ := neg_of_none q CM.free byw_free (fun _ h => by cases h) hgq e
    obtain ⟨u', w', h', hl, hmin⟩ := neg_short w.length u w (l := q) ⟨by simpa using w1, w2, w3⟩ (Nat.le_refl _)
    have hs := simple_of_min h' hmin
    have h1 := simple_sub h'.1 hs
    have h2 := size_le hn hg (u := u') (w := w') ⟨fun c hc => hq c (h'.1 c hc), h'.2⟩
    omega
  · exact ((close_spec hgq).1 m e).sol_ex
end Go.Lat
