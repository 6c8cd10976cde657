/- The law latecomerlaw24.ReplayIdle returns true for every input, and each argument reads afterwards as it read before. Part 5 of 13. No condition. -/
import Derived.Test.YtbaillkjjlmehaaLatD
import Derived.Test.YtbaillkjjlmehaaLatC
import Derived.WideShapes
set_option linter.unusedVariables false
set_option linter.unusedSimpArgs false
set_option linter.unnecessarySimpa false
namespace Go.Lat
open Go.RowKit
def encC {α : Type} (e : α -> List AV) (xs : List α) : List AV := xs.map fun x => .agg (e x)
theorem zeros_encL {α : Type} {e : α -> List AV} {sz : Nat} (hw : Wd e sz) (x : α) (n : Nat) : zerosA n sz (e x) = zYy e (List.replicate n x) := by
  apply List.ext_getElem?
  intro i
  unfold zerosA
  rcases Nat.lt_or_ge i (n * sz) with h | h
  . rw [List.getElem?_map, List.getElem?_range h]
    have hsz : 0 < sz := by
      rcases Nat.eq_zero_or_pos sz with h0 | h0
      . subst h0; simp at h
      . exact h0
    have hq : i / sz < n := Nat.div_lt_of_lt_mul (by rw [Nat.mul_comm]; exact h)
    have e1 : i = i / sz * sz + i % sz := by rw [Nat.mul_comm]; exact (Nat.div_add_mod i sz).symm
    have e2 := encL_drop hw (List.replicate n x) (i / sz)
    have e3 : (List.replicate n x).drop (i / sz) = x :: (List.replicate n x).drop (i / sz + 1) := by
      rw [List.drop_eq_getElem_cons (by simpa using hq)]; simp
    rw [e3, encL_cons] at e2
    have hm : i % sz < (e x).length := by rw [hw]; exact Nat.mod_lt _ hsz
    have e4 : (zYy e (List.replicate n x))[i]? = ((zYy e (List.replicate n x)).drop (i / sz * sz))[i % sz]? := by
      rw [List.getElem?_drop, <- e1]
    rw [e4, e2, List.getElem?_append_left hm]
    simp [List.getD, List.getElem?_eq_getElem hm]
  . rw [List.getElem?_eq_none (by simpa using h), List.getElem?_eq_none (by rw [zYw hw, List.length_replicate]; exact h)]
section
variable {P : Program} {T : TT} {d : Option Tmp} {ty : TypeId} {pos : String} {af : Array Edge} {g : Option (Nat × Bool)} {n : Nat} {l : List (Nat × AV)} {h : List AObj} {b : Nat} {K : AV -> List AObj -> Prop} {a a2 a3 : Operand}
theorem o_mkS {t e : TypeId} {s by_ es eb p : Nat} {z ez : List AV} {ek : TK} {α : Type} {en : α -> List AV} {x0 : α} {x : Int} (ht : T t = some ⟨.sl e, s, by_, z⟩) (he : T e = some ⟨ek, es, eb, ez⟩) (hb : (Nat.ble 1 es && Nat.ble eb 131072) = true)
    (h1 : St.eval ⟨n, look l, h, b⟩ a = .int .i64 x) (h2 : St.eval ⟨n, look l, h, b⟩ a2 = .int .i64 x) (hw : Wd en es) (hz : ez = en x0) (hx : 0 <= x /\ x <= 1073741824) (hp : h.length = p) (hk : K (.ref false p x.toNat) (h ++ [.row e es (zYy en (List.replicate x.toNat x0))])) :
    opC P T ⟨d, .makeSlice t a a2, ty, pos, af, g⟩ ⟨n, look l, h, b⟩ K := by
  subst hp; subst hz
  show makeSliceA T h t (St.eval ⟨n, look l, h, b⟩ a) (St.eval ⟨n, look l, h, b⟩ a2) K
  simp only [Bool.and_eq_true] at hb
  rw [h1, h2]; simp only [makeSliceA, ht, he]
  rw [zeros_encL hw]
  exact ⟨⟨trivial, hx.1, hx.2, Nat.le_of_ble_eq_true hb.1, Nat.le_of_ble_eq_true hb.2⟩, hk⟩
theorem o_mkC {α : Type} (en : α -> List AV) {t e : TypeId} {s by_ es eb p : Nat} {z ez : List AV} {ek : TK} {x : Int} (ht : T t = some ⟨.ch e, s, by_, z⟩) (he : T e = some ⟨ek, es, eb, ez⟩) (hb : Nat.ble eb 131072 = true) (h1 : St.eval ⟨n, look l, h, b⟩ a = .int .i64 x) (hx : 0 <= x /\ x <= 65536) {c : Nat} (hc : x.toNat = c) (hp : h.length = p)
    (hk : K (.chn p) (h ++ [.chan c false (encC en [])])) : opC P T ⟨d, .makeChan t a, ty, pos, af, g⟩ ⟨n, look l, h, b⟩ K := by
  subst hp; subst hc
  show makeChanA T h t (St.eval ⟨n, look l, h, b⟩ a) K
  rw [h1]; simp only [makeChanA, ht, he]
  exact ⟨⟨hx.1, hx.2, Nat.le_of_ble_eq_true hb⟩, hk⟩
theorem o_close {i c : Nat} {buf : List AV} {tys : Array TypeId} (h1 : St.eval ⟨n, look l, h, b⟩ a = .chn i) (ho : h[i]? = some (.chan c false buf)) (hk : K (.tup []) (h.set i (.chan c true buf))) : opC P T ⟨d, .call ⟨.builtin .close, #[a], tys⟩, ty, pos, af, g⟩ ⟨n, look l, h, b⟩ K := by
  show closeA h (St.eval ⟨n, look l, h, b⟩ a) K
  rw [h1]; simp only [closeA, ho]
  exact hk
theorem wdV {q : Nat} : Wd (fun v : Vector Int q => zYy zYx v.toList) q := fun v => by
  show (zYy zYx v.toList).length = q
  rw [ints_map]; simp
theorem ca_rowV {q : Nat} {xs : List (Vector Int q)} {t id : Nat} {i : Int} {k : Nat} (ho : h[id]? = some (.row t q (zYy (fun v : Vector Int q => zYy zYx v.toList) xs))) (hj : 0 <= i /\ i < (xs.length : Int)) (hk : k < q) :
    ∃ rest, cellsAt h (.ptr id (i.toNat * q + k)) = some (.int .i64 (vat (lat xs i) k) :: rest) := by
  obtain ⟨rest, hr⟩ := encL_at' wdV xs i k (Nat.le_of_lt hk) hj.1 hj.2
  obtain ⟨r2, hr2⟩ := ints_at (lat xs i) k hk
  refine ⟨r2 ++ rest, ?_⟩
  simp only [cellsAt, ho, hr]
  rw [hr2]; rfl
theorem row_inV {q : Nat} {xs : List (Vector Int q)} {i : Int} (hj : 0 <= i /\ i < (xs.length : Int)) {k : Nat} (hk : k < q) : i.toNat * q + k + [AV.int .i64 0].length <= (zYy (fun v : Vector Int q => zYy zYx v.toList) xs).length := by
  rw [zYw wdV]
  have hj' : i.toNat < xs.length := by omega
  have := Nat.mul_le_mul_right q hj'
  rw [Nat.succ_mul] at this
  show _ + 1 <= _
  omega
theorem row_setV {q : Nat} (xs : List (Vector Int q)) {i : Int} (hj : 0 <= i /\ i < (xs.length : Int)) {k : Nat} (hk : k < q) (v : Int) :
    Lat.spl (zYy (fun v : Vector Int q => zYy zYx v.toList) xs) (i.toNat * q + k) [.int .i64 v] = zYy (fun v : Vector Int q => zYy zYx v.toList) (xs.set i.toNat (vset (lat xs i) k v)) := by
  have hw : Wd (fun v : Vector Int q => zYy zYx v.toList) q := wdV
  have hlt : i.toNat < xs.length := by omega
  have hlen : (zYy (fun v : Vector Int q => zYy zYx v.toList) xs).length = xs.length * q := zYw hw xs
  have hle : i.toNat * q + q <= xs.length * q := by
    have := Nat.mul_le_mul_right q hlt
    rw [Nat.succ_mul] at this
    exact this
  have hs := ints_set (lat xs i) k v
  have hr0 := row_set hw xs i (vset (lat xs i) k v) rfl hj.1 hj.2
  have hlB : (zYy zYx (lat xs i).toList).length = q := by rw [ints_map]; simp
  have hlC : (zYy zYx (vset (lat xs i) k v).toList).length = q := by rw [ints_map]; simp
  rw [Lat.spl_eq _ _ _ (by rw [hlB]; show k + 1 <= q; omega)] at hs
  rw [Lat.spl_eq _ _ _ (by rw [hlen]; show _ + (zYy zYx (vset (lat xs i) k v).toList).length <= _; rw [hlC]; exact hle)] at hr0
  rw [Lat.spl_eq _ _ _ (by rw [hlen]; show i.toNat * q + k + 1 <= _; omega), <- hr0]
  show _ = _ ++ zYy zYx (vset (lat xs i) k v).toList ++ List.drop (_ + (zYy zYx (vset (lat xs i) k v).toList).length) _
  rw [hlC, <- hs]
  obtain ⟨rest, hr⟩ := encL_at hw xs i hj.1 hj.2
  have hl : (zYy zYx (lat xs i).toList).length = q := by rw [ints_map]; simp
  generalize zYy (fun v : Vector Int q => zYy zYx v.toList) xs = A at *
  generalize zYy zYx (lat xs i).toList = B at *
  generalize i.toNat * q = m at *
  have e1 : A = A.take m ++ (B ++ rest) := by rw [<- hr, List.take_append_drop]
  have hm : (A.take m).length = m := by rw [List.length_take]; omega
  have f1 : A.take (m + k) = A.take m ++ B.take k := by
    conv => lhs; rw [e1]
    rw [List.take_append, hm, List.take_of_length_le (by omega), show m + k - m = k by omega, List.take_append, show k - B.length = 0 by omega]; simp
  have f2 : A.drop (m + k + 1) = B.drop (k + 1) ++ rest := by
    conv => lhs; rw [e1]
    rw [List.drop_append, hm, List.drop_of_length_le (by omega), show m + k + 1 - m = k + 1 by omega, List.drop_append, show k + 1 - B.length = 0 by omega]; simp
  have f3 : A.drop (m + q) = rest := by
    conv => lhs; rw [e1]
    rw [List.drop_append, hm, List.drop_of_length_le (by omega), show m + q - m = q by omega, List.drop_append, List.drop_of_length_le (by omega), hl]; simp
  show A.take (m + k) ++ [AV.int .i64 v] ++ A.drop (m + k + 1) = A.take m ++ (B.take k ++ [AV.int .i64 v] ++ B.drop (k + 1)) ++ A.drop (m + q)
  rw [f1, f2, f3]
  simp
theorem ag_subA (k : Nat) {id t q m : Nat} {i : Int} {xs : List (Vector Int q)} {ys : List Int} (ho : h[id]? = some (.row t q (zYy (fun v : Vector Int q => zYy zYx v.toList) xs))) (hj : 0 <= i /\ i < (xs.length : Int)) (hy : (lat xs i).toList.take m = ys) (hm : m = ys.length) :
    Wk (conv (k + 2) h (.sub id (i.toNat * q) m)) (.lst true ys.length (zYy zYx ys)) := by
  subst hm
  simp only [conv, ho]
  split
  . rename_i h0
    have : ys = [] := List.eq_nil_of_length_eq_zero h0
    subst this
    exact Wk.refl _
  . obtain ⟨rest, hr⟩ := encL_at wdV xs i hj.1 hj.2
    rw [hr, List.map_append]
    refine (Wk.lsts _ _ (Wks.app (encL_cv zZw k h true (lat xs i).toList) (Wks.refl _) (by rw [List.length_map]))).trans ?_
    have e2 := encL_take wdInt (lat xs i).toList ys.length
    rw [hy] at e2
    have e3 : (zYy zYx (lat xs i).toList ++ rest.map (conv (k + 1) h)).take (ys.length * 1) = zYy zYx ys := by
      have hle : ys.length <= (lat xs i).toList.length := by rw [<- hy, List.length_take]; omega
      rw [List.take_append, ints_map (lat xs i).toList, List.length_map, show ys.length * 1 - (lat xs i).toList.length = 0 by omega, List.take_zero, List.append_nil, <- ints_map, e2]
    rw [<- e3]
    exact Wk.take _ _ _ _
end
theorem encC_one {α : Type} (e : α -> List AV) (xs : List α) (x : α) : encC e xs ++ [.agg (e x)] = encC e (xs ++ [x]) := by simp [encC]
theorem flatC_enc {α : Type} {e : α -> List AV} (hf : ∀ x, (e x).all flatV = true) (k : Nat) (cl : Bool) (xs : List α) : flatC (.chan k cl (encC e xs)) := by
  intro c hc
  obtain ⟨x, -, rfl⟩ := List.mem_map.1 hc
  exact hf x
theorem Rens.encC {α : Type} {e : α -> List AV} (hf : ∀ x, (e x).all flatV = true) (φ : List (Option Nat)) (xs : List α) : Rens φ (encC e xs) (Lat.encC e xs) := fun r m vs hm hv => VRs_flatB (fun c hc => by
  obtain ⟨x, -, rfl⟩ := List.mem_map.1 hc
  exact hf x) hv
section
variable {P : Program} {T : TT} {Q : Ex -> St -> Prop} {c : Code} {n : Nat} {l : List (Nat × AV)} {h : List AObj} {b : Nat}
theorem sndE {α : Type} {e : α -> List AV} {xs : List α} {x : α} {i cap : Nat} {xo yo : Operand} (h1 : St.eval ⟨n, look l, h, b⟩ xo = .chn i) (h2 : h[i]? = some (.chan cap false (encC e xs))) (hl : xs.length < cap) (hv : St.eval ⟨n, look l, h, b⟩ yo = .agg (e x))
    (hk : W P T c ⟨n, look l, h.set i (.chan cap false (encC e (xs ++ [x]))), b⟩ Q) :
    ∃ (i cap : Nat) (buf : List AV), St.eval ⟨n, look l, h, b⟩ xo = .chn i /\ (St.mk n (look l) h b).heap[i]? = some (.chan cap false buf) /\ buf.length < cap /\ W P T c { (St.mk n (look l) h b) with heap := (St.mk n (look l) h b).heap.set i (.chan cap false (buf ++ [St.eval ⟨n, look l, h, b⟩ yo])) } Q :=
  ⟨i, cap, _, h1, h2, by simpa [encC] using hl, by rw [hv, encC_one]; exact hk⟩
end
theorem W.rcv {P : Program} {T : TT} {Q : Ex -> St -> Prop} {c : Code} {n : Nat} {l : List (Nat × AV)} {h : List AObj} {b : Nat} {id d i cap : Nat} {α : Type} {e : α -> List AV} {xs : List α} {B : List Oper} {t et : TypeId} {s by_ es eb : Nat} {z ez : List AV} {ek : TK} {x : Operand} {ty : TypeId} {pos : String} {af : Array Edge}
    (ht : T t = some ⟨.ch et, s, by_, z⟩) (he : T et = some ⟨ek, es, eb, ez⟩) (hB : B.all simpleO = true) (h1 : St.eval ⟨n, look l, h, b⟩ x = .chn i) (h2 : h[i]? = some (.chan cap true (encC e xs))) (hd : Nat.ble (d + 1) n = true)
    (hk1 : ∀ y ys, xs = y :: ys -> seqL P T (⟨some d, .recv t x true, ty, pos, af, none⟩ :: B) [] 1 B ⟨n, look ((d, .tup [.agg (e y), .bool true]) :: l), h.set i (.chan cap true (encC e ys)), b⟩ fun s => W P T c s Q)
    (hk2 : xs = [] -> seqL P T (⟨some d, .recv t x true, ty, pos, af, none⟩ :: B) [] 1 B ⟨n, look ((d, .tup [.any, .bool false]) :: l), h, b⟩ fun s => W P T c s Q) :
    W P T (.seq (.region id (⟨some d, .recv t x true, ty, pos, af, none⟩ :: B).toArray false) c) ⟨n, look l, h, b⟩ Q := fun hT hf ro hro N X D w0 mA r m a w hR => by
  have hro2 : ro ≠ none -> noRg c = true := fun h0 => by have := hro h0; simpa only [noRg, Bool.and_eq_true, true_and] using this
  generalize hol : (⟨some d, .recv t x true, ty, pos, af, none⟩ :: B : List Oper) = ol at *
  have hdn : d < n := Nat.le_of_ble_eq_true hd
  have hx := hR.eval x
  rw [h1] at hx
  simp only [VR] at hx
  obtain ⟨bb, c0, hb, hx⟩ := hx
  obtain ⟨b', c', bv, s0, rc, f1, f2, f3⟩ := hR.obj i _ h2
  rw [hb] at f1; cases f1
  have hlt := (Array.getElem?_eq_some_iff.1 f2).1
  obtain ⟨zz, hz, hzv, hz1⟩ := (hT et _ he).run_zero (P := P) w
  obtain ⟨dd, hch⟩ := (hT t _ ht).kind
  -- what follows
  have tail : ∀ (l' : List Oper) (j : Nat) {r : Rho} {m : MM} {st : St} {a : Act} {w : World}, R X D w0 mA r m st a w -> seqL P T ol [] j l' st (fun s => W P T c s Q) -> (∀ k o, l'[k]? = some o -> ol[j + k]? = some o /\ simpleO o = true) →
      OpsTo (FW ro) N P ol.toArray (fun e a w => Exit.then (c.wpIn (FW ro) N P (relQ (noRg c) X D w0 mA Q)) (relQ (noRg c) X D w0 mA Q) e a w) (List.range' j l'.length) a w := by
    intro l'
    induction l' with
    | nil => intro j r m st a w hR' hs _; exact OpsTo.nil (hs hT hf ro hro2 N X D w0 mA r m a w hR')
    | cons o l' ih =>
      intro j r m st a w hR' hs hg
      obtain ⟨g1, g2⟩ := hg 0 o rfl
      rw [Nat.add_zero] at g1
      rw [List.length_cons, List.range'_succ]
      have hstep : stepI P T ol.toArray j st (fun s => seqL P T ol [] (j + 1) l' s fun s => W P T c s Q) := by
        unfold stepI
        rw [List.getElem?_toArray, g1]
        have hs : Lat.stepG P T ol o st fun s => splitT (List.contains [] j) o.dst s fun s' => seqL P T ol [] (j + 1) l' s' fun s => W P T c s Q := hs
        exact stepG_mono' (ops := ol.toArray) hs fun s h => splitT_sound h
      refine opTo_stepI hT rfl (fun o' ho' => ?_) hstep hR' _ ?_
      . rw [List.getElem?_toArray, g1] at ho'
        cases ho'; exact g2
      . rintro a1 w1 ⟨s1, r1, m1, q1, q2⟩
        exact ih (j + 1) q2 q1 fun k o' hk => by
          have := hg (k + 1) o' (by simpa using hk)
          rw [show j + (k + 1) = j + 1 + k by omega] at this
          exact this
  have hB' : ∀ k o, B[k]? = some o -> ol[1 + k]? = some o /\ simpleO o = true := fun k o hk => by
    rw [<- hol, Nat.add_comm]
    exact ⟨by simpa using hk, List.all_eq_true.1 hB o (List.mem_of_getElem? hk)⟩
  refine wpIn_seq (wpIn_mono (Q := fun e a w => Exit.then (c.wpIn (FW ro) N P (relQ (noRg c) X D w0 mA Q)) (relQ (noRg c) X D w0 mA Q) e a w) (wpIn_region_to ?_) fun e' a' w' he' => ?_)
  . have e1 : List.range ol.toArray.size = 0 :: List.range' 1 B.length := by
      rw [<- hol, List.range_eq_range']; simp [List.range'_succ]
    rw [e1]
    have g0 : ol.toArray[0]? = some ⟨some d, .recv t x true, ty, pos, af, none⟩ := by rw [<- hol]; rfl
    refine OpTo.recv (K := fun a1 w1 => OpsTo (FW ro) N P ol.toArray (fun e a w => Exit.then (c.wpIn (FW ro) N P (relQ (noRg c) X D w0 mA Q)) (relQ (noRg c) X D w0 mA Q) e a w) (List.range' 1 B.length) a1 w1) g0 (by simp [Region.wanted]) rfl hx hch hz f2 (fun hp => ?_) (fun h0 => ?_) _ fun _ _ hk => hk
    . have hlen := f3.length
      cases xs with
      | nil => simp only [encC, List.map_nil, List.length_nil, Array.length_toList] at hlen; omega
      | cons y ys =>
        have f3' := f3
        simp only [encC, List.map_cons, VRs] at f3'
        obtain ⟨v, vs', e2, e3, e4⟩ := f3'
        have hR2 : R X D w0 mA r m ⟨n, look l, h.set i (.chan cap true (encC e ys)), b⟩ a (w.putObj bb (.chan cap (bv.extract 1 bv.size) true s0 (rc + 1) false)) :=
          hR.modify h2 rfl hb (grownBy_putObj' w bb _) ⟨bb, c0, _, s0, rc + 1, hb, World.putObj_heap_same hlt, by
            have : (bv.extract 1 bv.size).toList = vs' := by
              rw [Array.toList_extract, e2]
              simp [<- Array.length_toList, e2]
            rw [this]; exact e4⟩
        have hgv : bv.getD 0 undef = v := by
          rw [Array.getD_eq_getD_getElem?, <- Array.getElem?_toList, e2]; rfl
        have hR3 := hR2.put (some d) (x := .tup [.agg (e y), .bool true]) (v := .tuple #[bv.getD 0 undef, .bool true]) (by
          rw [hgv]
          simp only [VR, VRs]
          exact ⟨_, rfl, v, [.bool true], rfl, by simpa only [VR] using e3, _, [], rfl, rfl, rfl⟩)
        have hst : St.put ⟨n, look l, h.set i (.chan cap true (encC e ys)), b⟩ (some d) (.tup [.agg (e y), .bool true]) = ⟨n, look ((d, .tup [.agg (e y), .bool true]) :: l), h.set i (.chan cap true (encC e ys)), b⟩ := by
          simp only [St.put, if_pos hdn]; congr 1
        rw [hst] at hR3
        exact tail B 1 hR3 (hk1 y ys rfl) hB'
    . have hlen := f3.length
      have hx0 : xs = [] := by
        cases xs with
        | nil => rfl
        | cons y ys => simp only [encC, List.map_cons, List.length_cons, Array.length_toList] at hlen; omega
      have hR3 := hR.put (some d) (x := .tup [.any, .bool false]) (v := .tuple #[zz, .bool false]) (by
        simp only [VR, VRs]
        exact ⟨_, rfl, zz, [.bool false], rfl, trivial, _, [], rfl, rfl, rfl⟩)
      have hst : St.put ⟨n, look l, h, b⟩ (some d) (.tup [.any, .bool false]) = ⟨n, look ((d, .tup [.any, .bool false]) :: l), h, b⟩ := by
        simp only [St.put, if_pos hdn]; congr 1
      rw [hst] at hR3
      exact ⟨rfl, tail B 1 hR3 (hk2 hx0) hB'⟩
  . cases e' <;> simp only [Exit.then] at he' ⊢
    case normal => exact wpIn_mono he' fun _ _ _ => relQ_weak fun hh => by simpa only [noRg, Bool.and_eq_true, true_and] using hh
    all_goals exact relQ_weak (fun hh => by simpa only [noRg, Bool.and_eq_true, true_and] using hh) he'
theorem W.sendK {P : Program} {T : TT} {st : St} {Q : Ex -> St -> Prop} {c : Code} {id : Nat} {ol : List Oper} {x y : Operand} {ty : TypeId} {pos : String} {af : Array Edge} (k : Nat) (ord : List Nat) (hz : ol[k]? = some ⟨none, .send x y, ty, pos, af, none⟩) (hlen : ol.length = k + 1)
    (hc : chk (ol.take k ++ [(⟨none, .move (.const (.bool true)), ty, pos, af, none⟩ : Oper)]).toArray ord = true) (hin : allIn (ol.take k ++ [(⟨none, .move (.const (.bool true)), ty, pos, af, none⟩ : Oper)]) ord = true) (hs : (ol.take k).all simpleO = true)
    (ha : (List.range (ol.take k).length).all (fun j => ((ancs (ol.take k ++ [(⟨none, .move (.const (.bool true)), ty, pos, af, none⟩ : Oper)]).toArray).getD (ol.take k).length []).contains j) = true)
    (h : seqL P T (ol.take k ++ [(⟨none, .move (.const (.bool true)), ty, pos, af, none⟩ : Oper)]) [] 0 (pickL (ol.take k ++ [(⟨none, .move (.const (.bool true)), ty, pos, af, none⟩ : Oper)]) ord) st fun s =>
      ∃ (i cap : Nat) (buf : List AV), St.eval s x = .chn i /\ s.heap[i]? = some (.chan cap false buf) /\ buf.length < cap /\ W P T c { s with heap := s.heap.set i (.chan cap false (buf ++ [St.eval s y])) } Q) :
    W P T (.seq (.region id ol.toArray true) c) st Q :=
  W.sendD ord (by
    have h1 : ol = ol.take k ++ ol.drop k := (List.take_append_drop k ol).symm
    have hk : k < ol.length := by omega
    rw [List.getElem?_eq_getElem hk] at hz
    rw [List.drop_eq_getElem_cons hk, Option.some.inj hz, List.drop_eq_nil_of_le (by omega)] at h1
    exact h1) hc hin hs ha h
end Go.Lat
namespace Go.Lat
open Go.RowKit
section
variable {X : Nat -> Prop} {D : List Deferred × Rho} {w0 : World} {mA : Mem} {r : Rho} {m : MM} {st : St} {a : Act} {w : World}
theorem R.sealP (h : R X D w0 mA r m st a w) (hho : st.ho = 0) (fl : Bool) {id : Nat} {t : TypeId} {cs cs' : List AV} (ho : st.heap[id]? = some (.box t cs)) (hc : SealVs fl cs cs') :
    ∃ m', MLe m m' /\ R X D w0 mA r m' { st with heap := st.heap.set id .dead } a w /\ ∀ v, VR r m (.ptr id 0) v -> VR r m' (.ipt fl cs') v := by
  obtain ⟨b, c, cur, e1, e2, e3, e7⟩ := h.obj id _ ho
  have hlv : (AObj.box t cs).live = true := rfl
  have hk := h.kill id
  have hbn : w0.heap.size <= b := (h.own id _ b c ho hlv e1).resolve_right ((h.nox hho).1 b)
  have hbl := h.lt id _ b c ho hlv e1
  obtain ⟨m', hle, hle2, hR⟩ := hk.learn (fl := fl) (mR := fun p => if p.block = b then w.cell? p else none) (fun p u hu => by
    split at hu
    . rename_i hb; subst hb; exact ⟨hu, hbl⟩
    . cases hu) (fun p u hu => by
    split at hu
    . rename_i hb
      refine .inl ⟨by rw [hb]; exact hbn, fun i o b' c' hi hl hr hbb => ?_⟩
      simp only at hi
      by_cases hii : id = i
      . subst hii
        rw [List.getElem?_set_self (List.getElem?_eq_some_iff.1 ho).1] at hi
        cases hi
        cases hl
      . rw [List.getElem?_set_ne hii] at hi
        have e : b' = b := hbb.symm.trans hb
        subst e
        exact hii (h.inj id i _ o b' c c' ho hi hlv hl e1 hr)
    . cases hu)
  refine ⟨m', hle, hR, fun v hv => ?_⟩
  have low' : Low m' := fun p v hv => hR.low p v hv
  simp only [VR] at hv ⊢
  obtain ⟨b', c', h1, rfl⟩ := hv
  rw [e1] at h1
  cases h1
  refine ⟨_, cur.toList, rfl, fun i u hu => ⟨?_, e3 u (List.mem_of_getElem? hu)⟩, hc r m' _ low' (e7.mono (RLe.refl r) hle)⟩
  have hcell : w.cell? ((⟨b, 0, none⟩ : Addr).add i) = some u := by
    rw [Addr.add_lit]
    simp only [World.cell?, e2]
    simpa using hu
  have hr0 : (fun p : Addr => if p.block = b then w.cell? p else none) ((⟨b, 0, none⟩ : Addr).add i) = some u := by
    simp only
    rw [if_pos (block_add _ _)]
    exact hcell
  cases fl with
  | true => exact hle2 true _ _ hr0
  | false => exact hle2 false _ _ hr0
end
def sealPT (fl : Bool) (id : Nat) (cs' : List AV) (tm : Nat -> AV) : List (Nat × AV) -> Prop
  | [] => True
  | (t, v) :: l => (v = tm t \/ (tm t = .ptr id 0 /\ v = .ipt fl cs')) /\ sealPT fl id cs' tm l
theorem W.sealP {P : Program} {T : TT} {Q : Ex -> St -> Prop} {c : Code} (fl : Bool) (id : Nat) {n : Nat} {t : TypeId} {cs cs' : List AV} {h h' : List AObj} {tm : Nat -> AV} {l : List (Nat × AV)} (ho : h[id]? = some (.box t cs)) (hc : SealVs fl cs cs')
    (hl : sealPT fl id cs' tm l) (hh : h.set id .dead = h') (hw : W P T c ⟨n, look l, h', 0⟩ Q) : W P T c ⟨n, tm, h, 0⟩ Q := fun hT hf ro hro k X D w0 mA r m a w hR => by
  obtain ⟨m', hle, hR', hv⟩ := hR.sealP rfl fl ho hc
  subst hh
  refine hw hT hf ro hro k X D w0 mA r m' a w { hR' with tmps := fun t => ?_, size' := hR'.size', nox := hR'.nox }
  have key : ∀ (l : List (Nat × AV)), sealPT fl id cs' tm l -> VR r m' (look l t) (a.tmps.getD t undef) := by
    intro l
    induction l with
    | nil => intro _; simp only [look, VR]
    | cons p l ih =>
      obtain ⟨q, v⟩ := p
      intro hl
      rw [look_cons]
      split
      . rename_i e
        subst e
        rcases hl.1 with e | ⟨e1, e3⟩
        . rw [e]; exact hR'.tmps t
        . rw [e3]
          exact hv _ (by have := hR.tmps t; simp only at this; rw [e1] at this; exact this)
      . exact ih hl.2
  exact key l hl

def cellsN (e : Nat -> List AV) (n : Nat) : List AV := zYy e (List.range n)
def objsN (g : Nat -> AObj) (n : Nat) : List AObj := (List.range n).map g
theorem objsN_len (g : Nat -> AObj) (n : Nat) : (objsN g n).length = n := by simp [objsN]
theorem objsN_get {g : Nat -> AObj} {n i : Nat} (h : i < n) : (objsN g n)[i]? = some (g i) := by simp [objsN, h]
theorem objsN_getA {A : List AObj} {g : Nat -> AObj} {n i : Nat} (h : i < n) : (A ++ objsN g n)[A.length + i]? = some (g i) := by
  rw [List.getElem?_append_right (by omega), Nat.add_sub_cancel_left, objsN_get h]
theorem objsN_congr {g g' : Nat -> AObj} {n : Nat} (h : ∀ i, i < n -> g i = g' i) : objsN g n = objsN g' n := by
  unfold objsN
  exact List.map_congr_left fun i hi => h i (by simpa using hi)
theorem objsN_set {g : Nat -> AObj} {n i : Nat} {o : AObj} (_h : i < n) : (objsN g n).set i o = objsN (fun j => if j = i then o else g j) n := by
  apply List.ext_getElem?
  intro j
  rw [List.getElem?_set]
  simp only [objsN, List.length_map, List.length_range, List.getElem?_map]
  by_cases e : i = j
  . subst e
    rcases Nat.lt_or_ge i n with h1 | h1
    . simp [h1]
    . omega
  . rw [if_neg e]
    rcases Nat.lt_or_ge j n with h1 | h1
    . have : ¬ j = i := fun x => e x.symm
      simp [h1, this]
    . rw [List.getElem?_eq_none (by simpa using h1)]; rfl
theorem objsN_setA {A : List AObj} {g : Nat -> AObj} {n i : Nat} {o : AObj} (h : i < n) : (A ++ objsN g n).set (A.length + i) o = A ++ objsN (fun j => if j = i then o else g j) n := by
  rw [List.set_append_right _ _ (by omega), Nat.add_sub_cancel_left, objsN_set h]
theorem last_get (h : List AObj) (o : AObj) : (h ++ [o])[h.length]? = some o := by simp
theorem last_set (h : List AObj) (o o' : AObj) : (h ++ [o]).set h.length o' = h ++ [o'] := by simp
theorem cellsN_len {e : Nat -> List AV} {sz : Nat} (he : Wd e sz) (n : Nat) : (cellsN e n).length = n * sz := by rw [cellsN, zYw he, List.length_range]
theorem cellsN_congr {e e' : Nat -> List AV} {n : Nat} (h : ∀ i, i < n -> e i = e' i) : cellsN e n = cellsN e' n := by
  unfold cellsN zYy
  rw [List.flatMap_def, List.flatMap_def, List.map_congr_left fun i hi => h i (by simpa using hi)]
theorem cellsN_encL {α : Type} [Inhabited α] (e : α -> List AV) (xs : List α) : zYy e xs = cellsN (fun i => e (lat xs (i : Int))) xs.length := by
  unfold cellsN zYy
  induction xs with
  | nil => rfl
  | cons x l ih =>
    rw [List.flatMap_cons, ih, List.length_cons, List.range_succ_eq_map, List.flatMap_cons, List.flatMap_map]
    congr 1
theorem cellsN_succ (e : Nat -> List AV) (n : Nat) : cellsN e (n + 1) = cellsN e n ++ e n := by simp [cellsN, zYy, List.range_succ]
theorem spl_left {A B vs : List AV} {off : Nat} (h : off + vs.length <= A.length) : Lat.spl (A ++ B) off vs = Lat.spl A off vs ++ B := by
  rw [Lat.spl_eq _ _ _ (by rw [List.length_append]; omega), Lat.spl_eq _ _ _ h, List.take_append_of_le_length (by omega), List.drop_append_of_le_length (by omega)]
  simp
theorem spl_right {A B vs : List AV} {k : Nat} (h : k + vs.length <= B.length) : Lat.spl (A ++ B) (A.length + k) vs = A ++ Lat.spl B k vs := by
  rw [Lat.spl_eq _ _ _ (by rw [List.length_append]; omega), Lat.spl_eq _ _ _ h, List.take_append, List.drop_append]
  rw [List.take_of_length_le (by omega), show A.length + k - A.length = k by omega, List.drop_of_length_le (by omega), show A.length + k + vs.length - A.length = k + vs.length by omega]
  simp
theorem mul_in {i n sz k : Nat} (h : i < n) (hk : k <= sz) : i * sz + k <= n * sz := by
  have := Nat.mul_le_mul_right sz h
  rw [Nat.succ_mul] at this
  omega
theorem cellsN_spl {e : Nat -> List AV} {sz : Nat} (he : Wd e sz) {n i k : Nat} {vs : List AV} (hi : i < n) (hk : k + vs.length <= sz) : Lat.spl (cellsN e n) (i * sz + k) vs = cellsN (fun j => if j = i then Lat.spl (e i) k vs else e j) n := by
  induction n with
  | zero => omega
  | succ n ih =>
    rw [cellsN_succ, cellsN_succ]
    rcases Nat.lt_or_ge i n with h | h
    . have h1 := mul_in h hk
      rw [spl_left (by rw [cellsN_len he]; omega), ih h, if_neg (by omega)]
    . have : i = n := by omega
      subst this
      rw [if_pos rfl, show i * sz + k = (cellsN e i).length + k by rw [cellsN_len he], spl_right (by rw [he]; exact hk)]
      congr 1
      exact cellsN_congr fun j hj => by rw [if_neg (by omega)]
theorem cellsN_in {e : Nat -> List AV} {sz : Nat} (he : Wd e sz) {n i k : Nat} {vs : List AV} (hi : i < n) (hk : k + vs.length <= sz) : i * sz + k + vs.length <= (cellsN e n).length := by
  rw [cellsN_len he]
  have := mul_in hi hk
  omega
theorem cellsN_at {e : Nat -> List AV} {sz : Nat} (he : Wd e sz) {n i k : Nat} (hi : i < n) (hk : k <= sz) : ∃ rest, (cellsN e n).drop (i * sz + k) = (e i).drop k ++ rest := by
  induction n with
  | zero => omega
  | succ n ih =>
    rw [cellsN_succ]
    rcases Nat.lt_or_ge i n with h | h
    . obtain ⟨rest, hr⟩ := ih h
      have h1 := mul_in h hk
      rw [List.drop_append_of_le_length (by rw [cellsN_len he]; exact h1), hr]
      exact ⟨rest ++ e n, by rw [List.append_assoc]⟩
    . have : i = n := by omega
      subst this
      refine ⟨[], ?_⟩
      rw [List.drop_append, List.drop_of_length_le (by rw [cellsN_len he]; omega), cellsN_len he, show i * sz + k - i * sz = k by omega]
      simp
theorem ca_N {h : List AObj} {id t sz : Nat} {e : Nat -> List AV} {n i k : Nat} (ho : h[id]? = some (.row t sz (cellsN e n))) (he : Wd e sz) (hi : i < n) (hk : k <= sz) : ∃ rest, cellsAt h (.ptr id (i * sz + k)) = some ((e i).drop k ++ rest) := by
  obtain ⟨rest, hr⟩ := cellsN_at he hi hk
  exact ⟨rest, by simp only [cellsAt, ho, hr]⟩
theorem VRs.split {r : Rho} {m : MM} : ∀ {xs us : List AV} {vs : List Value}, VRs r m (xs ++ us) vs -> ∃ a b, vs = a ++ b /\ VRs r m xs a /\ VRs r m us b
  | [], _, vs, hv => ⟨[], vs, rfl, VRs.nil, hv⟩
  | z :: l, _, vs, hv => by
    simp only [List.cons_append, VRs] at hv
    obtain ⟨v, vs', rfl, h2, h3⟩ := hv
    obtain ⟨a, b, rfl, h4, h5⟩ := VRs.split h3
    exact ⟨v :: a, b, rfl, by simp only [VRs]; exact ⟨v, a, rfl, h2, h4⟩, h5⟩
theorem Rens.cellsN {φ : List (Option Nat)} {e e' : Nat -> List AV} : ∀ {n : Nat}, (∀ i, i < n -> Rens φ (e i) (e' i) /\ (e i).length = (e' i).length) -> Rens φ (cellsN e n) (cellsN e' n)
  | 0, _ => Rens.nil
  | n + 1, h => by
    rw [cellsN_succ, cellsN_succ]
    intro r m vs hm hv
    obtain ⟨a, b, rfl, h1, h2⟩ := VRs.split hv
    exact (Rens.cellsN (fun i hi => h i (by omega)) r m a hm h1).app ((h n (by omega)).1 r m b hm h2)
theorem Ups.cellsN {e e' : Nat -> List AV} : ∀ {n : Nat}, (∀ i, i < n -> Ups (e i) (e' i)) -> Ups (cellsN e n) (cellsN e' n)
  | 0, _ => fun r m vs hm hv => by
    have : vs = [] := by simpa only [Lat.cellsN, zYy, List.range_zero, List.flatMap_nil, VRs] using hv
    subst this
    exact VRs.nil
  | n + 1, h => by
    rw [cellsN_succ, cellsN_succ]
    intro r m vs hm hv
    obtain ⟨a, b, rfl, h1, h2⟩ := VRs.split hv
    exact (Ups.cellsN (fun i hi => h i (by omega)) r m a hm h1).app (h n (by omega) r m b hm h2)
theorem Wks.cellsN {e e' : Nat -> List AV} : ∀ {n : Nat}, (∀ i, i < n -> Wks (e i) (e' i)) -> Wks (cellsN e n) (cellsN e' n)
  | 0, _ => Wks.refl _
  | n + 1, h => by
    rw [cellsN_succ, cellsN_succ]
    intro r m vs hm hv
    obtain ⟨a, b, rfl, h1, h2⟩ := VRs.split hv
    exact (Wks.cellsN (fun i hi => h i (by omega)) r m a hm h1).app (h n (by omega) r m b hm h2)
theorem cellsN_map {e : Nat -> List AV} (f : AV -> AV) (n : Nat) : (cellsN e n).map f = cellsN (fun i => (e i).map f) n := by
  unfold cellsN zYy
  rw [List.map_flatMap]
def idx (n : Nat) (g : Nat -> Option Nat) : List (Option Nat) := (List.range n).map g
theorem idx_get {n : Nat} {g : Nat -> Option Nat} {i : Nat} (h : i < n) : (idx n g)[i]? = some (g i) := by simp [idx, h]
theorem idx_none {n : Nat} {g : Nat -> Option Nat} {i : Nat} (h : n <= i) : (idx n g)[i]? = none := by simp [idx, h]
theorem injB_of : ∀ {φ : List (Option Nat)}, (∀ (i j k : Nat), φ[i]? = some (some k) -> φ[j]? = some (some k) -> i = j) -> injB φ = true
  | [], _ => rfl
  | none :: l, h => by
    show injB l = true
    exact injB_of fun i j k hi hj => by have := h (i + 1) (j + 1) k (by simpa using hi) (by simpa using hj); omega
  | some q :: l, h => by
    simp only [injB, Bool.and_eq_true, Bool.not_eq_true', List.contains_eq_mem, decide_eq_false_iff_not]
    refine ⟨fun hm => ?_, injB_of fun i j k hi hj => by have := h (i + 1) (j + 1) k (by simpa using hi) (by simpa using hj); omega⟩
    obtain ⟨j, hj⟩ := List.mem_iff_getElem?.1 hm
    have := h 0 (j + 1) q (by simp) (by simpa using hj)
    omega
theorem RenH.of {φ : List (Option Nat)} {h : List AObj} : ∀ {p : List (Option Nat)} {l : List AObj}, p.length = l.length →
    (∀ (i : Nat) o x, l[i]? = some o -> p[i]? = some x -> (x = none /\ o.live = false) \/ ∃ k, x = some k /\ (o = .dead \/ ∃ o0, h[k]? = some o0 /\ RenO φ o0 o)) -> RenH φ h p l
  | [], [], _, _ => trivial
  | [], _ :: _, hl, _ => by simp at hl
  | _ :: _, [], hl, _ => by simp at hl
  | x :: p, o :: l, hl, hg => by
    have ih : RenH φ h p l := RenH.of (by simpa using hl) (fun i o x h1 h2 => hg (i + 1) o x (by simpa using h1) (by simpa using h2))
    rcases hg 0 o x (by simp) (by simp) with ⟨rfl, h1⟩ | ⟨k, rfl, h1⟩
    . exact ⟨h1, ih⟩
    . exact ⟨h1, ih⟩
theorem RenH.idx {g : Nat -> Option Nat} {h h' : List AObj} (hg : ∀ (i : Nat) o, h'[i]? = some o -> (g i = none /\ o.live = false) \/ ∃ k, g i = some k /\ (o = .dead \/ ∃ o0, h[k]? = some o0 /\ RenO (idx h'.length g) o0 o)) : RenH (Lat.idx h'.length g) h (Lat.idx h'.length g) h' :=
  RenH.of (by simp [Lat.idx]) fun i o x h1 h2 => by
    have hi := (List.getElem?_eq_some_iff.1 h1).1
    rw [idx_get hi] at h2
    cases h2
    exact hg i o h1
theorem injB_idx {n : Nat} {g : Nat -> Option Nat} (h : ∀ i j k, i < n -> j < n -> g i = some k -> g j = some k -> i = j) : injB (idx n g) = true := injB_of fun i j k hi hj => by
  have h1 : i < n := by
    rcases Nat.lt_or_ge i n with h1 | h1
    . exact h1
    . rw [idx_none h1] at hi; cases hi
  have h2 : j < n := by
    rcases Nat.lt_or_ge j n with h2 | h2
    . exact h2
    . rw [idx_none h2] at hj; cases hj
  rw [idx_get h1] at hi
  rw [idx_get h2] at hj
  exact h i j k h1 h2 (Option.some.inj hi) (Option.some.inj hj)
def upV : AV -> Bool
  | .int _ _ | .bool _ | .nilS | .nilP | .nilF | .ref _ _ _ | .sub _ _ _ | .ptr _ _ | .any => true
  | _ => false
theorem Up.up {x : AV} (h : upV x = true) : Up x x := fun r m v _ hv => by
  cases x <;> simp only [upV, Bool.false_eq_true] at h <;> simpa only [VR] using hv
theorem Up.lst (fl : Bool) (n : Nat) (cs : List AV) : Up (.lst fl n cs) (.lst true n cs) := fun r m v hm hv => by
  simp only [VR] at hv ⊢
  rcases hv with hv | ⟨a, cap, vs, h1, h2, h3, h4⟩
  . exact .inl hv
  exact .inr ⟨a, cap, vs, h1, h2, fun i u hu => ⟨hm.up fl (h3 i u hu).1, (h3 i u hu).2⟩, VRs.mono (RLe.refl []) (hm.le fl) cs _ h4⟩
theorem Up.ipt (fl : Bool) (cs : List AV) : Up (.ipt fl cs) (.ipt true cs) := fun r m v hm hv => by
  simp only [VR] at hv ⊢
  obtain ⟨a, vs, h2, h3, h4⟩ := hv
  exact ⟨a, vs, h2, fun i u hu => ⟨hm.up fl (h3 i u hu).1, (h3 i u hu).2⟩, VRs.mono (RLe.refl []) (hm.le fl) cs _ h4⟩
theorem Ups.nil : Ups [] [] := fun _ _ _ _ h => by simpa only [VRs] using h
theorem Ups.cons {x y : AV} {xs ys : List AV} (h : Up x y) (k : Ups xs ys) : Ups (x :: xs) (y :: ys) := fun r m vs hm hv => by
  simp only [VRs] at hv ⊢
  obtain ⟨v, vs', h1, h2, h3⟩ := hv
  exact ⟨v, vs', h1, h r m v hm h2, k r m vs' hm h3⟩
theorem Ups.up {xs : List AV} (h : ∀ x ∈ xs, upV x = true) : Ups xs xs := by
  induction xs with
  | nil => exact Ups.nil
  | cons x xs ih => exact Ups.cons (Up.up (h x (by simp))) (ih fun y hy => h y (by simp [hy]))
end Go.Lat
namespace Go.Lat
inductive Chg where
  | upd (x : Ext)
  | rem (jb : Int)
instance : Inhabited Chg := ⟨.rem 0⟩
def e107 (fl : Bool) : Chg -> List AV
  | .upd x => [.int .i64 x.jb, .clo 71 [] [.ipt fl (e58 x)]]
  | .rem j => [.int .i64 j, .clo 70 [] []]
theorem SealV.ipt (fl : Bool) (cs : List AV) : SealV fl (.ipt fl cs) (.ipt true cs) := fun r m v _ h => by
  simp only [VR] at h ⊢
  exact h
theorem SealV.clo1 (fl : Bool) (f : FuncId) (cs : List AV) : SealV fl (.clo f [] [.ipt fl cs]) (.clo f [] [.ipt true cs]) := fun r m v hm h => by
  simp only [VR, VRs] at h ⊢
  exact h
theorem SealV.clo0 (fl : Bool) (f : FuncId) : SealV fl (.clo f [] []) (.clo f [] []) := fun r m v hm h => by
  simp only [VR, VRs] at h ⊢
  exact h
theorem conv_ipt (k : Nat) (h : List AObj) (fl : Bool) (cs : List AV) : conv k h (.ipt fl cs) = .ipt true cs := by cases k <;> rfl
theorem cvI_ipt (k : Nat) (h : List AObj) (cs : List AV) : cvI k h (.ipt false cs) = .ipt true cs := by cases k <;> rfl
theorem cvO_ipt (k : Nat) (h : List AObj) (cs : List AV) : cvO k h (.ipt false cs) = .ipt false cs := by cases k <;> rfl
theorem enc107 : Enc e107 2 where
  wd fl := fun x => by cases x <;> rfl
  cv k h fl x := by
    cases x with
    | upd x =>
      refine Wks.cons (zZz _ _ _ _) (Wks.cons ?_ (Wks.refl _))
      show Wk (.clo 71 [] [conv k h (.ipt fl (e58 x))]) _
      rw [conv_ipt]; exact Wk.refl _
    | rem j => exact Wks.cons (zZz _ _ _ _) (Wks.refl _)
  ci k h x := by
    cases x with
    | upd x =>
      refine Wks.cons (agI_int _ _ _ _) (Wks.cons ?_ (Wks.refl _))
      show Wk (.clo 71 [] [cvI k h (.ipt false (e58 x))]) _
      rw [cvI_ipt]; exact Wk.refl _
    | rem j => exact Wks.cons (agI_int _ _ _ _) (Wks.refl _)
  co k h x := by
    cases x with
    | upd x =>
      refine Wks.cons (zY _ _ _ _) (Wks.cons ?_ (Wks.refl _))
      show Wk (.clo 71 [] [cvO k h (.ipt false (e58 x))]) _
      rw [cvO_ipt]; exact Wk.refl _
    | rem j => exact Wks.cons (zY _ _ _ _) (Wks.refl _)
  sl fl x := by
    cases x with
    | upd x => exact SealVs.cons (SealV.int _ _ _) (SealVs.cons (SealV.clo1 _ _ _) (SealVs.nil _))
    | rem j => exact SealVs.cons (SealV.int _ _ _) (SealVs.cons (SealV.clo0 _ _) (SealVs.nil _))
  cl fl x := by cases x <;> intro y hy <;> simp [e107] at hy <;> rcases hy with rfl | rfl <;> rfl
end Go.Lat
namespace Go.Lat
def pickM (c n : Int) : Int := (if c < 0 then -(c + 1) else c).tmod n
theorem lat_nat {α : Type} [Inhabited α] (xs : List α) (i : Nat) : lat xs (i : Int) = xs.getD i default := by simp [lat]
theorem lat_get {α : Type} [Inhabited α] {xs : List α} {i : Nat} (h : i < xs.length) : lat xs (i : Int) = xs[i] := by simp [lat, h]
theorem lat_mem {α : Type} [Inhabited α] {xs : List α} {i : Int} (h : 0 <= i /\ i < xs.length) : lat xs i ∈ xs := by
  have : i.toNat < xs.length := by omega
  simp [lat, this]
theorem vat_lt {n : Nat} {M : Vector Int n} {k : Nat} (h : k < n) : vat M k = M[k] := by simp [vat, h]
theorem vat_ge {n : Nat} {M : Vector Int n} {k : Nat} (h : n <= k) : vat M k = 0 := by
  have : M.toList.length = n := by simp
  unfold vat
  rw [List.getD_eq_getElem?_getD, List.getElem?_eq_none (by omega)]; rfl
theorem vat_vset {n : Nat} {M : Vector Int n} {k j : Nat} {v : Int} (h : k < n) : vat (vset M k v) j = if j = k then v else vat M j := by
  rcases Nat.lt_or_ge j n with hj | hj
  . rw [vat_lt hj, vat_lt hj]
    simp only [vset, Vector.getElem_setIfInBounds hj]
    by_cases e : k = j
    . subst e; simp
    . have : ¬ j = k := fun x => e x.symm
      simp [e, this]
  . rw [vat_ge hj, vat_ge hj, if_neg (by omega)]
theorem vat_rep {n : Nat} {v : Int} {k : Nat} (h : k < n) : vat (Vector.replicate n v) k = v := by rw [vat_lt h]; simp
theorem zXz {c n : Int} (h : 1 <= n) : 0 <= pickM c n /\ pickM c n < n := by
  unfold pickM
  have h0 : 0 <= (if c < 0 then -(c + 1) else c) := by split <;> omega
  exact ⟨Int.tmod_nonneg _ h0, Int.tmod_lt_of_pos _ (by omega)⟩
theorem tdiv_parts (n k : Int) (h : 0 < k) : n = k * n.tdiv k + n.tmod k /\ n.tmod k < k /\ -k < n.tmod k := ⟨(Int.mul_tdiv_add_tmod _ _).symm, Int.tmod_lt_of_pos n h, Int.lt_tmod_of_pos n h⟩
theorem lat_set {α : Type} [Inhabited α] {l : List α} {i : Int} {j : Nat} {x : α} (hi : 0 <= i /\ i < l.length) : lat (l.set i.toNat x) (j : Int) = if (j : Int) = i then x else lat l (j : Int) := by
  rw [lat_nat, lat_nat, List.getD_eq_getElem?_getD, List.getD_eq_getElem?_getD, List.getElem?_set]
  by_cases e : (j : Int) = i
  . rw [if_pos e, if_pos (by omega), if_pos (by omega)]; rfl
  . rw [if_neg e, if_neg (by omega)]
theorem lat_set' {α : Type} [Inhabited α] {l : List α} {i j : Int} {x : α} (hi : 0 <= i /\ i < l.length) (hj : 0 <= j) : lat (l.set i.toNat x) j = if j = i then x else lat l j := by
  have := lat_set (j := j.toNat) (x := x) hi
  rwa [show ((j.toNat : Nat) : Int) = j by omega] at this
theorem map_range_succ {α : Type} {g : Nat -> α} {i : Nat} : (List.range (i + 1)).map g = (List.range i).map g ++ [g i] := by rw [List.range_succ, List.map_append]; rfl
theorem take_succ_lat {α : Type} [Inhabited α] {l : List α} {i : Nat} (h : i < l.length) : l.take (i + 1) = l.take i ++ [lat l i] := by
  rw [lat_get h, List.take_add_one, List.getElem?_eq_getElem h]; rfl
def leastStep {α : Type} [Inhabited α] (cnt : α -> Bool) (val : α -> Int) (l : List α) (o : Int) (i : Nat) : Int :=
  if cnt (lat l i) = true /\ (o < 0 \/ val (lat l i) < val (lat l o)) then (i : Int) else o
def leastN {α : Type} [Inhabited α] (cnt : α -> Bool) (val : α -> Int) (l : List α) (n : Nat) : Int := (List.range n).foldl (leastStep cnt val l) (-1)
def leastM {α : Type} [Inhabited α] (cnt : α -> Bool) (val : α -> Int) (l : List α) : Int := leastN cnt val l l.length
theorem leastN_succ {α : Type} [Inhabited α] (cnt : α -> Bool) (val : α -> Int) (l : List α) (n : Nat) : leastN cnt val l (n + 1) = leastStep cnt val l (leastN cnt val l n) n := by
  unfold leastN; rw [List.range_succ, List.foldl_append]; rfl
theorem leastN_spec {α : Type} [Inhabited α] (cnt : α -> Bool) (val : α -> Int) (l : List α) : ∀ n : Nat, (leastN cnt val l n = -1 /\ ∀ i : Nat, i < n -> ¬ cnt (lat l i) = true) ∨
    ∃ i : Nat, leastN cnt val l n = i /\ i < n /\ cnt (lat l i) = true /\ ∀ k : Nat, k < n -> cnt (lat l k) = true -> val (lat l i) <= val (lat l k) /\ (k < i -> val (lat l i) < val (lat l k))
  | 0 => .inl ⟨rfl, fun i h => by omega⟩
  | n + 1 => by
    rw [leastN_succ]
    unfold leastStep
    rcases leastN_spec cnt val l n with ⟨h1, h2⟩ | ⟨i, h1, h2, h3, h4⟩
    . rw [h1]
      by_cases hc : cnt (lat l n) = true
      . rw [if_pos ⟨hc, .inl (by omega)⟩]
        refine .inr ⟨n, rfl, by omega, hc, fun k hk hck => ?_⟩
        rcases Nat.lt_or_ge k n with h | h
        . exact absurd hck (h2 k h)
        . have : k = n := by omega
          subst this; exact ⟨Int.le_refl _, fun h => by omega⟩
      . rw [if_neg (fun h => hc h.1)]
        refine .inl ⟨rfl, fun i hi => ?_⟩
        rcases Nat.lt_or_ge i n with h | h
        . exact h2 i h
        . have : i = n := by omega
          subst this; exact hc
    . rw [h1]
      by_cases hc : cnt (lat l n) = true /\ val (lat l n) < val (lat l i)
      . rw [if_pos ⟨hc.1, .inr hc.2⟩]
        refine .inr ⟨n, rfl, by omega, hc.1, fun k hk hck => ?_⟩
        rcases Nat.lt_or_ge k n with h | h
        . have := (h4 k h hck).1
          exact ⟨by omega, fun _ => by omega⟩
        . have : k = n := by omega
          subst this; exact ⟨Int.le_refl _, fun h => by omega⟩
      . rw [if_neg (fun h => hc ⟨h.1, h.2.resolve_left (by omega)⟩)]
        refine .inr ⟨i, rfl, by omega, h3, fun k hk hck => ?_⟩
        rcases Nat.lt_or_ge k n with h | h
        . exact h4 k h hck
        . have : k = n := by omega
          subst this
          have : ¬ val (lat l k) < val (lat l i) := fun h => hc ⟨hck, h⟩
          exact ⟨by omega, fun h => by omega⟩
theorem dec_lt {n i : Nat} (h : (i : Int) < (n : Int)) : n - ((i : Int) + 1).toNat < n - ((i : Int)).toNat := by omega
end Go.Lat
namespace Go.Lat
def inM (n lo hi : Int) : Bool := decide (lo <= n /\ n <= hi)
def jobOk (k : Int) (j : Job) : Bool := decide (0 <= j.ar /\ j.ar <= 4398046511104 /\ j.wk.length <= 6) && j.wk.all fun w => decide (0 <= w.st /\ w.st <= k - 1 /\ 0 <= w.tm /\ w.tm <= 1099511627776)
def validJ (sv : List Int) (jobs : List Job) : Bool := decide (1 <= sv.length /\ sv.length <= 6 /\ jobs.length <= 24) && sv.all (fun n => decide (1 <= n /\ n <= 4)) && jobs.all (jobOk sv.length)
def leastS (l : List Sta) : Int := leastM (fun s => decide (s.dn < s.al)) (·.rd) l
def leastI (l : List Int) : Int := leastM (fun _ => true) (fun n => n) l
structure RunS where
  fr : List (Vector Int 4)
  ss : List Sta
def workM (jobs : List Job) (s : RunS) (j : Int) : Ld := lat (lat jobs j).wk (lat s.ss j).dn
def slotM (sv : List Int) (s : RunS) (st : Int) : Int := leastI ((lat s.fr st).toList.take (lat sv st).toNat)
def visM (sv : List Int) (jobs : List Job) (s : RunS) (j : Int) : Vis :=
  let w := workM jobs s j
  let b := max (lat s.ss j).rd (vat (lat s.fr w.st) (slotM sv s w.st).toNat)
  ⟨(lat s.ss j).rd, b, b + w.tm⟩
def nextM (sv : List Int) (jobs : List Job) (s : RunS) (j : Int) : RunS :=
  let w := workM jobs s j
  let v := visM sv jobs s j
  ⟨s.fr.set w.st.toNat (vset (lat s.fr w.st) (slotM sv s w.st).toNat v.en), s.ss.set j.toNat ⟨(lat s.ss j).dn + 1, (lat s.ss j).al, v.en⟩⟩
def runN (sv : List Int) (jobs : List Job) : Nat -> RunS -> List Dn
  | 0, _ => []
  | n + 1, s => if leastS s.ss < 0 then [] else ⟨leastS s.ss, visM sv jobs s (leastS s.ss)⟩ :: runN sv jobs n (nextM sv jobs s (leastS s.ss))
def initM (sv : List Int) (jobs : List Job) : RunS := ⟨List.replicate sv.length (Vector.replicate 4 0), jobs.map fun j => ⟨0, j.wk.length, j.ar⟩⟩
def leftM (s : RunS) : Nat := (s.ss.map fun x => (x.al - x.dn).toNat).sum
def runM (sv : List Int) (jobs : List Job) : List Dn := runN sv jobs (leftM (initM sv jobs)) (initM sv jobs)
def endM (l : List Dn) (j o : Int) : Int := l.foldl (fun o d => if d.j = j then d.v.en else o) o
def finishM (sv : List Int) (jobs : List Job) (j : Int) : Int × Int :=
  if validJ sv jobs = true /\ 0 <= j /\ j <= (jobs.length : Int) - 1 then (endM (runM sv jobs) j (lat jobs j).ar, 0) else (0, 230)
def hasB (p c : Int) : Prop := bitI .and .i64 (p.fdiv (2 ^ (min c.toNat 64))) 1 = 1
instance (p c : Int) : Decidable (hasB p c) := by unfold hasB; infer_instance
def updM (ex : List Ext) (p : Int) : List Chg := (ex.filter fun x => decide (¬ hasB p x.ca /\ ¬ x.pc = -1)).map .upd
def remM (ex : List Ext) (p : Int) : List Chg := (ex.filter fun x => decide (¬ hasB p x.ca /\ x.pc = -1)).map fun x => .rem x.jb
def chgM (ex : List Ext) (p : Int) : List Chg := updM ex p ++ remM ex p
theorem chgM_len (ex : List Ext) (p : Int) : (chgM ex p).length <= ex.length := by
  unfold chgM
  rw [List.length_append]
  induction ex with
  | nil => simp [updM, remM]
  | cons x l ih =>
    unfold updM remM at ih ⊢
    simp only [List.length_map] at ih ⊢
    simp only [List.filter_cons, List.length_cons]
    split <;> split <;> (try simp only [List.length_cons]) <;> try omega
    rename_i a b
    exact absurd (of_decide_eq_true b).2 (of_decide_eq_true a).2
def cmpM (x y : Int) : Int := if x < y then -1 else if y < x then 1 else 0
def orM (l : List Int) : Int := l.foldr (fun x acc => if ¬ x = 0 then x else acc) 0
def isRemM (r : Req) (x : Ext) : Bool := decide (x.pc = -1 /\ ¬ x.jb = r.late /\ x.ba = 0 /\ x.op = 0 /\ x.ver = 0)
def isWorkM (r : Req) (x : Ext) : Bool := decide ((0 <= x.pc /\ x.pc <= ((lat r.jobs x.jb).wk.length : Int) - 1) /\ (0 <= x.ba /\ x.ba <= 1099511627776) /\ (0 <= x.op /\ x.op <= 11) /\ 0 <= x.ver /\ x.ver <= 9)
def extOk (r : Req) (x : Ext) : Bool := decide ((0 <= x.jb /\ x.jb <= (r.jobs.length : Int) - 1) /\ 0 <= x.ca /\ x.ca <= r.causes - 1) && (isRemM r x || isWorkM r x)
def extLt (a b : Ext) : Bool := decide (a.jb < b.jb \/ a.jb = b.jb /\ a.pc < b.pc)
def extsOk (r : Req) : Bool := (List.range r.ex.length).all fun i => extOk r (lat r.ex (i : Int)) && (decide (i = 0) || extLt (lat r.ex ((i : Int) - 1)) (lat r.ex (i : Int)))
def validR (r : Req) : Bool := validJ r.sv r.jobs && decide ((0 <= r.late /\ r.late <= (r.jobs.length : Int) - 1) /\ (0 <= r.obj /\ r.obj <= 4398046511104) /\ 0 <= r.causes /\ r.causes <= 6) && extsOk r
def latenessM' (r : Req) (jobs : List Job) : Int × Int :=
  if ¬ (finishM r.sv jobs r.late).2 = 0 then (0, 240) else (max 0 ((finishM r.sv jobs r.late).1 - (lat r.jobs r.late).ar - r.obj), 0)
def isSetM (r : Req) (p : Int) : Bool := validR r && decide (0 <= p /\ p <= 2 ^ r.causes.toNat - 1)
def rangeI (n : Nat) : List Int := (List.range n).map fun i : Nat => (i : Int)
def cmpR (a b : Rg) : Int := orM [cmpM a.op b.op, cmpM a.ver b.ver]
def bsGo (l : List Rg) (x : Rg) : Nat -> Int -> Int -> Int
  | 0, i, _ => i
  | n + 1, i, j => if i < j then (if cmpR (lat l ((i + j).tdiv 2)) x < 0 then bsGo l x n ((i + j).tdiv 2 + 1) j else bsGo l x n i ((i + j).tdiv 2)) else i
def bsI (l : List Rg) (x : Rg) : Int := bsGo l x (l.length + 1) 0 l.length
def bsM (l : List Rg) (x : Rg) : Int × Bool := (bsI l x, decide (bsI l x < l.length /\ cmpR (lat l (bsI l x)) x = 0))
def rgOk (r : Rg) : Bool := decide ((0 <= r.op /\ r.op <= 11) /\ (0 <= r.ver /\ r.ver <= 9) /\ (1 <= r.nu /\ r.nu <= 1000000) /\ (0 <= r.le /\ r.le <= r.mo) /\ r.mo <= 4398046511104)
def validRgs (l : List Rg) : Bool := (List.range l.length).all fun i => rgOk (lat l (i : Int)) && (decide (i = 0) || decide (cmpR (lat l ((i : Int) - 1)) (lat l (i : Int)) < 0))
def allowsM (l : List Rg) (op ver t : Int) : Bool := decide (validRgs l = true /\ (bsM l ⟨op, ver, 0, 0, 0⟩).2 = true /\ 3 <= (lat l (bsI l ⟨op, ver, 0, 0, 0⟩)).nu /\ (lat l (bsI l ⟨op, ver, 0, 0, 0⟩)).le <= t /\ t <= (lat l (bsI l ⟨op, ver, 0, 0, 0⟩)).mo)
def supM (r : Req) (l : List Rg) : Bool := validR r && r.ex.all fun x => decide (x.pc = -1) || allowsM l x.op x.ver x.ba
end Go.Lat
namespace Go.Lat
open Go.RowKit
theorem job_ok {sv : List Int} {jobs : List Job} (h : validJ sv jobs = true) : (1 <= sv.length /\ sv.length <= 6 /\ jobs.length <= 24) /\ (∀ n ∈ sv, 1 <= n /\ n <= 4) ∧
    ∀ j ∈ jobs, (0 <= j.ar /\ j.ar <= 4398046511104 /\ j.wk.length <= 6) /\ ∀ w ∈ j.wk, 0 <= w.st /\ w.st <= (sv.length : Int) - 1 /\ 0 <= w.tm /\ w.tm <= 1099511627776 := by
  unfold validJ at h
  simp only [Bool.and_eq_true, List.all_eq_true, decide_eq_true_eq] at h
  refine ⟨h.1.1, h.1.2, fun j hj => ?_⟩
  have := h.2 j hj
  unfold jobOk at this
  simp only [Bool.and_eq_true, List.all_eq_true, decide_eq_true_eq] at this
  exact this
theorem leastS_spec (l : List Sta) : (leastS l = -1 /\ ∀ i : Nat, i < l.length -> ¬ (lat l i).dn < (lat l i).al) ∨
    ∃ i : Nat, leastS l = i /\ i < l.length /\ (lat l i).dn < (lat l i).al /\ ∀ k : Nat, k < l.length -> (lat l k).dn < (lat l k).al -> (lat l i).rd <= (lat l k).rd /\ (k < i -> (lat l i).rd < (lat l k).rd) := by
  have := leastN_spec (fun s : Sta => decide (s.dn < s.al)) (·.rd) l l.length
  simp only [decide_eq_true_eq] at this
  exact this
theorem leastI_spec (l : List Int) (h : 0 < l.length) : ∃ i : Nat, leastI l = i /\ i < l.length /\ ∀ k : Nat, k < l.length -> lat l i <= lat l k /\ (k < i -> lat l i < lat l k) := by
  rcases leastN_spec (fun _ : Int => true) (fun n => n) l l.length with ⟨_, h2⟩ | ⟨i, h1, h2, h3, h4⟩
  . exact absurd rfl (h2 0 h)
  . exact ⟨i, h1, h2, fun k hk => h4 k hk rfl⟩
structure RInv (sv : List Int) (jobs : List Job) (c : Nat) (s : RunS) : Prop where
  v : validJ sv jobs = true
  fl : s.fr.length = sv.length
  sl : s.ss.length = jobs.length
  al : ∀ i : Nat, i < jobs.length -> (lat s.ss i).al = (lat jobs i).wk.length /\ 0 <= (lat s.ss i).dn /\ (lat s.ss i).dn <= (lat s.ss i).al
  rd : ∀ i : Nat, i < jobs.length -> 0 <= (lat s.ss i).rd /\ (lat s.ss i).rd <= 4398046511104 + c * 1099511627776
  fb : ∀ i k : Nat, i < sv.length -> 0 <= vat (lat s.fr i) k /\ vat (lat s.fr i) k <= 4398046511104 + c * 1099511627776
  left : c + leftM s = leftM (initM sv jobs)
theorem sum_le {l : List Nat} {b : Nat} (h : ∀ x ∈ l, x <= b) : l.sum <= b * l.length := by
  induction l with
  | nil => simp
  | cons x l ih =>
    have := ih fun y hy => h y (by simp [hy])
    have := h x (by simp)
    rw [List.sum_cons, List.length_cons, Nat.mul_add]; omega
theorem left_init {sv : List Int} {jobs : List Job} (h : validJ sv jobs = true) : leftM (initM sv jobs) <= 144 := by
  obtain ⟨h1, h2, h3⟩ := job_ok h
  have := sum_le (b := 6) (l := (initM sv jobs).ss.map fun x => (x.al - x.dn).toNat) (fun x hx => by
    simp only [initM, List.map_map, List.mem_map, Function.comp] at hx
    obtain ⟨j, hj, rfl⟩ := hx
    have := (h3 j hj).1.2.2
    omega)
  simp only [initM, List.length_map] at this
  unfold leftM
  simp only [initM]
  omega
theorem RInv.init {sv : List Int} {jobs : List Job} (h : validJ sv jobs = true) : RInv sv jobs 0 (initM sv jobs) := by
  obtain ⟨h1, h2, h3⟩ := job_ok h
  have key : ∀ i : Nat, i < jobs.length -> lat (initM sv jobs).ss i = ⟨0, (lat jobs i).wk.length, (lat jobs i).ar⟩ := fun i hi => by
    rw [lat_get (by simpa [initM] using hi), lat_get hi]; simp [initM]
  refine ⟨h, by simp [initM], by simp [initM], fun i hi => ?_, fun i hi => ?_, fun i k hi => ?_, by omega⟩
  . rw [key i hi]; simp
  . rw [key i hi]
    have := (h3 (lat jobs i) (lat_mem ⟨by omega, by omega⟩)).1
    simp only; omega
  . have : lat (initM sv jobs).fr i = Vector.replicate 4 0 := by rw [lat_get (by simpa [initM] using hi)]; simp [initM]
    rw [this]
    rcases Nat.lt_or_ge k 4 with h | h
    . rw [vat_rep h]; omega
    . rw [vat_ge h]; omega
theorem sum_set {l : List Nat} {i x : Nat} (h : i < l.length) : (l.set i x).sum + l.getD i 0 = l.sum + x := by
  induction l generalizing i with
  | nil => simp at h
  | cons y l ih =>
    cases i with
    | zero => simp; omega
    | succ i =>
      have := ih (i := i) (by simpa using h)
      simp only [List.set_cons_succ, List.sum_cons, List.getD_cons_succ]
      omega
structure StepOk (sv : List Int) (jobs : List Job) (c : Nat) (s : RunS) (i : Nat) : Prop where
  lt : i < jobs.length
  dn : (lat s.ss i).dn < (lat jobs i).wk.length
  st : 0 <= (workM jobs s i).st /\ (workM jobs s i).st < sv.length
  tm : 0 <= (workM jobs s i).tm /\ (workM jobs s i).tm <= 1099511627776
  nb : 1 <= lat sv (workM jobs s i).st /\ lat sv (workM jobs s i).st <= 4
  slot : ∃ k : Nat, slotM sv s (workM jobs s i).st = k /\ (k : Int) < lat sv (workM jobs s i).st /\ ∀ q : Nat, (q : Int) < lat sv (workM jobs s i).st -> vat (lat s.fr (workM jobs s i).st) k <= vat (lat s.fr (workM jobs s i).st) q
  vis : 0 <= (visM sv jobs s i).st /\ (visM sv jobs s i).st <= 4398046511104 + c * 1099511627776 /\ (visM sv jobs s i).en = (visM sv jobs s i).st + (workM jobs s i).tm
  next : RInv sv jobs (c + 1) (nextM sv jobs s i)
  less : leftM s = leftM (nextM sv jobs s i) + 1
theorem take_vat {q : Nat} (M : Vector Int q) {m k : Nat} (hk : k < m) (_hm : m <= q) : lat (M.toList.take m) (k : Int) = vat M k := by
  rw [lat_nat, List.getD_eq_getElem?_getD, List.getElem?_take_of_lt hk]
  unfold vat
  rw [List.getD_eq_getElem?_getD]; rfl
theorem RInv.step {sv : List Int} {jobs : List Job} {c : Nat} {s : RunS} (h : RInv sv jobs c s) {i : Nat} (hi : i < s.ss.length) (hd : (lat s.ss i).dn < (lat s.ss i).al) : StepOk sv jobs c s i := by
  obtain ⟨h1, h2, h3⟩ := job_ok h.v
  have hlt : i < jobs.length := by rw [<- h.sl]; exact hi
  have a := h.al i hlt
  have hdn : (lat s.ss i).dn < (lat jobs i).wk.length := by omega
  have hj := h3 (lat jobs i) (lat_mem ⟨by omega, by omega⟩)
  have hw : 0 <= (workM jobs s i).st /\ (workM jobs s i).st <= (sv.length : Int) - 1 /\ 0 <= (workM jobs s i).tm /\ (workM jobs s i).tm <= 1099511627776 := hj.2 _ (lat_mem ⟨a.2.1, hdn⟩)
  have hs := h2 (lat sv (workM jobs s i).st) (lat_mem ⟨hw.1, by omega⟩)
  obtain ⟨p, hp⟩ : ∃ p : Nat, (workM jobs s i).st = p := ⟨(workM jobs s i).st.toNat, by omega⟩
  have hfb := fun k => h.fb p k (by omega)
  have hl4 : (((lat s.fr (workM jobs s i).st)).toList.take (lat sv (workM jobs s i).st).toNat).length = (lat sv (workM jobs s i).st).toNat := by
    rw [List.length_take, Vector.length_toList]; omega
  obtain ⟨k, k1, k2, k3⟩ := leastI_spec (((lat s.fr (workM jobs s i).st)).toList.take (lat sv (workM jobs s i).st).toNat) (by omega)
  have hslot : slotM sv s (workM jobs s i).st = k := k1
  have hr := h.rd i hlt
  have hv : (visM sv jobs s i).st = max (lat s.ss i).rd (vat (lat s.fr (workM jobs s i).st) k) := by unfold visM; simp only [hslot, Int.toNat_natCast]
  have he : (visM sv jobs s i).en = (visM sv jobs s i).st + (workM jobs s i).tm := rfl
  have hf := hfb k
  rw [<- hp] at hf
  have hvb : 0 <= (visM sv jobs s i).st /\ (visM sv jobs s i).st <= 4398046511104 + c * 1099511627776 := by rw [hv]; omega
  have hB : ((c + 1 : Nat) : Int) * 1099511627776 = c * 1099511627776 + 1099511627776 := by omega
  have hless : leftM s = leftM (nextM sv jobs s i) + 1 := by
    unfold leftM nextM
    simp only [List.map_set]
    have e := sum_set (l := s.ss.map fun x => (x.al - x.dn).toNat) (i := i) (x := ((lat s.ss i).al - ((lat s.ss i).dn + 1)).toNat) (by simpa using hi)
    have e2 : (s.ss.map fun x => (x.al - x.dn).toNat).getD i 0 = ((lat s.ss i).al - (lat s.ss i).dn).toNat := by
      rw [List.getD_eq_getElem?_getD, List.getElem?_map, List.getElem?_eq_getElem hi, lat_get hi]; rfl
    rw [e2] at e
    simp only [Int.toNat_natCast]
    omega
  refine ⟨hlt, hdn, ⟨hw.1, by omega⟩, ⟨hw.2.2.1, hw.2.2.2⟩, hs, ⟨k, hslot, by omega, fun q hq => ?_⟩, ⟨hvb.1, hvb.2, he⟩, ?_, hless⟩
  . have := (k3 q (by omega)).1
    rw [take_vat _ (by omega) (by omega), take_vat _ (by omega) (by omega)] at this
    exact this
  . refine ⟨h.v, by simp [nextM, h.fl], by simp [nextM, h.sl], fun j hj => ?_, fun j hj => ?_, fun j q hj => ?_, by have := h.left; omega⟩
    . have aj := h.al j hj
      have := lat_set (l := s.ss) (i := (i : Int)) (j := j) (x := (⟨(lat s.ss i).dn + 1, (lat s.ss i).al, (visM sv jobs s i).en⟩ : Sta)) ⟨by omega, by omega⟩
      simp only [nextM]
      rw [this]
      by_cases e : (j : Int) = i
      . rw [if_pos e]
        have : j = i := by omega
        subst this
        simp only; omega
      . rw [if_neg e]; exact aj
    . have rj := h.rd j hj
      have := lat_set (l := s.ss) (i := (i : Int)) (j := j) (x := (⟨(lat s.ss i).dn + 1, (lat s.ss i).al, (visM sv jobs s i).en⟩ : Sta)) ⟨by omega, by omega⟩
      simp only [nextM]
      rw [this]
      by_cases e : (j : Int) = i
      . rw [if_pos e]
        simp only; omega
      . rw [if_neg e]; omega
    . have fj := h.fb j q hj
      have := lat_set (l := s.fr) (i := (workM jobs s i).st) (j := j) (x := vset (lat s.fr (workM jobs s i).st) k (visM sv jobs s i).en) ⟨hw.1, by rw [h.fl]; omega⟩
      simp only [nextM]
      rw [hslot, Int.toNat_natCast, this]
      by_cases e : (j : Int) = (workM jobs s i).st
      . rw [if_pos e, vat_vset (by omega), <- e]
        split
        . omega
        . omega
      . rw [if_neg e]; omega
theorem runN_neg {sv : List Int} {jobs : List Job} {n : Nat} {s : RunS} (h : leastS s.ss < 0) : runN sv jobs n s = [] := by
  cases n with
  | zero => rfl
  | succ n => unfold runN; rw [if_pos h]
theorem runN_pos {sv : List Int} {jobs : List Job} {n : Nat} {s : RunS} (h : ¬ leastS s.ss < 0) : runN sv jobs (n + 1) s = ⟨leastS s.ss, visM sv jobs s (leastS s.ss)⟩ :: runN sv jobs n (nextM sv jobs s (leastS s.ss)) := by
  conv => lhs; unfold runN
  rw [if_neg h]
end Go.Lat
namespace Go.Lat
open Go.RowKit Go.Proofs
structure JW where
  ar : Int
  gone : Bool
  wk : List Ld
instance : Inhabited JW := ⟨⟨0, true, []⟩⟩
def jwC (q : Nat) (js : List JW) (i : Nat) : List AV := [.int .i64 (lat js (i : Int)).ar, if (lat js (i : Int)).gone then .nilS else .ref false (q + i) (lat js (i : Int)).wk.length]
def jwO (js : List JW) (i : Nat) : AObj := .row 60 2 (zYy e60 (lat js (i : Int)).wk)
def jwR (q : Nat) (js : List JW) : AObj := .row 53 2 (cellsN (jwC q js) js.length)
def jwK (B S : AObj) (js : List JW) : List AObj := [B, jwR 3 js, S] ++ objsN (jwO js) js.length
def jwH (js : List JW) : List AObj := [.dead, jwR 3 js, .dead] ++ objsN (jwO js) js.length
theorem wdJ (q : Nat) (js : List JW) : Wd (jwC q js) 2 := fun _ => rfl
theorem latN_set {α : Type} [Inhabited α] {l : List α} {i j : Nat} {x : α} (hi : i < l.length) : lat (l.set i x) (j : Int) = if j = i then x else lat l (j : Int) := by
  rw [lat_nat, lat_nat, List.getD_eq_getElem?_getD, List.getD_eq_getElem?_getD, List.getElem?_set]
  by_cases e : i = j
  . subst e; simp [hi]
  . have : ¬ j = i := fun x => e x.symm
    simp [e, this]
theorem spec_f70 (js : List JW) (j : Nat) (hj : j < js.length) : FnG Try.prog 70 (jwH js) [.ptr 1 (j * 2)] (fun _ H' => H' = jwH (js.set j ⟨(lat js (j : Int)).ar, true, (lat js (j : Int)).wk⟩)) := by
  refine FnG.of_walk (T := tt) (nt := 5) ttOk ttMix ⟨⟨Try.f70, Try.func70, rfl, rfl, rfl, rfl⟩⟩ (by simp) (by simp [jwH]) ?_
  change W _ _ _ ⟨5, look [(0, .ptr 1 (j * 2))], jwH js, (jwH js).length⟩ _
  refine W.rL1 (cL rfl (zZp (v := .ptr _ _) rfl (cL rfl (o_nil rfl (cL rfl (o_fa tt53 rfl tt51 rfl (cLn (o_stR (v := .nilS) (vs := [.nilS]) tt51 rfl rfl rfl rfl rfl (cellsN_in (wdJ _ _) hj (Nat.le_refl _)) (cellsN_spl (wdJ _ _) hj (Nat.le_refl _)) (eL (rn (rt_n ?_)))))))))))
  show [AObj.dead, _, .dead] ++ objsN (jwO js) js.length = _
  unfold jwH jwR
  rw [List.length_set]
  congr 1
  . congr 2
    congr 1
    refine cellsN_congr fun i hi => ?_
    by_cases e : i = j
    . subst e
      simp [jwC, latN_set hj, Lat.spl]
    . simp [jwC, latN_set hj, e]
  . refine objsN_congr fun i hi => ?_
    unfold jwO
    rw [latN_set hj]
    split
    . rename_i e; subst e; rfl
    . rfl
theorem spec_f71 (js : List JW) (j : Nat) (x : Ext) (hj : j < js.length) (hg : (lat js (j : Int)).gone = false) (hp : 0 <= x.pc /\ x.pc < (lat js (j : Int)).wk.length) :
    FnG Try.prog 71 (jwH js) [.ptr 1 (j * 2), .ipt true (e58 x)] (fun _ H' => H' = jwH (js.set j ⟨(lat js (j : Int)).ar, false, (lat js (j : Int)).wk.set x.pc.toNat ⟨(lat (lat js (j : Int)).wk x.pc).st, x.ba⟩⟩)) := by
  refine FnG.of_walk (T := tt) (nt := 13) ttOk ttMix ⟨⟨Try.f71, Try.func71, rfl, rfl, rfl, rfl⟩⟩ (by simp) (by simp [jwH]) ?_
  change W _ _ _ ⟨13, look [(0, .ptr 1 (j * 2)), (1, .ipt true (e58 x))], jwH js, (jwH js).length⟩ _
  have hc : ∃ rest, cellsAt (jwH js) (.ptr 1 (j * 2 + 1)) = some (.ref false (3 + j) (lat js (j : Int)).wk.length :: rest) := by
    obtain ⟨rest, hr⟩ := ca_N (h := jwH js) (id := 1) (i := j) (k := 1) rfl (wdJ 3 js) hj (by omega)
    refine ⟨rest, ?_⟩
    rw [hr]
    simp [jwC, hg]
  have ho : (jwH js)[3 + j]? = some (jwO js j) := objsN_getA (A := [.dead, jwR 3 js, .dead]) hj
  refine W.rD1 [0, 1, 2, 3, 4, 5, 6, 7, 8, 9, 10] (by decide +kernel) rfl (cL rfl (zZp (v := .ptr _ _) rfl (cL rfl (o_nil rfl (cL rfl (o_fa tt53 rfl tt51 rfl (cL rfl (zZx (v := .ref _ _ _) tt51 rfl rfl hc (cL rfl (o_faP tt58 rfl tt3 rfl (cL rfl (zZx (v := .int _ _) tt3 rfl rfl ⟨_, rfl⟩
    (cL rfl (o_faP tt58 rfl tt3 rfl (cL rfl (zZx (v := .int _ _) tt3 rfl rfl ⟨_, rfl⟩ (cL rfl (o_iaR tt51 tt60 rfl rfl hp (cL rfl (o_fa tt60 rfl tt3 rfl (cLn (o_stR (v := .int _ _) (vs := [.int _ _]) tt3 rfl rfl rfl rfl ho
      (row_inF (xs := (lat js (j : Int)).wk) (enc60.wd false) hp rfl) (row_setF (e := e60) (enc60.wd false) _ _ 1 ⟨(lat (lat js (j : Int)).wk x.pc).st, x.ba⟩ rfl rfl hp) (eL (rn (rt_n ?_)))))))))))))))))))))))))
  show ([AObj.dead, jwR 3 js, .dead] ++ objsN (jwO js) js.length).set ([AObj.dead, jwR 3 js, .dead].length + j) _ = _
  rw [objsN_setA hj]
  unfold jwH jwR
  rw [List.length_set]
  congr 1
  . congr 2
    congr 1
    refine cellsN_congr fun i hi => ?_
    by_cases e : i = j
    . subst e
      simp [jwC, latN_set hj, hg]
    . simp [jwC, latN_set hj, e]
  . refine objsN_congr fun i hi => ?_
    unfold jwO
    rw [latN_set hj]
    by_cases e : i = j
    . rw [if_pos e, if_pos e]
    . rw [if_neg e, if_neg e]
theorem jw_all {P : Nat -> AObj -> Prop} {B R S : AObj} {f : Nat -> AObj} {n : Nat} (h0 : P 0 B) (h1 : P 1 R) (h2 : P 2 S) (h3 : ∀ k, k < n -> P (3 + k) (f k)) : ∀ (i : Nat) o, ([B, R, S] ++ objsN f n)[i]? = some o -> P i o := by
  intro i o h
  rcases i with _ | _ | _ | i
  . cases h; exact h0
  . cases h; exact h1
  . cases h; exact h2
  . rw [List.getElem?_append_right (by simp)] at h
    have h : (objsN f n)[i]? = some o := h
    have hi : i < n := by
      have := (List.getElem?_eq_some_iff.1 h).1
      rwa [objsN_len] at this
    rw [objsN_get hi] at h
    cases h
    rw [show i + 1 + 1 + 1 = 3 + i by omega]
    exact h3 i hi
def ToO (g : Nat -> Option Nat) (n : Nat) (h : List AObj) (i : Nat) (o : AObj) : Prop := (g i = none /\ o.live = false) \/ ∃ k, g i = some k /\ (o = .dead \/ ∃ o0, h[k]? = some o0 /\ RenO (idx n g) o0 o)
theorem to_jw {nt : Nat} {tm : Nat -> AV} {l : List (Nat × AV)} {h : List AObj} {B' S' : AObj} {js' : List JW} (g : Nat -> Option Nat)
    (hinj : ∀ i j k, i < 3 + js'.length -> j < 3 + js'.length -> g i = some k -> g j = some k -> i = j) (hr : regsT (idx (3 + js'.length) g) tm l)
    (h0 : ToO g (3 + js'.length) h 0 B') (h1 : ToO g (3 + js'.length) h 1 (jwR 3 js')) (h2 : ToO g (3 + js'.length) h 2 S') (h3 : ∀ k, k < js'.length -> ToO g (3 + js'.length) h (3 + k) (jwO js' k)) :
    St.to ⟨nt, tm, h, 0⟩ ⟨nt, look l, jwK B' S' js', 0⟩ := by
  have hl : (jwK B' S' js').length = 3 + js'.length := by simp [jwK, objsN_len]; omega
  have hh := RenH.idx (g := g) (h := h) (h' := jwK B' S' js') (by
    rw [hl]
    exact jw_all h0 h1 h2 h3)
  rw [hl] at hh
  exact St.to_mk (injB_idx hinj) (by simp [pinB, pinF]) hr hh
theorem ren_jwC {φ : List (Option Nat)} {js : List JW} {i : Nat} (h : (lat js (i : Int)).gone = false -> φ[3 + i]? = some (some (3 + i))) : Rens φ (jwC 3 js i) (jwC 3 js i) := by
  refine Rens.cons (Ren.int _ _) (Rens.cons ?_ Rens.nil)
  rcases hg : (lat js (i : Int)).gone with _ | _
  . rw [if_neg (by simp)]; exact Ren.ref (h hg) fun h => h
  . rw [if_pos rfl]; exact Ren.nilS
theorem ren_jwR {φ : List (Option Nat)} {js js' : List JW} {e : Nat -> List AV} (he : Wd e 2) (hl : js'.length = js.length) (h : ∀ i, i < js.length -> Rens φ (e i) (jwC 3 js' i)) : RenO φ (.row 53 2 (cellsN e js.length)) (jwR 3 js') := by
  refine ⟨rfl, rfl, ?_, ?_⟩
  . rw [cellsN_len (wdJ _ _), cellsN_len he, hl]
  . rw [hl]
    exact Rens.cellsN fun i hi => ⟨h i hi, by rw [he, wdJ]⟩
theorem ren_jwO {φ : List (Option Nat)} (js : List JW) (k : Nat) : RenO φ (jwO js k) (jwO js k) := ⟨rfl, rfl, rfl, Rens.enc enc60 false _⟩
theorem lat_ext {α : Type} [Inhabited α] {xs ys : List α} (hl : xs.length = ys.length) (h : ∀ k : Nat, k < xs.length -> lat xs (k : Int) = lat ys (k : Int)) : xs = ys := by
  apply List.ext_getElem hl
  intro i h1 h2
  have := h i h1
  rw [lat_get h1, lat_get h2] at this
  exact this
theorem lat_map {α β : Type} [Inhabited α] [Inhabited β] {f : α -> β} {xs : List α} {k : Nat} (h : k < xs.length) : lat (xs.map f) (k : Int) = f (lat xs (k : Int)) := by
  rw [lat_get h, lat_get (by simpa using h)]; simp
theorem lat_rep {α : Type} [Inhabited α] {x : α} {n k : Nat} (h : k < n) : lat (List.replicate n x) (k : Int) = x := by
  rw [lat_get (by simpa using h)]; simp
def toJob (w : JW) : Job := ⟨w.ar, if w.gone then [] else w.wk⟩
theorem rs_jw (k : Nat) (js : List JW) {n : Nat} (hn : n = js.length) : Wk (cvO (k + 3) (jwH js) (.ref false 1 n)) (.lst false n (zYy (e53 true) (js.map toJob))) := by
  have e1 : (jwH js)[1]? = some (jwR 3 js) := rfl
  have e2 : cvO (k + 3) (jwH js) (.ref false 1 n) = .lst false n (((cellsN (jwC 3 js) js.length).take (n * 2)).map (cvI (k + 2) (jwH js))) := by
    show (match (jwH js)[1]? with | some (.row _ sz cs) => AV.lst false n ((cs.take (n * sz)).map (cvI (k + 2) (jwH js))) | _ => .any) = _
    rw [e1]; rfl
  rw [e2]
  refine Wk.lsts _ _ ?_
  rw [List.take_of_length_le (by rw [cellsN_len (wdJ _ _), hn]; exact Nat.le_refl _), cellsN_map, cellsN_encL, List.length_map]
  refine Wks.cellsN fun i hi => ?_
  rw [lat_map hi]
  have hb : (jwH js)[3 + i]? = some (jwO js i) := objsN_getA (A := [.dead, jwR 3 js, .dead]) hi
  refine Wks.cons (agI_int _ _ _ _) (Wks.cons ?_ (Wks.refl _))
  rcases hg : (lat js (i : Int)).gone with _ | _
  . simp only [toJob, hg, Bool.false_eq_true, if_false]
    have e3 : cvI (k + 2) (jwH js) (.ref false (3 + i) (lat js (i : Int)).wk.length) = .lst true (lat js (i : Int)).wk.length (((zYy e60 (lat js (i : Int)).wk).take ((lat js (i : Int)).wk.length * 2)).map (cvI (k + 1) (jwH js))) := by
      show (match (jwH js)[3 + i]? with | some (.row _ sz cs) => AV.lst true (lat js (i : Int)).wk.length ((cs.take ((lat js (i : Int)).wk.length * sz)).map (cvI (k + 1) (jwH js))) | _ => .any) = _
      rw [hb]; rfl
    rw [e3, List.take_of_length_le (by rw [zYw (enc60.wd false)]; exact Nat.le_refl _)]
    exact Wk.lsts _ _ (encL_ci enc60 k _ _)
  . simp only [toJob, hg, if_true]
    show Wk (cvI (k + 2) (jwH js) .nilS) _
    exact Wk.nil' _ _ _ rfl
def applyC (js : List JW) : Chg -> List JW
  | .upd x => js.set x.jb.toNat ⟨(lat js x.jb).ar, false, (lat js x.jb).wk.set x.pc.toNat ⟨(lat (lat js x.jb).wk x.pc).st, x.ba⟩⟩
  | .rem j => js.set j.toNat ⟨(lat js j).ar, true, (lat js j).wk⟩
def okC (js : List JW) : Chg -> Prop
  | .upd x => (0 <= x.jb /\ x.jb < js.length) /\ (lat js x.jb).gone = false /\ 0 <= x.pc /\ x.pc < (lat js x.jb).wk.length
  | .rem j => 0 <= j /\ j < js.length
def okAll : List JW -> List Chg -> Prop
  | _, [] => True
  | js, c :: cs => okC js c /\ okAll (applyC js c) cs
theorem applyC_len (js : List JW) (c : Chg) : (applyC js c).length = js.length := by cases c <;> simp [applyC]
theorem foldC_len (js : List JW) (cs : List Chg) : (cs.foldl applyC js).length = js.length := by
  induction cs generalizing js with
  | nil => rfl
  | cons c cs ih => rw [List.foldl_cons, ih, applyC_len]
theorem okAll_at : ∀ {cs : List Chg} {js : List JW}, okAll js cs -> ∀ {i : Nat}, i < cs.length -> okC ((cs.take i).foldl applyC js) (lat cs (i : Int))
  | [], _, _, i, hi => by simp at hi
  | c :: cs, js, h, 0, hi => by
    rw [lat_get hi]; exact h.1
  | c :: cs, js, h, i + 1, hi => by
    rw [lat_get hi]
    have h2 : i < cs.length := by simpa using hi
    have := okAll_at h.2 h2
    rw [lat_get h2] at this
    simpa using this
def fullJ (j : Job) : JW := ⟨j.ar, false, j.wk⟩
def withM (r : Req) (p : Int) : List Job := ((chgM r.ex p).foldl applyC (r.jobs.map fullJ)).map toJob
theorem o_cpR {P : Program} {T : TT} {d : Option Tmp} {ty : TypeId} {pos : String} {af : Array Edge} {g : Option (Nat × Bool)} {n : Nat} {l : List (Nat × AV)} {h : List AObj} {b : Nat} {K : AV -> List AObj -> Prop} {a a2 : Operand}
    {t t2 e et : TypeId} {s by_ es eb id m : Nat} {z ez : List AV} {ek : TK} {nb fl : Bool} {α : Type} {en : α -> List AV} {xs ys : List α} (ht : T t = some ⟨.sl e, s, by_, z⟩) (he : T e = some ⟨ek, es, eb, ez⟩) (hw : Wd en es)
    (h1 : St.eval ⟨n, look l, h, b⟩ a = .ref nb id m) (h2 : St.eval ⟨n, look l, h, b⟩ a2 = .lst fl m (zYy en xs)) (ho : h[id]? = some (.row et es (zYy en ys))) (hx : xs.length = m) (hy : ys.length = m)
    (hk : K (.int .i64 (m : Int)) (h.set id (.row et es (zYy en xs)))) : opC P T ⟨d, .call ⟨.builtin .copy, #[a, a2], #[t, t2]⟩, ty, pos, af, g⟩ ⟨n, look l, h, b⟩ K := by
  show copyA T h t (St.eval ⟨n, look l, h, b⟩ a) (St.eval ⟨n, look l, h, b⟩ a2) K
  rw [h1, h2]
  have hlen : (zYy en xs).length = m * es := by rw [zYw hw, hx]
  simp only [copyA, ht, he, srcA]
  rw [List.take_of_length_le (by omega : (zYy en xs).length <= m * es), Nat.min_self]
  refine ⟨hlen, fun h0 => ?_, fun h0 => ?_⟩
  . subst h0
    have hx0 : xs = [] := List.eq_nil_of_length_eq_zero hx
    have hy0 : ys = [] := List.eq_nil_of_length_eq_zero hy
    subst hx0; subst hy0
    have e0 : h.set id (.row et es (zYy en [])) = h := by
      apply List.ext_getElem?
      intro j
      by_cases hij : id = j
      . subst hij
        rw [List.getElem?_set_self (List.getElem?_eq_some_iff.1 ho).1, ho]
      . rw [List.getElem?_set_ne hij]
    rw [e0] at hk
    exact hk
  . rw [List.take_of_length_le (by omega : (zYy en xs).length <= m * es)]
    have hly : (zYy en ys).length = m * es := by rw [zYw hw, hy]
    simp only [putCells, ho]
    refine ⟨by omega, ?_⟩
    rw [spl_all _ _ (by omega)]
    exact hk
def lateM (r : Req) (p : Int) : Int × Int := latenessM' r (withM r p)
def latenessM (r : Req) (p : Int) : Int × Int := if isSetM r p = true then lateM r p else (0, 240)
def withE (r : Req) (p : Int) : List Job × Int := if isSetM r p = true then (withM r p, 0) else ([], 240)
def valuesM (r : Req) : List Int × Int := if validR r = true then
    (match ((rangeI (2 ^ r.causes.toNat)).find? fun s => decide (¬ (lateM r s).2 = 0)) with
    | some s => ([], (lateM r s).2)
    | none => ((rangeI (2 ^ r.causes.toNat)).map fun s => (lateM r s).1, 0)) else ([], 240)
end Go.Lat
namespace Go.Lat
open Go.RowKit
theorem orM2 (a b : Int) : orM [a, b] = if ¬ a = 0 then a else b := by
  unfold orM
  simp only [List.foldr_cons, List.foldr_nil]
  by_cases h : b = 0
  . subst h; simp
  . simp [h]
theorem exLt_iff (a b : Ext) : (0 <= orM [cmpM a.jb b.jb, cmpM a.pc b.pc]) ↔ ¬ extLt a b = true := by
  rw [orM2]
  unfold extLt cmpM
  rw [decide_eq_true_eq]
  split <;> split <;> omega
structure ValidR (r : Req) : Prop where
  j : validJ r.sv r.jobs = true
  late : 0 <= r.late /\ r.late < r.jobs.length
  obj : 0 <= r.obj /\ r.obj <= 4398046511104
  causes : 0 <= r.causes /\ r.causes <= 6
  ex : ∀ i : Nat, i < r.ex.length -> ((0 <= (lat r.ex i).jb /\ (lat r.ex i).jb < r.jobs.length) /\ 0 <= (lat r.ex i).ca /\ (lat r.ex i).ca < r.causes) /\ (isRemM r (lat r.ex i) = true \/ isWorkM r (lat r.ex i) = true)
  ord : ∀ i : Nat, i + 1 < r.ex.length -> extLt (lat r.ex i) (lat r.ex ((i + 1 : Nat) : Int)) = true
theorem validR_iff (r : Req) : validR r = true ↔ ValidR r := by
  unfold validR
  rw [Bool.and_eq_true, Bool.and_eq_true, decide_eq_true_eq]
  unfold extsOk
  rw [List.all_eq_true]
  constructor
  . rintro ⟨⟨h1, h2⟩, h3⟩
    refine ⟨h1, by omega, h2.2.1, h2.2.2, fun i hi => ?_, fun i hi => ?_⟩
    . have := h3 i (by simpa using hi)
      rw [Bool.and_eq_true] at this
      have := this.1
      unfold extOk at this
      rw [Bool.and_eq_true, decide_eq_true_eq, Bool.or_eq_true] at this
      exact ⟨⟨by omega, by omega⟩, this.2⟩
    . have := h3 (i + 1) (by simpa using hi)
      rw [Bool.and_eq_true, Bool.or_eq_true, decide_eq_true_eq] at this
      have := this.2.resolve_left (by omega)
      rwa [show (((i + 1 : Nat) : Int) - 1) = (i : Int) by omega] at this
  . intro h
    refine ⟨⟨h.j, by have := h.late; have := h.obj; have := h.causes; omega⟩, fun i hi => ?_⟩
    have hi : i < r.ex.length := by simpa using hi
    rw [Bool.and_eq_true, Bool.or_eq_true, decide_eq_true_eq]
    constructor
    . have := h.ex i hi
      unfold extOk
      rw [Bool.and_eq_true, decide_eq_true_eq, Bool.or_eq_true]
      exact ⟨by omega, this.2⟩
    . rcases i with _ | i
      . exact .inl rfl
      . right
        have := h.ord i hi
        rwa [show (((i + 1 : Nat) : Int) - 1) = (i : Int) by omega]
def keyX (x : Ext) : Int := x.jb * 7 + x.pc + 1
theorem ValidR.pc {r : Req} (h : ValidR r) {i : Nat} (hi : i < r.ex.length) : -1 <= (lat r.ex i).pc /\ (lat r.ex i).pc <= 5 := by
  obtain ⟨⟨h1, _⟩, h2⟩ := h.ex i hi
  rcases h2 with h2 | h2
  . unfold isRemM at h2
    rw [decide_eq_true_eq] at h2
    omega
  . unfold isWorkM at h2
    rw [decide_eq_true_eq] at h2
    have := ((job_ok h.j).2.2 _ (lat_mem (xs := r.jobs) (i := (lat r.ex (i : Int)).jb) ⟨h1.1, h1.2⟩)).1
    omega
theorem ValidR.key {r : Req} (h : ValidR r) : ∀ i : Nat, i < r.ex.length -> (i : Int) <= keyX (lat r.ex i)
  | 0, hi => by
    have := (h.ex 0 hi).1
    have := h.pc hi
    unfold keyX; omega
  | i + 1, hi => by
    have ih := ValidR.key h i (by omega)
    have h1 := h.ord i hi
    have p1 := h.pc (i := i) (by omega)
    have p2 := h.pc hi
    unfold extLt at h1
    rw [decide_eq_true_eq] at h1
    unfold keyX at *
    omega
theorem ValidR.len {r : Req} (h : ValidR r) : r.ex.length <= 168 := by
  rcases Nat.lt_or_ge 168 r.ex.length with h1 | h1
  . have h2 := h.key 168 h1
    have h3 := (h.ex 168 h1).1
    have h4 := h.pc h1
    have h5 := (job_ok h.j).1
    unfold keyX at h2
    omega
  . exact h1
theorem ValidR.mem {r : Req} (h : ValidR r) {x : Ext} (hx : x ∈ r.ex) : ((0 <= x.jb /\ x.jb < r.jobs.length) /\ 0 <= x.ca /\ x.ca < r.causes) /\ (isRemM r x = true \/ isWorkM r x = true) := by
  obtain ⟨i, hi, rfl⟩ := List.mem_iff_getElem.1 hx
  have := h.ex i hi
  rwa [lat_get hi] at this
theorem okAll_app {js : List JW} {a b : List Chg} (h1 : okAll js a) (h2 : okAll (a.foldl applyC js) b) : okAll js (a ++ b) := by
  induction a generalizing js with
  | nil => exact h2
  | cons c a ih => exact ⟨h1.1, ih h1.2 h2⟩
structure Sh (r : Req) (g : Bool) (js : List JW) : Prop where
  len : js.length = r.jobs.length
  wk : ∀ k : Nat, k < r.jobs.length -> (lat js k).wk.length = (lat r.jobs k).wk.length
  gone : g = false -> ∀ k : Nat, k < r.jobs.length -> (lat js k).gone = false
theorem lat_setI {α : Type} [Inhabited α] {l : List α} {i : Int} {k : Nat} {x : α} (hi : 0 <= i /\ i < l.length) : lat (l.set i.toNat x) (k : Int) = if (k : Int) = i then x else lat l (k : Int) := lat_set hi
theorem ok_upd {r : Req} : ∀ {l : List Ext} {js : List JW}, Sh r false js -> (∀ x ∈ l, (0 <= x.jb /\ x.jb < r.jobs.length) /\ 0 <= x.pc /\ x.pc < (lat r.jobs x.jb).wk.length) -> okAll js (l.map .upd) /\ Sh r false ((l.map Chg.upd).foldl applyC js)
  | [], js, h, _ => ⟨trivial, h⟩
  | x :: l, js, h, hx => by
    obtain ⟨h1, h2⟩ := hx x (by simp)
    have e : ((x.jb.toNat : Nat) : Int) = x.jb := Int.toNat_of_nonneg h1.1
    have w := h.wk x.jb.toNat (by omega)
    have g := h.gone rfl x.jb.toNat (by omega)
    rw [e] at w g
    have hs : Sh r false (applyC js (.upd x)) := by
      refine ⟨by rw [applyC_len, h.len], fun k hk => ?_, fun _ k hk => ?_⟩
      . show (lat (js.set _ _) (k : Int)).wk.length = _
        rw [lat_setI ⟨h1.1, by rw [h.len]; exact h1.2⟩]
        split
        . rename_i e2
          rw [List.length_set, w, e2]
        . exact h.wk k hk
      . show (lat (js.set _ _) (k : Int)).gone = _
        rw [lat_setI ⟨h1.1, by rw [h.len]; exact h1.2⟩]
        split
        . rfl
        . exact h.gone rfl k hk
    have ih := ok_upd (l := l) hs fun y hy => hx y (List.mem_cons_of_mem _ hy)
    exact ⟨⟨⟨⟨h1.1, by rw [h.len]; exact h1.2⟩, g, h2.1, by omega⟩, ih.1⟩, ih.2⟩
theorem ok_rem {r : Req} : ∀ {l : List Ext} {js : List JW}, Sh r true js -> (∀ x ∈ l, 0 <= x.jb /\ x.jb < r.jobs.length) -> okAll js (l.map fun x => .rem x.jb)
  | [], js, h, _ => trivial
  | x :: l, js, h, hx => by
    have h1 := hx x (by simp)
    have hs : Sh r true (applyC js (.rem x.jb)) := by
      refine ⟨by rw [applyC_len, h.len], fun k hk => ?_, fun e => by cases e⟩
      show (lat (js.set _ _) (k : Int)).wk.length = _
      rw [lat_setI ⟨h1.1, by rw [h.len]; exact h1.2⟩]
      split
      . rename_i e2
        have := h.wk k hk
        rw [e2] at this ⊢
        exact this
      . exact h.wk k hk
    exact ⟨⟨h1.1, by rw [h.len]; exact h1.2⟩, ok_rem (l := l) hs fun y hy => hx y (List.mem_cons_of_mem _ hy)⟩
theorem sh0 (r : Req) : Sh r false (r.jobs.map fullJ) := ⟨by simp, fun k hk => by rw [lat_map hk]; rfl, fun _ k hk => by rw [lat_map hk]; rfl⟩
theorem ValidR.ok {r : Req} (h : ValidR r) (p : Int) : okAll (r.jobs.map fullJ) (chgM r.ex p) := by
  have hu := ok_upd (l := r.ex.filter fun x => decide (¬ hasB p x.ca /\ ¬ x.pc = -1)) (sh0 r) fun x hx => by
    obtain ⟨hx, h2⟩ := List.mem_filter.1 hx
    have h2 := of_decide_eq_true h2
    obtain ⟨h3, h4⟩ := h.mem hx
    refine ⟨h3.1, ?_⟩
    rcases h4 with h4 | h4
    . unfold isRemM at h4
      rw [decide_eq_true_eq] at h4
      exact absurd h4.1 h2.2
    . unfold isWorkM at h4
      rw [decide_eq_true_eq] at h4
      omega
  exact okAll_app hu.1 (ok_rem ⟨hu.2.len, hu.2.wk, fun e => by cases e⟩ fun x hx => (h.mem (List.mem_filter.1 hx).1).1.1)
end Go.Lat
namespace Go.Lat
open Go.RowKit
theorem runN_bound {sv : List Int} {jobs : List Job} : ∀ (n c : Nat) (s : RunS), RInv sv jobs c s -> ∀ d ∈ runN sv jobs n s, (0 <= d.j /\ d.j < jobs.length) /\ 0 <= d.v.en /\ d.v.en <= 163827240599552
  | 0, c, s, _, d, hd => by cases hd
  | n + 1, c, s, h, d, hd => by
    by_cases hl : leastS s.ss < 0
    . rw [runN_neg hl] at hd; cases hd
    . rw [runN_pos hl] at hd
      obtain ⟨i, hi, hil, hid, -⟩ := (leastS_spec s.ss).resolve_left (fun h => hl (by omega))
      rw [hi] at hd
      have so := h.step hil hid
      rcases List.mem_cons.1 hd with rfl | hd
      . have h1 := so.lt
        have h2 := so.vis
        have h3 := so.tm
        have h4 := h.left
        have h5 := left_init h.v
        have h6 := so.less
        have hc : ((c : Nat) : Int) <= 143 := by omega
        exact ⟨⟨by show (0 : Int) <= i; omega, by show (i : Int) < _; omega⟩, by show 0 <= (visM sv jobs s i).en; omega, by show (visM sv jobs s i).en <= _; omega⟩
      . exact runN_bound n (c + 1) _ so.next d hd
theorem runM_bound {sv : List Int} {jobs : List Job} (h : validJ sv jobs = true) : ∀ d ∈ runM sv jobs, (0 <= d.j /\ d.j < jobs.length) /\ 0 <= d.v.en /\ d.v.en <= 163827240599552 := runN_bound _ 0 _ (RInv.init h)
theorem endM_bound {l : List Dn} {j : Int} {b : Int} (h : ∀ d ∈ l, 0 <= d.v.en /\ d.v.en <= b) : ∀ {o : Int}, 0 <= o /\ o <= b -> 0 <= endM l j o /\ endM l j o <= b := by
  unfold endM
  induction l with
  | nil => exact fun h => h
  | cons d l ih =>
    intro o ho
    rw [List.foldl_cons]
    refine ih (fun e he => h e (by simp [he])) ?_
    split
    . exact h d (by simp)
    . exact ho
theorem finishM_bound (sv : List Int) (jobs : List Job) (j : Int) : 0 <= (finishM sv jobs j).1 /\ (finishM sv jobs j).1 <= 163827240599552 := by
  unfold finishM
  split
  . rename_i h
    have := ((job_ok h.1).2.2 _ (lat_mem (xs := jobs) (i := j) ⟨h.2.1, by omega⟩)).1
    exact endM_bound (fun d hd => (runM_bound h.1 d hd).2) (by omega)
  . exact ⟨by omega, by omega⟩
def wkStep (p k : Int) (wk : List Ld) (x : Ext) : List Ld := if x.jb = k /\ ¬ hasB p x.ca /\ ¬ x.pc = -1 then wk.set x.pc.toNat ⟨(lat wk x.pc).st, x.ba⟩ else wk
def wkF (p k : Int) (l : List Ext) (wk : List Ld) : List Ld := l.foldl (wkStep p k) wk
def goneF (p k : Int) (l : List Ext) : Bool := l.any fun x => decide (x.jb = k /\ ¬ hasB p x.ca /\ x.pc = -1)
def jobW (r : Req) (p k : Int) : Job := ⟨(lat r.jobs k).ar, if goneF p k r.ex = true then [] else wkF p k r.ex (lat r.jobs k).wk⟩
theorem upd_lat {p : Int} {n : Nat} {k : Nat} : ∀ {l : List Ext} {js : List JW}, js.length = n -> (∀ x ∈ l, 0 <= x.jb /\ x.jb < n) -> (lat js k).gone = false -> lat ((updM l p).foldl applyC js) (k : Int) = ⟨(lat js k).ar, false, wkF p k l (lat js k).wk⟩
  | [], js, _, _, hg => by
    show lat js (k : Int) = ⟨_, false, (lat js (k : Int)).wk⟩
    rw [<- hg]
  | x :: l, js, hl, hx, hg => by
    have h1 := hx x (by simp)
    have hx' : ∀ y ∈ l, 0 <= y.jb /\ y.jb < n := fun y hy => hx y (List.mem_cons_of_mem _ hy)
    unfold wkF
    rw [List.foldl_cons]
    by_cases hc : ¬ hasB p x.ca /\ ¬ x.pc = -1
    . have e : updM (x :: l) p = .upd x :: updM l p := by unfold updM; rw [List.filter_cons_of_pos (by simpa using hc)]; rfl
      rw [e, List.foldl_cons]
      have e2 : lat (applyC js (.upd x)) (k : Int) = if (k : Int) = x.jb then ⟨(lat js x.jb).ar, false, (lat js x.jb).wk.set x.pc.toNat ⟨(lat (lat js x.jb).wk x.pc).st, x.ba⟩⟩ else lat js (k : Int) := lat_setI ⟨h1.1, by rw [hl]; exact h1.2⟩
      have ih := upd_lat (p := p) (k := k) (js := applyC js (.upd x)) (by rw [applyC_len, hl]) hx' (by rw [e2]; split; rfl; exact hg)
      rw [ih, e2]
      by_cases ek : (k : Int) = x.jb
      . rw [if_pos ek]
        unfold wkStep
        rw [if_pos ⟨ek.symm, hc⟩, ek]; rfl
      . rw [if_neg ek]
        unfold wkStep
        rw [if_neg (fun h => ek h.1.symm)]; rfl
    . have e : updM (x :: l) p = updM l p := by unfold updM; rw [List.filter_cons_of_neg (by simpa using hc)]
      rw [e, upd_lat hl hx' hg]
      unfold wkStep
      rw [if_neg (fun h => hc h.2)]; rfl
theorem rem_lat {p : Int} {n : Nat} {k : Nat} : ∀ {l : List Ext} {js : List JW}, js.length = n -> (∀ x ∈ l, 0 <= x.jb /\ x.jb < n) -> lat ((remM l p).foldl applyC js) (k : Int) = ⟨(lat js k).ar, (lat js k).gone || goneF p k l, (lat js k).wk⟩
  | [], js, _, _ => by
    show lat js (k : Int) = ⟨_, (lat js (k : Int)).gone || false, _⟩
    rw [Bool.or_false]
  | x :: l, js, hl, hx => by
    have h1 := hx x (by simp)
    have hx' : ∀ y ∈ l, 0 <= y.jb /\ y.jb < n := fun y hy => hx y (List.mem_cons_of_mem _ hy)
    have eg : goneF p k (x :: l) = (decide (x.jb = (k : Int) /\ ¬ hasB p x.ca /\ x.pc = -1) || goneF p k l) := rfl
    rw [eg]
    by_cases hc : ¬ hasB p x.ca /\ x.pc = -1
    . have e : remM (x :: l) p = .rem x.jb :: remM l p := by unfold remM; rw [List.filter_cons_of_pos (by simpa using hc)]; rfl
      rw [e, List.foldl_cons]
      have e2 : lat (applyC js (.rem x.jb)) (k : Int) = if (k : Int) = x.jb then ⟨(lat js x.jb).ar, true, (lat js x.jb).wk⟩ else lat js (k : Int) := lat_setI ⟨h1.1, by rw [hl]; exact h1.2⟩
      rw [rem_lat (js := applyC js (.rem x.jb)) (by rw [applyC_len, hl]) hx', e2]
      by_cases ek : (k : Int) = x.jb
      . rw [if_pos ek, ek]
        simp [hc]
      . rw [if_neg ek]
        have : ¬ x.jb = (k : Int) := fun h => ek h.symm
        simp [this]
    . have e : remM (x :: l) p = remM l p := by unfold remM; rw [List.filter_cons_of_neg (by simpa using hc)]
      have e3 : decide (x.jb = (k : Int) /\ ¬ hasB p x.ca /\ x.pc = -1) = false := decide_eq_false fun h => hc h.2
      rw [e, rem_lat hl hx', e3, Bool.false_or]
theorem withM_len (r : Req) (p : Int) : (withM r p).length = r.jobs.length := by unfold withM; rw [List.length_map, foldC_len, List.length_map]
theorem ValidR.with_lat {r : Req} (h : ValidR r) (p : Int) {k : Nat} (hk : k < r.jobs.length) : lat (withM r p) (k : Int) = jobW r p k := by
  have hx : ∀ x ∈ r.ex, 0 <= x.jb /\ x.jb < (r.jobs.length : Int) := fun x hx => (h.mem hx).1.1
  have hk0 : lat (r.jobs.map fullJ) (k : Int) = fullJ (lat r.jobs k) := lat_map hk
  unfold withM
  rw [lat_map (by rw [foldC_len, List.length_map]; exact hk)]
  unfold chgM
  rw [List.foldl_append, rem_lat (n := r.jobs.length) (by rw [foldC_len, List.length_map]) hx, upd_lat (n := r.jobs.length) (by simp) hx (by rw [hk0]; rfl), hk0]
  unfold jobW toJob
  simp only [Bool.false_or]
  rfl
theorem wkF_ok {r : Req} (h : ValidR r) (p : Int) {k : Nat} (hk : k < r.jobs.length) : ∀ {l : List Ext} {wk : List Ld}, (∀ x ∈ l, x ∈ r.ex) -> wk.length = (lat r.jobs k).wk.length -> (∀ w ∈ wk, 0 <= w.st /\ w.st <= (r.sv.length : Int) - 1 /\ 0 <= w.tm /\ w.tm <= 1099511627776) →
    (wkF p k l wk).length = (lat r.jobs k).wk.length /\ ∀ w ∈ wkF p k l wk, 0 <= w.st /\ w.st <= (r.sv.length : Int) - 1 /\ 0 <= w.tm /\ w.tm <= 1099511627776
  | [], wk, _, h1, h2 => ⟨h1, h2⟩
  | x :: l, wk, hx, h1, h2 => by
    have hx' : ∀ y ∈ l, y ∈ r.ex := fun y hy => hx y (List.mem_cons_of_mem _ hy)
    show (wkF p k l (wkStep p k wk x)).length = _ /\ ∀ w ∈ wkF p k l (wkStep p k wk x), _
    unfold wkStep
    split
    . rename_i hc
      have hm := (h.mem (hx x (by simp))).2
      have hw : isWorkM r x = true := hm.resolve_left fun hm => by
        unfold isRemM at hm
        rw [decide_eq_true_eq] at hm
        exact hc.2.2 hm.1
      unfold isWorkM at hw
      rw [decide_eq_true_eq, hc.1] at hw
      refine wkF_ok h p hk hx' (by rw [List.length_set, h1]) fun w hw' => ?_
      rcases List.mem_or_eq_of_mem_set hw' with hw' | rfl
      . exact h2 w hw'
      . have := h2 _ (lat_mem (xs := wk) (i := x.pc) ⟨hw.1.1, by omega⟩)
        exact ⟨this.1, this.2.1, hw.2.1.1, hw.2.1.2⟩
    . exact wkF_ok h p hk hx' h1 h2
theorem ValidR.with_ok {r : Req} (h : ValidR r) (p : Int) : validJ r.sv (withM r p) = true := by
  obtain ⟨h1, h2, h3⟩ := job_ok h.j
  unfold validJ
  rw [Bool.and_eq_true, Bool.and_eq_true, decide_eq_true_eq, List.all_eq_true, List.all_eq_true, withM_len]
  refine ⟨⟨h1, fun n hn => decide_eq_true (h2 n hn)⟩, fun x hx => ?_⟩
  obtain ⟨k, hk, rfl⟩ := List.mem_iff_getElem.1 hx
  rw [withM_len] at hk
  have := h.with_lat p hk
  rw [lat_get (by rw [withM_len]; exact hk)] at this
  rw [this]
  have hj := h3 _ (lat_mem (xs := r.jobs) (i := (k : Int)) ⟨by omega, by omega⟩)
  obtain ⟨w1, w2⟩ := wkF_ok h p hk (l := r.ex) (fun x hx => hx) rfl hj.2
  unfold jobOk jobW
  rw [Bool.and_eq_true, decide_eq_true_eq, List.all_eq_true]
  simp only
  split
  . exact ⟨⟨hj.1.1, hj.1.2.1, by simp⟩, fun w hw => by cases hw⟩
  . exact ⟨⟨hj.1.1, hj.1.2.1, by rw [w1]; exact hj.1.2.2⟩, fun w hw => decide_eq_true (w2 w hw)⟩
theorem ValidR.late2 {r : Req} (h : ValidR r) (p : Int) : (finishM r.sv (withM r p) r.late).2 = 0 := by
  unfold finishM
  rw [if_pos ⟨h.with_ok p, h.late.1, by rw [withM_len]; have := h.late.2; omega⟩]
end Go.Lat
namespace Go.Lat
open Go.RowKit
theorem bsGo_range (l : List Rg) (x : Rg) : ∀ (n : Nat) (i j : Int), 0 <= i -> i <= j -> i <= bsGo l x n i j /\ bsGo l x n i j <= j
  | 0, i, j, h0, h => ⟨Int.le_refl _, h⟩
  | n + 1, i, j, h0, h => by
    unfold bsGo
    split
    . rename_i hij
      have ht : (i + j).tdiv 2 = (i + j) / 2 := Int.tdiv_eq_ediv_of_nonneg (by omega)
      rw [ht]
      split
      . have := bsGo_range l x n ((i + j) / 2 + 1) j (by omega) (by omega)
        omega
      . have := bsGo_range l x n i ((i + j) / 2) h0 (by omega)
        omega
    . exact ⟨Int.le_refl _, h⟩
theorem bsI_nonneg (l : List Rg) (x : Rg) : 0 <= bsI l x := (bsGo_range l x _ 0 l.length (by omega) (by omega)).1
theorem bsGo_fuel (l : List Rg) (x : Rg) : ∀ (n m : Nat) (i j : Int), 0 <= i -> j - i < n -> j - i < m -> bsGo l x n i j = bsGo l x m i j
  | 0, m, i, j, h0, h1, h2 => by
    cases m with
    | zero => rfl
    | succ m => unfold bsGo; rw [if_neg (by omega)]
  | n + 1, 0, i, j, h0, h1, h2 => by unfold bsGo; rw [if_neg (by omega)]
  | n + 1, m + 1, i, j, h0, h1, h2 => by
    unfold bsGo
    split
    . rename_i hij
      have ht : (i + j).tdiv 2 = (i + j) / 2 := Int.tdiv_eq_ediv_of_nonneg (by omega)
      rw [ht]
      split
      . exact bsGo_fuel l x n m _ _ (by omega) (by omega) (by omega)
      . exact bsGo_fuel l x n m _ _ (by omega) (by omega) (by omega)
    . rfl
theorem half_wrap {n : Int} (h : 0 <= n /\ n <= 9223372036854775807) : IntKind.i64.wrap ((IntKind.u64.wrap n).fdiv (2 ^ (min (1 : Int).toNat 64))) = n.tdiv 2 := by
  have h1 : IntKind.u64.wrap n = n := IntWalk.u64_in n ⟨h.1, by omega⟩
  have ht : n.tdiv 2 = n / 2 := Int.tdiv_eq_ediv_of_nonneg h.1
  rw [h1, ht]
  have h2 : n.fdiv (2 ^ (min (1 : Int).toNat 64)) = n / 2 := by
    show n.fdiv 2 = n / 2
    exact Int.fdiv_eq_ediv_of_nonneg _ (by omega)
  rw [h2]
  exact wrapI (by unfold inI; omega)
structure RgsOk (l : List Rg) : Prop where
  ok : ∀ i : Nat, i < l.length -> (0 <= (lat l i).op /\ (lat l i).op <= 11) /\ (0 <= (lat l i).ver /\ (lat l i).ver <= 9) /\ (1 <= (lat l i).nu /\ (lat l i).nu <= 1000000) /\ (0 <= (lat l i).le /\ (lat l i).le <= (lat l i).mo) /\ (lat l i).mo <= 4398046511104
  ord : ∀ i : Nat, i + 1 < l.length -> cmpR (lat l i) (lat l ((i + 1 : Nat) : Int)) < 0
theorem validRgs_iff (l : List Rg) : validRgs l = true ↔ RgsOk l := by
  unfold validRgs
  rw [List.all_eq_true]
  constructor
  . intro h
    refine ⟨fun i hi => ?_, fun i hi => ?_⟩
    . have := h i (by simpa using hi)
      rw [Bool.and_eq_true] at this
      exact of_decide_eq_true this.1
    . have := h (i + 1) (by simpa using hi)
      rw [Bool.and_eq_true, Bool.or_eq_true, decide_eq_true_eq, decide_eq_true_eq] at this
      have := this.2.resolve_left (by omega)
      rwa [show (((i + 1 : Nat) : Int) - 1) = (i : Int) by omega] at this
  . intro h i hi
    have hi : i < l.length := by simpa using hi
    rw [Bool.and_eq_true, Bool.or_eq_true, decide_eq_true_eq, decide_eq_true_eq]
    refine ⟨decide_eq_true (h.ok i hi), ?_⟩
    rcases i with _ | i
    . exact .inl rfl
    . right
      have := h.ord i hi
      rwa [show (((i + 1 : Nat) : Int) - 1) = (i : Int) by omega]
end Go.Lat
namespace Go.Lat
def exR : Req := ⟨[1], [⟨0, [⟨0, 5⟩]⟩, ⟨2, [⟨0, 3⟩]⟩], 1, 2, 2, [⟨0, 0, 0, 1, 0, 0⟩, ⟨1, 0, 1, 2, 0, 0⟩]⟩
def staM (sv : A3) (lone : Bool) : Int := if lone = true then 1 else 1 + pickM sv.x2 3
def atM (jobs : List (Vector Int 6)) (i : Nat) : Int := ((jobs.take i).map fun j => pickM (vat j 0) 5).sum
def manyM (j : Vector Int 6) (lone : Bool) : Int := if lone = true then min (pickM (vat j 1) 4) 1 else pickM (vat j 1) 4
def ldM (n : Int) (j : Vector Int 6) (k : Nat) : Ld := ⟨pickM (vat j (2 + k)) n, pickM ((vat j (2 + k)).tdiv 3) 9⟩
def wkM (n : Int) (j : Vector Int 6) (m : Nat) : List Ld := (List.range m).map (ldM n j)
def jobM (jobs : List (Vector Int 6)) (n : Int) (lone : Bool) (i : Nat) : Job := ⟨atM jobs (i + 1), wkM n (lat jobs i) (manyM (lat jobs i) lone).toNat⟩
def jobsM0 (jobs : List (Vector Int 6)) (n : Int) (lone : Bool) : List Job := (List.range (min jobs.length 6)).map (jobM jobs n lone)
def jobsM (jobs : List (Vector Int 6)) (n : Int) (lone : Bool) : List Job := if (jobsM0 jobs n lone).length = 0 then [⟨0, [⟨0, 5⟩]⟩] else jobsM0 jobs n lone
def exX (jobs : List Job) (causes : Int) (e : A3) (i k : Int) : Ext := if 0 <= k then ⟨i, k, pickM e.x1 causes, pickM e.x2 ((lat (lat jobs i).wk k).tm + 1), pickM (e.x1.tdiv 5) 3, pickM (e.x1.tdiv 15) 2⟩ else ⟨i, k, pickM e.x1 causes, 0, 0, 0⟩
def exAct (late : Int) (e : A3) (i k : Int) : Prop := if k = -1 then pickM e.x0 7 = 0 /\ ¬ i = late else 0 < pickM e.x0 3
instance (late : Int) (e : A3) (i k : Int) : Decidable (exAct late e i k) := by unfold exAct; infer_instance
def exStep (jobs : List Job) (causes late : Int) (ex : List A3) (i : Int) (s : List Ext × Nat) (k : Int) : List Ext × Nat :=
  if s.2 < ex.length then ((if exAct late (lat ex (s.2 : Int)) i k then s.1 ++ [exX jobs causes (lat ex (s.2 : Int)) i k] else s.1), s.2 + 1) else s
def exJob (jobs : List Job) (causes late : Int) (ex : List A3) (s : List Ext × Nat) (i : Nat) : List Ext × Nat := ((List.range ((lat jobs (i : Int)).wk.length + 1)).map fun k : Nat => (k : Int) - 1).foldl (exStep jobs causes late ex i) s
def exsM (jobs : List Job) (causes late : Int) (ex : List A3) : List Ext := if 0 < causes then ((List.range jobs.length).foldl (exJob jobs causes late ex) ([], 0)).1 else []
def madeM (sv : A3) (jobs : List (Vector Int 6)) (ex : List A3) (late obj : Int) (lone : Bool) : Req :=
  ⟨(List.range (staM sv lone).toNat).map fun i : Nat => 1 + pickM (lat [sv.x0, sv.x1, sv.x2] (i : Int)) 2, jobsM jobs (staM sv lone) lone, pickM late (jobsM jobs (staM sv lone) lone).length, pickM obj 30, pickM (obj.tdiv 30) 5,
    exsM (jobsM jobs (staM sv lone) lone) (pickM (obj.tdiv 30) 5) (pickM late (jobsM jobs (staM sv lone) lone).length) ex⟩
structure CasOk (c : Cas) : Prop where
  jl : c.jobs.length <= 9223372036854775807
  el : c.ex.length <= 9223372036854775807
  i : (inI c.sv.x0 /\ inI c.sv.x1 /\ inI c.sv.x2) /\ inI c.late /\ inI c.obj
  v : (∀ j ∈ c.jobs, ∀ k, inI (vat j k)) /\ ∀ e ∈ c.ex, inI e.x0 /\ inI e.x1 /\ inI e.x2
def madeC (c : Cas) (lone : Bool) : Req := madeM c.sv c.jobs c.ex c.late c.obj lone
def touch (out : List Bool) (wk : List Ld) : Bool := wk.any fun w => lat out w.st
def mark (out : List Bool) (wk : List Ld) : List Bool := wk.foldl (fun o w => o.set w.st.toNat true) out
def joinStep (out : List Bool) (j : Job) : List Bool := if touch out j.wk = true then mark out j.wk else out
def joinRound (jobs : List Job) (out : List Bool) : List Bool := jobs.foldl joinStep out
def joinedM (r : Req) : List Bool := (List.range r.sv.length).foldl (fun o _ => joinRound r.jobs o) (mark (List.replicate r.sv.length false) (lat r.jobs r.late).wk)
end Go.Lat
namespace Go.Lat
open Go.ChangeShapes Go.WideShapes Go.ChangeAt Go.RowKit
open Go.Proofs
section
variable {H : Type} {enc : TypeId × Value -> H} {w : World} {base : Nat} {spare : Nat -> Bool} {held : Bool}
theorem c24_3 : Try.prog.cellsOf 3 = 1 := by kernel_rfl
theorem c24_27 : Try.prog.cellsOf 27 = 3 := by kernel_rfl
theorem c24_28 : Try.prog.cellsOf 28 = 1 := by kernel_rfl
theorem c24_29 : Try.prog.cellsOf 29 = 1 := by kernel_rfl
theorem c24_93 : Try.prog.cellsOf 93 = 6 := by kernel_rfl
theorem c24_31 : Try.prog.cellsOf 31 = 7 := by kernel_rfl
theorem cells_slice {t e : TypeId} {fuel : Nat} {cs : List Value} {x : DataW H × List MemPlace} (ht : Try.prog.underlying t = some (.slice e)) (h : DataW.trod enc Try.prog w base spare held fuel t cs = some x) :
    ∃ v, cs = [v] /\ (∃ a len cap, v = .slice a len cap) /\ DataW.Trod enc Try.prog w base spare held t v x.1 x.2 := by
  rcases Go.Deep.open_slice ht h with ⟨rfl, rfl⟩ | ⟨a, len, cap, m, n, D, Pl, rfl, _, _, _, _, rfl, _⟩
  . exact ⟨_, rfl, ⟨_, _, _, rfl⟩, fuel, h⟩
  . exact ⟨_, rfl, ⟨_, _, _, rfl⟩, fuel, h⟩
theorem slice_le {t e : TypeId} {v : Value} {d : DataW H} {ps : List MemPlace} {n : Nat} {cs : List AV} {m : MM} (ht : Try.prog.underlying t = some (.slice e)) (h : DataW.Trod enc Try.prog w base spare held t v d ps) (hv : VR [] m (.lst true n cs) v) : n <= 9223372036854775807 := by
  obtain ⟨fuel, hf⟩ := h
  simp only [VR] at hv
  rcases hv with ⟨rfl, -⟩ | ⟨a, cap, vs, hle, rfl, -⟩
  . omega
  . rcases Go.Deep.open_slice ht hf with ⟨hcs, -⟩ | ⟨a', len, cap', k, q, D, Pl, hcs, hb, hl, hm, -⟩
    . simp [Value.cells] at hcs
    . simp [Value.cells] at hcs
      obtain ⟨-, rfl, rfl⟩ := hcs
      unfold maxLen at hm
      omega
def vecL (n : Nat) (r : List Int) : Vector Int n := Vector.ofFn fun i : Fin n => r.getD i.val 0
theorem vecL_toList {n : Nat} {r : List Int} (h : r.length = n) : (vecL n r).toList = r := by
  unfold vecL
  apply List.ext_getElem (by simp [h])
  intro i h1 h2
  simp [h2]
theorem vecL_inI {n : Nat} {r : List Int} (h : r.length = n) (hr : ∀ z ∈ r, inI z) (k : Nat) : inI (vat (vecL n r) k) := by
  unfold vat
  rw [vecL_toList h, List.getD_eq_getElem?_getD]
  rcases Nat.lt_or_ge k r.length with hk | hk
  . rw [List.getElem?_eq_getElem hk]; exact hr _ (List.getElem_mem hk)
  . rw [List.getElem?_eq_none hk]; unfold inI; show (-9223372036854775808 : Int) <= 0 /\ (0 : Int) <= 9223372036854775807; omega
theorem encInts (r : List Int) : zYy zYx r = r.map fun z => AV.int .i64 z := by
  induction r with
  | nil => rfl
  | cons z r ih =>
    show zYx z ++ zYy zYx r = _
    rw [ih]; rfl
theorem encVecs {n : Nat} : ∀ {L : List (List Int)}, (∀ r ∈ L, r.length = n) -> zYy (fun v : Vector Int n => zYy zYx v.toList) (L.map (vecL n)) = L.flatten.map fun z => AV.int .i64 z
  | [], _ => rfl
  | r :: L, h => by
    show zYy zYx (vecL n r).toList ++ zYy (fun v : Vector Int n => zYy zYx v.toList) (L.map (vecL n)) = _
    rw [vecL_toList (h r List.mem_cons_self), encVecs (fun x hx => h x (List.mem_cons_of_mem _ hx)), encInts, List.flatten_cons, List.map_append]
theorem open_v6 {v : Value} {d : DataW H} {ps : List MemPlace} (hv : ∃ a len cap, v = .slice a len cap) (h : DataW.Trod enc Try.prog w base spare held 28 v d ps) :
    ∃ x : List (Vector Int 6), x.length <= 9223372036854775807 /\ (∀ y ∈ x, ∀ k, inI (vat y k)) /\ VR [] (nest (memOf w)) (.lst true x.length (zYy eV6 x)) v := by
  obtain ⟨L, h1, h2⟩ := open_flat Try.underlying28 c24_93 (by omega) hv (intCells_arr Try.underlying93 Try.underlying3 c24_3 c24_93) h
  have hx : VR [] (nest (memOf w)) (.lst true (L.map (vecL 6)).length (zYy eV6 (L.map (vecL 6)))) v := by
    rw [List.length_map]
    show VR [] _ (.lst true L.length (zYy (fun v : Vector Int 6 => zYy zYx v.toList) (L.map (vecL 6)))) v
    rw [encVecs fun r hr => (h1 r hr).1]; exact h2
  refine ⟨L.map (vecL 6), slice_le Try.underlying28 h hx, fun y hy k => ?_, hx⟩
  obtain ⟨r, hr, rfl⟩ := List.mem_map.1 hy
  exact vecL_inI (h1 r hr).1 (h1 r hr).2 k
theorem open_a3s {v : Value} {d : DataW H} {ps : List MemPlace} (hv : ∃ a len cap, v = .slice a len cap) (h : DataW.Trod enc Try.prog w base spare held 29 v d ps) :
    ∃ x : List A3, x.length <= 9223372036854775807 /\ (∀ y ∈ x, inI y.x0 /\ inI y.x1 /\ inI y.x2) /\ VR [] (nest (memOf w)) (.lst true x.length (zYy e27 x)) v := by
  obtain ⟨L, h1, h2⟩ := open_flat Try.underlying29 c24_27 (by omega) hv (intCells_arr Try.underlying27 Try.underlying3 c24_3 c24_27) h
  have e : zYy e27 (L.map fun r => (⟨r.getD 0 0, r.getD 1 0, r.getD 2 0⟩ : A3)) = L.flatten.map fun z => AV.int .i64 z := by
    clear h2
    induction L with
    | nil => rfl
    | cons r L ih =>
      obtain ⟨a, -⟩ := h1 r (by simp)
      match r, a with
      | [y0, y1, y2], _ =>
        rw [List.map_cons, List.flatten_cons, List.map_append, <- ih (fun r hr => h1 r (by simp [hr]))]
        rfl
  have hx : VR [] (nest (memOf w)) (.lst true (L.map fun r => (⟨r.getD 0 0, r.getD 1 0, r.getD 2 0⟩ : A3)).length (zYy e27 (L.map fun r => (⟨r.getD 0 0, r.getD 1 0, r.getD 2 0⟩ : A3)))) v := by
    rw [List.length_map, e]; exact h2
  refine ⟨_, slice_le Try.underlying29 h hx, fun z hz => ?_, hx⟩
  rw [List.mem_map] at hz
  obtain ⟨r, hr, rfl⟩ := hz
  obtain ⟨a, b⟩ := h1 r hr
  match r, a with
  | [y0, y1, y2], _ => exact ⟨b y0 (by simp), b y1 (by simp), b y2 (by simp)⟩
theorem fld {fs : Array Field} {Q : Field -> Prop} {i t o : Nat} (h : ∀ f, fs[i]? = some f -> Q f) (hf : ∃ f, fs[i]? = some f /\ f.type = t /\ f.offset = o) : ∃ f, f.type = t /\ f.offset = o /\ Q f := by
  obtain ⟨f, h1, h2, h3⟩ := hf
  exact ⟨f, h2, h3, h f h1⟩
theorem open_cas {v : Value} {d : DataW H} {ps : List MemPlace} (hv : ∃ cs, v = .agg cs) (h : DataW.Trod enc Try.prog w base spare held 31 v d ps) :
    ∃ c : Cas, CasOk c /\ VR [] (nest (memOf w)) (.agg (e31 true c)) v := by
  obtain ⟨fuel, hf⟩ := h
  obtain ⟨cs, rfl⟩ := hv
  obtain ⟨xs, m, -, -, hl, hx, hi⟩ := DataW.trod_struct Try.underlying31 hf
  rw [c24_31] at hl
  have hl7 : cs.toList.length = 7 := hl
  generalize hcs : cs.toList = l at *
  match l, hl7 with
  | [u0, u1, u2, u3, u4, u5, u6], _ =>
    have xl : xs.length = 5 := hx
    match xs, xl with
    | [y0, y1, y2, y3, y4], _ =>
      obtain ⟨f0, b0, g0, i0⟩ := fld (t := 27) (o := 0) (hi 0) ⟨_, rfl, rfl, rfl⟩
      rw [b0, g0] at i0
      obtain ⟨f1, b1, g1, i1⟩ := fld (t := 28) (o := 3) (hi 1) ⟨_, rfl, rfl, rfl⟩
      rw [b1, g1] at i1
      obtain ⟨f2, b2, g2, i2⟩ := fld (t := 29) (o := 4) (hi 2) ⟨_, rfl, rfl, rfl⟩
      rw [b2, g2] at i2
      obtain ⟨f3, b3, g3, i3⟩ := fld (t := 3) (o := 5) (hi 3) ⟨_, rfl, rfl, rfl⟩
      rw [b3, g3] at i3
      obtain ⟨f4, b4, g4, i4⟩ := fld (t := 3) (o := 6) (hi 4) ⟨_, rfl, rfl, rfl⟩
      rw [b4, g4] at i4
      obtain ⟨zs, z1, z2, z3⟩ := intCells_arr Try.underlying27 Try.underlying3 c24_3 c24_27 _ _ _ i0
      obtain ⟨v1, e1, s1, t1⟩ := cells_slice Try.underlying28 i1
      obtain ⟨v2, e2, s2, t2⟩ := cells_slice Try.underlying29 i2
      obtain ⟨z5, e5, -, w5⟩ := DataW.trod_int Try.underlying3 i3
      obtain ⟨z6, e6, -, w6⟩ := DataW.trod_int Try.underlying3 i4
      obtain ⟨x, xl, px, hx1⟩ := open_v6 s1 t1
      obtain ⟨y, yl, py, hy1⟩ := open_a3s s2 t2
      rw [c24_27] at z2
      rw [c24_28] at e1
      rw [c24_29] at e2
      rw [c24_3] at e5 e6
      have ecell : (Value.agg cs).cells.toList = [u0, u1, u2, u3, u4, u5, u6] := hcs
      rw [ecell] at z2 e1 e2 e5 e6
      match zs, z1 with
      | [a0, a1, a2], _ =>
        have k : u0 = .int .i64 a0 /\ u1 = .int .i64 a1 /\ u2 = .int .i64 a2 := by simpa using z2
        obtain ⟨k0, k1, k2⟩ := k
        have k3 : u3 = v1 := by simpa using e1
        have k4 : u4 = v2 := by simpa using e2
        have k5 : u5 = .int .i64 z5 := by simpa using e5
        have k6 : u6 = .int .i64 z6 := by simpa using e6
        subst k0 k1 k2 k3 k4 k5 k6
        refine ⟨⟨⟨a0, a1, a2⟩, x, y, z5, z6⟩, ⟨xl, yl, ⟨⟨z3 a0 (by simp), z3 a1 (by simp), z3 a2 (by simp)⟩, inI_of_wf w5, inI_of_wf w6⟩, px, py⟩, cs, rfl, fun u hu => ?_, ?_⟩
        . rw [hcs] at hu
          simp only [List.mem_cons, List.not_mem_nil, or_false] at hu
          obtain ⟨a3, b3, c3, rfl⟩ := s1
          obtain ⟨a4, b4, c4, rfl⟩ := s2
          rcases hu with rfl | rfl | rfl | rfl | rfl | rfl | rfl <;> rfl
        . rw [hcs]
          exact ⟨_, _, rfl, rfl, _, _, rfl, rfl, _, _, rfl, rfl, _, _, rfl, hx1, _, _, rfl, hy1, _, _, rfl, rfl, _, _, rfl, rfl, rfl⟩
end
end Go.Lat
namespace Go.Lat
open Go.RowKit
inductive Ends (sv : List Int) (jobs : List Job) : RunS -> RunS -> Prop
  | stop {s : RunS} : leastS s.ss < 0 -> Ends sv jobs s s
  | step {s t : RunS} : ¬ leastS s.ss < 0 -> Ends sv jobs (nextM sv jobs s (leastS s.ss)) t -> Ends sv jobs s t
def slots (sv : List Int) (s : RunS) (q : Int) : List Int := (lat s.fr q).toList.take (lat sv q).toNat
def cnt (sv : List Int) (s : RunS) (q x : Int) : Nat := (slots sv s q).countP fun m => decide (m <= x)
structure StepC (sv : List Int) (jobs : List Job) (s : RunS) (i : Nat) : Prop where
  vis : ∀ x, (visM sv jobs s i).st <= x ↔ (lat s.ss i).rd <= x /\ 1 <= cnt sv s (workM jobs s i).st x
  en : (visM sv jobs s i).en = (visM sv jobs s i).st + (workM jobs s i).tm
  tm : 0 <= (workM jobs s i).tm
  st : 0 <= (workM jobs s i).st /\ (workM jobs s i).st < sv.length
  cnt : ∀ q x, 0 <= q -> cnt sv (nextM sv jobs s i) q x + (if q = (workM jobs s i).st /\ 1 <= cnt sv s q x /\ x < (visM sv jobs s i).en then 1 else 0) = cnt sv s q x
  ss : ∀ j : Nat, lat (nextM sv jobs s i).ss j = if j = i then ⟨(lat s.ss i).dn + 1, (lat s.ss i).al, (visM sv jobs s i).en⟩ else lat s.ss j
theorem StepOk.c {sv : List Int} {jobs : List Job} {c : Nat} {s : RunS} {i : Nat} (h : RInv sv jobs c s) (o : StepOk sv jobs c s i) : StepC sv jobs s i := by
  obtain ⟨k, k1, k2, k3⟩ := o.slot
  have nb := o.nb
  have hlen : (slots sv s (workM jobs s i).st).length = (lat sv (workM jobs s i).st).toNat := by
    unfold slots; rw [List.length_take, Vector.length_toList]; omega
  have hget : ∀ q : Nat, (q : Int) < lat sv (workM jobs s i).st -> ∀ hq : q < (slots sv s (workM jobs s i).st).length, (slots sv s (workM jobs s i).st)[q] = vat (lat s.fr (workM jobs s i).st) q := fun q h1 hq => by
    rw [<- lat_get hq]
    exact take_vat _ (by omega) (by omega)
  have hkl : k < (slots sv s (workM jobs s i).st).length := by rw [hlen]; omega
  have hm : ∀ x, 1 <= cnt sv s (workM jobs s i).st x ↔ vat (lat s.fr (workM jobs s i).st) k <= x := fun x => by
    unfold cnt
    rw [Nat.succ_le_iff, List.countP_pos_iff]
    constructor
    . rintro ⟨a, ha, h2⟩
      obtain ⟨q, hq, rfl⟩ := List.mem_iff_getElem.1 ha
      have h2 := of_decide_eq_true h2
      have hq2 : (q : Int) < lat sv (workM jobs s i).st := by omega
      rw [hget q hq2] at h2
      have := k3 q hq2
      omega
    . intro h2
      exact ⟨_, List.getElem_mem hkl, by rw [hget k k2]; exact decide_eq_true h2⟩
  have hv : (visM sv jobs s i).st = max (lat s.ss i).rd (vat (lat s.fr (workM jobs s i).st) k) := by unfold visM; simp only [k1, Int.toNat_natCast]
  have hen := o.vis.2.2
  have htm := o.tm.1
  refine ⟨fun x => ?_, hen, htm, o.st, fun q x hq => ?_, fun j => ?_⟩
  . rw [hm, hv]; omega
  . by_cases e : q = (workM jobs s i).st
    . subst e
      have e1 : slots sv (nextM sv jobs s i) (workM jobs s i).st = (slots sv s (workM jobs s i).st).set k (visM sv jobs s i).en := by
        unfold slots nextM
        simp only [k1, Int.toNat_natCast]
        rw [lat_set' ⟨o.st.1, by rw [h.fl]; exact o.st.2⟩ o.st.1, if_pos rfl]
        show List.take _ (Vector.toList (Vector.setIfInBounds _ _ _)) = _
        rw [Vector.toList_setIfInBounds, List.take_set]
      have e2 : (if vat (lat s.fr (workM jobs s i).st) k <= x then 1 else 0) <= (cnt sv s (workM jobs s i).st x) := by
        split
        . rename_i h; exact (hm x).2 h
        . omega
      have e3 : Go.Lat.cnt sv (nextM sv jobs s i) (workM jobs s i).st x = (slots sv (nextM sv jobs s i) (workM jobs s i).st).countP fun m => decide (m <= x) := rfl
      have e4 : Go.Lat.cnt sv (nextM sv jobs s i) (workM jobs s i).st x = Go.Lat.cnt sv s (workM jobs s i).st x - (if vat (lat s.fr (workM jobs s i).st) k <= x then 1 else 0) + (if (visM sv jobs s i).en <= x then 1 else 0) := by
        rw [e3, e1, List.countP_set hkl, hget k k2]
        simp only [decide_eq_true_eq]
        rfl
      have hmx := hm x
      have hge : vat (lat s.fr (workM jobs s i).st) k <= (visM sv jobs s i).en := by omega
      generalize Go.Lat.cnt sv (nextM sv jobs s i) (workM jobs s i).st x = A at *
      generalize Go.Lat.cnt sv s (workM jobs s i).st x = B at *
      generalize (visM sv jobs s i).en = en at *
      generalize vat (lat s.fr (workM jobs s i).st) k = m at *
      rw [e4]
      by_cases c1 : m <= x
      . rw [if_pos c1]
        rw [if_pos c1] at e2
        by_cases c2 : en <= x
        . rw [if_pos c2, if_neg (by omega)]; omega
        . rw [if_neg c2, if_pos ⟨rfl, e2, by omega⟩]; omega
      . rw [if_neg c1, if_neg (by omega), if_neg (by omega)]; omega
    . rw [if_neg (fun h => e h.1)]
      show (slots sv (nextM sv jobs s i) q).countP _ = (slots sv s q).countP _
      have : slots sv (nextM sv jobs s i) q = slots sv s q := by
        unfold slots nextM
        simp only
        rw [lat_set' ⟨o.st.1, by rw [h.fl]; exact o.st.2⟩ hq, if_neg e]
      rw [this]
  . have := lat_set (l := s.ss) (i := (i : Int)) (j := j) (x := (⟨(lat s.ss i).dn + 1, (lat s.ss i).al, (visM sv jobs s i).en⟩ : Sta)) ⟨by omega, by rw [h.sl]; have := o.lt; omega⟩
    unfold nextM
    simp only
    rw [this]
    by_cases e : j = i
    . rw [if_pos (by omega), if_pos e]
    . rw [if_neg (by omega), if_neg e]
theorem RInv.go {sv : List Int} {jobs : List Job} {c : Nat} {s : RunS} (h : RInv sv jobs c s) (hl : ¬ leastS s.ss < 0) : ∃ i : Nat, leastS s.ss = i /\ i < jobs.length /\ (lat s.ss i).dn < (lat s.ss i).al ∧
    (∀ k : Nat, k < jobs.length -> (lat s.ss k).dn < (lat s.ss k).al -> (lat s.ss i).rd <= (lat s.ss k).rd /\ (k < i -> (lat s.ss i).rd < (lat s.ss k).rd)) /\ StepC sv jobs s i /\ RInv sv jobs (c + 1) (nextM sv jobs s i) /\ leftM s = leftM (nextM sv jobs s i) + 1 := by
  obtain ⟨i, hi, hil, hid, hk⟩ := (leastS_spec s.ss).resolve_left (fun h => hl (by omega))
  have so := h.step hil hid
  exact ⟨i, hi, so.lt, hid, fun k hk' hd => hk k (by rw [h.sl]; exact hk') hd, so.c h, so.next, so.less⟩
theorem RInv.none {sv : List Int} {jobs : List Job} {c : Nat} {s : RunS} (h : RInv sv jobs c s) (hl : leastS s.ss < 0) : ∀ i : Nat, i < jobs.length -> ¬ (lat s.ss i).dn < (lat s.ss i).al := by
  rcases leastS_spec s.ss with ⟨_, h2⟩ | ⟨i, h1, _⟩
  . intro i hi; exact h2 i (by rw [h.sl]; exact hi)
  . omega
theorem runN_ends {sv : List Int} {jobs : List Job} : ∀ {n c : Nat} {s : RunS}, RInv sv jobs c s -> leftM s <= n -> ∃ t, Ends sv jobs s t /\ ∀ j : Nat, j < jobs.length -> endM (runN sv jobs n s) j (lat s.ss j).rd = (lat t.ss j).rd := by
  intro n
  induction n with
  | zero =>
    intro c s h hn
    refine ⟨s, .stop ?_, fun j hj => rfl⟩
    rcases Int.lt_or_le (leastS s.ss) 0 with hl | hl
    . exact hl
    . obtain ⟨i, _, _, _, _, _, _, h7⟩ := h.go (by omega)
      omega
  | succ n ih =>
    intro c s h hn
    by_cases hl : leastS s.ss < 0
    . exact ⟨s, .stop hl, fun j hj => by rw [runN_neg hl]; rfl⟩
    . obtain ⟨i, h1, h2, h3, h4, h5, h6, h7⟩ := h.go hl
      obtain ⟨t, t1, t2⟩ := ih h6 (by omega)
      refine ⟨t, .step hl (by rw [h1]; exact t1), fun j hj => ?_⟩
      rw [runN_pos hl, <- t2 j hj, h1]
      unfold endM
      rw [List.foldl_cons, h5.ss j]
      congr 1
      simp only
      by_cases e : j = i
      . rw [if_pos e, if_pos (by omega)]
      . rw [if_neg e, if_neg (by omega)]
theorem init_lat {sv : List Int} {jobs : List Job} {i : Nat} (hi : i < jobs.length) : lat (initM sv jobs).ss i = ⟨0, (lat jobs i).wk.length, (lat jobs i).ar⟩ := by
  rw [lat_get (by simpa [initM] using hi), lat_get hi]; simp [initM]
theorem init_cnt {sv : List Int} {jobs : List Job} {q : Int} (hq : 0 <= q /\ q < sv.length) (x : Int) : cnt sv (initM sv jobs) q x = if 0 <= x then (slots sv (initM sv jobs) q).length else 0 := by
  have hf : lat (initM sv jobs).fr q = Vector.replicate 4 0 := by
    obtain ⟨k, hk⟩ : ∃ k : Nat, q = k := ⟨q.toNat, by omega⟩
    subst hk
    exact lat_rep (by omega)
  unfold cnt
  have hz : ∀ a ∈ slots sv (initM sv jobs) q, a = 0 := fun a ha => by
    unfold slots at ha
    rw [hf] at ha
    have ha := List.mem_of_mem_take ha
    rw [Vector.toList_replicate] at ha
    exact List.eq_of_mem_replicate ha
  split
  . rename_i h
    rw [List.countP_eq_length]
    intro a ha
    rw [hz a ha]; exact decide_eq_true h
  . rename_i h
    rw [List.countP_eq_zero]
    intro a ha
    rw [hz a ha]
    simpa using h
theorem slots_init (sv : List Int) (jobs jobs' : List Job) (q : Int) : slots sv (initM sv jobs) q = slots sv (initM sv jobs') q := rfl
theorem finish_ends {sv : List Int} {jobs : List Job} (h : validJ sv jobs = true) : ∃ t, Ends sv jobs (initM sv jobs) t /\ ∀ j : Nat, j < jobs.length -> finishM sv jobs j = ((lat t.ss j).rd, 0) := by
  obtain ⟨t, t1, t2⟩ := runN_ends (RInv.init h) (Nat.le_refl _)
  refine ⟨t, t1, fun j hj => ?_⟩
  unfold finishM
  rw [if_pos ⟨h, by omega, by omega⟩, <- t2 j hj, init_lat hj]
  rfl
end Go.Lat
namespace Go.Lat
open Go.RowKit
theorem wkStep_pos {p k : Int} {wk : List Ld} {x : Ext} (h : x.jb = k /\ ¬ hasB p x.ca /\ ¬ x.pc = -1) : wkStep p k wk x = wk.set x.pc.toNat ⟨(lat wk x.pc).st, x.ba⟩ := if_pos h
theorem wkStep_neg {p k : Int} {wk : List Ld} {x : Ext} (h : ¬ (x.jb = k /\ ¬ hasB p x.ca /\ ¬ x.pc = -1)) : wkStep p k wk x = wk := if_neg h
theorem goneF_iff {p k : Int} {l : List Ext} : goneF p k l = true ↔ ∃ x ∈ l, x.jb = k /\ ¬ hasB p x.ca /\ x.pc = -1 := by
  unfold goneF
  rw [List.any_eq_true]
  constructor
  . rintro ⟨x, hx, h⟩; exact ⟨x, hx, of_decide_eq_true h⟩
  . rintro ⟨x, hx, h⟩; exact ⟨x, hx, decide_eq_true h⟩
theorem goneF_congr {p p' k : Int} {l l' : List Ext} (h : (∃ x ∈ l, x.jb = k /\ ¬ hasB p x.ca /\ x.pc = -1) ↔ ∃ x ∈ l', x.jb = k /\ ¬ hasB p' x.ca /\ x.pc = -1) : goneF p k l = goneF p' k l' := by
  rw [Bool.eq_iff_iff, goneF_iff, goneF_iff]; exact h
theorem wkF_len {p k : Int} : ∀ {l : List Ext} {wk : List Ld}, (wkF p k l wk).length = wk.length
  | [], _ => rfl
  | x :: l, wk => by
    show (wkF p k l (wkStep p k wk x)).length = _
    rw [wkF_len]
    unfold wkStep
    split
    . rw [List.length_set]
    . rfl
theorem wkF_st {p k : Int} : ∀ {l : List Ext} {wk : List Ld}, (∀ x ∈ l, x.pc = -1 \/ 0 <= x.pc) -> ∀ w ∈ wkF p k l wk, ∃ w' ∈ wk, w.st = w'.st
  | [], wk, _, w, hw => ⟨w, hw, rfl⟩
  | x :: l, wk, h, w, hw => by
    obtain ⟨w1, h1, h2⟩ := wkF_st (l := l) (wk := wkStep p k wk x) (fun y hy => h y (List.mem_cons_of_mem _ hy)) w hw
    unfold wkStep at h1
    split at h1
    . rename_i hc
      have hx := (h x (by simp)).resolve_left hc.2.2
      rcases Nat.lt_or_ge x.pc.toNat wk.length with hl | hl
      . rcases List.mem_or_eq_of_mem_set h1 with h1 | rfl
        . exact ⟨w1, h1, h2⟩
        . exact ⟨_, lat_mem ⟨hx, by omega⟩, h2⟩
      . rw [List.set_eq_of_length_le hl] at h1
        exact ⟨w1, h1, h2⟩
    . exact ⟨w1, h1, h2⟩
theorem with_eq {r r' : Req} {p p' : Int} (h : ValidR r) (h' : ValidR r') (hl : r'.jobs.length = r.jobs.length) (hk : ∀ k : Nat, k < r.jobs.length -> jobW r' p' k = jobW r p k) : withM r' p' = withM r p := by
  refine lat_ext (by rw [withM_len, withM_len, hl]) fun k hk' => ?_
  rw [withM_len] at hk'
  rw [h'.with_lat p' hk', h.with_lat p (by omega), hk k (by omega)]
def latM (r : Req) (s : Int) : Int := max 0 ((finishM r.sv (withM r s) r.late).1 - (lat r.jobs r.late).ar - r.obj)
theorem ValidR.lateE {r : Req} (h : ValidR r) (s : Int) : lateM r s = (latM r s, 0) := by
  unfold lateM latenessM'
  rw [if_neg (fun h' => h' (h.late2 s))]
  rfl
theorem ValidR.vals {r : Req} (h : ValidR r) : valuesM r = ((rangeI (2 ^ r.causes.toNat)).map (latM r), 0) := by
  unfold valuesM
  rw [if_pos ((validR_iff r).2 h)]
  have hn : (rangeI (2 ^ r.causes.toNat)).find? (fun s => decide (¬ (lateM r s).2 = 0)) = none := by
    rw [List.find?_eq_none]
    intro s _
    simp [h.lateE s]
  rw [hn]
  simp only [h.lateE]
theorem ValidR.vlen {r : Req} (h : ValidR r) : (valuesM r).1.length = 2 ^ r.causes.toNat := by rw [h.vals]; simp [rangeI]
theorem ValidR.vok {r : Req} (h : ValidR r) : (valuesM r).2 = 0 := by rw [h.vals]
theorem ValidR.vlat {r : Req} (h : ValidR r) {s : Int} (hs : 0 <= s /\ s < ((valuesM r).1.length : Int)) : lat (valuesM r).1 s = latM r s := by
  obtain ⟨k, rfl⟩ : ∃ k : Nat, s = k := ⟨s.toNat, by omega⟩
  rw [h.vlen] at hs
  rw [h.vals]
  have hk : k < (rangeI (2 ^ r.causes.toNat)).length := by simp only [rangeI, List.length_map, List.length_range]; omega
  show lat ((rangeI (2 ^ r.causes.toNat)).map (latM r)) (k : Int) = _
  rw [lat_map hk]
  congr 1
  unfold rangeI
  rw [lat_map (by simp only [rangeI, List.length_map] at hk; exact hk), lat_get (by simp only [rangeI, List.length_map] at hk; exact hk)]
  simp
theorem pw_valid {r : Req} (j : validJ r.sv r.jobs = true) (late : 0 <= r.late /\ r.late < r.jobs.length) (obj : 0 <= r.obj /\ r.obj <= 4398046511104) (causes : 0 <= r.causes /\ r.causes <= 6)
    (ex : ∀ x ∈ r.ex, ((0 <= x.jb /\ x.jb < r.jobs.length) /\ 0 <= x.ca /\ x.ca < r.causes) /\ (isRemM r x = true \/ isWorkM r x = true)) (pw : r.ex.Pairwise fun a b => extLt a b = true) : ValidR r := by
  refine ⟨j, late, obj, causes, fun i hi => ex _ (lat_mem ⟨by omega, by omega⟩), fun i hi => ?_⟩
  have := List.pairwise_iff_getElem.1 pw i (i + 1) (by omega) hi (by omega)
  rwa [lat_get (by omega), lat_get hi]
structure ShR (d : Int) (sv : List Int) (n : Nat) (sF sG : RunS) : Prop where
  ss : ∀ j : Nat, j < n -> lat sG.ss j = ⟨(lat sF.ss j).dn, (lat sF.ss j).al, (lat sF.ss j).rd + d⟩
  c : ∀ q x : Int, 0 <= q -> q < sv.length -> 0 <= x -> cnt sv sG q (x + d) = cnt sv sF q x
structure GrR (sv : List Int) (jG : List Job) (sF sG : RunS) : Prop where
  ss : ∀ j : Nat, j < jG.length -> ((lat sG.ss j).dn = 0 /\ (lat sF.ss j).dn = 0 /\ (lat sG.ss j).rd = (lat jG j).ar /\ (lat sF.ss j).rd = (lat jG j).ar) ∨
    ((lat sG.ss j).dn = 1 /\ (lat sF.ss j).dn = (lat sF.ss j).al /\ (lat sF.ss j).rd <= (lat sG.ss j).rd)
  c : ∀ x, cnt sv sG 0 x <= cnt sv sF 0 x
structure LessW (jF jG : List Job) : Prop where
  len : jF.length = jG.length
  ar : ∀ k : Nat, k < jG.length -> (lat jF k).ar = (lat jG k).ar
  one : ∀ k : Nat, k < jG.length -> (lat jG k).wk.length <= 1
  wl : ∀ k : Nat, k < jG.length -> (lat jF k).wk.length <= (lat jG k).wk.length
  tm : ∀ k : Nat, k < jG.length -> (lat jF k).wk.length = 1 -> (lat (lat jF k).wk 0).tm <= (lat (lat jG k).wk 0).tm
structure Nr (N : Int -> Prop) (near : Nat -> Prop) (jA jB : List Job) : Prop where
  len : jA.length = jB.length
  eq : ∀ k : Nat, k < jA.length -> near k -> lat jA k = lat jB k
  inn : ∀ k : Nat, k < jA.length -> near k -> ∀ w ∈ (lat jA k).wk, N w.st
  outA : ∀ k : Nat, k < jA.length -> ¬ near k -> ∀ w ∈ (lat jA k).wk, ¬ N w.st
  outB : ∀ k : Nat, k < jA.length -> ¬ near k -> ∀ w ∈ (lat jB k).wk, ¬ N w.st
structure NrR (sv : List Int) (N : Int -> Prop) (near : Nat -> Prop) (n : Nat) (sA sB : RunS) : Prop where
  ss : ∀ j : Nat, j < n -> near j -> lat sA.ss j = lat sB.ss j
  c : ∀ q x, 0 <= q -> N q -> cnt sv sA q x = cnt sv sB q x
theorem work_mem {sv : List Int} {jobs : List Job} {c : Nat} {s : RunS} {i : Nat} (h : RInv sv jobs c s) (hi : i < jobs.length) (hp : (lat s.ss i).dn < (lat s.ss i).al) : workM jobs s i ∈ (lat jobs i).wk := by
  have := h.al i hi
  exact lat_mem ⟨by omega, by omega⟩
theorem NrR.symm {sv : List Int} {N : Int -> Prop} {near : Nat -> Prop} {n : Nat} {sA sB : RunS} (h : NrR sv N near n sA sB) : NrR sv N near n sB sA := ⟨fun j hj hn => (h.ss j hj hn).symm, fun q x hq hN => (h.c q x hq hN).symm⟩
theorem NrR.far {sv : List Int} {N : Int -> Prop} {near : Nat -> Prop} {jobs : List Job} {sA sB : RunS} {i : Nat} (R : NrR sv N near jobs.length sA sB) (o : StepC sv jobs sA i) (hn : ¬ near i) (hw : ¬ N (workM jobs sA i).st) : NrR sv N near jobs.length (nextM sv jobs sA i) sB := by
  refine ⟨fun j hj hnj => ?_, fun q x hq hN => ?_⟩
  . rw [o.ss j, if_neg (fun e => by subst e; exact hn hnj)]
    exact R.ss j hj hnj
  . have := o.cnt q x hq
    rw [if_neg (fun h => by rw [h.1] at hN; exact hw hN)] at this
    rw [<- R.c q x hq hN]; omega
theorem sim_near {sv : List Int} {N : Int -> Prop} {near : Nat -> Prop} {jA jB : List Job} (H : Nr N near jA jB) {sA tA : RunS} (hA : Ends sv jA sA tA) :
    ∀ {sB tB : RunS} {c cB : Nat}, RInv sv jA c sA -> RInv sv jB cB sB -> Ends sv jB sB tB -> NrR sv N near jA.length sA sB -> ∀ j : Nat, j < jA.length -> near j -> (lat tA.ss j).rd = (lat tB.ss j).rd := by
  induction hA with
  | stop h =>
    rename_i sA
    intro sB tB c cB iA iB hB R j hjl hnj
    induction hB generalizing cB with
    | stop h' => rw [R.ss j hjl hnj]
    | step h' hr' ih' =>
      rename_i sB tB
      obtain ⟨i, e1, e2, e3, _, e5, e6, _⟩ := iB.go h'
      have e2' : i < jA.length := by rw [H.len]; exact e2
      have hn : ¬ near i := fun hn => by
        have := R.ss i e2' hn
        have := iA.none h i e2'
        rw [‹lat sA.ss (i : Int) = _›] at this
        exact this e3
      rw [e1] at ih'
      refine ih' e6 ?_
      have R' : NrR sv N near jB.length sB sA := by rw [<- H.len]; exact R.symm
      have := (R'.far e5 hn (H.outB i e2' hn _ (work_mem iB e2 e3))).symm
      rwa [<- H.len] at this
  | step h hr ih =>
    rename_i sA tA
    intro sB tB c cB iA iB hB R j hjl hnj
    obtain ⟨i, e1, e2, e3, e4, e5, e6, _⟩ := iA.go h
    rw [e1] at ih
    by_cases hn : near i
    . clear hr
      induction hB generalizing cB with
      | stop h' =>
        have := iB.none h' i (by rw [<- H.len]; exact e2)
        rw [<- R.ss i e2 hn] at this
        exact absurd e3 this
      | step h' hr' ih' =>
        rename_i sB tB
        obtain ⟨k, g1, g2, g3, g4, g5, g6, _⟩ := iB.go h'
        have g2' : k < jA.length := by rw [H.len]; exact g2
        rw [g1] at ih' hr'
        by_cases hk : near k
        . have a := e4 k g2' (by rw [R.ss k g2' hk]; exact g3)
          have b := g4 i (by rw [<- H.len]; exact e2) (by rw [<- R.ss i e2 hn]; exact e3)
          rw [R.ss k g2' hk, R.ss i e2 hn] at a
          have ek : k = i := by
            rcases Nat.lt_trichotomy i k with e | e | e
            . have := b.2 e; omega
            . exact e.symm
            . have := a.2 e; omega
          subst ek
          refine ih e6 g6 hr' ?_ j hjl hnj
          have ew : workM jB sB k = workM jA sA k := by unfold workM; rw [<- H.eq k e2 hn, R.ss k e2 hn]
          have hN := H.inn k e2 hn _ (work_mem iA e2 e3)
          have hst := e5.st
          have es : (visM sv jA sA k).st = (visM sv jB sB k).st := by
            have a1 := (e5.vis _).1 (Int.le_refl _)
            have a2 := (g5.vis _).1 (Int.le_refl _)
            rw [ew, <- R.c _ _ hst.1 hN, <- R.ss k e2 hn] at a2
            have b1 := (e5.vis _).2 a2
            rw [R.c _ _ hst.1 hN, R.ss k e2 hn, <- ew] at a1
            have b2 := (g5.vis _).2 a1
            omega
          have ee : (visM sv jA sA k).en = (visM sv jB sB k).en := by rw [e5.en, g5.en, ew, es]
          refine ⟨fun m hm hnm => ?_, fun q x hq hNq => ?_⟩
          . rw [e5.ss m, g5.ss m, ee, R.ss k e2 hn]
            by_cases em : m = k
            . rw [if_pos em, if_pos em]
            . rw [if_neg em, if_neg em]; exact R.ss m hm hnm
          . have a := e5.cnt q x hq
            have b := g5.cnt q x hq
            rw [<- R.c q x hq hNq, ew, <- ee] at b
            omega
        . refine ih' g6 ?_
          have R' : NrR sv N near jB.length sB sA := by rw [<- H.len]; exact R.symm
          have := (R'.far g5 hk (H.outB k g2' hk _ (work_mem iB g2 g3))).symm
          rwa [<- H.len] at this
    . exact ih e6 iB hB (R.far e5 hn (H.outA i e2 hn _ (work_mem iA e2 e3))) j hjl hnj
theorem fin_near {sv : List Int} {N : Int -> Prop} {near : Nat -> Prop} {jA jB : List Job} (H : Nr N near jA jB) (hN : ∀ q, N q -> 0 <= q /\ q < sv.length) (vA : validJ sv jA = true) (vB : validJ sv jB = true) {j : Int} (hjl : 0 <= j /\ j < jA.length) (hn : near j.toNat) : (finishM sv jA j).1 = (finishM sv jB j).1 := by
  obtain ⟨j, rfl⟩ : ∃ k : Nat, j = k := ⟨j.toNat, by omega⟩
  have hjl : j < jA.length := by omega
  obtain ⟨tA, f1, f2⟩ := finish_ends vA
  obtain ⟨tB, g1, g2⟩ := finish_ends vB
  rw [f2 j hjl, g2 j (by rw [<- H.len]; exact hjl)]
  refine sim_near H f1 (RInv.init vA) (RInv.init vB) g1 ⟨fun k hk hnk => ?_, fun q x hq hNq => ?_⟩ j hjl hn
  . rw [init_lat hk, init_lat (by rw [<- H.len]; exact hk), H.eq k hk hnk]
  . rw [init_cnt (hN q hNq), init_cnt (hN q hNq), slots_init sv jB jA]
end Go.Lat
namespace Go.Lat
open Go.RowKit
theorem inI_td {x k : Int} (hk : 0 < k) (h : inI x) : inI (x.tdiv k) := by
  have h1 := (tdiv_parts x k hk).1
  have h2 := (tdiv_parts x k hk).2
  unfold inI at *
  rcases Int.le_total 0 x with hx | hx
  . have := Int.tdiv_nonneg hx (Int.le_of_lt hk)
    have : x.tdiv k <= x := by rw [Int.tdiv_eq_ediv_of_nonneg hx]; exact Int.ediv_le_self _ hx
    omega
  . have e : x.tdiv k = -((-x).tdiv k) := by rw [Int.neg_tdiv]; omega
    have := Int.tdiv_nonneg (a := -x) (by omega) (Int.le_of_lt hk)
    have : (-x).tdiv k <= -x := by rw [Int.tdiv_eq_ediv_of_nonneg (by omega : 0 <= -x)]; exact Int.ediv_le_self _ (by omega)
    omega
theorem sta_le (sv : A3) (lone : Bool) : 1 <= staM sv lone /\ staM sv lone <= 3 := by
  unfold staM
  have := zXz (c := sv.x2) (n := 3) (by omega)
  split <;> omega
theorem many_le (j : Vector Int 6) (lone : Bool) : 0 <= manyM j lone /\ manyM j lone <= 3 /\ (lone = true -> manyM j lone <= 1) := by
  unfold manyM
  have := zXz (c := vat j 1) (n := 4) (by omega)
  split
  . omega
  . rename_i h; exact ⟨by omega, by omega, fun h' => absurd h' h⟩
theorem atM_succ {jobs : List (Vector Int 6)} {i : Nat} (h : i < jobs.length) : atM jobs (i + 1) = atM jobs i + pickM (vat (lat jobs (i : Int)) 0) 5 := by
  unfold atM
  rw [take_succ_lat h, List.map_append, List.sum_append]
  simp
theorem atM_le (jobs : List (Vector Int 6)) : ∀ i : Nat, i <= jobs.length -> 0 <= atM jobs i /\ atM jobs i <= 4 * i
  | 0, _ => by simp [atM]
  | i + 1, h => by
    rw [atM_succ (by omega)]
    have := atM_le jobs i (by omega)
    have := zXz (c := vat (lat jobs (i : Int)) 0) (n := 5) (by omega)
    omega
theorem wkM_succ (n : Int) (j : Vector Int 6) (k : Nat) : wkM n j (k + 1) = wkM n j k ++ [ldM n j k] := map_range_succ
structure JobMade (n : Int) (lone : Bool) (j : Job) : Prop where
  ar : 0 <= j.ar /\ j.ar <= 24
  wl : j.wk.length <= 3 /\ (lone = true -> j.wk.length <= 1)
  wk : ∀ w ∈ j.wk, (0 <= w.st /\ w.st < n) /\ 0 <= w.tm /\ w.tm <= 8
theorem jobM_made {jobs : List (Vector Int 6)} {n : Int} {lone : Bool} {i : Nat} (hn : 1 <= n) (hi : i < jobs.length) (h6 : i < 6) : JobMade n lone (jobM jobs n lone i) := by
  have h1 := atM_le jobs (i + 1) (by omega)
  have h2 := many_le (lat jobs (i : Int)) lone
  refine ⟨⟨h1.1, by show atM jobs (i + 1) <= 24; omega⟩, ⟨?_, fun hl => ?_⟩, fun w hw => ?_⟩
  . show (wkM _ _ _).length <= 3
    unfold wkM; rw [List.length_map, List.length_range]; omega
  . show (wkM _ _ _).length <= 1
    have := h2.2.2 hl
    unfold wkM; rw [List.length_map, List.length_range]; omega
  . have hw : w ∈ wkM n (lat jobs (i : Int)) (manyM (lat jobs (i : Int)) lone).toNat := hw
    unfold wkM at hw
    obtain ⟨k, _, rfl⟩ := List.mem_map.1 hw
    have p1 := zXz (c := vat (lat jobs (i : Int)) (2 + k)) hn
    have p2 := zXz (c := (vat (lat jobs (i : Int)) (2 + k)).tdiv 3) (n := 9) (by omega)
    exact ⟨p1, p2.1, by show pickM _ 9 <= 8; omega⟩
theorem jobsM_made {jobs : List (Vector Int 6)} {n : Int} {lone : Bool} (hn : 1 <= n) : (1 <= (jobsM jobs n lone).length /\ (jobsM jobs n lone).length <= 6) /\ ∀ j ∈ jobsM jobs n lone, JobMade n lone j := by
  have hl : (jobsM0 jobs n lone).length = min jobs.length 6 := by simp [jobsM0]
  unfold jobsM
  split
  . refine ⟨⟨by simp, by simp⟩, fun j hj => ?_⟩
    rw [List.mem_singleton] at hj
    subst hj
    exact ⟨⟨by show (0 : Int) <= 0; omega, by show (0 : Int) <= 24; omega⟩, ⟨by simp, fun _ => by simp⟩, fun w hw => by
      rw [List.mem_singleton] at hw
      subst hw
      exact ⟨⟨by show (0 : Int) <= 0; omega, by show (0 : Int) < n; omega⟩, by show (0 : Int) <= 5; omega, by show (5 : Int) <= 8; omega⟩⟩
  . refine ⟨⟨by omega, by omega⟩, fun j hj => ?_⟩
    unfold jobsM0 at hj
    obtain ⟨i, hi, rfl⟩ := List.mem_map.1 hj
    have hi := List.mem_range.1 hi
    exact jobM_made hn (by omega) (by omega)
theorem exStep_stuck (jobs : List Job) (causes late : Int) (ex : List A3) (i : Int) (l : List Int) (s : List Ext × Nat) (h : ex.length <= s.2) : l.foldl (exStep jobs causes late ex i) s = s := by
  induction l with
  | nil => rfl
  | cons k l ih =>
    rw [List.foldl_cons]
    have : exStep jobs causes late ex i s k = s := by unfold exStep; rw [if_neg (by omega)]
    rw [this, ih]
def ksM (q : Nat) : List Int := (List.range q).map fun k : Nat => (k : Int) - 1
theorem ksM_succ (q : Nat) : ksM (q + 1) = ksM q ++ [(q : Int) - 1] := map_range_succ
theorem ksM_split {q m : Nat} (h : q <= m) : ∃ l, ksM m = ksM q ++ l := by
  unfold ksM
  refine ⟨((List.range m).drop q).map fun k : Nat => (k : Int) - 1, ?_⟩
  rw [<- List.map_append]
  congr 1
  have : List.range q = (List.range m).take q := by rw [List.take_range, Nat.min_eq_left h]
  rw [this, List.take_append_drop]
theorem exJob_eq (jobs : List Job) (causes late : Int) (ex : List A3) (s : List Ext × Nat) (i : Nat) : exJob jobs causes late ex s i = (ksM ((lat jobs (i : Int)).wk.length + 1)).foldl (exStep jobs causes late ex i) s := rfl
def exAll (jobs : List Job) (causes late : Int) (ex : List A3) (i : Nat) : List Ext × Nat := (List.range i).foldl (exJob jobs causes late ex) ([], 0)
theorem exAll_succ (jobs : List Job) (causes late : Int) (ex : List A3) (i : Nat) : exAll jobs causes late ex (i + 1) = exJob jobs causes late ex (exAll jobs causes late ex i) i := by
  unfold exAll
  rw [List.range_succ, List.foldl_append]; rfl
end Go.Lat
namespace Go.Lat
open Go.RowKit
structure ExInv (jobs : List Job) (causes late : Int) (l : List Ext) (i q : Int) : Prop where
  pw : l.Pairwise fun a b => extLt a b = true
  lt : ∀ x ∈ l, x.jb < i \/ x.jb = i /\ x.pc < q
  ok : ∀ x ∈ l, ((0 <= x.jb /\ x.jb < jobs.length) /\ 0 <= x.ca /\ x.ca < causes) /\ ((x.pc = -1 /\ ¬ x.jb = late /\ x.ba = 0 /\ x.op = 0 /\ x.ver = 0) ∨
    ((0 <= x.pc /\ x.pc < (lat jobs x.jb).wk.length) /\ (0 <= x.ba /\ x.ba <= (lat (lat jobs x.jb).wk x.pc).tm) /\ (0 <= x.op /\ x.op <= 2) /\ 0 <= x.ver /\ x.ver <= 1))
theorem ExInv.up {jobs : List Job} {causes late : Int} {l : List Ext} {i q i' q' : Int} (h : ExInv jobs causes late l i q) (hh : i < i' \/ i = i' /\ q <= q') : ExInv jobs causes late l i' q' :=
  ⟨h.pw, fun x hx => by have := h.lt x hx; omega, h.ok⟩
theorem ExInv.step {jobs : List Job} {causes late : Int} {ex : List A3} {s : List Ext × Nat} {i k : Int} (hc : 0 < causes) (hi : 0 <= i /\ i < jobs.length) (hk : -1 <= k /\ k < (lat jobs i).wk.length) (ht : 0 <= k -> 0 <= (lat (lat jobs i).wk k).tm)
    (h : ExInv jobs causes late s.1 i k) : ExInv jobs causes late (exStep jobs causes late ex i s k).1 i (k + 1) := by
  unfold exStep
  split
  . split
    . rename_i ha
      have hx : (exX jobs causes (lat ex (s.2 : Int)) i k).jb = i /\ (exX jobs causes (lat ex (s.2 : Int)) i k).pc = k := by unfold exX; split <;> exact ⟨rfl, rfl⟩
      have p1 := zXz (c := (lat ex (s.2 : Int)).x1) (n := causes) (by omega)
      refine ⟨?_, fun x hx' => ?_, fun x hx' => ?_⟩
      . rw [List.pairwise_append]
        refine ⟨h.pw, List.pairwise_singleton _ _, fun a ha' b hb => ?_⟩
        rw [List.mem_singleton] at hb
        subst hb
        have := h.lt a ha'
        unfold extLt
        rw [decide_eq_true_eq]
        omega
      . rcases List.mem_append.1 hx' with hx' | hx'
        . have := h.lt x hx'; omega
        . rw [List.mem_singleton] at hx'; subst hx'; omega
      . rcases List.mem_append.1 hx' with hx' | hx'
        . exact h.ok x hx'
        . rw [List.mem_singleton] at hx'; subst hx'
          unfold exAct at ha
          unfold exX
          split
          . rename_i hk0
            have t0 := ht hk0
            have p2 := zXz (c := (lat ex (s.2 : Int)).x2) (n := (lat (lat jobs i).wk k).tm + 1) (by omega)
            have p3 := zXz (c := (lat ex (s.2 : Int)).x1.tdiv 5) (n := 3) (by omega)
            have p4 := zXz (c := (lat ex (s.2 : Int)).x1.tdiv 15) (n := 2) (by omega)
            exact ⟨⟨hi, p1⟩, .inr ⟨⟨hk0, hk.2⟩, ⟨p2.1, Int.lt_add_one_iff.1 p2.2⟩, ⟨p3.1, Int.lt_add_one_iff.1 p3.2⟩, p4.1, Int.lt_add_one_iff.1 p4.2⟩⟩
          . rename_i hk0
            have e : k = -1 := by omega
            subst e
            rw [if_pos rfl] at ha
            exact ⟨⟨hi, p1⟩, .inl ⟨rfl, ha.2, rfl, rfl, rfl⟩⟩
    . exact h.up (.inr ⟨rfl, by omega⟩)
  . exact h.up (.inr ⟨rfl, by omega⟩)
theorem ExInv.job {jobs : List Job} {causes late : Int} {ex : List A3} (hc : 0 < causes) (ht : ∀ j ∈ jobs, ∀ w ∈ j.wk, 0 <= w.tm) {s : List Ext × Nat} {i : Nat} (hi : i < jobs.length)
    (h : ExInv jobs causes late s.1 i (-1)) : ∀ q : Nat, q <= (lat jobs (i : Int)).wk.length + 1 -> ExInv jobs causes late ((ksM q).foldl (exStep jobs causes late ex i) s).1 i ((q : Int) - 1)
  | 0, _ => h
  | q + 1, hq => by
    rw [ksM_succ, List.foldl_append]
    have ih := ExInv.job (ex := ex) hc ht hi h q (by omega)
    have := ih.step (ex := ex) hc ⟨by omega, by omega⟩ ⟨by omega, by omega⟩ (fun h0 => ht _ (lat_mem (xs := jobs) (i := (i : Int)) ⟨by omega, by omega⟩) _ (lat_mem ⟨h0, by omega⟩))
    rw [show ((q + 1 : Nat) : Int) - 1 = (q : Int) - 1 + 1 by omega]
    exact this
theorem ExInv.all {jobs : List Job} {causes late : Int} {ex : List A3} (hc : 0 < causes) (ht : ∀ j ∈ jobs, ∀ w ∈ j.wk, 0 <= w.tm) : ∀ i : Nat, i <= jobs.length -> ExInv jobs causes late (exAll jobs causes late ex i).1 i (-1)
  | 0, _ => ⟨List.Pairwise.nil, fun _ hx => absurd hx List.not_mem_nil, fun _ hx => absurd hx List.not_mem_nil⟩
  | i + 1, hi => by
    rw [exAll_succ, exJob_eq]
    have := ExInv.job (late := late) (ex := ex) (s := exAll jobs causes late ex i) hc ht (by omega) (ExInv.all hc ht i (by omega)) _ (Nat.le_refl _)
    exact this.up (.inl (by omega))
structure MadeOk (r : Req) (lone : Bool) : Prop where
  v : ValidR r
  ba : ∀ x ∈ r.ex, ¬ x.pc = -1 -> x.ba <= (lat (lat r.jobs x.jb).wk x.pc).tm
  pcs : ∀ x ∈ r.ex, x.pc = -1 \/ 0 <= x.pc /\ x.pc < (lat r.jobs x.jb).wk.length
  late : ∀ x ∈ r.ex, x.pc = -1 -> ¬ x.jb = r.late
  pw : r.ex.Pairwise fun a b => extLt a b = true
  obj : 0 <= r.obj /\ r.obj <= 29
  ca : 0 <= r.causes /\ r.causes <= 4
  jl : 1 <= r.jobs.length /\ r.jobs.length <= 6
  sl : 1 <= r.sv.length /\ r.sv.length <= 3
  ar : ∀ j ∈ r.jobs, 0 <= j.ar /\ j.ar <= 24
  tm : ∀ j ∈ r.jobs, ∀ w ∈ j.wk, 0 <= w.tm /\ w.tm <= 8
  one : lone = true -> r.sv.length = 1 /\ ∀ j ∈ r.jobs, j.wk.length <= 1
theorem made_ok (c : Cas) (lone : Bool) : MadeOk (madeC c lone) lone := by
  obtain ⟨n1, n3⟩ := sta_le c.sv lone
  obtain ⟨jl, jm⟩ := jobsM_made (jobs := c.jobs) (lone := lone) n1
  have sl : (madeC c lone).sv.length = (staM c.sv lone).toNat := by simp [madeC, madeM]
  have ej : (madeC c lone).jobs = jobsM c.jobs (staM c.sv lone) lone := rfl
  have p1 := zXz (c := c.late) (n := ((jobsM c.jobs (staM c.sv lone) lone).length : Int)) (by omega)
  have p2 := zXz (c := c.obj) (n := 30) (by omega)
  have p3 := zXz (c := c.obj.tdiv 30) (n := 5) (by omega)
  have hinv : ExInv (madeC c lone).jobs (madeC c lone).causes (madeC c lone).late (madeC c lone).ex (madeC c lone).jobs.length (-1) := by
    show ExInv _ _ _ (exsM _ _ _ _) _ _
    unfold exsM
    split
    . rename_i hc
      exact ExInv.all hc (fun j hj w hw => ((jm j hj).wk w hw).2.1) _ (Nat.le_refl _)
    . exact ⟨List.Pairwise.nil, fun _ hx => absurd hx List.not_mem_nil, fun _ hx => absurd hx List.not_mem_nil⟩
  have hv : ValidR (madeC c lone) := by
    refine ⟨?_, p1, ⟨p2.1, ?_⟩, ⟨p3.1, ?_⟩, fun i hi => ?_, fun i hi => ?_⟩
    . unfold validJ
      rw [Bool.and_eq_true, Bool.and_eq_true, decide_eq_true_eq, List.all_eq_true, List.all_eq_true]
      refine ⟨⟨⟨by omega, by omega, by rw [ej]; omega⟩, fun n hn => ?_⟩, fun j hj => ?_⟩
      . obtain ⟨i, _, rfl⟩ := List.mem_map.1 hn
        have := zXz (c := lat [c.sv.x0, c.sv.x1, c.sv.x2] (i : Int)) (n := 2) (by omega)
        exact decide_eq_true (by omega)
      . have := jm j hj
        unfold jobOk
        rw [Bool.and_eq_true, decide_eq_true_eq, List.all_eq_true]
        refine ⟨⟨this.ar.1, by have := this.ar.2; omega, by have := this.wl.1; omega⟩, fun w hw => ?_⟩
        have := this.wk w hw
        exact decide_eq_true (by omega)
    . show pickM c.obj 30 <= _; omega
    . show pickM (c.obj.tdiv 30) 5 <= _; omega
    . have := hinv.ok _ (lat_mem (xs := (madeC c lone).ex) (i := (i : Int)) ⟨by omega, by omega⟩)
      refine ⟨this.1, ?_⟩
      rcases this.2 with h | h
      . left; unfold isRemM; exact decide_eq_true h
      . right; unfold isWorkM
        have hj := jm _ (lat_mem (xs := (madeC c lone).jobs) (i := (lat (madeC c lone).ex (i : Int)).jb) ⟨this.1.1.1, by have := this.1.1.2; omega⟩)
        have := (hj.wk _ (lat_mem ⟨h.1.1, by omega⟩)).2.2
        exact decide_eq_true ⟨⟨h.1.1, by omega⟩, ⟨h.2.1.1, by omega⟩, ⟨h.2.2.1.1, by omega⟩, h.2.2.2.1, by omega⟩
    . have := List.pairwise_iff_getElem.1 hinv.pw i (i + 1) (by omega) hi (by omega)
      rwa [lat_get (by omega), lat_get hi]
  refine ⟨hv, fun x hx hp => ?_, fun x hx => ?_, fun x hx hp => ?_, hinv.pw, ⟨p2.1, ?_⟩, ⟨p3.1, ?_⟩, jl, by omega, fun j hj => (jm j hj).ar, fun j hj w hw => ((jm j hj).wk w hw).2, fun h => ⟨?_, fun j hj => (jm j hj).wl.2 h⟩⟩
  . exact ((hinv.ok x hx).2.resolve_left fun h => hp h.1).2.1.2
  . exact (hinv.ok x hx).2.imp (·.1) (·.1)
  . exact ((hinv.ok x hx).2.resolve_right fun h => by omega).2.1
  . show pickM c.obj 30 <= _; omega
  . show pickM (c.obj.tdiv 30) 5 <= _; omega
  . rw [sl]; unfold staM; rw [if_pos h]; rfl
end Go.Lat
namespace Go.Lat
open Go.RowKit
def bitZ (s k : Int) : Int := bitI .and .i64 (s.fdiv (2 ^ (min k.toNat 64))) 1
theorem bit_or : ∀ s : Fin 16, ∀ k : Fin 4, bitZ (s.val : Int) (k.val : Int) = 0 \/ bitZ (s.val : Int) (k.val : Int) = 1 := by decide +kernel
theorem bit_add : ∀ m : Fin 5, ∀ s : Fin 16, ∀ k : Fin 4, ∀ c : Fin 4, s.val < 2 ^ m.val -> k.val < m.val -> bitZ (s.val : Int) (k.val : Int) = 0 →
    s.val + 2 ^ k.val < 2 ^ m.val /\ (bitZ ((s.val + 2 ^ k.val : Nat) : Int) (c.val : Int) = 1 ↔ bitZ (s.val : Int) (c.val : Int) = 1 \/ c.val = k.val) := by decide +kernel
theorem set_add {m s k : Int} (hm : 0 <= m /\ m <= 4) (hs : 0 <= s /\ s < 2 ^ m.toNat) (hk : 0 <= k /\ k < m) (hb : bitZ s k = 0) :
    s + 2 ^ k.toNat < 2 ^ m.toNat /\ (∀ c, 0 <= c /\ c < m -> (hasB (s + 2 ^ k.toNat) c ↔ hasB s c \/ c = k)) /\ ¬ hasB s k := by
  obtain ⟨m, rfl⟩ : ∃ n : Nat, m = n := ⟨m.toNat, by omega⟩
  obtain ⟨k, rfl⟩ : ∃ n : Nat, k = n := ⟨k.toNat, by omega⟩
  obtain ⟨s, rfl⟩ : ∃ n : Nat, s = n := ⟨s.toNat, by omega⟩
  simp only [Int.toNat_natCast] at *
  have hs' : s < 2 ^ m := by exact_mod_cast hs.2
  have h16 : 2 ^ m <= 2 ^ 4 := Nat.pow_le_pow_right (by omega) (by omega)
  have key := fun c : Fin 4 => bit_add ⟨m, by omega⟩ ⟨s, by omega⟩ ⟨k, by omega⟩ c hs' (by show k < m; omega) hb
  refine ⟨by have := (key 0).1; exact_mod_cast this, fun c hc => ?_, fun h => ?_⟩
  . obtain ⟨c, rfl⟩ : ∃ n : Nat, c = n := ⟨c.toNat, by omega⟩
    have := (key ⟨c, by omega⟩).2
    unfold hasB
    unfold bitZ at this
    rw [show ((c : Int) = k) ↔ c = k by omega]
    have e : ((s + 2 ^ k : Nat) : Int) = (s : Int) + 2 ^ k := by norm_cast
    rw [<- e]
    exact this
  . unfold hasB at h
    unfold bitZ at hb
    omega
theorem sh_pow {k : Int} (h : 0 <= k /\ k <= 64) : (1 : Int) * 2 ^ (min k.toNat 64) = 2 ^ k.toNat := by
  rw [Int.one_mul, Nat.min_eq_left (by omega)]
theorem pow_le16 {k : Int} (h : 0 <= k /\ k <= 4) : 1 <= (2 : Int) ^ k.toNat /\ (2 : Int) ^ k.toNat <= 16 := by
  obtain ⟨k, rfl⟩ : ∃ n : Nat, k = n := ⟨k.toNat, by omega⟩
  rw [Int.toNat_natCast]
  have h1 : 2 ^ k <= 2 ^ 4 := Nat.pow_le_pow_right (by omega) (by omega)
  have h2 : 1 <= 2 ^ k := Nat.one_le_two_pow
  have e : ((2 ^ k : Nat) : Int) = (2 : Int) ^ k := by norm_cast
  omega
end Go.Lat
namespace Go.Lat
open Go.RowKit
structure Lens (r : Req) : Prop where
  a : r.sv.length <= 9223372036854775807
  b : ∀ j ∈ r.jobs, j.wk.length <= 9223372036854775807
  c : r.jobs.length <= 9223372036854775807
  d : r.ex.length <= 9223372036854775807
theorem ValidR.lens {r : Req} (h : ValidR r) : Lens r := by
  have j := job_ok h.j
  have := h.len
  exact ⟨by omega, fun q hq => by have := (j.2.2 q hq).1; omega, by omega, by omega⟩
theorem ValidR.vlenI {r : Req} (h : ValidR r) (hc : r.causes <= 4) : (((valuesM r).1.length : Nat) : Int) = 1 * 2 ^ (min r.causes.toNat 64) := by
  rw [h.vlen, sh_pow ⟨h.causes.1, by omega⟩]
  norm_cast
theorem ValidR.v16 {r : Req} (h : ValidR r) (hc : r.causes <= 4) : 1 <= (valuesM r).1.length /\ (valuesM r).1.length <= 16 := by
  have := h.vlenI hc
  rw [sh_pow ⟨h.causes.1, by omega⟩] at this
  have := pow_le16 (k := r.causes) ⟨h.causes.1, hc⟩
  omega
theorem ValidR.set {r : Req} (h : ValidR r) {s : Int} (hs : 0 <= s /\ s < ((valuesM r).1.length : Int)) : isSetM r s = true := by
  rw [h.vlen] at hs
  unfold isSetM
  rw [(validR_iff r).2 h, Bool.true_and, decide_eq_true_eq]
  have e : ((2 ^ r.causes.toNat : Nat) : Int) = (2 : Int) ^ r.causes.toNat := by norm_cast
  omega
theorem inI_small {n : Int} (h : -1000000000000000 <= n /\ n <= 1000000000000000) : inI n := by unfold inI; omega
theorem inI_pow {k : Int} (h : 0 <= k /\ k <= 4) : inI (1 * 2 ^ (min k.toNat 64)) := by
  rw [sh_pow ⟨h.1, by omega⟩]
  have := pow_le16 h
  exact inI_small (by omega)
end Go.Lat
