/- The law latecomerlaw24.ReplaySupported returns true for every input, and each argument reads afterwards as it read before. Part 6 of 19. No condition. -/
import Derived.Test.YtbaillkjjlmehaaLatE
import Derived.Test.YtbaillkjjlmehaaLatC
import Derived.WideShapes
import Derived.Lib.Overlaps
import Derived.Test.YtbaillkjjlmehaaLatD
set_option linter.unusedVariables false
set_option linter.unusedSimpArgs false
set_option linter.unnecessarySimpa false
set_option maxRecDepth 100000
set_option maxHeartbeats 4000000
namespace Go.Lat
def exR : Req := ⟨[1], [⟨0, [⟨0, 5⟩]⟩, ⟨2, [⟨0, 3⟩]⟩], 1, 2, 2, [⟨0, 0, 0, 1, 0, 0⟩, ⟨1, 0, 1, 2, 0, 0⟩]⟩
def staM (sv : A3) (lone : Bool) : Int := if lone = true then 1 else 1 + pickM sv.x2 3
def atM (jobs : List (Vector Int 6)) (i : Nat) : Int := ((jobs.take i).map fun j => pickM (vat j 0) 5).sum
def manyM (j : Vector Int 6) (lone : Bool) : Int := if lone = true then min (pickM (vat j 1) 4) 1 else pickM (vat j 1) 4
def ldM (n : Int) (j : Vector Int 6) (k : Nat) : Ld := ⟨pickM (vat j (2 + k)) n, pickM ((vat j (2 + k)).tdiv 3) 9⟩
def wkM (n : Int) (j : Vector Int 6) (m : Nat) : List Ld := (List.range m).map (ldM n j)
def jobM (jobs : List (Vector Int 6)) (n : Int) (lone : Bool) (i : Nat) : Job := ⟨atM jobs (i + 1), wkM n (lat jobs i) (manyM (lat jobs i) lone).toNat⟩
def jobsM0 (jobs : List (Vector Int 6)) (n : Int) (lone : Bool) : List Job := (List.range (min jobs.length 6)).map (jobM jobs n lone)
def jobsM (jobs : List (Vector Int 6)) (n : Int) (lone : Bool) : List Job := if (jobsM0 jobs n lone).length = 0 then [⟨0, [⟨0, 5⟩]⟩] else jobsM0 jobs n lone
def exX (jobs : List Job) (causes : Int) (e : A3) (i k : Int) : Ext := if 0 <= k then ⟨i, k, pickM e.x1 causes, pickM e.x2 ((lat (lat jobs i).wk k).tm + 1), pickM (e.x1.tdiv 5) 3, pickM (e.x1.tdiv 15) 2⟩ else ⟨i, k, pickM e.x1 causes, 0, 0, 0⟩
def exAct (late : Int) (e : A3) (i k : Int) : Prop := if k = -1 then pickM e.x0 7 = 0 /\ ¬ i = late else 0 < pickM e.x0 3
instance (late : Int) (e : A3) (i k : Int) : Decidable (exAct late e i k) := by unfold exAct; infer_instance
def exStep (jobs : List Job) (causes late : Int) (ex : List A3) (i : Int) (s : List Ext × Nat) (k : Int) : List Ext × Nat :=
  if s.2 < ex.length then ((if exAct late (lat ex (s.2 : Int)) i k then s.1 ++ [exX jobs causes (lat ex (s.2 : Int)) i k] else s.1), s.2 + 1) else s
def exJob (jobs : List Job) (causes late : Int) (ex : List A3) (s : List Ext × Nat) (i : Nat) : List Ext × Nat := ((List.range ((lat jobs (i : Int)).wk.length + 1)).map fun k : Nat => (k : Int) - 1).foldl (exStep jobs causes late ex i) s
def exsM (jobs : List Job) (causes late : Int) (ex : List A3) : List Ext := if 0 < causes then ((List.range jobs.length).foldl (exJob jobs causes late ex) ([], 0)).1 else []
def madeM (sv : A3) (jobs : List (Vector Int 6)) (ex : List A3) (late obj : Int) (lone : Bool) : Req :=
  ⟨(List.range (staM sv lone).toNat).map fun i : Nat => 1 + pickM (lat [sv.x0, sv.x1, sv.x2] (i : Int)) 2, jobsM jobs (staM sv lone) lone, pickM late (jobsM jobs (staM sv lone) lone).length, pickM obj 30, pickM (obj.tdiv 30) 5,
    exsM (jobsM jobs (staM sv lone) lone) (pickM (obj.tdiv 30) 5) (pickM late (jobsM jobs (staM sv lone) lone).length) ex⟩
structure CasOk (c : Cas) : Prop where
  jl : c.jobs.length <= 9223372036854775807
  el : c.ex.length <= 9223372036854775807
  i : (inI c.sv.x0 /\ inI c.sv.x1 /\ inI c.sv.x2) /\ inI c.late /\ inI c.obj
  v : (∀ j ∈ c.jobs, ∀ k, inI (vat j k)) /\ ∀ e ∈ c.ex, inI e.x0 /\ inI e.x1 /\ inI e.x2
def madeC (c : Cas) (lone : Bool) : Req := madeM c.sv c.jobs c.ex c.late c.obj lone
def touch (out : List Bool) (wk : List Ld) : Bool := wk.any fun w => lat out w.st
def mark (out : List Bool) (wk : List Ld) : List Bool := wk.foldl (fun o w => o.set w.st.toNat true) out
def joinStep (out : List Bool) (j : Job) : List Bool := if touch out j.wk = true then mark out j.wk else out
def joinRound (jobs : List Job) (out : List Bool) : List Bool := jobs.foldl joinStep out
def joinedM (r : Req) : List Bool := (List.range r.sv.length).foldl (fun o _ => joinRound r.jobs o) (mark (List.replicate r.sv.length false) (lat r.jobs r.late).wk)
end Go.Lat
namespace Go.Lat
open Go.ChangeShapes Go.WideShapes Go.ChangeAt Go.RowKit
open Go.Proofs
section
variable {H : Type} {enc : TypeId × Value -> H} {w : World} {base : Nat} {spare : Nat -> Bool} {held : Bool}
theorem c24_3 : Try.prog.cellsOf 3 = 1 := by kernel_rfl
theorem c24_27 : Try.prog.cellsOf 27 = 3 := by kernel_rfl
theorem c24_28 : Try.prog.cellsOf 28 = 1 := by kernel_rfl
theorem c24_29 : Try.prog.cellsOf 29 = 1 := by kernel_rfl
theorem c24_93 : Try.prog.cellsOf 93 = 6 := by kernel_rfl
theorem c24_90 : Try.prog.cellsOf 90 = 4 := by kernel_rfl
theorem c24_31 : Try.prog.cellsOf 31 = 7 := by kernel_rfl
theorem cells_slice {t e : TypeId} {fuel : Nat} {cs : List Value} {x : DataW H × List MemPlace} (ht : Try.prog.underlying t = some (.slice e)) (h : DataW.trod enc Try.prog w base spare held fuel t cs = some x) :
    ∃ v, cs = [v] /\ (∃ a len cap, v = .slice a len cap) /\ DataW.Trod enc Try.prog w base spare held t v x.1 x.2 := by
  rcases Go.Deep.open_slice ht h with ⟨rfl, rfl⟩ | ⟨a, len, cap, m, n, D, Pl, rfl, _, _, _, _, rfl, _⟩
  . exact ⟨_, rfl, ⟨_, _, _, rfl⟩, fuel, h⟩
  . exact ⟨_, rfl, ⟨_, _, _, rfl⟩, fuel, h⟩
theorem slice_le {t e : TypeId} {v : Value} {d : DataW H} {ps : List MemPlace} {n : Nat} {cs : List AV} {m : MM} (ht : Try.prog.underlying t = some (.slice e)) (h : DataW.Trod enc Try.prog w base spare held t v d ps) (hv : VR [] m (.lst true n cs) v) : n <= 9223372036854775807 := by
  obtain ⟨fuel, hf⟩ := h
  simp only [VR] at hv
  rcases hv with ⟨rfl, -⟩ | ⟨a, cap, vs, hle, rfl, -⟩
  . omega
  . rcases Go.Deep.open_slice ht hf with ⟨hcs, -⟩ | ⟨a', len, cap', k, q, D, Pl, hcs, hb, hl, hm, -⟩
    . simp [Value.cells] at hcs
    . simp [Value.cells] at hcs
      obtain ⟨-, rfl, rfl⟩ := hcs
      unfold maxLen at hm
      omega
def vecL (n : Nat) (r : List Int) : Vector Int n := Vector.ofFn fun i : Fin n => r.getD i.val 0
theorem vecL_toList {n : Nat} {r : List Int} (h : r.length = n) : (vecL n r).toList = r := by
  unfold vecL
  apply List.ext_getElem (by simp [h])
  intro i h1 h2
  simp [h2]
theorem vecL_inI {n : Nat} {r : List Int} (h : r.length = n) (hr : ∀ z ∈ r, inI z) (k : Nat) : inI (vat (vecL n r) k) := by
  unfold vat
  rw [vecL_toList h, List.getD_eq_getElem?_getD]
  rcases Nat.lt_or_ge k r.length with hk | hk
  . rw [List.getElem?_eq_getElem hk]; exact hr _ (List.getElem_mem hk)
  . rw [List.getElem?_eq_none hk]; unfold inI; show (-9223372036854775808 : Int) <= 0 /\ (0 : Int) <= 9223372036854775807; omega
theorem encInts (r : List Int) : zYy zYx r = r.map fun z => AV.int .i64 z := by
  induction r with
  | nil => rfl
  | cons z r ih =>
    show zYx z ++ zYy zYx r = _
    rw [ih]; rfl
theorem encVecs {n : Nat} : ∀ {L : List (List Int)}, (∀ r ∈ L, r.length = n) -> zYy (fun v : Vector Int n => zYy zYx v.toList) (L.map (vecL n)) = L.flatten.map fun z => AV.int .i64 z
  | [], _ => rfl
  | r :: L, h => by
    show zYy zYx (vecL n r).toList ++ zYy (fun v : Vector Int n => zYy zYx v.toList) (L.map (vecL n)) = _
    rw [vecL_toList (h r List.mem_cons_self), encVecs (fun x hx => h x (List.mem_cons_of_mem _ hx)), encInts, List.flatten_cons, List.map_append]
theorem open_v6 {v : Value} {d : DataW H} {ps : List MemPlace} (hv : ∃ a len cap, v = .slice a len cap) (h : DataW.Trod enc Try.prog w base spare held 28 v d ps) :
    ∃ x : List (Vector Int 6), x.length <= 9223372036854775807 /\ (∀ y ∈ x, ∀ k, inI (vat y k)) /\ VR [] (nest (memOf w)) (.lst true x.length (zYy eV6 x)) v := by
  obtain ⟨L, h1, h2⟩ := open_flat Try.underlying28 c24_93 (by omega) hv (intCells_arr Try.underlying93 Try.underlying3 c24_3 c24_93) h
  have hx : VR [] (nest (memOf w)) (.lst true (L.map (vecL 6)).length (zYy eV6 (L.map (vecL 6)))) v := by
    rw [List.length_map]
    show VR [] _ (.lst true L.length (zYy (fun v : Vector Int 6 => zYy zYx v.toList) (L.map (vecL 6)))) v
    rw [encVecs fun r hr => (h1 r hr).1]; exact h2
  refine ⟨L.map (vecL 6), slice_le Try.underlying28 h hx, fun y hy k => ?_, hx⟩
  obtain ⟨r, hr, rfl⟩ := List.mem_map.1 hy
  exact vecL_inI (h1 r hr).1 (h1 r hr).2 k
theorem open_v4 {v : Value} {d : DataW H} {ps : List MemPlace} (hv : ∃ a len cap, v = .slice a len cap) (h : DataW.Trod enc Try.prog w base spare held 63 v d ps) :
    ∃ x : List (Vector Int 4), (x.length <= 9223372036854775807 /\ ∀ y ∈ x, ∀ k, inI (vat y k)) /\ VR [] (nest (memOf w)) (.lst true x.length (zYy eV4 x)) v := by
  obtain ⟨L, h1, h2⟩ := open_flat Try.underlying63 c24_90 (by omega) hv (intCells_arr Try.underlying90 Try.underlying3 c24_3 c24_90) h
  have hx : VR [] (nest (memOf w)) (.lst true (L.map (vecL 4)).length (zYy eV4 (L.map (vecL 4)))) v := by
    rw [List.length_map]
    show VR [] _ (.lst true L.length (zYy (fun v : Vector Int 4 => zYy zYx v.toList) (L.map (vecL 4)))) v
    rw [encVecs fun r hr => (h1 r hr).1]; exact h2
  refine ⟨L.map (vecL 4), ⟨slice_le Try.underlying63 h hx, fun y hy k => ?_⟩, hx⟩
  obtain ⟨r, hr, rfl⟩ := List.mem_map.1 hy
  exact vecL_inI (h1 r hr).1 (h1 r hr).2 k
theorem open_a3s {v : Value} {d : DataW H} {ps : List MemPlace} (hv : ∃ a len cap, v = .slice a len cap) (h : DataW.Trod enc Try.prog w base spare held 29 v d ps) :
    ∃ x : List A3, x.length <= 9223372036854775807 /\ (∀ y ∈ x, inI y.x0 /\ inI y.x1 /\ inI y.x2) /\ VR [] (nest (memOf w)) (.lst true x.length (zYy e27 x)) v := by
  obtain ⟨L, h1, h2⟩ := open_flat Try.underlying29 c24_27 (by omega) hv (intCells_arr Try.underlying27 Try.underlying3 c24_3 c24_27) h
  have e : zYy e27 (L.map fun r => (⟨r.getD 0 0, r.getD 1 0, r.getD 2 0⟩ : A3)) = L.flatten.map fun z => AV.int .i64 z := by
    clear h2
    induction L with
    | nil => rfl
    | cons r L ih =>
      obtain ⟨a, -⟩ := h1 r (by simp)
      match r, a with
      | [y0, y1, y2], _ =>
        rw [List.map_cons, List.flatten_cons, List.map_append, <- ih (fun r hr => h1 r (by simp [hr]))]
        rfl
  have hx : VR [] (nest (memOf w)) (.lst true (L.map fun r => (⟨r.getD 0 0, r.getD 1 0, r.getD 2 0⟩ : A3)).length (zYy e27 (L.map fun r => (⟨r.getD 0 0, r.getD 1 0, r.getD 2 0⟩ : A3)))) v := by
    rw [List.length_map, e]; exact h2
  refine ⟨_, slice_le Try.underlying29 h hx, fun z hz => ?_, hx⟩
  rw [List.mem_map] at hz
  obtain ⟨r, hr, rfl⟩ := hz
  obtain ⟨a, b⟩ := h1 r hr
  match r, a with
  | [y0, y1, y2], _ => exact ⟨b y0 (by simp), b y1 (by simp), b y2 (by simp)⟩
theorem fld {fs : Array Field} {Q : Field -> Prop} {i t o : Nat} (h : ∀ f, fs[i]? = some f -> Q f) (hf : ∃ f, fs[i]? = some f /\ f.type = t /\ f.offset = o) : ∃ f, f.type = t /\ f.offset = o /\ Q f := by
  obtain ⟨f, h1, h2, h3⟩ := hf
  exact ⟨f, h2, h3, h f h1⟩
theorem open_cas {v : Value} {d : DataW H} {ps : List MemPlace} (hv : ∃ cs, v = .agg cs) (h : DataW.Trod enc Try.prog w base spare held 31 v d ps) :
    ∃ c : Cas, CasOk c /\ VR [] (nest (memOf w)) (.agg (e31 true c)) v := by
  obtain ⟨fuel, hf⟩ := h
  obtain ⟨cs, rfl⟩ := hv
  obtain ⟨xs, m, -, -, hl, hx, hi⟩ := DataW.trod_struct Try.underlying31 hf
  rw [c24_31] at hl
  have hl7 : cs.toList.length = 7 := hl
  generalize hcs : cs.toList = l at *
  match l, hl7 with
  | [u0, u1, u2, u3, u4, u5, u6], _ =>
    have xl : xs.length = 5 := hx
    match xs, xl with
    | [y0, y1, y2, y3, y4], _ =>
      obtain ⟨f0, b0, g0, i0⟩ := fld (t := 27) (o := 0) (hi 0) ⟨_, rfl, rfl, rfl⟩
      rw [b0, g0] at i0
      obtain ⟨f1, b1, g1, i1⟩ := fld (t := 28) (o := 3) (hi 1) ⟨_, rfl, rfl, rfl⟩
      rw [b1, g1] at i1
      obtain ⟨f2, b2, g2, i2⟩ := fld (t := 29) (o := 4) (hi 2) ⟨_, rfl, rfl, rfl⟩
      rw [b2, g2] at i2
      obtain ⟨f3, b3, g3, i3⟩ := fld (t := 3) (o := 5) (hi 3) ⟨_, rfl, rfl, rfl⟩
      rw [b3, g3] at i3
      obtain ⟨f4, b4, g4, i4⟩ := fld (t := 3) (o := 6) (hi 4) ⟨_, rfl, rfl, rfl⟩
      rw [b4, g4] at i4
      obtain ⟨zs, z1, z2, z3⟩ := intCells_arr Try.underlying27 Try.underlying3 c24_3 c24_27 _ _ _ i0
      obtain ⟨v1, e1, s1, t1⟩ := cells_slice Try.underlying28 i1
      obtain ⟨v2, e2, s2, t2⟩ := cells_slice Try.underlying29 i2
      obtain ⟨z5, e5, -, w5⟩ := DataW.trod_int Try.underlying3 i3
      obtain ⟨z6, e6, -, w6⟩ := DataW.trod_int Try.underlying3 i4
      obtain ⟨x, xl, px, hx1⟩ := open_v6 s1 t1
      obtain ⟨y, yl, py, hy1⟩ := open_a3s s2 t2
      rw [c24_27] at z2
      rw [c24_28] at e1
      rw [c24_29] at e2
      rw [c24_3] at e5 e6
      have ecell : (Value.agg cs).cells.toList = [u0, u1, u2, u3, u4, u5, u6] := hcs
      rw [ecell] at z2 e1 e2 e5 e6
      match zs, z1 with
      | [a0, a1, a2], _ =>
        have k : u0 = .int .i64 a0 /\ u1 = .int .i64 a1 /\ u2 = .int .i64 a2 := by simpa using z2
        obtain ⟨k0, k1, k2⟩ := k
        have k3 : u3 = v1 := by simpa using e1
        have k4 : u4 = v2 := by simpa using e2
        have k5 : u5 = .int .i64 z5 := by simpa using e5
        have k6 : u6 = .int .i64 z6 := by simpa using e6
        subst k0 k1 k2 k3 k4 k5 k6
        refine ⟨⟨⟨a0, a1, a2⟩, x, y, z5, z6⟩, ⟨xl, yl, ⟨⟨z3 a0 (by simp), z3 a1 (by simp), z3 a2 (by simp)⟩, inI_of_wf w5, inI_of_wf w6⟩, px, py⟩, cs, rfl, fun u hu => ?_, ?_⟩
        . rw [hcs] at hu
          simp only [List.mem_cons, List.not_mem_nil, or_false] at hu
          obtain ⟨a3, b3, c3, rfl⟩ := s1
          obtain ⟨a4, b4, c4, rfl⟩ := s2
          rcases hu with rfl | rfl | rfl | rfl | rfl | rfl | rfl <;> rfl
        . rw [hcs]
          exact ⟨_, _, rfl, rfl, _, _, rfl, rfl, _, _, rfl, rfl, _, _, rfl, hx1, _, _, rfl, hy1, _, _, rfl, rfl, _, _, rfl, rfl, rfl⟩
end
end Go.Lat
namespace Go.Lat
def insM {α : Type} (xs : List α) (i : Nat) (v : α) : List α := xs.take i ++ [v] ++ xs.drop i
theorem insM_len {α : Type} (xs : List α) (i : Nat) (v : α) : (insM xs i v).length = xs.length + 1 := by
  have h : (xs.take i ++ xs.drop i).length = xs.length := by rw [List.take_append_drop]
  rw [List.length_append] at h
  simp only [insM, List.length_append, List.length_singleton]
  omega
def factOk (x : Fct) : Bool := decide ((0 <= x.tr /\ x.tr <= 999) /\ (0 <= x.sp /\ x.sp <= 9) /\ (0 <= x.se /\ x.se <= 7) /\ (0 <= x.ver /\ x.ver <= 9) /\ (0 <= x.op /\ x.op <= 11) /\ (-1 <= x.pe /\ x.pe <= 19) /\ x.da = x.tr.tdiv 10 /\ (0 <= x.lo /\ x.lo <= x.hi) /\ x.hi <= 4398046511104 /\ (0 <= x.by_ /\ x.by_ <= 24000))
def mixR (o r : Rg) : Rg := ⟨o.op, o.ver, o.nu + r.nu, min o.le r.le, max o.mo r.mo⟩
def putM (out : List Rg) (r : Rg) : List Rg := if (bsM out r).2 = true then out.set (bsM out r).1.toNat (mixR (lat out (bsM out r).1) r) else insM out (bsM out r).1.toNat r
def joinM (l : List Rg) : List Rg := l.foldl putM []
def fRg (f : Fct) : Rg := ⟨f.op, f.ver, 1, f.lo, f.hi⟩
def fitM (l : List Fct) : List Rg × Int := if 400 < l.length \/ ¬ l.all factOk = true then ([], 230) else (joinM (l.map fRg), 0)
def factLo (y : Vector Int 4) : Int := if pickM (vat y 3) 4 = 3 then pickM (vat y 2) 2199023255552 else pickM (vat y 2) 40
def factM (y : Vector Int 4) : Fct :=
  ⟨pickM (vat y 0) 30, pickM ((vat y 0).tdiv 30) 4, pickM (vat y 1) 2, pickM ((vat y 1).tdiv 2) 3, 2 * pickM (vat y 1) 2 + pickM ((vat y 1).tdiv 3000) 2, pickM ((vat y 1).tdiv 6) 5 - 1, (pickM (vat y 0) 30).tdiv 10,
    factLo y, factLo y + pickM ((vat y 3).tdiv 4) 3 * pickM ((vat y 3).tdiv 12) 30, pickM ((vat y 1).tdiv 30) 100⟩
def lessF (o f : Fct) : Prop := o.tr < f.tr \/ o.tr = f.tr /\ o.sp < f.sp
instance (o f : Fct) : Decidable (lessF o f) := by unfold lessF; infer_instance
def posF (out : List Fct) (f : Fct) : Nat := (out.takeWhile fun o => decide (lessF o f)).length
def factStep (out : List Fct) (y : Vector Int 4) : List Fct :=
  if posF out (factM y) < out.length /\ (lat out (posF out (factM y) : Int)).tr = (factM y).tr /\ (lat out (posF out (factM y) : Int)).sp = (factM y).sp then out else out.take (posF out (factM y)) ++ ([factM y] ++ out.drop (posF out (factM y)))
def factsM (x : List (Vector Int 4)) : List Fct := (x.take 40).foldl factStep []
end Go.Lat
namespace Go.Lat
open Go.RowKit
theorem inI_td {x k : Int} (hk : 0 < k) (h : inI x) : inI (x.tdiv k) := by
  have h1 := (tdiv_parts x k hk).1
  have h2 := (tdiv_parts x k hk).2
  unfold inI at *
  rcases Int.le_total 0 x with hx | hx
  . have := Int.tdiv_nonneg hx (Int.le_of_lt hk)
    have : x.tdiv k <= x := by rw [Int.tdiv_eq_ediv_of_nonneg hx]; exact Int.ediv_le_self _ hx
    omega
  . have e : x.tdiv k = -((-x).tdiv k) := by rw [Int.neg_tdiv]; omega
    have := Int.tdiv_nonneg (a := -x) (by omega) (Int.le_of_lt hk)
    have : (-x).tdiv k <= -x := by rw [Int.tdiv_eq_ediv_of_nonneg (by omega : 0 <= -x)]; exact Int.ediv_le_self _ (by omega)
    omega
theorem sta_le (sv : A3) (lone : Bool) : 1 <= staM sv lone /\ staM sv lone <= 3 := by
  unfold staM
  have := zXz (c := sv.x2) (n := 3) (by omega)
  split <;> omega
theorem many_le (j : Vector Int 6) (lone : Bool) : 0 <= manyM j lone /\ manyM j lone <= 3 /\ (lone = true -> manyM j lone <= 1) := by
  unfold manyM
  have := zXz (c := vat j 1) (n := 4) (by omega)
  split
  . omega
  . rename_i h; exact ⟨by omega, by omega, fun h' => absurd h' h⟩
theorem atM_succ {jobs : List (Vector Int 6)} {i : Nat} (h : i < jobs.length) : atM jobs (i + 1) = atM jobs i + pickM (vat (lat jobs (i : Int)) 0) 5 := by
  unfold atM
  rw [take_succ_lat h, List.map_append, List.sum_append]
  simp
theorem atM_le (jobs : List (Vector Int 6)) : ∀ i : Nat, i <= jobs.length -> 0 <= atM jobs i /\ atM jobs i <= 4 * i
  | 0, _ => by simp [atM]
  | i + 1, h => by
    rw [atM_succ (by omega)]
    have := atM_le jobs i (by omega)
    have := zXz (c := vat (lat jobs (i : Int)) 0) (n := 5) (by omega)
    omega
theorem wkM_succ (n : Int) (j : Vector Int 6) (k : Nat) : wkM n j (k + 1) = wkM n j k ++ [ldM n j k] := map_range_succ
structure JobMade (n : Int) (lone : Bool) (j : Job) : Prop where
  ar : 0 <= j.ar /\ j.ar <= 24
  wl : j.wk.length <= 3 /\ (lone = true -> j.wk.length <= 1)
  wk : ∀ w ∈ j.wk, (0 <= w.st /\ w.st < n) /\ 0 <= w.tm /\ w.tm <= 8
theorem jobM_made {jobs : List (Vector Int 6)} {n : Int} {lone : Bool} {i : Nat} (hn : 1 <= n) (hi : i < jobs.length) (h6 : i < 6) : JobMade n lone (jobM jobs n lone i) := by
  have h1 := atM_le jobs (i + 1) (by omega)
  have h2 := many_le (lat jobs (i : Int)) lone
  refine ⟨⟨h1.1, by show atM jobs (i + 1) <= 24; omega⟩, ⟨?_, fun hl => ?_⟩, fun w hw => ?_⟩
  . show (wkM _ _ _).length <= 3
    unfold wkM; rw [List.length_map, List.length_range]; omega
  . show (wkM _ _ _).length <= 1
    have := h2.2.2 hl
    unfold wkM; rw [List.length_map, List.length_range]; omega
  . have hw : w ∈ wkM n (lat jobs (i : Int)) (manyM (lat jobs (i : Int)) lone).toNat := hw
    unfold wkM at hw
    obtain ⟨k, _, rfl⟩ := List.mem_map.1 hw
    have p1 := zXz (c := vat (lat jobs (i : Int)) (2 + k)) hn
    have p2 := zXz (c := (vat (lat jobs (i : Int)) (2 + k)).tdiv 3) (n := 9) (by omega)
    exact ⟨p1, p2.1, by show pickM _ 9 <= 8; omega⟩
theorem jobsM_made {jobs : List (Vector Int 6)} {n : Int} {lone : Bool} (hn : 1 <= n) : (1 <= (jobsM jobs n lone).length /\ (jobsM jobs n lone).length <= 6) /\ ∀ j ∈ jobsM jobs n lone, JobMade n lone j := by
  have hl : (jobsM0 jobs n lone).length = min jobs.length 6 := by simp [jobsM0]
  unfold jobsM
  split
  . refine ⟨⟨by simp, by simp⟩, fun j hj => ?_⟩
    rw [List.mem_singleton] at hj
    subst hj
    exact ⟨⟨by show (0 : Int) <= 0; omega, by show (0 : Int) <= 24; omega⟩, ⟨by simp, fun _ => by simp⟩, fun w hw => by
      rw [List.mem_singleton] at hw
      subst hw
      exact ⟨⟨by show (0 : Int) <= 0; omega, by show (0 : Int) < n; omega⟩, by show (0 : Int) <= 5; omega, by show (5 : Int) <= 8; omega⟩⟩
  . refine ⟨⟨by omega, by omega⟩, fun j hj => ?_⟩
    unfold jobsM0 at hj
    obtain ⟨i, hi, rfl⟩ := List.mem_map.1 hj
    have hi := List.mem_range.1 hi
    exact jobM_made hn (by omega) (by omega)
theorem exStep_stuck (jobs : List Job) (causes late : Int) (ex : List A3) (i : Int) (l : List Int) (s : List Ext × Nat) (h : ex.length <= s.2) : l.foldl (exStep jobs causes late ex i) s = s := by
  induction l with
  | nil => rfl
  | cons k l ih =>
    rw [List.foldl_cons]
    have : exStep jobs causes late ex i s k = s := by unfold exStep; rw [if_neg (by omega)]
    rw [this, ih]
def ksM (q : Nat) : List Int := (List.range q).map fun k : Nat => (k : Int) - 1
theorem ksM_succ (q : Nat) : ksM (q + 1) = ksM q ++ [(q : Int) - 1] := map_range_succ
theorem ksM_split {q m : Nat} (h : q <= m) : ∃ l, ksM m = ksM q ++ l := by
  unfold ksM
  refine ⟨((List.range m).drop q).map fun k : Nat => (k : Int) - 1, ?_⟩
  rw [<- List.map_append]
  congr 1
  have : List.range q = (List.range m).take q := by rw [List.take_range, Nat.min_eq_left h]
  rw [this, List.take_append_drop]
theorem exJob_eq (jobs : List Job) (causes late : Int) (ex : List A3) (s : List Ext × Nat) (i : Nat) : exJob jobs causes late ex s i = (ksM ((lat jobs (i : Int)).wk.length + 1)).foldl (exStep jobs causes late ex i) s := rfl
def exAll (jobs : List Job) (causes late : Int) (ex : List A3) (i : Nat) : List Ext × Nat := (List.range i).foldl (exJob jobs causes late ex) ([], 0)
theorem exAll_succ (jobs : List Job) (causes late : Int) (ex : List A3) (i : Nat) : exAll jobs causes late ex (i + 1) = exJob jobs causes late ex (exAll jobs causes late ex i) i := by
  unfold exAll
  rw [List.range_succ, List.foldl_append]; rfl
end Go.Lat
namespace Go.Lat
open Go.RowKit
theorem lat_insM {α : Type} [Inhabited α] {xs : List α} {i : Nat} {v : α} (hi : i <= xs.length) {k : Nat} : lat (insM xs i v) (k : Int) = if k < i then lat xs (k : Int) else if k = i then v else lat xs ((k : Int) - 1) := by
  have hl : (xs.take i).length = i := by rw [List.length_take]; omega
  unfold insM
  rw [lat_nat, List.append_assoc, List.getD_eq_getElem?_getD]
  by_cases h1 : k < i
  . rw [if_pos h1, List.getElem?_append_left (by omega), List.getElem?_take_of_lt h1, lat_nat, List.getD_eq_getElem?_getD]
  . rw [if_neg h1, List.getElem?_append_right (by omega), hl]
    by_cases h2 : k = i
    . subst h2; rw [if_pos rfl, Nat.sub_self]; rfl
    . rw [if_neg h2, show ((k : Int) - 1) = ((k - 1 : Nat) : Int) by omega, lat_nat, List.getElem?_append_right (by simp; omega), List.getElem?_drop, List.getD_eq_getElem?_getD]
      simp only [List.length_singleton]
      rw [show i + (k - i - 1) = k - 1 by omega]
theorem mem_insM {α : Type} {xs : List α} {i : Nat} {v y : α} : y ∈ insM xs i v ↔ y = v \/ y ∈ xs := by
  unfold insM
  have : y ∈ xs ↔ y ∈ xs.take i \/ y ∈ xs.drop i := by
    rw [<- List.mem_append, List.take_append_drop]
  rw [this]
  simp only [List.mem_append, List.mem_singleton]
  constructor
  . rintro ((h | h) | h)
    . exact .inr (.inl h)
    . exact .inl h
    . exact .inr (.inr h)
  . rintro (h | h | h)
    . exact .inl (.inr h)
    . exact .inl (.inl h)
    . exact .inr h
theorem bsM_fst (l : List Rg) (x : Rg) : (bsM l x).1 = bsI l x := rfl
theorem bsM_in {l : List Rg} {x : Rg} (h : (bsM l x).2 = true) : 0 <= (bsM l x).1 /\ (bsM l x).1 < (l.length : Int) := ⟨bsI_nonneg _ _, (of_decide_eq_true h).1⟩
theorem bsM_le (l : List Rg) (x : Rg) : 0 <= (bsM l x).1 /\ (bsM l x).1 <= (l.length : Int) := ⟨bsI_nonneg _ _, bsI_le _ _⟩
theorem putM_len (out : List Rg) (r : Rg) : (putM out r).length <= out.length + 1 := by
  unfold putM
  split
  . rw [List.length_set]; omega
  . rw [insM_len]; omega
theorem putM_nu {out : List Rg} {r : Rg} {q : Int} (hq : 0 <= q) (h : ∀ x ∈ out, 0 <= x.nu /\ x.nu <= q) (hr : 0 <= r.nu /\ r.nu <= 1000000) : ∀ x ∈ putM out r, 0 <= x.nu /\ x.nu <= q + 1000000 := by
  intro x hx
  unfold putM at hx
  split at hx
  . rename_i hf
    have hm := h _ (lat_mem (bsM_in hf))
    rcases List.mem_or_eq_of_mem_set hx with hx | rfl
    . have := h x hx; omega
    . show 0 <= _ + _ /\ _ + _ <= _; omega
  . rcases mem_insM.1 hx with rfl | hx
    . omega
    . have := h x hx; omega
theorem joinM_snoc (l : List Rg) (r : Rg) : joinM (l ++ [r]) = putM (joinM l) r := by unfold joinM; rw [List.foldl_append]; rfl
theorem joinM_take {l : List Rg} {i : Nat} (h : i < l.length) : joinM (l.take (i + 1)) = putM (joinM (l.take i)) (lat l (i : Int)) := by rw [take_succ_lat h, joinM_snoc]
theorem joinM_len {l : List Rg} : ∀ i : Nat, i <= l.length -> (joinM (l.take i)).length <= i
  | 0, _ => by simp [joinM]
  | i + 1, h => by
    rw [joinM_take (by omega)]
    have := joinM_len (l := l) i (by omega)
    have := putM_len (joinM (l.take i)) (lat l (i : Int))
    omega
theorem joinM_nu {l : List Rg} (hl : ∀ x ∈ l, 0 <= x.nu /\ x.nu <= 1000000) : ∀ i : Nat, i <= l.length -> ∀ x ∈ joinM (l.take i), 0 <= x.nu /\ x.nu <= i * 1000000
  | 0, _ => by intro x hx; simp [joinM] at hx
  | i + 1, h => by
    rw [joinM_take (by omega)]
    intro x hx
    have := putM_nu (q := i * 1000000) (by omega) (joinM_nu hl i (by omega)) (hl _ (lat_mem (xs := l) (i := (i : Int)) ⟨by omega, by omega⟩)) x hx
    omega
theorem set_again {l : List Rg} {i : Int} (hi : 0 <= i /\ i < l.length) (A : Rg) (f : Rg -> Rg) : (l.set i.toNat A).set i.toNat (f (lat (l.set i.toNat A) i)) = l.set i.toNat (f A) := by
  have := lat_set' (x := A) hi hi.1
  rw [if_pos rfl] at this
  rw [List.set_set, this]
theorem fitM_bad {l : List Fct} {i : Nat} (hi : i < l.length) (h : 400 < l.length \/ ¬ factOk (lat l (i : Int)) = true) : fitM l = ([], 230) := by
  unfold fitM
  rw [if_pos]
  rcases h with h | h
  . exact .inl h
  . right
    rw [List.all_eq_true]
    intro h2
    exact h (h2 _ (lat_mem ⟨by omega, by omega⟩))
theorem posF_eq {out : List Fct} {f : Fct} {k : Nat} (hk : k <= out.length) (h1 : ∀ j : Nat, j < k -> lessF (lat out (j : Int)) f) (h2 : ¬ (k < out.length /\ lessF (lat out (k : Int)) f)) : posF out f = k := by
  induction out generalizing k with
  | nil => simp at hk; subst hk; rfl
  | cons o out ih =>
    unfold posF at ih ⊢
    rcases k with _ | k
    . have hn : ¬ lessF o f := fun h => h2 ⟨by simp, h⟩
      rw [List.takeWhile_cons_of_neg (by simpa using hn)]; rfl
    . have hp : lessF o f := h1 0 (by omega)
      rw [List.takeWhile_cons_of_pos (by simpa using hp), List.length_cons]
      congr 1
      refine ih (by simpa using hk) (fun j hj => ?_) fun h => h2 ⟨by simpa using h.1, ?_⟩
      . have := h1 (j + 1) (by omega)
        rw [lat_nat] at this ⊢
        simpa using this
      . have := h.2
        rw [lat_nat] at this ⊢
        simpa using this
structure FactIs (f : Fct) : Prop where
  ok : factOk f = true
theorem mul_2_29 {a b : Int} (ha : 0 <= a /\ a < 3) (hb : 0 <= b /\ b < 30) : 0 <= a * b /\ a * b <= 58 := by
  obtain ⟨a1, a2⟩ := ha
  have : a = 0 \/ a = 1 \/ a = 2 := by omega
  rcases this with rfl | rfl | rfl <;> omega
theorem factLo_in (y : Vector Int 4) : 0 <= factLo y /\ factLo y < 2199023255552 := by
  unfold factLo
  have p1 := zXz (c := vat y 2) (n := 2199023255552) (by omega)
  have p2 := zXz (c := vat y 2) (n := 40) (by omega)
  split <;> omega
theorem factM_ok (y : Vector Int 4) : factOk (factM y) = true := by
  have p0 := zXz (c := vat y 0) (n := 30) (by omega)
  have p1 := zXz (c := (vat y 0).tdiv 30) (n := 4) (by omega)
  have p2 := zXz (c := vat y 1) (n := 2) (by omega)
  have p3 := zXz (c := (vat y 1).tdiv 2) (n := 3) (by omega)
  have p4 := zXz (c := (vat y 1).tdiv 3000) (n := 2) (by omega)
  have p5 := zXz (c := (vat y 1).tdiv 6) (n := 5) (by omega)
  have p6 := zXz (c := (vat y 1).tdiv 30) (n := 100) (by omega)
  have p7 := mul_2_29 (zXz (c := (vat y 3).tdiv 4) (n := 3) (by omega)) (zXz (c := (vat y 3).tdiv 12) (n := 30) (by omega))
  have p8 := factLo_in y
  unfold factOk factM
  exact decide_eq_true ⟨by dsimp only; omega, by dsimp only; omega, by dsimp only; omega, by dsimp only; omega, by dsimp only; omega, by dsimp only; omega, rfl, by dsimp only; omega, by dsimp only; omega, by dsimp only; omega⟩
theorem factsM_ok (x : List (Vector Int 4)) : ∀ i : Nat, i <= (x.take 40).length -> ((((x.take 40).take i).foldl factStep []).length <= i /\ ∀ f ∈ ((x.take 40).take i).foldl factStep [], factOk f = true)
  | 0, _ => by simp
  | i + 1, h => by
    obtain ⟨h1, h2⟩ := factsM_ok x i (by omega)
    rw [take_succ_lat (by omega), List.foldl_append]
    generalize ((x.take 40).take i).foldl factStep [] = out at *
    show (factStep out _).length <= i + 1 /\ ∀ f ∈ factStep out _, _
    unfold factStep
    split
    . exact ⟨by omega, h2⟩
    . have e : out.take (posF out (factM (lat (x.take 40) (i : Int)))) ++ ([factM (lat (x.take 40) (i : Int))] ++ out.drop (posF out (factM (lat (x.take 40) (i : Int))))) = insM out (posF out (factM (lat (x.take 40) (i : Int)))) (factM (lat (x.take 40) (i : Int))) := by unfold insM; rw [List.append_assoc]
      rw [e]
      refine ⟨by rw [insM_len]; omega, fun f hf => ?_⟩
      rcases mem_insM.1 hf with rfl | hf
      . exact factM_ok _
      . exact h2 f hf
theorem facts_ok (x : List (Vector Int 4)) : (factsM x).length <= 40 /\ ∀ f ∈ factsM x, factOk f = true := by
  have := factsM_ok x (x.take 40).length (Nat.le_refl _)
  rw [List.take_length] at this
  refine ⟨?_, this.2⟩
  have h2 := this.1
  rw [List.length_take] at h2
  show ((x.take 40).foldl factStep []).length <= 40
  omega
end Go.Lat
namespace Go.Lat
open Go.RowKit
def ltK (a b : Rg) : Prop := a.op < b.op \/ a.op = b.op /\ a.ver < b.ver
def eqK (a b : Rg) : Prop := a.op = b.op /\ a.ver = b.ver
instance (a b : Rg) : Decidable (ltK a b) := by unfold ltK; infer_instance
instance (a b : Rg) : Decidable (eqK a b) := by unfold eqK; infer_instance
def SortedR (l : List Rg) : Prop := ∀ i j : Nat, i < j -> j < l.length -> ltK (lat l (i : Int)) (lat l (j : Int))
theorem bsGo_spec {l : List Rg} {x : Rg} (hs : SortedR l) : ∀ (n : Nat) (i j : Nat), i <= j -> j <= l.length -> j - i < n -> (∀ p : Nat, p < i -> ltK (lat l (p : Int)) x) -> (∀ p : Nat, j <= p -> p < l.length -> ¬ ltK (lat l (p : Int)) x) →
    ∃ k : Nat, bsGo l x n i j = k /\ k <= l.length /\ (∀ p : Nat, p < k -> ltK (lat l (p : Int)) x) /\ ∀ p : Nat, k <= p -> p < l.length -> ¬ ltK (lat l (p : Int)) x
  | 0, i, j, h1, h2, h3, h4, h5 => by omega
  | n + 1, i, j, h1, h2, h3, h4, h5 => by
    unfold bsGo
    by_cases hij : (i : Int) < (j : Int)
    . rw [if_pos hij]
      obtain ⟨m, hm⟩ : ∃ m : Nat, ((i : Int) + (j : Int)).tdiv 2 = m := ⟨((i : Int) + (j : Int)).tdiv 2 |>.toNat, by rw [Int.tdiv_eq_ediv_of_nonneg (by omega)]; omega⟩
      have hmr : i <= m /\ m < j := by rw [Int.tdiv_eq_ediv_of_nonneg (by omega)] at hm; omega
      rw [hm]
      by_cases hc : cmpR (lat l (m : Int)) x < 0
      . rw [if_pos hc]
        have hc := (cmpR_lt _ _).1 hc
        refine bsGo_spec hs n (m + 1) j (by omega) h2 (by omega) (fun p hp => ?_) h5
        rcases Nat.lt_or_ge p m with h | h
        . have := hs p m h (by omega)
          unfold ltK at this ⊢; omega
        . rw [show p = m by omega]; exact hc
      . rw [if_neg hc]
        have hc : ¬ ltK (lat l (m : Int)) x := fun h => hc ((cmpR_lt _ _).2 h)
        refine bsGo_spec hs n i m (by omega) (by omega) (by omega) h4 (fun p hp hl => ?_)
        rcases Nat.lt_or_ge m p with h | h
        . have := hs m p h hl
          unfold ltK at this hc ⊢; omega
        . rw [show p = m by omega]; exact hc
    . rw [if_neg hij]
      have : i = j := by omega
      subst this
      exact ⟨i, rfl, h2, h4, h5⟩
theorem bs_spec {l : List Rg} (x : Rg) (hs : SortedR l) : ∃ k : Nat, bsI l x = k /\ k <= l.length /\ (∀ p : Nat, p < k -> ltK (lat l (p : Int)) x) /\ ∀ p : Nat, k <= p -> p < l.length -> ¬ ltK (lat l (p : Int)) x :=
  bsGo_spec hs (l.length + 1) 0 l.length (by omega) (Nat.le_refl _) (by omega) (fun p hp => by omega) (fun p h1 h2 => by omega)
theorem bs_found {l : List Rg} (x : Rg) (hs : SortedR l) : (bsM l x).2 = true ↔ ∃ i : Nat, i < l.length /\ eqK (lat l (i : Int)) x /\ (bsM l x).1 = i := by
  obtain ⟨k, h1, h2, h3, h4⟩ := bs_spec x hs
  show decide (bsI l x < l.length /\ cmpR (lat l (bsI l x)) x = 0) = true ↔ ∃ i : Nat, i < l.length /\ eqK (lat l (i : Int)) x /\ bsI l x = i
  rw [decide_eq_true_eq, h1, cmpR_eq]
  constructor
  . rintro ⟨h5, h6⟩
    exact ⟨k, by omega, h6, rfl⟩
  . rintro ⟨i, h5, h6, h7⟩
    have : k = i := by omega
    subst this
    exact ⟨by omega, h6⟩
theorem bs_hit {l : List Rg} {x : Rg} (hs : SortedR l) {i : Nat} (hi : i < l.length) (h : eqK (lat l (i : Int)) x) : (bsM l x).2 = true /\ (bsM l x).1 = i := by
  obtain ⟨k, h1, h2, h3, h4⟩ := bs_spec x hs
  have hk : k = i := by
    rcases Nat.lt_trichotomy k i with e | e | e
    . have := h4 k (Nat.le_refl _) (by omega)
      have := hs k i e hi
      unfold ltK eqK at *; omega
    . exact e
    . have := h3 i e
      unfold ltK eqK at *; omega
  subst hk
  exact ⟨(bs_found x hs).2 ⟨k, hi, h, h1⟩, h1⟩
structure Agg (l : List Rg) (r : Rg) : Prop where
  nu : r.nu = ((l.filter fun x => decide (eqK x r)).map (·.nu)).sum
  bd : ∀ x ∈ l, eqK x r -> r.le <= x.le /\ x.mo <= r.mo
  le : ∃ x ∈ l, eqK x r /\ x.le = r.le
  mo : ∃ x ∈ l, eqK x r /\ x.mo = r.mo
structure JR (l out : List Rg) : Prop where
  pw : SortedR out
  el : ∀ i : Nat, i < out.length -> Agg l (lat out (i : Int))
  cov : ∀ x ∈ l, ∃ i : Nat, i < out.length /\ eqK (lat out (i : Int)) x
theorem Agg.old {l : List Rg} {r x : Rg} (h : Agg l r) (hn : ¬ eqK x r) : Agg (l ++ [x]) r := by
  refine ⟨?_, fun y hy he => ?_, ?_, ?_⟩
  . rw [List.filter_append, List.filter_cons_of_neg (by simpa using hn), List.filter_nil, List.append_nil]; exact h.nu
  . rcases List.mem_append.1 hy with hy | hy
    . exact h.bd y hy he
    . rw [List.mem_singleton] at hy; subst hy; exact absurd he hn
  . obtain ⟨y, h1, h2⟩ := h.le; exact ⟨y, List.mem_append_left _ h1, h2⟩
  . obtain ⟨y, h1, h2⟩ := h.mo; exact ⟨y, List.mem_append_left _ h1, h2⟩
theorem Agg.mix {l : List Rg} {r x : Rg} (h : Agg l r) (he : eqK r x) : Agg (l ++ [x]) (mixR r x) := by
  have e0 : ∀ y, eqK y (mixR r x) ↔ eqK y r := fun y => Iff.rfl
  have ex : eqK x (mixR r x) := ⟨he.1.symm, he.2.symm⟩
  refine ⟨?_, fun y hy hk => ?_, ?_, ?_⟩
  . rw [List.filter_append, List.filter_cons_of_pos (by simpa using ex), List.filter_nil, List.map_append, List.sum_append]
    show r.nu + x.nu = _ + (x.nu + 0)
    rw [h.nu]
    show _ = ((l.filter fun y => decide (eqK y r)).map (·.nu)).sum + _
    omega
  . rcases List.mem_append.1 hy with hy | hy
    . have := h.bd y hy hk
      show min r.le x.le <= y.le /\ y.mo <= max r.mo x.mo
      omega
    . rw [List.mem_singleton] at hy; subst hy
      show min r.le y.le <= y.le /\ y.mo <= max r.mo y.mo
      omega
  . obtain ⟨y, h1, h2, h3⟩ := h.le
    by_cases hc : r.le <= x.le
    . exact ⟨y, List.mem_append_left _ h1, h2, by show y.le = min r.le x.le; omega⟩
    . exact ⟨x, by simp, ex, by show x.le = min r.le x.le; omega⟩
  . obtain ⟨y, h1, h2, h3⟩ := h.mo
    by_cases hc : x.mo <= r.mo
    . exact ⟨y, List.mem_append_left _ h1, h2, by show y.mo = max r.mo x.mo; omega⟩
    . exact ⟨x, by simp, ex, by show x.mo = max r.mo x.mo; omega⟩
theorem Agg.new {l : List Rg} {x : Rg} (h : ∀ y ∈ l, ¬ eqK y x) : Agg (l ++ [x]) x := by
  have hx : eqK x x := ⟨rfl, rfl⟩
  refine ⟨?_, fun y hy hk => ?_, ⟨x, by simp, hx, rfl⟩, ⟨x, by simp, hx, rfl⟩⟩
  . rw [List.filter_append, List.filter_cons_of_pos (by simpa using hx), List.filter_nil, List.filter_eq_nil_iff.2 (fun y hy => by simpa using h y hy)]
    show x.nu = x.nu + 0
    omega
  . rcases List.mem_append.1 hy with hy | hy
    . exact absurd hk (h y hy)
    . rw [List.mem_singleton] at hy; subst hy; exact ⟨Int.le_refl _, Int.le_refl _⟩
theorem JR.nil : JR [] [] := ⟨fun i j _ h => by simp at h, fun i h => by simp at h, fun x h => by cases h⟩
theorem JR.put {l out : List Rg} (h : JR l out) (x : Rg) : JR (l ++ [x]) (putM out x) := by
  obtain ⟨k, h1, h2, h3, h4⟩ := bs_spec x h.pw
  by_cases hf : (bsM out x).2 = true
  . obtain ⟨i, hi, he, hb⟩ := (bs_found x h.pw).1 hf
    have hp : putM out x = out.set i (mixR (lat out (i : Int)) x) := by unfold putM; rw [if_pos hf, hb, Int.toNat_natCast]
    have hl : ∀ j : Nat, lat (out.set i (mixR (lat out (i : Int)) x)) (j : Int) = if j = i then mixR (lat out (i : Int)) x else lat out (j : Int) := fun j => by
      have := lat_set (l := out) (i := (i : Int)) (j := j) (x := mixR (lat out (i : Int)) x) ⟨by omega, by omega⟩
      rw [Int.toNat_natCast] at this
      rw [this]
      by_cases e : j = i
      . rw [if_pos (by omega), if_pos e]
      . rw [if_neg (by omega), if_neg e]
    have hkey : ∀ j : Nat, eqK (lat (out.set i (mixR (lat out (i : Int)) x)) (j : Int)) (lat out (j : Int)) := fun j => by
      rw [hl]
      split
      . rename_i e; subst e; exact ⟨rfl, rfl⟩
      . exact ⟨rfl, rfl⟩
    rw [hp]
    refine ⟨fun a b hab hb => ?_, fun a ha => ?_, fun y hy => ?_⟩
    . rw [List.length_set] at hb
      have := h.pw a b hab hb
      have k1 := hkey a
      have k2 := hkey b
      unfold ltK eqK at *; omega
    . rw [List.length_set] at ha
      rw [hl]
      split
      . exact (h.el i hi).mix he
      . rename_i e
        refine (h.el a ha).old fun hk => ?_
        rcases Nat.lt_or_gt_of_ne e with e | e
        . have := h.pw a i e hi; unfold ltK eqK at *; omega
        . have := h.pw i a e ha; unfold ltK eqK at *; omega
    . rcases List.mem_append.1 hy with hy | hy
      . obtain ⟨j, hj, hk⟩ := h.cov y hy
        have := hkey j
        exact ⟨j, by rw [List.length_set]; exact hj, by unfold eqK at *; omega⟩
      . rw [List.mem_singleton] at hy
        subst hy
        have := hkey i
        exact ⟨i, by rw [List.length_set]; exact hi, by unfold eqK at *; omega⟩
  . have hp : putM out x = insM out k x := by unfold putM; rw [if_neg hf, bsM_fst, h1, Int.toNat_natCast]
    have hne : ∀ j : Nat, j < out.length -> ¬ eqK (lat out (j : Int)) x := fun j hj he => hf (bs_hit h.pw hj he).1
    have hgt : ∀ j : Nat, k <= j -> j < out.length -> ltK x (lat out (j : Int)) := fun j hj hl => by
      have a := h4 j hj hl
      have b := hne j hl
      unfold ltK eqK at *; omega
    have hl : ∀ j : Nat, lat (insM out k x) (j : Int) = if j < k then lat out (j : Int) else if j = k then x else lat out ((j - 1 : Nat) : Int) := fun j => by
      rw [lat_insM h2]
      split
      . rfl
      . split
        . rfl
        . rw [show ((j : Int) - 1) = ((j - 1 : Nat) : Int) by omega]
    have hnl : ∀ y ∈ l, ¬ eqK y x := fun y hy he => by
      obtain ⟨j, hj, hk⟩ := h.cov y hy
      exact hne j hj ⟨by unfold eqK at *; omega, by unfold eqK at *; omega⟩
    rw [hp]
    refine ⟨fun a b hab hb => ?_, fun a ha => ?_, fun y hy => ?_⟩
    . rw [insM_len] at hb
      rw [hl, hl]
      by_cases c1 : a < k
      . rw [if_pos c1]
        by_cases c2 : b < k
        . rw [if_pos c2]; exact h.pw a b hab (by omega)
        . rw [if_neg c2]
          by_cases c3 : b = k
          . rw [if_pos c3]; exact h3 a c1
          . rw [if_neg c3]; exact h.pw a (b - 1) (by omega) (by omega)
      . rw [if_neg c1, if_neg (by omega : ¬ b < k), if_neg (by omega : ¬ b = k)]
        by_cases c2 : a = k
        . rw [if_pos c2]; exact hgt (b - 1) (by omega) (by omega)
        . rw [if_neg c2]; exact h.pw (a - 1) (b - 1) (by omega) (by omega)
    . rw [insM_len] at ha
      rw [hl]
      have swap : ∀ j : Nat, j < out.length -> ¬ eqK x (lat out (j : Int)) := fun j hj he => hne j hj ⟨he.1.symm, he.2.symm⟩
      split
      . exact (h.el a (by omega)).old (swap a (by omega))
      . split
        . exact Agg.new hnl
        . exact (h.el (a - 1) (by omega)).old (swap (a - 1) (by omega))
    . rcases List.mem_append.1 hy with hy | hy
      . obtain ⟨j, hj, hk⟩ := h.cov y hy
        by_cases c1 : j < k
        . exact ⟨j, by rw [insM_len]; omega, by rw [hl, if_pos c1]; exact hk⟩
        . exact ⟨j + 1, by rw [insM_len]; omega, by rw [hl, if_neg (by omega), if_neg (by omega)]; exact hk⟩
      . rw [List.mem_singleton] at hy
        subst hy
        exact ⟨k, by rw [insM_len]; omega, by rw [hl, if_neg (by omega), if_pos rfl]; exact ⟨rfl, rfl⟩⟩
theorem JR.fold (l : List Rg) : ∀ {l0 out : List Rg}, JR l0 out -> JR (l0 ++ l) (l.foldl putM out) := by
  induction l with
  | nil => intro l0 out h; rwa [List.append_nil]
  | cons x l ih =>
    intro l0 out h
    have := ih (h.put x)
    rw [List.append_assoc] at this
    exact this
theorem JR.join (l : List Rg) : JR l (joinM l) := by
  have := JR.fold l JR.nil
  rwa [List.nil_append] at this
theorem sumOnes {l : List Rg} (h : ∀ x ∈ l, x.nu = 1) : (l.map (·.nu)).sum = l.length := by
  induction l with
  | nil => rfl
  | cons x l ih =>
    rw [List.map_cons, List.sum_cons, ih (fun y hy => h y (by simp [hy])), h x (by simp), List.length_cons]
    omega
theorem SortedR.rgs {l : List Rg} (h : SortedR l) (hk : ∀ i : Nat, i < l.length -> (0 <= (lat l i).op /\ (lat l i).op <= 11) /\ (0 <= (lat l i).ver /\ (lat l i).ver <= 9) /\ (1 <= (lat l i).nu /\ (lat l i).nu <= 1000000) /\ (0 <= (lat l i).le /\ (lat l i).le <= (lat l i).mo) /\ (lat l i).mo <= 4398046511104) : validRgs l = true :=
  (validRgs_iff l).2 ⟨hk, fun i hi => (cmpR_lt _ _).2 (h i (i + 1) (by omega) hi)⟩
theorem RgsOk.sorted {l : List Rg} (h : RgsOk l) : SortedR l := by
  intro i j hij
  induction j with
  | zero => omega
  | succ j ih =>
    intro hj
    have h1 := (cmpR_lt _ _).1 (h.ord j hj)
    rcases Nat.lt_or_ge i j with hlt | hge
    . have := ih hlt (by omega)
      unfold ltK at *; omega
    . have : i = j := by omega
      subst this
      exact h1
theorem allows_iff {l : List Rg} (hv : validRgs l = true) (op ver t : Int) : allowsM l op ver t = true ↔ ∃ i : Nat, i < l.length /\ ((lat l (i : Int)).op = op /\ (lat l (i : Int)).ver = ver) /\ 3 <= (lat l (i : Int)).nu /\ (lat l (i : Int)).le <= t /\ t <= (lat l (i : Int)).mo := by
  have hs := ((validRgs_iff l).1 hv).sorted
  unfold allowsM
  rw [decide_eq_true_eq]
  constructor
  . rintro ⟨_, h1, h2, h3, h4⟩
    obtain ⟨i, hi, he, hb⟩ := (bs_found _ hs).1 h1
    have hb : bsI l ⟨op, ver, 0, 0, 0⟩ = i := hb
    rw [hb] at h2 h3 h4
    exact ⟨i, hi, he, h2, h3, h4⟩
  . rintro ⟨i, hi, he, h2, h3, h4⟩
    obtain ⟨h1, hb⟩ := bs_hit (x := ⟨op, ver, 0, 0, 0⟩) hs hi he
    have hb : bsI l ⟨op, ver, 0, 0, 0⟩ = i := hb
    rw [hb]
    exact ⟨hv, h1, h2, h3, h4⟩
end Go.Lat
namespace Go.Lat
open Go.RowKit
structure ExInv (jobs : List Job) (causes late : Int) (l : List Ext) (i q : Int) : Prop where
  pw : l.Pairwise fun a b => extLt a b = true
  lt : ∀ x ∈ l, x.jb < i \/ x.jb = i /\ x.pc < q
  ok : ∀ x ∈ l, ((0 <= x.jb /\ x.jb < jobs.length) /\ 0 <= x.ca /\ x.ca < causes) /\ ((x.pc = -1 /\ ¬ x.jb = late /\ x.ba = 0 /\ x.op = 0 /\ x.ver = 0) ∨
    ((0 <= x.pc /\ x.pc < (lat jobs x.jb).wk.length) /\ (0 <= x.ba /\ x.ba <= (lat (lat jobs x.jb).wk x.pc).tm) /\ (0 <= x.op /\ x.op <= 2) /\ 0 <= x.ver /\ x.ver <= 1))
theorem ExInv.up {jobs : List Job} {causes late : Int} {l : List Ext} {i q i' q' : Int} (h : ExInv jobs causes late l i q) (hh : i < i' \/ i = i' /\ q <= q') : ExInv jobs causes late l i' q' :=
  ⟨h.pw, fun x hx => by have := h.lt x hx; omega, h.ok⟩
theorem ExInv.step {jobs : List Job} {causes late : Int} {ex : List A3} {s : List Ext × Nat} {i k : Int} (hc : 0 < causes) (hi : 0 <= i /\ i < jobs.length) (hk : -1 <= k /\ k < (lat jobs i).wk.length) (ht : 0 <= k -> 0 <= (lat (lat jobs i).wk k).tm)
    (h : ExInv jobs causes late s.1 i k) : ExInv jobs causes late (exStep jobs causes late ex i s k).1 i (k + 1) := by
  unfold exStep
  split
  . split
    . rename_i ha
      have hx : (exX jobs causes (lat ex (s.2 : Int)) i k).jb = i /\ (exX jobs causes (lat ex (s.2 : Int)) i k).pc = k := by unfold exX; split <;> exact ⟨rfl, rfl⟩
      have p1 := zXz (c := (lat ex (s.2 : Int)).x1) (n := causes) (by omega)
      refine ⟨?_, fun x hx' => ?_, fun x hx' => ?_⟩
      . rw [List.pairwise_append]
        refine ⟨h.pw, List.pairwise_singleton _ _, fun a ha' b hb => ?_⟩
        rw [List.mem_singleton] at hb
        subst hb
        have := h.lt a ha'
        unfold extLt
        rw [decide_eq_true_eq]
        omega
      . rcases List.mem_append.1 hx' with hx' | hx'
        . have := h.lt x hx'; omega
        . rw [List.mem_singleton] at hx'; subst hx'; omega
      . rcases List.mem_append.1 hx' with hx' | hx'
        . exact h.ok x hx'
        . rw [List.mem_singleton] at hx'; subst hx'
          unfold exAct at ha
          unfold exX
          split
          . rename_i hk0
            have t0 := ht hk0
            have p2 := zXz (c := (lat ex (s.2 : Int)).x2) (n := (lat (lat jobs i).wk k).tm + 1) (by omega)
            have p3 := zXz (c := (lat ex (s.2 : Int)).x1.tdiv 5) (n := 3) (by omega)
            have p4 := zXz (c := (lat ex (s.2 : Int)).x1.tdiv 15) (n := 2) (by omega)
            exact ⟨⟨hi, p1⟩, .inr ⟨⟨hk0, hk.2⟩, ⟨p2.1, Int.lt_add_one_iff.1 p2.2⟩, ⟨p3.1, Int.lt_add_one_iff.1 p3.2⟩, p4.1, Int.lt_add_one_iff.1 p4.2⟩⟩
          . rename_i hk0
            have e : k = -1 := by omega
            subst e
            rw [if_pos rfl] at ha
            exact ⟨⟨hi, p1⟩, .inl ⟨rfl, ha.2, rfl, rfl, rfl⟩⟩
    . exact h.up (.inr ⟨rfl, by omega⟩)
  . exact h.up (.inr ⟨rfl, by omega⟩)
theorem ExInv.job {jobs : List Job} {causes late : Int} {ex : List A3} (hc : 0 < causes) (ht : ∀ j ∈ jobs, ∀ w ∈ j.wk, 0 <= w.tm) {s : List Ext × Nat} {i : Nat} (hi : i < jobs.length)
    (h : ExInv jobs causes late s.1 i (-1)) : ∀ q : Nat, q <= (lat jobs (i : Int)).wk.length + 1 -> ExInv jobs causes late ((ksM q).foldl (exStep jobs causes late ex i) s).1 i ((q : Int) - 1)
  | 0, _ => h
  | q + 1, hq => by
    rw [ksM_succ, List.foldl_append]
    have ih := ExInv.job (ex := ex) hc ht hi h q (by omega)
    have := ih.step (ex := ex) hc ⟨by omega, by omega⟩ ⟨by omega, by omega⟩ (fun h0 => ht _ (lat_mem (xs := jobs) (i := (i : Int)) ⟨by omega, by omega⟩) _ (lat_mem ⟨h0, by omega⟩))
    rw [show ((q + 1 : Nat) : Int) - 1 = (q : Int) - 1 + 1 by omega]
    exact this
theorem ExInv.all {jobs : List Job} {causes late : Int} {ex : List A3} (hc : 0 < causes) (ht : ∀ j ∈ jobs, ∀ w ∈ j.wk, 0 <= w.tm) : ∀ i : Nat, i <= jobs.length -> ExInv jobs causes late (exAll jobs causes late ex i).1 i (-1)
  | 0, _ => ⟨List.Pairwise.nil, fun _ hx => absurd hx List.not_mem_nil, fun _ hx => absurd hx List.not_mem_nil⟩
  | i + 1, hi => by
    rw [exAll_succ, exJob_eq]
    have := ExInv.job (late := late) (ex := ex) (s := exAll jobs causes late ex i) hc ht (by omega) (ExInv.all hc ht i (by omega)) _ (Nat.le_refl _)
    exact this.up (.inl (by omega))
structure MadeOk (r : Req) (lone : Bool) : Prop where
  v : ValidR r
  ba : ∀ x ∈ r.ex, ¬ x.pc = -1 -> x.ba <= (lat (lat r.jobs x.jb).wk x.pc).tm
  pcs : ∀ x ∈ r.ex, x.pc = -1 \/ 0 <= x.pc /\ x.pc < (lat r.jobs x.jb).wk.length
  late : ∀ x ∈ r.ex, x.pc = -1 -> ¬ x.jb = r.late
  pw : r.ex.Pairwise fun a b => extLt a b = true
  obj : 0 <= r.obj /\ r.obj <= 29
  ca : 0 <= r.causes /\ r.causes <= 4
  jl : 1 <= r.jobs.length /\ r.jobs.length <= 6
  sl : 1 <= r.sv.length /\ r.sv.length <= 3
  ar : ∀ j ∈ r.jobs, 0 <= j.ar /\ j.ar <= 24
  tm : ∀ j ∈ r.jobs, ∀ w ∈ j.wk, 0 <= w.tm /\ w.tm <= 8
  one : lone = true -> r.sv.length = 1 /\ ∀ j ∈ r.jobs, j.wk.length <= 1
theorem made_ok (c : Cas) (lone : Bool) : MadeOk (madeC c lone) lone := by
  obtain ⟨n1, n3⟩ := sta_le c.sv lone
  obtain ⟨jl, jm⟩ := jobsM_made (jobs := c.jobs) (lone := lone) n1
  have sl : (madeC c lone).sv.length = (staM c.sv lone).toNat := by simp [madeC, madeM]
  have ej : (madeC c lone).jobs = jobsM c.jobs (staM c.sv lone) lone := rfl
  have p1 := zXz (c := c.late) (n := ((jobsM c.jobs (staM c.sv lone) lone).length : Int)) (by omega)
  have p2 := zXz (c := c.obj) (n := 30) (by omega)
  have p3 := zXz (c := c.obj.tdiv 30) (n := 5) (by omega)
  have hinv : ExInv (madeC c lone).jobs (madeC c lone).causes (madeC c lone).late (madeC c lone).ex (madeC c lone).jobs.length (-1) := by
    show ExInv _ _ _ (exsM _ _ _ _) _ _
    unfold exsM
    split
    . rename_i hc
      exact ExInv.all hc (fun j hj w hw => ((jm j hj).wk w hw).2.1) _ (Nat.le_refl _)
    . exact ⟨List.Pairwise.nil, fun _ hx => absurd hx List.not_mem_nil, fun _ hx => absurd hx List.not_mem_nil⟩
  have hv : ValidR (madeC c lone) := by
    refine ⟨?_, p1, ⟨p2.1, ?_⟩, ⟨p3.1, ?_⟩, fun i hi => ?_, fun i hi => ?_⟩
    . unfold validJ
      rw [Bool.and_eq_true, Bool.and_eq_true, decide_eq_true_eq, List.all_eq_true, List.all_eq_true]
      refine ⟨⟨⟨by omega, by omega, by rw [ej]; omega⟩, fun n hn => ?_⟩, fun j hj => ?_⟩
      . obtain ⟨i, _, rfl⟩ := List.mem_map.1 hn
        have := zXz (c := lat [c.sv.x0, c.sv.x1, c.sv.x2] (i : Int)) (n := 2) (by omega)
        exact decide_eq_true (by omega)
      . have := jm j hj
        unfold jobOk
        rw [Bool.and_eq_true, decide_eq_true_eq, List.all_eq_true]
        refine ⟨⟨this.ar.1, by have := this.ar.2; omega, by have := this.wl.1; omega⟩, fun w hw => ?_⟩
        have := this.wk w hw
        exact decide_eq_true (by omega)
    . show pickM c.obj 30 <= _; omega
    . show pickM (c.obj.tdiv 30) 5 <= _; omega
    . have := hinv.ok _ (lat_mem (xs := (madeC c lone).ex) (i := (i : Int)) ⟨by omega, by omega⟩)
      refine ⟨this.1, ?_⟩
      rcases this.2 with h | h
      . left; unfold isRemM; exact decide_eq_true h
      . right; unfold isWorkM
        have hj := jm _ (lat_mem (xs := (madeC c lone).jobs) (i := (lat (madeC c lone).ex (i : Int)).jb) ⟨this.1.1.1, by have := this.1.1.2; omega⟩)
        have := (hj.wk _ (lat_mem ⟨h.1.1, by omega⟩)).2.2
        exact decide_eq_true ⟨⟨h.1.1, by omega⟩, ⟨h.2.1.1, by omega⟩, ⟨h.2.2.1.1, by omega⟩, h.2.2.2.1, by omega⟩
    . have := List.pairwise_iff_getElem.1 hinv.pw i (i + 1) (by omega) hi (by omega)
      rwa [lat_get (by omega), lat_get hi]
  refine ⟨hv, fun x hx hp => ?_, fun x hx => ?_, fun x hx hp => ?_, hinv.pw, ⟨p2.1, ?_⟩, ⟨p3.1, ?_⟩, jl, by omega, fun j hj => (jm j hj).ar, fun j hj w hw => ((jm j hj).wk w hw).2, fun h => ⟨?_, fun j hj => (jm j hj).wl.2 h⟩⟩
  . exact ((hinv.ok x hx).2.resolve_left fun h => hp h.1).2.1.2
  . exact (hinv.ok x hx).2.imp (·.1) (·.1)
  . exact ((hinv.ok x hx).2.resolve_right fun h => by omega).2.1
  . show pickM c.obj 30 <= _; omega
  . show pickM (c.obj.tdiv 30) 5 <= _; omega
  . rw [sl]; unfold staM; rw [if_pos h]; rfl
end Go.Lat
namespace Go.Lat
open Go.RowKit
inductive Ends (sv : List Int) (jobs : List Job) : RunS -> RunS -> Prop
  | stop {s : RunS} : leastS s.ss < 0 -> Ends sv jobs s s
  | step {s t : RunS} : ¬ leastS s.ss < 0 -> Ends sv jobs (nextM sv jobs s (leastS s.ss)) t -> Ends sv jobs s t
def slots (sv : List Int) (s : RunS) (q : Int) : List Int := (lat s.fr q).toList.take (lat sv q).toNat
def cnt (sv : List Int) (s : RunS) (q x : Int) : Nat := (slots sv s q).countP fun m => decide (m <= x)
structure StepC (sv : List Int) (jobs : List Job) (s : RunS) (i : Nat) : Prop where
  vis : ∀ x, (visM sv jobs s i).st <= x ↔ (lat s.ss i).rd <= x /\ 1 <= cnt sv s (workM jobs s i).st x
  en : (visM sv jobs s i).en = (visM sv jobs s i).st + (workM jobs s i).tm
  tm : 0 <= (workM jobs s i).tm
  st : 0 <= (workM jobs s i).st /\ (workM jobs s i).st < sv.length
  cnt : ∀ q x, 0 <= q -> cnt sv (nextM sv jobs s i) q x + (if q = (workM jobs s i).st /\ 1 <= cnt sv s q x /\ x < (visM sv jobs s i).en then 1 else 0) = cnt sv s q x
  ss : ∀ j : Nat, lat (nextM sv jobs s i).ss j = if j = i then ⟨(lat s.ss i).dn + 1, (lat s.ss i).al, (visM sv jobs s i).en⟩ else lat s.ss j
theorem StepOk.c {sv : List Int} {jobs : List Job} {c : Nat} {s : RunS} {i : Nat} (h : RInv sv jobs c s) (o : StepOk sv jobs c s i) : StepC sv jobs s i := by
  obtain ⟨k, k1, k2, k3⟩ := o.slot
  have nb := o.nb
  have hlen : (slots sv s (workM jobs s i).st).length = (lat sv (workM jobs s i).st).toNat := by
    unfold slots; rw [List.length_take, Vector.length_toList]; omega
  have hget : ∀ q : Nat, (q : Int) < lat sv (workM jobs s i).st -> ∀ hq : q < (slots sv s (workM jobs s i).st).length, (slots sv s (workM jobs s i).st)[q] = vat (lat s.fr (workM jobs s i).st) q := fun q h1 hq => by
    rw [<- lat_get hq]
    exact take_vat _ (by omega) (by omega)
  have hkl : k < (slots sv s (workM jobs s i).st).length := by rw [hlen]; omega
  have hm : ∀ x, 1 <= cnt sv s (workM jobs s i).st x ↔ vat (lat s.fr (workM jobs s i).st) k <= x := fun x => by
    unfold cnt
    rw [Nat.succ_le_iff, List.countP_pos_iff]
    constructor
    . rintro ⟨a, ha, h2⟩
      obtain ⟨q, hq, rfl⟩ := List.mem_iff_getElem.1 ha
      have h2 := of_decide_eq_true h2
      have hq2 : (q : Int) < lat sv (workM jobs s i).st := by omega
      rw [hget q hq2] at h2
      have := k3 q hq2
      omega
    . intro h2
      exact ⟨_, List.getElem_mem hkl, by rw [hget k k2]; exact decide_eq_true h2⟩
  have hv : (visM sv jobs s i).st = max (lat s.ss i).rd (vat (lat s.fr (workM jobs s i).st) k) := by unfold visM; simp only [k1, Int.toNat_natCast]
  have hen := o.vis.2.2
  have htm := o.tm.1
  refine ⟨fun x => ?_, hen, htm, o.st, fun q x hq => ?_, fun j => ?_⟩
  . rw [hm, hv]; omega
  . by_cases e : q = (workM jobs s i).st
    . subst e
      have e1 : slots sv (nextM sv jobs s i) (workM jobs s i).st = (slots sv s (workM jobs s i).st).set k (visM sv jobs s i).en := by
        unfold slots nextM
        simp only [k1, Int.toNat_natCast]
        rw [lat_set' ⟨o.st.1, by rw [h.fl]; exact o.st.2⟩ o.st.1, if_pos rfl]
        show List.take _ (Vector.toList (Vector.setIfInBounds _ _ _)) = _
        rw [Vector.toList_setIfInBounds, List.take_set]
      have e2 : (if vat (lat s.fr (workM jobs s i).st) k <= x then 1 else 0) <= (cnt sv s (workM jobs s i).st x) := by
        split
        . rename_i h; exact (hm x).2 h
        . omega
      have e3 : Go.Lat.cnt sv (nextM sv jobs s i) (workM jobs s i).st x = (slots sv (nextM sv jobs s i) (workM jobs s i).st).countP fun m => decide (m <= x) := rfl
      have e4 : Go.Lat.cnt sv (nextM sv jobs s i) (workM jobs s i).st x = Go.Lat.cnt sv s (workM jobs s i).st x - (if vat (lat s.fr (workM jobs s i).st) k <= x then 1 else 0) + (if (visM sv jobs s i).en <= x then 1 else 0) := by
        rw [e3, e1, List.countP_set hkl, hget k k2]
        simp only [decide_eq_true_eq]
        rfl
      have hmx := hm x
      have hge : vat (lat s.fr (workM jobs s i).st) k <= (visM sv jobs s i).en := by omega
      generalize Go.Lat.cnt sv (nextM sv jobs s i) (workM jobs s i).st x = A at *
      generalize Go.Lat.cnt sv s (workM jobs s i).st x = B at *
      generalize (visM sv jobs s i).en = en at *
      generalize vat (lat s.fr (workM jobs s i).st) k = m at *
      rw [e4]
      by_cases c1 : m <= x
      . rw [if_pos c1]
        rw [if_pos c1] at e2
        by_cases c2 : en <= x
        . rw [if_pos c2, if_neg (by omega)]; omega
        . rw [if_neg c2, if_pos ⟨rfl, e2, by omega⟩]; omega
      . rw [if_neg c1, if_neg (by omega), if_neg (by omega)]; omega
    . rw [if_neg (fun h => e h.1)]
      show (slots sv (nextM sv jobs s i) q).countP _ = (slots sv s q).countP _
      have : slots sv (nextM sv jobs s i) q = slots sv s q := by
        unfold slots nextM
        simp only
        rw [lat_set' ⟨o.st.1, by rw [h.fl]; exact o.st.2⟩ hq, if_neg e]
      rw [this]
  . have := lat_set (l := s.ss) (i := (i : Int)) (j := j) (x := (⟨(lat s.ss i).dn + 1, (lat s.ss i).al, (visM sv jobs s i).en⟩ : Sta)) ⟨by omega, by rw [h.sl]; have := o.lt; omega⟩
    unfold nextM
    simp only
    rw [this]
    by_cases e : j = i
    . rw [if_pos (by omega), if_pos e]
    . rw [if_neg (by omega), if_neg e]
theorem RInv.go {sv : List Int} {jobs : List Job} {c : Nat} {s : RunS} (h : RInv sv jobs c s) (hl : ¬ leastS s.ss < 0) : ∃ i : Nat, leastS s.ss = i /\ i < jobs.length /\ (lat s.ss i).dn < (lat s.ss i).al ∧
    (∀ k : Nat, k < jobs.length -> (lat s.ss k).dn < (lat s.ss k).al -> (lat s.ss i).rd <= (lat s.ss k).rd /\ (k < i -> (lat s.ss i).rd < (lat s.ss k).rd)) /\ StepC sv jobs s i /\ RInv sv jobs (c + 1) (nextM sv jobs s i) /\ leftM s = leftM (nextM sv jobs s i) + 1 := by
  obtain ⟨i, hi, hil, hid, hk⟩ := (leastS_spec s.ss).resolve_left (fun h => hl (by omega))
  have so := h.step hil hid
  exact ⟨i, hi, so.lt, hid, fun k hk' hd => hk k (by rw [h.sl]; exact hk') hd, so.c h, so.next, so.less⟩
theorem RInv.none {sv : List Int} {jobs : List Job} {c : Nat} {s : RunS} (h : RInv sv jobs c s) (hl : leastS s.ss < 0) : ∀ i : Nat, i < jobs.length -> ¬ (lat s.ss i).dn < (lat s.ss i).al := by
  rcases leastS_spec s.ss with ⟨_, h2⟩ | ⟨i, h1, _⟩
  . intro i hi; exact h2 i (by rw [h.sl]; exact hi)
  . omega
end Go.Lat
namespace Go.Lat
open Go.RowKit
def latM (r : Req) (s : Int) : Int := max 0 ((finishM r.sv (withM r s) r.late).1 - (lat r.jobs r.late).ar - r.obj)
theorem ValidR.lateE {r : Req} (h : ValidR r) (s : Int) : lateM r s = (latM r s, 0) := by
  unfold lateM latenessM'
  rw [if_neg (fun h' => h' (h.late2 s))]
  rfl
theorem ValidR.vals {r : Req} (h : ValidR r) : valuesM r = ((rangeI (2 ^ r.causes.toNat)).map (latM r), 0) := by
  unfold valuesM
  rw [if_pos ((validR_iff r).2 h)]
  have hn : (rangeI (2 ^ r.causes.toNat)).find? (fun s => decide (¬ (lateM r s).2 = 0)) = none := by
    rw [List.find?_eq_none]
    intro s _
    simp [h.lateE s]
  rw [hn]
  simp only [h.lateE]
theorem ValidR.vlen {r : Req} (h : ValidR r) : (valuesM r).1.length = 2 ^ r.causes.toNat := by rw [h.vals]; simp [rangeI]
structure ShR (d : Int) (sv : List Int) (n : Nat) (sF sG : RunS) : Prop where
  ss : ∀ j : Nat, j < n -> lat sG.ss j = ⟨(lat sF.ss j).dn, (lat sF.ss j).al, (lat sF.ss j).rd + d⟩
  c : ∀ q x : Int, 0 <= q -> q < sv.length -> 0 <= x -> cnt sv sG q (x + d) = cnt sv sF q x
structure GrR (sv : List Int) (jG : List Job) (sF sG : RunS) : Prop where
  ss : ∀ j : Nat, j < jG.length -> ((lat sG.ss j).dn = 0 /\ (lat sF.ss j).dn = 0 /\ (lat sG.ss j).rd = (lat jG j).ar /\ (lat sF.ss j).rd = (lat jG j).ar) ∨
    ((lat sG.ss j).dn = 1 /\ (lat sF.ss j).dn = (lat sF.ss j).al /\ (lat sF.ss j).rd <= (lat sG.ss j).rd)
  c : ∀ x, cnt sv sG 0 x <= cnt sv sF 0 x
structure LessW (jF jG : List Job) : Prop where
  len : jF.length = jG.length
  ar : ∀ k : Nat, k < jG.length -> (lat jF k).ar = (lat jG k).ar
  one : ∀ k : Nat, k < jG.length -> (lat jG k).wk.length <= 1
  wl : ∀ k : Nat, k < jG.length -> (lat jF k).wk.length <= (lat jG k).wk.length
  tm : ∀ k : Nat, k < jG.length -> (lat jF k).wk.length = 1 -> (lat (lat jF k).wk 0).tm <= (lat (lat jG k).wk 0).tm
structure Nr (N : Int -> Prop) (near : Nat -> Prop) (jA jB : List Job) : Prop where
  len : jA.length = jB.length
  eq : ∀ k : Nat, k < jA.length -> near k -> lat jA k = lat jB k
  inn : ∀ k : Nat, k < jA.length -> near k -> ∀ w ∈ (lat jA k).wk, N w.st
  outA : ∀ k : Nat, k < jA.length -> ¬ near k -> ∀ w ∈ (lat jA k).wk, ¬ N w.st
  outB : ∀ k : Nat, k < jA.length -> ¬ near k -> ∀ w ∈ (lat jB k).wk, ¬ N w.st
structure NrR (sv : List Int) (N : Int -> Prop) (near : Nat -> Prop) (n : Nat) (sA sB : RunS) : Prop where
  ss : ∀ j : Nat, j < n -> near j -> lat sA.ss j = lat sB.ss j
  c : ∀ q x, 0 <= q -> N q -> cnt sv sA q x = cnt sv sB q x
theorem NrR.symm {sv : List Int} {N : Int -> Prop} {near : Nat -> Prop} {n : Nat} {sA sB : RunS} (h : NrR sv N near n sA sB) : NrR sv N near n sB sA := ⟨fun j hj hn => (h.ss j hj hn).symm, fun q x hq hN => (h.c q x hq hN).symm⟩
end Go.Lat
namespace Go.Lat
open Go.RowKit
def bitZ (s k : Int) : Int := bitI .and .i64 (s.fdiv (2 ^ (min k.toNat 64))) 1
theorem sh_pow {k : Int} (h : 0 <= k /\ k <= 64) : (1 : Int) * 2 ^ (min k.toNat 64) = 2 ^ k.toNat := by
  rw [Int.one_mul, Nat.min_eq_left (by omega)]
theorem pow_le16 {k : Int} (h : 0 <= k /\ k <= 4) : 1 <= (2 : Int) ^ k.toNat /\ (2 : Int) ^ k.toNat <= 16 := by
  obtain ⟨k, rfl⟩ : ∃ n : Nat, k = n := ⟨k.toNat, by omega⟩
  rw [Int.toNat_natCast]
  have h1 : 2 ^ k <= 2 ^ 4 := Nat.pow_le_pow_right (by omega) (by omega)
  have h2 : 1 <= 2 ^ k := Nat.one_le_two_pow
  have e : ((2 ^ k : Nat) : Int) = (2 : Int) ^ k := by norm_cast
  omega
end Go.Lat
namespace Go.Lat
open Go.RowKit
structure Lens (r : Req) : Prop where
  a : r.sv.length <= 9223372036854775807
  b : ∀ j ∈ r.jobs, j.wk.length <= 9223372036854775807
  c : r.jobs.length <= 9223372036854775807
  d : r.ex.length <= 9223372036854775807
theorem ValidR.lens {r : Req} (h : ValidR r) : Lens r := by
  have j := job_ok h.j
  have := h.len
  exact ⟨by omega, fun q hq => by have := (j.2.2 q hq).1; omega, by omega, by omega⟩
theorem ValidR.vlenI {r : Req} (h : ValidR r) (hc : r.causes <= 4) : (((valuesM r).1.length : Nat) : Int) = 1 * 2 ^ (min r.causes.toNat 64) := by
  rw [h.vlen, sh_pow ⟨h.causes.1, by omega⟩]
  norm_cast
theorem ValidR.v16 {r : Req} (h : ValidR r) (hc : r.causes <= 4) : 1 <= (valuesM r).1.length /\ (valuesM r).1.length <= 16 := by
  have := h.vlenI hc
  rw [sh_pow ⟨h.causes.1, by omega⟩] at this
  have := pow_le16 (k := r.causes) ⟨h.causes.1, hc⟩
  omega
theorem ValidR.set {r : Req} (h : ValidR r) {s : Int} (hs : 0 <= s /\ s < ((valuesM r).1.length : Int)) : isSetM r s = true := by
  rw [h.vlen] at hs
  unfold isSetM
  rw [(validR_iff r).2 h, Bool.true_and, decide_eq_true_eq]
  have e : ((2 ^ r.causes.toNat : Nat) : Int) = (2 : Int) ^ r.causes.toNat := by norm_cast
  omega
end Go.Lat
namespace Go.Lat
open Go.RowKit
def sameF (op ver : Int) (f : Fct) : Bool := decide (f.op = op /\ f.ver = ver)
def manyF (F : List Fct) (op ver : Int) : Nat := F.countP (sameF op ver)
def belowF (F : List Fct) (op ver t : Int) : Bool := F.any fun f => sameF op ver f && decide (f.lo <= t)
def aboveF (F : List Fct) (op ver t : Int) : Bool := F.any fun f => sameF op ver f && decide (t <= f.hi)
def withinF (F : List Fct) (op ver t : Int) : Bool := F.any fun f => sameF op ver f && decide (f.lo <= t /\ t <= f.hi)
theorem factOk_iff {f : Fct} (h : factOk f = true) : (0 <= f.ver /\ f.ver <= 9) /\ (0 <= f.op /\ f.op <= 11) /\ (0 <= f.lo /\ f.lo <= f.hi) /\ f.hi <= 4398046511104 := by
  unfold factOk at h
  rw [decide_eq_true_eq] at h
  exact ⟨h.2.2.2.1, h.2.2.2.2.1, h.2.2.2.2.2.2.2.1, h.2.2.2.2.2.2.2.2.1⟩
theorem filter_fRg (F : List Fct) (op ver a b c : Int) : ((F.map fRg).filter fun x => decide (eqK x ⟨op, ver, a, b, c⟩)).length = manyF F op ver := by
  unfold manyF
  rw [<- List.countP_eq_length_filter, List.countP_map]
  rfl
structure FitR (F : List Fct) : Prop where
  len : F.length <= 400
  ok : ∀ f ∈ F, factOk f = true
theorem FitR.agg {F : List Fct} (h : FitR F) {r : Rg} (ha : Agg (F.map fRg) r) : ((0 <= r.op /\ r.op <= 11) /\ (0 <= r.ver /\ r.ver <= 9) /\ (1 <= r.nu /\ r.nu <= 1000000) /\ (0 <= r.le /\ r.le <= r.mo) /\ r.mo <= 4398046511104) /\ r.nu = manyF F r.op r.ver ∧
    ∀ t, (r.le <= t ↔ belowF F r.op r.ver t = true) /\ (t <= r.mo ↔ aboveF F r.op r.ver t = true) := by
  have hnu : r.nu = manyF F r.op r.ver := by
    rw [ha.nu, sumOnes (fun x hx => by obtain ⟨hx, _⟩ := List.mem_filter.1 hx; obtain ⟨f, _, rfl⟩ := List.mem_map.1 hx; rfl)]
    congr 1
    exact filter_fRg F r.op r.ver r.nu r.le r.mo
  obtain ⟨x, hx, ex, hxl⟩ := ha.le
  obtain ⟨y, hy, ey, hym⟩ := ha.mo
  obtain ⟨f, hf, rfl⟩ := List.mem_map.1 hx
  obtain ⟨g, hg, rfl⟩ := List.mem_map.1 hy
  have kf := factOk_iff (h.ok f hf)
  have kg := factOk_iff (h.ok g hg)
  have bf := ha.bd _ hx ex
  have ef : f.op = r.op /\ f.ver = r.ver := ex
  have eg : g.op = r.op /\ g.ver = r.ver := ey
  have hfl : f.lo = r.le := hxl
  have hgm : g.hi = r.mo := hym
  have hfm : f.hi <= r.mo := bf.2
  have hm : manyF F r.op r.ver <= F.length := List.countP_le_length
  have hm1 : 1 <= manyF F r.op r.ver := by
    unfold manyF
    rw [Nat.succ_le_iff, List.countP_pos_iff]
    exact ⟨f, hf, decide_eq_true ef⟩
  have hl := h.len
  refine ⟨⟨by omega, by omega, by omega, by omega, by omega⟩, hnu, fun t => ⟨?_, ?_⟩⟩
  . unfold belowF
    rw [List.any_eq_true]
    constructor
    . intro ht
      exact ⟨f, hf, by rw [Bool.and_eq_true]; exact ⟨decide_eq_true ef, decide_eq_true (by omega)⟩⟩
    . rintro ⟨q, hq, h2⟩
      rw [Bool.and_eq_true] at h2
      have := (ha.bd _ (List.mem_map.2 ⟨q, hq, rfl⟩) (of_decide_eq_true h2.1)).1
      have h3 := of_decide_eq_true h2.2
      have : r.le <= q.lo := this
      omega
  . unfold aboveF
    rw [List.any_eq_true]
    constructor
    . intro ht
      exact ⟨g, hg, by rw [Bool.and_eq_true]; exact ⟨decide_eq_true eg, decide_eq_true (by omega)⟩⟩
    . rintro ⟨q, hq, h2⟩
      rw [Bool.and_eq_true] at h2
      have := (ha.bd _ (List.mem_map.2 ⟨q, hq, rfl⟩) (of_decide_eq_true h2.1)).2
      have h3 := of_decide_eq_true h2.2
      have : q.hi <= r.mo := this
      omega
theorem FitR.valid {F : List Fct} (h : FitR F) : validRgs (joinM (F.map fRg)) = true :=
  (JR.join (F.map fRg)).pw.rgs fun i hi => (h.agg ((JR.join _).el i hi)).1
theorem FitR.fit {F : List Fct} (h : FitR F) : fitM F = (joinM (F.map fRg), 0) := by
  unfold fitM
  rw [if_neg]
  rintro (h1 | h1)
  . have := h.len; omega
  . exact h1 (List.all_eq_true.2 h.ok)
theorem FitR.allows {F : List Fct} (h : FitR F) (op ver t : Int) : allowsM (joinM (F.map fRg)) op ver t = true ↔ 3 <= manyF F op ver /\ belowF F op ver t = true /\ aboveF F op ver t = true := by
  rw [allows_iff h.valid]
  have J := JR.join (F.map fRg)
  constructor
  . rintro ⟨i, hi, ⟨rfl, rfl⟩, h1, h2, h3⟩
    obtain ⟨_, a2, a3⟩ := h.agg (J.el i hi)
    exact ⟨by omega, (a3 t).1.1 h2, (a3 t).2.1 h3⟩
  . rintro ⟨h1, h2, h3⟩
    have : 0 < manyF F op ver := by omega
    unfold manyF at this
    rw [List.countP_pos_iff] at this
    obtain ⟨f, hf, hs⟩ := this
    have hs := of_decide_eq_true hs
    obtain ⟨i, hi, he⟩ := J.cov (fRg f) (List.mem_map.2 ⟨f, hf, rfl⟩)
    have e1 : (lat (joinM (F.map fRg)) (i : Int)).op = op := he.1.trans hs.1
    have e2 : (lat (joinM (F.map fRg)) (i : Int)).ver = ver := he.2.trans hs.2
    obtain ⟨_, a2, a3⟩ := h.agg (J.el i hi)
    rw [e1, e2] at a2 a3
    exact ⟨i, hi, ⟨e1, e2⟩, by omega, (a3 t).1.2 h2, (a3 t).2.2 h3⟩
theorem within_both {F : List Fct} {op ver t : Int} (h : withinF F op ver t = true) : belowF F op ver t = true /\ aboveF F op ver t = true := by
  unfold withinF at h
  rw [List.any_eq_true] at h
  obtain ⟨f, hf, h2⟩ := h
  rw [Bool.and_eq_true, decide_eq_true_eq] at h2
  refine ⟨?_, ?_⟩
  . unfold belowF; rw [List.any_eq_true]; exact ⟨f, hf, by rw [Bool.and_eq_true]; exact ⟨h2.1, decide_eq_true h2.2.1⟩⟩
  . unfold aboveF; rw [List.any_eq_true]; exact ⟨f, hf, by rw [Bool.and_eq_true]; exact ⟨h2.1, decide_eq_true h2.2.2⟩⟩
theorem FitR.made (x : List (Vector Int 4)) : FitR (factsM x) := by
  have := facts_ok x
  exact ⟨by omega, this.2⟩
def sureX (F : List Fct) (x : Ext) : Prop := x.pc = -1 \/ 3 <= (manyF F x.op x.ver : Int) /\ withinF F x.op x.ver x.ba = true
def possX (F : List Fct) (x : Ext) : Prop := x.pc = -1 \/ 3 <= (manyF F x.op x.ver : Int) /\ belowF F x.op x.ver x.ba = true /\ aboveF F x.op x.ver x.ba = true
theorem sup_iff {F : List Fct} (h : FitR F) {r : Req} (hv : validR r = true) : supM r (joinM (F.map fRg)) = true ↔ ∀ x ∈ r.ex, possX F x := by
  unfold supM
  rw [hv, Bool.true_and, List.all_eq_true]
  constructor
  . intro h1 x hx
    have := h1 x hx
    rw [Bool.or_eq_true, decide_eq_true_eq, h.allows] at this
    rcases this with h2 | h2
    . exact .inl h2
    . exact .inr ⟨by omega, h2.2⟩
  . intro h1 x hx
    rw [Bool.or_eq_true, decide_eq_true_eq, h.allows]
    rcases h1 x hx with h2 | h2
    . exact .inl h2
    . exact .inr ⟨by omega, h2.2⟩
theorem any_snoc {α : Type} (p : α -> Bool) (l : List α) (x : α) : (l ++ [x]).any p = (l.any p || p x) := by rw [List.any_append]; simp
theorem joinM_len' (l : List Rg) : (joinM l).length <= l.length := by
  have := joinM_len (l := l) l.length (Nat.le_refl _)
  rwa [List.take_length] at this
end Go.Lat
namespace Go.Lat
open Go.RowKit
theorem ca_arr {h : List AObj} {id t : Nat} {xs : List Int} {i : Int} (ho : h[id]? = some (.box t (zYy zYx xs))) (hj : 0 <= i /\ i < ((xs.length : Nat) : Int)) : ∃ rest, cellsAt h (.ptr id i.toNat) = some (.int .i64 (lat xs i) :: rest) := by
  obtain ⟨rest, hr⟩ := encL_at wdInt xs i hj.1 hj.2
  rw [Nat.mul_one] at hr
  exact ⟨rest, by simp only [cellsAt, ho, hr]; rfl⟩
section
variable {X : Nat -> Prop} {D : List Deferred × Rho} {w0 : World} {mA : Mem} {r : Rho} {m : MM} {st : St} {a : Act} {w : World}
theorem live_len {t t' : TypeId} {sz sz' : Nat} {cs cs' : List AV} (h : cs'.length = cs.length) (hl : (AObj.row t sz cs').live = true) : (AObj.row t' sz' cs).live = true := by
  refine live_row ?_
  cases cs' with
  | nil => cases hl
  | cons => simp at h; omega
theorem R.reobjR (h : R X D w0 mA r m st a w) {j : Nat} {bt : TypeId} {sz : Nat} {bcs bcs' : List AV} (ho : st.heap[j]? = some (.row bt sz bcs)) (hl' : bcs'.length = bcs.length) (hk : OR r m w j (.row bt sz bcs')) : R X D w0 mA r m { st with heap := st.heap.set j (.row bt sz bcs') } a w := by
  have hlen : j < st.heap.length := by
    rcases Nat.lt_or_ge j st.heap.length with h1 | h1
    . exact h1
    . rw [List.getElem?_eq_none h1] at ho; cases ho
  have get : ∀ (i : Nat) oi, (st.heap.set j (.row bt sz bcs'))[i]? = some oi -> ∃ oo, st.heap[i]? = some oo /\ (oi.live = true -> oo.live = true) /\ (i = j /\ oi = .row bt sz bcs' /\ oo = .row bt sz bcs \/ oi = oo) := by
    intro i oi hi
    by_cases e : i = j
    . subst e
      rw [List.getElem?_set_self hlen] at hi
      cases hi
      exact ⟨_, ho, fun hl => live_len hl' hl, .inl ⟨rfl, rfl, rfl⟩⟩
    . rw [List.getElem?_set_ne (Ne.symm e)] at hi
      exact ⟨oi, hi, fun h => h, .inr rfl⟩
  refine { h with len := by simpa using h.len, lt := ?_, apart := ?_, obj := ?_, own := ?_, inj := ?_, nox := h.nox }
  . intro i oi b c hi hl hr
    obtain ⟨oo, h1, h2, -⟩ := get i oi hi
    exact h.lt i oo b c h1 (h2 hl) hr
  . intro p v hp i oi b c hi hl hr
    obtain ⟨oo, h1, h2, -⟩ := get i oi hi
    exact h.apart p v hp i oo b c h1 (h2 hl) hr
  . intro i oi hi
    obtain ⟨oo, h1, -, ⟨rfl, rfl, rfl⟩ | rfl⟩ := get i oi hi
    . exact hk
    . exact h.obj i oi h1
  . intro i oi b c hi hl hr
    obtain ⟨oo, h1, h2, -⟩ := get i oi hi
    exact h.own i oo b c h1 (h2 hl) hr
  . intro i k oi ok b c c' hi hk' hli hlk hri hrk
    obtain ⟨oo, h1, h2, -⟩ := get i oi hi
    obtain ⟨op, h3, h4, -⟩ := get k ok hk'
    exact h.inj i k oo op b c c' h1 h3 (h2 hli) (h4 hlk) hri hrk
theorem sealC_len {fl : Bool} {id sz k : Nat} {cs' : List AV} : ∀ {xs ys : List AV}, sealC fl id sz k cs' xs ys -> ys.length = xs.length
  | [], [], _ => rfl
  | [], _ :: _, h => h.elim
  | _ :: _, [], h => h.elim
  | x :: xs, y :: ys, h => by have := sealC_len (xs := xs) (ys := ys) h.2; simp [this]
theorem R.sealW (fl : Bool) (id j : Nat) {n sz bsz : Nat} {t bt : TypeId} {cs cs' bcs bcs' : List AV} {h h' : List AObj} {tm : Nat -> AV} {l : List (Nat × AV)} (ho : h[id]? = some (.row t sz cs)) (hb : h[j]? = some (.row bt bsz bcs)) (hc : SealVs fl cs cs')
    (hl : sealT fl id sz cs.length cs' tm l) (hbc : sealC fl id sz cs.length cs' bcs bcs') (hh : (h.set id .dead).set j (.row bt bsz bcs') = h') (hne : Nat.beq id j = false) (hR : R X D w0 mA r m ⟨n, tm, h, 0⟩ a w) : ∃ m', R X D w0 mA r m' ⟨n, look l, h', 0⟩ a w := by
  obtain ⟨m', hle, hR', hv⟩ := hR.sealH rfl fl ho hc
  subst hh
  have hne : id ≠ j := Nat.ne_of_beq_eq_false hne
  have hb' : (h.set id .dead)[j]? = some (.row bt bsz bcs) := by rw [List.getElem?_set_ne hne]; exact hb
  have low := hR.low
  have conv : ∀ (xs ys : List AV) (vs : List Value), sealC fl id sz cs.length cs' xs ys -> VRs r m xs vs -> VRs r m' ys vs := by
    intro xs
    induction xs with
    | nil => intro ys vs hs hv'; cases ys with
      | nil => simpa only [VRs] using hv'
      | cons => exact hs.elim
    | cons x xs ih => intro ys vs hs hv'; cases ys with
      | nil => exact hs.elim
      | cons y ys =>
        simp only [VRs] at hv' ⊢
        obtain ⟨v, vs', rfl, h1, h2⟩ := hv'
        refine ⟨v, vs', rfl, ?_, ih ys vs' hs.2 h2⟩
        rcases hs.1 with e | ⟨nb, n', e1, e2, e3⟩
        . rw [e]; exact VR.mono (RLe.refl r) hle x v h1
        . rw [e3]; rw [e1] at h1; exact hv nb n' _ e2 h1
  have hlen := sealC_len hbc
  have hR2 : R X D w0 mA r m' ⟨n, tm, (h.set id .dead).set j (.row bt bsz bcs'), 0⟩ a w := by
    refine hR'.reobjR hb' hlen ?_
    rcases hR.obj j _ hb with rfl | ⟨b, c, cur, e1, e2, e3, e4, e5, e6, e7⟩
    . exact .inl (List.eq_nil_of_length_eq_zero hlen)
    . exact .inr ⟨b, c, cur, e1, e2, by rw [hlen]; exact e3, e4, e5, by rw [hlen]; exact e6, by rw [hlen]; exact conv _ _ _ hbc e7⟩
  refine ⟨m', { hR2 with tmps := fun t => ?_, size' := hR2.size', nox := hR2.nox }⟩
  have key : ∀ (l : List (Nat × AV)), sealT fl id sz cs.length cs' tm l -> VR r m' (look l t) (a.tmps.getD t undef) := by
    intro l
    induction l with
    | nil => intro _; simp only [look, VR]
    | cons p l ih =>
      obtain ⟨q, v⟩ := p
      intro hl
      rw [look_cons]
      split
      . rename_i e
        subst e
        rcases hl.1 with e | ⟨nb, n', e1, e2, e3⟩
        . rw [e]; exact hR'.tmps t
        . rw [e3]
          exact hv nb n' _ e2 (by have := hR.tmps t; simp only at this; rw [e1] at this; exact this)
      . exact ih hl.2
  exact key l hl
theorem W.sealW {P : Program} {T : TT} {Q : Ex -> St -> Prop} {c : Code} (fl : Bool) (id j : Nat) {n sz bsz : Nat} {t bt : TypeId} {cs cs' bcs bcs' : List AV} {h h' : List AObj} {tm : Nat -> AV} {l : List (Nat × AV)} (ho : h[id]? = some (.row t sz cs)) (hb : h[j]? = some (.row bt bsz bcs)) (hc : SealVs fl cs cs')
    (hl : sealT fl id sz cs.length cs' tm l) (hbc : sealC fl id sz cs.length cs' bcs bcs') (hh : (h.set id .dead).set j (.row bt bsz bcs') = h') (hne : Nat.beq id j = false) (hw : W P T c ⟨n, look l, h', 0⟩ Q) : W P T c ⟨n, tm, h, 0⟩ Q := fun hT hf ro hro k X D w0 mA r m a w hR => by
  obtain ⟨m', hR'⟩ := R.sealW fl id j ho hb hc hl hbc hh hne hR
  exact hw hT hf ro hro k X D w0 mA r m' a w hR'
def St.goes (s : St) (K : St -> Prop) : Prop := ∀ (X : Nat -> Prop) (D : List Deferred × Rho) (w0 : World) (mA : Mem) (r : Rho) (m : MM) (a : Act) (w : World), R X D w0 mA r m s a w -> ∃ r' m' s', K s' /\ R X D w0 mA r' m' s' a w
theorem go_nil {s : St} {K : St -> Prop} (h : K s) : s.goes K := fun X D w0 mA r m a w hR => ⟨r, m, s, h, hR⟩
theorem go_sealW {K : St -> Prop} (fl : Bool) (id j : Nat) {n sz bsz : Nat} {t bt : TypeId} {cs cs' bcs bcs' : List AV} {h h' : List AObj} {tm : Nat -> AV} {l : List (Nat × AV)} (ho : h[id]? = some (.row t sz cs)) (hb : h[j]? = some (.row bt bsz bcs)) (hc : SealVs fl cs cs')
    (hl : sealT fl id sz cs.length cs' tm l) (hbc : sealC fl id sz cs.length cs' bcs bcs') (hh : (h.set id .dead).set j (.row bt bsz bcs') = h') (hne : Nat.beq id j = false) (hw : St.goes ⟨n, look l, h', 0⟩ K) : St.goes ⟨n, tm, h, 0⟩ K := fun X D w0 mA r m a w hR => by
  obtain ⟨m', hR'⟩ := R.sealW fl id j ho hb hc hl hbc hh hne hR
  exact hw X D w0 mA r m' a w hR'
theorem W.rL1g {P : Program} {T : TT} {Q : Ex -> St -> Prop} {st : St} {id : Nat} {ol : List Oper} (h1 : seqL P T ol [] 0 ol st fun s => s.goes (Q .nrm)) : W P T (.region id ol.toArray false) st Q := fun hT _ ro _ n X D w0 mA r m a w hR =>
  wpIn_region_list (seqL_sound hT (fun s r' m' a' w' hs hR' => by
    obtain ⟨r2, m2, s2, h2, hR2⟩ := hs _ _ _ _ _ _ _ _ hR'
    exact ⟨[], r2, m2, s2, fun _ => rfl, h2, hR2⟩) ol 0 hR h1)
end
end Go.Lat
namespace Go.Lat
open Go.RowKit
def StepS (P : Program) (T : TT) (o : Oper) (st : St) (K : AV -> List AObj -> Prop) : Prop :=
  TsOk P T -> ∀ (ro : Option Nat) (n : Nat) (X : Nat -> Prop) (D : List Deferred × Rho) (w0 : World) (mA : Mem) (r : Rho) (m : MM) (a : Act) (w : World) (next : Act -> World -> Prop) (Q : Exit -> Act -> World -> Prop), R X D w0 mA r m st a w →
    (∀ x h' r' m' u w', K x h' -> R X D w0 mA r' m' { st with heap := h' } a w' -> VR r' m' x u -> next (a.put o.dst u) w') -> o.wpIn (FW ro) n P a w next Q
def seqS (P : Program) (T : TT) (ops : List Oper) : List Oper -> St -> (St -> Prop) -> Prop
  | [], st, K => K st
  | o :: l, st, K => (o.guard = none /\ StepS P T o st fun v h => seqS P T ops l ({ st with heap := h }.put o.dst v) K) \/ stepG P T ops o st fun s => seqS P T ops l s K
section
variable {X : Nat -> Prop} {D : List Deferred × Rho} {w0 : World} {mA : Mem} {P : Program} {T : TT}
theorem seqS_sound (hT : TsOk P T) {ops : Array Oper} {ro : Option Nat} {n : Nat} {Q : Exit -> Act -> World -> Prop} {K : St -> Prop}
    (hQ : ∀ s r' m' a' w', K s -> R X D w0 mA r' m' s a' w' -> Q .normal a' w') :
    ∀ (l : List Oper) {r : Rho} {m : MM} {st : St} {a : Act} {w : World}, R X D w0 mA r m st a w -> seqS P T ops.toList l st K -> wpListIn (FW ro) n P ops Q l a w
  | [], _, _, _, _, _, hR, h => hQ _ _ _ _ _ h hR
  | o :: l, r, m, st, a, w, hR, h => wpListIn_step fun K' hK' => by
      rcases h with ⟨hg, h⟩ | h
      . rw [if_pos (by simp [Region.wanted, hg])]
        exact h hT ro n X D w0 mA r m a w _ _ hR fun x h' r' m' u w' hK hR' hv => hK' _ w' (seqS_sound hT hQ l (hR'.put o.dst hv) hK)
      . exact stepG_sound hT hR h fun s r' m' a' w' hs hR' => hK' a' w' (seqS_sound hT hQ l hR' hs)
end
section
variable {P : Program} {T : TT} {ops rest : List Oper} {o : Op} {ty : TypeId} {pos : String} {af : Array Edge} {n : Nat} {l : List (Nat × AV)} {h h' : List AObj} {b : Nat} {K : AV -> List AObj -> Prop} {KS : St -> Prop} {Q : Ex -> St -> Prop} {c : Code} {st : St}
theorem W.rS1 {id : Nat} {ol : List Oper} (h1 : seqS P T ol ol st (Q .nrm)) : W P T (.region id ol.toArray false) st Q := fun hT _ ro _ n X D w0 mA r m a w hR =>
  wpIn_region_list (seqS_sound hT (fun s r' m' a' w' hs hR' => ⟨[], r', m', s, fun _ => rfl, hs, hR'⟩) ol hR h1)
theorem W.rS {id : Nat} {ol : List Oper} (h1 : seqS P T ol ol st fun s => W P T c s Q) : W P T (.seq (.region id ol.toArray false) c) st Q := W.seq _ (W.rS1 h1) fun _ h => h
theorem cX {d : Nat} (hd : Nat.ble (d + 1) n = true) (h1 : opC P T ⟨some d, o, ty, pos, af, none⟩ ⟨n, look l, h, b⟩ fun v h' => seqS P T ops rest ⟨n, look ((d, v) :: l), h', b⟩ KS) :
    seqS P T ops (⟨some d, o, ty, pos, af, none⟩ :: rest) ⟨n, look l, h, b⟩ KS := by
  have hd' : d < n := Nat.le_of_ble_eq_true hd
  refine Or.inr ?_
  show opC P T ⟨some d, o, ty, pos, af, none⟩ ⟨n, look l, h, b⟩ fun v h' => seqS P T ops rest (St.put ⟨n, look l, h', b⟩ (some d) v) KS
  have e : (fun v h' => seqS P T ops rest (St.put ⟨n, look l, h', b⟩ (some d) v) KS) = fun v h' => seqS P T ops rest ⟨n, look ((d, v) :: l), h', b⟩ KS := by
    funext v h'
    rw [St.put_look d v hd']
  rw [e]
  exact h1
theorem cXs {d : Nat} (hd : Nat.ble (d + 1) n = true) (h1 : StepS P T ⟨some d, o, ty, pos, af, none⟩ ⟨n, look l, h, b⟩ fun v h' => seqS P T ops rest ⟨n, look ((d, v) :: l), h', b⟩ KS) :
    seqS P T ops (⟨some d, o, ty, pos, af, none⟩ :: rest) ⟨n, look l, h, b⟩ KS := by
  have hd' : d < n := Nat.le_of_ble_eq_true hd
  refine Or.inl ⟨rfl, ?_⟩
  have e : (fun v h' => seqS P T ops rest (St.put ⟨n, look l, h', b⟩ (some d) v) KS) = fun v h' => seqS P T ops rest ⟨n, look ((d, v) :: l), h', b⟩ KS := by
    funext v h'
    rw [St.put_look d v hd']
  show StepS P T _ _ fun v h' => seqS P T ops rest (St.put ⟨n, look l, h', b⟩ (some d) v) KS
  rw [e]
  exact h1
theorem eX (h1 : KS st) : seqS P T ops [] st KS := h1
end
theorem dIteT {p q r : Prop} [Decidable q] [Decidable (p /\ q \/ ¬ p /\ r)] {b : Bool} (h : p) (hq : decide q = b) : decide (p /\ q \/ ¬ p /\ r) = b := by
  rw [<- hq]
  exact decide_eq_decide.2 ⟨fun h1 => h1.elim (·.2) (fun h2 => absurd h h2.1), fun h1 => .inl ⟨h, h1⟩⟩
theorem dIteF {p q r : Prop} [Decidable r] [Decidable (p /\ q \/ ¬ p /\ r)] {b : Bool} (h : ¬ p) (hq : decide r = b) : decide (p /\ q \/ ¬ p /\ r) = b := by
  rw [<- hq]
  exact decide_eq_decide.2 ⟨fun h1 => h1.elim (fun h2 => absurd h2.1 h) (·.2), fun h1 => .inr ⟨h, h1⟩⟩
theorem callG_mk {P : Program} {h H0 : List AObj} {f : AV} {args ys args0 fst caps : List AV} {k : FuncId} {Post : AV -> List AObj -> Prop} {K : AV -> List AObj -> Prop} (hf : f = .clo k fst caps) (ha : args = ys) (spec : FnG P k H0 args0 Post) (hU : UpH h H0) (hA : Ups (fst ++ ys ++ caps) args0) (hk : ∀ x H', Post x H' -> K x H') : callG P h f args K := by
  subst hf; subst ha
  exact ⟨H0, args0, Post, spec, hU, hA, hk⟩
theorem UpH.self {h : List AObj} (H : ∀ o ∈ h, UpO o o) : UpH h h := ⟨rfl, fun i o' hi _ => ⟨o', hi, H o' (List.mem_of_getElem? hi)⟩⟩
theorem Ups.flat {xs : List AV} (h : ∀ x ∈ xs, flatV x = true) : Ups xs xs := Ups.up fun x hx => by
  have := h x hx
  cases x <;> simp only [flatV, Bool.false_eq_true] at this <;> rfl
theorem run_append_grow_zeros {P : Program} {w : World} (t tn ty e : TypeId) (i : TypeInfo) (z : Value) (k kn : IntKind) (ht : P.underlying t = some (.slice e)) (htn : P.underlying tn = some (.int kn)) (hi : P.info? e = some i) (hz : i.zero = some z)
    (b : Addr) (sLen sCap : Nat) (olds : List Value) (hlo : olds.length = sLen * i.size) (holds : ∀ (j : Nat) v, olds[j]? = some v -> w.cell? (b.add j) = some v) (n : Nat) (h0 : 0 < n) (hs : 0 < i.size) (hle : sLen + n <= 1073741824) (hby : i.bytes <= 131072)
    (hg : sCap < sLen + n) (hfit : Builtin.nextslicecap (sLen + n) sCap * i.bytes <= 281474976710656) :
    (Builtin.append_ #[t, tn] ty #[.slice (some b) sLen sCap, .int k n]).run P w =
      .ok (.slice (some ⟨w.heap.size, 0, none⟩) (sLen + n) (grownCap w (sLen + n) sCap e)) (w.drew.alloc (.cells (olds.toArray ++ Builtin.zeroCells z.cells n ++ Builtin.zeroCells z.cells (grownCap w (sLen + n) sCap e - (sLen + n))) e)) := by
  have hn : n ≠ 0 := by omega
  have hnc : ¬ (sLen + n <= sCap) := by omega
  have hw : IntKind.i64.wrap (n : Int) = n := by rw [IntKind.wrap_i64]; omega
  have h63' : ¬ (9223372036854775807 < ((sLen : Int) + (n : Int))) := by omega
  have h48' : ¬ (281474976710656 < Builtin.nextslicecap (sLen + n) sCap * i.bytes) := by omega
  have h48i : ¬ (281474976710656 < (n : Int) * (i.bytes : Int)) := by
    rw [<- Int.natCast_mul]
    have := Nat.mul_le_mul (show n <= 1073741824 by omega) hby
    omega
  have hneg : ¬ ((n : Int) < 0) := by omega
  have hns : ¬ (n * i.size = 0) := Nat.mul_ne_zero hn (by omega)
  have hfo := run_firstCells_some (P := P) w.drew i.size sLen b sLen sCap olds hlo (by simpa using holds)
  simp [Builtin.append_, run_underlying ht, run_underlying htn, sizeOf, typeInfo, zeroValue, hi, hz, asInt, asIntOf, hw, hn, hnc, hneg, hns, h63', h48', h48i, Question.forced, hfo, newRow, grownCap]
theorem zeroCells_eq (z : Array Value) (n : Nat) : Builtin.zeroCells z n = (Array.range (n * z.size)).map (z[· % z.size]!) := rfl
section
variable {P : Program} {T : TT} {d : Option Tmp} {ty : TypeId} {pos : String} {af : Array Edge} {g : Option (Nat × Bool)} {n : Nat} {l : List (Nat × AV)} {h : List AObj} {b : Nat} {K : AV -> List AObj -> Prop} {a a2 : Operand}
theorem s_apZ {t tn e : TypeId} {s s2 by_ b2 es eb id kk len cp : Nat} {z z2 ez cs : List AV} {ek : TK} {x : Int} (ht : T t = some ⟨.sl e, s, by_, z⟩) (htn : T tn = some ⟨.int .i64, s2, b2, z2⟩) (he : T e = some ⟨ek, es, eb, ez⟩) (hb : (Nat.ble 1 es && Nat.ble eb 131072) = true)
    (h1 : St.eval ⟨n, look l, h, b⟩ a = .cut true id 0 kk len cp) (h2 : St.eval ⟨n, look l, h, b⟩ a2 = .int .i64 x) (ho : h[id]? = some (.row e es cs)) (hx : 0 < x) (hk : len * es <= cs.length) (hcp : (cp : Int) < len + x) (hle : (len : Int) + x <= 1073741824)
    {p q0 : Nat} {cc : List AV} (hp : h.length = p) (hq0 : len + x.toNat = q0) (hcc : cs.take (len * es) ++ zerosA x.toNat es ez = cc) (hK : K (.ref true p q0) (h ++ [.row e es cc])) : StepS P T ⟨d, .call ⟨.builtin .append, #[a, a2], #[t, tn]⟩, ty, pos, af, none⟩ ⟨n, look l, h, b⟩ K := by
  intro hT ro N X D w0 mA r m a0 w next Q hR hnext
  subst hp; subst hq0; subst hcc
  simp only [Bool.and_eq_true] at hb
  have hsz : 0 < es := Nat.le_of_ble_eq_true hb.1
  have hby : eb <= 131072 := Nat.le_of_ble_eq_true hb.2
  have hv1 := hR.eval a
  rw [h1] at hv1
  have hv2 := hR.eval a2
  rw [h2] at hv2
  simp only [VR] at hv1 hv2
  obtain ⟨q, rfl⟩ : ∃ q : Nat, x = q := ⟨x.toNat, by omega⟩
  rw [Int.toNat_natCast] at hK
  have hq0 : 0 < q := by omega
  rcases hv1 with ⟨hc, _⟩ | ⟨b', c, hb', hlc, hkc, _, hva⟩
  . cases hc
  have hsl : P.underlying t = some (.slice e) := (hT t _ ht).sl rfl
  have hin : P.underlying tn = some (.int .i64) := by have := (hT tn _ htn).kind; exact this
  obtain ⟨inf, zv, hi, hi1, hi2, hi3, hi4, hi5, hi6⟩ := (hT e _ he).info
  simp only at hi1 hi2 hi4 hi6
  have hzs : zv.cells.size = es := by have := hi4.length; simp only [Array.length_toList] at this; omega
  obtain ⟨olds, hol, hov, ho1, hoc⟩ : ∃ olds : List Value, olds.length = len * es /\ VRs r m (cs.take (len * es)) olds /\ (∀ u ∈ olds, u.oneCell' = true) /\ ∀ (j : Nat) u, olds[j]? = some u -> w.cell? ((⟨b', 0, none⟩ : Addr).add j) = some u := by
    rcases hR.obj id _ ho with rfl | ⟨b'', c', cur, e1, e2, e0, e3, e4, e5, e6⟩
    . simp only [List.length_nil, Nat.le_zero_eq] at hk
      exact ⟨[], by simp [hk], by rw [List.take_nil]; exact VRs.nil, by simp, by simp⟩
    rw [hb'] at e1
    cases e1
    refine ⟨(cur.toList.take cs.length).take (len * es), ?_, e6.take _, fun u hu => e0 u (List.mem_of_mem_take hu), fun j u hu => ?_⟩
    . have hcl : cs.length <= cur.toList.length := by simpa using e5
      rw [List.take_take, List.length_take]; omega
    . rw [Addr.add_lit]
      simp only [World.cell?, e2]
      rw [List.take_take, List.getElem?_take] at hu
      split at hu
      . simpa using hu
      . cases hu
  have hrun := run_append_grow_zeros (P := P) (w := w) t tn ty e inf zv .i64 .i64 hsl hin hi hi3 ⟨b', 0, none⟩ len cp olds (by rw [hi1]; exact hol) hoc q hq0 (by omega) (by omega) (by omega) (by omega)
    (growslice_fits (by omega) (by have := Nat.mul_le_mul (show len + q <= 1073741824 by omega) hby; rw [hi2]; omega))
  have hnew := rget_new r (w.heap.size, grownCap w (len + q) cp e) hR.len
  have hge := grownCap_ge w (len + q) cp e
  have hszz : (Builtin.zeroCells zv.cells q).size = q * es := by rw [size_zeroCells, hzs]
  have hszE : (olds.toArray ++ Builtin.zeroCells zv.cells q ++ Builtin.zeroCells zv.cells (grownCap w (len + q) cp e - (len + q))).size = grownCap w (len + q) cp e * es := by
    simp only [Array.size_append, List.size_toArray, size_zeroCells, hzs, hol, <- Nat.add_mul]
    congr 1
    omega
  have hzl : (zerosA q es ez).length = q * es := by simp [zerosA]
  have hxl : (cs.take (len * es) ++ zerosA q es ez).length = (len + q) * es := by rw [List.length_append, List.length_take, Nat.min_eq_left hk, hzl, Nat.add_mul]
  have htk : (olds.toArray ++ Builtin.zeroCells zv.cells q ++ Builtin.zeroCells zv.cells (grownCap w (len + q) cp e - (len + q))).toList.take ((cs.take (len * es) ++ zerosA q es ez).length) = olds ++ (Builtin.zeroCells zv.cells q).toList := by
    rw [hxl]
    simp only [Array.toList_append]
    have : (len + q) * es = (olds ++ (Builtin.zeroCells zv.cells q).toList).length := by rw [List.length_append, hol, Array.length_toList, hszz, Nat.add_mul]
    rw [this]
    exact List.take_left
  have hzv : VRs r m (zerosA q es ez) (Builtin.zeroCells zv.cells q).toList := by
    have hi4' : VRs r m ez zv.cells.toList := hi4.mono (RLe.nil r) (fun _ _ _ h => by cases h)
    have := zeros_sound (n := q) (s := es) (zs := ez) (z := zv.cells) hi4' hi6 hsz
    rw [zeroCells_eq, hzs]
    rw [hzs] at this
    exact this
  have hz1 : ∀ u ∈ (Builtin.zeroCells zv.cells q).toList, u.oneCell' = true := by
    intro u hu
    rw [zeroCells_eq, Array.toList_map, List.mem_map] at hu
    obtain ⟨i, hi, rfl⟩ := hu
    have hm : i % zv.cells.size < zv.cells.size := Nat.mod_lt _ (by omega)
    rw [getElem!_pos zv.cells _ hm]
    exact hi5 _ (by simp)
  have hR' := hR.fresh (o := .row e es (cs.take (len * es) ++ zerosA q es ez)) (c := grownCap w (len + q) cp e) (w' := w.drew.alloc (.cells (olds.toArray ++ Builtin.zeroCells zv.cells q ++ Builtin.zeroCells zv.cells (grownCap w (len + q) cp e - (len + q))) e))
    ⟨rfl, rfl, rfl, by simp, fun k hk _ => (by show (w.drew.heap.push _)[k]? = w.drew.heap[k]?; have hk2 : k < w.drew.heap.size := hk; rw [Array.getElem?_push, if_neg (Nat.ne_of_lt hk2)])⟩ (by show w.drew.heap.size < (w.drew.heap.push _).size; rw [Array.size_push]; exact Nat.lt_succ_self _)
    (.inr ⟨_, _, _, hnew, heap_new w.drew _, by
      rw [htk]
      intro u hu
      rcases List.mem_append.1 hu with hu | hu
      . exact ho1 u hu
      . exact hz1 u hu, grownCap_le_maxLen _ _ _ _ (by unfold maxLen; omega), hszE, by rw [hszE, hxl]; exact Nat.mul_le_mul_right _ hge, by
      rw [htk]
      exact (hov.app hzv).mono (RLe.app _ _) (MLe.refl m)⟩)
  refine Oper.wpIn_value (fun c h' => by cases h') (u := .slice (some ⟨w.heap.size, 0, none⟩) (len + q) (grownCap w (len + q) cp e)) (w' := w.drew.alloc (.cells (olds.toArray ++ Builtin.zeroCells zv.cells q ++ Builtin.zeroCells zv.cells (grownCap w (len + q) cp e - (len + q))) e)) (nx := .value (.slice (some ⟨w.heap.size, 0, none⟩) (len + q) (grownCap w (len + q) cp e))) ?_ (.inl rfl) (hnext _ _ _ m _ _ hK hR' ?_)
  . simp [execOp, resolve, invoke, builtin, hva, hv2, hrun]
  . simp only [VR]
    exact .inr ⟨by omega, _, _, hnew, hge, rfl⟩
def OvF (P : Program) (k : FuncId) : Prop := ∃ fn t tr e, P.funcs[k]? = some fn /\ (fn.name == "runtime.NumGoroutine") = false /\ fn.body.isNone = true /\ Extern.findNext fn = none /\ Extern.find fn = some (Extern.SlicesOverlaps.overlaps #[t, t] #[tr]) /\ P.underlying t = some (.slice e) /\ ∃ size, ∀ w, (Go.sizeOf e).run P w = .ok size w
theorem s_ovl {k : FuncId} {f : Operand} {tys : Array TypeId} {nb ex : Bool} {id1 id2 n1 off kk len cp t1 z1 t2 z2 : Nat} {cs1 cs2 : List AV} (hf : OvF P k) (h0 : St.eval ⟨n, look l, h, b⟩ f = .clo k [] []) (h1 : St.eval ⟨n, look l, h, b⟩ a = .ref nb id1 n1) (h2 : St.eval ⟨n, look l, h, b⟩ a2 = .cut ex id2 off kk len cp)
    (hn : 0 < n1) (hc : 0 < cp) (ho1 : h[id1]? = some (.row t1 z1 cs1)) (ho2 : h[id2]? = some (.row t2 z2 cs2)) (hl1 : 0 < cs1.length) (hl2 : 0 < cs2.length) (hne : id1 ≠ id2) (hK : K (.bool false) h) : StepS P T ⟨d, .call ⟨.value f, #[a, a2], tys⟩, ty, pos, af, none⟩ ⟨n, look l, h, b⟩ K := by
  intro hT ro N X D w0 mA r m a0 w next Q hR hnext
  have hv0 := hR.eval f
  rw [h0] at hv0
  have hv1 := hR.eval a
  rw [h1] at hv1
  have hv2 := hR.eval a2
  rw [h2] at hv2
  simp only [VR, VRs] at hv0 hv1 hv2
  obtain ⟨x, y, hx, hx1, hy1⟩ := hv0
  have ex' : x = #[] := Array.toList_inj.1 (by simpa using hx1)
  have ey' : y = #[] := Array.toList_inj.1 (by simpa using hy1)
  subst ex'; subst ey'
  rcases hv1 with ⟨hz, _⟩ | ⟨_, b1, c1, hb1, hle1, hva⟩
  . omega
  rcases hv2 with ⟨_, _, hz, _⟩ | ⟨b2, c2, hb2, hle2, _, _, hvb⟩
  . omega
  rcases hR.obj id1 _ ho1 with rfl | ⟨b1', c1', cur1, e1, e2, _, _, _, e5, _⟩
  . simp at hl1
  rcases hR.obj id2 _ ho2 with rfl | ⟨b2', c2', cur2, f1, f2, _, _, _, f5, _⟩
  . simp at hl2
  rw [hb1] at e1; cases e1
  rw [hb2] at f1; cases f1
  have hbne : b1 ≠ b2 := fun e => by
    subst e
    exact hne (hR.inj id1 id2 _ _ b1 c1 c2 ho1 ho2 (live_row hl1) (live_row hl2) hb1 hb2)
  obtain ⟨fn, t, tr, e, g1, g2, g3, g4, g5, g6, size, g7⟩ := hf
  have hov := Lib.run_overlaps_apart (P := P) w t tr e g6 size g7 ⟨b1, 0, none⟩ ⟨b2, off, none⟩ n1 c1 len cp hbne t1 t2 cur1.size cur2.size (by simp [World.shape?, e2]) (by simp [World.shape?, f2]) (by omega) (by simp [World.frozen?, e2]) (by simp [World.frozen?, e2])
  have hcall : (callFunc k #[.slice (some ⟨b1, 0, none⟩) n1 c1, .slice (some ⟨b2, off, none⟩) len cp]).run P w = .ok (.value (.bool false)) w := by
    rw [run_callFunc_extern g1 g2 g3 g4 g5, hov]; rfl
  refine Oper.wpIn_value (fun c h' => by cases h') (u := .bool false) (w' := w) (nx := .value (.bool false)) ?_ (.inl rfl) (hnext _ _ r m _ _ hK hR (by simp only [VR]))
  simp [execOp, resolve, Deferred.ofValue, hx, invoke, hva, hvb, hcall]
theorem o_slM {t e : TypeId} {s by_ es eb : Nat} {z ez : List AV} {ek : TK} (ht : T t = some ⟨.sl e, s, by_, z⟩) (he : T e = some ⟨ek, es, eb, ez⟩) {hi mx : Operand} {y : Int} {ky kz : IntKind} {nb : Bool} {id m : Nat} (h1 : St.eval ⟨n, look l, h, b⟩ a = .ref nb id m)
    (h2 : St.eval ⟨n, look l, h, b⟩ hi = .int ky y) (h3 : St.eval ⟨n, look l, h, b⟩ mx = .int kz y) (hj : 0 <= y /\ y <= (m : Int)) (hk : K (.cut false id 0 0 y.toNat y.toNat) h) : opC P T ⟨d, .slice t a none (some hi) (some mx), ty, pos, af, g⟩ ⟨n, look l, h, b⟩ K := by
  show sliceA T t (St.eval ⟨n, look l, h, b⟩ a) none (some (St.eval ⟨n, look l, h, b⟩ hi)) (some (St.eval ⟨n, look l, h, b⟩ mx)) (fun v => K v h)
  rw [h1, h2, h3]; simp only [sliceA, ht, he]
  exact ⟨⟨trivial, hj⟩, hk⟩
theorem o_slC {t e : TypeId} {s by_ es eb : Nat} {z ez : List AV} {ek : TK} (ht : T t = some ⟨.sl e, s, by_, z⟩) (he : T e = some ⟨ek, es, eb, ez⟩) {lo hi : Option Operand} {x y : Int} {ex : Bool} {id off k m cp off' k' m' cp' : Nat} (h1 : St.eval ⟨n, look l, h, b⟩ a = .cut ex id off k m cp) (hlo : boundA 0 (lo.map (St.eval ⟨n, look l, h, b⟩)) = some x) (hhi : boundA m (hi.map (St.eval ⟨n, look l, h, b⟩)) = some y)
    (hj : 0 <= x /\ x <= y /\ y <= (cp : Int) /\ x < (cp : Int)) (e1 : off + x.toNat * es = off') (e2 : k + x.toNat = k') (e3 : y.toNat - x.toNat = m') (e4 : cp - x.toNat = cp') (hk : K (.cut ex id off' k' m' cp') h) : opC P T ⟨d, .slice t a lo hi none, ty, pos, af, g⟩ ⟨n, look l, h, b⟩ K := by
  show sliceA T t (St.eval ⟨n, look l, h, b⟩ a) (lo.map (St.eval ⟨n, look l, h, b⟩)) (hi.map (St.eval ⟨n, look l, h, b⟩)) none (fun v => K v h)
  subst e1; subst e2; subst e3; subst e4
  rw [h1]; simp only [sliceA, ht, he, hlo, hhi]
  exact ⟨hj, hk⟩
theorem o_cap {t e : TypeId} {s by_ : Nat} {z : List AV} {ex : Bool} {id off k m cp : Nat} (ht : T t = some ⟨.sl e, s, by_, z⟩) (h1 : St.eval ⟨n, look l, h, b⟩ a = .cut ex id off k m cp) (hk : K (.int .i64 (cp : Int)) h) : opC P T ⟨d, .call ⟨.builtin .cap, #[a], #[t]⟩, ty, pos, af, g⟩ ⟨n, look l, h, b⟩ K := by
  show capA T t (St.eval ⟨n, look l, h, b⟩ a) (fun v => K v h)
  rw [h1]; simp only [capA, ht]
  exact hk
theorem o_slZ {t e : TypeId} {s by_ es eb : Nat} {z ez : List AV} {ek : TK} (ht : T t = some ⟨.sl e, s, by_, z⟩) (he : T e = some ⟨ek, es, eb, ez⟩) {lo hi : Option Operand} {x y : Int} (h1 : St.eval ⟨n, look l, h, b⟩ a = .nilS) (hlo : boundA 0 (lo.map (St.eval ⟨n, look l, h, b⟩)) = some x) (hhi : boundA 0 (hi.map (St.eval ⟨n, look l, h, b⟩)) = some y)
    (hj : x = 0 /\ y = 0) (hk : K .nilS h) : opC P T ⟨d, .slice t a lo hi none, ty, pos, af, g⟩ ⟨n, look l, h, b⟩ K := by
  show sliceA T t (St.eval ⟨n, look l, h, b⟩ a) (lo.map (St.eval ⟨n, look l, h, b⟩)) (hi.map (St.eval ⟨n, look l, h, b⟩)) none (fun v => K v h)
  rw [h1]; simp only [sliceA, ht, he, hlo, hhi]
  exact ⟨hj, hk⟩
theorem o_slMZ {t e : TypeId} {s by_ es eb : Nat} {z ez : List AV} {ek : TK} (ht : T t = some ⟨.sl e, s, by_, z⟩) (he : T e = some ⟨ek, es, eb, ez⟩) {hi mx : Operand} {y : Int} {ky kz : IntKind} (h1 : St.eval ⟨n, look l, h, b⟩ a = .nilS)
    (h2 : St.eval ⟨n, look l, h, b⟩ hi = .int ky y) (h3 : St.eval ⟨n, look l, h, b⟩ mx = .int kz y) (hj : y = 0) (hk : K .nilS h) : opC P T ⟨d, .slice t a none (some hi) (some mx), ty, pos, af, g⟩ ⟨n, look l, h, b⟩ K := by
  show sliceA T t (St.eval ⟨n, look l, h, b⟩ a) none (some (St.eval ⟨n, look l, h, b⟩ hi)) (some (St.eval ⟨n, look l, h, b⟩ mx)) (fun v => K v h)
  rw [h1, h2, h3]; simp only [sliceA, ht, he]
  exact ⟨⟨hj, hj⟩, hk⟩
theorem spl_enc {α : Type} {e : α -> List AV} {sz k off : Nat} (hw : Wd e sz) (xs ys : List α) (hoff : off = k * sz) (hk : k + ys.length <= xs.length) : Lat.spl (zYy e xs) off (zYy e ys) = zYy e (xs.take k ++ ys ++ xs.drop (k + ys.length)) := by
  subst hoff
  have h1 : k * sz + (zYy e ys).length = (k + ys.length) * sz := by rw [zYw hw, Nat.add_mul]
  rw [Lat.spl_eq _ _ _ (by rw [h1, zYw hw]; exact Nat.mul_le_mul_right _ hk), h1, encL_take hw, encL_drop hw, encL_app, encL_app]
theorem put_enc {α : Type} {e : α -> List AV} {sz k off m q : Nat} (hw : Wd e sz) (xs ys : List α) (hoff : off = k * sz) (hm : off + q * sz = m * sz) : (zYy e xs).take off ++ zYy e ys ++ (zYy e xs).drop (off + q * sz) = zYy e (xs.take k ++ ys ++ xs.drop m) := by
  rw [hm, hoff, encL_take hw, encL_drop hw, encL_app, encL_app]
theorem o_apC {t e : TypeId} {s by_ es eb p q : Nat} {z ez ys cs : List AV} {ek : TK} {m kk len cp id : Nat} {ex : Bool} {cc : List AV} (ht : T t = some ⟨.sl e, s, by_, z⟩) (he : T e = some ⟨ek, es, eb, ez⟩) (hb : (Nat.ble 1 es && Nat.ble eb 131072) = true) (h1 : St.eval ⟨n, look l, h, b⟩ a = .cut ex id 0 kk len cp) (hs : srcA h es (St.eval ⟨n, look l, h, b⟩ a2) = some (m, ys)) (hl : ys.length = m * es) (ho : h[id]? = some (.row e es cs)) (hm0 : 0 < m) (hcl : len * es <= cs.length) (hcp : cp < len + m) (hm : len + m <= 1073741824) (hp : h.length = p) (hq : len + m = q) (hcc : cs.take (len * es) ++ ys = cc) (hk : K (.ref true p q) (h ++ [.row e es cc])) : opC P T ⟨d, .call ⟨.builtin .append, #[a, a2], #[t, t]⟩, ty, pos, af, g⟩ ⟨n, look l, h, b⟩ K := by
  show (t = t /\ appendA T h t (St.eval ⟨n, look l, h, b⟩ a) (St.eval ⟨n, look l, h, b⟩ a2) K)
  subst hp; subst hq; subst hcc
  rw [h1]; simp only [appendA, ht, he, hs, ho]
  simp only [Bool.and_eq_true] at hb
  exact ⟨trivial, ⟨Nat.le_of_ble_eq_true hb.1, Nat.le_of_ble_eq_true hb.2⟩, hl, ⟨trivial, trivial, trivial, hm0, hcl, hcp, hm⟩, hk⟩
theorem o_cpG {t t2 e et : TypeId} {s by_ es eb id m q off : Nat} {z ez ys zs cs cs' : List AV} {ek : TK} (ht : T t = some ⟨.sl e, s, by_, z⟩) (he : T e = some ⟨ek, es, eb, ez⟩) (h1 : St.eval ⟨n, look l, h, b⟩ a = .sub id off m) (hs : srcA h es (St.eval ⟨n, look l, h, b⟩ a2) = some (q, ys)) (hl : ys.length = q * es) (ho : h[id]? = some (.row et es cs)) (hq : 0 < min q m) (hy : ys.take (min q m * es) = zs) (hin : off + zs.length <= cs.length) (hcs : Lat.spl cs off zs = cs')
    (hk : K (.int .i64 ((min q m : Nat) : Int)) (h.set id (.row et es cs'))) : opC P T ⟨d, .call ⟨.builtin .copy, #[a, a2], #[t, t2]⟩, ty, pos, af, g⟩ ⟨n, look l, h, b⟩ K := by
  show copyA T h t (St.eval ⟨n, look l, h, b⟩ a) (St.eval ⟨n, look l, h, b⟩ a2) K
  subst hy; subst hcs
  rw [h1]; simp only [copyA, ht, he, hs]
  refine ⟨hl, fun h0 => by omega, fun _ => ?_⟩
  simp only [putCells, ho]
  exact ⟨hin, hk⟩
theorem o_cpC {t t2 e et : TypeId} {s by_ es eb id m q off k cp : Nat} {z ez ys cs cs' : List AV} {ek : TK} {ex : Bool} (ht : T t = some ⟨.sl e, s, by_, z⟩) (he : T e = some ⟨ek, es, eb, ez⟩) (h1 : St.eval ⟨n, look l, h, b⟩ a = .cut ex id off k m cp) (hs : firstA h es m (St.eval ⟨n, look l, h, b⟩ a2) = some (q, ys)) (hl : ys.length = q * es) (ho : h[id]? = some (.row et es cs)) (hq : 0 < q) (hc0 : 0 < cs.length) (hoff : off = k * es) (hin : off <= cs.length) (hcs : cs.take off ++ ys ++ cs.drop (off + q * es) = cs')
    (hk : K (.int .i64 (q : Int)) (h.set id (.row et es cs'))) : opC P T ⟨d, .call ⟨.builtin .copy, #[a, a2], #[t, t2]⟩, ty, pos, af, g⟩ ⟨n, look l, h, b⟩ K := by
  show copyA T h t (St.eval ⟨n, look l, h, b⟩ a) (St.eval ⟨n, look l, h, b⟩ a2) K
  subst hcs
  rw [h1]
  rcases hx : srcA h es (St.eval ⟨n, look l, h, b⟩ a2) with _ | ⟨q', ys'⟩ <;> simp only [copyA, ht, he, hx, hs] <;> simp only [cutPut, ho] <;> exact ⟨⟨trivial, hq, hc0, hoff, hin, hl⟩, hk⟩
theorem first_cut {es dn : Nat} {ex : Bool} {id off k m cp t sz q : Nat} {cs ys : List AV} (ho : h[id]? = some (.row t sz cs)) (hq : min m dn = q) (hy : (cs.drop off).take (q * es) = ys) : firstA h es dn (.cut ex id off k m cp) = some (q, ys) := by
  subst hq; subst hy
  simp only [firstA, ho]
theorem first_src {es dn m q : Nat} {x : AV} {ys zs : List AV} (hx : ∀ ex id off k m cp, x ≠ .cut ex id off k m cp) (hs : srcA h es x = some (m, ys)) (hl : ys.length = m * es) (hq : min m dn = q) (hy : ys.take (q * es) = zs) : firstA h es dn x = some (q, zs) := by
  subst hq; subst hy
  unfold firstA
  split
  . rename_i ex id off k n cp _
    exact absurd rfl (hx _ _ _ _ _ _)
  . rw [hs]; simp [hl]
end
theorem Ren.refNil {φ : List (Option Nat)} {j n : Nat} (hn : n = 0) : Ren φ (.ref true j n) .nilS := fun r m v _ hv => by
  simp only [VR] at hv ⊢
  rcases hv with ⟨_, _, h1 | ⟨hnb, _⟩⟩ | ⟨h0, _⟩
  . exact h1
  . cases hnb
  . omega
theorem Ren.cutR {φ : List (Option Nat)} {nb : Bool} {id j n cp : Nat} (hφ : φ[j]? = some (some id)) (h0 : 0 < n) : Ren φ (.cut true id 0 0 n cp) (.ref nb j n) := fun r m v _ hv => by
  simp only [VR] at hv ⊢
  rcases hv with ⟨hc, _⟩ | ⟨b, c, h1, h2, h3, h4, h5⟩
  . cases hc
  have := h4 trivial
  exact .inr ⟨h0, b, c, rmap_get hφ h1, by omega, by rw [h5]; congr 1; omega⟩
section
variable {P : Program} {T : TT} {Q : Ex -> St -> Prop} {c : Code}
theorem W.cutR {nt t id n : Nat} {nb : Bool} {l : List (Nat × AV)} {h : List AObj} {b : Nat} (hl : look l t = .ref nb id n) (h0 : 0 < n) (hw : ∀ cp, n <= cp -> W P T c ⟨nt, look ((t, .cut true id 0 0 n cp) :: l), h, b⟩ Q) : W P T c ⟨nt, look l, h, b⟩ Q := fun hT hf ro hro k X D w0 mA r m a w hR => by
  have hv := hR.tmps t
  simp only [hl, VR] at hv
  rcases hv with ⟨hz, _⟩ | ⟨_, b', c', hb, hle, hv⟩
  . omega
  refine hw c' hle hT hf ro hro k X D w0 mA r m a w { hR with tmps := fun t' => ?_, size' := hR.size', nox := hR.nox }
  show VR r m (look ((t, .cut true id 0 0 n c') :: l) t') _
  rw [look_cons]
  split
  . rename_i e
    subst e
    simp only [VR]
    exact .inr ⟨b', c', hb, hle, by omega, fun _ => by omega, hv⟩
  . exact hR.tmps t'
def mvT (id q : Nat) (tm : Nat -> AV) : List (Nat × AV) -> Prop
  | [] => True
  | (t, v) :: l => (∃ nb n cp, tm t = .cut true id 0 0 n cp /\ 0 < n /\ v = .ref nb q n) /\ mvT id q tm l
theorem W.mv {nt id : Nat} {tm : Nat -> AV} {l : List (Nat × AV)} {h : List AObj} {b : Nat} {t sz : Nat} {cs : List AV} (ho : h[id]? = some (.row t sz cs)) (hc : 0 < cs.length) (hl : mvT id h.length tm l) (hw : W P T c ⟨nt, look l, h.set id .dead ++ [.row t sz cs], b⟩ Q) : W P T c ⟨nt, tm, h, b⟩ Q := fun hT hf ro hro k X D w0 mA r m a w hR => by
  rcases hR.obj id _ ho with rfl | ⟨b', c', cur, e1, e2, e3, e4, e5, e6, e7⟩
  . simp at hc
  have hlv : (AObj.row t sz cs).live = true := live_row hc
  have hlt := hR.lt id _ b' c' ho hlv e1
  have hk := hR.kill id
  have hidl : id < h.length := by
    rcases Nat.lt_or_ge id h.length with h1 | h1
    . exact h1
    . rw [List.getElem?_eq_none h1] at ho; cases ho
  have get : ∀ (i : Nat) oi, (h.set id .dead)[i]? = some oi -> oi.live = true -> i ≠ id /\ h[i]? = some oi := by
    intro i oi hi hli
    by_cases e : i = id
    . subst e
      rw [List.getElem?_set_self hidl] at hi
      cases hi; cases hli
    . rw [List.getElem?_set_ne (Ne.symm e)] at hi
      exact ⟨e, hi⟩
  have hp := hk.push (o := .row t sz cs) (b := b') (c := c') hlt (fun i oi c'' hi hli hri => by
      obtain ⟨h1, h2⟩ := get i oi hi hli
      exact h1 (hR.inj i id _ _ b' c'' c' h2 ho hli hlv hri e1)) (fun p v hp => hR.apart p v hp id _ b' c' ho hlv e1) (hR.own id _ b' c' ho hlv e1)
      (.inr ⟨b', c', cur, by rw [show (List.set h id AObj.dead).length = r.length by rw [List.length_set]; exact hR.len.symm]; simp, e2, e3, e4, e5, e6, e7.mono (RLe.app _ _) (MLe.refl m)⟩)
  refine hw hT hf ro hro k X D w0 mA _ m a w { hp with tmps := fun t' => ?_, size' := hR.size', nox := hR.nox }
  show VR _ m (look l t') _
  have key : ∀ l : List (Nat × AV), mvT id h.length tm l -> VR (r ++ [(b', c')]) m (look l t') (a.tmps.getD t' undef) := by
    intro l
    induction l with
    | nil => intro _; simp only [look, VR]
    | cons p l ih =>
      obtain ⟨q, v⟩ := p
      rintro ⟨⟨nb, n, cp, f1, f2, rfl⟩, h2⟩
      rw [look_cons]
      split
      . rename_i e
        subst e
        have hv := hR.tmps t'
        simp only [f1, VR] at hv ⊢
        rcases hv with ⟨hc, _⟩ | ⟨b2, c2, g1, g2, g3, g4, g5⟩
        . cases hc
        rw [e1] at g1
        cases g1
        have := g4 trivial
        exact .inr ⟨f2, b', c', by rw [show h.length = r.length from hR.len.symm]; simp, by omega, by rw [g5]; congr 1; omega⟩
      . exact ih h2
  exact key l hl
end
end Go.Lat
namespace Go.Lat
open Go.RowKit Go.Proofs
attribute [local irreducible] seqL opC
def vc_example  (Post : Req -> Prop) : Prop :=
  Post (Req.mk [(1 : Int)] [(Job.mk 0 [(Ld.mk 0 5)]), (Job.mk 2 [(Ld.mk 0 3)])] (1 : Int) (2 : Int) (2 : Int) [(Ext.mk 0 0 0 1 0 0), (Ext.mk 1 0 1 2 0 0)])
theorem walk_example  {Post : Req -> Prop} (hv : vc_example Post) : FnP Try.prog 30 [] (fun x => ∃ q0, x = .agg ((e26 false) q0) /\ Post q0) := by
 refine FnP.of_walk (T := tt) (nt := 16) ttOk ttMix ⟨⟨Try.f30, Try.func30, rfl, rfl, rfl, rfl⟩⟩ (by simp) ?_
 unfold vc_example at hv
 change W _ _ _ ⟨16, look [], [], 0⟩ _
 refine W.tr [] [] trivial rfl (W.rL (cL rfl (zXy (p := 0) tt26 rfl rfl (eL (W.tr [(0, .ptr _ _)] [.box _ [.nilS, .nilS, .int _ _, .int _ _, .int _ _, .nilS]] ⟨rfl, trivial⟩ rfl (W.rL (cL rfl (o_bs1 (v := .int _ _) (q := 1) tt22 tt3 rfl rfl rfl rfl rfl rfl rfl rfl (cL rfl (o_build (qs := [(1, .int _ _)]) (cs := [.int _ _, .int _ _]) tt60 rfl rfl rfl (cL rfl (o_bs1 (v := .agg _) (q := 2) tt51 tt60 rfl rfl rfl rfl rfl rfl rfl rfl (cL rfl (o_build (qs := [(1, .ref _ _ _)]) (cs := [.int _ _, .ref _ _ _]) tt53 rfl rfl rfl (cL rfl (o_build (qs := [(1, .int _ _)]) (cs := [.int _ _, .int _ _]) tt60 rfl rfl rfl (cL rfl (o_bs1 (v := .agg _) (q := 3) tt51 tt60 rfl rfl rfl rfl rfl rfl rfl rfl (cL rfl (o_build (qs := [(0, .int _ _), (1, .ref _ _ _)]) (cs := [.int _ _, .ref _ _ _]) tt53 rfl rfl rfl (cL rfl (o_buildS (q := 4) (qs := [(0, .agg _), (1, .agg _)]) (cs := [.int _ _, .ref _ _ _, .int _ _, .ref _ _ _]) tt23 tt53 rfl rfl rfl rfl (cL rfl (o_build (qs := [(0, .ref _ _ _), (1, .ref _ _ _), (2, .int _ _), (3, .int _ _), (4, .int _ _)]) (cs := [.ref _ _ _, .ref _ _ _, .int _ _, .int _ _, .int _ _, .nilS]) tt26 rfl rfl rfl (cL rfl (zXy (p := 5) tt26 rfl rfl (cLn (o_stB (v := .agg _) (vs := [.ref _ _ _, .ref _ _ _, .int _ _, .int _ _, .int _ _, .nilS]) (cs2 := [.ref _ _ _, .ref _ _ _, .int _ _, .int _ _, .int _ _, .nilS]) tt26 rfl rfl rfl rfl rfl (Nat.le_of_ble_eq_true rfl) rfl (eL (W.tr [(0, .ptr _ _), (1, .ptr _ _)] [.box _ [.nilS, .nilS, .int _ _, .int _ _, .int _ _, .nilS], .row _ _ _, .row _ _ _, .row _ _ _, .row _ _ _, .box _ [.ref _ _ _, .ref _ _ _, .int _ _, .int _ _, .int _ _, .nilS]] ⟨rfl, rfl, trivial⟩ rfl (W.sealW false 2 4 (bcs := [.int .i64 (0 : Int), .ref false 2 1, .int .i64 (2 : Int), .ref false 3 1]) (bcs' := [.int .i64 (0 : Int), .lst false [(Ld.mk 0 5)].length (zYy e60 [(Ld.mk 0 5)]), .int .i64 (2 : Int), .ref false 3 1]) (l := [(0, .ptr 0 0), (1, .ptr 5 0)]) rfl rfl (encL_sl enc60 false [(Ld.mk 0 5)]) ⟨.inl rfl, .inl rfl, trivial⟩ ⟨.inl rfl, .inr ⟨_, _, rfl, rfl, rfl⟩, .inl rfl, .inl rfl, trivial⟩ rfl rfl (W.sealW false 3 4 (bcs := [.int .i64 (0 : Int), .lst false [(Ld.mk 0 5)].length (zYy e60 [(Ld.mk 0 5)]), .int .i64 (2 : Int), .ref false 3 1]) (bcs' := [.int .i64 (0 : Int), .lst false [(Ld.mk 0 5)].length (zYy e60 [(Ld.mk 0 5)]), .int .i64 (2 : Int), .lst false [(Ld.mk 0 3)].length (zYy e60 [(Ld.mk 0 3)])]) (l := [(0, .ptr 0 0), (1, .ptr 5 0)]) rfl rfl (encL_sl enc60 false [(Ld.mk 0 3)]) ⟨.inl rfl, .inl rfl, trivial⟩ ⟨.inl rfl, .inl rfl, .inl rfl, .inr ⟨_, _, rfl, rfl, rfl⟩, trivial⟩ rfl rfl (W.rL (cL rfl (o_build (qs := [(3, .int _ _)]) (cs := [.int _ _, .int _ _, .int _ _, .int _ _, .int _ _, .int _ _]) tt58 rfl rfl rfl (cL rfl (o_build (qs := [(0, .int _ _), (2, .int _ _), (3, .int _ _)]) (cs := [.int _ _, .int _ _, .int _ _, .int _ _, .int _ _, .int _ _]) tt58 rfl rfl rfl (cL rfl (o_buildS (q := 6) (qs := [(0, .agg _), (1, .agg _)]) (cs := [.int _ _, .int _ _, .int _ _, .int _ _, .int _ _, .int _ _, .int _ _, .int _ _, .int _ _, .int _ _, .int _ _, .int _ _]) tt24 tt58 rfl rfl rfl rfl (cL rfl (o_fa tt26 rfl tt24 rfl ?_)))))))))))))))))))))))))))))))))))))))))
 refine cLn (o_stB (v := .ref _ _ _) (vs := [.ref _ _ _]) (cs2 := [.ref _ _ _, .ref _ _ _, .int _ _, .int _ _, .int _ _, .ref _ _ _]) tt24 rfl rfl rfl rfl rfl (Nat.le_of_ble_eq_true rfl) rfl (eL (W.tr [(0, .ptr _ _), (1, .ptr _ _)] [.box _ [.nilS, .nilS, .int _ _, .int _ _, .int _ _, .nilS], .row _ _ _, .dead, .dead, .row _ _ _, .box _ [.ref _ _ _, .ref _ _ _, .int _ _, .int _ _, .int _ _, .ref _ _ _], .row _ _ _] ⟨rfl, rfl, trivial⟩ rfl (W.rL (cL rfl (zYp (cs := [.ref _ _ _, .ref _ _ _, .int _ _, .int _ _, .int _ _, .ref _ _ _]) tt26 rfl rfl ⟨_, rfl⟩ rfl (cLn (o_stB (v := .agg _) (vs := [.ref _ _ _, .ref _ _ _, .int _ _, .int _ _, .int _ _, .ref _ _ _]) (cs2 := [.ref _ _ _, .ref _ _ _, .int _ _, .int _ _, .int _ _, .ref _ _ _]) tt26 rfl rfl rfl rfl rfl (Nat.le_of_ble_eq_true rfl) rfl (eL (W.tr [(0, .ptr _ _)] [.box _ [.ref _ _ _, .ref _ _ _, .int _ _, .int _ _, .int _ _, .ref _ _ _], .row _ _ _, .dead, .dead, .row _ _ _, .box _ [.ref _ _ _, .ref _ _ _, .int _ _, .int _ _, .int _ _, .ref _ _ _], .row _ _ _] ⟨rfl, trivial⟩ rfl (W.ret (rt (rt_c (x := .ptr _ _) rfl (ldA (cs := [.ref _ _ _, .ref _ _ _, .int _ _, .int _ _, .int _ _, .ref _ _ _]) tt26 rfl ⟨_, rfl⟩ rfl (rt_n (⟨_, rs_agg 5 _ (Wks.cons (rs_ref zZw 3 _ rfl rfl) (Wks.cons (rs_ref enc53 3 _ rfl rfl) (Wks.cons (zY _ _ _ _) (Wks.cons (zY _ _ _ _) (Wks.cons (zY _ _ _ _) (Wks.cons (rs_ref enc58 3 _ rfl rfl) (Wks.refl _))))))), (Req.mk [(1 : Int)] [(Job.mk 0 [(Ld.mk 0 5)]), (Job.mk 2 [(Ld.mk 0 3)])] (1 : Int) (2 : Int) (2 : Int) [(Ext.mk 0 0 0 1 0 0), (Ext.mk 1 0 1 2 0 0)]), rfl, hv⟩))))))))))))))))
set_option maxHeartbeats 2000000 in
theorem vcp_example   : vc_example (fun q0 => q0 = (exR)) := by
  rfl
theorem spec_example   : FnP Try.prog 30 [] (fun xR => xR = .agg ((e26 false) (exR))) :=
  (walk_example (vcp_example)).mono (by rintro _ ⟨_, rfl, rfl⟩; rfl)
def vc_isIn (n : Int) (lo : Int) (hi : Int) (Post : Bool -> Prop) : Prop :=
  Post (decide ((lo <= n) /\ (n <= hi)))
theorem walk_isIn {n : Int} {lo : Int} {hi : Int} {Post : Bool -> Prop} (hv : vc_isIn n lo hi Post) : FnP Try.prog 33 [.int .i64 n, .int .i64 lo, .int .i64 hi] (fun x => ∃ q0, x = .bool q0 /\ Post q0) := by
 refine FnP.of_walk (T := tt) (nt := 15) ttOk ttMix ⟨⟨Try.f33, Try.func33, rfl, rfl, rfl, rfl⟩⟩ (by simp) ?_
 unfold vc_isIn at hv
 change W _ _ _ ⟨15, look [(0, .int .i64 n), (1, .int .i64 lo), (2, .int .i64 hi)], [], 0⟩ _
 refine W.tr [(0, .int _ _), (1, .int _ _), (2, .int _ _)] [] ⟨rfl, rfl, rfl, trivial⟩ rfl (W.rL (aB rfl rfl (eL (W.tr [(0, .int _ _), (1, .int _ _), (2, .int _ _)] [] ⟨rfl, rfl, rfl, trivial⟩ rfl (W.rLm ⟨15, look [(6, .bool (decide ((lo <= n) /\ (n <= hi))))], [], 0⟩ ?_ ?_)))))
 iterate 2 refine mI rfl rfl ?_
 refine cL rfl (o_leq rfl rfl (mB rfl rfl ?_))
 by_cases c1 : lo <= n
 refine cLg rfl rfl (dT c1) (mI rfl rfl (cLg rfl rfl (dT c1) (mI rfl rfl (cLg rfl rfl (dT c1) (cL rfl (o_leq rfl rfl (cL rfl (zZv (v := .bool _) rfl (dT c1) rfl (aB rfl rfl (eL (zYz ⟨(congrArg AV.bool (zXv c1 (rfl))).symm, trivial⟩ rfl)))))))))))
 iterate 3 refine cLs rfl rfl rfl (dF c1) ?_
 refine cL rfl (zZy (v := .bool _) rfl (dF c1) rfl (aB rfl rfl (eL (zYz ⟨(congrArg AV.bool (dAndF c1)).symm, trivial⟩ rfl))))
 refine W.ret (rt (rt_t (v := .bool _) rfl (rt_n (⟨_, zYr _ _ _, (decide ((lo <= n) /\ (n <= hi))), rfl, hv⟩))))
set_option maxHeartbeats 2000000 in
theorem vcp_isIn (n : Int) (lo : Int) (hi : Int)  : vc_isIn n lo hi (fun q0 => q0 = (inM n lo hi)) := by
  unfold vc_isIn
  unfold inM
  rfl
theorem spec_isIn (n : Int) (lo : Int) (hi : Int)  : FnP Try.prog 33 [.int .i64 n, .int .i64 lo, .int .i64 hi] (fun xR => xR = .bool (inM n lo hi)) :=
  (walk_isIn (vcp_isIn n lo hi)).mono (by rintro _ ⟨_, rfl, rfl⟩; rfl)
def vc_inr (n : Int) (lo : Int) (hi : Int) (Post : Bool -> Prop) : Prop :=
  Post (decide ((lo <= n) /\ (n <= hi)))
theorem walk_inr {n : Int} {lo : Int} {hi : Int} {Post : Bool -> Prop} (hv : vc_inr n lo hi Post) : FnP Try.prog 47 [.int .i64 n, .int .i64 lo, .int .i64 hi] (fun x => ∃ q0, x = .bool q0 /\ Post q0) := by
 refine FnP.of_walk (T := tt) (nt := 15) ttOk ttMix ⟨⟨Try.f47, Try.func47, rfl, rfl, rfl, rfl⟩⟩ (by simp) ?_
 unfold vc_inr at hv
 change W _ _ _ ⟨15, look [(0, .int .i64 n), (1, .int .i64 lo), (2, .int .i64 hi)], [], 0⟩ _
 refine W.tr [(0, .int _ _), (1, .int _ _), (2, .int _ _)] [] ⟨rfl, rfl, rfl, trivial⟩ rfl (W.rL (aB rfl rfl (eL (W.tr [(0, .int _ _), (1, .int _ _), (2, .int _ _)] [] ⟨rfl, rfl, rfl, trivial⟩ rfl (W.rLm ⟨15, look [(6, .bool (decide ((lo <= n) /\ (n <= hi))))], [], 0⟩ ?_ ?_)))))
 iterate 2 refine mI rfl rfl ?_
 refine cL rfl (o_geq rfl rfl (mB rfl rfl ?_))
 by_cases c1 : lo <= n
 refine cLg rfl rfl (dT c1) (mI rfl rfl (cLg rfl rfl (dT c1) (mI rfl rfl (cLg rfl rfl (dT c1) (cL rfl (o_leq rfl rfl (cL rfl (zZv (v := .bool _) rfl (dT c1) rfl (aB rfl rfl (eL (zYz ⟨(congrArg AV.bool (zXv c1 (rfl))).symm, trivial⟩ rfl)))))))))))
 iterate 3 refine cLs rfl rfl rfl (dF c1) ?_
 refine cL rfl (zZy (v := .bool _) rfl (dF c1) rfl (aB rfl rfl (eL (zYz ⟨(congrArg AV.bool (dAndF c1)).symm, trivial⟩ rfl))))
 refine W.ret (rt (rt_t (v := .bool _) rfl (rt_n (⟨_, zYr _ _ _, (decide ((lo <= n) /\ (n <= hi))), rfl, hv⟩))))
set_option maxHeartbeats 2000000 in
theorem vcp_inr (n : Int) (lo : Int) (hi : Int)  : vc_inr n lo hi (fun q0 => q0 = (inM n lo hi)) := by
  unfold vc_inr
  unfold inM
  rfl
theorem spec_inr (n : Int) (lo : Int) (hi : Int)  : FnP Try.prog 47 [.int .i64 n, .int .i64 lo, .int .i64 hi] (fun xR => xR = .bool (inM n lo hi)) :=
  (walk_inr (vcp_inr n lo hi)).mono (by rintro _ ⟨_, rfl, rfl⟩; rfl)
def vc_mvalid (sv : (List Int)) (jobs : (List Job)) (Post : Bool -> Prop) : Prop :=
  (((¬ ((inM ((sv.length : Nat) : Int) (1 : Int) (6 : Int)) = true)) \/ ((24 : Int) < ((jobs.length : Nat) : Int))) -> Post false) /\ (¬ ((¬ ((inM ((sv.length : Nat) : Int) (1 : Int) (6 : Int)) = true)) \/ ((24 : Int) < ((jobs.length : Nat) : Int))) -> ∃ (I1 : Int -> Prop) (μ1 : Int -> Nat), I1 (0 : Int) /\ ∀ (v22 : Int), I1 v22 -> ((v22 < ((sv.length : Nat) : Int)) -> (0 <= v22 /\ v22 < (sv.length : Int)) /\ ((¬ ((inM (lat sv v22) (1 : Int) (4 : Int)) = true)) -> Post false) /\ (¬ (¬ ((inM (lat sv v22) (1 : Int) (4 : Int)) = true)) -> (inI (v22 + (1 : Int))) /\ (I1 (v22 + (1 : Int)) /\ μ1 (v22 + (1 : Int)) < μ1 v22))) /\ (¬ (v22 < ((sv.length : Nat) : Int)) -> ∃ (I2 : Int -> Prop) (μ2 : Int -> Nat), I2 (0 : Int) /\ ∀ (v32 : Int), I2 v32 -> ((v32 < ((jobs.length : Nat) : Int)) -> (0 <= v32 /\ v32 < (jobs.length : Int)) /\ (((¬ ((inM ((lat jobs v32).ar) (0 : Int) (4398046511104 : Int)) = true)) \/ ((6 : Int) < ((((lat jobs v32).wk).length : Nat) : Int))) -> Post false) /\ (¬ ((¬ ((inM ((lat jobs v32).ar) (0 : Int) (4398046511104 : Int)) = true)) \/ ((6 : Int) < ((((lat jobs v32).wk).length : Nat) : Int))) -> ∃ (I3 : Int -> Prop) (μ3 : Int -> Nat), I3 (0 : Int) /\ ∀ (v49 : Int), I3 v49 -> ((v49 < ((((lat jobs v32).wk).length : Nat) : Int)) -> (0 <= v49 /\ v49 < (((lat jobs v32).wk).length : Int)) /\ ((inI (((sv.length : Nat) : Int) - (1 : Int))) /\ True) /\ ((((¬ ((inM ((lat ((lat jobs v32).wk) v49).st) (0 : Int) (((sv.length : Nat) : Int) - (1 : Int))) = true)) \/ (¬ ((inM ((lat ((lat jobs v32).wk) v49).tm) (0 : Int) (1099511627776 : Int)) = true))) -> Post false) /\ (¬ ((¬ ((inM ((lat ((lat jobs v32).wk) v49).st) (0 : Int) (((sv.length : Nat) : Int) - (1 : Int))) = true)) \/ (¬ ((inM ((lat ((lat jobs v32).wk) v49).tm) (0 : Int) (1099511627776 : Int)) = true))) -> (inI (v49 + (1 : Int))) /\ (I3 (v49 + (1 : Int)) /\ μ3 (v49 + (1 : Int)) < μ3 v49)))) /\ (¬ (v49 < ((((lat jobs v32).wk).length : Nat) : Int)) -> (inI (v32 + (1 : Int))) /\ (I2 (v32 + (1 : Int)) /\ μ2 (v32 + (1 : Int)) < μ2 v32)))) /\ (¬ (v32 < ((jobs.length : Nat) : Int)) -> Post true)))
theorem walk_mvalid {sv : (List Int)} {jobs : (List Job)} {Post : Bool -> Prop} (hv : vc_mvalid sv jobs Post) : FnP Try.prog 32 [.lst true sv.length (zYy zYx sv), .lst true jobs.length (zYy (e53 true) jobs)] (fun x => ∃ q0, x = .bool q0 /\ Post q0) := by
 refine FnP.of_walk (T := tt) (nt := 68) ttOk ttMix ⟨⟨Try.f32, Try.func32, rfl, rfl, rfl, rfl⟩⟩ (by simp) ?_
 unfold vc_mvalid at hv
 change W _ _ _ ⟨68, look [(0, .lst true sv.length (zYy zYx sv)), (1, .lst true jobs.length (zYy (e53 true) jobs))], [], 0⟩ _
 refine W.tr [(0, .lst _ _ _), (1, .lst _ _ _)] [] ⟨rfl, rfl, trivial⟩ rfl (W.rL (aB rfl rfl (eL (W.tr [(0, .lst _ _ _), (1, .lst _ _ _)] [] ⟨rfl, rfl, trivial⟩ rfl (W.seq' (W.rLm ⟨68, look [(0, .lst true sv.length (zYy zYx sv)), (1, .lst true jobs.length (zYy (e53 true) jobs)), (19, .bool (decide ((¬ ((inM ((sv.length : Nat) : Int) (1 : Int) (6 : Int)) = true)) \/ ((24 : Int) < ((jobs.length : Nat) : Int)))))], [], 0⟩ ?_ ?_))))))
 refine mL rfl rfl (cL rfl (zXw (v := .lst _ _ _) tt22 rfl rfl (cL rfl (zZu (k := 47) (fst := []) (caps := []) (ys := [.int _ _, .int _ _, .int _ _]) rfl rfl (spec_inr ((sv.length : Nat) : Int) (1 : Int) (6 : Int)) (Wks.cons (zZz _ _ _ _) (Wks.cons (zZz _ _ _ _) (Wks.cons (zZz _ _ _ _) (Wks.refl _)))) (cL rfl (o_notB rfl (mB rfl rfl ?_)))))))
 by_cases c1 : ¬ ((inM ((sv.length : Nat) : Int) (1 : Int) (6 : Int)) = true)
 iterate 3 refine cLs rfl rfl rfl (dT c1) ?_
 refine cL rfl (zZv (v := .bool _) rfl (dT c1) rfl (eL (zYz ⟨rfl, rfl, (congrArg AV.bool (dOrT c1)).symm, trivial⟩ rfl)))
 refine cLg rfl rfl (dF c1) (mL rfl rfl (cLg rfl rfl (dF c1) (cL rfl (zXw (v := .lst _ _ _) tt23 rfl rfl (cLg rfl rfl (dF c1) (cL rfl (o_gtr rfl rfl (cL rfl (zZy (v := .bool _) rfl (dF c1) rfl (eL (zYz ⟨rfl, rfl, (congrArg AV.bool (dOrF c1 (rfl))).symm, trivial⟩ rfl)))))))))))
 refine W.cn rfl (fun hc => ?_) (fun hc => ?_)
 have hv := hv.1 hc
 refine W.rL (aB rfl rfl (eL (W.tr [(4, .bool _)] [] ⟨rfl, trivial⟩ rfl (W.ret (zZr (rt (rt_t (v := .bool _) rfl (rt_n (⟨_, zYr _ _ _, false, rfl, hv⟩)))))))))
 have hv := hv.2 hc
 refine W.skip (zZ (W.tr [(0, .lst _ _ _), (1, .lst _ _ _)] [] ⟨rfl, rfl, trivial⟩ rfl (W.seq' (W.rL (mL rfl rfl (cL rfl (zXw (v := .lst _ _ _) tt22 rfl rfl (mI rfl rfl (eL (W.tr [(0, .lst _ _ _), (1, .lst _ _ _), (20, .lst _ _ _), (21, .int _ _), (22, .int _ _)] [] ⟨rfl, rfl, rfl, rfl, rfl, trivial⟩ rfl (W.block ?_)))))))))))
 obtain ⟨I1, μ1, hp, hv⟩ := hv
 refine W.loop1 (fun v22 => ⟨68, look [(0, .lst true sv.length (zYy zYx sv)), (1, .lst true jobs.length (zYy (e53 true) jobs)), (20, .lst true sv.length (zYy zYx sv)), (21, .int .i64 ((sv.length : Nat) : Int)), (22, .int .i64 v22)], [], 0⟩) I1 μ1 (0 : Int) (St.to_mk (φ := []) rfl (rfl) ⟨Ren.lst _ _ _, Ren.lst _ _ _, Ren.lst _ _ _, Ren.int _ _, Ren.int _ _, trivial⟩ trivial) hp ?_
 clear hp
 intro v22 hI
 replace hv := hv v22 hI
 clear hI
 refine W.rL (cL rfl (zYq rfl rfl (eL (W.tr [(0, .lst _ _ _), (1, .lst _ _ _), (20, .lst _ _ _), (21, .int _ _), (22, .int _ _), (23, .bool _)] [] ⟨rfl, rfl, rfl, rfl, rfl, rfl, trivial⟩ rfl (W.seq' (W.cn rfl (fun hc => ?_) (fun hc => ?_)))))))
 have hv := hv.1 hc
 refine W.skip (zZ (W.tr [(0, .lst _ _ _), (1, .lst _ _ _), (20, .lst _ _ _), (21, .int _ _), (22, .int _ _)] [] ⟨rfl, rfl, rfl, rfl, rfl, trivial⟩ rfl (W.seq' (W.block (W.rL ?_)))))
 obtain ⟨s11, hv⟩ := hv
 refine cL rfl (zYu tt22 tt3 rfl rfl (zZw.wd true) rfl s11 ?_)
 intro rest11
 refine cL rfl (zZx (v := .int _ _) tt3 rfl rfl ⟨_, rfl⟩ (aI rfl rfl (eL (W.tr [(0, .lst _ _ _), (1, .lst _ _ _), (6, .int _ _), (20, .lst _ _ _), (21, .int _ _), (22, .int _ _)] [] ⟨rfl, rfl, rfl, rfl, rfl, rfl, trivial⟩ rfl (W.rL (mI rfl rfl (cL rfl (zZu (k := 47) (fst := []) (caps := []) (ys := [.int _ _, .int _ _, .int _ _]) rfl rfl (spec_inr (lat sv v22) (1 : Int) (4 : Int)) (Wks.cons (zZz _ _ _ _) (Wks.cons (zZz _ _ _ _) (Wks.cons (zZz _ _ _ _) (Wks.refl _)))) (cL rfl (o_notB rfl (eL (W.tr [(0, .lst _ _ _), (1, .lst _ _ _), (20, .lst _ _ _), (21, .int _ _), (22, .int _ _), (28, .bool _)] [] ⟨rfl, rfl, rfl, rfl, rfl, rfl, trivial⟩ rfl (W.cn rfl (fun hc => ?_) (fun hc => ?_))))))))))))))
 have hv := hv.1 hc
 refine W.rL (aB rfl rfl (eL (W.tr [(4, .bool _)] [] ⟨rfl, trivial⟩ rfl (W.ret (zYt (zZr (zZr (zYt (zZr (rt (rt_t (v := .bool _) rfl (rt_n (⟨_, zYr _ _ _, false, rfl, hv⟩)))))))))))))
 have hv := hv.2 hc
 refine W.skip (zYv (zZ (W.tr [(0, .lst _ _ _), (1, .lst _ _ _), (20, .lst _ _ _), (21, .int _ _), (22, .int _ _)] [] ⟨rfl, rfl, rfl, rfl, rfl, trivial⟩ rfl (W.rL1 ?_))))
 obtain ⟨s12, hv⟩ := hv
 refine cL rfl (o_add rfl rfl s12 (mI rfl rfl (eL (zZ (⟨(), (v22 + (1 : Int)), hv, St.to_mk (φ := []) rfl (rfl) ⟨Ren.lst _ _ _, Ren.lst _ _ _, Ren.lst _ _ _, Ren.int _ _, Ren.int _ _, trivial⟩ trivial⟩)))))
 have hv := hv.2 hc
 refine W.exit (zZt (zZt (zYs (zZ (W.tr [(0, .lst _ _ _), (1, .lst _ _ _)] [] ⟨rfl, rfl, trivial⟩ rfl (W.seq' (W.rL (mL rfl rfl (cL rfl (zXw (v := .lst _ _ _) tt23 rfl rfl (mI rfl rfl (eL (W.tr [(0, .lst _ _ _), (30, .lst _ _ _), (31, .int _ _), (32, .int _ _)] [] ⟨rfl, rfl, rfl, rfl, trivial⟩ rfl (W.block ?_))))))))))))))
 obtain ⟨I2, μ2, hp, hv⟩ := hv
 refine W.loop1 (fun v32 => ⟨68, look [(0, .lst true sv.length (zYy zYx sv)), (30, .lst true jobs.length (zYy (e53 true) jobs)), (31, .int .i64 ((jobs.length : Nat) : Int)), (32, .int .i64 v32)], [], 0⟩) I2 μ2 (0 : Int) (St.to_mk (φ := []) rfl (rfl) ⟨Ren.lst _ _ _, Ren.lst _ _ _, Ren.int _ _, Ren.int _ _, trivial⟩ trivial) hp ?_
 clear hp
 intro v32 hI
 replace hv := hv v32 hI
 clear hI
 refine W.rL (cL rfl (zYq rfl rfl (eL (W.tr [(0, .lst _ _ _), (30, .lst _ _ _), (31, .int _ _), (32, .int _ _), (33, .bool _)] [] ⟨rfl, rfl, rfl, rfl, rfl, trivial⟩ rfl (W.seq' (W.cn rfl (fun hc => ?_) (fun hc => ?_)))))))
 have hv := hv.1 hc
 refine W.skip (zZ (W.tr [(0, .lst _ _ _), (30, .lst _ _ _), (31, .int _ _), (32, .int _ _)] [] ⟨rfl, rfl, rfl, rfl, trivial⟩ rfl (W.seq' (W.block (W.rL ?_)))))
 obtain ⟨s121, hv⟩ := hv
 refine cL rfl (zYu tt23 tt53 rfl rfl (enc53.wd true) rfl s121 ?_)
 intro rest121
 refine cL rfl (zYp (cs := [.int _ _, .lst _ _ _]) tt53 rfl rfl ⟨_, rfl⟩ rfl (cL rfl (zXy (p := 0) tt53 rfl rfl (cLn (o_stB (v := .agg _) (vs := [.int _ _, .lst _ _ _]) (cs2 := [.int _ _, .lst _ _ _]) tt53 rfl rfl rfl rfl rfl (Nat.le_of_ble_eq_true rfl) rfl (eL (W.tr [(0, .lst _ _ _), (8, .ptr _ _), (30, .lst _ _ _), (31, .int _ _), (32, .int _ _)] [.box _ [.int _ _, .lst _ _ _]] ⟨rfl, rfl, rfl, rfl, rfl, trivial⟩ rfl (W.seq' (W.rLm ⟨68, look [(0, .lst true sv.length (zYy zYx sv)), (8, .ptr 0 0), (30, .lst true jobs.length (zYy (e53 true) jobs)), (31, .int .i64 ((jobs.length : Nat) : Int)), (32, .int .i64 v32), (45, .bool (decide ((¬ ((inM ((lat jobs v32).ar) (0 : Int) (4398046511104 : Int)) = true)) \/ ((6 : Int) < ((((lat jobs v32).wk).length : Nat) : Int)))))], [.box 53 [.int .i64 ((lat jobs v32).ar), .lst true ((lat jobs v32).wk).length (zYy e60 ((lat jobs v32).wk))]], 0⟩ ?_ ?_)))))))))
 refine cL rfl (o_fa tt53 rfl tt3 rfl (cL rfl (zZx (v := .int _ _) tt3 rfl rfl ⟨_, rfl⟩ (cL rfl (zZu (k := 47) (fst := []) (caps := []) (ys := [.int _ _, .int _ _, .int _ _]) rfl rfl (spec_inr ((lat jobs v32).ar) (0 : Int) (4398046511104 : Int)) (Wks.cons (zZz _ _ _ _) (Wks.cons (zZz _ _ _ _) (Wks.cons (zZz _ _ _ _) (Wks.refl _)))) (cL rfl (o_notB rfl (mB rfl rfl ?_))))))))
 by_cases c1 : ¬ ((inM ((lat jobs v32).ar) (0 : Int) (4398046511104 : Int)) = true)
 iterate 4 refine cLs rfl rfl rfl (dT c1) ?_
 refine cL rfl (zZv (v := .bool _) rfl (dT c1) rfl (eL (zYz ⟨rfl, rfl, rfl, rfl, rfl, (congrArg AV.bool (dOrT c1)).symm, trivial⟩ rfl)))
 refine cLg rfl rfl (dF c1) (cL rfl (o_fa tt53 rfl tt51 rfl (cLg rfl rfl (dF c1) (cL rfl (zZx (v := .lst _ _ _) tt51 rfl rfl ⟨_, rfl⟩ (cLg rfl rfl (dF c1) (cL rfl (zXw (v := .lst _ _ _) tt51 rfl rfl (cLg rfl rfl (dF c1) (cL rfl (o_gtr rfl rfl (cL rfl (zZy (v := .bool _) rfl (dF c1) rfl (eL (zYz ⟨rfl, rfl, rfl, rfl, rfl, (congrArg AV.bool (dOrF c1 (rfl))).symm, trivial⟩ rfl)))))))))))))))
 refine W.cn rfl (fun hc => ?_) (fun hc => ?_)
 have hv := hv.1 hc
 refine W.rL (aB rfl rfl (eL (W.tr [(4, .bool _)] [.box _ [.int _ _, .lst _ _ _]] ⟨rfl, trivial⟩ rfl (W.ret (zZr (zYt (zZr (zZr (zYt (zZr (rt (rt_t (v := .bool _) rfl (rt_n (⟨_, zYr _ _ _, false, rfl, hv⟩))))))))))))))
 have hv := hv.2 hc
 refine W.skip (zZ (W.tr [(0, .lst _ _ _), (8, .ptr _ _), (30, .lst _ _ _), (31, .int _ _), (32, .int _ _)] [.box _ [.int _ _, .lst _ _ _]] ⟨rfl, rfl, rfl, rfl, rfl, trivial⟩ rfl (W.rL (cL rfl (o_fa tt53 rfl tt51 rfl (cL rfl (zZx (v := .lst _ _ _) tt51 rfl rfl ⟨_, rfl⟩ (cL rfl (zXw (v := .lst _ _ _) tt51 rfl rfl (mI rfl rfl (eL (W.tr [(0, .lst _ _ _), (30, .lst _ _ _), (31, .int _ _), (32, .int _ _), (47, .lst _ _ _), (48, .int _ _), (49, .int _ _)] [.box _ [.int _ _, .lst _ _ _]] ⟨rfl, rfl, rfl, rfl, rfl, rfl, rfl, trivial⟩ rfl (W.block ?_)))))))))))))
 obtain ⟨I3, μ3, hp, hv⟩ := hv
 refine W.loop1 (fun v49 => ⟨68, look [(0, .lst true sv.length (zYy zYx sv)), (30, .lst true jobs.length (zYy (e53 true) jobs)), (31, .int .i64 ((jobs.length : Nat) : Int)), (32, .int .i64 v32), (47, .lst true ((lat jobs v32).wk).length (zYy e60 ((lat jobs v32).wk))), (48, .int .i64 ((((lat jobs v32).wk).length : Nat) : Int)), (49, .int .i64 v49)], [.dead], 0⟩) I3 μ3 (0 : Int) (St.to_mk (φ := [none]) rfl (rfl) ⟨Ren.lst _ _ _, Ren.lst _ _ _, Ren.int _ _, Ren.int _ _, Ren.lst _ _ _, Ren.int _ _, Ren.int _ _, trivial⟩ ⟨rfl, trivial⟩) hp ?_
 clear hp
 intro v49 hI
 replace hv := hv v49 hI
 clear hI
 refine W.rL (cL rfl (zYq rfl rfl (eL (W.tr [(0, .lst _ _ _), (30, .lst _ _ _), (31, .int _ _), (32, .int _ _), (47, .lst _ _ _), (48, .int _ _), (49, .int _ _), (50, .bool _)] [.dead] ⟨rfl, rfl, rfl, rfl, rfl, rfl, rfl, rfl, trivial⟩ rfl (W.seq' (W.cn rfl (fun hc => ?_) (fun hc => ?_)))))))
 have hv := hv.1 hc
 refine W.skip (zZ (W.tr [(0, .lst _ _ _), (30, .lst _ _ _), (31, .int _ _), (32, .int _ _), (47, .lst _ _ _), (48, .int _ _), (49, .int _ _)] [.dead] ⟨rfl, rfl, rfl, rfl, rfl, rfl, rfl, trivial⟩ rfl (W.seq' (W.block (W.rL ?_)))))
 obtain ⟨s132, hv⟩ := hv
 refine cL rfl (zYu tt51 tt60 rfl rfl (enc60.wd true) rfl s132 ?_)
 intro rest132
 refine cL rfl (zYp (cs := [.int _ _, .int _ _]) tt60 rfl rfl ⟨_, rfl⟩ rfl (cL rfl (zXy (p := 1) tt60 rfl rfl (cLn (o_stB (v := .agg _) (vs := [.int _ _, .int _ _]) (cs2 := [.int _ _, .int _ _]) tt60 rfl rfl rfl rfl rfl (Nat.le_of_ble_eq_true rfl) rfl (eL (W.tr [(0, .lst _ _ _), (10, .ptr _ _), (30, .lst _ _ _), (31, .int _ _), (32, .int _ _), (47, .lst _ _ _), (48, .int _ _), (49, .int _ _)] [.dead, .box _ [.int _ _, .int _ _]] ⟨rfl, rfl, rfl, rfl, rfl, rfl, rfl, rfl, trivial⟩ rfl ?_)))))))
 obtain ⟨sd, hv⟩ := hv
 refine W.rLm ⟨68, look [(0, .lst true sv.length (zYy zYx sv)), (30, .lst true jobs.length (zYy (e53 true) jobs)), (31, .int .i64 ((jobs.length : Nat) : Int)), (32, .int .i64 v32), (47, .lst true ((lat jobs v32).wk).length (zYy e60 ((lat jobs v32).wk))), (48, .int .i64 ((((lat jobs v32).wk).length : Nat) : Int)), (49, .int .i64 v49), (65, .bool (decide ((¬ ((inM ((lat ((lat jobs v32).wk) v49).st) (0 : Int) (((sv.length : Nat) : Int) - (1 : Int))) = true)) \/ (¬ ((inM ((lat ((lat jobs v32).wk) v49).tm) (0 : Int) (1099511627776 : Int)) = true)))))], [.dead, .box 60 [.int .i64 ((lat ((lat jobs v32).wk) v49).st), .int .i64 ((lat ((lat jobs v32).wk) v49).tm)]], 0⟩ ?_ ?_
 refine cL rfl (o_fa tt60 rfl tt3 rfl (cL rfl (zZx (v := .int _ _) tt3 rfl rfl ⟨_, rfl⟩ (mL rfl rfl (cL rfl (zXw (v := .lst _ _ _) tt22 rfl rfl ?_))))))
 obtain ⟨s134, sd⟩ := sd
 refine cL rfl (o_sub rfl rfl s134 (cL rfl (zZu (k := 47) (fst := []) (caps := []) (ys := [.int _ _, .int _ _, .int _ _]) rfl rfl (spec_inr ((lat ((lat jobs v32).wk) v49).st) (0 : Int) (((sv.length : Nat) : Int) - (1 : Int))) (Wks.cons (zZz _ _ _ _) (Wks.cons (zZz _ _ _ _) (Wks.cons (zZz _ _ _ _) (Wks.refl _)))) (cL rfl (o_notB rfl (mB rfl rfl ?_))))))
 by_cases c1 : ¬ ((inM ((lat ((lat jobs v32).wk) v49).st) (0 : Int) (((sv.length : Nat) : Int) - (1 : Int))) = true)
 iterate 4 refine cLs rfl rfl rfl (dT c1) ?_
 refine cL rfl (zZv (v := .bool _) rfl (dT c1) rfl (eL (zYz ⟨rfl, rfl, rfl, rfl, rfl, rfl, rfl, (congrArg AV.bool (dOrT c1)).symm, trivial⟩ rfl)))
 refine cLg rfl rfl (dF c1) (cL rfl (o_fa tt60 rfl tt3 rfl (cLg rfl rfl (dF c1) (cL rfl (zZx (v := .int _ _) tt3 rfl rfl ⟨_, rfl⟩ (cLg rfl rfl (dF c1) (cL rfl (zZu (k := 47) (fst := []) (caps := []) (ys := [.int _ _, .int _ _, .int _ _]) rfl rfl (spec_inr ((lat ((lat jobs v32).wk) v49).tm) (0 : Int) (1099511627776 : Int)) (Wks.cons (zZz _ _ _ _) (Wks.cons (zZz _ _ _ _) (Wks.cons (zZz _ _ _ _) (Wks.refl _)))) (cLg rfl rfl (dF c1) (cL rfl (o_notB rfl (cL rfl (zZy (v := .bool _) rfl (dF c1) rfl (eL (zYz ⟨rfl, rfl, rfl, rfl, rfl, rfl, rfl, (congrArg AV.bool (dOrF c1 (rfl))).symm, trivial⟩ rfl)))))))))))))))
 refine W.cn rfl (fun hc => ?_) (fun hc => ?_)
 have hv := hv.1 hc
 refine W.rL (aB rfl rfl (eL (W.tr [(4, .bool _)] [.dead, .box _ [.int _ _, .int _ _]] ⟨rfl, trivial⟩ rfl (W.ret (zYt (zZr (zZr (zYt (zYt (zZr (zZr (zYt (zZr (rt (rt_t (v := .bool _) rfl (rt_n (⟨_, zYr _ _ _, false, rfl, hv⟩)))))))))))))))))
 have hv := hv.2 hc
 refine W.skip (zYv (zZ (W.tr [(0, .lst _ _ _), (30, .lst _ _ _), (31, .int _ _), (32, .int _ _), (47, .lst _ _ _), (48, .int _ _), (49, .int _ _)] [.dead, .box _ [.int _ _, .int _ _]] ⟨rfl, rfl, rfl, rfl, rfl, rfl, rfl, trivial⟩ rfl (W.rL1 ?_))))
 obtain ⟨s135, hv⟩ := hv
 refine cL rfl (o_add rfl rfl s135 (mI rfl rfl (eL (zZ (⟨(), (v49 + (1 : Int)), hv, St.to_mk (φ := [none]) rfl (rfl) ⟨Ren.lst _ _ _, Ren.lst _ _ _, Ren.int _ _, Ren.int _ _, Ren.lst _ _ _, Ren.int _ _, Ren.int _ _, trivial⟩ ⟨rfl, trivial⟩⟩)))))
 have hv := hv.2 hc
 refine W.exit (zZt (zZt (zYs (zYv (zZ (W.tr [(0, .lst _ _ _), (30, .lst _ _ _), (31, .int _ _), (32, .int _ _)] [.dead] ⟨rfl, rfl, rfl, rfl, trivial⟩ rfl (W.rL1 ?_)))))))
 obtain ⟨s136, hv⟩ := hv
 refine cL rfl (o_add rfl rfl s136 (mI rfl rfl (eL (zZ (⟨(), (v32 + (1 : Int)), hv, St.to_mk (φ := []) rfl (rfl) ⟨Ren.lst _ _ _, Ren.lst _ _ _, Ren.int _ _, Ren.int _ _, trivial⟩ trivial⟩)))))
 have hv := hv.2 hc
 refine W.exit (zZt (zZt (zYs (zZ (W.tr [] [] trivial rfl (W.rL (aB rfl rfl (eL (W.tr [(4, .bool _)] [] ⟨rfl, trivial⟩ rfl (W.ret (rt (rt_t (v := .bool _) rfl (rt_n (⟨_, zYr _ _ _, true, rfl, hv⟩))))))))))))))
set_option maxHeartbeats 2000000 in
theorem vcp_mvalid (sv : (List Int)) (jobs : (List Job)) (h0 : sv.length <= 9223372036854775807) (h1 : ∀ j ∈ jobs, j.wk.length <= 9223372036854775807) (h2 : jobs.length <= 9223372036854775807) : vc_mvalid sv jobs (fun q0 => q0 = (validJ sv jobs)) := by
  unfold vc_mvalid
  have e1 : ∀ n lo hi : Int, (inM n lo hi = true) = (lo <= n /\ n <= hi) := fun n lo hi => by unfold inM; simp
  simp only [e1]
  have bad : ∀ {q : Prop}, (validJ sv jobs = true -> q) -> ¬ q -> false = validJ sv jobs := fun h k => by
    rcases hv : validJ sv jobs with _ | _
    . rfl
    . exact absurd (h hv) k
  refine ⟨fun k => bad (fun h => (job_ok h).1) (by omega), fun k => ?_⟩
  refine ⟨fun v => ∃ i : Nat, v = i /\ i <= sv.length /\ ∀ a : Nat, a < i -> 1 <= lat sv a /\ lat sv a <= 4, fun v => sv.length - v.toNat, ⟨0, rfl, by omega, fun a ha => by omega⟩, ?_⟩
  rintro _ ⟨i, rfl, hi, hs⟩
  refine ⟨fun k1 => ⟨⟨by omega, k1⟩, fun k2 => bad (fun h => (job_ok h).2.1 _ (lat_mem (xs := sv) (i := (i : Int)) ⟨by omega, k1⟩)) k2, fun k2 => ⟨by unfold inI; omega, ⟨i + 1, by omega, by omega, fun a ha => ?_⟩, dec_lt k1⟩⟩, fun k1 => ?_⟩
  . rcases Nat.lt_or_ge a i with h | h
    . exact hs a h
    . rw [show a = i by omega]; exact Decidable.not_not.1 k2
  have hsv : ∀ n ∈ sv, 1 <= n /\ n <= 4 := fun n hn => by
    obtain ⟨a, ha, rfl⟩ := List.mem_iff_getElem.1 hn
    have := hs a (by omega)
    rwa [lat_get ha] at this
  refine ⟨fun v => ∃ i : Nat, v = i /\ i <= jobs.length /\ ∀ a : Nat, a < i -> jobOk sv.length (lat jobs a) = true, fun v => jobs.length - v.toNat, ⟨0, rfl, by omega, fun a ha => by omega⟩, ?_⟩
  rintro _ ⟨j, rfl, hj, hjs⟩
  refine ⟨fun k2 => ⟨⟨by omega, k2⟩, fun k3 => bad (fun h => ((job_ok h).2.2 _ (lat_mem (xs := jobs) (i := (j : Int)) ⟨by omega, k2⟩)).1) (by omega), fun k3 => ?_⟩, fun k2 => ?_⟩
  . have hmem : lat jobs (j : Int) ∈ jobs := lat_mem ⟨by omega, k2⟩
    refine ⟨fun v => ∃ i : Nat, v = i /\ i <= (lat jobs (j : Int)).wk.length /\ ∀ a : Nat, a < i -> 0 <= (lat (lat jobs (j : Int)).wk a).st /\ (lat (lat jobs (j : Int)).wk a).st <= (sv.length : Int) - 1 /\ 0 <= (lat (lat jobs (j : Int)).wk a).tm /\ (lat (lat jobs (j : Int)).wk a).tm <= 1099511627776, fun v => (lat jobs (j : Int)).wk.length - v.toNat, ⟨0, rfl, by omega, fun a ha => by omega⟩, ?_⟩
    rintro _ ⟨q, rfl, hq, hqs⟩
    refine ⟨fun k4 => ⟨⟨by omega, k4⟩, ⟨by unfold inI; omega, trivial⟩, fun k5 => bad (fun h => ((job_ok h).2.2 _ hmem).2 _ (lat_mem (xs := (lat jobs (j : Int)).wk) (i := (q : Int)) ⟨by omega, k4⟩)) (by omega), fun k5 => ⟨by unfold inI; have := h1 _ hmem; omega, ⟨q + 1, by omega, by omega, fun a ha => ?_⟩, dec_lt k4⟩⟩, fun k4 => ⟨by unfold inI; omega, ⟨j + 1, by omega, by omega, fun a ha => ?_⟩, dec_lt k2⟩⟩
    . rcases Nat.lt_or_ge a q with h | h
      . exact hqs a h
      . rw [show a = q by omega]; omega
    . rcases Nat.lt_or_ge a j with h | h
      . exact hjs a h
      . rw [show a = j by omega]
        unfold jobOk
        rw [Bool.and_eq_true, decide_eq_true_eq, List.all_eq_true]
        refine ⟨by omega, fun w hw => ?_⟩
        obtain ⟨b, hb, rfl⟩ := List.mem_iff_getElem.1 hw
        have := hqs b (by omega)
        rw [lat_get hb] at this
        exact decide_eq_true this
  . show true = validJ sv jobs
    unfold validJ
    symm
    rw [Bool.and_eq_true, Bool.and_eq_true, decide_eq_true_eq, List.all_eq_true, List.all_eq_true]
    refine ⟨⟨by omega, fun n hn => decide_eq_true (hsv n hn)⟩, fun x hx => ?_⟩
    obtain ⟨b, hb, rfl⟩ := List.mem_iff_getElem.1 hx
    have := hjs b (by omega)
    rwa [lat_get hb] at this
theorem spec_mvalid (sv : (List Int)) (jobs : (List Job)) (h0 : sv.length <= 9223372036854775807) (h1 : ∀ j ∈ jobs, j.wk.length <= 9223372036854775807) (h2 : jobs.length <= 9223372036854775807) : FnP Try.prog 32 [.lst true sv.length (zYy zYx sv), .lst true jobs.length (zYy (e53 true) jobs)] (fun xR => xR = .bool (validJ sv jobs)) :=
  (walk_mvalid (vcp_mvalid sv jobs h0 h1 h2)).mono (by rintro _ ⟨_, rfl, rfl⟩; rfl)
def vc_isNaN (n : Int) (Post : Bool -> Prop) : Prop :=
  Post (decide (¬ n = n))
theorem walk_isNaN {n : Int} {Post : Bool -> Prop} (hv : vc_isNaN n Post) : FnP Try.prog 53 [.int .i64 n] (fun x => ∃ q0, x = .bool q0 /\ Post q0) := by
 refine FnP.of_walk (T := tt) (nt := 6) ttOk ttMix ⟨⟨Try.f53, Try.func53, rfl, rfl, rfl, rfl⟩⟩ (by simp) ?_
 unfold vc_isNaN at hv
 change W _ _ _ ⟨6, look [(0, .int .i64 n)], [], 0⟩ _
 refine W.tr [(0, .int _ _)] [] ⟨rfl, trivial⟩ rfl (W.rL (aB rfl rfl (eL (W.tr [(0, .int _ _)] [] ⟨rfl, trivial⟩ rfl (W.rL ?_)))))
 iterate 2 refine mI rfl rfl ?_
 refine cL rfl (o_neI rfl rfl rfl (aB rfl rfl (eL (W.tr [(2, .bool _)] [] ⟨rfl, trivial⟩ rfl (W.ret (rt (rt_t (v := .bool _) rfl (rt_n (⟨_, zYr _ _ _, (decide (¬ n = n)), rfl, hv⟩)))))))))
set_option maxHeartbeats 2000000 in
theorem vcp_isNaN (n : Int)  : vc_isNaN n (fun q0 => q0 = (false)) := by
  show decide (¬ n = n) = false
  simp
theorem spec_isNaN (n : Int)  : FnP Try.prog 53 [.int .i64 n] (fun xR => xR = .bool (false)) :=
  (walk_isNaN (vcp_isNaN n)).mono (by rintro _ ⟨_, rfl, rfl⟩; rfl)
def vc_cmpI (x : Int) (y : Int) (Post : Int -> Prop) : Prop :=
  ((x < y) -> Post (-1 : Int)) /\ (¬ (x < y) -> ((y < x) -> Post (1 : Int)) /\ (¬ (y < x) -> Post (0 : Int)))
theorem walk_cmpI {x : Int} {y : Int} {Post : Int -> Prop} (hv : vc_cmpI x y Post) : FnP Try.prog 37 [.int .i64 x, .int .i64 y] (fun x => ∃ q0, x = .int .i64 q0 /\ Post q0) := by
 refine FnP.of_walk (T := tt) (nt := 20) ttOk ttMix ⟨⟨Try.f37, Try.func37, rfl, rfl, rfl, rfl⟩⟩ (by simp) ?_
 unfold vc_cmpI at hv
 change W _ _ _ ⟨20, look [(0, .int .i64 x), (1, .int .i64 y)], [], 0⟩ _
 refine W.tr [(0, .int _ _), (1, .int _ _)] [] ⟨rfl, rfl, trivial⟩ rfl (W.rL (aI rfl rfl (eL (W.tr [(0, .int _ _), (1, .int _ _)] [] ⟨rfl, rfl, trivial⟩ rfl (W.rL (mI rfl rfl (cL rfl (zZu (k := 53) (fst := []) (caps := []) (ys := [.int _ _]) rfl rfl (spec_isNaN x) (Wks.cons (zZz _ _ _ _) (Wks.refl _)) (aB rfl rfl (eL (W.tr [(0, .int _ _), (1, .int _ _), (5, .bool _)] [] ⟨rfl, rfl, rfl, trivial⟩ rfl (W.rL (mI rfl rfl (cL rfl (zZu (k := 53) (fst := []) (caps := []) (ys := [.int _ _]) rfl rfl (spec_isNaN y) (Wks.cons (zZz _ _ _ _) (Wks.refl _)) (aB rfl rfl (eL (W.tr [(0, .int _ _), (1, .int _ _), (5, .bool _), (6, .bool _)] [] ⟨rfl, rfl, rfl, rfl, trivial⟩ rfl (W.seq' (W.rL (mB rfl rfl (eL (W.tr [(0, .int _ _), (1, .int _ _), (6, .bool _), (11, .bool _)] [] ⟨rfl, rfl, rfl, rfl, trivial⟩ rfl (W.cF rfl (W.skip (zZ (W.tr [(0, .int _ _), (1, .int _ _), (6, .bool _)] [] ⟨rfl, rfl, rfl, trivial⟩ rfl ?_)))))))))))))))))))))))))))
 refine W.seq' (W.rL (mB rfl rfl (eL (W.tr [(0, .int _ _), (1, .int _ _), (13, .bool _)] [] ⟨rfl, rfl, rfl, trivial⟩ rfl (W.cF rfl (W.skip (zZ (W.tr [(0, .int _ _), (1, .int _ _)] [] ⟨rfl, rfl, trivial⟩ rfl (W.seq' (W.rL ?_))))))))))
 iterate 2 refine mI rfl rfl ?_
 refine cL rfl (zYq rfl rfl (eL (W.tr [(0, .int _ _), (1, .int _ _), (16, .bool _)] [] ⟨rfl, rfl, rfl, trivial⟩ rfl (W.cn rfl (fun hc => ?_) (fun hc => ?_)))))
 have hv := hv.1 hc
 refine W.rL (aI rfl rfl (eL (W.tr [(4, .int _ _)] [] ⟨rfl, trivial⟩ rfl (W.ret (zZr (rt (rt_t (v := .int _ _) rfl (rt_n (⟨_, zY _ _ _ _, (-1 : Int), rfl, hv⟩)))))))))
 have hv := hv.2 hc
 refine W.skip (zZ (W.tr [(0, .int _ _), (1, .int _ _)] [] ⟨rfl, rfl, trivial⟩ rfl (W.seq' (W.rL ?_))))
 iterate 2 refine mI rfl rfl ?_
 refine cL rfl (o_gtr rfl rfl (eL (W.tr [(19, .bool _)] [] ⟨rfl, trivial⟩ rfl (W.cn rfl (fun hc => ?_) (fun hc => ?_)))))
 have hv := hv.1 hc
 refine W.rL (aI rfl rfl (eL (W.tr [(4, .int _ _)] [] ⟨rfl, trivial⟩ rfl (W.ret (zZr (rt (rt_t (v := .int _ _) rfl (rt_n (⟨_, zY _ _ _ _, (1 : Int), rfl, hv⟩)))))))))
 have hv := hv.2 hc
 refine W.skip (zZ (W.tr [] [] trivial rfl (W.rL (aI rfl rfl (eL (W.tr [(4, .int _ _)] [] ⟨rfl, trivial⟩ rfl (W.ret (rt (rt_t (v := .int _ _) rfl (rt_n (⟨_, zY _ _ _ _, (0 : Int), rfl, hv⟩)))))))))))
set_option maxHeartbeats 2000000 in
theorem vcp_cmpI (x : Int) (y : Int)  : vc_cmpI x y (fun q0 => q0 = (cmpM x y)) := by
  refine ⟨fun h => ?_, fun h => ⟨fun k => ?_, fun k => ?_⟩⟩
  . show -1 = cmpM x y
    unfold cmpM; rw [if_pos h]
  . show 1 = cmpM x y
    unfold cmpM; rw [if_neg h, if_pos k]
  . show 0 = cmpM x y
    unfold cmpM; rw [if_neg h, if_neg k]
theorem spec_cmpI (x : Int) (y : Int)  : FnP Try.prog 37 [.int .i64 x, .int .i64 y] (fun xR => xR = .int .i64 (cmpM x y)) :=
  (walk_cmpI (vcp_cmpI x y)).mono (by rintro _ ⟨_, rfl, rfl⟩; rfl)
def vc_orI (l : (List Int)) (Post : Int -> Prop) : Prop :=
  ∃ (I1 : Int -> Prop) (μ1 : Int -> Nat), I1 (0 : Int) /\ ∀ (v8 : Int), I1 v8 -> ((v8 < ((l.length : Nat) : Int)) -> (0 <= v8 /\ v8 < (l.length : Int)) /\ ((¬ lat l v8 = (0 : Int)) -> Post (lat l v8)) /\ (¬ (¬ lat l v8 = (0 : Int)) -> (inI (v8 + (1 : Int))) /\ (I1 (v8 + (1 : Int)) /\ μ1 (v8 + (1 : Int)) < μ1 v8))) /\ (¬ (v8 < ((l.length : Nat) : Int)) -> Post (0 : Int))
theorem walk_orI {l : (List Int)} {Post : Int -> Prop} (hv : vc_orI l Post) : FnP Try.prog 36 [.lst true l.length (zYy zYx l)] (fun x => ∃ q0, x = .int .i64 q0 /\ Post q0) := by
 refine FnP.of_walk (T := tt) (nt := 18) ttOk ttMix ⟨⟨Try.f36, Try.func36, rfl, rfl, rfl, rfl⟩⟩ (by simp) ?_
 unfold vc_orI at hv
 change W _ _ _ ⟨18, look [(0, .lst true l.length (zYy zYx l))], [], 0⟩ _
 refine W.tr [(0, .lst _ _ _)] [] ⟨rfl, trivial⟩ rfl (W.rL (aI rfl rfl (eL (W.tr [(0, .lst _ _ _)] [] ⟨rfl, trivial⟩ rfl (W.rL (aI rfl rfl (eL (W.tr [(0, .lst _ _ _), (3, .int _ _)] [] ⟨rfl, rfl, trivial⟩ rfl (W.seq' (W.rL (mL rfl rfl (cL rfl (zXw (v := .lst _ _ _) tt22 rfl rfl (mI rfl rfl (eL (W.tr [(3, .int _ _), (6, .lst _ _ _), (7, .int _ _), (8, .int _ _)] [] ⟨rfl, rfl, rfl, rfl, trivial⟩ rfl (W.block ?_)))))))))))))))))
 obtain ⟨I1, μ1, hp, hv⟩ := hv
 refine W.loop1 (fun v8 => ⟨18, look [(3, .int .i64 (0 : Int)), (6, .lst true l.length (zYy zYx l)), (7, .int .i64 ((l.length : Nat) : Int)), (8, .int .i64 v8)], [], 0⟩) I1 μ1 (0 : Int) (St.to_mk (φ := []) rfl (rfl) ⟨Ren.int _ _, Ren.lst _ _ _, Ren.int _ _, Ren.int _ _, trivial⟩ trivial) hp ?_
 clear hp
 intro v8 hI
 replace hv := hv v8 hI
 clear hI
 refine W.rL (cL rfl (zYq rfl rfl (eL (W.tr [(3, .int _ _), (6, .lst _ _ _), (7, .int _ _), (8, .int _ _), (9, .bool _)] [] ⟨rfl, rfl, rfl, rfl, rfl, trivial⟩ rfl (W.seq' (W.cn rfl (fun hc => ?_) (fun hc => ?_)))))))
 have hv := hv.1 hc
 refine W.skip (zZ (W.tr [(3, .int _ _), (6, .lst _ _ _), (7, .int _ _), (8, .int _ _)] [] ⟨rfl, rfl, rfl, rfl, trivial⟩ rfl (W.seq' (W.block (W.rL ?_)))))
 obtain ⟨s11, hv⟩ := hv
 refine cL rfl (zYu tt22 tt3 rfl rfl (zZw.wd true) rfl s11 ?_)
 intro rest11
 refine cL rfl (zZx (v := .int _ _) tt3 rfl rfl ⟨_, rfl⟩ (aI rfl rfl (eL (W.tr [(3, .int _ _), (5, .int _ _), (6, .lst _ _ _), (7, .int _ _), (8, .int _ _)] [] ⟨rfl, rfl, rfl, rfl, rfl, trivial⟩ rfl (W.rL ?_)))))
 iterate 2 refine mI rfl rfl ?_
 refine cL rfl (o_neI rfl rfl rfl (eL (W.tr [(3, .int _ _), (5, .int _ _), (6, .lst _ _ _), (7, .int _ _), (8, .int _ _), (14, .bool _)] [] ⟨rfl, rfl, rfl, rfl, rfl, rfl, trivial⟩ rfl (W.cn rfl (fun hc => ?_) (fun hc => ?_)))))
 have hv := hv.1 hc
 refine W.rL (mI rfl rfl (aI rfl rfl (eL (W.tr [(2, .int _ _)] [] ⟨rfl, trivial⟩ rfl (W.ret (zYt (zZr (zZr (zYt (zZr (rt (rt_t (v := .int _ _) rfl (rt_n (⟨_, zY _ _ _ _, (lat l v8), rfl, hv⟩))))))))))))))
 have hv := hv.2 hc
 refine W.skip (zYv (zZ (W.tr [(3, .int _ _), (6, .lst _ _ _), (7, .int _ _), (8, .int _ _)] [] ⟨rfl, rfl, rfl, rfl, trivial⟩ rfl (W.rL1 ?_))))
 obtain ⟨s12, hv⟩ := hv
 refine cL rfl (o_add rfl rfl s12 (mI rfl rfl (eL (zZ (⟨(), (v8 + (1 : Int)), hv, St.to_mk (φ := []) rfl (rfl) ⟨Ren.int _ _, Ren.lst _ _ _, Ren.int _ _, Ren.int _ _, trivial⟩ trivial⟩)))))
 have hv := hv.2 hc
 refine W.exit (zZt (zZt (zYs (zZ (W.tr [(3, .int _ _)] [] ⟨rfl, trivial⟩ rfl (W.rL (mI rfl rfl (aI rfl rfl (eL (W.tr [(2, .int _ _)] [] ⟨rfl, trivial⟩ rfl (W.ret (rt (rt_t (v := .int _ _) rfl (rt_n (⟨_, zY _ _ _ _, (0 : Int), rfl, hv⟩)))))))))))))))
set_option maxHeartbeats 2000000 in
theorem vcp_orI (l : (List Int)) (h0 : l.length <= 9223372036854775807) : vc_orI l (fun q0 => q0 = (orM l)) := by
  unfold vc_orI
  refine ⟨fun v => ∃ i : Nat, v = i /\ i <= l.length /\ orM l = orM (l.drop i), fun v => l.length - v.toNat, ⟨0, rfl, by omega, rfl⟩, ?_⟩
  rintro _ ⟨i, rfl, hi, he⟩
  refine ⟨fun k1 => ⟨⟨by omega, k1⟩, fun k2 => ?_, fun k2 => ⟨by unfold inI; omega, ⟨i + 1, by omega, by omega, ?_⟩, dec_lt k1⟩⟩, fun k1 => ?_⟩
  . have h : i < l.length := by omega
    show lat l (i : Int) = orM l
    rw [he, List.drop_eq_getElem_cons h, lat_get h]
    rw [lat_get h] at k2
    show _ = if ¬ l[i] = 0 then l[i] else _
    rw [if_pos k2]
  . have h : i < l.length := by omega
    rw [he, List.drop_eq_getElem_cons h]
    rw [lat_get h] at k2
    show (if ¬ l[i] = 0 then l[i] else _) = _
    rw [if_neg k2]; rfl
  . show 0 = orM l
    rw [he, List.drop_of_length_le (by omega)]; rfl
theorem spec_orI (l : (List Int)) (h0 : l.length <= 9223372036854775807) : FnP Try.prog 36 [.lst true l.length (zYy zYx l)] (fun xR => xR = .int .i64 (orM l)) :=
  (walk_orI (vcp_orI l h0)).mono (by rintro _ ⟨_, rfl, rfl⟩; rfl)
end Go.Lat
