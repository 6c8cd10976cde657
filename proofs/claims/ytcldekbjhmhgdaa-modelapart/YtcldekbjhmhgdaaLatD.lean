/- The law latecomerlaw23.ModelApart returns true for every input, and each argument reads afterwards as it read before. Part 4 of 14. No condition. -/
import Derived.Test.YtcldekbjhmhgdaaLatC
import Derived.Test.YtcldekbjhmhgdaaProg
import Derived.KernelRfl
set_option linter.unusedVariables false
set_option linter.unusedSimpArgs false
set_option linter.unnecessarySimpa false
namespace Go.Lat
open Go.RowKit

def lenV : AV -> Option Nat
  | .nilS => some 0
  | .lst _ n _ => some n
  | .ref _ _ n => some n
  | .sub _ _ n => some n
  | _ => none
def fillE (place : Nat -> Option (Nat × Nat)) (cells : List AV) : List (Nat × AV) -> Option (List AV)
  | [] => some cells
  | (i, v) :: rest => match place i, v.cells with
    | some (off, size), some vs => if (Nat.beq vs.length size && Nat.ble (off + size) cells.length) = true then fillE place (Lat.spl cells off vs) rest else none
    | _, _ => none
theorem fillE_spec {place : Nat -> Option (Nat × Nat)} {K : List AV -> Prop} : ∀ {qs : List (Nat × AV)} {cells cs : List AV}, fillE place cells qs = some cs -> K cs -> fillP place cells K qs
  | [], cells, cs, h, hk => by simp only [fillE, Option.some.injEq] at h; subst h; exact hk
  | (i, v) :: rest, cells, cs, h, hk => by
    unfold fillE at h
    unfold fillP
    split at h <;> try cases h
    rename_i off size vs h1 h2
    split at h
    . rename_i hc
      simp only [Bool.and_eq_true] at hc
      rw [h1, h2]
      exact ⟨Nat.eq_of_beq_eq_true hc.1, Nat.le_of_ble_eq_true hc.2, fillE_spec h hk⟩
    . cases h

section
variable {P : Program} {T : TT} {d : Option Tmp} {ty : TypeId} {pos : String} {af : Array Edge} {g : Option (Nat × Bool)} {n : Nat} {l : List (Nat × AV)} {h : List AObj} {b : Nat} {K : AV -> List AObj -> Prop} {a a2 a3 : Operand}
theorem zZp {v : AV} (h1 : St.eval ⟨n, look l, h, b⟩ a = v) (hk : K v h) : opC P T ⟨d, .move a, ty, pos, af, g⟩ ⟨n, look l, h, b⟩ K := by
  show K (St.eval ⟨n, look l, h, b⟩ a) h
  rw [h1]; exact hk
theorem zZq {v : AV} (h1 : St.eval ⟨n, look l, h, b⟩ a = v) (hk : K v h) : opC P T ⟨d, .assign a, ty, pos, af, g⟩ ⟨n, look l, h, b⟩ K := by
  show K (St.eval ⟨n, look l, h, b⟩ a) h
  rw [h1]; exact hk
theorem zZv {q : Bool} {v : AV} (h1 : St.eval ⟨n, look l, h, b⟩ a = .bool q) (hq : q = true) (h2 : St.eval ⟨n, look l, h, b⟩ a2 = v) (hk : K v h) : opC P T ⟨d, .pick a a2 a3, ty, pos, af, g⟩ ⟨n, look l, h, b⟩ K := by
  subst hq
  show (match St.eval ⟨n, look l, h, b⟩ a, St.eval ⟨n, look l, h, b⟩ a2, St.eval ⟨n, look l, h, b⟩ a3 with
    | .bool t, .bool x, .bool y => K (.bool (if t then x else y)) h
    | .bool true, x, _ => K x h
    | .bool false, _, y => K y h
    | _, _, _ => False)
  rw [h1, h2]
  generalize St.eval ⟨n, look l, h, b⟩ a3 = w
  cases v <;> cases w <;> exact hk
theorem zZy {q : Bool} {v : AV} (h1 : St.eval ⟨n, look l, h, b⟩ a = .bool q) (hq : q = false) (h2 : St.eval ⟨n, look l, h, b⟩ a3 = v) (hk : K v h) : opC P T ⟨d, .pick a a2 a3, ty, pos, af, g⟩ ⟨n, look l, h, b⟩ K := by
  subst hq
  show (match St.eval ⟨n, look l, h, b⟩ a, St.eval ⟨n, look l, h, b⟩ a2, St.eval ⟨n, look l, h, b⟩ a3 with
    | .bool t, .bool x, .bool y => K (.bool (if t then x else y)) h
    | .bool true, x, _ => K x h
    | .bool false, _, y => K y h
    | _, _, _ => False)
  rw [h1, h2]
  generalize St.eval ⟨n, look l, h, b⟩ a2 = w
  cases v <;> cases w <;> exact hk
theorem zXy {t : TypeId} {k : TK} {s by_ : Nat} {z z' : List AV} {p : Nat} (ht : T t = some ⟨k, s, by_, z⟩) (hp : h.length = p) (hz : z = z') (hk : K (.ptr p 0) (h ++ [.box t z'])) : opC P T ⟨d, .alloc t, ty, pos, af, g⟩ ⟨n, look l, h, b⟩ K := by
  show allocA T h t K
  subst hp; subst hz
  simp only [allocA, ht]; exact hk
theorem o_box {t : TypeId} {v : AV} {cs : List AV} {p : Nat} (h1 : St.eval ⟨n, look l, h, b⟩ a = v) (hc : v.cells = some cs) (hp : h.length = p) (hk : K (.ptr p 0) (h ++ [.box t cs])) : opC P T ⟨d, .box t a, ty, pos, af, g⟩ ⟨n, look l, h, b⟩ K := by
  show boxA h t (St.eval ⟨n, look l, h, b⟩ a) K
  subst hp
  rw [h1]; simp only [boxA, hc]; exact hk
theorem ldS {t : TypeId} {k : TK} {s by_ : Nat} {z : List AV} {x v : AV} (ht : T t = some ⟨k, s, by_, z⟩) (ha : k.agg = false) (hc : ∃ rest, cellsAt h x = some (v :: rest)) (hk : K v h) : loadA T h t x K := by
  obtain ⟨rest, hc⟩ := hc
  simp only [loadA, ht, hc, ha]
  exact ⟨by simp, hk⟩
theorem ldA {t : TypeId} {k : TK} {s by_ : Nat} {z : List AV} {x : AV} {cs : List AV} (ht : T t = some ⟨k, s, by_, z⟩) (ha : k.agg = true) (hc : ∃ rest, cellsAt h x = some (cs ++ rest)) (hl : cs.length = s) (hk : K (.agg cs) h) : loadA T h t x K := by
  obtain ⟨rest, hc⟩ := hc
  subst hl
  simp only [loadA, ht, hc, ha]
  exact ⟨by simp, by rw [List.take_left]; exact hk⟩
theorem zZx {t : TypeId} {k : TK} {s by_ : Nat} {z : List AV} {x v : AV} (ht : T t = some ⟨k, s, by_, z⟩) (ha : k.agg = false) (h1 : St.eval ⟨n, look l, h, b⟩ a = x) (hc : ∃ rest, cellsAt h x = some (v :: rest)) (hk : K v h) : opC P T ⟨d, .load t a, ty, pos, af, g⟩ ⟨n, look l, h, b⟩ K := by
  show loadA T h t (St.eval ⟨n, look l, h, b⟩ a) K
  rw [h1]; exact ldS ht ha hc hk
theorem zYp {t : TypeId} {k : TK} {s by_ : Nat} {z : List AV} {x : AV} {cs : List AV} (ht : T t = some ⟨k, s, by_, z⟩) (ha : k.agg = true) (h1 : St.eval ⟨n, look l, h, b⟩ a = x) (hc : ∃ rest, cellsAt h x = some (cs ++ rest)) (hl : cs.length = s) (hk : K (.agg cs) h) : opC P T ⟨d, .load t a, ty, pos, af, g⟩ ⟨n, look l, h, b⟩ K := by
  show loadA T h t (St.eval ⟨n, look l, h, b⟩ a) K
  rw [h1]; exact ldA ht ha hc hl hk
theorem o_stB {t t2 : TypeId} {k : TK} {s by_ id off : Nat} {z : List AV} {v : AV} {vs cs cs2 : List AV} (ht : T t = some ⟨k, s, by_, z⟩) (h1 : St.eval ⟨n, look l, h, b⟩ a = .ptr id off) (h2 : St.eval ⟨n, look l, h, b⟩ a2 = v) (hc : v.cells = some vs) (hl : vs.length = s) (ho : h[id]? = some (.box t2 cs)) (hb : off + vs.length <= cs.length) (he : Lat.spl cs off vs = cs2) (hk : K .any (h.set id (.box t2 cs2))) : opC P T ⟨d, .store t a a2, ty, pos, af, g⟩ ⟨n, look l, h, b⟩ K := by
  show storeA T h t (St.eval ⟨n, look l, h, b⟩ a) (St.eval ⟨n, look l, h, b⟩ a2) K
  subst he
  rw [h1, h2]; simp only [storeA, ht, hc, putCells, ho]
  exact ⟨hl, hb, hk⟩
theorem o_stR {t t2 : TypeId} {k : TK} {s by_ id off sz : Nat} {z : List AV} {v : AV} {vs cs cs2 : List AV} (ht : T t = some ⟨k, s, by_, z⟩) (h1 : St.eval ⟨n, look l, h, b⟩ a = .ptr id off) (h2 : St.eval ⟨n, look l, h, b⟩ a2 = v) (hc : v.cells = some vs) (hl : vs.length = s) (ho : h[id]? = some (.row t2 sz cs)) (hb : off + vs.length <= cs.length) (he : Lat.spl cs off vs = cs2) (hk : K .any (h.set id (.row t2 sz cs2))) : opC P T ⟨d, .store t a a2, ty, pos, af, g⟩ ⟨n, look l, h, b⟩ K := by
  show storeA T h t (St.eval ⟨n, look l, h, b⟩ a) (St.eval ⟨n, look l, h, b⟩ a2) K
  subst he
  rw [h1, h2]; simp only [storeA, ht, hc, putCells, ho]
  exact ⟨hl, hb, hk⟩
theorem zYu {t e : TypeId} {s by_ es eb : Nat} {z ez : List AV} {ek : TK} (ht : T t = some ⟨.sl e, s, by_, z⟩) (he : T e = some ⟨ek, es, eb, ez⟩) {α : Type} [Inhabited α] {en : α -> List AV} {xs : List α} {fl : Bool} {m : Nat} (h1 : St.eval ⟨n, look l, h, b⟩ a = .lst fl m (zYy en xs)) {ik : IntKind} {i : Int} (h2 : St.eval ⟨n, look l, h, b⟩ a2 = .int ik i) (hw : Wd en es) (hm : m = xs.length) (hj : 0 <= i /\ i < (xs.length : Int)) (hk : ∀ rest, K (.ipt fl (en (lat xs i) ++ rest)) h) : opC P T ⟨d, .indexAddr t a a2, ty, pos, af, g⟩ ⟨n, look l, h, b⟩ K := by
  show indexAddrA T t (St.eval ⟨n, look l, h, b⟩ a) (St.eval ⟨n, look l, h, b⟩ a2) (fun v => K v h)
  rw [h1, h2]; simp only [indexAddrA, ht, he]
  subst hm
  obtain ⟨rest, hr⟩ := encL_at hw xs i hj.1 hj.2
  rw [hr]
  exact ⟨hj, hk rest⟩
theorem o_iaR {t e : TypeId} {s by_ es eb : Nat} {z ez : List AV} {ek : TK} (ht : T t = some ⟨.sl e, s, by_, z⟩) (he : T e = some ⟨ek, es, eb, ez⟩) {nb : Bool} {id m : Nat} (h1 : St.eval ⟨n, look l, h, b⟩ a = .ref nb id m) {ik : IntKind} {i : Int} (h2 : St.eval ⟨n, look l, h, b⟩ a2 = .int ik i) (hj : 0 <= i /\ i < (m : Int)) (hk : K (.ptr id (i.toNat * es)) h) : opC P T ⟨d, .indexAddr t a a2, ty, pos, af, g⟩ ⟨n, look l, h, b⟩ K := by
  show indexAddrA T t (St.eval ⟨n, look l, h, b⟩ a) (St.eval ⟨n, look l, h, b⟩ a2) (fun v => K v h)
  rw [h1, h2]; simp only [indexAddrA, ht, he]
  exact ⟨hj, hk⟩
theorem o_iaA {t e : TypeId} {m s by_ es eb : Nat} {z ez : List AV} {ek : TK} (ht : T t = some ⟨.ar m e, s, by_, z⟩) (he : T e = some ⟨ek, es, eb, ez⟩) {id off : Nat} (h1 : St.eval ⟨n, look l, h, b⟩ a = .ptr id off) {ik : IntKind} {i : Int} (h2 : St.eval ⟨n, look l, h, b⟩ a2 = .int ik i) {off2 : Nat} (hj : 0 <= i /\ i < (m : Int)) (hoff : off + i.toNat * es = off2) (hk : K (.ptr id off2) h) : opC P T ⟨d, .indexAddr t a a2, ty, pos, af, g⟩ ⟨n, look l, h, b⟩ K := by
  show indexAddrA T t (St.eval ⟨n, look l, h, b⟩ a) (St.eval ⟨n, look l, h, b⟩ a2) (fun v => K v h)
  rw [h1, h2]; simp only [indexAddrA, ht, he]
  subst hoff
  exact ⟨hj, hk⟩
theorem o_fa {t ft : TypeId} {fs : List (Nat × TypeId)} {s by_ off i : Nat} {z : List AV} {fk : TK} {fz fb : Nat} {fzz : List AV} (ht : T t = some ⟨.st fs, s, by_, z⟩) (hf : fs[i]? = some (off, ft)) (hft : T ft = some ⟨fk, fz + 1, fb, fzz⟩) {id q : Nat} (h1 : St.eval ⟨n, look l, h, b⟩ a = .ptr id q) (hk : K (.ptr id (q + off)) h) : opC P T ⟨d, .fieldAddr t a i, ty, pos, af, g⟩ ⟨n, look l, h, b⟩ K := by
  show fieldAddrA T t (St.eval ⟨n, look l, h, b⟩ a) i (fun v => K v h)
  rw [h1]; simp only [fieldAddrA, ht, hf, hft]
  exact ⟨by simp, hk⟩
theorem o_faP {t ft : TypeId} {fs : List (Nat × TypeId)} {s by_ off i : Nat} {z : List AV} {fk : TK} {fz fb : Nat} {fzz : List AV} (ht : T t = some ⟨.st fs, s, by_, z⟩) (hf : fs[i]? = some (off, ft)) (hft : T ft = some ⟨fk, fz + 1, fb, fzz⟩) {fl : Bool} {cs : List AV} (h1 : St.eval ⟨n, look l, h, b⟩ a = .ipt fl cs) (hk : K (.ipt fl (cs.drop off)) h) : opC P T ⟨d, .fieldAddr t a i, ty, pos, af, g⟩ ⟨n, look l, h, b⟩ K := by
  show fieldAddrA T t (St.eval ⟨n, look l, h, b⟩ a) i (fun v => K v h)
  rw [h1]; simp only [fieldAddrA, ht, hf, hft]
  exact ⟨by simp, hk⟩
theorem zXw {t e : TypeId} {s by_ : Nat} {z : List AV} {m : Nat} {v : AV} (ht : T t = some ⟨.sl e, s, by_, z⟩) (h1 : St.eval ⟨n, look l, h, b⟩ a = v) (hv : lenV v = some m) (hk : K (.int .i64 m) h) : opC P T ⟨d, .call ⟨.builtin .len, #[a], #[t]⟩, ty, pos, af, g⟩ ⟨n, look l, h, b⟩ K := by
  show lenA T t (St.eval ⟨n, look l, h, b⟩ a) (fun v => K v h)
  rw [h1]; simp only [lenA, ht]
  cases v <;> simp only [lenV, Option.some.injEq, reduceCtorEq] at hv <;> subst hv <;> exact hk
theorem o_min {tys : Array TypeId} {k : IntKind} {x y : Int} (h1 : St.eval ⟨n, look l, h, b⟩ a = .int k x) (h2 : St.eval ⟨n, look l, h, b⟩ a2 = .int k y) (hk : K (.int k (min x y)) h) : opC P T ⟨d, .call ⟨.builtin .min, #[a, a2], tys⟩, ty, pos, af, g⟩ ⟨n, look l, h, b⟩ K := by
  obtain ⟨tys⟩ := tys
  show minA (St.eval ⟨n, look l, h, b⟩ a) (St.eval ⟨n, look l, h, b⟩ a2) (fun v => K v h)
  rw [h1, h2]; exact ⟨rfl, hk⟩
theorem o_max {tys : Array TypeId} {k : IntKind} {x y : Int} (h1 : St.eval ⟨n, look l, h, b⟩ a = .int k x) (h2 : St.eval ⟨n, look l, h, b⟩ a2 = .int k y) (hk : K (.int k (max x y)) h) : opC P T ⟨d, .call ⟨.builtin .max, #[a, a2], tys⟩, ty, pos, af, g⟩ ⟨n, look l, h, b⟩ K := by
  obtain ⟨tys⟩ := tys
  show maxA (St.eval ⟨n, look l, h, b⟩ a) (St.eval ⟨n, look l, h, b⟩ a2) (fun v => K v h)
  rw [h1, h2]; exact ⟨rfl, hk⟩
theorem o_add {t u : TypeId} {x y : Int} (h1 : St.eval ⟨n, look l, h, b⟩ a = .int .i64 x) (h2 : St.eval ⟨n, look l, h, b⟩ a2 = .int .i64 y) (hi : inI (x + y)) (hk : K (.int .i64 (x + y)) h) : opC P T ⟨d, .binOp .add t a a2 u, ty, pos, af, g⟩ ⟨n, look l, h, b⟩ K := by
  have hn : nilC .add a2 = false := rfl
  show (if nilC .add a2 = true then nilEqA T t (BinOp.add == BinOp.neq) (St.eval ⟨n, look l, h, b⟩ a) (fun v => K v h) else binA T .add t (St.eval ⟨n, look l, h, b⟩ a) (St.eval ⟨n, look l, h, b⟩ a2) (fun v => K v h))
  rw [hn, if_neg (by simp), h1, h2]
  exact ⟨hi, hk⟩
theorem o_sub {t u : TypeId} {x y : Int} (h1 : St.eval ⟨n, look l, h, b⟩ a = .int .i64 x) (h2 : St.eval ⟨n, look l, h, b⟩ a2 = .int .i64 y) (hi : inI (x - y)) (hk : K (.int .i64 (x - y)) h) : opC P T ⟨d, .binOp .sub t a a2 u, ty, pos, af, g⟩ ⟨n, look l, h, b⟩ K := by
  have hn : nilC .sub a2 = false := rfl
  show (if nilC .sub a2 = true then nilEqA T t (BinOp.sub == BinOp.neq) (St.eval ⟨n, look l, h, b⟩ a) (fun v => K v h) else binA T .sub t (St.eval ⟨n, look l, h, b⟩ a) (St.eval ⟨n, look l, h, b⟩ a2) (fun v => K v h))
  rw [hn, if_neg (by simp), h1, h2]
  exact ⟨hi, hk⟩
theorem o_mul {t u : TypeId} {x y : Int} (h1 : St.eval ⟨n, look l, h, b⟩ a = .int .i64 x) (h2 : St.eval ⟨n, look l, h, b⟩ a2 = .int .i64 y) (hi : inI (x * y)) (hk : K (.int .i64 (x * y)) h) : opC P T ⟨d, .binOp .mul t a a2 u, ty, pos, af, g⟩ ⟨n, look l, h, b⟩ K := by
  have hn : nilC .mul a2 = false := rfl
  show (if nilC .mul a2 = true then nilEqA T t (BinOp.mul == BinOp.neq) (St.eval ⟨n, look l, h, b⟩ a) (fun v => K v h) else binA T .mul t (St.eval ⟨n, look l, h, b⟩ a) (St.eval ⟨n, look l, h, b⟩ a2) (fun v => K v h))
  rw [hn, if_neg (by simp), h1, h2]
  exact ⟨hi, hk⟩
theorem o_quo {t u : TypeId} {x y : Int} (h1 : St.eval ⟨n, look l, h, b⟩ a = .int .i64 x) (h2 : St.eval ⟨n, look l, h, b⟩ a2 = .int .i64 y) (h0 : y ≠ 0) (hi : inI (x.tdiv y)) (hk : K (.int .i64 (x.tdiv y)) h) : opC P T ⟨d, .binOp .quo t a a2 u, ty, pos, af, g⟩ ⟨n, look l, h, b⟩ K := by
  have hn : nilC .quo a2 = false := rfl
  show (if nilC .quo a2 = true then nilEqA T t (BinOp.quo == BinOp.neq) (St.eval ⟨n, look l, h, b⟩ a) (fun v => K v h) else binA T .quo t (St.eval ⟨n, look l, h, b⟩ a) (St.eval ⟨n, look l, h, b⟩ a2) (fun v => K v h))
  rw [hn, if_neg (by simp), h1, h2]
  exact ⟨h0, hi, hk⟩
theorem o_rem {t u : TypeId} {k : IntKind} {x y : Int} (h1 : St.eval ⟨n, look l, h, b⟩ a = .int k x) (h2 : St.eval ⟨n, look l, h, b⟩ a2 = .int k y) (h0 : y ≠ 0) (hk : K (.int k (x.tmod y)) h) : opC P T ⟨d, .binOp .rem t a a2 u, ty, pos, af, g⟩ ⟨n, look l, h, b⟩ K := by
  have hn : nilC .rem a2 = false := rfl
  show (if nilC .rem a2 = true then nilEqA T t (BinOp.rem == BinOp.neq) (St.eval ⟨n, look l, h, b⟩ a) (fun v => K v h) else binA T .rem t (St.eval ⟨n, look l, h, b⟩ a) (St.eval ⟨n, look l, h, b⟩ a2) (fun v => K v h))
  rw [hn, if_neg (by simp), h1, h2]
  exact ⟨rfl, h0, hk⟩
theorem zYq {t u : TypeId} {k : IntKind} {x y : Int} (h1 : St.eval ⟨n, look l, h, b⟩ a = .int k x) (h2 : St.eval ⟨n, look l, h, b⟩ a2 = .int k y)  (hk : K (.bool (decide (x < y))) h) : opC P T ⟨d, .binOp .lss t a a2 u, ty, pos, af, g⟩ ⟨n, look l, h, b⟩ K := by
  have hn : nilC .lss a2 = false := rfl
  show (if nilC .lss a2 = true then nilEqA T t (BinOp.lss == BinOp.neq) (St.eval ⟨n, look l, h, b⟩ a) (fun v => K v h) else binA T .lss t (St.eval ⟨n, look l, h, b⟩ a) (St.eval ⟨n, look l, h, b⟩ a2) (fun v => K v h))
  rw [hn, if_neg (by simp), h1, h2]
  exact ⟨rfl, hk⟩
theorem o_leq {t u : TypeId} {k : IntKind} {x y : Int} (h1 : St.eval ⟨n, look l, h, b⟩ a = .int k x) (h2 : St.eval ⟨n, look l, h, b⟩ a2 = .int k y)  (hk : K (.bool (decide (x <= y))) h) : opC P T ⟨d, .binOp .leq t a a2 u, ty, pos, af, g⟩ ⟨n, look l, h, b⟩ K := by
  have hn : nilC .leq a2 = false := rfl
  show (if nilC .leq a2 = true then nilEqA T t (BinOp.leq == BinOp.neq) (St.eval ⟨n, look l, h, b⟩ a) (fun v => K v h) else binA T .leq t (St.eval ⟨n, look l, h, b⟩ a) (St.eval ⟨n, look l, h, b⟩ a2) (fun v => K v h))
  rw [hn, if_neg (by simp), h1, h2]
  exact ⟨rfl, hk⟩
theorem o_gtr {t u : TypeId} {k : IntKind} {x y : Int} (h1 : St.eval ⟨n, look l, h, b⟩ a = .int k x) (h2 : St.eval ⟨n, look l, h, b⟩ a2 = .int k y)  (hk : K (.bool (decide (y < x))) h) : opC P T ⟨d, .binOp .gtr t a a2 u, ty, pos, af, g⟩ ⟨n, look l, h, b⟩ K := by
  have hn : nilC .gtr a2 = false := rfl
  show (if nilC .gtr a2 = true then nilEqA T t (BinOp.gtr == BinOp.neq) (St.eval ⟨n, look l, h, b⟩ a) (fun v => K v h) else binA T .gtr t (St.eval ⟨n, look l, h, b⟩ a) (St.eval ⟨n, look l, h, b⟩ a2) (fun v => K v h))
  rw [hn, if_neg (by simp), h1, h2]
  exact ⟨rfl, hk⟩
theorem o_geq {t u : TypeId} {k : IntKind} {x y : Int} (h1 : St.eval ⟨n, look l, h, b⟩ a = .int k x) (h2 : St.eval ⟨n, look l, h, b⟩ a2 = .int k y)  (hk : K (.bool (decide (y <= x))) h) : opC P T ⟨d, .binOp .geq t a a2 u, ty, pos, af, g⟩ ⟨n, look l, h, b⟩ K := by
  have hn : nilC .geq a2 = false := rfl
  show (if nilC .geq a2 = true then nilEqA T t (BinOp.geq == BinOp.neq) (St.eval ⟨n, look l, h, b⟩ a) (fun v => K v h) else binA T .geq t (St.eval ⟨n, look l, h, b⟩ a) (St.eval ⟨n, look l, h, b⟩ a2) (fun v => K v h))
  rw [hn, if_neg (by simp), h1, h2]
  exact ⟨rfl, hk⟩
theorem o_shr {t u : TypeId} {k : IntKind} {k2 : IntKind} {x y : Int} (h1 : St.eval ⟨n, look l, h, b⟩ a = .int k x) (h2 : St.eval ⟨n, look l, h, b⟩ a2 = .int k2 y) (h0 : 0 <= y) (hk : K (.int k (x.fdiv (2 ^ (min y.toNat k.bits)))) h) : opC P T ⟨d, .binOp .shr t a a2 u, ty, pos, af, g⟩ ⟨n, look l, h, b⟩ K := by
  have hn : nilC .shr a2 = false := rfl
  show (if nilC .shr a2 = true then nilEqA T t (BinOp.shr == BinOp.neq) (St.eval ⟨n, look l, h, b⟩ a) (fun v => K v h) else binA T .shr t (St.eval ⟨n, look l, h, b⟩ a) (St.eval ⟨n, look l, h, b⟩ a2) (fun v => K v h))
  rw [hn, if_neg (by simp), h1, h2]
  exact ⟨h0, hk⟩
theorem o_eqI {t u : TypeId} {k : IntKind} {x y : Int} (hn : nilC .eql a2 = false) (h1 : St.eval ⟨n, look l, h, b⟩ a = .int k x) (h2 : St.eval ⟨n, look l, h, b⟩ a2 = .int k y) (hk : K (.bool (decide (x = y))) h) : opC P T ⟨d, .binOp .eql t a a2 u, ty, pos, af, g⟩ ⟨n, look l, h, b⟩ K := by
  show (if nilC .eql a2 = true then nilEqA T t (BinOp.eql == BinOp.neq) (St.eval ⟨n, look l, h, b⟩ a) (fun v => K v h) else binA T .eql t (St.eval ⟨n, look l, h, b⟩ a) (St.eval ⟨n, look l, h, b⟩ a2) (fun v => K v h))
  rw [hn, if_neg (by simp), h1, h2]
  refine ⟨rfl, ?_⟩
  have e : (x == y) = decide (x = y) := by by_cases h : x = y <;> simp [h]
  simpa [e] using hk
theorem o_neI {t u : TypeId} {k : IntKind} {x y : Int} (hn : nilC .neq a2 = false) (h1 : St.eval ⟨n, look l, h, b⟩ a = .int k x) (h2 : St.eval ⟨n, look l, h, b⟩ a2 = .int k y) (hk : K (.bool (decide (¬ x = y))) h) : opC P T ⟨d, .binOp .neq t a a2 u, ty, pos, af, g⟩ ⟨n, look l, h, b⟩ K := by
  show (if nilC .neq a2 = true then nilEqA T t (BinOp.neq == BinOp.neq) (St.eval ⟨n, look l, h, b⟩ a) (fun v => K v h) else binA T .neq t (St.eval ⟨n, look l, h, b⟩ a) (St.eval ⟨n, look l, h, b⟩ a2) (fun v => K v h))
  rw [hn, if_neg (by simp), h1, h2]
  refine ⟨rfl, ?_⟩
  have e : (x != y) = decide (¬ x = y) := by by_cases h : x = y <;> simp [h]
  simpa [e] using hk
theorem o_not {t : TypeId} {p : Prop} [Decidable p] (h1 : St.eval ⟨n, look l, h, b⟩ a = .bool (decide p)) (hk : K (.bool (decide (¬ p))) h) : opC P T ⟨d, .unOp .not t a, ty, pos, af, g⟩ ⟨n, look l, h, b⟩ K := by
  show unA .not (St.eval ⟨n, look l, h, b⟩ a) (fun v => K v h)
  rw [h1]
  show K (.bool (!decide p)) h
  rw [<- decide_not]
  exact hk
theorem o_notB {t : TypeId} {q : Bool} (h1 : St.eval ⟨n, look l, h, b⟩ a = .bool q) (hk : K (.bool (decide (¬ q = true))) h) : opC P T ⟨d, .unOp .not t a, ty, pos, af, g⟩ ⟨n, look l, h, b⟩ K := by
  show unA .not (St.eval ⟨n, look l, h, b⟩ a) (fun v => K v h)
  rw [h1]
  show K (.bool (!q)) h
  cases q <;> exact hk
theorem o_neg {t : TypeId} {x : Int} (h1 : St.eval ⟨n, look l, h, b⟩ a = .int .i64 x) (hi : inI (-x)) (hk : K (.int .i64 (-x)) h) : opC P T ⟨d, .unOp .neg t a, ty, pos, af, g⟩ ⟨n, look l, h, b⟩ K := by
  show unA .neg (St.eval ⟨n, look l, h, b⟩ a) (fun v => K v h)
  rw [h1]
  exact ⟨hi, hk⟩
theorem o_conv {t u : TypeId} {si : TI} {k k2 : IntKind} {s by_ : Nat} {z : List AV} {x y : Int} (ht : T t = some si) (hu : T u = some ⟨.int k2, s, by_, z⟩) (h1 : St.eval ⟨n, look l, h, b⟩ a = .int k x) (hy : k2.wrap x = y) (hk : K (.int k2 y) h) : opC P T ⟨d, .convert t u a, ty, pos, af, g⟩ ⟨n, look l, h, b⟩ K := by
  show convA T t u (St.eval ⟨n, look l, h, b⟩ a) (fun v => K v h)
  subst hy
  rw [h1]; simp only [convA, ht, hu]; exact hk
theorem o_ext {i : Nat} {cs : List AV} {v : AV} (h1 : St.eval ⟨n, look l, h, b⟩ a = .tup cs) (hv : cs[i]? = some v) (hk : K v h) : opC P T ⟨d, .extract a i, ty, pos, af, g⟩ ⟨n, look l, h, b⟩ K := by
  show (match St.eval ⟨n, look l, h, b⟩ a with
    | .tup cs => i < cs.length /\ K (cs.getD i .any) h
    | _ => False)
  rw [h1]
  refine ⟨(List.getElem?_eq_some_iff.1 hv).1, ?_⟩
  rw [List.getD_eq_getElem?_getD, hv]; exact hk
theorem o_build {t : TypeId} {ps : Array (Nat × Operand)} {i : TI} {fs : List (Nat × TypeId)} {qs : List (Nat × AV)} {cs : List AV} (ht : T t = some i) (hk0 : i.k = .st fs) (hp : (ps.toList.map fun p => (p.1, St.eval ⟨n, look l, h, b⟩ p.2)) = qs) (hf : fillE (fieldPl T fs) i.zero qs = some cs) (hk : K (.agg cs) h) : opC P T ⟨d, .build t ps, ty, pos, af, g⟩ ⟨n, look l, h, b⟩ K := by
  show buildA T t (ps.toList.map fun p => (p.1, St.eval ⟨n, look l, h, b⟩ p.2)) (fun v => K v h)
  rw [hp]; simp only [buildA, ht, hk0]
  exact fillE_spec hf hk
theorem o_buildS {t e : TypeId} {m : Nat} {ps : Array (Nat × Operand)} {s by_ es eb q : Nat} {z ez : List AV} {ek : TK} {qs : List (Nat × AV)} {cs : List AV} (ht : T t = some ⟨.sl e, s, by_, z⟩) (he : T e = some ⟨ek, es, eb, ez⟩) (hb : (Nat.ble m 65536 && Nat.ble 1 es && Nat.ble es 256) = true) (hp : (ps.toList.map fun p => (p.1, St.eval ⟨n, look l, h, b⟩ p.2)) = qs) (hq : h.length = q) (hf : fillE (fun j => some (j * es, es)) (zerosA m es ez) qs = some cs) (hk : K (.ref false q m) (h ++ [.row e es cs])) : opC P T ⟨d, .buildSlice t m ps, ty, pos, af, g⟩ ⟨n, look l, h, b⟩ K := by
  show buildSliceA T h t m (ps.toList.map fun p => (p.1, St.eval ⟨n, look l, h, b⟩ p.2)) K
  subst hq
  rw [hp]; simp only [buildSliceA, ht, he]
  simp only [Bool.and_eq_true] at hb
  exact ⟨⟨Nat.le_of_ble_eq_true hb.1.1, Nat.le_of_ble_eq_true hb.1.2, Nat.le_of_ble_eq_true hb.2⟩, fillE_spec (K := fun cs => K (.ref false h.length m) (h ++ [.row e es cs])) hf hk⟩
theorem o_slL {t e : TypeId} {s by_ es eb : Nat} {z ez : List AV} {ek : TK} (ht : T t = some ⟨.sl e, s, by_, z⟩) (he : T e = some ⟨ek, es, eb, ez⟩) {lo hi : Option Operand} {x y : Int} {α : Type} {en : α -> List AV} {xs ys : List α} {fl : Bool} {m : Nat} (h1 : St.eval ⟨n, look l, h, b⟩ a = .lst fl m (zYy en xs)) (hw : Wd en es) (hm : m = xs.length) (hlo : boundA 0 (lo.map (St.eval ⟨n, look l, h, b⟩)) = some x) (hhi : boundA m (hi.map (St.eval ⟨n, look l, h, b⟩)) = some y) (hj : 0 <= x /\ x <= y /\ y <= (xs.length : Int)) (hy : (xs.drop x.toNat).take (y.toNat - x.toNat) = ys) (hk : K (.lst fl ys.length (zYy en ys)) h) : opC P T ⟨d, .slice t a lo hi none, ty, pos, af, g⟩ ⟨n, look l, h, b⟩ K := by
  show sliceA T t (St.eval ⟨n, look l, h, b⟩ a) (lo.map (St.eval ⟨n, look l, h, b⟩)) (hi.map (St.eval ⟨n, look l, h, b⟩)) none (fun v => K v h)
  subst hm
  rw [h1]; simp only [sliceA, ht, he, hlo, hhi]
  refine ⟨hj, ?_⟩
  rw [encL_drop hw, encL_take hw, hy]
  have e : y.toNat - x.toNat = ys.length := by rw [<- hy]; simp; omega
  rw [e]; exact hk
theorem o_slR {t e : TypeId} {s by_ es eb : Nat} {z ez : List AV} {ek : TK} (ht : T t = some ⟨.sl e, s, by_, z⟩) (he : T e = some ⟨ek, es, eb, ez⟩) {lo hi : Option Operand} {x y : Int} {nb : Bool} {id m off c : Nat} (h1 : St.eval ⟨n, look l, h, b⟩ a = .ref nb id m) (hlo : boundA 0 (lo.map (St.eval ⟨n, look l, h, b⟩)) = some x) (hhi : boundA m (hi.map (St.eval ⟨n, look l, h, b⟩)) = some y) (hj : 0 < m /\ 0 <= x /\ x <= y /\ y <= (m : Int)) (hoff : x.toNat * es = off) (hc : y.toNat - x.toNat = c) (hk : K (.sub id off c) h) : opC P T ⟨d, .slice t a lo hi none, ty, pos, af, g⟩ ⟨n, look l, h, b⟩ K := by
  show sliceA T t (St.eval ⟨n, look l, h, b⟩ a) (lo.map (St.eval ⟨n, look l, h, b⟩)) (hi.map (St.eval ⟨n, look l, h, b⟩)) none (fun v => K v h)
  subst hoff; subst hc
  rw [h1]; simp only [sliceA, ht, he, hlo, hhi]
  exact ⟨hj, hk⟩
theorem o_slA {t e : TypeId} {m s by_ es eb : Nat} {z ez : List AV} {ek : TK} (ht : T t = some ⟨.ar m e, s, by_, z⟩) (he : T e = some ⟨ek, es, eb, ez⟩) {lo hi : Option Operand} {x y : Int} {id q off c : Nat} (h1 : St.eval ⟨n, look l, h, b⟩ a = .ptr id q) (hlo : boundA 0 (lo.map (St.eval ⟨n, look l, h, b⟩)) = some x) (hhi : boundA m (hi.map (St.eval ⟨n, look l, h, b⟩)) = some y) (hj : 0 <= x /\ x <= y /\ y <= (m : Int)) (hoff : q + x.toNat * es = off) (hc : y.toNat - x.toNat = c) (hk : K (.sub id off c) h) : opC P T ⟨d, .slice t a lo hi none, ty, pos, af, g⟩ ⟨n, look l, h, b⟩ K := by
  show sliceA T t (St.eval ⟨n, look l, h, b⟩ a) (lo.map (St.eval ⟨n, look l, h, b⟩)) (hi.map (St.eval ⟨n, look l, h, b⟩)) none (fun v => K v h)
  subst hoff; subst hc
  rw [h1]; simp only [sliceA, ht, he, hlo, hhi]
  exact ⟨hj, hk⟩
theorem o_apN {t e : TypeId} {s by_ es eb : Nat} {z ez ys : List AV} {ek : TK} {m p q : Nat} {cc : List AV} (ht : T t = some ⟨.sl e, s, by_, z⟩) (he : T e = some ⟨ek, es, eb, ez⟩) (hb : (Nat.ble 1 es && Nat.ble eb 131072) = true) (h1 : St.eval ⟨n, look l, h, b⟩ a = .nilS) (hs : srcA h es (St.eval ⟨n, look l, h, b⟩ a2) = some (m, ys)) (hl : ys.length = m * es) (hm : m <= 1073741824) (hp : h.length = p) (hk : K (.ref true p m) (h ++ [.row e es ys])) : opC P T ⟨d, .call ⟨.builtin .append, #[a, a2], #[t, t]⟩, ty, pos, af, g⟩ ⟨n, look l, h, b⟩ K := by
  show (t = t /\ appendA T h t (St.eval ⟨n, look l, h, b⟩ a) (St.eval ⟨n, look l, h, b⟩ a2) K)
  subst hp
  rw [h1]; simp only [appendA, ht, he, hs]
  simp only [Bool.and_eq_true] at hb
  exact ⟨trivial, ⟨Nat.le_of_ble_eq_true hb.1, Nat.le_of_ble_eq_true hb.2⟩, hl, hm, hk⟩
theorem o_apR {t e : TypeId} {s by_ es eb : Nat} {z ez ys : List AV} {ek : TK} {m p q : Nat} {cc : List AV} (ht : T t = some ⟨.sl e, s, by_, z⟩) (he : T e = some ⟨ek, es, eb, ez⟩) (hb : (Nat.ble 1 es && Nat.ble eb 131072) = true) {nb : Bool} {id k : Nat} {cs : List AV} (h1 : St.eval ⟨n, look l, h, b⟩ a = .ref nb id k) (hs : srcA h es (St.eval ⟨n, look l, h, b⟩ a2) = some (m, ys)) (hl : ys.length = m * es) (ho : h[id]? = some (.row e es cs)) (hcl : cs.length = k * es) (hm : k + m <= 1073741824) (hp : h.length = p) (hq : k + m = q) (hcc : cs ++ ys = cc) (hk : K (.ref nb p q) (h.set id .dead ++ [.row e es cc])) : opC P T ⟨d, .call ⟨.builtin .append, #[a, a2], #[t, t]⟩, ty, pos, af, g⟩ ⟨n, look l, h, b⟩ K := by
  show (t = t /\ appendA T h t (St.eval ⟨n, look l, h, b⟩ a) (St.eval ⟨n, look l, h, b⟩ a2) K)
  subst hp; subst hq; subst hcc
  rw [h1]; simp only [appendA, ht, he, hs, ho]
  simp only [Bool.and_eq_true] at hb
  refine ⟨trivial, ⟨Nat.le_of_ble_eq_true hb.1, Nat.le_of_ble_eq_true hb.2⟩, hl, ⟨trivial, trivial, by omega, hm⟩, ?_⟩
  rw [<- hcl, List.take_length]
  exact hk
theorem src_lst {α : Type} {en : α -> List AV} {sz : Nat} (hw : Wd en sz) (xs : List α) (fl : Bool) {m : Nat} (hm : m = xs.length) : srcA h sz (.lst fl m (zYy en xs)) = some (xs.length, zYy en xs) := by
  subst hm
  simp only [srcA]
  rw [<- zYw hw xs, List.take_length]
theorem src_ref {sz t sz' id m : Nat} {nb : Bool} {cs : List AV} (ho : h[id]? = some (.row t sz' cs)) (hl : cs.length = m * sz) : srcA h sz (.ref nb id m) = some (m, cs) := by
  simp only [srcA, ho]
  rw [<- hl, List.take_length]
theorem ca_row {α : Type} [Inhabited α] {en : α -> List AV} {xs : List α} {t sz id : Nat} {i : Int} (ho : h[id]? = some (.row t sz (zYy en xs))) (hw : Wd en sz) (hj : 0 <= i /\ i < (xs.length : Int)) : ∃ rest, cellsAt h (.ptr id (i.toNat * sz)) = some (en (lat xs i) ++ rest) := by
  obtain ⟨rest, hr⟩ := encL_at hw xs i hj.1 hj.2
  exact ⟨rest, by simp only [cellsAt, ho, hr]⟩
theorem ca_rowF {α : Type} [Inhabited α] {en : α -> List AV} {xs : List α} {t sz id k : Nat} {i : Int} (ho : h[id]? = some (.row t sz (zYy en xs))) (hw : Wd en sz) (hj : 0 <= i /\ i < (xs.length : Int)) (hk : Nat.ble k sz = true) : ∃ rest, cellsAt h (.ptr id (i.toNat * sz + k)) = some ((en (lat xs i)).drop k ++ rest) := by
  obtain ⟨rest, hr⟩ := encL_at' hw xs i k (Nat.le_of_ble_eq_true hk) hj.1 hj.2
  exact ⟨rest, by simp only [cellsAt, ho, hr]⟩

theorem FnP.wk {k : FuncId} {xs ys : List AV} {Post : AV -> Prop} (hw : Wks xs ys) (hf : FnP P k ys Post) : FnP P k xs Post := ⟨hf.1, fun m w vs hm hv => hf.2 m w vs hm (hw _ _ _ (Low.nest m) hv)⟩
theorem FnS.wk {k : FuncId} {xs ys : List AV} {Post : AV -> Prop} (hw : Wks xs ys) (hf : FnS P k ys Post) : FnS P k xs Post := ⟨hf.1, fun m w vs hm hv => hf.2 m w vs hm (hw _ _ _ (Low.nest m) hv)⟩
theorem o_callP {f : Operand} {args : Array Operand} {tys : Array TypeId} {k : FuncId} {fst caps ys xs : List AV} {Post : AV -> Prop} (hf : St.eval ⟨n, look l, h, b⟩ f = .clo k fst caps) (ha : args.toList.map (St.eval ⟨n, look l, h, b⟩) = ys)
    (spec : FnP P k xs Post) (hw : Wks ((fst ++ ys ++ caps).map (conv 6 h)) xs) (hk : ∀ x, Post x -> K x h) : opC P T ⟨d, .call ⟨.value f, args, tys⟩, ty, pos, af, g⟩ ⟨n, look l, h, b⟩ K := by
  show callR P ⟨.value f, args, tys⟩ ⟨n, look l, h, b⟩ K
  unfold callR
  simp only [hf]
  subst ha
  exact .inl ⟨Post, spec.wk hw, hk⟩
theorem zZu {f : Operand} {args : Array Operand} {tys : Array TypeId} {k : FuncId} {fst caps ys xs : List AV} {v : AV} (hf : St.eval ⟨n, look l, h, b⟩ f = .clo k fst caps) (ha : args.toList.map (St.eval ⟨n, look l, h, b⟩) = ys)
    (spec : FnP P k xs (fun x => x = v)) (hw : Wks ((fst ++ ys ++ caps).map (conv 6 h)) xs) (hk : K v h) : opC P T ⟨d, .call ⟨.value f, args, tys⟩, ty, pos, af, g⟩ ⟨n, look l, h, b⟩ K := o_callP hf ha spec hw (by rintro _ rfl; exact hk)
structure Enc {α : Type} (ef : Bool -> α -> List AV) (sz : Nat) : Prop where
  wd : ∀ fl, Wd (ef fl) sz
  cv : ∀ k h fl a, Wks ((ef fl a).map (conv (k + 1) h)) (ef true a)
  ci : ∀ k h a, Wks ((ef false a).map (cvI (k + 1) h)) (ef true a)
  co : ∀ k h a, Wks ((ef false a).map (cvO (k + 1) h)) (ef false a)
  sl : ∀ fl a, SealVs fl (ef fl a) (ef true a)
  cl : ∀ fl a, ∀ x ∈ ef fl a, clV x = true
theorem encL_cv {α : Type} {ef : Bool -> α -> List AV} {sz : Nat} (he : Enc ef sz) (k : Nat) (h : List AObj) (fl : Bool) : ∀ xs, Wks ((zYy (ef fl) xs).map (conv (k + 1) h)) (zYy (ef true) xs)
  | [] => Wks.refl _
  | x :: xs => by
    rw [encL_cons, encL_cons, List.map_append]
    exact Wks.app (he.cv k h fl x) (encL_cv he k h fl xs) (by rw [List.length_map, he.wd, he.wd])
theorem encL_ci {α : Type} {ef : Bool -> α -> List AV} {sz : Nat} (he : Enc ef sz) (k : Nat) (h : List AObj) : ∀ xs, Wks ((zYy (ef false) xs).map (cvI (k + 1) h)) (zYy (ef true) xs)
  | [] => Wks.refl _
  | x :: xs => by
    rw [encL_cons, encL_cons, List.map_append]
    exact Wks.app (he.ci k h x) (encL_ci he k h xs) (by rw [List.length_map, he.wd, he.wd])
theorem encL_sl {α : Type} {ef : Bool -> α -> List AV} {sz : Nat} (he : Enc ef sz) (fl : Bool) : ∀ xs, SealVs fl (zYy (ef fl) xs) (zYy (ef true) xs)
  | [] => SealVs.nil fl
  | x :: xs => by
    rw [encL_cons, encL_cons]
    exact SealVs.app (he.sl fl x) (encL_sl he fl xs)
theorem encL_cl {α : Type} {ef : Bool -> α -> List AV} {sz : Nat} (he : Enc ef sz) (fl : Bool) (xs : List α) : ∀ x ∈ zYy (ef fl) xs, clV x = true := by
  intro x hx
  simp only [zYy, List.mem_flatMap] at hx
  obtain ⟨a, _, ha⟩ := hx
  exact he.cl fl a x ha
theorem Rens.enc {φ : List (Option Nat)} {α : Type} {ef : Bool -> α -> List AV} {sz : Nat} (he : Enc ef sz) (fl : Bool) (xs : List α) : Rens φ (zYy (ef fl) xs) (zYy (ef fl) xs) := Rens.cl (encL_cl he fl xs)
theorem conv_int (k : Nat) (h : List AObj) (q : IntKind) (x : Int) : conv k h (.int q x) = .int q x := by cases k <;> rfl
theorem conv_lst (k : Nat) (h : List AObj) (fl : Bool) (m : Nat) (cs : List AV) : conv k h (.lst fl m cs) = .lst true m cs := by cases k <;> rfl
theorem cvI_int (k : Nat) (h : List AObj) (q : IntKind) (x : Int) : cvI k h (.int q x) = .int q x := by cases k <;> rfl
theorem cvI_lst (k : Nat) (h : List AObj) (m : Nat) (cs : List AV) : cvI k h (.lst false m cs) = .lst true m cs := by cases k <;> rfl
theorem cvO_int (k : Nat) (h : List AObj) (q : IntKind) (x : Int) : cvO k h (.int q x) = .int q x := by cases k <;> rfl
theorem cvO_bool (k : Nat) (h : List AObj) (x : Bool) : cvO k h (.bool x) = .bool x := by cases k <;> rfl
theorem cvO_lst (k : Nat) (h : List AObj) (m : Nat) (cs : List AV) : cvO k h (.lst false m cs) = .lst false m cs := by cases k <;> rfl
theorem zZw : Enc (fun _ => zYx) 1 where
  wd _ _ := rfl
  cv k h _ a := by rw [zYx, List.map_cons, conv_int]; exact Wks.refl _
  ci k h a := by rw [zYx, List.map_cons, cvI_int]; exact Wks.refl _
  co k h a := by rw [zYx, List.map_cons, cvO_int]; exact Wks.refl _
  sl fl a := SealVs.cons (SealV.int fl _ _) (SealVs.nil fl)
  cl _ a x hx := by simp only [zYx, List.mem_singleton] at hx; subst hx; rfl
def eSl {α : Type} (e : α -> List AV) (fl : Bool) (r : List α) : List AV := [.lst fl r.length (zYy e r)]
theorem encSl {α : Type} (e : α -> List AV) : Enc (eSl e) 1 where
  wd _ _ := rfl
  cv k h fl a := by rw [eSl, List.map_cons, conv_lst]; exact Wks.refl _
  ci k h a := by rw [eSl, List.map_cons, cvI_lst]; exact Wks.refl _
  co k h a := by rw [eSl, List.map_cons, cvO_lst]; exact Wks.refl _
  sl fl a := SealVs.cons (SealV.lst fl _ _) (SealVs.nil fl)
  cl _ a x hx := by simp only [eSl, List.mem_singleton] at hx; subst hx; rfl

section
variable {α : Type} {ef : Bool -> α -> List AV} {sz : Nat}
theorem zZz (k : Nat) (h : List AObj) (q : IntKind) (x : Int) : Wk (conv k h (.int q x)) (.int q x) := by rw [conv_int]; exact Wk.refl _
theorem zZs (k : Nat) (h : List AObj) (fl : Bool) (m : Nat) (cs : List AV) : Wk (conv k h (.lst fl m cs)) (.lst true m cs) := by rw [conv_lst]; exact Wk.refl _
theorem ag_nil (k : Nat) (h : List AObj) (m : Nat) (cs : List AV) (hm : m = 0) : Wk (conv k h .nilS) (.lst true m cs) := by
  have : conv k h .nilS = .nilS := by cases k <;> rfl
  rw [this]; exact Wk.nil' _ _ _ hm
theorem ag_ref (he : Enc ef sz) (k : Nat) {h : List AObj} {id t : Nat} {fl : Bool} {xs : List α} (nb : Bool) {m : Nat} (ho : h[id]? = some (.row t sz (zYy (ef fl) xs))) (hm : m = xs.length) : Wk (conv (k + 2) h (.ref nb id m)) (.lst true xs.length (zYy (ef true) xs)) := by
  subst hm
  simp only [conv, ho]
  rw [<- zYw (he.wd fl) xs, List.take_length]
  exact Wk.lsts _ _ (encL_cv he k h fl xs)
theorem ag_refE (k : Nat) {h : List AObj} {id t m : Nat} {cs cs' ds : List AV} (nb : Bool) (ho : h[id]? = some (.row t sz cs)) (hc : cs.take (m * sz) = cs') (hd : Wks (cs'.map (conv (k + 1) h)) ds) : Wk (conv (k + 2) h (.ref nb id m)) (.lst true m ds) := by
  subst hc
  simp only [conv, ho]
  exact Wk.lsts _ _ hd
theorem zXx (k : Nat) (h : List AObj) {cs ds : List AV} (hc : Wks (cs.map (conv k h)) ds) : Wk (conv (k + 1) h (.agg cs)) (.agg ds) := Wk.agg hc
theorem ag_clo (k : Nat) (h : List AObj) (f : FuncId) {a b c d : List AV} (h1 : Wks (a.map (conv k h)) c) (h2 : Wks (b.map (conv k h)) d) : Wk (conv (k + 1) h (.clo f a b)) (.clo f c d) := Wk.clo f h1 h2
theorem zY (k : Nat) (h : List AObj) (q : IntKind) (x : Int) : Wk (cvO k h (.int q x)) (.int q x) := by rw [cvO_int]; exact Wk.refl _
theorem zYr (k : Nat) (h : List AObj) (x : Bool) : Wk (cvO k h (.bool x)) (.bool x) := by rw [cvO_bool]; exact Wk.refl _
theorem rs_lst (k : Nat) (h : List AObj) (m : Nat) (cs : List AV) : Wk (cvO k h (.lst false m cs)) (.lst false m cs) := by rw [cvO_lst]; exact Wk.refl _
theorem rs_nil (k : Nat) (h : List AObj) (m : Nat) (cs : List AV) (hm : m = 0) : Wk (cvO k h .nilS) (.lst false m cs) := by
  have : cvO k h .nilS = .nilS := by cases k <;> rfl
  rw [this]; exact Wk.nil' _ _ _ hm
theorem rs_ref (he : Enc ef sz) (k : Nat) {h : List AObj} {id t : Nat} {xs : List α} (nb : Bool) {m : Nat} (ho : h[id]? = some (.row t sz (zYy (ef false) xs))) (hm : m = xs.length) : Wk (cvO (k + 2) h (.ref nb id m)) (.lst false xs.length (zYy (ef true) xs)) := by
  subst hm
  simp only [cvO, ho]
  rw [<- zYw (he.wd false) xs, List.take_length]
  exact Wk.lsts _ _ (encL_ci he k h xs)
theorem rs_tup (k : Nat) (h : List AObj) {cs ds : List AV} (hc : Wks (cs.map (cvO k h)) ds) : Wk (cvO (k + 1) h (.tup cs)) (.tup ds) := Wk.tup hc
end

theorem rt {rs : List ResultVar} {KK : St -> AV -> Prop} {s : St} (h1 : resL T s rs fun vs => match vs with | [v] => KK s v | vs => KK s (.tup vs)) : retA T rs KK .ret s := h1
theorem rt_t {t : Tmp} {rs : List ResultVar} {KV : List AV -> Prop} {s : St} {v : AV} (hv : s.tm t = v) (h1 : resL T s rs fun vs => KV (v :: vs)) : resL T s (.tmp t :: rs) KV := by subst hv; exact h1
theorem rt_n {KV : List AV -> Prop} {s : St} (h1 : KV []) : resL T s [] KV := h1
theorem zXv {p q : Prop} [Decidable p] [Decidable q] (hp : p) {x : Bool} (hq : decide q = x) : decide (p /\ q) = x := by rw [<- hq]; simp [hp]
theorem dAndF {p q : Prop} [Decidable p] [Decidable q] (hp : ¬ p) : decide (p /\ q) = false := by simp [hp]
theorem dOrT {p q : Prop} [Decidable p] [Decidable q] (hp : p) : decide (p \/ q) = true := by simp [hp]
theorem dOrF {p q : Prop} [Decidable p] [Decidable q] (hp : ¬ p) {x : Bool} (hq : decide q = x) : decide (p \/ q) = x := by rw [<- hq]; simp [hp]
end
end Go.Lat
namespace Go.Lat
open Go.RowKit
section
variable {P : Program} {T : TT} {st st' : St} {Q : Ex -> St -> Prop} {c c' : Code} {n : Nat} {l l' : List (Nat × AV)} {h h' : List AObj} {b : Nat}
theorem W.rLm {id : Nat} {ol : List Oper} (st' : St) (h1 : seqL P T ol [] 0 ol st fun s => s.le st') (h2 : W P T c st' Q) : W P T (.seq (.region id ol.toArray false) c) st Q := W.seq _ (W.region [] h1) fun _ h => W.le h h2
theorem W.rDm {id : Nat} {ol : List Oper} (st' : St) (ord : List Nat) (hc : chk ol.toArray ord = true) (hl : (ord.map fun i => ol[i]?) = ol.map some) (h1 : seqL P T ol [] 0 ol st fun s => s.le st') (h2 : W P T c st' Q) : W P T (.seq (.region id ol.toArray true) c) st Q :=
  W.seq (fun s => s.le st') (W.rD1 ord hc hl h1) fun _ h => W.le h h2
theorem zYz (h1 : regsL (look l) l') (h2 : h = h') : St.le ⟨n, look l, h, b⟩ ⟨n, look l', h', b⟩ := by subst h2; exact ⟨rfl, rfl, rfl, regsL_look h1⟩
theorem dVar (b : Bool) : decide (b = true) = b := by cases b <;> rfl
theorem W.mid0 (S : St) (p : Prop) (h' : p -> W P T c' (S) Q) (h : W P T c st (thenA (fun s => ∃ (_ : Unit), p /\ s.to (S)) Q)) : W P T (.seq c c') st Q :=
  W.seq _ h fun _ ⟨_, hx, hs⟩ => W.to hs (h' hx)
theorem W.mid1 {α0 : Type} (S : α0 -> St) (p : α0 -> Prop) (h' : ∀ x0, p x0 -> W P T c' (S x0) Q) (h : W P T c st (thenA (fun s => ∃ (_ : Unit) (x0 : α0), p x0 /\ s.to (S x0)) Q)) : W P T (.seq c c') st Q :=
  W.seq _ h fun _ ⟨_, x0, hx, hs⟩ => W.to hs (h' x0 hx)
theorem W.loop1 {α0 : Type} (S : α0 -> St) (p : α0 -> Prop) (μ : α0 -> Nat) (z0 : α0) (hs : st.to (S z0)) (hp : p z0)
    (h : ∀ x0, p x0 -> W P T c (S x0) (thenA (fun s => ∃ (_ : Unit) (y0 : α0), (p y0 /\ μ y0 < μ x0) /\ s.to (S y0)) Q)) : W P T (.loop c) st Q :=
  W.loopT (α := α0) (fun x => S x) (fun x => p x) (fun x => μ x) (z0) hs hp fun x hx => (h x hx).mono fun e s hs' => by
    cases e <;> simp only [thenA] at hs' ⊢ <;> try exact hs'
    obtain ⟨_, y0, h1, h2⟩ := hs'
    exact ⟨(y0), h1, h2⟩
theorem W.mid2 {α0 α1 : Type} (S : α0 -> α1 -> St) (p : α0 -> α1 -> Prop) (h' : ∀ x0 x1, p x0 x1 -> W P T c' (S x0 x1) Q) (h : W P T c st (thenA (fun s => ∃ (_ : Unit) (x0 : α0) (x1 : α1), p x0 x1 /\ s.to (S x0 x1)) Q)) : W P T (.seq c c') st Q :=
  W.seq _ h fun _ ⟨_, x0, x1, hx, hs⟩ => W.to hs (h' x0 x1 hx)
theorem W.loop2 {α0 α1 : Type} (S : α0 -> α1 -> St) (p : α0 -> α1 -> Prop) (μ : α0 -> α1 -> Nat) (z0 : α0) (z1 : α1) (hs : st.to (S z0 z1)) (hp : p z0 z1)
    (h : ∀ x0 x1, p x0 x1 -> W P T c (S x0 x1) (thenA (fun s => ∃ (_ : Unit) (y0 : α0) (y1 : α1), (p y0 y1 /\ μ y0 y1 < μ x0 x1) /\ s.to (S y0 y1)) Q)) : W P T (.loop c) st Q :=
  W.loopT (α := α0 × α1) (fun x => S x.1 x.2) (fun x => p x.1 x.2) (fun x => μ x.1 x.2) (z0, z1) hs hp fun x hx => (h x.1 x.2 hx).mono fun e s hs' => by
    cases e <;> simp only [thenA] at hs' ⊢ <;> try exact hs'
    obtain ⟨_, y0, y1, h1, h2⟩ := hs'
    exact ⟨(y0, y1), h1, h2⟩
theorem W.mid3 {α0 α1 α2 : Type} (S : α0 -> α1 -> α2 -> St) (p : α0 -> α1 -> α2 -> Prop) (h' : ∀ x0 x1 x2, p x0 x1 x2 -> W P T c' (S x0 x1 x2) Q) (h : W P T c st (thenA (fun s => ∃ (_ : Unit) (x0 : α0) (x1 : α1) (x2 : α2), p x0 x1 x2 /\ s.to (S x0 x1 x2)) Q)) : W P T (.seq c c') st Q :=
  W.seq _ h fun _ ⟨_, x0, x1, x2, hx, hs⟩ => W.to hs (h' x0 x1 x2 hx)
theorem W.loop3 {α0 α1 α2 : Type} (S : α0 -> α1 -> α2 -> St) (p : α0 -> α1 -> α2 -> Prop) (μ : α0 -> α1 -> α2 -> Nat) (z0 : α0) (z1 : α1) (z2 : α2) (hs : st.to (S z0 z1 z2)) (hp : p z0 z1 z2)
    (h : ∀ x0 x1 x2, p x0 x1 x2 -> W P T c (S x0 x1 x2) (thenA (fun s => ∃ (_ : Unit) (y0 : α0) (y1 : α1) (y2 : α2), (p y0 y1 y2 /\ μ y0 y1 y2 < μ x0 x1 x2) /\ s.to (S y0 y1 y2)) Q)) : W P T (.loop c) st Q :=
  W.loopT (α := α0 × α1 × α2) (fun x => S x.1 x.2.1 x.2.2) (fun x => p x.1 x.2.1 x.2.2) (fun x => μ x.1 x.2.1 x.2.2) (z0, z1, z2) hs hp fun x hx => (h x.1 x.2.1 x.2.2 hx).mono fun e s hs' => by
    cases e <;> simp only [thenA] at hs' ⊢ <;> try exact hs'
    obtain ⟨_, y0, y1, y2, h1, h2⟩ := hs'
    exact ⟨(y0, y1, y2), h1, h2⟩
theorem W.mid4 {α0 α1 α2 α3 : Type} (S : α0 -> α1 -> α2 -> α3 -> St) (p : α0 -> α1 -> α2 -> α3 -> Prop) (h' : ∀ x0 x1 x2 x3, p x0 x1 x2 x3 -> W P T c' (S x0 x1 x2 x3) Q) (h : W P T c st (thenA (fun s => ∃ (_ : Unit) (x0 : α0) (x1 : α1) (x2 : α2) (x3 : α3), p x0 x1 x2 x3 /\ s.to (S x0 x1 x2 x3)) Q)) : W P T (.seq c c') st Q :=
  W.seq _ h fun _ ⟨_, x0, x1, x2, x3, hx, hs⟩ => W.to hs (h' x0 x1 x2 x3 hx)
theorem W.loop4 {α0 α1 α2 α3 : Type} (S : α0 -> α1 -> α2 -> α3 -> St) (p : α0 -> α1 -> α2 -> α3 -> Prop) (μ : α0 -> α1 -> α2 -> α3 -> Nat) (z0 : α0) (z1 : α1) (z2 : α2) (z3 : α3) (hs : st.to (S z0 z1 z2 z3)) (hp : p z0 z1 z2 z3)
    (h : ∀ x0 x1 x2 x3, p x0 x1 x2 x3 -> W P T c (S x0 x1 x2 x3) (thenA (fun s => ∃ (_ : Unit) (y0 : α0) (y1 : α1) (y2 : α2) (y3 : α3), (p y0 y1 y2 y3 /\ μ y0 y1 y2 y3 < μ x0 x1 x2 x3) /\ s.to (S y0 y1 y2 y3)) Q)) : W P T (.loop c) st Q :=
  W.loopT (α := α0 × α1 × α2 × α3) (fun x => S x.1 x.2.1 x.2.2.1 x.2.2.2) (fun x => p x.1 x.2.1 x.2.2.1 x.2.2.2) (fun x => μ x.1 x.2.1 x.2.2.1 x.2.2.2) (z0, z1, z2, z3) hs hp fun x hx => (h x.1 x.2.1 x.2.2.1 x.2.2.2 hx).mono fun e s hs' => by
    cases e <;> simp only [thenA] at hs' ⊢ <;> try exact hs'
    obtain ⟨_, y0, y1, y2, y3, h1, h2⟩ := hs'
    exact ⟨(y0, y1, y2, y3), h1, h2⟩
end
end Go.Lat
namespace Go.Lat
open Go.RowKit
theorem stepR_scope' {P : Program} {b : Frame} {a : Act} {k : List Item} {cs : List Frame} {w : World} {c : Code} : step P (lone (b.atR a (.code (.scope c) :: k)) cs w) = .next (lone (b.atR a (.code c :: .inScope c :: k)) cs w) :=
  step_lone_go (by simp [Go.stepG, Go.stepG.exec, Frame.atR])
theorem stepR_inScope' {P : Program} {b : Frame} {a : Act} {k : List Item} {cs : List Frame} {w : World} {c : Code} : step P (lone (b.atR a (.inScope c :: k)) cs w) = .next (lone (b.atR a k) cs w) :=
  step_lone_go (by simp [Go.stepG, Go.stepG.exec, Frame.atR])
theorem W.scope {P : Program} {T : TT} {st : St} {Q : Ex -> St -> Prop} {c : Code} (h : W P T c st Q) : W P T (.scope c) st Q := fun hT hf ro hng n X D w0 mA r m a w hR => by
  intro b k cs hro hb hr
  have h0 : (lone (b.atR a (.code (.scope c) :: k)) cs w).fenced P (FW ro) := fenced_calm hb hr rfl
  obtain ⟨e, a1, w1, hq, harr⟩ := h hT hf ro hng n X D w0 mA r m a w hR b (.inScope c :: k) cs hro hb hr
  cases e with
  | normal => exact ⟨.normal, a1, w1, hq, .head h0 stepR_scope' (StepsIn.trans harr (.one (fenced_calm hb hr rfl) stepR_inScope'))⟩
  | exit id =>
    have hx : exitTo id (.inScope c :: k) = exitTo id k := by simp [exitTo]
    exact ⟨.exit id, a1, w1, hq, fun k' hk => .head h0 stepR_scope' (harr.1 k' (by rw [hx]; exact hk)), fun hr' hk => let ⟨k1, h1, h2⟩ := harr.2 hr' (by rw [hx]; exact hk); ⟨k1, h1, .head h0 stepR_scope' h2⟩⟩
  | goto l => exact hq.elim
  | ret => exact ⟨_, a1, w1, hq, .of_steps (.one h0 stepR_scope') harr⟩
  | panic ch => exact ⟨_, a1, w1, hq, .of_steps (.one h0 stepR_scope') harr⟩
  | outgrown => exact ⟨_, a1, w1, hq, .of_steps (.one h0 stepR_scope') harr⟩
section
variable {P : Program} {T : TT} {d : Option Tmp} {ty : TypeId} {pos : String} {af : Array Edge} {g : Option (Nat × Bool)} {n : Nat} {l : List (Nat × AV)} {h : List AObj} {b : Nat} {K : AV -> List AObj -> Prop} {a a2 a3 : Operand}
theorem cell_of {X : Option (List AV)} {cs ds : List AV} {v : AV} (hc : ∃ rest, X = some (cs ++ rest)) (h1 : cs = v :: ds) : ∃ rest, X = some (v :: rest) := by
  obtain ⟨rest, hc⟩ := hc
  subst h1
  exact ⟨ds ++ rest, hc⟩
theorem row_in {α : Type} {e : α -> List AV} {sz : Nat} (hw : Wd e sz) {xs : List α} {i : Int} (hj : 0 <= i /\ i < (xs.length : Int)) {vs : List AV} (hv : vs.length = sz) : i.toNat * sz + vs.length <= (zYy e xs).length := by
  rw [zYw hw, hv]
  have hj' : i.toNat < xs.length := by omega
  have := Nat.mul_le_mul_right sz hj'
  rw [Nat.succ_mul] at this
  exact this
theorem spl_all (cs vs : List AV) (h1 : vs.length = cs.length) : Lat.spl cs 0 vs = vs := by
  rw [Lat.spl_eq _ _ _ (by omega)]
  simp [h1]
def vput {n : Nat} (M : Vector Int n) (off : Nat) (xs : List Int) : Vector Int n :=
  if h : off + xs.length <= n then ⟨(M.toList.take off ++ xs ++ M.toList.drop (off + xs.length)).toArray, by simp; omega⟩ else M
theorem o_iaPV {t e : TypeId} {s by_ eb k : Nat} {z ez : List AV} {ek : TK} {M : Vector Int k} {fl : Bool} {rest : List AV} (ht : T t = some ⟨.ar k e, s, by_, z⟩) (he : T e = some ⟨ek, 1, eb, ez⟩)
    (h1 : St.eval ⟨n, look l, h, b⟩ a = .ipt fl (zYy zYx M.toList ++ rest)) {ik : IntKind} {i : Int} (h2 : St.eval ⟨n, look l, h, b⟩ a2 = .int ik i) (hj : 0 <= i /\ i < (k : Int))
    (hk : ∀ rest, K (.ipt fl (.int .i64 (vat M i.toNat) :: rest)) h) : opC P T ⟨d, .indexAddr t a a2, ty, pos, af, g⟩ ⟨n, look l, h, b⟩ K := by
  show indexAddrA T t (St.eval ⟨n, look l, h, b⟩ a) (St.eval ⟨n, look l, h, b⟩ a2) (fun v => K v h)
  rw [h1, h2]; simp only [indexAddrA, ht, he]
  refine ⟨hj, ?_⟩
  obtain ⟨r2, hr⟩ := ints_at M i.toNat (by omega)
  rw [Nat.mul_one, List.drop_append_of_le_length (by rw [zX]; omega), hr]
  exact hk _
theorem o_bs1 {t e i : TypeId} {s by_ es eb q : Nat} {z ez : List AV} {ek : TK} {v : AV} {cs cs2 : List AV} (ht : T t = some ⟨.sl e, s, by_, z⟩) (he : T e = some ⟨ek, es, eb, ez⟩) (hb : (Nat.ble 1 es && Nat.ble es 256) = true)
    (h1 : St.eval ⟨n, look l, h, b⟩ a = v) (hc : v.cells = some cs) (hl : cs.length = es) (hz : ez.length = es) (hq : h.length = q) (_hi : i = 0) (hcs : cs = cs2) (hk : K (.ref false q 1) (h ++ [.row e es cs2])) : opC P T ⟨d, .buildSlice t 1 #[(i, a)], ty, pos, af, g⟩ ⟨n, look l, h, b⟩ K := by
  subst _hi; subst hcs
  show buildSliceA T h t 1 [((0 : Nat), St.eval ⟨n, look l, h, b⟩ a)] K
  subst hq
  simp only [Bool.and_eq_true] at hb
  rw [h1]; simp only [buildSliceA, ht, he]
  have hpos := Nat.le_of_ble_eq_true hb.1
  refine ⟨⟨by omega, hpos, Nat.le_of_ble_eq_true hb.2⟩, ?_⟩
  have hzl : (zerosA 1 es ez).length = es := by simp [zerosA]
  simp only [fillP, hc]
  refine ⟨hl, by rw [hzl]; omega, ?_⟩
  rw [Nat.zero_mul, spl_all _ _ (by rw [hl, hzl])]
  exact hk
theorem callH_C1 {k : FuncId} {args xs : List AV} {o : AObj} (hf : FnH P k [] xs (fun x H' => ∃ l, H' = o :: l /\ x = .chn 0)) (hw : Wks (args.map (conv 6 h)) xs) (hfl : flatC o) (hp : h.length = n)
    (hk : K (.chn n) (h ++ [o])) : callH P h (.clo k [] []) args K := by
  subst hp
  refine .inr (.inr (.inr ⟨fun o' => o' = o, ⟨hf.1, fun mA w r0 vs h1 h2 h3 h4 h5 h6 h7 => (hf.2 mA w r0 vs h1 h2 h3 h4 h5 h6 ?_).mono ?_⟩, ?_⟩))
  . have : r0 = [] := List.eq_nil_of_length_eq_zero h3
    subst this
    exact hw _ _ _ (Low.nest mA) h7
  . rintro e w' ⟨v, x, r', m', H', a', h8, ⟨l, h9, h10⟩, h11⟩
    exact ⟨v, x, r', m', H', a', h8, ⟨o, l, h9, h10, hfl, rfl⟩, h11⟩
  . rintro _ rfl; exact hk
end
theorem FnH.mono {P : Program} {f : FuncId} {H : List AObj} {args : List AV} {A B : AV -> List AObj -> Prop} (h : FnH P f H args A) (hab : ∀ x l, A x l -> B x l) : FnH P f H args B :=
  ⟨h.1, fun mA w r0 vs h1 h2 h3 h4 h5 h6 h7 => (h.2 mA w r0 vs h1 h2 h3 h4 h5 h6 h7).mono fun _ _ ⟨v, x, r', m', H', a', e1, e2, e3⟩ => ⟨v, x, r', m', H', a', e1, hab _ _ e2, e3⟩⟩
def pickL (ol : List Oper) : List Nat -> List Oper
  | [] => []
  | i :: l => match ol[i]? with
    | some o => o :: pickL ol l
    | none => pickL ol l
def allIn (ol : List Oper) (ord : List Nat) : Bool := ord.all fun i => Nat.blt i ol.length
theorem pickL_spec {ol : List Oper} : ∀ {ord : List Nat}, allIn ol ord = true -> (ord.map fun i => ol[i]?) = (pickL ol ord).map some
  | [], _ => rfl
  | i :: l, h => by
    simp only [allIn, List.all_cons, Bool.and_eq_true] at h
    have hi : i < ol.length := Nat.le_of_ble_eq_true h.1
    simp only [List.map_cons, pickL, List.getElem?_eq_getElem hi]
    rw [pickL_spec (ord := l) h.2]
theorem W.rP {P : Program} {T : TT} {st : St} {Q : Ex -> St -> Prop} {c : Code} {id : Nat} {ol : List Oper} (ord : List Nat) (hc : chk ol.toArray ord = true) (hl : allIn ol ord = true) (h1 : seqL P T ol [] 0 (pickL ol ord) st fun s => W P T c s Q) : W P T (.seq (.region id ol.toArray true) c) st Q :=
  W.rO ord _ hc (pickL_spec hl) h1
theorem W.rP1 {P : Program} {T : TT} {st : St} {Q : Ex -> St -> Prop} {id : Nat} {ol : List Oper} (ord : List Nat) (hc : chk ol.toArray ord = true) (hl : allIn ol ord = true) (h1 : seqL P T ol [] 0 (pickL ol ord) st (Q .nrm)) : W P T (.region id ol.toArray true) st Q :=
  W.rO1 ord _ hc (pickL_spec hl) h1
theorem W.rPm {P : Program} {T : TT} {st : St} {Q : Ex -> St -> Prop} {c : Code} {id : Nat} {ol : List Oper} (st' : St) (ord : List Nat) (hc : chk ol.toArray ord = true) (hl : allIn ol ord = true) (h1 : seqL P T ol [] 0 (pickL ol ord) st fun s => s.le st') (h2 : W P T c st' Q) : W P T (.seq (.region id ol.toArray true) c) st Q :=
  W.seq (fun s => s.le st') (W.rP1 ord hc hl h1) fun _ h => W.le h h2
theorem Ren.refL {φ : List (Option Nat)} {nb nb' : Bool} {id j n n' : Nat} (hφ : φ[j]? = some (some id)) (hb : nb' = true -> nb = true) (hn : n = n') : Ren φ (.ref nb id n) (.ref nb' j n') := by
  subst hn; exact Ren.ref hφ hb
theorem Ren.boolE {φ : List (Option Nat)} {a b : Bool} (h : b = a) : Ren φ (.bool a) (.bool b) := by subst h; exact Ren.bool _
theorem W.rLmT {P : Program} {T : TT} {st : St} {Q : Ex -> St -> Prop} {c : Code} {id : Nat} {ol : List Oper} (st' : St) (h1 : seqL P T ol [] 0 ol st fun s => s.to st') (h2 : W P T c st' Q) : W P T (.seq (.region id ol.toArray false) c) st Q := W.seq _ (W.region [] h1) fun _ h => W.to h h2
theorem src_subR {α : Type} {e : α -> List AV} {sz t id off k m : Nat} {xs ys : List α} {h : List AObj} (hw : Wd e sz) (ho : h[id]? = some (.row t sz (zYy e xs))) (hoff : off = k * sz) (hy : (xs.drop k).take m = ys) (hm : m = ys.length) : srcA h sz (.sub id off m) = some (ys.length, zYy e ys) := by
  subst hoff; subst hm
  simp only [srcA, ho]
  rw [encL_drop hw, encL_take hw, hy]
theorem encL_co {α : Type} {ef : Bool -> α -> List AV} {sz : Nat} (he : Enc ef sz) (k : Nat) (h : List AObj) : ∀ xs, Wks ((zYy (ef false) xs).map (cvO (k + 1) h)) (zYy (ef false) xs)
  | [] => Wks.refl _
  | x :: xs => by
    rw [encL_cons, List.map_append]
    exact Wks.app (he.co k h x) (encL_co he k h xs) (by rw [List.length_map])
theorem agI_int (k : Nat) (h : List AObj) (q : IntKind) (x : Int) : Wk (cvI k h (.int q x)) (.int q x) := by rw [cvI_int]; exact Wk.refl _
theorem agI_lst (k : Nat) (h : List AObj) (m : Nat) (cs : List AV) : Wk (cvI k h (.lst false m cs)) (.lst true m cs) := by rw [cvI_lst]; exact Wk.refl _
end Go.Lat
namespace Go.Lat
open Go.RowKit Go.Proofs
set_option maxRecDepth 100000
def tt : TT := fun t =>
  if t = 99 then some ⟨.int .u64, 1, 8, [.int .u64 0]⟩ else
  if t = 3 then some ⟨.int .i64, 1, 8, [.int .i64 0]⟩ else
  if t = 29 then some ⟨.int .i64, 1, 8, [.int .i64 0]⟩ else
  if t = 4 then some ⟨.bool, 1, 1, [.bool false]⟩ else
  if t = 24 then some ⟨.sl 3, 1, 24, [.nilS]⟩ else
  if t = 26 then some ⟨.sl 42, 1, 24, [.nilS]⟩ else
  if t = 40 then some ⟨.sl 45, 1, 24, [.nilS]⟩ else
  if t = 28 then some ⟨.sl 43, 1, 24, [.nilS]⟩ else
  if t = 43 then some ⟨.sl 36, 1, 24, [.nilS]⟩ else
  if t = 32 then some ⟨.sl 38, 1, 24, [.nilS]⟩ else
  if t = 54 then some ⟨.sl 72, 1, 24, [.nilS]⟩ else
  if t = 65 then some ⟨.sl 54, 1, 24, [.nilS]⟩ else
  if t = 58 then some ⟨.sl 69, 1, 24, [.nilS]⟩ else
  if t = 22 then some ⟨.sl 73, 1, 24, [.nilS]⟩ else
  if t = 86 then some ⟨.sl 94, 1, 24, [.nilS]⟩ else
  if t = 87 then some ⟨.sl 89, 1, 24, [.nilS]⟩ else
  if t = 73 then some ⟨.ar 4 3, 4, 32, [.int .i64 0, .int .i64 0, .int .i64 0, .int .i64 0]⟩ else
  if t = 94 then some ⟨.ar 4 3, 4, 32, [.int .i64 0, .int .i64 0, .int .i64 0, .int .i64 0]⟩ else
  if t = 42 then some ⟨.st [(0, 3), (1, 40)], 2, 32, [.int .i64 0, .nilS]⟩ else
  if t = 45 then some ⟨.st [(0, 3), (1, 3)], 2, 16, [.int .i64 0, .int .i64 0]⟩ else
  if t = 69 then some ⟨.st [(0, 3), (1, 3), (2, 3), (3, 3), (4, 3), (5, 3), (6, 3), (7, 3), (8, 3), (9, 3)], 10, 80, [.int .i64 0, .int .i64 0, .int .i64 0, .int .i64 0, .int .i64 0, .int .i64 0, .int .i64 0, .int .i64 0, .int .i64 0, .int .i64 0]⟩ else
  if t = 72 then some ⟨.st [(0, 3), (1, 3), (2, 3), (3, 3), (4, 3)], 5, 40, [.int .i64 0, .int .i64 0, .int .i64 0, .int .i64 0, .int .i64 0]⟩ else
  if t = 36 then some ⟨.st [(0, 3), (1, 3), (2, 3)], 3, 24, [.int .i64 0, .int .i64 0, .int .i64 0]⟩ else
  if t = 77 then some ⟨.st [(0, 3), (1, 36)], 4, 32, [.int .i64 0, .int .i64 0, .int .i64 0, .int .i64 0]⟩ else
  if t = 89 then some ⟨.st [(0, 3), (1, 3), (2, 3)], 3, 24, [.int .i64 0, .int .i64 0, .int .i64 0]⟩ else
  if t = 38 then some ⟨.st [(0, 3), (1, 3), (2, 3), (3, 36)], 6, 48, [.int .i64 0, .int .i64 0, .int .i64 0, .int .i64 0, .int .i64 0, .int .i64 0]⟩ else
  if t = 74 then some ⟨.ch 77, 1, 8, [.any]⟩ else
  if t = 85 then some ⟨.ch 77, 1, 8, [.any]⟩ else
  none
theorem tt99 : tt 99 = some ⟨.int .u64, 1, 8, [.int .u64 0]⟩ := by rfl
theorem tt3 : tt 3 = some ⟨.int .i64, 1, 8, [.int .i64 0]⟩ := by rfl
theorem tt29 : tt 29 = some ⟨.int .i64, 1, 8, [.int .i64 0]⟩ := by rfl
theorem tt4 : tt 4 = some ⟨.bool, 1, 1, [.bool false]⟩ := by rfl
theorem tt24 : tt 24 = some ⟨.sl 3, 1, 24, [.nilS]⟩ := by rfl
theorem tt26 : tt 26 = some ⟨.sl 42, 1, 24, [.nilS]⟩ := by rfl
theorem tt40 : tt 40 = some ⟨.sl 45, 1, 24, [.nilS]⟩ := by rfl
theorem tt28 : tt 28 = some ⟨.sl 43, 1, 24, [.nilS]⟩ := by rfl
theorem tt43 : tt 43 = some ⟨.sl 36, 1, 24, [.nilS]⟩ := by rfl
theorem tt32 : tt 32 = some ⟨.sl 38, 1, 24, [.nilS]⟩ := by rfl
theorem tt54 : tt 54 = some ⟨.sl 72, 1, 24, [.nilS]⟩ := by rfl
theorem tt65 : tt 65 = some ⟨.sl 54, 1, 24, [.nilS]⟩ := by rfl
theorem tt58 : tt 58 = some ⟨.sl 69, 1, 24, [.nilS]⟩ := by rfl
theorem tt22 : tt 22 = some ⟨.sl 73, 1, 24, [.nilS]⟩ := by rfl
theorem tt86 : tt 86 = some ⟨.sl 94, 1, 24, [.nilS]⟩ := by rfl
theorem tt87 : tt 87 = some ⟨.sl 89, 1, 24, [.nilS]⟩ := by rfl
theorem tt73 : tt 73 = some ⟨.ar 4 3, 4, 32, [.int .i64 0, .int .i64 0, .int .i64 0, .int .i64 0]⟩ := by rfl
theorem tt94 : tt 94 = some ⟨.ar 4 3, 4, 32, [.int .i64 0, .int .i64 0, .int .i64 0, .int .i64 0]⟩ := by rfl
theorem tt42 : tt 42 = some ⟨.st [(0, 3), (1, 40)], 2, 32, [.int .i64 0, .nilS]⟩ := by rfl
theorem tt45 : tt 45 = some ⟨.st [(0, 3), (1, 3)], 2, 16, [.int .i64 0, .int .i64 0]⟩ := by rfl
theorem tt69 : tt 69 = some ⟨.st [(0, 3), (1, 3), (2, 3), (3, 3), (4, 3), (5, 3), (6, 3), (7, 3), (8, 3), (9, 3)], 10, 80, [.int .i64 0, .int .i64 0, .int .i64 0, .int .i64 0, .int .i64 0, .int .i64 0, .int .i64 0, .int .i64 0, .int .i64 0, .int .i64 0]⟩ := by rfl
theorem tt72 : tt 72 = some ⟨.st [(0, 3), (1, 3), (2, 3), (3, 3), (4, 3)], 5, 40, [.int .i64 0, .int .i64 0, .int .i64 0, .int .i64 0, .int .i64 0]⟩ := by rfl
theorem tt36 : tt 36 = some ⟨.st [(0, 3), (1, 3), (2, 3)], 3, 24, [.int .i64 0, .int .i64 0, .int .i64 0]⟩ := by rfl
theorem tt77 : tt 77 = some ⟨.st [(0, 3), (1, 36)], 4, 32, [.int .i64 0, .int .i64 0, .int .i64 0, .int .i64 0]⟩ := by rfl
theorem tt89 : tt 89 = some ⟨.st [(0, 3), (1, 3), (2, 3)], 3, 24, [.int .i64 0, .int .i64 0, .int .i64 0]⟩ := by rfl
theorem tt38 : tt 38 = some ⟨.st [(0, 3), (1, 3), (2, 3), (3, 36)], 6, 48, [.int .i64 0, .int .i64 0, .int .i64 0, .int .i64 0, .int .i64 0, .int .i64 0]⟩ := by rfl
theorem tt74 : tt 74 = some ⟨.ch 77, 1, 8, [.any]⟩ := by rfl
theorem tt85 : tt 85 = some ⟨.ch 77, 1, 8, [.any]⟩ := by rfl
theorem tok99 : TOk Try.prog 99 ⟨.int .u64, 1, 8, [.int .u64 0]⟩ where
  info := ⟨Try.t99, _, Try.type99, rfl, rfl, rfl, by simp [Value.cells, VRs, VR], by simp [Value.cells, Value.oneCell'], rfl⟩
  kind := Try.underlying99
  eqs := trivial
theorem tok3 : TOk Try.prog 3 ⟨.int .i64, 1, 8, [.int .i64 0]⟩ where
  info := ⟨Try.t3, _, Try.type3, rfl, rfl, rfl, by simp [Value.cells, VRs, VR], by simp [Value.cells, Value.oneCell'], rfl⟩
  kind := Try.underlying3
  eqs := trivial
theorem tok29 : TOk Try.prog 29 ⟨.int .i64, 1, 8, [.int .i64 0]⟩ where
  info := ⟨Try.t29, _, Try.type29, rfl, rfl, rfl, by simp [Value.cells, VRs, VR], by simp [Value.cells, Value.oneCell'], rfl⟩
  kind := Try.underlying29
  eqs := trivial
theorem tok4 : TOk Try.prog 4 ⟨.bool, 1, 1, [.bool false]⟩ where
  info := ⟨Try.t4, _, Try.type4, rfl, rfl, rfl, by simp [Value.cells, VRs, VR], by simp [Value.cells, Value.oneCell'], rfl⟩
  kind := Try.underlying4
  eqs := trivial
theorem tok24 : TOk Try.prog 24 ⟨.sl 3, 1, 24, [.nilS]⟩ where
  info := ⟨Try.t24, _, Try.type24, rfl, rfl, rfl, by simp [Value.cells, VRs, VR], by simp [Value.cells, Value.oneCell'], rfl⟩
  kind := Try.underlying24
  eqs := trivial
theorem tok26 : TOk Try.prog 26 ⟨.sl 42, 1, 24, [.nilS]⟩ where
  info := ⟨Try.t26, _, Try.type26, rfl, rfl, rfl, by simp [Value.cells, VRs, VR], by simp [Value.cells, Value.oneCell'], rfl⟩
  kind := Try.underlying26
  eqs := trivial
theorem tok40 : TOk Try.prog 40 ⟨.sl 45, 1, 24, [.nilS]⟩ where
  info := ⟨Try.t40, _, Try.type40, rfl, rfl, rfl, by simp [Value.cells, VRs, VR], by simp [Value.cells, Value.oneCell'], rfl⟩
  kind := Try.underlying40
  eqs := trivial
theorem tok28 : TOk Try.prog 28 ⟨.sl 43, 1, 24, [.nilS]⟩ where
  info := ⟨Try.t28, _, Try.type28, rfl, rfl, rfl, by simp [Value.cells, VRs, VR], by simp [Value.cells, Value.oneCell'], rfl⟩
  kind := Try.underlying28
  eqs := trivial
theorem tok43 : TOk Try.prog 43 ⟨.sl 36, 1, 24, [.nilS]⟩ where
  info := ⟨Try.t43, _, Try.type43, rfl, rfl, rfl, by simp [Value.cells, VRs, VR], by simp [Value.cells, Value.oneCell'], rfl⟩
  kind := Try.underlying43
  eqs := trivial
theorem tok32 : TOk Try.prog 32 ⟨.sl 38, 1, 24, [.nilS]⟩ where
  info := ⟨Try.t32, _, Try.type32, rfl, rfl, rfl, by simp [Value.cells, VRs, VR], by simp [Value.cells, Value.oneCell'], rfl⟩
  kind := Try.underlying32
  eqs := trivial
theorem tok54 : TOk Try.prog 54 ⟨.sl 72, 1, 24, [.nilS]⟩ where
  info := ⟨Try.t54, _, Try.type54, rfl, rfl, rfl, by simp [Value.cells, VRs, VR], by simp [Value.cells, Value.oneCell'], rfl⟩
  kind := Try.underlying54
  eqs := trivial
theorem tok65 : TOk Try.prog 65 ⟨.sl 54, 1, 24, [.nilS]⟩ where
  info := ⟨Try.t65, _, Try.type65, rfl, rfl, rfl, by simp [Value.cells, VRs, VR], by simp [Value.cells, Value.oneCell'], rfl⟩
  kind := Try.underlying65
  eqs := trivial
theorem tok58 : TOk Try.prog 58 ⟨.sl 69, 1, 24, [.nilS]⟩ where
  info := ⟨Try.t58, _, Try.type58, rfl, rfl, rfl, by simp [Value.cells, VRs, VR], by simp [Value.cells, Value.oneCell'], rfl⟩
  kind := Try.underlying58
  eqs := trivial
theorem tok22 : TOk Try.prog 22 ⟨.sl 73, 1, 24, [.nilS]⟩ where
  info := ⟨Try.t22, _, Try.type22, rfl, rfl, rfl, by simp [Value.cells, VRs, VR], by simp [Value.cells, Value.oneCell'], rfl⟩
  kind := Try.underlying22
  eqs := trivial
theorem tok86 : TOk Try.prog 86 ⟨.sl 94, 1, 24, [.nilS]⟩ where
  info := ⟨Try.t86, _, Try.type86, rfl, rfl, rfl, by simp [Value.cells, VRs, VR], by simp [Value.cells, Value.oneCell'], rfl⟩
  kind := Try.underlying86
  eqs := trivial
theorem tok87 : TOk Try.prog 87 ⟨.sl 89, 1, 24, [.nilS]⟩ where
  info := ⟨Try.t87, _, Try.type87, rfl, rfl, rfl, by simp [Value.cells, VRs, VR], by simp [Value.cells, Value.oneCell'], rfl⟩
  kind := Try.underlying87
  eqs := trivial
theorem tok73 : TOk Try.prog 73 ⟨.ar 4 3, 4, 32, [.int .i64 0, .int .i64 0, .int .i64 0, .int .i64 0]⟩ where
  info := ⟨Try.t73, _, Try.type73, rfl, rfl, rfl, by simp [Value.cells, VRs, VR], by simp [Value.cells, Value.oneCell'], rfl⟩
  kind := Try.underlying73
  eqs := trivial
theorem tok94 : TOk Try.prog 94 ⟨.ar 4 3, 4, 32, [.int .i64 0, .int .i64 0, .int .i64 0, .int .i64 0]⟩ where
  info := ⟨Try.t94, _, Try.type94, rfl, rfl, rfl, by simp [Value.cells, VRs, VR], by simp [Value.cells, Value.oneCell'], rfl⟩
  kind := Try.underlying94
  eqs := trivial
theorem tok42 : TOk Try.prog 42 ⟨.st [(0, 3), (1, 40)], 2, 32, [.int .i64 0, .nilS]⟩ where
  info := ⟨Try.t42, _, Try.type42, rfl, rfl, rfl, by simp [Value.cells, VRs, VR], by simp [Value.cells, Value.oneCell'], rfl⟩
  kind := ⟨_, Try.underlying42, rfl, by
    intro f hf
    simp only [List.mem_cons, List.not_mem_nil, or_false] at hf
    rcases hf with rfl | rfl
    . exact ⟨_, Try.type3⟩
    . exact ⟨_, Try.type40⟩⟩
  eqs := ⟨by kernel_rfl, by kernel_rfl, by intro F hF; rw [Try.underlying42] at hF; cases hF; simp⟩
theorem tok45 : TOk Try.prog 45 ⟨.st [(0, 3), (1, 3)], 2, 16, [.int .i64 0, .int .i64 0]⟩ where
  info := ⟨Try.t45, _, Try.type45, rfl, rfl, rfl, by simp [Value.cells, VRs, VR], by simp [Value.cells, Value.oneCell'], rfl⟩
  kind := ⟨_, Try.underlying45, rfl, by
    intro f hf
    simp only [List.mem_cons, List.not_mem_nil, or_false] at hf
    rcases hf with rfl | rfl
    . exact ⟨_, Try.type3⟩
    . exact ⟨_, Try.type3⟩⟩
  eqs := ⟨by kernel_rfl, by kernel_rfl, by intro F hF; rw [Try.underlying45] at hF; cases hF; simp⟩
theorem tok69 : TOk Try.prog 69 ⟨.st [(0, 3), (1, 3), (2, 3), (3, 3), (4, 3), (5, 3), (6, 3), (7, 3), (8, 3), (9, 3)], 10, 80, [.int .i64 0, .int .i64 0, .int .i64 0, .int .i64 0, .int .i64 0, .int .i64 0, .int .i64 0, .int .i64 0, .int .i64 0, .int .i64 0]⟩ where
  info := ⟨Try.t69, _, Try.type69, rfl, rfl, rfl, by simp [Value.cells, VRs, VR], by simp [Value.cells, Value.oneCell'], rfl⟩
  kind := ⟨_, Try.underlying69, rfl, by
    intro f hf
    simp only [List.mem_cons, List.not_mem_nil, or_false] at hf
    rcases hf with rfl | rfl | rfl | rfl | rfl | rfl | rfl | rfl | rfl | rfl
    . exact ⟨_, Try.type3⟩
    . exact ⟨_, Try.type3⟩
    . exact ⟨_, Try.type3⟩
    . exact ⟨_, Try.type3⟩
    . exact ⟨_, Try.type3⟩
    . exact ⟨_, Try.type3⟩
    . exact ⟨_, Try.type3⟩
    . exact ⟨_, Try.type3⟩
    . exact ⟨_, Try.type3⟩
    . exact ⟨_, Try.type3⟩⟩
  eqs := ⟨by kernel_rfl, by kernel_rfl, by intro F hF; rw [Try.underlying69] at hF; cases hF; simp⟩
theorem tok72 : TOk Try.prog 72 ⟨.st [(0, 3), (1, 3), (2, 3), (3, 3), (4, 3)], 5, 40, [.int .i64 0, .int .i64 0, .int .i64 0, .int .i64 0, .int .i64 0]⟩ where
  info := ⟨Try.t72, _, Try.type72, rfl, rfl, rfl, by simp [Value.cells, VRs, VR], by simp [Value.cells, Value.oneCell'], rfl⟩
  kind := ⟨_, Try.underlying72, rfl, by
    intro f hf
    simp only [List.mem_cons, List.not_mem_nil, or_false] at hf
    rcases hf with rfl | rfl | rfl | rfl | rfl
    . exact ⟨_, Try.type3⟩
    . exact ⟨_, Try.type3⟩
    . exact ⟨_, Try.type3⟩
    . exact ⟨_, Try.type3⟩
    . exact ⟨_, Try.type3⟩⟩
  eqs := ⟨by kernel_rfl, by kernel_rfl, by intro F hF; rw [Try.underlying72] at hF; cases hF; simp⟩
theorem tok36 : TOk Try.prog 36 ⟨.st [(0, 3), (1, 3), (2, 3)], 3, 24, [.int .i64 0, .int .i64 0, .int .i64 0]⟩ where
  info := ⟨Try.t36, _, Try.type36, rfl, rfl, rfl, by simp [Value.cells, VRs, VR], by simp [Value.cells, Value.oneCell'], rfl⟩
  kind := ⟨_, Try.underlying36, rfl, by
    intro f hf
    simp only [List.mem_cons, List.not_mem_nil, or_false] at hf
    rcases hf with rfl | rfl | rfl
    . exact ⟨_, Try.type3⟩
    . exact ⟨_, Try.type3⟩
    . exact ⟨_, Try.type3⟩⟩
  eqs := ⟨by kernel_rfl, by kernel_rfl, by intro F hF; rw [Try.underlying36] at hF; cases hF; simp⟩
theorem tok77 : TOk Try.prog 77 ⟨.st [(0, 3), (1, 36)], 4, 32, [.int .i64 0, .int .i64 0, .int .i64 0, .int .i64 0]⟩ where
  info := ⟨Try.t77, _, Try.type77, rfl, rfl, rfl, by simp [Value.cells, VRs, VR], by simp [Value.cells, Value.oneCell'], rfl⟩
  kind := ⟨_, Try.underlying77, rfl, by
    intro f hf
    simp only [List.mem_cons, List.not_mem_nil, or_false] at hf
    rcases hf with rfl | rfl
    . exact ⟨_, Try.type3⟩
    . exact ⟨_, Try.type36⟩⟩
  eqs := ⟨by kernel_rfl, by kernel_rfl, by intro F hF; rw [Try.underlying77] at hF; cases hF; simp⟩
theorem tok89 : TOk Try.prog 89 ⟨.st [(0, 3), (1, 3), (2, 3)], 3, 24, [.int .i64 0, .int .i64 0, .int .i64 0]⟩ where
  info := ⟨Try.t89, _, Try.type89, rfl, rfl, rfl, by simp [Value.cells, VRs, VR], by simp [Value.cells, Value.oneCell'], rfl⟩
  kind := ⟨_, Try.underlying89, rfl, by
    intro f hf
    simp only [List.mem_cons, List.not_mem_nil, or_false] at hf
    rcases hf with rfl | rfl | rfl
    . exact ⟨_, Try.type3⟩
    . exact ⟨_, Try.type3⟩
    . exact ⟨_, Try.type3⟩⟩
  eqs := ⟨by kernel_rfl, by kernel_rfl, by intro F hF; rw [Try.underlying89] at hF; cases hF; simp⟩
theorem tok38 : TOk Try.prog 38 ⟨.st [(0, 3), (1, 3), (2, 3), (3, 36)], 6, 48, [.int .i64 0, .int .i64 0, .int .i64 0, .int .i64 0, .int .i64 0, .int .i64 0]⟩ where
  info := ⟨Try.t38, _, Try.type38, rfl, rfl, rfl, by simp [Value.cells, VRs, VR], by simp [Value.cells, Value.oneCell'], rfl⟩
  kind := ⟨_, Try.underlying38, rfl, by
    intro f hf
    simp only [List.mem_cons, List.not_mem_nil, or_false] at hf
    rcases hf with rfl | rfl | rfl | rfl
    . exact ⟨_, Try.type3⟩
    . exact ⟨_, Try.type3⟩
    . exact ⟨_, Try.type3⟩
    . exact ⟨_, Try.type36⟩⟩
  eqs := ⟨by kernel_rfl, by kernel_rfl, by intro F hF; rw [Try.underlying38] at hF; cases hF; simp⟩
theorem tok74 : TOk Try.prog 74 ⟨.ch 77, 1, 8, [.any]⟩ where
  info := ⟨Try.t74, _, Try.type74, rfl, rfl, rfl, by simp [Value.cells, VRs, VR], by simp [Value.cells, Value.oneCell'], rfl⟩
  kind := ⟨_, Try.underlying74⟩
  eqs := trivial
theorem tok85 : TOk Try.prog 85 ⟨.ch 77, 1, 8, [.any]⟩ where
  info := ⟨Try.t85, _, Try.type85, rfl, rfl, rfl, by simp [Value.cells, VRs, VR], by simp [Value.cells, Value.oneCell'], rfl⟩
  kind := ⟨_, Try.underlying85⟩
  eqs := trivial
theorem ttOk : TsOk Try.prog tt := by
  intro t i h
  by_cases e99 : t = 99
  . subst e99; rw [tt99] at h; cases h; exact tok99
  by_cases e3 : t = 3
  . subst e3; rw [tt3] at h; cases h; exact tok3
  by_cases e29 : t = 29
  . subst e29; rw [tt29] at h; cases h; exact tok29
  by_cases e4 : t = 4
  . subst e4; rw [tt4] at h; cases h; exact tok4
  by_cases e24 : t = 24
  . subst e24; rw [tt24] at h; cases h; exact tok24
  by_cases e26 : t = 26
  . subst e26; rw [tt26] at h; cases h; exact tok26
  by_cases e40 : t = 40
  . subst e40; rw [tt40] at h; cases h; exact tok40
  by_cases e28 : t = 28
  . subst e28; rw [tt28] at h; cases h; exact tok28
  by_cases e43 : t = 43
  . subst e43; rw [tt43] at h; cases h; exact tok43
  by_cases e32 : t = 32
  . subst e32; rw [tt32] at h; cases h; exact tok32
  by_cases e54 : t = 54
  . subst e54; rw [tt54] at h; cases h; exact tok54
  by_cases e65 : t = 65
  . subst e65; rw [tt65] at h; cases h; exact tok65
  by_cases e58 : t = 58
  . subst e58; rw [tt58] at h; cases h; exact tok58
  by_cases e22 : t = 22
  . subst e22; rw [tt22] at h; cases h; exact tok22
  by_cases e86 : t = 86
  . subst e86; rw [tt86] at h; cases h; exact tok86
  by_cases e87 : t = 87
  . subst e87; rw [tt87] at h; cases h; exact tok87
  by_cases e73 : t = 73
  . subst e73; rw [tt73] at h; cases h; exact tok73
  by_cases e94 : t = 94
  . subst e94; rw [tt94] at h; cases h; exact tok94
  by_cases e42 : t = 42
  . subst e42; rw [tt42] at h; cases h; exact tok42
  by_cases e45 : t = 45
  . subst e45; rw [tt45] at h; cases h; exact tok45
  by_cases e69 : t = 69
  . subst e69; rw [tt69] at h; cases h; exact tok69
  by_cases e72 : t = 72
  . subst e72; rw [tt72] at h; cases h; exact tok72
  by_cases e36 : t = 36
  . subst e36; rw [tt36] at h; cases h; exact tok36
  by_cases e77 : t = 77
  . subst e77; rw [tt77] at h; cases h; exact tok77
  by_cases e89 : t = 89
  . subst e89; rw [tt89] at h; cases h; exact tok89
  by_cases e38 : t = 38
  . subst e38; rw [tt38] at h; cases h; exact tok38
  by_cases e74 : t = 74
  . subst e74; rw [tt74] at h; cases h; exact tok74
  by_cases e85 : t = 85
  . subst e85; rw [tt85] at h; cases h; exact tok85
  exfalso
  unfold tt at h
  rw [if_neg e99, if_neg e3, if_neg e29, if_neg e4, if_neg e24, if_neg e26, if_neg e40, if_neg e28, if_neg e43, if_neg e32, if_neg e54, if_neg e65, if_neg e58, if_neg e22, if_neg e86, if_neg e87, if_neg e73, if_neg e94, if_neg e42, if_neg e45, if_neg e69, if_neg e72, if_neg e36, if_neg e77, if_neg e89, if_neg e38, if_neg e74, if_neg e85] at h
  cases h
theorem ttMix : Try.prog.follows .mixedOrders = true := by kernel_rfl
def eV4 (v : Vector Int 4) : List AV := zYy zYx v.toList
theorem encV4 : Enc (fun _ => eV4) 4 where
  wd _ a := zX a
  cv k h fl a := encL_cv zZw k h fl a.toList
  ci k h a := encL_ci zZw k h a.toList
  co k h a := encL_co zZw k h a.toList
  sl fl a := encL_sl zZw fl a.toList
  cl fl a := encL_cl zZw fl a.toList
structure Ld where
  st : Int
  tm : Int
instance : Inhabited Ld := ⟨⟨0, 0⟩⟩
def e45 (c : Ld) : List AV := [.int .i64 c.st, .int .i64 c.tm]
theorem enc45 : Enc (fun _ => e45) 2 where
  wd _ _ := rfl
  cv _ _ _ _ := Wks.cons (zZz _ _ _ _) (Wks.cons (zZz _ _ _ _) (Wks.refl _))
  ci _ _ _ := Wks.cons (agI_int _ _ _ _) (Wks.cons (agI_int _ _ _ _) (Wks.refl _))
  co _ _ _ := Wks.cons (zY _ _ _ _) (Wks.cons (zY _ _ _ _) (Wks.refl _))
  sl fl _ := SealVs.cons (SealV.int _ _ _) (SealVs.cons (SealV.int _ _ _) (SealVs.nil fl))
  cl _ _ x hx := by
    simp only [e45, List.mem_cons, List.not_mem_nil, or_false] at hx
    rcases hx with rfl | rfl <;> rfl
instance : DecidableEq Ld := fun x y => decidable_of_iff (x.st = y.st /\ x.tm = y.tm) (by cases x; cases y; simp)
structure Job where
  ar : Int
  wk : (List Ld)
instance : Inhabited Job := ⟨⟨0, []⟩⟩
def e42 (fl : Bool) (c : Job) : List AV := [.int .i64 c.ar, .lst fl c.wk.length (zYy e45 c.wk)]
theorem enc42 : Enc e42 2 where
  wd _ _ := rfl
  cv _ _ _ _ := Wks.cons (zZz _ _ _ _) (Wks.cons (zZs _ _ _ _ _) (Wks.refl _))
  ci _ _ _ := Wks.cons (agI_int _ _ _ _) (Wks.cons (agI_lst _ _ _ _) (Wks.refl _))
  co _ _ _ := Wks.cons (zY _ _ _ _) (Wks.cons (rs_lst _ _ _ _) (Wks.refl _))
  sl fl _ := SealVs.cons (SealV.int _ _ _) (SealVs.cons (SealV.lst _ _ _) (SealVs.nil fl))
  cl _ _ x hx := by
    simp only [e42, List.mem_cons, List.not_mem_nil, or_false] at hx
    rcases hx with rfl | rfl <;> rfl
structure Fct where
  tr : Int
  sp : Int
  se : Int
  ver : Int
  op : Int
  pe : Int
  da : Int
  lo : Int
  hi : Int
  by_ : Int
instance : Inhabited Fct := ⟨⟨0, 0, 0, 0, 0, 0, 0, 0, 0, 0⟩⟩
def e69 (c : Fct) : List AV := [.int .i64 c.tr, .int .i64 c.sp, .int .i64 c.se, .int .i64 c.ver, .int .i64 c.op, .int .i64 c.pe, .int .i64 c.da, .int .i64 c.lo, .int .i64 c.hi, .int .i64 c.by_]
theorem enc69 : Enc (fun _ => e69) 10 where
  wd _ _ := rfl
  cv _ _ _ _ := Wks.cons (zZz _ _ _ _) (Wks.cons (zZz _ _ _ _) (Wks.cons (zZz _ _ _ _) (Wks.cons (zZz _ _ _ _) (Wks.cons (zZz _ _ _ _) (Wks.cons (zZz _ _ _ _) (Wks.cons (zZz _ _ _ _) (Wks.cons (zZz _ _ _ _) (Wks.cons (zZz _ _ _ _) (Wks.cons (zZz _ _ _ _) (Wks.refl _))))))))))
  ci _ _ _ := Wks.cons (agI_int _ _ _ _) (Wks.cons (agI_int _ _ _ _) (Wks.cons (agI_int _ _ _ _) (Wks.cons (agI_int _ _ _ _) (Wks.cons (agI_int _ _ _ _) (Wks.cons (agI_int _ _ _ _) (Wks.cons (agI_int _ _ _ _) (Wks.cons (agI_int _ _ _ _) (Wks.cons (agI_int _ _ _ _) (Wks.cons (agI_int _ _ _ _) (Wks.refl _))))))))))
  co _ _ _ := Wks.cons (zY _ _ _ _) (Wks.cons (zY _ _ _ _) (Wks.cons (zY _ _ _ _) (Wks.cons (zY _ _ _ _) (Wks.cons (zY _ _ _ _) (Wks.cons (zY _ _ _ _) (Wks.cons (zY _ _ _ _) (Wks.cons (zY _ _ _ _) (Wks.cons (zY _ _ _ _) (Wks.cons (zY _ _ _ _) (Wks.refl _))))))))))
  sl fl _ := SealVs.cons (SealV.int _ _ _) (SealVs.cons (SealV.int _ _ _) (SealVs.cons (SealV.int _ _ _) (SealVs.cons (SealV.int _ _ _) (SealVs.cons (SealV.int _ _ _) (SealVs.cons (SealV.int _ _ _) (SealVs.cons (SealV.int _ _ _) (SealVs.cons (SealV.int _ _ _) (SealVs.cons (SealV.int _ _ _) (SealVs.cons (SealV.int _ _ _) (SealVs.nil fl))))))))))
  cl _ _ x hx := by
    simp only [e69, List.mem_cons, List.not_mem_nil, or_false] at hx
    rcases hx with rfl | rfl | rfl | rfl | rfl | rfl | rfl | rfl | rfl | rfl <;> rfl
instance : DecidableEq Fct := fun x y => decidable_of_iff (x.tr = y.tr /\ x.sp = y.sp /\ x.se = y.se /\ x.ver = y.ver /\ x.op = y.op /\ x.pe = y.pe /\ x.da = y.da /\ x.lo = y.lo /\ x.hi = y.hi /\ x.by_ = y.by_) (by cases x; cases y; simp)
structure Rg where
  op : Int
  ver : Int
  nu : Int
  le : Int
  mo : Int
instance : Inhabited Rg := ⟨⟨0, 0, 0, 0, 0⟩⟩
def e72 (c : Rg) : List AV := [.int .i64 c.op, .int .i64 c.ver, .int .i64 c.nu, .int .i64 c.le, .int .i64 c.mo]
theorem enc72 : Enc (fun _ => e72) 5 where
  wd _ _ := rfl
  cv _ _ _ _ := Wks.cons (zZz _ _ _ _) (Wks.cons (zZz _ _ _ _) (Wks.cons (zZz _ _ _ _) (Wks.cons (zZz _ _ _ _) (Wks.cons (zZz _ _ _ _) (Wks.refl _)))))
  ci _ _ _ := Wks.cons (agI_int _ _ _ _) (Wks.cons (agI_int _ _ _ _) (Wks.cons (agI_int _ _ _ _) (Wks.cons (agI_int _ _ _ _) (Wks.cons (agI_int _ _ _ _) (Wks.refl _)))))
  co _ _ _ := Wks.cons (zY _ _ _ _) (Wks.cons (zY _ _ _ _) (Wks.cons (zY _ _ _ _) (Wks.cons (zY _ _ _ _) (Wks.cons (zY _ _ _ _) (Wks.refl _)))))
  sl fl _ := SealVs.cons (SealV.int _ _ _) (SealVs.cons (SealV.int _ _ _) (SealVs.cons (SealV.int _ _ _) (SealVs.cons (SealV.int _ _ _) (SealVs.cons (SealV.int _ _ _) (SealVs.nil fl)))))
  cl _ _ x hx := by
    simp only [e72, List.mem_cons, List.not_mem_nil, or_false] at hx
    rcases hx with rfl | rfl | rfl | rfl | rfl <;> rfl
theorem eqf72 : ∀ f ∈ ([(0, 3), (1, 3), (2, 3), (3, 3), (4, 3)] : List (Nat × TypeId)), ∃ s b z, tt f.2 = some ⟨.int .i64, s, b, z⟩ := by
  intro f hf
  simp only [List.mem_cons, List.not_mem_nil, or_false] at hf
  rcases hf with rfl | rfl | rfl | rfl | rfl
  . exact ⟨_, _, _, tt3⟩
  . exact ⟨_, _, _, tt3⟩
  . exact ⟨_, _, _, tt3⟩
  . exact ⟨_, _, _, tt3⟩
  . exact ⟨_, _, _, tt3⟩
theorem flat72 (xs : List Rg) : ∀ c ∈ zYy e72 xs, flatV c = true := by
  intro c hc
  simp only [zYy, e72, List.mem_flatMap, List.mem_cons, List.not_mem_nil, or_false] at hc
  obtain ⟨x, _, h⟩ := hc
  rcases h with rfl | rfl | rfl | rfl | rfl <;> rfl
instance : DecidableEq Rg := fun x y => decidable_of_iff (x.op = y.op /\ x.ver = y.ver /\ x.nu = y.nu /\ x.le = y.le /\ x.mo = y.mo) (by cases x; cases y; simp)
theorem eq72 (x y : Rg) : decide ([x.op, x.ver, x.nu, x.le, x.mo] = [y.op, y.ver, y.nu, y.le, y.mo]) = decide (x = y) := by
  cases x; cases y; simp
structure Vis where
  rd : Int
  st : Int
  en : Int
instance : Inhabited Vis := ⟨⟨0, 0, 0⟩⟩
def e36 (c : Vis) : List AV := [.int .i64 c.rd, .int .i64 c.st, .int .i64 c.en]
theorem enc36 : Enc (fun _ => e36) 3 where
  wd _ _ := rfl
  cv _ _ _ _ := Wks.cons (zZz _ _ _ _) (Wks.cons (zZz _ _ _ _) (Wks.cons (zZz _ _ _ _) (Wks.refl _)))
  ci _ _ _ := Wks.cons (agI_int _ _ _ _) (Wks.cons (agI_int _ _ _ _) (Wks.cons (agI_int _ _ _ _) (Wks.refl _)))
  co _ _ _ := Wks.cons (zY _ _ _ _) (Wks.cons (zY _ _ _ _) (Wks.cons (zY _ _ _ _) (Wks.refl _)))
  sl fl _ := SealVs.cons (SealV.int _ _ _) (SealVs.cons (SealV.int _ _ _) (SealVs.cons (SealV.int _ _ _) (SealVs.nil fl)))
  cl _ _ x hx := by
    simp only [e36, List.mem_cons, List.not_mem_nil, or_false] at hx
    rcases hx with rfl | rfl | rfl <;> rfl
theorem eqf36 : ∀ f ∈ ([(0, 3), (1, 3), (2, 3)] : List (Nat × TypeId)), ∃ s b z, tt f.2 = some ⟨.int .i64, s, b, z⟩ := by
  intro f hf
  simp only [List.mem_cons, List.not_mem_nil, or_false] at hf
  rcases hf with rfl | rfl | rfl
  . exact ⟨_, _, _, tt3⟩
  . exact ⟨_, _, _, tt3⟩
  . exact ⟨_, _, _, tt3⟩
instance : DecidableEq Vis := fun x y => decidable_of_iff (x.rd = y.rd /\ x.st = y.st /\ x.en = y.en) (by cases x; cases y; simp)
theorem eq36 (x y : Vis) : decide ([x.rd, x.st, x.en] = [y.rd, y.st, y.en]) = decide (x = y) := by
  cases x; cases y; simp
structure Dn where
  j : Int
  v : Vis
instance : Inhabited Dn := ⟨⟨0, default⟩⟩
def e77 (c : Dn) : List AV := [.int .i64 c.j, .int .i64 c.v.rd, .int .i64 c.v.st, .int .i64 c.v.en]
structure Sta where
  dn : Int
  al : Int
  rd : Int
instance : Inhabited Sta := ⟨⟨0, 0, 0⟩⟩
def e89 (c : Sta) : List AV := [.int .i64 c.dn, .int .i64 c.al, .int .i64 c.rd]
theorem enc89 : Enc (fun _ => e89) 3 where
  wd _ _ := rfl
  cv _ _ _ _ := Wks.cons (zZz _ _ _ _) (Wks.cons (zZz _ _ _ _) (Wks.cons (zZz _ _ _ _) (Wks.refl _)))
  ci _ _ _ := Wks.cons (agI_int _ _ _ _) (Wks.cons (agI_int _ _ _ _) (Wks.cons (agI_int _ _ _ _) (Wks.refl _)))
  co _ _ _ := Wks.cons (zY _ _ _ _) (Wks.cons (zY _ _ _ _) (Wks.cons (zY _ _ _ _) (Wks.refl _)))
  sl fl _ := SealVs.cons (SealV.int _ _ _) (SealVs.cons (SealV.int _ _ _) (SealVs.cons (SealV.int _ _ _) (SealVs.nil fl)))
  cl _ _ x hx := by
    simp only [e89, List.mem_cons, List.not_mem_nil, or_false] at hx
    rcases hx with rfl | rfl | rfl <;> rfl
instance : DecidableEq Sta := fun x y => decidable_of_iff (x.dn = y.dn /\ x.al = y.al /\ x.rd = y.rd) (by cases x; cases y; simp)
structure Plc where
  j : Int
  s : Int
  t : Int
  v : Vis
instance : Inhabited Plc := ⟨⟨0, 0, 0, default⟩⟩
def e38 (c : Plc) : List AV := [.int .i64 c.j, .int .i64 c.s, .int .i64 c.t, .int .i64 c.v.rd, .int .i64 c.v.st, .int .i64 c.v.en]
end Go.Lat
namespace Go.Lat
open Go.RowKit
section
variable {P : Program} {T : TT} {ops rest : List Oper} {ty : TypeId} {pos : String} {af : Array Edge} {j n d : Nat} {l : List (Nat × AV)} {h : List AObj} {b : Nat} {KS : St -> Prop} {x : Operand}
theorem mI {k : IntKind} {z : Int} (hd : Nat.ble (d + 1) n = true) (e : St.eval ⟨n, look l, h, b⟩ x = .int k z) (h1 : seqL P T ops [] (j + 1) rest ⟨n, look ((d, .int k z) :: l), h, b⟩ KS) : seqL P T ops [] j (⟨some d, .move x, ty, pos, af, none⟩ :: rest) ⟨n, look l, h, b⟩ KS := cL hd (zZp e h1)
theorem mB {z : Bool} (hd : Nat.ble (d + 1) n = true) (e : St.eval ⟨n, look l, h, b⟩ x = .bool z) (h1 : seqL P T ops [] (j + 1) rest ⟨n, look ((d, .bool z) :: l), h, b⟩ KS) : seqL P T ops [] j (⟨some d, .move x, ty, pos, af, none⟩ :: rest) ⟨n, look l, h, b⟩ KS := cL hd (zZp e h1)
theorem mL {f : Bool} {k : Nat} {z : List AV} (hd : Nat.ble (d + 1) n = true) (e : St.eval ⟨n, look l, h, b⟩ x = .lst f k z) (h1 : seqL P T ops [] (j + 1) rest ⟨n, look ((d, .lst f k z) :: l), h, b⟩ KS) : seqL P T ops [] j (⟨some d, .move x, ty, pos, af, none⟩ :: rest) ⟨n, look l, h, b⟩ KS := cL hd (zZp e h1)
theorem aI {k : IntKind} {z : Int} (hd : Nat.ble (d + 1) n = true) (e : St.eval ⟨n, look l, h, b⟩ x = .int k z) (h1 : seqL P T ops [] (j + 1) rest ⟨n, look ((d, .int k z) :: l), h, b⟩ KS) : seqL P T ops [] j (⟨some d, .assign x, ty, pos, af, none⟩ :: rest) ⟨n, look l, h, b⟩ KS := cL hd (zZq e h1)
theorem aB {z : Bool} (hd : Nat.ble (d + 1) n = true) (e : St.eval ⟨n, look l, h, b⟩ x = .bool z) (h1 : seqL P T ops [] (j + 1) rest ⟨n, look ((d, .bool z) :: l), h, b⟩ KS) : seqL P T ops [] j (⟨some d, .assign x, ty, pos, af, none⟩ :: rest) ⟨n, look l, h, b⟩ KS := cL hd (zZq e h1)
theorem aL {f : Bool} {k : Nat} {z : List AV} (hd : Nat.ble (d + 1) n = true) (e : St.eval ⟨n, look l, h, b⟩ x = .lst f k z) (h1 : seqL P T ops [] (j + 1) rest ⟨n, look ((d, .lst f k z) :: l), h, b⟩ KS) : seqL P T ops [] j (⟨some d, .assign x, ty, pos, af, none⟩ :: rest) ⟨n, look l, h, b⟩ KS := cL hd (zZq e h1)
end
end Go.Lat
namespace Go.Lat
open Go.RowKit

section
variable {X : Nat -> Prop} {D : List Deferred × Rho} {w0 : World} {mA : Mem} {r : Rho} {m : MM} {st : St} {a : Act} {w w' : World} {b : Nat} {rec : Loop}
theorem cell_ne {p : Addr} {v : Value} (hb : w.heap[b]? = some (.loop rec)) (hv : w.cell? p = some v) : p.block ≠ b := fun e => by
  unfold World.cell? at hv
  rw [e, hb] at hv
  simp at hv
theorem R.put_gen (h : R X D w0 mA r m st a w) (hb : w.heap[b]? = some (.loop rec)) (o : Obj) {w0' : World} (e1 : w0'.os = w0.os) (e2 : w0'.tape = w0.tape) (e3 : w0'.output = w0.output) (e4 : w0'.heap.size = w0.heap.size)
    (hold : ∀ k, k < w0'.heap.size -> ¬ X k -> (w.putObj b o).heap[k]? = w0'.heap[k]?) : R X D w0' mA r m st a (w.putObj b o) := by
  have ne : ∀ k, k ≠ b -> (w.putObj b o).heap[k]? = w.heap[k]? := fun k hk => World.putObj_heap_other hk
  refine { os := h.os.trans e1.symm, tape := h.tape.trans e2.symm, output := h.output.trans e3.symm, size := (by rw [World.putObj_size, e4]; exact h.size), old := hold, len := h.len, lt := fun i ob c d ho hl hr => (by rw [World.putObj_size]; exact h.lt i ob c d ho hl hr), mem := fun p v hv => ?_, low := h.low, newer := fun p v hv => (by rw [e4]; exact h.newer p v hv), fz := fun p v hv => (froz_of (ne _ (cell_ne hb (h.mem p v (h.low p v hv)).1))).trans (h.fz p v hv), lim := fun p v hv => (by rw [e4]; exact h.lim p v hv), apart := h.apart, obj := fun i ob ho => ?_, own := fun i ob c d ho hl hr => (by rw [e4]; exact h.own i ob c d ho hl hr), inj := h.inj, size' := h.size', tmps := h.tmps, defers := h.defers, base := h.base, short := h.short, nox := h.nox, marks := fun d hd => ?_, mnod := h.mnod }
  . obtain ⟨h1, h2⟩ := h.mem p v hv
    exact ⟨(World.cell?_of_block (ne _ (cell_ne hb h1))).trans h1, by rw [World.putObj_size]; exact h2⟩
  . refine (h.obj i ob ho).same fun k c hr hl => ne k ?_
    rintro rfl
    obtain ⟨x, e5, _, e6⟩ := (h.obj i ob ho).cells hl hr
    rw [hb] at e5; cases e5; exact e6 _ rfl
  . obtain ⟨k, f1, f0, f2⟩ := h.marks d hd
    refine ⟨k, f1, by rw [e4]; exact f0, (ne k ?_).trans f2⟩
    rintro rfl
    rw [hb] at f2; cases f2
theorem R.putL (h : R X D w0 mA r m st a w) (hb : w.heap[b]? = some (.loop rec)) (hb0 : w0.heap.size <= b) (o : Obj) : R X D w0 mA r m st a (w.putObj b o) :=
  h.put_gen hb o rfl rfl rfl rfl fun k hk hX => (World.putObj_heap_other (by omega)).trans (h.old k hk hX)
theorem R.putB (h : R X D w0 mA r m st a w) (hb : w.heap[b]? = some (.loop rec)) (hb0 : b < w0.heap.size) (o : Obj) : R X D (w0.putObj b o) mA r m st a (w.putObj b o) :=
  h.put_gen hb o rfl rfl rfl World.putObj_size fun k hk hX => by
    rw [World.putObj_size] at hk
    by_cases e : k = b
    . subst e
      rw [World.putObj_heap_same (Array.getElem?_eq_some_iff.1 hb).1, World.putObj_heap_same hb0]
    . rw [World.putObj_heap_other e, World.putObj_heap_other e]; exact h.old k hk hX

mutual
def noF : AV -> Bool
  | .lst fl _ _ => fl
  | .ipt fl _ => fl
  | .agg cs => noFs cs
  | .tup cs => noFs cs
  | .clo _ a b => noFs a && noFs b
  | _ => true
def noFs : List AV -> Bool
  | [] => true
  | x :: l => noF x && noFs l
end
def tru (m : Mem) : MM := fun b => if b then m else fun _ => none
mutual
theorem VR.tru {r : Rho} {m : MM} {m' : Mem} (hm : ∀ p v, m true p = some v -> m' p = some v) : ∀ (x : AV) (v : Value), noF x = true -> VR r m x v -> VR r (Lat.tru m') x v
  | .int _ _, _, _, h => by simpa only [VR] using h
  | .bool _, _, _, h => by simpa only [VR] using h
  | .agg cs, v, hn, h => by
    simp only [VR] at h ⊢
    obtain ⟨arr, h1, h0, h2⟩ := h
    exact ⟨arr, h1, h0, VRs.tru hm cs _ hn h2⟩
  | .tup cs, v, hn, h => by
    simp only [VR] at h ⊢
    obtain ⟨arr, h1, h2⟩ := h
    exact ⟨arr, h1, VRs.tru hm cs _ hn h2⟩
  | .nilS, _, _, h => by simpa only [VR] using h
  | .nilP, _, _, h => by simpa only [VR] using h
  | .nilF, _, _, h => by simpa only [VR] using h
  | .ref _ _ _, _, _, h => by simpa only [VR] using h
  | .sub _ _ _, _, _, h => by simpa only [VR] using h
  | .ptr _ _, _, _, h => by simpa only [VR] using h
  | .yl _, _, _, h => by simpa only [VR] using h
  | .gh _, _, _, _ => by simp only [VR]
  | .cut _ _ _ _ _ _, _, _, h => by simpa only [VR] using h
  | .chn _, _, _, h => by simpa only [VR] using h
  | .any, _, _, _ => by simp only [VR]
  | .clo f a b, v, hn, h => by
    simp only [VR] at h ⊢
    simp only [noF, Bool.and_eq_true] at hn
    obtain ⟨x, y, h1, h2, h3⟩ := h
    exact ⟨x, y, h1, VRs.tru hm a _ hn.1 h2, VRs.tru hm b _ hn.2 h3⟩
  | .lst fl n cs, v, hn, h => by
    simp only [noF] at hn
    subst hn
    simp only [VR] at h ⊢
    rcases h with h | ⟨p, cap, vs, h1, h2, h3, h4⟩
    . exact .inl h
    . exact .inr ⟨p, cap, vs, h1, h2, fun i u hu => ⟨hm _ _ (h3 i u hu).1, (h3 i u hu).2⟩, h4.mono (RLe.refl []) (fun b q u hu => by cases b with | true => exact hm _ _ hu | false => cases hu)⟩
  | .ipt fl cs, v, hn, h => by
    simp only [noF] at hn
    subst hn
    simp only [VR] at h ⊢
    obtain ⟨p, vs, h2, h3, h4⟩ := h
    exact ⟨p, vs, h2, fun i u hu => ⟨hm _ _ (h3 i u hu).1, (h3 i u hu).2⟩, h4.mono (RLe.refl []) (fun b q u hu => by cases b with | true => exact hm _ _ hu | false => cases hu)⟩
theorem VRs.tru {r : Rho} {m : MM} {m' : Mem} (hm : ∀ p v, m true p = some v -> m' p = some v) : ∀ (xs : List AV) (vs : List Value), noFs xs = true -> VRs r m xs vs -> VRs r (Lat.tru m') xs vs
  | [], _, _, h => by simpa only [VRs] using h
  | x :: xs, vs, hn, h => by
    simp only [VRs] at h ⊢
    simp only [noFs, Bool.and_eq_true] at hn
    obtain ⟨v, vs', h1, h2, h3⟩ := h
    exact ⟨v, vs', h1, VR.tru hm x v hn.1 h2, VRs.tru hm xs vs' hn.2 h3⟩
end
def noFO : AObj -> Bool
  | .row _ _ cs => noFs cs
  | .box _ cs => noFs cs
  | .chan _ _ buf => noFs buf
  | .dead => true
theorem OR.tru {i : Nat} {o : AObj} {m' : Mem} (hm : ∀ p v, m true p = some v -> m' p = some v) (hn : noFO o = true) (h : OR r m w i o) : OR r (Lat.tru m') w i o := by
  cases o with
  | row t sz cs =>
    rcases h with h | ⟨b, c, cur, h1, h2, h0, h3, h4, h5, h6⟩
    . exact .inl h
    . exact .inr ⟨b, c, cur, h1, h2, h0, h3, h4, h5, h6.tru hm cs _ hn⟩
  | box t cs =>
    obtain ⟨b, c, cur, h1, h2, h0, h3⟩ := h
    exact ⟨b, c, cur, h1, h2, h0, h3.tru hm cs _ hn⟩
  | chan cap cl buf =>
    obtain ⟨b, c, bv, s, rc, h1, h2, h3⟩ := h
    exact ⟨b, c, bv, s, rc, h1, h2, h3.tru hm buf _ hn⟩
  | dead => trivial

def stabV (q : Nat) : AV -> Bool
  | .int _ _ | .bool _ | .nilS | .nilP | .nilF | .any => true
  | .ptr id _ => Nat.blt id q
  | _ => false
def stabL (q : Nat) : List (Nat × AV) -> Bool
  | [] => true
  | (_, v) :: l => stabV q v && stabL q l
theorem stabL_look {q : Nat} : ∀ {l : List (Nat × AV)}, stabL q l = true -> ∀ t, stabV q (look l t) = true
  | [], _, t => rfl
  | (k, v) :: l, h, t => by
    simp only [stabL, Bool.and_eq_true] at h
    rw [look_cons]
    split
    . exact h.1
    . exact stabL_look h.2 t
theorem stab_VR {q : Nat} {x : AV} {v : Value} {r r' : Rho} {m m' : MM} (hs : stabV q x = true) (hr : RLe (r.take q) r') (h : VR r m x v) : VR r' m' x v := by
  cases x <;> simp only [stabV] at hs <;> try (cases hs; done)
  all_goals simp only [VR] at h ⊢ <;> try exact h
  rename_i id off
  obtain ⟨b, c, h1, h2⟩ := h
  refine ⟨b, c, hr id _ ?_, h2⟩
  have hlt : id < q := Nat.le_of_ble_eq_true hs
  rw [List.getElem?_take_of_lt hlt]; exact h1
def ownX (X : Nat -> Prop) (r : Rho) (h : List AObj) : Nat -> Prop := fun k => X k \/ ∃ (i : Nat) (o : AObj) (c : Nat), h[i]? = some o /\ o.live = true /\ r[i]? = some (k, c)
def CapOk (w0 : World) (mA mC : Mem) (r : Rho) (H : List AObj) (w : World) : Prop :=
  ∀ p v, mC p = some v -> w.cell? p = some v /\ p.block < w.heap.size /\ (∀ (i : Nat) (o : AObj) (b c : Nat), H[i]? = some o -> o.live = true -> r[i]? = some (b, c) -> p.block ≠ b) /\ (mA p = some v \/ w0.heap.size <= p.block)
theorem R.round_in {n q p : Nat} {l0 : List (Nat × AV)} {H : List AObj} (h : R X D w0 mA r m ⟨n, look l0, H, 0⟩ a w) (hq : 0 < q) (hs : stabL q l0 = true) (hH : ∀ o ∈ H, noFO o = true) (hp : p < n) {x : AV} {v : Value} {m' : Mem} (hx : noF x = true)
    (hm' : CapOk w0 mA m' r H w) (hv : VR [] (nest m') x v) :
    ∃ m2 : Mem, (∀ p u, m2 p = some u -> m true p = some u \/ m' p = some u) /\ R (ownX X r H) ([], r.take q) w m2 r (tru m2) ⟨n, look ((p, x) :: l0), H, q⟩ { tmps := a.tmps.setIfInBounds p v, defers := [] } w := by
  let m2 : Mem := fun p => match m true p with | some v => some v | none => m' p
  have e1 : ∀ p u, m2 p = some u -> m true p = some u \/ m' p = some u := by
    intro p u hu
    change (match m true p with | some v => some v | none => m' p) = some u at hu
    split at hu
    . rename_i v hv; cases hu; exact .inl hv
    . exact .inr hu
  have e2 : ∀ p v, m true p = some v -> m2 p = some v := fun p v hv => by
    show (match m true p with | some v => some v | none => m' p) = some v
    rw [hv]
  have e3 : ∀ p u, m' p = some u -> m2 p = some u := fun p u hu => by
    show (match m true p with | some v => some v | none => m' p) = some u
    split
    . rename_i v hv; rw [<- (hm' p u hu).1, (h.mem p v hv).1]
    . exact hu
  refine ⟨m2, e1, { os := rfl, tape := rfl, output := rfl, size := Nat.le_refl _, old := fun _ _ _ => rfl, len := h.len, lt := h.lt, mem := fun p u hu => ?_, low := fun p u hu => (by cases hu), newer := fun p u hu => (by cases hu), fz := fun p u hu => (by cases hu), lim := fun p u hu => .inl hu, apart := fun p u hu i o b c ho hl hr => ?_, obj := fun i o ho => (h.obj i o ho).tru e2 (hH o (List.mem_of_getElem? ho)), own := fun i o b c ho hl hr => .inr (.inr ⟨i, o, c, ho, hl, hr⟩), inj := h.inj, size' := (by simpa using h.size'), tmps := fun t => ?_, defers := rfl, base := fun i y hy => ?_, short := (by simp; omega), nox := fun h0 => ?_, marks := fun d hd => (by cases hd), mnod := List.nodup_nil }⟩
  . rcases e1 p u hu with h1 | h1
    . exact h.mem p u h1
    . exact ⟨(hm' p u h1).1, (hm' p u h1).2.1⟩
  . rcases e1 p u hu with h1 | h1
    . exact h.apart p u h1 i o b c ho hl hr
    . exact (hm' p u h1).2.2.1 i o b c ho hl hr
  . show VR r (tru m2) (look ((p, x) :: l0) t) _
    rw [look_cons]
    have hsz : a.tmps.size = n := h.size'
    split
    . rename_i e
      subst e
      have : (a.tmps.setIfInBounds t v).getD t undef = v := by simp [hsz, hp]
      rw [this]
      refine (hv.tru (m' := m2) (fun p u hu => e3 p u hu) x v hx).mono (RLe.nil r) (MLe.refl _)
    . rename_i e
      have h1 := h.tmps t
      have h2 : (a.tmps.setIfInBounds p v).getD t undef = a.tmps.getD t undef := by simp [Array.getElem?_setIfInBounds, Ne.symm e]
      rw [h2]
      exact stab_VR (q := q) (stabL_look hs t) (fun i y hy => by
        rw [List.getElem?_take] at hy
        split at hy
        . exact hy
        . cases hy) h1
  . rw [List.getElem?_take] at hy
    split at hy
    . exact hy
    . cases hy
  . have : q = 0 := h0
    omega
theorem R.round_out {n q : Nat} {l0 : List (Nat × AV)} {H H' : List AObj} {r' : Rho} {m' : MM} {m2 : Mem} {tm' : Nat -> AV} {a' : Act} {ms : List Deferred} (h : R X D w0 mA r m ⟨n, look l0, H, 0⟩ a w) (hs : stabL q l0 = true)
    (h2 : ∀ p u, m2 p = some u -> m true p = some u \/ (mA p = some u \/ w0.heap.size <= p.block))
    (h' : R (ownX X r H) (ms, r.take q) w m2 r' m' ⟨n, tm', H', q⟩ a' w') : R X D w0 mA r' m' ⟨n, look l0, H', 0⟩ a w' := by
  have nx := h.nox rfl
  have keep : ∀ k, k < w.heap.size -> ¬ X k -> (∀ (i : Nat) (o : AObj) (c : Nat), H[i]? = some o -> o.live = true -> ¬ r[i]? = some (k, c)) -> w'.heap[k]? = w.heap[k]? := fun k hk hX hn => h'.old k hk fun hx => by
    rcases hx with hx | ⟨i, o, c, ho, hl, hr⟩
    . exact hX hx
    . exact hn i o c ho hl hr
  refine { os := h'.os.trans h.os, tape := h'.tape.trans h.tape, output := h'.output.trans h.output, size := Nat.le_trans h.size h'.size, old := fun k hk hX => ?_, len := h'.len, lt := h'.lt, mem := h'.mem, low := h'.low, newer := fun p v hv => Nat.le_trans h.size (h'.newer p v hv), fz := h'.fz, lim := fun p v hv => ?_, apart := h'.apart, obj := h'.obj, own := fun i o b c ho hl hr => ?_, inj := h'.inj, size' := h.size', tmps := fun t => stab_VR (stabL_look hs t) h'.base (h.tmps t), defers := h.defers, base := by rw [nx.2]; exact RLe.nil _, short := by rw [nx.2]; exact Nat.zero_le _, nox := h.nox, marks := fun d hd => ?_, mnod := h.mnod }
  . rw [<- h.old k hk hX]
    exact keep k (Nat.lt_of_lt_of_le hk h.size) hX fun i o c ho hl hr => by
      rcases h.own i o k c ho hl hr with h1 | h1
      . omega
      . exact hX h1
  . rcases h'.lim p v hv with h1 | h1
    . rcases h2 p v h1 with h3 | h3
      . exact h.lim p v h3
      . exact h3
    . exact .inr (Nat.le_trans h.size h1)
  . rcases h'.own i o b c ho hl hr with h1 | h1 | ⟨j, oj, cj, h3, h4, h5⟩
    . exact .inl (Nat.le_trans h.size h1)
    . exact .inr h1
    . exact h.own j oj b cj h3 h4 h5
  . obtain ⟨k, e1, e0, e2⟩ := h.marks d hd
    refine ⟨k, e1, e0, (keep k (Array.getElem?_eq_some_iff.1 e2).1 (nx.1 k) fun i o c ho hl hr => ?_).trans e2⟩
    obtain ⟨x, e3, e4, _⟩ := (h.obj i o ho).cells hl hr
    rw [e2] at e3; cases e3; exact e4 _ rfl
end
end Go.Lat
namespace Go.Lat
open Go.RowKit

def FnIt (P : Program) (g : FuncId) (caps : List AV) (L : List AV) : Prop :=
  Callable P g /\ ∀ (n : Nat) (mC : Mem) (w : World) (cv : List Value), VRs [] (nest mC) caps cv →
    ∀ (l : Nat) (J : Nat -> Mem -> World -> Prop) (Jx : Mem -> World -> Prop),
      (∀ i m w w', J i m w -> w.grownBy w' none -> J i m w') -> (∀ m w w', Jx m w -> w.grownBy w' none -> Jx m w') →
      (∀ i m w, J i m w -> ∀ p v, m p = some v -> w.cell? p = some v /\ p.block < w.heap.size) →
      (∀ m w, Jx m w -> ∀ p v, m p = some v -> w.cell? p = some v /\ p.block < w.heap.size) →
      (∀ i m wb w m', J i m wb -> wb.grownBy w none -> (∀ p u, m' p = some u -> w.cell? p = some u /\ p.block < w.heap.size /\ (m p = some u \/ wb.heap.size <= p.block)) -> J i m' w) →
      (∀ n i x m w v, L[i]? = some x -> J i m w -> VR [] (nest m) x v →
        YieldAt (FW none) n P l #[v] w fun e w' => (e = .returned (.bool true) /\ J (i + 1) m w') \/ (e = .returned (.bool false) /\ Jx m w')) →
      J 0 mC w -> CallsIn (FW none) n P g (#[.func (.yield l) #[] #[]] ++ cv.toArray) w fun e w' => (∃ v, e = .returned v) /\ ((∃ m, J L.length m w') \/ ∃ m, Jx m w')

def rndQ (A B : St -> Prop) : Ex -> St -> Prop
  | .nrm, s => A s
  | .ret, s => B s
  | .exit _, _ => False

section
variable {X : Nat -> Prop} {D : List Deferred × Rho} {w0 : World} {mA : Mem} {r : Rho} {m : MM} {st : St} {a : Act} {w w' : World}
theorem R.toSt {s s' : St} (h : R X D w0 mA r m s a w) (hl : s.to s') : ∃ r', R X D w0 mA r' m s' a w := by
  obtain ⟨φ, l, h1, h2, h3, h4, h5, h6, h7⟩ := hl
  obtain ⟨nt, tm, hp, ho⟩ := s'
  simp only at h1 h2 h3 h7
  subst h1; subst h2; subst h3
  exact ⟨_, h.ren φ h4 h5 (regsT_look h6) h7⟩
theorem CapOk.grown {mC : Mem} {H : List AObj} (h : CapOk w0 mA mC r H w) (g : w.grownBy w' none) : CapOk w0 mA mC r H w' := fun p v hp => by
  obtain ⟨h1, h2, h3, h4⟩ := h p v hp
  exact ⟨(World.cell?_of_block (g.block _ h2 (by simp))).trans h1, Nat.lt_of_lt_of_le h2 g.size, h3, h4⟩
theorem CapOk.put {mC : Mem} {H : List AObj} {b : Nat} {rec : Loop} (h : CapOk w0 mA mC r H w) (hb : w.heap[b]? = some (.loop rec)) (o : Obj) : CapOk w0 mA mC r H (w.putObj b o) := fun p v hp => by
  obtain ⟨h1, h2, h3, h4⟩ := h p v hp
  exact ⟨(World.cell?_of_block (World.putObj_heap_other (cell_ne hb h1))).trans h1, by rw [World.putObj_size]; exact h2, h3, h4⟩
theorem CapOk.round {n q : Nat} {l0 : List (Nat × AV)} {H H' : List AObj} {r' : Rho} {m' : MM} {m2 mC : Mem} {tm' : Nat -> AV} {a' : Act} {ms : List Deferred} (hc : CapOk w0 mA mC r H w) (h : R X D w0 mA r m ⟨n, look l0, H, 0⟩ a w)
    (h' : R (ownX X r H) (ms, r.take q) w m2 r' m' ⟨n, tm', H', q⟩ a' w') : CapOk w0 mA mC r' H' w' := fun p v hp => by
  obtain ⟨h1, h2, h3, h4⟩ := hc p v hp
  have nx := h.nox rfl
  have hno : ¬ ownX X r H p.block := by
    rintro (hx | ⟨i, o, c, ho, hl, hr⟩)
    . exact nx.1 _ hx
    . exact h3 i o _ c ho hl hr rfl
  refine ⟨(World.cell?_of_block (h'.old _ h2 hno)).trans h1, Nat.lt_of_lt_of_le h2 h'.size, fun i o b c ho hl hr e => ?_, h4⟩
  rcases h'.own i o b c ho hl hr with h5 | h5
  . omega
  . rw [<- e] at h5; exact hno h5
end

theorem W.range {α β : Type} {P : Program} {T : TT} {Q : Ex -> St -> Prop} {g : Operand} {ps : Array Tmp} {assign body : Code} {n p : Nat} {lg l0 : List (Nat × AV)} {gf : FuncId} {caps caps' L : List AV} (q : Nat)
    (y0 : α) (H : α -> List AObj) (I : Nat -> α -> Prop) (Hr : β -> List AObj) (Ir : β -> Prop)
    (hps : ps = #[p]) (hp : Nat.ble (p + 1) n = true) (he : St.eval ⟨n, look lg, H y0, 0⟩ g = .clo gf [] caps) (hF : FnIt P gf caps' L) (hcc : Wks (caps.map (conv 6 [])) caps')
    (hL : ∀ x ∈ L, noF x = true) (hl0 : regsL (look lg) l0) (hq : 0 < q) (hs : stabL q l0 = true) (hH : ∀ i y, I i y -> ∀ o ∈ H y, noFO o = true) (hng1 : noRg assign = true) (hng2 : noRg body = true) (h0 : I 0 y0)
    (hr : ∀ i x y, L[i]? = some x -> I i y -> W P T assign ⟨n, look ((p, x) :: l0), H y, q⟩ (thenA (fun s => W P T body s (rndQ (fun s => ∃ y', I (i + 1) y' /\ s.to ⟨n, look [], H y', q⟩) (fun s => ∃ z, Ir z /\ s.to ⟨n, look [], Hr z, q⟩))) (fun _ _ => False)))
    (hd : ∀ y, I L.length y -> Q .nrm ⟨n, look l0, H y, 0⟩) (hx : ∀ z, Ir z -> Q .ret ⟨n, look l0, Hr z, 0⟩) :
    W P T (.rangeFunc g ps assign body) ⟨n, look lg, H y0, 0⟩ Q := fun hT hf ro hro n' X D w0 mA r m a w hR => by
  have hro0 : ro = none := by
    rcases ro with _ | l
    . rfl
    . have := hro (by simp)
      cases this
  subst hro0
  subst hps
  have hp' : p < n := Nat.le_of_ble_eq_true hp
  have hv := hR.eval g
  rw [he] at hv
  simp only [VR] at hv
  obtain ⟨x0, yv, hg, hx0, hyv⟩ := hv
  have hx0' : x0 = #[] := by
    apply Array.toList_inj.1
    simpa only [VRs] using hx0
  subst hx0'
  have hcap : VRs [] (nest (m true)) caps' yv.toList := hcc [] _ _ (Low.nest _) (vrs_map_conv (fun x v hv => cv0_sound hR 6 x v hv) _ _ hyv)
  have hR0 : R X D w0 mA r m ⟨n, look l0, H y0, 0⟩ a w := hR.le ⟨rfl, rfl, rfl, fun t => regsL_look hl0 t⟩
  refine wpIn_rangeFunc fun fn hfn => ?_
  obtain ⟨rec, hrec⟩ : ∃ rec : LoopState -> Option Code -> Loop, rec = fun st pe => { state := st, pending := pe, fn, tmps := a.tmps, params := #[p], assign, body, defers := w.heap.size } := ⟨_, rfl⟩
  obtain ⟨W1, hW1⟩ : ∃ W1, (w.alloc (.deferred (some []))).alloc (.loop (rec .ready none)) = W1 := ⟨_, rfl⟩
  have hL1 : W1.heap[w.heap.size + 1]? = some (.loop (rec .ready none)) := by
    rw [<- hW1]; have := World.alloc_heap_new (w.alloc (.deferred (some []))) (.loop (rec .ready none)); rwa [World.size_alloc] at this
  have hK1 : W1.heap[w.heap.size]? = some (.deferred (some [])) := by
    rw [<- hW1]; exact (Below.heap_alloc _ _ _ (by simp)).trans (World.alloc_heap_new w _)
  have hg1 : w.grownBy W1 none := by rw [<- hW1]; exact (World.grownBy_alloc w _ none).trans (World.grownBy_alloc _ _ none)
  obtain ⟨mark, hmark⟩ : ∃ mark : Deferred, mark = { target := .collected w.heap.size, args := #[] } := ⟨_, rfl⟩
  have hsz0 := hR0.size
  have hR1 : R X (mark :: D.1, D.2) w0 mA r m ⟨n, look l0, H y0, 0⟩ { tmps := a.tmps, defers := mark :: a.defers } W1 := by
    have h := hR0.grown hg1
    refine { h with size' := h.size', tmps := h.tmps, defers := by rw [<- h.defers], base := h.base, short := h.short, nox := h.nox, marks := fun d hd => ?_, mnod := List.nodup_cons.2 ⟨fun hin => ?_, h.mnod⟩ }
    . rcases List.mem_cons.1 hd with e | e
      . exact ⟨w.heap.size, e.trans hmark, hsz0, hK1⟩
      . exact h.marks d e
    . obtain ⟨b, e1, e0, e2⟩ := hR0.marks mark hin
      rw [hmark] at e1
      cases e1
      have := (Array.getElem?_eq_some_iff.1 e2).1
      omega
  generalize ha1 : ({ tmps := a.tmps, defers := mark :: a.defers } : Act) = a1 at hR1
  have ha1t : a1.tmps = a.tmps := by rw [<- ha1]
  have hC1 : CapOk w0 mA (m true) r (H y0) W1 := CapOk.grown (fun p v hv => ⟨(hR.mem p v hv).1, (hR.mem p v hv).2, hR.apart p v hv, hR.lim p v hv⟩) hg1
  obtain ⟨mC, hmC⟩ : ∃ mC, mC = m true := ⟨_, rfl⟩
  rw [<- hmC] at hC1 hcap
  obtain ⟨Lb, hLb⟩ : ∃ Lb, Lb = w.heap.size + 1 := ⟨_, rfl⟩
  rw [<- hLb] at hL1
  have hLb0 : w0.heap.size <= Lb := by omega
  obtain ⟨D1, hD1⟩ : ∃ D1 : List Deferred × Rho, D1 = (mark :: D.1, D.2) := ⟨_, rfl⟩
  rw [<- hD1] at hR1
  let J : Nat -> Mem -> World -> Prop := fun i mC W => ∃ y r m, I i y /\ R X D1 w0 mA r m ⟨n, look l0, H y, 0⟩ a1 W /\ CapOk w0 mA mC r (H y) W /\ W.heap[Lb]? = some (.loop (rec .ready none))
  let Jx : Mem -> World -> Prop := fun mC W => ∃ z r m, Ir z /\ R X D1 w0 mA r m ⟨n, look l0, Hr z, 0⟩ a1 W /\ CapOk w0 mA mC r (Hr z) W /\ W.heap[Lb]? = some (.loop (rec .done (some .ret)))
  have hblk : ∀ {A B : World} {o : Obj}, A.heap[Lb]? = some o -> A.grownBy B none -> B.heap[Lb]? = some o := fun h g => (g.block _ (Array.getElem?_eq_some_iff.1 h).1 (by simp)).trans h
  have abJ : ∀ i mC A B, J i mC A -> A.grownBy B none -> J i mC B := fun i mC A B ⟨y, r, m, h1, h2, h3, h4⟩ g => ⟨y, r, m, h1, h2.grown g, h3.grown g, hblk h4 g⟩
  refine ⟨Lb, [mark], W1, { target := .fn (.func gf) yv, args := #[.func (.yield Lb) #[] #[]] }, W1, gf, #[.func (.yield Lb) #[] #[]] ++ yv, W1, ?_, ?_, ?_, ?_, fun h => (by cases h), ?_⟩
  . rw [<- hW1, hrec, hmark, hLb]; exact run_enterLoop_outer _ _ _ _ _
  . simp only [resolve, hg]
    simp [go_sem]
  . exact fun f' hf' => trivial
  . simp [invoke, go_sem, run_callFunc hF.1]
  have hyl : (#[Value.func (.yield Lb) #[] #[]] ++ yv) = #[Value.func (.yield Lb) #[] #[]] ++ yv.toList.toArray := by simp
  rw [hyl]
  refine (hF.2 (n' - 1) mC W1 yv.toList hcap Lb J Jx abJ (fun mC A B ⟨z, r, m, h1, h2, h3, h4⟩ g => ⟨z, r, m, h1, h2.grown g, h3.grown g, hblk h4 g⟩)
    (fun i mC A ⟨y, r, m, h1, h2, h3, h4⟩ p v hv => ⟨(h3 p v hv).1, (h3 p v hv).2.1⟩) (fun mC A ⟨z, r, m, h1, h2, h3, h4⟩ p v hv => ⟨(h3 p v hv).1, (h3 p v hv).2.1⟩) ?_ ?_ ⟨y0, r, m, h0, hR1, hC1, hL1⟩).mono ?_
  . -- more memory
    rintro i mC A B m' ⟨y, r, m, h1, h2, h3, h4⟩ g hm'
    refine ⟨y, r, m, h1, h2.grown g, fun p u hu => ?_, hblk h4 g⟩
    obtain ⟨k1, k2, k3⟩ := hm' p u hu
    rcases k3 with k3 | k3
    . obtain ⟨-, -, k4, k5⟩ := h3 p u k3
      exact ⟨k1, k2, k4, k5⟩
    . exact ⟨k1, k2, fun i o b c ho hl hr => by have := h2.lt i o b c ho hl hr; omega, .inr (Nat.le_trans h2.size k3)⟩
  . -- one round
    rintro nd i x mC W v hLi ⟨y, r, m, hI, hRW, hCW, hlW⟩ hvx
    have hltW : Lb < W.heap.size := (Array.getElem?_eq_some_iff.1 hlW).1
    obtain ⟨m2, hm2, hR2⟩ := hRW.round_in hq hs (hH i y hI) hp' (hL x (List.mem_of_getElem? hLi)) hCW hvx
    have hm2' : ∀ p u, m2 p = some u -> m true p = some u \/ (mA p = some u \/ w0.heap.size <= p.block) := fun p u hu => (hm2 p u hu).imp (fun h => h) (fun h => (hCW p u h).2.2.2)
    have hnoL : ¬ ownX X r (H y) Lb := by
      rintro (hX | ⟨j, o, c, ho, hl, hrj⟩)
      . exact (hRW.nox rfl).1 _ hX
      . obtain ⟨x, e3, _, e4⟩ := (hRW.obj j o ho).cells hl hrj
        rw [hlW] at e3; cases e3; exact e4 _ rfl
    have hrun := run_yield (P := P) (args := #[v]) hlW (by rw [hrec]; rfl)
    rw [hrec] at hrun
    refine ⟨fn, _, assign, body, hrun, roundIn_of_wpIn hfn ?_⟩
    have htm : ((#[p].zip #[v]).foldl (fun tmps (t, a) => tmps.setIfInBounds t a) a.tmps) = a1.tmps.setIfInBounds p v := by rw [ha1t]; simp
    show assign.wpIn (FW (some Lb)) nd P _ { tmps := ((#[p].zip #[v]).foldl (fun tmps (t, a) => tmps.setIfInBounds t a) a.tmps), defers := [] } W
    rw [htm]
    refine wpIn_mono (hr i x y hLi hI hT hf (some Lb) (fun _ => hng1) nd _ _ _ _ _ _ _ _ hR2) ?_
    intro e a3 w3 hq3
    cases e <;> simp only [relQ, thenA, Exit.then] at hq3 ⊢ <;> try exact hq3
    case normal =>
      obtain ⟨ms, r3, m3, s3, -, hW3, hR3⟩ := hq3
      have hl3 : w3.heap[Lb]? = some (.loop (rec .ready none)) := (hR3.old Lb hltW hnoL).trans hlW
      refine ⟨_, run_beginRound hl3 (by rw [hrec]), ?_⟩
      have hR4 := hR3.putB hl3 hltW (.loop { rec .ready none with state := .busy })
      refine wpIn_mono (hW3 hT hf (some Lb) (fun _ => hng2) nd _ _ _ _ _ _ _ _ hR4) ?_
      have hRp := hRW.putL hlW hLb0 (.loop { rec .ready none with state := .busy })
      have hCp := hCW.put hlW (.loop { rec .ready none with state := .busy })
      have hlp : (W.putObj Lb (.loop { rec .ready none with state := .busy })).heap[Lb]? = some (.loop { rec .ready none with state := .busy }) := World.putObj_heap_same hltW
      intro e a5 w5 hq5
      cases e <;> simp only [relQ, roundPost, rndQ] at hq5 ⊢
      case normal =>
        obtain ⟨ms2, r5, m5, s5, -, ⟨y', hI', hto⟩, hR5⟩ := hq5
        obtain ⟨r6, hR6⟩ := hR5.toSt hto
        have hl5 : w5.heap[Lb]? = some (.loop { rec .ready none with state := .busy }) := (hR6.old Lb (by rw [World.putObj_size]; exact hltW) hnoL).trans hlp
        refine ⟨_, _, run_endRound none hl5, .inl ⟨rfl, y', r6, m5, hI', ?_, ?_, ?_⟩⟩
        . exact (hRp.round_out hs hm2' hR6).putL hl5 hLb0 _
        . exact (hCp.round hRp hR6).put hl5 _
        . rw [World.putObj_heap_same (Array.getElem?_eq_some_iff.1 hl5).1, hrec]; rfl
      case ret =>
        obtain ⟨ms2, r5, m5, s5, -, ⟨z, hI', hto⟩, hR5⟩ := hq5
        obtain ⟨r6, hR6⟩ := hR5.toSt hto
        have hl5 : w5.heap[Lb]? = some (.loop { rec .ready none with state := .busy }) := (hR6.old Lb (by rw [World.putObj_size]; exact hltW) hnoL).trans hlp
        refine ⟨_, _, run_endRound (some .ret) hl5, .inr ⟨rfl, z, r6, m5, hI', ?_, ?_, ?_⟩⟩
        . exact (hRp.round_out hs hm2' hR6).putL hl5 hLb0 _
        . exact (hCp.round hRp hR6).put hl5 _
        . rw [World.putObj_heap_same (Array.getElem?_eq_some_iff.1 hl5).1, hrec]; rfl
      case exit l => obtain ⟨_, _, _, _, _, h, _⟩ := hq5; exact h.elim
    case exit l => obtain ⟨_, _, _, _, _, h, _⟩ := hq3; exact h
    case ret => obtain ⟨_, _, _, _, _, h, _⟩ := hq3; exact h
  . -- behind it
    have ha1' : ({ a with defers := [mark] ++ a.defers } : Act) = a1 := by rw [<- ha1]; rfl
    rw [ha1']
    rintro e W2 ⟨⟨v, rfl⟩, ⟨_, y, r, m, hI, hR2, -, hl2⟩ | ⟨_, z, r, m, hI, hR2, -, hl2⟩⟩
    . refine ⟨none, _, by have := run_endLoop (P := P) hl2 (by rw [hrec]; simp); rw [hrec] at this; exact this, ?_⟩
      refine ⟨[mark], r, m, _, fun hh => (by cases hh), hd y hI, ?_⟩
      have hR3 := hR2.putL hl2 hLb0 (.loop { rec .ready none with state := .exhausted })
      rw [hD1, hrec] at hR3
      exact hR3
    . refine ⟨some .ret, _, by have := run_endLoop (P := P) hl2 (by rw [hrec]; simp); rw [hrec] at this; exact this, ?_⟩
      refine wpIn_ret ⟨[mark], r, m, _, fun hh => (by cases hh), hx z hI, ?_⟩
      have hR3 := hR2.putL hl2 hLb0 (.loop { rec .done (some .ret) with state := .exhausted })
      rw [hD1, hrec] at hR3
      exact hR3
end Go.Lat
namespace Go.Lat
open Go.RowKit

abbrev GH : Nat := 1000000
structure ItC where
  l : Nat
  J : Nat -> Mem -> World -> Prop
  Jx : Mem -> World -> Prop
  L : List AV
structure ItC.Ok (C : ItC) (P : Program) : Prop where
  ab : ∀ i m w w', C.J i m w -> w.grownBy w' none -> C.J i m w'
  abx : ∀ m w w', C.Jx m w -> w.grownBy w' none -> C.Jx m w'
  mem : ∀ i m w, C.J i m w -> ∀ p v, m p = some v -> w.cell? p = some v /\ p.block < w.heap.size
  memx : ∀ m w, C.Jx m w -> ∀ p v, m p = some v -> w.cell? p = some v /\ p.block < w.heap.size
  ext : ∀ i m wb w m', C.J i m wb -> wb.grownBy w none -> (∀ p u, m' p = some u -> w.cell? p = some u /\ p.block < w.heap.size /\ (m p = some u \/ wb.heap.size <= p.block)) -> C.J i m' w
  step : ∀ n i x m w v, C.L[i]? = some x -> C.J i m w -> VR [] (nest m) x v →
    YieldAt (FW none) n P C.l #[v] w fun e w' => (e = .returned (.bool true) /\ C.J (i + 1) m w') \/ (e = .returned (.bool false) /\ C.Jx m w')
def Jg (C : ItC) : AV -> Mem -> World -> Prop
  | .gh (i + 1), m, w => C.J i m w
  | .gh 0, m, w => C.Jx m w
  | _, _, _ => False
def relJ (C : ItC) (Q : Ex -> St -> Prop) : Exit -> Act -> World -> Prop
  | .normal, a, w => ∃ w0 mA r m s, Q .nrm s /\ Jg C (s.tm GH) mA w0 /\ R (fun _ => False) ([], []) w0 mA r m s a w
  | .ret, a, w => ∃ w0 mA r m s, Q .ret s /\ Jg C (s.tm GH) mA w0 /\ R (fun _ => False) ([], []) w0 mA r m s a w
  | .exit l, a, w => ∃ w0 mA r m s, Q (.exit l) s /\ Jg C (s.tm GH) mA w0 /\ R (fun _ => False) ([], []) w0 mA r m s a w
  | _, _, _ => False
def WJ (C : ItC) (P : Program) (T : TT) (c : Code) (st : St) (Q : Ex -> St -> Prop) : Prop :=
  C.Ok P -> TsOk P T -> P.follows .mixedOrders = true -> ∀ (n : Nat) (w0 : World) (mA : Mem) (r : Rho) (m : MM) (a : Act) (w : World), Jg C (st.tm GH) mA w0 -> R (fun _ => False) ([], []) w0 mA r m st a w →
    c.wpIn (FW none) n P (relJ C Q) a w

section
variable {C : ItC} {P : Program} {T : TT} {st : St} {Q Q' : Ex -> St -> Prop} {c c' : Code}
theorem relJ_mono (hq : ∀ e s, Q e s -> Q' e s) : ∀ e a w, relJ C Q e a w -> relJ C Q' e a w := by
  intro e a w h
  cases e <;> simp only [relJ] at h ⊢ <;> first | exact h | exact (let ⟨w0, mA, r, m, s, h0, h1, h2⟩ := h; ⟨w0, mA, r, m, s, hq _ _ h0, h1, h2⟩)
theorem WJ.mono (h : WJ C P T c st Q) (hq : ∀ e s, Q e s -> Q' e s) : WJ C P T c st Q' := fun hC hT hf n w0 mA r m a w hJ hR =>
  wpIn_mono (h hC hT hf n w0 mA r m a w hJ hR) (relJ_mono hq)
theorem WJ.ofW (hn : noRg c = true) (h : W P T c st fun e s => s.tm GH = st.tm GH /\ Q e s) : WJ C P T c st Q := fun hC hT hf n w0 mA r m a w hJ hR => by
  refine wpIn_mono (h hT hf none (fun h => (h rfl).elim) n _ _ _ _ _ _ _ _ hR) fun e a' w' he => ?_
  cases e <;> simp only [relQ, relJ] at he ⊢ <;> try exact he
  all_goals
    obtain ⟨ms, r', m', s, h0, ⟨h1, h2⟩, h3⟩ := he
    rw [h0 hn] at h3
    exact ⟨w0, mA, r', m', s, h2, by rw [h1]; exact hJ, h3⟩
theorem WJ.seq (M : St -> Prop) (h : WJ C P T c st (thenA M Q)) (h' : ∀ s, M s -> WJ C P T c' s Q) : WJ C P T (.seq c c') st Q := fun hC hT hf n w0 mA r m a w hJ hR => by
  refine wpIn_seq (wpIn_mono (h hC hT hf n w0 mA r m a w hJ hR) fun e a' w' he => ?_)
  cases e <;> simp only [relJ, thenA, Exit.then] at he ⊢ <;> try exact he
  obtain ⟨w0', mA', r', m', s, h1, h2, h3⟩ := he
  exact h' s h1 hC hT hf n w0' mA' r' m' a' w' h2 h3
theorem WJ.seq' (h : WJ C P T c st (thenA (fun s => WJ C P T c' s Q) Q)) : WJ C P T (.seq c c') st Q := WJ.seq _ h fun _ h => h
theorem WJ.skip (h : Q .nrm st) : WJ C P T .skip st Q := fun _ _ _ _ w0 mA r m _ _ hJ hR => wpIn_skip ⟨w0, mA, r, m, st, h, hJ, hR⟩
theorem WJ.ret (h : Q .ret st) : WJ C P T .ret st Q := fun _ _ _ _ w0 mA r m _ _ hJ hR => wpIn_ret ⟨w0, mA, r, m, st, h, hJ, hR⟩
theorem WJ.exit {l : Nat} (h : Q (.exit l) st) : WJ C P T (.exit l) st Q := fun _ _ _ _ w0 mA r m _ _ hJ hR => wpIn_exit ⟨w0, mA, r, m, st, h, hJ, hR⟩
theorem WJ.cond {x : Operand} {t : Bool} (hx : st.eval x = .bool t) (h1 : t = true -> WJ C P T c st Q) (h2 : t = false -> WJ C P T c' st Q) : WJ C P T (.cond x c c') st Q := fun hC hT hf n w0 mA r m a w hJ hR => by
  have hv := hR.eval x
  rw [hx] at hv
  simp only [VR] at hv
  exact wpIn_cond_split hv (fun ht => h1 ht hC hT hf n w0 mA r m a w hJ hR) (fun ht => h2 ht hC hT hf n w0 mA r m a w hJ hR)
theorem WJ.cn {p : Prop} [Decidable p] {x : Operand} (hx : st.eval x = .bool (decide p)) (h1 : p -> WJ C P T c st Q) (h2 : ¬ p -> WJ C P T c' st Q) : WJ C P T (.cond x c c') st Q :=
  WJ.cond hx (fun h => h1 (of_decide_eq_true h)) (fun h => h2 (of_decide_eq_false h))
theorem WJ.cb {q : Bool} {x : Operand} (hx : st.eval x = .bool q) (h1 : q = true -> WJ C P T c st Q) (h2 : ¬ q = true -> WJ C P T c' st Q) : WJ C P T (.cond x c c') st Q :=
  WJ.cond hx h1 (fun h => h2 (by rw [h]; simp))
theorem WJ.cT {x : Operand} (hx : st.eval x = .bool true) (h1 : WJ C P T c st Q) : WJ C P T (.cond x c c') st Q := WJ.cond hx (fun _ => h1) (fun h => by cases h)
theorem WJ.cF {x : Operand} (hx : st.eval x = .bool false) (h1 : WJ C P T c' st Q) : WJ C P T (.cond x c c') st Q := WJ.cond hx (fun h => by cases h) (fun _ => h1)
theorem WJ.block {id : Nat} (h : WJ C P T c st (blockA id Q)) : WJ C P T (.block id c) st Q := fun hC hT hf n w0 mA r m a w hJ hR =>
  wpIn_block (wpIn_mono (h hC hT hf n w0 mA r m a w hJ hR) fun e a' w' he => by
    cases e <;> simp only [relJ, blockA, Exit.inBlock] at he ⊢ <;> try exact he
    rename_i l
    obtain ⟨w0', mA', r', m', s, h1, h2, h3⟩ := he
    split <;> rename_i hl
    . rw [if_pos hl] at h1
      exact ⟨w0', mA', r', m', s, h1, h2, h3⟩
    . rw [if_neg hl] at h1
      exact ⟨w0', mA', r', m', s, h1, h2, h3⟩)
theorem WJ.to {st' : St} (hl : st.to st') (hg : st'.tm GH = st.tm GH) (h : WJ C P T c st' Q) : WJ C P T c st Q := fun hC hT hf n w0 mA r m a w hJ hR => by
  obtain ⟨r', hR'⟩ := hR.toSt hl
  exact h hC hT hf n w0 mA r' m a w (by rw [hg]; exact hJ) hR'
theorem WJ.tr {n : Nat} {h : List AObj} {b : Nat} {tm : Nat -> AV} (l' : List (Nat × AV)) (h' : List AObj) (hl : regsL tm l') (hh : h = h') (hg : look l' GH = tm GH) (hw : WJ C P T c ⟨n, look l', h', b⟩ Q) : WJ C P T c ⟨n, tm, h, b⟩ Q := fun hC hT hf k w0 mA r m a w hJ hR => by
  subst hh
  exact hw hC hT hf k w0 mA r m a w (by show Jg C (look l' GH) mA w0; rw [hg]; exact hJ) (hR.le ⟨rfl, rfl, rfl, regsL_look hl⟩)
open Classical in
theorem WJ.loop (I : Nat -> St -> Prop) {k : Nat} (h0 : I k st) (h : ∀ k s, I k s -> WJ C P T c s (thenA (fun s' => ∃ k', k' < k /\ I k' s') Q)) : WJ C P T (.loop c) st Q := fun hC hT hf n w0 mA r m a w hJ hR => by
  let Has : Act -> World -> Nat -> Prop := fun a w k => ∃ w0 mA r m s, I k s /\ Jg C (s.tm GH) mA w0 /\ R (fun _ => False) ([], []) w0 mA r m s a w
  have least : ∀ (p : Nat -> Prop) (k : Nat), p k -> ∃ j, p j /\ ∀ i, p i -> j <= i := by
    intro p k
    induction k using Nat.strongRecOn with
    | _ k ih =>
      intro hk
      by_cases hx : ∃ i, i < k /\ p i
      . obtain ⟨i, hi, hpi⟩ := hx
        exact ih i hi hpi
      . exact ⟨k, hk, fun i hi => Nat.le_of_not_lt fun hlt => hx ⟨i, hlt, hi⟩⟩
  let μ : Act -> World -> Nat := fun a w => if hx : ∃ j, Has a w j /\ ∀ i, Has a w i -> j <= i then Classical.choose hx else 0
  have hμ : ∀ a w k, Has a w k -> Has a w (μ a w) /\ μ a w <= k := fun a w k hk => by
    have hx := least (Has a w) k hk
    have e : μ a w = Classical.choose hx := dif_pos hx
    rw [e]
    exact ⟨(Classical.choose_spec hx).1, (Classical.choose_spec hx).2 k hk⟩
  refine wpIn_loop (fun a w => ∃ k, Has a w k) μ ⟨k, w0, mA, r, m, st, h0, hJ, hR⟩ ?_
  rintro a w ⟨k, hk⟩
  obtain ⟨⟨w0, mA, r, m, s, hI, hJ, hR⟩, _⟩ := hμ a w k hk
  refine wpIn_mono (h _ s hI hC hT hf n w0 mA r m a w hJ hR) fun e a' w' he => ?_
  cases e <;> simp only [relJ, thenA, Exit.then] at he ⊢ <;> try exact he
  obtain ⟨w0', mA', r', m', s', ⟨k', hk', hI'⟩, hJ', hR'⟩ := he
  exact ⟨⟨k', w0', mA', r', m', s', hI', hJ', hR'⟩, Nat.lt_of_le_of_lt (hμ a' w' k' ⟨w0', mA', r', m', s', hI', hJ', hR'⟩).2 hk'⟩
theorem WJ.rL {id : Nat} {ol : List Oper} (h1 : seqL P T ol [] 0 ol st fun s => s.tm GH = st.tm GH /\ WJ C P T c s Q) : WJ C P T (.seq (.region id ol.toArray false) c) st Q :=
  WJ.seq (fun s => WJ C P T c s Q) (WJ.ofW rfl (W.region (Q := fun e s => s.tm GH = st.tm GH /\ thenA (fun s => WJ C P T c s Q) Q e s) [] h1)) fun _ h => h
theorem WJ.rP {id : Nat} {ol : List Oper} (ord : List Nat) (hc : chk ol.toArray ord = true) (hl : allIn ol ord = true) (h1 : seqL P T ol [] 0 (pickL ol ord) st fun s => s.tm GH = st.tm GH /\ WJ C P T c s Q) : WJ C P T (.seq (.region id ol.toArray true) c) st Q :=
  WJ.seq (fun s => WJ C P T c s Q) (WJ.ofW rfl (W.rP1 (Q := fun e s => s.tm GH = st.tm GH /\ thenA (fun s => WJ C P T c s Q) Q e s) ord hc hl h1)) fun _ h => h
theorem WJ.rL1 {id : Nat} {ol : List Oper} (h1 : seqL P T ol [] 0 ol st fun s => s.tm GH = st.tm GH /\ Q .nrm s) : WJ C P T (.region id ol.toArray false) st Q := WJ.ofW rfl (W.region [] h1)

def clJ : AV -> Bool
  | .int _ _ | .bool _ | .nilS | .nilP | .nilF | .any | .yl _ | .gh _ => true
  | .ipt true _ => true
  | .lst true _ _ => true
  | .clo _ [] [] => true
  | _ => false
def clJs : List (Nat × AV) -> Bool
  | [] => true
  | (_, v) :: l => clJ v && clJs l
structure YSt (C : ItC) (P : Program) (T : TT) (ol B : List Oper) (j : Nat) (d : Nat) (f x : Operand) (gd : Option (Nat × Bool)) (g0 : AV) (s1 : St) (K : St -> Prop) : Prop where
  intro ::
  ex : ∃ (nt : Nat) (lr : List (Nat × AV)) (hp : List AObj) (i : Nat) (Y : AV) (l' : List (Nat × AV)), s1 = ⟨nt, look lr, hp, 0⟩ ∧
    (gd = none \/ ∃ k t, gd = some (k, true) /\ gdT ol k = some t /\ look lr t = .bool true) /\ d < nt /\ St.eval ⟨nt, look lr, hp, 0⟩ f = .yl C.l /\ g0 = .gh (i + 1) /\ C.L[i]? = some Y /\ Wk (conv 6 [] (St.eval ⟨nt, look lr, hp, 0⟩ x)) Y /\ clJs l' = true /\ regsL (look lr) l' ∧
    seqL P T ol [] j B ⟨nt, look ((d, .bool true) :: (GH, .gh (i + 2)) :: l'), [], 0⟩ (fun s => s.tm GH = .gh (i + 2) /\ K s) ∧
    seqL P T ol [] j B ⟨nt, look ((d, .bool false) :: (GH, .gh 0) :: l'), [], 0⟩ (fun s => s.tm GH = .gh 0 /\ K s)
theorem FnIt.of_walk {fI : FuncId} {nt : Nat} {rs : List ResultVar} {caps L : List AV} (hT : TsOk P T) (hm : P.follows .mixedOrders = true) (hf : IsFn P fI c nt rs) (hrs : rs = []) (hn : caps.length + 1 <= nt)
    (h : ∀ C : ItC, C.L = L -> WJ C P T c ⟨nt, look ((GH, .gh 1) :: enumT 0 (.yl C.l :: caps)), [], 0⟩ (fun e s => (e = .nrm \/ e = .ret) /\ (s.tm GH = .gh 0 \/ s.tm GH = .gh (L.length + 1)))) : FnIt P fI caps L := by
  obtain ⟨fn, h1, h2, h3, h4, h5⟩ := hf.fn
  refine ⟨⟨fn, h1, h2, by rw [h3]; rfl⟩, fun n mC w cv hcv l J Jx ab abx mem memx ext step hJ => ?_⟩
  have hC : ItC.Ok ⟨l, J, Jx, L⟩ P := ⟨ab, abx, mem, memx, ext, step⟩
  have hvs : VRs [] (nest mC) (.yl l :: caps) (.func (.yield l) #[] #[] :: cv) := by
    simp only [VRs]
    exact ⟨_, _, rfl, by simp only [VR], hcv⟩
  have hR := enter_R (nt := nt) (mem 0 mC w hJ) hvs (by simpa using hn) (fun _ => False) (fun _ hf => hf)
  have hlen := hcv.length
  have hR2 : R (fun _ => False) ([], []) w mC [] (nest mC) ⟨nt, look ((GH, .gh 1) :: enumT 0 (.yl l :: caps)), [], 0⟩ { tmps := (.func (.yield l) #[] #[] :: cv).toArray ++ Array.replicate (nt - (.func (.yield l) #[] #[] :: cv).toArray.size) undef, defers := [] } w := by
    refine { hR with size' := hR.size', tmps := fun t => ?_, nox := hR.nox, short := hR.short, base := hR.base, defers := hR.defers }
    show VR [] (nest mC) (look ((GH, .gh 1) :: enumT 0 (.yl l :: caps)) t) _
    rw [look_cons]
    split
    . simp only [VR]
    . exact hR.tmps t
  have hargs : (#[Value.func (.yield l) #[] #[]] ++ cv.toArray) = (Value.func (.yield l) #[] #[] :: cv).toArray := by simp
  rw [hargs]
  refine callsIn_of_wp_marks h1 h3 trivial ?_
  rw [h4]
  refine wpIn_mono (h ⟨l, J, Jx, L⟩ rfl hC hT hm n w mC [] (nest mC) _ w hJ hR2) ?_
  have fin : ∀ (a' : Act) (w' : World) w0 mA r m s, (s.tm GH = .gh 0 \/ s.tm GH = .gh (L.length + 1)) -> Jg ⟨l, J, Jx, L⟩ (s.tm GH) mA w0 -> R (fun _ => False) ([], []) w0 mA r m s a' w' →
      LeavesInM (FW none) n P fn a'.tmps (fun e w' => (∃ v, e = .returned v) /\ ((∃ m, J L.length m w') \/ ∃ m, Jx m w')) a'.defers .returning w' := by
    intro a' w' w0 mA r m s hs hJ' hR'
    rw [hR'.defers]
    obtain ⟨v, hv⟩ : ∃ v, (results fn a'.tmps).run P w' = .ok v w' := by
      have hres : fn.results = #[] := by
        apply Array.toList_inj.1
        rw [h5, hrs]
      simp [results, hres, Sem.run_pure]
    refine ⟨v, hv, ⟨v, rfl⟩, ?_⟩
    rcases hs with hs | hs
    . rw [hs] at hJ'
      exact .inr ⟨mA, abx _ _ _ hJ' (grown_of_R hR')⟩
    . rw [hs] at hJ'
      exact .inl ⟨mA, ab _ _ _ _ hJ' (grown_of_R hR')⟩
  intro e a' w' he
  cases e <;> simp only [relJ, bodyPostM] at he ⊢ <;> try exact he.elim
  . obtain ⟨w0, mA, r, m, s, ⟨-, hs⟩, hJ', hR'⟩ := he
    exact fin a' w' w0 mA r m s hs hJ' hR'
  . obtain ⟨w0, mA, r, m, s, ⟨hs, -⟩, hJ', hR'⟩ := he
    rcases hs with hs | hs <;> cases hs
  . obtain ⟨w0, mA, r, m, s, ⟨-, hs⟩, hJ', hR'⟩ := he
    exact fin a' w' w0 mA r m s hs hJ' hR'
end
end Go.Lat
namespace Go.Lat
open Go.RowKit
section
variable {P : Program} {T : TT} {Q : Ex -> St -> Prop} {g : Operand} {p n : Nat} {assign body : Code} {gf : FuncId} {caps caps' : List AV} {l0 lg : List (Nat × AV)}
end
end Go.Lat
namespace Go.Lat
open Go.RowKit
theorem Ren.gh {φ : List (Option Nat)} (k : Nat) : Ren φ (.gh k) (.gh k) := fun _ _ _ _ _ => by simp only [VR]
theorem Ren.yl {φ : List (Option Nat)} (k : Nat) : Ren φ (.yl k) (.yl k) := fun _ _ _ _ hv => by simpa only [VR] using hv
section
variable {C : ItC} {P : Program} {T : TT} {st : St} {Q : Ex -> St -> Prop} {c c' : Code}
theorem WJ.mid1 {α0 : Type} (S : α0 -> St) (p : α0 -> Prop) (h' : ∀ (x0 : α0), p x0 -> WJ C P T c' (S x0) Q) (h : WJ C P T c st (thenA (fun s => ∃ (_ : Unit) (x0 : α0), p x0 /\ s.to (S x0) /\ (S x0).tm GH = s.tm GH) Q)) : WJ C P T (.seq c c') st Q :=
  WJ.seq _ h fun _ ⟨_, x0, hx, hs, hg⟩ => WJ.to hs hg (h' x0 hx)
theorem WJ.loop1 {α0 : Type} (S : α0 -> St) (p : α0 -> Prop) (μ : α0 -> Nat) (z0 : α0) (hs : st.to (S z0)) (hg : (S z0).tm GH = st.tm GH) (hp : p z0)
    (h : ∀ (x0 : α0), p x0 -> WJ C P T c (S x0) (thenA (fun s => ∃ (_ : Unit) (y0 : α0), (p y0 /\ μ y0 < μ x0) /\ s.to (S y0) /\ (S y0).tm GH = s.tm GH) Q)) : WJ C P T (.loop c) st Q :=
  WJ.loop (fun k s => ∃ (x0 : α0), p x0 /\ μ x0 = k /\ s.to (S x0) /\ (S x0).tm GH = s.tm GH) (k := μ z0) ⟨z0, hp, rfl, hs, hg⟩ fun k s ⟨x0, hx, hk, hs, hg⟩ => WJ.to hs hg ((h x0 hx).mono fun e s' h => by
    cases e <;> simp only [thenA] at h ⊢ <;> try exact h
    obtain ⟨_, y0, ⟨h1, h2⟩, h3, h4⟩ := h
    exact ⟨μ y0, by rw [<- hk]; exact h2, y0, h1, rfl, h3, h4⟩)
theorem WJ.mid2 {α0 α1 : Type} (S : α0 -> α1 -> St) (p : α0 -> α1 -> Prop) (h' : ∀ (x0 : α0) (x1 : α1), p x0 x1 -> WJ C P T c' (S x0 x1) Q) (h : WJ C P T c st (thenA (fun s => ∃ (_ : Unit) (x0 : α0) (x1 : α1), p x0 x1 /\ s.to (S x0 x1) /\ (S x0 x1).tm GH = s.tm GH) Q)) : WJ C P T (.seq c c') st Q :=
  WJ.seq _ h fun _ ⟨_, x0, x1, hx, hs, hg⟩ => WJ.to hs hg (h' x0 x1 hx)
theorem WJ.loop2 {α0 α1 : Type} (S : α0 -> α1 -> St) (p : α0 -> α1 -> Prop) (μ : α0 -> α1 -> Nat) (z0 : α0) (z1 : α1) (hs : st.to (S z0 z1)) (hg : (S z0 z1).tm GH = st.tm GH) (hp : p z0 z1)
    (h : ∀ (x0 : α0) (x1 : α1), p x0 x1 -> WJ C P T c (S x0 x1) (thenA (fun s => ∃ (_ : Unit) (y0 : α0) (y1 : α1), (p y0 y1 /\ μ y0 y1 < μ x0 x1) /\ s.to (S y0 y1) /\ (S y0 y1).tm GH = s.tm GH) Q)) : WJ C P T (.loop c) st Q :=
  WJ.loop (fun k s => ∃ (x0 : α0) (x1 : α1), p x0 x1 /\ μ x0 x1 = k /\ s.to (S x0 x1) /\ (S x0 x1).tm GH = s.tm GH) (k := μ z0 z1) ⟨z0, z1, hp, rfl, hs, hg⟩ fun k s ⟨x0, x1, hx, hk, hs, hg⟩ => WJ.to hs hg ((h x0 x1 hx).mono fun e s' h => by
    cases e <;> simp only [thenA] at h ⊢ <;> try exact h
    obtain ⟨_, y0, y1, ⟨h1, h2⟩, h3, h4⟩ := h
    exact ⟨μ y0 y1, by rw [<- hk]; exact h2, y0, y1, h1, rfl, h3, h4⟩)
theorem WJ.mid3 {α0 α1 α2 : Type} (S : α0 -> α1 -> α2 -> St) (p : α0 -> α1 -> α2 -> Prop) (h' : ∀ (x0 : α0) (x1 : α1) (x2 : α2), p x0 x1 x2 -> WJ C P T c' (S x0 x1 x2) Q) (h : WJ C P T c st (thenA (fun s => ∃ (_ : Unit) (x0 : α0) (x1 : α1) (x2 : α2), p x0 x1 x2 /\ s.to (S x0 x1 x2) /\ (S x0 x1 x2).tm GH = s.tm GH) Q)) : WJ C P T (.seq c c') st Q :=
  WJ.seq _ h fun _ ⟨_, x0, x1, x2, hx, hs, hg⟩ => WJ.to hs hg (h' x0 x1 x2 hx)
theorem WJ.loop3 {α0 α1 α2 : Type} (S : α0 -> α1 -> α2 -> St) (p : α0 -> α1 -> α2 -> Prop) (μ : α0 -> α1 -> α2 -> Nat) (z0 : α0) (z1 : α1) (z2 : α2) (hs : st.to (S z0 z1 z2)) (hg : (S z0 z1 z2).tm GH = st.tm GH) (hp : p z0 z1 z2)
    (h : ∀ (x0 : α0) (x1 : α1) (x2 : α2), p x0 x1 x2 -> WJ C P T c (S x0 x1 x2) (thenA (fun s => ∃ (_ : Unit) (y0 : α0) (y1 : α1) (y2 : α2), (p y0 y1 y2 /\ μ y0 y1 y2 < μ x0 x1 x2) /\ s.to (S y0 y1 y2) /\ (S y0 y1 y2).tm GH = s.tm GH) Q)) : WJ C P T (.loop c) st Q :=
  WJ.loop (fun k s => ∃ (x0 : α0) (x1 : α1) (x2 : α2), p x0 x1 x2 /\ μ x0 x1 x2 = k /\ s.to (S x0 x1 x2) /\ (S x0 x1 x2).tm GH = s.tm GH) (k := μ z0 z1 z2) ⟨z0, z1, z2, hp, rfl, hs, hg⟩ fun k s ⟨x0, x1, x2, hx, hk, hs, hg⟩ => WJ.to hs hg ((h x0 x1 x2 hx).mono fun e s' h => by
    cases e <;> simp only [thenA] at h ⊢ <;> try exact h
    obtain ⟨_, y0, y1, y2, ⟨h1, h2⟩, h3, h4⟩ := h
    exact ⟨μ y0 y1 y2, by rw [<- hk]; exact h2, y0, y1, y2, h1, rfl, h3, h4⟩)
theorem WJ.mid4 {α0 α1 α2 α3 : Type} (S : α0 -> α1 -> α2 -> α3 -> St) (p : α0 -> α1 -> α2 -> α3 -> Prop) (h' : ∀ (x0 : α0) (x1 : α1) (x2 : α2) (x3 : α3), p x0 x1 x2 x3 -> WJ C P T c' (S x0 x1 x2 x3) Q) (h : WJ C P T c st (thenA (fun s => ∃ (_ : Unit) (x0 : α0) (x1 : α1) (x2 : α2) (x3 : α3), p x0 x1 x2 x3 /\ s.to (S x0 x1 x2 x3) /\ (S x0 x1 x2 x3).tm GH = s.tm GH) Q)) : WJ C P T (.seq c c') st Q :=
  WJ.seq _ h fun _ ⟨_, x0, x1, x2, x3, hx, hs, hg⟩ => WJ.to hs hg (h' x0 x1 x2 x3 hx)
theorem WJ.loop4 {α0 α1 α2 α3 : Type} (S : α0 -> α1 -> α2 -> α3 -> St) (p : α0 -> α1 -> α2 -> α3 -> Prop) (μ : α0 -> α1 -> α2 -> α3 -> Nat) (z0 : α0) (z1 : α1) (z2 : α2) (z3 : α3) (hs : st.to (S z0 z1 z2 z3)) (hg : (S z0 z1 z2 z3).tm GH = st.tm GH) (hp : p z0 z1 z2 z3)
    (h : ∀ (x0 : α0) (x1 : α1) (x2 : α2) (x3 : α3), p x0 x1 x2 x3 -> WJ C P T c (S x0 x1 x2 x3) (thenA (fun s => ∃ (_ : Unit) (y0 : α0) (y1 : α1) (y2 : α2) (y3 : α3), (p y0 y1 y2 y3 /\ μ y0 y1 y2 y3 < μ x0 x1 x2 x3) /\ s.to (S y0 y1 y2 y3) /\ (S y0 y1 y2 y3).tm GH = s.tm GH) Q)) : WJ C P T (.loop c) st Q :=
  WJ.loop (fun k s => ∃ (x0 : α0) (x1 : α1) (x2 : α2) (x3 : α3), p x0 x1 x2 x3 /\ μ x0 x1 x2 x3 = k /\ s.to (S x0 x1 x2 x3) /\ (S x0 x1 x2 x3).tm GH = s.tm GH) (k := μ z0 z1 z2 z3) ⟨z0, z1, z2, z3, hp, rfl, hs, hg⟩ fun k s ⟨x0, x1, x2, x3, hx, hk, hs, hg⟩ => WJ.to hs hg ((h x0 x1 x2 x3 hx).mono fun e s' h => by
    cases e <;> simp only [thenA] at h ⊢ <;> try exact h
    obtain ⟨_, y0, y1, y2, y3, ⟨h1, h2⟩, h3, h4⟩ := h
    exact ⟨μ y0 y1 y2 y3, by rw [<- hk]; exact h2, y0, y1, y2, y3, h1, rfl, h3, h4⟩)
end
end Go.Lat
namespace Go.Lat
open Go.RowKit

def stepM (P : Program) (T : TT) (ops : Array Oper) (p i : Nat) (st : St) (K : St -> Prop) : Prop :=
  if i = p then match ops[i]? with
    | none => K st
    | some o => stepH P T ops.toList o st K
  else stepI P T ops i st K
def seqM (P : Program) (T : TT) (ops : Array Oper) (p : Nat) : List Nat -> St -> (St -> Prop) -> Prop
  | [], st, K => K st
  | i :: l, st, K => stepM P T ops p i st fun s => seqM P T ops p l s K
def anyM (P : Program) (T : TT) (ops : Array Oper) (p : Nat) (K : St -> Prop) : Nat -> Array Bool -> St -> Prop
  | 0, listed, st => Region.ready .any ops listed = [] /\ K st
  | n + 1, listed, st => Wf st -> (Region.ready .any ops listed = [] -> K st) /\ ∀ i ∈ Region.ready .any ops listed, stepM P T ops p i st fun s => anyM P T ops p K n (listed.setIfInBounds i true) s

section
variable {X : Nat -> Prop} {D : List Deferred × Rho} {w0 : World} {mA : Mem} {r : Rho} {m : MM} {st : St} {a : Act} {w : World} {P : Program} {T : TT} {ops : Array Oper} {K K' : St -> Prop} {p : Nat}

def oneB (A : List (List Nat)) (p : Nat) : List Nat -> Bool
  | [] => true
  | i :: l => if i = p then l.all fun k => (A.getD k []).contains p else (A.getD p []).contains i && oneB A p l

variable {ol : List Oper} {n j : Nat} {l : List (Nat × AV)} {h : List AObj} {b : Nat} {o : Op} {ty : TypeId} {pos : String} {af : Array Edge} {KS : St -> Prop} {rest : List Nat} {i : Nat}
end
end Go.Lat
namespace Go.Lat
open Go.RowKit

mutual
inductive PT where
  | leaf (P : List Nat)
  | node (P : List Nat) (B : PB)
inductive PB where
  | nil
  | cons (a : Nat) (t : PT) (r : PB)
end
section
variable (P : Program) (T : TT) (ops : Array Oper) (K : St -> Prop)
mutual
def PT.run : PT -> St -> Prop
  | .leaf L, st => seqI P T ops L st K
  | .node L B, st => seqI P T ops L st fun s => PB.run B s
def PB.run : PB -> St -> Prop
  | .nil, _ => True
  | .cons a t r, s => (stepI P T ops a s fun s' => PT.run t s') /\ PB.run r s
end
end
def PB.has : PB -> Nat -> Bool
  | .nil, _ => false
  | .cons a _ r, k => Nat.beq a k || PB.has r k
def PB.some : PB -> Bool
  | .nil => false
  | .cons .. => true
section
variable (ops : Array Oper) (A : List (List Nat))
def segOk (CP dn L : List Nat) : Bool :=
  decide L.Nodup && L.all (fun k => decide (k < ops.size) && !dn.contains k) && pairB ops A L && CP.all (fun c => L.all (relB ops A c)) && L.all fun q => (dirs ops q).all fun p => (dn ++ L).contains p
mutual
def chkT (CP dn : List Nat) : PT -> Bool
  | .leaf L => segOk ops A CP dn L && (List.range ops.size).all fun k => (dn ++ L).contains k
  | .node L B => segOk ops A CP dn L && PB.some B && ((List.range ops.size).all fun k => (dn ++ L).contains k || PB.has B k || (dirs ops k).any fun p => !(dn ++ L).contains p) && chkB (CP ++ L) (dn ++ L) B
def chkB (CP dn : List Nat) : PB -> Bool
  | .nil => true
  | .cons a t r => decide (a < ops.size) && !dn.contains a && CP.all (fun c => relB ops A c a) && (dirs ops a).all (fun p => dn.contains p) && chkT CP (dn ++ [a]) t && chkB CP dn r
end
end
def chkP (ops : Array Oper) (t : PT) : Bool :=
  chkA ops (ancs ops) && (List.range ops.size).all (fun i => (dirs ops i).all fun p => decide (p < ops.size) && p != i) && chkT ops (ancs ops) [] [] t

section
variable {P : Program} {T : TT} {ops : Array Oper} {K : St -> Prop} {A : List (List Nat)}
inductive PE where
  | fin
  | br (B : PB)
def PE.run (P : Program) (T : TT) (ops : Array Oper) (K : St -> Prop) : PE -> St -> Prop
  | .fin, s => K s
  | .br B, s => PB.run P T ops K B s
def PE.ok (ops : Array Oper) (A : List (List Nat)) (CP dn : List Nat) : PE -> Prop
  | .fin => ∀ k, k < ops.size -> k ∈ dn
  | .br B => PB.some B = true /\ (∀ k, k < ops.size -> k ∈ dn \/ PB.has B k = true \/ ∃ p ∈ dirs ops k, p ∉ dn) /\ chkB ops A CP dn B = true

structure Res (ops : Array Oper) (A : List (List Nat)) (listed : Array Bool) (L CP dn : List Nat) (E : PE) : Prop where
  size : listed.size = ops.size
  done : ∀ k, k < ops.size -> (k ∈ dn ↔ listed.getD k false = true \/ k ∈ L)
  lt : ∀ k ∈ L, k < ops.size
  open' : ∀ k ∈ L, listed.getD k true = false
  nodup : L.Nodup
  pair : L.Pairwise (fun a b => relB ops A a b = true)
  sub : ∀ k ∈ L, k ∈ CP
  closed : ∀ k, listed.getD k false = true -> ∀ p ∈ dirs ops k, listed.getD p false = true
  seg : ∀ q ∈ L, ∀ p ∈ dirs ops q, p ∈ dn
  self : ∀ k, k < ops.size -> ∀ p ∈ dirs ops k, p < ops.size /\ p ≠ k
  e : PE.ok ops A CP dn E

theorem Res.anc {listed : Array Bool} {L CP dn : List Nat} {E : PE} (h : Res ops A listed L CP dn E) (hA : chkA ops A = true) :
    ∀ (i : Nat), (∀ p ∈ dirs ops i, listed.getD p false = true) -> ∀ j ∈ A.getD i [], i < ops.size -> listed.getD j false = true := by
  intro i
  induction i using Nat.strongRecOn with
  | _ i ih =>
    intro hi j hj hlt
    simp only [chkA, List.all_eq_true, List.mem_range, Bool.or_eq_true, List.contains_iff_mem, List.any_eq_true, Bool.and_eq_true, decide_eq_true_eq] at hA
    rcases hA i hlt j hj with h1 | ⟨p, hp, hpi, hjp⟩
    . exact hi j h1
    . exact ih p hpi (h.closed p (hi p hp)) j hjp (by omega)

end
section
variable {P : Program} {T : TT} {ol : List Oper} {n : Nat} {l : List (Nat × AV)} {h : List AObj} {b : Nat} {o : Op} {ty : TypeId} {pos : String} {af : Array Edge} {KS : St -> Prop} {rest : List Nat} {i : Nat}
end
end Go.Lat
namespace Go.Lat
open Go.RowKit

section
variable {P : Program} {T : TT} {st : St}
def noCall (o : Op) : Bool := match o with
  | .call ⟨.value _, _, _⟩ => false
  | _ => true
def hasT (l : List (Nat × AV)) (t : Nat) : Bool := l.any fun x => Nat.beq x.1 t
variable (ol : List Oper) (l0 : List (Nat × AV)) (val : List AV) (kn : List (List (Nat × Nat)))
def knw (k : Nat) : List (Nat × AV) := l0 ++ (kn.getD k []).map fun x => (x.1, val.getD x.2 .any)
def chkV (ks : List Nat) (a b n : Nat) : Bool :=
  decide (a < b) && decide (b < ol.length) && (List.range ol.length).all fun k => match ol[k]? with
    | some o => o.guard.isNone && noCall o.op && (dirs ol.toArray k).all (fun p => decide (p < k)) && (kn.getD k []).all (fun x => (dirs ol.toArray k).contains x.2 && ((ol[x.2]?).bind (·.dst) == some x.1)) &&
        (Op.operands o.op).toList.all (fun x => match x with | .tmp t => ks.contains t || (kn.getD k []).any (fun y => Nat.beq y.1 t) | _ => true) &&
        (match o.dst with | some d => decide (d < n) && !ks.contains d && (List.range ol.length).all (fun j => Nat.beq j k || !((ol[j]?).bind (·.dst) == some d)) | none => true) &&
        (Nat.beq k b || (dirs ol.toArray b).contains k)
    | none => true
variable (P T) (n q : Nat)
def obs (hp : List AObj) (nx : Nat -> List AObj) : List Nat -> Prop
  | [] => True
  | k :: ks => (match ol[k]? with
    | some o => opC P T o ⟨n, look (knw l0 val kn k), hp, q⟩ (fun v h => (o.dst.isSome = true -> v = val.getD k .any) /\ h = nx k)
    | none => True) /\ obs hp nx ks
def regsE (tm : Nat -> AV) : List (Nat × AV) -> Prop
  | [] => True
  | x :: l => tm x.1 = x.2 /\ regsE tm l
variable {P T ol l0 val kn n q}
def stg (a b : Nat) (H0 H1 H2 : List AObj) (listed : Array Bool) : List AObj := if listed.getD b false = true then H2 else if listed.getD a false = true then H1 else H0
structure InvV (ol : List Oper) (l0 : List (Nat × AV)) (val : List AV) (n q a b : Nat) (H0 H1 H2 : List AObj) (listed : Array Bool) (st : St) : Prop where
  nt : st.nt = n
  ho : st.ho = q
  heap : st.heap = stg a b H0 H1 H2 listed
  base : ∀ x ∈ l0, st.tm x.1 = x.2
  vals : ∀ k o d, listed.getD k false = true -> ol[k]? = some o -> o.dst = some d -> st.tm d = val.getD k .any
  size : listed.size = ol.length
  closed : ∀ k, listed.getD k false = true -> ∀ p ∈ dirs ol.toArray k, listed.getD p false = true
def chkK (ol : List Oper) (a b : Nat) (K0 K1 : List Nat) : Bool :=
  (List.range ol.length).all fun k => (Nat.beq k b || K0.contains k) && (Nat.beq k a || (dirs ol.toArray a).contains k || K1.contains k)
end
end Go.Lat
namespace Go.Lat
open Go.RowKit
section
variable {d : Option Tmp} {a a2 : Operand} {n : Nat} {l : List (Nat × AV)} {h : List AObj} {b : Nat} {ty : TypeId} {pos : String} {af : Array Edge} {g : Option (Nat × Bool)} {P : Program} {T : TT} {K : AV -> List AObj -> Prop}
theorem o_eqS {t u : TypeId} {fs : List (Nat × TypeId)} {s by_ : Nat} {z : List AV} {p : Prop} [Decidable p] (as_ bs : List Int) (ht : T t = some ⟨.st fs, s, by_, z⟩) (hf : ∀ f ∈ fs, ∃ s' b' z', T f.2 = some ⟨.int .i64, s', b', z'⟩) (ho : fs.map (·.1) = List.range fs.length)
    (h1 : St.eval ⟨n, look l, h, b⟩ a = .agg (as_.map (.int .i64))) (h2 : St.eval ⟨n, look l, h, b⟩ a2 = .agg (bs.map (.int .i64))) (hn : nilC .eql a2 = false) (l1 : as_.length = fs.length) (l2 : bs.length = fs.length) (hq : decide (as_ = bs) = decide p) (hk : K (.bool (decide p)) h) : opC P T ⟨d, .binOp .eql t a a2 u, ty, pos, af, g⟩ ⟨n, look l, h, b⟩ K := by
  show (if nilC .eql a2 = true then nilEqA T t (BinOp.eql == BinOp.neq) (St.eval ⟨n, look l, h, b⟩ a) (fun v => K v h) else binA T .eql t (St.eval ⟨n, look l, h, b⟩ a) (St.eval ⟨n, look l, h, b⟩ a2) (fun v => K v h))
  rw [hn, if_neg (by simp), h1, h2]
  exact ⟨fs, s, by_, z, as_, bs, ht, hf, ho, rfl, rfl, l1, l2, by rw [if_neg (by simp), hq]; exact hk⟩
theorem o_neS {t u : TypeId} {fs : List (Nat × TypeId)} {s by_ : Nat} {z : List AV} {p : Prop} [Decidable p] (as_ bs : List Int) (ht : T t = some ⟨.st fs, s, by_, z⟩) (hf : ∀ f ∈ fs, ∃ s' b' z', T f.2 = some ⟨.int .i64, s', b', z'⟩) (ho : fs.map (·.1) = List.range fs.length)
    (h1 : St.eval ⟨n, look l, h, b⟩ a = .agg (as_.map (.int .i64))) (h2 : St.eval ⟨n, look l, h, b⟩ a2 = .agg (bs.map (.int .i64))) (hn : nilC .neq a2 = false) (l1 : as_.length = fs.length) (l2 : bs.length = fs.length) (hq : decide (as_ = bs) = decide p) (hk : K (.bool (decide (¬ p))) h) : opC P T ⟨d, .binOp .neq t a a2 u, ty, pos, af, g⟩ ⟨n, look l, h, b⟩ K := by
  show (if nilC .neq a2 = true then nilEqA T t (BinOp.neq == BinOp.neq) (St.eval ⟨n, look l, h, b⟩ a) (fun v => K v h) else binA T .neq t (St.eval ⟨n, look l, h, b⟩ a) (St.eval ⟨n, look l, h, b⟩ a2) (fun v => K v h))
  rw [hn, if_neg (by simp), h1, h2]
  exact ⟨fs, s, by_, z, as_, bs, ht, hf, ho, rfl, rfl, l1, l2, by rw [if_pos rfl, hq, <- decide_not]; exact hk⟩
end
theorem row_setF {α : Type} [Inhabited α] {e : α -> List AV} {sz : Nat} (h : Wd e sz) (xs : List α) (j : Int) (k : Nat) (x : α) {vs : List AV} (hk : Nat.ble (k + vs.length) sz = true) (hv : (e (lat xs j)).take k ++ vs ++ (e (lat xs j)).drop (k + vs.length) = e x) (hj : 0 <= j /\ j < (xs.length : Int)) :
    Lat.spl (zYy e xs) (j.toNat * sz + k) vs = zYy e (xs.set j.toNat x) := by
  have hk' := Nat.le_of_ble_eq_true hk
  have hlt : j.toNat < xs.length := by omega
  have hlen : (zYy e xs).length = xs.length * sz := zYw h xs
  have hle : j.toNat * sz + sz <= xs.length * sz := by
    have := Nat.mul_le_mul_right sz hlt
    rw [Nat.succ_mul] at this
    exact this
  rw [<- row_set h xs j x rfl hj.1 hj.2, <- hv, Lat.spl_eq _ _ _ (by omega), Lat.spl_eq _ _ _ (by
    rw [hv, h, hlen]; exact hle)]
  obtain ⟨rest, hr⟩ := encL_at h xs j hj.1 hj.2
  have hw : (e (lat xs j)).length = sz := h _
  have e1 : (zYy e xs).take (j.toNat * sz + k) = (zYy e xs).take (j.toNat * sz) ++ (e (lat xs j)).take k := by
    rw [List.take_add, hr, List.take_append_of_le_length (by omega)]
  have e2 : (zYy e xs).drop (j.toNat * sz + k + vs.length) = (e (lat xs j)).drop (k + vs.length) ++ rest := by
    rw [Nat.add_assoc, <- List.drop_drop, hr, List.drop_append_of_le_length (by omega)]
  have e3 : (zYy e xs).drop (j.toNat * sz + ((e (lat xs j)).take k ++ vs ++ (e (lat xs j)).drop (k + vs.length)).length) = rest := by
    rw [hv, h, <- List.drop_drop, hr, <- hw, List.drop_left]
  rw [e1, e2, e3]
  simp [List.append_assoc]
theorem row_inF {α : Type} {e : α -> List AV} {sz : Nat} (hw : Wd e sz) {xs : List α} {i : Int} (hj : 0 <= i /\ i < (xs.length : Int)) {k : Nat} {vs : List AV} (hk : Nat.ble (k + vs.length) sz = true) : i.toNat * sz + k + vs.length <= (zYy e xs).length := by
  rw [zYw hw]
  have hj' : i.toNat < xs.length := by omega
  have := Nat.mul_le_mul_right sz hj'
  rw [Nat.succ_mul] at this
  have := Nat.le_of_ble_eq_true hk
  omega
end Go.Lat
namespace Go.Lat
open Go.RowKit
section
variable {X : Nat -> Prop} {D : List Deferred × Rho} {w0 : World} {mA : Mem} {r : Rho} {m : MM} {st : St} {a : Act} {w : World}
theorem R.reobj' (h : R X D w0 mA r m st a w) {j : Nat} {bt : TypeId} {bcs bcs' : List AV} (ho : st.heap[j]? = some (.box bt bcs)) (hk : OR r m w j (.box bt bcs')) : R X D w0 mA r m { st with heap := st.heap.set j (.box bt bcs') } a w := by
  have hlen : j < st.heap.length := by
    rcases Nat.lt_or_ge j st.heap.length with h1 | h1
    . exact h1
    . rw [List.getElem?_eq_none h1] at ho; cases ho
  have get : ∀ (i : Nat) oi, (st.heap.set j (.box bt bcs'))[i]? = some oi -> ∃ oo, st.heap[i]? = some oo /\ (oi.live = true -> oo.live = true) /\ (i = j /\ oi = .box bt bcs' /\ oo = .box bt bcs \/ oi = oo) := by
    intro i oi hi
    by_cases e : i = j
    . subst e
      rw [List.getElem?_set_self hlen] at hi
      cases hi
      exact ⟨_, ho, fun _ => rfl, .inl ⟨rfl, rfl, rfl⟩⟩
    . rw [List.getElem?_set_ne (Ne.symm e)] at hi
      exact ⟨oi, hi, fun h => h, .inr rfl⟩
  refine { h with len := by simpa using h.len, lt := ?_, apart := ?_, obj := ?_, own := ?_, inj := ?_, nox := h.nox }
  . intro i oi b c hi hl hr
    obtain ⟨oo, h1, h2, -⟩ := get i oi hi
    exact h.lt i oo b c h1 (h2 hl) hr
  . intro p v hp i oi b c hi hl hr
    obtain ⟨oo, h1, h2, -⟩ := get i oi hi
    exact h.apart p v hp i oo b c h1 (h2 hl) hr
  . intro i oi hi
    obtain ⟨oo, h1, -, ⟨rfl, rfl, rfl⟩ | rfl⟩ := get i oi hi
    . exact hk
    . exact h.obj i oi h1
  . intro i oi b c hi hl hr
    obtain ⟨oo, h1, h2, -⟩ := get i oi hi
    exact h.own i oo b c h1 (h2 hl) hr
  . intro i k oi ok b c c' hi hk' hli hlk hri hrk
    obtain ⟨oo, h1, h2, -⟩ := get i oi hi
    obtain ⟨op, h3, h4, -⟩ := get k ok hk'
    exact h.inj i k oo op b c c' h1 h3 (h2 hli) (h4 hlk) hri hrk
def sealC (fl : Bool) (id sz k : Nat) (cs' : List AV) : List AV -> List AV -> Prop
  | [], [] => True
  | x :: xs, y :: ys => (y = x \/ ∃ nb n, x = .ref nb id n /\ k = n * sz /\ y = .lst fl n cs') /\ sealC fl id sz k cs' xs ys
  | _, _ => False
theorem W.sealB {P : Program} {T : TT} {Q : Ex -> St -> Prop} {c : Code} (fl : Bool) (id j : Nat) {n sz : Nat} {t bt : TypeId} {cs cs' bcs bcs' : List AV} {h h' : List AObj} {tm : Nat -> AV} {l : List (Nat × AV)} (ho : h[id]? = some (.row t sz cs)) (hb : h[j]? = some (.box bt bcs)) (hc : SealVs fl cs cs')
    (hl : sealT fl id sz cs.length cs' tm l) (hbc : sealC fl id sz cs.length cs' bcs bcs') (hh : (h.set id .dead).set j (.box bt bcs') = h') (hw : W P T c ⟨n, look l, h', 0⟩ Q) : W P T c ⟨n, tm, h, 0⟩ Q := fun hT hf ro hro k X D w0 mA r m a w hR => by
  obtain ⟨m', hle, hR', hv⟩ := hR.sealH rfl fl ho hc
  subst hh
  have hne : id ≠ j := fun e => by subst e; rw [ho] at hb; cases hb
  have hb' : (h.set id .dead)[j]? = some (.box bt bcs) := by rw [List.getElem?_set_ne hne]; exact hb
  have low := hR.low
  have conv : ∀ (xs ys : List AV) (vs : List Value), sealC fl id sz cs.length cs' xs ys -> VRs r m xs vs -> VRs r m' ys vs := by
    intro xs
    induction xs with
    | nil => intro ys vs hs hv'; cases ys with
      | nil => simpa only [VRs] using hv'
      | cons => exact hs.elim
    | cons x xs ih => intro ys vs hs hv'; cases ys with
      | nil => exact hs.elim
      | cons y ys =>
        simp only [VRs] at hv' ⊢
        obtain ⟨v, vs', rfl, h1, h2⟩ := hv'
        refine ⟨v, vs', rfl, ?_, ih ys vs' hs.2 h2⟩
        rcases hs.1 with e | ⟨nb, n', e1, e2, e3⟩
        . rw [e]; exact VR.mono (RLe.refl r) hle x v h1
        . rw [e3]; rw [e1] at h1; exact hv nb n' _ e2 h1
  -- the variable, told in other words
  have hR2 : R X D w0 mA r m' ⟨n, tm, (h.set id .dead).set j (.box bt bcs'), 0⟩ a w := by
    obtain ⟨b, c, cur, e1, e2, e3, e4⟩ := hR.obj j _ hb
    refine hR'.reobj' hb' ?_
    exact ⟨b, c, cur, e1, e2, e3, conv _ _ _ hbc e4⟩
  refine hw hT hf ro hro k X D w0 mA r m' a w { hR2 with tmps := fun t => ?_, size' := hR2.size', nox := hR2.nox }
  have key : ∀ (l : List (Nat × AV)), sealT fl id sz cs.length cs' tm l -> VR r m' (look l t) (a.tmps.getD t undef) := by
    intro l
    induction l with
    | nil => intro _; simp only [look, VR]
    | cons p l ih =>
      obtain ⟨q, v⟩ := p
      intro hl
      rw [look_cons]
      split
      . rename_i e
        subst e
        rcases hl.1 with e | ⟨nb, n', e1, e2, e3⟩
        . rw [e]; exact hR'.tmps t
        . rw [e3]
          exact hv nb n' _ e2 (by have := hR.tmps t; simp only at this; rw [e1] at this; exact this)
      . exact ih hl.2
  exact key l hl
end
end Go.Lat
