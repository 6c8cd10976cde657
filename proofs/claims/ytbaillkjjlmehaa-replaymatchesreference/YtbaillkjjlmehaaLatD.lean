/- The law latecomerlaw24.ReplayMatchesReference returns true for every input, and each argument reads afterwards as it read before. Part 4 of 15. No condition. -/
import Derived.Test.YtbaillkjjlmehaaLatC
import Derived.Test.YtbaillkjjlmehaaProg
import Derived.KernelRfl
set_option linter.unusedVariables false
set_option linter.unusedSimpArgs false
set_option linter.unnecessarySimpa false
namespace Go.Lat
open Go.RowKit

def lenV : AV -> Option Nat
  | .nilS => some 0
  | .lst _ n _ => some n
  | .ref _ _ n => some n
  | .sub _ _ n => some n
  | _ => none
def fillE (place : Nat -> Option (Nat × Nat)) (cells : List AV) : List (Nat × AV) -> Option (List AV)
  | [] => some cells
  | (i, v) :: rest => match place i, v.cells with
    | some (off, size), some vs => if (Nat.beq vs.length size && Nat.ble (off + size) cells.length) = true then fillE place (Lat.spl cells off vs) rest else none
    | _, _ => none
theorem fillE_spec {place : Nat -> Option (Nat × Nat)} {K : List AV -> Prop} : ∀ {qs : List (Nat × AV)} {cells cs : List AV}, fillE place cells qs = some cs -> K cs -> fillP place cells K qs
  | [], cells, cs, h, hk => by simp only [fillE, Option.some.injEq] at h; subst h; exact hk
  | (i, v) :: rest, cells, cs, h, hk => by
    unfold fillE at h
    unfold fillP
    split at h <;> try cases h
    rename_i off size vs h1 h2
    split at h
    . rename_i hc
      simp only [Bool.and_eq_true] at hc
      rw [h1, h2]
      exact ⟨Nat.eq_of_beq_eq_true hc.1, Nat.le_of_ble_eq_true hc.2, fillE_spec h hk⟩
    . cases h

section
variable {P : Program} {T : TT} {d : Option Tmp} {ty : TypeId} {pos : String} {af : Array Edge} {g : Option (Nat × Bool)} {n : Nat} {l : List (Nat × AV)} {h : List AObj} {b : Nat} {K : AV -> List AObj -> Prop} {a a2 a3 : Operand}
theorem zZp {v : AV} (h1 : St.eval ⟨n, look l, h, b⟩ a = v) (hk : K v h) : opC P T ⟨d, .move a, ty, pos, af, g⟩ ⟨n, look l, h, b⟩ K := by
  show K (St.eval ⟨n, look l, h, b⟩ a) h
  rw [h1]; exact hk
theorem zZq {v : AV} (h1 : St.eval ⟨n, look l, h, b⟩ a = v) (hk : K v h) : opC P T ⟨d, .assign a, ty, pos, af, g⟩ ⟨n, look l, h, b⟩ K := by
  show K (St.eval ⟨n, look l, h, b⟩ a) h
  rw [h1]; exact hk
theorem zZv {q : Bool} {v : AV} (h1 : St.eval ⟨n, look l, h, b⟩ a = .bool q) (hq : q = true) (h2 : St.eval ⟨n, look l, h, b⟩ a2 = v) (hk : K v h) : opC P T ⟨d, .pick a a2 a3, ty, pos, af, g⟩ ⟨n, look l, h, b⟩ K := by
  subst hq
  show (match St.eval ⟨n, look l, h, b⟩ a, St.eval ⟨n, look l, h, b⟩ a2, St.eval ⟨n, look l, h, b⟩ a3 with
    | .bool t, .bool x, .bool y => K (.bool (if t then x else y)) h
    | .bool true, x, _ => K x h
    | .bool false, _, y => K y h
    | _, _, _ => False)
  rw [h1, h2]
  generalize St.eval ⟨n, look l, h, b⟩ a3 = w
  cases v <;> cases w <;> exact hk
theorem zZy {q : Bool} {v : AV} (h1 : St.eval ⟨n, look l, h, b⟩ a = .bool q) (hq : q = false) (h2 : St.eval ⟨n, look l, h, b⟩ a3 = v) (hk : K v h) : opC P T ⟨d, .pick a a2 a3, ty, pos, af, g⟩ ⟨n, look l, h, b⟩ K := by
  subst hq
  show (match St.eval ⟨n, look l, h, b⟩ a, St.eval ⟨n, look l, h, b⟩ a2, St.eval ⟨n, look l, h, b⟩ a3 with
    | .bool t, .bool x, .bool y => K (.bool (if t then x else y)) h
    | .bool true, x, _ => K x h
    | .bool false, _, y => K y h
    | _, _, _ => False)
  rw [h1, h2]
  generalize St.eval ⟨n, look l, h, b⟩ a2 = w
  cases v <;> cases w <;> exact hk
theorem zXy {t : TypeId} {k : TK} {s by_ : Nat} {z z' : List AV} {p : Nat} (ht : T t = some ⟨k, s, by_, z⟩) (hp : h.length = p) (hz : z = z') (hk : K (.ptr p 0) (h ++ [.box t z'])) : opC P T ⟨d, .alloc t, ty, pos, af, g⟩ ⟨n, look l, h, b⟩ K := by
  show allocA T h t K
  subst hp; subst hz
  simp only [allocA, ht]; exact hk
theorem o_box {t : TypeId} {v : AV} {cs : List AV} {p : Nat} (h1 : St.eval ⟨n, look l, h, b⟩ a = v) (hc : v.cells = some cs) (hp : h.length = p) (hk : K (.ptr p 0) (h ++ [.box t cs])) : opC P T ⟨d, .box t a, ty, pos, af, g⟩ ⟨n, look l, h, b⟩ K := by
  show boxA h t (St.eval ⟨n, look l, h, b⟩ a) K
  subst hp
  rw [h1]; simp only [boxA, hc]; exact hk
theorem ldS {t : TypeId} {k : TK} {s by_ : Nat} {z : List AV} {x v : AV} (ht : T t = some ⟨k, s, by_, z⟩) (ha : k.agg = false) (hc : ∃ rest, cellsAt h x = some (v :: rest)) (hk : K v h) : loadA T h t x K := by
  obtain ⟨rest, hc⟩ := hc
  simp only [loadA, ht, hc, ha]
  exact ⟨by simp, hk⟩
theorem ldA {t : TypeId} {k : TK} {s by_ : Nat} {z : List AV} {x : AV} {cs : List AV} (ht : T t = some ⟨k, s, by_, z⟩) (ha : k.agg = true) (hc : ∃ rest, cellsAt h x = some (cs ++ rest)) (hl : cs.length = s) (hk : K (.agg cs) h) : loadA T h t x K := by
  obtain ⟨rest, hc⟩ := hc
  subst hl
  simp only [loadA, ht, hc, ha]
  exact ⟨by simp, by rw [List.take_left]; exact hk⟩
theorem zZx {t : TypeId} {k : TK} {s by_ : Nat} {z : List AV} {x v : AV} (ht : T t = some ⟨k, s, by_, z⟩) (ha : k.agg = false) (h1 : St.eval ⟨n, look l, h, b⟩ a = x) (hc : ∃ rest, cellsAt h x = some (v :: rest)) (hk : K v h) : opC P T ⟨d, .load t a, ty, pos, af, g⟩ ⟨n, look l, h, b⟩ K := by
  show loadA T h t (St.eval ⟨n, look l, h, b⟩ a) K
  rw [h1]; exact ldS ht ha hc hk
theorem zYp {t : TypeId} {k : TK} {s by_ : Nat} {z : List AV} {x : AV} {cs : List AV} (ht : T t = some ⟨k, s, by_, z⟩) (ha : k.agg = true) (h1 : St.eval ⟨n, look l, h, b⟩ a = x) (hc : ∃ rest, cellsAt h x = some (cs ++ rest)) (hl : cs.length = s) (hk : K (.agg cs) h) : opC P T ⟨d, .load t a, ty, pos, af, g⟩ ⟨n, look l, h, b⟩ K := by
  show loadA T h t (St.eval ⟨n, look l, h, b⟩ a) K
  rw [h1]; exact ldA ht ha hc hl hk
theorem o_stB {t t2 : TypeId} {k : TK} {s by_ id off : Nat} {z : List AV} {v : AV} {vs cs cs2 : List AV} (ht : T t = some ⟨k, s, by_, z⟩) (h1 : St.eval ⟨n, look l, h, b⟩ a = .ptr id off) (h2 : St.eval ⟨n, look l, h, b⟩ a2 = v) (hc : v.cells = some vs) (hl : vs.length = s) (ho : h[id]? = some (.box t2 cs)) (hb : off + vs.length <= cs.length) (he : Lat.spl cs off vs = cs2) (hk : K .any (h.set id (.box t2 cs2))) : opC P T ⟨d, .store t a a2, ty, pos, af, g⟩ ⟨n, look l, h, b⟩ K := by
  show storeA T h t (St.eval ⟨n, look l, h, b⟩ a) (St.eval ⟨n, look l, h, b⟩ a2) K
  subst he
  rw [h1, h2]; simp only [storeA, ht, hc, putCells, ho]
  exact ⟨hl, hb, hk⟩
theorem o_stR {t t2 : TypeId} {k : TK} {s by_ id off sz : Nat} {z : List AV} {v : AV} {vs cs cs2 : List AV} (ht : T t = some ⟨k, s, by_, z⟩) (h1 : St.eval ⟨n, look l, h, b⟩ a = .ptr id off) (h2 : St.eval ⟨n, look l, h, b⟩ a2 = v) (hc : v.cells = some vs) (hl : vs.length = s) (ho : h[id]? = some (.row t2 sz cs)) (hb : off + vs.length <= cs.length) (he : Lat.spl cs off vs = cs2) (hk : K .any (h.set id (.row t2 sz cs2))) : opC P T ⟨d, .store t a a2, ty, pos, af, g⟩ ⟨n, look l, h, b⟩ K := by
  show storeA T h t (St.eval ⟨n, look l, h, b⟩ a) (St.eval ⟨n, look l, h, b⟩ a2) K
  subst he
  rw [h1, h2]; simp only [storeA, ht, hc, putCells, ho]
  exact ⟨hl, hb, hk⟩
theorem zYu {t e : TypeId} {s by_ es eb : Nat} {z ez : List AV} {ek : TK} (ht : T t = some ⟨.sl e, s, by_, z⟩) (he : T e = some ⟨ek, es, eb, ez⟩) {α : Type} [Inhabited α] {en : α -> List AV} {xs : List α} {fl : Bool} {m : Nat} (h1 : St.eval ⟨n, look l, h, b⟩ a = .lst fl m (zYy en xs)) {ik : IntKind} {i : Int} (h2 : St.eval ⟨n, look l, h, b⟩ a2 = .int ik i) (hw : Wd en es) (hm : m = xs.length) (hj : 0 <= i /\ i < (xs.length : Int)) (hk : ∀ rest, K (.ipt fl (en (lat xs i) ++ rest)) h) : opC P T ⟨d, .indexAddr t a a2, ty, pos, af, g⟩ ⟨n, look l, h, b⟩ K := by
  show indexAddrA T t (St.eval ⟨n, look l, h, b⟩ a) (St.eval ⟨n, look l, h, b⟩ a2) (fun v => K v h)
  rw [h1, h2]; simp only [indexAddrA, ht, he]
  subst hm
  obtain ⟨rest, hr⟩ := encL_at hw xs i hj.1 hj.2
  rw [hr]
  exact ⟨hj, hk rest⟩
theorem o_iaR {t e : TypeId} {s by_ es eb : Nat} {z ez : List AV} {ek : TK} (ht : T t = some ⟨.sl e, s, by_, z⟩) (he : T e = some ⟨ek, es, eb, ez⟩) {nb : Bool} {id m : Nat} (h1 : St.eval ⟨n, look l, h, b⟩ a = .ref nb id m) {ik : IntKind} {i : Int} (h2 : St.eval ⟨n, look l, h, b⟩ a2 = .int ik i) (hj : 0 <= i /\ i < (m : Int)) (hk : K (.ptr id (i.toNat * es)) h) : opC P T ⟨d, .indexAddr t a a2, ty, pos, af, g⟩ ⟨n, look l, h, b⟩ K := by
  show indexAddrA T t (St.eval ⟨n, look l, h, b⟩ a) (St.eval ⟨n, look l, h, b⟩ a2) (fun v => K v h)
  rw [h1, h2]; simp only [indexAddrA, ht, he]
  exact ⟨hj, hk⟩
theorem o_iaA {t e : TypeId} {m s by_ es eb : Nat} {z ez : List AV} {ek : TK} (ht : T t = some ⟨.ar m e, s, by_, z⟩) (he : T e = some ⟨ek, es, eb, ez⟩) {id off : Nat} (h1 : St.eval ⟨n, look l, h, b⟩ a = .ptr id off) {ik : IntKind} {i : Int} (h2 : St.eval ⟨n, look l, h, b⟩ a2 = .int ik i) {off2 : Nat} (hj : 0 <= i /\ i < (m : Int)) (hoff : off + i.toNat * es = off2) (hk : K (.ptr id off2) h) : opC P T ⟨d, .indexAddr t a a2, ty, pos, af, g⟩ ⟨n, look l, h, b⟩ K := by
  show indexAddrA T t (St.eval ⟨n, look l, h, b⟩ a) (St.eval ⟨n, look l, h, b⟩ a2) (fun v => K v h)
  rw [h1, h2]; simp only [indexAddrA, ht, he]
  subst hoff
  exact ⟨hj, hk⟩
theorem o_iaP {t e : TypeId} {m s by_ es eb : Nat} {z ez : List AV} {ek : TK} (ht : T t = some ⟨.ar m e, s, by_, z⟩) (he : T e = some ⟨ek, es, eb, ez⟩) {fl : Bool} {cs : List AV} (h1 : St.eval ⟨n, look l, h, b⟩ a = .ipt fl cs) {ik : IntKind} {i : Int} (h2 : St.eval ⟨n, look l, h, b⟩ a2 = .int ik i) (hj : 0 <= i /\ i < (m : Int)) (hk : K (.ipt fl (cs.drop (i.toNat * es))) h) : opC P T ⟨d, .indexAddr t a a2, ty, pos, af, g⟩ ⟨n, look l, h, b⟩ K := by
  show indexAddrA T t (St.eval ⟨n, look l, h, b⟩ a) (St.eval ⟨n, look l, h, b⟩ a2) (fun v => K v h)
  rw [h1, h2]; simp only [indexAddrA, ht, he]
  exact ⟨hj, hk⟩
theorem o_fa {t ft : TypeId} {fs : List (Nat × TypeId)} {s by_ off i : Nat} {z : List AV} {fk : TK} {fz fb : Nat} {fzz : List AV} (ht : T t = some ⟨.st fs, s, by_, z⟩) (hf : fs[i]? = some (off, ft)) (hft : T ft = some ⟨fk, fz + 1, fb, fzz⟩) {id q : Nat} (h1 : St.eval ⟨n, look l, h, b⟩ a = .ptr id q) (hk : K (.ptr id (q + off)) h) : opC P T ⟨d, .fieldAddr t a i, ty, pos, af, g⟩ ⟨n, look l, h, b⟩ K := by
  show fieldAddrA T t (St.eval ⟨n, look l, h, b⟩ a) i (fun v => K v h)
  rw [h1]; simp only [fieldAddrA, ht, hf, hft]
  exact ⟨by simp, hk⟩
theorem o_faP {t ft : TypeId} {fs : List (Nat × TypeId)} {s by_ off i : Nat} {z : List AV} {fk : TK} {fz fb : Nat} {fzz : List AV} (ht : T t = some ⟨.st fs, s, by_, z⟩) (hf : fs[i]? = some (off, ft)) (hft : T ft = some ⟨fk, fz + 1, fb, fzz⟩) {fl : Bool} {cs : List AV} (h1 : St.eval ⟨n, look l, h, b⟩ a = .ipt fl cs) (hk : K (.ipt fl (cs.drop off)) h) : opC P T ⟨d, .fieldAddr t a i, ty, pos, af, g⟩ ⟨n, look l, h, b⟩ K := by
  show fieldAddrA T t (St.eval ⟨n, look l, h, b⟩ a) i (fun v => K v h)
  rw [h1]; simp only [fieldAddrA, ht, hf, hft]
  exact ⟨by simp, hk⟩
theorem zXw {t e : TypeId} {s by_ : Nat} {z : List AV} {m : Nat} {v : AV} (ht : T t = some ⟨.sl e, s, by_, z⟩) (h1 : St.eval ⟨n, look l, h, b⟩ a = v) (hv : lenV v = some m) (hk : K (.int .i64 m) h) : opC P T ⟨d, .call ⟨.builtin .len, #[a], #[t]⟩, ty, pos, af, g⟩ ⟨n, look l, h, b⟩ K := by
  show lenA T t (St.eval ⟨n, look l, h, b⟩ a) (fun v => K v h)
  rw [h1]; simp only [lenA, ht]
  cases v <;> simp only [lenV, Option.some.injEq, reduceCtorEq] at hv <;> subst hv <;> exact hk
theorem o_min {tys : Array TypeId} {k : IntKind} {x y : Int} (h1 : St.eval ⟨n, look l, h, b⟩ a = .int k x) (h2 : St.eval ⟨n, look l, h, b⟩ a2 = .int k y) (hk : K (.int k (min x y)) h) : opC P T ⟨d, .call ⟨.builtin .min, #[a, a2], tys⟩, ty, pos, af, g⟩ ⟨n, look l, h, b⟩ K := by
  obtain ⟨tys⟩ := tys
  show minA (St.eval ⟨n, look l, h, b⟩ a) (St.eval ⟨n, look l, h, b⟩ a2) (fun v => K v h)
  rw [h1, h2]; exact ⟨rfl, hk⟩
theorem o_max {tys : Array TypeId} {k : IntKind} {x y : Int} (h1 : St.eval ⟨n, look l, h, b⟩ a = .int k x) (h2 : St.eval ⟨n, look l, h, b⟩ a2 = .int k y) (hk : K (.int k (max x y)) h) : opC P T ⟨d, .call ⟨.builtin .max, #[a, a2], tys⟩, ty, pos, af, g⟩ ⟨n, look l, h, b⟩ K := by
  obtain ⟨tys⟩ := tys
  show maxA (St.eval ⟨n, look l, h, b⟩ a) (St.eval ⟨n, look l, h, b⟩ a2) (fun v => K v h)
  rw [h1, h2]; exact ⟨rfl, hk⟩
theorem o_add {t u : TypeId} {x y : Int} (h1 : St.eval ⟨n, look l, h, b⟩ a = .int .i64 x) (h2 : St.eval ⟨n, look l, h, b⟩ a2 = .int .i64 y) (hi : inI (x + y)) (hk : K (.int .i64 (x + y)) h) : opC P T ⟨d, .binOp .add t a a2 u, ty, pos, af, g⟩ ⟨n, look l, h, b⟩ K := by
  have hn : nilC .add a2 = false := rfl
  show (if nilC .add a2 = true then nilEqA T t (BinOp.add == BinOp.neq) (St.eval ⟨n, look l, h, b⟩ a) (fun v => K v h) else binA T .add t (St.eval ⟨n, look l, h, b⟩ a) (St.eval ⟨n, look l, h, b⟩ a2) (fun v => K v h))
  rw [hn, if_neg (by simp), h1, h2]
  exact ⟨hi, hk⟩
theorem o_sub {t u : TypeId} {x y : Int} (h1 : St.eval ⟨n, look l, h, b⟩ a = .int .i64 x) (h2 : St.eval ⟨n, look l, h, b⟩ a2 = .int .i64 y) (hi : inI (x - y)) (hk : K (.int .i64 (x - y)) h) : opC P T ⟨d, .binOp .sub t a a2 u, ty, pos, af, g⟩ ⟨n, look l, h, b⟩ K := by
  have hn : nilC .sub a2 = false := rfl
  show (if nilC .sub a2 = true then nilEqA T t (BinOp.sub == BinOp.neq) (St.eval ⟨n, look l, h, b⟩ a) (fun v => K v h) else binA T .sub t (St.eval ⟨n, look l, h, b⟩ a) (St.eval ⟨n, look l, h, b⟩ a2) (fun v => K v h))
  rw [hn, if_neg (by simp), h1, h2]
  exact ⟨hi, hk⟩
theorem o_quo {t u : TypeId} {x y : Int} (h1 : St.eval ⟨n, look l, h, b⟩ a = .int .i64 x) (h2 : St.eval ⟨n, look l, h, b⟩ a2 = .int .i64 y) (h0 : y ≠ 0) (hi : inI (x.tdiv y)) (hk : K (.int .i64 (x.tdiv y)) h) : opC P T ⟨d, .binOp .quo t a a2 u, ty, pos, af, g⟩ ⟨n, look l, h, b⟩ K := by
  have hn : nilC .quo a2 = false := rfl
  show (if nilC .quo a2 = true then nilEqA T t (BinOp.quo == BinOp.neq) (St.eval ⟨n, look l, h, b⟩ a) (fun v => K v h) else binA T .quo t (St.eval ⟨n, look l, h, b⟩ a) (St.eval ⟨n, look l, h, b⟩ a2) (fun v => K v h))
  rw [hn, if_neg (by simp), h1, h2]
  exact ⟨h0, hi, hk⟩
theorem o_rem {t u : TypeId} {k : IntKind} {x y : Int} (h1 : St.eval ⟨n, look l, h, b⟩ a = .int k x) (h2 : St.eval ⟨n, look l, h, b⟩ a2 = .int k y) (h0 : y ≠ 0) (hk : K (.int k (x.tmod y)) h) : opC P T ⟨d, .binOp .rem t a a2 u, ty, pos, af, g⟩ ⟨n, look l, h, b⟩ K := by
  have hn : nilC .rem a2 = false := rfl
  show (if nilC .rem a2 = true then nilEqA T t (BinOp.rem == BinOp.neq) (St.eval ⟨n, look l, h, b⟩ a) (fun v => K v h) else binA T .rem t (St.eval ⟨n, look l, h, b⟩ a) (St.eval ⟨n, look l, h, b⟩ a2) (fun v => K v h))
  rw [hn, if_neg (by simp), h1, h2]
  exact ⟨rfl, h0, hk⟩
theorem zYq {t u : TypeId} {k : IntKind} {x y : Int} (h1 : St.eval ⟨n, look l, h, b⟩ a = .int k x) (h2 : St.eval ⟨n, look l, h, b⟩ a2 = .int k y)  (hk : K (.bool (decide (x < y))) h) : opC P T ⟨d, .binOp .lss t a a2 u, ty, pos, af, g⟩ ⟨n, look l, h, b⟩ K := by
  have hn : nilC .lss a2 = false := rfl
  show (if nilC .lss a2 = true then nilEqA T t (BinOp.lss == BinOp.neq) (St.eval ⟨n, look l, h, b⟩ a) (fun v => K v h) else binA T .lss t (St.eval ⟨n, look l, h, b⟩ a) (St.eval ⟨n, look l, h, b⟩ a2) (fun v => K v h))
  rw [hn, if_neg (by simp), h1, h2]
  exact ⟨rfl, hk⟩
theorem o_leq {t u : TypeId} {k : IntKind} {x y : Int} (h1 : St.eval ⟨n, look l, h, b⟩ a = .int k x) (h2 : St.eval ⟨n, look l, h, b⟩ a2 = .int k y)  (hk : K (.bool (decide (x <= y))) h) : opC P T ⟨d, .binOp .leq t a a2 u, ty, pos, af, g⟩ ⟨n, look l, h, b⟩ K := by
  have hn : nilC .leq a2 = false := rfl
  show (if nilC .leq a2 = true then nilEqA T t (BinOp.leq == BinOp.neq) (St.eval ⟨n, look l, h, b⟩ a) (fun v => K v h) else binA T .leq t (St.eval ⟨n, look l, h, b⟩ a) (St.eval ⟨n, look l, h, b⟩ a2) (fun v => K v h))
  rw [hn, if_neg (by simp), h1, h2]
  exact ⟨rfl, hk⟩
theorem o_gtr {t u : TypeId} {k : IntKind} {x y : Int} (h1 : St.eval ⟨n, look l, h, b⟩ a = .int k x) (h2 : St.eval ⟨n, look l, h, b⟩ a2 = .int k y)  (hk : K (.bool (decide (y < x))) h) : opC P T ⟨d, .binOp .gtr t a a2 u, ty, pos, af, g⟩ ⟨n, look l, h, b⟩ K := by
  have hn : nilC .gtr a2 = false := rfl
  show (if nilC .gtr a2 = true then nilEqA T t (BinOp.gtr == BinOp.neq) (St.eval ⟨n, look l, h, b⟩ a) (fun v => K v h) else binA T .gtr t (St.eval ⟨n, look l, h, b⟩ a) (St.eval ⟨n, look l, h, b⟩ a2) (fun v => K v h))
  rw [hn, if_neg (by simp), h1, h2]
  exact ⟨rfl, hk⟩
theorem o_geq {t u : TypeId} {k : IntKind} {x y : Int} (h1 : St.eval ⟨n, look l, h, b⟩ a = .int k x) (h2 : St.eval ⟨n, look l, h, b⟩ a2 = .int k y)  (hk : K (.bool (decide (y <= x))) h) : opC P T ⟨d, .binOp .geq t a a2 u, ty, pos, af, g⟩ ⟨n, look l, h, b⟩ K := by
  have hn : nilC .geq a2 = false := rfl
  show (if nilC .geq a2 = true then nilEqA T t (BinOp.geq == BinOp.neq) (St.eval ⟨n, look l, h, b⟩ a) (fun v => K v h) else binA T .geq t (St.eval ⟨n, look l, h, b⟩ a) (St.eval ⟨n, look l, h, b⟩ a2) (fun v => K v h))
  rw [hn, if_neg (by simp), h1, h2]
  exact ⟨rfl, hk⟩
theorem o_shl {t u : TypeId} {k2 : IntKind} {x y : Int} (h1 : St.eval ⟨n, look l, h, b⟩ a = .int .i64 x) (h2 : St.eval ⟨n, look l, h, b⟩ a2 = .int k2 y) (h0 : 0 <= y) (hi : inI (x * 2 ^ (min y.toNat 64))) (hk : K (.int .i64 (x * 2 ^ (min y.toNat 64))) h) : opC P T ⟨d, .binOp .shl t a a2 u, ty, pos, af, g⟩ ⟨n, look l, h, b⟩ K := by
  have hn : nilC .shl a2 = false := rfl
  show (if nilC .shl a2 = true then nilEqA T t (BinOp.shl == BinOp.neq) (St.eval ⟨n, look l, h, b⟩ a) (fun v => K v h) else binA T .shl t (St.eval ⟨n, look l, h, b⟩ a) (St.eval ⟨n, look l, h, b⟩ a2) (fun v => K v h))
  rw [hn, if_neg (by simp), h1, h2]
  exact ⟨h0, hi, hk⟩
theorem o_shr {t u : TypeId} {k : IntKind} {k2 : IntKind} {x y : Int} (h1 : St.eval ⟨n, look l, h, b⟩ a = .int k x) (h2 : St.eval ⟨n, look l, h, b⟩ a2 = .int k2 y) (h0 : 0 <= y) (hk : K (.int k (x.fdiv (2 ^ (min y.toNat k.bits)))) h) : opC P T ⟨d, .binOp .shr t a a2 u, ty, pos, af, g⟩ ⟨n, look l, h, b⟩ K := by
  have hn : nilC .shr a2 = false := rfl
  show (if nilC .shr a2 = true then nilEqA T t (BinOp.shr == BinOp.neq) (St.eval ⟨n, look l, h, b⟩ a) (fun v => K v h) else binA T .shr t (St.eval ⟨n, look l, h, b⟩ a) (St.eval ⟨n, look l, h, b⟩ a2) (fun v => K v h))
  rw [hn, if_neg (by simp), h1, h2]
  exact ⟨h0, hk⟩
theorem o_and {t u : TypeId} {k : IntKind} {x y : Int} (h1 : St.eval ⟨n, look l, h, b⟩ a = .int k x) (h2 : St.eval ⟨n, look l, h, b⟩ a2 = .int k y)  (hk : K (.int k (bitI .and k x y)) h) : opC P T ⟨d, .binOp .and t a a2 u, ty, pos, af, g⟩ ⟨n, look l, h, b⟩ K := by
  have hn : nilC .and a2 = false := rfl
  show (if nilC .and a2 = true then nilEqA T t (BinOp.and == BinOp.neq) (St.eval ⟨n, look l, h, b⟩ a) (fun v => K v h) else binA T .and t (St.eval ⟨n, look l, h, b⟩ a) (St.eval ⟨n, look l, h, b⟩ a2) (fun v => K v h))
  rw [hn, if_neg (by simp), h1, h2]
  exact ⟨rfl, hk⟩
theorem o_eqI {t u : TypeId} {k : IntKind} {x y : Int} (hn : nilC .eql a2 = false) (h1 : St.eval ⟨n, look l, h, b⟩ a = .int k x) (h2 : St.eval ⟨n, look l, h, b⟩ a2 = .int k y) (hk : K (.bool (decide (x = y))) h) : opC P T ⟨d, .binOp .eql t a a2 u, ty, pos, af, g⟩ ⟨n, look l, h, b⟩ K := by
  show (if nilC .eql a2 = true then nilEqA T t (BinOp.eql == BinOp.neq) (St.eval ⟨n, look l, h, b⟩ a) (fun v => K v h) else binA T .eql t (St.eval ⟨n, look l, h, b⟩ a) (St.eval ⟨n, look l, h, b⟩ a2) (fun v => K v h))
  rw [hn, if_neg (by simp), h1, h2]
  refine ⟨rfl, ?_⟩
  have e : (x == y) = decide (x = y) := by by_cases h : x = y <;> simp [h]
  simpa [e] using hk
theorem o_neI {t u : TypeId} {k : IntKind} {x y : Int} (hn : nilC .neq a2 = false) (h1 : St.eval ⟨n, look l, h, b⟩ a = .int k x) (h2 : St.eval ⟨n, look l, h, b⟩ a2 = .int k y) (hk : K (.bool (decide (¬ x = y))) h) : opC P T ⟨d, .binOp .neq t a a2 u, ty, pos, af, g⟩ ⟨n, look l, h, b⟩ K := by
  show (if nilC .neq a2 = true then nilEqA T t (BinOp.neq == BinOp.neq) (St.eval ⟨n, look l, h, b⟩ a) (fun v => K v h) else binA T .neq t (St.eval ⟨n, look l, h, b⟩ a) (St.eval ⟨n, look l, h, b⟩ a2) (fun v => K v h))
  rw [hn, if_neg (by simp), h1, h2]
  refine ⟨rfl, ?_⟩
  have e : (x != y) = decide (¬ x = y) := by by_cases h : x = y <;> simp [h]
  simpa [e] using hk
theorem o_neB {t u : TypeId} {s by_ : Nat} {z : List AV} {x y : Bool} (hn : nilC .neq a2 = false) (ht : T t = some ⟨.bool, s, by_, z⟩) (h1 : St.eval ⟨n, look l, h, b⟩ a = .bool x) (h2 : St.eval ⟨n, look l, h, b⟩ a2 = .bool y) (hk : K (.bool (decide (¬ x = y))) h) : opC P T ⟨d, .binOp .neq t a a2 u, ty, pos, af, g⟩ ⟨n, look l, h, b⟩ K := by
  show (if nilC .neq a2 = true then nilEqA T t (BinOp.neq == BinOp.neq) (St.eval ⟨n, look l, h, b⟩ a) (fun v => K v h) else binA T .neq t (St.eval ⟨n, look l, h, b⟩ a) (St.eval ⟨n, look l, h, b⟩ a2) (fun v => K v h))
  rw [hn, if_neg (by simp), h1, h2]
  refine ⟨⟨_, ht, rfl⟩, ?_⟩
  cases x <;> cases y <;> exact hk
theorem o_not {t : TypeId} {p : Prop} [Decidable p] (h1 : St.eval ⟨n, look l, h, b⟩ a = .bool (decide p)) (hk : K (.bool (decide (¬ p))) h) : opC P T ⟨d, .unOp .not t a, ty, pos, af, g⟩ ⟨n, look l, h, b⟩ K := by
  show unA .not (St.eval ⟨n, look l, h, b⟩ a) (fun v => K v h)
  rw [h1]
  show K (.bool (!decide p)) h
  rw [<- decide_not]
  exact hk
theorem o_notB {t : TypeId} {q : Bool} (h1 : St.eval ⟨n, look l, h, b⟩ a = .bool q) (hk : K (.bool (decide (¬ q = true))) h) : opC P T ⟨d, .unOp .not t a, ty, pos, af, g⟩ ⟨n, look l, h, b⟩ K := by
  show unA .not (St.eval ⟨n, look l, h, b⟩ a) (fun v => K v h)
  rw [h1]
  show K (.bool (!q)) h
  cases q <;> exact hk
theorem o_neg {t : TypeId} {x : Int} (h1 : St.eval ⟨n, look l, h, b⟩ a = .int .i64 x) (hi : inI (-x)) (hk : K (.int .i64 (-x)) h) : opC P T ⟨d, .unOp .neg t a, ty, pos, af, g⟩ ⟨n, look l, h, b⟩ K := by
  show unA .neg (St.eval ⟨n, look l, h, b⟩ a) (fun v => K v h)
  rw [h1]
  exact ⟨hi, hk⟩
theorem o_conv {t u : TypeId} {si : TI} {k k2 : IntKind} {s by_ : Nat} {z : List AV} {x y : Int} (ht : T t = some si) (hu : T u = some ⟨.int k2, s, by_, z⟩) (h1 : St.eval ⟨n, look l, h, b⟩ a = .int k x) (hy : k2.wrap x = y) (hk : K (.int k2 y) h) : opC P T ⟨d, .convert t u a, ty, pos, af, g⟩ ⟨n, look l, h, b⟩ K := by
  show convA T t u (St.eval ⟨n, look l, h, b⟩ a) (fun v => K v h)
  subst hy
  rw [h1]; simp only [convA, ht, hu]; exact hk
theorem o_nil {id off : Nat} (h1 : St.eval ⟨n, look l, h, b⟩ a = .ptr id off) (hk : K (.ptr id off) h) : opC P T ⟨d, .nilCheck a, ty, pos, af, g⟩ ⟨n, look l, h, b⟩ K := by
  show (match St.eval ⟨n, look l, h, b⟩ a with
    | .ptr id off => K (.ptr id off) h
    | .ipt fl cs => K (.ipt fl cs) h
    | .clo f a b => K (.clo f a b) h
    | _ => False)
  rw [h1]; exact hk
theorem o_mf {f : FuncId} {p q : Array Operand} {ps qs : List AV} (hp : p.toList.map (St.eval ⟨n, look l, h, b⟩) = ps) (hq : q.toList.map (St.eval ⟨n, look l, h, b⟩) = qs) (hk : K (.clo f ps qs) h) : opC P T ⟨d, .makeFunc (.func f) p q, ty, pos, af, g⟩ ⟨n, look l, h, b⟩ K := by
  subst hp; subst hq
  exact hk
theorem o_ext {i : Nat} {cs : List AV} {v : AV} (h1 : St.eval ⟨n, look l, h, b⟩ a = .tup cs) (hv : cs[i]? = some v) (hk : K v h) : opC P T ⟨d, .extract a i, ty, pos, af, g⟩ ⟨n, look l, h, b⟩ K := by
  show (match St.eval ⟨n, look l, h, b⟩ a with
    | .tup cs => i < cs.length /\ K (cs.getD i .any) h
    | _ => False)
  rw [h1]
  refine ⟨(List.getElem?_eq_some_iff.1 hv).1, ?_⟩
  rw [List.getD_eq_getElem?_getD, hv]; exact hk
theorem o_build {t : TypeId} {ps : Array (Nat × Operand)} {i : TI} {fs : List (Nat × TypeId)} {qs : List (Nat × AV)} {cs : List AV} (ht : T t = some i) (hk0 : i.k = .st fs) (hp : (ps.toList.map fun p => (p.1, St.eval ⟨n, look l, h, b⟩ p.2)) = qs) (hf : fillE (fieldPl T fs) i.zero qs = some cs) (hk : K (.agg cs) h) : opC P T ⟨d, .build t ps, ty, pos, af, g⟩ ⟨n, look l, h, b⟩ K := by
  show buildA T t (ps.toList.map fun p => (p.1, St.eval ⟨n, look l, h, b⟩ p.2)) (fun v => K v h)
  rw [hp]; simp only [buildA, ht, hk0]
  exact fillE_spec hf hk
theorem o_buildS {t e : TypeId} {m : Nat} {ps : Array (Nat × Operand)} {s by_ es eb q : Nat} {z ez : List AV} {ek : TK} {qs : List (Nat × AV)} {cs : List AV} (ht : T t = some ⟨.sl e, s, by_, z⟩) (he : T e = some ⟨ek, es, eb, ez⟩) (hb : (Nat.ble m 65536 && Nat.ble 1 es && Nat.ble es 256) = true) (hp : (ps.toList.map fun p => (p.1, St.eval ⟨n, look l, h, b⟩ p.2)) = qs) (hq : h.length = q) (hf : fillE (fun j => some (j * es, es)) (zerosA m es ez) qs = some cs) (hk : K (.ref false q m) (h ++ [.row e es cs])) : opC P T ⟨d, .buildSlice t m ps, ty, pos, af, g⟩ ⟨n, look l, h, b⟩ K := by
  show buildSliceA T h t m (ps.toList.map fun p => (p.1, St.eval ⟨n, look l, h, b⟩ p.2)) K
  subst hq
  rw [hp]; simp only [buildSliceA, ht, he]
  simp only [Bool.and_eq_true] at hb
  exact ⟨⟨Nat.le_of_ble_eq_true hb.1.1, Nat.le_of_ble_eq_true hb.1.2, Nat.le_of_ble_eq_true hb.2⟩, fillE_spec (K := fun cs => K (.ref false h.length m) (h ++ [.row e es cs])) hf hk⟩
theorem o_slL {t e : TypeId} {s by_ es eb : Nat} {z ez : List AV} {ek : TK} (ht : T t = some ⟨.sl e, s, by_, z⟩) (he : T e = some ⟨ek, es, eb, ez⟩) {lo hi : Option Operand} {x y : Int} {α : Type} {en : α -> List AV} {xs ys : List α} {fl : Bool} {m : Nat} (h1 : St.eval ⟨n, look l, h, b⟩ a = .lst fl m (zYy en xs)) (hw : Wd en es) (hm : m = xs.length) (hlo : boundA 0 (lo.map (St.eval ⟨n, look l, h, b⟩)) = some x) (hhi : boundA m (hi.map (St.eval ⟨n, look l, h, b⟩)) = some y) (hj : 0 <= x /\ x <= y /\ y <= (xs.length : Int)) (hy : (xs.drop x.toNat).take (y.toNat - x.toNat) = ys) (hk : K (.lst fl ys.length (zYy en ys)) h) : opC P T ⟨d, .slice t a lo hi none, ty, pos, af, g⟩ ⟨n, look l, h, b⟩ K := by
  show sliceA T t (St.eval ⟨n, look l, h, b⟩ a) (lo.map (St.eval ⟨n, look l, h, b⟩)) (hi.map (St.eval ⟨n, look l, h, b⟩)) none (fun v => K v h)
  subst hm
  rw [h1]; simp only [sliceA, ht, he, hlo, hhi]
  refine ⟨hj, ?_⟩
  rw [encL_drop hw, encL_take hw, hy]
  have e : y.toNat - x.toNat = ys.length := by rw [<- hy]; simp; omega
  rw [e]; exact hk
theorem o_slA {t e : TypeId} {m s by_ es eb : Nat} {z ez : List AV} {ek : TK} (ht : T t = some ⟨.ar m e, s, by_, z⟩) (he : T e = some ⟨ek, es, eb, ez⟩) {lo hi : Option Operand} {x y : Int} {id q off c : Nat} (h1 : St.eval ⟨n, look l, h, b⟩ a = .ptr id q) (hlo : boundA 0 (lo.map (St.eval ⟨n, look l, h, b⟩)) = some x) (hhi : boundA m (hi.map (St.eval ⟨n, look l, h, b⟩)) = some y) (hj : 0 <= x /\ x <= y /\ y <= (m : Int)) (hoff : q + x.toNat * es = off) (hc : y.toNat - x.toNat = c) (hk : K (.sub id off c) h) : opC P T ⟨d, .slice t a lo hi none, ty, pos, af, g⟩ ⟨n, look l, h, b⟩ K := by
  show sliceA T t (St.eval ⟨n, look l, h, b⟩ a) (lo.map (St.eval ⟨n, look l, h, b⟩)) (hi.map (St.eval ⟨n, look l, h, b⟩)) none (fun v => K v h)
  subst hoff; subst hc
  rw [h1]; simp only [sliceA, ht, he, hlo, hhi]
  exact ⟨hj, hk⟩
theorem o_apR {t e : TypeId} {s by_ es eb : Nat} {z ez ys : List AV} {ek : TK} {m p q : Nat} {cc : List AV} (ht : T t = some ⟨.sl e, s, by_, z⟩) (he : T e = some ⟨ek, es, eb, ez⟩) (hb : (Nat.ble 1 es && Nat.ble eb 131072) = true) {nb : Bool} {id k : Nat} {cs : List AV} (h1 : St.eval ⟨n, look l, h, b⟩ a = .ref nb id k) (hs : srcA h es (St.eval ⟨n, look l, h, b⟩ a2) = some (m, ys)) (hl : ys.length = m * es) (ho : h[id]? = some (.row e es cs)) (hcl : cs.length = k * es) (hm : k + m <= 1073741824) (hp : h.length = p) (hq : k + m = q) (hcc : cs ++ ys = cc) (hk : K (.ref nb p q) (h.set id .dead ++ [.row e es cc])) : opC P T ⟨d, .call ⟨.builtin .append, #[a, a2], #[t, t]⟩, ty, pos, af, g⟩ ⟨n, look l, h, b⟩ K := by
  show (t = t /\ appendA T h t (St.eval ⟨n, look l, h, b⟩ a) (St.eval ⟨n, look l, h, b⟩ a2) K)
  subst hp; subst hq; subst hcc
  rw [h1]; simp only [appendA, ht, he, hs, ho]
  simp only [Bool.and_eq_true] at hb
  refine ⟨trivial, ⟨Nat.le_of_ble_eq_true hb.1, Nat.le_of_ble_eq_true hb.2⟩, hl, ⟨trivial, trivial, by omega, hm⟩, ?_⟩
  rw [<- hcl, List.take_length]
  exact hk
theorem src_lst {α : Type} {en : α -> List AV} {sz : Nat} (hw : Wd en sz) (xs : List α) (fl : Bool) {m : Nat} (hm : m = xs.length) : srcA h sz (.lst fl m (zYy en xs)) = some (xs.length, zYy en xs) := by
  subst hm
  simp only [srcA]
  rw [<- zYw hw xs, List.take_length]
theorem src_ref {sz t sz' id m : Nat} {nb : Bool} {cs : List AV} (ho : h[id]? = some (.row t sz' cs)) (hl : cs.length = m * sz) : srcA h sz (.ref nb id m) = some (m, cs) := by
  simp only [srcA, ho]
  rw [<- hl, List.take_length]
theorem ca_row {α : Type} [Inhabited α] {en : α -> List AV} {xs : List α} {t sz id : Nat} {i : Int} (ho : h[id]? = some (.row t sz (zYy en xs))) (hw : Wd en sz) (hj : 0 <= i /\ i < (xs.length : Int)) : ∃ rest, cellsAt h (.ptr id (i.toNat * sz)) = some (en (lat xs i) ++ rest) := by
  obtain ⟨rest, hr⟩ := encL_at hw xs i hj.1 hj.2
  exact ⟨rest, by simp only [cellsAt, ho, hr]⟩
theorem ca_rowF {α : Type} [Inhabited α] {en : α -> List AV} {xs : List α} {t sz id k : Nat} {i : Int} (ho : h[id]? = some (.row t sz (zYy en xs))) (hw : Wd en sz) (hj : 0 <= i /\ i < (xs.length : Int)) (hk : Nat.ble k sz = true) : ∃ rest, cellsAt h (.ptr id (i.toNat * sz + k)) = some ((en (lat xs i)).drop k ++ rest) := by
  obtain ⟨rest, hr⟩ := encL_at' hw xs i k (Nat.le_of_ble_eq_true hk) hj.1 hj.2
  exact ⟨rest, by simp only [cellsAt, ho, hr]⟩

theorem FnP.wk {k : FuncId} {xs ys : List AV} {Post : AV -> Prop} (hw : Wks xs ys) (hf : FnP P k ys Post) : FnP P k xs Post := ⟨hf.1, fun m w vs hm hv => hf.2 m w vs hm (hw _ _ _ (Low.nest m) hv)⟩
theorem FnS.wk {k : FuncId} {xs ys : List AV} {Post : AV -> Prop} (hw : Wks xs ys) (hf : FnS P k ys Post) : FnS P k xs Post := ⟨hf.1, fun m w vs hm hv => hf.2 m w vs hm (hw _ _ _ (Low.nest m) hv)⟩
theorem o_callP {f : Operand} {args : Array Operand} {tys : Array TypeId} {k : FuncId} {fst caps ys xs : List AV} {Post : AV -> Prop} (hf : St.eval ⟨n, look l, h, b⟩ f = .clo k fst caps) (ha : args.toList.map (St.eval ⟨n, look l, h, b⟩) = ys)
    (spec : FnP P k xs Post) (hw : Wks ((fst ++ ys ++ caps).map (conv 6 h)) xs) (hk : ∀ x, Post x -> K x h) : opC P T ⟨d, .call ⟨.value f, args, tys⟩, ty, pos, af, g⟩ ⟨n, look l, h, b⟩ K := by
  show callR P ⟨.value f, args, tys⟩ ⟨n, look l, h, b⟩ K
  unfold callR
  simp only [hf]
  subst ha
  exact .inl ⟨Post, spec.wk hw, hk⟩
theorem o_callS {f : Operand} {args : Array Operand} {tys : Array TypeId} {k : FuncId} {fst caps ys xs : List AV} {Post : AV -> Prop} (hf : St.eval ⟨n, look l, h, b⟩ f = .clo k fst caps) (ha : args.toList.map (St.eval ⟨n, look l, h, b⟩) = ys)
    (spec : FnS P k xs Post) (hw : Wks ((fst ++ ys ++ caps).map (conv 6 [])) xs) (hk : ∀ x, Post x -> K x h) : opC P T ⟨d, .call ⟨.value f, args, tys⟩, ty, pos, af, g⟩ ⟨n, look l, h, b⟩ K := by
  show callR P ⟨.value f, args, tys⟩ ⟨n, look l, h, b⟩ K
  unfold callR
  simp only [hf]
  subst ha
  exact .inr ⟨Post, spec.wk hw, hk⟩
theorem zZu {f : Operand} {args : Array Operand} {tys : Array TypeId} {k : FuncId} {fst caps ys xs : List AV} {v : AV} (hf : St.eval ⟨n, look l, h, b⟩ f = .clo k fst caps) (ha : args.toList.map (St.eval ⟨n, look l, h, b⟩) = ys)
    (spec : FnP P k xs (fun x => x = v)) (hw : Wks ((fst ++ ys ++ caps).map (conv 6 h)) xs) (hk : K v h) : opC P T ⟨d, .call ⟨.value f, args, tys⟩, ty, pos, af, g⟩ ⟨n, look l, h, b⟩ K := o_callP hf ha spec hw (by rintro _ rfl; exact hk)
theorem o_callS1 {f : Operand} {args : Array Operand} {tys : Array TypeId} {k : FuncId} {fst caps ys xs : List AV} {v : AV} (hf : St.eval ⟨n, look l, h, b⟩ f = .clo k fst caps) (ha : args.toList.map (St.eval ⟨n, look l, h, b⟩) = ys)
    (spec : FnS P k xs (fun x => x = v)) (hw : Wks ((fst ++ ys ++ caps).map (conv 6 [])) xs) (hk : K v h) : opC P T ⟨d, .call ⟨.value f, args, tys⟩, ty, pos, af, g⟩ ⟨n, look l, h, b⟩ K := o_callS hf ha spec hw (by rintro _ rfl; exact hk)

structure Enc {α : Type} (ef : Bool -> α -> List AV) (sz : Nat) : Prop where
  wd : ∀ fl, Wd (ef fl) sz
  cv : ∀ k h fl a, Wks ((ef fl a).map (conv (k + 1) h)) (ef true a)
  ci : ∀ k h a, Wks ((ef false a).map (cvI (k + 1) h)) (ef true a)
  co : ∀ k h a, Wks ((ef false a).map (cvO (k + 1) h)) (ef false a)
  sl : ∀ fl a, SealVs fl (ef fl a) (ef true a)
  cl : ∀ fl a, ∀ x ∈ ef fl a, clV x = true
theorem encL_cv {α : Type} {ef : Bool -> α -> List AV} {sz : Nat} (he : Enc ef sz) (k : Nat) (h : List AObj) (fl : Bool) : ∀ xs, Wks ((zYy (ef fl) xs).map (conv (k + 1) h)) (zYy (ef true) xs)
  | [] => Wks.refl _
  | x :: xs => by
    rw [encL_cons, encL_cons, List.map_append]
    exact Wks.app (he.cv k h fl x) (encL_cv he k h fl xs) (by rw [List.length_map, he.wd, he.wd])
theorem encL_ci {α : Type} {ef : Bool -> α -> List AV} {sz : Nat} (he : Enc ef sz) (k : Nat) (h : List AObj) : ∀ xs, Wks ((zYy (ef false) xs).map (cvI (k + 1) h)) (zYy (ef true) xs)
  | [] => Wks.refl _
  | x :: xs => by
    rw [encL_cons, encL_cons, List.map_append]
    exact Wks.app (he.ci k h x) (encL_ci he k h xs) (by rw [List.length_map, he.wd, he.wd])
theorem encL_sl {α : Type} {ef : Bool -> α -> List AV} {sz : Nat} (he : Enc ef sz) (fl : Bool) : ∀ xs, SealVs fl (zYy (ef fl) xs) (zYy (ef true) xs)
  | [] => SealVs.nil fl
  | x :: xs => by
    rw [encL_cons, encL_cons]
    exact SealVs.app (he.sl fl x) (encL_sl he fl xs)
theorem encL_cl {α : Type} {ef : Bool -> α -> List AV} {sz : Nat} (he : Enc ef sz) (fl : Bool) (xs : List α) : ∀ x ∈ zYy (ef fl) xs, clV x = true := by
  intro x hx
  simp only [zYy, List.mem_flatMap] at hx
  obtain ⟨a, _, ha⟩ := hx
  exact he.cl fl a x ha
theorem Rens.enc {φ : List (Option Nat)} {α : Type} {ef : Bool -> α -> List AV} {sz : Nat} (he : Enc ef sz) (fl : Bool) (xs : List α) : Rens φ (zYy (ef fl) xs) (zYy (ef fl) xs) := Rens.cl (encL_cl he fl xs)
theorem conv_int (k : Nat) (h : List AObj) (q : IntKind) (x : Int) : conv k h (.int q x) = .int q x := by cases k <;> rfl
theorem conv_bool (k : Nat) (h : List AObj) (x : Bool) : conv k h (.bool x) = .bool x := by cases k <;> rfl
theorem conv_lst (k : Nat) (h : List AObj) (fl : Bool) (m : Nat) (cs : List AV) : conv k h (.lst fl m cs) = .lst true m cs := by cases k <;> rfl
theorem cvI_int (k : Nat) (h : List AObj) (q : IntKind) (x : Int) : cvI k h (.int q x) = .int q x := by cases k <;> rfl
theorem cvI_lst (k : Nat) (h : List AObj) (m : Nat) (cs : List AV) : cvI k h (.lst false m cs) = .lst true m cs := by cases k <;> rfl
theorem cvO_int (k : Nat) (h : List AObj) (q : IntKind) (x : Int) : cvO k h (.int q x) = .int q x := by cases k <;> rfl
theorem cvO_bool (k : Nat) (h : List AObj) (x : Bool) : cvO k h (.bool x) = .bool x := by cases k <;> rfl
theorem cvO_lst (k : Nat) (h : List AObj) (m : Nat) (cs : List AV) : cvO k h (.lst false m cs) = .lst false m cs := by cases k <;> rfl
theorem zZw : Enc (fun _ => zYx) 1 where
  wd _ _ := rfl
  cv k h _ a := by rw [zYx, List.map_cons, conv_int]; exact Wks.refl _
  ci k h a := by rw [zYx, List.map_cons, cvI_int]; exact Wks.refl _
  co k h a := by rw [zYx, List.map_cons, cvO_int]; exact Wks.refl _
  sl fl a := SealVs.cons (SealV.int fl _ _) (SealVs.nil fl)
  cl _ a x hx := by simp only [zYx, List.mem_singleton] at hx; subst hx; rfl
def eSl {α : Type} (e : α -> List AV) (fl : Bool) (r : List α) : List AV := [.lst fl r.length (zYy e r)]
theorem encSl {α : Type} (e : α -> List AV) : Enc (eSl e) 1 where
  wd _ _ := rfl
  cv k h fl a := by rw [eSl, List.map_cons, conv_lst]; exact Wks.refl _
  ci k h a := by rw [eSl, List.map_cons, cvI_lst]; exact Wks.refl _
  co k h a := by rw [eSl, List.map_cons, cvO_lst]; exact Wks.refl _
  sl fl a := SealVs.cons (SealV.lst fl _ _) (SealVs.nil fl)
  cl _ a x hx := by simp only [eSl, List.mem_singleton] at hx; subst hx; rfl

section
variable {α : Type} {ef : Bool -> α -> List AV} {sz : Nat}
theorem zZz (k : Nat) (h : List AObj) (q : IntKind) (x : Int) : Wk (conv k h (.int q x)) (.int q x) := by rw [conv_int]; exact Wk.refl _
theorem ag_bool (k : Nat) (h : List AObj) (x : Bool) : Wk (conv k h (.bool x)) (.bool x) := by rw [conv_bool]; exact Wk.refl _
theorem zZs (k : Nat) (h : List AObj) (fl : Bool) (m : Nat) (cs : List AV) : Wk (conv k h (.lst fl m cs)) (.lst true m cs) := by rw [conv_lst]; exact Wk.refl _
theorem ag_nil (k : Nat) (h : List AObj) (m : Nat) (cs : List AV) (hm : m = 0) : Wk (conv k h .nilS) (.lst true m cs) := by
  have : conv k h .nilS = .nilS := by cases k <;> rfl
  rw [this]; exact Wk.nil' _ _ _ hm
theorem ag_ref (he : Enc ef sz) (k : Nat) {h : List AObj} {id t : Nat} {fl : Bool} {xs : List α} (nb : Bool) {m : Nat} (ho : h[id]? = some (.row t sz (zYy (ef fl) xs))) (hm : m = xs.length) : Wk (conv (k + 2) h (.ref nb id m)) (.lst true xs.length (zYy (ef true) xs)) := by
  subst hm
  simp only [conv, ho]
  rw [<- zYw (he.wd fl) xs, List.take_length]
  exact Wk.lsts _ _ (encL_cv he k h fl xs)
theorem zXx (k : Nat) (h : List AObj) {cs ds : List AV} (hc : Wks (cs.map (conv k h)) ds) : Wk (conv (k + 1) h (.agg cs)) (.agg ds) := Wk.agg hc
theorem ag_clo (k : Nat) (h : List AObj) (f : FuncId) {a b c d : List AV} (h1 : Wks (a.map (conv k h)) c) (h2 : Wks (b.map (conv k h)) d) : Wk (conv (k + 1) h (.clo f a b)) (.clo f c d) := Wk.clo f h1 h2
theorem ag_box (k : Nat) {h : List AObj} {id t : Nat} {cs ds : List AV} (ho : h[id]? = some (.box t cs)) (hc : Wks (cs.map (conv k h)) ds) : Wk (conv (k + 1) h (.ptr id 0)) (.ipt true ds) := by
  simp only [conv, ho, List.drop_zero]
  intro r m v hm hv
  simp only [VR] at hv ⊢
  obtain ⟨a, vs, h2, h3, h4⟩ := hv
  exact ⟨a, vs, h2, h3, hc _ _ _ (Low.nest _) h4⟩
theorem ag_ipt (k : Nat) (h : List AObj) (fl : Bool) (cs : List AV) : Wk (conv k h (.ipt fl cs)) (.ipt true cs) := by
  have : conv k h (.ipt fl cs) = .ipt true cs := by cases k <;> rfl
  rw [this]; exact Wk.refl _
theorem zY (k : Nat) (h : List AObj) (q : IntKind) (x : Int) : Wk (cvO k h (.int q x)) (.int q x) := by rw [cvO_int]; exact Wk.refl _
theorem zYr (k : Nat) (h : List AObj) (x : Bool) : Wk (cvO k h (.bool x)) (.bool x) := by rw [cvO_bool]; exact Wk.refl _
theorem rs_lst (k : Nat) (h : List AObj) (m : Nat) (cs : List AV) : Wk (cvO k h (.lst false m cs)) (.lst false m cs) := by rw [cvO_lst]; exact Wk.refl _
theorem rs_nil (k : Nat) (h : List AObj) (m : Nat) (cs : List AV) (hm : m = 0) : Wk (cvO k h .nilS) (.lst false m cs) := by
  have : cvO k h .nilS = .nilS := by cases k <;> rfl
  rw [this]; exact Wk.nil' _ _ _ hm
theorem rs_ref (he : Enc ef sz) (k : Nat) {h : List AObj} {id t : Nat} {xs : List α} (nb : Bool) {m : Nat} (ho : h[id]? = some (.row t sz (zYy (ef false) xs))) (hm : m = xs.length) : Wk (cvO (k + 2) h (.ref nb id m)) (.lst false xs.length (zYy (ef true) xs)) := by
  subst hm
  simp only [cvO, ho]
  rw [<- zYw (he.wd false) xs, List.take_length]
  exact Wk.lsts _ _ (encL_ci he k h xs)
theorem rs_agg (k : Nat) (h : List AObj) {cs ds : List AV} (hc : Wks (cs.map (cvO k h)) ds) : Wk (cvO (k + 1) h (.agg cs)) (.agg ds) := Wk.agg hc
theorem rs_tup (k : Nat) (h : List AObj) {cs ds : List AV} (hc : Wks (cs.map (cvO k h)) ds) : Wk (cvO (k + 1) h (.tup cs)) (.tup ds) := Wk.tup hc
end

theorem rt {rs : List ResultVar} {KK : St -> AV -> Prop} {s : St} (h1 : resL T s rs fun vs => match vs with | [v] => KK s v | vs => KK s (.tup vs)) : retA T rs KK .ret s := h1
theorem rn {rs : List ResultVar} {KK : St -> AV -> Prop} {s : St} (h1 : resL T s rs fun vs => match vs with | [v] => KK s v | vs => KK s (.tup vs)) : retA T rs KK .nrm s := h1
theorem rt_t {t : Tmp} {rs : List ResultVar} {KV : List AV -> Prop} {s : St} {v : AV} (hv : s.tm t = v) (h1 : resL T s rs fun vs => KV (v :: vs)) : resL T s (.tmp t :: rs) KV := by subst hv; exact h1
theorem rt_c {p : Tmp} {t : TypeId} {rs : List ResultVar} {KV : List AV -> Prop} {s : St} {x : AV} (hx : s.tm p = x) (h1 : loadA T s.heap t x fun v _ => resL T s rs fun vs => KV (v :: vs)) : resL T s (.cell p t :: rs) KV := by subst hx; exact h1
theorem rt_n {KV : List AV -> Prop} {s : St} (h1 : KV []) : resL T s [] KV := h1
theorem zXv {p q : Prop} [Decidable p] [Decidable q] (hp : p) {x : Bool} (hq : decide q = x) : decide (p /\ q) = x := by rw [<- hq]; simp [hp]
theorem dAndF {p q : Prop} [Decidable p] [Decidable q] (hp : ¬ p) : decide (p /\ q) = false := by simp [hp]
theorem dOrT {p q : Prop} [Decidable p] [Decidable q] (hp : p) : decide (p \/ q) = true := by simp [hp]
theorem dOrF {p q : Prop} [Decidable p] [Decidable q] (hp : ¬ p) {x : Bool} (hq : decide q = x) : decide (p \/ q) = x := by rw [<- hq]; simp [hp]
end
end Go.Lat
namespace Go.Lat
open Go.RowKit
section
variable {P : Program} {T : TT} {st st' : St} {Q : Ex -> St -> Prop} {c c' : Code} {n : Nat} {l l' : List (Nat × AV)} {h h' : List AObj} {b : Nat}
theorem W.rLm {id : Nat} {ol : List Oper} (st' : St) (h1 : seqL P T ol [] 0 ol st fun s => s.le st') (h2 : W P T c st' Q) : W P T (.seq (.region id ol.toArray false) c) st Q := W.seq _ (W.region [] h1) fun _ h => W.le h h2
theorem W.rDm {id : Nat} {ol : List Oper} (st' : St) (ord : List Nat) (hc : chk ol.toArray ord = true) (hl : (ord.map fun i => ol[i]?) = ol.map some) (h1 : seqL P T ol [] 0 ol st fun s => s.le st') (h2 : W P T c st' Q) : W P T (.seq (.region id ol.toArray true) c) st Q :=
  W.seq (fun s => s.le st') (W.rD1 ord hc hl h1) fun _ h => W.le h h2
theorem zYz (h1 : regsL (look l) l') (h2 : h = h') : St.le ⟨n, look l, h, b⟩ ⟨n, look l', h', b⟩ := by subst h2; exact ⟨rfl, rfl, rfl, regsL_look h1⟩
theorem dVar (b : Bool) : decide (b = true) = b := by cases b <;> rfl
theorem W.mid0 (S : St) (p : Prop) (h' : p -> W P T c' (S) Q) (h : W P T c st (thenA (fun s => ∃ (_ : Unit), p /\ s.to (S)) Q)) : W P T (.seq c c') st Q :=
  W.seq _ h fun _ ⟨_, hx, hs⟩ => W.to hs (h' hx)
theorem W.mid1 {α0 : Type} (S : α0 -> St) (p : α0 -> Prop) (h' : ∀ x0, p x0 -> W P T c' (S x0) Q) (h : W P T c st (thenA (fun s => ∃ (_ : Unit) (x0 : α0), p x0 /\ s.to (S x0)) Q)) : W P T (.seq c c') st Q :=
  W.seq _ h fun _ ⟨_, x0, hx, hs⟩ => W.to hs (h' x0 hx)
theorem W.loop1 {α0 : Type} (S : α0 -> St) (p : α0 -> Prop) (μ : α0 -> Nat) (z0 : α0) (hs : st.to (S z0)) (hp : p z0)
    (h : ∀ x0, p x0 -> W P T c (S x0) (thenA (fun s => ∃ (_ : Unit) (y0 : α0), (p y0 /\ μ y0 < μ x0) /\ s.to (S y0)) Q)) : W P T (.loop c) st Q :=
  W.loopT (α := α0) (fun x => S x) (fun x => p x) (fun x => μ x) (z0) hs hp fun x hx => (h x hx).mono fun e s hs' => by
    cases e <;> simp only [thenA] at hs' ⊢ <;> try exact hs'
    obtain ⟨_, y0, h1, h2⟩ := hs'
    exact ⟨(y0), h1, h2⟩
theorem W.mid2 {α0 α1 : Type} (S : α0 -> α1 -> St) (p : α0 -> α1 -> Prop) (h' : ∀ x0 x1, p x0 x1 -> W P T c' (S x0 x1) Q) (h : W P T c st (thenA (fun s => ∃ (_ : Unit) (x0 : α0) (x1 : α1), p x0 x1 /\ s.to (S x0 x1)) Q)) : W P T (.seq c c') st Q :=
  W.seq _ h fun _ ⟨_, x0, x1, hx, hs⟩ => W.to hs (h' x0 x1 hx)
theorem W.loop2 {α0 α1 : Type} (S : α0 -> α1 -> St) (p : α0 -> α1 -> Prop) (μ : α0 -> α1 -> Nat) (z0 : α0) (z1 : α1) (hs : st.to (S z0 z1)) (hp : p z0 z1)
    (h : ∀ x0 x1, p x0 x1 -> W P T c (S x0 x1) (thenA (fun s => ∃ (_ : Unit) (y0 : α0) (y1 : α1), (p y0 y1 /\ μ y0 y1 < μ x0 x1) /\ s.to (S y0 y1)) Q)) : W P T (.loop c) st Q :=
  W.loopT (α := α0 × α1) (fun x => S x.1 x.2) (fun x => p x.1 x.2) (fun x => μ x.1 x.2) (z0, z1) hs hp fun x hx => (h x.1 x.2 hx).mono fun e s hs' => by
    cases e <;> simp only [thenA] at hs' ⊢ <;> try exact hs'
    obtain ⟨_, y0, y1, h1, h2⟩ := hs'
    exact ⟨(y0, y1), h1, h2⟩
theorem W.mid3 {α0 α1 α2 : Type} (S : α0 -> α1 -> α2 -> St) (p : α0 -> α1 -> α2 -> Prop) (h' : ∀ x0 x1 x2, p x0 x1 x2 -> W P T c' (S x0 x1 x2) Q) (h : W P T c st (thenA (fun s => ∃ (_ : Unit) (x0 : α0) (x1 : α1) (x2 : α2), p x0 x1 x2 /\ s.to (S x0 x1 x2)) Q)) : W P T (.seq c c') st Q :=
  W.seq _ h fun _ ⟨_, x0, x1, x2, hx, hs⟩ => W.to hs (h' x0 x1 x2 hx)
theorem W.loop3 {α0 α1 α2 : Type} (S : α0 -> α1 -> α2 -> St) (p : α0 -> α1 -> α2 -> Prop) (μ : α0 -> α1 -> α2 -> Nat) (z0 : α0) (z1 : α1) (z2 : α2) (hs : st.to (S z0 z1 z2)) (hp : p z0 z1 z2)
    (h : ∀ x0 x1 x2, p x0 x1 x2 -> W P T c (S x0 x1 x2) (thenA (fun s => ∃ (_ : Unit) (y0 : α0) (y1 : α1) (y2 : α2), (p y0 y1 y2 /\ μ y0 y1 y2 < μ x0 x1 x2) /\ s.to (S y0 y1 y2)) Q)) : W P T (.loop c) st Q :=
  W.loopT (α := α0 × α1 × α2) (fun x => S x.1 x.2.1 x.2.2) (fun x => p x.1 x.2.1 x.2.2) (fun x => μ x.1 x.2.1 x.2.2) (z0, z1, z2) hs hp fun x hx => (h x.1 x.2.1 x.2.2 hx).mono fun e s hs' => by
    cases e <;> simp only [thenA] at hs' ⊢ <;> try exact hs'
    obtain ⟨_, y0, y1, y2, h1, h2⟩ := hs'
    exact ⟨(y0, y1, y2), h1, h2⟩
theorem W.mid4 {α0 α1 α2 α3 : Type} (S : α0 -> α1 -> α2 -> α3 -> St) (p : α0 -> α1 -> α2 -> α3 -> Prop) (h' : ∀ x0 x1 x2 x3, p x0 x1 x2 x3 -> W P T c' (S x0 x1 x2 x3) Q) (h : W P T c st (thenA (fun s => ∃ (_ : Unit) (x0 : α0) (x1 : α1) (x2 : α2) (x3 : α3), p x0 x1 x2 x3 /\ s.to (S x0 x1 x2 x3)) Q)) : W P T (.seq c c') st Q :=
  W.seq _ h fun _ ⟨_, x0, x1, x2, x3, hx, hs⟩ => W.to hs (h' x0 x1 x2 x3 hx)
theorem W.loop4 {α0 α1 α2 α3 : Type} (S : α0 -> α1 -> α2 -> α3 -> St) (p : α0 -> α1 -> α2 -> α3 -> Prop) (μ : α0 -> α1 -> α2 -> α3 -> Nat) (z0 : α0) (z1 : α1) (z2 : α2) (z3 : α3) (hs : st.to (S z0 z1 z2 z3)) (hp : p z0 z1 z2 z3)
    (h : ∀ x0 x1 x2 x3, p x0 x1 x2 x3 -> W P T c (S x0 x1 x2 x3) (thenA (fun s => ∃ (_ : Unit) (y0 : α0) (y1 : α1) (y2 : α2) (y3 : α3), (p y0 y1 y2 y3 /\ μ y0 y1 y2 y3 < μ x0 x1 x2 x3) /\ s.to (S y0 y1 y2 y3)) Q)) : W P T (.loop c) st Q :=
  W.loopT (α := α0 × α1 × α2 × α3) (fun x => S x.1 x.2.1 x.2.2.1 x.2.2.2) (fun x => p x.1 x.2.1 x.2.2.1 x.2.2.2) (fun x => μ x.1 x.2.1 x.2.2.1 x.2.2.2) (z0, z1, z2, z3) hs hp fun x hx => (h x.1 x.2.1 x.2.2.1 x.2.2.2 hx).mono fun e s hs' => by
    cases e <;> simp only [thenA] at hs' ⊢ <;> try exact hs'
    obtain ⟨_, y0, y1, y2, y3, h1, h2⟩ := hs'
    exact ⟨(y0, y1, y2, y3), h1, h2⟩
theorem W.loop5 {α0 α1 α2 α3 α4 : Type} (S : α0 -> α1 -> α2 -> α3 -> α4 -> St) (p : α0 -> α1 -> α2 -> α3 -> α4 -> Prop) (μ : α0 -> α1 -> α2 -> α3 -> α4 -> Nat) (z0 : α0) (z1 : α1) (z2 : α2) (z3 : α3) (z4 : α4) (hs : st.to (S z0 z1 z2 z3 z4)) (hp : p z0 z1 z2 z3 z4)
    (h : ∀ x0 x1 x2 x3 x4, p x0 x1 x2 x3 x4 -> W P T c (S x0 x1 x2 x3 x4) (thenA (fun s => ∃ (_ : Unit) (y0 : α0) (y1 : α1) (y2 : α2) (y3 : α3) (y4 : α4), (p y0 y1 y2 y3 y4 /\ μ y0 y1 y2 y3 y4 < μ x0 x1 x2 x3 x4) /\ s.to (S y0 y1 y2 y3 y4)) Q)) : W P T (.loop c) st Q :=
  W.loopT (α := α0 × α1 × α2 × α3 × α4) (fun x => S x.1 x.2.1 x.2.2.1 x.2.2.2.1 x.2.2.2.2) (fun x => p x.1 x.2.1 x.2.2.1 x.2.2.2.1 x.2.2.2.2) (fun x => μ x.1 x.2.1 x.2.2.1 x.2.2.2.1 x.2.2.2.2) (z0, z1, z2, z3, z4) hs hp fun x hx => (h x.1 x.2.1 x.2.2.1 x.2.2.2.1 x.2.2.2.2 hx).mono fun e s hs' => by
    cases e <;> simp only [thenA] at hs' ⊢ <;> try exact hs'
    obtain ⟨_, y0, y1, y2, y3, y4, h1, h2⟩ := hs'
    exact ⟨(y0, y1, y2, y3, y4), h1, h2⟩
theorem W.loop6 {α0 α1 α2 α3 α4 α5 : Type} (S : α0 -> α1 -> α2 -> α3 -> α4 -> α5 -> St) (p : α0 -> α1 -> α2 -> α3 -> α4 -> α5 -> Prop) (μ : α0 -> α1 -> α2 -> α3 -> α4 -> α5 -> Nat) (z0 : α0) (z1 : α1) (z2 : α2) (z3 : α3) (z4 : α4) (z5 : α5) (hs : st.to (S z0 z1 z2 z3 z4 z5)) (hp : p z0 z1 z2 z3 z4 z5)
    (h : ∀ x0 x1 x2 x3 x4 x5, p x0 x1 x2 x3 x4 x5 -> W P T c (S x0 x1 x2 x3 x4 x5) (thenA (fun s => ∃ (_ : Unit) (y0 : α0) (y1 : α1) (y2 : α2) (y3 : α3) (y4 : α4) (y5 : α5), (p y0 y1 y2 y3 y4 y5 /\ μ y0 y1 y2 y3 y4 y5 < μ x0 x1 x2 x3 x4 x5) /\ s.to (S y0 y1 y2 y3 y4 y5)) Q)) : W P T (.loop c) st Q :=
  W.loopT (α := α0 × α1 × α2 × α3 × α4 × α5) (fun x => S x.1 x.2.1 x.2.2.1 x.2.2.2.1 x.2.2.2.2.1 x.2.2.2.2.2) (fun x => p x.1 x.2.1 x.2.2.1 x.2.2.2.1 x.2.2.2.2.1 x.2.2.2.2.2) (fun x => μ x.1 x.2.1 x.2.2.1 x.2.2.2.1 x.2.2.2.2.1 x.2.2.2.2.2) (z0, z1, z2, z3, z4, z5) hs hp fun x hx => (h x.1 x.2.1 x.2.2.1 x.2.2.2.1 x.2.2.2.2.1 x.2.2.2.2.2 hx).mono fun e s hs' => by
    cases e <;> simp only [thenA] at hs' ⊢ <;> try exact hs'
    obtain ⟨_, y0, y1, y2, y3, y4, y5, h1, h2⟩ := hs'
    exact ⟨(y0, y1, y2, y3, y4, y5), h1, h2⟩
end
end Go.Lat
namespace Go.Lat
open Go.RowKit
theorem stepR_scope' {P : Program} {b : Frame} {a : Act} {k : List Item} {cs : List Frame} {w : World} {c : Code} : step P (lone (b.atR a (.code (.scope c) :: k)) cs w) = .next (lone (b.atR a (.code c :: .inScope c :: k)) cs w) :=
  step_lone_go (by simp [Go.stepG, Go.stepG.exec, Frame.atR])
theorem stepR_inScope' {P : Program} {b : Frame} {a : Act} {k : List Item} {cs : List Frame} {w : World} {c : Code} : step P (lone (b.atR a (.inScope c :: k)) cs w) = .next (lone (b.atR a k) cs w) :=
  step_lone_go (by simp [Go.stepG, Go.stepG.exec, Frame.atR])
theorem W.scope {P : Program} {T : TT} {st : St} {Q : Ex -> St -> Prop} {c : Code} (h : W P T c st Q) : W P T (.scope c) st Q := fun hT hf ro hng n X D w0 mA r m a w hR => by
  intro b k cs hro hb hr
  have h0 : (lone (b.atR a (.code (.scope c) :: k)) cs w).fenced P (FW ro) := fenced_calm hb hr rfl
  obtain ⟨e, a1, w1, hq, harr⟩ := h hT hf ro hng n X D w0 mA r m a w hR b (.inScope c :: k) cs hro hb hr
  cases e with
  | normal => exact ⟨.normal, a1, w1, hq, .head h0 stepR_scope' (StepsIn.trans harr (.one (fenced_calm hb hr rfl) stepR_inScope'))⟩
  | exit id =>
    have hx : exitTo id (.inScope c :: k) = exitTo id k := by simp [exitTo]
    exact ⟨.exit id, a1, w1, hq, fun k' hk => .head h0 stepR_scope' (harr.1 k' (by rw [hx]; exact hk)), fun hr' hk => let ⟨k1, h1, h2⟩ := harr.2 hr' (by rw [hx]; exact hk); ⟨k1, h1, .head h0 stepR_scope' h2⟩⟩
  | goto l => exact hq.elim
  | ret => exact ⟨_, a1, w1, hq, .of_steps (.one h0 stepR_scope') harr⟩
  | panic ch => exact ⟨_, a1, w1, hq, .of_steps (.one h0 stepR_scope') harr⟩
  | outgrown => exact ⟨_, a1, w1, hq, .of_steps (.one h0 stepR_scope') harr⟩
section
variable {P : Program} {T : TT} {d : Option Tmp} {ty : TypeId} {pos : String} {af : Array Edge} {g : Option (Nat × Bool)} {n : Nat} {l : List (Nat × AV)} {h : List AObj} {b : Nat} {K : AV -> List AObj -> Prop} {a a2 a3 : Operand}
theorem cell_of {X : Option (List AV)} {cs ds : List AV} {v : AV} (hc : ∃ rest, X = some (cs ++ rest)) (h1 : cs = v :: ds) : ∃ rest, X = some (v :: rest) := by
  obtain ⟨rest, hc⟩ := hc
  subst h1
  exact ⟨ds ++ rest, hc⟩
theorem row_in {α : Type} {e : α -> List AV} {sz : Nat} (hw : Wd e sz) {xs : List α} {i : Int} (hj : 0 <= i /\ i < (xs.length : Int)) {vs : List AV} (hv : vs.length = sz) : i.toNat * sz + vs.length <= (zYy e xs).length := by
  rw [zYw hw, hv]
  have hj' : i.toNat < xs.length := by omega
  have := Nat.mul_le_mul_right sz hj'
  rw [Nat.succ_mul] at this
  exact this
theorem spl_all (cs vs : List AV) (h1 : vs.length = cs.length) : Lat.spl cs 0 vs = vs := by
  rw [Lat.spl_eq _ _ _ (by omega)]
  simp [h1]
def vput {n : Nat} (M : Vector Int n) (off : Nat) (xs : List Int) : Vector Int n :=
  if h : off + xs.length <= n then ⟨(M.toList.take off ++ xs ++ M.toList.drop (off + xs.length)).toArray, by simp; omega⟩ else M
theorem o_iaPV {t e : TypeId} {s by_ eb k : Nat} {z ez : List AV} {ek : TK} {M : Vector Int k} {fl : Bool} {rest : List AV} (ht : T t = some ⟨.ar k e, s, by_, z⟩) (he : T e = some ⟨ek, 1, eb, ez⟩)
    (h1 : St.eval ⟨n, look l, h, b⟩ a = .ipt fl (zYy zYx M.toList ++ rest)) {ik : IntKind} {i : Int} (h2 : St.eval ⟨n, look l, h, b⟩ a2 = .int ik i) (hj : 0 <= i /\ i < (k : Int))
    (hk : ∀ rest, K (.ipt fl (.int .i64 (vat M i.toNat) :: rest)) h) : opC P T ⟨d, .indexAddr t a a2, ty, pos, af, g⟩ ⟨n, look l, h, b⟩ K := by
  show indexAddrA T t (St.eval ⟨n, look l, h, b⟩ a) (St.eval ⟨n, look l, h, b⟩ a2) (fun v => K v h)
  rw [h1, h2]; simp only [indexAddrA, ht, he]
  refine ⟨hj, ?_⟩
  obtain ⟨r2, hr⟩ := ints_at M i.toNat (by omega)
  rw [Nat.mul_one, List.drop_append_of_le_length (by rw [zX]; omega), hr]
  exact hk _
theorem o_bs1 {t e i : TypeId} {s by_ es eb q : Nat} {z ez : List AV} {ek : TK} {v : AV} {cs cs2 : List AV} (ht : T t = some ⟨.sl e, s, by_, z⟩) (he : T e = some ⟨ek, es, eb, ez⟩) (hb : (Nat.ble 1 es && Nat.ble es 256) = true)
    (h1 : St.eval ⟨n, look l, h, b⟩ a = v) (hc : v.cells = some cs) (hl : cs.length = es) (hz : ez.length = es) (hq : h.length = q) (_hi : i = 0) (hcs : cs = cs2) (hk : K (.ref false q 1) (h ++ [.row e es cs2])) : opC P T ⟨d, .buildSlice t 1 #[(i, a)], ty, pos, af, g⟩ ⟨n, look l, h, b⟩ K := by
  subst _hi; subst hcs
  show buildSliceA T h t 1 [((0 : Nat), St.eval ⟨n, look l, h, b⟩ a)] K
  subst hq
  simp only [Bool.and_eq_true] at hb
  rw [h1]; simp only [buildSliceA, ht, he]
  have hpos := Nat.le_of_ble_eq_true hb.1
  refine ⟨⟨by omega, hpos, Nat.le_of_ble_eq_true hb.2⟩, ?_⟩
  have hzl : (zerosA 1 es ez).length = es := by simp [zerosA]
  simp only [fillP, hc]
  refine ⟨hl, by rw [hzl]; omega, ?_⟩
  rw [Nat.zero_mul, spl_all _ _ (by rw [hl, hzl])]
  exact hk
theorem callH_C1 {k : FuncId} {args xs : List AV} {o : AObj} (hf : FnH P k [] xs (fun x H' => ∃ l, H' = o :: l /\ x = .chn 0)) (hw : Wks (args.map (conv 6 h)) xs) (hfl : flatC o) (hp : h.length = n)
    (hk : K (.chn n) (h ++ [o])) : callH P h (.clo k [] []) args K := by
  subst hp
  refine .inr (.inr (.inr ⟨fun o' => o' = o, ⟨hf.1, fun mA w r0 vs h1 h2 h3 h4 h5 h6 h7 => (hf.2 mA w r0 vs h1 h2 h3 h4 h5 h6 ?_).mono ?_⟩, ?_⟩))
  . have : r0 = [] := List.eq_nil_of_length_eq_zero h3
    subst this
    exact hw _ _ _ (Low.nest mA) h7
  . rintro e w' ⟨v, x, r', m', H', a', h8, ⟨l, h9, h10⟩, h11⟩
    exact ⟨v, x, r', m', H', a', h8, ⟨o, l, h9, h10, hfl, rfl⟩, h11⟩
  . rintro _ rfl; exact hk
end
theorem FnH.mono {P : Program} {f : FuncId} {H : List AObj} {args : List AV} {A B : AV -> List AObj -> Prop} (h : FnH P f H args A) (hab : ∀ x l, A x l -> B x l) : FnH P f H args B :=
  ⟨h.1, fun mA w r0 vs h1 h2 h3 h4 h5 h6 h7 => (h.2 mA w r0 vs h1 h2 h3 h4 h5 h6 h7).mono fun _ _ ⟨v, x, r', m', H', a', e1, e2, e3⟩ => ⟨v, x, r', m', H', a', e1, hab _ _ e2, e3⟩⟩
def pickL (ol : List Oper) : List Nat -> List Oper
  | [] => []
  | i :: l => match ol[i]? with
    | some o => o :: pickL ol l
    | none => pickL ol l
def allIn (ol : List Oper) (ord : List Nat) : Bool := ord.all fun i => Nat.blt i ol.length
theorem pickL_spec {ol : List Oper} : ∀ {ord : List Nat}, allIn ol ord = true -> (ord.map fun i => ol[i]?) = (pickL ol ord).map some
  | [], _ => rfl
  | i :: l, h => by
    simp only [allIn, List.all_cons, Bool.and_eq_true] at h
    have hi : i < ol.length := Nat.le_of_ble_eq_true h.1
    simp only [List.map_cons, pickL, List.getElem?_eq_getElem hi]
    rw [pickL_spec (ord := l) h.2]
theorem W.rP {P : Program} {T : TT} {st : St} {Q : Ex -> St -> Prop} {c : Code} {id : Nat} {ol : List Oper} (ord : List Nat) (hc : chk ol.toArray ord = true) (hl : allIn ol ord = true) (h1 : seqL P T ol [] 0 (pickL ol ord) st fun s => W P T c s Q) : W P T (.seq (.region id ol.toArray true) c) st Q :=
  W.rO ord _ hc (pickL_spec hl) h1
theorem W.rP1 {P : Program} {T : TT} {st : St} {Q : Ex -> St -> Prop} {id : Nat} {ol : List Oper} (ord : List Nat) (hc : chk ol.toArray ord = true) (hl : allIn ol ord = true) (h1 : seqL P T ol [] 0 (pickL ol ord) st (Q .nrm)) : W P T (.region id ol.toArray true) st Q :=
  W.rO1 ord _ hc (pickL_spec hl) h1
theorem W.rPm {P : Program} {T : TT} {st : St} {Q : Ex -> St -> Prop} {c : Code} {id : Nat} {ol : List Oper} (st' : St) (ord : List Nat) (hc : chk ol.toArray ord = true) (hl : allIn ol ord = true) (h1 : seqL P T ol [] 0 (pickL ol ord) st fun s => s.le st') (h2 : W P T c st' Q) : W P T (.seq (.region id ol.toArray true) c) st Q :=
  W.seq (fun s => s.le st') (W.rP1 ord hc hl h1) fun _ h => W.le h h2
theorem Ren.refL {φ : List (Option Nat)} {nb nb' : Bool} {id j n n' : Nat} (hφ : φ[j]? = some (some id)) (hb : nb' = true -> nb = true) (hn : n = n') : Ren φ (.ref nb id n) (.ref nb' j n') := by
  subst hn; exact Ren.ref hφ hb
theorem Ren.boolE {φ : List (Option Nat)} {a b : Bool} (h : b = a) : Ren φ (.bool a) (.bool b) := by subst h; exact Ren.bool _
theorem W.rLmT {P : Program} {T : TT} {st : St} {Q : Ex -> St -> Prop} {c : Code} {id : Nat} {ol : List Oper} (st' : St) (h1 : seqL P T ol [] 0 ol st fun s => s.to st') (h2 : W P T c st' Q) : W P T (.seq (.region id ol.toArray false) c) st Q := W.seq _ (W.region [] h1) fun _ h => W.to h h2
theorem W.rPmT {P : Program} {T : TT} {st : St} {Q : Ex -> St -> Prop} {c : Code} {id : Nat} {ol : List Oper} (st' : St) (ord : List Nat) (hc : chk ol.toArray ord = true) (hl : allIn ol ord = true) (h1 : seqL P T ol [] 0 (pickL ol ord) st fun s => s.to st') (h2 : W P T c st' Q) : W P T (.seq (.region id ol.toArray true) c) st Q :=
  W.seq (fun s => s.to st') (W.rP1 ord hc hl h1) fun _ h => W.to h h2
theorem St.le_to {s s' s'' : St} (hl : s.le s') (h : s'.to s'') : s.to s'' := by
  obtain ⟨φ, l, h1, h2, h3, h4, h5, h6, h7⟩ := h
  obtain ⟨e1, e2, e3, e4⟩ := hl
  refine ⟨φ, l, h1.trans e1, h2.trans e3, h3, h4, by rw [<- e2, <- e3]; exact h5, ?_, by rw [<- e2]; exact h7⟩
  clear h3
  induction l with
  | nil => trivial
  | cons p l ih =>
    obtain ⟨t, v⟩ := p
    refine ⟨?_, ih h6.2⟩
    rcases e4 t with e | e
    . have h8 := h6.1
      rw [e] at h8
      exact fun r m u hm _ => h8 r m u hm (by simp only [VR])
    . rw [<- e]; exact h6.1
theorem W.rLm1 {P : Program} {T : TT} {st : St} {Q : Ex -> St -> Prop} {id : Nat} {ol : List Oper} (st' : St) (hd : ∀ s, s.le st' -> Q .nrm st' -> Q .nrm s) (h1 : seqL P T ol [] 0 ol st fun s => s.le st') (h2 : Q .nrm st') : W P T (.region id ol.toArray false) st Q :=
  (W.region (Q := thenA (fun s => s.le st') Q) [] h1).mono fun e s hs => by
    cases e <;> first | exact hd s hs h2 | exact hs
theorem encL_co {α : Type} {ef : Bool -> α -> List AV} {sz : Nat} (he : Enc ef sz) (k : Nat) (h : List AObj) : ∀ xs, Wks ((zYy (ef false) xs).map (cvO (k + 1) h)) (zYy (ef false) xs)
  | [] => Wks.refl _
  | x :: xs => by
    rw [encL_cons, List.map_append]
    exact Wks.app (he.co k h x) (encL_co he k h xs) (by rw [List.length_map])
theorem agI_int (k : Nat) (h : List AObj) (q : IntKind) (x : Int) : Wk (cvI k h (.int q x)) (.int q x) := by rw [cvI_int]; exact Wk.refl _
theorem agI_lst (k : Nat) (h : List AObj) (m : Nat) (cs : List AV) : Wk (cvI k h (.lst false m cs)) (.lst true m cs) := by rw [cvI_lst]; exact Wk.refl _
end Go.Lat
namespace Go.Lat
open Go.RowKit Go.Proofs
set_option maxRecDepth 100000
def tt : TT := fun t =>
  if t = 121 then some ⟨.int .u64, 1, 8, [.int .u64 0]⟩ else
  if t = 3 then some ⟨.int .i64, 1, 8, [.int .i64 0]⟩ else
  if t = 39 then some ⟨.int .i64, 1, 8, [.int .i64 0]⟩ else
  if t = 4 then some ⟨.bool, 1, 1, [.bool false]⟩ else
  if t = 22 then some ⟨.sl 3, 1, 24, [.nilS]⟩ else
  if t = 23 then some ⟨.sl 53, 1, 24, [.nilS]⟩ else
  if t = 24 then some ⟨.sl 58, 1, 24, [.nilS]⟩ else
  if t = 32 then some ⟨.sl 73, 1, 24, [.nilS]⟩ else
  if t = 36 then some ⟨.sl 26, 1, 24, [.nilS]⟩ else
  if t = 28 then some ⟨.sl 93, 1, 24, [.nilS]⟩ else
  if t = 29 then some ⟨.sl 27, 1, 24, [.nilS]⟩ else
  if t = 51 then some ⟨.sl 60, 1, 24, [.nilS]⟩ else
  if t = 55 then some ⟨.sl 4, 1, 24, [.nilS]⟩ else
  if t = 63 then some ⟨.sl 90, 1, 24, [.nilS]⟩ else
  if t = 64 then some ⟨.sl 69, 1, 24, [.nilS]⟩ else
  if t = 110 then some ⟨.sl 118, 1, 24, [.nilS]⟩ else
  if t = 111 then some ⟨.sl 113, 1, 24, [.nilS]⟩ else
  if t = 99 then some ⟨.sl 102, 1, 24, [.nilS]⟩ else
  if t = 102 then some ⟨.sl 87, 1, 24, [.nilS]⟩ else
  if t = 26 then some ⟨.st [(0, 22), (1, 23), (2, 3), (3, 3), (4, 3), (5, 24)], 6, 96, [.nilS, .nilS, .int .i64 0, .int .i64 0, .int .i64 0, .nilS]⟩ else
  if t = 27 then some ⟨.ar 3 3, 3, 24, [.int .i64 0, .int .i64 0, .int .i64 0]⟩ else
  if t = 93 then some ⟨.ar 6 3, 6, 48, [.int .i64 0, .int .i64 0, .int .i64 0, .int .i64 0, .int .i64 0, .int .i64 0]⟩ else
  if t = 90 then some ⟨.ar 4 3, 4, 32, [.int .i64 0, .int .i64 0, .int .i64 0, .int .i64 0]⟩ else
  if t = 118 then some ⟨.ar 4 3, 4, 32, [.int .i64 0, .int .i64 0, .int .i64 0, .int .i64 0]⟩ else
  if t = 31 then some ⟨.st [(0, 27), (3, 28), (4, 29), (5, 3), (6, 3)], 7, 88, [.int .i64 0, .int .i64 0, .int .i64 0, .nilS, .nilS, .int .i64 0, .int .i64 0]⟩ else
  if t = 53 then some ⟨.st [(0, 3), (1, 51)], 2, 32, [.int .i64 0, .nilS]⟩ else
  if t = 58 then some ⟨.st [(0, 3), (1, 3), (2, 3), (3, 3), (4, 3), (5, 3)], 6, 48, [.int .i64 0, .int .i64 0, .int .i64 0, .int .i64 0, .int .i64 0, .int .i64 0]⟩ else
  if t = 60 then some ⟨.st [(0, 3), (1, 3)], 2, 16, [.int .i64 0, .int .i64 0]⟩ else
  if t = 69 then some ⟨.st [(0, 3), (1, 3), (2, 3), (3, 3), (4, 3), (5, 3), (6, 3), (7, 3), (8, 3), (9, 3)], 10, 80, [.int .i64 0, .int .i64 0, .int .i64 0, .int .i64 0, .int .i64 0, .int .i64 0, .int .i64 0, .int .i64 0, .int .i64 0, .int .i64 0]⟩ else
  if t = 73 then some ⟨.st [(0, 3), (1, 3), (2, 3), (3, 3), (4, 3)], 5, 40, [.int .i64 0, .int .i64 0, .int .i64 0, .int .i64 0, .int .i64 0]⟩ else
  if t = 87 then some ⟨.st [(0, 3), (1, 3), (2, 3)], 3, 24, [.int .i64 0, .int .i64 0, .int .i64 0]⟩ else
  if t = 89 then some ⟨.st [(0, 3), (1, 87)], 4, 32, [.int .i64 0, .int .i64 0, .int .i64 0, .int .i64 0]⟩ else
  if t = 113 then some ⟨.st [(0, 3), (1, 3), (2, 3)], 3, 24, [.int .i64 0, .int .i64 0, .int .i64 0]⟩ else
  if t = 84 then some ⟨.ch 89, 1, 8, [.any]⟩ else
  if t = 109 then some ⟨.ch 89, 1, 8, [.any]⟩ else
  if t = 105 then some ⟨.one, 1, 8, [.nilF]⟩ else
  if t = 107 then some ⟨.st [(0, 3), (1, 105)], 2, 16, [.int .i64 0, .nilF]⟩ else
  if t = 103 then some ⟨.sl 107, 1, 24, [.nilS]⟩ else
  if t = 108 then some ⟨.one, 1, 8, [.nilP]⟩ else
  none
theorem tt121 : tt 121 = some ⟨.int .u64, 1, 8, [.int .u64 0]⟩ := by rfl
theorem tt3 : tt 3 = some ⟨.int .i64, 1, 8, [.int .i64 0]⟩ := by rfl
theorem tt39 : tt 39 = some ⟨.int .i64, 1, 8, [.int .i64 0]⟩ := by rfl
theorem tt4 : tt 4 = some ⟨.bool, 1, 1, [.bool false]⟩ := by rfl
theorem tt22 : tt 22 = some ⟨.sl 3, 1, 24, [.nilS]⟩ := by rfl
theorem tt23 : tt 23 = some ⟨.sl 53, 1, 24, [.nilS]⟩ := by rfl
theorem tt24 : tt 24 = some ⟨.sl 58, 1, 24, [.nilS]⟩ := by rfl
theorem tt32 : tt 32 = some ⟨.sl 73, 1, 24, [.nilS]⟩ := by rfl
theorem tt36 : tt 36 = some ⟨.sl 26, 1, 24, [.nilS]⟩ := by rfl
theorem tt28 : tt 28 = some ⟨.sl 93, 1, 24, [.nilS]⟩ := by rfl
theorem tt29 : tt 29 = some ⟨.sl 27, 1, 24, [.nilS]⟩ := by rfl
theorem tt51 : tt 51 = some ⟨.sl 60, 1, 24, [.nilS]⟩ := by rfl
theorem tt55 : tt 55 = some ⟨.sl 4, 1, 24, [.nilS]⟩ := by rfl
theorem tt63 : tt 63 = some ⟨.sl 90, 1, 24, [.nilS]⟩ := by rfl
theorem tt64 : tt 64 = some ⟨.sl 69, 1, 24, [.nilS]⟩ := by rfl
theorem tt110 : tt 110 = some ⟨.sl 118, 1, 24, [.nilS]⟩ := by rfl
theorem tt111 : tt 111 = some ⟨.sl 113, 1, 24, [.nilS]⟩ := by rfl
theorem tt99 : tt 99 = some ⟨.sl 102, 1, 24, [.nilS]⟩ := by rfl
theorem tt102 : tt 102 = some ⟨.sl 87, 1, 24, [.nilS]⟩ := by rfl
theorem tt26 : tt 26 = some ⟨.st [(0, 22), (1, 23), (2, 3), (3, 3), (4, 3), (5, 24)], 6, 96, [.nilS, .nilS, .int .i64 0, .int .i64 0, .int .i64 0, .nilS]⟩ := by rfl
theorem tt27 : tt 27 = some ⟨.ar 3 3, 3, 24, [.int .i64 0, .int .i64 0, .int .i64 0]⟩ := by rfl
theorem tt93 : tt 93 = some ⟨.ar 6 3, 6, 48, [.int .i64 0, .int .i64 0, .int .i64 0, .int .i64 0, .int .i64 0, .int .i64 0]⟩ := by rfl
theorem tt90 : tt 90 = some ⟨.ar 4 3, 4, 32, [.int .i64 0, .int .i64 0, .int .i64 0, .int .i64 0]⟩ := by rfl
theorem tt118 : tt 118 = some ⟨.ar 4 3, 4, 32, [.int .i64 0, .int .i64 0, .int .i64 0, .int .i64 0]⟩ := by rfl
theorem tt31 : tt 31 = some ⟨.st [(0, 27), (3, 28), (4, 29), (5, 3), (6, 3)], 7, 88, [.int .i64 0, .int .i64 0, .int .i64 0, .nilS, .nilS, .int .i64 0, .int .i64 0]⟩ := by rfl
theorem tt53 : tt 53 = some ⟨.st [(0, 3), (1, 51)], 2, 32, [.int .i64 0, .nilS]⟩ := by rfl
theorem tt58 : tt 58 = some ⟨.st [(0, 3), (1, 3), (2, 3), (3, 3), (4, 3), (5, 3)], 6, 48, [.int .i64 0, .int .i64 0, .int .i64 0, .int .i64 0, .int .i64 0, .int .i64 0]⟩ := by rfl
theorem tt60 : tt 60 = some ⟨.st [(0, 3), (1, 3)], 2, 16, [.int .i64 0, .int .i64 0]⟩ := by rfl
theorem tt69 : tt 69 = some ⟨.st [(0, 3), (1, 3), (2, 3), (3, 3), (4, 3), (5, 3), (6, 3), (7, 3), (8, 3), (9, 3)], 10, 80, [.int .i64 0, .int .i64 0, .int .i64 0, .int .i64 0, .int .i64 0, .int .i64 0, .int .i64 0, .int .i64 0, .int .i64 0, .int .i64 0]⟩ := by rfl
theorem tt73 : tt 73 = some ⟨.st [(0, 3), (1, 3), (2, 3), (3, 3), (4, 3)], 5, 40, [.int .i64 0, .int .i64 0, .int .i64 0, .int .i64 0, .int .i64 0]⟩ := by rfl
theorem tt87 : tt 87 = some ⟨.st [(0, 3), (1, 3), (2, 3)], 3, 24, [.int .i64 0, .int .i64 0, .int .i64 0]⟩ := by rfl
theorem tt89 : tt 89 = some ⟨.st [(0, 3), (1, 87)], 4, 32, [.int .i64 0, .int .i64 0, .int .i64 0, .int .i64 0]⟩ := by rfl
theorem tt113 : tt 113 = some ⟨.st [(0, 3), (1, 3), (2, 3)], 3, 24, [.int .i64 0, .int .i64 0, .int .i64 0]⟩ := by rfl
theorem tt84 : tt 84 = some ⟨.ch 89, 1, 8, [.any]⟩ := by rfl
theorem tt109 : tt 109 = some ⟨.ch 89, 1, 8, [.any]⟩ := by rfl
theorem tt105 : tt 105 = some ⟨.one, 1, 8, [.nilF]⟩ := by rfl
theorem tt107 : tt 107 = some ⟨.st [(0, 3), (1, 105)], 2, 16, [.int .i64 0, .nilF]⟩ := by rfl
theorem tt103 : tt 103 = some ⟨.sl 107, 1, 24, [.nilS]⟩ := by rfl
theorem tt108 : tt 108 = some ⟨.one, 1, 8, [.nilP]⟩ := by rfl
theorem tok121 : TOk Try.prog 121 ⟨.int .u64, 1, 8, [.int .u64 0]⟩ where
  info := ⟨Try.t121, _, Try.type121, rfl, rfl, rfl, by simp [Value.cells, VRs, VR], by simp [Value.cells, Value.oneCell'], rfl⟩
  kind := Try.underlying121
  eqs := trivial
theorem tok3 : TOk Try.prog 3 ⟨.int .i64, 1, 8, [.int .i64 0]⟩ where
  info := ⟨Try.t3, _, Try.type3, rfl, rfl, rfl, by simp [Value.cells, VRs, VR], by simp [Value.cells, Value.oneCell'], rfl⟩
  kind := Try.underlying3
  eqs := trivial
theorem tok39 : TOk Try.prog 39 ⟨.int .i64, 1, 8, [.int .i64 0]⟩ where
  info := ⟨Try.t39, _, Try.type39, rfl, rfl, rfl, by simp [Value.cells, VRs, VR], by simp [Value.cells, Value.oneCell'], rfl⟩
  kind := Try.underlying39
  eqs := trivial
theorem tok4 : TOk Try.prog 4 ⟨.bool, 1, 1, [.bool false]⟩ where
  info := ⟨Try.t4, _, Try.type4, rfl, rfl, rfl, by simp [Value.cells, VRs, VR], by simp [Value.cells, Value.oneCell'], rfl⟩
  kind := Try.underlying4
  eqs := trivial
theorem tok22 : TOk Try.prog 22 ⟨.sl 3, 1, 24, [.nilS]⟩ where
  info := ⟨Try.t22, _, Try.type22, rfl, rfl, rfl, by simp [Value.cells, VRs, VR], by simp [Value.cells, Value.oneCell'], rfl⟩
  kind := Try.underlying22
  eqs := trivial
theorem tok23 : TOk Try.prog 23 ⟨.sl 53, 1, 24, [.nilS]⟩ where
  info := ⟨Try.t23, _, Try.type23, rfl, rfl, rfl, by simp [Value.cells, VRs, VR], by simp [Value.cells, Value.oneCell'], rfl⟩
  kind := Try.underlying23
  eqs := trivial
theorem tok24 : TOk Try.prog 24 ⟨.sl 58, 1, 24, [.nilS]⟩ where
  info := ⟨Try.t24, _, Try.type24, rfl, rfl, rfl, by simp [Value.cells, VRs, VR], by simp [Value.cells, Value.oneCell'], rfl⟩
  kind := Try.underlying24
  eqs := trivial
theorem tok32 : TOk Try.prog 32 ⟨.sl 73, 1, 24, [.nilS]⟩ where
  info := ⟨Try.t32, _, Try.type32, rfl, rfl, rfl, by simp [Value.cells, VRs, VR], by simp [Value.cells, Value.oneCell'], rfl⟩
  kind := Try.underlying32
  eqs := trivial
theorem tok36 : TOk Try.prog 36 ⟨.sl 26, 1, 24, [.nilS]⟩ where
  info := ⟨Try.t36, _, Try.type36, rfl, rfl, rfl, by simp [Value.cells, VRs, VR], by simp [Value.cells, Value.oneCell'], rfl⟩
  kind := Try.underlying36
  eqs := trivial
theorem tok28 : TOk Try.prog 28 ⟨.sl 93, 1, 24, [.nilS]⟩ where
  info := ⟨Try.t28, _, Try.type28, rfl, rfl, rfl, by simp [Value.cells, VRs, VR], by simp [Value.cells, Value.oneCell'], rfl⟩
  kind := Try.underlying28
  eqs := trivial
theorem tok29 : TOk Try.prog 29 ⟨.sl 27, 1, 24, [.nilS]⟩ where
  info := ⟨Try.t29, _, Try.type29, rfl, rfl, rfl, by simp [Value.cells, VRs, VR], by simp [Value.cells, Value.oneCell'], rfl⟩
  kind := Try.underlying29
  eqs := trivial
theorem tok51 : TOk Try.prog 51 ⟨.sl 60, 1, 24, [.nilS]⟩ where
  info := ⟨Try.t51, _, Try.type51, rfl, rfl, rfl, by simp [Value.cells, VRs, VR], by simp [Value.cells, Value.oneCell'], rfl⟩
  kind := Try.underlying51
  eqs := trivial
theorem tok55 : TOk Try.prog 55 ⟨.sl 4, 1, 24, [.nilS]⟩ where
  info := ⟨Try.t55, _, Try.type55, rfl, rfl, rfl, by simp [Value.cells, VRs, VR], by simp [Value.cells, Value.oneCell'], rfl⟩
  kind := Try.underlying55
  eqs := trivial
theorem tok63 : TOk Try.prog 63 ⟨.sl 90, 1, 24, [.nilS]⟩ where
  info := ⟨Try.t63, _, Try.type63, rfl, rfl, rfl, by simp [Value.cells, VRs, VR], by simp [Value.cells, Value.oneCell'], rfl⟩
  kind := Try.underlying63
  eqs := trivial
theorem tok64 : TOk Try.prog 64 ⟨.sl 69, 1, 24, [.nilS]⟩ where
  info := ⟨Try.t64, _, Try.type64, rfl, rfl, rfl, by simp [Value.cells, VRs, VR], by simp [Value.cells, Value.oneCell'], rfl⟩
  kind := Try.underlying64
  eqs := trivial
theorem tok110 : TOk Try.prog 110 ⟨.sl 118, 1, 24, [.nilS]⟩ where
  info := ⟨Try.t110, _, Try.type110, rfl, rfl, rfl, by simp [Value.cells, VRs, VR], by simp [Value.cells, Value.oneCell'], rfl⟩
  kind := Try.underlying110
  eqs := trivial
theorem tok111 : TOk Try.prog 111 ⟨.sl 113, 1, 24, [.nilS]⟩ where
  info := ⟨Try.t111, _, Try.type111, rfl, rfl, rfl, by simp [Value.cells, VRs, VR], by simp [Value.cells, Value.oneCell'], rfl⟩
  kind := Try.underlying111
  eqs := trivial
theorem tok99 : TOk Try.prog 99 ⟨.sl 102, 1, 24, [.nilS]⟩ where
  info := ⟨Try.t99, _, Try.type99, rfl, rfl, rfl, by simp [Value.cells, VRs, VR], by simp [Value.cells, Value.oneCell'], rfl⟩
  kind := Try.underlying99
  eqs := trivial
theorem tok102 : TOk Try.prog 102 ⟨.sl 87, 1, 24, [.nilS]⟩ where
  info := ⟨Try.t102, _, Try.type102, rfl, rfl, rfl, by simp [Value.cells, VRs, VR], by simp [Value.cells, Value.oneCell'], rfl⟩
  kind := Try.underlying102
  eqs := trivial
theorem tok26 : TOk Try.prog 26 ⟨.st [(0, 22), (1, 23), (2, 3), (3, 3), (4, 3), (5, 24)], 6, 96, [.nilS, .nilS, .int .i64 0, .int .i64 0, .int .i64 0, .nilS]⟩ where
  info := ⟨Try.t26, _, Try.type26, rfl, rfl, rfl, by simp [Value.cells, VRs, VR], by simp [Value.cells, Value.oneCell'], rfl⟩
  kind := ⟨_, Try.underlying26, rfl, by
    intro f hf
    simp only [List.mem_cons, List.not_mem_nil, or_false] at hf
    rcases hf with rfl | rfl | rfl | rfl | rfl | rfl
    . exact ⟨_, Try.type22⟩
    . exact ⟨_, Try.type23⟩
    . exact ⟨_, Try.type3⟩
    . exact ⟨_, Try.type3⟩
    . exact ⟨_, Try.type3⟩
    . exact ⟨_, Try.type24⟩⟩
  eqs := ⟨by kernel_rfl, by kernel_rfl, by intro F hF; rw [Try.underlying26] at hF; cases hF; simp⟩
theorem tok27 : TOk Try.prog 27 ⟨.ar 3 3, 3, 24, [.int .i64 0, .int .i64 0, .int .i64 0]⟩ where
  info := ⟨Try.t27, _, Try.type27, rfl, rfl, rfl, by simp [Value.cells, VRs, VR], by simp [Value.cells, Value.oneCell'], rfl⟩
  kind := Try.underlying27
  eqs := trivial
theorem tok93 : TOk Try.prog 93 ⟨.ar 6 3, 6, 48, [.int .i64 0, .int .i64 0, .int .i64 0, .int .i64 0, .int .i64 0, .int .i64 0]⟩ where
  info := ⟨Try.t93, _, Try.type93, rfl, rfl, rfl, by simp [Value.cells, VRs, VR], by simp [Value.cells, Value.oneCell'], rfl⟩
  kind := Try.underlying93
  eqs := trivial
theorem tok90 : TOk Try.prog 90 ⟨.ar 4 3, 4, 32, [.int .i64 0, .int .i64 0, .int .i64 0, .int .i64 0]⟩ where
  info := ⟨Try.t90, _, Try.type90, rfl, rfl, rfl, by simp [Value.cells, VRs, VR], by simp [Value.cells, Value.oneCell'], rfl⟩
  kind := Try.underlying90
  eqs := trivial
theorem tok118 : TOk Try.prog 118 ⟨.ar 4 3, 4, 32, [.int .i64 0, .int .i64 0, .int .i64 0, .int .i64 0]⟩ where
  info := ⟨Try.t118, _, Try.type118, rfl, rfl, rfl, by simp [Value.cells, VRs, VR], by simp [Value.cells, Value.oneCell'], rfl⟩
  kind := Try.underlying118
  eqs := trivial
theorem tok31 : TOk Try.prog 31 ⟨.st [(0, 27), (3, 28), (4, 29), (5, 3), (6, 3)], 7, 88, [.int .i64 0, .int .i64 0, .int .i64 0, .nilS, .nilS, .int .i64 0, .int .i64 0]⟩ where
  info := ⟨Try.t31, _, Try.type31, rfl, rfl, rfl, by simp [Value.cells, VRs, VR], by simp [Value.cells, Value.oneCell'], rfl⟩
  kind := ⟨_, Try.underlying31, rfl, by
    intro f hf
    simp only [List.mem_cons, List.not_mem_nil, or_false] at hf
    rcases hf with rfl | rfl | rfl | rfl | rfl
    . exact ⟨_, Try.type27⟩
    . exact ⟨_, Try.type28⟩
    . exact ⟨_, Try.type29⟩
    . exact ⟨_, Try.type3⟩
    . exact ⟨_, Try.type3⟩⟩
  eqs := ⟨by kernel_rfl, by kernel_rfl, by intro F hF; rw [Try.underlying31] at hF; cases hF; simp⟩
theorem tok53 : TOk Try.prog 53 ⟨.st [(0, 3), (1, 51)], 2, 32, [.int .i64 0, .nilS]⟩ where
  info := ⟨Try.t53, _, Try.type53, rfl, rfl, rfl, by simp [Value.cells, VRs, VR], by simp [Value.cells, Value.oneCell'], rfl⟩
  kind := ⟨_, Try.underlying53, rfl, by
    intro f hf
    simp only [List.mem_cons, List.not_mem_nil, or_false] at hf
    rcases hf with rfl | rfl
    . exact ⟨_, Try.type3⟩
    . exact ⟨_, Try.type51⟩⟩
  eqs := ⟨by kernel_rfl, by kernel_rfl, by intro F hF; rw [Try.underlying53] at hF; cases hF; simp⟩
theorem tok58 : TOk Try.prog 58 ⟨.st [(0, 3), (1, 3), (2, 3), (3, 3), (4, 3), (5, 3)], 6, 48, [.int .i64 0, .int .i64 0, .int .i64 0, .int .i64 0, .int .i64 0, .int .i64 0]⟩ where
  info := ⟨Try.t58, _, Try.type58, rfl, rfl, rfl, by simp [Value.cells, VRs, VR], by simp [Value.cells, Value.oneCell'], rfl⟩
  kind := ⟨_, Try.underlying58, rfl, by
    intro f hf
    simp only [List.mem_cons, List.not_mem_nil, or_false] at hf
    rcases hf with rfl | rfl | rfl | rfl | rfl | rfl
    . exact ⟨_, Try.type3⟩
    . exact ⟨_, Try.type3⟩
    . exact ⟨_, Try.type3⟩
    . exact ⟨_, Try.type3⟩
    . exact ⟨_, Try.type3⟩
    . exact ⟨_, Try.type3⟩⟩
  eqs := ⟨by kernel_rfl, by kernel_rfl, by intro F hF; rw [Try.underlying58] at hF; cases hF; simp⟩
theorem tok60 : TOk Try.prog 60 ⟨.st [(0, 3), (1, 3)], 2, 16, [.int .i64 0, .int .i64 0]⟩ where
  info := ⟨Try.t60, _, Try.type60, rfl, rfl, rfl, by simp [Value.cells, VRs, VR], by simp [Value.cells, Value.oneCell'], rfl⟩
  kind := ⟨_, Try.underlying60, rfl, by
    intro f hf
    simp only [List.mem_cons, List.not_mem_nil, or_false] at hf
    rcases hf with rfl | rfl
    . exact ⟨_, Try.type3⟩
    . exact ⟨_, Try.type3⟩⟩
  eqs := ⟨by kernel_rfl, by kernel_rfl, by intro F hF; rw [Try.underlying60] at hF; cases hF; simp⟩
theorem tok69 : TOk Try.prog 69 ⟨.st [(0, 3), (1, 3), (2, 3), (3, 3), (4, 3), (5, 3), (6, 3), (7, 3), (8, 3), (9, 3)], 10, 80, [.int .i64 0, .int .i64 0, .int .i64 0, .int .i64 0, .int .i64 0, .int .i64 0, .int .i64 0, .int .i64 0, .int .i64 0, .int .i64 0]⟩ where
  info := ⟨Try.t69, _, Try.type69, rfl, rfl, rfl, by simp [Value.cells, VRs, VR], by simp [Value.cells, Value.oneCell'], rfl⟩
  kind := ⟨_, Try.underlying69, rfl, by
    intro f hf
    simp only [List.mem_cons, List.not_mem_nil, or_false] at hf
    rcases hf with rfl | rfl | rfl | rfl | rfl | rfl | rfl | rfl | rfl | rfl
    . exact ⟨_, Try.type3⟩
    . exact ⟨_, Try.type3⟩
    . exact ⟨_, Try.type3⟩
    . exact ⟨_, Try.type3⟩
    . exact ⟨_, Try.type3⟩
    . exact ⟨_, Try.type3⟩
    . exact ⟨_, Try.type3⟩
    . exact ⟨_, Try.type3⟩
    . exact ⟨_, Try.type3⟩
    . exact ⟨_, Try.type3⟩⟩
  eqs := ⟨by kernel_rfl, by kernel_rfl, by intro F hF; rw [Try.underlying69] at hF; cases hF; simp⟩
theorem tok73 : TOk Try.prog 73 ⟨.st [(0, 3), (1, 3), (2, 3), (3, 3), (4, 3)], 5, 40, [.int .i64 0, .int .i64 0, .int .i64 0, .int .i64 0, .int .i64 0]⟩ where
  info := ⟨Try.t73, _, Try.type73, rfl, rfl, rfl, by simp [Value.cells, VRs, VR], by simp [Value.cells, Value.oneCell'], rfl⟩
  kind := ⟨_, Try.underlying73, rfl, by
    intro f hf
    simp only [List.mem_cons, List.not_mem_nil, or_false] at hf
    rcases hf with rfl | rfl | rfl | rfl | rfl
    . exact ⟨_, Try.type3⟩
    . exact ⟨_, Try.type3⟩
    . exact ⟨_, Try.type3⟩
    . exact ⟨_, Try.type3⟩
    . exact ⟨_, Try.type3⟩⟩
  eqs := ⟨by kernel_rfl, by kernel_rfl, by intro F hF; rw [Try.underlying73] at hF; cases hF; simp⟩
theorem tok87 : TOk Try.prog 87 ⟨.st [(0, 3), (1, 3), (2, 3)], 3, 24, [.int .i64 0, .int .i64 0, .int .i64 0]⟩ where
  info := ⟨Try.t87, _, Try.type87, rfl, rfl, rfl, by simp [Value.cells, VRs, VR], by simp [Value.cells, Value.oneCell'], rfl⟩
  kind := ⟨_, Try.underlying87, rfl, by
    intro f hf
    simp only [List.mem_cons, List.not_mem_nil, or_false] at hf
    rcases hf with rfl | rfl | rfl
    . exact ⟨_, Try.type3⟩
    . exact ⟨_, Try.type3⟩
    . exact ⟨_, Try.type3⟩⟩
  eqs := ⟨by kernel_rfl, by kernel_rfl, by intro F hF; rw [Try.underlying87] at hF; cases hF; simp⟩
theorem tok89 : TOk Try.prog 89 ⟨.st [(0, 3), (1, 87)], 4, 32, [.int .i64 0, .int .i64 0, .int .i64 0, .int .i64 0]⟩ where
  info := ⟨Try.t89, _, Try.type89, rfl, rfl, rfl, by simp [Value.cells, VRs, VR], by simp [Value.cells, Value.oneCell'], rfl⟩
  kind := ⟨_, Try.underlying89, rfl, by
    intro f hf
    simp only [List.mem_cons, List.not_mem_nil, or_false] at hf
    rcases hf with rfl | rfl
    . exact ⟨_, Try.type3⟩
    . exact ⟨_, Try.type87⟩⟩
  eqs := ⟨by kernel_rfl, by kernel_rfl, by intro F hF; rw [Try.underlying89] at hF; cases hF; simp⟩
theorem tok113 : TOk Try.prog 113 ⟨.st [(0, 3), (1, 3), (2, 3)], 3, 24, [.int .i64 0, .int .i64 0, .int .i64 0]⟩ where
  info := ⟨Try.t113, _, Try.type113, rfl, rfl, rfl, by simp [Value.cells, VRs, VR], by simp [Value.cells, Value.oneCell'], rfl⟩
  kind := ⟨_, Try.underlying113, rfl, by
    intro f hf
    simp only [List.mem_cons, List.not_mem_nil, or_false] at hf
    rcases hf with rfl | rfl | rfl
    . exact ⟨_, Try.type3⟩
    . exact ⟨_, Try.type3⟩
    . exact ⟨_, Try.type3⟩⟩
  eqs := ⟨by kernel_rfl, by kernel_rfl, by intro F hF; rw [Try.underlying113] at hF; cases hF; simp⟩
theorem tok84 : TOk Try.prog 84 ⟨.ch 89, 1, 8, [.any]⟩ where
  info := ⟨Try.t84, _, Try.type84, rfl, rfl, rfl, by simp [Value.cells, VRs, VR], by simp [Value.cells, Value.oneCell'], rfl⟩
  kind := ⟨_, Try.underlying84⟩
  eqs := trivial
theorem tok109 : TOk Try.prog 109 ⟨.ch 89, 1, 8, [.any]⟩ where
  info := ⟨Try.t109, _, Try.type109, rfl, rfl, rfl, by simp [Value.cells, VRs, VR], by simp [Value.cells, Value.oneCell'], rfl⟩
  kind := ⟨_, Try.underlying109⟩
  eqs := trivial
theorem tok105 : TOk Try.prog 105 ⟨.one, 1, 8, [.nilF]⟩ where
  info := ⟨Try.t105, _, Try.type105, rfl, rfl, rfl, by simp [Value.cells, VRs, VR], by simp [Value.cells, Value.oneCell'], rfl⟩
  kind := ⟨_, Try.underlying105, by simp, by simp⟩
  eqs := trivial
theorem tok107 : TOk Try.prog 107 ⟨.st [(0, 3), (1, 105)], 2, 16, [.int .i64 0, .nilF]⟩ where
  info := ⟨Try.t107, _, Try.type107, rfl, rfl, rfl, by simp [Value.cells, VRs, VR], by simp [Value.cells, Value.oneCell'], rfl⟩
  kind := ⟨_, Try.underlying107, rfl, by
    intro f hf
    simp only [List.mem_cons, List.not_mem_nil, or_false] at hf
    rcases hf with rfl | rfl
    . exact ⟨_, Try.type3⟩
    . exact ⟨_, Try.type105⟩⟩
  eqs := ⟨by kernel_rfl, by kernel_rfl, by intro F hF; rw [Try.underlying107] at hF; cases hF; simp⟩
theorem tok103 : TOk Try.prog 103 ⟨.sl 107, 1, 24, [.nilS]⟩ where
  info := ⟨Try.t103, _, Try.type103, rfl, rfl, rfl, by simp [Value.cells, VRs, VR], by simp [Value.cells, Value.oneCell'], rfl⟩
  kind := Try.underlying103
  eqs := trivial
theorem tok108 : TOk Try.prog 108 ⟨.one, 1, 8, [.nilP]⟩ where
  info := ⟨Try.t108, _, Try.type108, rfl, rfl, rfl, by simp [Value.cells, VRs, VR], by simp [Value.cells, Value.oneCell'], rfl⟩
  kind := ⟨_, Try.underlying108, by simp, by simp⟩
  eqs := trivial
theorem ttOk : TsOk Try.prog tt := by
  intro t i h
  by_cases e121 : t = 121
  . subst e121; rw [tt121] at h; cases h; exact tok121
  by_cases e3 : t = 3
  . subst e3; rw [tt3] at h; cases h; exact tok3
  by_cases e39 : t = 39
  . subst e39; rw [tt39] at h; cases h; exact tok39
  by_cases e4 : t = 4
  . subst e4; rw [tt4] at h; cases h; exact tok4
  by_cases e22 : t = 22
  . subst e22; rw [tt22] at h; cases h; exact tok22
  by_cases e23 : t = 23
  . subst e23; rw [tt23] at h; cases h; exact tok23
  by_cases e24 : t = 24
  . subst e24; rw [tt24] at h; cases h; exact tok24
  by_cases e32 : t = 32
  . subst e32; rw [tt32] at h; cases h; exact tok32
  by_cases e36 : t = 36
  . subst e36; rw [tt36] at h; cases h; exact tok36
  by_cases e28 : t = 28
  . subst e28; rw [tt28] at h; cases h; exact tok28
  by_cases e29 : t = 29
  . subst e29; rw [tt29] at h; cases h; exact tok29
  by_cases e51 : t = 51
  . subst e51; rw [tt51] at h; cases h; exact tok51
  by_cases e55 : t = 55
  . subst e55; rw [tt55] at h; cases h; exact tok55
  by_cases e63 : t = 63
  . subst e63; rw [tt63] at h; cases h; exact tok63
  by_cases e64 : t = 64
  . subst e64; rw [tt64] at h; cases h; exact tok64
  by_cases e110 : t = 110
  . subst e110; rw [tt110] at h; cases h; exact tok110
  by_cases e111 : t = 111
  . subst e111; rw [tt111] at h; cases h; exact tok111
  by_cases e99 : t = 99
  . subst e99; rw [tt99] at h; cases h; exact tok99
  by_cases e102 : t = 102
  . subst e102; rw [tt102] at h; cases h; exact tok102
  by_cases e26 : t = 26
  . subst e26; rw [tt26] at h; cases h; exact tok26
  by_cases e27 : t = 27
  . subst e27; rw [tt27] at h; cases h; exact tok27
  by_cases e93 : t = 93
  . subst e93; rw [tt93] at h; cases h; exact tok93
  by_cases e90 : t = 90
  . subst e90; rw [tt90] at h; cases h; exact tok90
  by_cases e118 : t = 118
  . subst e118; rw [tt118] at h; cases h; exact tok118
  by_cases e31 : t = 31
  . subst e31; rw [tt31] at h; cases h; exact tok31
  by_cases e53 : t = 53
  . subst e53; rw [tt53] at h; cases h; exact tok53
  by_cases e58 : t = 58
  . subst e58; rw [tt58] at h; cases h; exact tok58
  by_cases e60 : t = 60
  . subst e60; rw [tt60] at h; cases h; exact tok60
  by_cases e69 : t = 69
  . subst e69; rw [tt69] at h; cases h; exact tok69
  by_cases e73 : t = 73
  . subst e73; rw [tt73] at h; cases h; exact tok73
  by_cases e87 : t = 87
  . subst e87; rw [tt87] at h; cases h; exact tok87
  by_cases e89 : t = 89
  . subst e89; rw [tt89] at h; cases h; exact tok89
  by_cases e113 : t = 113
  . subst e113; rw [tt113] at h; cases h; exact tok113
  by_cases e84 : t = 84
  . subst e84; rw [tt84] at h; cases h; exact tok84
  by_cases e109 : t = 109
  . subst e109; rw [tt109] at h; cases h; exact tok109
  by_cases e105 : t = 105
  . subst e105; rw [tt105] at h; cases h; exact tok105
  by_cases e107 : t = 107
  . subst e107; rw [tt107] at h; cases h; exact tok107
  by_cases e103 : t = 103
  . subst e103; rw [tt103] at h; cases h; exact tok103
  by_cases e108 : t = 108
  . subst e108; rw [tt108] at h; cases h; exact tok108
  exfalso
  unfold tt at h
  rw [if_neg e121, if_neg e3, if_neg e39, if_neg e4, if_neg e22, if_neg e23, if_neg e24, if_neg e32, if_neg e36, if_neg e28, if_neg e29, if_neg e51, if_neg e55, if_neg e63, if_neg e64, if_neg e110, if_neg e111, if_neg e99, if_neg e102, if_neg e26, if_neg e27, if_neg e93, if_neg e90, if_neg e118, if_neg e31, if_neg e53, if_neg e58, if_neg e60, if_neg e69, if_neg e73, if_neg e87, if_neg e89, if_neg e113, if_neg e84, if_neg e109, if_neg e105, if_neg e107, if_neg e103, if_neg e108] at h
  cases h
theorem ttMix : Try.prog.follows .mixedOrders = true := by kernel_rfl
def eV4 (v : Vector Int 4) : List AV := zYy zYx v.toList
theorem encV4 : Enc (fun _ => eV4) 4 where
  wd _ a := zX a
  cv k h fl a := encL_cv zZw k h fl a.toList
  ci k h a := encL_ci zZw k h a.toList
  co k h a := encL_co zZw k h a.toList
  sl fl a := encL_sl zZw fl a.toList
  cl fl a := encL_cl zZw fl a.toList
def eV6 (v : Vector Int 6) : List AV := zYy zYx v.toList
theorem encV6 : Enc (fun _ => eV6) 6 where
  wd _ a := zX a
  cv k h fl a := encL_cv zZw k h fl a.toList
  ci k h a := encL_ci zZw k h a.toList
  co k h a := encL_co zZw k h a.toList
  sl fl a := encL_sl zZw fl a.toList
  cl fl a := encL_cl zZw fl a.toList
structure Ld where
  st : Int
  tm : Int
instance : Inhabited Ld := ⟨⟨0, 0⟩⟩
def e60 (c : Ld) : List AV := [.int .i64 c.st, .int .i64 c.tm]
theorem enc60 : Enc (fun _ => e60) 2 where
  wd _ _ := rfl
  cv _ _ _ _ := Wks.cons (zZz _ _ _ _) (Wks.cons (zZz _ _ _ _) (Wks.refl _))
  ci _ _ _ := Wks.cons (agI_int _ _ _ _) (Wks.cons (agI_int _ _ _ _) (Wks.refl _))
  co _ _ _ := Wks.cons (zY _ _ _ _) (Wks.cons (zY _ _ _ _) (Wks.refl _))
  sl fl _ := SealVs.cons (SealV.int _ _ _) (SealVs.cons (SealV.int _ _ _) (SealVs.nil fl))
  cl _ _ x hx := by
    simp only [e60, List.mem_cons, List.not_mem_nil, or_false] at hx
    rcases hx with rfl | rfl <;> rfl
theorem eqf60 : ∀ f ∈ ([(0, 3), (1, 3)] : List (Nat × TypeId)), ∃ s b z, tt f.2 = some ⟨.int .i64, s, b, z⟩ := by
  intro f hf
  simp only [List.mem_cons, List.not_mem_nil, or_false] at hf
  rcases hf with rfl | rfl
  . exact ⟨_, _, _, tt3⟩
  . exact ⟨_, _, _, tt3⟩
instance : DecidableEq Ld := fun x y => decidable_of_iff (x.st = y.st /\ x.tm = y.tm) (by cases x; cases y; simp)
theorem eq60 (x y : Ld) : decide ([x.st, x.tm] = [y.st, y.tm]) = decide (x = y) := by
  cases x; cases y; simp
structure Job where
  ar : Int
  wk : (List Ld)
instance : Inhabited Job := ⟨⟨0, []⟩⟩
def e53 (fl : Bool) (c : Job) : List AV := [.int .i64 c.ar, .lst fl c.wk.length (zYy e60 c.wk)]
theorem enc53 : Enc e53 2 where
  wd _ _ := rfl
  cv _ _ _ _ := Wks.cons (zZz _ _ _ _) (Wks.cons (zZs _ _ _ _ _) (Wks.refl _))
  ci _ _ _ := Wks.cons (agI_int _ _ _ _) (Wks.cons (agI_lst _ _ _ _) (Wks.refl _))
  co _ _ _ := Wks.cons (zY _ _ _ _) (Wks.cons (rs_lst _ _ _ _) (Wks.refl _))
  sl fl _ := SealVs.cons (SealV.int _ _ _) (SealVs.cons (SealV.lst _ _ _) (SealVs.nil fl))
  cl _ _ x hx := by
    simp only [e53, List.mem_cons, List.not_mem_nil, or_false] at hx
    rcases hx with rfl | rfl <;> rfl
structure Ext where
  jb : Int
  pc : Int
  ca : Int
  ba : Int
  op : Int
  ver : Int
instance : Inhabited Ext := ⟨⟨0, 0, 0, 0, 0, 0⟩⟩
def e58 (c : Ext) : List AV := [.int .i64 c.jb, .int .i64 c.pc, .int .i64 c.ca, .int .i64 c.ba, .int .i64 c.op, .int .i64 c.ver]
theorem enc58 : Enc (fun _ => e58) 6 where
  wd _ _ := rfl
  cv _ _ _ _ := Wks.cons (zZz _ _ _ _) (Wks.cons (zZz _ _ _ _) (Wks.cons (zZz _ _ _ _) (Wks.cons (zZz _ _ _ _) (Wks.cons (zZz _ _ _ _) (Wks.cons (zZz _ _ _ _) (Wks.refl _))))))
  ci _ _ _ := Wks.cons (agI_int _ _ _ _) (Wks.cons (agI_int _ _ _ _) (Wks.cons (agI_int _ _ _ _) (Wks.cons (agI_int _ _ _ _) (Wks.cons (agI_int _ _ _ _) (Wks.cons (agI_int _ _ _ _) (Wks.refl _))))))
  co _ _ _ := Wks.cons (zY _ _ _ _) (Wks.cons (zY _ _ _ _) (Wks.cons (zY _ _ _ _) (Wks.cons (zY _ _ _ _) (Wks.cons (zY _ _ _ _) (Wks.cons (zY _ _ _ _) (Wks.refl _))))))
  sl fl _ := SealVs.cons (SealV.int _ _ _) (SealVs.cons (SealV.int _ _ _) (SealVs.cons (SealV.int _ _ _) (SealVs.cons (SealV.int _ _ _) (SealVs.cons (SealV.int _ _ _) (SealVs.cons (SealV.int _ _ _) (SealVs.nil fl))))))
  cl _ _ x hx := by
    simp only [e58, List.mem_cons, List.not_mem_nil, or_false] at hx
    rcases hx with rfl | rfl | rfl | rfl | rfl | rfl <;> rfl
instance : DecidableEq Ext := fun x y => decidable_of_iff (x.jb = y.jb /\ x.pc = y.pc /\ x.ca = y.ca /\ x.ba = y.ba /\ x.op = y.op /\ x.ver = y.ver) (by cases x; cases y; simp)
structure A3 where
  x0 : Int
  x1 : Int
  x2 : Int
instance : Inhabited A3 := ⟨⟨0, 0, 0⟩⟩
def e27 (c : A3) : List AV := [.int .i64 c.x0, .int .i64 c.x1, .int .i64 c.x2]
theorem enc27 : Enc (fun _ => e27) 3 where
  wd _ _ := rfl
  cv _ _ _ _ := Wks.cons (zZz _ _ _ _) (Wks.cons (zZz _ _ _ _) (Wks.cons (zZz _ _ _ _) (Wks.refl _)))
  ci _ _ _ := Wks.cons (agI_int _ _ _ _) (Wks.cons (agI_int _ _ _ _) (Wks.cons (agI_int _ _ _ _) (Wks.refl _)))
  co _ _ _ := Wks.cons (zY _ _ _ _) (Wks.cons (zY _ _ _ _) (Wks.cons (zY _ _ _ _) (Wks.refl _)))
  sl fl _ := SealVs.cons (SealV.int _ _ _) (SealVs.cons (SealV.int _ _ _) (SealVs.cons (SealV.int _ _ _) (SealVs.nil fl)))
  cl _ _ x hx := by
    simp only [e27, List.mem_cons, List.not_mem_nil, or_false] at hx
    rcases hx with rfl | rfl | rfl <;> rfl
structure Req where
  sv : (List Int)
  jobs : (List Job)
  late : Int
  obj : Int
  causes : Int
  ex : (List Ext)
instance : Inhabited Req := ⟨⟨[], [], 0, 0, 0, []⟩⟩
def e26 (fl : Bool) (c : Req) : List AV := [.lst fl c.sv.length (zYy zYx c.sv), .lst fl c.jobs.length (zYy (e53 true) c.jobs), .int .i64 c.late, .int .i64 c.obj, .int .i64 c.causes, .lst fl c.ex.length (zYy e58 c.ex)]
theorem enc26 : Enc e26 6 where
  wd _ _ := rfl
  cv _ _ _ _ := Wks.cons (zZs _ _ _ _ _) (Wks.cons (zZs _ _ _ _ _) (Wks.cons (zZz _ _ _ _) (Wks.cons (zZz _ _ _ _) (Wks.cons (zZz _ _ _ _) (Wks.cons (zZs _ _ _ _ _) (Wks.refl _))))))
  ci _ _ _ := Wks.cons (agI_lst _ _ _ _) (Wks.cons (agI_lst _ _ _ _) (Wks.cons (agI_int _ _ _ _) (Wks.cons (agI_int _ _ _ _) (Wks.cons (agI_int _ _ _ _) (Wks.cons (agI_lst _ _ _ _) (Wks.refl _))))))
  co _ _ _ := Wks.cons (rs_lst _ _ _ _) (Wks.cons (rs_lst _ _ _ _) (Wks.cons (zY _ _ _ _) (Wks.cons (zY _ _ _ _) (Wks.cons (zY _ _ _ _) (Wks.cons (rs_lst _ _ _ _) (Wks.refl _))))))
  sl fl _ := SealVs.cons (SealV.lst _ _ _) (SealVs.cons (SealV.lst _ _ _) (SealVs.cons (SealV.int _ _ _) (SealVs.cons (SealV.int _ _ _) (SealVs.cons (SealV.int _ _ _) (SealVs.cons (SealV.lst _ _ _) (SealVs.nil fl))))))
  cl _ _ x hx := by
    simp only [e26, List.mem_cons, List.not_mem_nil, or_false] at hx
    rcases hx with rfl | rfl | rfl | rfl | rfl | rfl <;> rfl
structure Cas where
  sv : A3
  jobs : (List (Vector Int 6))
  ex : (List A3)
  late : Int
  obj : Int
instance : Inhabited Cas := ⟨⟨default, [], [], 0, 0⟩⟩
def e31 (fl : Bool) (c : Cas) : List AV := [.int .i64 c.sv.x0, .int .i64 c.sv.x1, .int .i64 c.sv.x2, .lst fl c.jobs.length (zYy eV6 c.jobs), .lst fl c.ex.length (zYy e27 c.ex), .int .i64 c.late, .int .i64 c.obj]
structure Fct where
  tr : Int
  sp : Int
  se : Int
  ver : Int
  op : Int
  pe : Int
  da : Int
  lo : Int
  hi : Int
  by_ : Int
instance : Inhabited Fct := ⟨⟨0, 0, 0, 0, 0, 0, 0, 0, 0, 0⟩⟩
def e69 (c : Fct) : List AV := [.int .i64 c.tr, .int .i64 c.sp, .int .i64 c.se, .int .i64 c.ver, .int .i64 c.op, .int .i64 c.pe, .int .i64 c.da, .int .i64 c.lo, .int .i64 c.hi, .int .i64 c.by_]
instance : DecidableEq Fct := fun x y => decidable_of_iff (x.tr = y.tr /\ x.sp = y.sp /\ x.se = y.se /\ x.ver = y.ver /\ x.op = y.op /\ x.pe = y.pe /\ x.da = y.da /\ x.lo = y.lo /\ x.hi = y.hi /\ x.by_ = y.by_) (by cases x; cases y; simp)
structure Rg where
  op : Int
  ver : Int
  nu : Int
  le : Int
  mo : Int
instance : Inhabited Rg := ⟨⟨0, 0, 0, 0, 0⟩⟩
def e73 (c : Rg) : List AV := [.int .i64 c.op, .int .i64 c.ver, .int .i64 c.nu, .int .i64 c.le, .int .i64 c.mo]
theorem enc73 : Enc (fun _ => e73) 5 where
  wd _ _ := rfl
  cv _ _ _ _ := Wks.cons (zZz _ _ _ _) (Wks.cons (zZz _ _ _ _) (Wks.cons (zZz _ _ _ _) (Wks.cons (zZz _ _ _ _) (Wks.cons (zZz _ _ _ _) (Wks.refl _)))))
  ci _ _ _ := Wks.cons (agI_int _ _ _ _) (Wks.cons (agI_int _ _ _ _) (Wks.cons (agI_int _ _ _ _) (Wks.cons (agI_int _ _ _ _) (Wks.cons (agI_int _ _ _ _) (Wks.refl _)))))
  co _ _ _ := Wks.cons (zY _ _ _ _) (Wks.cons (zY _ _ _ _) (Wks.cons (zY _ _ _ _) (Wks.cons (zY _ _ _ _) (Wks.cons (zY _ _ _ _) (Wks.refl _)))))
  sl fl _ := SealVs.cons (SealV.int _ _ _) (SealVs.cons (SealV.int _ _ _) (SealVs.cons (SealV.int _ _ _) (SealVs.cons (SealV.int _ _ _) (SealVs.cons (SealV.int _ _ _) (SealVs.nil fl)))))
  cl _ _ x hx := by
    simp only [e73, List.mem_cons, List.not_mem_nil, or_false] at hx
    rcases hx with rfl | rfl | rfl | rfl | rfl <;> rfl
instance : DecidableEq Rg := fun x y => decidable_of_iff (x.op = y.op /\ x.ver = y.ver /\ x.nu = y.nu /\ x.le = y.le /\ x.mo = y.mo) (by cases x; cases y; simp)
structure Vis where
  rd : Int
  st : Int
  en : Int
instance : Inhabited Vis := ⟨⟨0, 0, 0⟩⟩
def e87 (c : Vis) : List AV := [.int .i64 c.rd, .int .i64 c.st, .int .i64 c.en]
theorem enc87 : Enc (fun _ => e87) 3 where
  wd _ _ := rfl
  cv _ _ _ _ := Wks.cons (zZz _ _ _ _) (Wks.cons (zZz _ _ _ _) (Wks.cons (zZz _ _ _ _) (Wks.refl _)))
  ci _ _ _ := Wks.cons (agI_int _ _ _ _) (Wks.cons (agI_int _ _ _ _) (Wks.cons (agI_int _ _ _ _) (Wks.refl _)))
  co _ _ _ := Wks.cons (zY _ _ _ _) (Wks.cons (zY _ _ _ _) (Wks.cons (zY _ _ _ _) (Wks.refl _)))
  sl fl _ := SealVs.cons (SealV.int _ _ _) (SealVs.cons (SealV.int _ _ _) (SealVs.cons (SealV.int _ _ _) (SealVs.nil fl)))
  cl _ _ x hx := by
    simp only [e87, List.mem_cons, List.not_mem_nil, or_false] at hx
    rcases hx with rfl | rfl | rfl <;> rfl
instance : DecidableEq Vis := fun x y => decidable_of_iff (x.rd = y.rd /\ x.st = y.st /\ x.en = y.en) (by cases x; cases y; simp)
structure Dn where
  j : Int
  v : Vis
instance : Inhabited Dn := ⟨⟨0, default⟩⟩
def e89 (c : Dn) : List AV := [.int .i64 c.j, .int .i64 c.v.rd, .int .i64 c.v.st, .int .i64 c.v.en]
structure Sta where
  dn : Int
  al : Int
  rd : Int
instance : Inhabited Sta := ⟨⟨0, 0, 0⟩⟩
def e113 (c : Sta) : List AV := [.int .i64 c.dn, .int .i64 c.al, .int .i64 c.rd]
theorem enc113 : Enc (fun _ => e113) 3 where
  wd _ _ := rfl
  cv _ _ _ _ := Wks.cons (zZz _ _ _ _) (Wks.cons (zZz _ _ _ _) (Wks.cons (zZz _ _ _ _) (Wks.refl _)))
  ci _ _ _ := Wks.cons (agI_int _ _ _ _) (Wks.cons (agI_int _ _ _ _) (Wks.cons (agI_int _ _ _ _) (Wks.refl _)))
  co _ _ _ := Wks.cons (zY _ _ _ _) (Wks.cons (zY _ _ _ _) (Wks.cons (zY _ _ _ _) (Wks.refl _)))
  sl fl _ := SealVs.cons (SealV.int _ _ _) (SealVs.cons (SealV.int _ _ _) (SealVs.cons (SealV.int _ _ _) (SealVs.nil fl)))
  cl _ _ x hx := by
    simp only [e113, List.mem_cons, List.not_mem_nil, or_false] at hx
    rcases hx with rfl | rfl | rfl <;> rfl
instance : DecidableEq Sta := fun x y => decidable_of_iff (x.dn = y.dn /\ x.al = y.al /\ x.rd = y.rd) (by cases x; cases y; simp)
end Go.Lat
namespace Go.Lat
open Go.RowKit
section
variable {P : Program} {T : TT} {ops rest : List Oper} {ty : TypeId} {pos : String} {af : Array Edge} {j n d : Nat} {l : List (Nat × AV)} {h : List AObj} {b : Nat} {KS : St -> Prop} {x : Operand}
theorem mI {k : IntKind} {z : Int} (hd : Nat.ble (d + 1) n = true) (e : St.eval ⟨n, look l, h, b⟩ x = .int k z) (h1 : seqL P T ops [] (j + 1) rest ⟨n, look ((d, .int k z) :: l), h, b⟩ KS) : seqL P T ops [] j (⟨some d, .move x, ty, pos, af, none⟩ :: rest) ⟨n, look l, h, b⟩ KS := cL hd (zZp e h1)
theorem mB {z : Bool} (hd : Nat.ble (d + 1) n = true) (e : St.eval ⟨n, look l, h, b⟩ x = .bool z) (h1 : seqL P T ops [] (j + 1) rest ⟨n, look ((d, .bool z) :: l), h, b⟩ KS) : seqL P T ops [] j (⟨some d, .move x, ty, pos, af, none⟩ :: rest) ⟨n, look l, h, b⟩ KS := cL hd (zZp e h1)
theorem mL {f : Bool} {k : Nat} {z : List AV} (hd : Nat.ble (d + 1) n = true) (e : St.eval ⟨n, look l, h, b⟩ x = .lst f k z) (h1 : seqL P T ops [] (j + 1) rest ⟨n, look ((d, .lst f k z) :: l), h, b⟩ KS) : seqL P T ops [] j (⟨some d, .move x, ty, pos, af, none⟩ :: rest) ⟨n, look l, h, b⟩ KS := cL hd (zZp e h1)
theorem aI {k : IntKind} {z : Int} (hd : Nat.ble (d + 1) n = true) (e : St.eval ⟨n, look l, h, b⟩ x = .int k z) (h1 : seqL P T ops [] (j + 1) rest ⟨n, look ((d, .int k z) :: l), h, b⟩ KS) : seqL P T ops [] j (⟨some d, .assign x, ty, pos, af, none⟩ :: rest) ⟨n, look l, h, b⟩ KS := cL hd (zZq e h1)
theorem aB {z : Bool} (hd : Nat.ble (d + 1) n = true) (e : St.eval ⟨n, look l, h, b⟩ x = .bool z) (h1 : seqL P T ops [] (j + 1) rest ⟨n, look ((d, .bool z) :: l), h, b⟩ KS) : seqL P T ops [] j (⟨some d, .assign x, ty, pos, af, none⟩ :: rest) ⟨n, look l, h, b⟩ KS := cL hd (zZq e h1)
theorem aL {f : Bool} {k : Nat} {z : List AV} (hd : Nat.ble (d + 1) n = true) (e : St.eval ⟨n, look l, h, b⟩ x = .lst f k z) (h1 : seqL P T ops [] (j + 1) rest ⟨n, look ((d, .lst f k z) :: l), h, b⟩ KS) : seqL P T ops [] j (⟨some d, .assign x, ty, pos, af, none⟩ :: rest) ⟨n, look l, h, b⟩ KS := cL hd (zZq e h1)
end
end Go.Lat
namespace Go.Lat
open Go.RowKit

section
variable {X : Nat -> Prop} {D : List Deferred × Rho} {w0 : World} {mA : Mem} {r : Rho} {m : MM} {st : St} {a : Act} {w w' : World} {b : Nat} {rec : Loop}
theorem cell_ne {p : Addr} {v : Value} (hb : w.heap[b]? = some (.loop rec)) (hv : w.cell? p = some v) : p.block ≠ b := fun e => by
  unfold World.cell? at hv
  rw [e, hb] at hv
  simp at hv
theorem R.put_gen (h : R X D w0 mA r m st a w) (hb : w.heap[b]? = some (.loop rec)) (o : Obj) {w0' : World} (e1 : w0'.os = w0.os) (e2 : w0'.tape = w0.tape) (e3 : w0'.output = w0.output) (e4 : w0'.heap.size = w0.heap.size)
    (hold : ∀ k, k < w0'.heap.size -> ¬ X k -> (w.putObj b o).heap[k]? = w0'.heap[k]?) : R X D w0' mA r m st a (w.putObj b o) := by
  have ne : ∀ k, k ≠ b -> (w.putObj b o).heap[k]? = w.heap[k]? := fun k hk => World.putObj_heap_other hk
  refine { os := h.os.trans e1.symm, tape := h.tape.trans e2.symm, output := h.output.trans e3.symm, size := (by rw [World.putObj_size, e4]; exact h.size), old := hold, len := h.len, lt := fun i ob c d ho hl hr => (by rw [World.putObj_size]; exact h.lt i ob c d ho hl hr), mem := fun p v hv => ?_, low := h.low, newer := fun p v hv => (by rw [e4]; exact h.newer p v hv), lim := fun p v hv => (by rw [e4]; exact h.lim p v hv), apart := h.apart, obj := fun i ob ho => ?_, own := fun i ob c d ho hl hr => (by rw [e4]; exact h.own i ob c d ho hl hr), inj := h.inj, size' := h.size', tmps := h.tmps, defers := h.defers, base := h.base, short := h.short, nox := h.nox, marks := fun d hd => ?_, mnod := h.mnod }
  . obtain ⟨h1, h2⟩ := h.mem p v hv
    exact ⟨(World.cell?_of_block (ne _ (cell_ne hb h1))).trans h1, by rw [World.putObj_size]; exact h2⟩
  . refine (h.obj i ob ho).same fun k c hr hl => ne k ?_
    rintro rfl
    obtain ⟨x, e5, _, e6⟩ := (h.obj i ob ho).cells hl hr
    rw [hb] at e5; cases e5; exact e6 _ rfl
  . obtain ⟨k, f1, f0, f2⟩ := h.marks d hd
    refine ⟨k, f1, by rw [e4]; exact f0, (ne k ?_).trans f2⟩
    rintro rfl
    rw [hb] at f2; cases f2
theorem R.putL (h : R X D w0 mA r m st a w) (hb : w.heap[b]? = some (.loop rec)) (hb0 : w0.heap.size <= b) (o : Obj) : R X D w0 mA r m st a (w.putObj b o) :=
  h.put_gen hb o rfl rfl rfl rfl fun k hk hX => (World.putObj_heap_other (by omega)).trans (h.old k hk hX)
theorem R.putB (h : R X D w0 mA r m st a w) (hb : w.heap[b]? = some (.loop rec)) (hb0 : b < w0.heap.size) (o : Obj) : R X D (w0.putObj b o) mA r m st a (w.putObj b o) :=
  h.put_gen hb o rfl rfl rfl World.putObj_size fun k hk hX => by
    rw [World.putObj_size] at hk
    by_cases e : k = b
    . subst e
      rw [World.putObj_heap_same (Array.getElem?_eq_some_iff.1 hb).1, World.putObj_heap_same hb0]
    . rw [World.putObj_heap_other e, World.putObj_heap_other e]; exact h.old k hk hX

mutual
def noF : AV -> Bool
  | .lst fl _ _ => fl
  | .ipt fl _ => fl
  | .agg cs => noFs cs
  | .tup cs => noFs cs
  | .clo _ a b => noFs a && noFs b
  | _ => true
def noFs : List AV -> Bool
  | [] => true
  | x :: l => noF x && noFs l
end
def tru (m : Mem) : MM := fun b => if b then m else fun _ => none
mutual
theorem VR.tru {r : Rho} {m : MM} {m' : Mem} (hm : ∀ p v, m true p = some v -> m' p = some v) : ∀ (x : AV) (v : Value), noF x = true -> VR r m x v -> VR r (Lat.tru m') x v
  | .int _ _, _, _, h => by simpa only [VR] using h
  | .bool _, _, _, h => by simpa only [VR] using h
  | .agg cs, v, hn, h => by
    simp only [VR] at h ⊢
    obtain ⟨arr, h1, h0, h2⟩ := h
    exact ⟨arr, h1, h0, VRs.tru hm cs _ hn h2⟩
  | .tup cs, v, hn, h => by
    simp only [VR] at h ⊢
    obtain ⟨arr, h1, h2⟩ := h
    exact ⟨arr, h1, VRs.tru hm cs _ hn h2⟩
  | .nilS, _, _, h => by simpa only [VR] using h
  | .nilP, _, _, h => by simpa only [VR] using h
  | .nilF, _, _, h => by simpa only [VR] using h
  | .ref _ _ _, _, _, h => by simpa only [VR] using h
  | .sub _ _ _, _, _, h => by simpa only [VR] using h
  | .ptr _ _, _, _, h => by simpa only [VR] using h
  | .yl _, _, _, h => by simpa only [VR] using h
  | .gh _, _, _, _ => by simp only [VR]
  | .cut _ _ _ _ _ _, _, _, h => by simpa only [VR] using h
  | .chn _, _, _, h => by simpa only [VR] using h
  | .any, _, _, _ => by simp only [VR]
  | .clo f a b, v, hn, h => by
    simp only [VR] at h ⊢
    simp only [noF, Bool.and_eq_true] at hn
    obtain ⟨x, y, h1, h2, h3⟩ := h
    exact ⟨x, y, h1, VRs.tru hm a _ hn.1 h2, VRs.tru hm b _ hn.2 h3⟩
  | .lst fl n cs, v, hn, h => by
    simp only [noF] at hn
    subst hn
    simp only [VR] at h ⊢
    rcases h with h | ⟨p, cap, vs, h1, h2, h3, h4⟩
    . exact .inl h
    . exact .inr ⟨p, cap, vs, h1, h2, fun i u hu => ⟨hm _ _ (h3 i u hu).1, (h3 i u hu).2⟩, h4.mono (RLe.refl []) (fun b q u hu => by cases b with | true => exact hm _ _ hu | false => cases hu)⟩
  | .ipt fl cs, v, hn, h => by
    simp only [noF] at hn
    subst hn
    simp only [VR] at h ⊢
    obtain ⟨p, vs, h2, h3, h4⟩ := h
    exact ⟨p, vs, h2, fun i u hu => ⟨hm _ _ (h3 i u hu).1, (h3 i u hu).2⟩, h4.mono (RLe.refl []) (fun b q u hu => by cases b with | true => exact hm _ _ hu | false => cases hu)⟩
theorem VRs.tru {r : Rho} {m : MM} {m' : Mem} (hm : ∀ p v, m true p = some v -> m' p = some v) : ∀ (xs : List AV) (vs : List Value), noFs xs = true -> VRs r m xs vs -> VRs r (Lat.tru m') xs vs
  | [], _, _, h => by simpa only [VRs] using h
  | x :: xs, vs, hn, h => by
    simp only [VRs] at h ⊢
    simp only [noFs, Bool.and_eq_true] at hn
    obtain ⟨v, vs', h1, h2, h3⟩ := h
    exact ⟨v, vs', h1, VR.tru hm x v hn.1 h2, VRs.tru hm xs vs' hn.2 h3⟩
end
def noFO : AObj -> Bool
  | .row _ _ cs => noFs cs
  | .box _ cs => noFs cs
  | .chan _ _ buf => noFs buf
  | .dead => true
theorem OR.tru {i : Nat} {o : AObj} {m' : Mem} (hm : ∀ p v, m true p = some v -> m' p = some v) (hn : noFO o = true) (h : OR r m w i o) : OR r (Lat.tru m') w i o := by
  cases o with
  | row t sz cs =>
    rcases h with h | ⟨b, c, cur, h1, h2, h0, h3, h4, h5, h6⟩
    . exact .inl h
    . exact .inr ⟨b, c, cur, h1, h2, h0, h3, h4, h5, h6.tru hm cs _ hn⟩
  | box t cs =>
    obtain ⟨b, c, cur, h1, h2, h0, h3⟩ := h
    exact ⟨b, c, cur, h1, h2, h0, h3.tru hm cs _ hn⟩
  | chan cap cl buf =>
    obtain ⟨b, c, bv, s, rc, h1, h2, h3⟩ := h
    exact ⟨b, c, bv, s, rc, h1, h2, h3.tru hm buf _ hn⟩
  | dead => trivial

def stabV (q : Nat) : AV -> Bool
  | .int _ _ | .bool _ | .nilS | .nilP | .nilF | .any => true
  | .ptr id _ => Nat.blt id q
  | _ => false
def stabL (q : Nat) : List (Nat × AV) -> Bool
  | [] => true
  | (_, v) :: l => stabV q v && stabL q l
theorem stabL_look {q : Nat} : ∀ {l : List (Nat × AV)}, stabL q l = true -> ∀ t, stabV q (look l t) = true
  | [], _, t => rfl
  | (k, v) :: l, h, t => by
    simp only [stabL, Bool.and_eq_true] at h
    rw [look_cons]
    split
    . exact h.1
    . exact stabL_look h.2 t
theorem stab_VR {q : Nat} {x : AV} {v : Value} {r r' : Rho} {m m' : MM} (hs : stabV q x = true) (hr : RLe (r.take q) r') (h : VR r m x v) : VR r' m' x v := by
  cases x <;> simp only [stabV] at hs <;> try (cases hs; done)
  all_goals simp only [VR] at h ⊢ <;> try exact h
  rename_i id off
  obtain ⟨b, c, h1, h2⟩ := h
  refine ⟨b, c, hr id _ ?_, h2⟩
  have hlt : id < q := Nat.le_of_ble_eq_true hs
  rw [List.getElem?_take_of_lt hlt]; exact h1
def ownX (X : Nat -> Prop) (r : Rho) (h : List AObj) : Nat -> Prop := fun k => X k \/ ∃ (i : Nat) (o : AObj) (c : Nat), h[i]? = some o /\ o.live = true /\ r[i]? = some (k, c)
def CapOk (w0 : World) (mA mC : Mem) (r : Rho) (H : List AObj) (w : World) : Prop :=
  ∀ p v, mC p = some v -> w.cell? p = some v /\ p.block < w.heap.size /\ (∀ (i : Nat) (o : AObj) (b c : Nat), H[i]? = some o -> o.live = true -> r[i]? = some (b, c) -> p.block ≠ b) /\ (mA p = some v \/ w0.heap.size <= p.block)
theorem R.round_in {n q p : Nat} {l0 : List (Nat × AV)} {H : List AObj} (h : R X D w0 mA r m ⟨n, look l0, H, 0⟩ a w) (hq : 0 < q) (hs : stabL q l0 = true) (hH : ∀ o ∈ H, noFO o = true) (hp : p < n) {x : AV} {v : Value} {m' : Mem} (hx : noF x = true)
    (hm' : CapOk w0 mA m' r H w) (hv : VR [] (nest m') x v) :
    ∃ m2 : Mem, (∀ p u, m2 p = some u -> m true p = some u \/ m' p = some u) /\ R (ownX X r H) ([], r.take q) w m2 r (tru m2) ⟨n, look ((p, x) :: l0), H, q⟩ { tmps := a.tmps.setIfInBounds p v, defers := [] } w := by
  let m2 : Mem := fun p => match m true p with | some v => some v | none => m' p
  have e1 : ∀ p u, m2 p = some u -> m true p = some u \/ m' p = some u := by
    intro p u hu
    change (match m true p with | some v => some v | none => m' p) = some u at hu
    split at hu
    . rename_i v hv; cases hu; exact .inl hv
    . exact .inr hu
  have e2 : ∀ p v, m true p = some v -> m2 p = some v := fun p v hv => by
    show (match m true p with | some v => some v | none => m' p) = some v
    rw [hv]
  have e3 : ∀ p u, m' p = some u -> m2 p = some u := fun p u hu => by
    show (match m true p with | some v => some v | none => m' p) = some u
    split
    . rename_i v hv; rw [<- (hm' p u hu).1, (h.mem p v hv).1]
    . exact hu
  refine ⟨m2, e1, { os := rfl, tape := rfl, output := rfl, size := Nat.le_refl _, old := fun _ _ _ => rfl, len := h.len, lt := h.lt, mem := fun p u hu => ?_, low := fun p u hu => (by cases hu), newer := fun p u hu => (by cases hu), lim := fun p u hu => .inl hu, apart := fun p u hu i o b c ho hl hr => ?_, obj := fun i o ho => (h.obj i o ho).tru e2 (hH o (List.mem_of_getElem? ho)), own := fun i o b c ho hl hr => .inr (.inr ⟨i, o, c, ho, hl, hr⟩), inj := h.inj, size' := (by simpa using h.size'), tmps := fun t => ?_, defers := rfl, base := fun i y hy => ?_, short := (by simp; omega), nox := fun h0 => ?_, marks := fun d hd => (by cases hd), mnod := List.nodup_nil }⟩
  . rcases e1 p u hu with h1 | h1
    . exact h.mem p u h1
    . exact ⟨(hm' p u h1).1, (hm' p u h1).2.1⟩
  . rcases e1 p u hu with h1 | h1
    . exact h.apart p u h1 i o b c ho hl hr
    . exact (hm' p u h1).2.2.1 i o b c ho hl hr
  . show VR r (tru m2) (look ((p, x) :: l0) t) _
    rw [look_cons]
    have hsz : a.tmps.size = n := h.size'
    split
    . rename_i e
      subst e
      have : (a.tmps.setIfInBounds t v).getD t undef = v := by simp [hsz, hp]
      rw [this]
      refine (hv.tru (m' := m2) (fun p u hu => e3 p u hu) x v hx).mono (RLe.nil r) (MLe.refl _)
    . rename_i e
      have h1 := h.tmps t
      have h2 : (a.tmps.setIfInBounds p v).getD t undef = a.tmps.getD t undef := by simp [Array.getElem?_setIfInBounds, Ne.symm e]
      rw [h2]
      exact stab_VR (q := q) (stabL_look hs t) (fun i y hy => by
        rw [List.getElem?_take] at hy
        split at hy
        . exact hy
        . cases hy) h1
  . rw [List.getElem?_take] at hy
    split at hy
    . exact hy
    . cases hy
  . have : q = 0 := h0
    omega
theorem R.round_out {n q : Nat} {l0 : List (Nat × AV)} {H H' : List AObj} {r' : Rho} {m' : MM} {m2 : Mem} {tm' : Nat -> AV} {a' : Act} {ms : List Deferred} (h : R X D w0 mA r m ⟨n, look l0, H, 0⟩ a w) (hs : stabL q l0 = true)
    (h2 : ∀ p u, m2 p = some u -> m true p = some u \/ (mA p = some u \/ w0.heap.size <= p.block))
    (h' : R (ownX X r H) (ms, r.take q) w m2 r' m' ⟨n, tm', H', q⟩ a' w') : R X D w0 mA r' m' ⟨n, look l0, H', 0⟩ a w' := by
  have nx := h.nox rfl
  have keep : ∀ k, k < w.heap.size -> ¬ X k -> (∀ (i : Nat) (o : AObj) (c : Nat), H[i]? = some o -> o.live = true -> ¬ r[i]? = some (k, c)) -> w'.heap[k]? = w.heap[k]? := fun k hk hX hn => h'.old k hk fun hx => by
    rcases hx with hx | ⟨i, o, c, ho, hl, hr⟩
    . exact hX hx
    . exact hn i o c ho hl hr
  refine { os := h'.os.trans h.os, tape := h'.tape.trans h.tape, output := h'.output.trans h.output, size := Nat.le_trans h.size h'.size, old := fun k hk hX => ?_, len := h'.len, lt := h'.lt, mem := h'.mem, low := h'.low, newer := fun p v hv => Nat.le_trans h.size (h'.newer p v hv), lim := fun p v hv => ?_, apart := h'.apart, obj := h'.obj, own := fun i o b c ho hl hr => ?_, inj := h'.inj, size' := h.size', tmps := fun t => stab_VR (stabL_look hs t) h'.base (h.tmps t), defers := h.defers, base := by rw [nx.2]; exact RLe.nil _, short := by rw [nx.2]; exact Nat.zero_le _, nox := h.nox, marks := fun d hd => ?_, mnod := h.mnod }
  . rw [<- h.old k hk hX]
    exact keep k (Nat.lt_of_lt_of_le hk h.size) hX fun i o c ho hl hr => by
      rcases h.own i o k c ho hl hr with h1 | h1
      . omega
      . exact hX h1
  . rcases h'.lim p v hv with h1 | h1
    . rcases h2 p v h1 with h3 | h3
      . exact h.lim p v h3
      . exact h3
    . exact .inr (Nat.le_trans h.size h1)
  . rcases h'.own i o b c ho hl hr with h1 | h1 | ⟨j, oj, cj, h3, h4, h5⟩
    . exact .inl (Nat.le_trans h.size h1)
    . exact .inr h1
    . exact h.own j oj b cj h3 h4 h5
  . obtain ⟨k, e1, e0, e2⟩ := h.marks d hd
    refine ⟨k, e1, e0, (keep k (Array.getElem?_eq_some_iff.1 e2).1 (nx.1 k) fun i o c ho hl hr => ?_).trans e2⟩
    obtain ⟨x, e3, e4, _⟩ := (h.obj i o ho).cells hl hr
    rw [e2] at e3; cases e3; exact e4 _ rfl
end
end Go.Lat
namespace Go.Lat
open Go.RowKit

def FnIt (P : Program) (g : FuncId) (caps : List AV) (L : List AV) : Prop :=
  Callable P g /\ ∀ (n : Nat) (mC : Mem) (w : World) (cv : List Value), VRs [] (nest mC) caps cv →
    ∀ (l : Nat) (J : Nat -> Mem -> World -> Prop) (Jx : Mem -> World -> Prop),
      (∀ i m w w', J i m w -> w.grownBy w' none -> J i m w') -> (∀ m w w', Jx m w -> w.grownBy w' none -> Jx m w') →
      (∀ i m w, J i m w -> ∀ p v, m p = some v -> w.cell? p = some v /\ p.block < w.heap.size) →
      (∀ m w, Jx m w -> ∀ p v, m p = some v -> w.cell? p = some v /\ p.block < w.heap.size) →
      (∀ i m wb w m', J i m wb -> wb.grownBy w none -> (∀ p u, m' p = some u -> w.cell? p = some u /\ p.block < w.heap.size /\ (m p = some u \/ wb.heap.size <= p.block)) -> J i m' w) →
      (∀ n i x m w v, L[i]? = some x -> J i m w -> VR [] (nest m) x v →
        YieldAt (FW none) n P l #[v] w fun e w' => (e = .returned (.bool true) /\ J (i + 1) m w') \/ (e = .returned (.bool false) /\ Jx m w')) →
      J 0 mC w -> CallsIn (FW none) n P g (#[.func (.yield l) #[] #[]] ++ cv.toArray) w fun e w' => (∃ v, e = .returned v) /\ ((∃ m, J L.length m w') \/ ∃ m, Jx m w')

def rndQ (A B : St -> Prop) : Ex -> St -> Prop
  | .nrm, s => A s
  | .ret, s => B s
  | .exit _, _ => False

section
variable {X : Nat -> Prop} {D : List Deferred × Rho} {w0 : World} {mA : Mem} {r : Rho} {m : MM} {st : St} {a : Act} {w w' : World}
theorem R.toSt {s s' : St} (h : R X D w0 mA r m s a w) (hl : s.to s') : ∃ r', R X D w0 mA r' m s' a w := by
  obtain ⟨φ, l, h1, h2, h3, h4, h5, h6, h7⟩ := hl
  obtain ⟨nt, tm, hp, ho⟩ := s'
  simp only at h1 h2 h3 h7
  subst h1; subst h2; subst h3
  exact ⟨_, h.ren φ h4 h5 (regsT_look h6) h7⟩
theorem CapOk.grown {mC : Mem} {H : List AObj} (h : CapOk w0 mA mC r H w) (g : w.grownBy w' none) : CapOk w0 mA mC r H w' := fun p v hp => by
  obtain ⟨h1, h2, h3, h4⟩ := h p v hp
  exact ⟨(World.cell?_of_block (g.block _ h2 (by simp))).trans h1, Nat.lt_of_lt_of_le h2 g.size, h3, h4⟩
theorem CapOk.put {mC : Mem} {H : List AObj} {b : Nat} {rec : Loop} (h : CapOk w0 mA mC r H w) (hb : w.heap[b]? = some (.loop rec)) (o : Obj) : CapOk w0 mA mC r H (w.putObj b o) := fun p v hp => by
  obtain ⟨h1, h2, h3, h4⟩ := h p v hp
  exact ⟨(World.cell?_of_block (World.putObj_heap_other (cell_ne hb h1))).trans h1, by rw [World.putObj_size]; exact h2, h3, h4⟩
theorem CapOk.round {n q : Nat} {l0 : List (Nat × AV)} {H H' : List AObj} {r' : Rho} {m' : MM} {m2 mC : Mem} {tm' : Nat -> AV} {a' : Act} {ms : List Deferred} (hc : CapOk w0 mA mC r H w) (h : R X D w0 mA r m ⟨n, look l0, H, 0⟩ a w)
    (h' : R (ownX X r H) (ms, r.take q) w m2 r' m' ⟨n, tm', H', q⟩ a' w') : CapOk w0 mA mC r' H' w' := fun p v hp => by
  obtain ⟨h1, h2, h3, h4⟩ := hc p v hp
  have nx := h.nox rfl
  have hno : ¬ ownX X r H p.block := by
    rintro (hx | ⟨i, o, c, ho, hl, hr⟩)
    . exact nx.1 _ hx
    . exact h3 i o _ c ho hl hr rfl
  refine ⟨(World.cell?_of_block (h'.old _ h2 hno)).trans h1, Nat.lt_of_lt_of_le h2 h'.size, fun i o b c ho hl hr e => ?_, h4⟩
  rcases h'.own i o b c ho hl hr with h5 | h5
  . omega
  . rw [<- e] at h5; exact hno h5
end

theorem W.range {α β : Type} {P : Program} {T : TT} {Q : Ex -> St -> Prop} {g : Operand} {ps : Array Tmp} {assign body : Code} {n p : Nat} {lg l0 : List (Nat × AV)} {gf : FuncId} {caps caps' L : List AV} (q : Nat)
    (y0 : α) (H : α -> List AObj) (I : Nat -> α -> Prop) (Hr : β -> List AObj) (Ir : β -> Prop)
    (hps : ps = #[p]) (hp : Nat.ble (p + 1) n = true) (he : St.eval ⟨n, look lg, H y0, 0⟩ g = .clo gf [] caps) (hF : FnIt P gf caps' L) (hcc : Wks (caps.map (conv 6 [])) caps')
    (hL : ∀ x ∈ L, noF x = true) (hl0 : regsL (look lg) l0) (hq : 0 < q) (hs : stabL q l0 = true) (hH : ∀ i y, I i y -> ∀ o ∈ H y, noFO o = true) (hng1 : noRg assign = true) (hng2 : noRg body = true) (h0 : I 0 y0)
    (hr : ∀ i x y, L[i]? = some x -> I i y -> W P T assign ⟨n, look ((p, x) :: l0), H y, q⟩ (thenA (fun s => W P T body s (rndQ (fun s => ∃ y', I (i + 1) y' /\ s.to ⟨n, look [], H y', q⟩) (fun s => ∃ z, Ir z /\ s.to ⟨n, look [], Hr z, q⟩))) (fun _ _ => False)))
    (hd : ∀ y, I L.length y -> Q .nrm ⟨n, look l0, H y, 0⟩) (hx : ∀ z, Ir z -> Q .ret ⟨n, look l0, Hr z, 0⟩) :
    W P T (.rangeFunc g ps assign body) ⟨n, look lg, H y0, 0⟩ Q := fun hT hf ro hro n' X D w0 mA r m a w hR => by
  have hro0 : ro = none := by
    rcases ro with _ | l
    . rfl
    . have := hro (by simp)
      cases this
  subst hro0
  subst hps
  have hp' : p < n := Nat.le_of_ble_eq_true hp
  have hv := hR.eval g
  rw [he] at hv
  simp only [VR] at hv
  obtain ⟨x0, yv, hg, hx0, hyv⟩ := hv
  have hx0' : x0 = #[] := by
    apply Array.toList_inj.1
    simpa only [VRs] using hx0
  subst hx0'
  have hcap : VRs [] (nest (m true)) caps' yv.toList := hcc [] _ _ (Low.nest _) (vrs_map_conv (fun x v hv => cv0_sound hR 6 x v hv) _ _ hyv)
  have hR0 : R X D w0 mA r m ⟨n, look l0, H y0, 0⟩ a w := hR.le ⟨rfl, rfl, rfl, fun t => regsL_look hl0 t⟩
  refine wpIn_rangeFunc fun fn hfn => ?_
  obtain ⟨rec, hrec⟩ : ∃ rec : LoopState -> Option Code -> Loop, rec = fun st pe => { state := st, pending := pe, fn, tmps := a.tmps, params := #[p], assign, body, defers := w.heap.size } := ⟨_, rfl⟩
  obtain ⟨W1, hW1⟩ : ∃ W1, (w.alloc (.deferred (some []))).alloc (.loop (rec .ready none)) = W1 := ⟨_, rfl⟩
  have hL1 : W1.heap[w.heap.size + 1]? = some (.loop (rec .ready none)) := by
    rw [<- hW1]; have := World.alloc_heap_new (w.alloc (.deferred (some []))) (.loop (rec .ready none)); rwa [World.size_alloc] at this
  have hK1 : W1.heap[w.heap.size]? = some (.deferred (some [])) := by
    rw [<- hW1]; exact (Below.heap_alloc _ _ _ (by simp)).trans (World.alloc_heap_new w _)
  have hg1 : w.grownBy W1 none := by rw [<- hW1]; exact (World.grownBy_alloc w _ none).trans (World.grownBy_alloc _ _ none)
  obtain ⟨mark, hmark⟩ : ∃ mark : Deferred, mark = { target := .collected w.heap.size, args := #[] } := ⟨_, rfl⟩
  have hsz0 := hR0.size
  have hR1 : R X (mark :: D.1, D.2) w0 mA r m ⟨n, look l0, H y0, 0⟩ { tmps := a.tmps, defers := mark :: a.defers } W1 := by
    have h := hR0.grown hg1
    refine { h with size' := h.size', tmps := h.tmps, defers := by rw [<- h.defers], base := h.base, short := h.short, nox := h.nox, marks := fun d hd => ?_, mnod := List.nodup_cons.2 ⟨fun hin => ?_, h.mnod⟩ }
    . rcases List.mem_cons.1 hd with e | e
      . exact ⟨w.heap.size, e.trans hmark, hsz0, hK1⟩
      . exact h.marks d e
    . obtain ⟨b, e1, e0, e2⟩ := hR0.marks mark hin
      rw [hmark] at e1
      cases e1
      have := (Array.getElem?_eq_some_iff.1 e2).1
      omega
  generalize ha1 : ({ tmps := a.tmps, defers := mark :: a.defers } : Act) = a1 at hR1
  have ha1t : a1.tmps = a.tmps := by rw [<- ha1]
  have hC1 : CapOk w0 mA (m true) r (H y0) W1 := CapOk.grown (fun p v hv => ⟨(hR.mem p v hv).1, (hR.mem p v hv).2, hR.apart p v hv, hR.lim p v hv⟩) hg1
  obtain ⟨mC, hmC⟩ : ∃ mC, mC = m true := ⟨_, rfl⟩
  rw [<- hmC] at hC1 hcap
  obtain ⟨Lb, hLb⟩ : ∃ Lb, Lb = w.heap.size + 1 := ⟨_, rfl⟩
  rw [<- hLb] at hL1
  have hLb0 : w0.heap.size <= Lb := by omega
  obtain ⟨D1, hD1⟩ : ∃ D1 : List Deferred × Rho, D1 = (mark :: D.1, D.2) := ⟨_, rfl⟩
  rw [<- hD1] at hR1
  let J : Nat -> Mem -> World -> Prop := fun i mC W => ∃ y r m, I i y /\ R X D1 w0 mA r m ⟨n, look l0, H y, 0⟩ a1 W /\ CapOk w0 mA mC r (H y) W /\ W.heap[Lb]? = some (.loop (rec .ready none))
  let Jx : Mem -> World -> Prop := fun mC W => ∃ z r m, Ir z /\ R X D1 w0 mA r m ⟨n, look l0, Hr z, 0⟩ a1 W /\ CapOk w0 mA mC r (Hr z) W /\ W.heap[Lb]? = some (.loop (rec .done (some .ret)))
  have hblk : ∀ {A B : World} {o : Obj}, A.heap[Lb]? = some o -> A.grownBy B none -> B.heap[Lb]? = some o := fun h g => (g.block _ (Array.getElem?_eq_some_iff.1 h).1 (by simp)).trans h
  have abJ : ∀ i mC A B, J i mC A -> A.grownBy B none -> J i mC B := fun i mC A B ⟨y, r, m, h1, h2, h3, h4⟩ g => ⟨y, r, m, h1, h2.grown g, h3.grown g, hblk h4 g⟩
  refine ⟨Lb, [mark], W1, { target := .fn (.func gf) yv, args := #[.func (.yield Lb) #[] #[]] }, W1, gf, #[.func (.yield Lb) #[] #[]] ++ yv, W1, ?_, ?_, ?_, ?_, fun h => (by cases h), ?_⟩
  . rw [<- hW1, hrec, hmark, hLb]; exact run_enterLoop_outer _ _ _ _ _
  . simp only [resolve, hg]
    simp [go_sem]
  . exact fun f' hf' => trivial
  . simp [invoke, go_sem, run_callFunc hF.1]
  have hyl : (#[Value.func (.yield Lb) #[] #[]] ++ yv) = #[Value.func (.yield Lb) #[] #[]] ++ yv.toList.toArray := by simp
  rw [hyl]
  refine (hF.2 (n' - 1) mC W1 yv.toList hcap Lb J Jx abJ (fun mC A B ⟨z, r, m, h1, h2, h3, h4⟩ g => ⟨z, r, m, h1, h2.grown g, h3.grown g, hblk h4 g⟩)
    (fun i mC A ⟨y, r, m, h1, h2, h3, h4⟩ p v hv => ⟨(h3 p v hv).1, (h3 p v hv).2.1⟩) (fun mC A ⟨z, r, m, h1, h2, h3, h4⟩ p v hv => ⟨(h3 p v hv).1, (h3 p v hv).2.1⟩) ?_ ?_ ⟨y0, r, m, h0, hR1, hC1, hL1⟩).mono ?_
  . -- more memory
    rintro i mC A B m' ⟨y, r, m, h1, h2, h3, h4⟩ g hm'
    refine ⟨y, r, m, h1, h2.grown g, fun p u hu => ?_, hblk h4 g⟩
    obtain ⟨k1, k2, k3⟩ := hm' p u hu
    rcases k3 with k3 | k3
    . obtain ⟨-, -, k4, k5⟩ := h3 p u k3
      exact ⟨k1, k2, k4, k5⟩
    . exact ⟨k1, k2, fun i o b c ho hl hr => by have := h2.lt i o b c ho hl hr; omega, .inr (Nat.le_trans h2.size k3)⟩
  . -- one round
    rintro nd i x mC W v hLi ⟨y, r, m, hI, hRW, hCW, hlW⟩ hvx
    have hltW : Lb < W.heap.size := (Array.getElem?_eq_some_iff.1 hlW).1
    obtain ⟨m2, hm2, hR2⟩ := hRW.round_in hq hs (hH i y hI) hp' (hL x (List.mem_of_getElem? hLi)) hCW hvx
    have hm2' : ∀ p u, m2 p = some u -> m true p = some u \/ (mA p = some u \/ w0.heap.size <= p.block) := fun p u hu => (hm2 p u hu).imp (fun h => h) (fun h => (hCW p u h).2.2.2)
    have hnoL : ¬ ownX X r (H y) Lb := by
      rintro (hX | ⟨j, o, c, ho, hl, hrj⟩)
      . exact (hRW.nox rfl).1 _ hX
      . obtain ⟨x, e3, _, e4⟩ := (hRW.obj j o ho).cells hl hrj
        rw [hlW] at e3; cases e3; exact e4 _ rfl
    have hrun := run_yield (P := P) (args := #[v]) hlW (by rw [hrec]; rfl)
    rw [hrec] at hrun
    refine ⟨fn, _, assign, body, hrun, roundIn_of_wpIn hfn ?_⟩
    have htm : ((#[p].zip #[v]).foldl (fun tmps (t, a) => tmps.setIfInBounds t a) a.tmps) = a1.tmps.setIfInBounds p v := by rw [ha1t]; simp
    show assign.wpIn (FW (some Lb)) nd P _ { tmps := ((#[p].zip #[v]).foldl (fun tmps (t, a) => tmps.setIfInBounds t a) a.tmps), defers := [] } W
    rw [htm]
    refine wpIn_mono (hr i x y hLi hI hT hf (some Lb) (fun _ => hng1) nd _ _ _ _ _ _ _ _ hR2) ?_
    intro e a3 w3 hq3
    cases e <;> simp only [relQ, thenA, Exit.then] at hq3 ⊢ <;> try exact hq3
    case normal =>
      obtain ⟨ms, r3, m3, s3, -, hW3, hR3⟩ := hq3
      have hl3 : w3.heap[Lb]? = some (.loop (rec .ready none)) := (hR3.old Lb hltW hnoL).trans hlW
      refine ⟨_, run_beginRound hl3 (by rw [hrec]), ?_⟩
      have hR4 := hR3.putB hl3 hltW (.loop { rec .ready none with state := .busy })
      refine wpIn_mono (hW3 hT hf (some Lb) (fun _ => hng2) nd _ _ _ _ _ _ _ _ hR4) ?_
      have hRp := hRW.putL hlW hLb0 (.loop { rec .ready none with state := .busy })
      have hCp := hCW.put hlW (.loop { rec .ready none with state := .busy })
      have hlp : (W.putObj Lb (.loop { rec .ready none with state := .busy })).heap[Lb]? = some (.loop { rec .ready none with state := .busy }) := World.putObj_heap_same hltW
      intro e a5 w5 hq5
      cases e <;> simp only [relQ, roundPost, rndQ] at hq5 ⊢
      case normal =>
        obtain ⟨ms2, r5, m5, s5, -, ⟨y', hI', hto⟩, hR5⟩ := hq5
        obtain ⟨r6, hR6⟩ := hR5.toSt hto
        have hl5 : w5.heap[Lb]? = some (.loop { rec .ready none with state := .busy }) := (hR6.old Lb (by rw [World.putObj_size]; exact hltW) hnoL).trans hlp
        refine ⟨_, _, run_endRound none hl5, .inl ⟨rfl, y', r6, m5, hI', ?_, ?_, ?_⟩⟩
        . exact (hRp.round_out hs hm2' hR6).putL hl5 hLb0 _
        . exact (hCp.round hRp hR6).put hl5 _
        . rw [World.putObj_heap_same (Array.getElem?_eq_some_iff.1 hl5).1, hrec]; rfl
      case ret =>
        obtain ⟨ms2, r5, m5, s5, -, ⟨z, hI', hto⟩, hR5⟩ := hq5
        obtain ⟨r6, hR6⟩ := hR5.toSt hto
        have hl5 : w5.heap[Lb]? = some (.loop { rec .ready none with state := .busy }) := (hR6.old Lb (by rw [World.putObj_size]; exact hltW) hnoL).trans hlp
        refine ⟨_, _, run_endRound (some .ret) hl5, .inr ⟨rfl, z, r6, m5, hI', ?_, ?_, ?_⟩⟩
        . exact (hRp.round_out hs hm2' hR6).putL hl5 hLb0 _
        . exact (hCp.round hRp hR6).put hl5 _
        . rw [World.putObj_heap_same (Array.getElem?_eq_some_iff.1 hl5).1, hrec]; rfl
      case exit l => obtain ⟨_, _, _, _, _, h, _⟩ := hq5; exact h.elim
    case exit l => obtain ⟨_, _, _, _, _, h, _⟩ := hq3; exact h
    case ret => obtain ⟨_, _, _, _, _, h, _⟩ := hq3; exact h
  . -- behind it
    have ha1' : ({ a with defers := [mark] ++ a.defers } : Act) = a1 := by rw [<- ha1]; rfl
    rw [ha1']
    rintro e W2 ⟨⟨v, rfl⟩, ⟨_, y, r, m, hI, hR2, -, hl2⟩ | ⟨_, z, r, m, hI, hR2, -, hl2⟩⟩
    . refine ⟨none, _, by have := run_endLoop (P := P) hl2 (by rw [hrec]; simp); rw [hrec] at this; exact this, ?_⟩
      refine ⟨[mark], r, m, _, fun hh => (by cases hh), hd y hI, ?_⟩
      have hR3 := hR2.putL hl2 hLb0 (.loop { rec .ready none with state := .exhausted })
      rw [hD1, hrec] at hR3
      exact hR3
    . refine ⟨some .ret, _, by have := run_endLoop (P := P) hl2 (by rw [hrec]; simp); rw [hrec] at this; exact this, ?_⟩
      refine wpIn_ret ⟨[mark], r, m, _, fun hh => (by cases hh), hx z hI, ?_⟩
      have hR3 := hR2.putL hl2 hLb0 (.loop { rec .done (some .ret) with state := .exhausted })
      rw [hD1, hrec] at hR3
      exact hR3
end Go.Lat
namespace Go.Lat
open Go.RowKit

abbrev GH : Nat := 1000000
structure ItC where
  l : Nat
  J : Nat -> Mem -> World -> Prop
  Jx : Mem -> World -> Prop
  L : List AV
structure ItC.Ok (C : ItC) (P : Program) : Prop where
  ab : ∀ i m w w', C.J i m w -> w.grownBy w' none -> C.J i m w'
  abx : ∀ m w w', C.Jx m w -> w.grownBy w' none -> C.Jx m w'
  mem : ∀ i m w, C.J i m w -> ∀ p v, m p = some v -> w.cell? p = some v /\ p.block < w.heap.size
  memx : ∀ m w, C.Jx m w -> ∀ p v, m p = some v -> w.cell? p = some v /\ p.block < w.heap.size
  ext : ∀ i m wb w m', C.J i m wb -> wb.grownBy w none -> (∀ p u, m' p = some u -> w.cell? p = some u /\ p.block < w.heap.size /\ (m p = some u \/ wb.heap.size <= p.block)) -> C.J i m' w
  step : ∀ n i x m w v, C.L[i]? = some x -> C.J i m w -> VR [] (nest m) x v →
    YieldAt (FW none) n P C.l #[v] w fun e w' => (e = .returned (.bool true) /\ C.J (i + 1) m w') \/ (e = .returned (.bool false) /\ C.Jx m w')
def Jg (C : ItC) : AV -> Mem -> World -> Prop
  | .gh (i + 1), m, w => C.J i m w
  | .gh 0, m, w => C.Jx m w
  | _, _, _ => False
def relJ (C : ItC) (Q : Ex -> St -> Prop) : Exit -> Act -> World -> Prop
  | .normal, a, w => ∃ w0 mA r m s, Q .nrm s /\ Jg C (s.tm GH) mA w0 /\ R (fun _ => False) ([], []) w0 mA r m s a w
  | .ret, a, w => ∃ w0 mA r m s, Q .ret s /\ Jg C (s.tm GH) mA w0 /\ R (fun _ => False) ([], []) w0 mA r m s a w
  | .exit l, a, w => ∃ w0 mA r m s, Q (.exit l) s /\ Jg C (s.tm GH) mA w0 /\ R (fun _ => False) ([], []) w0 mA r m s a w
  | _, _, _ => False
def WJ (C : ItC) (P : Program) (T : TT) (c : Code) (st : St) (Q : Ex -> St -> Prop) : Prop :=
  C.Ok P -> TsOk P T -> P.follows .mixedOrders = true -> ∀ (n : Nat) (w0 : World) (mA : Mem) (r : Rho) (m : MM) (a : Act) (w : World), Jg C (st.tm GH) mA w0 -> R (fun _ => False) ([], []) w0 mA r m st a w →
    c.wpIn (FW none) n P (relJ C Q) a w

section
variable {C : ItC} {P : Program} {T : TT} {st : St} {Q Q' : Ex -> St -> Prop} {c c' : Code}
theorem relJ_mono (hq : ∀ e s, Q e s -> Q' e s) : ∀ e a w, relJ C Q e a w -> relJ C Q' e a w := by
  intro e a w h
  cases e <;> simp only [relJ] at h ⊢ <;> first | exact h | exact (let ⟨w0, mA, r, m, s, h0, h1, h2⟩ := h; ⟨w0, mA, r, m, s, hq _ _ h0, h1, h2⟩)
theorem WJ.mono (h : WJ C P T c st Q) (hq : ∀ e s, Q e s -> Q' e s) : WJ C P T c st Q' := fun hC hT hf n w0 mA r m a w hJ hR =>
  wpIn_mono (h hC hT hf n w0 mA r m a w hJ hR) (relJ_mono hq)
theorem WJ.ofW (hn : noRg c = true) (h : W P T c st fun e s => s.tm GH = st.tm GH /\ Q e s) : WJ C P T c st Q := fun hC hT hf n w0 mA r m a w hJ hR => by
  refine wpIn_mono (h hT hf none (fun h => (h rfl).elim) n _ _ _ _ _ _ _ _ hR) fun e a' w' he => ?_
  cases e <;> simp only [relQ, relJ] at he ⊢ <;> try exact he
  all_goals
    obtain ⟨ms, r', m', s, h0, ⟨h1, h2⟩, h3⟩ := he
    rw [h0 hn] at h3
    exact ⟨w0, mA, r', m', s, h2, by rw [h1]; exact hJ, h3⟩
theorem WJ.seq (M : St -> Prop) (h : WJ C P T c st (thenA M Q)) (h' : ∀ s, M s -> WJ C P T c' s Q) : WJ C P T (.seq c c') st Q := fun hC hT hf n w0 mA r m a w hJ hR => by
  refine wpIn_seq (wpIn_mono (h hC hT hf n w0 mA r m a w hJ hR) fun e a' w' he => ?_)
  cases e <;> simp only [relJ, thenA, Exit.then] at he ⊢ <;> try exact he
  obtain ⟨w0', mA', r', m', s, h1, h2, h3⟩ := he
  exact h' s h1 hC hT hf n w0' mA' r' m' a' w' h2 h3
theorem WJ.seq' (h : WJ C P T c st (thenA (fun s => WJ C P T c' s Q) Q)) : WJ C P T (.seq c c') st Q := WJ.seq _ h fun _ h => h
theorem WJ.skip (h : Q .nrm st) : WJ C P T .skip st Q := fun _ _ _ _ w0 mA r m _ _ hJ hR => wpIn_skip ⟨w0, mA, r, m, st, h, hJ, hR⟩
theorem WJ.ret (h : Q .ret st) : WJ C P T .ret st Q := fun _ _ _ _ w0 mA r m _ _ hJ hR => wpIn_ret ⟨w0, mA, r, m, st, h, hJ, hR⟩
theorem WJ.exit {l : Nat} (h : Q (.exit l) st) : WJ C P T (.exit l) st Q := fun _ _ _ _ w0 mA r m _ _ hJ hR => wpIn_exit ⟨w0, mA, r, m, st, h, hJ, hR⟩
theorem WJ.cond {x : Operand} {t : Bool} (hx : st.eval x = .bool t) (h1 : t = true -> WJ C P T c st Q) (h2 : t = false -> WJ C P T c' st Q) : WJ C P T (.cond x c c') st Q := fun hC hT hf n w0 mA r m a w hJ hR => by
  have hv := hR.eval x
  rw [hx] at hv
  simp only [VR] at hv
  exact wpIn_cond_split hv (fun ht => h1 ht hC hT hf n w0 mA r m a w hJ hR) (fun ht => h2 ht hC hT hf n w0 mA r m a w hJ hR)
theorem WJ.cn {p : Prop} [Decidable p] {x : Operand} (hx : st.eval x = .bool (decide p)) (h1 : p -> WJ C P T c st Q) (h2 : ¬ p -> WJ C P T c' st Q) : WJ C P T (.cond x c c') st Q :=
  WJ.cond hx (fun h => h1 (of_decide_eq_true h)) (fun h => h2 (of_decide_eq_false h))
theorem WJ.cb {q : Bool} {x : Operand} (hx : st.eval x = .bool q) (h1 : q = true -> WJ C P T c st Q) (h2 : ¬ q = true -> WJ C P T c' st Q) : WJ C P T (.cond x c c') st Q :=
  WJ.cond hx h1 (fun h => h2 (by rw [h]; simp))
theorem WJ.cT {x : Operand} (hx : st.eval x = .bool true) (h1 : WJ C P T c st Q) : WJ C P T (.cond x c c') st Q := WJ.cond hx (fun _ => h1) (fun h => by cases h)
theorem WJ.cF {x : Operand} (hx : st.eval x = .bool false) (h1 : WJ C P T c' st Q) : WJ C P T (.cond x c c') st Q := WJ.cond hx (fun h => by cases h) (fun _ => h1)
theorem WJ.block {id : Nat} (h : WJ C P T c st (blockA id Q)) : WJ C P T (.block id c) st Q := fun hC hT hf n w0 mA r m a w hJ hR =>
  wpIn_block (wpIn_mono (h hC hT hf n w0 mA r m a w hJ hR) fun e a' w' he => by
    cases e <;> simp only [relJ, blockA, Exit.inBlock] at he ⊢ <;> try exact he
    rename_i l
    obtain ⟨w0', mA', r', m', s, h1, h2, h3⟩ := he
    split <;> rename_i hl
    . rw [if_pos hl] at h1
      exact ⟨w0', mA', r', m', s, h1, h2, h3⟩
    . rw [if_neg hl] at h1
      exact ⟨w0', mA', r', m', s, h1, h2, h3⟩)
theorem WJ.to {st' : St} (hl : st.to st') (hg : st'.tm GH = st.tm GH) (h : WJ C P T c st' Q) : WJ C P T c st Q := fun hC hT hf n w0 mA r m a w hJ hR => by
  obtain ⟨r', hR'⟩ := hR.toSt hl
  exact h hC hT hf n w0 mA r' m a w (by rw [hg]; exact hJ) hR'
theorem WJ.tr {n : Nat} {h : List AObj} {b : Nat} {tm : Nat -> AV} (l' : List (Nat × AV)) (h' : List AObj) (hl : regsL tm l') (hh : h = h') (hg : look l' GH = tm GH) (hw : WJ C P T c ⟨n, look l', h', b⟩ Q) : WJ C P T c ⟨n, tm, h, b⟩ Q := fun hC hT hf k w0 mA r m a w hJ hR => by
  subst hh
  exact hw hC hT hf k w0 mA r m a w (by show Jg C (look l' GH) mA w0; rw [hg]; exact hJ) (hR.le ⟨rfl, rfl, rfl, regsL_look hl⟩)
open Classical in
theorem WJ.loop (I : Nat -> St -> Prop) {k : Nat} (h0 : I k st) (h : ∀ k s, I k s -> WJ C P T c s (thenA (fun s' => ∃ k', k' < k /\ I k' s') Q)) : WJ C P T (.loop c) st Q := fun hC hT hf n w0 mA r m a w hJ hR => by
  let Has : Act -> World -> Nat -> Prop := fun a w k => ∃ w0 mA r m s, I k s /\ Jg C (s.tm GH) mA w0 /\ R (fun _ => False) ([], []) w0 mA r m s a w
  have least : ∀ (p : Nat -> Prop) (k : Nat), p k -> ∃ j, p j /\ ∀ i, p i -> j <= i := by
    intro p k
    induction k using Nat.strongRecOn with
    | _ k ih =>
      intro hk
      by_cases hx : ∃ i, i < k /\ p i
      . obtain ⟨i, hi, hpi⟩ := hx
        exact ih i hi hpi
      . exact ⟨k, hk, fun i hi => Nat.le_of_not_lt fun hlt => hx ⟨i, hlt, hi⟩⟩
  let μ : Act -> World -> Nat := fun a w => if hx : ∃ j, Has a w j /\ ∀ i, Has a w i -> j <= i then Classical.choose hx else 0
  have hμ : ∀ a w k, Has a w k -> Has a w (μ a w) /\ μ a w <= k := fun a w k hk => by
    have hx := least (Has a w) k hk
    have e : μ a w = Classical.choose hx := dif_pos hx
    rw [e]
    exact ⟨(Classical.choose_spec hx).1, (Classical.choose_spec hx).2 k hk⟩
  refine wpIn_loop (fun a w => ∃ k, Has a w k) μ ⟨k, w0, mA, r, m, st, h0, hJ, hR⟩ ?_
  rintro a w ⟨k, hk⟩
  obtain ⟨⟨w0, mA, r, m, s, hI, hJ, hR⟩, _⟩ := hμ a w k hk
  refine wpIn_mono (h _ s hI hC hT hf n w0 mA r m a w hJ hR) fun e a' w' he => ?_
  cases e <;> simp only [relJ, thenA, Exit.then] at he ⊢ <;> try exact he
  obtain ⟨w0', mA', r', m', s', ⟨k', hk', hI'⟩, hJ', hR'⟩ := he
  exact ⟨⟨k', w0', mA', r', m', s', hI', hJ', hR'⟩, Nat.lt_of_le_of_lt (hμ a' w' k' ⟨w0', mA', r', m', s', hI', hJ', hR'⟩).2 hk'⟩
theorem WJ.rL {id : Nat} {ol : List Oper} (h1 : seqL P T ol [] 0 ol st fun s => s.tm GH = st.tm GH /\ WJ C P T c s Q) : WJ C P T (.seq (.region id ol.toArray false) c) st Q :=
  WJ.seq (fun s => WJ C P T c s Q) (WJ.ofW rfl (W.region (Q := fun e s => s.tm GH = st.tm GH /\ thenA (fun s => WJ C P T c s Q) Q e s) [] h1)) fun _ h => h
theorem WJ.rP {id : Nat} {ol : List Oper} (ord : List Nat) (hc : chk ol.toArray ord = true) (hl : allIn ol ord = true) (h1 : seqL P T ol [] 0 (pickL ol ord) st fun s => s.tm GH = st.tm GH /\ WJ C P T c s Q) : WJ C P T (.seq (.region id ol.toArray true) c) st Q :=
  WJ.seq (fun s => WJ C P T c s Q) (WJ.ofW rfl (W.rP1 (Q := fun e s => s.tm GH = st.tm GH /\ thenA (fun s => WJ C P T c s Q) Q e s) ord hc hl h1)) fun _ h => h
theorem WJ.rL1 {id : Nat} {ol : List Oper} (h1 : seqL P T ol [] 0 ol st fun s => s.tm GH = st.tm GH /\ Q .nrm s) : WJ C P T (.region id ol.toArray false) st Q := WJ.ofW rfl (W.region [] h1)

def clJ : AV -> Bool
  | .int _ _ | .bool _ | .nilS | .nilP | .nilF | .any | .yl _ | .gh _ => true
  | .ipt true _ => true
  | .lst true _ _ => true
  | .clo _ [] [] => true
  | _ => false
theorem clJ_VR {r : Rho} {m : MM} : ∀ {x : AV} {v : Value}, clJ x = true -> VR r m x v -> VR [] (nest (m true)) x v := by
  intro x v hx h
  cases x <;> simp only [clJ] at hx <;> try (cases hx; done)
  case int => simpa only [VR] using h
  case bool => simpa only [VR] using h
  case nilS => simpa only [VR] using h
  case nilP => simpa only [VR] using h
  case nilF => simpa only [VR] using h
  case any => simp only [VR]
  case yl => simpa only [VR] using h
  case gh => simp only [VR]
  case ipt fl cs =>
    cases fl <;> simp only [clJ] at hx <;> try (cases hx; done)
    simp only [VR] at h ⊢
    exact h
  case lst fl n cs =>
    cases fl <;> simp only [clJ] at hx <;> try (cases hx; done)
    simp only [VR] at h ⊢
    exact h
  case clo f a b =>
    cases a <;> cases b <;> simp only [clJ] at hx <;> try (cases hx; done)
    simp only [VR, VRs] at h ⊢
    exact h
def clJs : List (Nat × AV) -> Bool
  | [] => true
  | (_, v) :: l => clJ v && clJs l
theorem clJs_look : ∀ {l : List (Nat × AV)}, clJs l = true -> ∀ t, clJ (look l t) = true
  | [], _, t => rfl
  | (k, v) :: l, h, t => by
    simp only [clJs, Bool.and_eq_true] at h
    rw [look_cons]
    split
    . exact h.1
    . exact clJs_look h.2 t
theorem seqL_upto {X : Nat -> Prop} {D : List Deferred × Rho} {w0 : World} {mA : Mem} (hT : TsOk P T) {ops : Array Oper} {ro : Option Nat} {n : Nat} {Z : Exit -> Act -> World -> Prop} {K : St -> Prop} {rest : List Oper}
    (hK : ∀ s r' m' a' w', K s -> R X D w0 mA r' m' s a' w' -> wpListIn (FW ro) n P ops Z rest a' w') :
    ∀ (l : List Oper) (j : Nat) {r : Rho} {m : MM} {st : St} {a : Act} {w : World}, R X D w0 mA r m st a w -> seqL P T ops.toList [] j l st K -> wpListIn (FW ro) n P ops Z (l ++ rest) a w
  | [], _, _, _, _, _, _, hR, h => hK _ _ _ _ _ h hR
  | o :: l, j, _, _, _, _, _, hR, h => wpListIn_step fun K' hK' =>
      stepG_sound hT hR h fun s r' m' a' w' hs hR' => hK' a' w' (seqL_upto hT hK l (j + 1) hR' (splitT_sound hs))
structure YSt (C : ItC) (P : Program) (T : TT) (ol B : List Oper) (j : Nat) (d : Nat) (f x : Operand) (gd : Option (Nat × Bool)) (g0 : AV) (s1 : St) (K : St -> Prop) : Prop where
  intro ::
  ex : ∃ (nt : Nat) (lr : List (Nat × AV)) (hp : List AObj) (i : Nat) (Y : AV) (l' : List (Nat × AV)), s1 = ⟨nt, look lr, hp, 0⟩ ∧
    (gd = none \/ ∃ k t, gd = some (k, true) /\ gdT ol k = some t /\ look lr t = .bool true) /\ d < nt /\ St.eval ⟨nt, look lr, hp, 0⟩ f = .yl C.l /\ g0 = .gh (i + 1) /\ C.L[i]? = some Y /\ Wk (conv 6 [] (St.eval ⟨nt, look lr, hp, 0⟩ x)) Y /\ clJs l' = true /\ regsL (look lr) l' ∧
    seqL P T ol [] j B ⟨nt, look ((d, .bool true) :: (GH, .gh (i + 2)) :: l'), [], 0⟩ (fun s => s.tm GH = .gh (i + 2) /\ K s) ∧
    seqL P T ol [] j B ⟨nt, look ((d, .bool false) :: (GH, .gh 0) :: l'), [], 0⟩ (fun s => s.tm GH = .gh 0 /\ K s)
theorem wanted_of {X : Nat -> Prop} {D : List Deferred × Rho} {w0 : World} {mA : Mem} {r : Rho} {m : MM} {a : Act} {w : World} {ops : Array Oper} (hR : R X D w0 mA r m st a w) {o : Oper} (hg : o.guard = none \/ ∃ k t, o.guard = some (k, true) /\ gdT ops.toList k = some t /\ st.tm t = .bool true) : Region.wanted o (yielded ops a.tmps) = true := by
  rcases hg with hg | ⟨k, t, hg, ht, hb⟩
  . simp [Region.wanted, hg]
  . have hv := hR.tmps t
    rw [hb] at hv
    simp only [VR] at hv
    have hy : yielded ops a.tmps k = some true := by
      have e : (ops[k]?).bind (·.dst) = some t := by simpa [gdT] using ht
      unfold yielded
      rw [e]
      rcases hq : a.tmps[t]? with _ | u
      . rw [Array.getD_eq_getD_getElem?, hq] at hv
        cases hv
      . rw [Array.getD_eq_getD_getElem?, hq] at hv
        simp only [Option.getD_some] at hv
        subst hv
        simp [hq]
    simp [Region.wanted, hg, hy]
theorem R.anew {w0 : World} {mA : Mem} {r : Rho} {m : MM} {nt : Nat} {lr l' : List (Nat × AV)} {hp : List AObj} {a : Act} {w w' : World} {d : Nat} {b : Bool} {g : Nat} (hR : R (fun _ => False) ([], []) w0 mA r m ⟨nt, look lr, hp, 0⟩ a w) (hd : d < nt) (hcl : clJs l' = true) (hrl : regsL (look lr) l')
    (hm : ∀ p v, m true p = some v -> w'.cell? p = some v /\ p.block < w'.heap.size) : R (fun _ => False) ([], []) w' (m true) [] (nest (m true)) ⟨nt, look ((d, .bool b) :: (GH, .gh g) :: l'), [], 0⟩ (a.put (some d) (.bool b)) w' := by
  have hsz : a.tmps.size = nt := hR.size'
  refine { os := rfl, tape := rfl, output := rfl, size := Nat.le_refl _, old := fun _ _ _ => rfl, len := rfl, lt := by simp, mem := hm, low := (by intro p v h; cases h), newer := (by intro p v h; cases h), lim := fun p v h => .inl h, apart := by simp, obj := by simp, own := by simp, inj := by simp, size' := by simpa [Act.put] using hR.size', tmps := fun t => ?_, defers := by simpa [Act.put] using hR.defers, base := RLe.refl [], short := by simp, nox := fun _ => ⟨fun _ h => h, rfl⟩, marks := fun d hd => (by cases hd), mnod := List.nodup_nil }
  show VR [] (nest (m true)) (look ((d, .bool b) :: (GH, .gh g) :: l') t) _
  rw [look_cons]
  split
  . rename_i e
    subst e
    have : ((a.put (some t) (.bool b)).tmps).getD t undef = .bool b := by simp [Act.put, hsz, hd]
    rw [this]
    simp only [VR]
  . rename_i e
    rw [look_cons]
    split
    . simp only [VR]
    . have h1 := hR.tmps t
      have h2 : ((a.put (some d) (.bool b)).tmps).getD t undef = a.tmps.getD t undef := by simp [Act.put, Array.getElem?_setIfInBounds, Ne.symm e]
      rw [h2]
      rcases regsL_look hrl t with h3 | h3
      . rw [h3]; simp only [VR]
      . have h1' : VR r m (look lr t) (a.tmps.getD t undef) := h1
        rw [<- h3] at h1'
        exact clJ_VR (clJs_look hcl t) h1'
theorem WJ.rY {id : Nat} {ol : List Oper} (A B : List Oper) {j d : Nat} {f x : Operand} {tys : Array TypeId} {ty : TypeId} {pos : String} {af : Array Edge} {gd : Option (Nat × Bool)}
    (hl : ol = A ++ ⟨some d, .call ⟨.value f, #[x], tys⟩, ty, pos, af, gd⟩ :: B) (h1 : seqL P T ol [] 0 A st fun s1 => YSt C P T ol B j d f x gd (st.tm GH) s1 fun s2 => WJ C P T c s2 Q) : WJ C P T (.seq (.region id ol.toArray false) c) st Q := fun hC hT hf n w0 mA r m a w hJ0 hR0 => by
  refine wpIn_seq (wpIn_region_list ?_)
  have hlist : ol.toArray.toList = A ++ ⟨some d, .call ⟨.value f, #[x], tys⟩, ty, pos, af, gd⟩ :: B := hl
  rw [hlist]
  refine seqL_upto (ops := ol.toArray) (K := fun s1 => YSt C P T ol B j d f x gd (st.tm GH) s1 fun s2 => WJ C P T c s2 Q) hT ?_ A 0 hR0 h1
  rintro s1 r m a w ⟨nt, lr, hp, i, Y, l', rfl, hgd, hdn, hf1, hg1, hLi, hY, hcl, hrl, hk1, hk2⟩ hR
  rw [hg1] at hJ0
  have hJ : C.J i mA w0 := hJ0
  have hJ' : C.J i (m true) w := hC.ext i mA w0 w (m true) hJ (grown_of_R hR) fun p u hu => ⟨(hR.mem p u hu).1, (hR.mem p u hu).2, hR.lim p u hu⟩
  have hX : VR [] (nest (m true)) Y (a.eval x) := hY [] _ _ (Low.nest _) (cv0_sound hR 6 _ _ (hR.eval x))
  obtain ⟨fn, tmps, assign, body, hrun, hround⟩ := hC.step (n - 1) i Y (m true) w (a.eval x) hLi hJ' hX
  refine wpListIn_step fun K' hK' => ?_
  rw [if_pos (wanted_of hR hgd)]
  refine ⟨fun _ _ => trivial, ?_⟩
  rw [Oper.semAt_eq _ _ _ (fun c' h' => by cases h')]
  have hfv := hR.eval f
  rw [hf1] at hfv
  simp only [VR] at hfv
  have hexec : (execOp a.eval ⟨some d, .call ⟨.value f, #[x], tys⟩, ty, pos, af, gd⟩).run P w = .ok (.round C.l fn tmps assign body) w := by
    simp only [execOp, resolve, Deferred.ofValue, hfv, Sem.run_bind, Sem.run_pure, Result.andThen_ok, invoke]
    simpa using hrun
  rw [hexec]
  refine ⟨fun h => (by cases h), hround.mono ?_⟩
  rintro e w' (⟨rfl, hJ2⟩ | ⟨rfl, hJ2⟩)
  . refine hK' _ _ (seqL_sound hT (fun s r' m' a' w'' hs hR' => ?_) B j (hR.anew hdn hcl hrl (hC.mem _ _ _ hJ2)) hk1)
    exact hs.2 hC hT hf n w' (m true) r' m' a' w'' (by rw [hs.1]; exact hJ2) hR'
  . refine hK' _ _ (seqL_sound hT (fun s r' m' a' w'' hs hR' => ?_) B j (hR.anew hdn hcl hrl (hC.memx _ _ hJ2)) hk2)
    exact hs.2 hC hT hf n w' (m true) r' m' a' w'' (by rw [hs.1]; exact hJ2) hR'
theorem FnIt.of_walk {fI : FuncId} {nt : Nat} {rs : List ResultVar} {caps L : List AV} (hT : TsOk P T) (hm : P.follows .mixedOrders = true) (hf : IsFn P fI c nt rs) (hrs : rs = []) (hn : caps.length + 1 <= nt)
    (h : ∀ C : ItC, C.L = L -> WJ C P T c ⟨nt, look ((GH, .gh 1) :: enumT 0 (.yl C.l :: caps)), [], 0⟩ (fun e s => (e = .nrm \/ e = .ret) /\ (s.tm GH = .gh 0 \/ s.tm GH = .gh (L.length + 1)))) : FnIt P fI caps L := by
  obtain ⟨fn, h1, h2, h3, h4, h5⟩ := hf.fn
  refine ⟨⟨fn, h1, h2, by rw [h3]; rfl⟩, fun n mC w cv hcv l J Jx ab abx mem memx ext step hJ => ?_⟩
  have hC : ItC.Ok ⟨l, J, Jx, L⟩ P := ⟨ab, abx, mem, memx, ext, step⟩
  have hvs : VRs [] (nest mC) (.yl l :: caps) (.func (.yield l) #[] #[] :: cv) := by
    simp only [VRs]
    exact ⟨_, _, rfl, by simp only [VR], hcv⟩
  have hR := enter_R (nt := nt) (mem 0 mC w hJ) hvs (by simpa using hn) (fun _ => False) (fun _ hf => hf)
  have hlen := hcv.length
  have hR2 : R (fun _ => False) ([], []) w mC [] (nest mC) ⟨nt, look ((GH, .gh 1) :: enumT 0 (.yl l :: caps)), [], 0⟩ { tmps := (.func (.yield l) #[] #[] :: cv).toArray ++ Array.replicate (nt - (.func (.yield l) #[] #[] :: cv).toArray.size) undef, defers := [] } w := by
    refine { hR with size' := hR.size', tmps := fun t => ?_, nox := hR.nox, short := hR.short, base := hR.base, defers := hR.defers }
    show VR [] (nest mC) (look ((GH, .gh 1) :: enumT 0 (.yl l :: caps)) t) _
    rw [look_cons]
    split
    . simp only [VR]
    . exact hR.tmps t
  have hargs : (#[Value.func (.yield l) #[] #[]] ++ cv.toArray) = (Value.func (.yield l) #[] #[] :: cv).toArray := by simp
  rw [hargs]
  refine callsIn_of_wp_marks h1 h3 trivial ?_
  rw [h4]
  refine wpIn_mono (h ⟨l, J, Jx, L⟩ rfl hC hT hm n w mC [] (nest mC) _ w hJ hR2) ?_
  have fin : ∀ (a' : Act) (w' : World) w0 mA r m s, (s.tm GH = .gh 0 \/ s.tm GH = .gh (L.length + 1)) -> Jg ⟨l, J, Jx, L⟩ (s.tm GH) mA w0 -> R (fun _ => False) ([], []) w0 mA r m s a' w' →
      LeavesInM (FW none) n P fn a'.tmps (fun e w' => (∃ v, e = .returned v) /\ ((∃ m, J L.length m w') \/ ∃ m, Jx m w')) a'.defers .returning w' := by
    intro a' w' w0 mA r m s hs hJ' hR'
    rw [hR'.defers]
    obtain ⟨v, hv⟩ : ∃ v, (results fn a'.tmps).run P w' = .ok v w' := by
      have hres : fn.results = #[] := by
        apply Array.toList_inj.1
        rw [h5, hrs]
      simp [results, hres, Sem.run_pure]
    refine ⟨v, hv, ⟨v, rfl⟩, ?_⟩
    rcases hs with hs | hs
    . rw [hs] at hJ'
      exact .inr ⟨mA, abx _ _ _ hJ' (grown_of_R hR')⟩
    . rw [hs] at hJ'
      exact .inl ⟨mA, ab _ _ _ _ hJ' (grown_of_R hR')⟩
  intro e a' w' he
  cases e <;> simp only [relJ, bodyPostM] at he ⊢ <;> try exact he.elim
  . obtain ⟨w0, mA, r, m, s, ⟨-, hs⟩, hJ', hR'⟩ := he
    exact fin a' w' w0 mA r m s hs hJ' hR'
  . obtain ⟨w0, mA, r, m, s, ⟨hs, -⟩, hJ', hR'⟩ := he
    rcases hs with hs | hs <;> cases hs
  . obtain ⟨w0, mA, r, m, s, ⟨-, hs⟩, hJ', hR'⟩ := he
    exact fin a' w' w0 mA r m s hs hJ' hR'
end
end Go.Lat
namespace Go.Lat
open Go.RowKit
theorem rd_nrm {A B : St -> Prop} {s : St} (h : A s) : rndQ A B .nrm s := h
theorem rd_ret {A B : St -> Prop} {s : St} (h : B s) : rndQ A B .ret s := h
theorem noF_ints : ∀ xs : List Int, noFs (zYy zYx xs) = true
  | [] => rfl
  | x :: xs => by
    have := noF_ints xs
    simpa only [zYy, zYx, noFs, noF, List.flatMap_cons, List.cons_append, List.nil_append, Bool.true_and] using this
section
variable {P : Program} {T : TT} {Q : Ex -> St -> Prop} {g : Operand} {p n : Nat} {assign body : Code} {gf : FuncId} {caps caps' : List AV} {l0 lg : List (Nat × AV)}
theorem W.rng1_2 {γ : Type} {α0 : Type} {β0 β1 : Type} (e : γ -> AV) (xs : List γ) (q : Nat) (y0 : α0) (H : α0 -> List AObj) (I : Nat -> α0 -> Prop) (Hr : β0 -> β1 -> List AObj) (Ir : β0 -> β1 -> Prop)
    (hp : Nat.ble (p + 1) n = true) (he : St.eval ⟨n, look lg, H y0, 0⟩ g = .clo gf [] caps) (hF : FnIt P gf caps' (xs.map e)) (hcc : Wks (caps.map (conv 6 [])) caps') (hL : ∀ c, noF (e c) = true) (hl0 : regsL (look lg) l0) (hq : 0 < q) (hs : stabL q l0 = true)
    (hH : ∀ i (x0 : α0), I i x0 -> ∀ o ∈ H x0, noFO o = true) (hng1 : noRg assign = true) (hng2 : noRg body = true) (h0 : I 0 y0)
    (hr : ∀ i c (x0 : α0), xs[i]? = some c -> I i x0 -> W P T assign ⟨n, look ((p, e c) :: l0), H x0, q⟩ (thenA (fun s => W P T body s (rndQ (fun s => ∃ (_ : Unit) (x0 : α0), I (i + 1) x0 /\ s.to ⟨n, look [], H x0, q⟩) (fun s => ∃ (_ : Unit) (z0 : β0) (z1 : β1), Ir z0 z1 /\ s.to ⟨n, look [], Hr z0 z1, q⟩))) (fun _ _ => False)))
    (hd : ∀ (x0 : α0), I xs.length x0 -> Q .nrm ⟨n, look l0, H x0, 0⟩) (hx : ∀ (z0 : β0) (z1 : β1), Ir z0 z1 -> Q .ret ⟨n, look l0, Hr z0 z1, 0⟩) : W P T (.rangeFunc g #[p] assign body) ⟨n, look lg, H y0, 0⟩ Q :=
  W.range (α := α0) (β := β0 × β1) q y0 (fun y => H y) (fun i y => I i y) (fun z => Hr z.1 z.2) (fun z => Ir z.1 z.2) rfl hp he hF hcc
    (fun x hx => by obtain ⟨c, -, rfl⟩ := List.mem_map.1 hx; exact hL c) hl0 hq hs (fun i y hy => hH i y hy) hng1 hng2 h0
    (fun i x y hx hy => by
      rw [List.getElem?_map] at hx
      rcases hc : xs[i]? with _ | c
      . rw [hc] at hx; cases hx
      . rw [hc] at hx; cases hx
        refine (hr i c y hc hy).mono fun e s h => ?_
        cases e <;> simp only [thenA] at h ⊢
        refine h.mono fun e s h => ?_
        cases e <;> simp only [rndQ] at h ⊢
        . obtain ⟨_, x0, h1, h2⟩ := h
          exact ⟨x0, h1, h2⟩
        . obtain ⟨_, z0, z1, h1, h2⟩ := h
          exact ⟨(z0, z1), h1, h2⟩)
    (fun y hy => hd y (by rw [List.length_map] at hy; exact hy)) (fun z hz => hx z.1 z.2 hz)
end
end Go.Lat
