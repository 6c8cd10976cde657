/- The law latecomerlaw23.ModelApart returns true for every input, and each argument reads afterwards as it read before. Part 8 of 14. No condition. -/
import Derived.Test.YtcldekbjhmhgdaaLatE
import Derived.Test.YtcldekbjhmhgdaaLatF
import Derived.Test.YtcldekbjhmhgdaaLatD
set_option linter.unusedVariables false
set_option linter.unusedSimpArgs false
set_option linter.unnecessarySimpa false
namespace Go.Lat
open Go.RowKit Go.Proofs
theorem ovF : OvF Try.prog 58 := ⟨Try.f58, 54, 4, 72, Try.func58, by kernel_rfl, by kernel_rfl, by kernel_rfl, by kernel_rfl, Try.underlying54, 5, fun w => tok72.run_sizeOf w⟩
theorem spec_insert (u v : Rg) (xs : List Rg) (i : Nat) (hi : i <= xs.length) (hx : xs.length <= 1073741823) :
    FnG Try.prog 54 [.row 72 5 (zYy e72 xs), .box 72 (e72 u), .row 72 5 (zYy e72 [v])] [.ref true 0 xs.length, .int .i64 i, .ref false 2 1]
      (fun x H' => x = .ref true 3 (xs.length + 1) /\ H' = [.dead, .box 72 (e72 u), .row 72 5 (zYy e72 [v]), .row 72 5 (zYy e72 (insM xs i v))]) := by
  refine FnG.of_walk (T := tt) (nt := 95) ttOk ttMix ⟨⟨Try.f54, Try.func54, rfl, rfl, rfl, rfl⟩⟩ (by simp) (by simp) ?_
  change W _ _ _ ⟨95, look [(0, .ref true 0 xs.length), (1, .int .i64 (i : Int)), (2, .ref false 2 1)], [.row 72 5 (zYy e72 xs), .box 72 (e72 u), .row 72 5 (zYy e72 [v])], 3⟩ _
  have w5 : Wd e72 5 := enc72.wd false
  rcases Nat.eq_zero_or_pos xs.length with h0 | h0
  . have hi0 : i = 0 := by omega
    have hxs : xs = [] := List.eq_nil_of_length_eq_zero h0
    subst hi0
    subst hxs
    refine W.to (st' := ⟨95, look [(0, .nilS), (1, .int .i64 ((0 : Nat) : Int)), (2, .ref false 2 1)], [.dead, .box 72 (e72 u), .row 72 5 (zYy e72 [v])], 3⟩) (St.to_mk (φ := [some 0, some 1, some 2]) rfl rfl ⟨Ren.refNil rfl, Ren.int _ _, Ren.ref rfl id, trivial⟩ ⟨.inl rfl, .inr ⟨_, rfl, rfl, Rens.cl (enc72.cl false _)⟩, zE enc72 false _ rfl, trivial⟩) ?_
    refine W.rL ?_
    refine cL rfl (zZq (v := .nilS) rfl (eL ?_))
    refine W.rL ?_
    refine cL rfl (zZp (v := .nilS) rfl (mI rfl rfl (cL rfl (o_slZ tt54 tt72 rfl rfl rfl ⟨rfl, rfl⟩ (eL ?_)))))
    refine W.rL ?_
    refine cL rfl (zZp (v := .ref _ _ _) rfl (cL rfl (zXw (v := .ref _ _ _) tt54 rfl rfl (aI rfl rfl (eL ?_)))))
    refine W.seq' ?_
    refine W.rL ?_
    refine mI rfl rfl (cL rfl (o_eqI rfl rfl rfl (eL ?_)))
    refine W.cn rfl (fun hc => ?_) (fun _ => W.skip (zZ ?_))
    . exact absurd hc (by decide)
    refine W.rL ?_
    refine cL rfl (zZp (v := .nilS) rfl (cL rfl (zXw (v := .nilS) tt54 rfl rfl (aI rfl rfl (eL ?_)))))
    refine W.seq' ?_
    refine W.rL ?_
    refine mI rfl rfl (mI rfl rfl (cL rfl (o_eqI rfl rfl rfl (eL ?_))))
    refine W.cn rfl (fun _ => ?_) (fun hc => ?_)
    rotate_left
    . exact absurd rfl hc
    refine W.rL ?_
    refine cL rfl (zZp (v := .nilS) rfl (cL rfl (zZp (v := .ref _ _ _) rfl (cL rfl (o_apN (p := 3) (q := 0) (cc := []) tt54 tt72 rfl rfl (src_ref rfl rfl) rfl (by decide) rfl (cL rfl (zZq (v := .ref _ _ _) rfl (eL (W.ret (zZr (rt (rt_t (v := .ref _ _ _) rfl (rt_n ⟨rfl, rfl⟩)))))))))))))
  refine W.rL ?_
  refine cL rfl (zZq (v := .nilS) rfl (eL ?_))
  refine W.rL ?_
  refine cL rfl (zZp (v := .ref _ _ _) rfl (mI rfl rfl (cL rfl (o_slR tt54 tt72 rfl rfl rfl ⟨h0, by omega, by omega, Int.le_refl _⟩ rfl rfl (eL ?_)))))
  refine W.rL ?_
  refine cL rfl (zZp (v := .ref _ _ _) rfl (cL rfl (zXw (v := .ref _ _ _) tt54 rfl rfl (aI rfl rfl (eL ?_)))))
  refine W.seq' ?_
  refine W.rL ?_
  refine mI rfl rfl (cL rfl (o_eqI rfl rfl rfl (eL ?_)))
  refine W.cn rfl (fun hc => ?_) (fun _ => W.skip (zZ ?_))
  . exact absurd hc (by decide)
  refine W.rL ?_
  refine cL rfl (zZp (v := .ref _ _ _) rfl (cL rfl (zXw (v := .ref _ _ _) tt54 rfl rfl (aI rfl rfl (eL ?_)))))
  refine W.seq' ?_
  refine W.rL ?_
  refine mI rfl rfl (mI rfl rfl (cL rfl (o_eqI rfl rfl rfl (eL ?_))))
  refine W.cn rfl (fun hc => ?_) (fun hc => W.skip (zZ ?_))
  . have hie : i = xs.length := by omega
    subst hie
    refine W.rL ?_
    refine cL rfl (zZp (v := .ref _ _ _) rfl (cL rfl (zZp (v := .ref _ _ _) rfl (cL rfl (o_apR (p := 3) (q := xs.length + 1) (cc := zYy e72 (insM xs xs.length v)) tt54 tt72 rfl rfl (src_ref rfl rfl) rfl rfl (zYw w5 _) (by omega) rfl rfl (by rw [encL_app]; simp [insM]) (cL rfl (zZq (v := .ref _ _ _) rfl (eL (W.ret (zZr (rt (rt_t (v := .ref _ _ _) rfl (rt_n ⟨rfl, rfl⟩)))))))))))))
  have hlt : i < xs.length := by omega
  have hmin : min i xs.length = i := by omega
  refine W.ty [(0, .ref _ _ _), (1, .int _ _), (2, .ref _ _ _), (7, .int _ _), (8, .int _ _)] rfl ?_
  refine W.cutR (t := 0) rfl h0 fun cp hcp => ?_
  refine W.ty [(0, .cut _ _ _ _ _ _), (1, .int _ _), (2, .ref _ _ _), (7, .int _ _), (8, .int _ _)] rfl ?_
  refine W.seq' ?_
  refine W.rL ?_
  refine mI rfl rfl (mI rfl rfl (cL rfl (o_add rfl rfl (by unfold inI; omega) (cL rfl (zZp (v := .cut _ _ _ _ _ _) rfl (cL rfl (o_cap tt54 rfl (cL rfl (o_gtr rfl rfl (eL ?_))))))))))
  refine W.cn rfl (fun hc => ?_) (fun hc => W.skip (zZ ?_))
  . refine W.rS (cX rfl (zZp (v := .cut _ _ _ _ _ _) rfl (cX rfl (zZp (v := .int _ _) rfl (cX rfl (o_slC (off' := 0) (k' := 0) (m' := i) (cp' := cp) tt54 tt72 rfl rfl rfl ⟨Int.le_refl _, by omega, by omega, by omega⟩ rfl rfl (by omega) (by omega) (cX rfl (zZp (v := .int _ _) rfl (cX rfl (zZp (v := .int _ _) rfl (cX rfl (o_add rfl rfl (by unfold inI; omega) (cX rfl (zZp (v := .int _ _) rfl (cX rfl (o_sub rfl rfl (by unfold inI; omega) (cXs rfl (s_apZ (p := 3) (q0 := xs.length + 1) (cc := zYy e72 (xs.take i ++ List.replicate (xs.length + 1 - i) ⟨0, 0, 0, 0, 0⟩)) tt54 tt3 tt72 rfl rfl rfl rfl (by omega) (by rw [zYw w5]; omega) (by omega) (by omega) rfl (by omega) ?_ (cX rfl (zZq (v := .ref _ _ _) rfl (eX ?_)))))))))))))))))))))
    . rw [encL_take w5, <- encL_app, <- zeros_encL w5]
      congr 1
      show zerosA _ 5 _ = zerosA _ 5 _
      congr 1
      omega
    refine W.to (st' := ⟨95, look [(0, .ref true 0 xs.length), (1, .int .i64 (i : Int)), (2, .ref false 2 1), (7, .int .i64 ((1 : Nat) : Int)), (9, .ref true 3 (xs.length + 1))], [.row 72 5 (zYy e72 xs), .box 72 (e72 u), .row 72 5 (zYy e72 [v]), .row 72 5 (zYy e72 (xs.take i ++ List.replicate (xs.length + 1 - i) ⟨0, 0, 0, 0, 0⟩))], 3⟩) (St.to_mk (φ := [some 0, some 1, some 2, some 3]) rfl rfl ⟨Ren.cutR rfl h0, Ren.int _ _, Ren.ref rfl id, Ren.int _ _, Ren.ref rfl id, trivial⟩ ⟨zE enc72 false _ rfl, .inr ⟨_, rfl, rfl, Rens.cl (enc72.cl false _)⟩, zE enc72 false _ rfl, zE enc72 false _ rfl, trivial⟩) ?_
    have hl1 : (xs.take i ++ List.replicate (xs.length + 1 - i) (⟨0, 0, 0, 0, 0⟩ : Rg)).length = xs.length + 1 := by rw [List.length_append, List.length_take, List.length_replicate]; omega
    have e1 : (xs.take i ++ List.replicate (xs.length + 1 - i) (⟨0, 0, 0, 0, 0⟩ : Rg)).take i = xs.take i := by rw [List.take_append_of_le_length (by rw [List.length_take]; omega), List.take_take, Nat.min_self]
    refine W.rL ?_
    refine cL rfl (zZp (v := .ref _ _ _) rfl (mI rfl rfl (cL rfl (o_slR (off := i * 5) (c := xs.length + 1 - i) tt54 tt72 rfl rfl rfl ⟨by omega, by omega, by omega, Int.le_refl _⟩ (by omega) (by omega) (cL rfl (zZp (v := .ref _ _ _) rfl (cL rfl (o_cpG (q := 1) (ys := zYy e72 [v]) (zs := zYy e72 [v]) (cs' := zYy e72 (xs.take i ++ [v] ++ List.drop (i + 1) (xs.take i ++ List.replicate (xs.length + 1 - i) ⟨0, 0, 0, 0, 0⟩))) tt54 tt72 rfl (src_ref rfl rfl) rfl rfl (by omega) (by rw [show min 1 (xs.length + 1 - i) = 1 by omega]; rfl) (by rw [zYw w5, zYw w5, hl1]; simp only [List.length_singleton]; omega) ?_ (eL ?_)))))))))
    . rw [spl_enc (k := i) w5 _ _ rfl (by rw [hl1]; simp; omega), e1]; rfl
    have e2 : (xs.take i ++ [v] ++ List.drop (i + 1) (xs.take i ++ List.replicate (xs.length + 1 - i) (⟨0, 0, 0, 0, 0⟩ : Rg))).length = xs.length + 1 := by
      rw [List.length_append, List.length_drop, hl1, List.length_append, List.length_take, List.length_singleton]; omega
    have e3 : (xs.take i ++ [v] ++ List.drop (i + 1) (xs.take i ++ List.replicate (xs.length + 1 - i) (⟨0, 0, 0, 0, 0⟩ : Rg))).take (i + 1) = xs.take i ++ [v] := by
      rw [List.take_append_of_le_length (by rw [List.length_append, List.length_take, List.length_singleton]; omega), List.take_of_length_le (by rw [List.length_append, List.length_take, List.length_singleton]; omega)]
    have e4 : (xs.take i ++ [v] ++ List.drop (i + 1) (xs.take i ++ List.replicate (xs.length + 1 - i) (⟨0, 0, 0, 0, 0⟩ : Rg))).drop (i + 1 + (xs.drop i).length) = [] := List.drop_of_length_le (by rw [e2, List.length_drop]; omega)
    refine W.rD [0, 1, 2, 3, 4, 5, 6, 7, 8] (by decide +kernel) rfl ?_
    refine cL rfl (zZp (v := .ref _ _ _) rfl (mI rfl rfl (mI rfl rfl (cL rfl (o_add rfl rfl (by unfold inI; omega) (cL rfl (o_slR (off := (i + 1) * 5) (c := xs.length - i) tt54 tt72 rfl rfl rfl ⟨by omega, by omega, by omega, Int.le_refl _⟩ (by omega) (by omega) (cL rfl (zZp (v := .ref _ _ _) rfl (mI rfl rfl (cL rfl (o_slR (off := i * 5) (c := xs.length - i) tt54 tt72 rfl rfl rfl ⟨by omega, by omega, by omega, Int.le_refl _⟩ (by omega) (by omega) (cL rfl (o_cpG (q := (xs.drop i).length) (ys := zYy e72 (xs.drop i)) (zs := zYy e72 (xs.drop i)) (cs' := zYy e72 (insM xs i v)) tt54 tt72 rfl (src_subR (k := i) (xs := xs) w5 rfl rfl (List.take_of_length_le (by rw [List.length_drop]; omega)) (by rw [List.length_drop])) (zYw w5 _) rfl (by rw [List.length_drop]; omega) (List.take_of_length_le (by rw [zYw w5, List.length_drop, Nat.min_self]; exact Nat.le_refl _)) (by rw [zYw w5, zYw w5, e2, List.length_drop]; omega) ?_ (eL ?_)))))))))))))))
    . rw [spl_enc (k := i + 1) w5 _ _ rfl (by rw [e2, List.length_drop]; omega), e3, e4, List.append_nil]; rfl
    refine W.to (st' := ⟨95, look [(9, .ref true 3 (xs.length + 1))], [.dead, .box 72 (e72 u), .row 72 5 (zYy e72 [v]), .row 72 5 (zYy e72 (insM xs i v))], 3⟩) (St.to_mk (φ := [some 0, some 1, some 2, some 3]) rfl rfl ⟨Ren.ref rfl id, trivial⟩ ⟨.inl rfl, .inr ⟨_, rfl, rfl, Rens.cl (enc72.cl false _)⟩, zE enc72 false _ rfl, zE enc72 false _ rfl, trivial⟩) ?_
    refine W.rL ?_
    refine cL rfl (zZp (v := .ref _ _ _) rfl (cL rfl (zZq (v := .ref _ _ _) rfl (eL (W.ret (zZr (rt (rt_t (v := .ref _ _ _) rfl (rt_n ⟨rfl, rfl⟩)))))))))
  have hroom : xs.length + 1 <= cp := by omega
  refine W.rL ?_
  refine cL rfl (zZp (v := .cut _ _ _ _ _ _) rfl (mI rfl rfl (mI rfl rfl (cL rfl (o_add rfl rfl (by unfold inI; omega) (cL rfl (o_slC (off' := 0) (k' := 0) (m' := xs.length + 1) (cp' := cp) tt54 tt72 rfl rfl rfl ⟨Int.le_refl _, by omega, by omega, by omega⟩ rfl rfl (by omega) (by omega) (cL rfl (zZq (v := .cut _ _ _ _ _ _) rfl (eL ?_))))))))))
  refine W.seq' ?_
  refine W.rS ?_
  refine cX rfl (zZp (v := .ref _ _ _) rfl (cX rfl (zZp (v := .cut _ _ _ _ _ _) rfl (cX rfl (zZp (v := .int _ _) rfl (cX rfl (zZp (v := .int _ _) rfl (cX rfl (o_add rfl rfl (by unfold inI; omega) (cX rfl (o_slC (off' := (i + 1) * 5) (k' := i + 1) (m' := xs.length - i) (cp' := cp - (i + 1)) tt54 tt72 rfl rfl rfl ⟨by omega, by omega, by omega, by omega⟩ (by omega) (by omega) (by omega) (by omega) (cXs rfl (s_ovl (a := .tmp 61) (a2 := .tmp 66) ovF rfl rfl rfl (by omega) (by omega) rfl rfl (by show 0 < 5; omega) (by rw [zYw w5]; omega) (by omega) (cX rfl (o_notB rfl (eX ?_))))))))))))))))
  refine W.cT rfl ?_
  refine W.rD [0, 1, 2, 3, 4, 5, 6, 7, 8] (by decide +kernel) rfl ?_
  refine cL rfl (zZp (v := .cut _ _ _ _ _ _) rfl (mI rfl rfl (mI rfl rfl (cL rfl (o_add rfl rfl (by unfold inI; omega) (cL rfl (o_slC (off' := (i + 1) * 5) (k' := i + 1) (m' := xs.length - i) (cp' := cp - (i + 1)) tt54 tt72 rfl rfl rfl ⟨by omega, by omega, by omega, by omega⟩ (by omega) (by omega) (by omega) (by omega) (cL rfl (zZp (v := .cut _ _ _ _ _ _) rfl (mI rfl rfl (cL rfl (o_slC (off' := i * 5) (k' := i) (m' := xs.length + 1 - i) (cp' := cp - i) tt54 tt72 rfl rfl rfl ⟨by omega, by omega, by omega, by omega⟩ (by omega) (by omega) (by omega) (by omega) (cL rfl (o_cpC (q := xs.length - i) (ys := zYy e72 (xs.drop i)) (cs' := zYy e72 (xs.take (i + 1) ++ xs.drop i ++ xs.drop (xs.length + 1))) tt54 tt72 rfl (first_cut (q := xs.length - i) rfl (by omega) (by rw [encL_drop w5, List.take_of_length_le (by rw [zYw w5, List.length_drop]; exact Nat.le_refl _)])) (by rw [zYw w5, List.length_drop]) rfl (by omega) (by rw [zYw w5]; omega) rfl (by rw [zYw w5]; omega) (put_enc (m := xs.length + 1) w5 _ _ rfl (by omega)) (eL ?_)))))))))))))))
  have f0 : xs.take (i + 1) ++ xs.drop i ++ xs.drop (xs.length + 1) = xs.take (i + 1) ++ xs.drop i := by rw [List.drop_of_length_le (l := xs) (i := xs.length + 1) (by omega), List.append_nil]
  rw [f0]
  have f1 : (xs.take (i + 1) ++ xs.drop i).length = xs.length + 1 := by rw [List.length_append, List.length_take, List.length_drop]; omega
  have f2 : (xs.take (i + 1) ++ xs.drop i).take i ++ [v] ++ (xs.take (i + 1) ++ xs.drop i).drop (i + 1) = insM xs i v := by
    have hl : (xs.take (i + 1)).length = i + 1 := by rw [List.length_take]; omega
    rw [List.take_append_of_le_length (by omega), List.take_take, show min i (i + 1) = i by omega, List.drop_append, hl, List.drop_of_length_le (by omega), Nat.sub_self, List.drop_zero, List.nil_append]
    rfl
  refine W.rL ?_
  refine cL rfl (zZp (v := .cut _ _ _ _ _ _) rfl (mI rfl rfl (cL rfl (o_slC (off' := i * 5) (k' := i) (m' := xs.length + 1 - i) (cp' := cp - i) tt54 tt72 rfl rfl rfl ⟨by omega, by omega, by omega, by omega⟩ (by omega) (by omega) (by omega) (by omega) (cL rfl (zZp (v := .ref _ _ _) rfl (cL rfl (o_cpC (q := 1) (ys := zYy e72 [v]) (cs' := zYy e72 (insM xs i v)) tt54 tt72 rfl (first_src (m := 1) (ys := zYy e72 [v]) (fun _ _ _ _ _ _ h => by cases h) (src_ref rfl rfl) rfl (by omega) rfl) rfl rfl (by omega) (by rw [zYw w5, f1]; omega) rfl (by rw [zYw w5, f1]; omega) (by rw [put_enc (k := i) (m := i + 1) w5 _ _ rfl (by omega), f2]) (eL ?_)))))))))
  refine W.rL ?_
  refine cL rfl (zZp (v := .cut _ _ _ _ _ _) rfl (cL rfl (zZq (v := .cut _ _ _ _ _ _) rfl (eL ?_))))
  refine W.mv (id := 0) (l := [(6, .ref true 3 (xs.length + 1))]) rfl (by rw [zYw w5, insM_len]; omega) ⟨⟨_, _, _, rfl, by omega, rfl⟩, trivial⟩ ?_
  exact W.ret (zZr (rt (rt_t (v := .ref _ _ _) rfl (rt_n ⟨rfl, rfl⟩))))
theorem spec_insertI (u v : Rg) (xs : List Rg) (i : Int) (hi : 0 <= i /\ i <= (xs.length : Int)) (hx : xs.length <= 1073741823) :
    FnG Try.prog 54 [.row 72 5 (zYy e72 xs), .box 72 (e72 u), .row 72 5 (zYy e72 [v])] [.ref true 0 xs.length, .int .i64 i, .ref false 2 1]
      (fun x H' => x = .ref true 3 (xs.length + 1) /\ H' = [.dead, .box 72 (e72 u), .row 72 5 (zYy e72 [v]), .row 72 5 (zYy e72 (insM xs i.toNat v))]) := by
  have := spec_insert u v xs i.toNat (by omega) hx
  rwa [show ((i.toNat : Nat) : Int) = i by omega] at this
theorem up_ins (u v : Rg) (xs : List Rg) : UpH [.row 72 5 (zYy e72 xs), .box 72 (e72 u), .row 72 5 (zYy e72 [v])] [.row 72 5 (zYy e72 xs), .box 72 (e72 u), .row 72 5 (zYy e72 [v])] := UpH.self fun o ho => by
  simp only [List.mem_cons, List.not_mem_nil, or_false] at ho
  rcases ho with rfl | rfl | rfl
  . exact ⟨rfl, rfl, rfl, Ups.flat (flat72 _)⟩
  . exact ⟨rfl, Ups.flat fun c hc => flat72 [u] c (by simpa [zYy] using hc)⟩
  . exact ⟨rfl, rfl, rfl, Ups.flat (flat72 _)⟩
theorem ups_ins {a c : Nat} {nb mb : Bool} {i : Int} {q r : Nat} : Ups ([] ++ [.ref nb a q, .int .i64 i, .ref mb c r] ++ []) [.ref nb a q, .int .i64 i, .ref mb c r] := Ups.cons (Up.up rfl) (Ups.cons (Up.up rfl) (Ups.cons (Up.up rfl) Ups.nil))
end Go.Lat
