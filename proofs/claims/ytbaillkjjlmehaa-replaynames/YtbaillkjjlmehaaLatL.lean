/- The law latecomerlaw24.ReplayNames returns true for every input, and each argument reads afterwards as it read before. Part 12 of 13. No condition. -/
import Derived.Test.YtbaillkjjlmehaaLatE
import Derived.Test.YtbaillkjjlmehaaLatD
import Derived.Test.YtbaillkjjlmehaaLatH
import Derived.Test.YtbaillkjjlmehaaLatK
import Derived.Test.YtbaillkjjlmehaaLatG
set_option linter.unusedVariables false
set_option linter.unusedSimpArgs false
set_option linter.unnecessarySimpa false
set_option maxRecDepth 100000
set_option maxHeartbeats 4000000
namespace Go.Lat
open Go.RowKit Go.Proofs
def vc_names (c : Cas) (one : Int) (two : Int) (Post : Bool -> Prop) : Prop :=
  (CasOk c) /\ (((madeC c false).causes = 0) -> Post true) /\ (¬ ((madeC c false).causes = 0) -> (1 <= ((madeC c false).causes)) /\ (inI one) /\ (1 <= ((madeC c false).causes)) /\ (inI two) /\ (((madeC c false).ex).length <= 1073741824) /\ (((madeC c false).ex).length <= 1073741824) /\ ∃ (I1 : Int -> List Int -> List Job -> Int -> Int -> Int -> List Ext -> List Int -> List Job -> Int -> Int -> Int -> List Ext -> Prop) (μ1 : Int -> List Int -> List Job -> Int -> Int -> Int -> List Ext -> List Int -> List Job -> Int -> Int -> Int -> List Ext -> Nat), I1 0 ((madeC c false).sv) ((madeC c false).jobs) ((madeC c false).late) ((madeC c false).obj) ((madeC c false).causes) ((madeC c false).ex) ((madeC c false).sv) ((madeC c false).jobs) ((madeC c false).late) ((madeC c false).obj) ((madeC c false).causes) ((madeC c false).ex) /\ ∀ (v13 : Int) (b2sv : List Int) (b2jobs : List Job) (b2late : Int) (b2obj : Int) (b2causes : Int) (r4 : List Ext) (b5sv : List Int) (b5jobs : List Job) (b5late : Int) (b5obj : Int) (b5causes : Int) (r7 : List Ext), I1 v13 b2sv b2jobs b2late b2obj b2causes r4 b5sv b5jobs b5late b5obj b5causes r7 -> ((v13 < ((((madeC c false).ex).length : Nat) : Int)) -> ∃ J2 : List Ext -> List Ext -> Prop, (∀ (r4_1 : List Ext) (r7_1 : List Ext), J2 r4_1 r7_1 -> (inI (v13 + 1)) /\ (I1 (v13 + 1) b2sv b2jobs b2late b2obj b2causes r4_1 b5sv b5jobs b5late b5obj b5causes r7_1 /\ μ1 (v13 + 1) b2sv b2jobs b2late b2obj b2causes r4_1 b5sv b5jobs b5late b5obj b5causes r7_1 < μ1 v13 b2sv b2jobs b2late b2obj b2causes r4 b5sv b5jobs b5late b5obj b5causes r7)) /\ (∃ J3 : List Ext -> Prop, (∀ (r4_1 : List Ext), J3 r4_1 -> (0 <= v13 /\ v13 < (((madeC c false).ex).length : Int)) /\ (((lat ((madeC c false).ex) v13).ca = pickM two ((madeC c false).causes)) -> (0 <= v13 /\ v13 < ((r4_1.length : Nat) : Int)) /\ (0 <= v13 /\ v13 < ((r7.length : Nat) : Int)) /\ J2 (r4_1.set v13.toNat (⟨(lat r4_1 v13).jb, (lat r4_1 v13).pc, pickM one ((madeC c false).causes), (lat r4_1 v13).ba, (lat r4_1 v13).op, (lat r4_1 v13).ver⟩ : Ext)) (r7.set v13.toNat (⟨(lat r7 v13).jb, (lat r7 v13).pc, pickM one ((madeC c false).causes), (lat r7 v13).ba, (lat r7 v13).op, (lat r7 v13).ver⟩ : Ext))) /\ (¬ ((lat ((madeC c false).ex) v13).ca = pickM two ((madeC c false).causes)) -> J2 r4_1 r7)) /\ ((0 <= v13 /\ v13 < (((madeC c false).ex).length : Int)) /\ (((lat ((madeC c false).ex) v13).ca = pickM one ((madeC c false).causes)) -> (0 <= v13 /\ v13 < ((r4.length : Nat) : Int)) /\ J3 (r4.set v13.toNat (⟨(lat r4 v13).jb, (lat r4 v13).pc, pickM two ((madeC c false).causes), (lat r4 v13).ba, (lat r4 v13).op, (lat r4 v13).ver⟩ : Ext))) /\ (¬ ((lat ((madeC c false).ex) v13).ca = pickM one ((madeC c false).causes)) -> J3 r4)))) /\ (¬ (v13 < ((((madeC c false).ex).length : Nat) : Int)) -> ((madeC c false).sv.length <= 9223372036854775807) /\ (∀ j ∈ (madeC c false).jobs, j.wk.length <= 9223372036854775807) /\ ((madeC c false).jobs.length <= 9223372036854775807) /\ ((madeC c false).ex.length <= 9223372036854775807) /\ ((Req.mk b2sv b2jobs b2late b2obj b2causes r4).sv.length <= 9223372036854775807) /\ (∀ j ∈ (Req.mk b2sv b2jobs b2late b2obj b2causes r4).jobs, j.wk.length <= 9223372036854775807) /\ ((Req.mk b2sv b2jobs b2late b2obj b2causes r4).jobs.length <= 9223372036854775807) /\ ((Req.mk b2sv b2jobs b2late b2obj b2causes r4).ex.length <= 9223372036854775807) /\ ((Req.mk b5sv b5jobs b5late b5obj b5causes r7).sv.length <= 9223372036854775807) /\ (∀ j ∈ (Req.mk b5sv b5jobs b5late b5obj b5causes r7).jobs, j.wk.length <= 9223372036854775807) /\ ((Req.mk b5sv b5jobs b5late b5obj b5causes r7).jobs.length <= 9223372036854775807) /\ ((Req.mk b5sv b5jobs b5late b5obj b5causes r7).ex.length <= 9223372036854775807) /\ (((¬ (valuesM (madeC c false)).2 = 0) -> True) /\ (¬ (¬ (valuesM (madeC c false)).2 = 0) -> ((¬ (valuesM (Req.mk b2sv b2jobs b2late b2obj b2causes r4)).2 = 0) -> True) /\ (¬ (¬ (valuesM (Req.mk b2sv b2jobs b2late b2obj b2causes r4)).2 = 0) -> ((¬ (valuesM (Req.mk b5sv b5jobs b5late b5obj b5causes r7)).2 = 0) -> True) /\ (¬ (¬ (valuesM (Req.mk b5sv b5jobs b5late b5obj b5causes r7)).2 = 0) -> (0 <= ((madeC c false).causes)) /\ (inI (1 * 2 ^ (min ((madeC c false).causes).toNat 64))) /\ True)))) /\ ((((¬ (valuesM (madeC c false)).2 = 0) \/ ((¬ (valuesM (Req.mk b2sv b2jobs b2late b2obj b2causes r4)).2 = 0) \/ ((¬ (valuesM (Req.mk b5sv b5jobs b5late b5obj b5causes r7)).2 = 0) \/ ((¬ ((((valuesM (madeC c false)).1).length : Nat) : Int) = 1 * 2 ^ (min ((madeC c false).causes).toNat 64)) \/ ((¬ ((((valuesM (Req.mk b2sv b2jobs b2late b2obj b2causes r4)).1).length : Nat) : Int) = ((((valuesM (madeC c false)).1).length : Nat) : Int)) \/ (¬ ((((valuesM (Req.mk b5sv b5jobs b5late b5obj b5causes r7)).1).length : Nat) : Int) = ((((valuesM (madeC c false)).1).length : Nat) : Int))))))) -> Post false) /\ (¬ ((¬ (valuesM (madeC c false)).2 = 0) \/ ((¬ (valuesM (Req.mk b2sv b2jobs b2late b2obj b2causes r4)).2 = 0) \/ ((¬ (valuesM (Req.mk b5sv b5jobs b5late b5obj b5causes r7)).2 = 0) \/ ((¬ ((((valuesM (madeC c false)).1).length : Nat) : Int) = 1 * 2 ^ (min ((madeC c false).causes).toNat 64)) \/ ((¬ ((((valuesM (Req.mk b2sv b2jobs b2late b2obj b2causes r4)).1).length : Nat) : Int) = ((((valuesM (madeC c false)).1).length : Nat) : Int)) \/ (¬ ((((valuesM (Req.mk b5sv b5jobs b5late b5obj b5causes r7)).1).length : Nat) : Int) = ((((valuesM (madeC c false)).1).length : Nat) : Int))))))) -> ∃ (I4 : Int -> Prop) (μ4 : Int -> Nat), I4 0 /\ ∀ (v20 : Int), I4 v20 -> ((v20 < ((((valuesM (madeC c false)).1).length : Nat) : Int)) -> (0 <= (pickM one ((madeC c false).causes))) /\ (inI (1 * 2 ^ (min (pickM one ((madeC c false).causes)).toNat 64))) /\ (0 <= (pickM two ((madeC c false).causes))) /\ (inI (1 * 2 ^ (min (pickM two ((madeC c false).causes)).toNat 64))) /\ (0 <= (pickM one ((madeC c false).causes))) /\ (0 <= (pickM two ((madeC c false).causes))) /\ (inI ((bitI .and .i64 (v20.fdiv (2 ^ (min (pickM one ((madeC c false).causes)).toNat 64))) 1) * 2 ^ (min (pickM two ((madeC c false).causes)).toNat 64))) /\ (0 <= (pickM two ((madeC c false).causes))) /\ (0 <= (pickM one ((madeC c false).causes))) /\ (inI ((bitI .and .i64 (v20.fdiv (2 ^ (min (pickM two ((madeC c false).causes)).toNat 64))) 1) * 2 ^ (min (pickM one ((madeC c false).causes)).toNat 64))) /\ (0 <= (pickM one ((madeC c false).causes))) /\ (0 <= (pickM one ((madeC c false).causes))) /\ (inI ((bitI .and .i64 (v20.fdiv (2 ^ (min (pickM one ((madeC c false).causes)).toNat 64))) 1) * 2 ^ (min (pickM one ((madeC c false).causes)).toNat 64))) /\ (0 <= (pickM one ((madeC c false).causes))) /\ (0 <= (pickM two ((madeC c false).causes))) /\ (inI ((bitI .and .i64 (v20.fdiv (2 ^ (min (pickM one ((madeC c false).causes)).toNat 64))) 1) * 2 ^ (min (pickM two ((madeC c false).causes)).toNat 64))) /\ ((0 <= (bitI .or .i64 (bitI .or .i64 (bitI .andNot .i64 v20 (bitI .or .i64 (1 * 2 ^ (min (pickM one ((madeC c false).causes)).toNat 64)) (1 * 2 ^ (min (pickM two ((madeC c false).causes)).toNat 64)))) ((bitI .and .i64 (v20.fdiv (2 ^ (min (pickM one ((madeC c false).causes)).toNat 64))) 1) * 2 ^ (min (pickM two ((madeC c false).causes)).toNat 64))) ((bitI .and .i64 (v20.fdiv (2 ^ (min (pickM two ((madeC c false).causes)).toNat 64))) 1) * 2 ^ (min (pickM one ((madeC c false).causes)).toNat 64))) /\ (bitI .or .i64 (bitI .or .i64 (bitI .andNot .i64 v20 (bitI .or .i64 (1 * 2 ^ (min (pickM one ((madeC c false).causes)).toNat 64)) (1 * 2 ^ (min (pickM two ((madeC c false).causes)).toNat 64)))) ((bitI .and .i64 (v20.fdiv (2 ^ (min (pickM one ((madeC c false).causes)).toNat 64))) 1) * 2 ^ (min (pickM two ((madeC c false).causes)).toNat 64))) ((bitI .and .i64 (v20.fdiv (2 ^ (min (pickM two ((madeC c false).causes)).toNat 64))) 1) * 2 ^ (min (pickM one ((madeC c false).causes)).toNat 64))) < (((valuesM (Req.mk b2sv b2jobs b2late b2obj b2causes r4)).1).length : Int)) /\ (0 <= v20 /\ v20 < (((valuesM (madeC c false)).1).length : Int)) /\ ((¬ lat ((valuesM (Req.mk b2sv b2jobs b2late b2obj b2causes r4)).1) (bitI .or .i64 (bitI .or .i64 (bitI .andNot .i64 v20 (bitI .or .i64 (1 * 2 ^ (min (pickM one ((madeC c false).causes)).toNat 64)) (1 * 2 ^ (min (pickM two ((madeC c false).causes)).toNat 64)))) ((bitI .and .i64 (v20.fdiv (2 ^ (min (pickM one ((madeC c false).causes)).toNat 64))) 1) * 2 ^ (min (pickM two ((madeC c false).causes)).toNat 64))) ((bitI .and .i64 (v20.fdiv (2 ^ (min (pickM two ((madeC c false).causes)).toNat 64))) 1) * 2 ^ (min (pickM one ((madeC c false).causes)).toNat 64))) = lat ((valuesM (madeC c false)).1) v20) -> True) /\ (¬ (¬ lat ((valuesM (Req.mk b2sv b2jobs b2late b2obj b2causes r4)).1) (bitI .or .i64 (bitI .or .i64 (bitI .andNot .i64 v20 (bitI .or .i64 (1 * 2 ^ (min (pickM one ((madeC c false).causes)).toNat 64)) (1 * 2 ^ (min (pickM two ((madeC c false).causes)).toNat 64)))) ((bitI .and .i64 (v20.fdiv (2 ^ (min (pickM one ((madeC c false).causes)).toNat 64))) 1) * 2 ^ (min (pickM two ((madeC c false).causes)).toNat 64))) ((bitI .and .i64 (v20.fdiv (2 ^ (min (pickM two ((madeC c false).causes)).toNat 64))) 1) * 2 ^ (min (pickM one ((madeC c false).causes)).toNat 64))) = lat ((valuesM (madeC c false)).1) v20) -> (0 <= v20 /\ v20 < (((valuesM (Req.mk b5sv b5jobs b5late b5obj b5causes r7)).1).length : Int)) /\ (0 <= (bitI .or .i64 (bitI .or .i64 (bitI .andNot .i64 v20 (bitI .or .i64 (1 * 2 ^ (min (pickM one ((madeC c false).causes)).toNat 64)) (1 * 2 ^ (min (pickM two ((madeC c false).causes)).toNat 64)))) ((bitI .and .i64 (v20.fdiv (2 ^ (min (pickM one ((madeC c false).causes)).toNat 64))) 1) * 2 ^ (min (pickM one ((madeC c false).causes)).toNat 64))) ((bitI .and .i64 (v20.fdiv (2 ^ (min (pickM one ((madeC c false).causes)).toNat 64))) 1) * 2 ^ (min (pickM two ((madeC c false).causes)).toNat 64))) /\ (bitI .or .i64 (bitI .or .i64 (bitI .andNot .i64 v20 (bitI .or .i64 (1 * 2 ^ (min (pickM one ((madeC c false).causes)).toNat 64)) (1 * 2 ^ (min (pickM two ((madeC c false).causes)).toNat 64)))) ((bitI .and .i64 (v20.fdiv (2 ^ (min (pickM one ((madeC c false).causes)).toNat 64))) 1) * 2 ^ (min (pickM one ((madeC c false).causes)).toNat 64))) ((bitI .and .i64 (v20.fdiv (2 ^ (min (pickM one ((madeC c false).causes)).toNat 64))) 1) * 2 ^ (min (pickM two ((madeC c false).causes)).toNat 64))) < (((valuesM (madeC c false)).1).length : Int)) /\ True)) /\ ((((¬ lat ((valuesM (Req.mk b2sv b2jobs b2late b2obj b2causes r4)).1) (bitI .or .i64 (bitI .or .i64 (bitI .andNot .i64 v20 (bitI .or .i64 (1 * 2 ^ (min (pickM one ((madeC c false).causes)).toNat 64)) (1 * 2 ^ (min (pickM two ((madeC c false).causes)).toNat 64)))) ((bitI .and .i64 (v20.fdiv (2 ^ (min (pickM one ((madeC c false).causes)).toNat 64))) 1) * 2 ^ (min (pickM two ((madeC c false).causes)).toNat 64))) ((bitI .and .i64 (v20.fdiv (2 ^ (min (pickM two ((madeC c false).causes)).toNat 64))) 1) * 2 ^ (min (pickM one ((madeC c false).causes)).toNat 64))) = lat ((valuesM (madeC c false)).1) v20) \/ (¬ lat ((valuesM (Req.mk b5sv b5jobs b5late b5obj b5causes r7)).1) v20 = lat ((valuesM (madeC c false)).1) (bitI .or .i64 (bitI .or .i64 (bitI .andNot .i64 v20 (bitI .or .i64 (1 * 2 ^ (min (pickM one ((madeC c false).causes)).toNat 64)) (1 * 2 ^ (min (pickM two ((madeC c false).causes)).toNat 64)))) ((bitI .and .i64 (v20.fdiv (2 ^ (min (pickM one ((madeC c false).causes)).toNat 64))) 1) * 2 ^ (min (pickM one ((madeC c false).causes)).toNat 64))) ((bitI .and .i64 (v20.fdiv (2 ^ (min (pickM one ((madeC c false).causes)).toNat 64))) 1) * 2 ^ (min (pickM two ((madeC c false).causes)).toNat 64))))) -> Post false) /\ (¬ ((¬ lat ((valuesM (Req.mk b2sv b2jobs b2late b2obj b2causes r4)).1) (bitI .or .i64 (bitI .or .i64 (bitI .andNot .i64 v20 (bitI .or .i64 (1 * 2 ^ (min (pickM one ((madeC c false).causes)).toNat 64)) (1 * 2 ^ (min (pickM two ((madeC c false).causes)).toNat 64)))) ((bitI .and .i64 (v20.fdiv (2 ^ (min (pickM one ((madeC c false).causes)).toNat 64))) 1) * 2 ^ (min (pickM two ((madeC c false).causes)).toNat 64))) ((bitI .and .i64 (v20.fdiv (2 ^ (min (pickM two ((madeC c false).causes)).toNat 64))) 1) * 2 ^ (min (pickM one ((madeC c false).causes)).toNat 64))) = lat ((valuesM (madeC c false)).1) v20) \/ (¬ lat ((valuesM (Req.mk b5sv b5jobs b5late b5obj b5causes r7)).1) v20 = lat ((valuesM (madeC c false)).1) (bitI .or .i64 (bitI .or .i64 (bitI .andNot .i64 v20 (bitI .or .i64 (1 * 2 ^ (min (pickM one ((madeC c false).causes)).toNat 64)) (1 * 2 ^ (min (pickM two ((madeC c false).causes)).toNat 64)))) ((bitI .and .i64 (v20.fdiv (2 ^ (min (pickM one ((madeC c false).causes)).toNat 64))) 1) * 2 ^ (min (pickM one ((madeC c false).causes)).toNat 64))) ((bitI .and .i64 (v20.fdiv (2 ^ (min (pickM one ((madeC c false).causes)).toNat 64))) 1) * 2 ^ (min (pickM two ((madeC c false).causes)).toNat 64))))) -> (inI (v20 + 1)) /\ (I4 (v20 + 1) /\ μ4 (v20 + 1) < μ4 v20)))) /\ (¬ (v20 < ((((valuesM (madeC c false)).1).length : Nat) : Int)) -> Post true)))))
theorem walk_names {c : Cas} {one : Int} {two : Int} {Post : Bool -> Prop} (hv : vc_names c one two Post) : FnP Try.prog 8 [.agg ((e31 true) c), .int .i64 one, .int .i64 two] (fun x => ∃ q0, x = .bool q0 /\ Post q0) := by
 refine FnP.of_walk (T := tt) (nt := 203) ttOk ttMix ⟨⟨Try.f8, Try.func8, rfl, rfl, rfl, rfl⟩⟩ (by simp) ?_
 unfold vc_names at hv
 change W _ _ _ ⟨203, look [(0, .agg [.int .i64 c.sv.x0, .int .i64 c.sv.x1, .int .i64 c.sv.x2, .lst true c.jobs.length (zYy eV6 c.jobs), .lst true c.ex.length (zYy e27 c.ex), .int .i64 c.late, .int .i64 c.obj]), (1, .int .i64 one), (2, .int .i64 two)], [], 0⟩ _
 refine W.rL (cL rfl (o_box (v := .agg _) (p := 0) rfl rfl rfl (aB rfl rfl (eL (W.tr [(1, .int _ _), (2, .int _ _), (3, .ptr _ _)] [.box _ [.int _ _, .int _ _, .int _ _, .lst _ _ _, .lst _ _ _, .int _ _, .int _ _]] ⟨rfl, rfl, rfl, trivial⟩ rfl (W.rL (cL rfl (zZu (k := 10) (fst := []) (caps := []) (ys := []) rfl rfl (spec_sane) (Wks.refl _) (aB rfl rfl (eL (W.rL (cL rfl (zYp (cs := [.int _ _, .int _ _, .int _ _, .lst _ _ _, .lst _ _ _, .int _ _, .int _ _]) tt31 rfl rfl ⟨_, rfl⟩ rfl ?_)))))))))))))
 obtain ⟨s1, hv⟩ := hv
 refine cL rfl (zZu (k := 12) (fst := []) (caps := []) (ys := [.agg _, .bool _]) rfl rfl (spec_made c false s1) (Wks.cons (zXx 5 _ (Wks.cons (zZz _ _ _ _) (Wks.cons (zZz _ _ _ _) (Wks.cons (zZz _ _ _ _) (Wks.cons (zZs _ _ _ _ _) (Wks.cons (zZs _ _ _ _ _) (Wks.cons (zZz _ _ _ _) (Wks.cons (zZz _ _ _ _) (Wks.refl _))))))))) (Wks.cons (ag_bool _ _ _) (Wks.refl _))) (cL rfl (zXy (p := 1) tt26 rfl rfl (cLn (o_stB (v := .agg _) (vs := [.lst _ _ _, .lst _ _ _, .int _ _, .int _ _, .int _ _, .lst _ _ _]) (cs2 := [.lst _ _ _, .lst _ _ _, .int _ _, .int _ _, .int _ _, .lst _ _ _]) tt26 rfl rfl rfl rfl rfl (Nat.le_of_ble_eq_true rfl) rfl (eL (W.tr [(1, .int _ _), (2, .int _ _), (7, .bool _), (8, .ptr _ _)] [.box _ [.int _ _, .int _ _, .int _ _, .lst _ _ _, .lst _ _ _, .int _ _, .int _ _], .box _ [.lst _ _ _, .lst _ _ _, .int _ _, .int _ _, .int _ _, .lst _ _ _]] ⟨rfl, rfl, rfl, rfl, trivial⟩ rfl (W.seq' (W.rL (cL rfl (o_fa tt26 rfl tt3 rfl (cL rfl (zZx (v := .int _ _) tt3 rfl rfl ⟨_, rfl⟩ (cL rfl (o_eqI rfl rfl rfl (eL (W.cn rfl (fun hc => ?_) (fun hc => ?_))))))))))))))))))
 have hv := hv.1 hc
 refine W.rL (mB rfl rfl (aB rfl rfl (eL (W.ret (zZr (rt (rt_t (v := .bool _) rfl (rt_n (⟨_, zYr _ _ _, true, rfl, hv⟩)))))))))
 have hv := hv.2 hc
 refine W.skip (zZ (W.rL (mI rfl rfl (cL rfl (o_fa tt26 rfl tt3 rfl (cL rfl (zZx (v := .int _ _) tt3 rfl rfl ⟨_, rfl⟩ ?_)))))))
 obtain ⟨s2, s3, hv⟩ := hv
 refine cL rfl (zZu (k := 20) (fst := []) (caps := []) (ys := [.int _ _, .int _ _]) rfl rfl (spec_pick20 one ((madeC c false).causes) s2 s3) (Wks.cons (zZz _ _ _ _) (Wks.cons (zZz _ _ _ _) (Wks.refl _))) (aI rfl rfl (eL (W.rL (mI rfl rfl (cL rfl (o_fa tt26 rfl tt3 rfl (cL rfl (zZx (v := .int _ _) tt3 rfl rfl ⟨_, rfl⟩ ?_)))))))))
 obtain ⟨s4, s5, hv⟩ := hv
 refine cL rfl (zZu (k := 20) (fst := []) (caps := []) (ys := [.int _ _, .int _ _]) rfl rfl (spec_pick20 two ((madeC c false).causes) s4 s5) (Wks.cons (zZz _ _ _ _) (Wks.cons (zZz _ _ _ _) (Wks.refl _))) (aI rfl rfl (eL (W.rL (cL rfl (zYp (cs := [.lst _ _ _, .lst _ _ _, .int _ _, .int _ _, .int _ _, .lst _ _ _]) tt26 rfl rfl ⟨_, rfl⟩ rfl (cL rfl (zXy (p := 2) tt26 rfl rfl (cLn (o_stB (v := .agg _) (vs := [.lst _ _ _, .lst _ _ _, .int _ _, .int _ _, .int _ _, .lst _ _ _]) (cs2 := [.lst _ _ _, .lst _ _ _, .int _ _, .int _ _, .int _ _, .lst _ _ _]) tt26 rfl rfl rfl rfl rfl (Nat.le_of_ble_eq_true rfl) rfl (eL (W.tr [(7, .bool _), (8, .ptr _ _), (9, .int _ _), (10, .int _ _), (11, .ptr _ _)] [.box _ [.int _ _, .int _ _, .int _ _, .lst _ _ _, .lst _ _ _, .int _ _, .int _ _], .box _ [.lst _ _ _, .lst _ _ _, .int _ _, .int _ _, .int _ _, .lst _ _ _], .box _ [.lst _ _ _, .lst _ _ _, .int _ _, .int _ _, .int _ _, .lst _ _ _]] ⟨rfl, rfl, rfl, rfl, rfl, trivial⟩ rfl (W.rL (cL rfl (o_buildS (q := 3) (qs := []) (cs := []) tt24 tt58 rfl rfl rfl rfl (cL rfl (o_fa tt26 rfl tt24 rfl (cL rfl (zZx (v := .lst _ _ _) tt24 rfl rfl ⟨_, rfl⟩ ?_)))))))))))))))))))
 obtain ⟨s6, hv⟩ := hv
 refine cL rfl (o_apR (p := 4) (q := ((madeC c false).ex).length) tt24 tt58 rfl rfl (src_lst (enc58.wd true) _ _ rfl) (zYw (enc58.wd true) _) rfl rfl (by simpa using s6) rfl (Nat.zero_add _) (List.nil_append _) (cL rfl (o_fa tt26 rfl tt24 rfl (cLn (o_stB (v := .ref _ _ _) (vs := [.ref _ _ _]) (cs2 := [.lst _ _ _, .lst _ _ _, .int _ _, .int _ _, .int _ _, .ref _ _ _]) tt24 rfl rfl rfl rfl rfl (Nat.le_of_ble_eq_true rfl) rfl (eL (W.tr [(7, .bool _), (8, .ptr _ _), (9, .int _ _), (10, .int _ _), (11, .ptr _ _)] [.box _ [.int _ _, .int _ _, .int _ _, .lst _ _ _, .lst _ _ _, .int _ _, .int _ _], .box _ [.lst _ _ _, .lst _ _ _, .int _ _, .int _ _, .int _ _, .lst _ _ _], .box _ [.lst _ _ _, .lst _ _ _, .int _ _, .int _ _, .int _ _, .ref _ _ _], .dead, .row _ _ _] ⟨rfl, rfl, rfl, rfl, rfl, trivial⟩ rfl (W.rL (cL rfl (zYp (cs := [.lst _ _ _, .lst _ _ _, .int _ _, .int _ _, .int _ _, .lst _ _ _]) tt26 rfl rfl ⟨_, rfl⟩ rfl (cL rfl (zXy (p := 5) tt26 rfl rfl (cLn (o_stB (v := .agg _) (vs := [.lst _ _ _, .lst _ _ _, .int _ _, .int _ _, .int _ _, .lst _ _ _]) (cs2 := [.lst _ _ _, .lst _ _ _, .int _ _, .int _ _, .int _ _, .lst _ _ _]) tt26 rfl rfl rfl rfl rfl (Nat.le_of_ble_eq_true rfl) rfl (eL (W.tr [(7, .bool _), (8, .ptr _ _), (9, .int _ _), (10, .int _ _), (11, .ptr _ _), (12, .ptr _ _)] [.box _ [.int _ _, .int _ _, .int _ _, .lst _ _ _, .lst _ _ _, .int _ _, .int _ _], .box _ [.lst _ _ _, .lst _ _ _, .int _ _, .int _ _, .int _ _, .lst _ _ _], .box _ [.lst _ _ _, .lst _ _ _, .int _ _, .int _ _, .int _ _, .ref _ _ _], .dead, .row _ _ _, .box _ [.lst _ _ _, .lst _ _ _, .int _ _, .int _ _, .int _ _, .lst _ _ _]] ⟨rfl, rfl, rfl, rfl, rfl, rfl, trivial⟩ rfl (W.rL (cL rfl (o_buildS (q := 6) (qs := []) (cs := []) tt24 tt58 rfl rfl rfl rfl (cL rfl (o_fa tt26 rfl tt24 rfl (cL rfl (zZx (v := .lst _ _ _) tt24 rfl rfl ⟨_, rfl⟩ ?_)))))))))))))))))))))))
 obtain ⟨s7, hv⟩ := hv
 refine cL rfl (o_apR (p := 7) (q := ((madeC c false).ex).length) tt24 tt58 rfl rfl (src_lst (enc58.wd true) _ _ rfl) (zYw (enc58.wd true) _) rfl rfl (by simpa using s7) rfl (Nat.zero_add _) (List.nil_append _) (cL rfl (o_fa tt26 rfl tt24 rfl (cLn (o_stB (v := .ref _ _ _) (vs := [.ref _ _ _]) (cs2 := [.lst _ _ _, .lst _ _ _, .int _ _, .int _ _, .int _ _, .ref _ _ _]) tt24 rfl rfl rfl rfl rfl (Nat.le_of_ble_eq_true rfl) rfl (eL (W.tr [(7, .bool _), (8, .ptr _ _), (9, .int _ _), (10, .int _ _), (11, .ptr _ _), (12, .ptr _ _)] [.box _ [.int _ _, .int _ _, .int _ _, .lst _ _ _, .lst _ _ _, .int _ _, .int _ _], .box _ [.lst _ _ _, .lst _ _ _, .int _ _, .int _ _, .int _ _, .lst _ _ _], .box _ [.lst _ _ _, .lst _ _ _, .int _ _, .int _ _, .int _ _, .ref _ _ _], .dead, .row _ _ _, .box _ [.lst _ _ _, .lst _ _ _, .int _ _, .int _ _, .int _ _, .ref _ _ _], .dead, .row _ _ _] ⟨rfl, rfl, rfl, rfl, rfl, rfl, trivial⟩ rfl (W.seq' (W.rL (aI rfl rfl (eL (W.block ?_))))))))))))
 obtain ⟨I1, μ1, hp, hv⟩ := hv
 refine W.loop13 (fun v13 b2sv b2jobs b2late b2obj b2causes r4 b5sv b5jobs b5late b5obj b5causes r7 => ⟨203, look [(7, .bool true), (8, .ptr 1 0), (9, .int .i64 (pickM one ((madeC c false).causes))), (10, .int .i64 (pickM two ((madeC c false).causes))), (11, .ptr 2 0), (12, .ptr 5 0), (13, .int .i64 v13)], [.dead, .box 26 [.lst false ((madeC c false).sv).length (zYy zYx ((madeC c false).sv)), .lst false ((madeC c false).jobs).length (zYy (e53 true) ((madeC c false).jobs)), .int .i64 ((madeC c false).late), .int .i64 ((madeC c false).obj), .int .i64 ((madeC c false).causes), .lst false ((madeC c false).ex).length (zYy e58 ((madeC c false).ex))], .box 26 [.lst false b2sv.length (zYy zYx b2sv), .lst false b2jobs.length (zYy (e53 true) b2jobs), .int .i64 b2late, .int .i64 b2obj, .int .i64 b2causes, .ref false 4 r4.length], .dead, .row 58 6 (zYy e58 r4), .box 26 [.lst false b5sv.length (zYy zYx b5sv), .lst false b5jobs.length (zYy (e53 true) b5jobs), .int .i64 b5late, .int .i64 b5obj, .int .i64 b5causes, .ref false 7 r7.length], .dead, .row 58 6 (zYy e58 r7)], 0⟩) I1 μ1 0 ((madeC c false).sv) ((madeC c false).jobs) ((madeC c false).late) ((madeC c false).obj) ((madeC c false).causes) ((madeC c false).ex) ((madeC c false).sv) ((madeC c false).jobs) ((madeC c false).late) ((madeC c false).obj) ((madeC c false).causes) ((madeC c false).ex) (St.to_mk (φ := [none, some 1, some 2, none, some 4, some 5, none, some 7]) rfl (rfl) ⟨Ren.bool _, Ren.ptr rfl, Ren.int _ _, Ren.int _ _, Ren.ptr rfl, Ren.ptr rfl, Ren.int _ _, trivial⟩ ⟨rfl, .inr ⟨_, rfl, rfl, Rens.cons (Ren.lst _ _ _) (Rens.cons (Ren.lst _ _ _) (Rens.cons (Ren.int _ _) (Rens.cons (Ren.int _ _) (Rens.cons (Ren.int _ _) (Rens.cons (Ren.lst _ _ _) (Rens.nil))))))⟩, .inr ⟨_, rfl, rfl, Rens.cons (Ren.lst _ _ _) (Rens.cons (Ren.lst _ _ _) (Rens.cons (Ren.int _ _) (Rens.cons (Ren.int _ _) (Rens.cons (Ren.int _ _) (Rens.cons (Ren.ref rfl (fun h => h)) (Rens.nil))))))⟩, rfl, .inr ⟨_, rfl, rfl, rfl, rfl, Rens.enc enc58 false ((madeC c false).ex)⟩, .inr ⟨_, rfl, rfl, Rens.cons (Ren.lst _ _ _) (Rens.cons (Ren.lst _ _ _) (Rens.cons (Ren.int _ _) (Rens.cons (Ren.int _ _) (Rens.cons (Ren.int _ _) (Rens.cons (Ren.ref rfl (fun h => h)) (Rens.nil))))))⟩, rfl, .inr ⟨_, rfl, rfl, rfl, rfl, Rens.enc enc58 false ((madeC c false).ex)⟩, trivial⟩) hp ?_
 clear hp
 intro v13 b2sv b2jobs b2late b2obj b2causes r4 b5sv b5jobs b5late b5obj b5causes r7 hI
 replace hv := hv v13 b2sv b2jobs b2late b2obj b2causes r4 b5sv b5jobs b5late b5obj b5causes r7 hI
 clear hI
 refine W.seq' (W.rL (mI rfl rfl (cL rfl (o_fa tt26 rfl tt24 rfl (cL rfl (zZx (v := .lst _ _ _) tt24 rfl rfl ⟨_, rfl⟩ (cL rfl (zXw (v := .lst _ _ _) tt24 rfl rfl (cL rfl (zYq rfl rfl (eL (W.cn rfl (fun hc => ?_) (fun hc => ?_)))))))))))))
 have hv := hv.1 hc
 refine W.skip (zZ ?_)
 obtain ⟨J2, hj, hv⟩ := hv
 refine W.mid2 (fun r4_1 r7_1 => ⟨203, look [(7, .bool true), (8, .ptr 1 0), (9, .int .i64 (pickM one ((madeC c false).causes))), (10, .int .i64 (pickM two ((madeC c false).causes))), (11, .ptr 2 0), (12, .ptr 5 0), (13, .int .i64 v13)], [.dead, .box 26 [.lst false ((madeC c false).sv).length (zYy zYx ((madeC c false).sv)), .lst false ((madeC c false).jobs).length (zYy (e53 true) ((madeC c false).jobs)), .int .i64 ((madeC c false).late), .int .i64 ((madeC c false).obj), .int .i64 ((madeC c false).causes), .lst false ((madeC c false).ex).length (zYy e58 ((madeC c false).ex))], .box 26 [.lst false b2sv.length (zYy zYx b2sv), .lst false b2jobs.length (zYy (e53 true) b2jobs), .int .i64 b2late, .int .i64 b2obj, .int .i64 b2causes, .ref false 4 r4_1.length], .dead, .row 58 6 (zYy e58 r4_1), .box 26 [.lst false b5sv.length (zYy zYx b5sv), .lst false b5jobs.length (zYy (e53 true) b5jobs), .int .i64 b5late, .int .i64 b5obj, .int .i64 b5causes, .ref false 7 r7_1.length], .dead, .row 58 6 (zYy e58 r7_1)], 0⟩) J2 ?_ ?_
 intro r4_1 r7_1
 intro hv
 replace hv := hj r4_1 r7_1 hv
 refine W.rL1 (mI rfl rfl ?_)
 obtain ⟨s90, hv⟩ := hv
 refine cL rfl (o_add rfl rfl s90 (aI rfl rfl (eL (zZ (⟨(), (v13 + 1), b2sv, b2jobs, b2late, b2obj, b2causes, r4_1, b5sv, b5jobs, b5late, b5obj, b5causes, r7_1, hv, St.to_mk (φ := [none, some 1, some 2, none, some 4, some 5, none, some 7]) rfl (rfl) ⟨Ren.bool _, Ren.ptr rfl, Ren.int _ _, Ren.int _ _, Ren.ptr rfl, Ren.ptr rfl, Ren.int _ _, trivial⟩ ⟨rfl, .inr ⟨_, rfl, rfl, Rens.cons (Ren.lst _ _ _) (Rens.cons (Ren.lst _ _ _) (Rens.cons (Ren.int _ _) (Rens.cons (Ren.int _ _) (Rens.cons (Ren.int _ _) (Rens.cons (Ren.lst _ _ _) (Rens.nil))))))⟩, .inr ⟨_, rfl, rfl, Rens.cons (Ren.lst _ _ _) (Rens.cons (Ren.lst _ _ _) (Rens.cons (Ren.int _ _) (Rens.cons (Ren.int _ _) (Rens.cons (Ren.int _ _) (Rens.cons (Ren.ref rfl (fun h => h)) (Rens.nil))))))⟩, rfl, .inr ⟨_, rfl, rfl, rfl, rfl, Rens.enc enc58 false r4_1⟩, .inr ⟨_, rfl, rfl, Rens.cons (Ren.lst _ _ _) (Rens.cons (Ren.lst _ _ _) (Rens.cons (Ren.int _ _) (Rens.cons (Ren.int _ _) (Rens.cons (Ren.int _ _) (Rens.cons (Ren.ref rfl (fun h => h)) (Rens.nil))))))⟩, rfl, .inr ⟨_, rfl, rfl, rfl, rfl, Rens.enc enc58 false r7_1⟩, trivial⟩⟩)))))
 clear hj
 refine W.block ?_
 obtain ⟨J3, hj, hv⟩ := hv
 refine W.mid1 (fun r4_1 => ⟨203, look [(7, .bool true), (8, .ptr 1 0), (9, .int .i64 (pickM one ((madeC c false).causes))), (10, .int .i64 (pickM two ((madeC c false).causes))), (11, .ptr 2 0), (12, .ptr 5 0), (13, .int .i64 v13)], [.dead, .box 26 [.lst false ((madeC c false).sv).length (zYy zYx ((madeC c false).sv)), .lst false ((madeC c false).jobs).length (zYy (e53 true) ((madeC c false).jobs)), .int .i64 ((madeC c false).late), .int .i64 ((madeC c false).obj), .int .i64 ((madeC c false).causes), .lst false ((madeC c false).ex).length (zYy e58 ((madeC c false).ex))], .box 26 [.lst false b2sv.length (zYy zYx b2sv), .lst false b2jobs.length (zYy (e53 true) b2jobs), .int .i64 b2late, .int .i64 b2obj, .int .i64 b2causes, .ref false 4 r4_1.length], .dead, .row 58 6 (zYy e58 r4_1), .box 26 [.lst false b5sv.length (zYy zYx b5sv), .lst false b5jobs.length (zYy (e53 true) b5jobs), .int .i64 b5late, .int .i64 b5obj, .int .i64 b5causes, .ref false 7 r7.length], .dead, .row 58 6 (zYy e58 r7)], 0⟩) J3 ?_ ?_
 intro r4_1
 intro hv
 replace hv := hj r4_1 hv
 refine W.rL (cL rfl (o_fa tt26 rfl tt24 rfl (cL rfl (zZx (v := .lst _ _ _) tt24 rfl rfl ⟨_, rfl⟩ (mI rfl rfl ?_)))))
 obtain ⟨s93, hv⟩ := hv
 refine cL rfl (zYu tt24 tt58 rfl rfl (enc58.wd true) rfl s93 ?_)
 intro rest93
 refine cL rfl (o_faP tt58 rfl tt3 rfl (cL rfl (zZx (v := .int _ _) tt3 rfl rfl ⟨_, rfl⟩ (mI rfl rfl (cL rfl (o_eqI rfl rfl rfl (eL (W.cn rfl (fun hc => ?_) (fun hc => ?_)))))))))
 have hv := hv.1 hc
 refine W.rL (cL rfl (o_fa tt26 rfl tt24 rfl (cL rfl (zZx (v := .ref _ _ _) tt24 rfl rfl ⟨_, rfl⟩ ?_))))
 iterate 2 refine mI rfl rfl ?_
 obtain ⟨s94, hv⟩ := hv
 refine cL rfl (o_iaR tt24 tt58 rfl rfl s94 (cL rfl (o_fa tt58 rfl tt3 rfl (cLn (o_stR (v := .int _ _) (vs := [.int _ _]) tt3 rfl rfl rfl rfl rfl (row_inF (xs := r4_1) (enc58.wd false) s94 rfl) (row_setF (e := e58) (enc58.wd false) _ _ 2 (⟨(lat r4_1 v13).jb, (lat r4_1 v13).pc, pickM one ((madeC c false).causes), (lat r4_1 v13).ba, (lat r4_1 v13).op, (lat r4_1 v13).ver⟩ : Ext) rfl rfl s94) (eL (W.tr [(7, .bool _), (8, .ptr _ _), (9, .int _ _), (10, .int _ _), (11, .ptr _ _), (12, .ptr _ _), (13, .int _ _)] [.dead, .box _ [.lst _ _ _, .lst _ _ _, .int _ _, .int _ _, .int _ _, .lst _ _ _], .box _ [.lst _ _ _, .lst _ _ _, .int _ _, .int _ _, .int _ _, .ref _ _ _], .dead, .row _ _ _, .box _ [.lst _ _ _, .lst _ _ _, .int _ _, .int _ _, .int _ _, .ref _ _ _], .dead, .row _ _ _] ⟨rfl, rfl, rfl, rfl, rfl, rfl, rfl, trivial⟩ rfl (W.rL1 (cL rfl (o_fa tt26 rfl tt24 rfl (cL rfl (zZx (v := .ref _ _ _) tt24 rfl rfl ⟨_, rfl⟩ ?_))))))))))))
 iterate 2 refine mI rfl rfl ?_
 obtain ⟨s95, hv⟩ := hv
 refine cL rfl (o_iaR tt24 tt58 rfl rfl s95 (cL rfl (o_fa tt58 rfl tt3 rfl (cLn (o_stR (v := .int _ _) (vs := [.int _ _]) tt3 rfl rfl rfl rfl rfl (row_inF (xs := r7) (enc58.wd false) s95 rfl) (row_setF (e := e58) (enc58.wd false) _ _ 2 (⟨(lat r7 v13).jb, (lat r7 v13).pc, pickM one ((madeC c false).causes), (lat r7 v13).ba, (lat r7 v13).op, (lat r7 v13).ver⟩ : Ext) rfl rfl s95) (eL (zYv (zZ (⟨(), (r4_1.set v13.toNat (⟨(lat r4_1 v13).jb, (lat r4_1 v13).pc, pickM one ((madeC c false).causes), (lat r4_1 v13).ba, (lat r4_1 v13).op, (lat r4_1 v13).ver⟩ : Ext)), (r7.set v13.toNat (⟨(lat r7 v13).jb, (lat r7 v13).pc, pickM one ((madeC c false).causes), (lat r7 v13).ba, (lat r7 v13).op, (lat r7 v13).ver⟩ : Ext)), hv, St.to_mk (φ := [none, some 1, some 2, none, some 4, some 5, none, some 7]) rfl (rfl) ⟨Ren.bool _, Ren.ptr rfl, Ren.int _ _, Ren.int _ _, Ren.ptr rfl, Ren.ptr rfl, Ren.int _ _, trivial⟩ ⟨rfl, .inr ⟨_, rfl, rfl, Rens.cons (Ren.lst _ _ _) (Rens.cons (Ren.lst _ _ _) (Rens.cons (Ren.int _ _) (Rens.cons (Ren.int _ _) (Rens.cons (Ren.int _ _) (Rens.cons (Ren.lst _ _ _) (Rens.nil))))))⟩, .inr ⟨_, rfl, rfl, Rens.cons (Ren.lst _ _ _) (Rens.cons (Ren.lst _ _ _) (Rens.cons (Ren.int _ _) (Rens.cons (Ren.int _ _) (Rens.cons (Ren.int _ _) (Rens.cons (Ren.refL rfl (fun h => h) (by simp)) (Rens.nil))))))⟩, rfl, .inr ⟨_, rfl, rfl, rfl, rfl, Rens.enc enc58 false (r4_1.set v13.toNat (⟨(lat r4_1 v13).jb, (lat r4_1 v13).pc, pickM one ((madeC c false).causes), (lat r4_1 v13).ba, (lat r4_1 v13).op, (lat r4_1 v13).ver⟩ : Ext))⟩, .inr ⟨_, rfl, rfl, Rens.cons (Ren.lst _ _ _) (Rens.cons (Ren.lst _ _ _) (Rens.cons (Ren.int _ _) (Rens.cons (Ren.int _ _) (Rens.cons (Ren.int _ _) (Rens.cons (Ren.refL rfl (fun h => h) (by simp)) (Rens.nil))))))⟩, rfl, .inr ⟨_, rfl, rfl, rfl, rfl, Rens.enc enc58 false (r7.set v13.toNat (⟨(lat r7 v13).jb, (lat r7 v13).pc, pickM one ((madeC c false).causes), (lat r7 v13).ba, (lat r7 v13).op, (lat r7 v13).ver⟩ : Ext))⟩, trivial⟩⟩)))))))))
 have hv := hv.2 hc
 refine W.skip (zYv (zZ (⟨(), r4_1, r7, hv, St.to_mk (φ := [none, some 1, some 2, none, some 4, some 5, none, some 7]) rfl (rfl) ⟨Ren.bool _, Ren.ptr rfl, Ren.int _ _, Ren.int _ _, Ren.ptr rfl, Ren.ptr rfl, Ren.int _ _, trivial⟩ ⟨rfl, .inr ⟨_, rfl, rfl, Rens.cons (Ren.lst _ _ _) (Rens.cons (Ren.lst _ _ _) (Rens.cons (Ren.int _ _) (Rens.cons (Ren.int _ _) (Rens.cons (Ren.int _ _) (Rens.cons (Ren.lst _ _ _) (Rens.nil))))))⟩, .inr ⟨_, rfl, rfl, Rens.cons (Ren.lst _ _ _) (Rens.cons (Ren.lst _ _ _) (Rens.cons (Ren.int _ _) (Rens.cons (Ren.int _ _) (Rens.cons (Ren.int _ _) (Rens.cons (Ren.ref rfl (fun h => h)) (Rens.nil))))))⟩, rfl, .inr ⟨_, rfl, rfl, rfl, rfl, Rens.enc enc58 false r4_1⟩, .inr ⟨_, rfl, rfl, Rens.cons (Ren.lst _ _ _) (Rens.cons (Ren.lst _ _ _) (Rens.cons (Ren.int _ _) (Rens.cons (Ren.int _ _) (Rens.cons (Ren.int _ _) (Rens.cons (Ren.ref rfl (fun h => h)) (Rens.nil))))))⟩, rfl, .inr ⟨_, rfl, rfl, rfl, rfl, Rens.enc enc58 false r7⟩, trivial⟩⟩)))
 clear hj
 refine W.rL (cL rfl (o_fa tt26 rfl tt24 rfl (cL rfl (zZx (v := .lst _ _ _) tt24 rfl rfl ⟨_, rfl⟩ (mI rfl rfl ?_)))))
 obtain ⟨s96, hv⟩ := hv
 refine cL rfl (zYu tt24 tt58 rfl rfl (enc58.wd true) rfl s96 ?_)
 intro rest96
 refine cL rfl (o_faP tt58 rfl tt3 rfl (cL rfl (zZx (v := .int _ _) tt3 rfl rfl ⟨_, rfl⟩ (mI rfl rfl (cL rfl (o_eqI rfl rfl rfl (eL (W.cn rfl (fun hc => ?_) (fun hc => ?_)))))))))
 have hv := hv.1 hc
 refine W.rL1 (cL rfl (o_fa tt26 rfl tt24 rfl (cL rfl (zZx (v := .ref _ _ _) tt24 rfl rfl ⟨_, rfl⟩ ?_))))
 iterate 2 refine mI rfl rfl ?_
 obtain ⟨s97, hv⟩ := hv
 refine cL rfl (o_iaR tt24 tt58 rfl rfl s97 (cL rfl (o_fa tt58 rfl tt3 rfl (cLn (o_stR (v := .int _ _) (vs := [.int _ _]) tt3 rfl rfl rfl rfl rfl (row_inF (xs := r4) (enc58.wd false) s97 rfl) (row_setF (e := e58) (enc58.wd false) _ _ 2 (⟨(lat r4 v13).jb, (lat r4 v13).pc, pickM two ((madeC c false).causes), (lat r4 v13).ba, (lat r4 v13).op, (lat r4 v13).ver⟩ : Ext) rfl rfl s97) (eL (zZ (⟨(), (r4.set v13.toNat (⟨(lat r4 v13).jb, (lat r4 v13).pc, pickM two ((madeC c false).causes), (lat r4 v13).ba, (lat r4 v13).op, (lat r4 v13).ver⟩ : Ext)), hv, St.to_mk (φ := [none, some 1, some 2, none, some 4, some 5, none, some 7]) rfl (rfl) ⟨Ren.bool _, Ren.ptr rfl, Ren.int _ _, Ren.int _ _, Ren.ptr rfl, Ren.ptr rfl, Ren.int _ _, trivial⟩ ⟨rfl, .inr ⟨_, rfl, rfl, Rens.cons (Ren.lst _ _ _) (Rens.cons (Ren.lst _ _ _) (Rens.cons (Ren.int _ _) (Rens.cons (Ren.int _ _) (Rens.cons (Ren.int _ _) (Rens.cons (Ren.lst _ _ _) (Rens.nil))))))⟩, .inr ⟨_, rfl, rfl, Rens.cons (Ren.lst _ _ _) (Rens.cons (Ren.lst _ _ _) (Rens.cons (Ren.int _ _) (Rens.cons (Ren.int _ _) (Rens.cons (Ren.int _ _) (Rens.cons (Ren.refL rfl (fun h => h) (by simp)) (Rens.nil))))))⟩, rfl, .inr ⟨_, rfl, rfl, rfl, rfl, Rens.enc enc58 false (r4.set v13.toNat (⟨(lat r4 v13).jb, (lat r4 v13).pc, pickM two ((madeC c false).causes), (lat r4 v13).ba, (lat r4 v13).op, (lat r4 v13).ver⟩ : Ext))⟩, .inr ⟨_, rfl, rfl, Rens.cons (Ren.lst _ _ _) (Rens.cons (Ren.lst _ _ _) (Rens.cons (Ren.int _ _) (Rens.cons (Ren.int _ _) (Rens.cons (Ren.int _ _) (Rens.cons (Ren.ref rfl (fun h => h)) (Rens.nil))))))⟩, rfl, .inr ⟨_, rfl, rfl, rfl, rfl, Rens.enc enc58 false r7⟩, trivial⟩⟩))))))))
 have hv := hv.2 hc
 refine W.skip (zZ (⟨(), r4, hv, St.to_mk (φ := [none, some 1, some 2, none, some 4, some 5, none, some 7]) rfl (rfl) ⟨Ren.bool _, Ren.ptr rfl, Ren.int _ _, Ren.int _ _, Ren.ptr rfl, Ren.ptr rfl, Ren.int _ _, trivial⟩ ⟨rfl, .inr ⟨_, rfl, rfl, Rens.cons (Ren.lst _ _ _) (Rens.cons (Ren.lst _ _ _) (Rens.cons (Ren.int _ _) (Rens.cons (Ren.int _ _) (Rens.cons (Ren.int _ _) (Rens.cons (Ren.lst _ _ _) (Rens.nil))))))⟩, .inr ⟨_, rfl, rfl, Rens.cons (Ren.lst _ _ _) (Rens.cons (Ren.lst _ _ _) (Rens.cons (Ren.int _ _) (Rens.cons (Ren.int _ _) (Rens.cons (Ren.int _ _) (Rens.cons (Ren.ref rfl (fun h => h)) (Rens.nil))))))⟩, rfl, .inr ⟨_, rfl, rfl, rfl, rfl, Rens.enc enc58 false r4⟩, .inr ⟨_, rfl, rfl, Rens.cons (Ren.lst _ _ _) (Rens.cons (Ren.lst _ _ _) (Rens.cons (Ren.int _ _) (Rens.cons (Ren.int _ _) (Rens.cons (Ren.int _ _) (Rens.cons (Ren.ref rfl (fun h => h)) (Rens.nil))))))⟩, rfl, .inr ⟨_, rfl, rfl, rfl, rfl, Rens.enc enc58 false r7⟩, trivial⟩⟩))
 have hv := hv.2 hc
 refine W.exit (zZt (zZt (zYs (zZ (W.rL (cL rfl (zYp (cs := [.lst _ _ _, .lst _ _ _, .int _ _, .int _ _, .int _ _, .lst _ _ _]) tt26 rfl rfl ⟨_, rfl⟩ rfl ?_)))))))
 obtain ⟨s98, s99, s100, s101, hv⟩ := hv
 refine cL rfl (zZu (k := 17) (fst := []) (caps := []) (ys := [.agg _]) rfl rfl (spec_values (madeC c false) s98 s99 s100 s101) (Wks.cons (zXx 5 _ (Wks.cons (zZs _ _ _ _ _) (Wks.cons (zZs _ _ _ _ _) (Wks.cons (zZz _ _ _ _) (Wks.cons (zZz _ _ _ _) (Wks.cons (zZz _ _ _ _) (Wks.cons (zZs _ _ _ _ _) (Wks.refl _)))))))) (Wks.refl _)) (cL rfl (zZp (v := .tup _) rfl (cL rfl (o_ext (v := .lst _ _ _) rfl rfl (cL rfl (o_ext (v := .int _ _) rfl rfl (aL rfl rfl (aI rfl rfl (eL (W.tr [(7, .bool _), (8, .ptr _ _), (9, .int _ _), (10, .int _ _), (11, .ptr _ _), (12, .ptr _ _), (14, .lst _ _ _), (15, .int _ _)] [.dead, .box _ [.lst _ _ _, .lst _ _ _, .int _ _, .int _ _, .int _ _, .lst _ _ _], .box _ [.lst _ _ _, .lst _ _ _, .int _ _, .int _ _, .int _ _, .ref _ _ _], .dead, .row _ _ _, .box _ [.lst _ _ _, .lst _ _ _, .int _ _, .int _ _, .int _ _, .ref _ _ _], .dead, .row _ _ _] ⟨rfl, rfl, rfl, rfl, rfl, rfl, rfl, rfl, trivial⟩ rfl (W.rL (cL rfl (zYp (cs := [.lst _ _ _, .lst _ _ _, .int _ _, .int _ _, .int _ _, .ref _ _ _]) tt26 rfl rfl ⟨_, rfl⟩ rfl ?_))))))))))))))
 obtain ⟨s102, s103, s104, s105, hv⟩ := hv
 refine cL rfl (zZu (k := 17) (fst := []) (caps := []) (ys := [.agg _]) rfl rfl (spec_values (Req.mk b2sv b2jobs b2late b2obj b2causes r4) s102 s103 s104 s105) (Wks.cons (zXx 5 _ (Wks.cons (zZs _ _ _ _ _) (Wks.cons (zZs _ _ _ _ _) (Wks.cons (zZz _ _ _ _) (Wks.cons (zZz _ _ _ _) (Wks.cons (zZz _ _ _ _) (Wks.cons (ag_ref (fl := false) (xs := r4) enc58 3 _ rfl rfl) (Wks.refl _)))))))) (Wks.refl _)) (cL rfl (zZp (v := .tup _) rfl (cL rfl (o_ext (v := .lst _ _ _) rfl rfl (cL rfl (o_ext (v := .int _ _) rfl rfl (aL rfl rfl (aI rfl rfl (eL (W.tr [(7, .bool _), (8, .ptr _ _), (9, .int _ _), (10, .int _ _), (12, .ptr _ _), (14, .lst _ _ _), (15, .int _ _), (16, .lst _ _ _), (17, .int _ _)] [.dead, .box _ [.lst _ _ _, .lst _ _ _, .int _ _, .int _ _, .int _ _, .lst _ _ _], .box _ [.lst _ _ _, .lst _ _ _, .int _ _, .int _ _, .int _ _, .ref _ _ _], .dead, .row _ _ _, .box _ [.lst _ _ _, .lst _ _ _, .int _ _, .int _ _, .int _ _, .ref _ _ _], .dead, .row _ _ _] ⟨rfl, rfl, rfl, rfl, rfl, rfl, rfl, rfl, rfl, trivial⟩ rfl (W.rL (cL rfl (zYp (cs := [.lst _ _ _, .lst _ _ _, .int _ _, .int _ _, .int _ _, .ref _ _ _]) tt26 rfl rfl ⟨_, rfl⟩ rfl ?_))))))))))))))
 obtain ⟨s106, s107, s108, s109, hv⟩ := hv
 refine cL rfl (zZu (k := 17) (fst := []) (caps := []) (ys := [.agg _]) rfl rfl (spec_values (Req.mk b5sv b5jobs b5late b5obj b5causes r7) s106 s107 s108 s109) (Wks.cons (zXx 5 _ (Wks.cons (zZs _ _ _ _ _) (Wks.cons (zZs _ _ _ _ _) (Wks.cons (zZz _ _ _ _) (Wks.cons (zZz _ _ _ _) (Wks.cons (zZz _ _ _ _) (Wks.cons (ag_ref (fl := false) (xs := r7) enc58 3 _ rfl rfl) (Wks.refl _)))))))) (Wks.refl _)) (cL rfl (zZp (v := .tup _) rfl (cL rfl (o_ext (v := .lst _ _ _) rfl rfl (cL rfl (o_ext (v := .int _ _) rfl rfl (aL rfl rfl (aI rfl rfl (eL (W.tr [(7, .bool _), (8, .ptr _ _), (9, .int _ _), (10, .int _ _), (14, .lst _ _ _), (15, .int _ _), (16, .lst _ _ _), (17, .int _ _), (18, .lst _ _ _), (19, .int _ _)] [.dead, .box _ [.lst _ _ _, .lst _ _ _, .int _ _, .int _ _, .int _ _, .lst _ _ _], .box _ [.lst _ _ _, .lst _ _ _, .int _ _, .int _ _, .int _ _, .ref _ _ _], .dead, .row _ _ _, .box _ [.lst _ _ _, .lst _ _ _, .int _ _, .int _ _, .int _ _, .ref _ _ _], .dead, .row _ _ _] ⟨rfl, rfl, rfl, rfl, rfl, rfl, rfl, rfl, rfl, rfl, trivial⟩ rfl (W.seq' ?_))))))))))))
 obtain ⟨sd, hv⟩ := hv
 refine W.rLm ⟨203, look [(7, .bool true), (9, .int .i64 (pickM one ((madeC c false).causes))), (10, .int .i64 (pickM two ((madeC c false).causes))), (14, .lst false ((valuesM (madeC c false)).1).length (zYy zYx ((valuesM (madeC c false)).1))), (16, .lst false ((valuesM (Req.mk b2sv b2jobs b2late b2obj b2causes r4)).1).length (zYy zYx ((valuesM (Req.mk b2sv b2jobs b2late b2obj b2causes r4)).1))), (18, .lst false ((valuesM (Req.mk b5sv b5jobs b5late b5obj b5causes r7)).1).length (zYy zYx ((valuesM (Req.mk b5sv b5jobs b5late b5obj b5causes r7)).1))), (138, .bool (decide ((¬ (valuesM (madeC c false)).2 = 0) \/ ((¬ (valuesM (Req.mk b2sv b2jobs b2late b2obj b2causes r4)).2 = 0) \/ ((¬ (valuesM (Req.mk b5sv b5jobs b5late b5obj b5causes r7)).2 = 0) \/ ((¬ ((((valuesM (madeC c false)).1).length : Nat) : Int) = 1 * 2 ^ (min ((madeC c false).causes).toNat 64)) \/ ((¬ ((((valuesM (Req.mk b2sv b2jobs b2late b2obj b2causes r4)).1).length : Nat) : Int) = ((((valuesM (madeC c false)).1).length : Nat) : Int)) \/ (¬ ((((valuesM (Req.mk b5sv b5jobs b5late b5obj b5causes r7)).1).length : Nat) : Int) = ((((valuesM (madeC c false)).1).length : Nat) : Int)))))))))], [.dead, .box 26 [.lst false ((madeC c false).sv).length (zYy zYx ((madeC c false).sv)), .lst false ((madeC c false).jobs).length (zYy (e53 true) ((madeC c false).jobs)), .int .i64 ((madeC c false).late), .int .i64 ((madeC c false).obj), .int .i64 ((madeC c false).causes), .lst false ((madeC c false).ex).length (zYy e58 ((madeC c false).ex))], .box 26 [.lst false b2sv.length (zYy zYx b2sv), .lst false b2jobs.length (zYy (e53 true) b2jobs), .int .i64 b2late, .int .i64 b2obj, .int .i64 b2causes, .ref false 4 r4.length], .dead, .row 58 6 (zYy e58 r4), .box 26 [.lst false b5sv.length (zYy zYx b5sv), .lst false b5jobs.length (zYy (e53 true) b5jobs), .int .i64 b5late, .int .i64 b5obj, .int .i64 b5causes, .ref false 7 r7.length], .dead, .row 58 6 (zYy e58 r7)], 0⟩ ?_ ?_
 refine mI rfl rfl (cL rfl (o_neI rfl rfl rfl (mB rfl rfl ?_)))
 by_cases c1 : ¬ (valuesM (madeC c false)).2 = 0
 iterate 2 refine cLs rfl rfl rfl (dT c1) ?_
 refine cL rfl (zZv (v := .bool _) rfl (dT c1) rfl (mB rfl rfl ?_))
 iterate 2 refine cLs rfl rfl rfl (rfl) ?_
 refine cL rfl (zZv (v := .bool _) rfl rfl rfl (mB rfl rfl ?_))
 iterate 6 refine cLs rfl rfl rfl (rfl) ?_
 refine cL rfl (zZv (v := .bool _) rfl rfl rfl (mB rfl rfl ?_))
 iterate 5 refine cLs rfl rfl rfl (rfl) ?_
 refine cL rfl (zZv (v := .bool _) rfl rfl rfl (mB rfl rfl ?_))
 iterate 5 refine cLs rfl rfl rfl (rfl) ?_
 refine cL rfl (zZv (v := .bool _) rfl rfl rfl (eL (zYz ⟨rfl, rfl, rfl, rfl, rfl, rfl, (congrArg AV.bool (dOrT c1)).symm, trivial⟩ rfl)))
 have sd := sd.2 c1
 refine cLg rfl rfl (dF c1) (mI rfl rfl (cLg rfl rfl (dF c1) (cL rfl (o_neI rfl rfl rfl (cL rfl (zZy (v := .bool _) rfl (dF c1) rfl (mB rfl rfl ?_)))))))
 by_cases c2 : ¬ (valuesM (Req.mk b2sv b2jobs b2late b2obj b2causes r4)).2 = 0
 iterate 2 refine cLs rfl rfl rfl (dT c2) ?_
 refine cL rfl (zZv (v := .bool _) rfl (dT c2) rfl (mB rfl rfl ?_))
 iterate 6 refine cLs rfl rfl rfl (rfl) ?_
 refine cL rfl (zZv (v := .bool _) rfl rfl rfl (mB rfl rfl ?_))
 iterate 5 refine cLs rfl rfl rfl (rfl) ?_
 refine cL rfl (zZv (v := .bool _) rfl rfl rfl (mB rfl rfl ?_))
 iterate 5 refine cLs rfl rfl rfl (rfl) ?_
 refine cL rfl (zZv (v := .bool _) rfl rfl rfl (eL (zYz ⟨rfl, rfl, rfl, rfl, rfl, rfl, (congrArg AV.bool (dOrF c1 (dOrT c2))).symm, trivial⟩ rfl)))
 have sd := sd.2 c2
 refine cLg rfl rfl (dF c2) (mI rfl rfl (cLg rfl rfl (dF c2) (cL rfl (o_neI rfl rfl rfl (cL rfl (zZy (v := .bool _) rfl (dF c2) rfl (mB rfl rfl ?_)))))))
 by_cases c3 : ¬ (valuesM (Req.mk b5sv b5jobs b5late b5obj b5causes r7)).2 = 0
 iterate 6 refine cLs rfl rfl rfl (dT c3) ?_
 refine cL rfl (zZv (v := .bool _) rfl (dT c3) rfl (mB rfl rfl ?_))
 iterate 5 refine cLs rfl rfl rfl (rfl) ?_
 refine cL rfl (zZv (v := .bool _) rfl rfl rfl (mB rfl rfl ?_))
 iterate 5 refine cLs rfl rfl rfl (rfl) ?_
 refine cL rfl (zZv (v := .bool _) rfl rfl rfl (eL (zYz ⟨rfl, rfl, rfl, rfl, rfl, rfl, (congrArg AV.bool (dOrF c1 (dOrF c2 (dOrT c3)))).symm, trivial⟩ rfl)))
 have sd := sd.2 c3
 refine cLg rfl rfl (dF c3) (mL rfl rfl (cLg rfl rfl (dF c3) (cL rfl (zXw (v := .lst _ _ _) tt22 rfl rfl (cLg rfl rfl (dF c3) (cL rfl (o_fa tt26 rfl tt3 rfl (cLg rfl rfl (dF c3) (cL rfl (zZx (v := .int _ _) tt3 rfl rfl ⟨_, rfl⟩ (cLg rfl rfl (dF c3) ?_)))))))))))
 obtain ⟨s116, s117, sd⟩ := sd
 refine cL rfl (o_shl rfl rfl s116 s117 (cLg rfl rfl (dF c3) (cL rfl (o_neI rfl rfl rfl (cL rfl (zZy (v := .bool _) rfl (dF c3) rfl (mB rfl rfl ?_)))))))
 by_cases c4 : ¬ ((((valuesM (madeC c false)).1).length : Nat) : Int) = 1 * 2 ^ (min ((madeC c false).causes).toNat 64)
 iterate 5 refine cLs rfl rfl rfl (dT c4) ?_
 refine cL rfl (zZv (v := .bool _) rfl (dT c4) rfl (mB rfl rfl ?_))
 iterate 5 refine cLs rfl rfl rfl (rfl) ?_
 refine cL rfl (zZv (v := .bool _) rfl rfl rfl (eL (zYz ⟨rfl, rfl, rfl, rfl, rfl, rfl, (congrArg AV.bool (dOrF c1 (dOrF c2 (dOrF c3 (dOrT c4))))).symm, trivial⟩ rfl)))
 refine cLg rfl rfl (dF c4) (mL rfl rfl (cLg rfl rfl (dF c4) (cL rfl (zXw (v := .lst _ _ _) tt22 rfl rfl (cLg rfl rfl (dF c4) (mL rfl rfl (cLg rfl rfl (dF c4) (cL rfl (zXw (v := .lst _ _ _) tt22 rfl rfl (cLg rfl rfl (dF c4) (cL rfl (o_neI rfl rfl rfl (cL rfl (zZy (v := .bool _) rfl (dF c4) rfl (mB rfl rfl ?_)))))))))))))))
 by_cases c5 : ¬ ((((valuesM (Req.mk b2sv b2jobs b2late b2obj b2causes r4)).1).length : Nat) : Int) = ((((valuesM (madeC c false)).1).length : Nat) : Int)
 iterate 5 refine cLs rfl rfl rfl (dT c5) ?_
 refine cL rfl (zZv (v := .bool _) rfl (dT c5) rfl (eL (zYz ⟨rfl, rfl, rfl, rfl, rfl, rfl, (congrArg AV.bool (dOrF c1 (dOrF c2 (dOrF c3 (dOrF c4 (dOrT c5)))))).symm, trivial⟩ rfl)))
 refine cLg rfl rfl (dF c5) (mL rfl rfl (cLg rfl rfl (dF c5) (cL rfl (zXw (v := .lst _ _ _) tt22 rfl rfl (cLg rfl rfl (dF c5) (mL rfl rfl (cLg rfl rfl (dF c5) (cL rfl (zXw (v := .lst _ _ _) tt22 rfl rfl (cLg rfl rfl (dF c5) (cL rfl (o_neI rfl rfl rfl (cL rfl (zZy (v := .bool _) rfl (dF c5) rfl (eL (zYz ⟨rfl, rfl, rfl, rfl, rfl, rfl, (congrArg AV.bool (dOrF c1 (dOrF c2 (dOrF c3 (dOrF c4 (dOrF c5 (rfl))))))).symm, trivial⟩ rfl))))))))))))))))
 refine W.cn rfl (fun hc => ?_) (fun hc => ?_)
 have hv := hv.1 hc
 refine W.rL (aB rfl rfl (eL (W.ret (zZr (rt (rt_t (v := .bool _) rfl (rt_n (⟨_, zYr _ _ _, false, rfl, hv⟩))))))))
 have hv := hv.2 hc
 refine W.skip (zZ (W.seq' (W.rL (aI rfl rfl (eL (W.block ?_))))))
 obtain ⟨I4, μ4, hp, hv⟩ := hv
 refine W.loop1 (fun v20 => ⟨203, look [(7, .bool true), (9, .int .i64 (pickM one ((madeC c false).causes))), (10, .int .i64 (pickM two ((madeC c false).causes))), (14, .lst false ((valuesM (madeC c false)).1).length (zYy zYx ((valuesM (madeC c false)).1))), (16, .lst false ((valuesM (Req.mk b2sv b2jobs b2late b2obj b2causes r4)).1).length (zYy zYx ((valuesM (Req.mk b2sv b2jobs b2late b2obj b2causes r4)).1))), (18, .lst false ((valuesM (Req.mk b5sv b5jobs b5late b5obj b5causes r7)).1).length (zYy zYx ((valuesM (Req.mk b5sv b5jobs b5late b5obj b5causes r7)).1))), (20, .int .i64 v20)], [.dead], 0⟩) I4 μ4 0 (St.to_mk (φ := [none]) rfl (rfl) ⟨Ren.bool _, Ren.int _ _, Ren.int _ _, Ren.lst _ _ _, Ren.lst _ _ _, Ren.lst _ _ _, Ren.int _ _, trivial⟩ ⟨rfl, trivial⟩) hp ?_
 clear hp
 intro v20 hI
 replace hv := hv v20 hI
 clear hI
 refine W.seq' (W.rL (mI rfl rfl (mL rfl rfl (cL rfl (zXw (v := .lst _ _ _) tt22 rfl rfl (cL rfl (zYq rfl rfl (eL (W.cn rfl (fun hc => ?_) (fun hc => ?_))))))))))
 have hv := hv.1 hc
 refine W.skip (zZ (W.seq' (W.block (W.rD [0, 1, 2, 3, 4, 5, 6, 7] (by decide +kernel) rfl ?_))))
 iterate 2 refine mI rfl rfl ?_
 obtain ⟨s289, s290, hv⟩ := hv
 refine cL rfl (o_shl rfl rfl s289 s290 (mI rfl rfl ?_))
 obtain ⟨s291, s292, hv⟩ := hv
 refine cL rfl (o_shl rfl rfl s291 s292 (cL rfl (o_or rfl rfl (cL rfl (o_anN rfl rfl (aI rfl rfl (eL (W.rD [0, 1, 2, 3, 4, 5, 6, 7, 8, 9, 10, 11, 12, 13, 14, 15] (by decide +kernel) rfl ?_))))))))
 iterate 3 refine mI rfl rfl ?_
 obtain ⟨s293, hv⟩ := hv
 refine cL rfl (o_shr rfl rfl s293 (cL rfl (o_and rfl rfl (mI rfl rfl ?_))))
 obtain ⟨s294, s295, hv⟩ := hv
 refine cL rfl (o_shl rfl rfl s294 s295 (cL rfl (o_or rfl rfl ?_)))
 iterate 2 refine mI rfl rfl ?_
 obtain ⟨s296, hv⟩ := hv
 refine cL rfl (o_shr rfl rfl s296 (cL rfl (o_and rfl rfl (mI rfl rfl ?_))))
 obtain ⟨s297, s298, hv⟩ := hv
 refine cL rfl (o_shl rfl rfl s297 s298 (cL rfl (o_or rfl rfl (aI rfl rfl (eL (W.tr [(7, .bool _), (9, .int _ _), (10, .int _ _), (14, .lst _ _ _), (16, .lst _ _ _), (18, .lst _ _ _), (20, .int _ _), (21, .int _ _), (22, .int _ _)] [.dead] ⟨rfl, rfl, rfl, rfl, rfl, rfl, rfl, rfl, rfl, trivial⟩ rfl (W.rD [0, 1, 2, 3, 4, 5, 6, 7, 8, 9, 10, 11, 12, 13, 14, 15] (by decide +kernel) rfl ?_)))))))
 iterate 3 refine mI rfl rfl ?_
 obtain ⟨s299, hv⟩ := hv
 refine cL rfl (o_shr rfl rfl s299 (cL rfl (o_and rfl rfl (mI rfl rfl ?_))))
 obtain ⟨s300, s301, hv⟩ := hv
 refine cL rfl (o_shl rfl rfl s300 s301 (cL rfl (o_or rfl rfl ?_)))
 iterate 2 refine mI rfl rfl ?_
 obtain ⟨s302, hv⟩ := hv
 refine cL rfl (o_shr rfl rfl s302 (cL rfl (o_and rfl rfl (mI rfl rfl ?_))))
 obtain ⟨s303, s304, hv⟩ := hv
 refine cL rfl (o_shl rfl rfl s303 s304 (cL rfl (o_or rfl rfl (aI rfl rfl (eL ?_)))))
 obtain ⟨sd, hv⟩ := hv
 refine W.rDm ⟨203, look [(7, .bool true), (9, .int .i64 (pickM one ((madeC c false).causes))), (10, .int .i64 (pickM two ((madeC c false).causes))), (14, .lst false ((valuesM (madeC c false)).1).length (zYy zYx ((valuesM (madeC c false)).1))), (16, .lst false ((valuesM (Req.mk b2sv b2jobs b2late b2obj b2causes r4)).1).length (zYy zYx ((valuesM (Req.mk b2sv b2jobs b2late b2obj b2causes r4)).1))), (18, .lst false ((valuesM (Req.mk b5sv b5jobs b5late b5obj b5causes r7)).1).length (zYy zYx ((valuesM (Req.mk b5sv b5jobs b5late b5obj b5causes r7)).1))), (20, .int .i64 v20), (201, .bool (decide ((¬ lat ((valuesM (Req.mk b2sv b2jobs b2late b2obj b2causes r4)).1) (bitI .or .i64 (bitI .or .i64 (bitI .andNot .i64 v20 (bitI .or .i64 (1 * 2 ^ (min (pickM one ((madeC c false).causes)).toNat 64)) (1 * 2 ^ (min (pickM two ((madeC c false).causes)).toNat 64)))) ((bitI .and .i64 (v20.fdiv (2 ^ (min (pickM one ((madeC c false).causes)).toNat 64))) 1) * 2 ^ (min (pickM two ((madeC c false).causes)).toNat 64))) ((bitI .and .i64 (v20.fdiv (2 ^ (min (pickM two ((madeC c false).causes)).toNat 64))) 1) * 2 ^ (min (pickM one ((madeC c false).causes)).toNat 64))) = lat ((valuesM (madeC c false)).1) v20) \/ (¬ lat ((valuesM (Req.mk b5sv b5jobs b5late b5obj b5causes r7)).1) v20 = lat ((valuesM (madeC c false)).1) (bitI .or .i64 (bitI .or .i64 (bitI .andNot .i64 v20 (bitI .or .i64 (1 * 2 ^ (min (pickM one ((madeC c false).causes)).toNat 64)) (1 * 2 ^ (min (pickM two ((madeC c false).causes)).toNat 64)))) ((bitI .and .i64 (v20.fdiv (2 ^ (min (pickM one ((madeC c false).causes)).toNat 64))) 1) * 2 ^ (min (pickM one ((madeC c false).causes)).toNat 64))) ((bitI .and .i64 (v20.fdiv (2 ^ (min (pickM one ((madeC c false).causes)).toNat 64))) 1) * 2 ^ (min (pickM two ((madeC c false).causes)).toNat 64)))))))], [.dead], 0⟩ [0, 1, 2, 3, 4, 5, 6, 7, 8, 9, 10, 11, 12, 13, 14, 15, 16, 17, 18, 19] (by decide +kernel) rfl ?_ ?_
 refine mL rfl rfl (mI rfl rfl ?_)
 obtain ⟨s309, sd⟩ := sd
 refine cL rfl (zYu tt22 tt3 rfl rfl (zZw.wd true) rfl s309 ?_)
 intro rest309
 refine cL rfl (zZx (v := .int _ _) tt3 rfl rfl ⟨_, rfl⟩ (mL rfl rfl (mI rfl rfl ?_)))
 obtain ⟨s310, sd⟩ := sd
 refine cL rfl (zYu tt22 tt3 rfl rfl (zZw.wd true) rfl s310 ?_)
 intro rest310
 refine cL rfl (zZx (v := .int _ _) tt3 rfl rfl ⟨_, rfl⟩ (cL rfl (o_neI rfl rfl rfl (mB rfl rfl ?_))))
 by_cases c1 : ¬ lat ((valuesM (Req.mk b2sv b2jobs b2late b2obj b2causes r4)).1) (bitI .or .i64 (bitI .or .i64 (bitI .andNot .i64 v20 (bitI .or .i64 (1 * 2 ^ (min (pickM one ((madeC c false).causes)).toNat 64)) (1 * 2 ^ (min (pickM two ((madeC c false).causes)).toNat 64)))) ((bitI .and .i64 (v20.fdiv (2 ^ (min (pickM one ((madeC c false).causes)).toNat 64))) 1) * 2 ^ (min (pickM two ((madeC c false).causes)).toNat 64))) ((bitI .and .i64 (v20.fdiv (2 ^ (min (pickM two ((madeC c false).causes)).toNat 64))) 1) * 2 ^ (min (pickM one ((madeC c false).causes)).toNat 64))) = lat ((valuesM (madeC c false)).1) v20
 iterate 9 refine cLs rfl rfl rfl (dT c1) ?_
 refine cL rfl (zZv (v := .bool _) rfl (dT c1) rfl (eL (zYz ⟨rfl, rfl, rfl, rfl, rfl, rfl, rfl, (congrArg AV.bool (dOrT c1)).symm, trivial⟩ rfl)))
 have sd := sd.2 c1
 refine cLg rfl rfl (dF c1) (mL rfl rfl (cLg rfl rfl (dF c1) (mI rfl rfl (cLg rfl rfl (dF c1) ?_))))
 obtain ⟨s311, sd⟩ := sd
 refine cL rfl (zYu tt22 tt3 rfl rfl (zZw.wd true) rfl s311 ?_)
 intro rest311
 refine cLg rfl rfl (dF c1) (cL rfl (zZx (v := .int _ _) tt3 rfl rfl ⟨_, rfl⟩ (cLg rfl rfl (dF c1) (mL rfl rfl (cLg rfl rfl (dF c1) (mI rfl rfl (cLg rfl rfl (dF c1) ?_)))))))
 obtain ⟨s312, sd⟩ := sd
 refine cL rfl (zYu tt22 tt3 rfl rfl (zZw.wd true) rfl s312 ?_)
 intro rest312
 refine cLg rfl rfl (dF c1) (cL rfl (zZx (v := .int _ _) tt3 rfl rfl ⟨_, rfl⟩ (cLg rfl rfl (dF c1) (cL rfl (o_neI rfl rfl rfl (cL rfl (zZy (v := .bool _) rfl (dF c1) rfl (eL (zYz ⟨rfl, rfl, rfl, rfl, rfl, rfl, rfl, (congrArg AV.bool (dOrF c1 (rfl))).symm, trivial⟩ rfl)))))))))
 refine W.cn rfl (fun hc => ?_) (fun hc => ?_)
 have hv := hv.1 hc
 refine W.rL (aB rfl rfl (eL (W.ret (zYt (zZr (zZr (zYt (zZr (rt (rt_t (v := .bool _) rfl (rt_n (⟨_, zYr _ _ _, false, rfl, hv⟩))))))))))))
 have hv := hv.2 hc
 refine W.skip (zYv (zZ (W.rL1 (mI rfl rfl ?_))))
 obtain ⟨s313, hv⟩ := hv
 refine cL rfl (o_add rfl rfl s313 (aI rfl rfl (eL (zZ (⟨(), (v20 + 1), hv, St.to_mk (φ := [none]) rfl (rfl) ⟨Ren.bool _, Ren.int _ _, Ren.int _ _, Ren.lst _ _ _, Ren.lst _ _ _, Ren.lst _ _ _, Ren.int _ _, trivial⟩ ⟨rfl, trivial⟩⟩)))))
 have hv := hv.2 hc
 refine W.exit (zZt (zZt (zYs (zZ (W.rL (mB rfl rfl (aB rfl rfl (eL (W.ret (rt (rt_t (v := .bool _) rfl (rt_n (⟨_, zYr _ _ _, true, rfl, hv⟩)))))))))))))
set_option maxHeartbeats 2000000 in
theorem vcp_names (c : Cas) (one : Int) (two : Int) (h0 : CasOk c) (h1 : inI one) (h2 : inI two) : vc_names c one two (fun q0 => q0 = (true)) := by
  have hm := made_ok c false
  have hv := hm.v
  have L := hv.lens
  have V := hv.v16 hm.ca.2
  have hca := hm.ca
  have hxl := hv.len
  refine ⟨h0, fun _ => rfl, fun hc => ?_⟩
  have ha := zXz (c := one) (n := (madeC c false).causes) (by omega)
  have hb := zXz (c := two) (n := (madeC c false).causes) (by omega)
  generalize pickM one (madeC c false).causes = a at *
  generalize pickM two (madeC c false).causes = b at *
  refine ⟨by omega, h1, by omega, h2, by omega, by omega, fun v sv4 jobs4 late4 obj4 causes4 r4 sv7 jobs7 late7 obj7 causes7 r7 => 0 <= v /\ Req.mk sv4 jobs4 late4 obj4 causes4 r4 = exReq (madeC c false) (mapTo (caX (swC a b)) (madeC c false).ex v.toNat) /\ Req.mk sv7 jobs7 late7 obj7 causes7 r7 = exReq (madeC c false) (mapTo (caX (jtC a b)) (madeC c false).ex v.toNat),
    fun v _ _ _ _ _ _ _ _ _ _ _ _ => (madeC c false).ex.length - v.toNat, ⟨by omega, by rw [show (0 : Int).toNat = 0 from rfl, mapTo_0]; rfl, by rw [show (0 : Int).toNat = 0 from rfl, mapTo_0]; rfl⟩, ?_⟩
  rintro v sv4 jobs4 late4 obj4 causes4 r4 sv7 jobs7 late7 obj7 causes7 r7 ⟨i0, i4, i7⟩
  obtain ⟨rfl, rfl, rfl, rfl, rfl, rfl⟩ := Req.mk.inj i4
  obtain ⟨rfl, rfl, rfl, rfl, rfl, rfl⟩ := Req.mk.inj i7
  clear i4 i7
  have l4 := mapTo_len (caX (swC a b)) (madeC c false).ex v.toNat
  have l7 := mapTo_len (caX (jtC a b)) (madeC c false).ex v.toNat
  refine ⟨fun k => ?_, fun k => ?_⟩
  . have hv' : v.toNat < (madeC c false).ex.length := by omega
    have ev : ((v.toNat : Nat) : Int) = v := by omega
    have a4 := mapTo_at (caX (swC a b)) (madeC c false).ex v.toNat hv'
    have a7 := mapTo_at (caX (jtC a b)) (madeC c false).ex v.toNat hv'
    have s4 := mapTo_step (caX (swC a b)) (madeC c false).ex hv'
    have s7 := mapTo_step (caX (jtC a b)) (madeC c false).ex hv'
    have q4 := mapTo_keep (caX (swC a b)) (madeC c false).ex hv'
    have q7 := mapTo_keep (caX (jtC a b)) (madeC c false).ex hv'
    rw [if_neg (by omega)] at a4 a7
    rw [ev] at a4 a7 s4 s7 q4 q7
    generalize mapTo (caX (swC a b)) (madeC c false).ex v.toNat = r4 at *
    generalize mapTo (caX (jtC a b)) (madeC c false).ex v.toNat = r7 at *
    have hx : 0 <= v /\ v < ((madeC c false).ex.length : Int) := ⟨i0, k⟩
    refine ⟨fun x y => x = mapTo (caX (swC a b)) (madeC c false).ex (v.toNat + 1) /\ y = mapTo (caX (jtC a b)) (madeC c false).ex (v.toNat + 1), ?_, fun x => x = (if (lat (madeC c false).ex v).ca = a then r4.set v.toNat ⟨(lat r4 v).jb, (lat r4 v).pc, b, (lat r4 v).ba, (lat r4 v).op, (lat r4 v).ver⟩ else r4), ?_, hx, fun ka => ⟨⟨i0, by omega⟩, ?_⟩, fun ka => ?_⟩
    . rintro x y ⟨rfl, rfl⟩
      refine ⟨inI_small (by omega), ⟨by omega, ?_, ?_⟩, by dsimp only; omega⟩
      . rw [show (v + 1).toNat = v.toNat + 1 by omega]; rfl
      . rw [show (v + 1).toNat = v.toNat + 1 by omega]; rfl
    . rintro x rfl
      have hlx : ∀ y : Ext, (if (lat (madeC c false).ex v).ca = a then r4.set v.toNat y else r4).length = r4.length := fun y => by
        split
        . rw [List.length_set]
        . rfl
      refine ⟨hx, fun kb => ⟨⟨i0, by rw [hlx]; omega⟩, ⟨i0, by omega⟩, ?_, ?_⟩, fun kb => ⟨?_, ?_⟩⟩
      . rw [<- s4]
        have e : caX (swC a b) (lat (madeC c false).ex v) = ⟨(lat r4 v).jb, (lat r4 v).pc, a, (lat r4 v).ba, (lat r4 v).op, (lat r4 v).ver⟩ := by
          rw [a4]; unfold caX swC; rw [if_pos kb]
        rw [e]
        split
        . rw [lat_set' ⟨i0, by omega⟩ i0, if_pos rfl, List.set_set]
        . rfl
      . rw [<- s7]
        have e : caX (jtC a b) (lat (madeC c false).ex v) = ⟨(lat r7 v).jb, (lat r7 v).pc, a, (lat r7 v).ba, (lat r7 v).op, (lat r7 v).ver⟩ := by
          rw [a7]; unfold caX jtC; rw [if_pos kb]
        rw [e]
      . split
        . rename_i ka
          rw [<- s4]
          have e : caX (swC a b) (lat (madeC c false).ex v) = ⟨(lat r4 v).jb, (lat r4 v).pc, b, (lat r4 v).ba, (lat r4 v).op, (lat r4 v).ver⟩ := by
            rw [a4]; unfold caX swC; rw [if_neg kb, if_pos ka]
          rw [e]
        . rename_i ka
          exact q4 (by unfold caX swC; rw [if_neg kb, if_neg ka])
      . exact q7 (by unfold caX jtC; rw [if_neg kb])
    . show _ = if _ then _ else _
      rw [if_pos ka]
    . show _ = if _ then _ else _
      rw [if_neg ka]
  . rw [mapTo_all _ _ (by omega), mapTo_all _ _ (by omega)]
    have hsw : ∀ q, 0 <= q /\ q < (madeC c false).causes -> 0 <= swC a b q /\ swC a b q < (madeC c false).causes := fun q hq => by unfold swC; split <;> (try split) <;> omega
    have hjt : ∀ q, 0 <= q /\ q < (madeC c false).causes -> 0 <= jtC a b q /\ jtC a b q < (madeC c false).causes := fun q hq => by unfold jtC; split <;> omega
    have v4 := hv.mapX hsw
    have v7 := hv.mapX hjt
    have L4 := v4.lens
    have L7 := v7.lens
    have e1 := hv.vlenI hca.2
    have w4 : (valuesM (exReq (madeC c false) ((madeC c false).ex.map (caX (swC a b))))).1.length = (valuesM (madeC c false)).1.length := by rw [v4.vlen, hv.vlen]; rfl
    have w7 : (valuesM (exReq (madeC c false) ((madeC c false).ex.map (caX (jtC a b))))).1.length = (valuesM (madeC c false)).1.length := by rw [v7.vlen, hv.vlen]; rfl
    refine ⟨L.a, L.b, L.c, L.d, L4.a, L4.b, L4.c, L4.d, L7.a, L7.b, L7.c, L7.d, ⟨fun _ => trivial, fun _ => ⟨fun _ => trivial, fun _ => ⟨fun _ => trivial, fun _ => ⟨hca.1, inI_pow hca, trivial⟩⟩⟩⟩, fun k2 => ?_, fun _ => ?_⟩
    . exact (k2.elim (fun a => a hv.vok) fun k2 => k2.elim (fun a => a v4.vok) fun k2 => k2.elim (fun a => a v7.vok) fun k2 => k2.elim (fun a => a e1) fun k2 => k2.elim (fun a => a (congrArg Nat.cast w4)) fun a => a (congrArg Nat.cast w7)).elim
    refine ⟨fun v => 0 <= v /\ v <= ((valuesM (madeC c false)).1.length : Int), fun v => (valuesM (madeC c false)).1.length - v.toNat, by omega, fun s hI => ⟨fun k => ?_, fun _ => rfl⟩⟩
    have hs : 0 <= s /\ s < ((valuesM (madeC c false)).1.length : Int) := ⟨hI.1, k⟩
    rw [sh_pow ⟨hca.1, by omega⟩] at e1
    have hs2 : 0 <= s /\ s < 2 ^ (madeC c false).causes.toNat := by rw [<- e1]; exact hs
    obtain ⟨⟨n1, n2, n3⟩, n4⟩ := set_names hca hs2 ha hb
    obtain ⟨⟨-, -, m3⟩, -⟩ := set_names hca hs2 hb ha
    obtain ⟨⟨-, -, o3⟩, -⟩ := set_names hca hs2 ha ha
    rw [<- e1] at n1 n2
    have f4 := v4.vlat (s := tM s a b) (by rw [w4]; exact n1)
    have f7 := v7.vlat (s := s) (by rw [w7]; exact hs)
    have g4 := map_lat hv v4 fun q hq => (n4 q hq).1
    have g7 := map_lat hv v7 fun q hq => (n4 q hq).2
    have f1 := hv.vlat hs
    have f2 := hv.vlat n2
    have pa := inI_pow (k := a) ⟨ha.1, by omega⟩
    have pb := inI_pow (k := b) ⟨hb.1, by omega⟩
    have z4 : lat (valuesM (exReq (madeC c false) ((madeC c false).ex.map (caX (swC a b))))).1 (tM s a b) = lat (valuesM (madeC c false)).1 s := by rw [f4, f1]; exact g4
    have z7 : lat (valuesM (exReq (madeC c false) ((madeC c false).ex.map (caX (jtC a b))))).1 s = lat (valuesM (madeC c false)).1 (bothM s a b) := by rw [f7, f2]; exact g7
    refine ⟨ha.1, pa, hb.1, pb, ha.1, hb.1, inI_small (by unfold bitZ at n3; omega), hb.1, ha.1, inI_small (by unfold bitZ at m3; omega), ha.1, ha.1, inI_small (by unfold bitZ at o3; omega), ha.1, hb.1, inI_small (by unfold bitZ at n3; omega), ⟨?_, hs, fun _ => trivial, fun _ => ⟨?_, n2, trivial⟩⟩, fun k2 => ?_, fun _ => ⟨inI_small (by omega), ⟨by omega, by omega⟩, by dsimp only; omega⟩⟩
    . exact ⟨n1.1, Int.lt_of_lt_of_le n1.2 (Int.le_of_eq (congrArg Nat.cast w4.symm))⟩
    . exact ⟨hs.1, Int.lt_of_lt_of_le hs.2 (Int.le_of_eq (congrArg Nat.cast w7.symm))⟩
    . exact (k2.elim (fun h => h z4) fun h => h z7).elim
theorem spec_names (c : Cas) (one : Int) (two : Int) (h0 : CasOk c) (h1 : inI one) (h2 : inI two) : FnP Try.prog 8 [.agg ((e31 true) c), .int .i64 one, .int .i64 two] (fun xR => xR = .bool (true)) :=
  (walk_names (vcp_names c one two h0 h1 h2)).mono (by rintro _ ⟨_, rfl, rfl⟩; rfl)
end Go.Lat
