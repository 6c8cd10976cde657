/- The law latecomerlaw23.ModelApart returns true for every input, and each argument reads afterwards as it read before. Part 6 of 14. No condition. -/
import Derived.Test.YtcldekbjhmhgdaaLatE
import Derived.Lib.Overlaps
import Derived.Test.YtcldekbjhmhgdaaLatD
set_option linter.unusedVariables false
set_option linter.unusedSimpArgs false
set_option linter.unnecessarySimpa false
set_option maxRecDepth 100000
set_option maxHeartbeats 4000000
namespace Go.Lat
open Go.RowKit
def workP (l : List Plc) (q : Int) : Int := (l.map fun p => if p.s = q then p.t else 0).sum
def busyP (l : List Plc) (q fr to : Int) : Int := (l.map fun p => if p.s = q then partV p.v fr to else 0).sum
theorem finish_rows {sv : List Int} {jobs : List Job} (hv : validJ sv jobs = true) {i : Nat} (hi : i < jobs.length) : finishM sv jobs (i : Int) = ((if (lat jobs (i : Int)).wk.length = 0 then (lat jobs (i : Int)).ar else (lat (lat (rowsM jobs.length (runM sv jobs)) (i : Int)) (((lat jobs (i : Int)).wk.length - 1 : Nat) : Int)).en), 0) := by
  unfold finishM
  rw [if_pos ⟨hv, by omega, by omega⟩, endM_rows hi, run_len hv hi]
  by_cases e : (lat jobs (i : Int)).wk.length = 0
  . rw [if_pos (by omega), if_pos e]
  . rw [if_neg (by omega), if_neg e, show (((lat jobs (i : Int)).wk.length : Int) - 1) = (((lat jobs (i : Int)).wk.length - 1 : Nat) : Int) by omega]
end Go.Lat
namespace Go.Lat
open Go.RowKit
theorem vis_eq {a b : Vis} (h1 : a.rd = b.rd) (h2 : a.st = b.st) (h3 : a.en = b.en) : a = b := by
  cases a; cases b; simp only at h1 h2 h3; subst h1 h2 h3; rfl
theorem runN_stop {sv : List Int} {jobs : List Job} {s : RunS} (h : leastS s.ss < 0) : ∀ m : Nat, runN sv jobs m s = []
  | 0 => rfl
  | m + 1 => runN_neg h
theorem work_in {sv : List Int} {jobs : List Job} {c : Nat} {s : RunS} {i : Nat} (h : RInv sv jobs c s) (hi : i < jobs.length) (hp : (lat s.ss i).dn < (lat s.ss i).al) : workM jobs s i ∈ (lat jobs i).wk := by
  have := h.al i hi
  exact lat_mem ⟨by omega, by omega⟩
structure NR (svA svB : List Int) (n : Nat) (sA sB : RunS) : Prop where
  ss : ∀ j : Nat, j < n -> lat sA.ss j = lat sB.ss j
  c : ∀ q x : Int, 0 <= q -> q < svA.length -> cnt svA sA q x = cnt svB sB q x
structure More (svA svB : List Int) (jA jB : List Job) : Prop where
  sl : svA.length <= svB.length
  sq : ∀ q : Int, 0 <= q -> q < svA.length -> lat svB q = lat svA q
  jl : jA.length <= jB.length
  eq : ∀ k : Nat, k < jA.length -> lat jB k = lat jA k
  out : ∀ k : Nat, jA.length <= k -> k < jB.length -> ∀ w ∈ (lat jB k).wk, (svA.length : Int) <= w.st
theorem runN_near {svA svB : List Int} {jA jB : List Job} (H : More svA svB jA jB) : ∀ (mB : Nat) {sA sB : RunS} {cA cB mA : Nat}, RInv svA jA cA sA -> RInv svB jB cB sB -> leftM sA <= mA -> leftM sB <= mB -> NR svA svB jA.length sA sB →
    runN svA jA mA sA = (runN svB jB mB sB).filter fun d => decide (d.j < (jA.length : Int)) := by
  have stop : ∀ {sA sB : RunS} {cA cB : Nat}, RInv svA jA cA sA -> RInv svB jB cB sB -> NR svA svB jA.length sA sB -> leastS sB.ss < 0 -> leastS sA.ss < 0 := fun iA iB R hl => by
    have hn := iB.none hl
    refine leastS_neg fun i hi => ?_
    rw [iA.sl] at hi
    rw [R.ss i hi]
    exact hn i (by have := H.jl; omega)
  intro mB
  induction mB with
  | zero =>
    intro sA sB cA cB mA iA iB hA hB R
    have hl : leastS sB.ss < 0 := by
      rcases Int.lt_or_le (leastS sB.ss) 0 with hl | hl
      . exact hl
      . obtain ⟨i, _, _, _, _, _, _, h7⟩ := iB.go (by omega)
        omega
    rw [runN_stop (stop iA iB R hl), runN_stop hl]; rfl
  | succ mB ih =>
    intro sA sB cA cB mA iA iB hA hB R
    by_cases hl : leastS sB.ss < 0
    . rw [runN_stop (stop iA iB R hl), runN_stop hl]; rfl
    . obtain ⟨i, g1, g2, g3, g4, g5, g6, g7⟩ := iB.go hl
      rw [runN_pos hl, g1]
      by_cases hi : i < jA.length
      . have e : leastS sA.ss = i := by
          refine leastS_eq (by rw [iA.sl]; omega) (by rw [R.ss i hi]; exact g3) fun k hk hp => ?_
          rw [iA.sl] at hk
          rw [R.ss k hk] at hp ⊢
          rw [R.ss i hi]
          exact g4 k (by have := H.jl; omega) hp
        obtain ⟨i', f1, f2, f3, f4, f5, f6, f7⟩ := iA.go (by omega)
        have ei : i' = i := by omega
        subst ei
        obtain ⟨mA', rfl⟩ : ∃ k, mA = k + 1 := ⟨mA - 1, by omega⟩
        rw [runN_pos (by omega), e, List.filter_cons_of_pos (by simp; omega)]
        have ew : workM jB sB i' = workM jA sA i' := by unfold workM; rw [H.eq i' hi, R.ss i' hi]
        have hst := f5.st
        have es : (visM svA jA sA i').st = (visM svB jB sB i').st := by
          have a1 := (f5.vis _).1 (Int.le_refl _)
          have a2 := (g5.vis _).1 (Int.le_refl _)
          rw [ew, <- R.c _ _ hst.1 hst.2, <- R.ss i' hi] at a2
          have b1 := (f5.vis _).2 a2
          rw [R.c _ _ hst.1 hst.2, R.ss i' hi, <- ew] at a1
          have b2 := (g5.vis _).2 a1
          omega
        have ee : (visM svA jA sA i').en = (visM svB jB sB i').en := by rw [f5.en, g5.en, ew, es]
        have er : (visM svA jA sA i').rd = (visM svB jB sB i').rd := by
          show (lat sA.ss i').rd = (lat sB.ss i').rd
          rw [R.ss i' hi]
        rw [vis_eq er es ee]
        congr 1
        refine ih f6 g6 (by omega) (by omega) ⟨fun m hm => ?_, fun q x hq hq2 => ?_⟩
        . rw [f5.ss m, g5.ss m, ee, R.ss i' hi]
          by_cases em : m = i'
          . rw [if_pos em, if_pos em]
          . rw [if_neg em, if_neg em]; exact R.ss m hm
        . have a := f5.cnt q x hq
          have b := g5.cnt q x hq
          rw [<- R.c q x hq hq2, ew, <- ee] at b
          omega
      . rw [List.filter_cons_of_neg (by simp; omega)]
        refine ih iA g6 hA (by omega) ⟨fun m hm => ?_, fun q x hq hq2 => ?_⟩
        . rw [g5.ss m, if_neg (by omega)]; exact R.ss m hm
        . have b := g5.cnt q x hq
          have hw := H.out i (by omega) g2 _ (work_in iB g2 g3)
          rw [if_neg (fun h => by omega)] at b
          rw [R.c q x hq hq2]; omega
theorem run_near {svA svB : List Int} {jA jB : List Job} (H : More svA svB jA jB) (vA : validJ svA jA = true) (vB : validJ svB jB = true) : runM svA jA = (runM svB jB).filter fun d => decide (d.j < (jA.length : Int)) := by
  refine runN_near H _ (RInv.init vA) (RInv.init vB) (Nat.le_refl _) (Nat.le_refl _) ⟨fun k hk => ?_, fun q x hq hq2 => ?_⟩
  . have := H.jl
    rw [init_lat hk, init_lat (by omega), H.eq k hk]
  . have := H.sl
    have e : slots svA (initM svA jA) q = slots svB (initM svB jB) q := by
      have hf : ∀ {sv : List Int} {jobs : List Job}, q < sv.length -> lat (initM sv jobs).fr q = Vector.replicate 4 0 := fun {sv jobs} hlt => by
        obtain ⟨k, hk⟩ : ∃ k : Nat, q = k := ⟨q.toNat, by omega⟩
        subst hk
        exact lat_rep (by omega)
      unfold slots
      rw [hf hq2, hf (by omega), H.sq q hq hq2]
    rw [init_cnt ⟨hq, hq2⟩, init_cnt ⟨hq, by omega⟩, e]
theorem rows_near {svA svB : List Int} {jA jB : List Job} (H : More svA svB jA jB) (vA : validJ svA jA = true) (vB : validJ svB jB = true) {i : Nat} (hi : i < jA.length) : lat (rowsM jA.length (runM svA jA)) (i : Int) = lat (rowsM jB.length (runM svB jB)) (i : Int) := by
  have := H.jl
  rw [rowsM_lat _ hi, rowsM_lat _ (by omega), run_near H vA vB, List.filter_filter]
  congr 1
  refine List.filter_congr fun d _ => ?_
  by_cases e : d.j = (i : Int)
  . rw [decide_eq_true e, decide_eq_true (by omega)]; rfl
  . rw [decide_eq_false e, Bool.false_and]
structure ErR (sv : List Int) (jA : List Job) (k : Nat) (sA sB : RunS) : Prop where
  ss : ∀ j : Nat, j < jA.length -> j ≠ k -> lat sA.ss j = lat sB.ss j
  rd : ∀ j : Nat, j < jA.length -> j ≠ k -> (lat sA.ss j).dn < (lat sA.ss j).al -> (lat sA.ss j).rd = (lat jA j).ar
  k : (lat sA.ss k).rd = (lat jA k).ar /\ (lat sB.ss k).rd = (lat jA k).ar
  c : ∀ x, cnt sv sA 0 x = cnt sv sB 0 x
structure OneD (k : Nat) (jA jB : List Job) : Prop where
  len : jA.length = jB.length
  kl : k < jA.length
  eq : ∀ j : Nat, j < jA.length -> j ≠ k -> lat jA j = lat jB j
  ar : (lat jA k).ar = (lat jB k).ar
  one : ∀ j : Nat, j < jA.length -> (lat jA j).wk.length <= 1
end Go.Lat
namespace Go.Lat
open Go.RowKit
structure ShR (d : Int) (sv : List Int) (n : Nat) (sF sG : RunS) : Prop where
  ss : ∀ j : Nat, j < n -> lat sG.ss j = ⟨(lat sF.ss j).dn, (lat sF.ss j).al, (lat sF.ss j).rd + d⟩
  c : ∀ q x : Int, 0 <= q -> q < sv.length -> 0 <= x -> cnt sv sG q (x + d) = cnt sv sF q x
structure GrR (sv : List Int) (jG : List Job) (sF sG : RunS) : Prop where
  ss : ∀ j : Nat, j < jG.length -> ((lat sG.ss j).dn = 0 /\ (lat sF.ss j).dn = 0 /\ (lat sG.ss j).rd = (lat jG j).ar /\ (lat sF.ss j).rd = (lat jG j).ar) ∨
    ((lat sG.ss j).dn = 1 /\ (lat sF.ss j).dn = (lat sF.ss j).al /\ (lat sF.ss j).rd <= (lat sG.ss j).rd)
  c : ∀ x, cnt sv sG 0 x <= cnt sv sF 0 x
structure LessW (jF jG : List Job) : Prop where
  len : jF.length = jG.length
  ar : ∀ k : Nat, k < jG.length -> (lat jF k).ar = (lat jG k).ar
  one : ∀ k : Nat, k < jG.length -> (lat jG k).wk.length <= 1
  wl : ∀ k : Nat, k < jG.length -> (lat jF k).wk.length <= (lat jG k).wk.length
  tm : ∀ k : Nat, k < jG.length -> (lat jF k).wk.length = 1 -> (lat (lat jF k).wk 0).tm <= (lat (lat jG k).wk 0).tm
structure Nr (N : Int -> Prop) (near : Nat -> Prop) (jA jB : List Job) : Prop where
  len : jA.length = jB.length
  eq : ∀ k : Nat, k < jA.length -> near k -> lat jA k = lat jB k
  inn : ∀ k : Nat, k < jA.length -> near k -> ∀ w ∈ (lat jA k).wk, N w.st
  outA : ∀ k : Nat, k < jA.length -> ¬ near k -> ∀ w ∈ (lat jA k).wk, ¬ N w.st
  outB : ∀ k : Nat, k < jA.length -> ¬ near k -> ∀ w ∈ (lat jB k).wk, ¬ N w.st
structure NrR (sv : List Int) (N : Int -> Prop) (near : Nat -> Prop) (n : Nat) (sA sB : RunS) : Prop where
  ss : ∀ j : Nat, j < n -> near j -> lat sA.ss j = lat sB.ss j
  c : ∀ q x, 0 <= q -> N q -> cnt sv sA q x = cnt sv sB q x
theorem NrR.symm {sv : List Int} {N : Int -> Prop} {near : Nat -> Prop} {n : Nat} {sA sB : RunS} (h : NrR sv N near n sA sB) : NrR sv N near n sB sA := ⟨fun j hj hn => (h.ss j hj hn).symm, fun q x hq hN => (h.c q x hq hN).symm⟩
end Go.Lat
namespace Go.Lat
open Go.RowKit
structure One1 (js : List Job) : Prop where
  len : js.length <= 13
  ar : ∀ j ∈ js, 0 <= j.ar /\ j.ar <= 39
  one : ∀ j ∈ js, j.wk.length <= 1
  wk : ∀ j ∈ js, ∀ w ∈ j.wk, w.st = 0 /\ 0 <= w.tm /\ w.tm <= 60
theorem fin_ok {sv : List Int} {jobs : List Job} (hv : validJ sv jobs = true) {i : Nat} (hi : i < jobs.length) : (finishM sv jobs (i : Int)).2 = 0 := by
  rw [finish_rows hv hi]
end Go.Lat
namespace Go.Lat
open Go.RowKit
theorem valid_of {sv : List Int} {jobs : List Job} (h1 : 1 <= sv.length /\ sv.length <= 6 /\ jobs.length <= 24) (h2 : ∀ n ∈ sv, 1 <= n /\ n <= 4) (h3 : ∀ j ∈ jobs, (0 <= j.ar /\ j.ar <= 4398046511104 /\ j.wk.length <= 6) /\ ∀ w ∈ j.wk, 0 <= w.st /\ w.st <= (sv.length : Int) - 1 /\ 0 <= w.tm /\ w.tm <= 1099511627776) : validJ sv jobs = true := by
  unfold validJ
  rw [Bool.and_eq_true, Bool.and_eq_true, decide_eq_true_eq, List.all_eq_true, List.all_eq_true]
  refine ⟨⟨h1, fun k hk => decide_eq_true (h2 k hk)⟩, fun j hj => ?_⟩
  unfold jobOk
  rw [Bool.and_eq_true, decide_eq_true_eq, List.all_eq_true]
  exact ⟨(h3 j hj).1, fun w hw => decide_eq_true ((h3 j hj).2 w hw)⟩
theorem rows_take {svA svB : List Int} {jA jB : List Job} (H : More svA svB jA jB) (vA : validJ svA jA = true) (vB : validJ svB jB = true) : rowsM jA.length (runM svA jA) = (rowsM jB.length (runM svB jB)).take jA.length := by
  have := H.jl
  apply List.ext_getElem (by rw [List.length_take, rowsM_len, rowsM_len]; omega)
  intro i h1 h2
  rw [rowsM_len] at h1
  rw [List.getElem_take, <- lat_get (by rw [rowsM_len]; exact h1), <- lat_get (by rw [rowsM_len]; omega)]
  exact rows_near H vA vB h1
def shV (d : Int) (v : Vis) : Vis := ⟨v.rd + d, v.st + d, v.en + d⟩
def shD (d : Int) (x : Dn) : Dn := ⟨x.j, shV d x.v⟩
theorem runN_shift {sv : List Int} {jF jG : List Job} {d : Int} (hl : jG.length = jF.length) (hj : ∀ k : Nat, k < jF.length -> lat jG k = ⟨(lat jF k).ar + d, (lat jF k).wk⟩) : ∀ (m : Nat) {sF sG : RunS} {cF cG : Nat}, RInv sv jF cF sF -> RInv sv jG cG sG -> ShR d sv jF.length sF sG →
    runN sv jG m sG = (runN sv jF m sF).map (shD d) := by
  intro m
  induction m with
  | zero => intro sF sG cF cG iF iG R; rfl
  | succ m ih =>
    intro sF sG cF cG iF iG R
    by_cases h : leastS sF.ss < 0
    . have : leastS sG.ss < 0 := leastS_neg fun i hi => by
        rw [iG.sl] at hi
        rw [R.ss i (by omega)]
        exact iF.none h i (by omega)
      rw [runN_stop h, runN_stop this]; rfl
    . obtain ⟨i, h1, h2, h3, h4, h5, h6, _⟩ := iF.go h
      have e : leastS sG.ss = i := by
        refine leastS_eq (by rw [iG.sl]; omega) (by rw [R.ss i h2]; exact h3) fun k hk hp => ?_
        rw [iG.sl] at hk
        rw [R.ss k (by omega)] at hp ⊢
        rw [R.ss i h2]
        have := h4 k (by omega) hp
        simp only
        omega
      obtain ⟨i', g1, g2, g3, g4, g5, g6, _⟩ := iG.go (by omega)
      have ei : i' = i := by omega
      subst ei
      have ew : workM jG sG i' = workM jF sF i' := by unfold workM; rw [hj i' h2, R.ss i' h2]
      have rF := iF.rd i' h2
      have er : (visM sv jG sG i').rd = (visM sv jF sF i').rd + d := by
        show (lat sG.ss i').rd = (lat sF.ss i').rd + d
        rw [R.ss i' h2]
      have es : (visM sv jG sG i').st = (visM sv jF sF i').st + d := by
        have a1 := (h5.vis _).1 (Int.le_refl _)
        have a2 := (g5.vis _).1 (Int.le_refl _)
        have hst := h5.st
        rw [ew, R.ss i' h2] at a2
        have b1 := (g5.vis ((visM sv jF sF i').st + d)).2 (by
          rw [ew, R.ss i' h2, R.c _ _ hst.1 hst.2 (by omega)]
          exact ⟨by simp only; omega, a1.2⟩)
        simp only at a2
        have c2 := R.c _ ((visM sv jG sG i').st - d) hst.1 hst.2 (by omega)
        rw [show (visM sv jG sG i').st - d + d = (visM sv jG sG i').st by omega] at c2
        have b2 := (h5.vis ((visM sv jG sG i').st - d)).2 ⟨by omega, by omega⟩
        omega
      have ee : (visM sv jG sG i').en = (visM sv jF sF i').en + d := by rw [g5.en, h5.en, ew, es]; omega
      rw [runN_pos h, runN_pos (by omega), h1, e, List.map_cons]
      have ev : visM sv jG sG i' = shV d (visM sv jF sF i') := vis_eq er es ee
      rw [show shD d ⟨(i' : Int), visM sv jF sF i'⟩ = ⟨(i' : Int), shV d (visM sv jF sF i')⟩ from rfl, ev]
      congr 1
      refine ih h6 g6 ⟨fun k hk => ?_, fun q x hq hq2 hx => ?_⟩
      . rw [h5.ss k, g5.ss k]
        by_cases e : k = i'
        . rw [if_pos e, if_pos e, ee, R.ss i' h2]
        . rw [if_neg e, if_neg e, R.ss k hk]
      . have a := h5.cnt q x hq
        have b := g5.cnt q (x + d) hq
        rw [R.c q x hq hq2 hx, ew, ee] at b
        simp only [Int.add_lt_add_iff_right] at b
        omega
theorem rows_shift {sv : List Int} {jF jG : List Job} {d : Int} (hd : 0 <= d) (vF : validJ sv jF = true) (vG : validJ sv jG = true) (hl : jG.length = jF.length) (hj : ∀ k : Nat, k < jF.length -> lat jG k = ⟨(lat jF k).ar + d, (lat jF k).wk⟩) {i : Nat} (hi : i < jF.length) :
    lat (rowsM jG.length (runM sv jG)) (i : Int) = (lat (rowsM jF.length (runM sv jF)) (i : Int)).map (shV d) := by
  have e : runM sv jG = (runM sv jF).map (shD d) := by
    have hle : leftM (initM sv jG) = leftM (initM sv jF) := by
      unfold leftM initM
      simp only [List.map_map]
      congr 1
      apply List.ext_getElem (by simp [hl])
      intro a h1 h2
      have h3 : a < jF.length := by simpa using h2
      have := hj a h3
      rw [lat_get (by omega), lat_get h3] at this
      simp [this]
    unfold runM
    rw [hle]
    refine runN_shift hl hj _ (RInv.init vF) (RInv.init vG) ⟨fun k hk => ?_, fun q x hq hq2 hx => ?_⟩
    . rw [init_lat hk, init_lat (by omega), hj k hk]
    . rw [init_cnt ⟨hq, hq2⟩, init_cnt ⟨hq, hq2⟩, if_pos (by omega), if_pos hx, slots_init sv jG jF]
  rw [rowsM_lat _ (by omega), rowsM_lat _ hi, e, List.filter_map, List.map_map, List.map_map]
  rfl
def sumT (j : Job) (k : Nat) : Int := ((j.wk.take k).map (·.tm)).sum
theorem sumT_succ {j : Job} {k : Nat} (h : k < j.wk.length) : sumT j (k + 1) = sumT j k + (lat j.wk (k : Int)).tm := by
  unfold sumT
  rw [take_succ_lat h, List.map_append, List.sum_append]; simp
theorem sumT_zero (j : Job) : sumT j 0 = 0 := by simp [sumT]
theorem fin_ge {sv : List Int} {jobs : List Job} (hv : validJ sv jobs = true) {i : Nat} (hi : i < jobs.length) : (lat jobs (i : Int)).ar + sumT (lat jobs (i : Int)) (lat jobs (i : Int)).wk.length <= (finishM sv jobs (i : Int)).1 := by
  have key : ∀ k : Nat, k < (lat jobs (i : Int)).wk.length -> (lat jobs (i : Int)).ar + sumT (lat jobs (i : Int)) (k + 1) <= (lat (lat (rowsM jobs.length (runM sv jobs)) (i : Int)) (k : Int)).en := by
    intro k
    induction k with
    | zero =>
      intro hk
      obtain ⟨a, b, c, d, e⟩ := run_vis hv hi hk
      rw [if_pos rfl] at a
      rw [sumT_succ hk, sumT_zero]
      omega
    | succ k ih =>
      intro hk
      obtain ⟨a, b, c, d, e⟩ := run_vis hv hi hk
      rw [if_neg (by omega), Nat.add_sub_cancel] at a
      have := ih (by omega)
      rw [sumT_succ hk]
      omega
  rw [finish_rows hv hi]
  show _ <= (if _ then _ else _)
  by_cases e : (lat jobs (i : Int)).wk.length = 0
  . rw [if_pos e, e, sumT_zero]; omega
  . rw [if_neg e]
    have := key ((lat jobs (i : Int)).wk.length - 1) (by omega)
    rwa [show (lat jobs (i : Int)).wk.length - 1 + 1 = (lat jobs (i : Int)).wk.length by omega] at this
theorem countP_last {α : Type} {f : Nat -> α} {p : α -> Bool} {n : Nat} (h : ∀ k, k < n -> p (f k) = true -> k + 1 = n) : ((List.range n).map f).countP p <= 1 := by
  cases n with
  | zero => simp
  | succ n =>
    rw [map_range_succ, List.countP_append]
    have : ((List.range n).map f).countP p = 0 := by
      rw [List.countP_eq_zero]
      intro x hx
      obtain ⟨k, hk, rfl⟩ := List.mem_map.1 hx
      have hk := List.mem_range.1 hk
      intro hp
      have := h k (by omega) hp
      omega
    rw [this, List.countP_singleton]
    split <;> omega
theorem countP_places {jobs : List Job} {l : List (List Vis)} {p : Plc -> Bool} {i : Nat} (h : ∀ j, (placeJ jobs l j).countP p <= if j = i then 0 else 1) : ∀ n : Nat, (placesA jobs l n).countP p + (if i < n then 1 else 0) <= n
  | 0 => by simp [placesA]
  | n + 1 => by
    have ih := countP_places h n
    have hn := h n
    rw [placesA_succ, List.countP_append]
    by_cases e : n = i
    . subst e
      rw [if_pos rfl] at hn
      rw [if_neg (Nat.lt_irrefl _)] at ih
      rw [if_pos (by omega)]; omega
    . rw [if_neg e] at hn
      by_cases e2 : i < n
      . rw [if_pos e2] at ih; rw [if_pos (by omega)]; omega
      . rw [if_neg e2] at ih; rw [if_neg (by omega)]; omega
theorem place_mem {jobs : List Job} {l : List (List Vis)} {n i k : Nat} (hi : i < n) (hk : k < (lat l (i : Int)).length) : (⟨i, (lat (lat jobs (i : Int)).wk (k : Int)).st, (lat (lat jobs (i : Int)).wk (k : Int)).tm, lat (lat l (i : Int)) (k : Int)⟩ : Plc) ∈ placesA jobs l n := by
  unfold placesA
  rw [List.mem_flatten]
  refine ⟨placeJ jobs l i, List.mem_map.2 ⟨i, List.mem_range.2 hi, rfl⟩, ?_⟩
  unfold placeJ
  exact List.mem_map.2 ⟨k, List.mem_range.2 hk, rfl⟩
theorem run_nowait {sv : List Int} {jobs : List Job} (hv : validJ sv jobs = true) (hw : ∀ q : Int, 0 <= q -> q < sv.length -> (jobs.length : Int) <= lat sv q) : ∀ p ∈ places jobs (runM sv jobs), p.v.st = p.v.rd := by
  obtain ⟨t, c, _, ⟨_, _, h3⟩, _⟩ := run_ind (P := fun D s => Rw sv jobs D s /\ PI sv jobs D s /\ ∀ p ∈ places jobs D, p.v.st = p.v.rd) hv ⟨Rw.init, PI.init, fun p hp => by rw [places_nil] at hp; cases hp⟩ fun D s c i R h hi _ hd hm o => by
    obtain ⟨W, I, N⟩ := h
    refine ⟨W.step R hi hd o, I.step W R hi hd hm o, fun p hp => ?_⟩
    rcases (places_mem (visM sv jobs s i) hi p).1 hp with hp | rfl
    . exact N p hp
    . show (visM sv jobs s i).st = (visM sv jobs s i).rd
      have hrd : (visM sv jobs s i).rd = (lat s.ss i).rd := rfl
      have h0 := (R.rd i hi).1
      have hst := (o.vis _).1 (Int.le_refl _)
      have hso := slots_init_len hv o.st
      have hwq := hw _ o.st.1 o.st.2
      have hfree := I.free (workM jobs s i).st (lat s.ss i).rd o.st.1 o.st.2 h0 fun p hp _ => by
        rw [N p hp]; exact I.rd p hp i hi hd
      have hb : behind jobs D (workM jobs s i).st (lat s.ss i).rd + 1 <= jobs.length := by
        have := countP_places (jobs := jobs) (l := rowsM jobs.length D) (i := i) (p := fun p => decide (p.s = (workM jobs s i).st /\ (lat s.ss i).rd < p.v.en)) (fun j => ?_) jobs.length
        . rw [if_pos hi] at this
          exact this
        . rcases Nat.lt_or_ge j jobs.length with hj | hj
          . by_cases e : j = i
            . subst e
              rw [if_pos rfl, Nat.le_zero, List.countP_eq_zero]
              intro x hx
              unfold placeJ at hx
              obtain ⟨k, hk, rfl⟩ := List.mem_map.1 hx
              have hk := List.mem_range.1 hk
              intro hp
              have hp := (of_decide_eq_true hp).2
              have hr := W.rd j hj
              rw [if_neg (by omega)] at hr
              simp only at hp
              rcases Nat.lt_or_ge (k + 1) (lat (rowsM jobs.length D) (j : Int)).length with h1 | h1
              . have h2 := I.rd _ (place_mem (jobs := jobs) (l := rowsM jobs.length D) hj h1) j hj hd
                have h3 := (W.vis j hj (k + 1) h1).1
                rw [if_neg (by omega), Nat.add_sub_cancel] at h3
                simp only at h2
                omega
              . rw [show (lat (rowsM jobs.length D) (j : Int)).length - 1 = k by omega] at hr
                omega
            . rw [if_neg e]
              unfold placeJ
              refine countP_last fun k hk hp => ?_
              have hp := (of_decide_eq_true hp).2
              simp only at hp
              rcases Nat.lt_or_ge (k + 1) (lat (rowsM jobs.length D) (j : Int)).length with h1 | h1
              . have h2 := I.rd _ (place_mem (jobs := jobs) (l := rowsM jobs.length D) hj h1) i hi hd
                have h3 := (W.vis j hj (k + 1) h1).1
                rw [if_neg (by omega), Nat.add_sub_cancel] at h3
                simp only at h2
                omega
              . omega
          . have : placeJ jobs (rowsM jobs.length D) j = [] := by
              unfold placeJ
              have : lat (rowsM jobs.length D) (j : Int) = [] := by
                rw [lat_nat, List.getD_eq_getElem?_getD, List.getElem?_eq_none (by rw [rowsM_len]; exact hj)]; rfl
              rw [this]; rfl
            rw [this]; simp
      have := (o.vis (lat s.ss i).rd).2 ⟨Int.le_refl _, by omega⟩
      omega
  exact h3
theorem fin_nowait {sv : List Int} {jobs : List Job} (hv : validJ sv jobs = true) (hw : ∀ q : Int, 0 <= q -> q < sv.length -> (jobs.length : Int) <= lat sv q) {i : Nat} (hi : i < jobs.length) : finishM sv jobs (i : Int) = ((lat jobs (i : Int)).ar + sumT (lat jobs (i : Int)) (lat jobs (i : Int)).wk.length, 0) := by
  have hn := run_nowait hv hw
  have key : ∀ k : Nat, k < (lat jobs (i : Int)).wk.length -> (lat (lat (rowsM jobs.length (runM sv jobs)) (i : Int)) (k : Int)).en = (lat jobs (i : Int)).ar + sumT (lat jobs (i : Int)) (k + 1) := by
    intro k
    induction k with
    | zero =>
      intro hk
      obtain ⟨a, b, c, d, e⟩ := run_vis hv hi hk
      rw [if_pos rfl] at a
      have := hn _ (place_mem (jobs := jobs) (l := rowsM jobs.length (runM sv jobs)) (n := jobs.length) hi (by rw [run_len hv hi]; exact hk))
      simp only at this
      rw [sumT_succ hk, sumT_zero]
      omega
    | succ k ih =>
      intro hk
      obtain ⟨a, b, c, d, e⟩ := run_vis hv hi hk
      rw [if_neg (by omega), Nat.add_sub_cancel] at a
      have := ih (by omega)
      have := hn _ (place_mem (jobs := jobs) (l := rowsM jobs.length (runM sv jobs)) (n := jobs.length) hi (by rw [run_len hv hi]; exact hk))
      simp only at this
      rw [sumT_succ hk]
      omega
  rw [finish_rows hv hi]
  by_cases e : (lat jobs (i : Int)).wk.length = 0
  . rw [if_pos e, e, sumT_zero, Int.add_zero]
  . rw [if_neg e, key _ (by omega), show (lat jobs (i : Int)).wk.length - 1 + 1 = (lat jobs (i : Int)).wk.length by omega]
end Go.Lat
namespace Go.Lat
open Go.RowKit
section
variable {X : Nat -> Prop} {D : List Deferred × Rho} {w0 : World} {mA : Mem} {r : Rho} {m : MM} {st : St} {a : Act} {w : World}
theorem live_len {t t' : TypeId} {sz sz' : Nat} {cs cs' : List AV} (h : cs'.length = cs.length) (hl : (AObj.row t sz cs').live = true) : (AObj.row t' sz' cs).live = true := by
  refine live_row ?_
  cases cs' with
  | nil => cases hl
  | cons => simp at h; omega
theorem R.reobjR (h : R X D w0 mA r m st a w) {j : Nat} {bt : TypeId} {sz : Nat} {bcs bcs' : List AV} (ho : st.heap[j]? = some (.row bt sz bcs)) (hl' : bcs'.length = bcs.length) (hk : OR r m w j (.row bt sz bcs')) : R X D w0 mA r m { st with heap := st.heap.set j (.row bt sz bcs') } a w := by
  have hlen : j < st.heap.length := by
    rcases Nat.lt_or_ge j st.heap.length with h1 | h1
    . exact h1
    . rw [List.getElem?_eq_none h1] at ho; cases ho
  have get : ∀ (i : Nat) oi, (st.heap.set j (.row bt sz bcs'))[i]? = some oi -> ∃ oo, st.heap[i]? = some oo /\ (oi.live = true -> oo.live = true) /\ (i = j /\ oi = .row bt sz bcs' /\ oo = .row bt sz bcs \/ oi = oo) := by
    intro i oi hi
    by_cases e : i = j
    . subst e
      rw [List.getElem?_set_self hlen] at hi
      cases hi
      exact ⟨_, ho, fun hl => live_len hl' hl, .inl ⟨rfl, rfl, rfl⟩⟩
    . rw [List.getElem?_set_ne (Ne.symm e)] at hi
      exact ⟨oi, hi, fun h => h, .inr rfl⟩
  refine { h with len := by simpa using h.len, lt := ?_, apart := ?_, obj := ?_, own := ?_, inj := ?_, nox := h.nox }
  . intro i oi b c hi hl hr
    obtain ⟨oo, h1, h2, -⟩ := get i oi hi
    exact h.lt i oo b c h1 (h2 hl) hr
  . intro p v hp i oi b c hi hl hr
    obtain ⟨oo, h1, h2, -⟩ := get i oi hi
    exact h.apart p v hp i oo b c h1 (h2 hl) hr
  . intro i oi hi
    obtain ⟨oo, h1, -, ⟨rfl, rfl, rfl⟩ | rfl⟩ := get i oi hi
    . exact hk
    . exact h.obj i oi h1
  . intro i oi b c hi hl hr
    obtain ⟨oo, h1, h2, -⟩ := get i oi hi
    exact h.own i oo b c h1 (h2 hl) hr
  . intro i k oi ok b c c' hi hk' hli hlk hri hrk
    obtain ⟨oo, h1, h2, -⟩ := get i oi hi
    obtain ⟨op, h3, h4, -⟩ := get k ok hk'
    exact h.inj i k oo op b c c' h1 h3 (h2 hli) (h4 hlk) hri hrk
theorem sealC_len {fl : Bool} {id sz k : Nat} {cs' : List AV} : ∀ {xs ys : List AV}, sealC fl id sz k cs' xs ys -> ys.length = xs.length
  | [], [], _ => rfl
  | [], _ :: _, h => h.elim
  | _ :: _, [], h => h.elim
  | x :: xs, y :: ys, h => by have := sealC_len (xs := xs) (ys := ys) h.2; simp [this]
theorem R.sealW (fl : Bool) (id j : Nat) {n sz bsz : Nat} {t bt : TypeId} {cs cs' bcs bcs' : List AV} {h h' : List AObj} {tm : Nat -> AV} {l : List (Nat × AV)} (ho : h[id]? = some (.row t sz cs)) (hb : h[j]? = some (.row bt bsz bcs)) (hc : SealVs fl cs cs')
    (hl : sealT fl id sz cs.length cs' tm l) (hbc : sealC fl id sz cs.length cs' bcs bcs') (hh : (h.set id .dead).set j (.row bt bsz bcs') = h') (hne : Nat.beq id j = false) (hR : R X D w0 mA r m ⟨n, tm, h, 0⟩ a w) : ∃ m', R X D w0 mA r m' ⟨n, look l, h', 0⟩ a w := by
  obtain ⟨m', hle, hR', hv⟩ := hR.sealH rfl fl ho hc
  subst hh
  have hne : id ≠ j := Nat.ne_of_beq_eq_false hne
  have hb' : (h.set id .dead)[j]? = some (.row bt bsz bcs) := by rw [List.getElem?_set_ne hne]; exact hb
  have low := hR.low
  have conv : ∀ (xs ys : List AV) (vs : List Value), sealC fl id sz cs.length cs' xs ys -> VRs r m xs vs -> VRs r m' ys vs := by
    intro xs
    induction xs with
    | nil => intro ys vs hs hv'; cases ys with
      | nil => simpa only [VRs] using hv'
      | cons => exact hs.elim
    | cons x xs ih => intro ys vs hs hv'; cases ys with
      | nil => exact hs.elim
      | cons y ys =>
        simp only [VRs] at hv' ⊢
        obtain ⟨v, vs', rfl, h1, h2⟩ := hv'
        refine ⟨v, vs', rfl, ?_, ih ys vs' hs.2 h2⟩
        rcases hs.1 with e | ⟨nb, n', e1, e2, e3⟩
        . rw [e]; exact VR.mono (RLe.refl r) hle x v h1
        . rw [e3]; rw [e1] at h1; exact hv nb n' _ e2 h1
  have hlen := sealC_len hbc
  have hR2 : R X D w0 mA r m' ⟨n, tm, (h.set id .dead).set j (.row bt bsz bcs'), 0⟩ a w := by
    refine hR'.reobjR hb' hlen ?_
    rcases hR.obj j _ hb with rfl | ⟨b, c, cur, e1, e2, e3, e4, e5, e6, e7⟩
    . exact .inl (List.eq_nil_of_length_eq_zero hlen)
    . exact .inr ⟨b, c, cur, e1, e2, by rw [hlen]; exact e3, e4, e5, by rw [hlen]; exact e6, by rw [hlen]; exact conv _ _ _ hbc e7⟩
  refine ⟨m', { hR2 with tmps := fun t => ?_, size' := hR2.size', nox := hR2.nox }⟩
  have key : ∀ (l : List (Nat × AV)), sealT fl id sz cs.length cs' tm l -> VR r m' (look l t) (a.tmps.getD t undef) := by
    intro l
    induction l with
    | nil => intro _; simp only [look, VR]
    | cons p l ih =>
      obtain ⟨q, v⟩ := p
      intro hl
      rw [look_cons]
      split
      . rename_i e
        subst e
        rcases hl.1 with e | ⟨nb, n', e1, e2, e3⟩
        . rw [e]; exact hR'.tmps t
        . rw [e3]
          exact hv nb n' _ e2 (by have := hR.tmps t; simp only at this; rw [e1] at this; exact this)
      . exact ih hl.2
  exact key l hl
theorem W.sealW {P : Program} {T : TT} {Q : Ex -> St -> Prop} {c : Code} (fl : Bool) (id j : Nat) {n sz bsz : Nat} {t bt : TypeId} {cs cs' bcs bcs' : List AV} {h h' : List AObj} {tm : Nat -> AV} {l : List (Nat × AV)} (ho : h[id]? = some (.row t sz cs)) (hb : h[j]? = some (.row bt bsz bcs)) (hc : SealVs fl cs cs')
    (hl : sealT fl id sz cs.length cs' tm l) (hbc : sealC fl id sz cs.length cs' bcs bcs') (hh : (h.set id .dead).set j (.row bt bsz bcs') = h') (hne : Nat.beq id j = false) (hw : W P T c ⟨n, look l, h', 0⟩ Q) : W P T c ⟨n, tm, h, 0⟩ Q := fun hT hf ro hro k X D w0 mA r m a w hR => by
  obtain ⟨m', hR'⟩ := R.sealW fl id j ho hb hc hl hbc hh hne hR
  exact hw hT hf ro hro k X D w0 mA r m' a w hR'
def St.goes (s : St) (K : St -> Prop) : Prop := ∀ (X : Nat -> Prop) (D : List Deferred × Rho) (w0 : World) (mA : Mem) (r : Rho) (m : MM) (a : Act) (w : World), R X D w0 mA r m s a w -> ∃ r' m' s', K s' /\ R X D w0 mA r' m' s' a w
theorem go_nil {s : St} {K : St -> Prop} (h : K s) : s.goes K := fun X D w0 mA r m a w hR => ⟨r, m, s, h, hR⟩
theorem W.rL1g {P : Program} {T : TT} {Q : Ex -> St -> Prop} {st : St} {id : Nat} {ol : List Oper} (h1 : seqL P T ol [] 0 ol st fun s => s.goes (Q .nrm)) : W P T (.region id ol.toArray false) st Q := fun hT _ ro _ n X D w0 mA r m a w hR =>
  wpIn_region_list (seqL_sound hT (fun s r' m' a' w' hs hR' => by
    obtain ⟨r2, m2, s2, h2, hR2⟩ := hs _ _ _ _ _ _ _ _ hR'
    exact ⟨[], r2, m2, s2, fun _ => rfl, h2, hR2⟩) ol 0 hR h1)
end
end Go.Lat
namespace Go.Lat
open Go.RowKit
def StepS (P : Program) (T : TT) (o : Oper) (st : St) (K : AV -> List AObj -> Prop) : Prop :=
  TsOk P T -> ∀ (ro : Option Nat) (n : Nat) (X : Nat -> Prop) (D : List Deferred × Rho) (w0 : World) (mA : Mem) (r : Rho) (m : MM) (a : Act) (w : World) (next : Act -> World -> Prop) (Q : Exit -> Act -> World -> Prop), R X D w0 mA r m st a w →
    (∀ x h' r' m' u w', K x h' -> R X D w0 mA r' m' { st with heap := h' } a w' -> VR r' m' x u -> next (a.put o.dst u) w') -> o.wpIn (FW ro) n P a w next Q
def seqS (P : Program) (T : TT) (ops : List Oper) : List Oper -> St -> (St -> Prop) -> Prop
  | [], st, K => K st
  | o :: l, st, K => (o.guard = none /\ StepS P T o st fun v h => seqS P T ops l ({ st with heap := h }.put o.dst v) K) \/ stepG P T ops o st fun s => seqS P T ops l s K
section
variable {X : Nat -> Prop} {D : List Deferred × Rho} {w0 : World} {mA : Mem} {P : Program} {T : TT}
theorem seqS_sound (hT : TsOk P T) {ops : Array Oper} {ro : Option Nat} {n : Nat} {Q : Exit -> Act -> World -> Prop} {K : St -> Prop}
    (hQ : ∀ s r' m' a' w', K s -> R X D w0 mA r' m' s a' w' -> Q .normal a' w') :
    ∀ (l : List Oper) {r : Rho} {m : MM} {st : St} {a : Act} {w : World}, R X D w0 mA r m st a w -> seqS P T ops.toList l st K -> wpListIn (FW ro) n P ops Q l a w
  | [], _, _, _, _, _, hR, h => hQ _ _ _ _ _ h hR
  | o :: l, r, m, st, a, w, hR, h => wpListIn_step fun K' hK' => by
      rcases h with ⟨hg, h⟩ | h
      . rw [if_pos (by simp [Region.wanted, hg])]
        exact h hT ro n X D w0 mA r m a w _ _ hR fun x h' r' m' u w' hK hR' hv => hK' _ w' (seqS_sound hT hQ l (hR'.put o.dst hv) hK)
      . exact stepG_sound hT hR h fun s r' m' a' w' hs hR' => hK' a' w' (seqS_sound hT hQ l hR' hs)
end
section
variable {P : Program} {T : TT} {ops rest : List Oper} {o : Op} {ty : TypeId} {pos : String} {af : Array Edge} {n : Nat} {l : List (Nat × AV)} {h h' : List AObj} {b : Nat} {K : AV -> List AObj -> Prop} {KS : St -> Prop} {Q : Ex -> St -> Prop} {c : Code} {st : St}
theorem W.rS1 {id : Nat} {ol : List Oper} (h1 : seqS P T ol ol st (Q .nrm)) : W P T (.region id ol.toArray false) st Q := fun hT _ ro _ n X D w0 mA r m a w hR =>
  wpIn_region_list (seqS_sound hT (fun s r' m' a' w' hs hR' => ⟨[], r', m', s, fun _ => rfl, hs, hR'⟩) ol hR h1)
theorem W.rS {id : Nat} {ol : List Oper} (h1 : seqS P T ol ol st fun s => W P T c s Q) : W P T (.seq (.region id ol.toArray false) c) st Q := W.seq _ (W.rS1 h1) fun _ h => h
theorem cX {d : Nat} (hd : Nat.ble (d + 1) n = true) (h1 : opC P T ⟨some d, o, ty, pos, af, none⟩ ⟨n, look l, h, b⟩ fun v h' => seqS P T ops rest ⟨n, look ((d, v) :: l), h', b⟩ KS) :
    seqS P T ops (⟨some d, o, ty, pos, af, none⟩ :: rest) ⟨n, look l, h, b⟩ KS := by
  have hd' : d < n := Nat.le_of_ble_eq_true hd
  refine Or.inr ?_
  show opC P T ⟨some d, o, ty, pos, af, none⟩ ⟨n, look l, h, b⟩ fun v h' => seqS P T ops rest (St.put ⟨n, look l, h', b⟩ (some d) v) KS
  have e : (fun v h' => seqS P T ops rest (St.put ⟨n, look l, h', b⟩ (some d) v) KS) = fun v h' => seqS P T ops rest ⟨n, look ((d, v) :: l), h', b⟩ KS := by
    funext v h'
    rw [St.put_look d v hd']
  rw [e]
  exact h1
theorem cXs {d : Nat} (hd : Nat.ble (d + 1) n = true) (h1 : StepS P T ⟨some d, o, ty, pos, af, none⟩ ⟨n, look l, h, b⟩ fun v h' => seqS P T ops rest ⟨n, look ((d, v) :: l), h', b⟩ KS) :
    seqS P T ops (⟨some d, o, ty, pos, af, none⟩ :: rest) ⟨n, look l, h, b⟩ KS := by
  have hd' : d < n := Nat.le_of_ble_eq_true hd
  refine Or.inl ⟨rfl, ?_⟩
  have e : (fun v h' => seqS P T ops rest (St.put ⟨n, look l, h', b⟩ (some d) v) KS) = fun v h' => seqS P T ops rest ⟨n, look ((d, v) :: l), h', b⟩ KS := by
    funext v h'
    rw [St.put_look d v hd']
  show StepS P T _ _ fun v h' => seqS P T ops rest (St.put ⟨n, look l, h', b⟩ (some d) v) KS
  rw [e]
  exact h1
theorem eX (h1 : KS st) : seqS P T ops [] st KS := h1
end
theorem callG_mk {P : Program} {h H0 : List AObj} {f : AV} {args ys args0 fst caps : List AV} {k : FuncId} {Post : AV -> List AObj -> Prop} {K : AV -> List AObj -> Prop} (hf : f = .clo k fst caps) (ha : args = ys) (spec : FnG P k H0 args0 Post) (hU : UpH h H0) (hA : Ups (fst ++ ys ++ caps) args0) (hk : ∀ x H', Post x H' -> K x H') : callG P h f args K := by
  subst hf; subst ha
  exact ⟨H0, args0, Post, spec, hU, hA, hk⟩
theorem UpH.self {h : List AObj} (H : ∀ o ∈ h, UpO o o) : UpH h h := ⟨rfl, fun i o' hi _ => ⟨o', hi, H o' (List.mem_of_getElem? hi)⟩⟩
theorem Ups.flat {xs : List AV} (h : ∀ x ∈ xs, flatV x = true) : Ups xs xs := Ups.up fun x hx => by
  have := h x hx
  cases x <;> simp only [flatV, Bool.false_eq_true] at this <;> rfl
theorem run_append_grow_zeros {P : Program} {w : World} (t tn ty e : TypeId) (i : TypeInfo) (z : Value) (k kn : IntKind) (ht : P.underlying t = some (.slice e)) (htn : P.underlying tn = some (.int kn)) (hi : P.info? e = some i) (hz : i.zero = some z)
    (b : Addr) (sLen sCap : Nat) (olds : List Value) (hlo : olds.length = sLen * i.size) (holds : ∀ (j : Nat) v, olds[j]? = some v -> w.cell? (b.add j) = some v) (n : Nat) (h0 : 0 < n) (hs : 0 < i.size) (hle : sLen + n <= 1073741824) (hby : i.bytes <= 131072)
    (hg : sCap < sLen + n) (hfit : Builtin.nextslicecap (sLen + n) sCap * i.bytes <= 281474976710656) :
    (Builtin.append_ #[t, tn] ty #[.slice (some b) sLen sCap, .int k n]).run P w =
      .ok (.slice (some ⟨w.heap.size, 0, none⟩) (sLen + n) (grownCap w (sLen + n) sCap e)) (w.drew.alloc (.cells (olds.toArray ++ Builtin.zeroCells z.cells n ++ Builtin.zeroCells z.cells (grownCap w (sLen + n) sCap e - (sLen + n))) e)) := by
  have hn : n ≠ 0 := by omega
  have hnc : ¬ (sLen + n <= sCap) := by omega
  have hw : IntKind.i64.wrap (n : Int) = n := by rw [IntKind.wrap_i64]; omega
  have h63' : ¬ (9223372036854775807 < ((sLen : Int) + (n : Int))) := by omega
  have h48' : ¬ (281474976710656 < Builtin.nextslicecap (sLen + n) sCap * i.bytes) := by omega
  have h48i : ¬ (281474976710656 < (n : Int) * (i.bytes : Int)) := by
    rw [<- Int.natCast_mul]
    have := Nat.mul_le_mul (show n <= 1073741824 by omega) hby
    omega
  have hneg : ¬ ((n : Int) < 0) := by omega
  have hns : ¬ (n * i.size = 0) := Nat.mul_ne_zero hn (by omega)
  have hfo := run_firstCells_some (P := P) w.drew i.size sLen b sLen sCap olds hlo (by simpa using holds)
  simp [Builtin.append_, run_underlying ht, run_underlying htn, sizeOf, typeInfo, zeroValue, hi, hz, asInt, asIntOf, hw, hn, hnc, hneg, hns, h63', h48', h48i, Question.forced, hfo, newRow, grownCap]
theorem zeroCells_eq (z : Array Value) (n : Nat) : Builtin.zeroCells z n = (Array.range (n * z.size)).map (z[· % z.size]!) := rfl
section
variable {P : Program} {T : TT} {d : Option Tmp} {ty : TypeId} {pos : String} {af : Array Edge} {g : Option (Nat × Bool)} {n : Nat} {l : List (Nat × AV)} {h : List AObj} {b : Nat} {K : AV -> List AObj -> Prop} {a a2 : Operand}
theorem s_apZ {t tn e : TypeId} {s s2 by_ b2 es eb id kk len cp : Nat} {z z2 ez cs : List AV} {ek : TK} {x : Int} (ht : T t = some ⟨.sl e, s, by_, z⟩) (htn : T tn = some ⟨.int .i64, s2, b2, z2⟩) (he : T e = some ⟨ek, es, eb, ez⟩) (hb : (Nat.ble 1 es && Nat.ble eb 131072) = true)
    (h1 : St.eval ⟨n, look l, h, b⟩ a = .cut true id 0 kk len cp) (h2 : St.eval ⟨n, look l, h, b⟩ a2 = .int .i64 x) (ho : h[id]? = some (.row e es cs)) (hx : 0 < x) (hk : len * es <= cs.length) (hcp : (cp : Int) < len + x) (hle : (len : Int) + x <= 1073741824)
    {p q0 : Nat} {cc : List AV} (hp : h.length = p) (hq0 : len + x.toNat = q0) (hcc : cs.take (len * es) ++ zerosA x.toNat es ez = cc) (hK : K (.ref true p q0) (h ++ [.row e es cc])) : StepS P T ⟨d, .call ⟨.builtin .append, #[a, a2], #[t, tn]⟩, ty, pos, af, none⟩ ⟨n, look l, h, b⟩ K := by
  intro hT ro N X D w0 mA r m a0 w next Q hR hnext
  subst hp; subst hq0; subst hcc
  simp only [Bool.and_eq_true] at hb
  have hsz : 0 < es := Nat.le_of_ble_eq_true hb.1
  have hby : eb <= 131072 := Nat.le_of_ble_eq_true hb.2
  have hv1 := hR.eval a
  rw [h1] at hv1
  have hv2 := hR.eval a2
  rw [h2] at hv2
  simp only [VR] at hv1 hv2
  obtain ⟨q, rfl⟩ : ∃ q : Nat, x = q := ⟨x.toNat, by omega⟩
  rw [Int.toNat_natCast] at hK
  have hq0 : 0 < q := by omega
  rcases hv1 with ⟨hc, _⟩ | ⟨b', c, hb', hlc, hkc, _, hva⟩
  . cases hc
  have hsl : P.underlying t = some (.slice e) := (hT t _ ht).sl rfl
  have hin : P.underlying tn = some (.int .i64) := by have := (hT tn _ htn).kind; exact this
  obtain ⟨inf, zv, hi, hi1, hi2, hi3, hi4, hi5, hi6⟩ := (hT e _ he).info
  simp only at hi1 hi2 hi4 hi6
  have hzs : zv.cells.size = es := by have := hi4.length; simp only [Array.length_toList] at this; omega
  obtain ⟨olds, hol, hov, ho1, hoc⟩ : ∃ olds : List Value, olds.length = len * es /\ VRs r m (cs.take (len * es)) olds /\ (∀ u ∈ olds, u.oneCell' = true) /\ ∀ (j : Nat) u, olds[j]? = some u -> w.cell? ((⟨b', 0, none⟩ : Addr).add j) = some u := by
    rcases hR.obj id _ ho with rfl | ⟨b'', c', cur, e1, e2, e0, e3, e4, e5, e6⟩
    . simp only [List.length_nil, Nat.le_zero_eq] at hk
      exact ⟨[], by simp [hk], by rw [List.take_nil]; exact VRs.nil, by simp, by simp⟩
    rw [hb'] at e1
    cases e1
    refine ⟨(cur.toList.take cs.length).take (len * es), ?_, e6.take _, fun u hu => e0 u (List.mem_of_mem_take hu), fun j u hu => ?_⟩
    . have hcl : cs.length <= cur.toList.length := by simpa using e5
      rw [List.take_take, List.length_take]; omega
    . rw [Addr.add_lit]
      simp only [World.cell?, e2]
      rw [List.take_take, List.getElem?_take] at hu
      split at hu
      . simpa using hu
      . cases hu
  have hrun := run_append_grow_zeros (P := P) (w := w) t tn ty e inf zv .i64 .i64 hsl hin hi hi3 ⟨b', 0, none⟩ len cp olds (by rw [hi1]; exact hol) hoc q hq0 (by omega) (by omega) (by omega) (by omega)
    (growslice_fits (by omega) (by have := Nat.mul_le_mul (show len + q <= 1073741824 by omega) hby; rw [hi2]; omega))
  have hnew := rget_new r (w.heap.size, grownCap w (len + q) cp e) hR.len
  have hge := grownCap_ge w (len + q) cp e
  have hszz : (Builtin.zeroCells zv.cells q).size = q * es := by rw [size_zeroCells, hzs]
  have hszE : (olds.toArray ++ Builtin.zeroCells zv.cells q ++ Builtin.zeroCells zv.cells (grownCap w (len + q) cp e - (len + q))).size = grownCap w (len + q) cp e * es := by
    simp only [Array.size_append, List.size_toArray, size_zeroCells, hzs, hol, <- Nat.add_mul]
    congr 1
    omega
  have hzl : (zerosA q es ez).length = q * es := by simp [zerosA]
  have hxl : (cs.take (len * es) ++ zerosA q es ez).length = (len + q) * es := by rw [List.length_append, List.length_take, Nat.min_eq_left hk, hzl, Nat.add_mul]
  have htk : (olds.toArray ++ Builtin.zeroCells zv.cells q ++ Builtin.zeroCells zv.cells (grownCap w (len + q) cp e - (len + q))).toList.take ((cs.take (len * es) ++ zerosA q es ez).length) = olds ++ (Builtin.zeroCells zv.cells q).toList := by
    rw [hxl]
    simp only [Array.toList_append]
    have : (len + q) * es = (olds ++ (Builtin.zeroCells zv.cells q).toList).length := by rw [List.length_append, hol, Array.length_toList, hszz, Nat.add_mul]
    rw [this]
    exact List.take_left
  have hzv : VRs r m (zerosA q es ez) (Builtin.zeroCells zv.cells q).toList := by
    have hi4' : VRs r m ez zv.cells.toList := hi4.mono (RLe.nil r) (fun _ _ _ h => by cases h)
    have := zeros_sound (n := q) (s := es) (zs := ez) (z := zv.cells) hi4' hi6 hsz
    rw [zeroCells_eq, hzs]
    rw [hzs] at this
    exact this
  have hz1 : ∀ u ∈ (Builtin.zeroCells zv.cells q).toList, u.oneCell' = true := by
    intro u hu
    rw [zeroCells_eq, Array.toList_map, List.mem_map] at hu
    obtain ⟨i, hi, rfl⟩ := hu
    have hm : i % zv.cells.size < zv.cells.size := Nat.mod_lt _ (by omega)
    rw [getElem!_pos zv.cells _ hm]
    exact hi5 _ (by simp)
  have hR' := hR.fresh (o := .row e es (cs.take (len * es) ++ zerosA q es ez)) (c := grownCap w (len + q) cp e) (w' := w.drew.alloc (.cells (olds.toArray ++ Builtin.zeroCells zv.cells q ++ Builtin.zeroCells zv.cells (grownCap w (len + q) cp e - (len + q))) e))
    ⟨rfl, rfl, rfl, by simp, fun k hk _ => (by show (w.drew.heap.push _)[k]? = w.drew.heap[k]?; have hk2 : k < w.drew.heap.size := hk; rw [Array.getElem?_push, if_neg (Nat.ne_of_lt hk2)])⟩ (by show w.drew.heap.size < (w.drew.heap.push _).size; rw [Array.size_push]; exact Nat.lt_succ_self _)
    (.inr ⟨_, _, _, hnew, heap_new w.drew _, by
      rw [htk]
      intro u hu
      rcases List.mem_append.1 hu with hu | hu
      . exact ho1 u hu
      . exact hz1 u hu, grownCap_le_maxLen _ _ _ _ (by unfold maxLen; omega), hszE, by rw [hszE, hxl]; exact Nat.mul_le_mul_right _ hge, by
      rw [htk]
      exact (hov.app hzv).mono (RLe.app _ _) (MLe.refl m)⟩)
  refine Oper.wpIn_value (fun c h' => by cases h') (u := .slice (some ⟨w.heap.size, 0, none⟩) (len + q) (grownCap w (len + q) cp e)) (w' := w.drew.alloc (.cells (olds.toArray ++ Builtin.zeroCells zv.cells q ++ Builtin.zeroCells zv.cells (grownCap w (len + q) cp e - (len + q))) e)) (nx := .value (.slice (some ⟨w.heap.size, 0, none⟩) (len + q) (grownCap w (len + q) cp e))) ?_ (.inl rfl) (hnext _ _ _ m _ _ hK hR' ?_)
  . simp [execOp, resolve, invoke, builtin, hva, hv2, hrun]
  . simp only [VR]
    exact .inr ⟨by omega, _, _, hnew, hge, rfl⟩
def OvF (P : Program) (k : FuncId) : Prop := ∃ fn t tr e, P.funcs[k]? = some fn /\ (fn.name == "runtime.NumGoroutine") = false /\ fn.body.isNone = true /\ Extern.findNext fn = none /\ Extern.find fn = some (Extern.SlicesOverlaps.overlaps #[t, t] #[tr]) /\ P.underlying t = some (.slice e) /\ ∃ size, ∀ w, (Go.sizeOf e).run P w = .ok size w
theorem s_ovl {k : FuncId} {f : Operand} {tys : Array TypeId} {nb ex : Bool} {id1 id2 n1 off kk len cp t1 z1 t2 z2 : Nat} {cs1 cs2 : List AV} (hf : OvF P k) (h0 : St.eval ⟨n, look l, h, b⟩ f = .clo k [] []) (h1 : St.eval ⟨n, look l, h, b⟩ a = .ref nb id1 n1) (h2 : St.eval ⟨n, look l, h, b⟩ a2 = .cut ex id2 off kk len cp)
    (hn : 0 < n1) (hc : 0 < cp) (ho1 : h[id1]? = some (.row t1 z1 cs1)) (ho2 : h[id2]? = some (.row t2 z2 cs2)) (hl1 : 0 < cs1.length) (hl2 : 0 < cs2.length) (hne : id1 ≠ id2) (hK : K (.bool false) h) : StepS P T ⟨d, .call ⟨.value f, #[a, a2], tys⟩, ty, pos, af, none⟩ ⟨n, look l, h, b⟩ K := by
  intro hT ro N X D w0 mA r m a0 w next Q hR hnext
  have hv0 := hR.eval f
  rw [h0] at hv0
  have hv1 := hR.eval a
  rw [h1] at hv1
  have hv2 := hR.eval a2
  rw [h2] at hv2
  simp only [VR, VRs] at hv0 hv1 hv2
  obtain ⟨x, y, hx, hx1, hy1⟩ := hv0
  have ex' : x = #[] := Array.toList_inj.1 (by simpa using hx1)
  have ey' : y = #[] := Array.toList_inj.1 (by simpa using hy1)
  subst ex'; subst ey'
  rcases hv1 with ⟨hz, _⟩ | ⟨_, b1, c1, hb1, hle1, hva⟩
  . omega
  rcases hv2 with ⟨_, _, hz, _⟩ | ⟨b2, c2, hb2, hle2, _, _, hvb⟩
  . omega
  rcases hR.obj id1 _ ho1 with rfl | ⟨b1', c1', cur1, e1, e2, _, _, _, e5, _⟩
  . simp at hl1
  rcases hR.obj id2 _ ho2 with rfl | ⟨b2', c2', cur2, f1, f2, _, _, _, f5, _⟩
  . simp at hl2
  rw [hb1] at e1; cases e1
  rw [hb2] at f1; cases f1
  have hbne : b1 ≠ b2 := fun e => by
    subst e
    exact hne (hR.inj id1 id2 _ _ b1 c1 c2 ho1 ho2 (live_row hl1) (live_row hl2) hb1 hb2)
  obtain ⟨fn, t, tr, e, g1, g2, g3, g4, g5, g6, size, g7⟩ := hf
  have hov := Lib.run_overlaps_apart (P := P) w t tr e g6 size g7 ⟨b1, 0, none⟩ ⟨b2, off, none⟩ n1 c1 len cp hbne t1 t2 cur1.size cur2.size (by simp [World.shape?, e2]) (by simp [World.shape?, f2]) (by omega) (by simp [World.frozen?, e2]) (by simp [World.frozen?, e2])
  have hcall : (callFunc k #[.slice (some ⟨b1, 0, none⟩) n1 c1, .slice (some ⟨b2, off, none⟩) len cp]).run P w = .ok (.value (.bool false)) w := by
    rw [run_callFunc_extern g1 g2 g3 g4 g5, hov]; rfl
  refine Oper.wpIn_value (fun c h' => by cases h') (u := .bool false) (w' := w) (nx := .value (.bool false)) ?_ (.inl rfl) (hnext _ _ r m _ _ hK hR (by simp only [VR]))
  simp [execOp, resolve, Deferred.ofValue, hx, invoke, hva, hvb, hcall]
theorem o_slC {t e : TypeId} {s by_ es eb : Nat} {z ez : List AV} {ek : TK} (ht : T t = some ⟨.sl e, s, by_, z⟩) (he : T e = some ⟨ek, es, eb, ez⟩) {lo hi : Option Operand} {x y : Int} {ex : Bool} {id off k m cp off' k' m' cp' : Nat} (h1 : St.eval ⟨n, look l, h, b⟩ a = .cut ex id off k m cp) (hlo : boundA 0 (lo.map (St.eval ⟨n, look l, h, b⟩)) = some x) (hhi : boundA m (hi.map (St.eval ⟨n, look l, h, b⟩)) = some y)
    (hj : 0 <= x /\ x <= y /\ y <= (cp : Int) /\ x < (cp : Int)) (e1 : off + x.toNat * es = off') (e2 : k + x.toNat = k') (e3 : y.toNat - x.toNat = m') (e4 : cp - x.toNat = cp') (hk : K (.cut ex id off' k' m' cp') h) : opC P T ⟨d, .slice t a lo hi none, ty, pos, af, g⟩ ⟨n, look l, h, b⟩ K := by
  show sliceA T t (St.eval ⟨n, look l, h, b⟩ a) (lo.map (St.eval ⟨n, look l, h, b⟩)) (hi.map (St.eval ⟨n, look l, h, b⟩)) none (fun v => K v h)
  subst e1; subst e2; subst e3; subst e4
  rw [h1]; simp only [sliceA, ht, he, hlo, hhi]
  exact ⟨hj, hk⟩
theorem o_cap {t e : TypeId} {s by_ : Nat} {z : List AV} {ex : Bool} {id off k m cp : Nat} (ht : T t = some ⟨.sl e, s, by_, z⟩) (h1 : St.eval ⟨n, look l, h, b⟩ a = .cut ex id off k m cp) (hk : K (.int .i64 (cp : Int)) h) : opC P T ⟨d, .call ⟨.builtin .cap, #[a], #[t]⟩, ty, pos, af, g⟩ ⟨n, look l, h, b⟩ K := by
  show capA T t (St.eval ⟨n, look l, h, b⟩ a) (fun v => K v h)
  rw [h1]; simp only [capA, ht]
  exact hk
theorem o_slZ {t e : TypeId} {s by_ es eb : Nat} {z ez : List AV} {ek : TK} (ht : T t = some ⟨.sl e, s, by_, z⟩) (he : T e = some ⟨ek, es, eb, ez⟩) {lo hi : Option Operand} {x y : Int} (h1 : St.eval ⟨n, look l, h, b⟩ a = .nilS) (hlo : boundA 0 (lo.map (St.eval ⟨n, look l, h, b⟩)) = some x) (hhi : boundA 0 (hi.map (St.eval ⟨n, look l, h, b⟩)) = some y)
    (hj : x = 0 /\ y = 0) (hk : K .nilS h) : opC P T ⟨d, .slice t a lo hi none, ty, pos, af, g⟩ ⟨n, look l, h, b⟩ K := by
  show sliceA T t (St.eval ⟨n, look l, h, b⟩ a) (lo.map (St.eval ⟨n, look l, h, b⟩)) (hi.map (St.eval ⟨n, look l, h, b⟩)) none (fun v => K v h)
  rw [h1]; simp only [sliceA, ht, he, hlo, hhi]
  exact ⟨hj, hk⟩
theorem spl_enc {α : Type} {e : α -> List AV} {sz k off : Nat} (hw : Wd e sz) (xs ys : List α) (hoff : off = k * sz) (hk : k + ys.length <= xs.length) : Lat.spl (zYy e xs) off (zYy e ys) = zYy e (xs.take k ++ ys ++ xs.drop (k + ys.length)) := by
  subst hoff
  have h1 : k * sz + (zYy e ys).length = (k + ys.length) * sz := by rw [zYw hw, Nat.add_mul]
  rw [Lat.spl_eq _ _ _ (by rw [h1, zYw hw]; exact Nat.mul_le_mul_right _ hk), h1, encL_take hw, encL_drop hw, encL_app, encL_app]
theorem put_enc {α : Type} {e : α -> List AV} {sz k off m q : Nat} (hw : Wd e sz) (xs ys : List α) (hoff : off = k * sz) (hm : off + q * sz = m * sz) : (zYy e xs).take off ++ zYy e ys ++ (zYy e xs).drop (off + q * sz) = zYy e (xs.take k ++ ys ++ xs.drop m) := by
  rw [hm, hoff, encL_take hw, encL_drop hw, encL_app, encL_app]
theorem o_cpG {t t2 e et : TypeId} {s by_ es eb id m q off : Nat} {z ez ys zs cs cs' : List AV} {ek : TK} (ht : T t = some ⟨.sl e, s, by_, z⟩) (he : T e = some ⟨ek, es, eb, ez⟩) (h1 : St.eval ⟨n, look l, h, b⟩ a = .sub id off m) (hs : srcA h es (St.eval ⟨n, look l, h, b⟩ a2) = some (q, ys)) (hl : ys.length = q * es) (ho : h[id]? = some (.row et es cs)) (hq : 0 < min q m) (hy : ys.take (min q m * es) = zs) (hin : off + zs.length <= cs.length) (hcs : Lat.spl cs off zs = cs')
    (hk : K (.int .i64 ((min q m : Nat) : Int)) (h.set id (.row et es cs'))) : opC P T ⟨d, .call ⟨.builtin .copy, #[a, a2], #[t, t2]⟩, ty, pos, af, g⟩ ⟨n, look l, h, b⟩ K := by
  show copyA T h t (St.eval ⟨n, look l, h, b⟩ a) (St.eval ⟨n, look l, h, b⟩ a2) K
  subst hy; subst hcs
  rw [h1]; simp only [copyA, ht, he, hs]
  refine ⟨hl, fun h0 => by omega, fun _ => ?_⟩
  simp only [putCells, ho]
  exact ⟨hin, hk⟩
theorem o_cpC {t t2 e et : TypeId} {s by_ es eb id m q off k cp : Nat} {z ez ys cs cs' : List AV} {ek : TK} {ex : Bool} (ht : T t = some ⟨.sl e, s, by_, z⟩) (he : T e = some ⟨ek, es, eb, ez⟩) (h1 : St.eval ⟨n, look l, h, b⟩ a = .cut ex id off k m cp) (hs : firstA h es m (St.eval ⟨n, look l, h, b⟩ a2) = some (q, ys)) (hl : ys.length = q * es) (ho : h[id]? = some (.row et es cs)) (hq : 0 < q) (hc0 : 0 < cs.length) (hoff : off = k * es) (hin : off <= cs.length) (hcs : cs.take off ++ ys ++ cs.drop (off + q * es) = cs')
    (hk : K (.int .i64 (q : Int)) (h.set id (.row et es cs'))) : opC P T ⟨d, .call ⟨.builtin .copy, #[a, a2], #[t, t2]⟩, ty, pos, af, g⟩ ⟨n, look l, h, b⟩ K := by
  show copyA T h t (St.eval ⟨n, look l, h, b⟩ a) (St.eval ⟨n, look l, h, b⟩ a2) K
  subst hcs
  rw [h1]
  rcases hx : srcA h es (St.eval ⟨n, look l, h, b⟩ a2) with _ | ⟨q', ys'⟩ <;> simp only [copyA, ht, he, hx, hs] <;> simp only [cutPut, ho] <;> exact ⟨⟨trivial, hq, hc0, hoff, hin, hl⟩, hk⟩
theorem first_cut {es dn : Nat} {ex : Bool} {id off k m cp t sz q : Nat} {cs ys : List AV} (ho : h[id]? = some (.row t sz cs)) (hq : min m dn = q) (hy : (cs.drop off).take (q * es) = ys) : firstA h es dn (.cut ex id off k m cp) = some (q, ys) := by
  subst hq; subst hy
  simp only [firstA, ho]
theorem first_src {es dn m q : Nat} {x : AV} {ys zs : List AV} (hx : ∀ ex id off k m cp, x ≠ .cut ex id off k m cp) (hs : srcA h es x = some (m, ys)) (hl : ys.length = m * es) (hq : min m dn = q) (hy : ys.take (q * es) = zs) : firstA h es dn x = some (q, zs) := by
  subst hq; subst hy
  unfold firstA
  split
  . rename_i ex id off k n cp _
    exact absurd rfl (hx _ _ _ _ _ _)
  . rw [hs]; simp [hl]
end
theorem Ren.refNil {φ : List (Option Nat)} {j n : Nat} (hn : n = 0) : Ren φ (.ref true j n) .nilS := fun r m v _ hv => by
  simp only [VR] at hv ⊢
  rcases hv with ⟨_, _, h1 | ⟨hnb, _⟩⟩ | ⟨h0, _⟩
  . exact h1
  . cases hnb
  . omega
theorem Ren.cutR {φ : List (Option Nat)} {nb : Bool} {id j n cp : Nat} (hφ : φ[j]? = some (some id)) (h0 : 0 < n) : Ren φ (.cut true id 0 0 n cp) (.ref nb j n) := fun r m v _ hv => by
  simp only [VR] at hv ⊢
  rcases hv with ⟨hc, _⟩ | ⟨b, c, h1, h2, h3, h4, h5⟩
  . cases hc
  have := h4 trivial
  exact .inr ⟨h0, b, c, rmap_get hφ h1, by omega, by rw [h5]; congr 1; omega⟩
section
variable {P : Program} {T : TT} {Q : Ex -> St -> Prop} {c : Code}
theorem W.cutR {nt t id n : Nat} {nb : Bool} {l : List (Nat × AV)} {h : List AObj} {b : Nat} (hl : look l t = .ref nb id n) (h0 : 0 < n) (hw : ∀ cp, n <= cp -> W P T c ⟨nt, look ((t, .cut true id 0 0 n cp) :: l), h, b⟩ Q) : W P T c ⟨nt, look l, h, b⟩ Q := fun hT hf ro hro k X D w0 mA r m a w hR => by
  have hv := hR.tmps t
  simp only [hl, VR] at hv
  rcases hv with ⟨hz, _⟩ | ⟨_, b', c', hb, hle, hv⟩
  . omega
  refine hw c' hle hT hf ro hro k X D w0 mA r m a w { hR with tmps := fun t' => ?_, size' := hR.size', nox := hR.nox }
  show VR r m (look ((t, .cut true id 0 0 n c') :: l) t') _
  rw [look_cons]
  split
  . rename_i e
    subst e
    simp only [VR]
    exact .inr ⟨b', c', hb, hle, by omega, fun _ => by omega, hv⟩
  . exact hR.tmps t'
def mvT (id q : Nat) (tm : Nat -> AV) : List (Nat × AV) -> Prop
  | [] => True
  | (t, v) :: l => (∃ nb n cp, tm t = .cut true id 0 0 n cp /\ 0 < n /\ v = .ref nb q n) /\ mvT id q tm l
theorem W.mv {nt id : Nat} {tm : Nat -> AV} {l : List (Nat × AV)} {h : List AObj} {b : Nat} {t sz : Nat} {cs : List AV} (ho : h[id]? = some (.row t sz cs)) (hc : 0 < cs.length) (hl : mvT id h.length tm l) (hw : W P T c ⟨nt, look l, h.set id .dead ++ [.row t sz cs], b⟩ Q) : W P T c ⟨nt, tm, h, b⟩ Q := fun hT hf ro hro k X D w0 mA r m a w hR => by
  rcases hR.obj id _ ho with rfl | ⟨b', c', cur, e1, e2, e3, e4, e5, e6, e7⟩
  . simp at hc
  have hlv : (AObj.row t sz cs).live = true := live_row hc
  have hlt := hR.lt id _ b' c' ho hlv e1
  have hk := hR.kill id
  have hidl : id < h.length := by
    rcases Nat.lt_or_ge id h.length with h1 | h1
    . exact h1
    . rw [List.getElem?_eq_none h1] at ho; cases ho
  have get : ∀ (i : Nat) oi, (h.set id .dead)[i]? = some oi -> oi.live = true -> i ≠ id /\ h[i]? = some oi := by
    intro i oi hi hli
    by_cases e : i = id
    . subst e
      rw [List.getElem?_set_self hidl] at hi
      cases hi; cases hli
    . rw [List.getElem?_set_ne (Ne.symm e)] at hi
      exact ⟨e, hi⟩
  have hp := hk.push (o := .row t sz cs) (b := b') (c := c') hlt (fun i oi c'' hi hli hri => by
      obtain ⟨h1, h2⟩ := get i oi hi hli
      exact h1 (hR.inj i id _ _ b' c'' c' h2 ho hli hlv hri e1)) (fun p v hp => hR.apart p v hp id _ b' c' ho hlv e1) (hR.own id _ b' c' ho hlv e1)
      (.inr ⟨b', c', cur, by rw [show (List.set h id AObj.dead).length = r.length by rw [List.length_set]; exact hR.len.symm]; simp, e2, e3, e4, e5, e6, e7.mono (RLe.app _ _) (MLe.refl m)⟩)
  refine hw hT hf ro hro k X D w0 mA _ m a w { hp with tmps := fun t' => ?_, size' := hR.size', nox := hR.nox }
  show VR _ m (look l t') _
  have key : ∀ l : List (Nat × AV), mvT id h.length tm l -> VR (r ++ [(b', c')]) m (look l t') (a.tmps.getD t' undef) := by
    intro l
    induction l with
    | nil => intro _; simp only [look, VR]
    | cons p l ih =>
      obtain ⟨q, v⟩ := p
      rintro ⟨⟨nb, n, cp, f1, f2, rfl⟩, h2⟩
      rw [look_cons]
      split
      . rename_i e
        subst e
        have hv := hR.tmps t'
        simp only [f1, VR] at hv ⊢
        rcases hv with ⟨hc, _⟩ | ⟨b2, c2, g1, g2, g3, g4, g5⟩
        . cases hc
        rw [e1] at g1
        cases g1
        have := g4 trivial
        exact .inr ⟨f2, b', c', by rw [show h.length = r.length from hR.len.symm]; simp, by omega, by rw [g5]; congr 1; omega⟩
      . exact ih h2
  exact key l hl
end
end Go.Lat
namespace Go.Lat
open Go.RowKit
section
variable {α : Type}
def nstC (q : Nat) (vs : List (List α)) (i : Nat) : List AV := [.ref true (q + i) (lat vs (i : Int)).length]
def nstO (t : TypeId) (sz : Nat) (en : α -> List AV) (vs : List (List α)) (i : Nat) : AObj := .row t sz (zYy en (lat vs (i : Int)))
def nstR (ot : TypeId) (q : Nat) (vs : List (List α)) : AObj := .row ot 1 (cellsN (nstC q vs) vs.length)
def nstT (t : TypeId) (sz : Nat) (en : α -> List AV) (vs : List (List α)) : List AObj := objsN (nstO t sz en vs) vs.length
theorem nst_wd (q : Nat) (vs : List (List α)) : Wd (nstC q vs) 1 := fun _ => rfl
theorem nstT_len (t : TypeId) (sz : Nat) (en : α -> List AV) (vs : List (List α)) : (nstT t sz en vs).length = vs.length := objsN_len _ _
theorem nst_len {A : List AObj} {t : TypeId} {sz : Nat} {en : α -> List AV} {vs : List (List α)} {a : Nat} (h : A.length = a) : (A ++ nstT t sz en vs).length = a + vs.length := by rw [List.length_append, nstT_len, h]
def gS (src : List (Option (Nat ⊕ Nat))) (a n i : Nat) : Option Nat := if i < src.length then (match src[i]? with | some (some (.inl k)) => some k | some (some (.inr p)) => some (a + n + p) | _ => none) else some (a + (i - src.length))
theorem gS_inl {src : List (Option (Nat ⊕ Nat))} {a n j k : Nat} (h : src[j]? = some (some (.inl k))) : (idx (src.length + n) (gS src a n))[j]? = some (some k) := by
  have hj := (List.getElem?_eq_some_iff.1 h).1
  rw [idx_get (by omega)]
  unfold gS
  rw [if_pos hj, h]
theorem gS_inr {src : List (Option (Nat ⊕ Nat))} {a n j p : Nat} (h : src[j]? = some (some (.inr p))) : (idx (src.length + n) (gS src a n))[j]? = some (some (a + n + p)) := by
  have hj := (List.getElem?_eq_some_iff.1 h).1
  rw [idx_get (by omega)]
  unfold gS
  rw [if_pos hj, h]
theorem gS_in0 {src : List (Option (Nat ⊕ Nat))} {a n j : Nat} (h : src[j]? = some (some (.inr 0))) : (idx (src.length + n) (gS src a n))[j]? = some (some (a + n)) := gS_inr h
theorem gS_tl {src : List (Option (Nat ⊕ Nat))} {a n i : Nat} (h : i < n) : (idx (src.length + n) (gS src a n))[src.length + i]? = some (some (a + i)) := by
  rw [idx_get (by omega)]
  unfold gS
  rw [if_neg (by omega), show src.length + i - src.length = i by omega]
def okS (a : Nat) : List (Option (Nat ⊕ Nat)) -> Bool
  | [] => true
  | none :: l => okS a l
  | some (.inl k) :: l => Nat.blt k a && (l.all fun y => decide (y ≠ some (.inl k))) && okS a l
  | some (.inr k) :: l => (l.all fun y => decide (y ≠ some (.inr k))) && okS a l
theorem okS_inj {a : Nat} : ∀ {src : List (Option (Nat ⊕ Nat))}, okS a src = true -> ∀ (i j : Nat) (x : Nat ⊕ Nat), src[i]? = some (some x) -> src[j]? = some (some x) -> i = j
  | [], _, i, _, _, hi, _ => by simp at hi
  | none :: l, h, i, j, x, hi, hj => by
    rcases i with _ | i <;> rcases j with _ | j
    . rfl
    . simp at hi
    . simp at hj
    . have := okS_inj (src := l) h i j x (by simpa using hi) (by simpa using hj); omega
  | some (.inl k) :: l, h, i, j, x, hi, hj => by
    simp only [okS, Bool.and_eq_true, List.all_eq_true, decide_eq_true_eq] at h
    rcases i with _ | i <;> rcases j with _ | j
    . rfl
    . simp only [List.getElem?_cons_zero, List.getElem?_cons_succ, Option.some.injEq] at hi hj
      subst hi; exact absurd rfl (h.1.2 _ (List.mem_of_getElem? hj))
    . simp only [List.getElem?_cons_zero, List.getElem?_cons_succ, Option.some.injEq] at hi hj
      subst hj; exact absurd rfl (h.1.2 _ (List.mem_of_getElem? hi))
    . have := okS_inj (src := l) h.2 i j x (by simpa using hi) (by simpa using hj); omega
  | some (.inr k) :: l, h, i, j, x, hi, hj => by
    simp only [okS, Bool.and_eq_true, List.all_eq_true, decide_eq_true_eq] at h
    rcases i with _ | i <;> rcases j with _ | j
    . rfl
    . simp only [List.getElem?_cons_zero, List.getElem?_cons_succ, Option.some.injEq] at hi hj
      subst hi; exact absurd rfl (h.1 _ (List.mem_of_getElem? hj))
    . simp only [List.getElem?_cons_zero, List.getElem?_cons_succ, Option.some.injEq] at hi hj
      subst hj; exact absurd rfl (h.1 _ (List.mem_of_getElem? hi))
    . have := okS_inj (src := l) h.2 i j x (by simpa using hi) (by simpa using hj); omega
theorem okS_lt {a : Nat} : ∀ {src : List (Option (Nat ⊕ Nat))}, okS a src = true -> ∀ (i k : Nat), src[i]? = some (some (.inl k)) -> k < a
  | [], _, i, _, hi => by simp at hi
  | none :: l, h, i, k, hi => by
    rcases i with _ | i
    . simp at hi
    . exact okS_lt (src := l) h i k (by simpa using hi)
  | some (.inl q) :: l, h, i, k, hi => by
    simp only [okS, Bool.and_eq_true] at h
    rcases i with _ | i
    . simp at hi; subst hi; exact Nat.le_of_ble_eq_true h.1.1
    . exact okS_lt (src := l) h.2 i k (by simpa using hi)
  | some (.inr q) :: l, h, i, k, hi => by
    simp only [okS, Bool.and_eq_true] at h
    rcases i with _ | i
    . simp at hi
    . exact okS_lt (src := l) h.2 i k (by simpa using hi)
theorem gS_inj {src : List (Option (Nat ⊕ Nat))} {a n : Nat} (h : okS a src = true) : injB (idx (src.length + n) (gS src a n)) = true := injB_idx fun i j k hi hj h1 h2 => by
  have look : ∀ i, i < src.length + n -> gS src a n i = some k -> (∃ x, src[i]? = some (some x) /\ (x = .inl k /\ k < a \/ ∃ p, x = .inr p /\ k = a + n + p)) \/ (src.length <= i /\ k = a + (i - src.length)) := fun i hi h3 => by
    unfold gS at h3
    split at h3
    . left
      split at h3
      . rename_i q hq
        cases h3
        exact ⟨_, hq, .inl ⟨rfl, okS_lt h i _ hq⟩⟩
      . rename_i p hp
        cases h3
        exact ⟨_, hp, .inr ⟨p, rfl, rfl⟩⟩
      . cases h3
    . right
      cases h3
      exact ⟨by omega, rfl⟩
  rcases look i hi h1 with ⟨x, hx, hxk⟩ | ⟨hl, hk⟩ <;> rcases look j hj h2 with ⟨y, hy, hyk⟩ | ⟨hl', hk'⟩
  . rcases hxk with ⟨rfl, _⟩ | ⟨p, rfl, hp⟩ <;> rcases hyk with ⟨rfl, _⟩ | ⟨p', rfl, hp'⟩
    . exact okS_inj h i j _ hx hy
    . omega
    . omega
    . have : p = p' := by omega
      subst this
      exact okS_inj h i j _ hx hy
  . rcases hxk with ⟨rfl, _⟩ | ⟨p, rfl, hp⟩ <;> omega
  . rcases hyk with ⟨rfl, _⟩ | ⟨p, rfl, hp⟩ <;> omega
  . omega
def getS (A news : List AObj) : Nat ⊕ Nat -> Option AObj
  | .inl k => A[k]?
  | .inr p => news[p]?
def slotsOk (φ : List (Option Nat)) (A news : List AObj) : List (Option (Nat ⊕ Nat)) -> List AObj -> Prop
  | [], [] => True
  | none :: s, o :: l => o.live = false /\ slotsOk φ A news s l
  | some x :: s, o :: l => (o = .dead \/ ∃ o0, getS A news x = some o0 /\ RenO φ o0 o) /\ slotsOk φ A news s l
  | _, _ => False
theorem slotsOk_at {φ : List (Option Nat)} {A news : List AObj} : ∀ {s : List (Option (Nat ⊕ Nat))} {l : List AObj}, slotsOk φ A news s l -> s.length = l.length /\ ∀ (i : Nat) o, l[i]? = some o -> (s[i]? = some none /\ o.live = false) \/ ∃ x, s[i]? = some (some x) /\ (o = .dead \/ ∃ o0, getS A news x = some o0 /\ RenO φ o0 o)
  | [], [], _ => ⟨rfl, fun i o h => by simp at h⟩
  | [], _ :: _, h => h.elim
  | none :: _, [], h => h.elim
  | some _ :: _, [], h => h.elim
  | none :: s, o :: l, h => by
    obtain ⟨h1, h2⟩ := slotsOk_at h.2
    refine ⟨by simp [h1], fun i o' hi => ?_⟩
    rcases i with _ | i
    . simp at hi; subst hi; exact .inl ⟨rfl, h.1⟩
    . exact h2 i o' (by simpa using hi)
  | some x :: s, o :: l, h => by
    obtain ⟨h1, h2⟩ := slotsOk_at h.2
    refine ⟨by simp [h1], fun i o' hi => ?_⟩
    rcases i with _ | i
    . simp at hi; subst hi; exact .inr ⟨x, rfl, h.1⟩
    . exact h2 i o' (by simpa using hi)
theorem to_nst {nt : Nat} {tm : Nat -> AV} {l : List (Nat × AV)} {A A' news : List AObj} {t : TypeId} {sz : Nat} {en : α -> List AV} {ef : Bool -> α -> List AV} (he : Enc ef sz) (hen : en = ef false) {vs : List (List α)} (src : List (Option (Nat ⊕ Nat))) {a n : Nat} (ha : A.length = a) (hn : vs.length = n) (hok : okS a src = true)
    (hr : regsT (idx (src.length + n) (gS src a n)) tm l) (hA : slotsOk (idx (src.length + n) (gS src a n)) A news src A') : St.to ⟨nt, tm, A ++ nstT t sz en vs ++ news, 0⟩ ⟨nt, look l, A' ++ nstT t sz en vs, 0⟩ := by
  subst ha; subst hn; subst hen
  obtain ⟨hsl, hs⟩ := slotsOk_at hA
  have hlen : (A' ++ nstT t sz (ef false) vs).length = src.length + vs.length := by rw [List.length_append, nstT_len, hsl]
  have hh := RenH.idx (g := gS src A.length vs.length) (h := A ++ nstT t sz (ef false) vs ++ news) (h' := A' ++ nstT t sz (ef false) vs) (by
    rw [hlen]
    intro i o hi
    rcases Nat.lt_or_ge i A'.length with h1 | h1
    . rw [List.getElem?_append_left h1] at hi
      rcases hs i o hi with ⟨h2, h3⟩ | ⟨x, h2, h3⟩
      . left
        refine ⟨?_, h3⟩
        unfold gS
        rw [if_pos (by omega), h2]
      . right
        rcases x with k | p
        . refine ⟨k, ?_, h3.imp id ?_⟩
          . unfold gS; rw [if_pos (by omega), h2]
          . rintro ⟨o0, h4, h5⟩
            have h4 : A[k]? = some o0 := h4
            have hk := (List.getElem?_eq_some_iff.1 h4).1
            refine ⟨o0, ?_, h5⟩
            rw [List.append_assoc, List.getElem?_append_left hk]; exact h4
        . refine ⟨A.length + vs.length + p, ?_, h3.imp id ?_⟩
          . unfold gS; rw [if_pos (by omega), h2]
          . rintro ⟨o0, h4, h5⟩
            have h4 : news[p]? = some o0 := h4
            refine ⟨o0, ?_, h5⟩
            rw [List.getElem?_append_right (by rw [List.length_append, nstT_len]; omega), List.length_append, nstT_len, show A.length + vs.length + p - (A.length + vs.length) = p by omega]; exact h4
    . right
      have hil := (List.getElem?_eq_some_iff.1 hi).1
      rw [hlen] at hil
      rw [List.getElem?_append_right h1] at hi
      have hq : i - A'.length < vs.length := by omega
      unfold nstT at hi
      rw [objsN_get hq] at hi
      cases hi
      refine ⟨A.length + (i - src.length), by unfold gS; rw [if_neg (by omega)], .inr ⟨nstO t sz (ef false) vs (i - A'.length), ?_, rfl, rfl, rfl, Rens.enc he false _⟩⟩
      rw [List.getElem?_append_left (by rw [List.length_append, nstT_len]; omega), <- hsl]
      exact objsN_getA (by omega))
  rw [hlen] at hh
  exact St.to_mk (gS_inj hok) (by simp [pinB, pinF]) hr hh
theorem to_nst0 {nt : Nat} {tm : Nat -> AV} {l : List (Nat × AV)} {A A' : List AObj} {t : TypeId} {sz : Nat} {en : α -> List AV} {ef : Bool -> α -> List AV} (he : Enc ef sz) (hen : en = ef false) {vs : List (List α)} (src : List (Option (Nat ⊕ Nat))) {a n : Nat} (ha : A.length = a) (hn : vs.length = n) (hok : okS a src = true)
    (hr : regsT (idx (src.length + n) (gS src a n)) tm l) (hA : slotsOk (idx (src.length + n) (gS src a n)) A [] src A') : St.to ⟨nt, tm, A ++ nstT t sz en vs, 0⟩ ⟨nt, look l, A' ++ nstT t sz en vs, 0⟩ := by
  have := to_nst (nt := nt) (news := []) he hen src ha hn hok hr hA (t := t)
  rwa [List.append_nil] at this
theorem ren_nstR {src : List (Option (Nat ⊕ Nat))} {a n q ot : Nat} {vs : List (List α)} (hn : vs.length = n) (hq : src.length = q) : RenO (idx (src.length + n) (gS src a n)) (nstR ot a vs) (nstR ot q vs) := by
  subst hn; subst hq
  refine ⟨rfl, rfl, by rw [cellsN_len (nst_wd _ _), cellsN_len (nst_wd _ _)], Rens.cellsN fun i hi => ⟨Rens.cons (Ren.ref (gS_tl hi) fun h => h) Rens.nil, rfl⟩⟩
theorem to_nstM {nt : Nat} {tm : Nat -> AV} {l : List (Nat × AV)} {A A' : List AObj} {t : TypeId} {sz : Nat} {en : α -> List AV} {n : Nat} (src : List (Option (Nat ⊕ Nat))) {a : Nat} (ha : A.length = a) (hok : okS a src = true)
    (hr : regsT (idx (src.length + n) fun i => if i < src.length then gS src a n i else none) tm l) (hA : slotsOk (idx (src.length + n) fun i => if i < src.length then gS src a n i else none) A [] src A') : St.to ⟨nt, tm, A, 0⟩ ⟨nt, look l, A' ++ nstT t sz en (List.replicate n ([] : List α)), 0⟩ := by
  subst ha
  obtain ⟨hsl, hs⟩ := slotsOk_at hA
  have hlen : (A' ++ nstT t sz en (List.replicate n ([] : List α))).length = src.length + n := by rw [List.length_append, nstT_len, hsl, List.length_replicate]
  have hh := RenH.idx (g := fun i => if i < src.length then gS src A.length n i else none) (h := A) (h' := A' ++ nstT t sz en (List.replicate n ([] : List α))) (by
    rw [hlen]
    intro i o hi
    rcases Nat.lt_or_ge i A'.length with h1 | h1
    . rw [List.getElem?_append_left h1] at hi
      rcases hs i o hi with ⟨h2, h3⟩ | ⟨x, h2, h3⟩
      . left
        refine ⟨?_, h3⟩
        rw [if_pos (by omega)]
        unfold gS
        rw [if_pos (by omega), h2]
      . right
        rcases x with k | p
        . refine ⟨k, ?_, h3.imp id ?_⟩
          . rw [if_pos (by omega)]; unfold gS; rw [if_pos (by omega), h2]
          . rintro ⟨o0, h4, h5⟩
            exact ⟨o0, h4, h5⟩
        . refine ⟨A.length + n + p, ?_, h3.imp id ?_⟩
          . rw [if_pos (by omega)]; unfold gS; rw [if_pos (by omega), h2]
          . rintro ⟨o0, h4, h5⟩
            simp [getS] at h4
    . left
      have hil := (List.getElem?_eq_some_iff.1 hi).1
      rw [hlen] at hil
      rw [List.getElem?_append_right h1] at hi
      have hq : i - A'.length < (List.replicate n ([] : List α)).length := by rw [List.length_replicate]; omega
      unfold nstT at hi
      rw [objsN_get hq] at hi
      cases hi
      refine ⟨if_neg (by omega), ?_⟩
      have : lat (List.replicate n ([] : List α)) ((i - A'.length : Nat) : Int) = [] := by
        simp only [lat, List.getD_eq_getElem?_getD]
        rcases h : (List.replicate n ([] : List α))[((i - A'.length : Nat) : Int).toNat]? with _ | x
        . rfl
        . have := List.mem_of_getElem? h
          rw [List.mem_replicate] at this
          rw [this.2]; rfl
      unfold nstO
      rw [this]; rfl)
  rw [hlen] at hh
  have hinj : injB (idx (src.length + n) fun i => if i < src.length then gS src A.length n i else none) = true := injB_idx fun i j k hi hj h1 h2 => by
    have e1 : i < src.length := by
      rcases Nat.lt_or_ge i src.length with h | h
      . exact h
      . rw [if_neg (by omega)] at h1; cases h1
    have e2 : j < src.length := by
      rcases Nat.lt_or_ge j src.length with h | h
      . exact h
      . rw [if_neg (by omega)] at h2; cases h2
    rw [if_pos e1] at h1
    rw [if_pos e2] at h2
    have := injB_spec (gS_inj (n := n) hok) i j k (by rw [idx_get (by omega), h1]) (by rw [idx_get (by omega), h2])
    exact this
  exact St.to_mk hinj (by simp [pinB, pinF]) hr hh
theorem gM_inl {src : List (Option (Nat ⊕ Nat))} {a n j k : Nat} (h : src[j]? = some (some (.inl k))) : (idx (src.length + n) fun i => if i < src.length then gS src a n i else none)[j]? = some (some k) := by
  have hj := (List.getElem?_eq_some_iff.1 h).1
  rw [idx_get (by omega), if_pos hj]
  unfold gS
  rw [if_pos hj, h]
theorem ren_nstM {src : List (Option (Nat ⊕ Nat))} {a n q ot : Nat} {en : Unit -> List AV} (hen : en () = [.nilS]) (hq : src.length = q) : RenO (idx (src.length + n) fun i => if i < src.length then gS src a n i else none) (.row ot 1 (zYy en (List.replicate n ()))) (nstR ot q (List.replicate n ([] : List α))) := by
  subst hq
  have e1 : zYy en (List.replicate n ()) = cellsN (fun _ => [.nilS]) n := by
    unfold cellsN zYy
    rw [List.flatMap_replicate]
    congr 1
    apply List.ext_getElem
    . simp
    . intro i h1 h2; simp [hen]
  have e2 : cellsN (nstC src.length (List.replicate n ([] : List α))) (List.replicate n ([] : List α)).length = cellsN (nstC src.length (List.replicate n ([] : List α))) n := by rw [List.length_replicate]
  unfold nstR
  rw [e1, e2]
  refine ⟨rfl, rfl, by rw [cellsN_len (nst_wd _ _), cellsN_len (sz := 1) (fun _ => rfl)], Rens.cellsN fun i hi => ⟨Rens.cons (Ren.nilR (o := none) ?_ ?_) Rens.nil, rfl⟩⟩
  . rw [idx_get (by omega), if_neg (by omega)]
  . simp only [lat, List.getD_eq_getElem?_getD]
    rw [List.getElem?_replicate]
    split <;> rfl
theorem nst_ca {A : List AObj} {h : List AObj} {q0 q ot : Nat} {vs : List (List α)} {i : Int} (ho : h[q0]? = some (nstR ot q vs)) (hi : 0 <= i /\ i < (vs.length : Int)) : ∃ rest, cellsAt h (.ptr q0 (i.toNat * 1)) = some (.ref true (q + i.toNat) (lat vs i).length :: rest) := by
  obtain ⟨rest, hr⟩ := ca_N (k := 0) ho (nst_wd q vs) (i := i.toNat) (by omega) (Nat.zero_le _)
  refine ⟨rest, ?_⟩
  rw [Nat.add_zero] at hr
  rw [hr]
  have : ((i.toNat : Nat) : Int) = i := by omega
  simp only [nstC, this, List.drop_zero]
  rfl
theorem nst_row {A news : List AObj} {t : TypeId} {sz : Nat} {en : α -> List AV} {vs : List (List α)} {a j : Nat} {i : Int} (ha : A.length = a) (hj : i.toNat = j) (hi : 0 <= i /\ i < (vs.length : Int)) : (A ++ nstT t sz en vs ++ news)[a + j]? = some (.row t sz (zYy en (lat vs i))) := by
  subst ha; subst hj
  rw [List.getElem?_append_left (by rw [List.length_append, nstT_len]; omega)]
  have : (A ++ nstT t sz en vs)[A.length + i.toNat]? = some (nstO t sz en vs i.toNat) := objsN_getA (by omega)
  rw [this]
  unfold nstO
  rw [show ((i.toNat : Nat) : Int) = i by omega]
theorem nst_low {A news : List AObj} {t : TypeId} {sz : Nat} {en : α -> List AV} {vs : List (List α)} {a j q0 : Nat} {o x y : AObj} (ha : A.length = a) (h : A[q0]? = some o) : ((A ++ nstT t sz en vs ++ news).set (a + j) x ++ [y])[q0]? = some o := by
  subst ha
  have hq := (List.getElem?_eq_some_iff.1 h).1
  rw [List.getElem?_append_left (by rw [List.length_set, List.length_append, List.length_append]; omega), List.getElem?_set_ne (by omega), List.append_assoc, List.getElem?_append_left hq]
  exact h
theorem nst_cl {A news : List AObj} {t : TypeId} {sz : Nat} {en : α -> List AV} {vs : List (List α)} {a j q0 k : Nat} {cs : List AV} {x y : AObj} (ha : A.length = a) (h : cellsAt A (.ptr q0 k) = some cs) : cellsAt ((A ++ nstT t sz en vs ++ news).set (a + j) x ++ [y]) (.ptr q0 k) = some cs := by
  simp only [cellsAt] at h ⊢
  rcases ho : A[q0]? with _ | o
  . rw [ho] at h; cases h
  . rw [nst_low ha ho]; rw [ho] at h; exact h
def gA (a n j i : Nat) : Option Nat := if i = a + j then some (a + n + 1) else some i
theorem gA_lt {a n j i : Nat} (h : Nat.blt i a = true) : (idx (a + n) (gA a n j))[i]? = some (some i) := by
  have h : i < a := Nat.le_of_ble_eq_true h
  rw [idx_get (by omega)]
  unfold gA
  rw [if_neg (by omega)]
def slotsA (φ : List (Option Nat)) : List AObj -> List AObj -> Prop
  | [], [] => True
  | o0 :: A, o :: l => (o = .dead \/ RenO φ o0 o) /\ slotsA φ A l
  | _, _ => False
theorem slotsA_at {φ : List (Option Nat)} : ∀ {A l : List AObj}, slotsA φ A l -> A.length = l.length /\ ∀ (i : Nat) o, l[i]? = some o -> ∃ o0, A[i]? = some o0 /\ (o = .dead \/ RenO φ o0 o)
  | [], [], _ => ⟨rfl, fun i o h => by simp at h⟩
  | [], _ :: _, h => h.elim
  | _ :: _, [], h => h.elim
  | o0 :: A, o :: l, h => by
    obtain ⟨h1, h2⟩ := slotsA_at h.2
    refine ⟨by simp [h1], fun i o' hi => ?_⟩
    rcases i with _ | i
    . simp at hi; subst hi; exact ⟨o0, rfl, h.1⟩
    . exact h2 i o' (by simpa using hi)
theorem ren_nstA {a n j ot m : Nat} {vs vs' : List (List α)} {w : List α} (hn : vs.length = n) (hj : j < n) (hv : vs' = vs.set j w) (hm : w.length = m) : RenO (idx (a + n) (gA a n j)) (.row ot 1 (cellsN (fun k => if k = j then [.ref true (a + n + 1) m] else nstC a vs k) n)) (nstR ot a vs') := by
  subst hn; subst hv; subst hm
  have hl : (vs.set j w).length = vs.length := List.length_set
  unfold nstR
  rw [hl]
  refine ⟨rfl, rfl, by rw [cellsN_len (nst_wd _ _), cellsN_len (sz := 1) (fun k => by split <;> rfl)], Rens.cellsN fun i hi => ?_⟩
  by_cases e : i = j
  . subst e
    rw [if_pos rfl]
    have : lat (vs.set i w) (i : Int) = w := by simp [lat, hi]
    refine ⟨Rens.cons (Ren.refL (id := a + vs.length + 1) ?_ (fun h => h) (by rw [this])) Rens.nil, rfl⟩
    rw [idx_get (by omega)]; unfold gA; rw [if_pos rfl]
  . rw [if_neg e]
    have : lat (vs.set j w) (i : Int) = lat vs (i : Int) := by
      simp only [lat, List.getD_eq_getElem?_getD, Int.toNat_natCast]
      rw [List.getElem?_set_ne (Ne.symm e)]
    refine ⟨Rens.cons (Ren.refL (id := a + i) ?_ (fun h => h) (by rw [this])) Rens.nil, rfl⟩
    rw [idx_get (by omega)]; unfold gA; rw [if_neg (by omega)]
theorem to_nstA {nt : Nat} {tm : Nat -> AV} {l : List (Nat × AV)} {A A' : List AObj} {t ot : TypeId} {sz : Nat} {en : α -> List AV} {ef : Bool -> α -> List AV} (he : Enc ef sz) (hen : en = ef false) {vs vs' : List (List α)} {w : List α} {w1 : AObj} {a n j q0 m : Nat} (ha : A.length = a) (hn : vs.length = n) (hj : j < n) (hv : vs' = vs.set j w) (hm : w.length = m) (hq : Nat.blt q0 a = true)
    (hr : regsT (idx (a + n) (gA a n j)) tm l) (hA : slotsA (idx (a + n) (gA a n j)) (A.set q0 (AObj.row ot 1 (cellsN (fun k => if k = j then [AV.ref true (a + n + 1) m] else nstC a vs k) n))) A') :
    St.to ⟨nt, tm, ((A ++ nstT t sz en vs ++ [w1]).set (a + j) .dead ++ [AObj.row t sz (zYy en w)]).set q0 (AObj.row ot 1 (cellsN (fun k => if k = j then [AV.ref true (a + n + 1) m] else nstC a vs k) n)), 0⟩ ⟨nt, look l, A' ++ nstT t sz en vs', 0⟩ := by
  subst ha; subst hn; subst hv; subst hm; subst hen
  have hq : q0 < A.length := Nat.le_of_ble_eq_true hq
  obtain ⟨hAl, hAt⟩ := slotsA_at hA
  rw [List.length_set] at hAl
  have hl : (vs.set j w).length = vs.length := List.length_set
  have hlen : (A' ++ nstT t sz (ef false) (vs.set j w)).length = A.length + vs.length := by rw [List.length_append, nstT_len, hl, hAl]
  generalize hO : (AObj.row ot 1 (cellsN (fun k => if k = j then [AV.ref true (A.length + vs.length + 1) w.length] else nstC A.length vs k) vs.length)) = O at *
  have hh := RenH.idx (g := gA A.length vs.length j) (h := ((A ++ nstT t sz (ef false) vs ++ [w1]).set (A.length + j) .dead ++ [AObj.row t sz (zYy (ef false) w)]).set q0 O) (h' := A' ++ nstT t sz (ef false) (vs.set j w)) (by
    rw [hlen]
    intro i o hi
    right
    rcases Nat.lt_or_ge i A'.length with h1 | h1
    . rw [List.getElem?_append_left h1] at hi
      obtain ⟨o0, h2, h3⟩ := hAt i o hi
      refine ⟨i, by unfold gA; rw [if_neg (by omega)], h3.imp id fun h3 => ⟨o0, ?_, h3⟩⟩
      by_cases e : q0 = i
      . subst e
        rw [List.getElem?_set_self (by omega)] at h2
        rw [List.getElem?_set_self (by simp; omega)]
        exact h2
      . rw [List.getElem?_set_ne e] at h2 ⊢
        rw [List.getElem?_append_left (by rw [List.length_set, List.length_append, List.length_append]; omega), List.getElem?_set_ne (by omega), List.append_assoc, List.getElem?_append_left (by omega)]
        exact h2
    . have hil := (List.getElem?_eq_some_iff.1 hi).1
      rw [hlen] at hil
      rw [List.getElem?_append_right h1] at hi
      have hk : i - A'.length < (vs.set j w).length := by omega
      unfold nstT at hi
      rw [objsN_get hk] at hi
      cases hi
      by_cases e : i = A.length + j
      . refine ⟨A.length + vs.length + 1, by unfold gA; rw [if_pos e], .inr ⟨.row t sz (zYy (ef false) w), ?_, ?_⟩⟩
        . have hL : ((A ++ nstT t sz (ef false) vs ++ [w1]).set (A.length + j) .dead).length = A.length + vs.length + 1 := by rw [List.length_set, List.length_append, List.length_append, nstT_len]; rfl
          rw [List.getElem?_set_ne (by omega), List.getElem?_append_right (by rw [hL]; exact Nat.le_refl _), hL, Nat.sub_self]; rfl
        . have : lat (vs.set j w) ((i - A'.length : Nat) : Int) = w := by rw [show i - A'.length = j by omega]; simp [lat, hj]
          unfold nstO
          rw [this]
          exact ⟨rfl, rfl, rfl, Rens.enc he false _⟩
      . refine ⟨i, by unfold gA; rw [if_neg e], .inr ⟨nstO t sz (ef false) vs (i - A.length), ?_, ?_⟩⟩
        . rw [List.getElem?_set_ne (by omega), List.getElem?_append_left (by rw [List.length_set, List.length_append, List.length_append, nstT_len]; omega), List.getElem?_set_ne (by omega), List.getElem?_append_left (by rw [List.length_append, nstT_len]; omega)]
          have : (A ++ nstT t sz (ef false) vs)[A.length + (i - A.length)]? = some (nstO t sz (ef false) vs (i - A.length)) := objsN_getA (by omega)
          rwa [show A.length + (i - A.length) = i by omega] at this
        . have : lat (vs.set j w) ((i - A'.length : Nat) : Int) = lat vs ((i - A.length : Nat) : Int) := by
            simp only [lat, List.getD_eq_getElem?_getD, Int.toNat_natCast]
            rw [List.getElem?_set_ne (by omega), hAl]
          unfold nstO
          rw [this]
          exact ⟨rfl, rfl, rfl, Rens.enc he false _⟩)
  rw [hlen] at hh
  refine St.to_mk (injB_idx fun i k q hi hk h1 h2 => ?_) (by simp [pinB, pinF]) hr hh
  unfold gA at h1 h2
  split at h1 <;> split at h2 <;> cases h1 <;> simp at h2 <;> omega
theorem nst_len1 {A : List AObj} {t : TypeId} {sz : Nat} {en : α -> List AV} {vs : List (List α)} {a : Nat} {x : AObj} (h : A.length = a) : (A ++ nstT t sz en vs ++ [x]).length = a + vs.length + 1 := by rw [List.length_append, nst_len h]; rfl
theorem nst_new {A : List AObj} {t : TypeId} {sz : Nat} {en : α -> List AV} {vs : List (List α)} {a : Nat} {x : AObj} (h : A.length = a) : (A ++ nstT t sz en vs ++ [x])[a + vs.length]? = some x := by
  rw [<- nst_len (t := t) (sz := sz) (en := en) (vs := vs) h]; exact last_get _ _
theorem to_nstS {nt : Nat} {tm : Nat -> AV} {l : List (Nat × AV)} {A A' : List AObj} {x y : AObj} {t : TypeId} {sz : Nat} {en : α -> List AV} {ef : Bool -> α -> List AV} (he : Enc ef sz) (hen : en = ef false) {vs : List (List α)} (src : List (Option (Nat ⊕ Nat))) {a n : Nat} (ha : A.length = a) (hn : vs.length = n) (hok : okS a src = true)
    (hr : regsT (idx (src.length + n) (gS src a n)) tm l) (hA : slotsOk (idx (src.length + n) (gS src a n)) A [y] src A') : St.to ⟨nt, tm, (A ++ nstT t sz en vs ++ [x]).set (a + n) y, 0⟩ ⟨nt, look l, A' ++ nstT t sz en vs, 0⟩ := by
  have e : (A ++ nstT t sz en vs ++ [x]).set (a + n) y = A ++ nstT t sz en vs ++ [y] := by
    rw [<- hn, <- nst_len (t := t) (sz := sz) (en := en) (vs := vs) ha]; exact last_set _ _ _
  rw [e]
  exact to_nst he hen src ha hn hok hr hA
theorem rs_nst (k : Nat) {A : List AObj} {t ot : TypeId} {sz : Nat} {ef : Bool -> α -> List AV} (he : Enc ef sz) {vs : List (List α)} {a q0 n : Nat} (nb : Bool) (ha : A.length = a) (ho : A[q0]? = some (nstR ot a vs)) (hn : n = vs.length) : Wk (cvO (k + 3) (A ++ nstT t sz (ef false) vs) (.ref nb q0 n)) (.lst false n (zYy (eSl (ef true) true) vs)) := by
  subst ha
  have hq := (List.getElem?_eq_some_iff.1 ho).1
  have e1 : (A ++ nstT t sz (ef false) vs)[q0]? = some (nstR ot A.length vs) := by rw [List.getElem?_append_left hq]; exact ho
  have e2 : cvO (k + 3) (A ++ nstT t sz (ef false) vs) (.ref nb q0 n) = .lst false n (((cellsN (nstC A.length vs) vs.length).take (n * 1)).map (cvI (k + 2) (A ++ nstT t sz (ef false) vs))) := by
    unfold nstR at e1
    simp only [cvO, e1]
  rw [e2]
  refine Wk.lsts _ _ ?_
  rw [List.take_of_length_le (by rw [cellsN_len (nst_wd _ _), hn]; exact Nat.le_refl _), cellsN_map, cellsN_encL]
  refine Wks.cellsN fun i hi => ?_
  refine Wks.cons ?_ (Wks.refl _)
  have hb : (A ++ nstT t sz (ef false) vs)[A.length + i]? = some (nstO t sz (ef false) vs i) := objsN_getA hi
  have e3 : cvI (k + 2) (A ++ nstT t sz (ef false) vs) (.ref true (A.length + i) (lat vs (i : Int)).length) = .lst true (lat vs (i : Int)).length (((zYy (ef false) (lat vs (i : Int))).take ((lat vs (i : Int)).length * sz)).map (cvI (k + 1) (A ++ nstT t sz (ef false) vs))) := by
    unfold nstO at hb
    simp only [cvI, hb]
  rw [e3, List.take_of_length_le (by rw [zYw (he.wd false)]; exact Nat.le_refl _)]
  exact Wk.lsts _ _ (encL_ci he k _ _)
theorem W.rHmT {P : Program} {T : TT} {st : St} {Q : Ex -> St -> Prop} {c : Code} {id : Nat} {ol : List Oper} (st' : St) (h1 : seqH P T ol ol st fun s => s.to st') (h2 : W P T c st' Q) : W P T (.seq (.region id ol.toArray false) c) st Q := W.seq _ (W.rH1 h1) fun _ h => W.to h h2
theorem W.toQ {P : Program} {T : TT} {st : St} {Q : Ex -> St -> Prop} {c : Code} (st' : St) (h : W P T c st fun e s => e = .nrm /\ s.to st') (h2 : Q .nrm st') : W P T c st Q := fun hT hf ro hro n X D w0 mA r m a w hR =>
  wpIn_mono (h hT hf ro hro n X D w0 mA r m a w hR) fun e a' w' hq => by
    cases e <;> simp only [relQ] at hq ⊢ <;> try exact hq
    . obtain ⟨ms, r', m', s, h0, ⟨_, hs⟩, hR'⟩ := hq
      obtain ⟨φ, l, h1, h2', h3, h4, h5, h6, h7⟩ := hs
      obtain ⟨nt, tm, hp, ho⟩ := st'
      simp only at h1 h2' h3 h7
      subst h1; subst h2'; subst h3
      exact ⟨ms, _, m', _, h0, h2, hR'.ren φ h4 h5 (regsT_look h6) h7⟩
    . obtain ⟨_, _, _, _, _, ⟨hx, _⟩, _⟩ := hq; cases hx
    . obtain ⟨_, _, _, _, _, ⟨hx, _⟩, _⟩ := hq; cases hx
theorem W.rPmT1 {P : Program} {T : TT} {st : St} {Q : Ex -> St -> Prop} {id : Nat} {ol : List Oper} (st' : St) (ord : List Nat) (hc : chk ol.toArray ord = true) (hl : allIn ol ord = true) (h1 : seqL P T ol [] 0 (pickL ol ord) st fun s => .nrm = Ex.nrm /\ s.to st') (h2 : Q .nrm st') : W P T (.region id ol.toArray true) st Q := W.toQ st' (W.rP1 ord hc hl h1) h2
theorem W.goQ {P : Program} {T : TT} {st : St} {Q : Ex -> St -> Prop} {c : Code} (h : W P T c st fun e s => e = .nrm /\ s.goes (Q .nrm)) : W P T c st Q := fun hT hf ro hro n X D w0 mA r m a w hR =>
  wpIn_mono (h hT hf ro hro n X D w0 mA r m a w hR) fun e a' w' hq => by
    cases e <;> simp only [relQ] at hq ⊢ <;> try exact hq
    . obtain ⟨ms, r', m', s, h0, ⟨_, hs⟩, hR'⟩ := hq
      obtain ⟨r2, m2, s2, h2, hR2⟩ := hs _ _ _ _ _ _ _ _ hR'
      exact ⟨ms, r2, m2, s2, h0, h2, hR2⟩
    . obtain ⟨_, _, _, _, _, ⟨hx, _⟩, _⟩ := hq; cases hx
    . obtain ⟨_, _, _, _, _, ⟨hx, _⟩, _⟩ := hq; cases hx
theorem W.rP1g {P : Program} {T : TT} {st : St} {Q : Ex -> St -> Prop} {id : Nat} {ol : List Oper} (ord : List Nat) (hc : chk ol.toArray ord = true) (hl : allIn ol ord = true) (h1 : seqL P T ol [] 0 (pickL ol ord) st fun s => .nrm = Ex.nrm /\ s.goes (Q .nrm)) : W P T (.region id ol.toArray true) st Q := W.goQ (W.rP1 ord hc hl h1)
def eU1 (_ : Unit) : List AV := [.nilS]
end
end Go.Lat
namespace Go.Lat
open Go.RowKit
end Go.Lat
namespace Go.Lat
open Go.RowKit
/-! ### Shorter words for the walks -/
def mvA (tm : Nat -> AV) : List (Nat × AV) -> List AV
  | [] => []
  | x :: l => tm x.1 :: mvA tm l
def vsA : List (Nat × AV) -> List AV
  | [] => []
  | x :: l => x.2 :: vsA l
theorem regs_of {tm : Nat -> AV} : ∀ {l : List (Nat × AV)}, mvA tm l = vsA l -> regsL tm l
  | [], _ => trivial
  | (t, v) :: l, h => by
    simp only [mvA, vsA, List.cons.injEq] at h
    exact ⟨h.1, regs_of h.2⟩
theorem W.tz {P : Program} {T : TT} {c : Code} {n : Nat} {h : List AObj} {b : Nat} {Q : Ex -> St -> Prop} {tm : Nat -> AV} (l' : List (Nat × AV)) (h' : List AObj) (hl : mvA tm l' = vsA l') (hh : h = h') (hw : W P T c ⟨n, look l', h', b⟩ Q) : W P T c ⟨n, tm, h, b⟩ Q := W.tr l' h' (regs_of hl) hh hw
theorem W.ty {P : Program} {T : TT} {c : Code} {n : Nat} {h : List AObj} {b : Nat} {Q : Ex -> St -> Prop} {tm : Nat -> AV} (l' : List (Nat × AV)) (hl : mvA tm l' = vsA l') (hw : W P T c ⟨n, look l', h, b⟩ Q) : W P T c ⟨n, tm, h, b⟩ Q := W.tr l' h (regs_of hl) rfl hw
def clA : List AV -> Bool
  | [] => true
  | x :: l => clV x && clA l
theorem zR {φ : List (Option Nat)} : ∀ {xs : List AV}, clA xs = true -> Rens φ xs xs
  | [], _ => Rens.nil
  | x :: l, h => by
    simp only [clA, Bool.and_eq_true] at h
    exact Rens.cons (Ren.cl h.1) (zR h.2)
theorem zT {φ : List (Option Nat)} {tm : Nat -> AV} : ∀ {l : List (Nat × AV)}, mvA tm l = vsA l -> clA (vsA l) = true -> regsT φ tm l
  | [], _, _ => trivial
  | (t, v) :: l, h, k => by
    simp only [mvA, vsA, List.cons.injEq] at h
    simp only [vsA, clA, Bool.and_eq_true] at k
    exact ⟨h.1 ▸ Ren.cl (h.1 ▸ k.1), zT h.2 k.2⟩
theorem zB {φ : List (Option Nat)} {h : List AObj} {k t : Nat} {cs : List AV} (h1 : h[k]? = some (.box t cs)) (h2 : clA cs = true) : ((AObj.box t cs) = .dead \/ ∃ o0, h[k]? = some o0 /\ RenO φ o0 (.box t cs)) := .inr ⟨_, h1, rfl, zR h2⟩
theorem zE {φ : List (Option Nat)} {h : List AObj} {k t s : Nat} {α : Type} {ef : Bool -> α -> List AV} {sz : Nat} (he : Enc ef sz) (fl : Bool) (xs : List α) (h1 : h[k]? = some (.row t s (zYy (ef fl) xs))) : ((AObj.row t s (zYy (ef fl) xs)) = .dead \/ ∃ o0, h[k]? = some o0 /\ RenO φ o0 (.row t s (zYy (ef fl) xs))) := .inr ⟨_, h1, rfl, rfl, rfl, Rens.enc he fl xs⟩
theorem zk {x : List AV} : Wks x x := Wks.refl x
end Go.Lat
namespace Go.Lat
open Go.RowKit Go.Proofs
attribute [local irreducible] seqL opC
def vc_inr (n : Int) (lo : Int) (hi : Int) (Post : Bool -> Prop) : Prop :=
  Post (decide ((lo <= n) /\ (n <= hi)))
theorem walk_inr {n : Int} {lo : Int} {hi : Int} {Post : Bool -> Prop} (hv : vc_inr n lo hi Post) : FnP Try.prog 37 [.int .i64 n, .int .i64 lo, .int .i64 hi] (fun x => ∃ q0, x = .bool q0 /\ Post q0) := by
 refine FnP.of_walk (T := tt) (nt := 15) ttOk ttMix ⟨⟨Try.f37, Try.func37, rfl, rfl, rfl, rfl⟩⟩ (by simp) ?_
 unfold vc_inr at hv
 change W _ _ _ ⟨15, look [(0, .int .i64 n), (1, .int .i64 lo), (2, .int .i64 hi)], [], 0⟩ _
 refine W.ty [(0, .int _ _), (1, .int _ _), (2, .int _ _)] rfl (W.rL (aB rfl rfl (eL (W.ty [(0, .int _ _), (1, .int _ _), (2, .int _ _)] rfl (W.rLm ⟨15, look [(6, .bool (decide ((lo <= n) /\ (n <= hi))))], [], 0⟩ ?_ ?_)))))
 iterate 2 refine mI rfl rfl ?_
 refine cL rfl (o_geq rfl rfl (mB rfl rfl ?_))
 by_cases c1 : lo <= n
 refine cLg rfl rfl (dT c1) (mI rfl rfl (cLg rfl rfl (dT c1) (mI rfl rfl (cLg rfl rfl (dT c1) (cL rfl (o_leq rfl rfl (cL rfl (zZv (v := .bool _) rfl (dT c1) rfl (aB rfl rfl (eL (zYz ⟨(congrArg AV.bool (zXv c1 (rfl))).symm, trivial⟩ rfl)))))))))))
 iterate 3 refine cLs rfl rfl rfl (dF c1) ?_
 refine cL rfl (zZy (v := .bool _) rfl (dF c1) rfl (aB rfl rfl (eL (zYz ⟨(congrArg AV.bool (dAndF c1)).symm, trivial⟩ rfl))))
 refine W.ret (rt (rt_t (v := .bool _) rfl (rt_n (⟨_, zYr _ _ _, (decide ((lo <= n) /\ (n <= hi))), rfl, hv⟩))))
set_option maxHeartbeats 4000000 in
theorem vcp_inr (n : Int) (lo : Int) (hi : Int)  : vc_inr n lo hi (fun q0 => q0 = (inM n lo hi)) := by
  unfold vc_inr
  unfold inM
  rfl
theorem spec_inr (n : Int) (lo : Int) (hi : Int)  : FnP Try.prog 37 [.int .i64 n, .int .i64 lo, .int .i64 hi] (fun xR => xR = .bool (inM n lo hi)) :=
  (walk_inr (vcp_inr n lo hi)).mono (by rintro _ ⟨_, rfl, rfl⟩; rfl)
def vc_mvalid (sv : (List Int)) (jobs : (List Job)) (Post : Bool -> Prop) : Prop :=
  (((¬ ((inM (sv.length : Int) (1 : Int) (6 : Int)) = true)) \/ ((24 : Int) < (jobs.length : Int))) -> Post false) /\ (¬ ((¬ ((inM (sv.length : Int) (1 : Int) (6 : Int)) = true)) \/ ((24 : Int) < (jobs.length : Int))) -> ∃ (I1 : Int -> Prop) (μ1 : Int -> Nat), I1 (0 : Int) /\ ∀ (v22 : Int), I1 v22 -> ((v22 < (sv.length : Int)) -> (0 <= v22 /\ v22 < (sv.length : Int)) /\ ((¬ ((inM (lat sv v22) (1 : Int) (4 : Int)) = true)) -> Post false) /\ (¬ (¬ ((inM (lat sv v22) (1 : Int) (4 : Int)) = true)) -> (inI (v22 + (1 : Int))) /\ (I1 (v22 + (1 : Int)) /\ μ1 (v22 + (1 : Int)) < μ1 v22))) /\ (¬ (v22 < (sv.length : Int)) -> ∃ (I2 : Int -> Prop) (μ2 : Int -> Nat), I2 (0 : Int) /\ ∀ (v32 : Int), I2 v32 -> ((v32 < (jobs.length : Int)) -> (0 <= v32 /\ v32 < (jobs.length : Int)) /\ (((¬ ((inM ((lat jobs v32).ar) (0 : Int) (4398046511104 : Int)) = true)) \/ ((6 : Int) < (((lat jobs v32).wk).length : Int))) -> Post false) /\ (¬ ((¬ ((inM ((lat jobs v32).ar) (0 : Int) (4398046511104 : Int)) = true)) \/ ((6 : Int) < (((lat jobs v32).wk).length : Int))) -> ∃ (I3 : Int -> Prop) (μ3 : Int -> Nat), I3 (0 : Int) /\ ∀ (v49 : Int), I3 v49 -> ((v49 < (((lat jobs v32).wk).length : Int)) -> (0 <= v49 /\ v49 < (((lat jobs v32).wk).length : Int)) /\ ((inI ((sv.length : Int) - (1 : Int))) /\ True) /\ ((((¬ ((inM ((lat ((lat jobs v32).wk) v49).st) (0 : Int) ((sv.length : Int) - (1 : Int))) = true)) \/ (¬ ((inM ((lat ((lat jobs v32).wk) v49).tm) (0 : Int) (1099511627776 : Int)) = true))) -> Post false) /\ (¬ ((¬ ((inM ((lat ((lat jobs v32).wk) v49).st) (0 : Int) ((sv.length : Int) - (1 : Int))) = true)) \/ (¬ ((inM ((lat ((lat jobs v32).wk) v49).tm) (0 : Int) (1099511627776 : Int)) = true))) -> (inI (v49 + (1 : Int))) /\ (I3 (v49 + (1 : Int)) /\ μ3 (v49 + (1 : Int)) < μ3 v49)))) /\ (¬ (v49 < (((lat jobs v32).wk).length : Int)) -> (inI (v32 + (1 : Int))) /\ (I2 (v32 + (1 : Int)) /\ μ2 (v32 + (1 : Int)) < μ2 v32)))) /\ (¬ (v32 < (jobs.length : Int)) -> Post true)))
theorem walk_mvalid {sv : (List Int)} {jobs : (List Job)} {Post : Bool -> Prop} (hv : vc_mvalid sv jobs Post) : FnP Try.prog 23 [.lst true sv.length (zYy zYx sv), .lst true jobs.length (zYy (e42 true) jobs)] (fun x => ∃ q0, x = .bool q0 /\ Post q0) := by
 refine FnP.of_walk (T := tt) (nt := 68) ttOk ttMix ⟨⟨Try.f23, Try.func23, rfl, rfl, rfl, rfl⟩⟩ (by simp) ?_
 unfold vc_mvalid at hv
 change W _ _ _ ⟨68, look [(0, .lst true sv.length (zYy zYx sv)), (1, .lst true jobs.length (zYy (e42 true) jobs))], [], 0⟩ _
 refine W.ty [(0, .lst _ _ _), (1, .lst _ _ _)] rfl (W.rL (aB rfl rfl (eL (W.ty [(0, .lst _ _ _), (1, .lst _ _ _)] rfl (W.seq' (W.rLm ⟨68, look [(0, .lst true sv.length (zYy zYx sv)), (1, .lst true jobs.length (zYy (e42 true) jobs)), (19, .bool (decide ((¬ ((inM (sv.length : Int) (1 : Int) (6 : Int)) = true)) \/ ((24 : Int) < (jobs.length : Int)))))], [], 0⟩ ?_ ?_))))))
 refine mL rfl rfl (cL rfl (zXw (v := .lst _ _ _) tt24 rfl rfl (cL rfl (zZu (k := 37) (fst := []) (caps := []) (ys := [.int _ _, .int _ _, .int _ _]) rfl rfl (spec_inr (sv.length : Int) (1 : Int) (6 : Int)) zk (cL rfl (o_notB rfl (mB rfl rfl ?_)))))))
 by_cases c1 : ¬ ((inM (sv.length : Int) (1 : Int) (6 : Int)) = true)
 iterate 3 refine cLs rfl rfl rfl (dT c1) ?_
 refine cL rfl (zZv (v := .bool _) rfl (dT c1) rfl (eL (zYz ⟨rfl, rfl, (congrArg AV.bool (dOrT c1)).symm, trivial⟩ rfl)))
 refine cLg rfl rfl (dF c1) (mL rfl rfl (cLg rfl rfl (dF c1) (cL rfl (zXw (v := .lst _ _ _) tt26 rfl rfl (cLg rfl rfl (dF c1) (cL rfl (o_gtr rfl rfl (cL rfl (zZy (v := .bool _) rfl (dF c1) rfl (eL (zYz ⟨rfl, rfl, (congrArg AV.bool (dOrF c1 (rfl))).symm, trivial⟩ rfl)))))))))))
 refine W.cn rfl (fun hc => ?_) (fun hc => ?_)
 have hv := hv.1 hc
 refine W.rL (aB rfl rfl (eL (W.ty [(4, .bool _)] rfl (W.ret (zZr (rt (rt_t (v := .bool _) rfl (rt_n (⟨_, zYr _ _ _, false, rfl, hv⟩)))))))))
 have hv := hv.2 hc
 refine W.skip (zZ (W.ty [(0, .lst _ _ _), (1, .lst _ _ _)] rfl (W.seq' (W.rL (mL rfl rfl (cL rfl (zXw (v := .lst _ _ _) tt24 rfl rfl (mI rfl rfl (eL (W.ty [(0, .lst _ _ _), (1, .lst _ _ _), (20, .lst _ _ _), (21, .int _ _), (22, .int _ _)] rfl (W.block ?_)))))))))))
 obtain ⟨I1, μ1, hp, hv⟩ := hv
 refine W.loop1 (fun v22 => ⟨68, look [(0, .lst true sv.length (zYy zYx sv)), (1, .lst true jobs.length (zYy (e42 true) jobs)), (20, .lst true sv.length (zYy zYx sv)), (21, .int .i64 (sv.length : Int)), (22, .int .i64 v22)], [], 0⟩) I1 μ1 (0 : Int) (St.to_mk (φ := []) rfl (rfl) (zT rfl rfl) trivial) hp ?_
 clear hp
 intro v22 hI
 replace hv := hv v22 hI
 clear hI
 refine W.rL (cL rfl (zYq rfl rfl (eL (W.ty [(0, .lst _ _ _), (1, .lst _ _ _), (20, .lst _ _ _), (21, .int _ _), (22, .int _ _), (23, .bool _)] rfl (W.seq' (W.cn rfl (fun hc => ?_) (fun hc => ?_)))))))
 have hv := hv.1 hc
 refine W.skip (zZ (W.ty [(0, .lst _ _ _), (1, .lst _ _ _), (20, .lst _ _ _), (21, .int _ _), (22, .int _ _)] rfl (W.seq' (W.block (W.rL ?_)))))
 obtain ⟨s11, hv⟩ := hv
 refine cL rfl (zYu tt24 tt3 rfl rfl (zZw.wd true) rfl s11 ?_)
 intro rest11
 refine cL rfl (zZx (v := .int _ _) tt3 rfl rfl ⟨_, rfl⟩ (aI rfl rfl (eL (W.ty [(0, .lst _ _ _), (1, .lst _ _ _), (6, .int _ _), (20, .lst _ _ _), (21, .int _ _), (22, .int _ _)] rfl (W.rL (mI rfl rfl (cL rfl (zZu (k := 37) (fst := []) (caps := []) (ys := [.int _ _, .int _ _, .int _ _]) rfl rfl (spec_inr (lat sv v22) (1 : Int) (4 : Int)) zk (cL rfl (o_notB rfl (eL (W.ty [(0, .lst _ _ _), (1, .lst _ _ _), (20, .lst _ _ _), (21, .int _ _), (22, .int _ _), (28, .bool _)] rfl (W.cn rfl (fun hc => ?_) (fun hc => ?_))))))))))))))
 have hv := hv.1 hc
 refine W.rL (aB rfl rfl (eL (W.ty [(4, .bool _)] rfl (W.ret (zYt (zZr (zZr (zYt (zZr (rt (rt_t (v := .bool _) rfl (rt_n (⟨_, zYr _ _ _, false, rfl, hv⟩)))))))))))))
 have hv := hv.2 hc
 refine W.skip (zYv (zZ (W.ty [(0, .lst _ _ _), (1, .lst _ _ _), (20, .lst _ _ _), (21, .int _ _), (22, .int _ _)] rfl (W.rL1 ?_))))
 obtain ⟨s12, hv⟩ := hv
 refine cL rfl (o_add rfl rfl s12 (mI rfl rfl (eL (zZ (⟨(), (v22 + (1 : Int)), hv, St.to_mk (φ := []) rfl (rfl) (zT rfl rfl) trivial⟩)))))
 have hv := hv.2 hc
 refine W.exit (zZt (zZt (zYs (zZ (W.ty [(0, .lst _ _ _), (1, .lst _ _ _)] rfl (W.seq' (W.rL (mL rfl rfl (cL rfl (zXw (v := .lst _ _ _) tt26 rfl rfl (mI rfl rfl (eL (W.ty [(0, .lst _ _ _), (30, .lst _ _ _), (31, .int _ _), (32, .int _ _)] rfl (W.block ?_))))))))))))))
 obtain ⟨I2, μ2, hp, hv⟩ := hv
 refine W.loop1 (fun v32 => ⟨68, look [(0, .lst true sv.length (zYy zYx sv)), (30, .lst true jobs.length (zYy (e42 true) jobs)), (31, .int .i64 (jobs.length : Int)), (32, .int .i64 v32)], [], 0⟩) I2 μ2 (0 : Int) (St.to_mk (φ := []) rfl (rfl) (zT rfl rfl) trivial) hp ?_
 clear hp
 intro v32 hI
 replace hv := hv v32 hI
 clear hI
 refine W.rL (cL rfl (zYq rfl rfl (eL (W.ty [(0, .lst _ _ _), (30, .lst _ _ _), (31, .int _ _), (32, .int _ _), (33, .bool _)] rfl (W.seq' (W.cn rfl (fun hc => ?_) (fun hc => ?_)))))))
 have hv := hv.1 hc
 refine W.skip (zZ (W.ty [(0, .lst _ _ _), (30, .lst _ _ _), (31, .int _ _), (32, .int _ _)] rfl (W.seq' (W.block (W.rL ?_)))))
 obtain ⟨s121, hv⟩ := hv
 refine cL rfl (zYu tt26 tt42 rfl rfl (enc42.wd true) rfl s121 ?_)
 intro rest121
 refine cL rfl (zYp (cs := [.int _ _, .lst _ _ _]) tt42 rfl rfl ⟨_, rfl⟩ rfl (cL rfl (zXy (p := 0) tt42 rfl rfl (cLn (o_stB (v := .agg _) (vs := [.int _ _, .lst _ _ _]) (cs2 := [.int _ _, .lst _ _ _]) tt42 rfl rfl rfl rfl rfl (Nat.le_of_ble_eq_true rfl) rfl (eL (W.ty [(0, .lst _ _ _), (8, .ptr _ _), (30, .lst _ _ _), (31, .int _ _), (32, .int _ _)] rfl (W.seq' (W.rLm ⟨68, look [(0, .lst true sv.length (zYy zYx sv)), (8, .ptr 0 0), (30, .lst true jobs.length (zYy (e42 true) jobs)), (31, .int .i64 (jobs.length : Int)), (32, .int .i64 v32), (45, .bool (decide ((¬ ((inM ((lat jobs v32).ar) (0 : Int) (4398046511104 : Int)) = true)) \/ ((6 : Int) < (((lat jobs v32).wk).length : Int)))))], [.box 42 [.int .i64 ((lat jobs v32).ar), .lst true ((lat jobs v32).wk).length (zYy e45 ((lat jobs v32).wk))]], 0⟩ ?_ ?_)))))))))
 refine cL rfl (o_fa tt42 rfl tt3 rfl (cL rfl (zZx (v := .int _ _) tt3 rfl rfl ⟨_, rfl⟩ (cL rfl (zZu (k := 37) (fst := []) (caps := []) (ys := [.int _ _, .int _ _, .int _ _]) rfl rfl (spec_inr ((lat jobs v32).ar) (0 : Int) (4398046511104 : Int)) zk (cL rfl (o_notB rfl (mB rfl rfl ?_))))))))
 by_cases c1 : ¬ ((inM ((lat jobs v32).ar) (0 : Int) (4398046511104 : Int)) = true)
 iterate 4 refine cLs rfl rfl rfl (dT c1) ?_
 refine cL rfl (zZv (v := .bool _) rfl (dT c1) rfl (eL (zYz ⟨rfl, rfl, rfl, rfl, rfl, (congrArg AV.bool (dOrT c1)).symm, trivial⟩ rfl)))
 refine cLg rfl rfl (dF c1) (cL rfl (o_fa tt42 rfl tt40 rfl (cLg rfl rfl (dF c1) (cL rfl (zZx (v := .lst _ _ _) tt40 rfl rfl ⟨_, rfl⟩ (cLg rfl rfl (dF c1) (cL rfl (zXw (v := .lst _ _ _) tt40 rfl rfl (cLg rfl rfl (dF c1) (cL rfl (o_gtr rfl rfl (cL rfl (zZy (v := .bool _) rfl (dF c1) rfl (eL (zYz ⟨rfl, rfl, rfl, rfl, rfl, (congrArg AV.bool (dOrF c1 (rfl))).symm, trivial⟩ rfl)))))))))))))))
 refine W.cn rfl (fun hc => ?_) (fun hc => ?_)
 have hv := hv.1 hc
 refine W.rL (aB rfl rfl (eL (W.ty [(4, .bool _)] rfl (W.ret (zZr (zYt (zZr (zZr (zYt (zZr (rt (rt_t (v := .bool _) rfl (rt_n (⟨_, zYr _ _ _, false, rfl, hv⟩))))))))))))))
 have hv := hv.2 hc
 refine W.skip (zZ (W.ty [(0, .lst _ _ _), (8, .ptr _ _), (30, .lst _ _ _), (31, .int _ _), (32, .int _ _)] rfl (W.rL (cL rfl (o_fa tt42 rfl tt40 rfl (cL rfl (zZx (v := .lst _ _ _) tt40 rfl rfl ⟨_, rfl⟩ (cL rfl (zXw (v := .lst _ _ _) tt40 rfl rfl (mI rfl rfl (eL (W.ty [(0, .lst _ _ _), (30, .lst _ _ _), (31, .int _ _), (32, .int _ _), (47, .lst _ _ _), (48, .int _ _), (49, .int _ _)] rfl (W.block ?_)))))))))))))
 obtain ⟨I3, μ3, hp, hv⟩ := hv
 refine W.loop1 (fun v49 => ⟨68, look [(0, .lst true sv.length (zYy zYx sv)), (30, .lst true jobs.length (zYy (e42 true) jobs)), (31, .int .i64 (jobs.length : Int)), (32, .int .i64 v32), (47, .lst true ((lat jobs v32).wk).length (zYy e45 ((lat jobs v32).wk))), (48, .int .i64 (((lat jobs v32).wk).length : Int)), (49, .int .i64 v49)], [.dead], 0⟩) I3 μ3 (0 : Int) (St.to_mk (φ := [none]) rfl (rfl) (zT rfl rfl) ⟨rfl, trivial⟩) hp ?_
 clear hp
 intro v49 hI
 replace hv := hv v49 hI
 clear hI
 refine W.rL (cL rfl (zYq rfl rfl (eL (W.ty [(0, .lst _ _ _), (30, .lst _ _ _), (31, .int _ _), (32, .int _ _), (47, .lst _ _ _), (48, .int _ _), (49, .int _ _), (50, .bool _)] rfl (W.seq' (W.cn rfl (fun hc => ?_) (fun hc => ?_)))))))
 have hv := hv.1 hc
 refine W.skip (zZ (W.ty [(0, .lst _ _ _), (30, .lst _ _ _), (31, .int _ _), (32, .int _ _), (47, .lst _ _ _), (48, .int _ _), (49, .int _ _)] rfl (W.seq' (W.block (W.rL ?_)))))
 obtain ⟨s132, hv⟩ := hv
 refine cL rfl (zYu tt40 tt45 rfl rfl (enc45.wd true) rfl s132 ?_)
 intro rest132
 refine cL rfl (zYp (cs := [.int _ _, .int _ _]) tt45 rfl rfl ⟨_, rfl⟩ rfl (cL rfl (zXy (p := 1) tt45 rfl rfl (cLn (o_stB (v := .agg _) (vs := [.int _ _, .int _ _]) (cs2 := [.int _ _, .int _ _]) tt45 rfl rfl rfl rfl rfl (Nat.le_of_ble_eq_true rfl) rfl (eL (W.ty [(0, .lst _ _ _), (10, .ptr _ _), (30, .lst _ _ _), (31, .int _ _), (32, .int _ _), (47, .lst _ _ _), (48, .int _ _), (49, .int _ _)] rfl ?_)))))))
 obtain ⟨sd, hv⟩ := hv
 refine W.rLm ⟨68, look [(0, .lst true sv.length (zYy zYx sv)), (30, .lst true jobs.length (zYy (e42 true) jobs)), (31, .int .i64 (jobs.length : Int)), (32, .int .i64 v32), (47, .lst true ((lat jobs v32).wk).length (zYy e45 ((lat jobs v32).wk))), (48, .int .i64 (((lat jobs v32).wk).length : Int)), (49, .int .i64 v49), (65, .bool (decide ((¬ ((inM ((lat ((lat jobs v32).wk) v49).st) (0 : Int) ((sv.length : Int) - (1 : Int))) = true)) \/ (¬ ((inM ((lat ((lat jobs v32).wk) v49).tm) (0 : Int) (1099511627776 : Int)) = true)))))], [.dead, .box 45 [.int .i64 ((lat ((lat jobs v32).wk) v49).st), .int .i64 ((lat ((lat jobs v32).wk) v49).tm)]], 0⟩ ?_ ?_
 refine cL rfl (o_fa tt45 rfl tt3 rfl (cL rfl (zZx (v := .int _ _) tt3 rfl rfl ⟨_, rfl⟩ (mL rfl rfl (cL rfl (zXw (v := .lst _ _ _) tt24 rfl rfl ?_))))))
 obtain ⟨s134, sd⟩ := sd
 refine cL rfl (o_sub rfl rfl s134 (cL rfl (zZu (k := 37) (fst := []) (caps := []) (ys := [.int _ _, .int _ _, .int _ _]) rfl rfl (spec_inr ((lat ((lat jobs v32).wk) v49).st) (0 : Int) ((sv.length : Int) - (1 : Int))) zk (cL rfl (o_notB rfl (mB rfl rfl ?_))))))
 by_cases c1 : ¬ ((inM ((lat ((lat jobs v32).wk) v49).st) (0 : Int) ((sv.length : Int) - (1 : Int))) = true)
 iterate 4 refine cLs rfl rfl rfl (dT c1) ?_
 refine cL rfl (zZv (v := .bool _) rfl (dT c1) rfl (eL (zYz ⟨rfl, rfl, rfl, rfl, rfl, rfl, rfl, (congrArg AV.bool (dOrT c1)).symm, trivial⟩ rfl)))
 refine cLg rfl rfl (dF c1) (cL rfl (o_fa tt45 rfl tt3 rfl (cLg rfl rfl (dF c1) (cL rfl (zZx (v := .int _ _) tt3 rfl rfl ⟨_, rfl⟩ (cLg rfl rfl (dF c1) (cL rfl (zZu (k := 37) (fst := []) (caps := []) (ys := [.int _ _, .int _ _, .int _ _]) rfl rfl (spec_inr ((lat ((lat jobs v32).wk) v49).tm) (0 : Int) (1099511627776 : Int)) zk (cLg rfl rfl (dF c1) (cL rfl (o_notB rfl (cL rfl (zZy (v := .bool _) rfl (dF c1) rfl (eL (zYz ⟨rfl, rfl, rfl, rfl, rfl, rfl, rfl, (congrArg AV.bool (dOrF c1 (rfl))).symm, trivial⟩ rfl)))))))))))))))
 refine W.cn rfl (fun hc => ?_) (fun hc => ?_)
 have hv := hv.1 hc
 refine W.rL (aB rfl rfl (eL (W.ty [(4, .bool _)] rfl (W.ret (zYt (zZr (zZr (zYt (zYt (zZr (zZr (zYt (zZr (rt (rt_t (v := .bool _) rfl (rt_n (⟨_, zYr _ _ _, false, rfl, hv⟩)))))))))))))))))
 have hv := hv.2 hc
 refine W.skip (zYv (zZ (W.ty [(0, .lst _ _ _), (30, .lst _ _ _), (31, .int _ _), (32, .int _ _), (47, .lst _ _ _), (48, .int _ _), (49, .int _ _)] rfl (W.rL1 ?_))))
 obtain ⟨s135, hv⟩ := hv
 refine cL rfl (o_add rfl rfl s135 (mI rfl rfl (eL (zZ (⟨(), (v49 + (1 : Int)), hv, St.to_mk (φ := [none]) rfl (rfl) (zT rfl rfl) ⟨rfl, trivial⟩⟩)))))
 have hv := hv.2 hc
 refine W.exit (zZt (zZt (zYs (zYv (zZ (W.ty [(0, .lst _ _ _), (30, .lst _ _ _), (31, .int _ _), (32, .int _ _)] rfl (W.rL1 ?_)))))))
 obtain ⟨s136, hv⟩ := hv
 refine cL rfl (o_add rfl rfl s136 (mI rfl rfl (eL (zZ (⟨(), (v32 + (1 : Int)), hv, St.to_mk (φ := []) rfl (rfl) (zT rfl rfl) trivial⟩)))))
 have hv := hv.2 hc
 refine W.exit (zZt (zZt (zYs (zZ (W.ty [] rfl (W.rL (aB rfl rfl (eL (W.ty [(4, .bool _)] rfl (W.ret (rt (rt_t (v := .bool _) rfl (rt_n (⟨_, zYr _ _ _, true, rfl, hv⟩))))))))))))))
set_option maxHeartbeats 4000000 in
theorem vcp_mvalid (sv : (List Int)) (jobs : (List Job)) (h0 : sv.length <= 9223372036854775807) (h1 : ∀ j ∈ jobs, j.wk.length <= 9223372036854775807) (h2 : jobs.length <= 9223372036854775807) : vc_mvalid sv jobs (fun q0 => q0 = (validJ sv jobs)) := by
  unfold vc_mvalid
  have e1 : ∀ n lo hi : Int, (inM n lo hi = true) = (lo <= n /\ n <= hi) := fun n lo hi => by unfold inM; simp
  simp only [e1]
  have bad : ∀ {q : Prop}, (validJ sv jobs = true -> q) -> ¬ q -> false = validJ sv jobs := fun h k => by
    rcases hv : validJ sv jobs with _ | _
    . rfl
    . exact absurd (h hv) k
  refine ⟨fun k => bad (fun h => (job_ok h).1) (by omega), fun k => ?_⟩
  refine ⟨fun v => ∃ i : Nat, v = i /\ i <= sv.length /\ ∀ a : Nat, a < i -> 1 <= lat sv a /\ lat sv a <= 4, fun v => sv.length - v.toNat, ⟨0, rfl, by omega, fun a ha => by omega⟩, ?_⟩
  rintro _ ⟨i, rfl, hi, hs⟩
  refine ⟨fun k1 => ⟨⟨by omega, k1⟩, fun k2 => bad (fun h => (job_ok h).2.1 _ (lat_mem (xs := sv) (i := (i : Int)) ⟨by omega, k1⟩)) k2, fun k2 => ⟨by unfold inI; omega, ⟨i + 1, by omega, by omega, fun a ha => ?_⟩, dec_lt k1⟩⟩, fun k1 => ?_⟩
  . rcases Nat.lt_or_ge a i with h | h
    . exact hs a h
    . rw [show a = i by omega]; exact Decidable.not_not.1 k2
  have hsv : ∀ n ∈ sv, 1 <= n /\ n <= 4 := fun n hn => by
    obtain ⟨a, ha, rfl⟩ := List.mem_iff_getElem.1 hn
    have := hs a (by omega)
    rwa [lat_get ha] at this
  refine ⟨fun v => ∃ i : Nat, v = i /\ i <= jobs.length /\ ∀ a : Nat, a < i -> jobOk sv.length (lat jobs a) = true, fun v => jobs.length - v.toNat, ⟨0, rfl, by omega, fun a ha => by omega⟩, ?_⟩
  rintro _ ⟨j, rfl, hj, hjs⟩
  refine ⟨fun k2 => ⟨⟨by omega, k2⟩, fun k3 => bad (fun h => ((job_ok h).2.2 _ (lat_mem (xs := jobs) (i := (j : Int)) ⟨by omega, k2⟩)).1) (by omega), fun k3 => ?_⟩, fun k2 => ?_⟩
  . have hmem : lat jobs (j : Int) ∈ jobs := lat_mem ⟨by omega, k2⟩
    refine ⟨fun v => ∃ i : Nat, v = i /\ i <= (lat jobs (j : Int)).wk.length /\ ∀ a : Nat, a < i -> 0 <= (lat (lat jobs (j : Int)).wk a).st /\ (lat (lat jobs (j : Int)).wk a).st <= (sv.length : Int) - 1 /\ 0 <= (lat (lat jobs (j : Int)).wk a).tm /\ (lat (lat jobs (j : Int)).wk a).tm <= 1099511627776, fun v => (lat jobs (j : Int)).wk.length - v.toNat, ⟨0, rfl, by omega, fun a ha => by omega⟩, ?_⟩
    rintro _ ⟨q, rfl, hq, hqs⟩
    refine ⟨fun k4 => ⟨⟨by omega, k4⟩, ⟨by unfold inI; omega, trivial⟩, fun k5 => bad (fun h => ((job_ok h).2.2 _ hmem).2 _ (lat_mem (xs := (lat jobs (j : Int)).wk) (i := (q : Int)) ⟨by omega, k4⟩)) (by omega), fun k5 => ⟨by unfold inI; have := h1 _ hmem; omega, ⟨q + 1, by omega, by omega, fun a ha => ?_⟩, dec_lt k4⟩⟩, fun k4 => ⟨by unfold inI; omega, ⟨j + 1, by omega, by omega, fun a ha => ?_⟩, dec_lt k2⟩⟩
    . rcases Nat.lt_or_ge a q with h | h
      . exact hqs a h
      . rw [show a = q by omega]; omega
    . rcases Nat.lt_or_ge a j with h | h
      . exact hjs a h
      . rw [show a = j by omega]
        unfold jobOk
        rw [Bool.and_eq_true, decide_eq_true_eq, List.all_eq_true]
        refine ⟨by omega, fun w hw => ?_⟩
        obtain ⟨b, hb, rfl⟩ := List.mem_iff_getElem.1 hw
        have := hqs b (by omega)
        rw [lat_get hb] at this
        exact decide_eq_true this
  . show true = validJ sv jobs
    unfold validJ
    symm
    rw [Bool.and_eq_true, Bool.and_eq_true, decide_eq_true_eq, List.all_eq_true, List.all_eq_true]
    refine ⟨⟨by omega, fun n hn => decide_eq_true (hsv n hn)⟩, fun x hx => ?_⟩
    obtain ⟨b, hb, rfl⟩ := List.mem_iff_getElem.1 hx
    have := hjs b (by omega)
    rwa [lat_get hb] at this
theorem spec_mvalid (sv : (List Int)) (jobs : (List Job)) (h0 : sv.length <= 9223372036854775807) (h1 : ∀ j ∈ jobs, j.wk.length <= 9223372036854775807) (h2 : jobs.length <= 9223372036854775807) : FnP Try.prog 23 [.lst true sv.length (zYy zYx sv), .lst true jobs.length (zYy (e42 true) jobs)] (fun xR => xR = .bool (validJ sv jobs)) :=
  (walk_mvalid (vcp_mvalid sv jobs h0 h1 h2)).mono (by rintro _ ⟨_, rfl, rfl⟩; rfl)
def vc_run1 (s : Sta) (Post : Bool -> Prop) : Prop :=
  Post (decide (s.dn < s.al))
theorem walk_run1 {s : Sta} {Post : Bool -> Prop} (hv : vc_run1 s Post) : FnP Try.prog 48 [.agg (e89 s)] (fun x => ∃ q0, x = .bool q0 /\ Post q0) := by
 refine FnP.of_walk (T := tt) (nt := 8) ttOk ttMix ⟨⟨Try.f48, Try.func48, rfl, rfl, rfl, rfl⟩⟩ (by simp) ?_
 unfold vc_run1 at hv
 change W _ _ _ ⟨8, look [(0, .agg [.int .i64 s.dn, .int .i64 s.al, .int .i64 s.rd])], [], 0⟩ _
 refine W.ty [(0, .agg _)] rfl (W.rL (cL rfl (o_box (v := .agg _) (p := 0) rfl rfl rfl (aB rfl rfl (eL (W.ty [(1, .ptr _ _)] rfl (W.rL (cL rfl (o_fa tt89 rfl tt3 rfl (cL rfl (zZx (v := .int _ _) tt3 rfl rfl ⟨_, rfl⟩ (cL rfl (o_fa tt89 rfl tt3 rfl (cL rfl (zZx (v := .int _ _) tt3 rfl rfl ⟨_, rfl⟩ (cL rfl (zYq rfl rfl (aB rfl rfl (eL (W.ty [(2, .bool _)] rfl (W.ret (rt (rt_t (v := .bool _) rfl (rt_n (⟨_, zYr _ _ _, (decide (s.dn < s.al)), rfl, hv⟩)))))))))))))))))))))))))
set_option maxHeartbeats 4000000 in
theorem vcp_run1 (s : Sta)  : vc_run1 s (fun q0 => q0 = (decide (s.dn < s.al))) := by
  rfl
theorem spec_run1 (s : Sta)  : FnP Try.prog 48 [.agg (e89 s)] (fun xR => xR = .bool (decide (s.dn < s.al))) :=
  (walk_run1 (vcp_run1 s)).mono (by rintro _ ⟨_, rfl, rfl⟩; rfl)
def vc_run2 (s : Sta) (Post : Int -> Prop) : Prop :=
  Post s.rd
theorem walk_run2 {s : Sta} {Post : Int -> Prop} (hv : vc_run2 s Post) : FnP Try.prog 49 [.agg (e89 s)] (fun x => ∃ q0, x = .int .i64 q0 /\ Post q0) := by
 refine FnP.of_walk (T := tt) (nt := 5) ttOk ttMix ⟨⟨Try.f49, Try.func49, rfl, rfl, rfl, rfl⟩⟩ (by simp) ?_
 unfold vc_run2 at hv
 change W _ _ _ ⟨5, look [(0, .agg [.int .i64 s.dn, .int .i64 s.al, .int .i64 s.rd])], [], 0⟩ _
 refine W.ty [(0, .agg _)] rfl (W.rL (cL rfl (o_box (v := .agg _) (p := 0) rfl rfl rfl (aI rfl rfl (eL (W.ty [(1, .ptr _ _)] rfl (W.rL (cL rfl (o_fa tt89 rfl tt3 rfl (cL rfl (zZx (v := .int _ _) tt3 rfl rfl ⟨_, rfl⟩ (aI rfl rfl (eL (W.ty [(2, .int _ _)] rfl (W.ret (rt (rt_t (v := .int _ _) rfl (rt_n (⟨_, zY _ _ _ _, s.rd, rfl, hv⟩)))))))))))))))))))
set_option maxHeartbeats 4000000 in
theorem vcp_run2 (s : Sta)  : vc_run2 s (fun q0 => q0 = (s.rd)) := by
  rfl
theorem spec_run2 (s : Sta)  : FnP Try.prog 49 [.agg (e89 s)] (fun xR => xR = .int .i64 (s.rd)) :=
  (walk_run2 (vcp_run2 s)).mono (by rintro _ ⟨_, rfl, rfl⟩; rfl)
def vc_leastS (l : (List Sta)) (Post : Int -> Prop) : Prop :=
  ∃ (I1 : Int -> Int -> Prop) (μ1 : Int -> Int -> Nat), I1 (-1 : Int) (0 : Int) /\ ∀ (v7 : Int) (v12 : Int), I1 v7 v12 -> ((v12 < (l.length : Int)) -> ∃ J2 : Int -> Prop, (∀ (v7_1 : Int), J2 v7_1 -> (inI (v12 + (1 : Int))) /\ (I1 v7_1 (v12 + (1 : Int)) /\ μ1 v7_1 (v12 + (1 : Int)) < μ1 v7 v12)) /\ ((0 <= v12 /\ v12 < (l.length : Int)) /\ ((((lat l v12).dn < (lat l v12).al) -> ((v7 < (0 : Int)) -> True) /\ (¬ (v7 < (0 : Int)) -> (0 <= v7 /\ v7 < (l.length : Int)) /\ True)) /\ (¬ ((lat l v12).dn < (lat l v12).al) -> True)) /\ (((((lat l v12).dn < (lat l v12).al) /\ ((v7 < (0 : Int)) \/ (((lat l v12).rd) < ((lat l v7).rd)))) -> J2 v12) /\ (¬ (((lat l v12).dn < (lat l v12).al) /\ ((v7 < (0 : Int)) \/ (((lat l v12).rd) < ((lat l v7).rd)))) -> J2 v7)))) /\ (¬ (v12 < (l.length : Int)) -> Post v7)
theorem walk_leastS {l : (List Sta)} {Post : Int -> Prop} (hv : vc_leastS l Post) : FnP Try.prog 47 [.lst true l.length (zYy e89 l), .clo 48 [] [], .clo 49 [] []] (fun x => ∃ q0, x = .int .i64 q0 /\ Post q0) := by
 refine FnP.of_walk (T := tt) (nt := 39) ttOk ttMix ⟨⟨Try.f47, Try.func47, rfl, rfl, rfl, rfl⟩⟩ (by simp) ?_
 unfold vc_leastS at hv
 change W _ _ _ ⟨39, look [(0, .lst true l.length (zYy e89 l)), (1, .clo 48 [] []), (2, .clo 49 [] [])], [], 0⟩ _
 refine W.ty [(0, .lst _ _ _), (1, .clo _ _ _), (2, .clo _ _ _)] rfl (W.rL (aI rfl rfl (eL (W.ty [(0, .lst _ _ _), (1, .clo _ _ _), (2, .clo _ _ _)] rfl (W.rL (aI rfl rfl (eL (W.ty [(0, .lst _ _ _), (1, .clo _ _ _), (2, .clo _ _ _), (7, .int _ _)] rfl (W.seq' (W.rL (mL rfl rfl (cL rfl (zXw (v := .lst _ _ _) tt87 rfl rfl (mI rfl rfl (eL (W.ty [(0, .lst _ _ _), (1, .clo _ _ _), (2, .clo _ _ _), (7, .int _ _), (10, .lst _ _ _), (11, .int _ _), (12, .int _ _)] rfl (W.block ?_)))))))))))))))))
 obtain ⟨I1, μ1, hp, hv⟩ := hv
 refine W.loop2 (fun v7 v12 => ⟨39, look [(0, .lst true l.length (zYy e89 l)), (1, .clo 48 [] []), (2, .clo 49 [] []), (7, .int .i64 v7), (10, .lst true l.length (zYy e89 l)), (11, .int .i64 (l.length : Int)), (12, .int .i64 v12)], [], 0⟩) I1 μ1 (-1 : Int) (0 : Int) (St.to_mk (φ := []) rfl (rfl) ⟨Ren.lst _ _ _, Ren.clo _ (Rens.nil) (Rens.nil), Ren.clo _ (Rens.nil) (Rens.nil), Ren.int _ _, Ren.lst _ _ _, Ren.int _ _, Ren.int _ _, trivial⟩ trivial) hp ?_
 clear hp
 intro v7 v12 hI
 replace hv := hv v7 v12 hI
 clear hI
 refine W.rL (cL rfl (zYq rfl rfl (eL (W.ty [(0, .lst _ _ _), (1, .clo _ _ _), (2, .clo _ _ _), (7, .int _ _), (10, .lst _ _ _), (11, .int _ _), (12, .int _ _), (13, .bool _)] rfl (W.seq' (W.cn rfl (fun hc => ?_) (fun hc => ?_)))))))
 have hv := hv.1 hc
 refine W.skip (zZ (W.ty [(0, .lst _ _ _), (1, .clo _ _ _), (2, .clo _ _ _), (7, .int _ _), (10, .lst _ _ _), (11, .int _ _), (12, .int _ _)] rfl ?_))
 obtain ⟨J2, hj, hv⟩ := hv
 refine W.mid1 (fun v7_1 => ⟨39, look [(0, .lst true l.length (zYy e89 l)), (1, .clo 48 [] []), (2, .clo 49 [] []), (7, .int .i64 v7_1), (10, .lst true l.length (zYy e89 l)), (11, .int .i64 (l.length : Int)), (12, .int .i64 v12)], [.dead], 0⟩) J2 ?_ ?_
 intro v7_1
 intro hv
 replace hv := hj v7_1 hv
 refine W.rL1 ?_
 obtain ⟨s25, hv⟩ := hv
 refine cL rfl (o_add rfl rfl s25 (mI rfl rfl (eL (zZ (⟨(), v7_1, (v12 + (1 : Int)), hv, St.to_mk (φ := []) rfl (rfl) ⟨Ren.lst _ _ _, Ren.clo _ (Rens.nil) (Rens.nil), Ren.clo _ (Rens.nil) (Rens.nil), Ren.int _ _, Ren.lst _ _ _, Ren.int _ _, Ren.int _ _, trivial⟩ trivial⟩)))))
 clear hj
 refine W.block (W.rL (mI rfl rfl ?_))
 obtain ⟨s26, hv⟩ := hv
 refine cL rfl (zYu tt87 tt89 rfl rfl (enc89.wd true) rfl s26 ?_)
 intro rest26
 refine cL rfl (zYp (cs := [.int _ _, .int _ _, .int _ _]) tt89 rfl rfl ⟨_, rfl⟩ rfl (cL rfl (zXy (p := 0) tt89 rfl rfl (aI rfl rfl (cLn (o_stB (v := .agg _) (vs := [.int _ _, .int _ _, .int _ _]) (cs2 := [.int _ _, .int _ _, .int _ _]) tt89 rfl rfl rfl rfl rfl (Nat.le_of_ble_eq_true rfl) rfl (eL (W.ty [(0, .lst _ _ _), (1, .clo _ _ _), (2, .clo _ _ _), (7, .int _ _), (8, .int _ _), (9, .ptr _ _), (10, .lst _ _ _), (11, .int _ _), (12, .int _ _)] rfl ?_))))))))
 obtain ⟨sd, hv⟩ := hv
 refine W.rPm ⟨39, look [(0, .lst true l.length (zYy e89 l)), (1, .clo 48 [] []), (2, .clo 49 [] []), (7, .int .i64 v7), (8, .int .i64 v12), (10, .lst true l.length (zYy e89 l)), (11, .int .i64 (l.length : Int)), (12, .int .i64 v12), (35, .bool (decide (((lat l v12).dn < (lat l v12).al) /\ ((v7 < (0 : Int)) \/ (((lat l v12).rd) < ((lat l v7).rd))))))], [.box 89 [.int .i64 ((lat l v12).dn), .int .i64 ((lat l v12).al), .int .i64 ((lat l v12).rd)]], 0⟩ [0, 1, 2, 3, 4, 5, 6, 7, 8, 10, 11, 12, 13, 14, 9, 15, 16, 17, 18] (by decide +kernel) rfl ?_ ?_
 refine cL rfl (zZp (v := .clo _ _ _) rfl (cL rfl (zYp (cs := [.int _ _, .int _ _, .int _ _]) tt89 rfl rfl ⟨_, rfl⟩ rfl (cL rfl (zZu (k := 48) (fst := []) (caps := []) (ys := [.agg _]) rfl rfl (spec_run1 (lat l v12)) zk (mB rfl rfl ?_))))))
 by_cases c1 : (lat l v12).dn < (lat l v12).al
 have sd := sd.1 c1
 refine cLg rfl rfl (dT c1) (mI rfl rfl (cLg rfl rfl (dT c1) (cL rfl (zYq rfl rfl (cLg rfl rfl (dT c1) (mB rfl rfl ?_))))))
 by_cases c2 : v7 < (0 : Int)
 iterate 10 refine cLs rfl rfl rfl (dT c2) ?_
 refine cLg rfl rfl (dT c1) (cL rfl (zZv (v := .bool _) rfl (dT c2) rfl (cL rfl (zZv (v := .bool _) rfl (dT c1) rfl (eL (zYz ⟨rfl, rfl, rfl, rfl, rfl, rfl, rfl, rfl, (congrArg AV.bool (zXv c1 (dOrT c2))).symm, trivial⟩ rfl))))))
 have sd := sd.2 c2
 refine cLg rfl rfl (dF c2) (cL rfl (zZp (v := .clo _ _ _) rfl (cLg rfl rfl (dF c2) (cL rfl (zYp (cs := [.int _ _, .int _ _, .int _ _]) tt89 rfl rfl ⟨_, rfl⟩ rfl (cLg rfl rfl (dF c2) (cL rfl (zZp (v := .clo _ _ _) rfl (cLg rfl rfl (dF c2) (mL rfl rfl (cLg rfl rfl (dF c2) (mI rfl rfl (cLg rfl rfl (dF c2) ?_)))))))))))))
 obtain ⟨s28, sd⟩ := sd
 refine cL rfl (zYu tt87 tt89 rfl rfl (enc89.wd true) rfl s28 ?_)
 intro rest28
 refine cLg rfl rfl (dF c2) (cL rfl (zYp (cs := [.int _ _, .int _ _, .int _ _]) tt89 rfl rfl ⟨_, rfl⟩ rfl (cLg rfl rfl (dF c2) (cL rfl (zZu (k := 49) (fst := []) (caps := []) (ys := [.agg _]) rfl rfl (spec_run2 (lat l v12)) zk (cLg rfl rfl (dF c2) (cL rfl (zZu (k := 49) (fst := []) (caps := []) (ys := [.agg _]) rfl rfl (spec_run2 (lat l v7)) zk (cLg rfl rfl (dF c2) (cL rfl (zYq rfl rfl (cLg rfl rfl (dT c1) (cL rfl (zZy (v := .bool _) rfl (dF c2) rfl (cL rfl (zZv (v := .bool _) rfl (dT c1) rfl (eL (zYz ⟨rfl, rfl, rfl, rfl, rfl, rfl, rfl, rfl, (congrArg AV.bool (zXv c1 (dOrF c2 (rfl)))).symm, trivial⟩ rfl))))))))))))))))))
 iterate 3 refine cLs rfl rfl rfl (dF c1) ?_
 iterate 4 refine cLu rfl rfl rfl ?_
 iterate 6 refine cLu rfl rfl (by kernel_rfl) ?_
 refine cLs rfl rfl rfl (dF c1) (cL rfl (zZy (v := .bool _) rfl (dF c1) rfl (eL (zYz ⟨rfl, rfl, rfl, rfl, rfl, rfl, rfl, rfl, (congrArg AV.bool (dAndF c1)).symm, trivial⟩ rfl))))
 refine W.cn rfl (fun hc => ?_) (fun hc => ?_)
 have hv := hv.1 hc
 refine W.rL1 (mI rfl rfl (aI rfl rfl (eL (zYv (zZ (⟨(), v12, hv, St.to_mk (φ := [none]) rfl (rfl) ⟨Ren.lst _ _ _, Ren.clo _ (Rens.nil) (Rens.nil), Ren.clo _ (Rens.nil) (Rens.nil), Ren.int _ _, Ren.lst _ _ _, Ren.int _ _, Ren.int _ _, trivial⟩ ⟨rfl, trivial⟩⟩))))))
 have hv := hv.2 hc
 refine W.skip (zYv (zZ (⟨(), v7, hv, St.to_mk (φ := [none]) rfl (rfl) ⟨Ren.lst _ _ _, Ren.clo _ (Rens.nil) (Rens.nil), Ren.clo _ (Rens.nil) (Rens.nil), Ren.int _ _, Ren.lst _ _ _, Ren.int _ _, Ren.int _ _, trivial⟩ ⟨rfl, trivial⟩⟩)))
 have hv := hv.2 hc
 refine W.exit (zZt (zZt (zYs (zZ (W.ty [(7, .int _ _)] rfl (W.rL (mI rfl rfl (aI rfl rfl (eL (W.ty [(6, .int _ _)] rfl (W.ret (rt (rt_t (v := .int _ _) rfl (rt_n (⟨_, zY _ _ _ _, v7, rfl, hv⟩)))))))))))))))
set_option maxHeartbeats 4000000 in
theorem vcp_leastS (l : (List Sta)) (h0 : l.length <= 9223372036854775807) : vc_leastS l (fun q0 => q0 = (leastS l)) := by
  unfold vc_leastS
  have hb : ∀ i : Nat, leastN (fun s : Sta => decide (s.dn < s.al)) (·.rd) l i < 0 \/ (0 <= leastN (fun s : Sta => decide (s.dn < s.al)) (·.rd) l i /\ leastN (fun s : Sta => decide (s.dn < s.al)) (·.rd) l i < i) := fun i => by
    rcases leastN_spec (fun s : Sta => decide (s.dn < s.al)) (·.rd) l i with ⟨h1, _⟩ | ⟨j, h1, h2, _⟩ <;> omega
  refine ⟨fun o v => ∃ i : Nat, v = i /\ i <= l.length /\ o = leastN (fun s : Sta => decide (s.dn < s.al)) (·.rd) l i, fun _ v => l.length - v.toNat, ⟨0, rfl, by omega, rfl⟩, ?_⟩
  rintro _ _ ⟨i, rfl, hi, rfl⟩
  refine ⟨fun k1 => ⟨fun o => o = leastN (fun s : Sta => decide (s.dn < s.al)) (·.rd) l (i + 1), fun o ho => ⟨by unfold inI; omega, ⟨i + 1, by omega, by omega, ho⟩, by show l.length - ((i : Int) + 1).toNat < l.length - ((i : Int)).toNat; omega⟩, ⟨by omega, k1⟩, ⟨fun k2 => ⟨fun _ => trivial, fun k3 => ⟨?_, trivial⟩⟩, fun _ => trivial⟩, fun k2 => ?_, fun k2 => ?_⟩, fun k1 => ?_⟩
  . rcases hb i with h | h <;> omega
  . show _ = leastN _ _ l (i + 1)
    rw [leastN_succ]; unfold leastStep; rw [if_pos ⟨decide_eq_true k2.1, k2.2⟩]
  . show _ = leastN _ _ l (i + 1)
    rw [leastN_succ]; unfold leastStep; rw [if_neg (fun h => k2 ⟨of_decide_eq_true h.1, h.2⟩)]
  . show _ = leastM _ _ l
    unfold leastM
    rw [show i = l.length by omega]
theorem spec_leastS (l : (List Sta)) (h0 : l.length <= 9223372036854775807) : FnP Try.prog 47 [.lst true l.length (zYy e89 l), .clo 48 [] [], .clo 49 [] []] (fun xR => xR = .int .i64 (leastS l)) :=
  (walk_leastS (vcp_leastS l h0)).mono (by rintro _ ⟨_, rfl, rfl⟩; rfl)
def vc_run3 (n : Int) (Post : Bool -> Prop) : Prop :=
  Post true
theorem walk_run3 {n : Int} {Post : Bool -> Prop} (hv : vc_run3 n Post) : FnP Try.prog 51 [.int .i64 n] (fun x => ∃ q0, x = .bool q0 /\ Post q0) := by
 refine FnP.of_walk (T := tt) (nt := 3) ttOk ttMix ⟨⟨Try.f51, Try.func51, rfl, rfl, rfl, rfl⟩⟩ (by simp) ?_
 unfold vc_run3 at hv
 change W _ _ _ ⟨3, look [(0, .int .i64 n)], [], 0⟩ _
 refine W.ty [] rfl (W.rL (aB rfl rfl (eL (W.ty [] rfl (W.rL (aB rfl rfl (eL (W.ty [(2, .bool _)] rfl (W.ret (rt (rt_t (v := .bool _) rfl (rt_n (⟨_, zYr _ _ _, true, rfl, hv⟩)))))))))))))
set_option maxHeartbeats 4000000 in
theorem vcp_run3 (n : Int)  : vc_run3 n (fun q0 => q0 = (true)) := by
  rfl
theorem spec_run3 (n : Int)  : FnP Try.prog 51 [.int .i64 n] (fun xR => xR = .bool (true)) :=
  (walk_run3 (vcp_run3 n)).mono (by rintro _ ⟨_, rfl, rfl⟩; rfl)
def vc_run4 (n : Int) (Post : Int -> Prop) : Prop :=
  Post n
theorem walk_run4 {n : Int} {Post : Int -> Prop} (hv : vc_run4 n Post) : FnP Try.prog 52 [.int .i64 n] (fun x => ∃ q0, x = .int .i64 q0 /\ Post q0) := by
 refine FnP.of_walk (T := tt) (nt := 4) ttOk ttMix ⟨⟨Try.f52, Try.func52, rfl, rfl, rfl, rfl⟩⟩ (by simp) ?_
 unfold vc_run4 at hv
 change W _ _ _ ⟨4, look [(0, .int .i64 n)], [], 0⟩ _
 refine W.ty [(0, .int _ _)] rfl (W.rL (aI rfl rfl (eL (W.ty [(0, .int _ _)] rfl (W.rL (mI rfl rfl (aI rfl rfl (eL (W.ty [(2, .int _ _)] rfl (W.ret (rt (rt_t (v := .int _ _) rfl (rt_n (⟨_, zY _ _ _ _, n, rfl, hv⟩))))))))))))))
set_option maxHeartbeats 4000000 in
theorem vcp_run4 (n : Int)  : vc_run4 n (fun q0 => q0 = (n)) := by
  rfl
theorem spec_run4 (n : Int)  : FnP Try.prog 52 [.int .i64 n] (fun xR => xR = .int .i64 (n)) :=
  (walk_run4 (vcp_run4 n)).mono (by rintro _ ⟨_, rfl, rfl⟩; rfl)
def vc_leastI (l : (List Int)) (Post : Int -> Prop) : Prop :=
  ∃ (I1 : Int -> Int -> Prop) (μ1 : Int -> Int -> Nat), I1 (-1 : Int) (0 : Int) /\ ∀ (v7 : Int) (v12 : Int), I1 v7 v12 -> ((v12 < (l.length : Int)) -> ∃ J2 : Int -> Prop, (∀ (v7_1 : Int), J2 v7_1 -> (inI (v12 + (1 : Int))) /\ (I1 v7_1 (v12 + (1 : Int)) /\ μ1 v7_1 (v12 + (1 : Int)) < μ1 v7 v12)) /\ ((0 <= v12 /\ v12 < (l.length : Int)) /\ (((v7 < (0 : Int)) -> True) /\ (¬ (v7 < (0 : Int)) -> (0 <= v7 /\ v7 < (l.length : Int)) /\ True)) /\ ((((v7 < (0 : Int)) \/ ((lat l v12) < (lat l v7))) -> J2 v12) /\ (¬ ((v7 < (0 : Int)) \/ ((lat l v12) < (lat l v7))) -> J2 v7)))) /\ (¬ (v12 < (l.length : Int)) -> Post v7)
theorem walk_leastI {l : (List Int)} {Post : Int -> Prop} (hv : vc_leastI l Post) : FnP Try.prog 50 [.lst true l.length (zYy zYx l), .clo 51 [] [], .clo 52 [] []] (fun x => ∃ q0, x = .int .i64 q0 /\ Post q0) := by
 refine FnP.of_walk (T := tt) (nt := 39) ttOk ttMix ⟨⟨Try.f50, Try.func50, rfl, rfl, rfl, rfl⟩⟩ (by simp) ?_
 unfold vc_leastI at hv
 change W _ _ _ ⟨39, look [(0, .lst true l.length (zYy zYx l)), (1, .clo 51 [] []), (2, .clo 52 [] [])], [], 0⟩ _
 refine W.ty [(0, .lst _ _ _), (1, .clo _ _ _), (2, .clo _ _ _)] rfl (W.rL (aI rfl rfl (eL (W.ty [(0, .lst _ _ _), (1, .clo _ _ _), (2, .clo _ _ _)] rfl (W.rL (aI rfl rfl (eL (W.ty [(0, .lst _ _ _), (1, .clo _ _ _), (2, .clo _ _ _), (7, .int _ _)] rfl (W.seq' (W.rL (mL rfl rfl (cL rfl (zXw (v := .lst _ _ _) tt24 rfl rfl (mI rfl rfl (eL (W.ty [(0, .lst _ _ _), (1, .clo _ _ _), (2, .clo _ _ _), (7, .int _ _), (10, .lst _ _ _), (11, .int _ _), (12, .int _ _)] rfl (W.block ?_)))))))))))))))))
 obtain ⟨I1, μ1, hp, hv⟩ := hv
 refine W.loop2 (fun v7 v12 => ⟨39, look [(0, .lst true l.length (zYy zYx l)), (1, .clo 51 [] []), (2, .clo 52 [] []), (7, .int .i64 v7), (10, .lst true l.length (zYy zYx l)), (11, .int .i64 (l.length : Int)), (12, .int .i64 v12)], [], 0⟩) I1 μ1 (-1 : Int) (0 : Int) (St.to_mk (φ := []) rfl (rfl) ⟨Ren.lst _ _ _, Ren.clo _ (Rens.nil) (Rens.nil), Ren.clo _ (Rens.nil) (Rens.nil), Ren.int _ _, Ren.lst _ _ _, Ren.int _ _, Ren.int _ _, trivial⟩ trivial) hp ?_
 clear hp
 intro v7 v12 hI
 replace hv := hv v7 v12 hI
 clear hI
 refine W.rL (cL rfl (zYq rfl rfl (eL (W.ty [(0, .lst _ _ _), (1, .clo _ _ _), (2, .clo _ _ _), (7, .int _ _), (10, .lst _ _ _), (11, .int _ _), (12, .int _ _), (13, .bool _)] rfl (W.seq' (W.cn rfl (fun hc => ?_) (fun hc => ?_)))))))
 have hv := hv.1 hc
 refine W.skip (zZ (W.ty [(0, .lst _ _ _), (1, .clo _ _ _), (2, .clo _ _ _), (7, .int _ _), (10, .lst _ _ _), (11, .int _ _), (12, .int _ _)] rfl ?_))
 obtain ⟨J2, hj, hv⟩ := hv
 refine W.mid1 (fun v7_1 => ⟨39, look [(0, .lst true l.length (zYy zYx l)), (1, .clo 51 [] []), (2, .clo 52 [] []), (7, .int .i64 v7_1), (10, .lst true l.length (zYy zYx l)), (11, .int .i64 (l.length : Int)), (12, .int .i64 v12), (21, .int .i64 v7), (22, .bool (decide (v7 < (0 : Int)))), (23, .bool (decide (v7 < (0 : Int)))), (34, .bool (decide ((v7 < (0 : Int)) \/ ((lat l v12) < (lat l v7)))))], [], 0⟩) J2 ?_ ?_
 intro v7_1
 intro hv
 replace hv := hj v7_1 hv
 refine W.rL1 ?_
 obtain ⟨s25, hv⟩ := hv
 refine cL rfl (o_add rfl rfl s25 (mI rfl rfl (eL (zZ (⟨(), v7_1, (v12 + (1 : Int)), hv, St.to_mk (φ := []) rfl (rfl) ⟨Ren.lst _ _ _, Ren.clo _ (Rens.nil) (Rens.nil), Ren.clo _ (Rens.nil) (Rens.nil), Ren.int _ _, Ren.lst _ _ _, Ren.int _ _, Ren.int _ _, trivial⟩ trivial⟩)))))
 clear hj
 refine W.block (W.rL (mI rfl rfl ?_))
 obtain ⟨s26, hv⟩ := hv
 refine cL rfl (zYu tt24 tt3 rfl rfl (zZw.wd true) rfl s26 ?_)
 intro rest26
 refine cL rfl (zZx (v := .int _ _) tt3 rfl rfl ⟨_, rfl⟩ ?_)
 iterate 2 refine aI rfl rfl ?_
 refine eL (W.ty [(0, .lst _ _ _), (1, .clo _ _ _), (2, .clo _ _ _), (7, .int _ _), (8, .int _ _), (9, .int _ _), (10, .lst _ _ _), (11, .int _ _), (12, .int _ _)] rfl ?_)
 obtain ⟨sd, hv⟩ := hv
 refine W.rPm ⟨39, look [(0, .lst true l.length (zYy zYx l)), (1, .clo 51 [] []), (2, .clo 52 [] []), (7, .int .i64 v7), (8, .int .i64 v12), (10, .lst true l.length (zYy zYx l)), (11, .int .i64 (l.length : Int)), (12, .int .i64 v12), (21, .int .i64 v7), (22, .bool (decide (v7 < (0 : Int)))), (23, .bool (decide (v7 < (0 : Int)))), (34, .bool (decide ((v7 < (0 : Int)) \/ ((lat l v12) < (lat l v7))))), (35, .bool (decide ((v7 < (0 : Int)) \/ ((lat l v12) < (lat l v7)))))], [], 0⟩ [0, 1, 2, 3, 4, 5, 6, 7, 8, 10, 11, 12, 13, 14, 9, 15, 16, 17, 18] (by decide +kernel) rfl ?_ ?_
 refine cL rfl (zZp (v := .clo _ _ _) rfl (mI rfl rfl (cL rfl (zZu (k := 51) (fst := []) (caps := []) (ys := [.int _ _]) rfl rfl (spec_run3 (lat l v12)) zk (mB rfl rfl (cLg rfl rfl (rfl) (mI rfl rfl (cLg rfl rfl (rfl) (cL rfl (zYq rfl rfl (cLg rfl rfl (rfl) (mB rfl rfl ?_))))))))))))
 by_cases c1 : v7 < (0 : Int)
 iterate 10 refine cLs rfl rfl rfl (dT c1) ?_
 refine cLg rfl rfl (rfl) (cL rfl (zZv (v := .bool _) rfl (dT c1) rfl (cL rfl (zZv (v := .bool _) rfl rfl rfl (eL (zYz ⟨rfl, rfl, rfl, rfl, rfl, rfl, rfl, rfl, rfl, rfl, rfl, (congrArg AV.bool (dOrT c1)).symm, (congrArg AV.bool (dOrT c1)).symm, trivial⟩ rfl))))))
 have sd := sd.2 c1
 refine cLg rfl rfl (dF c1) (cL rfl (zZp (v := .clo _ _ _) rfl (cLg rfl rfl (dF c1) (mI rfl rfl (cLg rfl rfl (dF c1) (cL rfl (zZp (v := .clo _ _ _) rfl (cLg rfl rfl (dF c1) (mL rfl rfl (cLg rfl rfl (dF c1) (mI rfl rfl (cLg rfl rfl (dF c1) ?_))))))))))))
 obtain ⟨s28, sd⟩ := sd
 refine cL rfl (zYu tt24 tt3 rfl rfl (zZw.wd true) rfl s28 ?_)
 intro rest28
 refine cLg rfl rfl (dF c1) (cL rfl (zZx (v := .int _ _) tt3 rfl rfl ⟨_, rfl⟩ (cLg rfl rfl (dF c1) (cL rfl (zZu (k := 52) (fst := []) (caps := []) (ys := [.int _ _]) rfl rfl (spec_run4 (lat l v12)) zk (cLg rfl rfl (dF c1) (cL rfl (zZu (k := 52) (fst := []) (caps := []) (ys := [.int _ _]) rfl rfl (spec_run4 (lat l v7)) zk (cLg rfl rfl (dF c1) (cL rfl (zYq rfl rfl (cLg rfl rfl (rfl) (cL rfl (zZy (v := .bool _) rfl (dF c1) rfl (cL rfl (zZv (v := .bool _) rfl rfl rfl (eL (zYz ⟨rfl, rfl, rfl, rfl, rfl, rfl, rfl, rfl, rfl, rfl, rfl, (congrArg AV.bool (dOrF c1 (rfl))).symm, (congrArg AV.bool (dOrF c1 (rfl))).symm, trivial⟩ rfl))))))))))))))))))
 refine W.cn rfl (fun hc => ?_) (fun hc => ?_)
 have hv := hv.1 hc
 refine W.rL1 (mI rfl rfl (aI rfl rfl (eL (zYv (zZ (⟨(), v12, hv, St.to_mk (φ := []) rfl (rfl) ⟨Ren.lst _ _ _, Ren.clo _ (Rens.nil) (Rens.nil), Ren.clo _ (Rens.nil) (Rens.nil), Ren.int _ _, Ren.lst _ _ _, Ren.int _ _, Ren.int _ _, Ren.int _ _, Ren.bool _, Ren.bool _, Ren.bool _, trivial⟩ trivial⟩))))))
 have hv := hv.2 hc
 refine W.skip (zYv (zZ (⟨(), v7, hv, St.to_mk (φ := []) rfl (rfl) ⟨Ren.lst _ _ _, Ren.clo _ (Rens.nil) (Rens.nil), Ren.clo _ (Rens.nil) (Rens.nil), Ren.int _ _, Ren.lst _ _ _, Ren.int _ _, Ren.int _ _, Ren.int _ _, Ren.bool _, Ren.bool _, Ren.bool _, trivial⟩ trivial⟩)))
 have hv := hv.2 hc
 refine W.exit (zZt (zZt (zYs (zZ (W.ty [(7, .int _ _)] rfl (W.rL (mI rfl rfl (aI rfl rfl (eL (W.ty [(6, .int _ _)] rfl (W.ret (rt (rt_t (v := .int _ _) rfl (rt_n (⟨_, zY _ _ _ _, v7, rfl, hv⟩)))))))))))))))
set_option maxHeartbeats 4000000 in
theorem vcp_leastI (l : (List Int)) (h0 : l.length <= 9223372036854775807) : vc_leastI l (fun q0 => q0 = (leastI l)) := by
  unfold vc_leastI
  have hb : ∀ i : Nat, leastN (fun _ : Int => true) (fun n => n) l i < 0 \/ (0 <= leastN (fun _ : Int => true) (fun n => n) l i /\ leastN (fun _ : Int => true) (fun n => n) l i < i) := fun i => by
    rcases leastN_spec (fun _ : Int => true) (fun n => n) l i with ⟨h1, _⟩ | ⟨j, h1, h2, _⟩ <;> omega
  refine ⟨fun o v => ∃ i : Nat, v = i /\ i <= l.length /\ o = leastN (fun _ : Int => true) (fun n => n) l i, fun _ v => l.length - v.toNat, ⟨0, rfl, by omega, rfl⟩, ?_⟩
  rintro _ _ ⟨i, rfl, hi, rfl⟩
  refine ⟨fun k1 => ⟨fun o => o = leastN (fun _ : Int => true) (fun n => n) l (i + 1), fun o ho => ⟨by unfold inI; omega, ⟨i + 1, by omega, by omega, ho⟩, dec_lt k1⟩, ⟨by omega, k1⟩, ⟨fun _ => trivial, fun k2 => ⟨?_, trivial⟩⟩, fun k2 => ?_, fun k2 => ?_⟩, fun k1 => ?_⟩
  . rcases hb i with h | h <;> omega
  . show _ = leastN _ _ l (i + 1)
    rw [leastN_succ]; unfold leastStep; rw [if_pos ⟨rfl, k2⟩]
  . show _ = leastN _ _ l (i + 1)
    rw [leastN_succ]; unfold leastStep; rw [if_neg (fun h => k2 h.2)]
  . show _ = leastM _ _ l
    unfold leastM
    rw [show i = l.length by omega]
theorem spec_leastI (l : (List Int)) (h0 : l.length <= 9223372036854775807) : FnP Try.prog 50 [.lst true l.length (zYy zYx l), .clo 51 [] [], .clo 52 [] []] (fun xR => xR = .int .i64 (leastI l)) :=
  (walk_leastI (vcp_leastI l h0)).mono (by rintro _ ⟨_, rfl, rfl⟩; rfl)
end Go.Lat
