/- The law latecomerlaw24.ReplayMatchesReference returns true for every input, and each argument reads afterwards as it read before. Part 6 of 15. No condition. -/
import Derived.Test.YtbaillkjjlmehaaLatE
import Derived.Test.YtbaillkjjlmehaaLatC
import Derived.WideShapes
import Derived.Lib.Overlaps
import Derived.Test.YtbaillkjjlmehaaLatD
set_option linter.unusedVariables false
set_option linter.unusedSimpArgs false
set_option linter.unnecessarySimpa false
set_option maxRecDepth 100000
set_option maxHeartbeats 4000000
namespace Go.Lat
open Go.RowKit
theorem orM2 (a b : Int) : orM [a, b] = if ¬ a = 0 then a else b := by
  unfold orM
  simp only [List.foldr_cons, List.foldr_nil]
  by_cases h : b = 0
  . subst h; simp
  . simp [h]
theorem exLt_iff (a b : Ext) : (0 <= orM [cmpM a.jb b.jb, cmpM a.pc b.pc]) ↔ ¬ extLt a b = true := by
  rw [orM2]
  unfold extLt cmpM
  rw [decide_eq_true_eq]
  split <;> split <;> omega
structure ValidR (r : Req) : Prop where
  j : validJ r.sv r.jobs = true
  late : 0 <= r.late /\ r.late < r.jobs.length
  obj : 0 <= r.obj /\ r.obj <= 4398046511104
  causes : 0 <= r.causes /\ r.causes <= 6
  ex : ∀ i : Nat, i < r.ex.length -> ((0 <= (lat r.ex i).jb /\ (lat r.ex i).jb < r.jobs.length) /\ 0 <= (lat r.ex i).ca /\ (lat r.ex i).ca < r.causes) /\ (isRemM r (lat r.ex i) = true \/ isWorkM r (lat r.ex i) = true)
  ord : ∀ i : Nat, i + 1 < r.ex.length -> extLt (lat r.ex i) (lat r.ex ((i + 1 : Nat) : Int)) = true
theorem validR_iff (r : Req) : validR r = true ↔ ValidR r := by
  unfold validR
  rw [Bool.and_eq_true, Bool.and_eq_true, decide_eq_true_eq]
  unfold extsOk
  rw [List.all_eq_true]
  constructor
  . rintro ⟨⟨h1, h2⟩, h3⟩
    refine ⟨h1, by omega, h2.2.1, h2.2.2, fun i hi => ?_, fun i hi => ?_⟩
    . have := h3 i (by simpa using hi)
      rw [Bool.and_eq_true] at this
      have := this.1
      unfold extOk at this
      rw [Bool.and_eq_true, decide_eq_true_eq, Bool.or_eq_true] at this
      exact ⟨⟨by omega, by omega⟩, this.2⟩
    . have := h3 (i + 1) (by simpa using hi)
      rw [Bool.and_eq_true, Bool.or_eq_true, decide_eq_true_eq] at this
      have := this.2.resolve_left (by omega)
      rwa [show (((i + 1 : Nat) : Int) - 1) = (i : Int) by omega] at this
  . intro h
    refine ⟨⟨h.j, by have := h.late; have := h.obj; have := h.causes; omega⟩, fun i hi => ?_⟩
    have hi : i < r.ex.length := by simpa using hi
    rw [Bool.and_eq_true, Bool.or_eq_true, decide_eq_true_eq]
    constructor
    . have := h.ex i hi
      unfold extOk
      rw [Bool.and_eq_true, decide_eq_true_eq, Bool.or_eq_true]
      exact ⟨by omega, this.2⟩
    . rcases i with _ | i
      . exact .inl rfl
      . right
        have := h.ord i hi
        rwa [show (((i + 1 : Nat) : Int) - 1) = (i : Int) by omega]
def keyX (x : Ext) : Int := x.jb * 7 + x.pc + 1
theorem ValidR.pc {r : Req} (h : ValidR r) {i : Nat} (hi : i < r.ex.length) : -1 <= (lat r.ex i).pc /\ (lat r.ex i).pc <= 5 := by
  obtain ⟨⟨h1, _⟩, h2⟩ := h.ex i hi
  rcases h2 with h2 | h2
  . unfold isRemM at h2
    rw [decide_eq_true_eq] at h2
    omega
  . unfold isWorkM at h2
    rw [decide_eq_true_eq] at h2
    have := ((job_ok h.j).2.2 _ (lat_mem (xs := r.jobs) (i := (lat r.ex (i : Int)).jb) ⟨h1.1, h1.2⟩)).1
    omega
theorem ValidR.key {r : Req} (h : ValidR r) : ∀ i : Nat, i < r.ex.length -> (i : Int) <= keyX (lat r.ex i)
  | 0, hi => by
    have := (h.ex 0 hi).1
    have := h.pc hi
    unfold keyX; omega
  | i + 1, hi => by
    have ih := ValidR.key h i (by omega)
    have h1 := h.ord i hi
    have p1 := h.pc (i := i) (by omega)
    have p2 := h.pc hi
    unfold extLt at h1
    rw [decide_eq_true_eq] at h1
    unfold keyX at *
    omega
theorem ValidR.len {r : Req} (h : ValidR r) : r.ex.length <= 168 := by
  rcases Nat.lt_or_ge 168 r.ex.length with h1 | h1
  . have h2 := h.key 168 h1
    have h3 := (h.ex 168 h1).1
    have h4 := h.pc h1
    have h5 := (job_ok h.j).1
    unfold keyX at h2
    omega
  . exact h1
theorem ValidR.mem {r : Req} (h : ValidR r) {x : Ext} (hx : x ∈ r.ex) : ((0 <= x.jb /\ x.jb < r.jobs.length) /\ 0 <= x.ca /\ x.ca < r.causes) /\ (isRemM r x = true \/ isWorkM r x = true) := by
  obtain ⟨i, hi, rfl⟩ := List.mem_iff_getElem.1 hx
  have := h.ex i hi
  rwa [lat_get hi] at this
theorem okAll_app {js : List JW} {a b : List Chg} (h1 : okAll js a) (h2 : okAll (a.foldl applyC js) b) : okAll js (a ++ b) := by
  induction a generalizing js with
  | nil => exact h2
  | cons c a ih => exact ⟨h1.1, ih h1.2 h2⟩
structure Sh (r : Req) (g : Bool) (js : List JW) : Prop where
  len : js.length = r.jobs.length
  wk : ∀ k : Nat, k < r.jobs.length -> (lat js k).wk.length = (lat r.jobs k).wk.length
  gone : g = false -> ∀ k : Nat, k < r.jobs.length -> (lat js k).gone = false
theorem lat_setI {α : Type} [Inhabited α] {l : List α} {i : Int} {k : Nat} {x : α} (hi : 0 <= i /\ i < l.length) : lat (l.set i.toNat x) (k : Int) = if (k : Int) = i then x else lat l (k : Int) := lat_set hi
theorem ok_upd {r : Req} : ∀ {l : List Ext} {js : List JW}, Sh r false js -> (∀ x ∈ l, (0 <= x.jb /\ x.jb < r.jobs.length) /\ 0 <= x.pc /\ x.pc < (lat r.jobs x.jb).wk.length) -> okAll js (l.map .upd) /\ Sh r false ((l.map Chg.upd).foldl applyC js)
  | [], js, h, _ => ⟨trivial, h⟩
  | x :: l, js, h, hx => by
    obtain ⟨h1, h2⟩ := hx x (by simp)
    have e : ((x.jb.toNat : Nat) : Int) = x.jb := Int.toNat_of_nonneg h1.1
    have w := h.wk x.jb.toNat (by omega)
    have g := h.gone rfl x.jb.toNat (by omega)
    rw [e] at w g
    have hs : Sh r false (applyC js (.upd x)) := by
      refine ⟨by rw [applyC_len, h.len], fun k hk => ?_, fun _ k hk => ?_⟩
      . show (lat (js.set _ _) (k : Int)).wk.length = _
        rw [lat_setI ⟨h1.1, by rw [h.len]; exact h1.2⟩]
        split
        . rename_i e2
          rw [List.length_set, w, e2]
        . exact h.wk k hk
      . show (lat (js.set _ _) (k : Int)).gone = _
        rw [lat_setI ⟨h1.1, by rw [h.len]; exact h1.2⟩]
        split
        . rfl
        . exact h.gone rfl k hk
    have ih := ok_upd (l := l) hs fun y hy => hx y (List.mem_cons_of_mem _ hy)
    exact ⟨⟨⟨⟨h1.1, by rw [h.len]; exact h1.2⟩, g, h2.1, by omega⟩, ih.1⟩, ih.2⟩
theorem ok_rem {r : Req} : ∀ {l : List Ext} {js : List JW}, Sh r true js -> (∀ x ∈ l, 0 <= x.jb /\ x.jb < r.jobs.length) -> okAll js (l.map fun x => .rem x.jb)
  | [], js, h, _ => trivial
  | x :: l, js, h, hx => by
    have h1 := hx x (by simp)
    have hs : Sh r true (applyC js (.rem x.jb)) := by
      refine ⟨by rw [applyC_len, h.len], fun k hk => ?_, fun e => by cases e⟩
      show (lat (js.set _ _) (k : Int)).wk.length = _
      rw [lat_setI ⟨h1.1, by rw [h.len]; exact h1.2⟩]
      split
      . rename_i e2
        have := h.wk k hk
        rw [e2] at this ⊢
        exact this
      . exact h.wk k hk
    exact ⟨⟨h1.1, by rw [h.len]; exact h1.2⟩, ok_rem (l := l) hs fun y hy => hx y (List.mem_cons_of_mem _ hy)⟩
theorem sh0 (r : Req) : Sh r false (r.jobs.map fullJ) := ⟨by simp, fun k hk => by rw [lat_map hk]; rfl, fun _ k hk => by rw [lat_map hk]; rfl⟩
theorem ValidR.ok {r : Req} (h : ValidR r) (p : Int) : okAll (r.jobs.map fullJ) (chgM r.ex p) := by
  have hu := ok_upd (l := r.ex.filter fun x => decide (¬ hasB p x.ca /\ ¬ x.pc = -1)) (sh0 r) fun x hx => by
    obtain ⟨hx, h2⟩ := List.mem_filter.1 hx
    have h2 := of_decide_eq_true h2
    obtain ⟨h3, h4⟩ := h.mem hx
    refine ⟨h3.1, ?_⟩
    rcases h4 with h4 | h4
    . unfold isRemM at h4
      rw [decide_eq_true_eq] at h4
      exact absurd h4.1 h2.2
    . unfold isWorkM at h4
      rw [decide_eq_true_eq] at h4
      omega
  exact okAll_app hu.1 (ok_rem ⟨hu.2.len, hu.2.wk, fun e => by cases e⟩ fun x hx => (h.mem (List.mem_filter.1 hx).1).1.1)
end Go.Lat
namespace Go.Lat
open Go.RowKit
theorem runN_bound {sv : List Int} {jobs : List Job} : ∀ (n c : Nat) (s : RunS), RInv sv jobs c s -> ∀ d ∈ runN sv jobs n s, (0 <= d.j /\ d.j < jobs.length) /\ 0 <= d.v.en /\ d.v.en <= 163827240599552
  | 0, c, s, _, d, hd => by cases hd
  | n + 1, c, s, h, d, hd => by
    by_cases hl : leastS s.ss < 0
    . rw [runN_neg hl] at hd; cases hd
    . rw [runN_pos hl] at hd
      obtain ⟨i, hi, hil, hid, -⟩ := (leastS_spec s.ss).resolve_left (fun h => hl (by omega))
      rw [hi] at hd
      have so := h.step hil hid
      rcases List.mem_cons.1 hd with rfl | hd
      . have h1 := so.lt
        have h2 := so.vis
        have h3 := so.tm
        have h4 := h.left
        have h5 := left_init h.v
        have h6 := so.less
        have hc : ((c : Nat) : Int) <= 143 := by omega
        exact ⟨⟨by show (0 : Int) <= i; omega, by show (i : Int) < _; omega⟩, by show 0 <= (visM sv jobs s i).en; omega, by show (visM sv jobs s i).en <= _; omega⟩
      . exact runN_bound n (c + 1) _ so.next d hd
theorem runM_bound {sv : List Int} {jobs : List Job} (h : validJ sv jobs = true) : ∀ d ∈ runM sv jobs, (0 <= d.j /\ d.j < jobs.length) /\ 0 <= d.v.en /\ d.v.en <= 163827240599552 := runN_bound _ 0 _ (RInv.init h)
theorem endM_bound {l : List Dn} {j : Int} {b : Int} (h : ∀ d ∈ l, 0 <= d.v.en /\ d.v.en <= b) : ∀ {o : Int}, 0 <= o /\ o <= b -> 0 <= endM l j o /\ endM l j o <= b := by
  unfold endM
  induction l with
  | nil => exact fun h => h
  | cons d l ih =>
    intro o ho
    rw [List.foldl_cons]
    refine ih (fun e he => h e (by simp [he])) ?_
    split
    . exact h d (by simp)
    . exact ho
theorem finishM_bound (sv : List Int) (jobs : List Job) (j : Int) : 0 <= (finishM sv jobs j).1 /\ (finishM sv jobs j).1 <= 163827240599552 := by
  unfold finishM
  split
  . rename_i h
    have := ((job_ok h.1).2.2 _ (lat_mem (xs := jobs) (i := j) ⟨h.2.1, by omega⟩)).1
    exact endM_bound (fun d hd => (runM_bound h.1 d hd).2) (by omega)
  . exact ⟨by omega, by omega⟩
def wkStep (p k : Int) (wk : List Ld) (x : Ext) : List Ld := if x.jb = k /\ ¬ hasB p x.ca /\ ¬ x.pc = -1 then wk.set x.pc.toNat ⟨(lat wk x.pc).st, x.ba⟩ else wk
def wkF (p k : Int) (l : List Ext) (wk : List Ld) : List Ld := l.foldl (wkStep p k) wk
def goneF (p k : Int) (l : List Ext) : Bool := l.any fun x => decide (x.jb = k /\ ¬ hasB p x.ca /\ x.pc = -1)
def jobW (r : Req) (p k : Int) : Job := ⟨(lat r.jobs k).ar, if goneF p k r.ex = true then [] else wkF p k r.ex (lat r.jobs k).wk⟩
theorem upd_lat {p : Int} {n : Nat} {k : Nat} : ∀ {l : List Ext} {js : List JW}, js.length = n -> (∀ x ∈ l, 0 <= x.jb /\ x.jb < n) -> (lat js k).gone = false -> lat ((updM l p).foldl applyC js) (k : Int) = ⟨(lat js k).ar, false, wkF p k l (lat js k).wk⟩
  | [], js, _, _, hg => by
    show lat js (k : Int) = ⟨_, false, (lat js (k : Int)).wk⟩
    rw [<- hg]
  | x :: l, js, hl, hx, hg => by
    have h1 := hx x (by simp)
    have hx' : ∀ y ∈ l, 0 <= y.jb /\ y.jb < n := fun y hy => hx y (List.mem_cons_of_mem _ hy)
    unfold wkF
    rw [List.foldl_cons]
    by_cases hc : ¬ hasB p x.ca /\ ¬ x.pc = -1
    . have e : updM (x :: l) p = .upd x :: updM l p := by unfold updM; rw [List.filter_cons_of_pos (by simpa using hc)]; rfl
      rw [e, List.foldl_cons]
      have e2 : lat (applyC js (.upd x)) (k : Int) = if (k : Int) = x.jb then ⟨(lat js x.jb).ar, false, (lat js x.jb).wk.set x.pc.toNat ⟨(lat (lat js x.jb).wk x.pc).st, x.ba⟩⟩ else lat js (k : Int) := lat_setI ⟨h1.1, by rw [hl]; exact h1.2⟩
      have ih := upd_lat (p := p) (k := k) (js := applyC js (.upd x)) (by rw [applyC_len, hl]) hx' (by rw [e2]; split; rfl; exact hg)
      rw [ih, e2]
      by_cases ek : (k : Int) = x.jb
      . rw [if_pos ek]
        unfold wkStep
        rw [if_pos ⟨ek.symm, hc⟩, ek]; rfl
      . rw [if_neg ek]
        unfold wkStep
        rw [if_neg (fun h => ek h.1.symm)]; rfl
    . have e : updM (x :: l) p = updM l p := by unfold updM; rw [List.filter_cons_of_neg (by simpa using hc)]
      rw [e, upd_lat hl hx' hg]
      unfold wkStep
      rw [if_neg (fun h => hc h.2)]; rfl
theorem rem_lat {p : Int} {n : Nat} {k : Nat} : ∀ {l : List Ext} {js : List JW}, js.length = n -> (∀ x ∈ l, 0 <= x.jb /\ x.jb < n) -> lat ((remM l p).foldl applyC js) (k : Int) = ⟨(lat js k).ar, (lat js k).gone || goneF p k l, (lat js k).wk⟩
  | [], js, _, _ => by
    show lat js (k : Int) = ⟨_, (lat js (k : Int)).gone || false, _⟩
    rw [Bool.or_false]
  | x :: l, js, hl, hx => by
    have h1 := hx x (by simp)
    have hx' : ∀ y ∈ l, 0 <= y.jb /\ y.jb < n := fun y hy => hx y (List.mem_cons_of_mem _ hy)
    have eg : goneF p k (x :: l) = (decide (x.jb = (k : Int) /\ ¬ hasB p x.ca /\ x.pc = -1) || goneF p k l) := rfl
    rw [eg]
    by_cases hc : ¬ hasB p x.ca /\ x.pc = -1
    . have e : remM (x :: l) p = .rem x.jb :: remM l p := by unfold remM; rw [List.filter_cons_of_pos (by simpa using hc)]; rfl
      rw [e, List.foldl_cons]
      have e2 : lat (applyC js (.rem x.jb)) (k : Int) = if (k : Int) = x.jb then ⟨(lat js x.jb).ar, true, (lat js x.jb).wk⟩ else lat js (k : Int) := lat_setI ⟨h1.1, by rw [hl]; exact h1.2⟩
      rw [rem_lat (js := applyC js (.rem x.jb)) (by rw [applyC_len, hl]) hx', e2]
      by_cases ek : (k : Int) = x.jb
      . rw [if_pos ek, ek]
        simp [hc]
      . rw [if_neg ek]
        have : ¬ x.jb = (k : Int) := fun h => ek h.symm
        simp [this]
    . have e : remM (x :: l) p = remM l p := by unfold remM; rw [List.filter_cons_of_neg (by simpa using hc)]
      have e3 : decide (x.jb = (k : Int) /\ ¬ hasB p x.ca /\ x.pc = -1) = false := decide_eq_false fun h => hc h.2
      rw [e, rem_lat hl hx', e3, Bool.false_or]
theorem withM_len (r : Req) (p : Int) : (withM r p).length = r.jobs.length := by unfold withM; rw [List.length_map, foldC_len, List.length_map]
theorem ValidR.with_lat {r : Req} (h : ValidR r) (p : Int) {k : Nat} (hk : k < r.jobs.length) : lat (withM r p) (k : Int) = jobW r p k := by
  have hx : ∀ x ∈ r.ex, 0 <= x.jb /\ x.jb < (r.jobs.length : Int) := fun x hx => (h.mem hx).1.1
  have hk0 : lat (r.jobs.map fullJ) (k : Int) = fullJ (lat r.jobs k) := lat_map hk
  unfold withM
  rw [lat_map (by rw [foldC_len, List.length_map]; exact hk)]
  unfold chgM
  rw [List.foldl_append, rem_lat (n := r.jobs.length) (by rw [foldC_len, List.length_map]) hx, upd_lat (n := r.jobs.length) (by simp) hx (by rw [hk0]; rfl), hk0]
  unfold jobW toJob
  simp only [Bool.false_or]
  rfl
theorem wkF_ok {r : Req} (h : ValidR r) (p : Int) {k : Nat} (hk : k < r.jobs.length) : ∀ {l : List Ext} {wk : List Ld}, (∀ x ∈ l, x ∈ r.ex) -> wk.length = (lat r.jobs k).wk.length -> (∀ w ∈ wk, 0 <= w.st /\ w.st <= (r.sv.length : Int) - 1 /\ 0 <= w.tm /\ w.tm <= 1099511627776) →
    (wkF p k l wk).length = (lat r.jobs k).wk.length /\ ∀ w ∈ wkF p k l wk, 0 <= w.st /\ w.st <= (r.sv.length : Int) - 1 /\ 0 <= w.tm /\ w.tm <= 1099511627776
  | [], wk, _, h1, h2 => ⟨h1, h2⟩
  | x :: l, wk, hx, h1, h2 => by
    have hx' : ∀ y ∈ l, y ∈ r.ex := fun y hy => hx y (List.mem_cons_of_mem _ hy)
    show (wkF p k l (wkStep p k wk x)).length = _ /\ ∀ w ∈ wkF p k l (wkStep p k wk x), _
    unfold wkStep
    split
    . rename_i hc
      have hm := (h.mem (hx x (by simp))).2
      have hw : isWorkM r x = true := hm.resolve_left fun hm => by
        unfold isRemM at hm
        rw [decide_eq_true_eq] at hm
        exact hc.2.2 hm.1
      unfold isWorkM at hw
      rw [decide_eq_true_eq, hc.1] at hw
      refine wkF_ok h p hk hx' (by rw [List.length_set, h1]) fun w hw' => ?_
      rcases List.mem_or_eq_of_mem_set hw' with hw' | rfl
      . exact h2 w hw'
      . have := h2 _ (lat_mem (xs := wk) (i := x.pc) ⟨hw.1.1, by omega⟩)
        exact ⟨this.1, this.2.1, hw.2.1.1, hw.2.1.2⟩
    . exact wkF_ok h p hk hx' h1 h2
theorem ValidR.with_ok {r : Req} (h : ValidR r) (p : Int) : validJ r.sv (withM r p) = true := by
  obtain ⟨h1, h2, h3⟩ := job_ok h.j
  unfold validJ
  rw [Bool.and_eq_true, Bool.and_eq_true, decide_eq_true_eq, List.all_eq_true, List.all_eq_true, withM_len]
  refine ⟨⟨h1, fun n hn => decide_eq_true (h2 n hn)⟩, fun x hx => ?_⟩
  obtain ⟨k, hk, rfl⟩ := List.mem_iff_getElem.1 hx
  rw [withM_len] at hk
  have := h.with_lat p hk
  rw [lat_get (by rw [withM_len]; exact hk)] at this
  rw [this]
  have hj := h3 _ (lat_mem (xs := r.jobs) (i := (k : Int)) ⟨by omega, by omega⟩)
  obtain ⟨w1, w2⟩ := wkF_ok h p hk (l := r.ex) (fun x hx => hx) rfl hj.2
  unfold jobOk jobW
  rw [Bool.and_eq_true, decide_eq_true_eq, List.all_eq_true]
  simp only
  split
  . exact ⟨⟨hj.1.1, hj.1.2.1, by simp⟩, fun w hw => by cases hw⟩
  . exact ⟨⟨hj.1.1, hj.1.2.1, by rw [w1]; exact hj.1.2.2⟩, fun w hw => decide_eq_true (w2 w hw)⟩
theorem ValidR.late2 {r : Req} (h : ValidR r) (p : Int) : (finishM r.sv (withM r p) r.late).2 = 0 := by
  unfold finishM
  rw [if_pos ⟨h.with_ok p, h.late.1, by rw [withM_len]; have := h.late.2; omega⟩]
end Go.Lat
namespace Go.Lat
open Go.RowKit
theorem bsGo_range (l : List Rg) (x : Rg) : ∀ (n : Nat) (i j : Int), 0 <= i -> i <= j -> i <= bsGo l x n i j /\ bsGo l x n i j <= j
  | 0, i, j, h0, h => ⟨Int.le_refl _, h⟩
  | n + 1, i, j, h0, h => by
    unfold bsGo
    split
    . rename_i hij
      have ht : (i + j).tdiv 2 = (i + j) / 2 := Int.tdiv_eq_ediv_of_nonneg (by omega)
      rw [ht]
      split
      . have := bsGo_range l x n ((i + j) / 2 + 1) j (by omega) (by omega)
        omega
      . have := bsGo_range l x n i ((i + j) / 2) h0 (by omega)
        omega
    . exact ⟨Int.le_refl _, h⟩
theorem bsI_nonneg (l : List Rg) (x : Rg) : 0 <= bsI l x := (bsGo_range l x _ 0 l.length (by omega) (by omega)).1
theorem bsGo_fuel (l : List Rg) (x : Rg) : ∀ (n m : Nat) (i j : Int), 0 <= i -> j - i < n -> j - i < m -> bsGo l x n i j = bsGo l x m i j
  | 0, m, i, j, h0, h1, h2 => by
    cases m with
    | zero => rfl
    | succ m => unfold bsGo; rw [if_neg (by omega)]
  | n + 1, 0, i, j, h0, h1, h2 => by unfold bsGo; rw [if_neg (by omega)]
  | n + 1, m + 1, i, j, h0, h1, h2 => by
    unfold bsGo
    split
    . rename_i hij
      have ht : (i + j).tdiv 2 = (i + j) / 2 := Int.tdiv_eq_ediv_of_nonneg (by omega)
      rw [ht]
      split
      . exact bsGo_fuel l x n m _ _ (by omega) (by omega) (by omega)
      . exact bsGo_fuel l x n m _ _ (by omega) (by omega) (by omega)
    . rfl
theorem half_wrap {n : Int} (h : 0 <= n /\ n <= 9223372036854775807) : IntKind.i64.wrap ((IntKind.u64.wrap n).fdiv (2 ^ (min (1 : Int).toNat 64))) = n.tdiv 2 := by
  have h1 : IntKind.u64.wrap n = n := IntWalk.u64_in n ⟨h.1, by omega⟩
  have ht : n.tdiv 2 = n / 2 := Int.tdiv_eq_ediv_of_nonneg h.1
  rw [h1, ht]
  have h2 : n.fdiv (2 ^ (min (1 : Int).toNat 64)) = n / 2 := by
    show n.fdiv 2 = n / 2
    exact Int.fdiv_eq_ediv_of_nonneg _ (by omega)
  rw [h2]
  exact wrapI (by unfold inI; omega)
structure RgsOk (l : List Rg) : Prop where
  ok : ∀ i : Nat, i < l.length -> (0 <= (lat l i).op /\ (lat l i).op <= 11) /\ (0 <= (lat l i).ver /\ (lat l i).ver <= 9) /\ (1 <= (lat l i).nu /\ (lat l i).nu <= 1000000) /\ (0 <= (lat l i).le /\ (lat l i).le <= (lat l i).mo) /\ (lat l i).mo <= 4398046511104
  ord : ∀ i : Nat, i + 1 < l.length -> cmpR (lat l i) (lat l ((i + 1 : Nat) : Int)) < 0
theorem validRgs_iff (l : List Rg) : validRgs l = true ↔ RgsOk l := by
  unfold validRgs
  rw [List.all_eq_true]
  constructor
  . intro h
    refine ⟨fun i hi => ?_, fun i hi => ?_⟩
    . have := h i (by simpa using hi)
      rw [Bool.and_eq_true] at this
      exact of_decide_eq_true this.1
    . have := h (i + 1) (by simpa using hi)
      rw [Bool.and_eq_true, Bool.or_eq_true, decide_eq_true_eq, decide_eq_true_eq] at this
      have := this.2.resolve_left (by omega)
      rwa [show (((i + 1 : Nat) : Int) - 1) = (i : Int) by omega] at this
  . intro h i hi
    have hi : i < l.length := by simpa using hi
    rw [Bool.and_eq_true, Bool.or_eq_true, decide_eq_true_eq, decide_eq_true_eq]
    refine ⟨decide_eq_true (h.ok i hi), ?_⟩
    rcases i with _ | i
    . exact .inl rfl
    . right
      have := h.ord i hi
      rwa [show (((i + 1 : Nat) : Int) - 1) = (i : Int) by omega]
theorem cmpR_lt (a b : Rg) : cmpR a b < 0 ↔ a.op < b.op \/ a.op = b.op /\ a.ver < b.ver := by
  unfold cmpR
  rw [orM2]
  unfold cmpM
  split <;> split <;> omega
theorem cmpR_eq (a b : Rg) : cmpR a b = 0 ↔ a.op = b.op /\ a.ver = b.ver := by
  unfold cmpR
  rw [orM2]
  unfold cmpM
  split <;> split <;> omega
end Go.Lat
namespace Go.Lat
def exR : Req := ⟨[1], [⟨0, [⟨0, 5⟩]⟩, ⟨2, [⟨0, 3⟩]⟩], 1, 2, 2, [⟨0, 0, 0, 1, 0, 0⟩, ⟨1, 0, 1, 2, 0, 0⟩]⟩
def staM (sv : A3) (lone : Bool) : Int := if lone = true then 1 else 1 + pickM sv.x2 3
def atM (jobs : List (Vector Int 6)) (i : Nat) : Int := ((jobs.take i).map fun j => pickM (vat j 0) 5).sum
def manyM (j : Vector Int 6) (lone : Bool) : Int := if lone = true then min (pickM (vat j 1) 4) 1 else pickM (vat j 1) 4
def ldM (n : Int) (j : Vector Int 6) (k : Nat) : Ld := ⟨pickM (vat j (2 + k)) n, pickM ((vat j (2 + k)).tdiv 3) 9⟩
def wkM (n : Int) (j : Vector Int 6) (m : Nat) : List Ld := (List.range m).map (ldM n j)
def jobM (jobs : List (Vector Int 6)) (n : Int) (lone : Bool) (i : Nat) : Job := ⟨atM jobs (i + 1), wkM n (lat jobs i) (manyM (lat jobs i) lone).toNat⟩
def jobsM0 (jobs : List (Vector Int 6)) (n : Int) (lone : Bool) : List Job := (List.range (min jobs.length 6)).map (jobM jobs n lone)
def jobsM (jobs : List (Vector Int 6)) (n : Int) (lone : Bool) : List Job := if (jobsM0 jobs n lone).length = 0 then [⟨0, [⟨0, 5⟩]⟩] else jobsM0 jobs n lone
def exX (jobs : List Job) (causes : Int) (e : A3) (i k : Int) : Ext := if 0 <= k then ⟨i, k, pickM e.x1 causes, pickM e.x2 ((lat (lat jobs i).wk k).tm + 1), pickM (e.x1.tdiv 5) 3, pickM (e.x1.tdiv 15) 2⟩ else ⟨i, k, pickM e.x1 causes, 0, 0, 0⟩
def exAct (late : Int) (e : A3) (i k : Int) : Prop := if k = -1 then pickM e.x0 7 = 0 /\ ¬ i = late else 0 < pickM e.x0 3
instance (late : Int) (e : A3) (i k : Int) : Decidable (exAct late e i k) := by unfold exAct; infer_instance
def exStep (jobs : List Job) (causes late : Int) (ex : List A3) (i : Int) (s : List Ext × Nat) (k : Int) : List Ext × Nat :=
  if s.2 < ex.length then ((if exAct late (lat ex (s.2 : Int)) i k then s.1 ++ [exX jobs causes (lat ex (s.2 : Int)) i k] else s.1), s.2 + 1) else s
def exJob (jobs : List Job) (causes late : Int) (ex : List A3) (s : List Ext × Nat) (i : Nat) : List Ext × Nat := ((List.range ((lat jobs (i : Int)).wk.length + 1)).map fun k : Nat => (k : Int) - 1).foldl (exStep jobs causes late ex i) s
def exsM (jobs : List Job) (causes late : Int) (ex : List A3) : List Ext := if 0 < causes then ((List.range jobs.length).foldl (exJob jobs causes late ex) ([], 0)).1 else []
def madeM (sv : A3) (jobs : List (Vector Int 6)) (ex : List A3) (late obj : Int) (lone : Bool) : Req :=
  ⟨(List.range (staM sv lone).toNat).map fun i : Nat => 1 + pickM (lat [sv.x0, sv.x1, sv.x2] (i : Int)) 2, jobsM jobs (staM sv lone) lone, pickM late (jobsM jobs (staM sv lone) lone).length, pickM obj 30, pickM (obj.tdiv 30) 5,
    exsM (jobsM jobs (staM sv lone) lone) (pickM (obj.tdiv 30) 5) (pickM late (jobsM jobs (staM sv lone) lone).length) ex⟩
structure CasOk (c : Cas) : Prop where
  jl : c.jobs.length <= 9223372036854775807
  el : c.ex.length <= 9223372036854775807
  i : (inI c.sv.x0 /\ inI c.sv.x1 /\ inI c.sv.x2) /\ inI c.late /\ inI c.obj
  v : (∀ j ∈ c.jobs, ∀ k, inI (vat j k)) /\ ∀ e ∈ c.ex, inI e.x0 /\ inI e.x1 /\ inI e.x2
def madeC (c : Cas) (lone : Bool) : Req := madeM c.sv c.jobs c.ex c.late c.obj lone
def touch (out : List Bool) (wk : List Ld) : Bool := wk.any fun w => lat out w.st
def mark (out : List Bool) (wk : List Ld) : List Bool := wk.foldl (fun o w => o.set w.st.toNat true) out
def joinStep (out : List Bool) (j : Job) : List Bool := if touch out j.wk = true then mark out j.wk else out
def joinRound (jobs : List Job) (out : List Bool) : List Bool := jobs.foldl joinStep out
def joinedM (r : Req) : List Bool := (List.range r.sv.length).foldl (fun o _ => joinRound r.jobs o) (mark (List.replicate r.sv.length false) (lat r.jobs r.late).wk)
end Go.Lat
namespace Go.Lat
open Go.ChangeShapes Go.WideShapes Go.ChangeAt Go.RowKit
open Go.Proofs
section
variable {H : Type} {enc : TypeId × Value -> H} {w : World} {base : Nat} {spare : Nat -> Bool} {held : Bool}
theorem c24_3 : Try.prog.cellsOf 3 = 1 := by kernel_rfl
theorem c24_27 : Try.prog.cellsOf 27 = 3 := by kernel_rfl
theorem c24_28 : Try.prog.cellsOf 28 = 1 := by kernel_rfl
theorem c24_29 : Try.prog.cellsOf 29 = 1 := by kernel_rfl
theorem c24_93 : Try.prog.cellsOf 93 = 6 := by kernel_rfl
theorem c24_31 : Try.prog.cellsOf 31 = 7 := by kernel_rfl
theorem cells_slice {t e : TypeId} {fuel : Nat} {cs : List Value} {x : DataW H × List MemPlace} (ht : Try.prog.underlying t = some (.slice e)) (h : DataW.trod enc Try.prog w base spare held fuel t cs = some x) :
    ∃ v, cs = [v] /\ (∃ a len cap, v = .slice a len cap) /\ DataW.Trod enc Try.prog w base spare held t v x.1 x.2 := by
  rcases Go.Deep.open_slice ht h with ⟨rfl, rfl⟩ | ⟨a, len, cap, m, n, D, Pl, rfl, _, _, _, _, rfl, _⟩
  . exact ⟨_, rfl, ⟨_, _, _, rfl⟩, fuel, h⟩
  . exact ⟨_, rfl, ⟨_, _, _, rfl⟩, fuel, h⟩
theorem slice_le {t e : TypeId} {v : Value} {d : DataW H} {ps : List MemPlace} {n : Nat} {cs : List AV} {m : MM} (ht : Try.prog.underlying t = some (.slice e)) (h : DataW.Trod enc Try.prog w base spare held t v d ps) (hv : VR [] m (.lst true n cs) v) : n <= 9223372036854775807 := by
  obtain ⟨fuel, hf⟩ := h
  simp only [VR] at hv
  rcases hv with ⟨rfl, -⟩ | ⟨a, cap, vs, hle, rfl, -⟩
  . omega
  . rcases Go.Deep.open_slice ht hf with ⟨hcs, -⟩ | ⟨a', len, cap', k, q, D, Pl, hcs, hb, hl, hm, -⟩
    . simp [Value.cells] at hcs
    . simp [Value.cells] at hcs
      obtain ⟨-, rfl, rfl⟩ := hcs
      unfold maxLen at hm
      omega
def vecL (n : Nat) (r : List Int) : Vector Int n := Vector.ofFn fun i : Fin n => r.getD i.val 0
theorem vecL_toList {n : Nat} {r : List Int} (h : r.length = n) : (vecL n r).toList = r := by
  unfold vecL
  apply List.ext_getElem (by simp [h])
  intro i h1 h2
  simp [h2]
theorem vecL_inI {n : Nat} {r : List Int} (h : r.length = n) (hr : ∀ z ∈ r, inI z) (k : Nat) : inI (vat (vecL n r) k) := by
  unfold vat
  rw [vecL_toList h, List.getD_eq_getElem?_getD]
  rcases Nat.lt_or_ge k r.length with hk | hk
  . rw [List.getElem?_eq_getElem hk]; exact hr _ (List.getElem_mem hk)
  . rw [List.getElem?_eq_none hk]; unfold inI; show (-9223372036854775808 : Int) <= 0 /\ (0 : Int) <= 9223372036854775807; omega
theorem encInts (r : List Int) : zYy zYx r = r.map fun z => AV.int .i64 z := by
  induction r with
  | nil => rfl
  | cons z r ih =>
    show zYx z ++ zYy zYx r = _
    rw [ih]; rfl
theorem encVecs {n : Nat} : ∀ {L : List (List Int)}, (∀ r ∈ L, r.length = n) -> zYy (fun v : Vector Int n => zYy zYx v.toList) (L.map (vecL n)) = L.flatten.map fun z => AV.int .i64 z
  | [], _ => rfl
  | r :: L, h => by
    show zYy zYx (vecL n r).toList ++ zYy (fun v : Vector Int n => zYy zYx v.toList) (L.map (vecL n)) = _
    rw [vecL_toList (h r List.mem_cons_self), encVecs (fun x hx => h x (List.mem_cons_of_mem _ hx)), encInts, List.flatten_cons, List.map_append]
theorem open_v6 {v : Value} {d : DataW H} {ps : List MemPlace} (hv : ∃ a len cap, v = .slice a len cap) (h : DataW.Trod enc Try.prog w base spare held 28 v d ps) :
    ∃ x : List (Vector Int 6), x.length <= 9223372036854775807 /\ (∀ y ∈ x, ∀ k, inI (vat y k)) /\ VR [] (nest (memOf w)) (.lst true x.length (zYy eV6 x)) v := by
  obtain ⟨L, h1, h2⟩ := open_flat Try.underlying28 c24_93 (by omega) hv (intCells_arr Try.underlying93 Try.underlying3 c24_3 c24_93) h
  have hx : VR [] (nest (memOf w)) (.lst true (L.map (vecL 6)).length (zYy eV6 (L.map (vecL 6)))) v := by
    rw [List.length_map]
    show VR [] _ (.lst true L.length (zYy (fun v : Vector Int 6 => zYy zYx v.toList) (L.map (vecL 6)))) v
    rw [encVecs fun r hr => (h1 r hr).1]; exact h2
  refine ⟨L.map (vecL 6), slice_le Try.underlying28 h hx, fun y hy k => ?_, hx⟩
  obtain ⟨r, hr, rfl⟩ := List.mem_map.1 hy
  exact vecL_inI (h1 r hr).1 (h1 r hr).2 k
theorem open_a3s {v : Value} {d : DataW H} {ps : List MemPlace} (hv : ∃ a len cap, v = .slice a len cap) (h : DataW.Trod enc Try.prog w base spare held 29 v d ps) :
    ∃ x : List A3, x.length <= 9223372036854775807 /\ (∀ y ∈ x, inI y.x0 /\ inI y.x1 /\ inI y.x2) /\ VR [] (nest (memOf w)) (.lst true x.length (zYy e27 x)) v := by
  obtain ⟨L, h1, h2⟩ := open_flat Try.underlying29 c24_27 (by omega) hv (intCells_arr Try.underlying27 Try.underlying3 c24_3 c24_27) h
  have e : zYy e27 (L.map fun r => (⟨r.getD 0 0, r.getD 1 0, r.getD 2 0⟩ : A3)) = L.flatten.map fun z => AV.int .i64 z := by
    clear h2
    induction L with
    | nil => rfl
    | cons r L ih =>
      obtain ⟨a, -⟩ := h1 r (by simp)
      match r, a with
      | [y0, y1, y2], _ =>
        rw [List.map_cons, List.flatten_cons, List.map_append, <- ih (fun r hr => h1 r (by simp [hr]))]
        rfl
  have hx : VR [] (nest (memOf w)) (.lst true (L.map fun r => (⟨r.getD 0 0, r.getD 1 0, r.getD 2 0⟩ : A3)).length (zYy e27 (L.map fun r => (⟨r.getD 0 0, r.getD 1 0, r.getD 2 0⟩ : A3)))) v := by
    rw [List.length_map, e]; exact h2
  refine ⟨_, slice_le Try.underlying29 h hx, fun z hz => ?_, hx⟩
  rw [List.mem_map] at hz
  obtain ⟨r, hr, rfl⟩ := hz
  obtain ⟨a, b⟩ := h1 r hr
  match r, a with
  | [y0, y1, y2], _ => exact ⟨b y0 (by simp), b y1 (by simp), b y2 (by simp)⟩
theorem fld {fs : Array Field} {Q : Field -> Prop} {i t o : Nat} (h : ∀ f, fs[i]? = some f -> Q f) (hf : ∃ f, fs[i]? = some f /\ f.type = t /\ f.offset = o) : ∃ f, f.type = t /\ f.offset = o /\ Q f := by
  obtain ⟨f, h1, h2, h3⟩ := hf
  exact ⟨f, h2, h3, h f h1⟩
theorem open_cas {v : Value} {d : DataW H} {ps : List MemPlace} (hv : ∃ cs, v = .agg cs) (h : DataW.Trod enc Try.prog w base spare held 31 v d ps) :
    ∃ c : Cas, CasOk c /\ VR [] (nest (memOf w)) (.agg (e31 true c)) v := by
  obtain ⟨fuel, hf⟩ := h
  obtain ⟨cs, rfl⟩ := hv
  obtain ⟨xs, m, -, -, hl, hx, hi⟩ := DataW.trod_struct Try.underlying31 hf
  rw [c24_31] at hl
  have hl7 : cs.toList.length = 7 := hl
  generalize hcs : cs.toList = l at *
  match l, hl7 with
  | [u0, u1, u2, u3, u4, u5, u6], _ =>
    have xl : xs.length = 5 := hx
    match xs, xl with
    | [y0, y1, y2, y3, y4], _ =>
      obtain ⟨f0, b0, g0, i0⟩ := fld (t := 27) (o := 0) (hi 0) ⟨_, rfl, rfl, rfl⟩
      rw [b0, g0] at i0
      obtain ⟨f1, b1, g1, i1⟩ := fld (t := 28) (o := 3) (hi 1) ⟨_, rfl, rfl, rfl⟩
      rw [b1, g1] at i1
      obtain ⟨f2, b2, g2, i2⟩ := fld (t := 29) (o := 4) (hi 2) ⟨_, rfl, rfl, rfl⟩
      rw [b2, g2] at i2
      obtain ⟨f3, b3, g3, i3⟩ := fld (t := 3) (o := 5) (hi 3) ⟨_, rfl, rfl, rfl⟩
      rw [b3, g3] at i3
      obtain ⟨f4, b4, g4, i4⟩ := fld (t := 3) (o := 6) (hi 4) ⟨_, rfl, rfl, rfl⟩
      rw [b4, g4] at i4
      obtain ⟨zs, z1, z2, z3⟩ := intCells_arr Try.underlying27 Try.underlying3 c24_3 c24_27 _ _ _ i0
      obtain ⟨v1, e1, s1, t1⟩ := cells_slice Try.underlying28 i1
      obtain ⟨v2, e2, s2, t2⟩ := cells_slice Try.underlying29 i2
      obtain ⟨z5, e5, -, w5⟩ := DataW.trod_int Try.underlying3 i3
      obtain ⟨z6, e6, -, w6⟩ := DataW.trod_int Try.underlying3 i4
      obtain ⟨x, xl, px, hx1⟩ := open_v6 s1 t1
      obtain ⟨y, yl, py, hy1⟩ := open_a3s s2 t2
      rw [c24_27] at z2
      rw [c24_28] at e1
      rw [c24_29] at e2
      rw [c24_3] at e5 e6
      have ecell : (Value.agg cs).cells.toList = [u0, u1, u2, u3, u4, u5, u6] := hcs
      rw [ecell] at z2 e1 e2 e5 e6
      match zs, z1 with
      | [a0, a1, a2], _ =>
        have k : u0 = .int .i64 a0 /\ u1 = .int .i64 a1 /\ u2 = .int .i64 a2 := by simpa using z2
        obtain ⟨k0, k1, k2⟩ := k
        have k3 : u3 = v1 := by simpa using e1
        have k4 : u4 = v2 := by simpa using e2
        have k5 : u5 = .int .i64 z5 := by simpa using e5
        have k6 : u6 = .int .i64 z6 := by simpa using e6
        subst k0 k1 k2 k3 k4 k5 k6
        refine ⟨⟨⟨a0, a1, a2⟩, x, y, z5, z6⟩, ⟨xl, yl, ⟨⟨z3 a0 (by simp), z3 a1 (by simp), z3 a2 (by simp)⟩, inI_of_wf w5, inI_of_wf w6⟩, px, py⟩, cs, rfl, fun u hu => ?_, ?_⟩
        . rw [hcs] at hu
          simp only [List.mem_cons, List.not_mem_nil, or_false] at hu
          obtain ⟨a3, b3, c3, rfl⟩ := s1
          obtain ⟨a4, b4, c4, rfl⟩ := s2
          rcases hu with rfl | rfl | rfl | rfl | rfl | rfl | rfl <;> rfl
        . rw [hcs]
          exact ⟨_, _, rfl, rfl, _, _, rfl, rfl, _, _, rfl, rfl, _, _, rfl, hx1, _, _, rfl, hy1, _, _, rfl, rfl, _, _, rfl, rfl, rfl⟩
end
end Go.Lat
namespace Go.Lat
open Go.ChangeShapes Go.WideShapes Go.ChangeAt Go.RowKit
open Go.Proofs
section
variable {H : Type} {enc : TypeId × Value -> H} {P : Program} {w : World} {base : Nat} {spare : Nat -> Bool} {held : Bool}
def CellsAs {α : Type} (enc : TypeId × Value -> H) (P : Program) (w : World) (base : Nat) (spare : Nat -> Bool) (held : Bool) (e : TypeId) (k : Nat) (en : α -> List AV) (Q : α -> Prop) : Prop :=
  ∀ n cs d, DataW.trod enc P w base spare held n e cs = some d -> cs.length = k /\ (∀ u ∈ cs, u.oneCell' = true) /\ ∃ x : α, Q x /\ VRs [] (nest (memOf w)) (en x) cs
theorem flatten_getG {β : Type} {k : Nat} : ∀ {L : List (List β)}, (∀ r ∈ L, r.length = k) -> ∀ (i : Nat) z, L.flatten[i]? = some z -> ∃ r, L[i / k]? = some r /\ r[i % k]? = some z := by
  intro L
  induction L with
  | nil => intro _ i z h; simp at h
  | cons r L ih =>
    intro hk i z h
    have hr := hk r (by simp)
    rw [List.flatten_cons] at h
    rcases Nat.lt_or_ge i k with h1 | h1
    . rw [List.getElem?_append_left (by omega)] at h
      exact ⟨r, by rw [Nat.div_eq_of_lt h1]; rfl, by rw [Nat.mod_eq_of_lt h1]; exact h⟩
    . rw [List.getElem?_append_right (by omega), hr] at h
      obtain ⟨r', h2, h3⟩ := ih (fun r' h' => hk r' (by simp [h'])) (i - k) z h
      have hk0 : 0 < k := by
        rcases Nat.eq_zero_or_pos k with h0 | h0
        . subst h0
          have hz : ∀ r'' ∈ L, r''.length = 0 := fun r'' h'' => hk r'' (by simp [h''])
          have : L.flatten = [] := List.flatten_eq_nil_iff.mpr fun r'' h'' => List.eq_nil_of_length_eq_zero (hz r'' h'')
          rw [this] at h; simp at h
        . exact h0
      have e1 : i / k = (i - k) / k + 1 := Nat.div_eq_sub_div hk0 h1
      have e2 : i % k = (i - k) % k := by rw [Nat.mod_eq_sub_mod h1]
      exact ⟨r', by rw [e1]; exact h2, by rw [e2]; exact h3⟩
theorem VRs_encL {α : Type} {m : MM} {en : α -> List AV} : ∀ {L : List (α × List Value)}, (∀ r ∈ L, VRs [] m (en r.1) r.2) -> VRs [] m (zYy en (L.map Prod.fst)) (L.map Prod.snd).flatten
  | [], _ => rfl
  | r :: L, h => by
    show VRs [] m (en r.1 ++ zYy en (L.map Prod.fst)) _
    rw [List.map_cons, List.flatten_cons]
    exact VRs.app (h r (by simp)) (VRs_encL fun x hx => h x (by simp [hx]))
theorem open_gen {α : Type} [Inhabited α] {t e : TypeId} {k : Nat} {en : α -> List AV} {Q : α -> Prop} {v : Value} {d : DataW H} {ps : List MemPlace} (ht : P.underlying t = some (.slice e)) (ce : P.cellsOf e = k) (hk : 0 < k) (hv : ∃ a len cap, v = .slice a len cap) (he : CellsAs enc P w base spare held e k en Q)
    (h : DataW.Trod enc P w base spare held t v d ps) : ∃ L : List α, (L.length <= 9223372036854775807 /\ ∀ x ∈ L, Q x) /\ VR [] (nest (memOf w)) (.lst true L.length (zYy en L)) v := by
  obtain ⟨fuel, hf⟩ := h
  obtain ⟨a0, len0, cap0, rfl⟩ := hv
  rcases Go.Deep.open_slice ht hf with ⟨hcs, -⟩ | ⟨a, len, cap, m, n, D, Pl, hcs, hb, hl, hm, hmm, -, hx⟩
  . simp [Value.cells] at hcs
    obtain ⟨rfl, rfl, rfl⟩ := hcs
    exact ⟨[], by simp, .inl ⟨rfl, rfl⟩⟩
  . simp [Value.cells] at hcs
    obtain ⟨rfl, rfl, rfl⟩ := hcs
    have hlm : len0 <= m := by rw [hmm]; split <;> omega
    obtain ⟨F, hF⟩ := Go.Deep.choose_lt (α := α × List Value) (n := len0) (p := fun i zs => zs.2.length = k /\ (∀ u ∈ zs.2, u.oneCell' = true) /\ Q zs.1 /\ VRs [] (nest (memOf w)) (en zs.1) zs.2 /\ ∀ j, j < k -> w.cell? ((a.add (i * k)).add j) = zs.2[j]?) (fun i hi => by
      obtain ⟨cs', h1, h2⟩ := hx i (by omega)
      obtain ⟨z1, z2, x, z3, z4⟩ := he _ _ _ h2
      obtain ⟨-, -, h5⟩ := World.cells?_some h1
      rw [ce] at h5
      exact ⟨(x, cs'), z1, z2, z3, z4, h5⟩)
    have hget : ∀ r ∈ (List.range len0).map F, r.2.length = k /\ (∀ u ∈ r.2, u.oneCell' = true) /\ Q r.1 /\ VRs [] (nest (memOf w)) (en r.1) r.2 := fun r hr => by
      rw [List.mem_map] at hr
      obtain ⟨i, hi, rfl⟩ := hr
      have := hF i (List.mem_range.mp hi)
      exact ⟨this.1, this.2.1, this.2.2.1, this.2.2.2.1⟩
    refine ⟨((List.range len0).map F).map Prod.fst, ⟨by unfold maxLen at hm; simp; omega, fun x hx => ?_⟩, .inr ⟨a, cap0, (((List.range len0).map F).map Prod.snd).flatten, by simpa using hl, by simp, fun i u hu => ?_, VRs_encL fun r hr => (hget r hr).2.2.2⟩⟩
    . rw [List.mem_map] at hx
      obtain ⟨r, hr, rfl⟩ := hx
      exact (hget r hr).2.2.1
    . obtain ⟨r, h1, h2⟩ := flatten_getG (k := k) (fun r hr => by
        rw [List.mem_map] at hr
        obtain ⟨r', hr', rfl⟩ := hr
        exact (hget r' hr').1) i u hu
      have hik : i / k < len0 := by
        rcases Nat.lt_or_ge (i / k) len0 with h | h
        . exact h
        . rw [List.getElem?_eq_none (by simpa using h)] at h1; cases h1
      rw [List.getElem?_map, List.getElem?_map, List.getElem?_range hik] at h1
      cases h1
      have h3 := (hF (i / k) hik).2.2.2.2 (i % k) (Nat.mod_lt _ hk)
      rw [h2] at h3
      have e : (a.add (i / k * k)).add (i % k) = a.add i := by
        have e1 : i / k * k + i % k = i := by rw [Nat.mul_comm]; exact Nat.div_add_mod i k
        generalize i / k * k = x at e1
        generalize i % k = y at e1
        subst e1
        unfold Addr.add
        by_cases hx0 : x = 0
        . subst hx0; simp
        . by_cases hy0 : y = 0
          . subst hy0; simp
          . rw [if_neg hy0, if_neg hx0, if_neg (by omega)]; simp only [Nat.add_assoc]
      rw [e] at h3
      refine ⟨?_, (hF (i / k) hik).2.1 u (List.mem_of_getElem? h2)⟩
      show memOf w (a.add i) = _
      unfold memOf
      rw [if_pos ?_]
      . exact h3
      . exact World.block_lt_of_cell? _ _ h3
theorem cellsAs_ints {α : Type} {e : TypeId} {k : Nat} {en : α -> List AV} {Q : α -> Prop} (f : List Int -> α) (h : IntCells enc P w base spare held e k) (hq : ∀ zs : List Int, zs.length = k -> (∀ z ∈ zs, inI z) -> Q (f zs)) (he : ∀ zs : List Int, zs.length = k -> en (f zs) = zs.map fun z => AV.int .i64 z) : CellsAs enc P w base spare held e k en Q := by
  intro n cs d hd
  obtain ⟨zs, z1, rfl, z3⟩ := h n cs d hd
  refine ⟨by simpa using z1, fun u hu => ?_, f zs, hq zs z1 z3, by rw [he zs z1]; exact VRs_intsW zs⟩
  rw [List.mem_map] at hu
  obtain ⟨z, -, rfl⟩ := hu
  rfl
end
section
variable {H : Type} {enc : TypeId × Value -> H} {w : World} {base : Nat} {spare : Nat -> Bool} {held : Bool}
theorem c24_22 : Try.prog.cellsOf 22 = 1 := by kernel_rfl
theorem c24_23 : Try.prog.cellsOf 23 = 1 := by kernel_rfl
theorem c24_24 : Try.prog.cellsOf 24 = 1 := by kernel_rfl
theorem c24_51 : Try.prog.cellsOf 51 = 1 := by kernel_rfl
theorem c24_60 : Try.prog.cellsOf 60 = 2 := by kernel_rfl
theorem c24_53 : Try.prog.cellsOf 53 = 2 := by kernel_rfl
theorem c24_58 : Try.prog.cellsOf 58 = 6 := by kernel_rfl
theorem c24_73 : Try.prog.cellsOf 73 = 5 := by kernel_rfl
theorem c24_26 : Try.prog.cellsOf 26 = 6 := by kernel_rfl
theorem open_i24 {v : Value} {d : DataW H} {ps : List MemPlace} (hv : ∃ a len cap, v = .slice a len cap) (h : DataW.Trod enc Try.prog w base spare held 22 v d ps) :
    ∃ x : List Int, (x.length <= 9223372036854775807 /\ ∀ z ∈ x, inI z) /\ VR [] (nest (memOf w)) (.lst true x.length (zYy zYx x)) v :=
  open_gen Try.underlying22 c24_3 (by omega) hv (cellsAs_ints (fun zs => zs.getD 0 0) (intCells_int Try.underlying3) (fun zs h1 h2 => by
    match zs, h1 with
    | [z], _ => exact h2 z (by simp)) (fun zs h1 => by
    match zs, h1 with
    | [z], _ => rfl)) h
theorem open_lds {v : Value} {d : DataW H} {ps : List MemPlace} (hv : ∃ a len cap, v = .slice a len cap) (h : DataW.Trod enc Try.prog w base spare held 51 v d ps) :
    ∃ x : List Ld, (x.length <= 9223372036854775807 /\ ∀ z ∈ x, inI z.st /\ inI z.tm) /\ VR [] (nest (memOf w)) (.lst true x.length (zYy e60 x)) v :=
  open_gen Try.underlying51 c24_60 (by omega) hv (cellsAs_ints (fun zs => ⟨zs.getD 0 0, zs.getD 1 0⟩) (intCells_st Try.underlying60 Try.underlying3 c24_3 c24_60 rfl (fun i hi => by
    match i, hi with
    | 0, _ => exact ⟨_, rfl, rfl, rfl⟩
    | 1, _ => exact ⟨_, rfl, rfl, rfl⟩)) (fun zs h1 h2 => by
    match zs, h1 with
    | [y, z], _ => exact ⟨h2 y (by simp), h2 z (by simp)⟩) (fun zs h1 => by
    match zs, h1 with
    | [y, z], _ => rfl)) h
theorem open_exts {v : Value} {d : DataW H} {ps : List MemPlace} (hv : ∃ a len cap, v = .slice a len cap) (h : DataW.Trod enc Try.prog w base spare held 24 v d ps) :
    ∃ x : List Ext, (x.length <= 9223372036854775807 /\ ∀ z ∈ x, True) /\ VR [] (nest (memOf w)) (.lst true x.length (zYy e58 x)) v :=
  open_gen Try.underlying24 c24_58 (by omega) hv (cellsAs_ints (fun zs => ⟨zs.getD 0 0, zs.getD 1 0, zs.getD 2 0, zs.getD 3 0, zs.getD 4 0, zs.getD 5 0⟩) (intCells_st Try.underlying58 Try.underlying3 c24_3 c24_58 rfl (fun i hi => by
    match i, hi with
    | 0, _ => exact ⟨_, rfl, rfl, rfl⟩
    | 1, _ => exact ⟨_, rfl, rfl, rfl⟩
    | 2, _ => exact ⟨_, rfl, rfl, rfl⟩
    | 3, _ => exact ⟨_, rfl, rfl, rfl⟩
    | 4, _ => exact ⟨_, rfl, rfl, rfl⟩
    | 5, _ => exact ⟨_, rfl, rfl, rfl⟩)) (fun _ _ _ => trivial) (fun zs h1 => by
    match zs, h1 with
    | [y0, y1, y2, y3, y4, y5], _ => rfl)) h
theorem open_rgs {v : Value} {d : DataW H} {ps : List MemPlace} (hv : ∃ a len cap, v = .slice a len cap) (h : DataW.Trod enc Try.prog w base spare held 32 v d ps) :
    ∃ x : List Rg, x.length <= 9223372036854775807 /\ VR [] (nest (memOf w)) (.lst true x.length (zYy e73 x)) v := by
  obtain ⟨x, h1, h2⟩ := open_gen (en := e73) (Q := fun _ : Rg => True) Try.underlying32 c24_73 (by omega) hv (cellsAs_ints (fun zs => ⟨zs.getD 0 0, zs.getD 1 0, zs.getD 2 0, zs.getD 3 0, zs.getD 4 0⟩) (intCells_st Try.underlying73 Try.underlying3 c24_3 c24_73 rfl (fun i hi => by
    match i, hi with
    | 0, _ => exact ⟨_, rfl, rfl, rfl⟩
    | 1, _ => exact ⟨_, rfl, rfl, rfl⟩
    | 2, _ => exact ⟨_, rfl, rfl, rfl⟩
    | 3, _ => exact ⟨_, rfl, rfl, rfl⟩
    | 4, _ => exact ⟨_, rfl, rfl, rfl⟩)) (fun _ _ _ => trivial) (fun zs h1 => by
    match zs, h1 with
    | [y0, y1, y2, y3, y4], _ => rfl)) h
  exact ⟨x, h1.1, h2⟩
theorem list_two {α : Type} {l : List α} (h : l.length = 2) : ∃ a b, l = [a, b] := by
  match l, h with
  | [a, b], _ => exact ⟨a, b, rfl⟩
theorem cells_job : CellsAs enc Try.prog w base spare held 53 2 (e53 true) (fun j => j.wk.length <= 9223372036854775807 /\ inI j.ar) := by
  intro n cs d h
  obtain ⟨xs, m, -, -, hl, hx, hi⟩ := DataW.trod_struct Try.underlying53 h
  rw [c24_53] at hl
  obtain ⟨u0, u1, rfl⟩ := list_two hl
  have xl : xs.length = 2 := hx
  obtain ⟨y0, y1, rfl⟩ := list_two xl
  obtain ⟨f0, b0, g0, i0⟩ := fld (t := 3) (o := 0) (hi 0) ⟨_, rfl, rfl, rfl⟩
  rw [b0, g0] at i0
  obtain ⟨f1, b1, g1, i1⟩ := fld (t := 51) (o := 1) (hi 1) ⟨_, rfl, rfl, rfl⟩
  rw [b1, g1] at i1
  obtain ⟨z0, e0, -, w0⟩ := DataW.trod_int Try.underlying3 i0
  obtain ⟨v1, e1, s1, t1⟩ := cells_slice Try.underlying51 i1
  obtain ⟨wk, pw, hw⟩ := open_lds s1 t1
  rw [c24_3] at e0
  rw [c24_51] at e1
  have k0 : u0 = .int .i64 z0 := by simpa using e0
  have k1 : u1 = v1 := by simpa using e1
  subst k0 k1
  refine ⟨rfl, fun u hu => ?_, ⟨z0, wk⟩, ⟨pw.1, inI_of_wf w0⟩, ⟨_, _, rfl, rfl, _, _, rfl, hw, rfl⟩⟩
  simp only [List.mem_cons, List.not_mem_nil, or_false] at hu
  obtain ⟨a, b, c, rfl⟩ := s1
  rcases hu with rfl | rfl <;> rfl
theorem open_jobs {v : Value} {d : DataW H} {ps : List MemPlace} (hv : ∃ a len cap, v = .slice a len cap) (h : DataW.Trod enc Try.prog w base spare held 23 v d ps) :
    ∃ x : List Job, (x.length <= 9223372036854775807 /\ ∀ j ∈ x, j.wk.length <= 9223372036854775807 /\ inI j.ar) /\ VR [] (nest (memOf w)) (.lst true x.length (zYy (e53 true) x)) v :=
  open_gen Try.underlying23 c24_53 (by omega) hv cells_job h
theorem open_req {v : Value} {d : DataW H} {ps : List MemPlace} (hv : ∃ cs, v = .agg cs) (h : DataW.Trod enc Try.prog w base spare held 26 v d ps) :
    ∃ c : Req, (c.sv.length <= 9223372036854775807 /\ (∀ j ∈ c.jobs, j.wk.length <= 9223372036854775807) /\ c.jobs.length <= 9223372036854775807 /\ c.ex.length <= 9223372036854775807) /\ VR [] (nest (memOf w)) (.agg (e26 true c)) v := by
  obtain ⟨fuel, hf⟩ := h
  obtain ⟨cs, rfl⟩ := hv
  obtain ⟨xs, m, -, -, hl, hx, hi⟩ := DataW.trod_struct Try.underlying26 hf
  rw [c24_26] at hl
  have hl6 : cs.toList.length = 6 := hl
  generalize hcs : cs.toList = l at *
  match l, hl6 with
  | [u0, u1, u2, u3, u4, u5], _ =>
    have xl : xs.length = 6 := hx
    match xs, xl with
    | [y0, y1, y2, y3, y4, y5], _ =>
      obtain ⟨f0, b0, g0, i0⟩ := fld (t := 22) (o := 0) (hi 0) ⟨_, rfl, rfl, rfl⟩
      rw [b0, g0] at i0
      obtain ⟨f1, b1, g1, i1⟩ := fld (t := 23) (o := 1) (hi 1) ⟨_, rfl, rfl, rfl⟩
      rw [b1, g1] at i1
      obtain ⟨f2, b2, g2, i2⟩ := fld (t := 3) (o := 2) (hi 2) ⟨_, rfl, rfl, rfl⟩
      rw [b2, g2] at i2
      obtain ⟨f3, b3, g3, i3⟩ := fld (t := 3) (o := 3) (hi 3) ⟨_, rfl, rfl, rfl⟩
      rw [b3, g3] at i3
      obtain ⟨f4, b4, g4, i4⟩ := fld (t := 3) (o := 4) (hi 4) ⟨_, rfl, rfl, rfl⟩
      rw [b4, g4] at i4
      obtain ⟨f5, b5, g5, i5⟩ := fld (t := 24) (o := 5) (hi 5) ⟨_, rfl, rfl, rfl⟩
      rw [b5, g5] at i5
      obtain ⟨v0, e0, s0, t0⟩ := cells_slice Try.underlying22 i0
      obtain ⟨v1, e1, s1, t1⟩ := cells_slice Try.underlying23 i1
      obtain ⟨z2, e2, -, w2⟩ := DataW.trod_int Try.underlying3 i2
      obtain ⟨z3, e3, -, w3⟩ := DataW.trod_int Try.underlying3 i3
      obtain ⟨z4, e4, -, w4⟩ := DataW.trod_int Try.underlying3 i4
      obtain ⟨v5, e5, s5, t5⟩ := cells_slice Try.underlying24 i5
      obtain ⟨sv, p0, h0⟩ := open_i24 s0 t0
      obtain ⟨jobs, p1, h1⟩ := open_jobs s1 t1
      obtain ⟨ex, p5, h5⟩ := open_exts s5 t5
      rw [c24_22] at e0
      rw [c24_23] at e1
      rw [c24_3] at e2 e3 e4
      rw [c24_24] at e5
      have ecell : (Value.agg cs).cells.toList = [u0, u1, u2, u3, u4, u5] := hcs
      rw [ecell] at e0 e1 e2 e3 e4 e5
      have k0 : u0 = v0 := by simpa using e0
      have k1 : u1 = v1 := by simpa using e1
      have k2 : u2 = .int .i64 z2 := by simpa using e2
      have k3 : u3 = .int .i64 z3 := by simpa using e3
      have k4 : u4 = .int .i64 z4 := by simpa using e4
      have k5 : u5 = v5 := by simpa using e5
      subst k0 k1 k2 k3 k4 k5
      refine ⟨⟨sv, jobs, z2, z3, z4, ex⟩, ⟨p0.1, fun j hj => (p1.2 j hj).1, p1.1, p5.1⟩, cs, rfl, fun u hu => ?_, ?_⟩
      . rw [hcs] at hu
        simp only [List.mem_cons, List.not_mem_nil, or_false] at hu
        obtain ⟨a0, b0, c0, rfl⟩ := s0
        obtain ⟨a1, b1, c1, rfl⟩ := s1
        obtain ⟨a5, b5, c5, rfl⟩ := s5
        rcases hu with rfl | rfl | rfl | rfl | rfl | rfl <;> rfl
      . rw [hcs]
        exact ⟨_, _, rfl, h0, _, _, rfl, h1, _, _, rfl, rfl, _, _, rfl, rfl, _, _, rfl, rfl, _, _, rfl, h5, rfl⟩
end
end Go.Lat
namespace Go.Lat
open Go.RowKit
theorem inI_td {x k : Int} (hk : 0 < k) (h : inI x) : inI (x.tdiv k) := by
  have h1 := (tdiv_parts x k hk).1
  have h2 := (tdiv_parts x k hk).2
  unfold inI at *
  rcases Int.le_total 0 x with hx | hx
  . have := Int.tdiv_nonneg hx (Int.le_of_lt hk)
    have : x.tdiv k <= x := by rw [Int.tdiv_eq_ediv_of_nonneg hx]; exact Int.ediv_le_self _ hx
    omega
  . have e : x.tdiv k = -((-x).tdiv k) := by rw [Int.neg_tdiv]; omega
    have := Int.tdiv_nonneg (a := -x) (by omega) (Int.le_of_lt hk)
    have : (-x).tdiv k <= -x := by rw [Int.tdiv_eq_ediv_of_nonneg (by omega : 0 <= -x)]; exact Int.ediv_le_self _ (by omega)
    omega
theorem sta_le (sv : A3) (lone : Bool) : 1 <= staM sv lone /\ staM sv lone <= 3 := by
  unfold staM
  have := zXz (c := sv.x2) (n := 3) (by omega)
  split <;> omega
theorem many_le (j : Vector Int 6) (lone : Bool) : 0 <= manyM j lone /\ manyM j lone <= 3 /\ (lone = true -> manyM j lone <= 1) := by
  unfold manyM
  have := zXz (c := vat j 1) (n := 4) (by omega)
  split
  . omega
  . rename_i h; exact ⟨by omega, by omega, fun h' => absurd h' h⟩
theorem atM_succ {jobs : List (Vector Int 6)} {i : Nat} (h : i < jobs.length) : atM jobs (i + 1) = atM jobs i + pickM (vat (lat jobs (i : Int)) 0) 5 := by
  unfold atM
  rw [take_succ_lat h, List.map_append, List.sum_append]
  simp
theorem atM_le (jobs : List (Vector Int 6)) : ∀ i : Nat, i <= jobs.length -> 0 <= atM jobs i /\ atM jobs i <= 4 * i
  | 0, _ => by simp [atM]
  | i + 1, h => by
    rw [atM_succ (by omega)]
    have := atM_le jobs i (by omega)
    have := zXz (c := vat (lat jobs (i : Int)) 0) (n := 5) (by omega)
    omega
theorem wkM_succ (n : Int) (j : Vector Int 6) (k : Nat) : wkM n j (k + 1) = wkM n j k ++ [ldM n j k] := map_range_succ
structure JobMade (n : Int) (lone : Bool) (j : Job) : Prop where
  ar : 0 <= j.ar /\ j.ar <= 24
  wl : j.wk.length <= 3 /\ (lone = true -> j.wk.length <= 1)
  wk : ∀ w ∈ j.wk, (0 <= w.st /\ w.st < n) /\ 0 <= w.tm /\ w.tm <= 8
theorem jobM_made {jobs : List (Vector Int 6)} {n : Int} {lone : Bool} {i : Nat} (hn : 1 <= n) (hi : i < jobs.length) (h6 : i < 6) : JobMade n lone (jobM jobs n lone i) := by
  have h1 := atM_le jobs (i + 1) (by omega)
  have h2 := many_le (lat jobs (i : Int)) lone
  refine ⟨⟨h1.1, by show atM jobs (i + 1) <= 24; omega⟩, ⟨?_, fun hl => ?_⟩, fun w hw => ?_⟩
  . show (wkM _ _ _).length <= 3
    unfold wkM; rw [List.length_map, List.length_range]; omega
  . show (wkM _ _ _).length <= 1
    have := h2.2.2 hl
    unfold wkM; rw [List.length_map, List.length_range]; omega
  . have hw : w ∈ wkM n (lat jobs (i : Int)) (manyM (lat jobs (i : Int)) lone).toNat := hw
    unfold wkM at hw
    obtain ⟨k, _, rfl⟩ := List.mem_map.1 hw
    have p1 := zXz (c := vat (lat jobs (i : Int)) (2 + k)) hn
    have p2 := zXz (c := (vat (lat jobs (i : Int)) (2 + k)).tdiv 3) (n := 9) (by omega)
    exact ⟨p1, p2.1, by show pickM _ 9 <= 8; omega⟩
theorem jobsM_made {jobs : List (Vector Int 6)} {n : Int} {lone : Bool} (hn : 1 <= n) : (1 <= (jobsM jobs n lone).length /\ (jobsM jobs n lone).length <= 6) /\ ∀ j ∈ jobsM jobs n lone, JobMade n lone j := by
  have hl : (jobsM0 jobs n lone).length = min jobs.length 6 := by simp [jobsM0]
  unfold jobsM
  split
  . refine ⟨⟨by simp, by simp⟩, fun j hj => ?_⟩
    rw [List.mem_singleton] at hj
    subst hj
    exact ⟨⟨by show (0 : Int) <= 0; omega, by show (0 : Int) <= 24; omega⟩, ⟨by simp, fun _ => by simp⟩, fun w hw => by
      rw [List.mem_singleton] at hw
      subst hw
      exact ⟨⟨by show (0 : Int) <= 0; omega, by show (0 : Int) < n; omega⟩, by show (0 : Int) <= 5; omega, by show (5 : Int) <= 8; omega⟩⟩
  . refine ⟨⟨by omega, by omega⟩, fun j hj => ?_⟩
    unfold jobsM0 at hj
    obtain ⟨i, hi, rfl⟩ := List.mem_map.1 hj
    have hi := List.mem_range.1 hi
    exact jobM_made hn (by omega) (by omega)
theorem exStep_stuck (jobs : List Job) (causes late : Int) (ex : List A3) (i : Int) (l : List Int) (s : List Ext × Nat) (h : ex.length <= s.2) : l.foldl (exStep jobs causes late ex i) s = s := by
  induction l with
  | nil => rfl
  | cons k l ih =>
    rw [List.foldl_cons]
    have : exStep jobs causes late ex i s k = s := by unfold exStep; rw [if_neg (by omega)]
    rw [this, ih]
def ksM (q : Nat) : List Int := (List.range q).map fun k : Nat => (k : Int) - 1
theorem ksM_succ (q : Nat) : ksM (q + 1) = ksM q ++ [(q : Int) - 1] := map_range_succ
theorem ksM_split {q m : Nat} (h : q <= m) : ∃ l, ksM m = ksM q ++ l := by
  unfold ksM
  refine ⟨((List.range m).drop q).map fun k : Nat => (k : Int) - 1, ?_⟩
  rw [<- List.map_append]
  congr 1
  have : List.range q = (List.range m).take q := by rw [List.take_range, Nat.min_eq_left h]
  rw [this, List.take_append_drop]
theorem exJob_eq (jobs : List Job) (causes late : Int) (ex : List A3) (s : List Ext × Nat) (i : Nat) : exJob jobs causes late ex s i = (ksM ((lat jobs (i : Int)).wk.length + 1)).foldl (exStep jobs causes late ex i) s := rfl
def exAll (jobs : List Job) (causes late : Int) (ex : List A3) (i : Nat) : List Ext × Nat := (List.range i).foldl (exJob jobs causes late ex) ([], 0)
theorem exAll_succ (jobs : List Job) (causes late : Int) (ex : List A3) (i : Nat) : exAll jobs causes late ex (i + 1) = exJob jobs causes late ex (exAll jobs causes late ex i) i := by
  unfold exAll
  rw [List.range_succ, List.foldl_append]; rfl
end Go.Lat
namespace Go.Lat
open Go.RowKit
structure ExInv (jobs : List Job) (causes late : Int) (l : List Ext) (i q : Int) : Prop where
  pw : l.Pairwise fun a b => extLt a b = true
  lt : ∀ x ∈ l, x.jb < i \/ x.jb = i /\ x.pc < q
  ok : ∀ x ∈ l, ((0 <= x.jb /\ x.jb < jobs.length) /\ 0 <= x.ca /\ x.ca < causes) /\ ((x.pc = -1 /\ ¬ x.jb = late /\ x.ba = 0 /\ x.op = 0 /\ x.ver = 0) ∨
    ((0 <= x.pc /\ x.pc < (lat jobs x.jb).wk.length) /\ (0 <= x.ba /\ x.ba <= (lat (lat jobs x.jb).wk x.pc).tm) /\ (0 <= x.op /\ x.op <= 2) /\ 0 <= x.ver /\ x.ver <= 1))
theorem ExInv.up {jobs : List Job} {causes late : Int} {l : List Ext} {i q i' q' : Int} (h : ExInv jobs causes late l i q) (hh : i < i' \/ i = i' /\ q <= q') : ExInv jobs causes late l i' q' :=
  ⟨h.pw, fun x hx => by have := h.lt x hx; omega, h.ok⟩
theorem ExInv.step {jobs : List Job} {causes late : Int} {ex : List A3} {s : List Ext × Nat} {i k : Int} (hc : 0 < causes) (hi : 0 <= i /\ i < jobs.length) (hk : -1 <= k /\ k < (lat jobs i).wk.length) (ht : 0 <= k -> 0 <= (lat (lat jobs i).wk k).tm)
    (h : ExInv jobs causes late s.1 i k) : ExInv jobs causes late (exStep jobs causes late ex i s k).1 i (k + 1) := by
  unfold exStep
  split
  . split
    . rename_i ha
      have hx : (exX jobs causes (lat ex (s.2 : Int)) i k).jb = i /\ (exX jobs causes (lat ex (s.2 : Int)) i k).pc = k := by unfold exX; split <;> exact ⟨rfl, rfl⟩
      have p1 := zXz (c := (lat ex (s.2 : Int)).x1) (n := causes) (by omega)
      refine ⟨?_, fun x hx' => ?_, fun x hx' => ?_⟩
      . rw [List.pairwise_append]
        refine ⟨h.pw, List.pairwise_singleton _ _, fun a ha' b hb => ?_⟩
        rw [List.mem_singleton] at hb
        subst hb
        have := h.lt a ha'
        unfold extLt
        rw [decide_eq_true_eq]
        omega
      . rcases List.mem_append.1 hx' with hx' | hx'
        . have := h.lt x hx'; omega
        . rw [List.mem_singleton] at hx'; subst hx'; omega
      . rcases List.mem_append.1 hx' with hx' | hx'
        . exact h.ok x hx'
        . rw [List.mem_singleton] at hx'; subst hx'
          unfold exAct at ha
          unfold exX
          split
          . rename_i hk0
            have t0 := ht hk0
            have p2 := zXz (c := (lat ex (s.2 : Int)).x2) (n := (lat (lat jobs i).wk k).tm + 1) (by omega)
            have p3 := zXz (c := (lat ex (s.2 : Int)).x1.tdiv 5) (n := 3) (by omega)
            have p4 := zXz (c := (lat ex (s.2 : Int)).x1.tdiv 15) (n := 2) (by omega)
            exact ⟨⟨hi, p1⟩, .inr ⟨⟨hk0, hk.2⟩, ⟨p2.1, Int.lt_add_one_iff.1 p2.2⟩, ⟨p3.1, Int.lt_add_one_iff.1 p3.2⟩, p4.1, Int.lt_add_one_iff.1 p4.2⟩⟩
          . rename_i hk0
            have e : k = -1 := by omega
            subst e
            rw [if_pos rfl] at ha
            exact ⟨⟨hi, p1⟩, .inl ⟨rfl, ha.2, rfl, rfl, rfl⟩⟩
    . exact h.up (.inr ⟨rfl, by omega⟩)
  . exact h.up (.inr ⟨rfl, by omega⟩)
theorem ExInv.job {jobs : List Job} {causes late : Int} {ex : List A3} (hc : 0 < causes) (ht : ∀ j ∈ jobs, ∀ w ∈ j.wk, 0 <= w.tm) {s : List Ext × Nat} {i : Nat} (hi : i < jobs.length)
    (h : ExInv jobs causes late s.1 i (-1)) : ∀ q : Nat, q <= (lat jobs (i : Int)).wk.length + 1 -> ExInv jobs causes late ((ksM q).foldl (exStep jobs causes late ex i) s).1 i ((q : Int) - 1)
  | 0, _ => h
  | q + 1, hq => by
    rw [ksM_succ, List.foldl_append]
    have ih := ExInv.job (ex := ex) hc ht hi h q (by omega)
    have := ih.step (ex := ex) hc ⟨by omega, by omega⟩ ⟨by omega, by omega⟩ (fun h0 => ht _ (lat_mem (xs := jobs) (i := (i : Int)) ⟨by omega, by omega⟩) _ (lat_mem ⟨h0, by omega⟩))
    rw [show ((q + 1 : Nat) : Int) - 1 = (q : Int) - 1 + 1 by omega]
    exact this
theorem ExInv.all {jobs : List Job} {causes late : Int} {ex : List A3} (hc : 0 < causes) (ht : ∀ j ∈ jobs, ∀ w ∈ j.wk, 0 <= w.tm) : ∀ i : Nat, i <= jobs.length -> ExInv jobs causes late (exAll jobs causes late ex i).1 i (-1)
  | 0, _ => ⟨List.Pairwise.nil, fun _ hx => absurd hx List.not_mem_nil, fun _ hx => absurd hx List.not_mem_nil⟩
  | i + 1, hi => by
    rw [exAll_succ, exJob_eq]
    have := ExInv.job (late := late) (ex := ex) (s := exAll jobs causes late ex i) hc ht (by omega) (ExInv.all hc ht i (by omega)) _ (Nat.le_refl _)
    exact this.up (.inl (by omega))
structure MadeOk (r : Req) (lone : Bool) : Prop where
  v : ValidR r
  ba : ∀ x ∈ r.ex, ¬ x.pc = -1 -> x.ba <= (lat (lat r.jobs x.jb).wk x.pc).tm
  pcs : ∀ x ∈ r.ex, x.pc = -1 \/ 0 <= x.pc /\ x.pc < (lat r.jobs x.jb).wk.length
  late : ∀ x ∈ r.ex, x.pc = -1 -> ¬ x.jb = r.late
  pw : r.ex.Pairwise fun a b => extLt a b = true
  obj : 0 <= r.obj /\ r.obj <= 29
  ca : 0 <= r.causes /\ r.causes <= 4
  jl : 1 <= r.jobs.length /\ r.jobs.length <= 6
  sl : 1 <= r.sv.length /\ r.sv.length <= 3
  ar : ∀ j ∈ r.jobs, 0 <= j.ar /\ j.ar <= 24
  tm : ∀ j ∈ r.jobs, ∀ w ∈ j.wk, 0 <= w.tm /\ w.tm <= 8
  one : lone = true -> r.sv.length = 1 /\ ∀ j ∈ r.jobs, j.wk.length <= 1
theorem made_ok (c : Cas) (lone : Bool) : MadeOk (madeC c lone) lone := by
  obtain ⟨n1, n3⟩ := sta_le c.sv lone
  obtain ⟨jl, jm⟩ := jobsM_made (jobs := c.jobs) (lone := lone) n1
  have sl : (madeC c lone).sv.length = (staM c.sv lone).toNat := by simp [madeC, madeM]
  have ej : (madeC c lone).jobs = jobsM c.jobs (staM c.sv lone) lone := rfl
  have p1 := zXz (c := c.late) (n := ((jobsM c.jobs (staM c.sv lone) lone).length : Int)) (by omega)
  have p2 := zXz (c := c.obj) (n := 30) (by omega)
  have p3 := zXz (c := c.obj.tdiv 30) (n := 5) (by omega)
  have hinv : ExInv (madeC c lone).jobs (madeC c lone).causes (madeC c lone).late (madeC c lone).ex (madeC c lone).jobs.length (-1) := by
    show ExInv _ _ _ (exsM _ _ _ _) _ _
    unfold exsM
    split
    . rename_i hc
      exact ExInv.all hc (fun j hj w hw => ((jm j hj).wk w hw).2.1) _ (Nat.le_refl _)
    . exact ⟨List.Pairwise.nil, fun _ hx => absurd hx List.not_mem_nil, fun _ hx => absurd hx List.not_mem_nil⟩
  have hv : ValidR (madeC c lone) := by
    refine ⟨?_, p1, ⟨p2.1, ?_⟩, ⟨p3.1, ?_⟩, fun i hi => ?_, fun i hi => ?_⟩
    . unfold validJ
      rw [Bool.and_eq_true, Bool.and_eq_true, decide_eq_true_eq, List.all_eq_true, List.all_eq_true]
      refine ⟨⟨⟨by omega, by omega, by rw [ej]; omega⟩, fun n hn => ?_⟩, fun j hj => ?_⟩
      . obtain ⟨i, _, rfl⟩ := List.mem_map.1 hn
        have := zXz (c := lat [c.sv.x0, c.sv.x1, c.sv.x2] (i : Int)) (n := 2) (by omega)
        exact decide_eq_true (by omega)
      . have := jm j hj
        unfold jobOk
        rw [Bool.and_eq_true, decide_eq_true_eq, List.all_eq_true]
        refine ⟨⟨this.ar.1, by have := this.ar.2; omega, by have := this.wl.1; omega⟩, fun w hw => ?_⟩
        have := this.wk w hw
        exact decide_eq_true (by omega)
    . show pickM c.obj 30 <= _; omega
    . show pickM (c.obj.tdiv 30) 5 <= _; omega
    . have := hinv.ok _ (lat_mem (xs := (madeC c lone).ex) (i := (i : Int)) ⟨by omega, by omega⟩)
      refine ⟨this.1, ?_⟩
      rcases this.2 with h | h
      . left; unfold isRemM; exact decide_eq_true h
      . right; unfold isWorkM
        have hj := jm _ (lat_mem (xs := (madeC c lone).jobs) (i := (lat (madeC c lone).ex (i : Int)).jb) ⟨this.1.1.1, by have := this.1.1.2; omega⟩)
        have := (hj.wk _ (lat_mem ⟨h.1.1, by omega⟩)).2.2
        exact decide_eq_true ⟨⟨h.1.1, by omega⟩, ⟨h.2.1.1, by omega⟩, ⟨h.2.2.1.1, by omega⟩, h.2.2.2.1, by omega⟩
    . have := List.pairwise_iff_getElem.1 hinv.pw i (i + 1) (by omega) hi (by omega)
      rwa [lat_get (by omega), lat_get hi]
  refine ⟨hv, fun x hx hp => ?_, fun x hx => ?_, fun x hx hp => ?_, hinv.pw, ⟨p2.1, ?_⟩, ⟨p3.1, ?_⟩, jl, by omega, fun j hj => (jm j hj).ar, fun j hj w hw => ((jm j hj).wk w hw).2, fun h => ⟨?_, fun j hj => (jm j hj).wl.2 h⟩⟩
  . exact ((hinv.ok x hx).2.resolve_left fun h => hp h.1).2.1.2
  . exact (hinv.ok x hx).2.imp (·.1) (·.1)
  . exact ((hinv.ok x hx).2.resolve_right fun h => by omega).2.1
  . show pickM c.obj 30 <= _; omega
  . show pickM (c.obj.tdiv 30) 5 <= _; omega
  . rw [sl]; unfold staM; rw [if_pos h]; rfl
end Go.Lat
namespace Go.Lat
open Go.RowKit
inductive Ends (sv : List Int) (jobs : List Job) : RunS -> RunS -> Prop
  | stop {s : RunS} : leastS s.ss < 0 -> Ends sv jobs s s
  | step {s t : RunS} : ¬ leastS s.ss < 0 -> Ends sv jobs (nextM sv jobs s (leastS s.ss)) t -> Ends sv jobs s t
def slots (sv : List Int) (s : RunS) (q : Int) : List Int := (lat s.fr q).toList.take (lat sv q).toNat
def cnt (sv : List Int) (s : RunS) (q x : Int) : Nat := (slots sv s q).countP fun m => decide (m <= x)
structure StepC (sv : List Int) (jobs : List Job) (s : RunS) (i : Nat) : Prop where
  vis : ∀ x, (visM sv jobs s i).st <= x ↔ (lat s.ss i).rd <= x /\ 1 <= cnt sv s (workM jobs s i).st x
  en : (visM sv jobs s i).en = (visM sv jobs s i).st + (workM jobs s i).tm
  tm : 0 <= (workM jobs s i).tm
  st : 0 <= (workM jobs s i).st /\ (workM jobs s i).st < sv.length
  cnt : ∀ q x, 0 <= q -> cnt sv (nextM sv jobs s i) q x + (if q = (workM jobs s i).st /\ 1 <= cnt sv s q x /\ x < (visM sv jobs s i).en then 1 else 0) = cnt sv s q x
  ss : ∀ j : Nat, lat (nextM sv jobs s i).ss j = if j = i then ⟨(lat s.ss i).dn + 1, (lat s.ss i).al, (visM sv jobs s i).en⟩ else lat s.ss j
theorem StepOk.c {sv : List Int} {jobs : List Job} {c : Nat} {s : RunS} {i : Nat} (h : RInv sv jobs c s) (o : StepOk sv jobs c s i) : StepC sv jobs s i := by
  obtain ⟨k, k1, k2, k3⟩ := o.slot
  have nb := o.nb
  have hlen : (slots sv s (workM jobs s i).st).length = (lat sv (workM jobs s i).st).toNat := by
    unfold slots; rw [List.length_take, Vector.length_toList]; omega
  have hget : ∀ q : Nat, (q : Int) < lat sv (workM jobs s i).st -> ∀ hq : q < (slots sv s (workM jobs s i).st).length, (slots sv s (workM jobs s i).st)[q] = vat (lat s.fr (workM jobs s i).st) q := fun q h1 hq => by
    rw [<- lat_get hq]
    exact take_vat _ (by omega) (by omega)
  have hkl : k < (slots sv s (workM jobs s i).st).length := by rw [hlen]; omega
  have hm : ∀ x, 1 <= cnt sv s (workM jobs s i).st x ↔ vat (lat s.fr (workM jobs s i).st) k <= x := fun x => by
    unfold cnt
    rw [Nat.succ_le_iff, List.countP_pos_iff]
    constructor
    . rintro ⟨a, ha, h2⟩
      obtain ⟨q, hq, rfl⟩ := List.mem_iff_getElem.1 ha
      have h2 := of_decide_eq_true h2
      have hq2 : (q : Int) < lat sv (workM jobs s i).st := by omega
      rw [hget q hq2] at h2
      have := k3 q hq2
      omega
    . intro h2
      exact ⟨_, List.getElem_mem hkl, by rw [hget k k2]; exact decide_eq_true h2⟩
  have hv : (visM sv jobs s i).st = max (lat s.ss i).rd (vat (lat s.fr (workM jobs s i).st) k) := by unfold visM; simp only [k1, Int.toNat_natCast]
  have hen := o.vis.2.2
  have htm := o.tm.1
  refine ⟨fun x => ?_, hen, htm, o.st, fun q x hq => ?_, fun j => ?_⟩
  . rw [hm, hv]; omega
  . by_cases e : q = (workM jobs s i).st
    . subst e
      have e1 : slots sv (nextM sv jobs s i) (workM jobs s i).st = (slots sv s (workM jobs s i).st).set k (visM sv jobs s i).en := by
        unfold slots nextM
        simp only [k1, Int.toNat_natCast]
        rw [lat_set' ⟨o.st.1, by rw [h.fl]; exact o.st.2⟩ o.st.1, if_pos rfl]
        show List.take _ (Vector.toList (Vector.setIfInBounds _ _ _)) = _
        rw [Vector.toList_setIfInBounds, List.take_set]
      have e2 : (if vat (lat s.fr (workM jobs s i).st) k <= x then 1 else 0) <= (cnt sv s (workM jobs s i).st x) := by
        split
        . rename_i h; exact (hm x).2 h
        . omega
      have e3 : Go.Lat.cnt sv (nextM sv jobs s i) (workM jobs s i).st x = (slots sv (nextM sv jobs s i) (workM jobs s i).st).countP fun m => decide (m <= x) := rfl
      have e4 : Go.Lat.cnt sv (nextM sv jobs s i) (workM jobs s i).st x = Go.Lat.cnt sv s (workM jobs s i).st x - (if vat (lat s.fr (workM jobs s i).st) k <= x then 1 else 0) + (if (visM sv jobs s i).en <= x then 1 else 0) := by
        rw [e3, e1, List.countP_set hkl, hget k k2]
        simp only [decide_eq_true_eq]
        rfl
      have hmx := hm x
      have hge : vat (lat s.fr (workM jobs s i).st) k <= (visM sv jobs s i).en := by omega
      generalize Go.Lat.cnt sv (nextM sv jobs s i) (workM jobs s i).st x = A at *
      generalize Go.Lat.cnt sv s (workM jobs s i).st x = B at *
      generalize (visM sv jobs s i).en = en at *
      generalize vat (lat s.fr (workM jobs s i).st) k = m at *
      rw [e4]
      by_cases c1 : m <= x
      . rw [if_pos c1]
        rw [if_pos c1] at e2
        by_cases c2 : en <= x
        . rw [if_pos c2, if_neg (by omega)]; omega
        . rw [if_neg c2, if_pos ⟨rfl, e2, by omega⟩]; omega
      . rw [if_neg c1, if_neg (by omega), if_neg (by omega)]; omega
    . rw [if_neg (fun h => e h.1)]
      show (slots sv (nextM sv jobs s i) q).countP _ = (slots sv s q).countP _
      have : slots sv (nextM sv jobs s i) q = slots sv s q := by
        unfold slots nextM
        simp only
        rw [lat_set' ⟨o.st.1, by rw [h.fl]; exact o.st.2⟩ hq, if_neg e]
      rw [this]
  . have := lat_set (l := s.ss) (i := (i : Int)) (j := j) (x := (⟨(lat s.ss i).dn + 1, (lat s.ss i).al, (visM sv jobs s i).en⟩ : Sta)) ⟨by omega, by rw [h.sl]; have := o.lt; omega⟩
    unfold nextM
    simp only
    rw [this]
    by_cases e : j = i
    . rw [if_pos (by omega), if_pos e]
    . rw [if_neg (by omega), if_neg e]
theorem RInv.go {sv : List Int} {jobs : List Job} {c : Nat} {s : RunS} (h : RInv sv jobs c s) (hl : ¬ leastS s.ss < 0) : ∃ i : Nat, leastS s.ss = i /\ i < jobs.length /\ (lat s.ss i).dn < (lat s.ss i).al ∧
    (∀ k : Nat, k < jobs.length -> (lat s.ss k).dn < (lat s.ss k).al -> (lat s.ss i).rd <= (lat s.ss k).rd /\ (k < i -> (lat s.ss i).rd < (lat s.ss k).rd)) /\ StepC sv jobs s i /\ RInv sv jobs (c + 1) (nextM sv jobs s i) /\ leftM s = leftM (nextM sv jobs s i) + 1 := by
  obtain ⟨i, hi, hil, hid, hk⟩ := (leastS_spec s.ss).resolve_left (fun h => hl (by omega))
  have so := h.step hil hid
  exact ⟨i, hi, so.lt, hid, fun k hk' hd => hk k (by rw [h.sl]; exact hk') hd, so.c h, so.next, so.less⟩
theorem RInv.none {sv : List Int} {jobs : List Job} {c : Nat} {s : RunS} (h : RInv sv jobs c s) (hl : leastS s.ss < 0) : ∀ i : Nat, i < jobs.length -> ¬ (lat s.ss i).dn < (lat s.ss i).al := by
  rcases leastS_spec s.ss with ⟨_, h2⟩ | ⟨i, h1, _⟩
  . intro i hi; exact h2 i (by rw [h.sl]; exact hi)
  . omega
end Go.Lat
namespace Go.Lat
open Go.RowKit
def latM (r : Req) (s : Int) : Int := max 0 ((finishM r.sv (withM r s) r.late).1 - (lat r.jobs r.late).ar - r.obj)
theorem ValidR.lateE {r : Req} (h : ValidR r) (s : Int) : lateM r s = (latM r s, 0) := by
  unfold lateM latenessM'
  rw [if_neg (fun h' => h' (h.late2 s))]
  rfl
theorem ValidR.vals {r : Req} (h : ValidR r) : valuesM r = ((rangeI (2 ^ r.causes.toNat)).map (latM r), 0) := by
  unfold valuesM
  rw [if_pos ((validR_iff r).2 h)]
  have hn : (rangeI (2 ^ r.causes.toNat)).find? (fun s => decide (¬ (lateM r s).2 = 0)) = none := by
    rw [List.find?_eq_none]
    intro s _
    simp [h.lateE s]
  rw [hn]
  simp only [h.lateE]
theorem ValidR.vlen {r : Req} (h : ValidR r) : (valuesM r).1.length = 2 ^ r.causes.toNat := by rw [h.vals]; simp [rangeI]
structure ShR (d : Int) (sv : List Int) (n : Nat) (sF sG : RunS) : Prop where
  ss : ∀ j : Nat, j < n -> lat sG.ss j = ⟨(lat sF.ss j).dn, (lat sF.ss j).al, (lat sF.ss j).rd + d⟩
  c : ∀ q x : Int, 0 <= q -> q < sv.length -> 0 <= x -> cnt sv sG q (x + d) = cnt sv sF q x
structure GrR (sv : List Int) (jG : List Job) (sF sG : RunS) : Prop where
  ss : ∀ j : Nat, j < jG.length -> ((lat sG.ss j).dn = 0 /\ (lat sF.ss j).dn = 0 /\ (lat sG.ss j).rd = (lat jG j).ar /\ (lat sF.ss j).rd = (lat jG j).ar) ∨
    ((lat sG.ss j).dn = 1 /\ (lat sF.ss j).dn = (lat sF.ss j).al /\ (lat sF.ss j).rd <= (lat sG.ss j).rd)
  c : ∀ x, cnt sv sG 0 x <= cnt sv sF 0 x
structure LessW (jF jG : List Job) : Prop where
  len : jF.length = jG.length
  ar : ∀ k : Nat, k < jG.length -> (lat jF k).ar = (lat jG k).ar
  one : ∀ k : Nat, k < jG.length -> (lat jG k).wk.length <= 1
  wl : ∀ k : Nat, k < jG.length -> (lat jF k).wk.length <= (lat jG k).wk.length
  tm : ∀ k : Nat, k < jG.length -> (lat jF k).wk.length = 1 -> (lat (lat jF k).wk 0).tm <= (lat (lat jG k).wk 0).tm
structure Nr (N : Int -> Prop) (near : Nat -> Prop) (jA jB : List Job) : Prop where
  len : jA.length = jB.length
  eq : ∀ k : Nat, k < jA.length -> near k -> lat jA k = lat jB k
  inn : ∀ k : Nat, k < jA.length -> near k -> ∀ w ∈ (lat jA k).wk, N w.st
  outA : ∀ k : Nat, k < jA.length -> ¬ near k -> ∀ w ∈ (lat jA k).wk, ¬ N w.st
  outB : ∀ k : Nat, k < jA.length -> ¬ near k -> ∀ w ∈ (lat jB k).wk, ¬ N w.st
structure NrR (sv : List Int) (N : Int -> Prop) (near : Nat -> Prop) (n : Nat) (sA sB : RunS) : Prop where
  ss : ∀ j : Nat, j < n -> near j -> lat sA.ss j = lat sB.ss j
  c : ∀ q x, 0 <= q -> N q -> cnt sv sA q x = cnt sv sB q x
theorem NrR.symm {sv : List Int} {N : Int -> Prop} {near : Nat -> Prop} {n : Nat} {sA sB : RunS} (h : NrR sv N near n sA sB) : NrR sv N near n sB sA := ⟨fun j hj hn => (h.ss j hj hn).symm, fun q x hq hN => (h.c q x hq hN).symm⟩
end Go.Lat
namespace Go.Lat
open Go.RowKit
def bitZ (s k : Int) : Int := bitI .and .i64 (s.fdiv (2 ^ (min k.toNat 64))) 1
theorem sh_pow {k : Int} (h : 0 <= k /\ k <= 64) : (1 : Int) * 2 ^ (min k.toNat 64) = 2 ^ k.toNat := by
  rw [Int.one_mul, Nat.min_eq_left (by omega)]
theorem pow_le16 {k : Int} (h : 0 <= k /\ k <= 4) : 1 <= (2 : Int) ^ k.toNat /\ (2 : Int) ^ k.toNat <= 16 := by
  obtain ⟨k, rfl⟩ : ∃ n : Nat, k = n := ⟨k.toNat, by omega⟩
  rw [Int.toNat_natCast]
  have h1 : 2 ^ k <= 2 ^ 4 := Nat.pow_le_pow_right (by omega) (by omega)
  have h2 : 1 <= 2 ^ k := Nat.one_le_two_pow
  have e : ((2 ^ k : Nat) : Int) = (2 : Int) ^ k := by norm_cast
  omega
end Go.Lat
namespace Go.Lat
open Go.RowKit
structure Lens (r : Req) : Prop where
  a : r.sv.length <= 9223372036854775807
  b : ∀ j ∈ r.jobs, j.wk.length <= 9223372036854775807
  c : r.jobs.length <= 9223372036854775807
  d : r.ex.length <= 9223372036854775807
theorem ValidR.lens {r : Req} (h : ValidR r) : Lens r := by
  have j := job_ok h.j
  have := h.len
  exact ⟨by omega, fun q hq => by have := (j.2.2 q hq).1; omega, by omega, by omega⟩
theorem ValidR.vlenI {r : Req} (h : ValidR r) (hc : r.causes <= 4) : (((valuesM r).1.length : Nat) : Int) = 1 * 2 ^ (min r.causes.toNat 64) := by
  rw [h.vlen, sh_pow ⟨h.causes.1, by omega⟩]
  norm_cast
theorem ValidR.v16 {r : Req} (h : ValidR r) (hc : r.causes <= 4) : 1 <= (valuesM r).1.length /\ (valuesM r).1.length <= 16 := by
  have := h.vlenI hc
  rw [sh_pow ⟨h.causes.1, by omega⟩] at this
  have := pow_le16 (k := r.causes) ⟨h.causes.1, hc⟩
  omega
theorem ValidR.set {r : Req} (h : ValidR r) {s : Int} (hs : 0 <= s /\ s < ((valuesM r).1.length : Int)) : isSetM r s = true := by
  rw [h.vlen] at hs
  unfold isSetM
  rw [(validR_iff r).2 h, Bool.true_and, decide_eq_true_eq]
  have e : ((2 ^ r.causes.toNat : Nat) : Int) = (2 : Int) ^ r.causes.toNat := by norm_cast
  omega
end Go.Lat
namespace Go.Lat
def insM {α : Type} (xs : List α) (i : Nat) (v : α) : List α := xs.take i ++ [v] ++ xs.drop i
theorem insM_len {α : Type} (xs : List α) (i : Nat) (v : α) : (insM xs i v).length = xs.length + 1 := by
  have h : (xs.take i ++ xs.drop i).length = xs.length := by rw [List.take_append_drop]
  rw [List.length_append] at h
  simp only [insM, List.length_append, List.length_singleton]
  omega
def factOk (x : Fct) : Bool := decide ((0 <= x.tr /\ x.tr <= 999) /\ (0 <= x.sp /\ x.sp <= 9) /\ (0 <= x.se /\ x.se <= 7) /\ (0 <= x.ver /\ x.ver <= 9) /\ (0 <= x.op /\ x.op <= 11) /\ (-1 <= x.pe /\ x.pe <= 19) /\ x.da = x.tr.tdiv 10 /\ (0 <= x.lo /\ x.lo <= x.hi) /\ x.hi <= 4398046511104 /\ (0 <= x.by_ /\ x.by_ <= 24000))
def mixR (o r : Rg) : Rg := ⟨o.op, o.ver, o.nu + r.nu, min o.le r.le, max o.mo r.mo⟩
def putM (out : List Rg) (r : Rg) : List Rg := if (bsM out r).2 = true then out.set (bsM out r).1.toNat (mixR (lat out (bsM out r).1) r) else insM out (bsM out r).1.toNat r
def joinM (l : List Rg) : List Rg := l.foldl putM []
def fRg (f : Fct) : Rg := ⟨f.op, f.ver, 1, f.lo, f.hi⟩
def fitM (l : List Fct) : List Rg × Int := if 400 < l.length \/ ¬ l.all factOk = true then ([], 230) else (joinM (l.map fRg), 0)
def factLo (y : Vector Int 4) : Int := if pickM (vat y 3) 4 = 3 then pickM (vat y 2) 2199023255552 else pickM (vat y 2) 40
def factM (y : Vector Int 4) : Fct :=
  ⟨pickM (vat y 0) 30, pickM ((vat y 0).tdiv 30) 4, pickM (vat y 1) 2, pickM ((vat y 1).tdiv 2) 3, 2 * pickM (vat y 1) 2 + pickM ((vat y 1).tdiv 3000) 2, pickM ((vat y 1).tdiv 6) 5 - 1, (pickM (vat y 0) 30).tdiv 10,
    factLo y, factLo y + pickM ((vat y 3).tdiv 4) 3 * pickM ((vat y 3).tdiv 12) 30, pickM ((vat y 1).tdiv 30) 100⟩
def lessF (o f : Fct) : Prop := o.tr < f.tr \/ o.tr = f.tr /\ o.sp < f.sp
instance (o f : Fct) : Decidable (lessF o f) := by unfold lessF; infer_instance
def posF (out : List Fct) (f : Fct) : Nat := (out.takeWhile fun o => decide (lessF o f)).length
def factStep (out : List Fct) (y : Vector Int 4) : List Fct :=
  if posF out (factM y) < out.length /\ (lat out (posF out (factM y) : Int)).tr = (factM y).tr /\ (lat out (posF out (factM y) : Int)).sp = (factM y).sp then out else out.take (posF out (factM y)) ++ ([factM y] ++ out.drop (posF out (factM y)))
def factsM (x : List (Vector Int 4)) : List Fct := (x.take 40).foldl factStep []
end Go.Lat
namespace Go.Lat
open Go.RowKit
theorem lat_insM {α : Type} [Inhabited α] {xs : List α} {i : Nat} {v : α} (hi : i <= xs.length) {k : Nat} : lat (insM xs i v) (k : Int) = if k < i then lat xs (k : Int) else if k = i then v else lat xs ((k : Int) - 1) := by
  have hl : (xs.take i).length = i := by rw [List.length_take]; omega
  unfold insM
  rw [lat_nat, List.append_assoc, List.getD_eq_getElem?_getD]
  by_cases h1 : k < i
  . rw [if_pos h1, List.getElem?_append_left (by omega), List.getElem?_take_of_lt h1, lat_nat, List.getD_eq_getElem?_getD]
  . rw [if_neg h1, List.getElem?_append_right (by omega), hl]
    by_cases h2 : k = i
    . subst h2; rw [if_pos rfl, Nat.sub_self]; rfl
    . rw [if_neg h2, show ((k : Int) - 1) = ((k - 1 : Nat) : Int) by omega, lat_nat, List.getElem?_append_right (by simp; omega), List.getElem?_drop, List.getD_eq_getElem?_getD]
      simp only [List.length_singleton]
      rw [show i + (k - i - 1) = k - 1 by omega]
theorem bsM_fst (l : List Rg) (x : Rg) : (bsM l x).1 = bsI l x := rfl
structure FactIs (f : Fct) : Prop where
  ok : factOk f = true
end Go.Lat
namespace Go.Lat
open Go.RowKit
def ltK (a b : Rg) : Prop := a.op < b.op \/ a.op = b.op /\ a.ver < b.ver
def eqK (a b : Rg) : Prop := a.op = b.op /\ a.ver = b.ver
instance (a b : Rg) : Decidable (ltK a b) := by unfold ltK; infer_instance
instance (a b : Rg) : Decidable (eqK a b) := by unfold eqK; infer_instance
def SortedR (l : List Rg) : Prop := ∀ i j : Nat, i < j -> j < l.length -> ltK (lat l (i : Int)) (lat l (j : Int))
theorem bsGo_spec {l : List Rg} {x : Rg} (hs : SortedR l) : ∀ (n : Nat) (i j : Nat), i <= j -> j <= l.length -> j - i < n -> (∀ p : Nat, p < i -> ltK (lat l (p : Int)) x) -> (∀ p : Nat, j <= p -> p < l.length -> ¬ ltK (lat l (p : Int)) x) →
    ∃ k : Nat, bsGo l x n i j = k /\ k <= l.length /\ (∀ p : Nat, p < k -> ltK (lat l (p : Int)) x) /\ ∀ p : Nat, k <= p -> p < l.length -> ¬ ltK (lat l (p : Int)) x
  | 0, i, j, h1, h2, h3, h4, h5 => by omega
  | n + 1, i, j, h1, h2, h3, h4, h5 => by
    unfold bsGo
    by_cases hij : (i : Int) < (j : Int)
    . rw [if_pos hij]
      obtain ⟨m, hm⟩ : ∃ m : Nat, ((i : Int) + (j : Int)).tdiv 2 = m := ⟨((i : Int) + (j : Int)).tdiv 2 |>.toNat, by rw [Int.tdiv_eq_ediv_of_nonneg (by omega)]; omega⟩
      have hmr : i <= m /\ m < j := by rw [Int.tdiv_eq_ediv_of_nonneg (by omega)] at hm; omega
      rw [hm]
      by_cases hc : cmpR (lat l (m : Int)) x < 0
      . rw [if_pos hc]
        have hc := (cmpR_lt _ _).1 hc
        refine bsGo_spec hs n (m + 1) j (by omega) h2 (by omega) (fun p hp => ?_) h5
        rcases Nat.lt_or_ge p m with h | h
        . have := hs p m h (by omega)
          unfold ltK at this ⊢; omega
        . rw [show p = m by omega]; exact hc
      . rw [if_neg hc]
        have hc : ¬ ltK (lat l (m : Int)) x := fun h => hc ((cmpR_lt _ _).2 h)
        refine bsGo_spec hs n i m (by omega) (by omega) (by omega) h4 (fun p hp hl => ?_)
        rcases Nat.lt_or_ge m p with h | h
        . have := hs m p h hl
          unfold ltK at this hc ⊢; omega
        . rw [show p = m by omega]; exact hc
    . rw [if_neg hij]
      have : i = j := by omega
      subst this
      exact ⟨i, rfl, h2, h4, h5⟩
theorem bs_spec {l : List Rg} (x : Rg) (hs : SortedR l) : ∃ k : Nat, bsI l x = k /\ k <= l.length /\ (∀ p : Nat, p < k -> ltK (lat l (p : Int)) x) /\ ∀ p : Nat, k <= p -> p < l.length -> ¬ ltK (lat l (p : Int)) x :=
  bsGo_spec hs (l.length + 1) 0 l.length (by omega) (Nat.le_refl _) (by omega) (fun p hp => by omega) (fun p h1 h2 => by omega)
theorem bs_found {l : List Rg} (x : Rg) (hs : SortedR l) : (bsM l x).2 = true ↔ ∃ i : Nat, i < l.length /\ eqK (lat l (i : Int)) x /\ (bsM l x).1 = i := by
  obtain ⟨k, h1, h2, h3, h4⟩ := bs_spec x hs
  show decide (bsI l x < l.length /\ cmpR (lat l (bsI l x)) x = 0) = true ↔ ∃ i : Nat, i < l.length /\ eqK (lat l (i : Int)) x /\ bsI l x = i
  rw [decide_eq_true_eq, h1, cmpR_eq]
  constructor
  . rintro ⟨h5, h6⟩
    exact ⟨k, by omega, h6, rfl⟩
  . rintro ⟨i, h5, h6, h7⟩
    have : k = i := by omega
    subst this
    exact ⟨by omega, h6⟩
theorem bs_hit {l : List Rg} {x : Rg} (hs : SortedR l) {i : Nat} (hi : i < l.length) (h : eqK (lat l (i : Int)) x) : (bsM l x).2 = true /\ (bsM l x).1 = i := by
  obtain ⟨k, h1, h2, h3, h4⟩ := bs_spec x hs
  have hk : k = i := by
    rcases Nat.lt_trichotomy k i with e | e | e
    . have := h4 k (Nat.le_refl _) (by omega)
      have := hs k i e hi
      unfold ltK eqK at *; omega
    . exact e
    . have := h3 i e
      unfold ltK eqK at *; omega
  subst hk
  exact ⟨(bs_found x hs).2 ⟨k, hi, h, h1⟩, h1⟩
structure Agg (l : List Rg) (r : Rg) : Prop where
  nu : r.nu = ((l.filter fun x => decide (eqK x r)).map (·.nu)).sum
  bd : ∀ x ∈ l, eqK x r -> r.le <= x.le /\ x.mo <= r.mo
  le : ∃ x ∈ l, eqK x r /\ x.le = r.le
  mo : ∃ x ∈ l, eqK x r /\ x.mo = r.mo
structure JR (l out : List Rg) : Prop where
  pw : SortedR out
  el : ∀ i : Nat, i < out.length -> Agg l (lat out (i : Int))
  cov : ∀ x ∈ l, ∃ i : Nat, i < out.length /\ eqK (lat out (i : Int)) x
theorem Agg.old {l : List Rg} {r x : Rg} (h : Agg l r) (hn : ¬ eqK x r) : Agg (l ++ [x]) r := by
  refine ⟨?_, fun y hy he => ?_, ?_, ?_⟩
  . rw [List.filter_append, List.filter_cons_of_neg (by simpa using hn), List.filter_nil, List.append_nil]; exact h.nu
  . rcases List.mem_append.1 hy with hy | hy
    . exact h.bd y hy he
    . rw [List.mem_singleton] at hy; subst hy; exact absurd he hn
  . obtain ⟨y, h1, h2⟩ := h.le; exact ⟨y, List.mem_append_left _ h1, h2⟩
  . obtain ⟨y, h1, h2⟩ := h.mo; exact ⟨y, List.mem_append_left _ h1, h2⟩
theorem Agg.mix {l : List Rg} {r x : Rg} (h : Agg l r) (he : eqK r x) : Agg (l ++ [x]) (mixR r x) := by
  have e0 : ∀ y, eqK y (mixR r x) ↔ eqK y r := fun y => Iff.rfl
  have ex : eqK x (mixR r x) := ⟨he.1.symm, he.2.symm⟩
  refine ⟨?_, fun y hy hk => ?_, ?_, ?_⟩
  . rw [List.filter_append, List.filter_cons_of_pos (by simpa using ex), List.filter_nil, List.map_append, List.sum_append]
    show r.nu + x.nu = _ + (x.nu + 0)
    rw [h.nu]
    show _ = ((l.filter fun y => decide (eqK y r)).map (·.nu)).sum + _
    omega
  . rcases List.mem_append.1 hy with hy | hy
    . have := h.bd y hy hk
      show min r.le x.le <= y.le /\ y.mo <= max r.mo x.mo
      omega
    . rw [List.mem_singleton] at hy; subst hy
      show min r.le y.le <= y.le /\ y.mo <= max r.mo y.mo
      omega
  . obtain ⟨y, h1, h2, h3⟩ := h.le
    by_cases hc : r.le <= x.le
    . exact ⟨y, List.mem_append_left _ h1, h2, by show y.le = min r.le x.le; omega⟩
    . exact ⟨x, by simp, ex, by show x.le = min r.le x.le; omega⟩
  . obtain ⟨y, h1, h2, h3⟩ := h.mo
    by_cases hc : x.mo <= r.mo
    . exact ⟨y, List.mem_append_left _ h1, h2, by show y.mo = max r.mo x.mo; omega⟩
    . exact ⟨x, by simp, ex, by show x.mo = max r.mo x.mo; omega⟩
theorem Agg.new {l : List Rg} {x : Rg} (h : ∀ y ∈ l, ¬ eqK y x) : Agg (l ++ [x]) x := by
  have hx : eqK x x := ⟨rfl, rfl⟩
  refine ⟨?_, fun y hy hk => ?_, ⟨x, by simp, hx, rfl⟩, ⟨x, by simp, hx, rfl⟩⟩
  . rw [List.filter_append, List.filter_cons_of_pos (by simpa using hx), List.filter_nil, List.filter_eq_nil_iff.2 (fun y hy => by simpa using h y hy)]
    show x.nu = x.nu + 0
    omega
  . rcases List.mem_append.1 hy with hy | hy
    . exact absurd hk (h y hy)
    . rw [List.mem_singleton] at hy; subst hy; exact ⟨Int.le_refl _, Int.le_refl _⟩
theorem JR.nil : JR [] [] := ⟨fun i j _ h => by simp at h, fun i h => by simp at h, fun x h => by cases h⟩
theorem JR.put {l out : List Rg} (h : JR l out) (x : Rg) : JR (l ++ [x]) (putM out x) := by
  obtain ⟨k, h1, h2, h3, h4⟩ := bs_spec x h.pw
  by_cases hf : (bsM out x).2 = true
  . obtain ⟨i, hi, he, hb⟩ := (bs_found x h.pw).1 hf
    have hp : putM out x = out.set i (mixR (lat out (i : Int)) x) := by unfold putM; rw [if_pos hf, hb, Int.toNat_natCast]
    have hl : ∀ j : Nat, lat (out.set i (mixR (lat out (i : Int)) x)) (j : Int) = if j = i then mixR (lat out (i : Int)) x else lat out (j : Int) := fun j => by
      have := lat_set (l := out) (i := (i : Int)) (j := j) (x := mixR (lat out (i : Int)) x) ⟨by omega, by omega⟩
      rw [Int.toNat_natCast] at this
      rw [this]
      by_cases e : j = i
      . rw [if_pos (by omega), if_pos e]
      . rw [if_neg (by omega), if_neg e]
    have hkey : ∀ j : Nat, eqK (lat (out.set i (mixR (lat out (i : Int)) x)) (j : Int)) (lat out (j : Int)) := fun j => by
      rw [hl]
      split
      . rename_i e; subst e; exact ⟨rfl, rfl⟩
      . exact ⟨rfl, rfl⟩
    rw [hp]
    refine ⟨fun a b hab hb => ?_, fun a ha => ?_, fun y hy => ?_⟩
    . rw [List.length_set] at hb
      have := h.pw a b hab hb
      have k1 := hkey a
      have k2 := hkey b
      unfold ltK eqK at *; omega
    . rw [List.length_set] at ha
      rw [hl]
      split
      . exact (h.el i hi).mix he
      . rename_i e
        refine (h.el a ha).old fun hk => ?_
        rcases Nat.lt_or_gt_of_ne e with e | e
        . have := h.pw a i e hi; unfold ltK eqK at *; omega
        . have := h.pw i a e ha; unfold ltK eqK at *; omega
    . rcases List.mem_append.1 hy with hy | hy
      . obtain ⟨j, hj, hk⟩ := h.cov y hy
        have := hkey j
        exact ⟨j, by rw [List.length_set]; exact hj, by unfold eqK at *; omega⟩
      . rw [List.mem_singleton] at hy
        subst hy
        have := hkey i
        exact ⟨i, by rw [List.length_set]; exact hi, by unfold eqK at *; omega⟩
  . have hp : putM out x = insM out k x := by unfold putM; rw [if_neg hf, bsM_fst, h1, Int.toNat_natCast]
    have hne : ∀ j : Nat, j < out.length -> ¬ eqK (lat out (j : Int)) x := fun j hj he => hf (bs_hit h.pw hj he).1
    have hgt : ∀ j : Nat, k <= j -> j < out.length -> ltK x (lat out (j : Int)) := fun j hj hl => by
      have a := h4 j hj hl
      have b := hne j hl
      unfold ltK eqK at *; omega
    have hl : ∀ j : Nat, lat (insM out k x) (j : Int) = if j < k then lat out (j : Int) else if j = k then x else lat out ((j - 1 : Nat) : Int) := fun j => by
      rw [lat_insM h2]
      split
      . rfl
      . split
        . rfl
        . rw [show ((j : Int) - 1) = ((j - 1 : Nat) : Int) by omega]
    have hnl : ∀ y ∈ l, ¬ eqK y x := fun y hy he => by
      obtain ⟨j, hj, hk⟩ := h.cov y hy
      exact hne j hj ⟨by unfold eqK at *; omega, by unfold eqK at *; omega⟩
    rw [hp]
    refine ⟨fun a b hab hb => ?_, fun a ha => ?_, fun y hy => ?_⟩
    . rw [insM_len] at hb
      rw [hl, hl]
      by_cases c1 : a < k
      . rw [if_pos c1]
        by_cases c2 : b < k
        . rw [if_pos c2]; exact h.pw a b hab (by omega)
        . rw [if_neg c2]
          by_cases c3 : b = k
          . rw [if_pos c3]; exact h3 a c1
          . rw [if_neg c3]; exact h.pw a (b - 1) (by omega) (by omega)
      . rw [if_neg c1, if_neg (by omega : ¬ b < k), if_neg (by omega : ¬ b = k)]
        by_cases c2 : a = k
        . rw [if_pos c2]; exact hgt (b - 1) (by omega) (by omega)
        . rw [if_neg c2]; exact h.pw (a - 1) (b - 1) (by omega) (by omega)
    . rw [insM_len] at ha
      rw [hl]
      have swap : ∀ j : Nat, j < out.length -> ¬ eqK x (lat out (j : Int)) := fun j hj he => hne j hj ⟨he.1.symm, he.2.symm⟩
      split
      . exact (h.el a (by omega)).old (swap a (by omega))
      . split
        . exact Agg.new hnl
        . exact (h.el (a - 1) (by omega)).old (swap (a - 1) (by omega))
    . rcases List.mem_append.1 hy with hy | hy
      . obtain ⟨j, hj, hk⟩ := h.cov y hy
        by_cases c1 : j < k
        . exact ⟨j, by rw [insM_len]; omega, by rw [hl, if_pos c1]; exact hk⟩
        . exact ⟨j + 1, by rw [insM_len]; omega, by rw [hl, if_neg (by omega), if_neg (by omega)]; exact hk⟩
      . rw [List.mem_singleton] at hy
        subst hy
        exact ⟨k, by rw [insM_len]; omega, by rw [hl, if_neg (by omega), if_pos rfl]; exact ⟨rfl, rfl⟩⟩
theorem RgsOk.sorted {l : List Rg} (h : RgsOk l) : SortedR l := by
  intro i j hij
  induction j with
  | zero => omega
  | succ j ih =>
    intro hj
    have h1 := (cmpR_lt _ _).1 (h.ord j hj)
    rcases Nat.lt_or_ge i j with hlt | hge
    . have := ih hlt (by omega)
      unfold ltK at *; omega
    . have : i = j := by omega
      subst this
      exact h1
theorem allows_iff {l : List Rg} (hv : validRgs l = true) (op ver t : Int) : allowsM l op ver t = true ↔ ∃ i : Nat, i < l.length /\ ((lat l (i : Int)).op = op /\ (lat l (i : Int)).ver = ver) /\ 3 <= (lat l (i : Int)).nu /\ (lat l (i : Int)).le <= t /\ t <= (lat l (i : Int)).mo := by
  have hs := ((validRgs_iff l).1 hv).sorted
  unfold allowsM
  rw [decide_eq_true_eq]
  constructor
  . rintro ⟨_, h1, h2, h3, h4⟩
    obtain ⟨i, hi, he, hb⟩ := (bs_found _ hs).1 h1
    have hb : bsI l ⟨op, ver, 0, 0, 0⟩ = i := hb
    rw [hb] at h2 h3 h4
    exact ⟨i, hi, he, h2, h3, h4⟩
  . rintro ⟨i, hi, he, h2, h3, h4⟩
    obtain ⟨h1, hb⟩ := bs_hit (x := ⟨op, ver, 0, 0, 0⟩) hs hi he
    have hb : bsI l ⟨op, ver, 0, 0, 0⟩ = i := hb
    rw [hb]
    exact ⟨hv, h1, h2, h3, h4⟩
end Go.Lat
namespace Go.Lat
open Go.RowKit
def rowsM (n : Nat) (l : List Dn) : List (List Vis) := (List.range n).map fun i : Nat => (l.filter fun d => decide (d.j = (i : Int))).map (·.v)
def runR (sv : List Int) (jobs : List Job) : List (List Vis) × Int := if validJ sv jobs = true then (rowsM jobs.length (runM sv jobs), 0) else ([], 230)
theorem rowsM_len (n : Nat) (l : List Dn) : (rowsM n l).length = n := by simp [rowsM]
theorem rowsM_lat {n i : Nat} (l : List Dn) (h : i < n) : lat (rowsM n l) (i : Int) = (l.filter fun d => decide (d.j = (i : Int))).map (·.v) := by
  rw [lat_get (by simpa [rowsM] using h)]; simp [rowsM]
theorem rowsM_nil (n : Nat) : rowsM n [] = List.replicate n [] := by
  apply List.ext_getElem (by simp [rowsM])
  intro a h1 h2
  simp [rowsM]
theorem rowsM_snoc {n i : Nat} (l : List Dn) {d : Dn} (hi : i < n) (hd : d.j = i) : rowsM n (l ++ [d]) = (rowsM n l).set i (lat (rowsM n l) (i : Int) ++ [d.v]) := by
  apply List.ext_getElem (by simp [rowsM])
  intro a h1 h2
  have ha : a < n := by simpa [rowsM] using h1
  rw [List.getElem_set]
  by_cases e : i = a
  . rw [if_pos e, rowsM_lat _ hi]
    subst e
    simp [rowsM, hd]
  . rw [if_neg e]
    have : ¬ (i : Int) = (a : Int) := by omega
    simp [rowsM, hd, this]
def stR (jobs : List Job) (r0 : List (List Vis)) (r1 : List (Vector Int 4)) (r2 : List Int) : RunS :=
  ⟨r1, (List.range jobs.length).map fun i : Nat => ⟨((lat r0 (i : Int)).length : Nat), ((lat jobs (i : Int)).wk.length : Nat), lat r2 (i : Int)⟩⟩
theorem stR_lat {jobs : List Job} (r0 : List (List Vis)) (r1 : List (Vector Int 4)) (r2 : List Int) {i : Nat} (h : i < jobs.length) :
    lat (stR jobs r0 r1 r2).ss (i : Int) = ⟨((lat r0 (i : Int)).length : Nat), ((lat jobs (i : Int)).wk.length : Nat), lat r2 (i : Int)⟩ := by
  rw [lat_get (by simpa [stR] using h)]; simp [stR]
theorem stR_len (jobs : List Job) (r0 : List (List Vis)) (r1 : List (Vector Int 4)) (r2 : List Int) : (stR jobs r0 r1 r2).ss.length = jobs.length := by simp [stR]
theorem stR_init {sv : List Int} {jobs : List Job} {r2 : List Int} (h : r2 = jobs.map (·.ar)) : stR jobs (List.replicate jobs.length []) (List.replicate sv.length (Vector.replicate 4 0)) r2 = initM sv jobs := by
  unfold stR initM
  congr 1
  apply List.ext_getElem (by simp)
  intro a h1 h2
  have ha : a < jobs.length := by simpa using h1
  subst h
  simp only [List.getElem_map, List.getElem_range]
  rw [lat_get (by simpa using ha), lat_get ha, lat_get (by simpa using ha)]
  simp
theorem stR_next {sv : List Int} {jobs : List Job} {r0 : List (List Vis)} {r1 : List (Vector Int 4)} {r2 : List Int} {i : Nat} (hi : i < jobs.length) (l0 : r0.length = jobs.length) (l2 : r2.length = jobs.length) :
    nextM sv jobs (stR jobs r0 r1 r2) i = stR jobs (r0.set i (lat r0 (i : Int) ++ [visM sv jobs (stR jobs r0 r1 r2) i]))
      (r1.set (workM jobs (stR jobs r0 r1 r2) i).st.toNat (vset (lat r1 (workM jobs (stR jobs r0 r1 r2) i).st) (slotM sv (stR jobs r0 r1 r2) (workM jobs (stR jobs r0 r1 r2) i).st).toNat (visM sv jobs (stR jobs r0 r1 r2) i).en)) (r2.set i (visM sv jobs (stR jobs r0 r1 r2) i).en) := by
  unfold nextM
  simp only
  generalize visM sv jobs (stR jobs r0 r1 r2) i = v
  generalize workM jobs (stR jobs r0 r1 r2) i = w
  generalize (slotM sv (stR jobs r0 r1 r2) w.st).toNat = k
  have e : ((stR jobs r0 r1 r2).ss.set (Int.toNat i) ⟨(lat (stR jobs r0 r1 r2).ss i).dn + 1, (lat (stR jobs r0 r1 r2).ss i).al, v.en⟩ : List Sta) = (stR jobs (r0.set i (lat r0 (i : Int) ++ [v])) r1 (r2.set i v.en)).ss := by
    rw [stR_lat _ _ _ hi]
    apply List.ext_getElem (by simp [stR])
    intro a h1 h2
    have ha : a < jobs.length := by simpa [stR] using h2
    rw [List.getElem_set]
    have e0 := lat_set (l := r0) (i := (i : Int)) (j := a) (x := lat r0 (i : Int) ++ [v]) ⟨by omega, by omega⟩
    have e2 := lat_set (l := r2) (i := (i : Int)) (j := a) (x := v.en) ⟨by omega, by omega⟩
    rw [Int.toNat_natCast] at e0 e2
    by_cases c : i = a
    . rw [if_pos (by omega)]
      rw [if_pos (by omega)] at e0 e2
      subst c
      simp only [stR, List.getElem_map, List.getElem_range]
      rw [e0, e2]
      simp
    . rw [if_neg (by omega)]
      rw [if_neg (by omega)] at e0 e2
      simp only [stR, List.getElem_map, List.getElem_range]
      rw [e0, e2]
  rw [e]
  rfl
def scanR (jobs : List Job) (r0 : List (List Vis)) (r1 : List (Vector Int 4)) (r2 : List Int) (i : Nat) : Int := leastN (fun s : Sta => decide (s.dn < s.al)) (·.rd) (stR jobs r0 r1 r2).ss i
theorem scanR_b (jobs : List Job) (r0 : List (List Vis)) (r1 : List (Vector Int 4)) (r2 : List Int) (i : Nat) : scanR jobs r0 r1 r2 i < 0 \/ ∃ k : Nat, scanR jobs r0 r1 r2 i = k /\ k < i := by
  unfold scanR
  rcases leastN_spec (fun s : Sta => decide (s.dn < s.al)) (·.rd) (stR jobs r0 r1 r2).ss i with ⟨h1, _⟩ | ⟨j, h1, h2, _⟩
  . exact .inl (by omega)
  . exact .inr ⟨j, h1, h2⟩
theorem scanR_succ {jobs : List Job} {r0 : List (List Vis)} {r1 : List (Vector Int 4)} {r2 : List Int} {i : Nat} (h : i < jobs.length) :
    scanR jobs r0 r1 r2 (i + 1) = if (((lat r0 (i : Int)).length : Nat) : Int) < (((lat jobs (i : Int)).wk.length : Nat) : Int) /\ (scanR jobs r0 r1 r2 i < 0 \/ lat r2 (i : Int) < lat r2 (scanR jobs r0 r1 r2 i)) then (i : Int) else scanR jobs r0 r1 r2 i := by
  have e : scanR jobs r0 r1 r2 (i + 1) = leastStep (fun s : Sta => decide (s.dn < s.al)) (·.rd) (stR jobs r0 r1 r2).ss (scanR jobs r0 r1 r2 i) i := leastN_succ _ _ _ _
  rw [e]
  unfold leastStep
  rw [stR_lat _ _ _ h]
  have hd : (decide ((((lat r0 (i : Int)).length : Nat) : Int) < (((lat jobs (i : Int)).wk.length : Nat) : Int)) = true) = ((((lat r0 (i : Int)).length : Nat) : Int) < (((lat jobs (i : Int)).wk.length : Nat) : Int)) := by simp
  simp only [hd]
  rcases scanR_b jobs r0 r1 r2 i with hb | ⟨k, hb, hk⟩
  . simp only [hb, true_or]
  . rw [hb, stR_lat _ _ _ (by omega)]
theorem scanR_all (jobs : List Job) (r0 : List (List Vis)) (r1 : List (Vector Int 4)) (r2 : List Int) : scanR jobs r0 r1 r2 jobs.length = leastS (stR jobs r0 r1 r2).ss := by
  unfold scanR leastS leastM
  rw [stR_len]
def scanV (M : Vector Int 4) (n : Int) (q : Nat) : Int := leastN (fun _ : Int => true) (fun n => n) (M.toList.take n.toNat) q
theorem scanV_b (M : Vector Int 4) (n : Int) {q : Nat} (hq : 1 <= q) : ∃ k : Nat, scanV M n q = k /\ k < q := by
  unfold scanV
  rcases leastN_spec (fun _ : Int => true) (fun n => n) (M.toList.take n.toNat) q with ⟨_, h2⟩ | ⟨j, h1, h2, _⟩
  . exact absurd rfl (h2 0 hq)
  . exact ⟨j, h1, h2⟩
theorem scanV_one (M : Vector Int 4) (n : Int) : scanV M n 1 = 0 := by
  obtain ⟨k, h1, h2⟩ := scanV_b M n (q := 1) (by omega)
  rw [h1]; omega
theorem scanV_succ {M : Vector Int 4} {n : Int} {q : Nat} (h1 : 1 <= q) (h : (q : Int) < n) (h4 : n <= 4) : scanV M n (q + 1) = if vat M q < vat M (scanV M n q).toNat then (q : Int) else scanV M n q := by
  have e : scanV M n (q + 1) = leastStep (fun _ : Int => true) (fun n => n) (M.toList.take n.toNat) (scanV M n q) q := leastN_succ _ _ _ _
  rw [e]
  unfold leastStep
  obtain ⟨k, k1, k2⟩ := scanV_b M n h1
  rw [k1, take_vat M (by omega) (by omega), take_vat M (by omega) (by omega)]
  have : ¬ (k : Int) < 0 := by omega
  simp only [this, true_and, false_or, Int.toNat_natCast]
theorem scanV_all {M : Vector Int 4} {n : Int} (h : 0 <= n /\ n <= 4) : scanV M n n.toNat = leastI (M.toList.take n.toNat) := by
  unfold scanV leastI leastM
  rw [List.length_take, Vector.length_toList, Nat.min_eq_left (by omega)]
end Go.Lat
namespace Go.Lat
open Go.RowKit
deriving instance DecidableEq for Job
def fewM (r : Req) : Req := { r with jobs := r.jobs.take 8, ex := r.ex.take 8, causes := if r.causes = 6 then 5 else r.causes }
theorem runN_len (sv : List Int) (jobs : List Job) : ∀ (n : Nat) (s : RunS), (runN sv jobs n s).length <= n
  | 0, s => by simp [runN]
  | n + 1, s => by
    unfold runN
    split
    . simp
    . have := runN_len sv jobs n (nextM sv jobs s (leastS s.ss))
      rw [List.length_cons]; omega
theorem runM_len {sv : List Int} {jobs : List Job} (h : validJ sv jobs = true) : (runM sv jobs).length <= 144 := Nat.le_trans (runN_len _ _ _ _) (left_init h)
theorem endM_last (j : Int) : ∀ (l : List Dn) (o : Int), endM l j o = (((l.filter fun d => decide (d.j = j)).getLast?).map (·.v.en)).getD o
  | [], o => rfl
  | d :: l, o => by
    have e : endM (d :: l) j o = endM l j (if d.j = j then d.v.en else o) := rfl
    rw [e, endM_last j l, List.filter_cons]
    by_cases h : d.j = j
    . rw [if_pos h, if_pos (decide_eq_true h), List.getLast?_cons]
      generalize (l.filter fun d => decide (d.j = j)).getLast? = q
      cases q <;> rfl
    . rw [if_neg h, if_neg (by simpa using h)]
theorem endM_rows {n : Nat} {l : List Dn} {i : Nat} (hi : i < n) (o : Int) : endM l i o = if ((lat (rowsM n l) (i : Int)).length : Int) = 0 then o else (lat (lat (rowsM n l) (i : Int)) (((lat (rowsM n l) (i : Int)).length : Int) - 1)).en := by
  rw [endM_last, rowsM_lat _ hi, List.length_map]
  generalize (l.filter fun d => decide (d.j = (i : Int))) = m
  by_cases h : (m.length : Int) = 0
  . rw [if_pos h]
    have : m = [] := List.length_eq_zero_iff.1 (by omega)
    subst this; rfl
  . rw [if_neg h, show ((m.length : Int) - 1) = ((m.length - 1 : Nat) : Int) by omega, lat_get (by rw [List.length_map]; omega), List.getElem_map, List.getLast?_eq_getElem?, List.getElem?_eq_getElem (by omega)]
    rfl
end Go.Lat
namespace Go.Lat
open Go.RowKit
theorem withE_len (x : Req) (p : Int) : (withE x p).1.length <= 9223372036854775807 /\ ∀ j ∈ (withE x p).1, j.wk.length <= 9223372036854775807 := by
  unfold withE
  split
  . rename_i ks
    have kv : validR x = true := by unfold isSetM at ks; rw [Bool.and_eq_true] at ks; exact ks.1
    have hv := (validR_iff x).1 kv
    obtain ⟨h1, h2, h3⟩ := job_ok (hv.with_ok p)
    exact ⟨by simp only; omega, fun j hj => by have := (h3 j hj).1; omega⟩
  . exact ⟨by simp, fun j hj => by cases hj⟩
theorem vals_len (x : Req) : (valuesM x).1.length <= 9223372036854775807 := by
  unfold valuesM
  split
  . rename_i k
    have hv := (validR_iff x).1 k
    obtain ⟨c, hc, hc6⟩ : ∃ c : Nat, x.causes = c /\ c <= 6 := ⟨x.causes.toNat, by have := hv.causes; omega, by have := hv.causes; omega⟩
    have hp : 2 ^ c <= 64 := by rcases c with _ | _ | _ | _ | _ | _ | _ | c <;> first | decide | omega
    have hl : (rangeI (2 ^ c)).length = 2 ^ c := by simp [rangeI]
    rw [hc, Int.toNat_natCast]
    split
    . simp
    . rw [List.length_map]; omega
  . simp
end Go.Lat
namespace Go.Lat
open Go.RowKit
theorem ca_arr {h : List AObj} {id t : Nat} {xs : List Int} {i : Int} (ho : h[id]? = some (.box t (zYy zYx xs))) (hj : 0 <= i /\ i < ((xs.length : Nat) : Int)) : ∃ rest, cellsAt h (.ptr id i.toNat) = some (.int .i64 (lat xs i) :: rest) := by
  obtain ⟨rest, hr⟩ := encL_at wdInt xs i hj.1 hj.2
  rw [Nat.mul_one] at hr
  exact ⟨rest, by simp only [cellsAt, ho, hr]; rfl⟩
section
variable {X : Nat -> Prop} {D : List Deferred × Rho} {w0 : World} {mA : Mem} {r : Rho} {m : MM} {st : St} {a : Act} {w : World}
theorem live_len {t t' : TypeId} {sz sz' : Nat} {cs cs' : List AV} (h : cs'.length = cs.length) (hl : (AObj.row t sz cs').live = true) : (AObj.row t' sz' cs).live = true := by
  refine live_row ?_
  cases cs' with
  | nil => cases hl
  | cons => simp at h; omega
theorem R.reobjR (h : R X D w0 mA r m st a w) {j : Nat} {bt : TypeId} {sz : Nat} {bcs bcs' : List AV} (ho : st.heap[j]? = some (.row bt sz bcs)) (hl' : bcs'.length = bcs.length) (hk : OR r m w j (.row bt sz bcs')) : R X D w0 mA r m { st with heap := st.heap.set j (.row bt sz bcs') } a w := by
  have hlen : j < st.heap.length := by
    rcases Nat.lt_or_ge j st.heap.length with h1 | h1
    . exact h1
    . rw [List.getElem?_eq_none h1] at ho; cases ho
  have get : ∀ (i : Nat) oi, (st.heap.set j (.row bt sz bcs'))[i]? = some oi -> ∃ oo, st.heap[i]? = some oo /\ (oi.live = true -> oo.live = true) /\ (i = j /\ oi = .row bt sz bcs' /\ oo = .row bt sz bcs \/ oi = oo) := by
    intro i oi hi
    by_cases e : i = j
    . subst e
      rw [List.getElem?_set_self hlen] at hi
      cases hi
      exact ⟨_, ho, fun hl => live_len hl' hl, .inl ⟨rfl, rfl, rfl⟩⟩
    . rw [List.getElem?_set_ne (Ne.symm e)] at hi
      exact ⟨oi, hi, fun h => h, .inr rfl⟩
  refine { h with len := by simpa using h.len, lt := ?_, apart := ?_, obj := ?_, own := ?_, inj := ?_, nox := h.nox }
  . intro i oi b c hi hl hr
    obtain ⟨oo, h1, h2, -⟩ := get i oi hi
    exact h.lt i oo b c h1 (h2 hl) hr
  . intro p v hp i oi b c hi hl hr
    obtain ⟨oo, h1, h2, -⟩ := get i oi hi
    exact h.apart p v hp i oo b c h1 (h2 hl) hr
  . intro i oi hi
    obtain ⟨oo, h1, -, ⟨rfl, rfl, rfl⟩ | rfl⟩ := get i oi hi
    . exact hk
    . exact h.obj i oi h1
  . intro i oi b c hi hl hr
    obtain ⟨oo, h1, h2, -⟩ := get i oi hi
    exact h.own i oo b c h1 (h2 hl) hr
  . intro i k oi ok b c c' hi hk' hli hlk hri hrk
    obtain ⟨oo, h1, h2, -⟩ := get i oi hi
    obtain ⟨op, h3, h4, -⟩ := get k ok hk'
    exact h.inj i k oo op b c c' h1 h3 (h2 hli) (h4 hlk) hri hrk
theorem sealC_len {fl : Bool} {id sz k : Nat} {cs' : List AV} : ∀ {xs ys : List AV}, sealC fl id sz k cs' xs ys -> ys.length = xs.length
  | [], [], _ => rfl
  | [], _ :: _, h => h.elim
  | _ :: _, [], h => h.elim
  | x :: xs, y :: ys, h => by have := sealC_len (xs := xs) (ys := ys) h.2; simp [this]
theorem R.sealW (fl : Bool) (id j : Nat) {n sz bsz : Nat} {t bt : TypeId} {cs cs' bcs bcs' : List AV} {h h' : List AObj} {tm : Nat -> AV} {l : List (Nat × AV)} (ho : h[id]? = some (.row t sz cs)) (hb : h[j]? = some (.row bt bsz bcs)) (hc : SealVs fl cs cs')
    (hl : sealT fl id sz cs.length cs' tm l) (hbc : sealC fl id sz cs.length cs' bcs bcs') (hh : (h.set id .dead).set j (.row bt bsz bcs') = h') (hne : Nat.beq id j = false) (hR : R X D w0 mA r m ⟨n, tm, h, 0⟩ a w) : ∃ m', R X D w0 mA r m' ⟨n, look l, h', 0⟩ a w := by
  obtain ⟨m', hle, hR', hv⟩ := hR.sealH rfl fl ho hc
  subst hh
  have hne : id ≠ j := Nat.ne_of_beq_eq_false hne
  have hb' : (h.set id .dead)[j]? = some (.row bt bsz bcs) := by rw [List.getElem?_set_ne hne]; exact hb
  have low := hR.low
  have conv : ∀ (xs ys : List AV) (vs : List Value), sealC fl id sz cs.length cs' xs ys -> VRs r m xs vs -> VRs r m' ys vs := by
    intro xs
    induction xs with
    | nil => intro ys vs hs hv'; cases ys with
      | nil => simpa only [VRs] using hv'
      | cons => exact hs.elim
    | cons x xs ih => intro ys vs hs hv'; cases ys with
      | nil => exact hs.elim
      | cons y ys =>
        simp only [VRs] at hv' ⊢
        obtain ⟨v, vs', rfl, h1, h2⟩ := hv'
        refine ⟨v, vs', rfl, ?_, ih ys vs' hs.2 h2⟩
        rcases hs.1 with e | ⟨nb, n', e1, e2, e3⟩
        . rw [e]; exact VR.mono (RLe.refl r) hle x v h1
        . rw [e3]; rw [e1] at h1; exact hv nb n' _ e2 h1
  have hlen := sealC_len hbc
  have hR2 : R X D w0 mA r m' ⟨n, tm, (h.set id .dead).set j (.row bt bsz bcs'), 0⟩ a w := by
    refine hR'.reobjR hb' hlen ?_
    rcases hR.obj j _ hb with rfl | ⟨b, c, cur, e1, e2, e3, e4, e5, e6, e7⟩
    . exact .inl (List.eq_nil_of_length_eq_zero hlen)
    . exact .inr ⟨b, c, cur, e1, e2, by rw [hlen]; exact e3, e4, e5, by rw [hlen]; exact e6, by rw [hlen]; exact conv _ _ _ hbc e7⟩
  refine ⟨m', { hR2 with tmps := fun t => ?_, size' := hR2.size', nox := hR2.nox }⟩
  have key : ∀ (l : List (Nat × AV)), sealT fl id sz cs.length cs' tm l -> VR r m' (look l t) (a.tmps.getD t undef) := by
    intro l
    induction l with
    | nil => intro _; simp only [look, VR]
    | cons p l ih =>
      obtain ⟨q, v⟩ := p
      intro hl
      rw [look_cons]
      split
      . rename_i e
        subst e
        rcases hl.1 with e | ⟨nb, n', e1, e2, e3⟩
        . rw [e]; exact hR'.tmps t
        . rw [e3]
          exact hv nb n' _ e2 (by have := hR.tmps t; simp only at this; rw [e1] at this; exact this)
      . exact ih hl.2
  exact key l hl
theorem W.sealW {P : Program} {T : TT} {Q : Ex -> St -> Prop} {c : Code} (fl : Bool) (id j : Nat) {n sz bsz : Nat} {t bt : TypeId} {cs cs' bcs bcs' : List AV} {h h' : List AObj} {tm : Nat -> AV} {l : List (Nat × AV)} (ho : h[id]? = some (.row t sz cs)) (hb : h[j]? = some (.row bt bsz bcs)) (hc : SealVs fl cs cs')
    (hl : sealT fl id sz cs.length cs' tm l) (hbc : sealC fl id sz cs.length cs' bcs bcs') (hh : (h.set id .dead).set j (.row bt bsz bcs') = h') (hne : Nat.beq id j = false) (hw : W P T c ⟨n, look l, h', 0⟩ Q) : W P T c ⟨n, tm, h, 0⟩ Q := fun hT hf ro hro k X D w0 mA r m a w hR => by
  obtain ⟨m', hR'⟩ := R.sealW fl id j ho hb hc hl hbc hh hne hR
  exact hw hT hf ro hro k X D w0 mA r m' a w hR'
def St.goes (s : St) (K : St -> Prop) : Prop := ∀ (X : Nat -> Prop) (D : List Deferred × Rho) (w0 : World) (mA : Mem) (r : Rho) (m : MM) (a : Act) (w : World), R X D w0 mA r m s a w -> ∃ r' m' s', K s' /\ R X D w0 mA r' m' s' a w
theorem go_nil {s : St} {K : St -> Prop} (h : K s) : s.goes K := fun X D w0 mA r m a w hR => ⟨r, m, s, h, hR⟩
theorem go_sealW {K : St -> Prop} (fl : Bool) (id j : Nat) {n sz bsz : Nat} {t bt : TypeId} {cs cs' bcs bcs' : List AV} {h h' : List AObj} {tm : Nat -> AV} {l : List (Nat × AV)} (ho : h[id]? = some (.row t sz cs)) (hb : h[j]? = some (.row bt bsz bcs)) (hc : SealVs fl cs cs')
    (hl : sealT fl id sz cs.length cs' tm l) (hbc : sealC fl id sz cs.length cs' bcs bcs') (hh : (h.set id .dead).set j (.row bt bsz bcs') = h') (hne : Nat.beq id j = false) (hw : St.goes ⟨n, look l, h', 0⟩ K) : St.goes ⟨n, tm, h, 0⟩ K := fun X D w0 mA r m a w hR => by
  obtain ⟨m', hR'⟩ := R.sealW fl id j ho hb hc hl hbc hh hne hR
  exact hw X D w0 mA r m' a w hR'
theorem W.rL1g {P : Program} {T : TT} {Q : Ex -> St -> Prop} {st : St} {id : Nat} {ol : List Oper} (h1 : seqL P T ol [] 0 ol st fun s => s.goes (Q .nrm)) : W P T (.region id ol.toArray false) st Q := fun hT _ ro _ n X D w0 mA r m a w hR =>
  wpIn_region_list (seqL_sound hT (fun s r' m' a' w' hs hR' => by
    obtain ⟨r2, m2, s2, h2, hR2⟩ := hs _ _ _ _ _ _ _ _ hR'
    exact ⟨[], r2, m2, s2, fun _ => rfl, h2, hR2⟩) ol 0 hR h1)
end
end Go.Lat
namespace Go.Lat
open Go.RowKit
def StepS (P : Program) (T : TT) (o : Oper) (st : St) (K : AV -> List AObj -> Prop) : Prop :=
  TsOk P T -> ∀ (ro : Option Nat) (n : Nat) (X : Nat -> Prop) (D : List Deferred × Rho) (w0 : World) (mA : Mem) (r : Rho) (m : MM) (a : Act) (w : World) (next : Act -> World -> Prop) (Q : Exit -> Act -> World -> Prop), R X D w0 mA r m st a w →
    (∀ x h' r' m' u w', K x h' -> R X D w0 mA r' m' { st with heap := h' } a w' -> VR r' m' x u -> next (a.put o.dst u) w') -> o.wpIn (FW ro) n P a w next Q
def seqS (P : Program) (T : TT) (ops : List Oper) : List Oper -> St -> (St -> Prop) -> Prop
  | [], st, K => K st
  | o :: l, st, K => (o.guard = none /\ StepS P T o st fun v h => seqS P T ops l ({ st with heap := h }.put o.dst v) K) \/ stepG P T ops o st fun s => seqS P T ops l s K
section
variable {X : Nat -> Prop} {D : List Deferred × Rho} {w0 : World} {mA : Mem} {P : Program} {T : TT}
end
section
variable {P : Program} {T : TT} {ops rest : List Oper} {o : Op} {ty : TypeId} {pos : String} {af : Array Edge} {n : Nat} {l : List (Nat × AV)} {h h' : List AObj} {b : Nat} {K : AV -> List AObj -> Prop} {KS : St -> Prop} {Q : Ex -> St -> Prop} {c : Code} {st : St}
end
theorem callG_mk {P : Program} {h H0 : List AObj} {f : AV} {args ys args0 fst caps : List AV} {k : FuncId} {Post : AV -> List AObj -> Prop} {K : AV -> List AObj -> Prop} (hf : f = .clo k fst caps) (ha : args = ys) (spec : FnG P k H0 args0 Post) (hU : UpH h H0) (hA : Ups (fst ++ ys ++ caps) args0) (hk : ∀ x H', Post x H' -> K x H') : callG P h f args K := by
  subst hf; subst ha
  exact ⟨H0, args0, Post, spec, hU, hA, hk⟩
theorem UpH.self {h : List AObj} (H : ∀ o ∈ h, UpO o o) : UpH h h := ⟨rfl, fun i o' hi _ => ⟨o', hi, H o' (List.mem_of_getElem? hi)⟩⟩
section
variable {P : Program} {T : TT} {d : Option Tmp} {ty : TypeId} {pos : String} {af : Array Edge} {g : Option (Nat × Bool)} {n : Nat} {l : List (Nat × AV)} {h : List AObj} {b : Nat} {K : AV -> List AObj -> Prop} {a a2 : Operand}
def OvF (P : Program) (k : FuncId) : Prop := ∃ fn t tr e, P.funcs[k]? = some fn /\ (fn.name == "runtime.NumGoroutine") = false /\ fn.body.isNone = true /\ Extern.findNext fn = none /\ Extern.find fn = some (Extern.SlicesOverlaps.overlaps #[t, t] #[tr]) /\ P.underlying t = some (.slice e) /\ ∃ size, ∀ w, (Go.sizeOf e).run P w = .ok size w
end
theorem Ren.cutR {φ : List (Option Nat)} {nb : Bool} {id j n cp : Nat} (hφ : φ[j]? = some (some id)) (h0 : 0 < n) : Ren φ (.cut true id 0 0 n cp) (.ref nb j n) := fun r m v _ hv => by
  simp only [VR] at hv ⊢
  rcases hv with ⟨hc, _⟩ | ⟨b, c, h1, h2, h3, h4, h5⟩
  . cases hc
  have := h4 trivial
  exact .inr ⟨h0, b, c, rmap_get hφ h1, by omega, by rw [h5]; congr 1; omega⟩
section
variable {P : Program} {T : TT} {Q : Ex -> St -> Prop} {c : Code}
theorem W.cutR {nt t id n : Nat} {nb : Bool} {l : List (Nat × AV)} {h : List AObj} {b : Nat} (hl : look l t = .ref nb id n) (h0 : 0 < n) (hw : ∀ cp, n <= cp -> W P T c ⟨nt, look ((t, .cut true id 0 0 n cp) :: l), h, b⟩ Q) : W P T c ⟨nt, look l, h, b⟩ Q := fun hT hf ro hro k X D w0 mA r m a w hR => by
  have hv := hR.tmps t
  simp only [hl, VR] at hv
  rcases hv with ⟨hz, _⟩ | ⟨_, b', c', hb, hle, hv⟩
  . omega
  refine hw c' hle hT hf ro hro k X D w0 mA r m a w { hR with tmps := fun t' => ?_, size' := hR.size', nox := hR.nox }
  show VR r m (look ((t, .cut true id 0 0 n c') :: l) t') _
  rw [look_cons]
  split
  . rename_i e
    subst e
    simp only [VR]
    exact .inr ⟨b', c', hb, hle, by omega, fun _ => by omega, hv⟩
  . exact hR.tmps t'
def mvT (id q : Nat) (tm : Nat -> AV) : List (Nat × AV) -> Prop
  | [] => True
  | (t, v) :: l => (∃ nb n cp, tm t = .cut true id 0 0 n cp /\ 0 < n /\ v = .ref nb q n) /\ mvT id q tm l
end
end Go.Lat
namespace Go.Lat
open Go.RowKit
/-! ### Shorter words for the walks -/
def mvA (tm : Nat -> AV) : List (Nat × AV) -> List AV
  | [] => []
  | x :: l => tm x.1 :: mvA tm l
def vsA : List (Nat × AV) -> List AV
  | [] => []
  | x :: l => x.2 :: vsA l
theorem regs_of {tm : Nat -> AV} : ∀ {l : List (Nat × AV)}, mvA tm l = vsA l -> regsL tm l
  | [], _ => trivial
  | (t, v) :: l, h => by
    simp only [mvA, vsA, List.cons.injEq] at h
    exact ⟨h.1, regs_of h.2⟩
theorem W.tz {P : Program} {T : TT} {c : Code} {n : Nat} {h : List AObj} {b : Nat} {Q : Ex -> St -> Prop} {tm : Nat -> AV} (l' : List (Nat × AV)) (h' : List AObj) (hl : mvA tm l' = vsA l') (hh : h = h') (hw : W P T c ⟨n, look l', h', b⟩ Q) : W P T c ⟨n, tm, h, b⟩ Q := W.tr l' h' (regs_of hl) hh hw
theorem W.ty {P : Program} {T : TT} {c : Code} {n : Nat} {h : List AObj} {b : Nat} {Q : Ex -> St -> Prop} {tm : Nat -> AV} (l' : List (Nat × AV)) (hl : mvA tm l' = vsA l') (hw : W P T c ⟨n, look l', h, b⟩ Q) : W P T c ⟨n, tm, h, b⟩ Q := W.tr l' h (regs_of hl) rfl hw
def clA : List AV -> Bool
  | [] => true
  | x :: l => clV x && clA l
theorem zR {φ : List (Option Nat)} : ∀ {xs : List AV}, clA xs = true -> Rens φ xs xs
  | [], _ => Rens.nil
  | x :: l, h => by
    simp only [clA, Bool.and_eq_true] at h
    exact Rens.cons (Ren.cl h.1) (zR h.2)
theorem zT {φ : List (Option Nat)} {tm : Nat -> AV} : ∀ {l : List (Nat × AV)}, mvA tm l = vsA l -> clA (vsA l) = true -> regsT φ tm l
  | [], _, _ => trivial
  | (t, v) :: l, h, k => by
    simp only [mvA, vsA, List.cons.injEq] at h
    simp only [vsA, clA, Bool.and_eq_true] at k
    exact ⟨h.1 ▸ Ren.cl (h.1 ▸ k.1), zT h.2 k.2⟩
theorem zB {φ : List (Option Nat)} {h : List AObj} {k t : Nat} {cs : List AV} (h1 : h[k]? = some (.box t cs)) (h2 : clA cs = true) : ((AObj.box t cs) = .dead \/ ∃ o0, h[k]? = some o0 /\ RenO φ o0 (.box t cs)) := .inr ⟨_, h1, rfl, zR h2⟩
theorem zE {φ : List (Option Nat)} {h : List AObj} {k t s : Nat} {α : Type} {ef : Bool -> α -> List AV} {sz : Nat} (he : Enc ef sz) (fl : Bool) (xs : List α) (h1 : h[k]? = some (.row t s (zYy (ef fl) xs))) : ((AObj.row t s (zYy (ef fl) xs)) = .dead \/ ∃ o0, h[k]? = some o0 /\ RenO φ o0 (.row t s (zYy (ef fl) xs))) := .inr ⟨_, h1, rfl, rfl, rfl, Rens.enc he fl xs⟩
theorem zk {x : List AV} : Wks x x := Wks.refl x
end Go.Lat
namespace Go.Lat
open Go.RowKit Go.Proofs
attribute [local irreducible] seqL opC
def vc_example  (Post : Req -> Prop) : Prop :=
  Post (Req.mk [(1 : Int)] [(Job.mk 0 [(Ld.mk 0 5)]), (Job.mk 2 [(Ld.mk 0 3)])] (1 : Int) (2 : Int) (2 : Int) [(Ext.mk 0 0 0 1 0 0), (Ext.mk 1 0 1 2 0 0)])
theorem walk_example  {Post : Req -> Prop} (hv : vc_example Post) : FnP Try.prog 30 [] (fun x => ∃ q0, x = .agg ((e26 false) q0) /\ Post q0) := by
 refine FnP.of_walk (T := tt) (nt := 16) ttOk ttMix ⟨⟨Try.f30, Try.func30, rfl, rfl, rfl, rfl⟩⟩ (by simp) ?_
 unfold vc_example at hv
 change W _ _ _ ⟨16, look [], [], 0⟩ _
 refine W.ty [] rfl (W.rL (cL rfl (zXy (p := 0) tt26 rfl rfl (eL (W.ty [(0, .ptr _ _)] rfl (W.rL (cL rfl (o_bs1 (v := .int _ _) (q := 1) tt22 tt3 rfl rfl rfl rfl rfl rfl rfl rfl (cL rfl (o_build (qs := [(1, .int _ _)]) (cs := [.int _ _, .int _ _]) tt60 rfl rfl rfl (cL rfl (o_bs1 (v := .agg _) (q := 2) tt51 tt60 rfl rfl rfl rfl rfl rfl rfl rfl (cL rfl (o_build (qs := [(1, .ref _ _ _)]) (cs := [.int _ _, .ref _ _ _]) tt53 rfl rfl rfl (cL rfl (o_build (qs := [(1, .int _ _)]) (cs := [.int _ _, .int _ _]) tt60 rfl rfl rfl (cL rfl (o_bs1 (v := .agg _) (q := 3) tt51 tt60 rfl rfl rfl rfl rfl rfl rfl rfl (cL rfl (o_build (qs := [(0, .int _ _), (1, .ref _ _ _)]) (cs := [.int _ _, .ref _ _ _]) tt53 rfl rfl rfl (cL rfl (o_buildS (q := 4) (qs := [(0, .agg _), (1, .agg _)]) (cs := [.int _ _, .ref _ _ _, .int _ _, .ref _ _ _]) tt23 tt53 rfl rfl rfl rfl (cL rfl (o_build (qs := [(0, .ref _ _ _), (1, .ref _ _ _), (2, .int _ _), (3, .int _ _), (4, .int _ _)]) (cs := [.ref _ _ _, .ref _ _ _, .int _ _, .int _ _, .int _ _, .nilS]) tt26 rfl rfl rfl (cL rfl (zXy (p := 5) tt26 rfl rfl (cLn (o_stB (v := .agg _) (vs := [.ref _ _ _, .ref _ _ _, .int _ _, .int _ _, .int _ _, .nilS]) (cs2 := [.ref _ _ _, .ref _ _ _, .int _ _, .int _ _, .int _ _, .nilS]) tt26 rfl rfl rfl rfl rfl (Nat.le_of_ble_eq_true rfl) rfl (eL (W.ty [(0, .ptr _ _), (1, .ptr _ _)] rfl (W.sealW false 2 4 (bcs := [.int .i64 (0 : Int), .ref false 2 1, .int .i64 (2 : Int), .ref false 3 1]) (bcs' := [.int .i64 (0 : Int), .lst false [(Ld.mk 0 5)].length (zYy e60 [(Ld.mk 0 5)]), .int .i64 (2 : Int), .ref false 3 1]) (l := [(0, .ptr 0 0), (1, .ptr 5 0)]) rfl rfl (encL_sl enc60 false [(Ld.mk 0 5)]) ⟨.inl rfl, .inl rfl, trivial⟩ ⟨.inl rfl, .inr ⟨_, _, rfl, rfl, rfl⟩, .inl rfl, .inl rfl, trivial⟩ rfl rfl (W.sealW false 3 4 (bcs := [.int .i64 (0 : Int), .lst false [(Ld.mk 0 5)].length (zYy e60 [(Ld.mk 0 5)]), .int .i64 (2 : Int), .ref false 3 1]) (bcs' := [.int .i64 (0 : Int), .lst false [(Ld.mk 0 5)].length (zYy e60 [(Ld.mk 0 5)]), .int .i64 (2 : Int), .lst false [(Ld.mk 0 3)].length (zYy e60 [(Ld.mk 0 3)])]) (l := [(0, .ptr 0 0), (1, .ptr 5 0)]) rfl rfl (encL_sl enc60 false [(Ld.mk 0 3)]) ⟨.inl rfl, .inl rfl, trivial⟩ ⟨.inl rfl, .inl rfl, .inl rfl, .inr ⟨_, _, rfl, rfl, rfl⟩, trivial⟩ rfl rfl (W.rL (cL rfl (o_build (qs := [(3, .int _ _)]) (cs := [.int _ _, .int _ _, .int _ _, .int _ _, .int _ _, .int _ _]) tt58 rfl rfl rfl (cL rfl (o_build (qs := [(0, .int _ _), (2, .int _ _), (3, .int _ _)]) (cs := [.int _ _, .int _ _, .int _ _, .int _ _, .int _ _, .int _ _]) tt58 rfl rfl rfl (cL rfl (o_buildS (q := 6) (qs := [(0, .agg _), (1, .agg _)]) (cs := [.int _ _, .int _ _, .int _ _, .int _ _, .int _ _, .int _ _, .int _ _, .int _ _, .int _ _, .int _ _, .int _ _, .int _ _]) tt24 tt58 rfl rfl rfl rfl (cL rfl (o_fa tt26 rfl tt24 rfl ?_)))))))))))))))))))))))))))))))))))))))))
 refine cLn (o_stB (v := .ref _ _ _) (vs := [.ref _ _ _]) (cs2 := [.ref _ _ _, .ref _ _ _, .int _ _, .int _ _, .int _ _, .ref _ _ _]) tt24 rfl rfl rfl rfl rfl (Nat.le_of_ble_eq_true rfl) rfl (eL (W.ty [(0, .ptr _ _), (1, .ptr _ _)] rfl (W.rL (cL rfl (zYp (cs := [.ref _ _ _, .ref _ _ _, .int _ _, .int _ _, .int _ _, .ref _ _ _]) tt26 rfl rfl ⟨_, rfl⟩ rfl (cLn (o_stB (v := .agg _) (vs := [.ref _ _ _, .ref _ _ _, .int _ _, .int _ _, .int _ _, .ref _ _ _]) (cs2 := [.ref _ _ _, .ref _ _ _, .int _ _, .int _ _, .int _ _, .ref _ _ _]) tt26 rfl rfl rfl rfl rfl (Nat.le_of_ble_eq_true rfl) rfl (eL (W.ty [(0, .ptr _ _)] rfl (W.ret (rt (rt_c (x := .ptr _ _) rfl (ldA (cs := [.ref _ _ _, .ref _ _ _, .int _ _, .int _ _, .int _ _, .ref _ _ _]) tt26 rfl ⟨_, rfl⟩ rfl (rt_n (⟨_, rs_agg 5 _ (Wks.cons (rs_ref zZw 3 _ rfl rfl) (Wks.cons (rs_ref enc53 3 _ rfl rfl) (Wks.cons (zY _ _ _ _) (Wks.cons (zY _ _ _ _) (Wks.cons (zY _ _ _ _) (Wks.cons (rs_ref enc58 3 _ rfl rfl) zk)))))), (Req.mk [(1 : Int)] [(Job.mk 0 [(Ld.mk 0 5)]), (Job.mk 2 [(Ld.mk 0 3)])] (1 : Int) (2 : Int) (2 : Int) [(Ext.mk 0 0 0 1 0 0), (Ext.mk 1 0 1 2 0 0)]), rfl, hv⟩))))))))))))))))
set_option maxHeartbeats 4000000 in
theorem vcp_example   : vc_example (fun q0 => q0 = (exR)) := by
  rfl
theorem spec_example   : FnP Try.prog 30 [] (fun xR => xR = .agg ((e26 false) (exR))) :=
  (walk_example (vcp_example)).mono (by rintro _ ⟨_, rfl, rfl⟩; rfl)
def vc_isIn (n : Int) (lo : Int) (hi : Int) (Post : Bool -> Prop) : Prop :=
  Post (decide ((lo <= n) /\ (n <= hi)))
theorem walk_isIn {n : Int} {lo : Int} {hi : Int} {Post : Bool -> Prop} (hv : vc_isIn n lo hi Post) : FnP Try.prog 33 [.int .i64 n, .int .i64 lo, .int .i64 hi] (fun x => ∃ q0, x = .bool q0 /\ Post q0) := by
 refine FnP.of_walk (T := tt) (nt := 15) ttOk ttMix ⟨⟨Try.f33, Try.func33, rfl, rfl, rfl, rfl⟩⟩ (by simp) ?_
 unfold vc_isIn at hv
 change W _ _ _ ⟨15, look [(0, .int .i64 n), (1, .int .i64 lo), (2, .int .i64 hi)], [], 0⟩ _
 refine W.ty [(0, .int _ _), (1, .int _ _), (2, .int _ _)] rfl (W.rL (aB rfl rfl (eL (W.ty [(0, .int _ _), (1, .int _ _), (2, .int _ _)] rfl (W.rLm ⟨15, look [(6, .bool (decide ((lo <= n) /\ (n <= hi))))], [], 0⟩ ?_ ?_)))))
 iterate 2 refine mI rfl rfl ?_
 refine cL rfl (o_leq rfl rfl (mB rfl rfl ?_))
 by_cases c1 : lo <= n
 refine cLg rfl rfl (dT c1) (mI rfl rfl (cLg rfl rfl (dT c1) (mI rfl rfl (cLg rfl rfl (dT c1) (cL rfl (o_leq rfl rfl (cL rfl (zZv (v := .bool _) rfl (dT c1) rfl (aB rfl rfl (eL (zYz ⟨(congrArg AV.bool (zXv c1 (rfl))).symm, trivial⟩ rfl)))))))))))
 iterate 3 refine cLs rfl rfl rfl (dF c1) ?_
 refine cL rfl (zZy (v := .bool _) rfl (dF c1) rfl (aB rfl rfl (eL (zYz ⟨(congrArg AV.bool (dAndF c1)).symm, trivial⟩ rfl))))
 refine W.ret (rt (rt_t (v := .bool _) rfl (rt_n (⟨_, zYr _ _ _, (decide ((lo <= n) /\ (n <= hi))), rfl, hv⟩))))
set_option maxHeartbeats 4000000 in
theorem vcp_isIn (n : Int) (lo : Int) (hi : Int)  : vc_isIn n lo hi (fun q0 => q0 = (inM n lo hi)) := by
  unfold vc_isIn
  unfold inM
  rfl
theorem spec_isIn (n : Int) (lo : Int) (hi : Int)  : FnP Try.prog 33 [.int .i64 n, .int .i64 lo, .int .i64 hi] (fun xR => xR = .bool (inM n lo hi)) :=
  (walk_isIn (vcp_isIn n lo hi)).mono (by rintro _ ⟨_, rfl, rfl⟩; rfl)
def vc_inr (n : Int) (lo : Int) (hi : Int) (Post : Bool -> Prop) : Prop :=
  Post (decide ((lo <= n) /\ (n <= hi)))
theorem walk_inr {n : Int} {lo : Int} {hi : Int} {Post : Bool -> Prop} (hv : vc_inr n lo hi Post) : FnP Try.prog 47 [.int .i64 n, .int .i64 lo, .int .i64 hi] (fun x => ∃ q0, x = .bool q0 /\ Post q0) := by
 refine FnP.of_walk (T := tt) (nt := 15) ttOk ttMix ⟨⟨Try.f47, Try.func47, rfl, rfl, rfl, rfl⟩⟩ (by simp) ?_
 unfold vc_inr at hv
 change W _ _ _ ⟨15, look [(0, .int .i64 n), (1, .int .i64 lo), (2, .int .i64 hi)], [], 0⟩ _
 refine W.ty [(0, .int _ _), (1, .int _ _), (2, .int _ _)] rfl (W.rL (aB rfl rfl (eL (W.ty [(0, .int _ _), (1, .int _ _), (2, .int _ _)] rfl (W.rLm ⟨15, look [(6, .bool (decide ((lo <= n) /\ (n <= hi))))], [], 0⟩ ?_ ?_)))))
 iterate 2 refine mI rfl rfl ?_
 refine cL rfl (o_geq rfl rfl (mB rfl rfl ?_))
 by_cases c1 : lo <= n
 refine cLg rfl rfl (dT c1) (mI rfl rfl (cLg rfl rfl (dT c1) (mI rfl rfl (cLg rfl rfl (dT c1) (cL rfl (o_leq rfl rfl (cL rfl (zZv (v := .bool _) rfl (dT c1) rfl (aB rfl rfl (eL (zYz ⟨(congrArg AV.bool (zXv c1 (rfl))).symm, trivial⟩ rfl)))))))))))
 iterate 3 refine cLs rfl rfl rfl (dF c1) ?_
 refine cL rfl (zZy (v := .bool _) rfl (dF c1) rfl (aB rfl rfl (eL (zYz ⟨(congrArg AV.bool (dAndF c1)).symm, trivial⟩ rfl))))
 refine W.ret (rt (rt_t (v := .bool _) rfl (rt_n (⟨_, zYr _ _ _, (decide ((lo <= n) /\ (n <= hi))), rfl, hv⟩))))
set_option maxHeartbeats 4000000 in
theorem vcp_inr (n : Int) (lo : Int) (hi : Int)  : vc_inr n lo hi (fun q0 => q0 = (inM n lo hi)) := by
  unfold vc_inr
  unfold inM
  rfl
theorem spec_inr (n : Int) (lo : Int) (hi : Int)  : FnP Try.prog 47 [.int .i64 n, .int .i64 lo, .int .i64 hi] (fun xR => xR = .bool (inM n lo hi)) :=
  (walk_inr (vcp_inr n lo hi)).mono (by rintro _ ⟨_, rfl, rfl⟩; rfl)
def vc_mvalid (sv : (List Int)) (jobs : (List Job)) (Post : Bool -> Prop) : Prop :=
  (((¬ ((inM (sv.length : Int) (1 : Int) (6 : Int)) = true)) \/ ((24 : Int) < (jobs.length : Int))) -> Post false) /\ (¬ ((¬ ((inM (sv.length : Int) (1 : Int) (6 : Int)) = true)) \/ ((24 : Int) < (jobs.length : Int))) -> ∃ (I1 : Int -> Prop) (μ1 : Int -> Nat), I1 (0 : Int) /\ ∀ (v22 : Int), I1 v22 -> ((v22 < (sv.length : Int)) -> (0 <= v22 /\ v22 < (sv.length : Int)) /\ ((¬ ((inM (lat sv v22) (1 : Int) (4 : Int)) = true)) -> Post false) /\ (¬ (¬ ((inM (lat sv v22) (1 : Int) (4 : Int)) = true)) -> (inI (v22 + (1 : Int))) /\ (I1 (v22 + (1 : Int)) /\ μ1 (v22 + (1 : Int)) < μ1 v22))) /\ (¬ (v22 < (sv.length : Int)) -> ∃ (I2 : Int -> Prop) (μ2 : Int -> Nat), I2 (0 : Int) /\ ∀ (v32 : Int), I2 v32 -> ((v32 < (jobs.length : Int)) -> (0 <= v32 /\ v32 < (jobs.length : Int)) /\ (((¬ ((inM ((lat jobs v32).ar) (0 : Int) (4398046511104 : Int)) = true)) \/ ((6 : Int) < (((lat jobs v32).wk).length : Int))) -> Post false) /\ (¬ ((¬ ((inM ((lat jobs v32).ar) (0 : Int) (4398046511104 : Int)) = true)) \/ ((6 : Int) < (((lat jobs v32).wk).length : Int))) -> ∃ (I3 : Int -> Prop) (μ3 : Int -> Nat), I3 (0 : Int) /\ ∀ (v49 : Int), I3 v49 -> ((v49 < (((lat jobs v32).wk).length : Int)) -> (0 <= v49 /\ v49 < (((lat jobs v32).wk).length : Int)) /\ ((inI ((sv.length : Int) - (1 : Int))) /\ True) /\ ((((¬ ((inM ((lat ((lat jobs v32).wk) v49).st) (0 : Int) ((sv.length : Int) - (1 : Int))) = true)) \/ (¬ ((inM ((lat ((lat jobs v32).wk) v49).tm) (0 : Int) (1099511627776 : Int)) = true))) -> Post false) /\ (¬ ((¬ ((inM ((lat ((lat jobs v32).wk) v49).st) (0 : Int) ((sv.length : Int) - (1 : Int))) = true)) \/ (¬ ((inM ((lat ((lat jobs v32).wk) v49).tm) (0 : Int) (1099511627776 : Int)) = true))) -> (inI (v49 + (1 : Int))) /\ (I3 (v49 + (1 : Int)) /\ μ3 (v49 + (1 : Int)) < μ3 v49)))) /\ (¬ (v49 < (((lat jobs v32).wk).length : Int)) -> (inI (v32 + (1 : Int))) /\ (I2 (v32 + (1 : Int)) /\ μ2 (v32 + (1 : Int)) < μ2 v32)))) /\ (¬ (v32 < (jobs.length : Int)) -> Post true)))
theorem walk_mvalid {sv : (List Int)} {jobs : (List Job)} {Post : Bool -> Prop} (hv : vc_mvalid sv jobs Post) : FnP Try.prog 32 [.lst true sv.length (zYy zYx sv), .lst true jobs.length (zYy (e53 true) jobs)] (fun x => ∃ q0, x = .bool q0 /\ Post q0) := by
 refine FnP.of_walk (T := tt) (nt := 68) ttOk ttMix ⟨⟨Try.f32, Try.func32, rfl, rfl, rfl, rfl⟩⟩ (by simp) ?_
 unfold vc_mvalid at hv
 change W _ _ _ ⟨68, look [(0, .lst true sv.length (zYy zYx sv)), (1, .lst true jobs.length (zYy (e53 true) jobs))], [], 0⟩ _
 refine W.ty [(0, .lst _ _ _), (1, .lst _ _ _)] rfl (W.rL (aB rfl rfl (eL (W.ty [(0, .lst _ _ _), (1, .lst _ _ _)] rfl (W.seq' (W.rLm ⟨68, look [(0, .lst true sv.length (zYy zYx sv)), (1, .lst true jobs.length (zYy (e53 true) jobs)), (19, .bool (decide ((¬ ((inM (sv.length : Int) (1 : Int) (6 : Int)) = true)) \/ ((24 : Int) < (jobs.length : Int)))))], [], 0⟩ ?_ ?_))))))
 refine mL rfl rfl (cL rfl (zXw (v := .lst _ _ _) tt22 rfl rfl (cL rfl (zZu (k := 47) (fst := []) (caps := []) (ys := [.int _ _, .int _ _, .int _ _]) rfl rfl (spec_inr (sv.length : Int) (1 : Int) (6 : Int)) zk (cL rfl (o_notB rfl (mB rfl rfl ?_)))))))
 by_cases c1 : ¬ ((inM (sv.length : Int) (1 : Int) (6 : Int)) = true)
 iterate 3 refine cLs rfl rfl rfl (dT c1) ?_
 refine cL rfl (zZv (v := .bool _) rfl (dT c1) rfl (eL (zYz ⟨rfl, rfl, (congrArg AV.bool (dOrT c1)).symm, trivial⟩ rfl)))
 refine cLg rfl rfl (dF c1) (mL rfl rfl (cLg rfl rfl (dF c1) (cL rfl (zXw (v := .lst _ _ _) tt23 rfl rfl (cLg rfl rfl (dF c1) (cL rfl (o_gtr rfl rfl (cL rfl (zZy (v := .bool _) rfl (dF c1) rfl (eL (zYz ⟨rfl, rfl, (congrArg AV.bool (dOrF c1 (rfl))).symm, trivial⟩ rfl)))))))))))
 refine W.cn rfl (fun hc => ?_) (fun hc => ?_)
 have hv := hv.1 hc
 refine W.rL (aB rfl rfl (eL (W.ty [(4, .bool _)] rfl (W.ret (zZr (rt (rt_t (v := .bool _) rfl (rt_n (⟨_, zYr _ _ _, false, rfl, hv⟩)))))))))
 have hv := hv.2 hc
 refine W.skip (zZ (W.ty [(0, .lst _ _ _), (1, .lst _ _ _)] rfl (W.seq' (W.rL (mL rfl rfl (cL rfl (zXw (v := .lst _ _ _) tt22 rfl rfl (mI rfl rfl (eL (W.ty [(0, .lst _ _ _), (1, .lst _ _ _), (20, .lst _ _ _), (21, .int _ _), (22, .int _ _)] rfl (W.block ?_)))))))))))
 obtain ⟨I1, μ1, hp, hv⟩ := hv
 refine W.loop1 (fun v22 => ⟨68, look [(0, .lst true sv.length (zYy zYx sv)), (1, .lst true jobs.length (zYy (e53 true) jobs)), (20, .lst true sv.length (zYy zYx sv)), (21, .int .i64 (sv.length : Int)), (22, .int .i64 v22)], [], 0⟩) I1 μ1 (0 : Int) (St.to_mk (φ := []) rfl (rfl) (zT rfl rfl) trivial) hp ?_
 clear hp
 intro v22 hI
 replace hv := hv v22 hI
 clear hI
 refine W.rL (cL rfl (zYq rfl rfl (eL (W.ty [(0, .lst _ _ _), (1, .lst _ _ _), (20, .lst _ _ _), (21, .int _ _), (22, .int _ _), (23, .bool _)] rfl (W.seq' (W.cn rfl (fun hc => ?_) (fun hc => ?_)))))))
 have hv := hv.1 hc
 refine W.skip (zZ (W.ty [(0, .lst _ _ _), (1, .lst _ _ _), (20, .lst _ _ _), (21, .int _ _), (22, .int _ _)] rfl (W.seq' (W.block (W.rL ?_)))))
 obtain ⟨s11, hv⟩ := hv
 refine cL rfl (zYu tt22 tt3 rfl rfl (zZw.wd true) rfl s11 ?_)
 intro rest11
 refine cL rfl (zZx (v := .int _ _) tt3 rfl rfl ⟨_, rfl⟩ (aI rfl rfl (eL (W.ty [(0, .lst _ _ _), (1, .lst _ _ _), (6, .int _ _), (20, .lst _ _ _), (21, .int _ _), (22, .int _ _)] rfl (W.rL (mI rfl rfl (cL rfl (zZu (k := 47) (fst := []) (caps := []) (ys := [.int _ _, .int _ _, .int _ _]) rfl rfl (spec_inr (lat sv v22) (1 : Int) (4 : Int)) zk (cL rfl (o_notB rfl (eL (W.ty [(0, .lst _ _ _), (1, .lst _ _ _), (20, .lst _ _ _), (21, .int _ _), (22, .int _ _), (28, .bool _)] rfl (W.cn rfl (fun hc => ?_) (fun hc => ?_))))))))))))))
 have hv := hv.1 hc
 refine W.rL (aB rfl rfl (eL (W.ty [(4, .bool _)] rfl (W.ret (zYt (zZr (zZr (zYt (zZr (rt (rt_t (v := .bool _) rfl (rt_n (⟨_, zYr _ _ _, false, rfl, hv⟩)))))))))))))
 have hv := hv.2 hc
 refine W.skip (zYv (zZ (W.ty [(0, .lst _ _ _), (1, .lst _ _ _), (20, .lst _ _ _), (21, .int _ _), (22, .int _ _)] rfl (W.rL1 ?_))))
 obtain ⟨s12, hv⟩ := hv
 refine cL rfl (o_add rfl rfl s12 (mI rfl rfl (eL (zZ (⟨(), (v22 + (1 : Int)), hv, St.to_mk (φ := []) rfl (rfl) (zT rfl rfl) trivial⟩)))))
 have hv := hv.2 hc
 refine W.exit (zZt (zZt (zYs (zZ (W.ty [(0, .lst _ _ _), (1, .lst _ _ _)] rfl (W.seq' (W.rL (mL rfl rfl (cL rfl (zXw (v := .lst _ _ _) tt23 rfl rfl (mI rfl rfl (eL (W.ty [(0, .lst _ _ _), (30, .lst _ _ _), (31, .int _ _), (32, .int _ _)] rfl (W.block ?_))))))))))))))
 obtain ⟨I2, μ2, hp, hv⟩ := hv
 refine W.loop1 (fun v32 => ⟨68, look [(0, .lst true sv.length (zYy zYx sv)), (30, .lst true jobs.length (zYy (e53 true) jobs)), (31, .int .i64 (jobs.length : Int)), (32, .int .i64 v32)], [], 0⟩) I2 μ2 (0 : Int) (St.to_mk (φ := []) rfl (rfl) (zT rfl rfl) trivial) hp ?_
 clear hp
 intro v32 hI
 replace hv := hv v32 hI
 clear hI
 refine W.rL (cL rfl (zYq rfl rfl (eL (W.ty [(0, .lst _ _ _), (30, .lst _ _ _), (31, .int _ _), (32, .int _ _), (33, .bool _)] rfl (W.seq' (W.cn rfl (fun hc => ?_) (fun hc => ?_)))))))
 have hv := hv.1 hc
 refine W.skip (zZ (W.ty [(0, .lst _ _ _), (30, .lst _ _ _), (31, .int _ _), (32, .int _ _)] rfl (W.seq' (W.block (W.rL ?_)))))
 obtain ⟨s121, hv⟩ := hv
 refine cL rfl (zYu tt23 tt53 rfl rfl (enc53.wd true) rfl s121 ?_)
 intro rest121
 refine cL rfl (zYp (cs := [.int _ _, .lst _ _ _]) tt53 rfl rfl ⟨_, rfl⟩ rfl (cL rfl (zXy (p := 0) tt53 rfl rfl (cLn (o_stB (v := .agg _) (vs := [.int _ _, .lst _ _ _]) (cs2 := [.int _ _, .lst _ _ _]) tt53 rfl rfl rfl rfl rfl (Nat.le_of_ble_eq_true rfl) rfl (eL (W.ty [(0, .lst _ _ _), (8, .ptr _ _), (30, .lst _ _ _), (31, .int _ _), (32, .int _ _)] rfl (W.seq' (W.rLm ⟨68, look [(0, .lst true sv.length (zYy zYx sv)), (8, .ptr 0 0), (30, .lst true jobs.length (zYy (e53 true) jobs)), (31, .int .i64 (jobs.length : Int)), (32, .int .i64 v32), (45, .bool (decide ((¬ ((inM ((lat jobs v32).ar) (0 : Int) (4398046511104 : Int)) = true)) \/ ((6 : Int) < (((lat jobs v32).wk).length : Int)))))], [.box 53 [.int .i64 ((lat jobs v32).ar), .lst true ((lat jobs v32).wk).length (zYy e60 ((lat jobs v32).wk))]], 0⟩ ?_ ?_)))))))))
 refine cL rfl (o_fa tt53 rfl tt3 rfl (cL rfl (zZx (v := .int _ _) tt3 rfl rfl ⟨_, rfl⟩ (cL rfl (zZu (k := 47) (fst := []) (caps := []) (ys := [.int _ _, .int _ _, .int _ _]) rfl rfl (spec_inr ((lat jobs v32).ar) (0 : Int) (4398046511104 : Int)) zk (cL rfl (o_notB rfl (mB rfl rfl ?_))))))))
 by_cases c1 : ¬ ((inM ((lat jobs v32).ar) (0 : Int) (4398046511104 : Int)) = true)
 iterate 4 refine cLs rfl rfl rfl (dT c1) ?_
 refine cL rfl (zZv (v := .bool _) rfl (dT c1) rfl (eL (zYz ⟨rfl, rfl, rfl, rfl, rfl, (congrArg AV.bool (dOrT c1)).symm, trivial⟩ rfl)))
 refine cLg rfl rfl (dF c1) (cL rfl (o_fa tt53 rfl tt51 rfl (cLg rfl rfl (dF c1) (cL rfl (zZx (v := .lst _ _ _) tt51 rfl rfl ⟨_, rfl⟩ (cLg rfl rfl (dF c1) (cL rfl (zXw (v := .lst _ _ _) tt51 rfl rfl (cLg rfl rfl (dF c1) (cL rfl (o_gtr rfl rfl (cL rfl (zZy (v := .bool _) rfl (dF c1) rfl (eL (zYz ⟨rfl, rfl, rfl, rfl, rfl, (congrArg AV.bool (dOrF c1 (rfl))).symm, trivial⟩ rfl)))))))))))))))
 refine W.cn rfl (fun hc => ?_) (fun hc => ?_)
 have hv := hv.1 hc
 refine W.rL (aB rfl rfl (eL (W.ty [(4, .bool _)] rfl (W.ret (zZr (zYt (zZr (zZr (zYt (zZr (rt (rt_t (v := .bool _) rfl (rt_n (⟨_, zYr _ _ _, false, rfl, hv⟩))))))))))))))
 have hv := hv.2 hc
 refine W.skip (zZ (W.ty [(0, .lst _ _ _), (8, .ptr _ _), (30, .lst _ _ _), (31, .int _ _), (32, .int _ _)] rfl (W.rL (cL rfl (o_fa tt53 rfl tt51 rfl (cL rfl (zZx (v := .lst _ _ _) tt51 rfl rfl ⟨_, rfl⟩ (cL rfl (zXw (v := .lst _ _ _) tt51 rfl rfl (mI rfl rfl (eL (W.ty [(0, .lst _ _ _), (30, .lst _ _ _), (31, .int _ _), (32, .int _ _), (47, .lst _ _ _), (48, .int _ _), (49, .int _ _)] rfl (W.block ?_)))))))))))))
 obtain ⟨I3, μ3, hp, hv⟩ := hv
 refine W.loop1 (fun v49 => ⟨68, look [(0, .lst true sv.length (zYy zYx sv)), (30, .lst true jobs.length (zYy (e53 true) jobs)), (31, .int .i64 (jobs.length : Int)), (32, .int .i64 v32), (47, .lst true ((lat jobs v32).wk).length (zYy e60 ((lat jobs v32).wk))), (48, .int .i64 (((lat jobs v32).wk).length : Int)), (49, .int .i64 v49)], [.dead], 0⟩) I3 μ3 (0 : Int) (St.to_mk (φ := [none]) rfl (rfl) (zT rfl rfl) ⟨rfl, trivial⟩) hp ?_
 clear hp
 intro v49 hI
 replace hv := hv v49 hI
 clear hI
 refine W.rL (cL rfl (zYq rfl rfl (eL (W.ty [(0, .lst _ _ _), (30, .lst _ _ _), (31, .int _ _), (32, .int _ _), (47, .lst _ _ _), (48, .int _ _), (49, .int _ _), (50, .bool _)] rfl (W.seq' (W.cn rfl (fun hc => ?_) (fun hc => ?_)))))))
 have hv := hv.1 hc
 refine W.skip (zZ (W.ty [(0, .lst _ _ _), (30, .lst _ _ _), (31, .int _ _), (32, .int _ _), (47, .lst _ _ _), (48, .int _ _), (49, .int _ _)] rfl (W.seq' (W.block (W.rL ?_)))))
 obtain ⟨s132, hv⟩ := hv
 refine cL rfl (zYu tt51 tt60 rfl rfl (enc60.wd true) rfl s132 ?_)
 intro rest132
 refine cL rfl (zYp (cs := [.int _ _, .int _ _]) tt60 rfl rfl ⟨_, rfl⟩ rfl (cL rfl (zXy (p := 1) tt60 rfl rfl (cLn (o_stB (v := .agg _) (vs := [.int _ _, .int _ _]) (cs2 := [.int _ _, .int _ _]) tt60 rfl rfl rfl rfl rfl (Nat.le_of_ble_eq_true rfl) rfl (eL (W.ty [(0, .lst _ _ _), (10, .ptr _ _), (30, .lst _ _ _), (31, .int _ _), (32, .int _ _), (47, .lst _ _ _), (48, .int _ _), (49, .int _ _)] rfl ?_)))))))
 obtain ⟨sd, hv⟩ := hv
 refine W.rLm ⟨68, look [(0, .lst true sv.length (zYy zYx sv)), (30, .lst true jobs.length (zYy (e53 true) jobs)), (31, .int .i64 (jobs.length : Int)), (32, .int .i64 v32), (47, .lst true ((lat jobs v32).wk).length (zYy e60 ((lat jobs v32).wk))), (48, .int .i64 (((lat jobs v32).wk).length : Int)), (49, .int .i64 v49), (65, .bool (decide ((¬ ((inM ((lat ((lat jobs v32).wk) v49).st) (0 : Int) ((sv.length : Int) - (1 : Int))) = true)) \/ (¬ ((inM ((lat ((lat jobs v32).wk) v49).tm) (0 : Int) (1099511627776 : Int)) = true)))))], [.dead, .box 60 [.int .i64 ((lat ((lat jobs v32).wk) v49).st), .int .i64 ((lat ((lat jobs v32).wk) v49).tm)]], 0⟩ ?_ ?_
 refine cL rfl (o_fa tt60 rfl tt3 rfl (cL rfl (zZx (v := .int _ _) tt3 rfl rfl ⟨_, rfl⟩ (mL rfl rfl (cL rfl (zXw (v := .lst _ _ _) tt22 rfl rfl ?_))))))
 obtain ⟨s134, sd⟩ := sd
 refine cL rfl (o_sub rfl rfl s134 (cL rfl (zZu (k := 47) (fst := []) (caps := []) (ys := [.int _ _, .int _ _, .int _ _]) rfl rfl (spec_inr ((lat ((lat jobs v32).wk) v49).st) (0 : Int) ((sv.length : Int) - (1 : Int))) zk (cL rfl (o_notB rfl (mB rfl rfl ?_))))))
 by_cases c1 : ¬ ((inM ((lat ((lat jobs v32).wk) v49).st) (0 : Int) ((sv.length : Int) - (1 : Int))) = true)
 iterate 4 refine cLs rfl rfl rfl (dT c1) ?_
 refine cL rfl (zZv (v := .bool _) rfl (dT c1) rfl (eL (zYz ⟨rfl, rfl, rfl, rfl, rfl, rfl, rfl, (congrArg AV.bool (dOrT c1)).symm, trivial⟩ rfl)))
 refine cLg rfl rfl (dF c1) (cL rfl (o_fa tt60 rfl tt3 rfl (cLg rfl rfl (dF c1) (cL rfl (zZx (v := .int _ _) tt3 rfl rfl ⟨_, rfl⟩ (cLg rfl rfl (dF c1) (cL rfl (zZu (k := 47) (fst := []) (caps := []) (ys := [.int _ _, .int _ _, .int _ _]) rfl rfl (spec_inr ((lat ((lat jobs v32).wk) v49).tm) (0 : Int) (1099511627776 : Int)) zk (cLg rfl rfl (dF c1) (cL rfl (o_notB rfl (cL rfl (zZy (v := .bool _) rfl (dF c1) rfl (eL (zYz ⟨rfl, rfl, rfl, rfl, rfl, rfl, rfl, (congrArg AV.bool (dOrF c1 (rfl))).symm, trivial⟩ rfl)))))))))))))))
 refine W.cn rfl (fun hc => ?_) (fun hc => ?_)
 have hv := hv.1 hc
 refine W.rL (aB rfl rfl (eL (W.ty [(4, .bool _)] rfl (W.ret (zYt (zZr (zZr (zYt (zYt (zZr (zZr (zYt (zZr (rt (rt_t (v := .bool _) rfl (rt_n (⟨_, zYr _ _ _, false, rfl, hv⟩)))))))))))))))))
 have hv := hv.2 hc
 refine W.skip (zYv (zZ (W.ty [(0, .lst _ _ _), (30, .lst _ _ _), (31, .int _ _), (32, .int _ _), (47, .lst _ _ _), (48, .int _ _), (49, .int _ _)] rfl (W.rL1 ?_))))
 obtain ⟨s135, hv⟩ := hv
 refine cL rfl (o_add rfl rfl s135 (mI rfl rfl (eL (zZ (⟨(), (v49 + (1 : Int)), hv, St.to_mk (φ := [none]) rfl (rfl) (zT rfl rfl) ⟨rfl, trivial⟩⟩)))))
 have hv := hv.2 hc
 refine W.exit (zZt (zZt (zYs (zYv (zZ (W.ty [(0, .lst _ _ _), (30, .lst _ _ _), (31, .int _ _), (32, .int _ _)] rfl (W.rL1 ?_)))))))
 obtain ⟨s136, hv⟩ := hv
 refine cL rfl (o_add rfl rfl s136 (mI rfl rfl (eL (zZ (⟨(), (v32 + (1 : Int)), hv, St.to_mk (φ := []) rfl (rfl) (zT rfl rfl) trivial⟩)))))
 have hv := hv.2 hc
 refine W.exit (zZt (zZt (zYs (zZ (W.ty [] rfl (W.rL (aB rfl rfl (eL (W.ty [(4, .bool _)] rfl (W.ret (rt (rt_t (v := .bool _) rfl (rt_n (⟨_, zYr _ _ _, true, rfl, hv⟩))))))))))))))
set_option maxHeartbeats 4000000 in
theorem vcp_mvalid (sv : (List Int)) (jobs : (List Job)) (h0 : sv.length <= 9223372036854775807) (h1 : ∀ j ∈ jobs, j.wk.length <= 9223372036854775807) (h2 : jobs.length <= 9223372036854775807) : vc_mvalid sv jobs (fun q0 => q0 = (validJ sv jobs)) := by
  unfold vc_mvalid
  have e1 : ∀ n lo hi : Int, (inM n lo hi = true) = (lo <= n /\ n <= hi) := fun n lo hi => by unfold inM; simp
  simp only [e1]
  have bad : ∀ {q : Prop}, (validJ sv jobs = true -> q) -> ¬ q -> false = validJ sv jobs := fun h k => by
    rcases hv : validJ sv jobs with _ | _
    . rfl
    . exact absurd (h hv) k
  refine ⟨fun k => bad (fun h => (job_ok h).1) (by omega), fun k => ?_⟩
  refine ⟨fun v => ∃ i : Nat, v = i /\ i <= sv.length /\ ∀ a : Nat, a < i -> 1 <= lat sv a /\ lat sv a <= 4, fun v => sv.length - v.toNat, ⟨0, rfl, by omega, fun a ha => by omega⟩, ?_⟩
  rintro _ ⟨i, rfl, hi, hs⟩
  refine ⟨fun k1 => ⟨⟨by omega, k1⟩, fun k2 => bad (fun h => (job_ok h).2.1 _ (lat_mem (xs := sv) (i := (i : Int)) ⟨by omega, k1⟩)) k2, fun k2 => ⟨by unfold inI; omega, ⟨i + 1, by omega, by omega, fun a ha => ?_⟩, dec_lt k1⟩⟩, fun k1 => ?_⟩
  . rcases Nat.lt_or_ge a i with h | h
    . exact hs a h
    . rw [show a = i by omega]; exact Decidable.not_not.1 k2
  have hsv : ∀ n ∈ sv, 1 <= n /\ n <= 4 := fun n hn => by
    obtain ⟨a, ha, rfl⟩ := List.mem_iff_getElem.1 hn
    have := hs a (by omega)
    rwa [lat_get ha] at this
  refine ⟨fun v => ∃ i : Nat, v = i /\ i <= jobs.length /\ ∀ a : Nat, a < i -> jobOk sv.length (lat jobs a) = true, fun v => jobs.length - v.toNat, ⟨0, rfl, by omega, fun a ha => by omega⟩, ?_⟩
  rintro _ ⟨j, rfl, hj, hjs⟩
  refine ⟨fun k2 => ⟨⟨by omega, k2⟩, fun k3 => bad (fun h => ((job_ok h).2.2 _ (lat_mem (xs := jobs) (i := (j : Int)) ⟨by omega, k2⟩)).1) (by omega), fun k3 => ?_⟩, fun k2 => ?_⟩
  . have hmem : lat jobs (j : Int) ∈ jobs := lat_mem ⟨by omega, k2⟩
    refine ⟨fun v => ∃ i : Nat, v = i /\ i <= (lat jobs (j : Int)).wk.length /\ ∀ a : Nat, a < i -> 0 <= (lat (lat jobs (j : Int)).wk a).st /\ (lat (lat jobs (j : Int)).wk a).st <= (sv.length : Int) - 1 /\ 0 <= (lat (lat jobs (j : Int)).wk a).tm /\ (lat (lat jobs (j : Int)).wk a).tm <= 1099511627776, fun v => (lat jobs (j : Int)).wk.length - v.toNat, ⟨0, rfl, by omega, fun a ha => by omega⟩, ?_⟩
    rintro _ ⟨q, rfl, hq, hqs⟩
    refine ⟨fun k4 => ⟨⟨by omega, k4⟩, ⟨by unfold inI; omega, trivial⟩, fun k5 => bad (fun h => ((job_ok h).2.2 _ hmem).2 _ (lat_mem (xs := (lat jobs (j : Int)).wk) (i := (q : Int)) ⟨by omega, k4⟩)) (by omega), fun k5 => ⟨by unfold inI; have := h1 _ hmem; omega, ⟨q + 1, by omega, by omega, fun a ha => ?_⟩, dec_lt k4⟩⟩, fun k4 => ⟨by unfold inI; omega, ⟨j + 1, by omega, by omega, fun a ha => ?_⟩, dec_lt k2⟩⟩
    . rcases Nat.lt_or_ge a q with h | h
      . exact hqs a h
      . rw [show a = q by omega]; omega
    . rcases Nat.lt_or_ge a j with h | h
      . exact hjs a h
      . rw [show a = j by omega]
        unfold jobOk
        rw [Bool.and_eq_true, decide_eq_true_eq, List.all_eq_true]
        refine ⟨by omega, fun w hw => ?_⟩
        obtain ⟨b, hb, rfl⟩ := List.mem_iff_getElem.1 hw
        have := hqs b (by omega)
        rw [lat_get hb] at this
        exact decide_eq_true this
  . show true = validJ sv jobs
    unfold validJ
    symm
    rw [Bool.and_eq_true, Bool.and_eq_true, decide_eq_true_eq, List.all_eq_true, List.all_eq_true]
    refine ⟨⟨by omega, fun n hn => decide_eq_true (hsv n hn)⟩, fun x hx => ?_⟩
    obtain ⟨b, hb, rfl⟩ := List.mem_iff_getElem.1 hx
    have := hjs b (by omega)
    rwa [lat_get hb] at this
theorem spec_mvalid (sv : (List Int)) (jobs : (List Job)) (h0 : sv.length <= 9223372036854775807) (h1 : ∀ j ∈ jobs, j.wk.length <= 9223372036854775807) (h2 : jobs.length <= 9223372036854775807) : FnP Try.prog 32 [.lst true sv.length (zYy zYx sv), .lst true jobs.length (zYy (e53 true) jobs)] (fun xR => xR = .bool (validJ sv jobs)) :=
  (walk_mvalid (vcp_mvalid sv jobs h0 h1 h2)).mono (by rintro _ ⟨_, rfl, rfl⟩; rfl)
def vc_isNaN (n : Int) (Post : Bool -> Prop) : Prop :=
  Post (decide (¬ n = n))
theorem walk_isNaN {n : Int} {Post : Bool -> Prop} (hv : vc_isNaN n Post) : FnP Try.prog 53 [.int .i64 n] (fun x => ∃ q0, x = .bool q0 /\ Post q0) := by
 refine FnP.of_walk (T := tt) (nt := 6) ttOk ttMix ⟨⟨Try.f53, Try.func53, rfl, rfl, rfl, rfl⟩⟩ (by simp) ?_
 unfold vc_isNaN at hv
 change W _ _ _ ⟨6, look [(0, .int .i64 n)], [], 0⟩ _
 refine W.ty [(0, .int _ _)] rfl (W.rL (aB rfl rfl (eL (W.ty [(0, .int _ _)] rfl (W.rL ?_)))))
 iterate 2 refine mI rfl rfl ?_
 refine cL rfl (o_neI rfl rfl rfl (aB rfl rfl (eL (W.ty [(2, .bool _)] rfl (W.ret (rt (rt_t (v := .bool _) rfl (rt_n (⟨_, zYr _ _ _, (decide (¬ n = n)), rfl, hv⟩)))))))))
set_option maxHeartbeats 4000000 in
theorem vcp_isNaN (n : Int)  : vc_isNaN n (fun q0 => q0 = (false)) := by
  show decide (¬ n = n) = false
  simp
theorem spec_isNaN (n : Int)  : FnP Try.prog 53 [.int .i64 n] (fun xR => xR = .bool (false)) :=
  (walk_isNaN (vcp_isNaN n)).mono (by rintro _ ⟨_, rfl, rfl⟩; rfl)
def vc_cmpI (x : Int) (y : Int) (Post : Int -> Prop) : Prop :=
  ((x < y) -> Post (-1 : Int)) /\ (¬ (x < y) -> ((y < x) -> Post (1 : Int)) /\ (¬ (y < x) -> Post (0 : Int)))
theorem walk_cmpI {x : Int} {y : Int} {Post : Int -> Prop} (hv : vc_cmpI x y Post) : FnP Try.prog 37 [.int .i64 x, .int .i64 y] (fun x => ∃ q0, x = .int .i64 q0 /\ Post q0) := by
 refine FnP.of_walk (T := tt) (nt := 20) ttOk ttMix ⟨⟨Try.f37, Try.func37, rfl, rfl, rfl, rfl⟩⟩ (by simp) ?_
 unfold vc_cmpI at hv
 change W _ _ _ ⟨20, look [(0, .int .i64 x), (1, .int .i64 y)], [], 0⟩ _
 refine W.ty [(0, .int _ _), (1, .int _ _)] rfl (W.rL (aI rfl rfl (eL (W.ty [(0, .int _ _), (1, .int _ _)] rfl (W.rL (mI rfl rfl (cL rfl (zZu (k := 53) (fst := []) (caps := []) (ys := [.int _ _]) rfl rfl (spec_isNaN x) zk (aB rfl rfl (eL (W.ty [(0, .int _ _), (1, .int _ _), (5, .bool _)] rfl (W.rL (mI rfl rfl (cL rfl (zZu (k := 53) (fst := []) (caps := []) (ys := [.int _ _]) rfl rfl (spec_isNaN y) zk (aB rfl rfl (eL (W.ty [(0, .int _ _), (1, .int _ _), (5, .bool _), (6, .bool _)] rfl (W.seq' (W.rL (mB rfl rfl (eL (W.ty [(0, .int _ _), (1, .int _ _), (6, .bool _), (11, .bool _)] rfl (W.cF rfl (W.skip (zZ (W.ty [(0, .int _ _), (1, .int _ _), (6, .bool _)] rfl ?_)))))))))))))))))))))))))))
 refine W.seq' (W.rL (mB rfl rfl (eL (W.ty [(0, .int _ _), (1, .int _ _), (13, .bool _)] rfl (W.cF rfl (W.skip (zZ (W.ty [(0, .int _ _), (1, .int _ _)] rfl (W.seq' (W.rL ?_))))))))))
 iterate 2 refine mI rfl rfl ?_
 refine cL rfl (zYq rfl rfl (eL (W.ty [(0, .int _ _), (1, .int _ _), (16, .bool _)] rfl (W.cn rfl (fun hc => ?_) (fun hc => ?_)))))
 have hv := hv.1 hc
 refine W.rL (aI rfl rfl (eL (W.ty [(4, .int _ _)] rfl (W.ret (zZr (rt (rt_t (v := .int _ _) rfl (rt_n (⟨_, zY _ _ _ _, (-1 : Int), rfl, hv⟩)))))))))
 have hv := hv.2 hc
 refine W.skip (zZ (W.ty [(0, .int _ _), (1, .int _ _)] rfl (W.seq' (W.rL ?_))))
 iterate 2 refine mI rfl rfl ?_
 refine cL rfl (o_gtr rfl rfl (eL (W.ty [(19, .bool _)] rfl (W.cn rfl (fun hc => ?_) (fun hc => ?_)))))
 have hv := hv.1 hc
 refine W.rL (aI rfl rfl (eL (W.ty [(4, .int _ _)] rfl (W.ret (zZr (rt (rt_t (v := .int _ _) rfl (rt_n (⟨_, zY _ _ _ _, (1 : Int), rfl, hv⟩)))))))))
 have hv := hv.2 hc
 refine W.skip (zZ (W.ty [] rfl (W.rL (aI rfl rfl (eL (W.ty [(4, .int _ _)] rfl (W.ret (rt (rt_t (v := .int _ _) rfl (rt_n (⟨_, zY _ _ _ _, (0 : Int), rfl, hv⟩)))))))))))
set_option maxHeartbeats 4000000 in
theorem vcp_cmpI (x : Int) (y : Int)  : vc_cmpI x y (fun q0 => q0 = (cmpM x y)) := by
  refine ⟨fun h => ?_, fun h => ⟨fun k => ?_, fun k => ?_⟩⟩
  . show -1 = cmpM x y
    unfold cmpM; rw [if_pos h]
  . show 1 = cmpM x y
    unfold cmpM; rw [if_neg h, if_pos k]
  . show 0 = cmpM x y
    unfold cmpM; rw [if_neg h, if_neg k]
theorem spec_cmpI (x : Int) (y : Int)  : FnP Try.prog 37 [.int .i64 x, .int .i64 y] (fun xR => xR = .int .i64 (cmpM x y)) :=
  (walk_cmpI (vcp_cmpI x y)).mono (by rintro _ ⟨_, rfl, rfl⟩; rfl)
end Go.Lat
