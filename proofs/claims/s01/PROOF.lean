import PyProof.Rows.All
import Wide.All
import OpenK.AllK
import Wide.FinOn
import Open.SpecLaws
import KE.OsGo
import HandS.ForSpec
import HandS.Comp
import HandS.Iter
import HandS.Walk
import HandS.SetFor
import PySem.Challenge.RW_chainjobs_s01_total_cost
set_option Elab.async false
set_option linter.all false
set_option maxRecDepth 100000
set_option maxHeartbeats 4000000
/-! # Plain mathematics: the mirror of the program and that it is the specification -/
namespace Cj
open Ks593
/-! ### reading -/
def jobsOf : List Nat → List Job
  | d :: w :: r => ⟨d, w⟩ :: jobsOf r
  | _ => []
def split : List Nat → Option Chains
  | [] => some []
  | c :: r => if 2 * c ≤ r.length then (split (r.drop (2 * c))).map (jobsOf (r.take (2 * c)) :: ·) else none
termination_by l => l.length
decreasing_by simp [List.length_drop]; omega
theorem split_nil : split [] = some [] := by rw [split]
theorem split_cons {c : Nat} {r : List Nat} : split (c :: r) = if 2 * c ≤ r.length then (split (r.drop (2 * c))).map (jobsOf (r.take (2 * c)) :: ·) else none := by rw [split]
def okJob (j : Job) : Bool := decide (1 ≤ j.duration) && decide (j.duration ≤ 99) && decide (j.weight ≤ 99)
def okAll (cs : Chains) : Bool := cs.all fun c => c.all okJob
def within (cs : Chains) : Bool := decide (cs.length ≤ 4) && decide (jobCount cs ≤ 7) && okAll cs
def read (flat : List Nat) : Option Chains := match split flat with
  | none => none
  | some cs => if within cs = true then some cs else none

theorem parseJobs_is : ∀ (l : List Nat), l.length % 2 = 0 → parseJobs l = if (jobsOf l).all okJob = true then some (jobsOf l) else none
  | [], _ => rfl
  | [x], h => by simp at h
  | d :: w :: r, h => by
    have hr : r.length % 2 = 0 := by simp only [List.length_cons] at h; omega
    have ih := parseJobs_is r hr
    show (if d < 1 ∨ 99 < d ∨ 99 < w then none else (parseJobs r).map fun jobs => (⟨d, w⟩ : Job) :: jobs) = if ((⟨d, w⟩ : Job) :: jobsOf r).all okJob = true then some ((⟨d, w⟩ : Job) :: jobsOf r) else none
    rw [ih, List.all_cons]
    have ej : okJob ⟨d, w⟩ = !decide (d < 1 ∨ 99 < d ∨ 99 < w) := by
      rw [Bool.eq_iff_iff]
      simp only [okJob, Bool.and_eq_true, decide_eq_true_eq, Bool.not_eq_true', decide_eq_false_iff_not]
      omega
    rw [ej]
    by_cases c : d < 1 ∨ 99 < d ∨ 99 < w
    · rw [if_pos c, decide_eq_true c]
      simp
    · rw [if_neg c, decide_eq_false c]
      cases hq : (jobsOf r).all okJob <;> simp
theorem parse_is : ∀ (fuel : Nat) (l : List Nat), parseChains fuel l = match split l with
    | none => none
    | some cs => if okAll cs = true ∧ cs.length ≤ fuel then some cs else none
  | fuel, [] => by
    rw [split_nil, parseChains]
    simp [okAll]
  | 0, c :: r => by
    rw [split_cons]
    have e : parseChains 0 (c :: r) = none := by rw [parseChains]; simp
    rw [e]
    by_cases h : 2 * c ≤ r.length
    · rw [if_pos h]
      cases split (r.drop (2 * c)) <;> simp
    · rw [if_neg h]
  | fuel + 1, c :: r => by
    rw [split_cons, parseChains]
    by_cases h : 2 * c ≤ r.length
    · rw [if_pos h, if_neg (by omega), parse_is fuel (r.drop (2 * c)), parseJobs_is _ (by rw [List.length_take]; omega)]
      cases hs : split (r.drop (2 * c)) with
      | none => cases hj : (jobsOf (r.take (2 * c))).all okJob <;> simp
      | some cs =>
        have e : okAll (jobsOf (r.take (2 * c)) :: cs) = ((jobsOf (r.take (2 * c))).all okJob && okAll cs) := rfl
        simp only [Option.map_some, e, List.length_cons]
        cases hj : (jobsOf (r.take (2 * c))).all okJob <;> cases hk : okAll cs <;> simp
        by_cases hl : cs.length ≤ fuel
        · simp [hl]
        · simp [hl]
    · rw [if_neg h, if_pos (by omega)]
theorem withChains_is (flat : List Nat) (compute : Chains → Result) : withChains flat compute = match read flat with
    | none => number (-22)
    | some cs => compute cs := by
  unfold withChains read
  rw [parse_is]
  cases split flat with
  | none => rfl
  | some cs =>
    simp only [maxChains, maxJobs]
    by_cases h1 : okAll cs = true
    · by_cases h2 : cs.length ≤ 9
      · by_cases h3 : cs.length ≤ 4 <;> by_cases h4 : jobCount cs ≤ 7
        · have : ¬(4 < cs.length ∨ 7 < jobCount cs) := by omega
          simp [h1, h2, h3, h4, within, this]
        · have : (4 < cs.length ∨ 7 < jobCount cs) := by omega
          simp [h1, h2, h3, h4, within, this]
        · have : (4 < cs.length ∨ 7 < jobCount cs) := by omega
          simp [h1, h2, h3, h4, within, this]
        · have : (4 < cs.length ∨ 7 < jobCount cs) := by omega
          simp [h1, h2, h3, h4, within, this]
      · have : ¬ cs.length ≤ 4 := by omega
        simp [h1, h2, within, this]
    · simp [h1, within]
/-- what is known of chains that were read -/
theorem read_some {flat : List Nat} {cs : Chains} (h : read flat = some cs) : split flat = some cs ∧ cs.length ≤ 4 ∧ jobCount cs ≤ 7 ∧ okAll cs = true := by
  unfold read at h
  cases hs : split flat with
  | none => rw [hs] at h; cases h
  | some ds =>
    rw [hs] at h
    by_cases hw : within ds = true
    · simp only [hw, if_true] at h
      cases h
      simp only [within, Bool.and_eq_true, decide_eq_true_eq] at hw
      exact ⟨rfl, hw.1.1, hw.1.2, hw.2⟩
    · simp [hw] at h

/-! ### jobs of an order -/
def jobsIn : Chains → List Nat → List Job
  | _, [] => []
  | cs, c :: order => match cs.getD c [] with
    | [] => jobsIn cs order
    | job :: rest => job :: jobsIn (cs.set c rest) order
def costFrom : Nat → List Job → Nat
  | _, [] => 0
  | t, j :: r => j.weight * (t + j.duration) + costFrom (t + j.duration) r
def timesFrom : Nat → List Job → List Nat
  | _, [] => []
  | t, j :: r => (t + j.duration) :: timesFrom (t + j.duration) r
theorem totalCost_is : ∀ (order : List Nat) (t : Nat) (cs : Chains), totalCost t cs order = costFrom t (jobsIn cs order)
  | [], t, cs => by rw [totalCost, jobsIn, costFrom]
  | c :: order, t, cs => by
    rw [totalCost, jobsIn]
    cases h : cs.getD c [] with
    | nil => exact totalCost_is order t cs
    | cons job rest =>
      show _ = job.weight * (t + job.duration) + costFrom (t + job.duration) (jobsIn (cs.set c rest) order)
      rw [← totalCost_is order _ _]
theorem completionTimes_is : ∀ (order : List Nat) (t : Nat) (cs : Chains), completionTimes t cs order = timesFrom t (jobsIn cs order)
  | [], t, cs => by rw [completionTimes, jobsIn, timesFrom]
  | c :: order, t, cs => by
    rw [completionTimes, jobsIn]
    cases h : cs.getD c [] with
    | nil => exact completionTimes_is order t cs
    | cons job rest =>
      show _ = (t + job.duration) :: timesFrom (t + job.duration) (jobsIn (cs.set c rest) order)
      rw [← completionTimes_is order _ _]
theorem timesFrom_length : ∀ (l : List Job) (t : Nat), (timesFrom t l).length = l.length
  | [], _ => rfl
  | j :: r, t => by
    show (timesFrom (t + j.duration) r).length + 1 = r.length + 1
    rw [timesFrom_length r]
/-- the cost as the program sums it: weights times completion times, place by place -/
theorem costFrom_zip : ∀ (l : List Job) (t : Nat), costFrom t l = ((List.range l.length).map fun i => (l.getD i ⟨0, 0⟩).weight * (timesFrom t l).getD i 0).sum
  | [], _ => rfl
  | j :: r, t => by
    have ih := costFrom_zip r (t + j.duration)
    rw [List.length_cons, List.range_succ_eq_map, List.map_cons, List.sum_cons, List.map_map]
    show j.weight * (t + j.duration) + costFrom (t + j.duration) r = _
    rw [ih]
    rfl
/-- an order whose every element has a job left -/
def Fits (cs : Chains) (order : List Nat) : Prop := ∀ c ∈ order, c < cs.length ∧ order.count c ≤ (cs.getD c []).length
theorem getD_set {α : Type} {l : List α} {i j : Nat} {x d : α} (h : i < l.length) : (l.set i x).getD j d = if i = j then x else l.getD j d := by
  rw [List.getD_eq_getElem?_getD, List.getD_eq_getElem?_getD, List.getElem?_set]
  by_cases e : i = j
  · subst e
    simp [h]
  · simp [e]
theorem Fits.step {cs : Chains} {c : Nat} {order : List Nat} (h : Fits cs (c :: order)) : ∃ job rest, cs.getD c [] = job :: rest ∧ c < cs.length ∧ Fits (cs.set c rest) order := by
  obtain ⟨h1, h2⟩ := h c List.mem_cons_self
  rw [List.count_cons_self] at h2
  cases e : cs.getD c [] with
  | nil => rw [e] at h2; simp at h2
  | cons job rest =>
    refine ⟨job, rest, rfl, h1, fun d hd => ?_⟩
    obtain ⟨k1, k2⟩ := h d (List.mem_cons_of_mem _ hd)
    rw [List.length_set, getD_set h1]
    refine ⟨k1, ?_⟩
    rw [e] at h2
    simp only [List.length_cons] at h2
    by_cases q : c = d
    · subst q
      rw [if_pos rfl]
      omega
    · rw [if_neg q]
      rw [List.count_cons_of_ne q] at k2
      exact k2
theorem jobsIn_step {cs : Chains} {c : Nat} {order : List Nat} {job : Job} {rest : List Job} (h : cs.getD c [] = job :: rest) : jobsIn cs (c :: order) = job :: jobsIn (cs.set c rest) order := by
  rw [jobsIn, h]
theorem jobsIn_length : ∀ (order : List Nat) (cs : Chains), Fits cs order → (jobsIn cs order).length = order.length
  | [], _, _ => rfl
  | c :: order, cs, h => by
    obtain ⟨job, rest, e, _, f⟩ := h.step
    rw [jobsIn_step e, List.length_cons, List.length_cons, jobsIn_length order _ f]
/-! ### what is left of the chains -/
/-- the chains without the jobs that are done -/
def left (cs : Chains) (done : List Nat) : Chains := List.zipWith (fun l n => l.drop n) cs done
theorem left_length {cs : Chains} {done : List Nat} (h : done.length = cs.length) : (left cs done).length = cs.length := by
  unfold left
  rw [List.length_zipWith]
  omega
theorem left_get {cs : Chains} {done : List Nat} (h : done.length = cs.length) (c : Nat) : (left cs done).getD c [] = (cs.getD c []).drop (done.getD c 0) := by
  unfold left
  simp only [List.getD_eq_getElem?_getD, List.getElem?_zipWith]
  by_cases hc : c < cs.length
  · have hd : c < done.length := by omega
    simp [hc, hd]
  · have hd : ¬ c < done.length := by omega
    simp [hc, hd]
theorem left_zero (cs : Chains) : left cs (cs.map fun _ => 0) = cs := by
  unfold left
  induction cs with
  | nil => rfl
  | cons a r ih =>
    rw [List.map_cons, List.zipWith_cons_cons, ih]
    rfl
theorem ext_getD {α : Type} {d : α} {a b : List α} (h : a.length = b.length) (g : ∀ i, i < a.length → a.getD i d = b.getD i d) : a = b := by
  apply List.ext_getElem h
  intro i h1 h2
  have e := g i h1
  rw [List.getD_eq_getElem?_getD (l := a), List.getD_eq_getElem?_getD (l := b), List.getElem?_eq_getElem h1, List.getElem?_eq_getElem h2] at e
  exact e
theorem left_set {cs : Chains} {done : List Nat} (h : done.length = cs.length) {c : Nat} (hc : c < cs.length) (k : Nat) : left cs (done.set c (done.getD c 0 + k)) = (left cs done).set c (((left cs done).getD c []).drop k) := by
  have h1 : (done.set c (done.getD c 0 + k)).length = cs.length := by rw [List.length_set, h]
  refine ext_getD (d := []) (by rw [List.length_set, left_length h1, left_length h]) fun i _ => ?_
  rw [left_get h1, getD_set (l := left cs done) (by rw [left_length h]; exact hc), getD_set (l := done) (by omega), left_get h, left_get h]
  by_cases q : c = i
  · subst q
    simp [List.drop_drop]
  · simp [q]
end Cj

namespace Cj
open Ks593
/-! ### the densest prefix -/
abbrev tot (jobs : List Job) (k : Nat) : Nat × Nat := prefixTotals jobs k
/-- one turn of the search: the best so far, the next shorter length -/
def better (jobs : List Job) (best k : Nat) : Nat := if isDenser (tot jobs best) (tot jobs (k + 1)) then best else k + 1
/-- the best of the first i prefixes (of the first for i = 0) -/
def best (jobs : List Job) (i : Nat) : Nat := (List.range i).foldl (better jobs) 1
theorem best_zero (jobs : List Job) : best jobs 0 = 1 := rfl
theorem best_succ (jobs : List Job) (i : Nat) : best jobs (i + 1) = better jobs (best jobs i) i := by
  unfold best
  rw [List.range_succ, List.foldl_append]
  rfl
theorem isDenser_self (p : Nat × Nat) : isDenser p p = false := by
  unfold isDenser
  exact decide_eq_false (by rw [Nat.mul_comm p.1]; exact Nat.lt_irrefl _)
theorem best_one (jobs : List Job) : best jobs 1 = 1 := by
  rw [best_succ, best_zero]
  unfold better
  split <;> rfl
theorem densest_is {jobs : List Job} (h : jobs ≠ []) : densestPrefix jobs = best jobs jobs.length := by
  have : 0 < jobs.length := List.length_pos_iff.mpr h
  unfold densestPrefix best
  rw [Nat.min_eq_left (by omega)]
  rfl
theorem best_range (jobs : List Job) : ∀ i, 1 ≤ best jobs i ∧ best jobs i ≤ max 1 i
  | 0 => by rw [best_zero]; omega
  | i + 1 => by
    have ih := best_range jobs i
    rw [best_succ]
    unfold better
    split <;> omega
theorem densest_range {jobs : List Job} (h : jobs ≠ []) : 1 ≤ densestPrefix jobs ∧ densestPrefix jobs ≤ jobs.length := by
  have : 0 < jobs.length := List.length_pos_iff.mpr h
  rw [densest_is h]
  have := best_range jobs jobs.length
  omega
theorem tot_succ {jobs : List Job} {i : Nat} {j : Job} (h : jobs[i]? = some j) : tot jobs (i + 1) = ((tot jobs i).1 + j.weight, (tot jobs i).2 + j.duration) := by
  show ((((jobs.take (i + 1)).map Job.weight).sum, ((jobs.take (i + 1)).map Job.duration).sum) : Nat × Nat) = _
  rw [List.take_add_one, h]
  simp [prefixTotals]
/-! ### what a chain offers, which chain is chosen -/
/-- the length of what the rest of a chain offers -/
def off (whole : Bool) (jobs : List Job) : Nat := if whole = true then densestPrefix jobs else 1
theorem off_range {whole : Bool} {jobs : List Job} (h : jobs ≠ []) : 1 ≤ off whole jobs ∧ off whole jobs ≤ jobs.length := by
  have : 0 < jobs.length := List.length_pos_iff.mpr h
  unfold off
  split
  · exact densest_range h
  · omega
/-- the totals of what is offered -/
def offT (whole : Bool) (jobs : List Job) : Nat × Nat := tot jobs (off whole jobs)
/-- one turn: the choice so far, the next chain -/
def choose (whole : Bool) (cs : Chains) (b : Option Nat) (c : Nat) : Option Nat :=
  if (cs.getD c []).isEmpty = true then b else match b with
    | none => some c
    | some d => if isDenser (offT whole (cs.getD c [])) (offT whole (cs.getD d [])) = true then some c else some d
/-- the choice among the first i chains -/
def chosen (whole : Bool) (cs : Chains) (i : Nat) : Option Nat := (List.range i).foldl (choose whole cs) none
theorem chosen_zero {whole : Bool} {cs : Chains} : chosen whole cs 0 = none := rfl
theorem chosen_succ (whole : Bool) (cs : Chains) (i : Nat) : chosen whole cs (i + 1) = choose whole cs (chosen whole cs i) i := by
  unfold chosen
  rw [List.range_succ, List.foldl_append]
  rfl
theorem choose_fold {whole : Bool} {cs : Chains} : ∀ (l : List Nat) (d : Nat), l.foldl (choose whole cs) (some d) =
    some ((l.filter fun c => !(cs.getD c []).isEmpty).foldl (fun b c => if isDenser (offT whole (cs.getD c [])) (offT whole (cs.getD b [])) = true then c else b) d)
  | [], d => rfl
  | c :: l, d => by
    rw [List.foldl_cons]
    by_cases h : (cs.getD c []).isEmpty = true
    · have e : choose whole cs (some d) c = some d := by unfold choose; rw [if_pos h]
      rw [e, List.filter_cons_of_neg (by simpa using h)]
      exact choose_fold l d
    · rw [List.filter_cons_of_pos (by simpa using h), List.foldl_cons]
      have e : choose whole cs (some d) c = some (if isDenser (offT whole (cs.getD c [])) (offT whole (cs.getD d [])) = true then c else d) := by
        unfold choose
        rw [if_neg h]
        show (if isDenser (offT whole (cs.getD c [])) (offT whole (cs.getD d [])) = true then some c else some d) = _
        split <;> rfl
      rw [e]
      exact choose_fold l _
theorem choose_filter {whole : Bool} {cs : Chains} : ∀ (l : List Nat), l.foldl (choose whole cs) none = match l.filter fun c => !(cs.getD c []).isEmpty with
    | [] => none
    | first :: others => some (others.foldl (fun b c => if isDenser (offT whole (cs.getD c [])) (offT whole (cs.getD b [])) = true then c else b) first)
  | [] => rfl
  | c :: l => by
    rw [List.foldl_cons]
    by_cases h : (cs.getD c []).isEmpty = true
    · have e : choose whole cs none c = none := by unfold choose; rw [if_pos h]
      rw [e, List.filter_cons_of_neg (by simpa using h)]
      exact choose_filter l
    · have e : choose whole cs none c = some c := by unfold choose; rw [if_neg h]
      rw [e, List.filter_cons_of_pos (by simpa using h)]
      exact choose_fold l c
theorem chosen_is (whole : Bool) (cs : Chains) : chosen whole cs cs.length = match (List.range cs.length).filter fun c => !(cs.getD c []).isEmpty with
    | [] => none
    | first :: others => some (others.foldl (fun b c => if isDenser (offT whole (cs.getD c [])) (offT whole (cs.getD b [])) = true then c else b) first) := choose_filter _
theorem chosen_mem {whole : Bool} {cs : Chains} : ∀ (i : Nat) {c : Nat}, chosen whole cs i = some c → c < i ∧ cs.getD c [] ≠ []
  | 0, c, h => by cases h
  | i + 1, c, h => by
    rw [chosen_succ] at h
    unfold choose at h
    have ih := fun {c} => chosen_mem (whole := whole) (cs := cs) i (c := c)
    split at h
    · obtain ⟨a, b⟩ := ih h
      exact ⟨by omega, b⟩
    · rename_i hne
      have hne' : cs.getD i [] ≠ [] := by
        intro q
        rw [q] at hne
        exact hne rfl
      split at h
      · cases h
        exact ⟨by omega, hne'⟩
      · rename_i d hd
        split at h
        · cases h
          exact ⟨by omega, hne'⟩
        · cases h
          obtain ⟨a, b⟩ := ih hd
          exact ⟨by omega, b⟩
theorem chosen_none {whole : Bool} {cs : Chains} : ∀ (i : Nat), chosen whole cs i = none → ∀ c, c < i → cs.getD c [] = []
  | 0, _, c, hc => by omega
  | i + 1, h, c, hc => by
    rw [chosen_succ] at h
    unfold choose at h
    split at h
    · rename_i he
      by_cases q : c = i
      · subst q
        exact List.isEmpty_iff.mp he
      · exact chosen_none i h c (by omega)
    · split at h
      · cases h
      · split at h <;> cases h
/-! ### orders that are built by choosing -/
def orderBy (whole : Bool) : Chains → Nat → List Nat
  | _, 0 => []
  | cs, fuel + 1 => match chosen whole cs cs.length with
    | none => []
    | some c => List.replicate (off whole (cs.getD c [])) c ++ orderBy whole (cs.set c ((cs.getD c []).drop (off whole (cs.getD c [])))) fuel
theorem orderByPrefixes_is : ∀ (fuel : Nat) (cs : Chains), orderByPrefixes cs fuel = orderBy true cs fuel
  | 0, cs => by rw [orderByPrefixes, orderBy]
  | fuel + 1, cs => by
    rw [orderByPrefixes, orderBy, chosen_is]
    cases (List.range cs.length).filter fun c => !(cs.getD c []).isEmpty with
    | nil => rfl
    | cons first others =>
      simp only [orderByPrefixes_is fuel]
      rfl
theorem greedyOrder_is : ∀ (fuel : Nat) (cs : Chains), greedyOrder cs fuel = orderBy false cs fuel
  | 0, cs => by rw [greedyOrder, orderBy]
  | fuel + 1, cs => by
    rw [greedyOrder, orderBy, chosen_is]
    cases (List.range cs.length).filter fun c => !(cs.getD c []).isEmpty with
    | nil => rfl
    | cons first others =>
      simp only [greedyOrder_is fuel]
      rfl
theorem orderBy_fits (whole : Bool) : ∀ (fuel : Nat) (cs : Chains), Fits cs (orderBy whole cs fuel)
  | 0, cs => by
    rw [orderBy]
    intro c hc
    cases hc
  | fuel + 1, cs => by
    rw [orderBy]
    cases h : chosen whole cs cs.length with
    | none =>
      intro c hc
      cases hc
    | some c =>
      obtain ⟨h1, h2⟩ := chosen_mem _ h
      have k := off_range (whole := whole) h2
      have ih := orderBy_fits whole fuel (cs.set c ((cs.getD c []).drop (off whole (cs.getD c []))))
      show Fits cs (List.replicate (off whole (cs.getD c [])) c ++ orderBy whole (cs.set c ((cs.getD c []).drop (off whole (cs.getD c [])))) fuel)
      generalize orderBy whole (cs.set c ((cs.getD c []).drop (off whole (cs.getD c [])))) fuel = r at ih ⊢
      generalize off whole (cs.getD c []) = m at *
      intro d hd
      have cd : r.count d ≤ if c = d then (cs.getD c []).length - m else (cs.getD d []).length := by
        by_cases q : d ∈ r
        · have z := (ih d q).2
          rw [getD_set h1] at z
          by_cases e : c = d
          · subst e
            rw [if_pos rfl] at z ⊢
            rw [List.length_drop] at z
            exact z
          · rw [if_neg e] at z ⊢
            exact z
        · rw [List.count_eq_zero_of_not_mem q]
          exact Nat.zero_le _
      rw [List.count_append, List.count_replicate]
      by_cases e : c = d
      · subst e
        rw [if_pos rfl] at cd
        refine ⟨h1, ?_⟩
        simp only [beq_self_eq_true, if_true]
        omega
      · rw [if_neg e] at cd
        have hd' : d ∈ r := by
          rcases List.mem_append.mp hd with z | z
          · exact absurd (List.eq_of_mem_replicate z).symm e
          · exact z
        have z := (ih d hd').1
        rw [List.length_set] at z
        refine ⟨z, ?_⟩
        have eb : (c == d) = false := by simpa using e
        simp only [eb]
        simpa using cd
theorem jobCount_set : ∀ {cs : Chains} {c : Nat} {l : List Job}, c < cs.length → jobCount (cs.set c l) + (cs.getD c []).length = jobCount cs + l.length
  | [], c, l, h => by simp at h
  | a :: r, 0, l, _ => by
    show (l.length :: r.map List.length).sum + a.length = (a.length :: r.map List.length).sum + l.length
    rw [List.sum_cons, List.sum_cons]
    omega
  | a :: r, c + 1, l, h => by
    have ih := jobCount_set (cs := r) (c := c) (l := l) (by simpa using h)
    show (a.length :: (r.set c l).map List.length).sum + (r.getD c []).length = (a.length :: r.map List.length).sum + l.length
    rw [List.sum_cons, List.sum_cons]
    unfold jobCount at ih
    omega
theorem jobCount_zero : ∀ {cs : Chains}, (∀ c, c < cs.length → cs.getD c [] = []) → jobCount cs = 0
  | [], _ => rfl
  | a :: r, h => by
    have h0 : a = [] := h 0 (by simp)
    have ih := jobCount_zero (cs := r) fun c hc => h (c + 1) (by simpa using hc)
    subst h0
    show (([] : List Job).length :: r.map List.length).sum = 0
    rw [List.sum_cons]
    unfold jobCount at ih
    rw [ih]
    rfl
/-- nothing left: nothing chosen -/
theorem jobCount_eq_zero : ∀ {cs : Chains}, jobCount cs = 0 → ∀ c, cs.getD c [] = []
  | [], _, c => by simp
  | a :: r, h, c => by
    have e : a.length + jobCount r = 0 := by
      have : (a.length :: r.map List.length).sum = 0 := h
      rw [List.sum_cons] at this
      exact this
    cases c with
    | zero =>
      show a = []
      exact List.length_eq_zero_iff.mp (by omega)
    | succ c => exact jobCount_eq_zero (cs := r) (by omega) c
theorem chosen_of_zero {whole : Bool} {cs : Chains} (h : jobCount cs = 0) : chosen whole cs cs.length = none := by
  cases e : chosen whole cs cs.length with
  | none => rfl
  | some c => exact absurd (jobCount_eq_zero h c) (chosen_mem _ e).2
theorem orderBy_of_zero {whole : Bool} {cs : Chains} (h : jobCount cs = 0) : ∀ fuel, orderBy whole cs fuel = []
  | 0 => by rw [orderBy]
  | fuel + 1 => by rw [orderBy, chosen_of_zero h]
theorem chosen_of_pos {whole : Bool} {cs : Chains} (h : 0 < jobCount cs) : ∃ c, chosen whole cs cs.length = some c := by
  cases e : chosen whole cs cs.length with
  | none =>
    have := jobCount_zero (chosen_none _ e)
    omega
  | some c => exact ⟨c, rfl⟩
theorem orderBy_turn {whole : Bool} {cs : Chains} {c fuel : Nat} (h : chosen whole cs cs.length = some c) : orderBy whole cs (fuel + 1) = List.replicate (off whole (cs.getD c [])) c ++ orderBy whole (cs.set c ((cs.getD c []).drop (off whole (cs.getD c [])))) fuel := by
  rw [orderBy, h]
/-- the jobs that are left behind a turn -/
theorem jobCount_turn {whole : Bool} {cs : Chains} {c : Nat} (h : chosen whole cs cs.length = some c) : jobCount (cs.set c ((cs.getD c []).drop (off whole (cs.getD c [])))) + off whole (cs.getD c []) = jobCount cs ∧ 1 ≤ off whole (cs.getD c []) := by
  obtain ⟨h1, h2⟩ := chosen_mem _ h
  have k := off_range (whole := whole) h2
  have e := jobCount_set (cs := cs) (l := (cs.getD c []).drop (off whole (cs.getD c []))) h1
  rw [List.length_drop] at e
  omega
theorem orderBy_length {whole : Bool} : ∀ (fuel : Nat) (cs : Chains), jobCount cs ≤ fuel → (orderBy whole cs fuel).length = jobCount cs
  | 0, cs, h => by
    rw [orderBy]
    show 0 = _
    omega
  | fuel + 1, cs, h => by
    by_cases hz : jobCount cs = 0
    · rw [orderBy_of_zero hz, hz]
      rfl
    · obtain ⟨c, e⟩ := chosen_of_pos (whole := whole) (cs := cs) (by omega)
      obtain ⟨h1, h2⟩ := jobCount_turn e
      rw [orderBy_turn e, List.length_append, List.length_replicate, orderBy_length fuel _ (by omega)]
      omega
/-- the built order -/
def built (whole : Bool) (cs : Chains) : List Nat := orderBy whole cs (jobCount cs)
theorem optimal_is (cs : Chains) : optimalOrder cs = built true cs := orderByPrefixes_is _ _
theorem greedy_is (cs : Chains) : greedyOrder cs (jobCount cs) = built false cs := greedyOrder_is _ _
theorem built_fits (whole : Bool) (cs : Chains) : Fits cs (built whole cs) := orderBy_fits whole _ cs
theorem built_length (whole : Bool) (cs : Chains) : (built whole cs).length = jobCount cs := orderBy_length _ cs (Nat.le_refl _)
end Cj

namespace Cj
open Ks593
/-! ### is it an order? -/
def orderOk (cs : Chains) (order : List Nat) : Bool := decide (order.length = jobCount cs) && (List.range cs.length).all fun c => decide (order.count c = (cs.getD c []).length)
theorem filter_lt_succ (n : Nat) : ∀ (l : List Nat), (l.filter fun x => decide (x < n + 1)).length = (l.filter fun x => decide (x < n)).length + l.count n
  | [] => rfl
  | x :: r => by
    have ih := filter_lt_succ n r
    rw [List.count_cons]
    by_cases h1 : x < n
    · have h2 : x < n + 1 := by omega
      have h3 : (x == n) = false := by simp; omega
      simp only [List.filter_cons, decide_eq_true h1, decide_eq_true h2, if_true, List.length_cons, h3, ih]
      simp
      omega
    · by_cases h4 : x = n
      · subst h4
        have h2 : x < x + 1 := by omega
        simp only [List.filter_cons, decide_eq_true h2, if_true, List.length_cons, ih]
        simp
        omega
      · have h2 : ¬ x < n + 1 := by omega
        have h3 : (x == n) = false := by simp; omega
        simp only [List.filter_cons, decide_eq_false h1, decide_eq_false h2, h3]
        simp
        exact ih
theorem sum_counts (l : List Nat) : ∀ n, ((List.range n).map fun c => l.count c).sum = (l.filter fun x => decide (x < n)).length
  | 0 => by
    rw [List.filter_eq_nil_iff.mpr (by simp)]
    rfl
  | n + 1 => by
    rw [List.range_succ, List.map_append, List.sum_append, sum_counts l n, filter_lt_succ]
    simp
theorem jobCount_range : ∀ (cs : Chains), jobCount cs = ((List.range cs.length).map fun c => (cs.getD c []).length).sum
  | [] => rfl
  | a :: r => by
    have ih := jobCount_range r
    rw [List.length_cons, List.range_succ_eq_map, List.map_cons, List.sum_cons, List.map_map]
    show (a.length :: r.map List.length).sum = _
    rw [List.sum_cons]
    unfold jobCount at ih
    rw [ih]
    rfl
theorem orderOk_iff {cs : Chains} {order : List Nat} : orderOk cs order = true ↔ order.length = jobCount cs ∧ ∀ c, c < cs.length → order.count c = (cs.getD c []).length := by
  unfold orderOk
  simp only [Bool.and_eq_true, decide_eq_true_eq, List.all_eq_true, List.mem_range]
theorem orderOk_lt {cs : Chains} {order : List Nat} (h : orderOk cs order = true) : ∀ x ∈ order, x < cs.length := by
  obtain ⟨h1, h2⟩ := orderOk_iff.mp h
  have e : ((List.range cs.length).map fun c => order.count c) = ((List.range cs.length).map fun c => (cs.getD c []).length) := by
    apply List.map_congr_left
    intro c hc
    exact h2 c (List.mem_range.mp hc)
  have s := sum_counts order cs.length
  rw [e, ← jobCount_range, ← h1] at s
  intro x hx
  have q := List.length_filter_eq_length_iff.mp s.symm x hx
  simpa using q
theorem orderOk_fits {cs : Chains} {order : List Nat} (h : orderOk cs order = true) : Fits cs order := fun c hc => by
  have h1 := orderOk_lt h c hc
  exact ⟨h1, Nat.le_of_eq ((orderOk_iff.mp h).2 c h1)⟩
theorem isOrder_is (cs : Chains) (order : List Nat) : isOrder cs order = orderOk cs order := by
  rw [Bool.eq_iff_iff]
  constructor
  · intro h
    unfold isOrder at h
    rw [Bool.and_eq_true] at h
    obtain ⟨h1, h2⟩ := h
    refine orderOk_iff.mpr ⟨by simpa using h1, fun c hc => ?_⟩
    have q := List.all_eq_true.mp h2 c (List.mem_range.mpr hc)
    rw [Bool.and_eq_true] at q
    rw [List.count_eq_length_filter]
    simpa using q.1
  · intro h
    obtain ⟨h1, h2⟩ := orderOk_iff.mp h
    unfold isOrder
    rw [Bool.and_eq_true]
    refine ⟨by simpa using h1, List.all_eq_true.mpr fun c hc => ?_⟩
    rw [Bool.and_eq_true]
    refine ⟨?_, List.all_eq_true.mpr fun x hx => decide_eq_true (orderOk_lt h x hx)⟩
    have z := h2 c (List.mem_range.mp hc)
    rw [List.count_eq_length_filter] at z
    simpa using z
/-! ### the number of orders -/
def fact : Nat → Nat
  | 0 => 1
  | n + 1 => fact n * (n + 1)
theorem fact_pos : ∀ n, 0 < fact n
  | 0 => Nat.one_pos
  | n + 1 => Nat.mul_pos (fact_pos n) (Nat.succ_pos n)
theorem fact_small {n : Nat} (h : n ≤ 7) : fact n ≤ 5040 := by
  have : ∀ m : Fin 8, fact m.val ≤ 5040 := by decide
  exact this ⟨n, by omega⟩
def prodF (l : List Nat) : Nat := l.foldr (fun s p => fact s * p) 1
def sizes (cs : Chains) : List Nat := cs.map List.length
theorem prodF_pos : ∀ l, 0 < prodF l
  | [] => Nat.one_pos
  | a :: r => Nat.mul_pos (fact_pos a) (prodF_pos r)
theorem prodF_set : ∀ {cs : Chains} {c : Nat} {l : List Job}, c < cs.length → prodF (sizes (cs.set c l)) * fact (cs.getD c []).length = prodF (sizes cs) * fact l.length
  | [], c, l, h => by simp at h
  | a :: r, 0, l, _ => by
    show fact l.length * prodF (sizes r) * fact a.length = fact a.length * prodF (sizes r) * fact l.length
    rw [Nat.mul_comm (fact l.length), Nat.mul_comm (fact a.length), Nat.mul_assoc, Nat.mul_assoc, Nat.mul_comm (fact l.length)]
  | a :: r, c + 1, l, h => by
    have ih := prodF_set (cs := r) (c := c) (l := l) (by simpa using h)
    show fact a.length * prodF (sizes (r.set c l)) * fact (r.getD c []).length = fact a.length * prodF (sizes r) * fact l.length
    rw [Nat.mul_assoc, Nat.mul_assoc, ih]
theorem sum_mul (k : Nat) (f : Nat → Nat) : ∀ l : List Nat, (l.map f).sum * k = (l.map fun c => f c * k).sum
  | [] => by simp
  | a :: r => by
    rw [List.map_cons, List.sum_cons, List.map_cons, List.sum_cons, Nat.add_mul, sum_mul k f r]
theorem allOrders_count : ∀ (n : Nat) (cs : Chains), jobCount cs = n → (allOrders cs n).length * prodF (sizes cs) = fact n
  | 0, cs, h => by
    rw [allOrders]
    have e : ∀ (cs : Chains), jobCount cs = 0 → prodF (sizes cs) = 1 := by
      intro cs
      induction cs with
      | nil => intro _; rfl
      | cons a r ih =>
        intro h
        have e : a.length + jobCount r = 0 := by
          have : (a.length :: r.map List.length).sum = 0 := h
          rw [List.sum_cons] at this
          exact this
        have e1 : a.length = 0 := by omega
        show fact a.length * prodF (sizes r) = 1
        rw [ih (by omega), e1]
        rfl
    rw [e cs h]
    rfl
  | n + 1, cs, h => by
    rw [allOrders, List.length_flatMap, sum_mul]
    refine (congrArg List.sum (List.map_congr_left (g := fun c => (cs.getD c []).length * fact n) fun c hc => ?_)).trans ?_
    · have hc := List.mem_range.mp hc
      cases e : cs.getD c [] with
      | nil => simp
      | cons job rest =>
        have js := jobCount_set (cs := cs) (l := rest) hc
        have ps := prodF_set (cs := cs) (l := rest) hc
        rw [e] at js ps
        have ih := allOrders_count n (cs.set c rest) (by simp only [List.length_cons] at js; omega)
        have pe : prodF (sizes cs) = prodF (sizes (cs.set c rest)) * (rest.length + 1) := by
          have z : prodF (sizes (cs.set c rest)) * (rest.length + 1) * fact rest.length = prodF (sizes cs) * fact rest.length := by
            rw [← ps, Nat.mul_assoc, Nat.mul_comm (rest.length + 1)]
            rfl
          exact (Nat.eq_of_mul_eq_mul_right (fact_pos _) z).symm
        show ((allOrders (cs.set c rest) n).map fun order => c :: order).length * prodF (sizes cs) = (rest.length + 1) * fact n
        rw [List.length_map, pe, ← Nat.mul_assoc, ih, Nat.mul_comm]
    · rw [← sum_mul, ← jobCount_range, h, Nat.mul_comm]
      rfl
/-- what the program reckons: the factorial of the sum, divided by the factorials one by one -/
def orderCount (l : List Nat) : Nat := l.foldl (fun a s => a / fact s) (fact l.sum)
theorem divs : ∀ (l : List Nat) (a : Nat), l.foldl (fun a s => a / fact s) a = a / prodF l
  | [], a => (Nat.div_one a).symm
  | s :: r, a => by
    rw [List.foldl_cons, divs r, Nat.div_div_eq_div_mul]
    rfl
theorem orderCount_is (cs : Chains) : (allOrders cs (jobCount cs)).length = orderCount (sizes cs) := by
  unfold orderCount
  rw [divs]
  have h := allOrders_count (jobCount cs) cs rfl
  show _ = fact (jobCount cs) / _
  rw [← h, Nat.mul_div_cancel _ (prodF_pos _)]
/-! ### two chains exchanged -/
def exchanged (cs : Chains) (c d : Nat) : Chains := (cs.set c (cs.getD d [])).set d (cs.getD c [])
theorem jobCount_exchanged {cs : Chains} {c d : Nat} (hc : c < cs.length) (hd : d < cs.length) : jobCount (exchanged cs c d) = jobCount cs := by
  unfold exchanged
  have e1 := jobCount_set (cs := cs) (l := cs.getD d []) hc
  have e2 := jobCount_set (cs := cs.set c (cs.getD d [])) (l := cs.getD c []) (c := d) (by rw [List.length_set]; exact hd)
  rw [getD_set hc] at e2
  by_cases q : c = d
  · subst q
    rw [if_pos rfl] at e2
    omega
  · rw [if_neg q] at e2
    omega
/-! ### the answers -/
abbrev intsOf (l : List Nat) : List Int := l.map Int.ofNat
def cost (cs : Chains) (order : List Nat) : Nat := costFrom 0 (jobsIn cs order)
def ansTotal (flat order : List Nat) : List Int := match read flat with
  | none => [-22]
  | some cs => if orderOk cs order = true then [(cost cs order : Int)] else [-22]
def ansBuilt (whole : Bool) (flat : List Nat) : List Int := match read flat with
  | none => [-22]
  | some cs => (cost cs (built whole cs) : Int) :: intsOf (built whole cs)
def ansDensest (c : Nat) (flat : List Nat) : List Int := match read flat with
  | none => [-22]
  | some cs => if cs.length ≤ c then [-2] else if cs.getD c [] = [] then [-6] else
    [(densestPrefix (cs.getD c []) : Int), ((tot (cs.getD c []) (densestPrefix (cs.getD c []))).1 : Int), ((tot (cs.getD c []) (densestPrefix (cs.getD c []))).2 : Int)]
def ansTimes (flat order : List Nat) : List Int := match read flat with
  | none => [-22]
  | some cs => if orderOk cs order = true then (jobCount cs : Int) :: intsOf (timesFrom 0 (jobsIn cs order)) else [-22]
def ansCount (flat : List Nat) : List Int := match read flat with
  | none => [-22]
  | some cs => [(orderCount (sizes cs) : Int)]
def ansSwap (c d : Nat) (flat : List Nat) : List Int := match read flat with
  | none => [-22]
  | some cs => if cs.length ≤ c ∨ cs.length ≤ d then [-2] else [(cost (exchanged cs c d) (built true (exchanged cs c d)) : Int)]
theorem total_is (chains order : List Int) : PyKs593.total_cost chains order = ansTotal (chains.map Int.toNat) (order.map Int.toNat) := by
  show Ks593Neutral.integers (withOrder (chains.map Int.toNat) (order.map Int.toNat) fun cs => number (totalCost 0 cs (order.map Int.toNat))) = _
  unfold withOrder ansTotal
  rw [withChains_is]
  cases read (chains.map Int.toNat) with
  | none => rfl
  | some cs =>
    simp only [isOrder_is]
    split
    · rw [totalCost_is]
      rfl
    · rfl
theorem optimal_answer (chains : List Int) : PyKs593.optimal_order chains = ansBuilt true (chains.map Int.toNat) := by
  show Ks593Neutral.integers (withChains (chains.map Int.toNat) fun cs => { value := totalCost 0 cs (optimalOrder cs), rest := optimalOrder cs }) = _
  unfold ansBuilt
  rw [withChains_is]
  cases read (chains.map Int.toNat) with
  | none => rfl
  | some cs =>
    simp only [optimal_is, totalCost_is]
    rfl
theorem greedy_answer (chains : List Int) : PyKs593.greedy_order chains = ansBuilt false (chains.map Int.toNat) := by
  show Ks593Neutral.integers (withChains (chains.map Int.toNat) fun cs => { value := totalCost 0 cs (greedyOrder cs (jobCount cs)), rest := greedyOrder cs (jobCount cs) }) = _
  unfold ansBuilt
  rw [withChains_is]
  cases read (chains.map Int.toNat) with
  | none => rfl
  | some cs =>
    simp only [greedy_is, totalCost_is]
    rfl
theorem densest_answer (c : Int) (chains : List Int) : PyKs593.densest_prefix c chains = ansDensest c.toNat (chains.map Int.toNat) := by
  show Ks593Neutral.integers (withChains (chains.map Int.toNat) fun cs => if cs.length ≤ c.toNat then number (-2) else match cs.getD c.toNat [] with
      | [] => number (-6)
      | jobs => { value := densestPrefix jobs, rest := [(prefixTotals jobs (densestPrefix jobs)).1, (prefixTotals jobs (densestPrefix jobs)).2] }) = _
  unfold ansDensest
  rw [withChains_is]
  cases read (chains.map Int.toNat) with
  | none => rfl
  | some cs =>
    by_cases h : cs.length ≤ c.toNat
    · simp only [h, if_true]
      rfl
    · simp only [h, if_false]
      cases cs.getD c.toNat [] with
      | nil => rfl
      | cons a r => rfl
theorem times_answer (chains order : List Int) : PyKs593.completion_times chains order = ansTimes (chains.map Int.toNat) (order.map Int.toNat) := by
  show Ks593Neutral.integers (withOrder (chains.map Int.toNat) (order.map Int.toNat) fun cs => { value := (completionTimes 0 cs (order.map Int.toNat)).length, rest := completionTimes 0 cs (order.map Int.toNat) }) = _
  unfold withOrder ansTimes
  rw [withChains_is]
  cases read (chains.map Int.toNat) with
  | none => rfl
  | some cs =>
    simp only [isOrder_is]
    by_cases h : orderOk cs (order.map Int.toNat) = true
    · rw [if_pos h, if_pos h, completionTimes_is]
      show ((timesFrom 0 _).length : Int) :: _ = _
      rw [timesFrom_length, jobsIn_length _ _ (orderOk_fits h), (orderOk_iff.mp h).1]
    · rw [if_neg h, if_neg h]
      rfl
theorem count_answer (chains : List Int) : PyKs593.count_orders chains = ansCount (chains.map Int.toNat) := by
  show Ks593Neutral.integers (withChains (chains.map Int.toNat) fun cs => number (allOrders cs (jobCount cs)).length) = _
  unfold ansCount
  rw [withChains_is]
  cases read (chains.map Int.toNat) with
  | none => rfl
  | some cs =>
    simp only [orderCount_is]
    rfl
theorem swap_answer (c d : Int) (chains : List Int) : PyKs593.cost_after_swap c d chains = ansSwap c.toNat d.toNat (chains.map Int.toNat) := by
  show Ks593Neutral.integers (withChains (chains.map Int.toNat) fun cs => if cs.length ≤ c.toNat ∨ cs.length ≤ d.toNat then number (-2)
      else number (totalCost 0 (swapChains cs c.toNat d.toNat) (optimalOrder (swapChains cs c.toNat d.toNat)))) = _
  unfold ansSwap
  rw [withChains_is]
  cases read (chains.map Int.toNat) with
  | none => rfl
  | some cs =>
    by_cases h : cs.length ≤ c.toNat ∨ cs.length ≤ d.toNat
    · simp only [h, if_true]
      rfl
    · simp only [h, if_false, optimal_is, totalCost_is]
      rfl
end Cj
/-! # The heap: how the mirror's values lie in it -/
namespace Cj
open PySem PySem.Spec PyProof.Rows L2 Ks593
/-- the i-th statement of the program -/
def top (i : Nat) : Stmt := PySem.Challenge.pw_chainjobs_s01_total_cost.main.body.getD i (.Pass ⟨0, 0, 0, 0⟩)
abbrev vn (n : Nat) : V := .int (n : Int)
theorem vn_ints (l : List Nat) : l.map vn = (intsOf l).map V.int := by
  rw [List.map_map]
  rfl
theorem small {n : Nat} (h : n ≤ 1000) : n ≤ sizeLine := Nat.le_of_lt (small1000 h)
theorem vn_set (l : List Nat) (i n : Nat) : (l.map vn).set i (vn n) = (l.set i n).map vn := by rw [List.map_set]
theorem range_map_succ {β : Type} (i : Nat) (g : Nat → β) : (List.range (i + 1)).map g = (List.range i).map g ++ [g i] := by
  rw [List.range_succ, List.map_append]
  rfl
theorem getD_of {α : Type} {l : List α} {i : Nat} {x d : α} (h : l[i]? = some x) : l.getD i d = x := by
  rw [List.getD_eq_getElem?_getD, h]
  rfl
/-- references to things that R tells, place by place -/
def PV {α : Type} (R : Hp → Addr → α → Prop) (H : Hp) (xs : List V) (l : List α) : Prop :=
  xs.length = l.length ∧ ∀ (i : Nat) (y : α), l[i]? = some y → ∃ p : Addr, xs[i]? = some (.ref p) ∧ R H p y
section
variable {α : Type} {R : Hp → Addr → α → Prop} {H H' : Hp} {xs : List V} {l : List α}
theorem PV.nil : PV R H [] [] := ⟨rfl, fun i y h => by simp at h⟩
theorem PV.mono (h : PV R H xs l) (k : ∀ p y, R H p y → R H' p y) : PV R H' xs l := ⟨h.1, fun i y e => by
  obtain ⟨p, h1, h2⟩ := h.2 i y e
  exact ⟨p, h1, k p y h2⟩⟩
theorem PV.snoc (h : PV R H xs l) {p : Addr} {y : α} (hp : R H p y) : PV R H (xs ++ [.ref p]) (l ++ [y]) := by
  obtain ⟨h1, h2⟩ := h
  refine ⟨by simp [h1], fun i z e => ?_⟩
  by_cases c : i < l.length
  · rw [List.getElem?_append_left c] at e
    rw [List.getElem?_append_left (by omega)]
    exact h2 i z e
  · rw [List.getElem?_append_right (by omega)] at e
    rw [List.getElem?_append_right (by omega)]
    by_cases q : i = l.length
    · subst q
      rw [Nat.sub_self] at e
      rw [h1, Nat.sub_self]
      have ez : y = z := Option.some.inj e
      subst ez
      exact ⟨p, rfl, hp⟩
    · rw [List.getElem?_eq_none (by simp; omega)] at e
      cases e
theorem PV.at (h : PV R H xs l) {i : Nat} {x : V} (hx : xs[i]? = some x) : ∃ y p, l[i]? = some y ∧ x = .ref p ∧ R H p y := by
  have hi : i < l.length := by
    have := (List.getElem?_eq_some_iff.mp hx).1
    rw [h.1] at this
    exact this
  obtain ⟨p, h1, h2⟩ := h.2 i _ (List.getElem?_eq_getElem hi)
  rw [hx] at h1
  exact ⟨_, p, List.getElem?_eq_getElem hi, Option.some.inj h1, h2⟩
theorem PV.drop (h : PV R H xs l) (n : Nat) : PV R H (xs.drop n) (l.drop n) := ⟨by simp [h.1], fun i y e => by
  rw [List.getElem?_drop] at e ⊢
  exact h.2 _ y e⟩
theorem PV.take (h : PV R H xs l) (n : Nat) : PV R H (xs.take n) (l.take n) := ⟨by simp [h.1], fun i y e => by
  rw [List.getElem?_take] at e ⊢
  split at e
  · rename_i c
    rw [if_pos c]
    exact h.2 _ y e
  · cases e⟩
theorem PV.set (h : PV R H xs l) {p : Addr} {y : α} (i : Nat) (hp : R H p y) : PV R H (xs.set i (.ref p)) (l.set i y) := ⟨by simp [h.1], fun j z e => by
  rw [List.getElem?_set] at e ⊢
  by_cases c : i = j
  · rw [if_pos c] at e ⊢
    by_cases q : i < l.length
    · rw [if_pos q] at e
      rw [if_pos (by rw [h.1]; exact q)]
      have ez : y = z := Option.some.inj e
      subst ez
      exact ⟨p, rfl, hp⟩
    · rw [if_neg q] at e
      cases e
  · rw [if_neg c] at e ⊢
    exact h.2 j z e⟩
end
/-- a list at a of things that R tells -/
def ListAt {α : Type} (R : Hp → Addr → α → Prop) (H : Hp) (a : Addr) (l : List α) : Prop := ∃ xs, H a = some (.lst xs) ∧ PV R H xs l
/-- what holds stays while all that was tracked stays -/
def Mono {α : Type} (R : Hp → Addr → α → Prop) : Prop := ∀ (H H' : Hp) (p : Addr) (y : α), Same H H' → R H p y → R H' p y
theorem ListAt.mono {α : Type} {R : Hp → Addr → α → Prop} (m : Mono R) : Mono (ListAt R) := fun H H' p y s h => by
  obtain ⟨xs, h1, h2⟩ := h
  exact ⟨xs, s _ _ h1, h2.mono fun p y => m H H' p y s⟩
theorem PV.same {α : Type} {R : Hp → Addr → α → Prop} {H H' : Hp} {xs : List V} {l : List α} (m : Mono R) (h : PV R H xs l) (s : Same H H') : PV R H' xs l := h.mono fun p y => m H H' p y s
def JobAt (H : Hp) (p : Addr) (j : Job) : Prop := H p = some (.tup [vn j.duration, vn j.weight])
abbrev JobsAt : Hp → Addr → List Job → Prop := ListAt JobAt
abbrev ChainsAt : Hp → Addr → Chains → Prop := ListAt JobsAt
theorem mJob : Mono JobAt := fun H H' p y s h => s _ _ h
theorem mJobs : Mono JobsAt := ListAt.mono mJob
theorem mChains : Mono ChainsAt := ListAt.mono mJobs
/-- jobs as data -/
def jobD (j : Job) : PyData := .tuple [.int (j.duration : Int), .int (j.weight : Int)]
theorem dp_jobs {K : PySem.W.Frag} {H : Hp} : ∀ (js : List Job) (xs : List V), PV JobAt H xs js → DpAll K H xs (js.map jobD)
  | [], xs, h => by
    have e : xs = [] := List.length_eq_zero_iff.mp h.1
    rw [e]
    exact .nil
  | j :: r, xs, h => by
    cases xs with
    | nil => have := h.1; simp at this
    | cons x t =>
      obtain ⟨p, hp, hj⟩ := h.2 0 j rfl
      obtain rfl : x = .ref p := Option.some.inj hp
      refine .cons (.tup (SqT.of hj) (.cons (.int _) (.cons (.int _) .nil))) (dp_jobs r t ⟨by have := h.1; simpa using this, fun i y e => h.2 (i + 1) y e⟩)
theorem lay_jobs : ∀ js : List Job, PyData.canLayAll0 (js.map jobD) = true ∧ PyData.depthAll (js.map jobD) ≤ 1
  | [] => ⟨rfl, Nat.zero_le _⟩
  | j :: r => by
    obtain ⟨h1, h2⟩ := lay_jobs r
    refine ⟨?_, ?_⟩
    · show ((jobD j).canLay0 && PyData.canLayAll0 (r.map jobD)) = true
      rw [h1]
      rfl
    · show max (jobD j).depth (PyData.depthAll (r.map jobD)) ≤ 1
      have e : (jobD j).depth = 1 := rfl
      omega
theorem shaped_jobs (js : List Job) : SeqAt.shaped (.list (js.map jobD)) = true := by
  obtain ⟨h1, h2⟩ := lay_jobs js
  show (PyData.canLayAll0 (js.map jobD) && decide (PyData.depthAll (js.map jobD) + 1 ≤ 64)) = true
  rw [h1, decide_eq_true (by omega)]
  rfl
theorem eqv_jobs (js : List Job) : PyData.eqv (.list (js.map jobD)) (.list []) = js.isEmpty := by
  cases js with
  | nil => rfl
  | cons j r => rfl
theorem len_le_jobCount : ∀ {cs : Chains} {l : List Job}, l ∈ cs → l.length ≤ jobCount cs
  | [], _, h => by cases h
  | a :: r, l, h => by
    have e : jobCount (a :: r) = a.length + jobCount r := by
      show (a.length :: r.map List.length).sum = _
      rw [List.sum_cons]
      rfl
    rcases List.mem_cons.mp h with q | q
    · rw [q]
      omega
    · have := len_le_jobCount q
      omega
/-- the heap without the object at a -/
def hide (H : Hp) (a : Addr) : Hp := fun b => if b = a then none else H b
theorem hide_ne {H : Hp} {a b : Addr} (h : b ≠ a) : hide H a b = H b := if_neg h
theorem hide_upd {H : Hp} {a : Addr} {o : HO} : hide (upd H a o) a = hide H a := by
  funext b
  unfold hide
  by_cases c : b = a
  · rw [if_pos c, if_pos c]
  · rw [if_neg c, if_neg c, upd_ne c]
theorem hide_same {H : Hp} {a : Addr} : Same (hide H a) H := fun b o h => by
  unfold hide at h
  by_cases c : b = a
  · rw [if_pos c] at h
    cases h
  · rw [if_neg c] at h
    exact h
theorem Same.hid {H H' : Hp} (a : Addr) (s : Same H H') : Same (hide H a) (hide H' a) := fun b o h => by
  unfold hide at h ⊢
  by_cases c : b = a
  · rw [if_pos c] at h
    cases h
  · rw [if_neg c] at h ⊢
    exact s _ _ h
theorem Same.to_hide {H H' : Hp} {a : Addr} (s : Same H H') (n : H a = none) : Same H (hide H' a) := fun b o h => by
  rw [hide_ne (ne_of_none h n)]
  exact s _ _ h
theorem Same.new {H : Hp} {p : Addr} (h : H p = none) (o : HO) : Same H (upd H p o) := fun b u q => by rw [upd_ne (ne_of_none q h)]; exact q
theorem Same.put {H H' : Hp} {p : Addr} (s : Same H H') (h : H p = none) (o : HO) : Same H (upd H' p o) := fun b u q => by rw [upd_ne (ne_of_none q h)]; exact s _ _ q
/-- jobs stand without a list that is not theirs -/
theorem jobs_hide {H : Hp} {p L : Addr} {l : List Job} {ys : List V} (h : JobsAt H p l) (n : p ≠ L) (hL : H L = some (.lst ys)) : JobsAt (hide H L) p l := by
  obtain ⟨xs, h1, h2⟩ := h
  refine ⟨xs, by rw [hide_ne n]; exact h1, h2.mono fun q j hq => ?_⟩
  show hide H L q = _
  rw [hide_ne (ne_of hq hL (by intro z; cases z))]
  exact hq
/-- a new object elsewhere -/
theorem Same.put' {H H' : Hp} {p : Addr} (s : Same H H') (h : H' p = none) (o : HO) : Same H (upd H' p o) := s.trans (Same.new h o)
theorem hide_put {H : Hp} {a b : Addr} {o : HO} (h : b ≠ a) : hide (upd H b o) a = upd (hide H a) b o := by
  funext c
  show (if c = a then none else if c = b then some o else H c) = if c = b then some o else if c = a then none else H c
  by_cases e1 : c = a
  · rw [if_pos e1, if_neg (by rw [e1]; exact h.symm), if_pos e1]
  · rw [if_neg e1, if_neg e1]
/-- a callee as a caller needs it -/
structure Callee (P : Program) (w : World) (K : PySem.W.Frag) (mg : Str → Option Value) (base : Heap) (x : Str) (ps : List Str) (k : Nat) (sp : Sp) : Prop where
  ex : ∃ (f : Addr) (fd : FuncData), FnOk P w K mg base CX0 k f fd ps sp ∧ mg x = some (.ref f) ∧ PySem.W.keepIn K (.ref f) = true ∧ Binds K fd ps []
/-- the list of intsOf at a place -/
theorem ints_at {ns : List Nat} {i : Nat} {n : Nat} (h : ns[i]? = some n) : (ns.map vn)[i]? = some (vn n) := by
  rw [List.getElem?_map, h]
  rfl
theorem ints_of {ns : List Nat} {i : Nat} {x : V} (h : (ns.map vn)[i]? = some x) : ∃ n, ns[i]? = some n ∧ x = vn n := by
  rw [List.getElem?_map] at h
  cases e : ns[i]? with
  | none =>
    rw [e] at h
    cases h
  | some n =>
    rw [e] at h
    exact ⟨n, rfl, (Option.some.inj h).symm⟩
end Cj
/-! ## jobs_between -/
namespace Cj
open PySem PySem.Spec PyProof.Rows L2 Ks593
abbrev s_jobs_between : Stmt := top 5
theorem jobsOf_more : ∀ (i : Nat) (l : List Nat) (d w : Nat), l[2 * i]? = some d → l[2 * i + 1]? = some w → jobsOf (l.take (2 * (i + 1))) = jobsOf (l.take (2 * i)) ++ [⟨d, w⟩]
  | _, [], d, w, h, _ => by simp at h
  | 0, [a], d, w, _, h => by simp at h
  | 0, a :: b :: r, d, w, h, k => by
    have e1 : a = d := Option.some.inj h
    have e2 : b = w := Option.some.inj k
    subst e1 e2
    rfl
  | i + 1, [a], d, w, h, _ => by simp at h
  | i + 1, a :: b :: r, d, w, h, k => by
    have e1 : 2 * (i + 1) = 2 * i + 2 := by omega
    have e2 : 2 * (i + 1 + 1) = 2 * (i + 1) + 2 := by omega
    rw [e1] at h k
    have ih := jobsOf_more i r d w (by simpa using h) (by simpa using k)
    rw [e2, e1]
    show (⟨a, b⟩ : Job) :: jobsOf (r.take (2 * (i + 1))) = ((⟨a, b⟩ : Job) :: jobsOf (r.take (2 * i))) ++ [⟨d, w⟩]
    rw [ih]
    rfl
def spJobsBetween (K : PySem.W.Frag) : Sp := fun vs H Q _ => ∃ (a : Addr) (ns : List Nat) (b c : Nat) (i j : Int), vs = [.ref a, .int i, .int j] ∧ i = (b : Int) ∧ j = ((b + 2 * c : Nat) : Int) ∧ SqL K H a (ns.map vn) ∧ b + 2 * c ≤ ns.length ∧ ns.length ≤ 25 ∧
  ∀ (H' : Hp) (p : Addr), Same H H' → H p = none → JobsAt H' p (jobsOf ((ns.drop b).take (2 * c))) → Q (.ref p) H'
theorem sc_jobs_between : FnScope ["numbers", "begin", "end", "place"] ["numbers", "begin", "end"] (defScope s_jobs_between) := ⟨rfl, rfl, rfl, by decide +kernel, rfl, by decide +kernel, by decide +kernel⟩
theorem rgfits {i : Int} (h1 : -1000 ≤ i) (h2 : i ≤ 1000) : Builtin.Range.rangeFitsLong i = true := by
  show (decide (-(2 ^ 63) ≤ i) && decide (i < 2 ^ 63)) = true
  rw [decide_eq_true (by omega), decide_eq_true (by omega)]
  rfl
theorem rg2 {b c : Nat} (h : b + 2 * c ≤ 25) : RgC (b : Int) ((b + 2 * c : Nat) : Int) 2 c := by
  have e : Builtin.Range.rangeSize (b : Int) ((b + 2 * c : Nat) : Int) 2 = (c : Int) := by
    unfold Builtin.Range.rangeSize
    rw [if_pos (by decide)]
    split <;> omega
  refine ⟨by decide, by decide, ?_, e⟩
  unfold Builtin.Range.small
  rw [e, rgfits (by omega) (by omega), rgfits (by omega) (by omega), rgfits (by omega) (by omega), rgfits (by omega) (by omega), if_pos (by decide), rgfits (by omega) (by omega), Bool.or_true]
  rfl
theorem jobsOf_length : ∀ l : List Nat, 2 * (jobsOf l).length ≤ l.length
  | [] => Nat.le_refl _
  | [_] => Nat.zero_le _
  | a :: b :: r => by
    have ih := jobsOf_length r
    show 2 * ((jobsOf r).length + 1) ≤ r.length + 1 + 1
    omega
section
variable {P : Program} {w : World} {K : PySem.W.Frag} {mg : Str → Option Value} {base : Heap} {f : Addr} {fd : FuncData}
theorem ok_jobs_between (F : Fun K "jobs_between" "jobs_between" s_jobs_between f fd) (mr : mg "range" = none) : FnOk P w K mg base CX0 1 f fd ["numbers", "begin", "end"] (spJobsBetween K) := by
  refine F.ok sc_jobs_between (fun vs H Q E h => ?_) (fun cdv A outer s H vs Q E hr h => ?_)
  · obtain ⟨a, ns, b, c, i, j, rfl, _⟩ := h
    rfl
  obtain ⟨a, ns, b, c, i, j, rfl, rfl, rfl, hS, hbc, h25, q⟩ := h
  refine ⟨_, pss_one (ps_ret (pe_lc (own := [("place", 3)]) (g := gName 3) (tt := tYes) (by rfl) sc_jobs_between.nd (pi_range3 rfl mr (pa_cons (pv 1) (pa_cons (pv 2) (pa_cons pe_int pa_nil))))
    (blkOk_by (own := [("place", 3)]) (N := ["numbers", "begin", "end", "place"]) (sc := defScope s_jobs_between) (by decide +kernel)) (fun _ _ _ _ _ => pg_name (i := 3) sc_jobs_between.nd rfl (Or.inl rfl)) (fun _ _ _ _ _ => pts_nil)
    (fun _ _ _ _ _ => pe_tup (pa_cons (pe_ix (r := rIxL K) ix_list (pv 0) (pv 3) (fun _ _ => rfl)) (pa_cons (pe_ix (r := rIxL K) ix_list (pv 0) (pe_op op_add (pv 3) pe_int) (fun _ _ => rfl)) pa_nil))))), ?_⟩
  refine ⟨_, rfl, _, rfl, (b : Int), ((b + 2 * c : Nat) : Int), 2, c, rfl, rg2 (by omega), fun D hD => ?_⟩
  refine lc_it walk_rangeC (fun i H' => Same H H' ∧ ∃ xs, H' D = some (.lst xs) ∧ PV JobAt (hide H' D) xs (jobsOf ((ns.drop b).take (2 * i)))) ⟨Same.new hD _, [], upd_same, PV.nil⟩ (fun _ _ _ _ => trivial) ?_ ?_
  · rintro i x H0 H1 hi ⟨s1, xs, hx, hv⟩ ⟨rfl, rfl⟩
    have l1 : b + 2 * i < ns.length := by omega
    have l2 : b + 2 * i + 1 < ns.length := by omega
    have S1 := s1.seq hS
    refine ⟨rfl, _, rfl, _, rfl, a, _, _, vn ns[b + 2 * i], rfl, rfl, S1, ?_, ?_⟩
    · exact at_of (j := b + 2 * i) (by omega) (ints_at (List.getElem?_eq_getElem l1))
    refine ⟨_, rfl, _, rfl, _, _, rfl, rfl, a, _, _, vn ns[b + 2 * i + 1], rfl, rfl, S1, ?_, ?_⟩
    · exact at_of (j := b + 2 * i + 1) (by omega) (ints_at (List.getElem?_eq_getElem l2))
    refine ⟨(by show 2 ≤ sizeLine; decide), fun t ht => ⟨xs, ?_, ?_, ?_⟩⟩
    · rw [upd_ne (ne_of_none hx ht)]
      exact hx
    · rw [hv.1]
      have z := jobsOf_length ((ns.drop b).take (2 * i))
      rw [List.length_take, List.length_drop] at z
      exact small1000 (by omega)
    · have nt : t ≠ D := (ne_of_none hx ht).symm
      refine ⟨Same.put (Same.put' s1 ht _) hD _, _, upd_same, ?_⟩
      rw [jobsOf_more i _ ns[b + 2 * i] ns[b + 2 * i + 1] (by rw [List.getElem?_drop]; exact List.getElem?_eq_getElem l1) (by rw [List.getElem?_drop]; exact List.getElem?_eq_getElem l2)]
      rw [hide_upd]
      have hd : hide H1 D t = none := by rw [hide_ne nt]; exact ht
      have e : hide (upd H1 t (.tup [vn ns[b + 2 * i], vn ns[b + 2 * i + 1]])) D = upd (hide H1 D) t (.tup [vn ns[b + 2 * i], vn ns[b + 2 * i + 1]]) := hide_put nt
      rw [e]
      exact (hv.same mJob (Same.new hd _)).snoc upd_same
  · rintro H1 ⟨s1, xs, hx, hv⟩
    exact q H1 D s1 hD ⟨xs, hx, hv.same mJob hide_same⟩
end
end Cj
/-! ## split -/
namespace Cj
open PySem PySem.Spec PyProof.Rows L2 Ks593
abbrev s_split : Stmt := top 6
def spSplit (K : PySem.W.Frag) : Sp := fun vs H Q _ => ∃ (a : Addr) (ns : List Nat), vs = [.ref a] ∧ SqL K H a (ns.map vn) ∧ ns.length ≤ 25 ∧
  (split ns = none → ∀ H' : Hp, Same H H' → Q .non H') ∧
  (∀ cs, split ns = some cs → ∀ (H' : Hp) (p : Addr), Same H H' → H p = none → ChainsAt H' p cs → Q (.ref p) H')
theorem sc_split : FnScope ["numbers", "chains", "place", "end"] ["numbers"] (defScope s_split) := ⟨rfl, rfl, rfl, by decide +kernel, rfl, by decide +kernel, by decide +kernel⟩
theorem split_place {ns : List Nat} {pl c : Nat} (h : ns[pl]? = some c) : split (ns.drop pl) = if 2 * c ≤ ns.length - (pl + 1) then (split (ns.drop (pl + 1 + 2 * c))).map (jobsOf ((ns.drop (pl + 1)).take (2 * c)) :: ·) else none := by
  have hp := (List.getElem?_eq_some_iff.mp h).1
  have e : ns.drop pl = c :: ns.drop (pl + 1) := by
    rw [List.drop_eq_getElem_cons hp]
    congr 1
    exact (List.getElem?_eq_some_iff.mp h).2
  rw [e, split_cons, List.length_drop, List.drop_drop]
section
variable {P : Program} {w : World} {K : PySem.W.Frag} {mg : Str → Option Value} {base : Heap} {f : Addr} {fd : FuncData}
theorem ok_split (F : Fun K "split" "split" s_split f fd) (ml : mg "len" = none) (C1 : Callee P w K mg base "jobs_between" ["numbers", "begin", "end"] 1 (spJobsBetween K)) : FnOk P w K mg base CX0 2 f fd ["numbers"] (spSplit K) := by
  obtain ⟨g, gd, G, mG, kG, bG⟩ := C1.ex
  refine F.ok sc_split (fun vs H Q E h => ?_) (fun cdv A outer s H vs Q E hr h => ?_)
  · obtain ⟨a, ns, rfl, _⟩ := h
    rfl
  obtain ⟨a, ns, rfl, hS, h25, qN, qS⟩ := h
  refine ⟨_, pss_cons (ps_set (i := 1) sc_split.nd rfl (.inl rfl) (pe_lst pa_nil))
    (pss_cons (ps_set (i := 2) sc_split.nd rfl (.inl rfl) pe_int)
    (pss_cons (ps_while PassesOwn.never (pt_cmpR op_lt (pv 2) (pe_callB call_len_seq (by rfl) ml PySem.boot_len (pa_cons (pv 0) pa_nil)) (nomark _))
      (pss_cons (ps_set (i := 3) sc_split.nd rfl (.inl rfl) (pe_op op_add (pe_op op_add (pv 2) pe_int) (pe_op op_mul pe_int (pe_ix ix_list (pv 0) (pv 2) (fun _ _ => rfl)))))
      (pss_cons (ps_if (pt_cmpR op_gt (pv 3) (pe_callB call_len_seq (by rfl) ml PySem.boot_len (pa_cons (pv 0) pa_nil)) (nomark _)) (pss_one (ps_ret pe_non)) pss_nil)
      (pss_cons (ps_expr (pe_bm PySem.F.plainAttrs_list PySem.F.slot_list_append PySem.F.type_list_append mt_append (pv 1) (pa_cons (pe_call G hr (by rfl) mG kG bG .nil pass0 (pa_cons (pv 0) (pa_cons (pe_op op_add (pv 2) pe_int) (pa_cons (pv 3) pa_nil)))) pa_nil)))
      (pss_one (ps_set (i := 2) sc_split.nd rfl (.inl rfl) (pv 3)))))))
    (pss_one (ps_ret (pv 1))))), ?_⟩
  refine ⟨(by show 0 ≤ sizeLine; decide), fun L hL => ?_⟩
  refine ⟨fun m σ H' => ∃ (pl : Nat) (z : Int) (cs : Chains) (xs : List V) (e : Option V), σ = [some (.ref a), some (.ref L), some (.int z), e] ∧ z = (pl : Int) ∧ pl ≤ ns.length ∧ m = ns.length - pl ∧ cs.length ≤ pl ∧ Same H H' ∧ H' L = some (.lst xs) ∧ PV JobsAt (hide H' L) xs cs ∧ split ns = (split (ns.drop pl)).map (cs ++ ·),
    ⟨ns.length, 0, 0, [], [], none, rfl, rfl, Nat.zero_le _, rfl, Nat.le_refl _, Same.new hL _, upd_same, PV.nil, ?_⟩, ?_⟩
  · rw [List.drop_zero]
    cases split ns <;> rfl
  rintro m σ H1 ⟨pl, z, cs, xs, e, rfl, hz, hpl, rfl, hcs, s1, hx, hv, hs⟩
  have S1 : SqL K H1 a (ns.map vn) := Same.seq s1 hS
  refine ⟨_, rfl, _, rfl, a, _, rfl, .inl S1, _, _, rfl, rfl, _, rfl, ?_⟩
  have hlen : (ns.map vn).length = ns.length := List.length_map _
  rw [hlen]
  refine ite2 (fun c => ?_) (fun c => ?_)
  · have c1 : pl < ns.length := by
      have := of_decide_eq_true c
      omega
    have hn : ns[pl]? = some ns[pl] := List.getElem?_eq_getElem c1
    refine ⟨fun σ' H' => ∃ m', m' < ns.length - pl ∧ _, fun σ' H' h => h, ?_⟩
    -- end = place + 1 + 2 * numbers[place]
    refine ⟨_, rfl, _, _, rfl, rfl, _, rfl, _, rfl, a, _, _, vn ns[pl], rfl, rfl, S1, at_of (j := pl) hz (ints_at hn), _, _, rfl, rfl, .inl (by decide), _, _, rfl, rfl, ?_⟩
    have sp := split_place hn
    refine ⟨_, rfl, _, rfl, a, _, rfl, .inl S1, _, _, rfl, rfl, _, rfl, ?_⟩
    rw [hlen]
    refine ite2 (fun c2 => ?_) (fun c2 => ?_)
    · have c3 : ¬ 2 * ns[pl] ≤ ns.length - (pl + 1) := by
        have := of_decide_eq_true c2
        omega
      rw [if_neg c3] at sp
      exact qN (by rw [hs, sp]; rfl) H1 s1
    · have c3 : pl + 1 + 2 * ns[pl] ≤ ns.length := by
        have := of_decide_eq_false (Bool.eq_false_iff.mpr c2)
        omega
      rw [if_pos (by omega)] at sp
      refine ⟨_, rfl, .inl ⟨rfl, _, SqL.of hx⟩, _, rfl, _, rfl, _, _, rfl, rfl, _, rfl, a, ns, pl + 1, ns[pl], _, _, rfl, by omega, by omega, S1, c3, h25, fun H2 p s2 hp hj => ?_⟩
      have hx2 := s2 _ _ hx
      have np : p ≠ L := (ne_of_none hx hp).symm
      refine ⟨L, xs, .ref p, rfl, rfl, hx2, by rw [hv.1]; exact small1000 (by omega), ?_⟩
      refine ⟨_, rfl, ns.length - (pl + 1 + 2 * ns[pl]), by omega, pl + 1 + 2 * ns[pl], _, cs ++ [jobsOf ((ns.drop (pl + 1)).take (2 * ns[pl]))], xs ++ [.ref p], _, rfl, by omega, c3, rfl, by simp; omega, Same.put (Same.trans s1 s2) hL _, upd_same, ?_, ?_⟩
      · rw [hide_upd]
        refine (hv.same mJobs (Same.hid L s2)).snoc ?_
        exact jobs_hide hj np hx2
      · rw [hs, sp]
        cases split (ns.drop (pl + 1 + 2 * ns[pl])) with
        | none => rfl
        | some ds => simp
  · have c1 : ns.drop pl = [] := List.drop_eq_nil_of_le (by
      have := of_decide_eq_false (Bool.eq_false_iff.mpr c)
      omega)
    refine ⟨_, rfl, qS cs ?_ H1 L s1 hL ⟨xs, hx, hv.same mJobs hide_same⟩⟩
    rw [hs, c1, split_nil]
    simp
end
end Cj
/-! ## is_job -/
namespace Cj
open PySem PySem.Spec PyProof.Rows L2 Ks593
abbrev s_is_job : Stmt := top 7
def spIsJob : Sp := fun vs H Q _ => ∃ (p : Addr) (j : Job), vs = [.ref p] ∧ JobAt H p j ∧ Q (.bl (okJob j)) H
theorem sc_is_job : FnScope ["job", "duration", "weight"] ["job"] (defScope s_is_job) := ⟨rfl, rfl, rfl, by decide +kernel, rfl, by decide +kernel, by decide +kernel⟩
section
variable {P : Program} {w : World} {K : PySem.W.Frag} {mg : Str → Option Value} {base : Heap} {f : Addr} {fd : FuncData}
theorem ok_is_job (F : Fun K "is_job" "is_job" s_is_job f fd) {t1 t2 : Tok} (m1 : mg "LONGEST" = some (.int 99 t1)) (m2 : mg "HEAVIEST" = some (.int 99 t2)) : FnOk P w K mg base CX0 1 f fd ["job"] spIsJob := by
  refine F.ok sc_is_job (fun vs H Q E h => ?_) (fun cdv A outer s H vs Q E hr h => ?_)
  · obtain ⟨p, j, rfl, _⟩ := h
    rfl
  obtain ⟨p, j, rfl, hj, q⟩ := h
  refine ⟨_, pss_cons (ps_asg (pv 0) (pg_tup (by rfl) (pgs_cons (pg_name (i := 1) sc_is_job.nd rfl (.inl rfl)) (pgs_cons (pg_name (i := 2) sc_is_job.nd rfl (.inl rfl)) pgs_nil))))
    (pss_one (ps_ret (pe_and (pe_chain op_le op_le pe_int (pv 1) (pe_glob (v := V.int 99) (by rfl) m1 ⟨_, rfl⟩)) (pe_one (pe_chain op_le op_le pe_int (pv 2) (pe_glob (v := V.int 99) (by rfl) m2 ⟨_, rfl⟩)))))), ?_⟩
  refine ⟨_, rfl, p, _, rfl, SqT.of hj, rfl, _, _, rfl, _, _, rfl, rfl, ?_⟩
  obtain ⟨d, wt⟩ := j
  have hk : ∀ b : Bool, b = okJob ⟨d, wt⟩ → Q (.bl b) H := fun b e => by
    rw [e]
    exact q
  refine ⟨_, rfl, _, _, rfl, rfl, _, rfl, ?_⟩
  refine ite2 (fun c1 => ?_) (fun c1 => ?_)
  · have c1 : (1 : Int) ≤ (d : Int) := of_decide_eq_true c1
    refine ⟨_, _, rfl, rfl, _, rfl, ?_⟩
    refine ite2 (fun c2 => ?_) (fun c2 => ?_)
    · have c2 : (d : Int) ≤ 99 := of_decide_eq_true c2
      refine ⟨_, rfl, _, _, rfl, rfl, _, rfl, ?_⟩
      refine ite2 (fun c3 => ?_) (fun c3 => ?_)
      · refine ⟨_, _, rfl, rfl, hk _ ?_⟩
        rw [Bool.eq_iff_iff]
        simp only [okJob, Bool.and_eq_true, decide_eq_true_eq]
        show (wt : Int) ≤ 99 ↔ _
        omega
      · have c3 := of_decide_eq_false (Bool.eq_false_iff.mpr c3)
        exact absurd (Int.natCast_nonneg wt) c3
    · have c2 : ¬ (d : Int) ≤ 99 := of_decide_eq_false (Bool.eq_false_iff.mpr c2)
      refine hk _ (Eq.symm ?_)
      have z : ¬ d ≤ 99 := by omega
      simp [okJob, z]
  · have c1 : ¬ (1 : Int) ≤ (d : Int) := of_decide_eq_false (Bool.eq_false_iff.mpr c1)
    have z : ¬ 1 ≤ d := by omega
    refine ⟨_, rfl, iteF (hk _ (Eq.symm ?_))⟩
    simp [okJob, z]
end
end Cj
/-! ## job_count -/
namespace Cj
open PySem PySem.Spec PyProof.Rows L2 Ks593
abbrev s_job_count : Stmt := top 8
/-- len's question, of the written part K -/
abbrev rLen (K : PySem.W.Frag) : List V → Hp → VK → Prop := fun xs H Q => ∃ (p : Addr) (ys : List V), xs = [V.ref p] ∧ (SqL K H p ys ∨ SqT K H p ys) ∧ Q (V.int ys.length) H
def spJobCount : Sp := fun vs H Q _ => ∃ (a : Addr) (cs : Chains), vs = [.ref a] ∧ ChainsAt H a cs ∧ cs.length ≤ 25 ∧ ∀ H' : Hp, Same H H' → Q (vn (jobCount cs)) H'
theorem sc_job_count : FnScope ["chains", "chain"] ["chains"] (defScope s_job_count) := ⟨rfl, rfl, rfl, by decide +kernel, rfl, by decide +kernel, by decide +kernel⟩
theorem sum_intsOf : ∀ l : List Nat, (intsOf l).sum = ((l.sum : Nat) : Int)
  | [] => rfl
  | a :: r => by
    have ih := sum_intsOf r
    show (Int.ofNat a :: intsOf r).sum = _
    rw [List.sum_cons, List.sum_cons, ih]
    rfl
theorem map_take_succ {α β : Type} {l : List α} {i : Nat} {x : α} (h : l[i]? = some x) (g : α → β) : (l.take (i + 1)).map g = (l.take i).map g ++ [g x] := by
  rw [List.take_add_one, h]
  simp
section
variable {P : Program} {w : World} {K : PySem.W.Frag} {mg : Str → Option Value} {base : Heap} {f : Addr} {fd : FuncData}
theorem ok_job_count (F : Fun K "job_count" "job_count" s_job_count f fd) (ms : mg "sum" = none) (ml : mg "len" = none) : FnOk P w K mg base CX0 1 f fd ["chains"] spJobCount := by
  refine F.ok sc_job_count (fun vs H Q E h => ?_) (fun cdv A outer s H vs Q E hr h => ?_)
  · obtain ⟨a, cs, rfl, _⟩ := h
    rfl
  obtain ⟨a, cs, rfl, ⟨xs, hx, hv⟩, hl, q⟩ := h
  refine ⟨_, pss_one (ps_ret (pe_callB (cr_sum (by rfl)) (by rfl) ms (by decide +kernel) (pa_cons (pe_lc (own := [("chain", 1)]) (g := gName 1) (tt := tYes) (by rfl) sc_job_count.nd (pi_list (pv 0))
    (blkOk_by (own := [("chain", 1)]) (N := ["chains", "chain"]) (sc := defScope s_job_count) (by decide +kernel)) (fun _ _ _ _ _ => pg_name (i := 1) sc_job_count.nd rfl (Or.inl rfl)) (fun _ _ _ _ _ => pts_nil)
    (fun _ _ _ _ _ => pe_callB (r := rLen K) call_len_seq (by rfl) ml PySem.boot_len (pa_cons (pv 1) pa_nil))) pa_nil))), ?_⟩
  refine ⟨_, rfl, a, rfl, ⟨_, SqL.of hx⟩, fun D hD => ?_⟩
  refine lc_list (K := K) (a := a) (xs := xs) (fun i H' => Same H H' ∧ H' D = some (.lst ((cs.take i).map fun c => vn c.length))) ⟨Same.new hD _, upd_same⟩ (fun i H' _ h => Same.seq h.1 (SqL.of hx)) ?_ ?_
  · rintro i x H1 hi ⟨s1, h1⟩
    obtain ⟨c, p, ec, rfl, ys, hy, hw⟩ := hv.at hi
    have hi2 := (List.getElem?_eq_some_iff.mp ec).1
    refine ⟨rfl, _, rfl, p, ys, rfl, .inl (SqL.of (s1 _ _ hy)), _, h1, ?_, Same.put s1 hD _, ?_⟩
    · rw [List.length_map, List.length_take]
      exact small1000 (by omega)
    · rw [map_take_succ ec, upd_same, hw.1]
  · rintro H1 ⟨s1, h1⟩
    rw [hv.1, List.take_length] at h1
    refine ⟨D, intsOf (cs.map List.length), rfl, SqL.of ?_, ?_⟩
    · rw [h1, ← vn_ints, List.map_map]
      rfl
    · have e := sum_intsOf (cs.map List.length)
      have z := q H1 s1
      rw [e]
      exact z
end
end Cj
/-! ## are_within_limits -/
namespace Cj
open PySem PySem.Spec PyProof.Rows L2 Ks593
abbrev s_are_within_limits : Stmt := top 9
def spWithin : Sp := fun vs H Q _ => ∃ (a : Addr) (cs : Chains), vs = [.ref a] ∧ ChainsAt H a cs ∧ cs.length ≤ 25 ∧ (∀ c ∈ cs, c.length ≤ 25) ∧ ∀ H' : Hp, Same H H' → Q (.bl (within cs)) H'
/-- the block of all([.. for chain in chains]) in a return -/
def allScope (s : Stmt) : Scope := match s with
  | .Return (some (.Call _ [.ListComp _ _ sc _] _ _)) _ => sc
  | _ => { kind := .function, names := [], isGenerator := false, isCoroutine := false }
theorem sc_are_within_limits : FnScope ["chains", "chain", "job"] ["chains"] (defScope s_are_within_limits) := ⟨rfl, rfl, rfl, by decide +kernel, rfl, by decide +kernel, by decide +kernel⟩
section
variable {P : Program} {w : World} {K : PySem.W.Frag} {mg : Str → Option Value} {base : Heap} {f : Addr} {fd : FuncData}
theorem ok_are_within_limits (F : Fun K "are_within_limits" "are_within_limits" s_are_within_limits f fd) (ma : mg "all" = none) (ml : mg "len" = none) {t1 t2 : Tok} (m1 : mg "MOST_CHAINS" = some (.int 4 t1)) (m2 : mg "MOST_JOBS" = some (.int 7 t2))
    (C1 : Callee P w K mg base "job_count" ["chains"] 1 spJobCount) (C2 : Callee P w K mg base "is_job" ["job"] 1 spIsJob) : FnOk P w K mg base CX0 2 f fd ["chains"] spWithin := by
  obtain ⟨g, gd, G, mG, kG, bG⟩ := C1.ex
  obtain ⟨g2, gd2, G2, mG2, kG2, bG2⟩ := C2.ex
  refine F.ok sc_are_within_limits (fun vs H Q E h => ?_) (fun cdv A outer s H vs Q E hr h => ?_)
  · obtain ⟨a, cs, rfl, _⟩ := h
    rfl
  obtain ⟨a, cs, rfl, ⟨xs, hx, hv⟩, hl, hl2, q⟩ := h
  refine ⟨_, pss_cons (ps_if (PW.pt (pw_or (pt_cmpR op_gt (pe_callB call_len_seq (by rfl) ml PySem.boot_len (pa_cons (pv 0) pa_nil)) (pe_glob (v := V.int 4) (by rfl) m1 ⟨_, rfl⟩) (nomark _))
      (pw_or1 (pt_cmpR op_gt (pe_call G hr (by rfl) mG kG bG .nil pass0 (pa_cons (pv 0) pa_nil)) (pe_glob (v := V.int 7) (by rfl) m2 ⟨_, rfl⟩) (nomark _))))) (pss_one (ps_ret pe_bl)) pss_nil)
    (pss_one (ps_ret (pe_callB (cr_all (by rfl)) (by rfl) ma (by decide +kernel) (pa_cons (pe_lc (own := [("chain", 1)]) (g := gName 1) (tt := tYes) (by rfl) sc_are_within_limits.nd (pi_list (pv 0))
      (blkOk_by (own := [("chain", 1)]) (N := ["chains", "chain", "job"]) (sc := defScope s_are_within_limits) (by decide +kernel)) (fun _ _ _ _ _ => pg_name (i := 1) sc_are_within_limits.nd rfl (Or.inl rfl)) (fun _ _ _ _ _ => pts_nil)
      (fun _ _ _ _ _ => pe_callB (r := rAll K) (cr_all (by rfl)) (by rfl) ma (by decide +kernel) (pa_cons (pe_lc (own := [("job", 2)]) (wi := iList K (tVar 1)) (g := gName 2) (tt := tYes) (by rfl) sc_are_within_limits.nd (pi_list (pv 1))
        (blkOk_by (own := [("job", 2)]) (N := ["chains", "chain", "job"]) (sc := relS (allScope ((defBody s_are_within_limits).getD 1 (.Pass ⟨0, 0, 0, 0⟩))) (defScope s_are_within_limits)) (by decide +kernel)) (fun _ _ _ _ _ => pg_name (i := 2) sc_are_within_limits.nd rfl (Or.inl rfl)) (fun _ _ _ _ _ => pts_nil)
        (fun _ _ _ _ _ => pe_call G2 hr (by rfl) mG2 kG2 bG2 .nil pass0 (pa_cons (pv 2) pa_nil))) pa_nil))) pa_nil)))), ?_⟩
  refine ⟨_, rfl, a, xs, rfl, .inl (SqL.of hx), _, _, rfl, rfl, _, rfl, ?_⟩
  have hxl := hv.1
  have hb : ∀ (b : Bool) (H' : Hp), b = within cs → Same H H' → Q (.bl b) H' := fun b H' e s' => by
    rw [e]
    exact q H' s'
  refine ite2 (fun c1 => ?_) (fun c1 => ?_)
  · have c1 : (4 : Int) < (xs.length : Int) := of_decide_eq_true c1
    have z : ¬ cs.length ≤ 4 := by omega
    exact hb _ _ (Eq.symm (by simp [within, z])) (Same.refl H)
  have c1 : ¬ (4 : Int) < (xs.length : Int) := of_decide_eq_false (Bool.eq_false_iff.mpr c1)
  refine ⟨_, rfl, a, cs, rfl, ⟨xs, hx, hv⟩, hl, fun H1 s1 => ?_⟩
  refine ⟨_, _, rfl, rfl, _, rfl, ?_⟩
  refine ite2 (fun c2 => ?_) (fun c2 => ?_)
  · have c2 : (7 : Int) < (jobCount cs : Int) := of_decide_eq_true c2
    have z : ¬ jobCount cs ≤ 7 := by omega
    exact hb _ _ (Eq.symm (by simp [within, z])) s1
  have c2 : ¬ (7 : Int) < (jobCount cs : Int) := of_decide_eq_false (Bool.eq_false_iff.mpr c2)
  refine ⟨_, rfl, a, rfl, ⟨_, SqL.of (s1 _ _ hx)⟩, fun D hD => ?_⟩
  have hDn : H D = none := Same.free s1 hD
  refine lc_list (K := K) (a := a) (xs := xs) (fun i H' => Same H H' ∧ H' D = some (.lst ((cs.take i).map fun c => V.bl (c.all okJob)))) ⟨Same.put s1 hDn _, upd_same⟩ (fun i H' _ h => Same.seq h.1 (SqL.of hx)) ?_ ?_
  · rintro i x H2 hi ⟨s2, h2⟩
    obtain ⟨c, p, ec, rfl, ys, hy, hw⟩ := hv.at hi
    have hi2 := (List.getElem?_eq_some_iff.mp ec).1
    have hc25 := hl2 c (List.mem_of_getElem? ec)
    refine ⟨rfl, _, rfl, p, rfl, ⟨_, SqL.of (s2 _ _ hy)⟩, fun D2 hD2 => ?_⟩
    refine lc_list (K := K) (a := p) (xs := ys) (fun j H' => Same H2 H' ∧ H' D2 = some (.lst ((c.take j).map fun b => V.bl (okJob b)))) ⟨Same.new hD2 _, upd_same⟩ (fun j H' _ h => Same.seq h.1 (SqL.of (s2 _ _ hy))) ?_ ?_
    · rintro j y H3 hj ⟨s3, h3⟩
      obtain ⟨b, r, eb, rfl, hr⟩ := hw.at hj
      have hj2 := (List.getElem?_eq_some_iff.mp eb).1
      refine ⟨rfl, _, rfl, r, b, rfl, s3 _ _ (s2 _ _ hr), _, h3, ?_, Same.put s3 hD2 _, ?_⟩
      · rw [List.length_map, List.length_take]
        exact small1000 (by omega)
      · rw [map_take_succ eb, upd_same]
    · rintro H3 ⟨s3, h3⟩
      rw [hw.1, List.take_length] at h3
      refine ⟨D2, c.map okJob, rfl, SqL.of (by rw [h3, List.map_map]; rfl), _, s3 _ _ h2, ?_, Same.put (Same.trans s2 s3) hDn _, ?_⟩
      · rw [List.length_map, List.length_take]
        exact small1000 (by omega)
      · rw [map_take_succ ec, upd_same, List.all_map]
        rfl
  · rintro H2 ⟨s2, h2⟩
    rw [hxl, List.take_length] at h2
    refine ⟨D, cs.map fun c => c.all okJob, rfl, SqL.of (by rw [h2, List.map_map]; rfl), hb _ _ ?_ s2⟩
    have z1 : cs.length ≤ 4 := by omega
    have z2 : jobCount cs ≤ 7 := by omega
    simp only [within, okAll, z1, z2, decide_true, Bool.true_and, List.all_map]
    rfl
end
end Cj
/-! ## read_chains -/
namespace Cj
open PySem PySem.Spec PyProof.Rows L2 Ks593
abbrev s_read_chains : Stmt := top 10
def spRead (K : PySem.W.Frag) : Sp := fun vs H Q _ => ∃ (a : Addr) (ns : List Nat), vs = [.ref a] ∧ SqL K H a (ns.map vn) ∧ ns.length ≤ 25 ∧
  (read ns = none → ∀ H' : Hp, Same H H' → Q .non H') ∧
  (∀ cs, read ns = some cs → ∀ (H' : Hp) (p : Addr), Same H H' → H p = none → ChainsAt H' p cs → Q (.ref p) H')
theorem sc_read_chains : FnScope ["numbers", "chains"] ["numbers"] (defScope s_read_chains) := ⟨rfl, rfl, rfl, by decide +kernel, rfl, by decide +kernel, by decide +kernel⟩
theorem split_len : ∀ (n : Nat) (l : List Nat) (cs : Chains), l.length ≤ n → split l = some cs → cs.length ≤ l.length ∧ ∀ c ∈ cs, c.length ≤ l.length
  | _, [], cs, _, h => by
    rw [split_nil] at h
    cases h
    exact ⟨Nat.le_refl _, fun c hc => by cases hc⟩
  | 0, _ :: _, cs, hn, _ => by simp at hn
  | n + 1, c :: r, cs, hn, h => by
    rw [split_cons] at h
    by_cases hc : 2 * c ≤ r.length
    · rw [if_pos hc] at h
      cases e : split (r.drop (2 * c)) with
      | none =>
        rw [e] at h
        cases h
      | some ds =>
        rw [e] at h
        cases h
        have ld : (r.drop (2 * c)).length = r.length - 2 * c := List.length_drop
        have hr : r.length ≤ n := by simpa using hn
        have ih := split_len n _ ds (by omega) e
        have jl := jobsOf_length (r.take (2 * c))
        rw [List.length_take] at jl
        refine ⟨?_, fun d hd => ?_⟩
        · have := ih.1
          simp only [List.length_cons]
          omega
        · rcases List.mem_cons.mp hd with q | q
          · rw [q]
            simp only [List.length_cons]
            omega
          · have := ih.2 d q
            simp only [List.length_cons]
            omega
    · rw [if_neg hc] at h
      cases h
section
variable {P : Program} {w : World} {K : PySem.W.Frag} {mg : Str → Option Value} {base : Heap} {f : Addr} {fd : FuncData}
theorem ok_read_chains (F : Fun K "read_chains" "read_chains" s_read_chains f fd) (C1 : Callee P w K mg base "split" ["numbers"] 2 (spSplit K)) (C2 : Callee P w K mg base "are_within_limits" ["chains"] 2 spWithin) : FnOk P w K mg base CX0 3 f fd ["numbers"] (spRead K) := by
  obtain ⟨g, gd, G, mG, kG, bG⟩ := C1.ex
  obtain ⟨g2, gd2, G2, mG2, kG2, bG2⟩ := C2.ex
  refine F.ok sc_read_chains (fun vs H Q E h => ?_) (fun cdv A outer s H vs Q E hr h => ?_)
  · obtain ⟨a, ns, rfl, _⟩ := h
    rfl
  obtain ⟨a, ns, rfl, hS, h25, qN, qS⟩ := h
  refine ⟨_, pss_cons (ps_set (i := 1) sc_read_chains.nd rfl (.inl rfl) (pe_call G hr (by rfl) mG kG bG .nil pass0 (pa_cons (pv 0) pa_nil)))
    (pss_cons (ps_if (PW.pt (pw_or (pt_cmpR op_isN (pv 1) pe_non (nomark _)) (pw_or1 (pt_not (pt_val (pe_call G2 hr (by rfl) mG2 kG2 bG2 .nil pass0 (pa_cons (pv 1) pa_nil))))))) (pss_one (ps_ret pe_non)) pss_nil)
    (pss_one (ps_ret (pv 1)))), ?_⟩
  refine ⟨_, rfl, a, ns, rfl, hS, h25, fun e H1 s1 => ?_, fun cs e H1 p s1 hp hc => ?_⟩
  · refine ⟨_, rfl, rfl, _, rfl, ?_⟩
    refine iteT ?_
    refine iteT ?_
    exact qN (by unfold read; rw [e]) H1 s1
  · have el := split_len _ ns cs (Nat.le_refl _) e
    refine ⟨_, rfl, rfl, _, rfl, ?_⟩
    refine ite2 (fun z => by cases z) (fun _ => ?_)
    refine ⟨_, rfl, p, cs, rfl, hc, by omega, fun c hm => Nat.le_trans (el.2 c hm) h25, fun H2 s2 => ⟨_, rfl, ?_⟩⟩
    cases hw : within cs with
    | true =>
      refine iteF ?_
      exact ⟨_, rfl, qS cs (by unfold read; rw [e]; simp [hw]) H2 p (Same.trans s1 s2) hp (mChains _ _ _ _ s2 hc)⟩
    | false =>
      refine iteT ?_
      exact qN (by unfold read; rw [e]; simp [hw]) H2 (Same.trans s1 s2)
end
end Cj
/-! ## is_order -/
namespace Cj
open PySem PySem.Spec PyProof.Rows L2 Ks593
abbrev s_is_order : Stmt := top 12
def spIsOrder (K : PySem.W.Frag) : Sp := fun vs H Q _ => ∃ (a b : Addr) (cs : Chains) (order : List Nat), vs = [.ref a, .ref b] ∧ ChainsAt H a cs ∧ cs.length ≤ 25 ∧ SqL K H b (order.map vn) ∧ order.length ≤ 25 ∧
  ∀ H' : Hp, Same H H' → Q (.bl (orderOk cs order)) H'
theorem sc_is_order : FnScope ["chains", "order", "number", "chain"] ["chains", "order"] (defScope s_is_order) := ⟨rfl, rfl, rfl, by decide +kernel, rfl, by decide +kernel, by decide +kernel⟩
theorem count_intsOf (c : Nat) : ∀ l : List Nat, (intsOf l).count (c : Int) = l.count c
  | [] => rfl
  | x :: r => by
    have ih := count_intsOf c r
    show (Int.ofNat x :: intsOf r).count (c : Int) = _
    rw [List.count_cons, List.count_cons, ih]
    have e : (Int.ofNat x == (c : Int)) = (x == c) := by
      rw [Bool.eq_iff_iff]
      simp only [beq_iff_eq]
      show ((x : Int) = (c : Int)) ↔ _
      omega
    rw [e]
section
variable {P : Program} {w : World} {K : PySem.W.Frag} {mg : Str → Option Value} {base : Heap} {f : Addr} {fd : FuncData}
theorem ok_is_order (F : Fun K "is_order" "is_order" s_is_order f fd) (ma : mg "all" = none) (me : mg "enumerate" = none) (ml : mg "len" = none) (C1 : Callee P w K mg base "job_count" ["chains"] 1 spJobCount) : FnOk P w K mg base CX0 2 f fd ["chains", "order"] (spIsOrder K) := by
  obtain ⟨g, gd, G, mG, kG, bG⟩ := C1.ex
  refine F.ok sc_is_order (fun vs H Q E h => ?_) (fun cdv A outer s H vs Q E hr h => ?_)
  · obtain ⟨a, b, cs, order, rfl, _⟩ := h
    rfl
  obtain ⟨a, b, cs, order, rfl, ⟨xs, hx, hv⟩, hcl, hS, h25, q⟩ := h
  refine ⟨_, pss_cons (ps_if (pt_cmpR op_ne (pe_callB call_len_seq (by rfl) ml PySem.boot_len (pa_cons (pv 1) pa_nil)) (pe_call G hr (by rfl) mG kG bG .nil pass0 (pa_cons (pv 0) pa_nil)) (nomark _)) (pss_one (ps_ret pe_bl)) pss_nil)
    (pss_one (ps_ret (pe_callB (cr_all (by rfl)) (by rfl) ma (by decide +kernel) (pa_cons (pe_lc (own := [("number", 2), ("chain", 3)]) (g := gTup K 2 (gCons (gName 2) (gCons (gName 3) gNil))) (tt := tYes) (te := tOp rEq (tBM K "list" (rCntI K) (tVar 1) (tCons (tVar 2) tNil)) (tCB (rLen K) (tCons (tVar 3) tNil))) (by rfl) sc_is_order.nd (pi_enum (by rfl) me (pa_cons (pv 0) pa_nil))
      (blkOk_by (own := [("number", 2), ("chain", 3)]) (N := ["chains", "order", "number", "chain"]) (sc := defScope s_is_order) (by decide +kernel)) (fun _ _ _ _ _ => pg_tup (by rfl) (pgs_cons (pg_name (i := 2) sc_is_order.nd rfl (Or.inl rfl)) (pgs_cons (pg_name (i := 3) sc_is_order.nd rfl (Or.inl rfl)) pgs_nil))) (fun _ _ _ _ _ => pts_nil)
      (fun _ _ _ _ _ => pe_cmpR op_eq (pe_bm PySem.F.plainAttrs_list PySem.F.slot_list_count PySem.F.type_list_count mt_lcount (pv 1) (pa_cons (pv 2) pa_nil)) (pe_callB (r := rLen K) call_len_seq (by rfl) ml PySem.boot_len (pa_cons (pv 3) pa_nil)) (nomark _))) pa_nil)))), ?_⟩
  have hb : ∀ (b : Bool) (H' : Hp), b = orderOk cs order → Same H H' → Q (.bl b) H' := fun b H' e s' => by
    rw [e]
    exact q H' s'
  have hxl := hv.1
  have hol : (order.map vn).length = order.length := List.length_map _
  refine ⟨_, rfl, b, _, rfl, .inl hS, _, rfl, a, cs, rfl, ⟨xs, hx, hv⟩, hcl, fun H1 s1 => ⟨rfl, _, rfl, ?_⟩⟩
  refine ite2 (fun c1 => ?_) (fun c1 => ?_)
  · have z : ¬ order.length = jobCount cs := fun z => by
      have c2 : ¬ V.int ((order.map vn).length : Nat) = vn (jobCount cs) := by simpa using c1
      exact c2 (by rw [hol, z])
    exact hb _ _ (Eq.symm (by simp [orderOk, z])) s1
  have c2 : V.int ((order.map vn).length : Nat) = vn (jobCount cs) := by simpa using c1
  rw [hol] at c2
  have c3 : order.length = jobCount cs := by
    have := V.int.inj c2
    omega
  refine ⟨_, rfl, a, xs, rfl, SqL.of (s1 _ _ hx), fun D hD => ?_⟩
  have hDn : H D = none := Same.free s1 hD
  refine lc_it walk_enum (fun i H' => Same H H' ∧ H' D = some (.lst ((List.range i).map fun c => V.bl (decide (order.count c = (cs.getD c []).length))))) ⟨Same.put s1 hDn _, upd_same⟩ (fun i H' _ h => SqL.of (h.1 _ _ hx)) ?_ ?_
  · rintro i x H2 H3 hi ⟨s2, h2⟩ ⟨T, y, z, rfl, hT, rfl, ey, ez⟩
    obtain rfl : y = V.int (i : Nat) := (Option.some.inj ey).symm
    obtain ⟨c, p, ec, rfl, ys, hy, hw⟩ := hv.at ez
    have hi2 := (List.getElem?_eq_some_iff.mp ec).1
    have s3 := Same.put' s2 hT (.tup [V.int (i : Nat), .ref p])
    have h3 : upd H2 T (.tup [V.int (i : Nat), .ref p]) D = some (.lst ((List.range i).map fun c => V.bl (decide (order.count c = (cs.getD c []).length)))) := by
      rw [upd_ne (ne_of_none h2 hT)]
      exact h2
    refine ⟨T, _, rfl, SqT.of upd_same, rfl, _, _, rfl, _, _, rfl, rfl, rfl, _, rfl, ?_⟩
    refine ⟨.inl ⟨rfl, _, Same.seq s3 hS⟩, _, rfl, b, intsOf order, (i : Int), rfl, rfl, by rw [← vn_ints]; exact Same.seq s3 hS, _, rfl, p, ys, rfl, .inl (SqL.of (s3 _ _ hy)), rfl, _, h3, ?_, Same.put s3 hDn _, ?_⟩
    · rw [List.length_map, List.length_range]
      exact small1000 (by omega)
    · rw [range_map_succ, upd_same, getD_of ec, count_intsOf, hw.1]
      have e : decide (V.int ((order.count i : Nat) : Int) = V.int ((c.length : Nat) : Int)) = decide (order.count i = c.length) := by
        rw [Bool.eq_iff_iff]
        simp only [decide_eq_true_eq]
        exact ⟨fun z => by have := V.int.inj z; omega, fun z => by rw [z]⟩
      rw [e]
  · rintro H2 ⟨s2, h2⟩
    rw [hxl] at h2
    refine ⟨D, (List.range cs.length).map fun c => decide (order.count c = (cs.getD c []).length), rfl, SqL.of (by rw [h2, List.map_map]; rfl), hb _ _ ?_ s2⟩
    unfold orderOk
    rw [decide_eq_true c3, Bool.true_and, List.all_map]
    rfl
end
end Cj
/-! ## jobs_in -/
namespace Cj
open PySem PySem.Spec PyProof.Rows L2 Ks593
abbrev s_jobs_in : Stmt := top 13
def spJobsIn (K : PySem.W.Frag) : Sp := fun vs H Q _ => ∃ (a b : Addr) (cs : Chains) (order : List Nat), vs = [.ref a, .ref b] ∧ ChainsAt H a cs ∧ cs.length ≤ 25 ∧ SqL K H b (order.map vn) ∧ order.length ≤ 25 ∧ Fits cs order ∧
  ∀ (H' : Hp) (p : Addr), Same H H' → H p = none → JobsAt H' p (jobsIn cs order) → Q (.ref p) H'
theorem sc_jobs_in : FnScope ["chains", "order", "done", "jobs", "number", "chain"] ["chains", "order"] (defScope s_jobs_in) := ⟨rfl, rfl, rfl, by decide +kernel, rfl, by decide +kernel, by decide +kernel⟩
theorem zeros_take {α : Type} {l : List α} {i : Nat} {x : α} (h : l[i]? = some x) : (l.take (i + 1)).map (fun _ => vn 0) = (l.take i).map (fun _ => vn 0) ++ [vn 0] := map_take_succ h _
/-- the next job of a chain -/
theorem left_next {cs : Chains} {done : List Nat} (h : done.length = cs.length) {c : Nat} (hc : c < cs.length) {job : Job} {rest : List Job} (e : (left cs done).getD c [] = job :: rest) :
    ∃ (n : Nat) (l : List Job), done[c]? = some n ∧ cs[c]? = some l ∧ l[n]? = some job ∧ n < l.length ∧ left cs (done.set c (n + 1)) = (left cs done).set c rest := by
  have hd : c < done.length := by omega
  have e0 := left_get h c
  rw [e] at e0
  have g1 : done.getD c 0 = done[c] := by
    rw [List.getD_eq_getElem?_getD, List.getElem?_eq_getElem hd]
    rfl
  have g2 : cs.getD c [] = cs[c] := by
    rw [List.getD_eq_getElem?_getD, List.getElem?_eq_getElem hc]
    rfl
  have s := left_set h hc 1
  rw [e] at s
  rw [g1, g2] at e0
  rw [g1] at s
  have hl : done[c] < cs[c].length := by
    by_cases q : done[c] < cs[c].length
    · exact q
    · rw [List.drop_eq_nil_of_le (by omega)] at e0
      cases e0
  refine ⟨done[c], cs[c], List.getElem?_eq_getElem hd, List.getElem?_eq_getElem hc, ?_, hl, s⟩
  rw [List.drop_eq_getElem_cons hl] at e0
  rw [List.getElem?_eq_getElem hl]
  exact congrArg some (List.cons.inj e0).1.symm
section
variable {P : Program} {w : World} {K : PySem.W.Frag} {mg : Str → Option Value} {base : Heap} {f : Addr} {fd : FuncData}
theorem ok_jobs_in (F : Fun K "jobs_in" "jobs_in" s_jobs_in f fd) : FnOk P w K mg base CX0 1 f fd ["chains", "order"] (spJobsIn K) := by
  refine F.ok sc_jobs_in (fun vs H Q E h => ?_) (fun cdv A outer s H vs Q E hr h => ?_)
  · obtain ⟨a, b, cs, order, rfl, _⟩ := h
    rfl
  obtain ⟨a, b, cs, order, rfl, ⟨xs, hx, hv⟩, hcl, hS, h25, hF, q⟩ := h
  refine ⟨_, pss_cons (ps_setLc (i := 2) (own := [("chain", 5)]) (g := gName 5) (tt := tYes) (by rfl) sc_jobs_in.nd rfl rfl (sw_true rfl rfl rfl (by decide +kernel)) (pi_list (pv 0))
      (blkOk_by (own := [("chain", 5)]) (N := ["chains", "order", "done", "jobs", "number", "chain"]) (sc := defScope s_jobs_in) (by decide +kernel)) (fun _ _ _ _ _ => pg_name (i := 5) sc_jobs_in.nd rfl (Or.inl rfl)) (fun _ _ _ _ _ => pts_nil)
      (fun _ _ _ _ _ => pe_int))
    (pss_cons (ps_set (i := 3) sc_jobs_in.nd rfl (.inl rfl) (pe_lst pa_nil))
    (pss_cons (ps_for PassesOwn.never rfl (pi_list (pv 1)) (pg_name (i := 4) sc_jobs_in.nd rfl (.inl rfl))
      (pss_cons (ps_expr (pe_bm PySem.F.plainAttrs_list PySem.F.slot_list_append PySem.F.type_list_append mt_append (pv 3) (pa_cons (pe_ix ix_list (pe_ix ix_list (pv 0) (pv 4) (fun _ _ => rfl)) (pe_ix ix_list (pv 2) (pv 4) (fun _ _ => rfl)) (fun _ _ => rfl)) pa_nil)))
      (pss_one (ps_asg (pe_op op_add (pe_ix ix_list (pv 2) (pv 4) (fun _ _ => rfl)) pe_int) (pg_sub (pv 2) (pv 4) set_list)))))
    (pss_one (ps_ret (pv 3))))), ?_⟩
  refine ⟨_, rfl, a, rfl, ⟨_, SqL.of hx⟩, fun D hD => ?_⟩
  refine lc_list (K := K) (a := a) (xs := xs) (fun i H' => Same H H' ∧ H' D = some (.lst ((cs.take i).map fun _ => vn 0))) ⟨Same.new hD _, upd_same⟩ (fun i H' _ h => Same.seq h.1 (SqL.of hx)) ?_ ?_
  · rintro i x H1 hi ⟨s1, h1⟩
    obtain ⟨c, p, ec, rfl, _⟩ := hv.at hi
    have hi2 := (List.getElem?_eq_some_iff.mp ec).1
    refine ⟨rfl, _, h1, ?_, Same.put s1 hD _, ?_⟩
    · rw [List.length_map, List.length_take]
      exact small1000 (by omega)
    · rw [zeros_take ec, upd_same]
      rfl
  rintro H1 ⟨s1, h1⟩
  rw [hv.1, List.take_length] at h1
  -- jobs = []
  refine ⟨(by show 0 ≤ sizeLine; decide), fun L hL => ?_⟩
  have hLn : H L = none := Same.free s1 hL
  have nLD : L ≠ D := (ne_of_none h1 hL).symm
  refine ⟨_, rfl, b, rfl, ⟨_, Same.seq (Same.put s1 hLn _) hS⟩, for_list (K := K) (a := b) (xs := order.map vn) (fun i σ H' => ∃ (done : List Nat) (ys : List V) (js : List Job) (v : Option V), σ = [some (.ref a), some (.ref b), some (.ref D), some (.ref L), v, none] ∧ Same H H' ∧ H' D = some (.lst (done.map vn)) ∧ H' L = some (.lst ys) ∧
      done.length = cs.length ∧ PV JobAt H ys js ∧ js.length ≤ i ∧ Fits (left cs done) (order.drop i) ∧ jobsIn cs order = js ++ jobsIn (left cs done) (order.drop i))
    ⟨cs.map fun _ => 0, [], [], none, rfl, Same.put s1 hLn _, ?_, upd_same, by rw [List.length_map], PV.nil, Nat.le_refl _, ?_, ?_⟩ (fun i σ H' _ h => by obtain ⟨_, _, _, _, _, s', _⟩ := h; exact Same.seq s' hS) ?_ ?_⟩
  · rw [upd_ne nLD.symm, h1, List.map_map]
    rfl
  · rw [left_zero, List.drop_zero]
    exact hF
  · rw [left_zero, List.drop_zero, List.nil_append]
  · rintro i x σ H2 hi ⟨done, ys, js, v, rfl, s2, hD2, hL2, hdl, hy, hjs, hft, hjo⟩
    obtain ⟨c, ec, rfl⟩ := ints_of hi
    have hi2 := (List.getElem?_eq_some_iff.mp ec).1
    have ed : order.drop i = c :: order.drop (i + 1) := by
      rw [List.drop_eq_getElem_cons hi2]
      congr 1
      exact (List.getElem?_eq_some_iff.mp ec).2
    rw [ed] at hft hjo
    obtain ⟨job, rest, el, hc, hft'⟩ := hft.step
    rw [left_length hdl] at hc
    obtain ⟨n, l, e1, e2, e3, e4, e5⟩ := left_next hdl hc el
    rw [jobsIn_step el, ← e5] at hjo
    rw [← e5] at hft'
    obtain ⟨pc, px, zs, pz, hz⟩ := hv.2 c l e2
    obtain ⟨pj, pjx, hj⟩ := hz.2 n job e3
    refine ⟨_, rfl, .inl ⟨rfl, _, SqL.of hL2⟩, _, rfl, _, rfl, a, _, _, _, rfl, rfl, SqL.of (s2 _ _ hx), atI_nat px, _, rfl, _, rfl, D, _, _, _, rfl, rfl, SqL.of hD2, atI_nat (ints_at e1), pc, _, _, _, rfl, rfl, SqL.of (s2 _ _ pz), atI_nat pjx, L, ys, _, rfl, rfl, hL2, ?_, ?_⟩
    · rw [hy.1]
      exact small1000 (by omega)
    have hD3 : upd H2 L (.lst (ys ++ [.ref pj])) D = some (.lst (done.map vn)) := by rw [upd_ne nLD.symm]; exact hD2
    refine ⟨_, rfl, _, rfl, D, _, _, _, rfl, rfl, SqL.of hD3, atI_nat (ints_at e1), _, _, rfl, rfl, _, rfl, _, rfl, D, _, _, c, rfl, rfl, hD3, ?_, ?_⟩
    · rw [List.length_map]
      unfold ixN
      rw [if_pos (by omega), if_pos (by omega), Int.toNat_natCast]
    refine ⟨done.set c (n + 1), ys ++ [.ref pj], js ++ [job], _, rfl, Same.put (Same.put s2 hLn _) hD _, ?_, ?_, by rw [List.length_set]; exact hdl, hy.snoc hj, by simp; omega, hft', ?_⟩
    · rw [upd_same, ← vn_set]
      rfl
    · rw [upd_ne nLD, upd_same]
    · rw [hjo]
      simp
  · rintro σ H2 ⟨done, ys, js, v, rfl, s2, hD2, hL2, hdl, hy, hjs, hft, hjo⟩
    rw [List.length_map, List.drop_length] at hjo
    have e0 : jobsIn (left cs done) [] = [] := by rw [jobsIn]
    rw [e0, List.append_nil] at hjo
    exact ⟨_, rfl, q H2 L s2 hLn (by rw [hjo]; exact ⟨ys, hL2, hy.same mJob s2⟩)⟩
end
end Cj
/-! ## completions -/
namespace Cj
open PySem PySem.Spec PyProof.Rows L2 Ks593
abbrev s_completions : Stmt := top 14
def spCompletions : Sp := fun vs H Q _ => ∃ (a : Addr) (js : List Job), vs = [.ref a] ∧ JobsAt H a js ∧ js.length ≤ 25 ∧
  ∀ (H' : Hp) (p : Addr), Same H H' → H p = none → H' p = some (.lst ((timesFrom 0 js).map vn)) → Q (.ref p) H'
theorem sc_completions : FnScope ["jobs", "times", "time", "duration", "weight"] ["jobs"] (defScope s_completions) := ⟨rfl, rfl, rfl, by decide +kernel, rfl, by decide +kernel, by decide +kernel⟩
theorem times_drop {js : List Job} {i : Nat} {j : Job} (h : js[i]? = some j) (t : Nat) : timesFrom t (js.drop i) = (t + j.duration) :: timesFrom (t + j.duration) (js.drop (i + 1)) := by
  have hi := (List.getElem?_eq_some_iff.mp h).1
  have e : js.drop i = j :: js.drop (i + 1) := by
    rw [List.drop_eq_getElem_cons hi]
    congr 1
    exact (List.getElem?_eq_some_iff.mp h).2
  rw [e]
  rfl
section
variable {P : Program} {w : World} {K : PySem.W.Frag} {mg : Str → Option Value} {base : Heap} {f : Addr} {fd : FuncData}
theorem ok_completions (F : Fun K "completions" "completions" s_completions f fd) : FnOk P w K mg base CX0 1 f fd ["jobs"] spCompletions := by
  refine F.ok sc_completions (fun vs H Q E h => ?_) (fun cdv A outer s H vs Q E hr h => ?_)
  · obtain ⟨a, js, rfl, _⟩ := h
    rfl
  obtain ⟨a, js, rfl, ⟨xs, hx, hv⟩, h25, q⟩ := h
  refine ⟨_, pss_cons (ps_set (i := 1) sc_completions.nd rfl (.inl rfl) (pe_lst pa_nil))
    (pss_cons (ps_set (i := 2) sc_completions.nd rfl (.inl rfl) pe_int)
    (pss_cons (ps_for PassesOwn.never rfl (pi_list (pv 0)) (pg_tup (by rfl) (pgs_cons (pg_name (i := 3) sc_completions.nd rfl (.inl rfl)) (pgs_cons (pg_name (i := 4) sc_completions.nd rfl (.inl rfl)) pgs_nil)))
      (pss_cons (ps_set (i := 2) sc_completions.nd rfl (.inl rfl) (pe_op op_add (pv 2) (pv 3)))
      (pss_one (ps_expr (pe_bm PySem.F.plainAttrs_list PySem.F.slot_list_append PySem.F.type_list_append mt_append (pv 1) (pa_cons (pv 2) pa_nil))))))
    (pss_one (ps_ret (pv 1))))), ?_⟩
  refine ⟨(by show 0 ≤ sizeLine; decide), fun L hL => ?_⟩
  refine ⟨_, rfl, a, rfl, ⟨_, SqL.of (Same.new hL _ _ _ hx)⟩, for_list (K := K) (a := a) (xs := xs) (fun i σ H' => ∃ (z : Int) (t : Nat) (ts : List Nat) (u v : Option V), σ = [some (.ref a), some (.ref L), some (.int z), u, v] ∧ z = (t : Int) ∧ Same H H' ∧ H' L = some (.lst (ts.map vn)) ∧ ts.length ≤ i ∧ timesFrom 0 js = ts ++ timesFrom t (js.drop i))
    ⟨0, 0, [], none, none, rfl, rfl, Same.new hL _, upd_same, Nat.le_refl _, by rw [List.drop_zero]; rfl⟩ (fun i σ H' _ h => by obtain ⟨_, _, _, _, _, _, _, s', _⟩ := h; exact SqL.of (s' _ _ hx)) ?_ ?_⟩
  · rintro i x σ H1 hi ⟨z, t, ts, u, v, rfl, hz, s1, h1, hl, ht⟩
    obtain ⟨j, p, ej, rfl, hj⟩ := hv.at hi
    have hi2 := (List.getElem?_eq_some_iff.mp ej).1
    have e := times_drop ej t
    refine ⟨p, _, rfl, SqT.of (s1 _ _ hj), rfl, _, _, rfl, _, _, rfl, rfl, ?_⟩
    refine ⟨_, rfl, _, rfl, _, _, rfl, rfl, ?_⟩
    refine ⟨_, rfl, .inl ⟨rfl, _, SqL.of h1⟩, _, rfl, L, _, _, rfl, rfl, h1, ?_, ?_⟩
    · rw [List.length_map]
      exact small1000 (by omega)
    have ez : z + (j.duration : Int) = ((t + j.duration : Nat) : Int) := by omega
    refine ⟨_, t + j.duration, ts ++ [t + j.duration], _, _, rfl, ez, Same.put s1 hL _, ?_, by simp; omega, ?_⟩
    · rw [upd_same, List.map_append]
      show some (HO.lst (ts.map vn ++ [V.int (z + (j.duration : Int))])) = _
      rw [ez]
      rfl
    · rw [ht, e]
      simp
  · rintro σ H1 ⟨z, t, ts, u, v, rfl, hz, s1, h1, hl, ht⟩
    rw [hv.1, List.drop_length] at ht
    refine ⟨_, rfl, q H1 L s1 hL ?_⟩
    rw [ht, h1]
    simp [timesFrom]
end
end Cj
/-! ## cost_of -/
namespace Cj
open PySem PySem.Spec PyProof.Rows L2 Ks593
abbrev s_cost_of : Stmt := top 15
def spCostOf : Sp := fun vs H Q _ => ∃ (a : Addr) (js : List Job), vs = [.ref a] ∧ JobsAt H a js ∧ js.length ≤ 25 ∧ (∀ j ∈ js, j.weight ≤ 99) ∧ ∀ H' : Hp, Same H H' → Q (vn (costFrom 0 js)) H'
theorem sc_cost_of : FnScope ["jobs", "times", "place"] ["jobs"] (defScope s_cost_of) := ⟨rfl, rfl, rfl, by decide +kernel, rfl, by decide +kernel, by decide +kernel⟩
section
variable {P : Program} {w : World} {K : PySem.W.Frag} {mg : Str → Option Value} {base : Heap} {f : Addr} {fd : FuncData}
theorem ok_cost_of (F : Fun K "cost_of" "cost_of" s_cost_of f fd) (ms : mg "sum" = none) (mr : mg "range" = none) (ml : mg "len" = none) (C1 : Callee P w K mg base "completions" ["jobs"] 1 spCompletions) : FnOk P w K mg base CX0 2 f fd ["jobs"] spCostOf := by
  obtain ⟨g, gd, G, mG, kG, bG⟩ := C1.ex
  refine F.ok sc_cost_of (fun vs H Q E h => ?_) (fun cdv A outer s H vs Q E hr h => ?_)
  · obtain ⟨a, js, rfl, _⟩ := h
    rfl
  obtain ⟨a, js, rfl, ⟨xs, hx, hv⟩, h25, h99, q⟩ := h
  refine ⟨_, pss_cons (ps_set (i := 1) sc_cost_of.nd rfl (.inr rfl) (pe_call G hr (by rfl) mG kG bG .nil pass0 (pa_cons (pv 0) pa_nil)))
    (pss_one (ps_ret (pe_callB (cr_sum (by rfl)) (by rfl) ms (by decide +kernel) (pa_cons (pe_lc (own := [("place", 2)]) (g := gName 2) (tt := tYes) (by rfl) sc_cost_of.nd (pi_range1 (by rfl) mr (pa_cons (pe_callB call_len_seq (by rfl) ml PySem.boot_len (pa_cons (pv 0) pa_nil)) pa_nil))
      (blkOk_by (own := [("place", 2)]) (N := ["jobs", "times", "place"]) (sc := defScope s_cost_of) (by decide +kernel)) (fun _ _ _ _ _ => pg_name (i := 2) sc_cost_of.nd rfl (Or.inl rfl)) (fun _ _ _ _ _ => pts_nil)
      (fun _ _ _ _ _ => pe_op op_mul (pe_ix (r := rIxT K) ix_tup (pe_ix (r := rIxL K) ix_list (pv 0) (pv 2) (fun _ _ => rfl)) pe_int (fun _ _ => rfl)) (pe_ix (r := rIxL K) ix_list (pv 1) (pv 2) (fun _ _ => rfl)))) pa_nil)))), ?_⟩
  refine ⟨_, rfl, a, js, rfl, ⟨xs, hx, hv⟩, h25, fun H1 T s1 hT h1 => ?_⟩
  have hxl := hv.1
  refine ⟨_, rfl, a, xs, rfl, .inl (SqL.of (s1 _ _ hx)), (xs.length : Int), rfl, by omega, by omega, fun D hD => ?_⟩
  have hDn : H D = none := Same.free s1 hD
  have e : ((xs.length : Int)).toNat = js.length := by omega
  rw [e]
  refine lc_range (lo := 0) (n := js.length) (fun i H' => Same H1 H' ∧ H' D = some (.lst ((List.range i).map fun i => vn ((js.getD i ⟨0, 0⟩).weight * (timesFrom 0 js).getD i 0)))) ⟨Same.new hD _, upd_same⟩ ?_ ?_
  · rintro i H2 hi ⟨s2, h2⟩
    have ej : js[i]? = some js[i] := List.getElem?_eq_getElem hi
    have ht : i < (timesFrom 0 js).length := by rw [timesFrom_length]; exact hi
    have et : (timesFrom 0 js)[i]? = some (timesFrom 0 js)[i] := List.getElem?_eq_getElem ht
    obtain ⟨p, px, hp⟩ := hv.2 i _ ej
    have w99 := h99 js[i] (List.getElem_mem hi)
    refine ⟨rfl, _, rfl, _, rfl, a, _, _, _, rfl, rfl, SqL.of (s2 _ _ (s1 _ _ hx)), at_of (j := i) (by omega) px, p, _, 1, vn js[i].weight, rfl, rfl, SqT.of (s2 _ _ (s1 _ _ hp)), rfl, _, rfl, _, rfl, T, _, _, _, rfl, rfl, SqL.of (s2 _ _ h1), at_of (j := i) (by omega) (ints_at et), _, _, rfl, rfl, .inl (by omega), _, h2, ?_, Same.put s2 hD _, ?_⟩
    · rw [List.length_map, List.length_range]
      exact small1000 (by omega)
    · rw [range_map_succ, upd_same, getD_of ej, getD_of et]
      show some (HO.lst (_ ++ [V.int ((js[i].weight : Int) * ((timesFrom 0 js)[i] : Int))])) = _
      rw [← Int.natCast_mul]
  · rintro H2 ⟨s2, h2⟩
    refine ⟨D, intsOf ((List.range js.length).map fun i => (js.getD i ⟨0, 0⟩).weight * (timesFrom 0 js).getD i 0), rfl, SqL.of ?_, ?_⟩
    · rw [h2, ← vn_ints, List.map_map]
      rfl
    · have e := sum_intsOf ((List.range js.length).map fun i => (js.getD i ⟨0, 0⟩).weight * (timesFrom 0 js).getD i 0)
      have z := q H2 (Same.trans s1 s2)
      rw [costFrom_zip] at z
      rw [e]
      exact z
end
end Cj
/-! ## order_cost -/
namespace Cj
open PySem PySem.Spec PyProof.Rows L2 Ks593
abbrev s_order_cost : Stmt := top 16
def spOrderCost (K : PySem.W.Frag) : Sp := fun vs H Q _ => ∃ (a b : Addr) (cs : Chains) (order : List Nat), vs = [.ref a, .ref b] ∧ ChainsAt H a cs ∧ cs.length ≤ 25 ∧ okAll cs = true ∧ SqL K H b (order.map vn) ∧ order.length ≤ 25 ∧ Fits cs order ∧
  ∀ H' : Hp, Same H H' → Q (vn (cost cs order)) H'
theorem sc_order_cost : FnScope ["chains", "order"] ["chains", "order"] (defScope s_order_cost) := ⟨rfl, rfl, rfl, by decide +kernel, rfl, by decide +kernel, by decide +kernel⟩
theorem okAll_set {cs : Chains} {c : Nat} {l : List Job} (h : okAll cs = true) (hl : l.all okJob = true) : okAll (cs.set c l) = true := by
  unfold okAll at h ⊢
  rw [List.all_eq_true] at h ⊢
  intro x hx
  rcases List.mem_or_eq_of_mem_set hx with e | e
  · exact h x e
  · rw [e]
    exact hl
theorem jobsIn_ok : ∀ (order : List Nat) (cs : Chains), okAll cs = true → ∀ j ∈ jobsIn cs order, okJob j = true
  | [], cs, _, j, hj => by
    rw [jobsIn] at hj
    cases hj
  | c :: order, cs, h, j, hj => by
    rw [jobsIn] at hj
    cases e : cs.getD c [] with
    | nil =>
      rw [e] at hj
      exact jobsIn_ok order cs h j hj
    | cons job rest =>
      rw [e] at hj
      have hm : (job :: rest).all okJob = true := by
        rw [← e]
        rw [List.getD_eq_getElem?_getD] at e ⊢
        cases q : cs[c]? with
        | none =>
          rw [q] at e
          cases e
        | some l =>
          exact List.all_eq_true.mp h l (List.mem_of_getElem? q)
      rw [List.all_cons, Bool.and_eq_true] at hm
      rcases List.mem_cons.mp hj with z | z
      · rw [z]
        exact hm.1
      · exact jobsIn_ok order _ (okAll_set h hm.2) j z
section
variable {P : Program} {w : World} {K : PySem.W.Frag} {mg : Str → Option Value} {base : Heap} {f : Addr} {fd : FuncData}
theorem ok_order_cost (F : Fun K "order_cost" "order_cost" s_order_cost f fd) (C1 : Callee P w K mg base "cost_of" ["jobs"] 2 spCostOf) (C2 : Callee P w K mg base "jobs_in" ["chains", "order"] 1 (spJobsIn K)) : FnOk P w K mg base CX0 3 f fd ["chains", "order"] (spOrderCost K) := by
  obtain ⟨g, gd, G, mG, kG, bG⟩ := C1.ex
  obtain ⟨g2, gd2, G2, mG2, kG2, bG2⟩ := C2.ex
  refine F.ok sc_order_cost (fun vs H Q E h => ?_) (fun cdv A outer s H vs Q E hr h => ?_)
  · obtain ⟨a, b, cs, order, rfl, _⟩ := h
    rfl
  obtain ⟨a, b, cs, order, rfl, hc, hcl, hok, hS, h25, hF, q⟩ := h
  refine ⟨_, pss_one (ps_ret (pe_call G hr (by rfl) mG kG bG .nil pass0 (pa_cons (pe_call G2 (hr.mono (by decide)) (by rfl) mG2 kG2 bG2 .nil pass0 (pa_cons (pv 0) (pa_cons (pv 1) pa_nil))) pa_nil))), ?_⟩
  refine ⟨_, rfl, _, rfl, a, b, cs, order, rfl, hc, hcl, hS, h25, hF, fun H1 p s1 hp hj => ?_⟩
  refine ⟨p, jobsIn cs order, rfl, hj, by rw [jobsIn_length _ _ hF]; exact h25, fun j hm => ?_, fun H2 s2 => q H2 (Same.trans s1 s2)⟩
  have z := jobsIn_ok order cs hok j hm
  simp only [okJob, Bool.and_eq_true, decide_eq_true_eq] at z
  exact z.2
end
end Cj
/-! ## total_cost -/
namespace Cj
open PySem PySem.Spec PyProof.Rows L2 Ks593
abbrev s_total_cost : Stmt := top 19
def spTotal (K : PySem.W.Frag) : Sp := fun vs H Q _ => ∃ (a b : Addr) (ns os : List Nat), vs = [.ref a, .ref b] ∧ SqL K H a (ns.map vn) ∧ ns.length ≤ 25 ∧ SqL K H b (os.map vn) ∧ os.length ≤ 9 ∧
  ∀ (H' : Hp) (p : Addr), H' p = some (.lst ((ansTotal ns os).map V.int)) → Q (.ref p) H'
theorem sc_total_cost : FnScope ["chains", "order", "found"] ["chains", "order"] (defScope s_total_cost) := ⟨rfl, rfl, rfl, by decide +kernel, rfl, by decide +kernel, by decide +kernel⟩
section
variable {P : Program} {w : World} {K : PySem.W.Frag} {mg : Str → Option Value} {base : Heap} {f : Addr} {fd : FuncData}
theorem ok_total_cost (F : Fun K "total_cost" "total_cost" s_total_cost f fd) {t1 : Tok} (m1 : mg "OUTSIDE" = some (.int (-22) t1)) (C1 : Callee P w K mg base "read_chains" ["numbers"] 3 (spRead K)) (C2 : Callee P w K mg base "is_order" ["chains", "order"] 2 (spIsOrder K)) (C3 : Callee P w K mg base "order_cost" ["chains", "order"] 3 (spOrderCost K)) :
    FnOk P w K mg base CX0 4 f fd ["chains", "order"] (spTotal K) := by
  obtain ⟨g, gd, G, mG, kG, bG⟩ := C1.ex
  obtain ⟨g2, gd2, G2, mG2, kG2, bG2⟩ := C2.ex
  obtain ⟨g3, gd3, G3, mG3, kG3, bG3⟩ := C3.ex
  refine F.ok sc_total_cost (fun vs H Q E h => ?_) (fun cdv A outer s H vs Q E hr h => ?_)
  · obtain ⟨a, b, ns, os, rfl, _⟩ := h
    rfl
  obtain ⟨a, b, ns, os, rfl, hS, h25, hO, h9, q⟩ := h
  refine ⟨_, pss_cons (ps_set (i := 2) sc_total_cost.nd rfl (.inl rfl) (pe_call G hr (by rfl) mG kG bG .nil pass0 (pa_cons (pv 0) pa_nil)))
    (pss_cons (ps_if (PW.pt (pw_or (pt_cmpR op_isN (pv 2) pe_non (nomark _)) (pw_or1 (pt_not (pt_val (pe_call G2 (hr.mono (by decide)) (by rfl) mG2 kG2 bG2 .nil pass0 (pa_cons (pv 2) (pa_cons (pv 1) pa_nil)))))))) (pss_one (ps_ret (pe_lst (pa_cons (pe_glob (v := V.int (-22)) (by rfl) m1 ⟨_, rfl⟩) pa_nil)))) pss_nil)
    (pss_one (ps_ret (pe_lst (pa_cons (pe_call G3 hr (by rfl) mG3 kG3 bG3 .nil pass0 (pa_cons (pv 2) (pa_cons (pv 1) pa_nil))) pa_nil))))), ?_⟩
  have out : ∀ (H' : Hp) (r : Addr), ansTotal ns os = [-22] → H' r = none → Q (.ref r) (upd H' r (.lst [V.int (-22)])) := fun H' r e _ => q _ r (by rw [upd_same, e]; rfl)
  refine ⟨_, rfl, a, ns, rfl, hS, h25, fun e H1 s1 => ?_, fun cs e H1 p s1 hp hc => ?_⟩
  · refine ⟨_, rfl, rfl, _, rfl, iteT (iteT ?_)⟩
    exact ⟨(by show 1 ≤ sizeLine; decide), fun r hr' => out _ r (by unfold ansTotal; rw [e]) hr'⟩
  · obtain ⟨_, k1, k2, k3⟩ := read_some e
    refine ⟨_, rfl, rfl, _, rfl, ite2 (fun z => by cases z) (fun _ => ?_)⟩
    refine ⟨_, rfl, _, rfl, p, b, cs, os, rfl, hc, by omega, Same.seq s1 hO, by omega, fun H2 s2 => ⟨_, rfl, ?_⟩⟩
    cases hw : orderOk cs os with
    | false =>
      refine iteT ?_
      exact ⟨(by show 1 ≤ sizeLine; decide), fun r hr' => out _ r (by unfold ansTotal; rw [e]; simp [hw]) hr'⟩
    | true =>
      refine iteF ?_
      refine ⟨_, rfl, _, rfl, p, b, cs, os, rfl, mChains _ _ _ _ s2 hc, by omega, k3, Same.seq s2 (Same.seq s1 hO), by omega, orderOk_fits hw, fun H3 s3 => ?_⟩
      refine ⟨(by show 1 ≤ sizeLine; decide), fun r hr' => q _ r ?_⟩
      rw [upd_same]
      unfold ansTotal
      rw [e]
      simp only [hw, if_true]
      rfl
end
end Cj
/-! # The end: what the top has written; every address a letter -/
namespace Cj
open PySem PySem.Spec PyProof.Rows L2 Ks593
theorem all_mk {P : Program} {w : World} {K : PySem.W.Frag} {h : Heap} {mg : Str → Option Value} {fa f1 f2 f3 f4 f5 f6 f7 f8 f9 f10 f11 f12 : Addr} (X : K.In h) (G : h.Ns mainGlobals mg) (hfa : mg "total_cost" = some (.ref fa))
    {od1 an1 od2 an2 od3 an3 od4 an4 od5 an5 od6 an6 od7 an7 od8 an8 od9 an9 od10 an10 od11 an11 od12 an12 : Option Addr} {sl1 sl2 sl3 sl4 sl5 sl6 sl7 sl8 sl9 sl10 sl11 sl12 : Array (Option Value)} {oc1 kV1 dc1 pm1 cd1 ct1 oc2 kV2 dc2 pm2 cd2 ct2 oc3 kV3 dc3 pm3 cd3 ct3 oc4 kV4 dc4 pm4 cd4 ct4 oc5 kV5 dc5 pm5 cd5 ct5 oc6 kV6 dc6 pm6 cd6 ct6 oc7 kV7 dc7 pm7 cd7 ct7 oc8 kV8 dc8 pm8 cd8 ct8 oc9 kV9 dc9 pm9 cd9 ct9 oc10 kV10 dc10 pm10 cd10 ct10 oc11 kV11 dc11 pm11 cd11 ct11 oc12 kV12 dc12 pm12 cd12 ct12 : Value} {tk_HEAVIEST tk_LONGEST tk_MOST_CHAINS tk_MOST_JOBS tk_OUTSIDE : Tok}
    (a1 : PySem.W.nsIn K mainGlobals "jobs_between" = some (some (.ref f1))) (l1 : K.lookup f1 = some ⟨oc1, od1, .func (PySem.W.fnOf "jobs_between" "jobs_between" (defArgs s_jobs_between) (defBody s_jobs_between) (defScope s_jobs_between) .none kV1 dc1 pm1 an1 cd1 ct1), sl1⟩) (c1 : PySem.W.codeIn K cd1 "jobs_between" = true) (k1 : PySem.W.keepIn K (.ref f1) = true)
    (a2 : PySem.W.nsIn K mainGlobals "split" = some (some (.ref f2))) (l2 : K.lookup f2 = some ⟨oc2, od2, .func (PySem.W.fnOf "split" "split" (defArgs s_split) (defBody s_split) (defScope s_split) .none kV2 dc2 pm2 an2 cd2 ct2), sl2⟩) (c2 : PySem.W.codeIn K cd2 "split" = true) (k2 : PySem.W.keepIn K (.ref f2) = true)
    (a3 : PySem.W.nsIn K mainGlobals "is_job" = some (some (.ref f3))) (l3 : K.lookup f3 = some ⟨oc3, od3, .func (PySem.W.fnOf "is_job" "is_job" (defArgs s_is_job) (defBody s_is_job) (defScope s_is_job) .none kV3 dc3 pm3 an3 cd3 ct3), sl3⟩) (c3 : PySem.W.codeIn K cd3 "is_job" = true) (k3 : PySem.W.keepIn K (.ref f3) = true)
    (a4 : PySem.W.nsIn K mainGlobals "job_count" = some (some (.ref f4))) (l4 : K.lookup f4 = some ⟨oc4, od4, .func (PySem.W.fnOf "job_count" "job_count" (defArgs s_job_count) (defBody s_job_count) (defScope s_job_count) .none kV4 dc4 pm4 an4 cd4 ct4), sl4⟩) (c4 : PySem.W.codeIn K cd4 "job_count" = true) (k4 : PySem.W.keepIn K (.ref f4) = true)
    (a5 : PySem.W.nsIn K mainGlobals "are_within_limits" = some (some (.ref f5))) (l5 : K.lookup f5 = some ⟨oc5, od5, .func (PySem.W.fnOf "are_within_limits" "are_within_limits" (defArgs s_are_within_limits) (defBody s_are_within_limits) (defScope s_are_within_limits) .none kV5 dc5 pm5 an5 cd5 ct5), sl5⟩) (c5 : PySem.W.codeIn K cd5 "are_within_limits" = true) (k5 : PySem.W.keepIn K (.ref f5) = true)
    (a6 : PySem.W.nsIn K mainGlobals "read_chains" = some (some (.ref f6))) (l6 : K.lookup f6 = some ⟨oc6, od6, .func (PySem.W.fnOf "read_chains" "read_chains" (defArgs s_read_chains) (defBody s_read_chains) (defScope s_read_chains) .none kV6 dc6 pm6 an6 cd6 ct6), sl6⟩) (c6 : PySem.W.codeIn K cd6 "read_chains" = true) (k6 : PySem.W.keepIn K (.ref f6) = true)
    (a7 : PySem.W.nsIn K mainGlobals "is_order" = some (some (.ref f7))) (l7 : K.lookup f7 = some ⟨oc7, od7, .func (PySem.W.fnOf "is_order" "is_order" (defArgs s_is_order) (defBody s_is_order) (defScope s_is_order) .none kV7 dc7 pm7 an7 cd7 ct7), sl7⟩) (c7 : PySem.W.codeIn K cd7 "is_order" = true) (k7 : PySem.W.keepIn K (.ref f7) = true)
    (a8 : PySem.W.nsIn K mainGlobals "jobs_in" = some (some (.ref f8))) (l8 : K.lookup f8 = some ⟨oc8, od8, .func (PySem.W.fnOf "jobs_in" "jobs_in" (defArgs s_jobs_in) (defBody s_jobs_in) (defScope s_jobs_in) .none kV8 dc8 pm8 an8 cd8 ct8), sl8⟩) (c8 : PySem.W.codeIn K cd8 "jobs_in" = true) (k8 : PySem.W.keepIn K (.ref f8) = true)
    (a9 : PySem.W.nsIn K mainGlobals "completions" = some (some (.ref f9))) (l9 : K.lookup f9 = some ⟨oc9, od9, .func (PySem.W.fnOf "completions" "completions" (defArgs s_completions) (defBody s_completions) (defScope s_completions) .none kV9 dc9 pm9 an9 cd9 ct9), sl9⟩) (c9 : PySem.W.codeIn K cd9 "completions" = true) (k9 : PySem.W.keepIn K (.ref f9) = true)
    (a10 : PySem.W.nsIn K mainGlobals "cost_of" = some (some (.ref f10))) (l10 : K.lookup f10 = some ⟨oc10, od10, .func (PySem.W.fnOf "cost_of" "cost_of" (defArgs s_cost_of) (defBody s_cost_of) (defScope s_cost_of) .none kV10 dc10 pm10 an10 cd10 ct10), sl10⟩) (c10 : PySem.W.codeIn K cd10 "cost_of" = true) (k10 : PySem.W.keepIn K (.ref f10) = true)
    (a11 : PySem.W.nsIn K mainGlobals "order_cost" = some (some (.ref f11))) (l11 : K.lookup f11 = some ⟨oc11, od11, .func (PySem.W.fnOf "order_cost" "order_cost" (defArgs s_order_cost) (defBody s_order_cost) (defScope s_order_cost) .none kV11 dc11 pm11 an11 cd11 ct11), sl11⟩) (c11 : PySem.W.codeIn K cd11 "order_cost" = true) (k11 : PySem.W.keepIn K (.ref f11) = true)
    (a12 : PySem.W.nsIn K mainGlobals "total_cost" = some (some (.ref f12))) (l12 : K.lookup f12 = some ⟨oc12, od12, .func (PySem.W.fnOf "total_cost" "total_cost" (defArgs s_total_cost) (defBody s_total_cost) (defScope s_total_cost) .none kV12 dc12 pm12 an12 cd12 ct12), sl12⟩) (c12 : PySem.W.codeIn K cd12 "total_cost" = true) (k12 : PySem.W.keepIn K (.ref f12) = true)
    (z_all : PySem.W.nsIn K mainGlobals "all" = some none)
    (z_enumerate : PySem.W.nsIn K mainGlobals "enumerate" = some none)
    (z_len : PySem.W.nsIn K mainGlobals "len" = some none)
    (z_range : PySem.W.nsIn K mainGlobals "range" = some none)
    (z_sum : PySem.W.nsIn K mainGlobals "sum" = some none)
    (v_HEAVIEST : PySem.W.nsIn K mainGlobals "HEAVIEST" = some (some (.int 99 tk_HEAVIEST)))
    (v_LONGEST : PySem.W.nsIn K mainGlobals "LONGEST" = some (some (.int 99 tk_LONGEST)))
    (v_MOST_CHAINS : PySem.W.nsIn K mainGlobals "MOST_CHAINS" = some (some (.int 4 tk_MOST_CHAINS)))
    (v_MOST_JOBS : PySem.W.nsIn K mainGlobals "MOST_JOBS" = some (some (.int 7 tk_MOST_JOBS)))
    (v_OUTSIDE : PySem.W.nsIn K mainGlobals "OUTSIDE" = some (some (.int (-22) tk_OUTSIDE)))
    : ∃ fd : FuncData, (∀ (s : Shared) (us : List Value), us.length = (["chains", "order"] : List Str).length → BindsTo s fd ⟨us, []⟩ ((["chains", "order"] : List Str).zip us)) ∧ ∀ base : Heap, K.In base → base.Ns mainGlobals mg → FnOk P w K mg base CX0 4 fa fd ["chains", "order"] (spTotal K) := by
  have e := hfa.symm.trans (PySem.W.mg_of X G a12)
  cases e
  have n_all := PySem.W.mg_none_of X G z_all
  have n_enumerate := PySem.W.mg_none_of X G z_enumerate
  have n_len := PySem.W.mg_none_of X G z_len
  have n_range := PySem.W.mg_none_of X G z_range
  have n_sum := PySem.W.mg_none_of X G z_sum
  have m_HEAVIEST := PySem.W.mg_of X G v_HEAVIEST
  have m_LONGEST := PySem.W.mg_of X G v_LONGEST
  have m_MOST_CHAINS := PySem.W.mg_of X G v_MOST_CHAINS
  have m_MOST_JOBS := PySem.W.mg_of X G v_MOST_JOBS
  have m_OUTSIDE := PySem.W.mg_of X G v_OUTSIDE
  have F1 := fun_mk (st := s_jobs_between) l1 c1 k1
  have b1 := F1.binds (ps := ["numbers", "begin", "end"]) fun _ _ _ _ _ _ us hl => match us, hl with | [_, _, _], _ => rfl
  have F2 := fun_mk (st := s_split) l2 c2 k2
  have b2 := F2.binds (ps := ["numbers"]) fun _ _ _ _ _ _ us hl => match us, hl with | [_], _ => rfl
  have F3 := fun_mk (st := s_is_job) l3 c3 k3
  have b3 := F3.binds (ps := ["job"]) fun _ _ _ _ _ _ us hl => match us, hl with | [_], _ => rfl
  have F4 := fun_mk (st := s_job_count) l4 c4 k4
  have b4 := F4.binds (ps := ["chains"]) fun _ _ _ _ _ _ us hl => match us, hl with | [_], _ => rfl
  have F5 := fun_mk (st := s_are_within_limits) l5 c5 k5
  have b5 := F5.binds (ps := ["chains"]) fun _ _ _ _ _ _ us hl => match us, hl with | [_], _ => rfl
  have F6 := fun_mk (st := s_read_chains) l6 c6 k6
  have b6 := F6.binds (ps := ["numbers"]) fun _ _ _ _ _ _ us hl => match us, hl with | [_], _ => rfl
  have F7 := fun_mk (st := s_is_order) l7 c7 k7
  have b7 := F7.binds (ps := ["chains", "order"]) fun _ _ _ _ _ _ us hl => match us, hl with | [_, _], _ => rfl
  have F8 := fun_mk (st := s_jobs_in) l8 c8 k8
  have b8 := F8.binds (ps := ["chains", "order"]) fun _ _ _ _ _ _ us hl => match us, hl with | [_, _], _ => rfl
  have F9 := fun_mk (st := s_completions) l9 c9 k9
  have b9 := F9.binds (ps := ["jobs"]) fun _ _ _ _ _ _ us hl => match us, hl with | [_], _ => rfl
  have F10 := fun_mk (st := s_cost_of) l10 c10 k10
  have b10 := F10.binds (ps := ["jobs"]) fun _ _ _ _ _ _ us hl => match us, hl with | [_], _ => rfl
  have F11 := fun_mk (st := s_order_cost) l11 c11 k11
  have b11 := F11.binds (ps := ["chains", "order"]) fun _ _ _ _ _ _ us hl => match us, hl with | [_, _], _ => rfl
  have F12 := fun_mk (st := s_total_cost) l12 c12 k12
  refine ⟨PySem.W.fnOf "total_cost" "total_cost" (defArgs s_total_cost) (defBody s_total_cost) (defScope s_total_cost) .none kV12 dc12 pm12 an12 cd12 ct12, fun s us hu => match us, hu with | [_, _], _ => .of_eq rfl, fun base _ _ => ?_⟩
  have C1 : Callee P w K mg base "jobs_between" ["numbers", "begin", "end"] 1 (spJobsBetween K) := ⟨⟨f1, _, ok_jobs_between F1 n_range, PySem.W.mg_of X G a1, k1, b1⟩⟩
  have C2 : Callee P w K mg base "split" ["numbers"] 2 (spSplit K) := ⟨⟨f2, _, ok_split F2 n_len C1, PySem.W.mg_of X G a2, k2, b2⟩⟩
  have C3 : Callee P w K mg base "is_job" ["job"] 1 spIsJob := ⟨⟨f3, _, ok_is_job F3 m_LONGEST m_HEAVIEST, PySem.W.mg_of X G a3, k3, b3⟩⟩
  have C4 : Callee P w K mg base "job_count" ["chains"] 1 spJobCount := ⟨⟨f4, _, ok_job_count F4 n_sum n_len, PySem.W.mg_of X G a4, k4, b4⟩⟩
  have C5 : Callee P w K mg base "are_within_limits" ["chains"] 2 spWithin := ⟨⟨f5, _, ok_are_within_limits F5 n_all n_len m_MOST_CHAINS m_MOST_JOBS C4 C3, PySem.W.mg_of X G a5, k5, b5⟩⟩
  have C6 : Callee P w K mg base "read_chains" ["numbers"] 3 (spRead K) := ⟨⟨f6, _, ok_read_chains F6 C2 C5, PySem.W.mg_of X G a6, k6, b6⟩⟩
  have C7 : Callee P w K mg base "is_order" ["chains", "order"] 2 (spIsOrder K) := ⟨⟨f7, _, ok_is_order F7 n_all n_enumerate n_len C4, PySem.W.mg_of X G a7, k7, b7⟩⟩
  have C8 : Callee P w K mg base "jobs_in" ["chains", "order"] 1 (spJobsIn K) := ⟨⟨f8, _, ok_jobs_in F8, PySem.W.mg_of X G a8, k8, b8⟩⟩
  have C9 : Callee P w K mg base "completions" ["jobs"] 1 spCompletions := ⟨⟨f9, _, ok_completions F9, PySem.W.mg_of X G a9, k9, b9⟩⟩
  have C10 : Callee P w K mg base "cost_of" ["jobs"] 2 spCostOf := ⟨⟨f10, _, ok_cost_of F10 n_sum n_range n_len C9, PySem.W.mg_of X G a10, k10, b10⟩⟩
  have C11 : Callee P w K mg base "order_cost" ["chains", "order"] 3 (spOrderCost K) := ⟨⟨f11, _, ok_order_cost F11 C10 C8, PySem.W.mg_of X G a11, k11, b11⟩⟩
  exact ok_total_cost F12 m_OUTSIDE C6 C7 C11
theorem nats_back : ∀ {l : List Int}, (∀ x ∈ l, 0 ≤ x) → (l.map Int.toNat).map vn = l.map V.int
  | [], _ => rfl
  | x :: r, h => by
    have hx := h x List.mem_cons_self
    have ih := nats_back (l := r) fun y hy => h y (List.mem_cons_of_mem _ hy)
    show vn x.toNat :: (r.map Int.toNat).map vn = V.int x :: r.map V.int
    rw [ih]
    show V.int ((x.toNat : Nat) : Int) :: _ = _
    rw [Int.toNat_of_nonneg hx]
end Cj
open PySem PySem.W PyProof.Rows
set_option maxRecDepth 100000 in
set_option maxHeartbeats 16000000 in
theorem PySem.Challenge.cw_chainjobs_s01_total_cost_holds : PySem.Challenge.rw_chainjobs_s01_total_cost.Holds := by
  w_on; k_headS; (case hw => exact ⟨[.list [], .list []], by decide +kernel, by decide +kernel⟩)
  k_fillS
  refine L2.walk_specK (r := PySem.Challenge.rw_chainjobs_s01_total_cost) (k := 4) (CX := L2.CX0) (ps := ["chains", "order"]) (sp := Cj.spTotal) (by decide +kernel) rfl rfl ⟨rfl, by decide, by decide⟩ (fun w h Y => PySem.W.kIn_of Y) ?F ?S (fun _ _ _ _ z => z)
  case F =>
    intro w mg fa h Y KX G hmg
    refine' Cj.all_mk KX G hmg ?a1 ?l1 ?c1 ?k1 ?a2 ?l2 ?c2 ?k2 ?a3 ?l3 ?c3 ?k3 ?a4 ?l4 ?c4 ?k4 ?a5 ?l5 ?c5 ?k5 ?a6 ?l6 ?c6 ?k6 ?a7 ?l7 ?c7 ?k7 ?a8 ?l8 ?c8 ?k8 ?a9 ?l9 ?c9 ?k9 ?a10 ?l10 ?c10 ?k10 ?a11 ?l11 ?c11 ?k11 ?a12 ?l12 ?c12 ?k12 ?z_all ?z_enumerate ?z_len ?z_range ?z_sum ?v_HEAVIEST ?v_LONGEST ?v_MOST_CHAINS ?v_MOST_JOBS ?v_OUTSIDE
    (case a1 => k_is)
    (case l1 => k_is)
    (case c1 => k_is)
    (case k1 => k_is)
    (case a2 => k_is)
    (case l2 => k_is)
    (case c2 => k_is)
    (case k2 => k_is)
    (case a3 => k_is)
    (case l3 => k_is)
    (case c3 => k_is)
    (case k3 => k_is)
    (case a4 => k_is)
    (case l4 => k_is)
    (case c4 => k_is)
    (case k4 => k_is)
    (case a5 => k_is)
    (case l5 => k_is)
    (case c5 => k_is)
    (case k5 => k_is)
    (case a6 => k_is)
    (case l6 => k_is)
    (case c6 => k_is)
    (case k6 => k_is)
    (case a7 => k_is)
    (case l7 => k_is)
    (case c7 => k_is)
    (case k7 => k_is)
    (case a8 => k_is)
    (case l8 => k_is)
    (case c8 => k_is)
    (case k8 => k_is)
    (case a9 => k_is)
    (case l9 => k_is)
    (case c9 => k_is)
    (case k9 => k_is)
    (case a10 => k_is)
    (case l10 => k_is)
    (case c10 => k_is)
    (case k10 => k_is)
    (case a11 => k_is)
    (case l11 => k_is)
    (case c11 => k_is)
    (case k11 => k_is)
    (case a12 => k_is)
    (case l12 => k_is)
    (case c12 => k_is)
    (case k12 => k_is)
    (case z_all => k_is)
    (case z_enumerate => k_is)
    (case z_len => k_is)
    (case z_range => k_is)
    (case z_sum => k_is)
    (case v_HEAVIEST => k_is)
    (case v_LONGEST => k_is)
    (case v_MOST_CHAINS => k_is)
    (case v_MOST_JOBS => k_is)
    (case v_OUTSIDE => k_is)
  case S =>
    intro K H xs a hO hwi hask hx
    cases hx with
    | cons h1 h2 =>
      cases h2 with
      | cons h3 h4 =>
        cases h4
        cases h1 with
        | lst hs ha =>
          cases h3 with
          | lst hs' ha' =>
            have e := L2.ints_dw a.1 _ ha
            subst e
            have e' := L2.ints_dw a.2.1 _ ha'
            subst e'
            have q : ((Codec.inLen 0 25 a.1 && a.1.all (Codec.inInt 0 4294967295)) && ((Codec.inLen 0 9 a.2.1 && a.2.1.all (Codec.inInt 0 4294967295)) && true)) = true := hwi
            rw [Bool.and_eq_true, Bool.and_eq_true, Bool.and_eq_true, Bool.and_eq_true] at q
            have hpos : ∀ x ∈ a.1, 0 ≤ x := fun x hx => (Codec.inInt_iff.mp (List.all_eq_true.mp q.1.2 x hx)).1
            have hpos' : ∀ x ∈ a.2.1, 0 ≤ x := fun x hx => (Codec.inInt_iff.mp (List.all_eq_true.mp q.2.1.2 x hx)).1
            refine ⟨_, _, a.1.map Int.toNat, a.2.1.map Int.toNat, rfl, by rw [Cj.nats_back hpos]; exact hs, by rw [List.length_map]; exact (Codec.inNat_iff.mp q.1.1).2, by rw [Cj.nats_back hpos']; exact hs', by rw [List.length_map]; exact (Codec.inNat_iff.mp q.2.1.1).2, fun H' p hp => ?_⟩
            rw [← Cj.total_is] at hp
            exact .lst (L2.SqL.of hp) (L2.dw_ints _)
#print axioms PySem.Challenge.cw_chainjobs_s01_total_cost_holds
