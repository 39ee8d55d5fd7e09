/- Whose turn it is: who is able, who is picked. -/
import Derived.Test.YtoedeimpfbebpaaNh
import Derived.Test.YtoedeimpfbebpaaG09
set_option linter.unusedVariables false
set_option linter.unusedSimpArgs false
namespace Go.Proofs.Ytoedeimpfbebpaa.VR
open Go
/-- Tasks and locks of no great number. -/
structure TLB (B : Nat) (ts : List Task) (ls : List Lock) : Prop where
  tasks : ts.length ≤ B
  locks : LBound B ls
theorem chain_some {l : List Lock} (h : LocksOk l) (no : Int) : ∃ c, chainOf l no = some c := by
  rcases next_cases l no with ⟨e1, e2⟩ | ⟨i, e1, hi, e2⟩
  · exact ⟨[], chainOf_end e2⟩
  · unfold waitIdx at e1
    rw [List.findIdx?_eq_some_iff_getElem] at e1
    obtain ⟨hi', h1, _⟩ := e1
    have := h.ends no (List.mem_flatMap.2 ⟨l[i], List.getElem_mem hi, by simpa using h1⟩)
    exact Option.isSome_iff_exists.1 this
def lastOf : Int → List Int → Int
  | x, [] => x
  | _, y :: c => lastOf y c
theorem lastOf_get : ∀ (x : Int) (c : List Int), List.getD (x :: c) c.length 0 = lastOf x c
  | x, [] => rfl
  | x, y :: c => by
    have := lastOf_get y c
    simp only [List.length_cons, lastOf]
    rw [← this]; rfl
theorem lastOf_mem : ∀ (x : Int) (c : List Int), lastOf x c ∈ x :: c
  | x, [] => List.mem_cons_self ..
  | x, y :: c => List.mem_cons_of_mem _ (lastOf_mem y c)
/-- Who takes the turn. -/
def executor (ts : List Task) (ls : List Lock) (no : Int) : Int := match chainOf ls no with
  | some c => if (no :: c).all (fun x => (taskIdx ts x).isSome) then lastOf no c else 0
  | none => 0
theorem last_step (no : Int) (c : List Int) (hc : c.length + 1 ≤ lim) : (cond ((decide (0 ≤ (w64 (((no :: c).length : Int) - 1)))) && (decide ((w64 (((no :: c).length : Int) - 1)) < ((no :: c).length : Int))))
     (some ((List.getD (no :: c) (Int.toNat (w64 (((no :: c).length : Int) - 1))) (Kd.dflt .int)), ())) none : Option (Int × Unit)) = some (lastOf no c, ()) := by
  have e : w64 (((no :: c).length : Int) - 1) = (c.length : Int) := by
    unfold lim at hc
    rw [List.length_cons, w64_id (by omega) (by omega)]; omega
  have h2 : decide ((c.length : Int) < ((no :: c).length : Int)) = true := decide_eq_true (by simp; omega)
  rw [e, ge_t, h2, Bool.and_self, cond_true, Int.toNat_natCast]
  exact congrArg (fun x => some (x, ())) (lastOf_get no c)
theorem impl_executor_eq {ts : List Task} {ls : List Lock} {no : Int} {B n : Nat} (h : TLB B ts ls) (hn : B + 2 < n) (hb : B + 2 ≤ lim) (hl : LocksOk ls) : f_impl_executor n ts ls no = some (executor ts ls no, ()) := by
  obtain ⟨c, hc⟩ := chain_some hl no
  have hs := chainR_short hc
  have ht := h.tasks
  have hlk := h.locks.len
  simp only [f_impl_executor, impl_chain_eq h.locks.small (show B + 1 < n by omega) (show B + 1 ≤ lim by omega), hc, Option.bind_some, executor]
  rw [last_step no c (by omega)]
  have := all_loop (l := fun m i => l_impl_executor_0 n m ts (no :: c) (no :: c) ((no :: c).length : Int) i (some (0, ())) (some (lastOf no c, ()))) (xs := no :: c) (p := fun x => (taskIdx ts x).isSome) (k0 := some (0, ())) (k1 := some (lastOf no c, ()))
    (fun m => by simp only [l_impl_executor_0, lt_f, cond_false]) (fun m i hi => by
      simp only [l_impl_executor_0, lt_t hi, ge_t, Bool.and_self, cond_true, getD_at hi, impl_TaskAt_eq (show ts.length < n by omega) (show ts.length ≤ lim by omega), Option.bind_some, idx_neg, wsucc (Nat.lt_trans hi (lim_lm (show (no :: c).length ≤ lim by simp; omega)))]
      cases taskIdx ts (no :: c)[i] <;> rfl) (m := n) (by simp; omega)
  refine this.trans ?_
  cases (no :: c).all fun x => (taskIdx ts x).isSome <;> rfl
theorem spec_l8Executor_eq {ts : List Task} {ls : List Lock} {no : Int} {B n : Nat} (h : TLB B ts ls) (hn : B + 2 < n) (hb : B + 2 ≤ lim) (hl : LocksOk ls) : f_spec_l8Executor n ts ls no = some (executor ts ls no, ()) := by
  obtain ⟨c, hc⟩ := chain_some hl no
  have hs := chainR_short hc
  have ht := h.tasks
  have hlk := h.locks.len
  simp only [f_spec_l8Executor, spec_l7Chain_some h.locks.small hn hb hc, hc, Option.bind_some, executor]
  rw [last_step no c (by omega)]
  have := all_loop (l := fun m i => l_spec_l8Executor_0 n m ts (no :: c) i (some (0, ())) (some (lastOf no c, ()))) (xs := no :: c) (p := fun x => (taskIdx ts x).isSome) (k0 := some (0, ())) (k1 := some (lastOf no c, ()))
    (fun m => by simp only [l_spec_l8Executor_0, lt_f, cond_false]) (fun m i hi => by
      simp only [l_spec_l8Executor_0, lt_t hi, ge_t, Bool.and_self, cond_true, getD_at hi, spec_TaskAt_eq (show ts.length < n by omega) (show ts.length ≤ lim by omega), Option.bind_some, idx_neg, wsucc (Nat.lt_trans hi (lim_lm (show (no :: c).length ≤ lim by simp; omega)))]
      cases taskIdx ts (no :: c)[i] <;> rfl) (m := n) (by simp; omega)
  refine this.trans ?_
  cases (no :: c).all fun x => (taskIdx ts x).isSome <;> rfl
/-- Whoever has an executor is a task, and so is that one. -/
theorem executor_tasks {ts : List Task} {ls : List Lock} {no : Int} (h : executor ts ls no ≠ 0) : (∃ i, taskIdx ts no = some i) ∧ ∃ j, taskIdx ts (executor ts ls no) = some j := by
  unfold executor at h ⊢
  cases e : chainOf ls no with
  | none => rw [e] at h; exact absurd rfl h
  | some c =>
    rw [e] at h
    simp only at h ⊢
    split at h
    · rename_i ha
      rw [if_pos ha]
      rw [List.all_eq_true] at ha
      exact ⟨Option.isSome_iff_exists.1 (ha no (List.mem_cons_self ..)), Option.isSome_iff_exists.1 (ha _ (lastOf_mem no c))⟩
    · exact absurd rfl h
def taskOf (ts : List Task) (no : Int) : Task := match taskIdx ts no with
  | some i => ts.getD i (Kd.dflt .task)
  | none => Kd.dflt .task
def able (ts : List Task) (ls : List Lock) (no : Int) : Bool := decide (executor ts ls no ≠ 0) && decide ((taskOf ts no).State = 1) && decide ((taskOf ts (executor ts ls no)).State = 1)
def canTurn (ts : List Task) (ls : List Lock) (no : Int) : Bool := able ts ls no && (decide ((taskOf ts no).Class ≠ 1) || decide (0 < (taskOf ts no).Left))
theorem able_step {ts : List Task} {e no : Int} {i j : Nat} (hi : taskIdx ts no = some i) (hj : taskIdx ts e = some j) : ((some (idx (taskIdx ts no), ()) : Option (Int × Unit)).bind fun r2 =>
    cond ((decide (0 ≤ r2.1)) && (decide (r2.1 < ((ts).length : Int))))
     (cond (decide ((List.getD ts (Int.toNat r2.1) (Kd.dflt .task)).State = 1))
       ((some (idx (taskIdx ts e), ()) : Option (Int × Unit)).bind fun r4 =>
        cond ((decide (0 ≤ r4.1)) && (decide (r4.1 < ((ts).length : Int))))
         (some ((decide ((List.getD ts (Int.toNat r4.1) (Kd.dflt .task)).State = 1)), ()))
         (none))
       (some (false, ())))
     (none) : Option (Bool × Unit)) = some (decide ((taskOf ts no).State = 1) && decide ((taskOf ts e).State = 1), ()) := by
  obtain ⟨h1, _⟩ := taskIdx_some hi
  obtain ⟨h2, _⟩ := taskIdx_some hj
  simp only [hi, hj, idx, Option.bind_some, ge_t, lt_t h1, lt_t h2, Bool.and_self, cond_true, taskOf, Int.toNat_natCast]
  cases decide ((List.getD ts i (Kd.dflt .task)).State = 1) <;> rfl
theorem impl_Executor_eq {ts : List Task} {ls : List Lock} {no : Int} {B n : Nat} (h : TLB B ts ls) (hn : B + 2 < n) (hb : B + 2 ≤ lim) : f_impl_Executor n ts ls no = some (if TasksOk ts ∧ LocksOk ls then executor ts ls no else 0, ()) := by
  have ht := h.tasks
  simp only [f_impl_Executor, impl_TasksOk_eq (show ts.length < n by omega) (show ts.length ≤ lim by omega), impl_LocksOk_eq h.locks hn hb, Option.bind_some]
  by_cases h1 : TasksOk ts
  · by_cases h2 : LocksOk ls
    · simp only [decide_eq_true h1, decide_eq_true h2, Bool.not_true, cond_false, impl_executor_eq h hn hb h2, Option.bind_some, if_pos (And.intro h1 h2)]
    · have h3 : ¬ (TasksOk ts ∧ LocksOk ls) := fun h => h2 h.2
      simp only [decide_eq_true h1, decide_eq_false h2, Bool.not_true, Bool.not_false, cond_false, cond_true, if_neg h3]
  · have h3 : ¬ (TasksOk ts ∧ LocksOk ls) := fun h => h1 h.1
    simp only [decide_eq_false h1, Bool.not_false, cond_true, if_neg h3]
/-- Able, of what is right; else nobody is. -/
def ableR (ts : List Task) (ls : List Lock) (no : Int) : Bool := decide (TasksOk ts ∧ LocksOk ls) && able ts ls no
def canR (ts : List Task) (ls : List Lock) (no : Int) : Bool := decide (TasksOk ts ∧ LocksOk ls) && canTurn ts ls no
theorem impl_Able_eq {ts : List Task} {ls : List Lock} {no : Int} {B n : Nat} (h : TLB B ts ls) (hn : B + 2 < n) (hb : B + 2 ≤ lim) : f_impl_Able n ts ls no = some (ableR ts ls no, ()) := by
  have ht := h.tasks
  simp only [f_impl_Able, impl_Executor_eq h hn hb, Option.bind_some, ableR]
  by_cases h3 : TasksOk ts ∧ LocksOk ls
  · simp only [if_pos h3, decide_eq_true h3, Bool.true_and, able]
    by_cases he : executor ts ls no = 0
    · simp only [decide_eq_true he, Bool.not_true, cond_false, ne_eq, he, not_true_eq_false, decide_true, decide_false, Bool.not_true, cond_false, Bool.false_and]
    · obtain ⟨⟨i, hi⟩, j, hj⟩ := executor_tasks he
      have := able_step hi hj
      simp only [decide_eq_false he, Bool.not_false, cond_true, impl_TaskAt_eq (show ts.length < n by omega) (show ts.length ≤ lim by omega), decide_eq_true (show executor ts ls no ≠ 0 from he), Bool.true_and]
      exact this
  · simp only [if_neg h3, decide_eq_false h3, Bool.false_and, decide_true, Bool.not_true, cond_false]
theorem spec_l8Able_eq {ts : List Task} {ls : List Lock} {no : Int} {B n : Nat} (h : TLB B ts ls) (hn : B + 2 < n) (hb : B + 2 ≤ lim) (hl : LocksOk ls) : f_spec_l8Able n ts ls no = some (able ts ls no, ()) := by
  have ht := h.tasks
  simp only [f_spec_l8Able, spec_l8Executor_eq h hn hb hl, Option.bind_some, able]
  by_cases he : executor ts ls no = 0
  · simp only [decide_eq_true he, Bool.not_true, cond_false, ne_eq, he, not_true_eq_false, decide_true, decide_false, Bool.not_true, cond_false, Bool.false_and]
  · obtain ⟨⟨i, hi⟩, j, hj⟩ := executor_tasks he
    have := able_step hi hj
    simp only [decide_eq_false he, Bool.not_false, cond_true, spec_TaskAt_eq (show ts.length < n by omega) (show ts.length ≤ lim by omega), decide_eq_true (show executor ts ls no ≠ 0 from he), Bool.true_and]
    exact this
theorem can_step {ts : List Task} {no : Int} {i : Nat} (hi : taskIdx ts no = some i) : ((some (idx (taskIdx ts no), ()) : Option (Int × Unit)).bind fun r2 =>
    cond ((decide (0 ≤ r2.1)) && (decide (r2.1 < ((ts).length : Int))))
     (cond (!(decide ((List.getD ts (Int.toNat r2.1) (Kd.dflt .task)).Class = 1))) (some (true, ())) (some ((decide (0 < (List.getD ts (Int.toNat r2.1) (Kd.dflt .task)).Left)), ())))
     (none) : Option (Bool × Unit)) = some (decide ((taskOf ts no).Class ≠ 1) || decide (0 < (taskOf ts no).Left), ()) := by
  obtain ⟨h1, _⟩ := taskIdx_some hi
  simp only [hi, idx, Option.bind_some, ge_t, lt_t h1, Bool.and_self, cond_true, taskOf, Int.toNat_natCast]
  by_cases h2 : (List.getD ts i (Kd.dflt .task)).Class = 1
  · simp only [h2, ne_eq, not_true_eq_false, decide_true, decide_false, Bool.not_true, cond_false, Bool.false_or]
  · simp only [h2, ne_eq, not_false_eq_true, decide_true, decide_false, Bool.not_false, cond_true, Bool.true_or]
theorem able_task {ts : List Task} {ls : List Lock} {no : Int} (h : able ts ls no = true) : ∃ i, taskIdx ts no = some i := by
  unfold able at h
  simp only [Bool.and_eq_true, decide_eq_true_eq] at h
  exact (executor_tasks h.1.1).1
theorem impl_CanTurn_eq {ts : List Task} {ls : List Lock} {no : Int} {B n : Nat} (h : TLB B ts ls) (hn : B + 2 < n) (hb : B + 2 ≤ lim) : f_impl_CanTurn n ts ls no = some (canR ts ls no, ()) := by
  have ht := h.tasks
  simp only [f_impl_CanTurn, impl_Able_eq h hn hb, Option.bind_some, canR, canTurn, ableR]
  by_cases h3 : TasksOk ts ∧ LocksOk ls
  · simp only [decide_eq_true h3, Bool.true_and]
    cases ha : able ts ls no with
    | false => simp only [Bool.not_false, cond_true, Bool.false_and]
    | true =>
      obtain ⟨i, hi⟩ := able_task ha
      have := can_step hi
      simp only [Bool.not_true, cond_false, impl_TaskAt_eq (show ts.length < n by omega) (show ts.length ≤ lim by omega), Bool.true_and]
      exact this
  · simp only [decide_eq_false h3, Bool.false_and, Bool.not_false, cond_true]
theorem spec_l8Can_eq {ts : List Task} {ls : List Lock} {no : Int} {B n : Nat} (h : TLB B ts ls) (hn : B + 2 < n) (hb : B + 2 ≤ lim) (hl : LocksOk ls) : f_spec_l8Can n ts ls no = some (canTurn ts ls no, ()) := by
  have ht := h.tasks
  simp only [f_spec_l8Can, spec_l8Able_eq h hn hb hl, Option.bind_some, canTurn]
  cases ha : able ts ls no with
  | false => simp only [Bool.not_false, cond_true, Bool.false_and]
  | true =>
    obtain ⟨i, hi⟩ := able_task ha
    have := can_step hi
    simp only [Bool.not_true, cond_false, spec_TaskAt_eq (show ts.length < n by omega) (show ts.length ≤ lim by omega), Bool.true_and]
    exact this
/-! The one that is before all others. -/
def betterT (b : Option Task) (t : Task) : Option Task := match b with
  | none => some t
  | some b => if Before t b then some t else some b
def bestT (l : List Task) : Option Task := l.foldl betterT none
def noOf (b : Option Task) : Int := match b with
  | none => 0
  | some t => t.No
def turners (ts : List Task) (ls : List Lock) (cpu : Int) : List Task := ts.filter fun t => decide (t.Cpu = cpu) && canR ts ls t.No
theorem impl_turners_eq {ts : List Task} {ls : List Lock} {cpu : Int} {B n : Nat} (h : TLB B ts ls) (hn : B + 2 < n) (hb : B + 2 ≤ lim) : f_impl_turners n ts ls cpu = some (turners ts ls cpu, ()) := by
  have ht := h.tasks
  unfold f_impl_turners turners
  have := loop_to (l := fun m i => l_impl_turners_0 n m ts ls cpu ((ts.take i).filter fun t => decide (t.Cpu = cpu) && canR ts ls t.No) ts (ts.length : Int) (i : Int) (fun w11 => some (w11, ()))) (len := ts.length)
    (r := some (ts.filter fun t => decide (t.Cpu = cpu) && canR ts ls t.No, ())) (fun _ => True) trivial (fun m _ => ?_) (fun m i hi _ => .inl ⟨?_, trivial⟩) (m := n) (by omega)
  · simpa using this
  · simp only [l_impl_turners_0, lt_f, cond_false, List.take_length]
  · have hfl : ((ts.take i).filter fun t => decide (t.Cpu = cpu) && canR ts ls t.No).length ≤ i := Nat.le_trans (List.length_filter_le _ _) (List.length_take_le _ _)
    have e4 : decide (((ts.take i).filter fun t => decide (t.Cpu = cpu) && canR ts ls t.No).length + [ts[i]].length ≤ lim) = true := decide_eq_true (by simp only [List.length_cons, List.length_nil]; omega)
    simp only [l_impl_turners_0, lt_t hi, ge_t, Bool.and_self, cond_true, getD_at hi, impl_CanTurn_eq h hn hb, Option.bind_some, e4, wsucc (Nat.lt_trans hi (lim_lm (show ts.length ≤ lim by omega)))]
    rw [filter_take _ hi]
    cases decide (ts[i].Cpu = cpu) with
    | false => simp
    | true => cases canR ts ls ts[i].No <;> simp
/-- The best so far, as the program keeps it. -/
def keepBest (b : Option Task) : Task := match b with
  | none => ⟨0, 0, 0, 0, false, 0, 0, 0, 0, 0, 0, 0, 0, 0⟩
  | some t => t
theorem impl_first_eq {l : List Task} {n : Nat} (hn : l.length < n) (hb : l.length ≤ lim) (hl : ∀ t ∈ l, TaskOk t) : f_impl_first n l = some (noOf (bestT l), ()) := by
  unfold f_impl_first
  have hok : ∀ (i : Nat) t, (l.take i).foldl betterT none = some t → TaskOk t := by
    have : ∀ (xs : List Task) (b : Option Task), (∀ t ∈ xs, TaskOk t) → (∀ t, b = some t → TaskOk t) → ∀ t, xs.foldl betterT b = some t → TaskOk t := by
      intro xs
      induction xs with
      | nil => intro b _ hb t h; exact hb t h
      | cons x xs ih =>
        intro b hx hb t h
        refine ih (betterT b x) (fun t ht => hx t (List.mem_cons_of_mem _ ht)) (fun t ht => ?_) t h
        unfold betterT at ht
        split at ht
        · injection ht with ht; subst ht; exact hx _ (List.mem_cons_self ..)
        · split at ht <;> injection ht with ht <;> subst ht
          · exact hx _ (List.mem_cons_self ..)
          · exact hb _ rfl
    exact fun i t h => this (l.take i) none (fun t ht => hl t (List.mem_of_mem_take ht)) (fun t h => by cases h) t h
  have := loop_to (l := fun m i => l_impl_first_0 n m (keepBest ((l.take i).foldl betterT none)) l (l.length : Int) (i : Int) (fun w6 => some (w6.No, ()))) (len := l.length)
    (r := some (noOf (bestT l), ())) (fun _ => True) trivial (fun m _ => ?_) (fun m i hi _ => .inl ⟨?_, trivial⟩) (m := n) hn
  · rw [List.take_zero] at this; exact this
  · simp only [l_impl_first_0, lt_f, cond_false, List.take_length, bestT]
    cases l.foldl betterT none <;> rfl
  · simp only [l_impl_first_0, lt_t hi, ge_t, Bool.and_self, cond_true, getD_at hi, impl_Before_eq, Option.bind_some, wsucc (Nat.lt_trans hi (lim_lm hb))]
    rw [List.take_succ_eq_append_getElem hi, List.foldl_append]
    cases e : (l.take i).foldl betterT none with
    | none => simp [keepBest, betterT]
    | some b =>
      have h0 : ¬ b.No = 0 := by have := (hok i b e).no; omega
      simp only [keepBest, decide_eq_false h0, cond_false, List.foldl_cons, List.foldl_nil, betterT]
      by_cases hbf : Before l[i] b
      · simp [hbf, h0]
      · simp [hbf, h0]
def pick (ts : List Task) (ls : List Lock) (cpu : Int) : Int × Int := match bestT (turners ts ls cpu) with
  | none => (0, 0)
  | some t => (t.No, executor ts ls t.No)
theorem bestT_mem : ∀ (l : List Task) (b : Option Task) (t : Task), l.foldl betterT b = some t → t ∈ l ∨ b = some t
  | [], b, t, h => .inr h
  | x :: l, b, t, h => by
    rcases bestT_mem l (betterT b x) t h with h | h
    · exact .inl (List.mem_cons_of_mem _ h)
    · unfold betterT at h
      split at h
      · injection h with h; subst h; exact .inl (List.mem_cons_self ..)
      · split at h <;> injection h with h <;> subst h
        · exact .inl (List.mem_cons_self ..)
        · exact .inr rfl
theorem turners_not {ts : List Task} {ls : List Lock} {cpu : Int} (h : ¬ (TasksOk ts ∧ LocksOk ls)) : turners ts ls cpu = [] := by
  unfold turners canR
  simp [h]
theorem impl_Pick_eq {ts : List Task} {ls : List Lock} {cpu : Int} {B n : Nat} (h : TLB B ts ls) (hn : B + 2 < n) (hb : B + 2 ≤ lim) : f_impl_Pick n ts ls cpu = some (((pick ts ls cpu).1, (pick ts ls cpu).2, ()), ()) := by
  have ht := h.tasks
  have hsub : ∀ t ∈ turners ts ls cpu, t ∈ ts := fun t ht => (List.mem_filter.1 ht).1
  have hlen : (turners ts ls cpu).length ≤ B := Nat.le_trans (List.length_filter_le _ _) ht
  simp only [f_impl_Pick, impl_turners_eq h hn hb, Option.bind_some]
  by_cases h3 : TasksOk ts ∧ LocksOk ls
  · rw [impl_first_eq (by omega) (by omega) fun t ht => h3.1.each t (hsub t ht)]
    simp only [Option.bind_some, pick]
    cases e : bestT (turners ts ls cpu) with
    | none => simp [noOf]
    | some t =>
      have hm := bestT_mem _ _ _ e
      have hmt : t ∈ ts := by
        rcases hm with hm | hm
        · exact hsub t hm
        · cases hm
      have h0 : ¬ t.No = 0 := by have := (h3.1.each t hmt).no; omega
      simp only [noOf, impl_Executor_eq h hn hb, if_pos h3, Option.bind_some]
      simp only [h0, decide_false, cond_false]
  · have e : turners ts ls cpu = [] := turners_not h3
    rw [e, impl_first_eq (by simp; omega) (by simp) (fun t ht => by cases ht)]
    simp [pick, e, bestT, noOf]
/-- The place of the best so far. -/
def placeT (ts : List Task) (b : Option Task) : Int := match b with
  | none => -1
  | some t => idx (taskIdx ts t.No)
theorem taskIdx_self {ts : List Task} (h : TasksOk ts) {i : Nat} (hi : i < ts.length) : taskIdx ts ts[i].No = some i := by
  unfold taskIdx
  rw [List.findIdx?_eq_some_iff_getElem]
  refine ⟨hi, by simp, fun j hj => ?_⟩
  have := List.pairwise_iff_getElem.1 h.sorted j i (by omega) hi hj
  simp; omega
theorem idx_mem {ts : List Task} (h : TasksOk ts) {t : Task} (ht : t ∈ ts) : ∃ i, ∃ hi : i < ts.length, ts[i] = t ∧ taskIdx ts t.No = some i := by
  obtain ⟨i, hi, rfl⟩ := List.getElem_of_mem ht
  exact ⟨i, hi, rfl, taskIdx_self h hi⟩
theorem spec_l8Pick_eq {ts : List Task} {ls : List Lock} {cpu : Int} {B n : Nat} (h : TLB B ts ls) (hn : B + 2 < n) (hb : B + 2 ≤ lim) (h3 : TasksOk ts) (h4 : LocksOk ls) : f_spec_l8Pick n ts ls cpu = some (placeT ts (bestT (turners ts ls cpu)), ()) := by
  have ht := h.tasks
  unfold f_spec_l8Pick
  have hcan : ∀ no, canR ts ls no = canTurn ts ls no := fun no => by unfold canR; rw [decide_eq_true (And.intro h3 h4), Bool.true_and]
  have := loop_to (l := fun m i => l_spec_l8Pick_0 n m ts ls cpu (placeT ts (bestT ((ts.take i).filter fun t => decide (t.Cpu = cpu) && canR ts ls t.No))) (i : Int) (fun w9 => some (w9, ()))) (len := ts.length)
    (r := some (placeT ts (bestT (turners ts ls cpu)), ())) (fun _ => True) trivial (fun m _ => ?_) (fun m i hi _ => .inl ⟨?_, trivial⟩) (m := n) (by omega)
  · simpa [bestT, placeT] using this
  · simp only [l_spec_l8Pick_0, lt_f, cond_false, List.take_length, turners]
  · have hil := Nat.lt_trans hi (lim_lm (show ts.length ≤ lim by omega))
    rw [filter_take _ hi, hcan]
    have hmem := bestT_mem ((ts.take i).filter fun t => decide (t.Cpu = cpu) && canR ts ls t.No) none
    have happ : ∀ c, bestT (((ts.take i).filter fun t => decide (t.Cpu = cpu) && canR ts ls t.No) ++ cond c [ts[i]] []) = cond c (betterT (bestT ((ts.take i).filter fun t => decide (t.Cpu = cpu) && canR ts ls t.No)) ts[i]) (bestT ((ts.take i).filter fun t => decide (t.Cpu = cpu) && canR ts ls t.No)) := fun c => by
      cases c
      · simp only [cond_false, List.append_nil]
      · simp only [cond_true, bestT, List.foldl_append, List.foldl_cons, List.foldl_nil]
    have hh : ∀ c : Bool, (if c = true then [ts[i]] else []) = cond c [ts[i]] [] := fun c => by cases c <;> rfl
    have happ2 : ∀ c : Bool, bestT (((ts.take i).filter fun t => decide (t.Cpu = cpu) && canR ts ls t.No) ++ (if c = true then [ts[i]] else [])) = _ := fun c => (congrArg (fun z => bestT (_ ++ z)) (hh c)).trans (happ c)
    try rw [happ]
    try rw [happ2]
    change ∀ t, bestT ((ts.take i).filter fun t => decide (t.Cpu = cpu) && canR ts ls t.No) = some t → _ at hmem
    revert hmem
    generalize he : bestT ((ts.take i).filter fun t => decide (t.Cpu = cpu) && canR ts ls t.No) = ob
    clear he happ happ2
    intro hmem
    simp only [l_spec_l8Pick_0, lt_t hi, ge_t, Bool.and_self, cond_true, getD_at hi, spec_l8Can_eq h hn hb h4, Option.bind_some, wsucc hil, spec_Before_eq]
    by_cases hc : ts[i].Cpu = cpu
    · cases hk : canTurn ts ls ts[i].No with
      | false => simp [hc, hk]
      | true =>
        simp only [decide_eq_true hc, cond_true, Bool.and_self]
        match ob, hmem with
        | none, _ =>
          have : decide (placeT ts none < 0) = true := by simp [placeT]
          rw [this, cond_true]
          simp only [betterT, placeT, taskIdx_self h3 hi, idx]
        | some b, hmem =>
          have hb2 : b ∈ ts := by
            rcases hmem _ rfl with hm | hm
            · exact List.mem_of_mem_take (List.mem_filter.1 hm).1
            · cases hm
          obtain ⟨j, hj, hbj, hji⟩ := idx_mem h3 hb2
          simp only [placeT, hji, idx, neg_f, cond_false, ge_t, lt_t hj, Bool.and_self, cond_true, getD_at hj, hbj, betterT]
          by_cases hbf : Before ts[i] b
          · simp [hbf, taskIdx_self h3 hi, idx]
          · simp [hbf, hji, idx]
    · simp [hc]
theorem spec_Pick_eq {ts : List Task} {ls : List Lock} {cpu : Int} {B n : Nat} (h : TLB B ts ls) (hn : B + 2 < n) (hb : B + 2 ≤ lim) : f_spec_Pick n ts ls cpu = some (((pick ts ls cpu).1, (pick ts ls cpu).2, ()), ()) := by
  have ht := h.tasks
  simp only [f_spec_Pick, spec_TasksOk_eq (show ts.length < n by omega) (show ts.length ≤ lim by omega), spec_LocksOk_eq h.locks hn hb, Option.bind_some]
  by_cases h1 : TasksOk ts
  · by_cases h2 : LocksOk ls
    · simp only [decide_eq_true h1, decide_eq_true h2, Bool.not_true, cond_false, spec_l8Pick_eq h hn hb h1 h2, Option.bind_some, pick]
      cases e : bestT (turners ts ls cpu) with
      | none => simp [placeT]
      | some t =>
        have hmt : t ∈ ts := by
          rcases bestT_mem _ _ _ e with hm | hm
          · exact (List.mem_filter.1 hm).1
          · cases hm
        obtain ⟨j, hj, hbj, hji⟩ := idx_mem h1 hmt
        simp only [placeT, hji, idx, neg_f, cond_false, ge_t, lt_t hj, Bool.and_self, cond_true, getD_at hj, hbj, spec_l8Executor_eq h hn hb h2, Option.bind_some]
    · have h3 : ¬ (TasksOk ts ∧ LocksOk ls) := fun h => h2 h.2
      simp [decide_eq_true h1, decide_eq_false h2, pick, turners_not h3, bestT]
  · have h3 : ¬ (TasksOk ts ∧ LocksOk ls) := fun h => h1 h.1
    simp [decide_eq_false h1, pick, turners_not h3, bestT]
end Go.Proofs.Ytoedeimpfbebpaa.VR
