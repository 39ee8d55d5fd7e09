/- Whose turn it is: who is able, who is picked. -/
import Derived.Test.YtjgkeaiibdodfaaNh
import Derived.Test.YtjgkeaiibdodfaaTa
set_option linter.unusedVariables false
set_option linter.unusedSimpArgs false
namespace Go.Proofs.Ytjgkeaiibdodfaa.VR
open Go
/-- Tasks and locks of no great number. -/
structure TLB (B : Nat) (ts : List Task) (ls : List Lock) : Prop where
  tasks : ts.length ≤ B
  locks : LBound B ls
theorem chain_some {l : List Lock} (h : LocksOk l) (no : Int) : ∃ c, chainOf l no = some c := by
  rcases next_cases l no with ⟨e1, e2⟩ | ⟨i, e1, hi, e2⟩
  · exact ⟨[], chainOf_end e2⟩
  · unfold waitIdx at e1
    rw [List.findIdx?_eq_some_iff_getElem] at e1
    obtain ⟨hi', h1, _⟩ := e1
    have := h.ends no (List.mem_flatMap.2 ⟨l[i], List.getElem_mem hi, by simpa using h1⟩)
    exact Option.isSome_iff_exists.1 this
def lastOf : Int → List Int → Int
  | x, [] => x
  | _, y :: c => lastOf y c
theorem lastOf_get : ∀ (x : Int) (c : List Int), List.getD (x :: c) c.length 0 = lastOf x c
  | x, [] => rfl
  | x, y :: c => by
    have := lastOf_get y c
    simp only [List.length_cons, lastOf]
    rw [← this]; rfl
theorem lastOf_mem : ∀ (x : Int) (c : List Int), lastOf x c ∈ x :: c
  | x, [] => List.mem_cons_self ..
  | x, y :: c => List.mem_cons_of_mem _ (lastOf_mem y c)
/-- Who takes the turn. -/
def executor (ts : List Task) (ls : List Lock) (no : Int) : Int := match chainOf ls no with
  | some c => if (no :: c).all (fun x => (taskIdx ts x).isSome) then lastOf no c else 0
  | none => 0
theorem last_step (no : Int) (c : List Int) (hc : c.length + 1 ≤ lim) : (cond ((decide (0 ≤ (w64 (((no :: c).length : Int) - 1)))) && (decide ((w64 (((no :: c).length : Int) - 1)) < ((no :: c).length : Int))))
     (some ((List.getD (no :: c) (Int.toNat (w64 (((no :: c).length : Int) - 1))) (Kd.dflt .int)), ())) none : Option (Int × Unit)) = some (lastOf no c, ()) := by
  have e : w64 (((no :: c).length : Int) - 1) = (c.length : Int) := by
    unfold lim at hc
    rw [List.length_cons, w64_id (by omega) (by omega)]; omega
  have h2 : decide ((c.length : Int) < ((no :: c).length : Int)) = true := decide_eq_true (by simp; omega)
  rw [e, ge_t, h2, Bool.and_self, cond_true, Int.toNat_natCast]
  exact congrArg (fun x => some (x, ())) (lastOf_get no c)
/-- Whoever has an executor is a task, and so is that one. -/
theorem executor_tasks {ts : List Task} {ls : List Lock} {no : Int} (h : executor ts ls no ≠ 0) : (∃ i, taskIdx ts no = some i) ∧ ∃ j, taskIdx ts (executor ts ls no) = some j := by
  unfold executor at h ⊢
  cases e : chainOf ls no with
  | none => rw [e] at h; exact absurd rfl h
  | some c =>
    rw [e] at h
    simp only at h ⊢
    split at h
    · rename_i ha
      rw [if_pos ha]
      rw [List.all_eq_true] at ha
      exact ⟨Option.isSome_iff_exists.1 (ha no (List.mem_cons_self ..)), Option.isSome_iff_exists.1 (ha _ (lastOf_mem no c))⟩
    · exact absurd rfl h
def taskOf (ts : List Task) (no : Int) : Task := match taskIdx ts no with
  | some i => ts.getD i (Kd.dflt .task)
  | none => Kd.dflt .task
def able (ts : List Task) (ls : List Lock) (no : Int) : Bool := decide (executor ts ls no ≠ 0) && decide ((taskOf ts no).State = 1) && decide ((taskOf ts (executor ts ls no)).State = 1)
def canTurn (ts : List Task) (ls : List Lock) (no : Int) : Bool := able ts ls no && (decide ((taskOf ts no).Class ≠ 1) || decide (0 < (taskOf ts no).Left))
theorem able_step {ts : List Task} {e no : Int} {i j : Nat} (hi : taskIdx ts no = some i) (hj : taskIdx ts e = some j) : ((some (idx (taskIdx ts no), ()) : Option (Int × Unit)).bind fun r2 =>
    cond ((decide (0 ≤ r2.1)) && (decide (r2.1 < ((ts).length : Int))))
     (cond (decide ((List.getD ts (Int.toNat r2.1) (Kd.dflt .task)).State = 1))
       ((some (idx (taskIdx ts e), ()) : Option (Int × Unit)).bind fun r4 =>
        cond ((decide (0 ≤ r4.1)) && (decide (r4.1 < ((ts).length : Int))))
         (some ((decide ((List.getD ts (Int.toNat r4.1) (Kd.dflt .task)).State = 1)), ()))
         (none))
       (some (false, ())))
     (none) : Option (Bool × Unit)) = some (decide ((taskOf ts no).State = 1) && decide ((taskOf ts e).State = 1), ()) := by
  obtain ⟨h1, _⟩ := taskIdx_some hi
  obtain ⟨h2, _⟩ := taskIdx_some hj
  simp only [hi, hj, idx, Option.bind_some, ge_t, lt_t h1, lt_t h2, Bool.and_self, cond_true, taskOf, Int.toNat_natCast]
  cases decide ((List.getD ts i (Kd.dflt .task)).State = 1) <;> rfl
/-- Able, of what is right; else nobody is. -/
def ableR (ts : List Task) (ls : List Lock) (no : Int) : Bool := decide (TasksOk ts ∧ LocksOk ls) && able ts ls no
def canR (ts : List Task) (ls : List Lock) (no : Int) : Bool := decide (TasksOk ts ∧ LocksOk ls) && canTurn ts ls no
theorem can_step {ts : List Task} {no : Int} {i : Nat} (hi : taskIdx ts no = some i) : ((some (idx (taskIdx ts no), ()) : Option (Int × Unit)).bind fun r2 =>
    cond ((decide (0 ≤ r2.1)) && (decide (r2.1 < ((ts).length : Int))))
     (cond (!(decide ((List.getD ts (Int.toNat r2.1) (Kd.dflt .task)).Class = 1))) (some (true, ())) (some ((decide (0 < (List.getD ts (Int.toNat r2.1) (Kd.dflt .task)).Left)), ())))
     (none) : Option (Bool × Unit)) = some (decide ((taskOf ts no).Class ≠ 1) || decide (0 < (taskOf ts no).Left), ()) := by
  obtain ⟨h1, _⟩ := taskIdx_some hi
  simp only [hi, idx, Option.bind_some, ge_t, lt_t h1, Bool.and_self, cond_true, taskOf, Int.toNat_natCast]
  by_cases h2 : (List.getD ts i (Kd.dflt .task)).Class = 1
  · simp only [h2, ne_eq, not_true_eq_false, decide_true, decide_false, Bool.not_true, cond_false, Bool.false_or]
  · simp only [h2, ne_eq, not_false_eq_true, decide_true, decide_false, Bool.not_false, cond_true, Bool.true_or]
theorem able_task {ts : List Task} {ls : List Lock} {no : Int} (h : able ts ls no = true) : ∃ i, taskIdx ts no = some i := by
  unfold able at h
  simp only [Bool.and_eq_true, decide_eq_true_eq] at h
  exact (executor_tasks h.1.1).1
/-! The one that is before all others. -/
def betterT (b : Option Task) (t : Task) : Option Task := match b with
  | none => some t
  | some b => if Before t b then some t else some b
def bestT (l : List Task) : Option Task := l.foldl betterT none
def noOf (b : Option Task) : Int := match b with
  | none => 0
  | some t => t.No
def turners (ts : List Task) (ls : List Lock) (cpu : Int) : List Task := ts.filter fun t => decide (t.Cpu = cpu) && canR ts ls t.No
/-- The best so far, as the program keeps it. -/
def keepBest (b : Option Task) : Task := match b with
  | none => ⟨0, 0, 0, 0, false, 0, 0, 0, 0, 0, 0, 0, 0, 0⟩
  | some t => t
def pick (ts : List Task) (ls : List Lock) (cpu : Int) : Int × Int := match bestT (turners ts ls cpu) with
  | none => (0, 0)
  | some t => (t.No, executor ts ls t.No)
theorem bestT_mem : ∀ (l : List Task) (b : Option Task) (t : Task), l.foldl betterT b = some t → t ∈ l ∨ b = some t
  | [], b, t, h => .inr h
  | x :: l, b, t, h => by
    rcases bestT_mem l (betterT b x) t h with h | h
    · exact .inl (List.mem_cons_of_mem _ h)
    · unfold betterT at h
      split at h
      · injection h with h; subst h; exact .inl (List.mem_cons_self ..)
      · split at h <;> injection h with h <;> subst h
        · exact .inl (List.mem_cons_self ..)
        · exact .inr rfl
theorem turners_not {ts : List Task} {ls : List Lock} {cpu : Int} (h : ¬ (TasksOk ts ∧ LocksOk ls)) : turners ts ls cpu = [] := by
  unfold turners canR
  simp [h]
/-- The place of the best so far. -/
def placeT (ts : List Task) (b : Option Task) : Int := match b with
  | none => -1
  | some t => idx (taskIdx ts t.No)
theorem taskIdx_self {ts : List Task} (h : TasksOk ts) {i : Nat} (hi : i < ts.length) : taskIdx ts ts[i].No = some i := by
  unfold taskIdx
  rw [List.findIdx?_eq_some_iff_getElem]
  refine ⟨hi, by simp, fun j hj => ?_⟩
  have := List.pairwise_iff_getElem.1 h.sorted j i (by omega) hi hj
  simp; omega
theorem idx_mem {ts : List Task} (h : TasksOk ts) {t : Task} (ht : t ∈ ts) : ∃ i, ∃ hi : i < ts.length, ts[i] = t ∧ taskIdx ts t.No = some i := by
  obtain ⟨i, hi, rfl⟩ := List.getElem_of_mem ht
  exact ⟨i, hi, rfl, taskIdx_self h hi⟩
end Go.Proofs.Ytjgkeaiibdodfaa.VR
