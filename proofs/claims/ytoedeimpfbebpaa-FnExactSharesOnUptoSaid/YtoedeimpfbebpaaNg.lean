/- Tasks in a row: who stands where; a row that is right. -/
import Derived.Test.YtoedeimpfbebpaaNf
import Derived.Test.YtoedeimpfbebpaaG08
set_option linter.unusedVariables false
set_option linter.unusedSimpArgs false
namespace Go.Proofs.Ytoedeimpfbebpaa.VR
open Go
def taskIdx (ts : List Task) (no : Int) : Option Nat := ts.findIdx? fun t => decide (t.No = no)
theorem taskIdx_some {ts : List Task} {no : Int} {i : Nat} (h : taskIdx ts no = some i) : ∃ hi : i < ts.length, ts[i].No = no := by
  unfold taskIdx at h
  rw [List.findIdx?_eq_some_iff_getElem] at h
  obtain ⟨hi, h1, _⟩ := h
  exact ⟨hi, by simpa using h1⟩
theorem taskIdx_none {ts : List Task} {no : Int} (h : taskIdx ts no = none) : ∀ t ∈ ts, t.No ≠ no := by
  unfold taskIdx at h
  rw [List.findIdx?_eq_none_iff] at h
  intro t ht
  simpa using h t ht
theorem spec_TaskAt_eq {ts : List Task} {no : Int} {n : Nat} (hn : ts.length < n) (hb : ts.length ≤ lim) : f_spec_TaskAt n ts no = some (idx (taskIdx ts no), ()) := by
  unfold f_spec_TaskAt taskIdx
  have := find_loop (l := fun m i => l_spec_TaskAt_0 n m ts no i (fun w5 => some (w5, ())) (some (-1, ()))) (xs := ts) (p := fun t => decide (t.No = no)) (k0 := fun w5 => some (w5, ())) (k1 := some (-1, ()))
    (fun m => by simp only [l_spec_TaskAt_0, lt_f, cond_false])
    (fun m i hi => by simp only [l_spec_TaskAt_0, lt_t hi, ge_t, Bool.and_self, cond_true, getD_at hi, wsucc (Nat.lt_trans hi (lim_lm hb))]) (m := n) hn
  refine this.trans ?_
  cases ts.findIdx? fun t => decide (t.No = no) <;> rfl
theorem impl_TaskAt_eq {ts : List Task} {no : Int} {n : Nat} (hn : ts.length < n) (hb : ts.length ≤ lim) : f_impl_TaskAt n ts no = some (idx (taskIdx ts no), ()) := by
  have : f_slices_IndexFunc_Task_TaskAt_1 n ts no = some (idx (taskIdx ts no), ()) := by
    unfold f_slices_IndexFunc_Task_TaskAt_1 taskIdx
    have := find_loop (l := fun m i => l_slices_IndexFunc_Task_TaskAt_1_0 n m ts no (ts.length : Int) i (fun w5 => some (w5, ())) (some (-1, ()))) (xs := ts) (p := fun t => decide (t.No = no)) (k0 := fun w5 => some (w5, ())) (k1 := some (-1, ()))
      (fun m => by simp only [l_slices_IndexFunc_Task_TaskAt_1_0, lt_f, cond_false])
      (fun m i hi => by simp only [l_slices_IndexFunc_Task_TaskAt_1_0, f_impl_TaskAt_1, Option.bind_some, lt_t hi, ge_t, Bool.and_self, cond_true, getD_at hi, wsucc (Nat.lt_trans hi (lim_lm hb))]) (m := n) hn
    refine this.trans ?_
    cases ts.findIdx? fun t => decide (t.No = no) <;> rfl
  simp only [f_impl_TaskAt, this, Option.bind_some]
structure TasksOk (ts : List Task) : Prop where
  each : ∀ t ∈ ts, TaskOk t
  sorted : ts.Pairwise fun a b => a.No < b.No
  len : ts.length ≤ 12
theorem tasksOk_iff (ts : List Task) : TasksOk ts ↔ (∀ t ∈ ts, TaskOk t) ∧ (ts.Pairwise fun a b => a.No < b.No) ∧ ts.length ≤ 12 := ⟨fun h => ⟨h.1, h.2, h.3⟩, fun h => ⟨h.1, h.2.1, h.2.2⟩⟩
instance (ts : List Task) : Decidable (TasksOk ts) := decidable_of_iff _ (tasksOk_iff ts).symm
/-- What the row's test looks at, place by place. -/
def rowAt (ts : List Task) (i : Nat) : Prop := ∃ h : i < ts.length, TaskOk ts[i] ∧ (0 < i → ∃ h' : i - 1 < ts.length, ts[i - 1].No < ts[i].No)
theorem sorted_of : ∀ (ts : List Task), (∀ i (h : i + 1 < ts.length), ts[i].No < ts[i + 1].No) → ts.Pairwise fun a b => a.No < b.No
  | [], _ => List.Pairwise.nil
  | [a], _ => List.pairwise_singleton _ _
  | a :: b :: ts, h => by
    have ih := sorted_of (b :: ts) fun i hi => h (i + 1) (by simpa using hi)
    have hab : a.No < b.No := h 0 (by simp)
    refine List.pairwise_cons.2 ⟨fun x hx => ?_, ih⟩
    rcases List.mem_cons.1 hx with rfl | hx
    · exact hab
    · have := (List.pairwise_cons.1 ih).1 x hx; omega
theorem row_all {ts : List Task} : (∀ i, i < ts.length → rowAt ts i) ↔ (∀ t ∈ ts, TaskOk t) ∧ ts.Pairwise fun a b => a.No < b.No := by
  constructor
  · intro h
    refine ⟨fun t ht => ?_, sorted_of ts fun i hi => ?_⟩
    · obtain ⟨i, hi, rfl⟩ := List.getElem_of_mem ht
      exact (h i hi).2.1
    · obtain ⟨_, _, h2⟩ := h (i + 1) hi
      obtain ⟨_, h3⟩ := h2 (by omega)
      exact h3
  · rintro ⟨h1, h2⟩ i hi
    refine ⟨hi, h1 _ (List.getElem_mem hi), fun h0 => ⟨by omega, ?_⟩⟩
    exact List.pairwise_iff_getElem.1 h2 (i - 1) i (by omega) hi (by omega)
instance (ts : List Task) (i : Nat) : Decidable (rowAt ts i) := by unfold rowAt; infer_instance
theorem wpred {i : Nat} (h : i < lmax) (h0 : 0 < i) : w64 ((i : Int) - 1) = ((i - 1 : Nat) : Int) := by
  unfold lmax at h
  rw [w64_id (by omega) (by omega)]; omega
theorem row_res {ts : List Task} : (some (decide ((ts.length : Int) ≤ 12), ()) : Option (Bool × Unit)) = some (decide (ts.length ≤ 12), ()) := by
  congr 2; exact decide_eq_decide.2 (by omega)
theorem impl_TasksOk_eq {ts : List Task} {n : Nat} (hn : ts.length < n) (hb : ts.length ≤ lim) : f_impl_TasksOk n ts = some (decide (TasksOk ts), ()) := by
  unfold f_impl_TasksOk
  have hstep : ∀ (R k0 k1 : Option (Bool × Unit)) (m i : Nat), i < ts.length → l_impl_TasksOk_0 n (m + 1) ts ts (ts.length : Int) (i : Int) k0 k1 = if rowAt ts i then l_impl_TasksOk_0 n m ts ts (ts.length : Int) ((i + 1 : Nat) : Int) k0 k1 else k0 := by
    intro R k0 k1 m i hi
    have hil := Nat.lt_trans hi (lim_lm hb)
    by_cases ht : TaskOk ts[i]
    · by_cases h0 : 0 < i
      · have hp : i - 1 < ts.length := by omega
        have h0' : decide (0 < (i : Int)) = true := decide_eq_true (by omega)
        simp only [l_impl_TasksOk_0, lt_t hi, lt_t hp, ge_t, Bool.and_self, cond_true, getD_at hi, getD_at hp, impl_TaskOk_eq, Option.bind_some, decide_eq_true ht, Bool.not_true, cond_false, h0', wpred hil h0, wsucc hil, cond_dec]
        by_cases hno : ts[i].No ≤ ts[i - 1].No
        · rw [if_pos hno, if_neg]
          rintro ⟨_, _, h2⟩
          obtain ⟨_, h3⟩ := h2 h0
          omega
        · rw [if_neg hno, if_pos]
          exact ⟨hi, ht, fun _ => ⟨hp, by omega⟩⟩
      · have h0' : decide (0 < (i : Int)) = false := decide_eq_false (by omega)
        have hr : rowAt ts i := ⟨hi, ht, fun h => absurd h h0⟩
        simp only [l_impl_TasksOk_0, lt_t hi, ge_t, Bool.and_self, cond_true, getD_at hi, impl_TaskOk_eq, Option.bind_some, decide_eq_true ht, Bool.not_true, cond_false, h0', wsucc hil, if_pos hr]
    · have hr : ¬ rowAt ts i := fun ⟨_, h, _⟩ => ht h
      simp only [l_impl_TasksOk_0, lt_t hi, ge_t, Bool.and_self, cond_true, getD_at hi, impl_TaskOk_eq, Option.bind_some, decide_eq_false ht, Bool.not_false, if_neg hr]
  rw [row_res]
  by_cases hall : ∀ i, i < ts.length → rowAt ts i
  · have hd : decide (TasksOk ts) = decide (ts.length ≤ 12) := decide_eq_decide.2 ((tasksOk_iff ts).trans ⟨fun h => h.2.2, fun h => ⟨(row_all.1 hall).1, (row_all.1 hall).2, h⟩⟩)
    rw [hd]
    refine loop_to (l := fun m i => l_impl_TasksOk_0 n m ts ts (ts.length : Int) (i : Int) (some (false, ())) (some (decide (ts.length ≤ 12), ()))) (len := ts.length) (fun _ => True) trivial (fun m _ => ?_) (fun m i hi _ => .inl ⟨?_, trivial⟩) hn
    · simp only [l_impl_TasksOk_0, lt_f, cond_false]
    · rw [hstep none _ _ m i hi, if_pos (hall i hi)]
  · have hd : ¬ TasksOk ts := fun h => hall (row_all.2 ⟨h.each, h.sorted⟩)
    rw [decide_eq_false hd]
    refine loop_to (l := fun m i => l_impl_TasksOk_0 n m ts ts (ts.length : Int) (i : Int) (some (false, ())) (some (decide (ts.length ≤ 12), ()))) (len := ts.length) (fun i => ∀ j, j < i → rowAt ts j) (fun j h => absurd h (Nat.not_lt_zero j)) (fun m hI => absurd hI hall) (fun m i hi hI => ?_) hn
    rw [hstep none _ _ m i hi]
    by_cases hr : rowAt ts i
    · rw [if_pos hr]
      exact .inl ⟨rfl, fun j hj => by
        by_cases e : j = i
        · subst e; exact hr
        · exact hI j (by omega)⟩
    · rw [if_neg hr]; exact .inr rfl
theorem spec_TasksOk_eq {ts : List Task} {n : Nat} (hn : ts.length < n) (hb : ts.length ≤ lim) : f_spec_TasksOk n ts = some (decide (TasksOk ts), ()) := by
  unfold f_spec_TasksOk
  have hstep : ∀ (R k0 k1 : Option (Bool × Unit)) (m i : Nat), i < ts.length → l_spec_TasksOk_0 n (m + 1) ts (i : Int) k0 k1 = if rowAt ts i then l_spec_TasksOk_0 n m ts ((i + 1 : Nat) : Int) k0 k1 else k0 := by
    intro R k0 k1 m i hi
    have hil := Nat.lt_trans hi (lim_lm hb)
    by_cases ht : TaskOk ts[i]
    · by_cases h0 : 0 < i
      · have hp : i - 1 < ts.length := by omega
        have h0' : decide (0 < (i : Int)) = true := decide_eq_true (by omega)
        simp only [l_spec_TasksOk_0, lt_t hi, lt_t hp, ge_t, Bool.and_self, cond_true, getD_at hi, getD_at hp, spec_TaskOk_eq, Option.bind_some, decide_eq_true ht, Bool.not_true, cond_false, h0', wpred hil h0, wsucc hil, cond_dec]
        by_cases hno : ts[i].No ≤ ts[i - 1].No
        · rw [if_pos hno, if_neg]
          rintro ⟨_, _, h2⟩
          obtain ⟨_, h3⟩ := h2 h0
          omega
        · rw [if_neg hno, if_pos]
          exact ⟨hi, ht, fun _ => ⟨hp, by omega⟩⟩
      · have h0' : decide (0 < (i : Int)) = false := decide_eq_false (by omega)
        have hr : rowAt ts i := ⟨hi, ht, fun h => absurd h h0⟩
        simp only [l_spec_TasksOk_0, lt_t hi, ge_t, Bool.and_self, cond_true, getD_at hi, spec_TaskOk_eq, Option.bind_some, decide_eq_true ht, Bool.not_true, cond_false, h0', wsucc hil, if_pos hr]
    · have hr : ¬ rowAt ts i := fun ⟨_, h, _⟩ => ht h
      simp only [l_spec_TasksOk_0, lt_t hi, ge_t, Bool.and_self, cond_true, getD_at hi, spec_TaskOk_eq, Option.bind_some, decide_eq_false ht, Bool.not_false, if_neg hr]
  rw [row_res]
  by_cases hall : ∀ i, i < ts.length → rowAt ts i
  · have hd : decide (TasksOk ts) = decide (ts.length ≤ 12) := decide_eq_decide.2 ((tasksOk_iff ts).trans ⟨fun h => h.2.2, fun h => ⟨(row_all.1 hall).1, (row_all.1 hall).2, h⟩⟩)
    rw [hd]
    refine loop_to (l := fun m i => l_spec_TasksOk_0 n m ts (i : Int) (some (false, ())) (some (decide (ts.length ≤ 12), ()))) (len := ts.length) (fun _ => True) trivial (fun m _ => ?_) (fun m i hi _ => .inl ⟨?_, trivial⟩) hn
    · simp only [l_spec_TasksOk_0, lt_f, cond_false]
    · rw [hstep none _ _ m i hi, if_pos (hall i hi)]
  · have hd : ¬ TasksOk ts := fun h => hall (row_all.2 ⟨h.each, h.sorted⟩)
    rw [decide_eq_false hd]
    refine loop_to (l := fun m i => l_spec_TasksOk_0 n m ts (i : Int) (some (false, ())) (some (decide (ts.length ≤ 12), ()))) (len := ts.length) (fun i => ∀ j, j < i → rowAt ts j) (fun j h => absurd h (Nat.not_lt_zero j)) (fun m hI => absurd hI hall) (fun m i hi hI => ?_) hn
    rw [hstep none _ _ m i hi]
    by_cases hr : rowAt ts i
    · rw [if_pos hr]
      exact .inl ⟨rfl, fun j hj => by
        by_cases e : j = i
        · subst e; exact hr
        · exact hI j (by omega)⟩
    · rw [if_neg hr]; exact .inr rfl
/-! A system's parts that are only looked up. -/
def floorOn (s : Sys) (cpu : Int) : Int := if 0 ≤ cpu ∧ cpu ≤ (s.Floors.length : Int) - 1 then s.Floors.getD cpu.toNat 0 else 0
theorem floor_step {s : Sys} {cpu : Int} (hb : s.Floors.length ≤ lim) : (cond (!(decide (0 ≤ cpu ∧ cpu ≤ w64 ((s.Floors.length : Int) - 1)))) (some (0, ()))
   (cond ((decide (0 ≤ cpu)) && (decide (cpu < (s.Floors.length : Int)))) (some ((List.getD s.Floors (Int.toNat cpu) (Kd.dflt .int)), ())) none) : Option (Int × Unit)) = some (floorOn s cpu, ()) := by
  have : w64 ((s.Floors.length : Int) - 1) = (s.Floors.length : Int) - 1 := by unfold lim at hb; exact w64_id (by omega) (by omega)
  rw [this]
  unfold floorOn
  by_cases h : 0 ≤ cpu ∧ cpu ≤ (s.Floors.length : Int) - 1
  · have h1 : cpu < (s.Floors.length : Int) := by omega
    simp only [h, decide_eq_true h, Bool.not_true, cond_false, decide_eq_true h.1, decide_eq_true h1, Bool.and_self, cond_true, if_true, and_self]; rfl
  · simp [h]
theorem spec_FloorOn_eq {s : Sys} {cpu : Int} (hb : s.Floors.length ≤ lim) : f_spec_FloorOn s cpu = some (floorOn s cpu, ()) := by
  simp only [f_spec_FloorOn, spec_l1In_eq, Option.bind_some]; exact floor_step hb
theorem impl_FloorOn_eq {s : Sys} {cpu : Int} (hb : s.Floors.length ≤ lim) : f_impl_FloorOn s cpu = some (floorOn s cpu, ()) := by
  simp only [f_impl_FloorOn, impl_in_eq, Option.bind_some]; exact floor_step hb
end Go.Proofs.Ytoedeimpfbebpaa.VR
