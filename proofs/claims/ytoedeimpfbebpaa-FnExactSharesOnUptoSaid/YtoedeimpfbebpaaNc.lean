/- Parts of time, tasks: what is right; who is before whom. -/
import Derived.Test.YtoedeimpfbebpaaNa
import Derived.Test.YtoedeimpfbebpaaG10
set_option linter.unusedVariables false
set_option linter.unusedSimpArgs false
namespace Go.Proofs.Ytoedeimpfbebpaa.VR
open Go
def ShareOk (s : Share) : Prop := (1 ≤ s.P ∧ s.P ≤ 40) ∧ 1 ≤ s.Q ∧ s.Q ≤ s.P
instance (s : Share) : Decidable (ShareOk s) := by unfold ShareOk; infer_instance
def NiceOk (n : Int) : Prop := -4 ≤ n ∧ n ≤ 4
instance (n : Int) : Decidable (NiceOk n) := by unfold NiceOk; infer_instance
structure DueOk (t : Task) : Prop where
  cls : t.Class = 1
  share : (1 ≤ t.P ∧ t.P ≤ 40) ∧ 1 ≤ t.Q ∧ t.Q ≤ t.P
  left : 0 ≤ t.Left ∧ t.Left ≤ t.Q
  due : 0 ≤ t.Due ∧ t.Due ≤ 100040
  z : t.Prio = 0 ∧ t.Round = 0 ∧ t.Seq = 0 ∧ t.Nice = 0 ∧ t.V = 0
structure FixedOk (t : Task) : Prop where
  cls : t.Class = 2
  prio : 1 ≤ t.Prio ∧ t.Prio ≤ 20
  round : 0 ≤ t.Round ∧ t.Round ≤ 10
  left : (1 ≤ t.Left ∨ t.Left = 0 ∧ t.Round = 0) ∧ t.Left ≤ t.Round
  seq : 0 ≤ t.Seq ∧ t.Seq ≤ 1000000
  z : t.Q = 0 ∧ t.P = 0 ∧ t.Due = 0 ∧ t.Nice = 0 ∧ t.V = 0
structure FairOk (t : Task) : Prop where
  cls : t.Class = 3
  nice : -4 ≤ t.Nice ∧ t.Nice ≤ 4
  v : 0 ≤ t.V ∧ t.V ≤ 100000000
  z : t.Q = 0 ∧ t.P = 0 ∧ t.Due = 0 ∧ t.Prio = 0 ∧ t.Round = 0 ∧ t.Seq = 0 ∧ t.Left = 0
structure TaskOk (t : Task) : Prop where
  no : 1 ≤ t.No ∧ t.No ≤ 1000
  cpu : 0 ≤ t.Cpu ∧ t.Cpu ≤ 3
  state : t.State = 1 ∨ t.State = 2
  cls : DueOk t ∨ FixedOk t ∨ FairOk t
theorem dueOk_iff (t : Task) : DueOk t ↔ t.Class = 1 ∧ ((1 ≤ t.P ∧ t.P ≤ 40) ∧ 1 ≤ t.Q ∧ t.Q ≤ t.P) ∧ (0 ≤ t.Left ∧ t.Left ≤ t.Q) ∧ (0 ≤ t.Due ∧ t.Due ≤ 100040) ∧ (t.Prio = 0 ∧ t.Round = 0 ∧ t.Seq = 0 ∧ t.Nice = 0 ∧ t.V = 0) :=
  ⟨fun h => ⟨h.1, h.2, h.3, h.4, h.5⟩, fun h => ⟨h.1, h.2.1, h.2.2.1, h.2.2.2.1, h.2.2.2.2⟩⟩
theorem fixedOk_iff (t : Task) : FixedOk t ↔ t.Class = 2 ∧ (1 ≤ t.Prio ∧ t.Prio ≤ 20) ∧ (0 ≤ t.Round ∧ t.Round ≤ 10) ∧ ((1 ≤ t.Left ∨ t.Left = 0 ∧ t.Round = 0) ∧ t.Left ≤ t.Round) ∧ (0 ≤ t.Seq ∧ t.Seq ≤ 1000000) ∧ (t.Q = 0 ∧ t.P = 0 ∧ t.Due = 0 ∧ t.Nice = 0 ∧ t.V = 0) :=
  ⟨fun h => ⟨h.1, h.2, h.3, h.4, h.5, h.6⟩, fun h => ⟨h.1, h.2.1, h.2.2.1, h.2.2.2.1, h.2.2.2.2.1, h.2.2.2.2.2⟩⟩
theorem fairOk_iff (t : Task) : FairOk t ↔ t.Class = 3 ∧ (-4 ≤ t.Nice ∧ t.Nice ≤ 4) ∧ (0 ≤ t.V ∧ t.V ≤ 100000000) ∧ (t.Q = 0 ∧ t.P = 0 ∧ t.Due = 0 ∧ t.Prio = 0 ∧ t.Round = 0 ∧ t.Seq = 0 ∧ t.Left = 0) :=
  ⟨fun h => ⟨h.1, h.2, h.3, h.4⟩, fun h => ⟨h.1, h.2.1, h.2.2.1, h.2.2.2⟩⟩
instance (t : Task) : Decidable (DueOk t) := decidable_of_iff _ (dueOk_iff t).symm
instance (t : Task) : Decidable (FixedOk t) := decidable_of_iff _ (fixedOk_iff t).symm
instance (t : Task) : Decidable (FairOk t) := decidable_of_iff _ (fairOk_iff t).symm
theorem taskOk_iff (t : Task) : TaskOk t ↔ (1 ≤ t.No ∧ t.No ≤ 1000) ∧ (0 ≤ t.Cpu ∧ t.Cpu ≤ 3) ∧ (t.State = 1 ∨ t.State = 2) ∧ (DueOk t ∨ FixedOk t ∨ FairOk t) :=
  ⟨fun h => ⟨h.1, h.2, h.3, h.4⟩, fun h => ⟨h.1, h.2.1, h.2.2.1, h.2.2.2⟩⟩
instance (t : Task) : Decidable (TaskOk t) := decidable_of_iff _ (taskOk_iff t).symm
theorem impl_in_eq (a b c : Int) : f_impl_in a b c = some (decide (b ≤ a ∧ a ≤ c), ()) := by
  simp only [f_impl_in, cond_some]; exact some_iff (by simp [cond_iff])
theorem spec_l1In_eq (a b c : Int) : f_spec_l1In a b c = some (decide (b ≤ a ∧ a ≤ c), ()) := by
  simp only [f_spec_l1In, cond_some]; exact some_iff (by simp [cond_iff])
theorem impl_isNo_eq (a : Int) : f_impl_isNo a = some (decide (1 ≤ a ∧ a ≤ 1000), ()) := by simp only [f_impl_isNo, impl_in_eq, Option.bind_some]
theorem impl_isTime_eq (a : Int) : f_impl_isTime a = some (decide (0 ≤ a ∧ a ≤ 100000), ()) := by simp only [f_impl_isTime, impl_in_eq, Option.bind_some]
theorem impl_isUntil_eq (a : Int) : f_impl_isUntil a = some (decide (0 ≤ a ∧ a ≤ 100040), ()) := by simp only [f_impl_isUntil, impl_in_eq, Option.bind_some]
theorem impl_isSeq_eq (a : Int) : f_impl_isSeq a = some (decide (0 ≤ a ∧ a ≤ 1000000), ()) := by simp only [f_impl_isSeq, impl_in_eq, Option.bind_some]
theorem impl_NiceOk_eq (a : Int) : f_impl_NiceOk a = some (decide (NiceOk a), ()) := by simp only [f_impl_NiceOk, impl_in_eq, Option.bind_some, NiceOk]
theorem spec_NiceOk_eq (a : Int) : f_spec_NiceOk a = some (decide (NiceOk a), ()) := by simp only [f_spec_NiceOk, spec_l1In_eq, Option.bind_some, NiceOk]
theorem impl_ShareOk_eq (s : Share) : f_impl_ShareOk s = some (decide (ShareOk s), ()) := by
  simp only [f_impl_ShareOk, impl_in_eq, Option.bind_some, cond_some]; exact some_iff (by simp [cond_iff, ShareOk])
theorem spec_ShareOk_eq (s : Share) : f_spec_ShareOk s = some (decide (ShareOk s), ()) := by
  simp only [f_spec_ShareOk, spec_l1In_eq, Option.bind_some, cond_some]; exact some_iff (by simp [cond_iff, ShareOk])
theorem spec_l1Min_eq (a b : Int) : f_spec_l1Min a b = some (if a < b then a else b, ()) := by
  simp only [f_spec_l1Min, cond_dec]; split <;> rfl
theorem impl_TaskOk_eq (t : Task) : f_impl_TaskOk t = some (decide (TaskOk t), ()) := by
  simp only [f_impl_TaskOk, impl_isNo_eq, impl_in_eq, impl_ShareOk_eq, impl_isUntil_eq, impl_isSeq_eq, impl_NiceOk_eq, Option.bind_some, cond_some]
  refine some_iff ?_
  rw [taskOk_iff, dueOk_iff, fixedOk_iff, fairOk_iff]
  by_cases s1 : t.State = 1 <;> by_cases s2 : t.State = 2
  · omega
  all_goals
    by_cases h1 : t.Class = 1
    · simp [cond_iff, h1, s1, s2] <;> (try simp only [ShareOk]) <;> first | omega | (intros; trivial)
    · by_cases h2 : t.Class = 2
      · by_cases hr : t.Round < 1
        · simp [cond_iff, h2, s1, s2, hr] <;> omega
        · simp [cond_iff, h2, s1, s2, hr] <;> omega
      · by_cases h3 : t.Class = 3
        · simp [cond_iff, h3, s1, s2] <;> (try simp only [NiceOk]) <;> first | omega | (intros; trivial)
        · simp [cond_iff, h1, h2, h3, s1, s2] <;> omega
theorem spec_l3Clean_eq (t : Task) : f_spec_l3Clean t = some (decide (
    (t.Class = 1 → t.Prio = 0 ∧ t.Round = 0 ∧ t.Seq = 0 ∧ t.Nice = 0 ∧ t.V = 0) ∧ (t.Class = 2 → t.Q = 0 ∧ t.P = 0 ∧ t.Due = 0 ∧ t.Nice = 0 ∧ t.V = 0) ∧
    (t.Class ≠ 1 → t.Class ≠ 2 → t.Q = 0 ∧ t.P = 0 ∧ t.Due = 0 ∧ t.Prio = 0 ∧ t.Round = 0 ∧ t.Seq = 0 ∧ t.Left = 0)), ()) := by
  simp only [f_spec_l3Clean, cond_some]
  refine some_iff ?_
  by_cases h1 : t.Class = 1
  · by_cases a : t.Prio = 0 <;> by_cases b : t.Round = 0 <;> by_cases c : t.Nice = 0 <;> by_cases d : t.Q = 0 <;> by_cases e : t.P = 0 <;> simp [cond_iff, h1, a, b, c, d, e]
  · by_cases h2 : t.Class = 2
    · by_cases a : t.Prio = 0 <;> by_cases b : t.Round = 0 <;> by_cases c : t.Nice = 0 <;> by_cases d : t.Q = 0 <;> by_cases e : t.P = 0 <;> simp [cond_iff, h2, a, b, c, d, e]
    · by_cases a : t.Prio = 0 <;> by_cases b : t.Round = 0 <;> by_cases c : t.Nice = 0 <;> by_cases d : t.Q = 0 <;> by_cases e : t.P = 0 <;> simp [cond_iff, h1, h2, a, b, c, d, e]
theorem spec_TaskOk_eq (t : Task) : f_spec_TaskOk t = some (decide (TaskOk t), ()) := by
  simp only [f_spec_TaskOk, spec_l1In_eq, spec_ShareOk_eq, spec_NiceOk_eq, spec_l3Clean_eq, spec_l1Min_eq, Option.bind_some, cond_some]
  refine some_iff ?_
  rw [taskOk_iff, dueOk_iff, fixedOk_iff, fairOk_iff]
  by_cases s1 : t.State = 1 <;> by_cases s2 : t.State = 2
  · omega
  all_goals
    by_cases h1 : t.Class = 1
    · simp [cond_iff, h1, s1, s2] <;> (try simp only [ShareOk]) <;> first | omega | (intros; trivial)
    · by_cases h2 : t.Class = 2
      · by_cases hr : t.Round < 1
        · simp [cond_iff, h2, s1, s2, hr] <;> omega
        · simp [cond_iff, h2, s1, s2, hr] <;> omega
      · by_cases h3 : t.Class = 3
        · simp [cond_iff, h3, s1, s2] <;> (try simp only [NiceOk]) <;> first | omega | (intros; trivial)
        · simp [cond_iff, h1, h2, h3, s1, s2] <;> omega
/-! Who is before whom. -/
structure Before (a b : Task) : Prop where
  l : TaskOk a
  r : TaskOk b
  lt : a.Class < b.Class ∨ a.Class = b.Class ∧ ((a.Class = 1 ∧ (a.Due < b.Due ∨ a.Due = b.Due ∧ a.No < b.No)) ∨
    (a.Class = 2 ∧ (b.Prio < a.Prio ∨ a.Prio = b.Prio ∧ (a.Seq < b.Seq ∨ a.Seq = b.Seq ∧ a.No < b.No))) ∨ (a.Class = 3 ∧ (a.V < b.V ∨ a.V = b.V ∧ a.No < b.No)))
theorem before_iff (a b : Task) : Before a b ↔ TaskOk a ∧ TaskOk b ∧ (a.Class < b.Class ∨ a.Class = b.Class ∧ ((a.Class = 1 ∧ (a.Due < b.Due ∨ a.Due = b.Due ∧ a.No < b.No)) ∨
    (a.Class = 2 ∧ (b.Prio < a.Prio ∨ a.Prio = b.Prio ∧ (a.Seq < b.Seq ∨ a.Seq = b.Seq ∧ a.No < b.No))) ∨ (a.Class = 3 ∧ (a.V < b.V ∨ a.V = b.V ∧ a.No < b.No)))) :=
  ⟨fun h => ⟨h.1, h.2, h.3⟩, fun h => ⟨h.1, h.2.1, h.2.2⟩⟩
instance (a b : Task) : Decidable (Before a b) := decidable_of_iff _ (before_iff a b).symm
theorem TaskOk.class {t : Task} (h : TaskOk t) : t.Class = 1 ∨ t.Class = 2 ∨ t.Class = 3 := by
  rcases h.cls with h | h | h
  · exact .inl h.cls
  · exact .inr (.inl h.cls)
  · exact .inr (.inr h.cls)
theorem impl_Before_eq (a b : Task) : f_impl_Before a b = some (decide (Before a b), ()) := by
  by_cases ha : TaskOk a
  · by_cases hb : TaskOk b
    · simp only [f_impl_Before, f_impl_DueBefore, f_impl_FixedBefore, f_impl_FairBefore, f_impl_isDue, f_impl_isFixed, f_impl_isFair, impl_TaskOk_eq, ha, hb, decide_true, Bool.not_true, cond_false, Option.bind_some, cond_some]
      refine some_iff ?_
      rw [before_iff]
      rcases ha.class with h1 | h1 | h1 <;> rcases hb.class with h2 | h2 | h2 <;> simp [cond_iff, ha, hb, h1, h2] <;>
        first | omega | (by_cases e1 : a.Prio = b.Prio <;> by_cases e2 : a.Seq = b.Seq <;> simp [e1, e2] <;> omega) | (intros; trivial)
    · simp [f_impl_Before, impl_TaskOk_eq, before_iff, hb]
  · simp [f_impl_Before, impl_TaskOk_eq, before_iff, ha]
theorem spec_Before_eq (a b : Task) : f_spec_Before a b = some (decide (Before a b), ()) := by
  by_cases ha : TaskOk a
  · by_cases hb : TaskOk b
    · simp only [f_spec_Before, f_spec_DueBefore, f_spec_FixedBefore, f_spec_FairBefore, f_spec_l4Due, f_spec_l5Fixed, f_spec_l6Fair, spec_TaskOk_eq, ha, hb, decide_true, Bool.not_true, cond_false, cond_true, Option.bind_some, cond_some]
      refine some_iff ?_
      rw [before_iff]
      rcases ha.class with h1 | h1 | h1 <;> rcases hb.class with h2 | h2 | h2 <;> simp [cond_iff, ha, hb, h1, h2] <;>
        first | omega | (by_cases e1 : a.Prio = b.Prio <;> by_cases e2 : a.Seq = b.Seq <;> simp [e1, e2] <;> omega) | (intros; trivial)
    · simp [f_spec_Before, spec_TaskOk_eq, before_iff, hb]
  · simp [f_spec_Before, spec_TaskOk_eq, before_iff, ha]
end Go.Proofs.Ytoedeimpfbebpaa.VR
