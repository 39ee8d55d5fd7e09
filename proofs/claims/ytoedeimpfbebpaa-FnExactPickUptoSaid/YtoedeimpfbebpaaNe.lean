/- The trace: how many turns are so. -/
import Derived.Test.YtoedeimpfbebpaaNd
import Derived.Test.YtoedeimpfbebpaaK6
set_option linter.unusedVariables false
set_option linter.unusedSimpArgs false
namespace Go.Proofs.Ytoedeimpfbebpaa.VR
open Go
theorem dec_c {p : Prop} [Decidable p] {α : Type} (x y : α) (h : p) : cond (decide p) x y = x := by simp [h]
theorem dec_n {p : Prop} [Decidable p] {α : Type} (x y : α) (h : ¬ p) : cond (decide p) x y = y := by simp [h]
theorem not_dec_self {β : Type} [DecidableEq β] (x : β) {α : Type} (a b : α) : cond (!(decide (x = x))) a b = b := by simp
theorem szTurnS_cases (xs : List Turn) (h : xs.length ≤ big) : f_laws_szTurnS xs 1048576 = some (1048576 - (xs.length : Int), ()) := by
  unfold big at h
  simp only [f_laws_szTurnS]
  rw [w64_id (by omega) (by omega), dec_n]
  omega
def usedBy (xs : List Turn) (no : Int) : Int := if no < 1 then 0 else (xs.countP fun t => decide (t.Context = no) : Nat)
def tookBy (xs : List Turn) (no : Int) : Int := if no < 1 then 0 else (xs.countP fun t => decide (t.Executor = no) : Nat)
def idleOn (xs : List Turn) (cpu : Int) : Int := (xs.countP fun t => decide (t.Cpu = cpu) && decide (t.Context = 0) : Nat)

theorem spec_UsedBy_eq {xs : List Turn} {no : Int} {n : Nat} (hn : xs.length < n) (hb : xs.length ≤ lim) : f_spec_UsedBy n xs no = some (usedBy xs no, ()) := by
  unfold f_spec_UsedBy usedBy
  by_cases h0 : no < 1
  · rw [if_pos h0]
    have h1 : ¬ 0 < no := by omega
    refine loop_to (l := fun m i => l_spec_UsedBy_0 n m xs no 0 (i : Int) (fun w6 => some (w6, ()))) (len := xs.length) (fun _ => True) trivial (fun m _ => ?_) (fun m i hi _ => .inl ⟨?_, trivial⟩) hn
    · simp only [l_spec_UsedBy_0, lt_f, cond_false]
    · simp only [l_spec_UsedBy_0, lt_t hi, cond_true, decide_eq_false h1, cond_false, wsucc (Nat.lt_trans hi (lim_lmax hb))]
  · rw [if_neg h0]
    have h1 : 0 < no := by omega
    refine loop_to (l := fun m i => l_spec_UsedBy_0 n m xs no (((xs.take i).countP fun t => decide (t.Context = no) : Nat) : Int) (i : Int) (fun w6 => some (w6, ()))) (len := xs.length) (fun _ => True) trivial (fun m _ => ?_) (fun m i hi _ => .inl ⟨?_, trivial⟩) hn
    · simp only [l_spec_UsedBy_0, lt_f, cond_false, List.take_length]
    · have hc := count_le (fun t : Turn => decide (t.Context = no)) xs i
      simp only [l_spec_UsedBy_0, lt_t hi, cond_true, decide_eq_true h1, ge_t, Bool.and_self, getD_at hi, wsucc (Nat.lt_trans hi (lim_lmax hb)), count_take _ hi, wsucc (Nat.lt_of_le_of_lt hc (Nat.lt_trans hi (lim_lmax hb)))]
      cases decide (xs[i].Context = no) <;> rfl
theorem impl_turnsOf_UsedBy_eq {xs : List Turn} {no : Int} {n : Nat} (hn : xs.length < n) (hb : xs.length ≤ lim) : f_impl_turnsOf_UsedBy_1 n xs no = some (((xs.countP fun t => decide (t.Context = no) : Nat) : Int), ()) := by
  unfold f_impl_turnsOf_UsedBy_1
  refine loop_to (l := fun m i => l_impl_turnsOf_UsedBy_1_0 n m no (((xs.take i).countP fun t => decide (t.Context = no) : Nat) : Int) xs (xs.length : Int) (i : Int) (fun w7 => some (w7, ()))) (len := xs.length) (fun _ => True) trivial (fun m _ => ?_) (fun m i hi _ => .inl ⟨?_, trivial⟩) hn
  · simp only [l_impl_turnsOf_UsedBy_1_0, lt_f, cond_false, List.take_length]
  · have hc := count_le (fun t : Turn => decide (t.Context = no)) xs i
    simp only [l_impl_turnsOf_UsedBy_1_0, f_impl_UsedBy_1, Option.bind_some, lt_t hi, cond_true, ge_t, Bool.and_self, getD_at hi, wsucc (Nat.lt_trans hi (lim_lmax hb)), count_take _ hi, wsucc (Nat.lt_of_le_of_lt hc (Nat.lt_trans hi (lim_lmax hb)))]
    cases decide (xs[i].Context = no) <;> rfl
theorem impl_UsedBy_eq {xs : List Turn} {no : Int} {n : Nat} (hn : xs.length < n) (hb : xs.length ≤ lim) : f_impl_UsedBy n xs no = some (usedBy xs no, ()) := by
  unfold f_impl_UsedBy usedBy
  rw [cond_dec, impl_turnsOf_UsedBy_eq hn hb]
  split <;> rfl
theorem spec_TookBy_eq {xs : List Turn} {no : Int} {n : Nat} (hn : xs.length < n) (hb : xs.length ≤ lim) : f_spec_TookBy n xs no = some (tookBy xs no, ()) := by
  unfold f_spec_TookBy tookBy
  by_cases h0 : no < 1
  · rw [if_pos h0]
    have h1 : ¬ 0 < no := by omega
    refine loop_to (l := fun m i => l_spec_TookBy_0 n m xs no 0 (i : Int) (fun w6 => some (w6, ()))) (len := xs.length) (fun _ => True) trivial (fun m _ => ?_) (fun m i hi _ => .inl ⟨?_, trivial⟩) hn
    · simp only [l_spec_TookBy_0, lt_f, cond_false]
    · simp only [l_spec_TookBy_0, lt_t hi, cond_true, decide_eq_false h1, cond_false, wsucc (Nat.lt_trans hi (lim_lmax hb))]
  · rw [if_neg h0]
    have h1 : 0 < no := by omega
    refine loop_to (l := fun m i => l_spec_TookBy_0 n m xs no (((xs.take i).countP fun t => decide (t.Executor = no) : Nat) : Int) (i : Int) (fun w6 => some (w6, ()))) (len := xs.length) (fun _ => True) trivial (fun m _ => ?_) (fun m i hi _ => .inl ⟨?_, trivial⟩) hn
    · simp only [l_spec_TookBy_0, lt_f, cond_false, List.take_length]
    · have hc := count_le (fun t : Turn => decide (t.Executor = no)) xs i
      simp only [l_spec_TookBy_0, lt_t hi, cond_true, decide_eq_true h1, ge_t, Bool.and_self, getD_at hi, wsucc (Nat.lt_trans hi (lim_lmax hb)), count_take _ hi, wsucc (Nat.lt_of_le_of_lt hc (Nat.lt_trans hi (lim_lmax hb)))]
      cases decide (xs[i].Executor = no) <;> rfl
theorem impl_turnsOf_TookBy_eq {xs : List Turn} {no : Int} {n : Nat} (hn : xs.length < n) (hb : xs.length ≤ lim) : f_impl_turnsOf_TookBy_1 n xs no = some (((xs.countP fun t => decide (t.Executor = no) : Nat) : Int), ()) := by
  unfold f_impl_turnsOf_TookBy_1
  refine loop_to (l := fun m i => l_impl_turnsOf_TookBy_1_0 n m no (((xs.take i).countP fun t => decide (t.Executor = no) : Nat) : Int) xs (xs.length : Int) (i : Int) (fun w7 => some (w7, ()))) (len := xs.length) (fun _ => True) trivial (fun m _ => ?_) (fun m i hi _ => .inl ⟨?_, trivial⟩) hn
  · simp only [l_impl_turnsOf_TookBy_1_0, lt_f, cond_false, List.take_length]
  · have hc := count_le (fun t : Turn => decide (t.Executor = no)) xs i
    simp only [l_impl_turnsOf_TookBy_1_0, f_impl_TookBy_1, Option.bind_some, lt_t hi, cond_true, ge_t, Bool.and_self, getD_at hi, wsucc (Nat.lt_trans hi (lim_lmax hb)), count_take _ hi, wsucc (Nat.lt_of_le_of_lt hc (Nat.lt_trans hi (lim_lmax hb)))]
    cases decide (xs[i].Executor = no) <;> rfl
theorem impl_TookBy_eq {xs : List Turn} {no : Int} {n : Nat} (hn : xs.length < n) (hb : xs.length ≤ lim) : f_impl_TookBy n xs no = some (tookBy xs no, ()) := by
  unfold f_impl_TookBy tookBy
  rw [cond_dec, impl_turnsOf_TookBy_eq hn hb]
  split <;> rfl
theorem spec_IdleOn_eq {xs : List Turn} {cpu : Int} {n : Nat} (hn : xs.length < n) (hb : xs.length ≤ lim) : f_spec_IdleOn n xs cpu = some (idleOn xs cpu, ()) := by
  unfold f_spec_IdleOn idleOn
  refine loop_to (l := fun m i => l_spec_IdleOn_0 n m xs cpu (((xs.take i).countP fun t => decide (t.Cpu = cpu) && decide (t.Context = 0) : Nat) : Int) (i : Int) (fun w7 => some (w7, ()))) (len := xs.length) (fun _ => True) trivial (fun m _ => ?_) (fun m i hi _ => .inl ⟨?_, trivial⟩) hn
  · simp only [l_spec_IdleOn_0, lt_f, cond_false, List.take_length]
  · have hc := count_le (fun t : Turn => decide (t.Cpu = cpu) && decide (t.Context = 0)) xs i
    simp only [l_spec_IdleOn_0, lt_t hi, cond_true, ge_t, Bool.and_self, getD_at hi, wsucc (Nat.lt_trans hi (lim_lmax hb)), count_take _ hi, wsucc (Nat.lt_of_le_of_lt hc (Nat.lt_trans hi (lim_lmax hb)))]
    cases decide (xs[i].Cpu = cpu) <;> cases decide (xs[i].Context = 0) <;> rfl
theorem impl_turnsOf_IdleOn_eq {xs : List Turn} {cpu : Int} {n : Nat} (hn : xs.length < n) (hb : xs.length ≤ lim) : f_impl_turnsOf_IdleOn_1 n xs cpu = some (idleOn xs cpu, ()) := by
  unfold f_impl_turnsOf_IdleOn_1 idleOn
  refine loop_to (l := fun m i => l_impl_turnsOf_IdleOn_1_0 n m cpu (((xs.take i).countP fun t => decide (t.Cpu = cpu) && decide (t.Context = 0) : Nat) : Int) xs (xs.length : Int) (i : Int) (fun w7 => some (w7, ()))) (len := xs.length) (fun _ => True) trivial (fun m _ => ?_) (fun m i hi _ => .inl ⟨?_, trivial⟩) hn
  · simp only [l_impl_turnsOf_IdleOn_1_0, lt_f, cond_false, List.take_length]
  · have hc := count_le (fun t : Turn => decide (t.Cpu = cpu) && decide (t.Context = 0)) xs i
    simp only [l_impl_turnsOf_IdleOn_1_0, f_impl_IdleOn_1, cond_some, Option.bind_some, lt_t hi, cond_true, ge_t, Bool.and_self, getD_at hi, wsucc (Nat.lt_trans hi (lim_lmax hb)), count_take _ hi, wsucc (Nat.lt_of_le_of_lt hc (Nat.lt_trans hi (lim_lmax hb)))]
    cases decide (xs[i].Cpu = cpu) <;> cases decide (xs[i].Context = 0) <;> rfl
theorem impl_IdleOn_eq {xs : List Turn} {cpu : Int} {n : Nat} (hn : xs.length < n) (hb : xs.length ≤ lim) : f_impl_IdleOn n xs cpu = some (idleOn xs cpu, ()) := by
  simp only [f_impl_IdleOn, impl_turnsOf_IdleOn_eq hn hb, Option.bind_some]
theorem big_lim {n : Nat} (h : n ≤ big) : n ≤ lim := by unfold big at h; unfold lim; omega
theorem law_FnExactUsedBy (xs : List Turn) (no : Int) (hx : wfL .turn xs) (hno : i64ok no) : ∃ n, f_laws_FnExactUsedBy n xs no = some (true, ()) := by
  have hb := hx.1
  have hl := big_lim hb
  refine ⟨xs.length + 1, ?_⟩
  have hn : xs.length < xs.length + 1 := Nat.lt_succ_self _
  have h2 : ¬ (1048576 - (xs.length : Int) < 0) := by unfold big at hb; omega
  simp only [f_laws_FnExactUsedBy, szTurnS_cases xs hb, Option.bind_some, decide_eq_false h2, cond_false, laws_toTurnS_eq hn hl, spec_UsedBy_eq hn hl, impl_UsedBy_eq hn hl, not_dec_self, laws_eqTurnS_eq hn hl, decide_true, Bool.not_true]
theorem law_FnExactTookBy (xs : List Turn) (no : Int) (hx : wfL .turn xs) (hno : i64ok no) : ∃ n, f_laws_FnExactTookBy n xs no = some (true, ()) := by
  have hb := hx.1
  have hl := big_lim hb
  refine ⟨xs.length + 1, ?_⟩
  have hn : xs.length < xs.length + 1 := Nat.lt_succ_self _
  have h2 : ¬ (1048576 - (xs.length : Int) < 0) := by unfold big at hb; omega
  simp only [f_laws_FnExactTookBy, szTurnS_cases xs hb, Option.bind_some, decide_eq_false h2, cond_false, laws_toTurnS_eq hn hl, spec_TookBy_eq hn hl, impl_TookBy_eq hn hl, not_dec_self, laws_eqTurnS_eq hn hl, decide_true, Bool.not_true]
theorem law_FnExactIdleOn (xs : List Turn) (no : Int) (hx : wfL .turn xs) (hno : i64ok no) : ∃ n, f_laws_FnExactIdleOn n xs no = some (true, ()) := by
  have hb := hx.1
  have hl := big_lim hb
  refine ⟨xs.length + 1, ?_⟩
  have hn : xs.length < xs.length + 1 := Nat.lt_succ_self _
  have h2 : ¬ (1048576 - (xs.length : Int) < 0) := by unfold big at hb; omega
  simp only [f_laws_FnExactIdleOn, szTurnS_cases xs hb, Option.bind_some, decide_eq_false h2, cond_false, laws_toTurnS_eq hn hl, spec_IdleOn_eq hn hl, impl_IdleOn_eq hn hl, not_dec_self, laws_eqTurnS_eq hn hl, decide_true, Bool.not_true]
end Go.Proofs.Ytoedeimpfbebpaa.VR
