/- The judges of what is due, fair, and of the turns. -/
import Derived.Test.YtjgkeaiibdodfaaGreatNk
import Derived.Test.YtjgkeaiibdodfaaGreatG09
set_option linter.unusedVariables false
set_option linter.unusedSimpArgs false
namespace Go.Proofs.YtjgkeaiibdodfaaGreat.VR
open Go
def judgeDue (s : Sys) : Bool := decide (SysOk s) && decide (s.Missed = 0)
theorem spec_JudgeDue_eq {s : Sys} {n : Nat} (h : SysB s) (hn : SN n) : f_spec_JudgeDue n s = some (judgeDue s, ()) := by
  simp only [f_spec_JudgeDue, spec_SysOk_eq h hn, Option.bind_some, judgeDue]
  cases decide (SysOk s) <;> rfl
theorem impl_JudgeDue_eq {s : Sys} {n : Nat} (h : SysB s) (hn : SN n) : f_impl_JudgeDue n s = some (judgeDue s, ()) := by
  simp only [f_impl_JudgeDue, impl_SysOk_eq h hn, Option.bind_some, judgeDue]
  cases decide (SysOk s) <;> rfl
def shortOf (s : Sys) (no : Int) : Int × Bool × Unit := if SysOk s then
    (match taskIdx s.Tasks no with
      | none => (0, false, ())
      | some i => if (s.Tasks.getD i (Kd.dflt .task)).Class = 1 then (w64 ((s.Tasks.getD i (Kd.dflt .task)).Left - w64 ((s.Tasks.getD i (Kd.dflt .task)).Due - s.Now)), true, ()) else (0, false, ()))
  else (0, false, ())
theorem SN.tasks {s : Sys} {n : Nat} (h : SysB s) (hn : SN n) : s.Tasks.length < n ∧ s.Tasks.length ≤ lim := by
  have := h.small.tasks
  have e1 : big = 1048576 := rfl
  have e2 : 10000000 ≤ lim := by unfold lim; omega
  unfold SN at hn
  omega
/-- One that shares fairly is no further than Scale's bound above its processor's floor. -/
def fairAt (s : Sys) (t : Task) : Bool := !decide (t.Class = 3) || (t.Idle || decide (0 ≤ t.V - s.Floors.getD t.Cpu.toNat 0 ∧ t.V - s.Floors.getD t.Cpu.toNat 0 ≤ 48))
def judgeFair (s : Sys) : Bool := decide (SysOk s) && s.Tasks.all (fairAt s)
theorem SysOk.floor {s : Sys} (h : SysOk s) {t : Task} (ht : t ∈ s.Tasks) : 0 ≤ t.Cpu ∧ t.Cpu < (s.Floors.length : Int) ∧ 0 ≤ s.Floors.getD t.Cpu.toNat 0 ∧ s.Floors.getD t.Cpu.toNat 0 ≤ 100000000 := by
  have h1 := (h.tasks.each t ht).cpu.1
  have h2 := h.tcpu t ht
  have h3 := h.flen
  have h4 : t.Cpu.toNat < s.Floors.length := by omega
  rw [getD_nat h4]
  exact ⟨h1, by omega, h.floors _ (List.getElem_mem h4)⟩
theorem task_v {t : Task} (h : TaskOk t) (hc : t.Class = 3) : 0 ≤ t.V ∧ t.V ≤ 100000000 := by
  rcases h.cls with h | h | h
  · have := h.cls; omega
  · have := h.cls; omega
  · exact h.v
theorem spec_JudgeFair_eq {s : Sys} {n : Nat} (h : SysB s) (hn : SN n) : f_spec_JudgeFair n s = some (judgeFair s, ()) := by
  obtain ⟨h1, h2⟩ := hn.tasks h
  simp only [f_spec_JudgeFair, spec_SysOk_eq h hn, Option.bind_some, judgeFair]
  by_cases hs : SysOk s
  · rw [decide_eq_true hs, Bool.not_true, cond_false, Bool.true_and]
    have := all_loop (l := fun m i => l_spec_JudgeFair_0 n m s i (some (false, ())) (some (true, ()))) (xs := s.Tasks) (p := fairAt s) (k0 := some (false, ())) (k1 := some (true, ()))
      (fun m => by simp only [l_spec_JudgeFair_0, lt_f, cond_false])
      (fun m i hi => by
        obtain ⟨f1, f2, f3, f4⟩ := hs.floor (List.getElem_mem hi)
        simp only [l_spec_JudgeFair_0, lt_t hi, ge_t, Bool.and_self, cond_true, getD_at hi, wsucc (Nat.lt_trans hi (lim_lm h2))]
        unfold fairAt
        by_cases hc : s.Tasks[i].Class = 3
        · have hv := task_v (hs.tasks.each _ (List.getElem_mem hi)) hc
          have e : w64 (s.Tasks[i].V - List.getD s.Floors (Int.toNat s.Tasks[i].Cpu) (Kd.dflt .int)) = s.Tasks[i].V - s.Floors.getD s.Tasks[i].Cpu.toNat 0 := w64_id (by change _ ≤ s.Tasks[i].V - s.Floors.getD s.Tasks[i].Cpu.toNat 0; omega) (by change s.Tasks[i].V - s.Floors.getD s.Tasks[i].Cpu.toNat 0 ≤ _; omega)
          rw [decide_eq_true hc, cond_true, decide_eq_true f1, decide_eq_true f2, Bool.and_self, cond_true, e]
          simp only [spec_l1In_eq, Option.bind_some]
          cases s.Tasks[i].Idle with
          | true => rfl
          | false => cases decide (0 ≤ s.Tasks[i].V - s.Floors.getD s.Tasks[i].Cpu.toNat 0 ∧ s.Tasks[i].V - s.Floors.getD s.Tasks[i].Cpu.toNat 0 ≤ 48) <;> rfl
        · rw [decide_eq_false hc]; rfl) (m := n) h1
    rw [this]
    cases s.Tasks.all (fairAt s) <;> rfl
  · rw [decide_eq_false hs]; rfl
theorem impl_JudgeFair_eq {s : Sys} {n : Nat} (h : SysB s) (hn : SN n) : f_impl_JudgeFair n s = some (judgeFair s, ()) := by
  obtain ⟨h1, h2⟩ := hn.tasks h
  simp only [f_impl_JudgeFair, impl_SysOk_eq h hn, Option.bind_some, judgeFair]
  by_cases hs : SysOk s
  · rw [decide_eq_true hs, cond_true, Bool.true_and]
    have c1 : f_slices_ContainsFunc_Task_JudgeFair_1 n s.Tasks s = some (s.Tasks.any fun t => !fairAt s t, ()) := by
      unfold f_slices_ContainsFunc_Task_JudgeFair_1 f_slices_IndexFunc_Task_JudgeFair_1
      have := find_loop (l := fun m i => l_slices_IndexFunc_Task_JudgeFair_1_0 n m s.Tasks s (s.Tasks.length : Int) i (fun w5 => some (w5, ())) (some (-1, ()))) (xs := s.Tasks) (p := fun t => !fairAt s t) (k0 := fun w5 => some (w5, ())) (k1 := some (-1, ()))
        (fun m => by simp only [l_slices_IndexFunc_Task_JudgeFair_1_0, lt_f, cond_false])
        (fun m i hi => by
          obtain ⟨f1, f2, f3, f4⟩ := hs.floor (List.getElem_mem hi)
          have hf : f_impl_JudgeFair_1 s.Tasks[i] s = some (!fairAt s s.Tasks[i], ()) := by
            unfold f_impl_JudgeFair_1 fairAt
            by_cases hc : s.Tasks[i].Class = 3
            · have hv := task_v (hs.tasks.each _ (List.getElem_mem hi)) hc
              have e : w64 (List.getD s.Floors (Int.toNat s.Tasks[i].Cpu) (Kd.dflt .int) + 48) = s.Floors.getD s.Tasks[i].Cpu.toNat 0 + 48 := w64_id (by change _ ≤ s.Floors.getD s.Tasks[i].Cpu.toNat 0 + 48; omega) (by change s.Floors.getD s.Tasks[i].Cpu.toNat 0 + 48 ≤ _; omega)
              rw [decide_eq_true hc, cond_true, decide_eq_true f1, decide_eq_true f2, Bool.and_self, cond_true, cond_true, e]
              simp only [impl_in_eq, Option.bind_some]
              cases s.Tasks[i].Idle with
              | true => rfl
              | false =>
                have : (decide (List.getD s.Floors (Int.toNat s.Tasks[i].Cpu) (Kd.dflt .int) ≤ s.Tasks[i].V ∧ s.Tasks[i].V ≤ s.Floors.getD s.Tasks[i].Cpu.toNat 0 + 48)) = decide (0 ≤ s.Tasks[i].V - s.Floors.getD s.Tasks[i].Cpu.toNat 0 ∧ s.Tasks[i].V - s.Floors.getD s.Tasks[i].Cpu.toNat 0 ≤ 48) := by
                  refine decide_eq_decide.2 ?_
                  change (s.Floors.getD s.Tasks[i].Cpu.toNat 0 ≤ s.Tasks[i].V ∧ _) ↔ _
                  omega
                rw [this]; rfl
            · rw [decide_eq_false hc]; rfl
          simp only [l_slices_IndexFunc_Task_JudgeFair_1_0, lt_t hi, ge_t, Bool.and_self, cond_true, getD_at hi, hf, Option.bind_some, wsucc (Nat.lt_trans hi (lim_lm h2))]) (m := n) h1
      rw [this]; exact contains_m _ _
    rw [c1, Option.bind_some]
    congr 2
    rw [Bool.eq_iff_iff]; simp [List.any_eq_false]
  · rw [decide_eq_false hs]; rfl
def turnAt (s : Sys) (i : Nat) : Bool := decide ((s.Trace.getD i (Kd.dflt .turn)).Cpu = Int.tmod (i : Int) s.Cpus) && (decide ((s.Trace.getD i (Kd.dflt .turn)).Context = 0) == decide ((s.Trace.getD i (Kd.dflt .turn)).Executor = 0))
def TurnsOk (s : Sys) : Prop := SysOk s ∧ Int.tmod (s.Trace.length : Int) s.Cpus = 0 ∧ ∀ i, i < s.Trace.length → turnAt s i = true
instance (s : Sys) : Decidable (TurnsOk s) := by unfold TurnsOk; infer_instance
theorem spec_JudgeTurns_eq {s : Sys} {n : Nat} (h : SysB s) (hn : SN n) : f_spec_JudgeTurns n s = some (decide (TurnsOk s), ()) := by
  have e1 : big = 1048576 := rfl
  have e2 : 10000000 ≤ lim := by unfold lim; omega
  have ht := h.small.trace
  simp only [f_spec_JudgeTurns, spec_SysOk_eq h hn, Option.bind_some]
  unfold SN at hn
  refine gate (P := SysOk s) (fun q => q.1) fun hs => ?_
  have hc0 : ¬ s.Cpus = 0 := by have := hs.cpus; omega
  rw [decide_eq_false hc0, cond_false]
  refine gate (P := Int.tmod (s.Trace.length : Int) s.Cpus = 0) (fun q => q.2.1) fun h0 => ?_
  have := loop_all (l := fun m i => l_spec_JudgeTurns_0 n m s (i : Int) (some (false, ())) (some (true, ()))) (len := s.Trace.length) (P := fun i => turnAt s i = true) (k0 := some (false, ())) (k1 := some (true, ()))
    (fun m => by simp only [l_spec_JudgeTurns_0, lt_f, cond_false])
    (fun m i hi => by
      simp only [l_spec_JudgeTurns_0, lt_t hi, ge_t, Bool.and_self, cond_true, decide_eq_false hc0, cond_false, Int.toNat_natCast, wsucc (Nat.lt_trans hi (lim_lm (show s.Trace.length ≤ lim by omega)))]
      unfold turnAt
      cases decide ((s.Trace.getD i (Kd.dflt .turn)).Cpu = Int.tmod (i : Int) s.Cpus) <;> cases decide ((s.Trace.getD i (Kd.dflt .turn)).Context = 0) <;> cases decide ((s.Trace.getD i (Kd.dflt .turn)).Executor = 0) <;> rfl) (m := n) (by omega)
  refine this.trans ?_
  by_cases ha : ∀ i, i < s.Trace.length → turnAt s i = true
  · rw [if_pos ha, decide_eq_true (p := TurnsOk s) ⟨hs, h0, ha⟩]
  · rw [if_neg ha, decide_eq_false (p := TurnsOk s) (fun q => ha q.2.2)]
theorem impl_JudgeTurns_eq {s : Sys} {n : Nat} (h : SysB s) (hn : SN n) : f_impl_JudgeTurns n s = some (decide (TurnsOk s), ()) := by
  have e1 : big = 1048576 := rfl
  have e2 : 10000000 ≤ lim := by unfold lim; omega
  have ht := h.small.trace
  simp only [f_impl_JudgeTurns, impl_SysOk_eq h hn, Option.bind_some]
  unfold SN at hn
  refine gate (P := SysOk s) (fun q => q.1) fun hs => ?_
  have hc0 : ¬ s.Cpus = 0 := by have := hs.cpus; omega
  rw [decide_eq_false hc0, cond_false]
  refine gate (P := Int.tmod (s.Trace.length : Int) s.Cpus = 0) (fun q => q.2.1) fun h0 => ?_
  have := loop_all (l := fun m i => l_impl_JudgeTurns_0 n m s s.Trace (s.Trace.length : Int) (i : Int) (some (false, ())) (some (true, ()))) (len := s.Trace.length) (P := fun i => turnAt s i = true) (k0 := some (false, ())) (k1 := some (true, ()))
    (fun m => by simp only [l_impl_JudgeTurns_0, lt_f, cond_false])
    (fun m i hi => by
      simp only [l_impl_JudgeTurns_0, lt_t hi, ge_t, Bool.and_self, cond_true, decide_eq_false hc0, cond_false, Int.toNat_natCast, wsucc (Nat.lt_trans hi (lim_lm (show s.Trace.length ≤ lim by omega)))]
      unfold turnAt
      cases decide ((s.Trace.getD i (Kd.dflt .turn)).Cpu = Int.tmod (i : Int) s.Cpus) <;> cases decide ((s.Trace.getD i (Kd.dflt .turn)).Context = 0) <;> cases decide ((s.Trace.getD i (Kd.dflt .turn)).Executor = 0) <;> rfl) (m := n) (by omega)
  refine this.trans ?_
  by_cases ha : ∀ i, i < s.Trace.length → turnAt s i = true
  · rw [if_pos ha, decide_eq_true (p := TurnsOk s) ⟨hs, h0, ha⟩]
  · rw [if_neg ha, decide_eq_false (p := TurnsOk s) (fun q => ha q.2.2)]
end Go.Proofs.YtjgkeaiibdodfaaGreat.VR
