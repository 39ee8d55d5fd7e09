/- The judges of the best, of who runs alone, of all. -/
import Derived.Test.YtjgkeaiibdodfaaGreatNl
import Derived.Test.YtjgkeaiibdodfaaGreatG09
set_option linter.unusedVariables false
set_option linter.unusedSimpArgs false
namespace Go.Proofs.YtjgkeaiibdodfaaGreat.VR
open Go
def notBefore (ob : Option Task) (t : Task) : Bool := match ob with
  | none => false
  | some b => !decide (Before t b)
def bestAt (s : Sys) (t : Task) : Bool := !canR s.Tasks s.Locks t.No || notBefore (bestT (turners s.Tasks s.Locks t.Cpu)) t
def judgeBest (s : Sys) : Bool := decide (SysOk s) && s.Tasks.all (bestAt s)
theorem bestT_none {l : List Task} (h : bestT l = none) : l = [] := by
  have : ∀ (l : List Task) (b : Task), ∃ c, l.foldl betterT (some b) = some c := by
    intro l
    induction l with
    | nil => exact fun b => ⟨b, rfl⟩
    | cons x l ih =>
      intro b
      rw [List.foldl_cons]
      unfold betterT
      simp only
      split
      · exact ih x
      · exact ih b
  cases l with
  | nil => rfl
  | cons x l =>
    obtain ⟨c, hc⟩ := this l x
    unfold bestT at h
    rw [List.foldl_cons] at h
    change l.foldl betterT (some x) = none at h
    rw [hc] at h; cases h
theorem SN.tl {s : Sys} {n : Nat} (hn : SN n) : big + 2 < n ∧ big + 2 ≤ lim := by
  have e1 : big = 1048576 := rfl
  have e2 : 10000000 ≤ lim := by unfold lim; omega
  unfold SN at hn
  omega
theorem spec_JudgeBest_eq {s : Sys} {n : Nat} (h : SysB s) (hn : SN n) : f_spec_JudgeBest n s = some (judgeBest s, ()) := by
  obtain ⟨h1, h2⟩ := hn.tasks h
  obtain ⟨t1, t2⟩ := hn.tl (s := s)
  simp only [f_spec_JudgeBest, spec_SysOk_eq h hn, Option.bind_some, judgeBest]
  by_cases hs : SysOk s
  · rw [decide_eq_true hs, Bool.not_true, cond_false, Bool.true_and]
    have hcr : ∀ no, canR s.Tasks s.Locks no = canTurn s.Tasks s.Locks no := fun no => by
      unfold canR; rw [decide_eq_true (And.intro hs.tasks hs.locks.2.1), Bool.true_and]
    have := all_loop (l := fun m i => l_spec_JudgeBest_0 n m s i (some (false, ())) (some (true, ()))) (xs := s.Tasks) (p := bestAt s) (k0 := some (false, ())) (k1 := some (true, ()))
      (fun m => by simp only [l_spec_JudgeBest_0, lt_f, cond_false])
      (fun m i hi => by
        have hmem := bestT_mem (turners s.Tasks s.Locks s.Tasks[i].Cpu) none
        change ∀ t, bestT (turners s.Tasks s.Locks s.Tasks[i].Cpu) = some t → _ at hmem
        simp only [l_spec_JudgeBest_0, lt_t hi, ge_t, Bool.and_self, cond_true, getD_at hi, spec_l8Pick_eq h.tl t1 t2 hs.tasks hs.locks.2.1, spec_l8Can_eq h.tl t1 t2 hs.locks.2.1, Option.bind_some, wsucc (Nat.lt_trans hi (lim_lm h2))]
        unfold bestAt
        rw [hcr]
        cases canTurn s.Tasks s.Locks s.Tasks[i].No with
        | false => rfl
        | true =>
          revert hmem
          cases bestT (turners s.Tasks s.Locks s.Tasks[i].Cpu) with
          | none => intro _; rfl
          | some b =>
            intro hmem
            have hb : b ∈ s.Tasks := by
              rcases hmem _ rfl with hm | hm
              · exact (List.mem_filter.1 hm).1
              · cases hm
            obtain ⟨j, hj, hbj, hji⟩ := idx_mem hs.tasks hb
            have z1 : ¬ ((j : Int) < 0) := by omega
            have z2 : (0 : Int) ≤ (j : Int) := by omega
            have z3 : (j : Int) < (s.Tasks.length : Int) := by omega
            simp only [placeT, hji, idx, z1, z2, z3, decide_true, decide_false, cond_false, cond_true, Bool.and_self, getD_at hj, hbj, spec_Before_eq, Option.bind_some, notBefore]
            cases decide (Before s.Tasks[i] b) <;> rfl) (m := n) h1
    rw [this]
    cases s.Tasks.all (bestAt s) <;> rfl
  · rw [decide_eq_false hs]; rfl
theorem impl_JudgeBest_eq {s : Sys} {n : Nat} (h : SysB s) (hn : SN n) : f_impl_JudgeBest n s = some (judgeBest s, ()) := by
  obtain ⟨h1, h2⟩ := hn.tasks h
  obtain ⟨t1, t2⟩ := hn.tl (s := s)
  simp only [f_impl_JudgeBest, impl_SysOk_eq h hn, Option.bind_some, judgeBest]
  by_cases hs : SysOk s
  · rw [decide_eq_true hs, Bool.not_true, cond_false, Bool.true_and]
    obtain ⟨c, hc⟩ : ∃ c : Nat, s.Cpus = (c : Int) := ⟨s.Cpus.toNat, by have := hs.cpus; omega⟩
    have hc4 := hs.cpus
    have hgn : 4 < n := by unfold SN big at hn; omega
    have hno : taskIdx s.Tasks 0 = none := by
      unfold taskIdx
      rw [List.findIdx?_eq_none_iff]
      intro t ht
      have := (hs.tasks.each t ht).no
      simp; omega
    have q := loop_all (l := fun m i => l_impl_JudgeBest_0 n m s s.Cpus (i : Int) (some (false, ())) (some (true, ()))) (len := c) (P := fun i => (turners s.Tasks s.Locks (i : Int)).all (notBefore (bestT (turners s.Tasks s.Locks (i : Int)))) = true) (k0 := some (false, ())) (k1 := some (true, ()))
      (fun m => by
        have : ¬ ((c : Int) < s.Cpus) := by omega
        simp only [l_impl_JudgeBest_0, decide_eq_false this, cond_false])
      (fun m i hi => by
        have hlt : (i : Int) < s.Cpus := by omega
        have hsub : ∀ t ∈ turners s.Tasks s.Locks (i : Int), t ∈ s.Tasks := fun t ht => (List.mem_filter.1 ht).1
        have hlen : (turners s.Tasks s.Locks (i : Int)).length ≤ s.Tasks.length := List.length_filter_le _ _
        have hmem := bestT_mem (turners s.Tasks s.Locks (i : Int)) none
        change ∀ t, bestT (turners s.Tasks s.Locks (i : Int)) = some t → _ at hmem
        simp only [l_impl_JudgeBest_0, decide_eq_true hlt, cond_true, impl_turners_eq h.tl t1 t2, impl_Pick_eq h.tl t1 t2, impl_TaskAt_eq h1 h2, Option.bind_some, wsucc (show i < lmax by unfold lmax; omega), pick]
        cases e : bestT (turners s.Tasks s.Locks (i : Int)) with
        | none =>
          rw [bestT_none e]
          simp [hno, idx]
        | some b =>
          have hbt : b ∈ turners s.Tasks s.Locks (i : Int) := by
            rcases hmem _ e with hm | hm
            · exact hm
            · cases hm
          have hb := hsub b hbt
          have h0 : ¬ b.No = 0 := by have := (hs.tasks.each b hb).no; omega
          obtain ⟨j, hj, hbj, hji⟩ := idx_mem hs.tasks hb
          have z2 : (0 : Int) ≤ (j : Int) := by omega
          have z3 : (j : Int) < (s.Tasks.length : Int) := by omega
          have c1 : f_slices_ContainsFunc_Task_JudgeBest_1 n (turners s.Tasks s.Locks (i : Int)) s (j : Int) = some ((turners s.Tasks s.Locks (i : Int)).any fun t => decide (Before t b), ()) := by
            unfold f_slices_ContainsFunc_Task_JudgeBest_1 f_slices_IndexFunc_Task_JudgeBest_1
            have := find_loop (l := fun m i' => l_slices_IndexFunc_Task_JudgeBest_1_0 n m (turners s.Tasks s.Locks (i : Int)) s (j : Int) ((turners s.Tasks s.Locks (i : Int)).length : Int) i' (fun w5 => some (w5, ())) (some (-1, ()))) (xs := turners s.Tasks s.Locks (i : Int)) (p := fun t => decide (Before t b)) (k0 := fun w5 => some (w5, ())) (k1 := some (-1, ()))
              (fun m => by simp only [l_slices_IndexFunc_Task_JudgeBest_1_0, lt_f, cond_false])
              (fun m i' hi' => by
                have hf : f_impl_JudgeBest_1 (turners s.Tasks s.Locks (i : Int))[i'] s (j : Int) = some (decide (Before (turners s.Tasks s.Locks (i : Int))[i'] b), ()) := by
                  simp only [f_impl_JudgeBest_1, z2, z3, decide_true, Bool.and_self, cond_true, getD_at hj, hbj, impl_Before_eq, Option.bind_some]
                simp only [l_slices_IndexFunc_Task_JudgeBest_1_0, lt_t hi', ge_t, Bool.and_self, cond_true, getD_at hi', hf, Option.bind_some, wsucc (Nat.lt_trans hi' (lim_lm (show (turners s.Tasks s.Locks (i : Int)).length ≤ lim by omega)))]) (m := n) (by omega)
            rw [this]; exact contains_m _ _
          simp only [h0, decide_false, cond_false, hji, idx, z2, decide_true, cond_true, c1, Option.bind_some]
          have hnb : (turners s.Tasks s.Locks (i : Int)).all (notBefore (some b)) = !(turners s.Tasks s.Locks (i : Int)).any fun t => decide (Before t b) := by
            rw [Bool.eq_iff_iff]; simp [List.any_eq_false, notBefore]
          rw [hnb]
          cases (turners s.Tasks s.Locks (i : Int)).any fun t => decide (Before t b) <;> rfl) (m := n) (by omega)
    refine q.trans ?_
    have hiff : (∀ i, i < c → (turners s.Tasks s.Locks (i : Int)).all (notBefore (bestT (turners s.Tasks s.Locks (i : Int)))) = true) ↔ s.Tasks.all (bestAt s) = true := by
      rw [List.all_eq_true]
      constructor
      · intro ha t ht
        unfold bestAt
        have hcp := (hs.tasks.each t ht).cpu
        have htc := hs.tcpu t ht
        have ee : ((t.Cpu.toNat : Nat) : Int) = t.Cpu := by omega
        cases hcan : canR s.Tasks s.Locks t.No with
        | false => rfl
        | true =>
          have := ha t.Cpu.toNat (by omega)
          rw [ee, List.all_eq_true] at this
          have := this t (List.mem_filter.2 ⟨ht, by simp [hcan]⟩)
          rw [this]; rfl
      · intro ha i hi
        rw [List.all_eq_true]
        intro t ht
        obtain ⟨htm, hp⟩ := List.mem_filter.1 ht
        simp only [Bool.and_eq_true, decide_eq_true_eq] at hp
        have := ha t htm
        unfold bestAt at this
        rw [hp.2, hp.1] at this
        simpa using this
    by_cases ha : ∀ i, i < c → (turners s.Tasks s.Locks (i : Int)).all (notBefore (bestT (turners s.Tasks s.Locks (i : Int)))) = true
    · rw [if_pos ha, hiff.1 ha]
    · rw [if_neg ha]
      cases e : s.Tasks.all (bestAt s) with
      | true => exact absurd (hiff.2 e) ha
      | false => rfl
  · rw [decide_eq_false hs]; rfl
/-- Who runs at the next tick, processor by processor: nobody twice. -/
def execs (s : Sys) (i : Nat) : List Int := (List.range i).map fun (c : Nat) => (pick s.Tasks s.Locks (c : Int)).2
theorem execs_succ (s : Sys) (i : Nat) : execs s (i + 1) = execs s i ++ [(pick s.Tasks s.Locks (i : Int)).2] := by
  unfold execs; rw [List.range_succ, List.map_append]; rfl
def aloneAt (s : Sys) (i : Nat) : Prop := (pick s.Tasks s.Locks (i : Int)).2 = 0 ∨ (pick s.Tasks s.Locks (i : Int)).2 ∉ execs s i
instance (s : Sys) (i : Nat) : Decidable (aloneAt s i) := by unfold aloneAt; infer_instance
def AloneOk (s : Sys) : Prop := SysOk s ∧ ∀ i, i < s.Cpus.toNat → aloneAt s i
instance (s : Sys) : Decidable (AloneOk s) := by unfold AloneOk; infer_instance
theorem pick_nonneg {s : Sys} (hs : SysOk s) (cpu : Int) : 0 ≤ (pick s.Tasks s.Locks cpu).2 := by
  unfold pick
  cases e : bestT (turners s.Tasks s.Locks cpu) with
  | none => exact Int.le_refl _
  | some t =>
    by_cases h0 : executor s.Tasks s.Locks t.No = 0
    · simp only [h0]; exact Int.le_refl _
    · obtain ⟨_, j, hj⟩ := executor_tasks h0
      obtain ⟨hj1, hj2⟩ := taskIdx_some hj
      have := (hs.tasks.each _ (List.getElem_mem hj1)).no
      simp only; omega
theorem spec_JudgeAlone_eq {s : Sys} {n : Nat} (h : SysB s) (hn : SN n) : f_spec_JudgeAlone n s = some (decide (AloneOk s), ()) := by
  obtain ⟨h1, h2⟩ := hn.tasks h
  obtain ⟨t1, t2⟩ := hn.tl (s := s)
  simp only [f_spec_JudgeAlone, spec_SysOk_eq h hn, Option.bind_some]
  refine gate (P := SysOk s) (fun q => q.1) fun hs => ?_
  have hc4 := hs.cpus
  have hgn : 10 < n := by unfold SN big at hn; omega
  have e1 : big = 1048576 := rfl
  have q := loop_all (l := fun m i => l_spec_JudgeAlone_0 n m s (execs s i) (i : Int) (some (false, ())) (some (true, ()))) (len := s.Cpus.toNat) (P := aloneAt s) (k0 := some (false, ())) (k1 := some (true, ()))
    (fun m => by
      have : ¬ ((s.Cpus.toNat : Int) < s.Cpus) := by omega
      simp only [l_spec_JudgeAlone_0, decide_eq_false this, cond_false])
    (fun m i hi => by
      have hlt : (i : Int) < s.Cpus := by omega
      have hel : (execs s i).length = i := by unfold execs; rw [List.length_map, List.length_range]
      have happ : decide ((execs s i).length + (([(pick s.Tasks s.Locks (i : Int)).2] : List Int)).length ≤ lim) = true := app_ok (B := 10) (by omega) (by omega)
      have hp0 := pick_nonneg hs (i : Int)
      simp only [l_spec_JudgeAlone_0, decide_eq_true hlt, cond_true, spec_Pick_eq h.tl t1 t2, Option.bind_some, happ, spec_l7Has_eq (show (execs s i).length < n by omega) (show (execs s i).length ≤ lim by omega), wsucc (show i < lmax by unfold lmax; omega), execs_succ]
      by_cases hz : (pick s.Tasks s.Locks (i : Int)).2 = 0
      · rw [if_pos (show aloneAt s i from Or.inl hz), decide_eq_false (show ¬ 0 < (pick s.Tasks s.Locks (i : Int)).2 by omega), cond_false]
      · rw [decide_eq_true (show 0 < (pick s.Tasks s.Locks (i : Int)).2 by omega), cond_true]
        by_cases hm : (pick s.Tasks s.Locks (i : Int)).2 ∈ execs s i
        · rw [decide_eq_true hm, cond_true, if_neg (show ¬ aloneAt s i from fun q => by rcases q with q | q; exact hz q; exact q hm)]
        · rw [decide_eq_false hm, cond_false, if_pos (show aloneAt s i from Or.inr hm)]) (m := n) (by omega)
  refine q.trans ?_
  by_cases ha : ∀ i, i < s.Cpus.toNat → aloneAt s i
  · rw [if_pos ha, decide_eq_true (p := AloneOk s) ⟨hs, ha⟩]
  · rw [if_neg ha, decide_eq_false (p := AloneOk s) (fun q => ha q.2)]
theorem impl_JudgeAlone_eq {s : Sys} {n : Nat} (h : SysB s) (hn : SN n) : f_impl_JudgeAlone n s = some (decide (AloneOk s), ()) := by
  obtain ⟨h1, h2⟩ := hn.tasks h
  obtain ⟨t1, t2⟩ := hn.tl (s := s)
  simp only [f_impl_JudgeAlone, impl_SysOk_eq h hn, Option.bind_some]
  refine gate (P := SysOk s) (fun q => q.1) fun hs => ?_
  have hc4 := hs.cpus
  have hgn : 10 < n := by unfold SN big at hn; omega
  have e1 : big = 1048576 := rfl
  have q := loop_all (l := fun m i => l_impl_JudgeAlone_0 n m s (execs s i) s.Cpus (i : Int) (some (false, ())) (some (true, ()))) (len := s.Cpus.toNat) (P := aloneAt s) (k0 := some (false, ())) (k1 := some (true, ()))
    (fun m => by
      have : ¬ ((s.Cpus.toNat : Int) < s.Cpus) := by omega
      simp only [l_impl_JudgeAlone_0, decide_eq_false this, cond_false])
    (fun m i hi => by
      have hlt : (i : Int) < s.Cpus := by omega
      have hel : (execs s i).length = i := by unfold execs; rw [List.length_map, List.length_range]
      have happ : decide ((execs s i).length + (([(pick s.Tasks s.Locks (i : Int)).2] : List Int)).length ≤ lim) = true := app_ok (B := 10) (by omega) (by omega)
      simp only [l_impl_JudgeAlone_0, decide_eq_true hlt, cond_true, impl_Pick_eq h.tl t1 t2, Option.bind_some, happ, slices_Contains_int_eq (show (execs s i).length < n by omega) (show (execs s i).length ≤ lim by omega), wsucc (show i < lmax by unfold lmax; omega), execs_succ]
      by_cases hz : (pick s.Tasks s.Locks (i : Int)).2 = 0
      · rw [if_pos (show aloneAt s i from Or.inl hz), decide_eq_true hz, Bool.not_true, cond_false]
      · rw [decide_eq_false hz, Bool.not_false, cond_true]
        by_cases hm : (pick s.Tasks s.Locks (i : Int)).2 ∈ execs s i
        · rw [decide_eq_true hm, cond_true, if_neg (show ¬ aloneAt s i from fun q => by rcases q with q | q; exact hz q; exact q hm)]
        · rw [decide_eq_false hm, cond_false, if_pos (show aloneAt s i from Or.inr hm)]) (m := n) (by omega)
  refine q.trans ?_
  by_cases ha : ∀ i, i < s.Cpus.toNat → aloneAt s i
  · rw [if_pos ha, decide_eq_true (p := AloneOk s) ⟨hs, ha⟩]
  · rw [if_neg ha, decide_eq_false (p := AloneOk s) (fun q => ha q.2)]
def judgeAll (s : Sys) : Bool := decide (TurnsOk s) && (judgeDue s && (judgeFair s && (judgeBest s && decide (AloneOk s))))
theorem spec_JudgeAll_eq {s : Sys} {n : Nat} (h : SysB s) (hn : SN n) : f_spec_JudgeAll n s = some (judgeAll s, ()) := by
  simp only [f_spec_JudgeAll, spec_JudgeTurns_eq h hn, spec_JudgeDue_eq h hn, spec_JudgeFair_eq h hn, spec_JudgeBest_eq h hn, spec_JudgeAlone_eq h hn, Option.bind_some, judgeAll]
  cases decide (TurnsOk s) <;> cases judgeDue s <;> cases judgeFair s <;> cases judgeBest s <;> rfl
theorem impl_JudgeAll_eq {s : Sys} {n : Nat} (h : SysB s) (hn : SN n) : f_impl_JudgeAll n s = some (judgeAll s, ()) := by
  simp only [f_impl_JudgeAll, impl_JudgeTurns_eq h hn, impl_JudgeDue_eq h hn, impl_JudgeFair_eq h hn, impl_JudgeBest_eq h hn, impl_JudgeAlone_eq h hn, Option.bind_some, judgeAll]
  cases decide (TurnsOk s) <;> cases judgeDue s <;> cases judgeFair s <;> cases judgeBest s <;> rfl
end Go.Proofs.YtjgkeaiibdodfaaGreat.VR
