/- A law's bulk. -/
import Derived.Test.YtoedeimpfbebpaaK6
import Derived.Test.YtoedeimpfbebpaaNd
import Derived.Test.YtoedeimpfbebpaaNi
import Derived.Test.YtoedeimpfbebpaaG01
set_option linter.unusedVariables false
set_option linter.unusedSimpArgs false
namespace Go.Proofs.Ytoedeimpfbebpaa.VR
open Go
theorem ndself {β : Type} [DecidableEq β] (x : β) {α : Type} (a b : α) : cond (!(decide (x = x))) a b = b := by simp
def szR (b : Int) (c : Nat) : Int := if b - (c : Int) < 0 then -1 else b - (c : Int)
theorem szR_step {b : Int} {c : Nat} (h0 : 0 ≤ b) (h1 : b ≤ 1048576) (h2 : c ≤ big) : (cond (decide ((w64 (b - (c : Int))) < 0)) (some ((-1), ())) (some ((w64 (b - (c : Int))), ())) : Option (Int × Unit)) = some (szR b c, ()) := by
  unfold big at h2
  rw [w64_id (by omega) (by omega), szR, cond_dec]
  split <;> rfl
theorem szTaskS_eq {xs : List Task} {b : Int} (h0 : 0 ≤ b) (h1 : b ≤ 1048576) (h2 : xs.length ≤ big) : f_laws_szTaskS xs b = some (szR b xs.length, ()) := szR_step h0 h1 h2
theorem szGhostS_eq {xs : List Ghost} {b : Int} (h0 : 0 ≤ b) (h1 : b ≤ 1048576) (h2 : xs.length ≤ big) : f_laws_szGhostS xs b = some (szR b xs.length, ()) := szR_step h0 h1 h2
theorem szIntS_eq {xs : List Int} {b : Int} (h0 : 0 ≤ b) (h1 : b ≤ 1048576) (h2 : xs.length ≤ big) : f_laws_szIntS xs b = some (szR b xs.length, ()) := szR_step h0 h1 h2
theorem szTurnS_eq {xs : List Turn} {b : Int} (h0 : 0 ≤ b) (h1 : b ≤ 1048576) (h2 : xs.length ≤ big) : f_laws_szTurnS xs b = some (szR b xs.length, ()) := szR_step h0 h1 h2
theorem szLock_eq {k : Lock} {b : Int} (h0 : 0 ≤ b) (h1 : b ≤ 1048576) (h2 : k.Waits.length ≤ big) : f_laws_szLock k b = some (szR b k.Waits.length, ()) := by
  simp only [f_laws_szLock, szIntS_eq h0 h1 h2, Option.bind_some]
  unfold szR
  split <;> rename_i h
  · rfl
  · rw [decide_eq_false h]; rfl
theorem szR_neg {b : Int} {c : Nat} (h : ¬ szR b c < 0) : 0 ≤ b - (c : Int) ∧ szR b c = b - (c : Int) := by
  unfold szR at h ⊢
  split at h
  · omega
  · rename_i h'; rw [if_neg h']; omega
theorem szR_pos {b : Int} {c : Nat} (h : 0 ≤ b - (c : Int)) : szR b c = b - (c : Int) := by unfold szR; rw [if_neg (by omega)]
theorem szLockS_eq {xs : List Lock} {b : Int} {n : Nat} (h0 : 0 ≤ b) (h1 : b ≤ 1048576) (h2 : xs.length ≤ big) (h3 : ∀ k ∈ xs, k.Waits.length ≤ big) (hn : xs.length < n) : f_laws_szLockS n xs b = some (szR b (xs.length + (waitsOf xs).length), ()) := by
  have h2' := h2
  unfold big at h2'
  simp only [f_laws_szLockS, w64_id (n := b - (xs.length : Int)) (by omega) (by omega)]
  by_cases hl : b - (xs.length : Int) < 0
  · rw [decide_eq_true hl, cond_true]
    unfold szR; rw [if_pos (by omega)]
  · rw [decide_eq_false hl, cond_false]
    have := loop_to (l := fun m i => l_laws_szLockS_0 n m xs (b - (xs.length : Int) - ((waitsOf (xs.take i)).length : Int)) (i : Int) (fun _ => some ((-1), ())) (fun w6 => some (w6, ()))) (len := xs.length)
      (r := some (szR b (xs.length + (waitsOf xs).length), ())) (fun i => 0 ≤ b - (xs.length : Int) - ((waitsOf (xs.take i)).length : Int)) (by simp [waitsOf]; omega) (fun m hI => ?_) (fun m i hi hI => ?_) hn
    · simpa [waitsOf] using this
    · rw [List.take_length] at hI
      simp only [l_laws_szLockS_0, lt_f, cond_false, List.take_length]
      rw [szR_pos (by omega)]
      have : b - (xs.length : Int) - ((waitsOf xs).length : Int) = b - ((xs.length + (waitsOf xs).length : Nat) : Int) := by omega
      rw [this]
    · have hk := h3 xs[i] (List.getElem_mem hi)
      have hle := take_waits_le (l := xs) (i + 1)
      rw [waitsOf_take hi, List.length_append] at hle
      simp only [l_laws_szLockS_0, lt_t hi, ge_t, Bool.and_self, cond_true, getD_at hi, szLock_eq hI (by omega) hk, Option.bind_some, wsucc (Nat.lt_trans hi (lim_lm (by unfold lim; omega)))]
      by_cases hs : szR (b - (xs.length : Int) - ((waitsOf (xs.take i)).length : Int)) xs[i].Waits.length < 0
      · right
        rw [decide_eq_true hs, cond_true]
        unfold szR at hs
        split at hs
        · rename_i hs'
          unfold szR; rw [if_pos (by omega)]
        · omega
      · left
        obtain ⟨q1, q2⟩ := szR_neg hs
        rw [decide_eq_false hs, cond_false, q2, waitsOf_take hi, List.length_append]
        have : b - (xs.length : Int) - ((waitsOf (xs.take i)).length : Int) - (xs[i].Waits.length : Int) = b - (xs.length : Int) - (((waitsOf (xs.take i)).length + xs[i].Waits.length : Nat) : Int) := by omega
        exact ⟨by rw [this], by omega⟩
theorem wf_waits {xs : List Lock} (h : wfL .lock xs) : ∀ k ∈ xs, k.Waits.length ≤ big := fun k hk => by
  have := h.2 k hk (.nest k.Waits) (by simp [Kd.cells])
  exact this.1
/-- A system that a law is told for. -/
structure SysWf (s : Sys) : Prop where
  now : i64ok s.Now
  cpus : i64ok s.Cpus
  tasks : wfL .task s.Tasks
  locks : wfL .lock s.Locks
  ghosts : wfL .ghost s.Ghosts
  floors : wfL .int s.Floors
  seq : i64ok s.Seq
  missed : i64ok s.Missed
  trace : wfL .turn s.Trace
/-- What the bulk bounds. -/
structure SysB (s : Sys) : Prop where
  tl : TLB big s.Tasks s.Locks
  small : Small big s
theorem szSys_cases {s : Sys} {n : Nat} (h : SysWf s) (hn : big < n) : ∃ r, f_laws_szSys n s 1048576 = some (r, ()) ∧ (r < 0 ∨ (¬ r < 0 ∧ SysB s)) := by
  have q1 := h.tasks.1
  have q2 := h.locks.1
  have q3 := h.ghosts.1
  have q4 := h.floors.1
  have q5 := h.trace.1
  have q6 := wf_waits h.locks
  have e : big = 1048576 := rfl
  have hm : ((-1 : Int) < 0) := by omega
  simp only [f_laws_szSys, szTaskS_eq (b := 1048576) (by omega) (by omega) q1, Option.bind_some]
  by_cases c1 : szR 1048576 s.Tasks.length < 0
  · rw [decide_eq_true c1, cond_true]; exact ⟨_, rfl, .inl hm⟩
  · obtain ⟨a1, b1⟩ := szR_neg c1
    rw [decide_eq_false c1, cond_false, b1]
    rw [szLockS_eq (by omega) (by omega) q2 q6 (by omega), Option.bind_some]
    by_cases c2 : szR (1048576 - (s.Tasks.length : Int)) (s.Locks.length + (waitsOf s.Locks).length) < 0
    · rw [decide_eq_true c2, cond_true]; exact ⟨_, rfl, .inl hm⟩
    · obtain ⟨a2, b2⟩ := szR_neg c2
      rw [decide_eq_false c2, cond_false, b2, szGhostS_eq (by omega) (by omega) q3, Option.bind_some]
      by_cases c3 : szR (1048576 - (s.Tasks.length : Int) - ((s.Locks.length + (waitsOf s.Locks).length : Nat) : Int)) s.Ghosts.length < 0
      · rw [decide_eq_true c3, cond_true]; exact ⟨_, rfl, .inl hm⟩
      · obtain ⟨a3, b3⟩ := szR_neg c3
        rw [decide_eq_false c3, cond_false, b3, szIntS_eq (by omega) (by omega) q4, Option.bind_some]
        by_cases c4 : szR (1048576 - (s.Tasks.length : Int) - ((s.Locks.length + (waitsOf s.Locks).length : Nat) : Int) - (s.Ghosts.length : Int)) s.Floors.length < 0
        · rw [decide_eq_true c4, cond_true]; exact ⟨_, rfl, .inl hm⟩
        · obtain ⟨a4, b4⟩ := szR_neg c4
          rw [decide_eq_false c4, cond_false, b4, szTurnS_eq (by omega) (by omega) q5, Option.bind_some]
          by_cases c5 : szR (1048576 - (s.Tasks.length : Int) - ((s.Locks.length + (waitsOf s.Locks).length : Nat) : Int) - (s.Ghosts.length : Int) - (s.Floors.length : Int)) s.Trace.length < 0
          · rw [decide_eq_true c5, cond_true]; exact ⟨_, rfl, .inl hm⟩
          · rw [decide_eq_false c5, cond_false]
            refine ⟨_, rfl, .inr ⟨c5, ⟨⟨q1, ⟨q2, by omega⟩⟩, ⟨q1, q2, q6, q3, q4, q5⟩⟩⟩⟩
/-- From the bulk of tasks and locks. -/
theorem szTL_cases {ts : List Task} {ls : List Lock} {n : Nat} (h1 : wfL .task ts) (h2 : wfL .lock ls) (hn : big < n) : ∃ r, f_laws_szTaskS ts 1048576 = some (r, ()) ∧ (r < 0 ∨ (¬ r < 0 ∧ ∃ r2, f_laws_szLockS n ls r = some (r2, ()) ∧ (r2 < 0 ∨ (¬ r2 < 0 ∧ TLB big ts ls)))) := by
  have q1 := h1.1
  have q2 := h2.1
  have q6 := wf_waits h2
  have e : big = 1048576 := rfl
  refine ⟨_, szTaskS_eq (by omega) (by omega) q1, ?_⟩
  by_cases c1 : szR 1048576 ts.length < 0
  · exact .inl c1
  · refine .inr ⟨c1, ?_⟩
    obtain ⟨a1, b1⟩ := szR_neg c1
    rw [b1]
    refine ⟨_, szLockS_eq (by omega) (by omega) q2 q6 (by omega), ?_⟩
    by_cases c2 : szR (1048576 - (ts.length : Int)) (ls.length + (waitsOf ls).length) < 0
    · exact .inl c2
    · obtain ⟨a2, b2⟩ := szR_neg c2
      exact .inr ⟨c2, q1, q2, by omega⟩
def bigN : Nat := big + 3
theorem bigN_lt : big < bigN := by unfold bigN; omega
theorem bigN_lt2 : big + 2 < bigN := by unfold bigN; omega
theorem big_le : big ≤ lim := by unfold big lim; omega
theorem big_le2 : big + 2 ≤ lim := by unfold big lim; omega
end Go.Proofs.Ytoedeimpfbebpaa.VR
