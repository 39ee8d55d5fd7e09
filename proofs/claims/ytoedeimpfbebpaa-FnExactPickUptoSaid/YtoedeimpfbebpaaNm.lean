/- A law's bulk; the laws over systems that need no marks. -/
import Derived.Test.YtoedeimpfbebpaaNe
import Derived.Test.YtoedeimpfbebpaaNi
import Derived.Test.YtoedeimpfbebpaaG09
set_option linter.unusedVariables false
set_option linter.unusedSimpArgs false
namespace Go.Proofs.Ytoedeimpfbebpaa.VR
open Go
def szR (b : Int) (c : Nat) : Int := if b - (c : Int) < 0 then -1 else b - (c : Int)
theorem szR_step {b : Int} {c : Nat} (h0 : 0 ≤ b) (h1 : b ≤ 1048576) (h2 : c ≤ big) : (cond (decide ((w64 (b - (c : Int))) < 0)) (some ((-1), ())) (some ((w64 (b - (c : Int))), ())) : Option (Int × Unit)) = some (szR b c, ()) := by
  unfold big at h2
  rw [w64_id (by omega) (by omega), szR, cond_dec]
  split <;> rfl
theorem szTaskS_eq {xs : List Task} {b : Int} (h0 : 0 ≤ b) (h1 : b ≤ 1048576) (h2 : xs.length ≤ big) : f_laws_szTaskS xs b = some (szR b xs.length, ()) := szR_step h0 h1 h2
theorem szGhostS_eq {xs : List Ghost} {b : Int} (h0 : 0 ≤ b) (h1 : b ≤ 1048576) (h2 : xs.length ≤ big) : f_laws_szGhostS xs b = some (szR b xs.length, ()) := szR_step h0 h1 h2
theorem szIntS_eq {xs : List Int} {b : Int} (h0 : 0 ≤ b) (h1 : b ≤ 1048576) (h2 : xs.length ≤ big) : f_laws_szIntS xs b = some (szR b xs.length, ()) := szR_step h0 h1 h2
theorem szTurnS_eq {xs : List Turn} {b : Int} (h0 : 0 ≤ b) (h1 : b ≤ 1048576) (h2 : xs.length ≤ big) : f_laws_szTurnS xs b = some (szR b xs.length, ()) := szR_step h0 h1 h2
theorem szLock_eq {k : Lock} {b : Int} (h0 : 0 ≤ b) (h1 : b ≤ 1048576) (h2 : k.Waits.length ≤ big) : f_laws_szLock k b = some (szR b k.Waits.length, ()) := by
  simp only [f_laws_szLock, szIntS_eq h0 h1 h2, Option.bind_some]
  unfold szR
  split <;> rename_i h
  · rfl
  · rw [decide_eq_false h]; rfl
theorem szR_neg {b : Int} {c : Nat} (h : ¬ szR b c < 0) : 0 ≤ b - (c : Int) ∧ szR b c = b - (c : Int) := by
  unfold szR at h ⊢
  split at h
  · omega
  · rename_i h'; rw [if_neg h']; omega
theorem szR_pos {b : Int} {c : Nat} (h : 0 ≤ b - (c : Int)) : szR b c = b - (c : Int) := by unfold szR; rw [if_neg (by omega)]
theorem szLockS_eq {xs : List Lock} {b : Int} {n : Nat} (h0 : 0 ≤ b) (h1 : b ≤ 1048576) (h2 : xs.length ≤ big) (h3 : ∀ k ∈ xs, k.Waits.length ≤ big) (hn : xs.length < n) : f_laws_szLockS n xs b = some (szR b (xs.length + (waitsOf xs).length), ()) := by
  have h2' := h2
  unfold big at h2'
  simp only [f_laws_szLockS, w64_id (n := b - (xs.length : Int)) (by omega) (by omega)]
  by_cases hl : b - (xs.length : Int) < 0
  · rw [decide_eq_true hl, cond_true]
    unfold szR; rw [if_pos (by omega)]
  · rw [decide_eq_false hl, cond_false]
    have := loop_to (l := fun m i => l_laws_szLockS_0 n m xs (b - (xs.length : Int) - ((waitsOf (xs.take i)).length : Int)) (i : Int) (fun _ => some ((-1), ())) (fun w6 => some (w6, ()))) (len := xs.length)
      (r := some (szR b (xs.length + (waitsOf xs).length), ())) (fun i => 0 ≤ b - (xs.length : Int) - ((waitsOf (xs.take i)).length : Int)) (by simp [waitsOf]; omega) (fun m hI => ?_) (fun m i hi hI => ?_) hn
    · simpa [waitsOf] using this
    · rw [List.take_length] at hI
      simp only [l_laws_szLockS_0, lt_f, cond_false, List.take_length]
      rw [szR_pos (by omega)]
      have : b - (xs.length : Int) - ((waitsOf xs).length : Int) = b - ((xs.length + (waitsOf xs).length : Nat) : Int) := by omega
      rw [this]
    · have hk := h3 xs[i] (List.getElem_mem hi)
      have hle := take_waits_le (l := xs) (i + 1)
      rw [waitsOf_take hi, List.length_append] at hle
      simp only [l_laws_szLockS_0, lt_t hi, ge_t, Bool.and_self, cond_true, getD_at hi, szLock_eq hI (by omega) hk, Option.bind_some, wsucc (Nat.lt_trans hi (lim_lm (by unfold lim; omega)))]
      by_cases hs : szR (b - (xs.length : Int) - ((waitsOf (xs.take i)).length : Int)) xs[i].Waits.length < 0
      · right
        rw [decide_eq_true hs, cond_true]
        unfold szR at hs
        split at hs
        · rename_i hs'
          unfold szR; rw [if_pos (by omega)]
        · omega
      · left
        obtain ⟨q1, q2⟩ := szR_neg hs
        rw [decide_eq_false hs, cond_false, q2, waitsOf_take hi, List.length_append]
        have : b - (xs.length : Int) - ((waitsOf (xs.take i)).length : Int) - (xs[i].Waits.length : Int) = b - (xs.length : Int) - (((waitsOf (xs.take i)).length + xs[i].Waits.length : Nat) : Int) := by omega
        exact ⟨by rw [this], by omega⟩
theorem wf_waits {xs : List Lock} (h : wfL .lock xs) : ∀ k ∈ xs, k.Waits.length ≤ big := fun k hk => by
  have := h.2 k hk (.nest k.Waits) (by simp [Kd.cells])
  exact this.1
/-- A system that a law is told for. -/
structure SysWf (s : Sys) : Prop where
  now : i64ok s.Now
  cpus : i64ok s.Cpus
  tasks : wfL .task s.Tasks
  locks : wfL .lock s.Locks
  ghosts : wfL .ghost s.Ghosts
  floors : wfL .int s.Floors
  seq : i64ok s.Seq
  missed : i64ok s.Missed
  trace : wfL .turn s.Trace
/-- What the bulk bounds. -/
structure SysB (s : Sys) : Prop where
  tl : TLB big s.Tasks s.Locks
  small : Small big s
theorem szSys_cases {s : Sys} {n : Nat} (h : SysWf s) (hn : big < n) : ∃ r, f_laws_szSys n s 1048576 = some (r, ()) ∧ (r < 0 ∨ (¬ r < 0 ∧ SysB s)) := by
  have q1 := h.tasks.1
  have q2 := h.locks.1
  have q3 := h.ghosts.1
  have q4 := h.floors.1
  have q5 := h.trace.1
  have q6 := wf_waits h.locks
  have e : big = 1048576 := rfl
  have hm : ((-1 : Int) < 0) := by omega
  simp only [f_laws_szSys, szTaskS_eq (b := 1048576) (by omega) (by omega) q1, Option.bind_some]
  by_cases c1 : szR 1048576 s.Tasks.length < 0
  · rw [decide_eq_true c1, cond_true]; exact ⟨_, rfl, .inl hm⟩
  · obtain ⟨a1, b1⟩ := szR_neg c1
    rw [decide_eq_false c1, cond_false, b1]
    rw [szLockS_eq (by omega) (by omega) q2 q6 (by omega), Option.bind_some]
    by_cases c2 : szR (1048576 - (s.Tasks.length : Int)) (s.Locks.length + (waitsOf s.Locks).length) < 0
    · rw [decide_eq_true c2, cond_true]; exact ⟨_, rfl, .inl hm⟩
    · obtain ⟨a2, b2⟩ := szR_neg c2
      rw [decide_eq_false c2, cond_false, b2, szGhostS_eq (by omega) (by omega) q3, Option.bind_some]
      by_cases c3 : szR (1048576 - (s.Tasks.length : Int) - ((s.Locks.length + (waitsOf s.Locks).length : Nat) : Int)) s.Ghosts.length < 0
      · rw [decide_eq_true c3, cond_true]; exact ⟨_, rfl, .inl hm⟩
      · obtain ⟨a3, b3⟩ := szR_neg c3
        rw [decide_eq_false c3, cond_false, b3, szIntS_eq (by omega) (by omega) q4, Option.bind_some]
        by_cases c4 : szR (1048576 - (s.Tasks.length : Int) - ((s.Locks.length + (waitsOf s.Locks).length : Nat) : Int) - (s.Ghosts.length : Int)) s.Floors.length < 0
        · rw [decide_eq_true c4, cond_true]; exact ⟨_, rfl, .inl hm⟩
        · obtain ⟨a4, b4⟩ := szR_neg c4
          rw [decide_eq_false c4, cond_false, b4, szTurnS_eq (by omega) (by omega) q5, Option.bind_some]
          by_cases c5 : szR (1048576 - (s.Tasks.length : Int) - ((s.Locks.length + (waitsOf s.Locks).length : Nat) : Int) - (s.Ghosts.length : Int) - (s.Floors.length : Int)) s.Trace.length < 0
          · rw [decide_eq_true c5, cond_true]; exact ⟨_, rfl, .inl hm⟩
          · rw [decide_eq_false c5, cond_false]
            refine ⟨_, rfl, .inr ⟨c5, ⟨⟨q1, ⟨q2, by omega⟩⟩, ⟨q1, q2, q6, q3, q4, q5⟩⟩⟩⟩
/-- From the bulk of tasks and locks. -/
theorem szTL_cases {ts : List Task} {ls : List Lock} {n : Nat} (h1 : wfL .task ts) (h2 : wfL .lock ls) (hn : big < n) : ∃ r, f_laws_szTaskS ts 1048576 = some (r, ()) ∧ (r < 0 ∨ (¬ r < 0 ∧ ∃ r2, f_laws_szLockS n ls r = some (r2, ()) ∧ (r2 < 0 ∨ (¬ r2 < 0 ∧ TLB big ts ls)))) := by
  have q1 := h1.1
  have q2 := h2.1
  have q6 := wf_waits h2
  have e : big = 1048576 := rfl
  refine ⟨_, szTaskS_eq (by omega) (by omega) q1, ?_⟩
  by_cases c1 : szR 1048576 ts.length < 0
  · exact .inl c1
  · refine .inr ⟨c1, ?_⟩
    obtain ⟨a1, b1⟩ := szR_neg c1
    rw [b1]
    refine ⟨_, szLockS_eq (by omega) (by omega) q2 q6 (by omega), ?_⟩
    by_cases c2 : szR (1048576 - (ts.length : Int)) (ls.length + (waitsOf ls).length) < 0
    · exact .inl c2
    · obtain ⟨a2, b2⟩ := szR_neg c2
      exact .inr ⟨c2, q1, q2, by omega⟩
def bigN : Nat := big + 3
theorem bigN_lt : big < bigN := by unfold bigN; omega
theorem bigN_lt2 : big + 2 < bigN := by unfold bigN; omega
theorem big_le : big ≤ lim := by unfold big lim; omega
theorem big_le2 : big + 2 ≤ lim := by unfold big lim; omega
theorem law_FnExactFloorOn (s : Sys) (cpu : Int) (ha : i64ok s.Now) (hb : i64ok s.Cpus) (h1 : wfL .task s.Tasks) (h2 : wfL .lock s.Locks) (h3 : wfL .ghost s.Ghosts) (h4 : wfL .int s.Floors) (hc : i64ok s.Seq) (hd : i64ok s.Missed) (h5 : wfL .turn s.Trace) (hp : i64ok cpu) :
    ∃ n, f_laws_FnExactFloorOn n s cpu = some (true, ()) := by
  refine ⟨bigN, ?_⟩
  obtain ⟨r, e, hr⟩ := szSys_cases (s := s) ⟨ha, hb, h1, h2, h3, h4, hc, hd, h5⟩ bigN_lt
  simp only [f_laws_FnExactFloorOn, e, Option.bind_some]
  rcases hr with hr | ⟨hr, hs⟩
  · rw [decide_eq_true hr, cond_true]
  · have hf := Nat.le_trans hs.small.floors big_le
    rw [decide_eq_false hr, cond_false]
    simp only [laws_toSys_eq hs.small bigN_lt big_le, Option.bind_some, dnSys_up, spec_FloorOn_eq hf, impl_FloorOn_eq hf, not_dec_self, laws_eqSys_eq hs.small bigN_lt big_le, decide_true, Bool.not_true, cond_false]
def sameCpu (s : Sys) (k no : Int) : Bool := match taskIdx s.Tasks no with
  | none => false
  | some i => if 0 ≤ k ∧ k ≤ (s.Locks.length : Int) - 1 then
      (if (s.Locks.getD k.toNat (Kd.dflt .lock)).Owner = 0 then true else match taskIdx s.Tasks (s.Locks.getD k.toNat (Kd.dflt .lock)).Owner with
        | none => false
        | some j => decide ((s.Tasks.getD j (Kd.dflt .task)).Cpu = (s.Tasks.getD i (Kd.dflt .task)).Cpu))
    else false
theorem impl_SameCpu_eq {s : Sys} {k no : Int} {n : Nat} (hn : s.Tasks.length < n) (hb : s.Tasks.length ≤ lim) (hl : s.Locks.length ≤ lim) : f_impl_SameCpu n s k no = some (sameCpu s k no, ()) := by
  have e : w64 ((s.Locks.length : Int) - 1) = (s.Locks.length : Int) - 1 := by unfold lim at hl; exact w64_id (by omega) (by omega)
  simp only [f_impl_SameCpu, impl_TaskAt_eq hn hb, impl_in_eq, Option.bind_some, e, sameCpu]
  by_cases hk : 0 ≤ k ∧ k ≤ (s.Locks.length : Int) - 1
  · rw [decide_eq_true hk, Bool.not_true, cond_false]
    have hk2 : k < (s.Locks.length : Int) := by omega
    cases e1 : taskIdx s.Tasks no with
    | none => simp [idx]
    | some i =>
      obtain ⟨hi, _⟩ := taskIdx_some e1
      have n1 : ¬ ((i : Int) < 0) := by omega
      simp only [idx, n1, decide_false, cond_false, decide_eq_true hk.1, decide_eq_true hk2, Bool.and_self, cond_true, if_pos hk]
      by_cases ho : (s.Locks.getD k.toNat (Kd.dflt .lock)).Owner = 0
      · rw [decide_eq_true ho, cond_true, if_pos ho]
      · rw [decide_eq_false ho, cond_false, if_neg ho]
        cases e2 : taskIdx s.Tasks (s.Locks.getD k.toNat (Kd.dflt .lock)).Owner with
        | none => simp
        | some j =>
          obtain ⟨hj, _⟩ := taskIdx_some e2
          have p1 : (0 : Int) ≤ (i : Int) := by omega
          have p2 : (0 : Int) ≤ (j : Int) := by omega
          have p3 : (i : Int) < (s.Tasks.length : Int) := by omega
          have p4 : (j : Int) < (s.Tasks.length : Int) := by omega
          simp only [p1, p2, p3, p4, decide_true, cond_true, Bool.and_self, Int.toNat_natCast]
          congr
  · rw [decide_eq_false hk, Bool.not_false, cond_true]
    simp only [if_neg hk]
    cases taskIdx s.Tasks no <;> rfl
theorem spec_SameCpu_eq {s : Sys} {k no : Int} {n : Nat} (hn : s.Tasks.length < n) (hb : s.Tasks.length ≤ lim) (hl : s.Locks.length ≤ lim) : f_spec_SameCpu n s k no = some (sameCpu s k no, ()) := by
  have e : w64 ((s.Locks.length : Int) - 1) = (s.Locks.length : Int) - 1 := by unfold lim at hl; exact w64_id (by omega) (by omega)
  simp only [f_spec_SameCpu, spec_TaskAt_eq hn hb, spec_l1In_eq, Option.bind_some, e, sameCpu]
  by_cases hk : 0 ≤ k ∧ k ≤ (s.Locks.length : Int) - 1
  · rw [decide_eq_true hk, Bool.not_true, cond_false]
    have hk2 : k < (s.Locks.length : Int) := by omega
    cases e1 : taskIdx s.Tasks no with
    | none => simp [idx]
    | some i =>
      obtain ⟨hi, _⟩ := taskIdx_some e1
      have n1 : ¬ ((i : Int) < 0) := by omega
      simp only [idx, n1, decide_false, cond_false, decide_eq_true hk.1, decide_eq_true hk2, Bool.and_self, cond_true, if_pos hk]
      by_cases ho : (s.Locks.getD k.toNat (Kd.dflt .lock)).Owner = 0
      · rw [decide_eq_true ho, cond_true, if_pos ho]
      · rw [decide_eq_false ho, cond_false, if_neg ho]
        cases e2 : taskIdx s.Tasks (s.Locks.getD k.toNat (Kd.dflt .lock)).Owner with
        | none => simp
        | some j =>
          obtain ⟨hj, _⟩ := taskIdx_some e2
          have p1 : (0 : Int) ≤ (i : Int) := by omega
          have p2 : (0 : Int) ≤ (j : Int) := by omega
          have p3 : (i : Int) < (s.Tasks.length : Int) := by omega
          have p4 : (j : Int) < (s.Tasks.length : Int) := by omega
          simp only [p1, p2, p3, p4, decide_true, cond_true, Bool.and_self, Int.toNat_natCast]
          congr
  · rw [decide_eq_false hk, Bool.not_false, cond_true]
    simp only [if_neg hk]
    cases taskIdx s.Tasks no <;> rfl
theorem law_FnExactSameCpu (s : Sys) (k no : Int) (ha : i64ok s.Now) (hb : i64ok s.Cpus) (h1 : wfL .task s.Tasks) (h2 : wfL .lock s.Locks) (h3 : wfL .ghost s.Ghosts) (h4 : wfL .int s.Floors) (hc : i64ok s.Seq) (hd : i64ok s.Missed) (h5 : wfL .turn s.Trace) (hp : i64ok k) (hq : i64ok no) :
    ∃ n, f_laws_FnExactSameCpu n s k no = some (true, ()) := by
  refine ⟨bigN, ?_⟩
  obtain ⟨r, e, hr⟩ := szSys_cases (s := s) ⟨ha, hb, h1, h2, h3, h4, hc, hd, h5⟩ bigN_lt
  simp only [f_laws_FnExactSameCpu, e, Option.bind_some]
  rcases hr with hr | ⟨hr, hs⟩
  · rw [decide_eq_true hr, cond_true]
  · have hf := Nat.le_trans hs.small.tasks big_le
    have hf2 := Nat.le_trans hs.small.locks big_le
    have hf3 := Nat.lt_of_le_of_lt hs.small.tasks bigN_lt
    rw [decide_eq_false hr, cond_false]
    simp only [laws_toSys_eq hs.small bigN_lt big_le, Option.bind_some, dnSys_up, spec_SameCpu_eq hf3 hf hf2, impl_SameCpu_eq hf3 hf hf2, beq_self_eq_true, laws_eqSys_eq hs.small bigN_lt big_le, decide_true, Bool.not_true, cond_false]
theorem law_FnExactPick (ts : List Task) (ls : List Lock) (cpu : Int) (h1 : wfL .task ts) (h2 : wfL .lock ls) (hp : i64ok cpu) : ∃ n, f_laws_FnExactPick n ts ls cpu = some (true, ()) := by
  refine ⟨bigN, ?_⟩
  obtain ⟨r, e, hr⟩ := szTL_cases h1 h2 bigN_lt
  simp only [f_laws_FnExactPick, e, Option.bind_some]
  rcases hr with hr | ⟨hr, r2, e2, hr2⟩
  · rw [decide_eq_true hr, cond_true]
  · rw [decide_eq_false hr, cond_false, e2, Option.bind_some]
    rcases hr2 with hr2 | ⟨hr2, hs⟩
    · rw [decide_eq_true hr2, cond_true]
    · have hf := Nat.le_trans hs.tasks big_le
      have hf2 := Nat.le_trans hs.locks.len big_le
      have hf3 := Nat.lt_of_le_of_lt hs.tasks bigN_lt
      have hf4 := Nat.lt_of_le_of_lt hs.locks.len bigN_lt
      have hw : ∀ x ∈ ls, x.Waits.length < bigN ∧ x.Waits.length ≤ lim := fun x hx => ⟨Nat.lt_of_le_of_lt (wf_waits h2 x hx) bigN_lt, Nat.le_trans (wf_waits h2 x hx) big_le⟩
      rw [decide_eq_false hr2, cond_false]
      simp only [laws_toTaskS_eq hf3 hf, laws_toLockS_eq hf4 hf2 hw, Option.bind_some, spec_Pick_eq hs bigN_lt2 big_le2, impl_Pick_eq hs bigN_lt2 big_le2, not_dec_self, laws_eqTaskS_eq hf3 hf, laws_eqLockS_eq hf4 hf2 hw, decide_true, Bool.not_true, cond_false]
end Go.Proofs.Ytoedeimpfbebpaa.VR
