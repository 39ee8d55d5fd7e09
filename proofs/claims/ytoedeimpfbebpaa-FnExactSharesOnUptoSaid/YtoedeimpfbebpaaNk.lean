/- A system that is right: both programs' tests. -/
import Derived.Test.YtoedeimpfbebpaaNi
import Derived.Test.YtoedeimpfbebpaaNj
import Derived.Test.YtoedeimpfbebpaaNs
import Derived.Test.YtoedeimpfbebpaaG11
set_option linter.unusedVariables false
set_option linter.unusedSimpArgs false
namespace Go.Proofs.Ytoedeimpfbebpaa.VR
open Go
theorem contains_of {β : Type} (xs : List β) (p : β → Bool) : ((some (idx (xs.findIdx? p), ()) : Option (Int × Unit)).bind fun r1 => some ((decide (0 ≤ r1.1)), ())) = some (xs.any p, ()) := by
  rw [Option.bind_some, idx_ge, List.findIdx?_isSome]
theorem find_end {β : Type} (xs : List β) (p : β → Bool) : (match xs.findIdx? p with | some i => some ((i : Int), ()) | none => some (-1, ()) : Option (Int × Unit)) = some (idx (xs.findIdx? p), ()) := by
  cases xs.findIdx? p <;> rfl
theorem contains_m {β : Type} (xs : List β) (p : β → Bool) : ((match xs.findIdx? p with | some i => some ((i : Int), ()) | none => some (-1, ()) : Option (Int × Unit)).bind fun r1 => some ((decide (0 ≤ r1.1)), ())) = some (xs.any p, ()) := by
  rw [find_end, contains_of]
theorem gate {P Q : Prop} [Decidable P] [Decidable Q] {X : Option (Bool × Unit)} (hn : Q → P) (h : P → X = some (decide Q, ())) : cond (!decide P) (some (false, ())) X = some (decide Q, ()) := by
  by_cases hp : P
  · rw [decide_eq_true hp]; exact h hp
  · rw [decide_eq_false hp, decide_eq_false (fun q => hp (hn q))]; rfl
theorem gate' {P Q : Prop} [Decidable P] [Decidable Q] {X : Option (Bool × Unit)} (hn : Q → ¬ P) (h : ¬ P → X = some (decide Q, ())) : cond (decide P) (some (false, ())) X = some (decide Q, ()) := by
  by_cases hp : P
  · rw [decide_eq_true hp, decide_eq_false (fun q => hn q hp)]; rfl
  · rw [decide_eq_false hp]; exact h hp
theorem gateB {b : Bool} {Q : Prop} [Decidable Q] {X : Option (Bool × Unit)} (hn : Q → b = true) (h : b = true → X = some (decide Q, ())) : cond (!b) (some (false, ())) X = some (decide Q, ()) := by
  cases hb : b with
  | true => exact h hb
  | false => rw [decide_eq_false (fun q => by rw [hn q] at hb; cases hb)]; rfl
theorem gateB' {b : Bool} {Q : Prop} [Decidable Q] {X : Option (Bool × Unit)} (hn : Q → b = false) (h : b = false → X = some (decide Q, ())) : cond b (some (false, ())) X = some (decide Q, ()) := by
  cases hb : b with
  | false => exact h hb
  | true => rw [decide_eq_false (fun q => by rw [hn q] at hb; cases hb)]; rfl
theorem gatec {P Q : Prop} [Decidable P] [Decidable Q] {X : Option (Bool × Unit)} (hn : Q → P) (h : P → X = some (decide Q, ())) : cond (decide P) X (some (false, ())) = some (decide Q, ()) := by
  by_cases hp : P
  · rw [decide_eq_true hp]; exact h hp
  · rw [decide_eq_false hp, decide_eq_false (fun q => hp (hn q))]; rfl
theorem gateBc {b : Bool} {Q : Prop} [Decidable Q] {X : Option (Bool × Unit)} (hn : Q → b = false) (h : b = false → X = some (decide Q, ())) : cond (!b) X (some (false, ())) = some (decide Q, ()) := by
  cases hb : b with
  | false => exact h hb
  | true => rw [decide_eq_false (fun q => by rw [hn q] at hb; cases hb)]; rfl
def lockOn (ts : List Task) (k : Lock) : Bool := decide (k.Owner = 0) || ((taskIdx ts k.Owner).isSome && k.Waits.all fun y => (taskIdx ts y).isSome && decide ((taskOf ts y).Cpu = (taskOf ts k.Owner).Cpu))
theorem taskOf_some {ts : List Task} {no : Int} {i : Nat} (h : taskIdx ts no = some i) : taskOf ts no = ts.getD i (Kd.dflt .task) := by unfold taskOf; rw [h]
theorem taskOf_mem {ts : List Task} {no : Int} {i : Nat} (h : taskIdx ts no = some i) : taskOf ts no ∈ ts := by
  rw [taskOf_some h, getD_nat (taskIdx_some h).1]; exact List.getElem_mem _
theorem impl_lockOn_eq {ts : List Task} {k : Lock} {n : Nat} (hn : ts.length < n) (hb : ts.length ≤ lim) (hw : k.Waits.length + 1 < n) (hwb : k.Waits.length + 1 ≤ lim) (hc : ∀ t ∈ ts, 0 ≤ t.Cpu) (h0 : k.Owner = 0 → k.Waits = []) (hnz : ∀ y ∈ k.Waits, y ≠ 0) : f_impl_lockOn n ts k = some (lockOn ts k, ()) := by
  unfold f_impl_lockOn lockOn
  have e0 : decide (([k.Owner] : List Int).length + (k.Waits).length ≤ lim) = true := decide_eq_true (by simp; omega)
  rw [e0, cond_true]
  obtain ⟨m, rfl⟩ : ∃ m, n = m + 1 := ⟨n - 1, by omega⟩
  have hL : (([k.Owner] : List Int) ++ k.Waits) = k.Owner :: k.Waits := rfl
  have hlen : (k.Owner :: k.Waits).length = k.Waits.length + 1 := rfl
  have hz : decide ((0 : Int) < ((k.Owner :: k.Waits).length : Int)) = true := decide_eq_true (by rw [hlen]; omega)
  have hz2 : decide ((0 : Int) ≤ 0) = true := by decide
  rw [hL]
  by_cases ho : k.Owner = 0
  · rw [decide_eq_true ho, Bool.true_or, h0 ho, ho]
    obtain ⟨q, rfl⟩ : ∃ q, m = q + 1 := ⟨m - 1, by omega⟩
    simp [l_impl_lockOn_0, w64_id]
  · rw [decide_eq_false ho, Bool.false_or]
    rw [l_impl_lockOn_0, hz, hz2, cond_true, Bool.and_self, cond_true]
    have hg : List.getD (k.Owner :: k.Waits) (Int.toNat 0) (Kd.dflt .int) = k.Owner := rfl
    rw [hg, decide_eq_false ho, cond_false, impl_TaskAt_eq hn hb, Option.bind_some]
    cases e : taskIdx ts k.Owner with
    | none => rfl
    | some i =>
      obtain ⟨hi, _⟩ := taskIdx_some e
      have n1 : decide ((0 : Int) ≤ -1) = false := by decide
      have w1 : w64 (0 + 1) = 1 := w64_id (by omega) (by omega)
      have z1 : ¬ ((i : Int) < 0) := by omega
      have z2 : (0 : Int) ≤ (i : Int) := by omega
      have z3 : (i : Int) < (ts.length : Int) := by omega
      simp only [idx, z1, z2, z3, decide_true, decide_false, cond_false, n1, Bool.and_self, cond_true, w1, Int.toNat_natCast, Option.isSome_some, Bool.true_and]
      rw [← taskOf_some e]
      have := all_loop (l := fun m' j => l_impl_lockOn_0 (m + 1) m' ts (taskOf ts k.Owner).Cpu (k.Owner :: k.Waits) ((k.Owner :: k.Waits).length : Int) (j + 1) (some (false, ())) (some (true, ()))) (xs := k.Waits)
        (p := fun y => (taskIdx ts y).isSome && decide ((taskOf ts y).Cpu = (taskOf ts k.Owner).Cpu)) (k0 := some (false, ())) (k1 := some (true, ()))
        (fun m' => by
          have : decide ((k.Waits.length : Int) + 1 < ((k.Owner :: k.Waits).length : Int)) = false := decide_eq_false (by rw [hlen]; omega)
          simp only [l_impl_lockOn_0, this, cond_false])
        (fun m' j hj => by
          have hj1 : ((j : Int) + 1) = ((j + 1 : Nat) : Int) := rfl
          have hj2 : j + 1 < (k.Owner :: k.Waits).length := by rw [hlen]; omega
          have hy : ¬ k.Waits[j] = 0 := hnz _ (List.getElem_mem hj)
          have hget : (k.Owner :: k.Waits)[j + 1] = k.Waits[j] := rfl
          have hcp : decide (0 ≤ (taskOf ts k.Owner).Cpu) = true := decide_eq_true (hc _ (taskOf_mem e))
          simp only [l_impl_lockOn_0, hj1, lt_t hj2, ge_t, Bool.and_self, cond_true, getD_at hj2, hget, decide_eq_false hy, cond_false, impl_TaskAt_eq hn hb, Option.bind_some, hcp, wsucc (Nat.lt_trans hj2 (lim_lm (show (k.Owner :: k.Waits).length ≤ lim by rw [hlen]; omega)))]
          cases e2 : taskIdx ts k.Waits[j] with
          | none => rfl
          | some q =>
            obtain ⟨hq, _⟩ := taskIdx_some e2
            have z1 : ¬ ((q : Int) < 0) := by omega
            have z2 : (0 : Int) ≤ (q : Int) := by omega
            have z3 : (q : Int) < (ts.length : Int) := by omega
            simp only [idx, z1, z2, z3, decide_true, decide_false, cond_false, Bool.and_self, cond_true, Int.toNat_natCast, Option.isSome_some, Bool.true_and]
            simp only [← taskOf_some e2]
            by_cases hcc : (taskOf ts k.Waits[j]).Cpu = (taskOf ts k.Owner).Cpu
            · simp only [hcc, decide_true, Bool.not_true, cond_false, cond_true]; rfl
            · simp only [hcc, decide_false, Bool.not_false, cond_false, cond_true]) (m := m) (by omega)
      have e01 : ((0 : Int) + 1) = 1 := rfl
      simp only [e01] at this
      rw [this]
      cases k.Waits.all fun y => (taskIdx ts y).isSome && decide ((taskOf ts y).Cpu = (taskOf ts k.Owner).Cpu) <;> rfl
def LocksOn (s : Sys) : Prop := s.Locks.length = 5 ∧ LocksOk s.Locks ∧ ∀ k ∈ s.Locks, lockOn s.Tasks k = true
instance (s : Sys) : Decidable (LocksOn s) := by unfold LocksOn; infer_instance
theorem spec_l9Locks_eq {s : Sys} {B n : Nat} (h : TLB B s.Tasks s.Locks) (hn : B + 2 < n) (hb : B + 2 ≤ lim) : f_spec_l9Locks n s = some (decide (LocksOn s), ()) := by
  have ht := h.tasks
  have hlk := h.locks.len
  unfold f_spec_l9Locks
  refine gate (P := ((s.Locks.length : Int) = 5)) (fun q => by have := q.1; omega) fun h5 => ?_
  rw [spec_LocksOk_eq h.locks hn hb, Option.bind_some]
  refine gate (P := LocksOk s.Locks) (fun q => q.2.1) fun hl => ?_
  have := all_loop (l := fun m i => l_spec_l9Locks_0 n m s i (some (false, ())) (some (true, ()))) (xs := s.Locks) (p := lockOn s.Tasks) (k0 := some (false, ())) (k1 := some (true, ()))
    (fun m => by simp only [l_spec_l9Locks_0, lt_f, cond_false])
    (fun m i hi => by
      have hw := h.locks.small.waits s.Locks[i] (List.getElem_mem hi)
      simp only [l_spec_l9Locks_0, lt_t hi, ge_t, Bool.and_self, cond_true, getD_at hi, spec_TaskAt_eq (show s.Tasks.length < n by omega) (show s.Tasks.length ≤ lim by omega), Option.bind_some, wsucc (Nat.lt_trans hi (lim_lm (show s.Locks.length ≤ lim by omega)))]
      unfold lockOn
      by_cases ho : s.Locks[i].Owner = 0
      · rw [decide_eq_true ho]; rfl
      · rw [decide_eq_false ho, cond_false, Bool.false_or]
        cases e : taskIdx s.Tasks s.Locks[i].Owner with
        | none => rfl
        | some q =>
          obtain ⟨hq, _⟩ := taskIdx_some e
          have y1 : ¬ ((q : Int) < 0) := by omega
          simp only [idx, y1, decide_false, cond_false, Option.isSome_some, Bool.true_and]
          have := all_loop (l := fun m' j => l_spec_l9Locks_1 n m' s (i : Int) s.Locks[i] (q : Int) j (some (false, ())) (l_spec_l9Locks_0 n m s ((i + 1 : Nat) : Int) (some (false, ())) (some (true, ())))) (xs := s.Locks[i].Waits)
            (p := fun y => (taskIdx s.Tasks y).isSome && decide ((taskOf s.Tasks y).Cpu = (taskOf s.Tasks s.Locks[i].Owner).Cpu)) (k0 := some (false, ())) (k1 := l_spec_l9Locks_0 n m s ((i + 1 : Nat) : Int) (some (false, ())) (some (true, ())))
            (fun m' => by simp only [l_spec_l9Locks_1, lt_f, cond_false])
            (fun m' j hj => by
              simp only [l_spec_l9Locks_1, lt_t hj, ge_t, Bool.and_self, cond_true, getD_at hj, spec_TaskAt_eq (show s.Tasks.length < n by omega) (show s.Tasks.length ≤ lim by omega), Option.bind_some, wsucc (Nat.lt_trans hj (lim_lm (show s.Locks[i].Waits.length ≤ lim by omega)))]
              cases e2 : taskIdx s.Tasks s.Locks[i].Waits[j] with
              | none => rfl
              | some r =>
                obtain ⟨hr, _⟩ := taskIdx_some e2
                have z1 : ¬ ((r : Int) < 0) := by omega
                have z2 : (0 : Int) ≤ (r : Int) := by omega
                have z3 : (r : Int) < (s.Tasks.length : Int) := by omega
                have z4 : (0 : Int) ≤ (q : Int) := by omega
                have z5 : (q : Int) < (s.Tasks.length : Int) := by omega
                simp only [idx, z1, z2, z3, z4, z5, decide_true, decide_false, cond_false, Bool.and_self, cond_true, Int.toNat_natCast, Option.isSome_some, Bool.true_and]
                simp only [← taskOf_some e2, ← taskOf_some e]
                by_cases hcc : (taskOf s.Tasks s.Locks[i].Waits[j]).Cpu = (taskOf s.Tasks s.Locks[i].Owner).Cpu
                · simp only [hcc, decide_true, Bool.not_true, cond_false, cond_true]
                · simp only [hcc, decide_false, Bool.not_false, cond_false, cond_true]) (m := n) (by omega)
          exact this) (m := n) (by omega)
  rw [this]
  cases e : s.Locks.all (lockOn s.Tasks) with
  | true => rw [decide_eq_true (p := LocksOn s) ⟨by omega, hl, List.all_eq_true.1 e⟩]; rfl
  | false => rw [decide_eq_false (p := LocksOn s) (fun q => by rw [List.all_eq_true.2 q.2.2] at e; cases e)]; rfl
def GhostOk (cpus : Int) (g : Ghost) : Prop := (0 ≤ g.Cpu ∧ g.Cpu ≤ cpus - 1) ∧ ShareOk g.S ∧ 0 ≤ g.Until ∧ g.Until ≤ 100040
instance (c : Int) (g : Ghost) : Decidable (GhostOk c g) := by unfold GhostOk; infer_instance
theorem impl_ghostOk_eq {g : Ghost} {c : Int} (hc : 1 ≤ c ∧ c ≤ 4) : f_impl_ghostOk g c = some (decide (GhostOk c g), ()) := by
  have e : w64 (c - 1) = c - 1 := w64_id (by omega) (by omega)
  simp only [f_impl_ghostOk, e, impl_in_eq, impl_ShareOk_eq, impl_isUntil_eq, Option.bind_some, cond_some]
  exact some_iff (by simp [cond_iff, GhostOk])
def GhostsOk (s : Sys) : Prop := s.Ghosts.length ≤ 12 ∧ ∀ g ∈ s.Ghosts, GhostOk s.Cpus g
instance (s : Sys) : Decidable (GhostsOk s) := by unfold GhostsOk; infer_instance
theorem spec_l9Ghosts_eq {s : Sys} {n : Nat} (hc : 1 ≤ s.Cpus ∧ s.Cpus ≤ 4) (hn : s.Ghosts.length < n) (hb : s.Ghosts.length ≤ lim) : f_spec_l9Ghosts n s = some (decide (GhostsOk s), ()) := by
  have e : w64 (s.Cpus - 1) = s.Cpus - 1 := w64_id (by omega) (by omega)
  unfold f_spec_l9Ghosts
  have := all_loop (l := fun m i => l_spec_l9Ghosts_0 n m s i (some (false, ())) (some ((decide ((s.Ghosts.length : Int) ≤ 12)), ()))) (xs := s.Ghosts) (p := fun g => decide (GhostOk s.Cpus g)) (k0 := some (false, ())) (k1 := some ((decide ((s.Ghosts.length : Int) ≤ 12)), ()))
    (fun m => by simp only [l_spec_l9Ghosts_0, lt_f, cond_false])
    (fun m i hi => by
      simp only [l_spec_l9Ghosts_0, lt_t hi, ge_t, Bool.and_self, cond_true, getD_at hi, spec_l1In_eq, spec_ShareOk_eq, e, Option.bind_some, wsucc (Nat.lt_trans hi (lim_lm hb))]
      by_cases h1 : 0 ≤ s.Ghosts[i].Cpu ∧ s.Ghosts[i].Cpu ≤ s.Cpus - 1
      · by_cases h2 : ShareOk s.Ghosts[i].S
        · by_cases h3 : 0 ≤ s.Ghosts[i].Until ∧ s.Ghosts[i].Until ≤ 100040
          · rw [decide_eq_true h1, decide_eq_true h2, decide_eq_true h3, decide_eq_true (p := GhostOk s.Cpus s.Ghosts[i]) ⟨h1, h2, h3⟩]; rfl
          · rw [decide_eq_true h1, decide_eq_true h2, decide_eq_false h3, decide_eq_false (p := GhostOk s.Cpus s.Ghosts[i]) (fun q => h3 q.2.2)]; rfl
        · rw [decide_eq_true h1, decide_eq_false h2, decide_eq_false (p := GhostOk s.Cpus s.Ghosts[i]) (fun q => h2 q.2.1)]; rfl
      · rw [decide_eq_false h1, decide_eq_false (p := GhostOk s.Cpus s.Ghosts[i]) (fun q => h1 q.1)]; rfl) (m := n) hn
  rw [this]
  cases e : s.Ghosts.all fun g => decide (GhostOk s.Cpus g) with
  | true =>
    have h1 : ∀ g ∈ s.Ghosts, GhostOk s.Cpus g := fun g hg => by simpa using List.all_eq_true.1 e g hg
    rw [cond_true]
    exact some_iff (by rw [decide_eq_true_iff]; exact ⟨fun h => ⟨by omega, h1⟩, fun h => by have := h.1; omega⟩)
  | false =>
    rw [decide_eq_false (p := GhostsOk s) (fun q => by rw [List.all_eq_true.2 (fun g hg => decide_eq_true (q.2 g hg))] at e; cases e)]; rfl
/-- A system that is right. -/
structure SysOk (s : Sys) : Prop where
  now : 0 ≤ s.Now ∧ s.Now ≤ 100000
  cpus : 1 ≤ s.Cpus ∧ s.Cpus ≤ 4
  tasks : TasksOk s.Tasks
  tcpu : ∀ t ∈ s.Tasks, t.Cpu < s.Cpus
  locks : LocksOn s
  ghosts : GhostsOk s
  fits : ∀ c, c < s.Cpus.toNat → fitsB (sharesOn s (c : Int)) = true
  flen : (s.Floors.length : Int) = s.Cpus
  floors : ∀ f ∈ s.Floors, 0 ≤ f ∧ f ≤ 100000000
  seq : 0 ≤ s.Seq ∧ s.Seq ≤ 1000000
  missed : 0 ≤ s.Missed ∧ s.Missed ≤ 100000
  trace : s.Trace.length ≤ 400
theorem sysOk_iff (s : Sys) : SysOk s ↔ (0 ≤ s.Now ∧ s.Now ≤ 100000) ∧ (1 ≤ s.Cpus ∧ s.Cpus ≤ 4) ∧ TasksOk s.Tasks ∧ (∀ t ∈ s.Tasks, t.Cpu < s.Cpus) ∧ LocksOn s ∧ GhostsOk s ∧ (∀ c, c < s.Cpus.toNat → fitsB (sharesOn s (c : Int)) = true) ∧ ((s.Floors.length : Int) = s.Cpus) ∧
    (∀ f ∈ s.Floors, 0 ≤ f ∧ f ≤ 100000000) ∧ (0 ≤ s.Seq ∧ s.Seq ≤ 1000000) ∧ (0 ≤ s.Missed ∧ s.Missed ≤ 100000) ∧ s.Trace.length ≤ 400 :=
  ⟨fun h => ⟨h.1, h.2, h.3, h.4, h.5, h.6, h.7, h.8, h.9, h.10, h.11, h.12⟩, fun ⟨a, b, c, d, e, f, g, h, i, j, k, l⟩ => ⟨a, b, c, d, e, f, g, h, i, j, k, l⟩⟩
instance (s : Sys) : Decidable (SysOk s) := decidable_of_iff _ (sysOk_iff s).symm
def SN (n : Nat) : Prop := GN + big + big + 3 < n
theorem loop_all {R : Type} {l : Nat → Nat → R} {len : Nat} {P : Nat → Prop} [DecidablePred P] {k0 k1 : R} (hend : ∀ m, l (m + 1) len = k1) (hstep : ∀ m i, i < len → l (m + 1) i = if P i then l m (i + 1) else k0) {m : Nat} (hm : len < m) :
    l m 0 = if (∀ i, i < len → P i) then k1 else k0 := by
  by_cases h : ∀ i, i < len → P i
  · rw [if_pos h]
    exact loop_to (l := l) (fun _ => True) trivial (fun m _ => hend m) (fun m i hi _ => .inl ⟨by rw [hstep m i hi, if_pos (h i hi)], trivial⟩) hm
  · rw [if_neg h]
    refine loop_to (l := l) (fun i => ∀ j, j < i → P j) (fun j hj => absurd hj (Nat.not_lt_zero j)) (fun m hI => absurd hI h) (fun m i hi hI => ?_) hm
    rw [hstep m i hi]
    by_cases hr : P i
    · rw [if_pos hr]
      exact .inl ⟨rfl, fun j hj => by
        by_cases e : j = i
        · subst e; exact hr
        · exact hI j (by omega)⟩
    · rw [if_neg hr]; exact .inr rfl
theorem spec_SysOk_eq {s : Sys} {n : Nat} (h : SysB s) (hn : SN n) : f_spec_SysOk n s = some (decide (SysOk s), ()) := by
  have e1 : big = 1048576 := rfl
  have e2 : 10000000 ≤ lim := by unfold lim; omega
  have ht := h.small.tasks
  have hg := h.small.ghosts
  have hf := h.small.floors
  unfold SN at hn
  simp only [f_spec_SysOk, spec_l1In_eq, Option.bind_some]
  refine gate (P := 0 ≤ s.Now ∧ s.Now ≤ 100000) (fun q => q.now) fun h1 => ?_
  refine gate (P := 1 ≤ s.Cpus ∧ s.Cpus ≤ 4) (fun q => q.cpus) fun h2 => ?_
  rw [spec_TasksOk_eq (show s.Tasks.length < n by omega) (show s.Tasks.length ≤ lim by omega), Option.bind_some]
  refine gate (P := TasksOk s.Tasks) (fun q => q.tasks) fun h3 => ?_
  rw [spec_l9Locks_eq h.tl (by omega) (by omega), Option.bind_some]
  refine gate (P := LocksOn s) (fun q => q.locks) fun h4 => ?_
  rw [spec_l9Ghosts_eq h2 (by omega) (by omega), Option.bind_some]
  refine gate (P := GhostsOk s) (fun q => q.ghosts) fun h5 => ?_
  refine gate (P := (s.Floors.length : Int) = s.Cpus) (fun q => q.flen) fun h6 => ?_
  refine gate (P := 0 ≤ s.Seq ∧ s.Seq ≤ 1000000) (fun q => q.seq) fun h7 => ?_
  refine gate (P := 0 ≤ s.Missed ∧ s.Missed ≤ 100000) (fun q => q.missed) fun h8 => ?_
  refine gate' (P := (400 : Int) < (s.Trace.length : Int)) (fun q => by have := q.trace; omega) fun h9 => ?_
  have q1 := all_loop (l := fun m i => l_spec_SysOk_0 n m s i (some (false, ())) (l_spec_SysOk_1 n n s 0 (some (false, ())) (some (true, ())))) (xs := s.Tasks) (p := fun t => !decide (s.Cpus ≤ t.Cpu)) (k0 := some (false, ())) (k1 := l_spec_SysOk_1 n n s 0 (some (false, ())) (some (true, ())))
    (fun m => by simp only [l_spec_SysOk_0, lt_f, cond_false])
    (fun m i hi => by
      simp only [l_spec_SysOk_0, lt_t hi, ge_t, Bool.and_self, cond_true, getD_at hi, wsucc (Nat.lt_trans hi (lim_lm (show s.Tasks.length ≤ lim by omega)))]
      cases decide (s.Cpus ≤ s.Tasks[i].Cpu) <;> rfl) (m := n) (by omega)
  refine q1.trans ?_
  have q2 := loop_all (l := fun m i => l_spec_SysOk_1 n m s (i : Int) (some (false, ())) (some (true, ()))) (len := s.Floors.length) (P := fun i => (0 ≤ s.Floors.getD i 0 ∧ s.Floors.getD i 0 ≤ 100000000) ∧ fitsB (sharesOn s (i : Int)) = true) (k0 := some (false, ())) (k1 := some (true, ()))
    (fun m => by
      have : ¬ ((s.Floors.length : Int) < s.Cpus) := by omega
      simp only [l_spec_SysOk_1, decide_eq_false this, cond_false])
    (fun m i hi => by
      have hlt : (i : Int) < s.Cpus := by omega
      have hsl := sharesOn_le s (i : Int)
      simp only [l_spec_SysOk_1, decide_eq_true hlt, lt_t hi, ge_t, Bool.and_self, cond_true, getD_at hi, spec_l1In_eq, spec_l9Shares_eq (show s.Tasks.length + s.Ghosts.length < n by omega) (show s.Tasks.length + s.Ghosts.length ≤ lim by omega), Option.bind_some,
        spec_Fits_eq (l := sharesOn s (i : Int)) (n := n) (by omega) (by omega), wsucc (Nat.lt_trans hi (lim_lm (show s.Floors.length ≤ lim by omega))), getD_nat hi]
      by_cases c1 : 0 ≤ s.Floors[i] ∧ s.Floors[i] ≤ 100000000
      · rw [decide_eq_true c1]
        cases c2 : fitsB (sharesOn s (i : Int)) with
        | true => rw [if_pos ⟨c1, rfl⟩]; rfl
        | false => rw [if_neg (fun q => by cases q.2)]; rfl
      · rw [decide_eq_false c1, if_neg (fun q => c1 q.1)]; rfl) (m := n) (by omega)
  cases ea : s.Tasks.all fun t => !decide (s.Cpus ≤ t.Cpu) with
  | false =>
    rw [decide_eq_false (fun q : SysOk s => by
      rw [List.all_eq_true.2 (fun t ht => by have := q.tcpu t ht; simp; omega)] at ea; cases ea)]; rfl
  | true =>
    have ha : ∀ t ∈ s.Tasks, t.Cpu < s.Cpus := fun t ht => by have := List.all_eq_true.1 ea t ht; simp at this; omega
    rw [cond_true]
    refine q2.trans ?_
    by_cases hall : ∀ i, i < s.Floors.length → (0 ≤ s.Floors.getD i 0 ∧ s.Floors.getD i 0 ≤ 100000000) ∧ fitsB (sharesOn s (i : Int)) = true
    · rw [if_pos hall, decide_eq_true (⟨h1, h2, h3, ha, h4, h5, fun c hc => (hall c (by omega)).2, h6, fun f hf => by
        obtain ⟨i, hi, rfl⟩ := List.getElem_of_mem hf
        have := (hall i hi).1
        rw [getD_nat hi] at this; exact this, h7, h8, by omega⟩ : SysOk s)]
    · rw [if_neg hall, decide_eq_false (fun q : SysOk s => hall fun i hi => ⟨by rw [getD_nat hi]; exact q.floors _ (List.getElem_mem hi), q.fits i (by omega)⟩)]
theorem impl_SysOk_eq {s : Sys} {n : Nat} (h : SysB s) (hn : SN n) : f_impl_SysOk n s = some (decide (SysOk s), ()) := by
  have e1 : big = 1048576 := rfl
  have e2 : 10000000 ≤ lim := by unfold lim; omega
  have ht := h.small.tasks
  have hg := h.small.ghosts
  have hf := h.small.floors
  have hlk := h.small.locks
  unfold SN at hn
  have c1 : f_slices_ContainsFunc_Task_SysOk_1 n s.Tasks s = some (s.Tasks.any fun t => decide (s.Cpus ≤ t.Cpu), ()) := by
    unfold f_slices_ContainsFunc_Task_SysOk_1 f_slices_IndexFunc_Task_SysOk_1
    have := find_loop (l := fun m i => l_slices_IndexFunc_Task_SysOk_1_0 n m s.Tasks s (s.Tasks.length : Int) i (fun w5 => some (w5, ())) (some (-1, ()))) (xs := s.Tasks) (p := fun t => decide (s.Cpus ≤ t.Cpu)) (k0 := fun w5 => some (w5, ())) (k1 := some (-1, ()))
      (fun m => by simp only [l_slices_IndexFunc_Task_SysOk_1_0, lt_f, cond_false])
      (fun m i hi => by simp only [l_slices_IndexFunc_Task_SysOk_1_0, lt_t hi, ge_t, Bool.and_self, cond_true, getD_at hi, f_impl_SysOk_1, Option.bind_some, wsucc (Nat.lt_trans hi (lim_lm (show s.Tasks.length ≤ lim by omega)))]) (m := n) (by omega)
    rw [this]; exact contains_m _ _
  have c4 : f_slices_ContainsFunc_int_SysOk_4 n s.Floors = some (s.Floors.any fun f => !decide (0 ≤ f ∧ f ≤ 100000000), ()) := by
    unfold f_slices_ContainsFunc_int_SysOk_4 f_slices_IndexFunc_int_SysOk_4
    have := find_loop (l := fun m i => l_slices_IndexFunc_int_SysOk_4_0 n m s.Floors (s.Floors.length : Int) i (fun w5 => some (w5, ())) (some (-1, ()))) (xs := s.Floors) (p := fun f => !decide (0 ≤ f ∧ f ≤ 100000000)) (k0 := fun w5 => some (w5, ())) (k1 := some (-1, ()))
      (fun m => by simp only [l_slices_IndexFunc_int_SysOk_4_0, lt_f, cond_false])
      (fun m i hi => by simp only [l_slices_IndexFunc_int_SysOk_4_0, lt_t hi, ge_t, Bool.and_self, cond_true, getD_at hi, f_impl_SysOk_4, impl_in_eq, Option.bind_some, wsucc (Nat.lt_trans hi (lim_lm (show s.Floors.length ≤ lim by omega)))]) (m := n) (by omega)
    rw [this]; exact contains_m _ _
  simp only [f_impl_SysOk, impl_isTime_eq, impl_isSeq_eq, impl_in_eq, Option.bind_some]
  refine gate (P := 0 ≤ s.Now ∧ s.Now ≤ 100000) (fun q => q.now) fun h1 => ?_
  refine gate (P := 1 ≤ s.Cpus ∧ s.Cpus ≤ 4) (fun q => q.cpus) fun h2 => ?_
  rw [impl_TasksOk_eq (show s.Tasks.length < n by omega) (show s.Tasks.length ≤ lim by omega), Option.bind_some]
  refine gate (P := TasksOk s.Tasks) (fun q => q.tasks) fun h3 => ?_
  rw [c1, Option.bind_some]
  refine gateB' (fun q => by
    rw [List.any_eq_false]; intro t ht; have := q.tcpu t ht; simp; omega) fun h4 => ?_
  have ha : ∀ t ∈ s.Tasks, t.Cpu < s.Cpus := fun t ht => by
    rw [List.any_eq_false] at h4; have := h4 t ht; simp at this; omega
  refine gate (P := (s.Locks.length : Int) = 5) (fun q => by have := q.locks.1; omega) fun h5 => ?_
  rw [impl_LocksOk_eq h.tl.locks (show big + 2 < n by omega) (by omega), Option.bind_some]
  refine gate (P := LocksOk s.Locks) (fun q => q.locks.2.1) fun h6 => ?_
  have c2 : f_slices_ContainsFunc_Lock_SysOk_2 n s.Locks s = some (s.Locks.any fun k => !lockOn s.Tasks k, ()) := by
    unfold f_slices_ContainsFunc_Lock_SysOk_2 f_slices_IndexFunc_Lock_SysOk_2
    have := find_loop (l := fun m i => l_slices_IndexFunc_Lock_SysOk_2_0 n m s.Locks s (s.Locks.length : Int) i (fun w5 => some (w5, ())) (some (-1, ()))) (xs := s.Locks) (p := fun k => !lockOn s.Tasks k) (k0 := fun w5 => some (w5, ())) (k1 := some (-1, ()))
      (fun m => by simp only [l_slices_IndexFunc_Lock_SysOk_2_0, lt_f, cond_false])
      (fun m i hi => by
        have hk := List.getElem_mem hi
        have hw := h.small.waits _ hk
        simp only [l_slices_IndexFunc_Lock_SysOk_2_0, lt_t hi, ge_t, Bool.and_self, cond_true, getD_at hi, f_impl_SysOk_2,
          impl_lockOn_eq (ts := s.Tasks) (k := s.Locks[i]) (n := n) (by omega) (by omega) (by omega) (by omega) (fun t ht => (h3.each t ht).cpu.1) (h6.own _ hk).2 (fun y hy => by have := (h6.nos y (List.mem_flatMap.2 ⟨_, hk, hy⟩)).1; omega),
          Option.bind_some, wsucc (Nat.lt_trans hi (lim_lm (show s.Locks.length ≤ lim by omega)))]) (m := n) (by omega)
    rw [this]; exact contains_m _ _
  rw [c2, Option.bind_some]
  refine gateB' (fun q => by
    rw [List.any_eq_false]; intro k hk; have := q.locks.2.2 k hk; simp [this]) fun h7 => ?_
  have hlo : LocksOn s := ⟨by omega, h6, fun k hk => by
    rw [List.any_eq_false] at h7; have := h7 k hk; simpa using this⟩
  refine gate' (P := (12 : Int) < (s.Ghosts.length : Int)) (fun q => by have := q.ghosts.1; omega) fun h8 => ?_
  have c3 : f_slices_ContainsFunc_Ghost_SysOk_3 n s.Ghosts s = some (s.Ghosts.any fun g => !decide (GhostOk s.Cpus g), ()) := by
    unfold f_slices_ContainsFunc_Ghost_SysOk_3 f_slices_IndexFunc_Ghost_SysOk_3
    have := find_loop (l := fun m i => l_slices_IndexFunc_Ghost_SysOk_3_0 n m s.Ghosts s (s.Ghosts.length : Int) i (fun w5 => some (w5, ())) (some (-1, ()))) (xs := s.Ghosts) (p := fun g => !decide (GhostOk s.Cpus g)) (k0 := fun w5 => some (w5, ())) (k1 := some (-1, ()))
      (fun m => by simp only [l_slices_IndexFunc_Ghost_SysOk_3_0, lt_f, cond_false])
      (fun m i hi => by simp only [l_slices_IndexFunc_Ghost_SysOk_3_0, lt_t hi, ge_t, Bool.and_self, cond_true, getD_at hi, f_impl_SysOk_3, impl_ghostOk_eq h2, Option.bind_some, wsucc (Nat.lt_trans hi (lim_lm (show s.Ghosts.length ≤ lim by omega)))]) (m := n) (by omega)
    rw [this]; exact contains_m _ _
  rw [c3, Option.bind_some]
  refine gateB' (fun q => by
    rw [List.any_eq_false]; intro k hk; have := q.ghosts.2 k hk; simp [this]) fun h9 => ?_
  have hgo : GhostsOk s := ⟨by omega, fun k hk => by
    rw [List.any_eq_false] at h9; have := h9 k hk; simpa using this⟩
  obtain ⟨c, hc⟩ : ∃ c : Nat, s.Cpus = (c : Int) := ⟨s.Cpus.toNat, by omega⟩
  have q2 := loop_all (l := fun m i => l_impl_SysOk_0 n m s s.Cpus (i : Int) (some (false, ())) (cond (decide (((s.Floors).length : Int) = s.Cpus))
                       ((f_slices_ContainsFunc_int_SysOk_4 n s.Floors).bind fun r13 =>
                        cond (!r13.1)
                         (cond (decide (0 ≤ s.Seq ∧ s.Seq ≤ 1000000))
                           (cond (decide (0 ≤ s.Missed ∧ s.Missed ≤ 100000))
                             (some ((decide (((s.Trace).length : Int) ≤ 400)), ()))
                             (some (false, ())))
                           (some (false, ())))
                         (some (false, ())))
                       (some (false, ())))) (len := c) (P := fun i => fitsB (sharesOn s (i : Int)) = true) (k0 := some (false, ()))
    (fun m => by
      have : ¬ ((c : Int) < s.Cpus) := by omega
      simp only [l_impl_SysOk_0, decide_eq_false this, cond_false]
      rfl)
    (fun m i hi => by
      have hlt : (i : Int) < s.Cpus := by omega
      have hsl := sharesOn_le s (i : Int)
      simp only [l_impl_SysOk_0, decide_eq_true hlt, cond_true, impl_SharesOn_eq (show s.Tasks.length + s.Ghosts.length < n by omega) (show s.Tasks.length + s.Ghosts.length ≤ lim by omega), Option.bind_some,
        impl_Fits_eq (l := sharesOn s (i : Int)) (n := n) (by omega) (by omega), wsucc (show i < lmax by unfold lmax; omega)]
      cases fitsB (sharesOn s (i : Int)) <;> rfl) (m := n) (by omega)
  refine q2.trans ?_
  by_cases hall : ∀ i, i < c → fitsB (sharesOn s (i : Int)) = true
  · rw [if_pos hall, c4, Option.bind_some]
    by_cases h10 : (s.Floors.length : Int) = s.Cpus
    · rw [decide_eq_true h10, cond_true]
      refine gateBc (fun q => by
        rw [List.any_eq_false]; intro k hk; have := q.floors k hk; simp [this]) fun h11 => ?_
      refine gatec (P := 0 ≤ s.Seq ∧ s.Seq ≤ 1000000) (fun q => q.seq) fun h12 => ?_
      refine gatec (P := 0 ≤ s.Missed ∧ s.Missed ≤ 100000) (fun q => q.missed) fun h13 => ?_
      refine some_iff ?_
      rw [decide_eq_true_iff]
      exact ⟨fun h14 => ⟨h1, h2, h3, ha, hlo, hgo, fun i hi => hall i (by omega), h10, fun f hf => by
        rw [List.any_eq_false] at h11; have := h11 f hf; simpa using this, h12, h13, by omega⟩, fun q => by have := q.trace; omega⟩
    · rw [decide_eq_false h10, decide_eq_false (fun q : SysOk s => h10 q.flen)]; rfl
  · rw [if_neg hall, decide_eq_false (fun q : SysOk s => hall fun i hi => q.fits i (by omega))]
end Go.Proofs.Ytoedeimpfbebpaa.VR
