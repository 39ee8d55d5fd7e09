/- The laws' own functions: data taken over, data compared, sizes. -/
import Derived.Test.YtoedeimpfbebpaaNa
import Derived.Test.YtoedeimpfbebpaaG05
set_option linter.unusedVariables false
set_option linter.unusedSimpArgs false
namespace Go.Proofs.Ytoedeimpfbebpaa.VR
open Go
theorem set_fill {β : Type} {xs : List β} {d : β} {i : Nat} (h : i < xs.length) : List.set (xs.take i ++ List.replicate (xs.length - i) d) i xs[i] = xs.take (i + 1) ++ List.replicate (xs.length - (i + 1)) d := by
  have e : xs.length - i = (xs.length - (i + 1)) + 1 := by omega
  rw [e, List.replicate_succ, List.set_append_right _ _ (by simp; omega)]
  have : i - (xs.take i).length = 0 := by simp; omega
  rw [this, List.set_cons_zero, List.take_succ_eq_append_getElem h, List.append_assoc]; rfl
theorem fill_len {β : Type} {xs : List β} {d : β} {i : Nat} (h : i ≤ xs.length) : (xs.take i ++ List.replicate (xs.length - i) d).length = xs.length := by
  simp; omega
theorem lim_lmax {n : Nat} (h : n ≤ lim) : n < lmax := by unfold lim at h; unfold lmax; omega
theorem laws_toTurn_eq (t : Turn) : f_laws_toTurn t = some (upTurn t, ()) := rfl
theorem laws_toTask_eq (t : Task) : f_laws_toTask t = some (upTask t, ()) := rfl
theorem laws_toGhost_eq (t : Ghost) : f_laws_toGhost t = some (upGhost t, ()) := rfl
theorem laws_eqTurn_eq (a b : Turn) : f_laws_eqTurn a b = some (decide (a = b), ()) := by
  simp only [f_laws_eqTurn, cond_some]; refine some_iff ?_; cases a; cases b; simp [cond_iff]
theorem laws_eqShare_eq (a b : Share) : f_laws_eqShare a b = some (decide (a = b), ()) := by
  simp only [f_laws_eqShare, cond_some]; refine some_iff ?_; cases a; cases b; simp [cond_iff]
theorem laws_eqGhost_eq (a b : Ghost) : f_laws_eqGhost a b = some (decide (a = b), ()) := by
  simp only [f_laws_eqGhost, laws_eqShare_eq, Option.bind_some, cond_some]; refine some_iff ?_; cases a; cases b; simp [cond_iff]
theorem laws_eqTask_eq (a b : Task) : f_laws_eqTask a b = some (decide (a = b), ()) := by
  simp only [f_laws_eqTask, cond_some]; refine some_iff ?_; cases a; cases b; simp [cond_iff]

theorem laws_toTurnS_eq {xs : List Turn} {n : Nat} (hn : xs.length < n) (hb : xs.length ≤ lim) : f_laws_toTurnS n xs = some (xs, ()) := by
  have hb' : ((xs.length : Int) ≤ (lim : Int)) := by omega
  simp only [f_laws_toTurnS, decide_true, ge_t, hb', Bool.and_self, cond_true, Int.toNat_natCast]
  refine loop_to (l := fun m i => l_laws_toTurnS_0 n m xs (xs.take i ++ List.replicate (xs.length - i) (Kd.dflt .turn)) (i : Int) (fun w5 => some (w5, ()))) (len := xs.length) (fun i => i ≤ xs.length) (Nat.zero_le _) (fun m _ => ?_) (fun m i hi _ => .inl ⟨?_, hi⟩) hn
  · simp [l_laws_toTurnS_0]
  · have hl := fill_len (xs := xs) (d := Kd.dflt .turn) (i := i) (by omega)
    
    simp only [l_laws_toTurnS_0, hl, lt_t hi, ge_t, Bool.and_self, cond_true, getD_at hi, getD_nat hi, laws_toTurn_eq, Option.bind_some, Int.toNat_natCast, decide_true, hi, dnTurn_up, wsucc (Nat.lt_trans hi (lim_lmax hb)), set_fill hi]
theorem laws_toTaskS_eq {xs : List Task} {n : Nat} (hn : xs.length < n) (hb : xs.length ≤ lim) : f_laws_toTaskS n xs = some (xs, ()) := by
  have hb' : ((xs.length : Int) ≤ (lim : Int)) := by omega
  simp only [f_laws_toTaskS, decide_true, ge_t, hb', Bool.and_self, cond_true, Int.toNat_natCast]
  refine loop_to (l := fun m i => l_laws_toTaskS_0 n m xs (xs.take i ++ List.replicate (xs.length - i) (Kd.dflt .task)) (i : Int) (fun w5 => some (w5, ()))) (len := xs.length) (fun i => i ≤ xs.length) (Nat.zero_le _) (fun m _ => ?_) (fun m i hi _ => .inl ⟨?_, hi⟩) hn
  · simp [l_laws_toTaskS_0]
  · have hl := fill_len (xs := xs) (d := Kd.dflt .task) (i := i) (by omega)
    
    simp only [l_laws_toTaskS_0, hl, lt_t hi, ge_t, Bool.and_self, cond_true, getD_at hi, getD_nat hi, laws_toTask_eq, Option.bind_some, Int.toNat_natCast, decide_true, hi, dnTask_up, wsucc (Nat.lt_trans hi (lim_lmax hb)), set_fill hi]
theorem laws_toGhostS_eq {xs : List Ghost} {n : Nat} (hn : xs.length < n) (hb : xs.length ≤ lim) : f_laws_toGhostS n xs = some (xs, ()) := by
  have hb' : ((xs.length : Int) ≤ (lim : Int)) := by omega
  simp only [f_laws_toGhostS, decide_true, ge_t, hb', Bool.and_self, cond_true, Int.toNat_natCast]
  refine loop_to (l := fun m i => l_laws_toGhostS_0 n m xs (xs.take i ++ List.replicate (xs.length - i) (Kd.dflt .ghost)) (i : Int) (fun w5 => some (w5, ()))) (len := xs.length) (fun i => i ≤ xs.length) (Nat.zero_le _) (fun m _ => ?_) (fun m i hi _ => .inl ⟨?_, hi⟩) hn
  · simp [l_laws_toGhostS_0]
  · have hl := fill_len (xs := xs) (d := Kd.dflt .ghost) (i := i) (by omega)
    
    simp only [l_laws_toGhostS_0, hl, lt_t hi, ge_t, Bool.and_self, cond_true, getD_at hi, getD_nat hi, laws_toGhost_eq, Option.bind_some, Int.toNat_natCast, decide_true, hi, dnGhost_up, wsucc (Nat.lt_trans hi (lim_lmax hb)), set_fill hi]
theorem laws_toIntS_eq {xs : List Int} {n : Nat} (hn : xs.length < n) (hb : xs.length ≤ lim) : f_laws_toIntS n xs = some (xs, ()) := by
  have hb' : ((xs.length : Int) ≤ (lim : Int)) := by omega
  simp only [f_laws_toIntS, decide_true, ge_t, hb', Bool.and_self, cond_true, Int.toNat_natCast]
  refine loop_to (l := fun m i => l_laws_toIntS_0 n m xs (xs.take i ++ List.replicate (xs.length - i) (Kd.dflt .int)) (i : Int) (fun w5 => some (w5, ()))) (len := xs.length) (fun i => i ≤ xs.length) (Nat.zero_le _) (fun m _ => ?_) (fun m i hi _ => .inl ⟨?_, hi⟩) hn
  · simp [l_laws_toIntS_0]
  · have hl := fill_len (xs := xs) (d := Kd.dflt .int) (i := i) (by omega)
    
    simp only [l_laws_toIntS_0, hl, lt_t hi, ge_t, Bool.and_self, cond_true, getD_at hi, getD_nat hi,  Option.bind_some, Int.toNat_natCast, decide_true, hi,  wsucc (Nat.lt_trans hi (lim_lmax hb)), set_fill hi]
theorem laws_toLock_eq {t : Lock} {n : Nat} (hn : t.Waits.length < n) (hb : t.Waits.length ≤ lim) : f_laws_toLock n t = some (upLock t, ()) := by
  simp only [f_laws_toLock, laws_toIntS_eq hn hb, Option.bind_some]
theorem laws_toLockS_eq {xs : List Lock} {n : Nat} (hn : xs.length < n) (hb : xs.length ≤ lim) (hx : ∀ x ∈ xs, x.Waits.length < n ∧ x.Waits.length ≤ lim) : f_laws_toLockS n xs = some (xs, ()) := by
  have hb' : ((xs.length : Int) ≤ (lim : Int)) := by omega
  simp only [f_laws_toLockS, decide_true, ge_t, hb', Bool.and_self, cond_true, Int.toNat_natCast]
  refine loop_to (l := fun m i => l_laws_toLockS_0 n m xs (xs.take i ++ List.replicate (xs.length - i) (Kd.dflt .lock)) (i : Int) (fun w5 => some (w5, ()))) (len := xs.length) (fun i => i ≤ xs.length) (Nat.zero_le _) (fun m _ => ?_) (fun m i hi _ => .inl ⟨?_, hi⟩) hn
  · simp [l_laws_toLockS_0]
  · have hl := fill_len (xs := xs) (d := Kd.dflt .lock) (i := i) (by omega)
    have he := laws_toLock_eq (hx xs[i] (List.getElem_mem hi)).1 (hx xs[i] (List.getElem_mem hi)).2
    simp only [l_laws_toLockS_0, hl, lt_t hi, ge_t, Bool.and_self, cond_true, getD_at hi, getD_nat hi, he, Option.bind_some, Int.toNat_natCast, decide_true, hi, dnLock_up, wsucc (Nat.lt_trans hi (lim_lmax hb)), set_fill hi]
theorem laws_eqTurnS_eq {xs ys : List Turn} {n : Nat} (hn : xs.length < n) (hb : xs.length ≤ lim) : f_laws_eqTurnS n xs ys = some (decide (xs = ys), ()) := by
  by_cases hl : xs.length = ys.length
  · have hl' : ((xs.length : Int) = (ys.length : Int)) := by omega
    simp only [f_laws_eqTurnS, hl', decide_true, Bool.not_true, cond_false]
    by_cases he : xs = ys
    · subst he
      refine loop_to (l := fun m i => l_laws_eqTurnS_0 n m xs xs (i : Int) (some (false, ())) (some (true, ()))) (len := xs.length) (fun _ => True) trivial (fun m _ => ?_) (fun m i hi _ => .inl ⟨?_, trivial⟩) hn
      · simp [l_laws_eqTurnS_0]
      · skip
        simp only [l_laws_eqTurnS_0, lt_t hi, ge_t, Bool.and_self, cond_true, getD_at hi, getD_nat hi, laws_eqTurn_eq, Option.bind_some, decide_true, Bool.not_true, cond_false, wsucc (Nat.lt_trans hi (lim_lmax hb))]
    · rw [decide_eq_false he]
      refine loop_to (l := fun m i => l_laws_eqTurnS_0 n m xs ys (i : Int) (some (false, ())) (some (true, ()))) (len := xs.length) (fun i => xs.take i = ys.take i) rfl (fun m hI => ?_) (fun m i hi hI => ?_) hn
      · exact absurd (by have := hI; rw [List.take_length, hl, List.take_length] at this; exact this) he
      · have hj : i < ys.length := by omega
        skip
        by_cases e : xs[i] = ys[i]
        · left
          refine ⟨?_, by rw [List.take_succ_eq_append_getElem hi, List.take_succ_eq_append_getElem hj, hI, e]⟩
          simp only [l_laws_eqTurnS_0, lt_t hi, lt_t hj, ge_t, Bool.and_self, cond_true, getD_at hi, getD_at hj, laws_eqTurn_eq, Option.bind_some, decide_eq_true e, Bool.not_true, cond_false, wsucc (Nat.lt_trans hi (lim_lmax hb))]
        · right
          simp only [l_laws_eqTurnS_0, lt_t hi, lt_t hj, ge_t, Bool.and_self, cond_true, getD_at hi, getD_at hj, laws_eqTurn_eq, Option.bind_some, decide_eq_false e, Bool.not_false, cond_true]
  · have hl' : ¬ ((xs.length : Int) = (ys.length : Int)) := by omega
    have he : ¬ xs = ys := fun h => hl (by rw [h])
    simp only [f_laws_eqTurnS, hl', he, decide_false, Bool.not_false, cond_true]
theorem laws_eqTaskS_eq {xs ys : List Task} {n : Nat} (hn : xs.length < n) (hb : xs.length ≤ lim) : f_laws_eqTaskS n xs ys = some (decide (xs = ys), ()) := by
  by_cases hl : xs.length = ys.length
  · have hl' : ((xs.length : Int) = (ys.length : Int)) := by omega
    simp only [f_laws_eqTaskS, hl', decide_true, Bool.not_true, cond_false]
    by_cases he : xs = ys
    · subst he
      refine loop_to (l := fun m i => l_laws_eqTaskS_0 n m xs xs (i : Int) (some (false, ())) (some (true, ()))) (len := xs.length) (fun _ => True) trivial (fun m _ => ?_) (fun m i hi _ => .inl ⟨?_, trivial⟩) hn
      · simp [l_laws_eqTaskS_0]
      · skip
        simp only [l_laws_eqTaskS_0, lt_t hi, ge_t, Bool.and_self, cond_true, getD_at hi, getD_nat hi, laws_eqTask_eq, Option.bind_some, decide_true, Bool.not_true, cond_false, wsucc (Nat.lt_trans hi (lim_lmax hb))]
    · rw [decide_eq_false he]
      refine loop_to (l := fun m i => l_laws_eqTaskS_0 n m xs ys (i : Int) (some (false, ())) (some (true, ()))) (len := xs.length) (fun i => xs.take i = ys.take i) rfl (fun m hI => ?_) (fun m i hi hI => ?_) hn
      · exact absurd (by have := hI; rw [List.take_length, hl, List.take_length] at this; exact this) he
      · have hj : i < ys.length := by omega
        skip
        by_cases e : xs[i] = ys[i]
        · left
          refine ⟨?_, by rw [List.take_succ_eq_append_getElem hi, List.take_succ_eq_append_getElem hj, hI, e]⟩
          simp only [l_laws_eqTaskS_0, lt_t hi, lt_t hj, ge_t, Bool.and_self, cond_true, getD_at hi, getD_at hj, laws_eqTask_eq, Option.bind_some, decide_eq_true e, Bool.not_true, cond_false, wsucc (Nat.lt_trans hi (lim_lmax hb))]
        · right
          simp only [l_laws_eqTaskS_0, lt_t hi, lt_t hj, ge_t, Bool.and_self, cond_true, getD_at hi, getD_at hj, laws_eqTask_eq, Option.bind_some, decide_eq_false e, Bool.not_false, cond_true]
  · have hl' : ¬ ((xs.length : Int) = (ys.length : Int)) := by omega
    have he : ¬ xs = ys := fun h => hl (by rw [h])
    simp only [f_laws_eqTaskS, hl', he, decide_false, Bool.not_false, cond_true]
theorem laws_eqShareS_eq {xs ys : List Share} {n : Nat} (hn : xs.length < n) (hb : xs.length ≤ lim) : f_laws_eqShareS n xs ys = some (decide (xs = ys), ()) := by
  by_cases hl : xs.length = ys.length
  · have hl' : ((xs.length : Int) = (ys.length : Int)) := by omega
    simp only [f_laws_eqShareS, hl', decide_true, Bool.not_true, cond_false]
    by_cases he : xs = ys
    · subst he
      refine loop_to (l := fun m i => l_laws_eqShareS_0 n m xs xs (i : Int) (some (false, ())) (some (true, ()))) (len := xs.length) (fun _ => True) trivial (fun m _ => ?_) (fun m i hi _ => .inl ⟨?_, trivial⟩) hn
      · simp [l_laws_eqShareS_0]
      · skip
        simp only [l_laws_eqShareS_0, lt_t hi, ge_t, Bool.and_self, cond_true, getD_at hi, getD_nat hi, laws_eqShare_eq, Option.bind_some, decide_true, Bool.not_true, cond_false, wsucc (Nat.lt_trans hi (lim_lmax hb))]
    · rw [decide_eq_false he]
      refine loop_to (l := fun m i => l_laws_eqShareS_0 n m xs ys (i : Int) (some (false, ())) (some (true, ()))) (len := xs.length) (fun i => xs.take i = ys.take i) rfl (fun m hI => ?_) (fun m i hi hI => ?_) hn
      · exact absurd (by have := hI; rw [List.take_length, hl, List.take_length] at this; exact this) he
      · have hj : i < ys.length := by omega
        skip
        by_cases e : xs[i] = ys[i]
        · left
          refine ⟨?_, by rw [List.take_succ_eq_append_getElem hi, List.take_succ_eq_append_getElem hj, hI, e]⟩
          simp only [l_laws_eqShareS_0, lt_t hi, lt_t hj, ge_t, Bool.and_self, cond_true, getD_at hi, getD_at hj, laws_eqShare_eq, Option.bind_some, decide_eq_true e, Bool.not_true, cond_false, wsucc (Nat.lt_trans hi (lim_lmax hb))]
        · right
          simp only [l_laws_eqShareS_0, lt_t hi, lt_t hj, ge_t, Bool.and_self, cond_true, getD_at hi, getD_at hj, laws_eqShare_eq, Option.bind_some, decide_eq_false e, Bool.not_false, cond_true]
  · have hl' : ¬ ((xs.length : Int) = (ys.length : Int)) := by omega
    have he : ¬ xs = ys := fun h => hl (by rw [h])
    simp only [f_laws_eqShareS, hl', he, decide_false, Bool.not_false, cond_true]
theorem laws_eqGhostS_eq {xs ys : List Ghost} {n : Nat} (hn : xs.length < n) (hb : xs.length ≤ lim) : f_laws_eqGhostS n xs ys = some (decide (xs = ys), ()) := by
  by_cases hl : xs.length = ys.length
  · have hl' : ((xs.length : Int) = (ys.length : Int)) := by omega
    simp only [f_laws_eqGhostS, hl', decide_true, Bool.not_true, cond_false]
    by_cases he : xs = ys
    · subst he
      refine loop_to (l := fun m i => l_laws_eqGhostS_0 n m xs xs (i : Int) (some (false, ())) (some (true, ()))) (len := xs.length) (fun _ => True) trivial (fun m _ => ?_) (fun m i hi _ => .inl ⟨?_, trivial⟩) hn
      · simp [l_laws_eqGhostS_0]
      · skip
        simp only [l_laws_eqGhostS_0, lt_t hi, ge_t, Bool.and_self, cond_true, getD_at hi, getD_nat hi, laws_eqGhost_eq, Option.bind_some, decide_true, Bool.not_true, cond_false, wsucc (Nat.lt_trans hi (lim_lmax hb))]
    · rw [decide_eq_false he]
      refine loop_to (l := fun m i => l_laws_eqGhostS_0 n m xs ys (i : Int) (some (false, ())) (some (true, ()))) (len := xs.length) (fun i => xs.take i = ys.take i) rfl (fun m hI => ?_) (fun m i hi hI => ?_) hn
      · exact absurd (by have := hI; rw [List.take_length, hl, List.take_length] at this; exact this) he
      · have hj : i < ys.length := by omega
        skip
        by_cases e : xs[i] = ys[i]
        · left
          refine ⟨?_, by rw [List.take_succ_eq_append_getElem hi, List.take_succ_eq_append_getElem hj, hI, e]⟩
          simp only [l_laws_eqGhostS_0, lt_t hi, lt_t hj, ge_t, Bool.and_self, cond_true, getD_at hi, getD_at hj, laws_eqGhost_eq, Option.bind_some, decide_eq_true e, Bool.not_true, cond_false, wsucc (Nat.lt_trans hi (lim_lmax hb))]
        · right
          simp only [l_laws_eqGhostS_0, lt_t hi, lt_t hj, ge_t, Bool.and_self, cond_true, getD_at hi, getD_at hj, laws_eqGhost_eq, Option.bind_some, decide_eq_false e, Bool.not_false, cond_true]
  · have hl' : ¬ ((xs.length : Int) = (ys.length : Int)) := by omega
    have he : ¬ xs = ys := fun h => hl (by rw [h])
    simp only [f_laws_eqGhostS, hl', he, decide_false, Bool.not_false, cond_true]
theorem laws_eqIntS_eq {xs ys : List Int} {n : Nat} (hn : xs.length < n) (hb : xs.length ≤ lim) : f_laws_eqIntS n xs ys = some (decide (xs = ys), ()) := by
  by_cases hl : xs.length = ys.length
  · have hl' : ((xs.length : Int) = (ys.length : Int)) := by omega
    simp only [f_laws_eqIntS, hl', decide_true, Bool.not_true, cond_false]
    by_cases he : xs = ys
    · subst he
      refine loop_to (l := fun m i => l_laws_eqIntS_0 n m xs xs (i : Int) (some (false, ())) (some (true, ()))) (len := xs.length) (fun _ => True) trivial (fun m _ => ?_) (fun m i hi _ => .inl ⟨?_, trivial⟩) hn
      · simp [l_laws_eqIntS_0]
      · skip
        simp only [l_laws_eqIntS_0, lt_t hi, ge_t, Bool.and_self, cond_true, getD_at hi, getD_nat hi,  Option.bind_some, decide_true, Bool.not_true, cond_false, wsucc (Nat.lt_trans hi (lim_lmax hb))]
    · rw [decide_eq_false he]
      refine loop_to (l := fun m i => l_laws_eqIntS_0 n m xs ys (i : Int) (some (false, ())) (some (true, ()))) (len := xs.length) (fun i => xs.take i = ys.take i) rfl (fun m hI => ?_) (fun m i hi hI => ?_) hn
      · exact absurd (by have := hI; rw [List.take_length, hl, List.take_length] at this; exact this) he
      · have hj : i < ys.length := by omega
        skip
        by_cases e : xs[i] = ys[i]
        · left
          refine ⟨?_, by rw [List.take_succ_eq_append_getElem hi, List.take_succ_eq_append_getElem hj, hI, e]⟩
          simp only [l_laws_eqIntS_0, lt_t hi, lt_t hj, ge_t, Bool.and_self, cond_true, getD_at hi, getD_at hj,  Option.bind_some, decide_eq_true e, Bool.not_true, cond_false, wsucc (Nat.lt_trans hi (lim_lmax hb))]
        · right
          simp only [l_laws_eqIntS_0, lt_t hi, lt_t hj, ge_t, Bool.and_self, cond_true, getD_at hi, getD_at hj,  Option.bind_some, decide_eq_false e, Bool.not_false, cond_true]
  · have hl' : ¬ ((xs.length : Int) = (ys.length : Int)) := by omega
    have he : ¬ xs = ys := fun h => hl (by rw [h])
    simp only [f_laws_eqIntS, hl', he, decide_false, Bool.not_false, cond_true]
theorem laws_eqLock_eq {a b : Lock} {n : Nat} (hn : a.Waits.length < n) (hb : a.Waits.length ≤ lim) : f_laws_eqLock n a b = some (decide (a = b), ()) := by
  simp only [f_laws_eqLock, laws_eqIntS_eq hn hb, Option.bind_some, cond_some]; refine some_iff ?_; cases a; cases b; simp [cond_iff]
theorem laws_eqLockS_eq {xs ys : List Lock} {n : Nat} (hn : xs.length < n) (hb : xs.length ≤ lim) (hx : ∀ x ∈ xs, x.Waits.length < n ∧ x.Waits.length ≤ lim) : f_laws_eqLockS n xs ys = some (decide (xs = ys), ()) := by
  by_cases hl : xs.length = ys.length
  · have hl' : ((xs.length : Int) = (ys.length : Int)) := by omega
    simp only [f_laws_eqLockS, hl', decide_true, Bool.not_true, cond_false]
    by_cases he : xs = ys
    · subst he
      refine loop_to (l := fun m i => l_laws_eqLockS_0 n m xs xs (i : Int) (some (false, ())) (some (true, ()))) (len := xs.length) (fun _ => True) trivial (fun m _ => ?_) (fun m i hi _ => .inl ⟨?_, trivial⟩) hn
      · simp [l_laws_eqLockS_0]
      · have hq := fun b => laws_eqLock_eq (b := b) (hx xs[i] (List.getElem_mem hi)).1 (hx xs[i] (List.getElem_mem hi)).2
        simp only [l_laws_eqLockS_0, lt_t hi, ge_t, Bool.and_self, cond_true, getD_at hi, getD_nat hi, hq, Option.bind_some, decide_true, Bool.not_true, cond_false, wsucc (Nat.lt_trans hi (lim_lmax hb))]
    · rw [decide_eq_false he]
      refine loop_to (l := fun m i => l_laws_eqLockS_0 n m xs ys (i : Int) (some (false, ())) (some (true, ()))) (len := xs.length) (fun i => xs.take i = ys.take i) rfl (fun m hI => ?_) (fun m i hi hI => ?_) hn
      · exact absurd (by have := hI; rw [List.take_length, hl, List.take_length] at this; exact this) he
      · have hj : i < ys.length := by omega
        have hq := fun b => laws_eqLock_eq (b := b) (hx xs[i] (List.getElem_mem hi)).1 (hx xs[i] (List.getElem_mem hi)).2
        by_cases e : xs[i] = ys[i]
        · left
          refine ⟨?_, by rw [List.take_succ_eq_append_getElem hi, List.take_succ_eq_append_getElem hj, hI, e]⟩
          simp only [l_laws_eqLockS_0, lt_t hi, lt_t hj, ge_t, Bool.and_self, cond_true, getD_at hi, getD_at hj, hq, Option.bind_some, decide_eq_true e, Bool.not_true, cond_false, wsucc (Nat.lt_trans hi (lim_lmax hb))]
        · right
          simp only [l_laws_eqLockS_0, lt_t hi, lt_t hj, ge_t, Bool.and_self, cond_true, getD_at hi, getD_at hj, hq, Option.bind_some, decide_eq_false e, Bool.not_false, cond_true]
  · have hl' : ¬ ((xs.length : Int) = (ys.length : Int)) := by omega
    have he : ¬ xs = ys := fun h => hl (by rw [h])
    simp only [f_laws_eqLockS, hl', he, decide_false, Bool.not_false, cond_true]
/-- A system's lists are of no great length. -/
structure Small (B : Nat) (s : Sys) : Prop where
  tasks : s.Tasks.length ≤ B
  locks : s.Locks.length ≤ B
  waits : ∀ x ∈ s.Locks, x.Waits.length ≤ B
  ghosts : s.Ghosts.length ≤ B
  floors : s.Floors.length ≤ B
  trace : s.Trace.length ≤ B
theorem laws_toSys_eq {s : Sys} {B n : Nat} (h : Small B s) (hn : B < n) (hb : B ≤ lim) : f_laws_toSys n s = some (upSys s, ()) := by
  have h1 := h.tasks
  have h2 := h.locks
  have h4 := h.ghosts
  have h5 := h.floors
  have h6 := h.trace
  simp only [f_laws_toSys, laws_toTaskS_eq (xs := s.Tasks) (n := n) (by omega) (by omega), laws_toLockS_eq (xs := s.Locks) (n := n) (by omega) (by omega) (fun x hx => by have := h.waits x hx; omega),
    laws_toGhostS_eq (xs := s.Ghosts) (n := n) (by omega) (by omega), laws_toIntS_eq (xs := s.Floors) (n := n) (by omega) (by omega), laws_toTurnS_eq (xs := s.Trace) (n := n) (by omega) (by omega), Option.bind_some]
theorem laws_eqSys_eq {s t : Sys} {B n : Nat} (h : Small B s) (hn : B < n) (hb : B ≤ lim) : f_laws_eqSys n s t = some (decide (s = t), ()) := by
  have h1 := h.tasks
  have h2 := h.locks
  have h4 := h.ghosts
  have h5 := h.floors
  have h6 := h.trace
  simp only [f_laws_eqSys, laws_eqTaskS_eq (xs := s.Tasks) (n := n) (by omega) (by omega), laws_eqLockS_eq (xs := s.Locks) (n := n) (by omega) (by omega) (fun x hx => by have := h.waits x hx; omega),
    laws_eqGhostS_eq (xs := s.Ghosts) (n := n) (by omega) (by omega), laws_eqIntS_eq (xs := s.Floors) (n := n) (by omega) (by omega), laws_eqTurnS_eq (xs := s.Trace) (n := n) (by omega) (by omega), Option.bind_some, cond_some]
  refine some_iff ?_
  cases s; cases t; simp [cond_iff]
end Go.Proofs.Ytoedeimpfbebpaa.VR
