/- Laws over results that are lists or systems: SysNew, LastTurns, SharesOn. -/
import Derived.Test.YtoedeimpfbebpaaNw
import Derived.Test.YtoedeimpfbebpaaNk
import Derived.Test.YtoedeimpfbebpaaG06
set_option linter.unusedVariables false
set_option linter.unusedSimpArgs false
namespace Go.Proofs.Ytoedeimpfbebpaa.VR
open Go
theorem laws_toSys_1_eq {s : Sys} {B n : Nat} (h : Small B s) (hn : B < n) (hb : B ≤ lim) : f_laws_toSys_1 n s = some (upSys s, ()) := laws_toSys_eq h hn hb
def sysNew (c : Int) : SysT × Bool × Unit := if 1 ≤ c ∧ c ≤ 4 then (upSys ⟨0, c, [], List.replicate 5 (Kd.dflt .lock), [], List.replicate c.toNat (Kd.dflt .int), 0, 0, []⟩, true, ()) else (upSys ⟨0, 0, [], [], [], [], 0, 0, []⟩, false, ())
theorem new_step (c : Int) : (cond (!decide (1 ≤ c ∧ c ≤ 4)) (some (((upSys (⟨0, 0, [], [], [], [], 0, 0, []⟩ : Sys)), false, ()), ()))
   (cond (((decide (c = c)) && (decide (0 ≤ c))) && (decide (c ≤ (lim : Int))))
     (some (((upSys (⟨0, c, [], (List.replicate (Int.toNat 5) (Kd.dflt .lock)), [], (List.replicate (Int.toNat c) (Kd.dflt .int)), 0, 0, []⟩ : Sys)), true, ()), ()))
     (none)) : Option ((SysT × Bool × Unit) × Unit)) = some (sysNew c, ()) := by
  unfold sysNew
  by_cases h : 1 ≤ c ∧ c ≤ 4
  · have h1 : 0 ≤ c := by omega
    have h2 : c ≤ (lim : Int) := by unfold lim; omega
    rw [decide_eq_true h, if_pos h, decide_eq_true h1, decide_eq_true h2, decide_eq_true (rfl : c = c)]; rfl
  · rw [decide_eq_false h, if_neg h]; rfl
theorem impl_SysNew_eq (c : Int) : f_impl_SysNew c = some (sysNew c, ()) := by
  unfold f_impl_SysNew; rw [impl_in_eq, Option.bind_some]; exact new_step c
theorem impl_SysNew_1_eq (c : Int) : f_impl_SysNew_1 c = some (sysNew c, ()) := by
  unfold f_impl_SysNew_1; rw [impl_in_eq, Option.bind_some]; exact new_step c
theorem spec_SysNew_eq (c : Int) : f_spec_SysNew c = some (sysNew c, ()) := by
  unfold f_spec_SysNew; rw [spec_l1In_eq, Option.bind_some]; exact new_step c
theorem sysNew_c (c : Int) : SysC 10 (dnSys (sysNew c).1) := by
  unfold sysNew
  split
  · rename_i h
    simp only [dnSys_up]
    refine ⟨⟨by simp, by simp, fun x hx => ?_, by simp, by simp; omega, by simp⟩, ⟨by simp, ?_⟩⟩
    · rw [List.eq_of_mem_replicate hx]; simp [Kd.dflt]
    · simp [waitsOf, Kd.dflt, List.flatMap_replicate]
  · simp only [dnSys_up]
    exact ⟨⟨by simp, by simp, fun x hx => by simp at hx, by simp, by simp, by simp⟩, ⟨by simp, by simp [waitsOf]⟩⟩
theorem law_FnExactSysNew (c : Int) (hc : i64ok c) : ∃ n, f_laws_FnExactSysNew n c = some (true, ()) := by
  refine ⟨20, ?_⟩
  have h := sysNew_c c
  have hl : 10 ≤ lim := by unfold lim; omega
  obtain ⟨m1, m2, m3, m4, m5, m6⟩ := marks_ge h
  have hp : ¬ (marks (dnSys (sysNew c).1)).r < 0 := by omega
  simp only [f_laws_FnExactSysNew, spec_SysNew_eq, impl_SysNew_1_eq, impl_SysNew_eq, Option.bind_some, laws_eqSys_eq h.small (show 10 < 20 by omega) hl, decide_true, Bool.not_true, cond_false, beq_self_eq_true, markSys_eq h (show 10 < 20 by omega) (by omega)]
  rw [heldSys_eq h (show 10 < 20 by omega) (by omega) rfl rfl rfl rfl rfl]
  simp only [Option.bind_some, hp, decide_false, cond_false, ndself, decide_true, Bool.not_true]
def lastTurns (s : Sys) : List Turn := if s.Cpus < 1 then [] else s.Trace.drop ((s.Trace.length : Int) - s.Cpus).toNat
theorem clone_turn {xs : List Turn} (h : xs.length ≤ lim) : f_slices_Clone_Turn xs = some (xs, ()) := by
  unfold f_slices_Clone_Turn; rw [decide_eq_true h]; rfl
theorem last_impl {s : Sys} (hc : i64ok s.Cpus) (hb : s.Trace.length ≤ 10000000) : (cond (decide (s.Cpus < 1))
   (some ([], ()))
   (let e1 := (if (w64 (((s.Trace).length : Int) - s.Cpus)) > 0 then (w64 (((s.Trace).length : Int) - s.Cpus)) else 0)
    cond (((decide (0 ≤ e1)) && (decide (e1 ≤ ((s.Trace).length : Int)))) && (decide (((s.Trace).length : Int) ≤ ((s.Trace).length : Int))))
     ((f_slices_Clone_Turn (List.drop (Int.toNat e1) (List.take (Int.toNat ((s.Trace).length : Int)) s.Trace))).bind fun r2 =>
      some (r2.1, ()))
     (none)) : Option (List Turn × Unit)) = some (lastTurns s, ()) := by
  unfold lastTurns
  by_cases h : s.Cpus < 1
  · rw [decide_eq_true h, if_pos h]; rfl
  · unfold i64ok at hc
    have hw : w64 ((s.Trace.length : Int) - s.Cpus) = (s.Trace.length : Int) - s.Cpus := w64_id (by omega) (by omega)
    rw [decide_eq_false h, if_neg h, cond_false, hw]
    have hr : (decide (((s.Trace).length : Int) ≤ ((s.Trace).length : Int))) = true := decide_eq_true (Int.le_refl _)
    have hlen : ∀ k, (List.drop k (List.take (Int.toNat ((s.Trace).length : Int)) s.Trace)).length ≤ lim := fun k => by
      rw [List.length_drop, Int.toNat_natCast, List.take_length]; unfold lim; omega
    by_cases hp : ((s.Trace.length : Int) - s.Cpus) > 0
    · simp only [if_pos hp, hr]
      rw [decide_eq_true (show 0 ≤ (s.Trace.length : Int) - s.Cpus by omega), decide_eq_true (show (s.Trace.length : Int) - s.Cpus ≤ (s.Trace.length : Int) by omega), Bool.and_self, Bool.and_self, cond_true, clone_turn (hlen _), Option.bind_some, Int.toNat_natCast, List.take_length]
    · simp only [if_neg hp, hr]
      rw [decide_eq_true (Int.le_refl 0), decide_eq_true (show (0 : Int) ≤ (s.Trace.length : Int) by omega), Bool.and_self, Bool.and_self, cond_true, clone_turn (hlen _), Option.bind_some, Int.toNat_natCast, List.take_length]
      rw [show ((s.Trace.length : Int) - s.Cpus).toNat = 0 by omega]; rfl
theorem spec_LastTurns_eq {s : Sys} (hc : i64ok s.Cpus) (hb : s.Trace.length ≤ 10000000) : f_spec_LastTurns s = some (lastTurns s, ()) := by
  unfold i64ok at hc
  have hmax : ∀ a b : Int, f_spec_l1Max a b = some (max a b, ()) := fun a b => by
    unfold f_spec_l1Max
    rw [cond_dec]
    split
    · rw [Int.max_eq_left (by omega)]
    · rw [Int.max_eq_right (by omega)]
  simp only [f_spec_LastTurns, hmax, Option.bind_some]
  have hw : w64 ((s.Trace.length : Int) - max s.Cpus 0) = (s.Trace.length : Int) - max s.Cpus 0 := w64_id (by omega) (by omega)
  rw [hw]
  have hr : (decide (((s.Trace).length : Int) ≤ ((s.Trace).length : Int))) = true := decide_eq_true (Int.le_refl _)
  rw [hr, decide_eq_true (show 0 ≤ max ((s.Trace.length : Int) - max s.Cpus 0) 0 by omega), decide_eq_true (show max ((s.Trace.length : Int) - max s.Cpus 0) 0 ≤ (s.Trace.length : Int) by omega), Bool.and_self, Bool.and_self, cond_true, Int.toNat_natCast, List.take_length]
  have hd : decide ((([] : List Turn)).length + ((List.drop (Int.toNat (max ((s.Trace.length : Int) - max s.Cpus 0) 0)) s.Trace)).length ≤ lim) = true := decide_eq_true (by rw [List.length_drop]; unfold lim; simp; omega)
  rw [hd, cond_true]
  simp only [List.nil_append]
  unfold lastTurns
  by_cases h : s.Cpus < 1
  · rw [if_pos h, show (max ((s.Trace.length : Int) - max s.Cpus 0) 0).toNat = s.Trace.length by omega, List.drop_length]
  · rw [if_neg h, show (max ((s.Trace.length : Int) - max s.Cpus 0) 0).toNat = ((s.Trace.length : Int) - s.Cpus).toNat by omega]
theorem lastTurns_le (s : Sys) : (lastTurns s).length ≤ s.Trace.length := by
  unfold lastTurns
  split
  · exact Nat.zero_le _
  · rw [List.length_drop]; omega
theorem law_FnExactLastTurns (s : Sys) (ha : i64ok s.Now) (hb : i64ok s.Cpus) (h1 : wfL .task s.Tasks) (h2 : wfL .lock s.Locks) (h3 : wfL .ghost s.Ghosts) (h4 : wfL .int s.Floors) (hc : i64ok s.Seq) (hd : i64ok s.Missed) (h5 : wfL .turn s.Trace) : ∃ n, f_laws_FnExactLastTurns n s = some (true, ()) := by
  have e0 : big = 1048576 := rfl
  refine ⟨bigN, ?_⟩
  obtain ⟨r, e, hr⟩ := szSys_cases (s := s) ⟨ha, hb, h1, h2, h3, h4, hc, hd, h5⟩ bigN_lt
  simp only [f_laws_FnExactLastTurns, e, Option.bind_some]
  rcases hr with hr | ⟨hr, hs⟩
  · rw [decide_eq_true hr, cond_true]
  · rw [decide_eq_false hr, cond_false]
    have hlt := hs.small.trace
    have hll := lastTurns_le s
    have hN := bigN_lt
    have i1 : f_impl_LastTurns s = some (lastTurns s, ()) := last_impl hb (by omega)
    have i2 : f_impl_LastTurns_1 s = some (lastTurns s, ()) := last_impl hb (by omega)
    obtain ⟨m1, m2, m3, m4, m5, m6⟩ := marks_ge hs.c
    have hp : ¬ (marks s).r < 0 := by omega
    have hq : ¬ (1 + 3 * ((lastTurns s).length : Int)) < 0 := by omega
    have el := laws_eqTurnS_eq (xs := lastTurns s) (ys := lastTurns s) (n := bigN) (by omega) (by unfold lim; omega)
    simp only [laws_toSys_eq hs.small bigN_lt big_le, laws_toSys_1_eq hs.small bigN_lt big_le, Option.bind_some, dnSys_up, spec_LastTurns_eq hb (show s.Trace.length ≤ 10000000 by omega), i1, i2, el, decide_true, Bool.not_true, cond_false, laws_eqSys_eq hs.small bigN_lt big_le,
      markSys_eq hs.c bigN_lt (by omega), hp, decide_false, markTurnS_eq (xs := lastTurns s) (k := 1) (n := bigN) (by omega) (by omega) (by omega) (by omega), heldTurnS_eq (len := (lastTurns s).length) (k := 1) (n := bigN) (by omega) (by omega) (by omega) (by omega), hq, ndself]
theorem law_FnExactSharesOn (s : Sys) (cpu : Int) (ha : i64ok s.Now) (hb : i64ok s.Cpus) (h1 : wfL .task s.Tasks) (h2 : wfL .lock s.Locks) (h3 : wfL .ghost s.Ghosts) (h4 : wfL .int s.Floors) (hc : i64ok s.Seq) (hd : i64ok s.Missed) (h5 : wfL .turn s.Trace) (hcp : i64ok cpu) : ∃ n, f_laws_FnExactSharesOn n s cpu = some (true, ()) := by
  have e0 : big = 1048576 := rfl
  refine ⟨10000000, ?_⟩
  have hN : big < 10000000 := by omega
  obtain ⟨r, e, hr⟩ := szSys_cases (s := s) ⟨ha, hb, h1, h2, h3, h4, hc, hd, h5⟩ hN
  simp only [f_laws_FnExactSharesOn, e, Option.bind_some]
  rcases hr with hr | ⟨hr, hs⟩
  · rw [decide_eq_true hr, cond_true]
  · rw [decide_eq_false hr, cond_false]
    have hlt := hs.small.tasks
    have hlg := hs.small.ghosts
    have hll := sharesOn_le s cpu
    have hlim : s.Tasks.length + s.Ghosts.length ≤ lim := by unfold lim; omega
    have q1 := impl_SharesOn_eq (s := s) (cpu := cpu) (n := 10000000) (by omega) hlim
    have q2 := impl_SharesOn_1_eq (s := s) (cpu := cpu) (n := 10000000) (by omega) hlim
    have q3 : f_spec_SharesOn 10000000 s cpu = some (sharesOn s cpu, ()) := by
      simp only [f_spec_SharesOn, spec_l9Shares_eq (s := s) (cpu := cpu) (n := 10000000) (by omega) hlim, Option.bind_some]
    obtain ⟨m1, m2, m3, m4, m5, m6⟩ := marks_ge hs.c
    have hp : ¬ (marks s).r < 0 := by omega
    have hq : ¬ (1 + 2 * ((sharesOn s cpu).length : Int)) < 0 := by omega
    have el := laws_eqShareS_eq (xs := sharesOn s cpu) (ys := sharesOn s cpu) (n := 10000000) (by omega) (by omega)
    simp only [laws_toSys_eq hs.small hN big_le, laws_toSys_1_eq hs.small hN big_le, Option.bind_some, dnSys_up, q1, q2, q3, el, decide_true, Bool.not_true, cond_false, laws_eqSys_eq hs.small hN big_le,
      markSys_eq hs.c hN (by omega), hp, decide_false, markShareS_eq (xs := sharesOn s cpu) (k := 1) (n := 10000000) (by omega) (by omega) (by omega) (by omega), heldShareS_eq (len := (sharesOn s cpu).length) (k := 1) (n := 10000000) (by omega) (by omega) (by omega) (by omega), hq, ndself]
end Go.Proofs.Ytoedeimpfbebpaa.VR
