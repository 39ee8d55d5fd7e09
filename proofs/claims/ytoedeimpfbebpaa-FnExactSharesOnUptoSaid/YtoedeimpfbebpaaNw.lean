/- Marks of locks and of whole systems. -/
import Derived.Test.YtoedeimpfbebpaaNv
import Derived.Test.YtoedeimpfbebpaaNh
import Derived.Test.YtoedeimpfbebpaaG04
set_option linter.unusedVariables false
set_option linter.unusedSimpArgs false
namespace Go.Proofs.Ytoedeimpfbebpaa.VR
open Go
def markL : Int → List Lock → List Lock
  | _, [] => []
  | k, x :: l => ⟨k, marked mkInt 1 (k + 1) x.Waits.length⟩ :: markL (k + 1 + (x.Waits.length : Int)) l
def cntL (k : Int) (l : List Lock) : Int := k + (l.length : Int) + ((waitsOf l).length : Int)
theorem markL_app : ∀ (a b : List Lock) (k : Int), markL k (a ++ b) = markL k a ++ markL (cntL k a) b
  | [], b, k => by simp [markL, cntL, waitsOf]
  | x :: a, b, k => by
    rw [List.cons_append, markL, markL, markL_app a b, List.cons_append]
    have : cntL (k + 1 + (x.Waits.length : Int)) a = cntL k (x :: a) := by
      unfold cntL waitsOf
      rw [List.flatMap_cons, List.length_append, List.length_cons]; omega
    rw [this]
theorem markL_len : ∀ (l : List Lock) (k : Int), (markL k l).length = l.length
  | [], _ => rfl
  | x :: l, k => by rw [markL, List.length_cons, List.length_cons, markL_len l]
theorem markL_take {xs : List Lock} {k : Int} {i : Nat} (hi : i < xs.length) : markL k (xs.take (i + 1)) = markL k (xs.take i) ++ [⟨cntL k (xs.take i), marked mkInt 1 (cntL k (xs.take i) + 1) xs[i].Waits.length⟩] := by
  rw [List.take_succ_eq_append_getElem hi, markL_app]; rfl
theorem cntL_take {xs : List Lock} {k : Int} {i : Nat} (hi : i < xs.length) : cntL k (xs.take (i + 1)) = cntL k (xs.take i) + 1 + (xs[i].Waits.length : Int) := by
  unfold cntL
  rw [waitsOf_take hi, List.length_append, List.length_take, List.length_take]; omega
theorem markL_get {xs : List Lock} {k : Int} {i : Nat} (hi : i < xs.length) (d : Lock) : List.getD (markL k xs) i d = ⟨cntL k (xs.take i), marked mkInt 1 (cntL k (xs.take i) + 1) xs[i].Waits.length⟩ := by
  have e : xs = xs.take i ++ xs[i] :: xs.drop (i + 1) := by rw [← List.drop_eq_getElem_cons hi, List.take_append_drop]
  have hl : (markL k (xs.take i)).length = i := by rw [markL_len, List.length_take]; omega
  have e2 : markL k xs = markL k (xs.take i) ++ markL (cntL k (xs.take i)) (xs[i] :: xs.drop (i + 1)) := by
    rw [← markL_app, ← e]
  rw [e2, markL, List.getD_eq_getElem?_getD, List.getElem?_append_right (by omega), hl, Nat.sub_self]; rfl
theorem cntL_le {B : Nat} {l : List Lock} (h : LBound B l) (k : Int) (i : Nat) : cntL k (l.take i) ≤ k + 2 * (B : Int) ∧ k ≤ cntL k (l.take i) := by
  have h1 := h.len
  have h2 := h.all
  have h3 := take_waits_le (l := l) i
  unfold cntL
  rw [List.length_take]; omega
theorem markLockS_eq {n B : Nat} {xs : List Lock} {k : Int} (h : LBound B xs) (hn : B < n) (hB : B ≤ 5000000) (h0 : 0 ≤ k) (h1 : k ≤ 274877906944) : f_laws_markLockS n xs k = some (cntL k xs, markL k xs, ()) := by
  unfold f_laws_markLockS
  have hlen := h.len
  have hlim : xs.length ≤ lim := by unfold lim; omega
  have := loop_to (l := fun m i => l_laws_markLockS_0 n m (markL k (xs.take i) ++ xs.drop i) (cntL k (xs.take i)) (i : Int) (fun w7 w8 => some (w7, w8, ()))) (len := xs.length)
    (r := some (cntL k xs, markL k xs, ())) (fun _ => True) trivial (fun m _ => ?_) (fun m i hi _ => .inl ⟨?_, trivial⟩) (m := n) (by omega)
  · have e : cntL k (xs.take 0) = k := by simp [cntL, waitsOf]
    rw [e] at this
    simpa [markL] using this
  · have hl : (markL k (xs.take xs.length) ++ xs.drop xs.length).length = xs.length := mid_len (by rw [List.take_length, markL_len]) (Nat.le_refl _)
    simp only [l_laws_markLockS_0, hl, lt_f, cond_false]
    rw [List.drop_length, List.append_nil, List.take_length]
  · have hA : (markL k (xs.take i)).length = i := by rw [markL_len, List.length_take]; omega
    obtain ⟨c1, c2⟩ := cntL_le h k i
    obtain ⟨c3, _⟩ := cntL_le h k (i + 1)
    rw [cntL_take hi] at c3
    have hw := h.small.waits _ (List.getElem_mem hi)
    have hs := fun x => set_mid hA hi x
    have hv : i < (markL k (xs.take i) ++ xs.drop i).length := by rw [mid_len hA (Nat.le_of_lt hi)]; exact hi
    have hg : List.getD (markL k (xs.take i) ++ xs.drop i) i (Kd.dflt .lock) = xs[i] := by
      rw [List.getD_eq_getElem?_getD, List.getElem?_append_right (by omega), hA, Nat.sub_self, List.drop_eq_getElem_cons hi]; rfl
    rw [markL_take hi, cntL_take hi]
    revert hs hv hg
    generalize markL k (xs.take i) ++ xs.drop i = v
    intro hs hv hg
    have z1 : (0 : Int) ≤ (i : Int) := by omega
    have z2 : (i : Int) < (v.length : Int) := by omega
    have wk : w64 (cntL k (xs.take i) + 1) = cntL k (xs.take i) + 1 := w64_id (by omega) (by omega)
    have wi := wsucc (Nat.lt_trans hi (lim_lm hlim))
    simp only [l_laws_markLockS_0, z1, z2, hv, Int.toNat_natCast, List.length_set, decide_true, Bool.and_self, Bool.and_true, cond_true, set_get hv, List.set_set, hg, wk, wi, markIntS_eq (xs := xs[i].Waits) (k := cntL k (xs.take i) + 1) (n := n) (by omega) (by omega) (by omega) (by omega), Option.bind_some]
    rw [hs]
    have e : cntL k (xs.take i) + 1 + 1 * (xs[i].Waits.length : Int) = cntL k (xs.take i) + 1 + (xs[i].Waits.length : Int) := by omega
    rw [e]
theorem heldLockS_eq {n B : Nat} {xs : List Lock} {k : Int} (h : LBound B xs) (hn : B < n) (hB : B ≤ 5000000) (h0 : 0 ≤ k) (h1 : k ≤ 274877906944) : f_laws_heldLockS n (markL k xs) k = some (cntL k xs, ()) := by
  unfold f_laws_heldLockS
  have hlen := h.len
  have hlim : xs.length ≤ lim := by unfold lim; omega
  have := loop_to (l := fun m i => l_laws_heldLockS_0 n m (markL k xs) (cntL k (xs.take i)) (i : Int) (fun _ => some (-1, ())) (fun w7 => some (w7, ()))) (len := xs.length)
    (r := some (cntL k xs, ())) (fun _ => True) trivial (fun m _ => ?_) (fun m i hi _ => .inl ⟨?_, trivial⟩) (m := n) (by omega)
  · have e : cntL k (xs.take 0) = k := by simp [cntL, waitsOf]
    rw [e] at this
    exact this
  · simp only [l_laws_heldLockS_0, markL_len, lt_f, cond_false, List.take_length]
  · obtain ⟨c1, c2⟩ := cntL_le h k i
    obtain ⟨c3, _⟩ := cntL_le h k (i + 1)
    rw [cntL_take hi] at c3
    have hw := h.small.waits _ (List.getElem_mem hi)
    have hg := markL_get (k := k) hi (Kd.dflt .lock)
    have hl := markL_len xs k
    rw [cntL_take hi]
    revert hg hl
    generalize markL k xs = v
    intro hg hl
    have z1 : (0 : Int) ≤ (i : Int) := by omega
    have z2 : (i : Int) < (v.length : Int) := by omega
    have wk : w64 (cntL k (xs.take i) + 1) = cntL k (xs.take i) + 1 := w64_id (by omega) (by omega)
    have wi := wsucc (Nat.lt_trans hi (lim_lm hlim))
    have hneg : ¬ (cntL k (xs.take i) + 1 + 1 * (xs[i].Waits.length : Int) < 0) := by omega
    simp only [l_laws_heldLockS_0, z1, z2, Int.toNat_natCast, decide_true, Bool.and_self, cond_true, hg, Bool.not_true, cond_false, wk, wi, heldIntS_eq (len := xs[i].Waits.length) (k := cntL k (xs.take i) + 1) (n := n) (by omega) (by omega) (by omega) (by omega), Option.bind_some, hneg, decide_false]
    have e : cntL k (xs.take i) + 1 + 1 * (xs[i].Waits.length : Int) = cntL k (xs.take i) + 1 + (xs[i].Waits.length : Int) := by omega
    rw [e]
/-- A system that is marked. -/
structure Marked (s : Sys) where
  t : Int
  l : Int
  g : Int
  f : Int
  r : Int
def marks (s : Sys) : Marked s := 
  let t := 1 + 14 * (s.Tasks.length : Int)
  let l := cntL t s.Locks
  let g := l + 4 * (s.Ghosts.length : Int)
  let f := g + 1 * (s.Floors.length : Int)
  ⟨t, l, g, f, f + 3 * (s.Trace.length : Int)⟩
def markS (s : Sys) : Unit × Unit × List Task × List Lock × List Ghost × List Int × Unit × Unit × List Turn × Unit :=
  ((), (), marked mkTask 14 1 s.Tasks.length, markL (marks s).t s.Locks, marked mkGhost 4 (marks s).l s.Ghosts.length, marked mkInt 1 (marks s).g s.Floors.length, (), (), marked mkTurn 3 (marks s).f s.Trace.length, ())
/-- A system's lists are short; its locks' rows, too. -/
structure SysC (B : Nat) (s : Sys) : Prop where
  small : Small B s
  lb : LBound B s.Locks
theorem SysB.c {s : Sys} (h : SysB s) : SysC big s := ⟨h.small, h.tl.locks⟩
theorem marks_ge {s : Sys} {B : Nat} (h : SysC B s) : 1 ≤ (marks s).t ∧ (marks s).t ≤ (marks s).l ∧ (marks s).l ≤ (marks s).g ∧ (marks s).g ≤ (marks s).f ∧ (marks s).f ≤ (marks s).r ∧ (marks s).r ≤ 1 + 30 * (B : Int) := by
  have h1 := h.small.tasks
  have h2 := h.lb.len
  have h3 := h.lb.all
  have h4 := h.small.ghosts
  have h5 := h.small.floors
  have h6 := h.small.trace
  simp only [marks, cntL]; omega
theorem markSys_eq {s : Sys} {n B : Nat} (h : SysC B s) (hn : B < n) (hB : B ≤ 5000000) : f_laws_markSys n s 1 = some ((marks s).r, markS s, ()) := by
  have h1 := h.small.tasks
  have h4 := h.small.ghosts
  have h5 := h.small.floors
  have h6 := h.small.trace
  obtain ⟨m1, m2, m3, m4, m5, m6⟩ := marks_ge h
  simp only [f_laws_markSys, markTaskS_eq (xs := s.Tasks) (k := 1) (n := n) (by omega) (by omega) (by omega) (by omega), Option.bind_some]
  change (f_laws_markLockS n s.Locks (marks s).t).bind _ = _
  rw [markLockS_eq h.lb hn hB (by omega) (by omega), Option.bind_some]
  change (f_laws_markGhostS n s.Ghosts (marks s).l).bind _ = _
  rw [markGhostS_eq (by omega) (by omega) (by omega) (by omega), Option.bind_some]
  change (f_laws_markIntS n s.Floors (marks s).g).bind _ = _
  rw [markIntS_eq (by omega) (by omega) (by omega) (by omega), Option.bind_some]
  change (f_laws_markTurnS n s.Trace (marks s).f).bind _ = _
  rw [markTurnS_eq (by omega) (by omega) (by omega) (by omega), Option.bind_some]
  rfl
theorem heldSys_eq {s t : Sys} {n B : Nat} (h : SysC B s) (hn : B < n) (hB : B ≤ 5000000) (e1 : t.Tasks = (markS s).2.2.1) (e2 : t.Locks = (markS s).2.2.2.1) (e3 : t.Ghosts = (markS s).2.2.2.2.1) (e4 : t.Floors = (markS s).2.2.2.2.2.1) (e5 : t.Trace = (markS s).2.2.2.2.2.2.2.2.1) :
    f_laws_heldSys n t 1 = some ((marks s).r, ()) := by
  have h1 := h.small.tasks
  have h4 := h.small.ghosts
  have h5 := h.small.floors
  have h6 := h.small.trace
  obtain ⟨m1, m2, m3, m4, m5, m6⟩ := marks_ge h
  simp only [markS] at e1 e2 e3 e4 e5
  simp only [f_laws_heldSys, e1, e2, e3, e4, e5, heldTaskS_eq (len := s.Tasks.length) (k := 1) (n := n) (by omega) (by omega) (by omega) (by omega), Option.bind_some]
  have p1 : ¬ ((1 + 14 * (s.Tasks.length : Int)) < 0) := by omega
  rw [decide_eq_false p1, cond_false]
  change (f_laws_heldLockS n (markL (marks s).t s.Locks) (marks s).t).bind _ = _
  rw [heldLockS_eq h.lb hn hB (by omega) (by omega), Option.bind_some]
  change cond (decide ((marks s).l < 0)) _ ((f_laws_heldGhostS n (marked mkGhost 4 (marks s).l s.Ghosts.length) (marks s).l).bind _) = _
  rw [decide_eq_false (show ¬ (marks s).l < 0 by omega), cond_false, heldGhostS_eq (by omega) (by omega) (by omega) (by omega), Option.bind_some]
  change cond (decide ((marks s).g < 0)) _ ((f_laws_heldIntS n (marked mkInt 1 (marks s).g s.Floors.length) (marks s).g).bind _) = _
  rw [decide_eq_false (show ¬ (marks s).g < 0 by omega), cond_false, heldIntS_eq (by omega) (by omega) (by omega) (by omega), Option.bind_some]
  change cond (decide ((marks s).f < 0)) _ ((f_laws_heldTurnS n (marked mkTurn 3 (marks s).f s.Trace.length) (marks s).f).bind _) = _
  rw [decide_eq_false (show ¬ (marks s).f < 0 by omega), cond_false, heldTurnS_eq (by omega) (by omega) (by omega) (by omega), Option.bind_some]
  change cond (decide ((marks s).r < 0)) _ (some ((marks s).r, ())) = _
  rw [decide_eq_false (show ¬ (marks s).r < 0 by omega), cond_false]
end Go.Proofs.Ytoedeimpfbebpaa.VR
