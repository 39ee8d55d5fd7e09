/- Marks: what a law writes into a result it finds again. -/
import Derived.Test.YtoedeimpfbebpaaNs
import Derived.Test.YtoedeimpfbebpaaG06
set_option linter.unusedVariables false
set_option linter.unusedSimpArgs false
namespace Go.Proofs.Ytoedeimpfbebpaa.VR
open Go
theorem set_get {β : Type} {v : List β} {i : Nat} (h : i < v.length) (x d : β) : List.getD (List.set v i x) i d = x := by
  rw [getD_nat (by rw [List.length_set]; exact h), List.getElem_set_self]
theorem set_mid {β : Type} {A xs : List β} {i : Nat} (hA : A.length = i) (hi : i < xs.length) (x : β) : List.set (A ++ xs.drop i) i x = (A ++ [x]) ++ xs.drop (i + 1) := by
  rw [List.set_append_right _ _ (by omega), List.drop_eq_getElem_cons hi, hA, Nat.sub_self, List.set_cons_zero, List.append_assoc]; rfl
theorem mid_len {β : Type} {A xs : List β} {i : Nat} (hA : A.length = i) (hi : i ≤ xs.length) : (A ++ xs.drop i).length = xs.length := by
  rw [List.length_append, List.length_drop, hA]; omega
theorem w_add {k : Int} (h0 : 0 ≤ k) (h1 : k ≤ 1099511627776) (j : Int) (hj : 0 ≤ j ∧ j ≤ 100) : w64 (k + j) = k + j := w64_id (by omega) (by omega)
def marked {β : Type} (mk : Int → β) (c : Int) (k : Int) (len : Nat) : List β := (List.range len).map fun (i : Nat) => mk (k + c * (i : Int))
theorem marked_succ {β : Type} (mk : Int → β) (c k : Int) (i : Nat) : marked mk c k (i + 1) = marked mk c k i ++ [mk (k + c * (i : Int))] := by
  unfold marked; rw [List.range_succ, List.map_append]; rfl
theorem marked_len {β : Type} (mk : Int → β) (c k : Int) (i : Nat) : (marked mk c k i).length = i := by unfold marked; rw [List.length_map, List.length_range]
theorem marked_get {β : Type} (mk : Int → β) (c k : Int) {len i : Nat} (h : i < (marked mk c k len).length) : (marked mk c k len)[i] = mk (k + c * (i : Int)) := by
  simp [marked]
def mkShare (k : Int) : Share := ⟨k, k + 1⟩
set_option maxHeartbeats 4000000 in
theorem markShare_step {α : Type} {n m : Nat} {A xs : List Share} {k : Int} {i : Nat} {K : Int → List Share → Option α} (hA : A.length = i) (hi : i < xs.length) (hl : xs.length ≤ lim) (h0 : 0 ≤ k) (h1 : k ≤ 1099511627776) :
    l_laws_markShareS_0 n (m + 1) (A ++ xs.drop i) k (i : Int) K = l_laws_markShareS_0 n m ((A ++ [mkShare k]) ++ xs.drop (i + 1)) (k + 2) ((i + 1 : Nat) : Int) K := by
  have hs := fun x => set_mid hA hi x
  have hv : i < (A ++ xs.drop i).length := by rw [mid_len hA (Nat.le_of_lt hi)]; exact hi
  revert hs hv
  generalize A ++ xs.drop i = v
  intro hs hv
  have z1 : (0 : Int) ≤ (i : Int) := by omega
  have z2 : (i : Int) < (v.length : Int) := by omega
  have w1 : w64 (k + 1) = k + 1 := w64_id (by omega) (by omega)
  have w2 : w64 (k + 1 + 1) = k + 1 + 1 := w64_id (by omega) (by omega)
  have wi := wsucc (Nat.lt_trans hi (lim_lm hl))
  simp only [l_laws_markShareS_0, z1, z2, hv, Int.toNat_natCast, List.length_set, decide_true, Bool.and_self, cond_true, set_get hv, List.set_set, w1, w2, wi]
  rw [hs]
  have e : k + 1 + 1 = k + 2 := by omega
  rw [e]
  first | done | rfl
theorem markShareS_eq {n : Nat} {xs : List Share} {k : Int} (hn : xs.length < n) (hl : xs.length ≤ 10000000) (h0 : 0 ≤ k) (h1 : k ≤ 549755813888) : f_laws_markShareS n xs k = some (k + 2 * (xs.length : Int), marked mkShare 2 k xs.length, ()) := by
  unfold f_laws_markShareS
  have hlim : xs.length ≤ lim := by unfold lim; omega
  have := loop_to (l := fun m i => l_laws_markShareS_0 n m (marked mkShare 2 k i ++ xs.drop i) (k + 2 * (i : Int)) (i : Int) (fun w7 w8 => some (w7, w8, ()))) (len := xs.length)
    (r := some (k + 2 * (xs.length : Int), marked mkShare 2 k xs.length, ())) (fun _ => True) trivial (fun m _ => ?_) (fun m i hi _ => .inl ⟨?_, trivial⟩) (m := n) hn
  · have e : k + 2 * ((0 : Nat) : Int) = k := by omega
    simp only [e, List.drop_zero] at this
    exact this
  · have hlen : (marked mkShare 2 k xs.length ++ xs.drop xs.length).length = xs.length := mid_len (marked_len ..) (Nat.le_refl _)
    simp only [l_laws_markShareS_0, hlen, lt_f, cond_false]
    rw [List.drop_length, List.append_nil]
  · rw [markShare_step (marked_len ..) hi hlim (by omega) (by omega), ← marked_succ]
    have e : k + 2 * (i : Int) + 2 = k + 2 * ((i + 1 : Nat) : Int) := by omega
    rw [e]
set_option maxHeartbeats 4000000 in
theorem heldShareS_eq {n : Nat} {len : Nat} {k : Int} (hn : len < n) (hl : len ≤ 10000000) (h0 : 0 ≤ k) (h1 : k ≤ 549755813888) : f_laws_heldShareS n (marked mkShare 2 k len) k = some (k + 2 * (len : Int), ()) := by
  unfold f_laws_heldShareS
  have hlim : len ≤ lim := by unfold lim; omega
  have := loop_to (l := fun m i => l_laws_heldShareS_0 n m (marked mkShare 2 k len) (k + 2 * (i : Int)) (i : Int) (fun _ => some ((-1), ())) (fun w8 => some (w8, ()))) (len := len)
    (r := some (k + 2 * (len : Int), ())) (fun _ => True) trivial (fun m _ => ?_) (fun m i hi _ => .inl ⟨?_, trivial⟩) (m := n) hn
  · have e : k + 2 * ((0 : Nat) : Int) = k := by omega
    simp only [e] at this
    exact this
  · simp only [l_laws_heldShareS_0, marked_len, lt_f, cond_false]
  · have hv : i < (marked mkShare 2 k len).length := by rw [marked_len]; exact hi
    have hg : List.getD (marked mkShare 2 k len) (Int.toNat (i : Int)) (Kd.dflt .share) = mkShare (k + 2 * (i : Int)) := by rw [getD_at hv, marked_get]
    have z1 : (0 : Int) ≤ (i : Int) := by omega
    have z2 : (i : Int) < ((marked mkShare 2 k len).length : Int) := by omega
    have hq0 : 0 ≤ k + 2 * (i : Int) := by omega
    have hq1 : k + 2 * (i : Int) ≤ 1099511627776 := by omega
    have e9 : k + 2 * ((i + 1 : Nat) : Int) = k + 2 * (i : Int) + 2 := by omega
    rw [e9]
    revert hg hq0 hq1
    generalize marked mkShare 2 k len = v at z2 ⊢
    generalize k + 2 * (i : Int) = q
    intro hg hq0 hq1
    have w1 : w64 (q + 1) = q + 1 := w64_id (by omega) (by omega)
    have w2 : w64 (q + 1 + 1) = q + 1 + 1 := w64_id (by omega) (by omega)
    have wi := wsucc (Nat.lt_trans hi (lim_lm hlim))
    have e : q + 1 + 1 = q + 2 := by omega
    simp only [l_laws_heldShareS_0, z1, z2, decide_true, Bool.and_self, cond_true, hg, mkShare, w1, w2, wi, Bool.not_true, cond_false, beq_self_eq_true]
    first | done | rw [e]
def mkTurn (k : Int) : Turn := ⟨k, k + 1, k + 1 + 1⟩
set_option maxHeartbeats 4000000 in
theorem markTurn_step {α : Type} {n m : Nat} {A xs : List Turn} {k : Int} {i : Nat} {K : Int → List Turn → Option α} (hA : A.length = i) (hi : i < xs.length) (hl : xs.length ≤ lim) (h0 : 0 ≤ k) (h1 : k ≤ 1099511627776) :
    l_laws_markTurnS_0 n (m + 1) (A ++ xs.drop i) k (i : Int) K = l_laws_markTurnS_0 n m ((A ++ [mkTurn k]) ++ xs.drop (i + 1)) (k + 3) ((i + 1 : Nat) : Int) K := by
  have hs := fun x => set_mid hA hi x
  have hv : i < (A ++ xs.drop i).length := by rw [mid_len hA (Nat.le_of_lt hi)]; exact hi
  revert hs hv
  generalize A ++ xs.drop i = v
  intro hs hv
  have z1 : (0 : Int) ≤ (i : Int) := by omega
  have z2 : (i : Int) < (v.length : Int) := by omega
  have w1 : w64 (k + 1) = k + 1 := w64_id (by omega) (by omega)
  have w2 : w64 (k + 1 + 1) = k + 1 + 1 := w64_id (by omega) (by omega)
  have w3 : w64 (k + 1 + 1 + 1) = k + 1 + 1 + 1 := w64_id (by omega) (by omega)
  have wi := wsucc (Nat.lt_trans hi (lim_lm hl))
  simp only [l_laws_markTurnS_0, z1, z2, hv, Int.toNat_natCast, List.length_set, decide_true, Bool.and_self, cond_true, set_get hv, List.set_set, w1, w2, w3, wi]
  rw [hs]
  have e : k + 1 + 1 + 1 = k + 3 := by omega
  rw [e]
  first | done | rfl
theorem markTurnS_eq {n : Nat} {xs : List Turn} {k : Int} (hn : xs.length < n) (hl : xs.length ≤ 10000000) (h0 : 0 ≤ k) (h1 : k ≤ 549755813888) : f_laws_markTurnS n xs k = some (k + 3 * (xs.length : Int), marked mkTurn 3 k xs.length, ()) := by
  unfold f_laws_markTurnS
  have hlim : xs.length ≤ lim := by unfold lim; omega
  have := loop_to (l := fun m i => l_laws_markTurnS_0 n m (marked mkTurn 3 k i ++ xs.drop i) (k + 3 * (i : Int)) (i : Int) (fun w7 w8 => some (w7, w8, ()))) (len := xs.length)
    (r := some (k + 3 * (xs.length : Int), marked mkTurn 3 k xs.length, ())) (fun _ => True) trivial (fun m _ => ?_) (fun m i hi _ => .inl ⟨?_, trivial⟩) (m := n) hn
  · have e : k + 3 * ((0 : Nat) : Int) = k := by omega
    simp only [e, List.drop_zero] at this
    exact this
  · have hlen : (marked mkTurn 3 k xs.length ++ xs.drop xs.length).length = xs.length := mid_len (marked_len ..) (Nat.le_refl _)
    simp only [l_laws_markTurnS_0, hlen, lt_f, cond_false]
    rw [List.drop_length, List.append_nil]
  · rw [markTurn_step (marked_len ..) hi hlim (by omega) (by omega), ← marked_succ]
    have e : k + 3 * (i : Int) + 3 = k + 3 * ((i + 1 : Nat) : Int) := by omega
    rw [e]
set_option maxHeartbeats 4000000 in
theorem heldTurnS_eq {n : Nat} {len : Nat} {k : Int} (hn : len < n) (hl : len ≤ 10000000) (h0 : 0 ≤ k) (h1 : k ≤ 549755813888) : f_laws_heldTurnS n (marked mkTurn 3 k len) k = some (k + 3 * (len : Int), ()) := by
  unfold f_laws_heldTurnS
  have hlim : len ≤ lim := by unfold lim; omega
  have := loop_to (l := fun m i => l_laws_heldTurnS_0 n m (marked mkTurn 3 k len) (k + 3 * (i : Int)) (i : Int) (fun _ => some ((-1), ())) (fun w8 => some (w8, ()))) (len := len)
    (r := some (k + 3 * (len : Int), ())) (fun _ => True) trivial (fun m _ => ?_) (fun m i hi _ => .inl ⟨?_, trivial⟩) (m := n) hn
  · have e : k + 3 * ((0 : Nat) : Int) = k := by omega
    simp only [e] at this
    exact this
  · simp only [l_laws_heldTurnS_0, marked_len, lt_f, cond_false]
  · have hv : i < (marked mkTurn 3 k len).length := by rw [marked_len]; exact hi
    have hg : List.getD (marked mkTurn 3 k len) (Int.toNat (i : Int)) (Kd.dflt .turn) = mkTurn (k + 3 * (i : Int)) := by rw [getD_at hv, marked_get]
    have z1 : (0 : Int) ≤ (i : Int) := by omega
    have z2 : (i : Int) < ((marked mkTurn 3 k len).length : Int) := by omega
    have hq0 : 0 ≤ k + 3 * (i : Int) := by omega
    have hq1 : k + 3 * (i : Int) ≤ 1099511627776 := by omega
    have e9 : k + 3 * ((i + 1 : Nat) : Int) = k + 3 * (i : Int) + 3 := by omega
    rw [e9]
    revert hg hq0 hq1
    generalize marked mkTurn 3 k len = v at z2 ⊢
    generalize k + 3 * (i : Int) = q
    intro hg hq0 hq1
    have w1 : w64 (q + 1) = q + 1 := w64_id (by omega) (by omega)
    have w2 : w64 (q + 1 + 1) = q + 1 + 1 := w64_id (by omega) (by omega)
    have w3 : w64 (q + 1 + 1 + 1) = q + 1 + 1 + 1 := w64_id (by omega) (by omega)
    have wi := wsucc (Nat.lt_trans hi (lim_lm hlim))
    have e : q + 1 + 1 + 1 = q + 3 := by omega
    simp only [l_laws_heldTurnS_0, z1, z2, decide_true, Bool.and_self, cond_true, hg, mkTurn, w1, w2, w3, wi, Bool.not_true, cond_false, beq_self_eq_true]
    first | done | rw [e]
def mkGhost (k : Int) : Ghost := ⟨k, ⟨k + 1, k + 1 + 1⟩, k + 1 + 1 + 1⟩
set_option maxHeartbeats 4000000 in
theorem markGhost_step {α : Type} {n m : Nat} {A xs : List Ghost} {k : Int} {i : Nat} {K : Int → List Ghost → Option α} (hA : A.length = i) (hi : i < xs.length) (hl : xs.length ≤ lim) (h0 : 0 ≤ k) (h1 : k ≤ 1099511627776) :
    l_laws_markGhostS_0 n (m + 1) (A ++ xs.drop i) k (i : Int) K = l_laws_markGhostS_0 n m ((A ++ [mkGhost k]) ++ xs.drop (i + 1)) (k + 4) ((i + 1 : Nat) : Int) K := by
  have hs := fun x => set_mid hA hi x
  have hv : i < (A ++ xs.drop i).length := by rw [mid_len hA (Nat.le_of_lt hi)]; exact hi
  revert hs hv
  generalize A ++ xs.drop i = v
  intro hs hv
  have z1 : (0 : Int) ≤ (i : Int) := by omega
  have z2 : (i : Int) < (v.length : Int) := by omega
  have w1 : w64 (k + 1) = k + 1 := w64_id (by omega) (by omega)
  have w2 : w64 (k + 1 + 1) = k + 1 + 1 := w64_id (by omega) (by omega)
  have w3 : w64 (k + 1 + 1 + 1) = k + 1 + 1 + 1 := w64_id (by omega) (by omega)
  have w4 : w64 (k + 1 + 1 + 1 + 1) = k + 1 + 1 + 1 + 1 := w64_id (by omega) (by omega)
  have wi := wsucc (Nat.lt_trans hi (lim_lm hl))
  simp only [l_laws_markGhostS_0, z1, z2, hv, Int.toNat_natCast, List.length_set, decide_true, Bool.and_self, cond_true, set_get hv, List.set_set, w1, w2, w3, w4, wi]
  rw [hs]
  have e : k + 1 + 1 + 1 + 1 = k + 4 := by omega
  rw [e]
  first | done | rfl
theorem markGhostS_eq {n : Nat} {xs : List Ghost} {k : Int} (hn : xs.length < n) (hl : xs.length ≤ 10000000) (h0 : 0 ≤ k) (h1 : k ≤ 549755813888) : f_laws_markGhostS n xs k = some (k + 4 * (xs.length : Int), marked mkGhost 4 k xs.length, ()) := by
  unfold f_laws_markGhostS
  have hlim : xs.length ≤ lim := by unfold lim; omega
  have := loop_to (l := fun m i => l_laws_markGhostS_0 n m (marked mkGhost 4 k i ++ xs.drop i) (k + 4 * (i : Int)) (i : Int) (fun w7 w8 => some (w7, w8, ()))) (len := xs.length)
    (r := some (k + 4 * (xs.length : Int), marked mkGhost 4 k xs.length, ())) (fun _ => True) trivial (fun m _ => ?_) (fun m i hi _ => .inl ⟨?_, trivial⟩) (m := n) hn
  · have e : k + 4 * ((0 : Nat) : Int) = k := by omega
    simp only [e, List.drop_zero] at this
    exact this
  · have hlen : (marked mkGhost 4 k xs.length ++ xs.drop xs.length).length = xs.length := mid_len (marked_len ..) (Nat.le_refl _)
    simp only [l_laws_markGhostS_0, hlen, lt_f, cond_false]
    rw [List.drop_length, List.append_nil]
  · rw [markGhost_step (marked_len ..) hi hlim (by omega) (by omega), ← marked_succ]
    have e : k + 4 * (i : Int) + 4 = k + 4 * ((i + 1 : Nat) : Int) := by omega
    rw [e]
set_option maxHeartbeats 4000000 in
theorem heldGhostS_eq {n : Nat} {len : Nat} {k : Int} (hn : len < n) (hl : len ≤ 10000000) (h0 : 0 ≤ k) (h1 : k ≤ 549755813888) : f_laws_heldGhostS n (marked mkGhost 4 k len) k = some (k + 4 * (len : Int), ()) := by
  unfold f_laws_heldGhostS
  have hlim : len ≤ lim := by unfold lim; omega
  have := loop_to (l := fun m i => l_laws_heldGhostS_0 n m (marked mkGhost 4 k len) (k + 4 * (i : Int)) (i : Int) (fun _ => some ((-1), ())) (fun w8 => some (w8, ()))) (len := len)
    (r := some (k + 4 * (len : Int), ())) (fun _ => True) trivial (fun m _ => ?_) (fun m i hi _ => .inl ⟨?_, trivial⟩) (m := n) hn
  · have e : k + 4 * ((0 : Nat) : Int) = k := by omega
    simp only [e] at this
    exact this
  · simp only [l_laws_heldGhostS_0, marked_len, lt_f, cond_false]
  · have hv : i < (marked mkGhost 4 k len).length := by rw [marked_len]; exact hi
    have hg : List.getD (marked mkGhost 4 k len) (Int.toNat (i : Int)) (Kd.dflt .ghost) = mkGhost (k + 4 * (i : Int)) := by rw [getD_at hv, marked_get]
    have z1 : (0 : Int) ≤ (i : Int) := by omega
    have z2 : (i : Int) < ((marked mkGhost 4 k len).length : Int) := by omega
    have hq0 : 0 ≤ k + 4 * (i : Int) := by omega
    have hq1 : k + 4 * (i : Int) ≤ 1099511627776 := by omega
    have e9 : k + 4 * ((i + 1 : Nat) : Int) = k + 4 * (i : Int) + 4 := by omega
    rw [e9]
    revert hg hq0 hq1
    generalize marked mkGhost 4 k len = v at z2 ⊢
    generalize k + 4 * (i : Int) = q
    intro hg hq0 hq1
    have w1 : w64 (q + 1) = q + 1 := w64_id (by omega) (by omega)
    have w2 : w64 (q + 1 + 1) = q + 1 + 1 := w64_id (by omega) (by omega)
    have w3 : w64 (q + 1 + 1 + 1) = q + 1 + 1 + 1 := w64_id (by omega) (by omega)
    have w4 : w64 (q + 1 + 1 + 1 + 1) = q + 1 + 1 + 1 + 1 := w64_id (by omega) (by omega)
    have wi := wsucc (Nat.lt_trans hi (lim_lm hlim))
    have e : q + 1 + 1 + 1 + 1 = q + 4 := by omega
    simp only [l_laws_heldGhostS_0, z1, z2, decide_true, Bool.and_self, cond_true, hg, mkGhost, w1, w2, w3, w4, wi, Bool.not_true, cond_false, beq_self_eq_true]
    first | done | rw [e]
def mkInt (k : Int) : Int := k
set_option maxHeartbeats 4000000 in
theorem markInt_step {α : Type} {n m : Nat} {A xs : List Int} {k : Int} {i : Nat} {K : Int → List Int → Option α} (hA : A.length = i) (hi : i < xs.length) (hl : xs.length ≤ lim) (h0 : 0 ≤ k) (h1 : k ≤ 1099511627776) :
    l_laws_markIntS_0 n (m + 1) (A ++ xs.drop i) k (i : Int) K = l_laws_markIntS_0 n m ((A ++ [mkInt k]) ++ xs.drop (i + 1)) (k + 1) ((i + 1 : Nat) : Int) K := by
  have hs := fun x => set_mid hA hi x
  have hv : i < (A ++ xs.drop i).length := by rw [mid_len hA (Nat.le_of_lt hi)]; exact hi
  revert hs hv
  generalize A ++ xs.drop i = v
  intro hs hv
  have z1 : (0 : Int) ≤ (i : Int) := by omega
  have z2 : (i : Int) < (v.length : Int) := by omega
  have w1 : w64 (k + 1) = k + 1 := w64_id (by omega) (by omega)
  have wi := wsucc (Nat.lt_trans hi (lim_lm hl))
  simp only [l_laws_markIntS_0, z1, z2, hv, Int.toNat_natCast, List.length_set, decide_true, Bool.and_self, cond_true, set_get hv, List.set_set, w1, wi]
  rw [hs]
  have e : k + 1 = k + 1 := by omega
  rw [e]
  first | done | rfl
theorem markIntS_eq {n : Nat} {xs : List Int} {k : Int} (hn : xs.length < n) (hl : xs.length ≤ 10000000) (h0 : 0 ≤ k) (h1 : k ≤ 549755813888) : f_laws_markIntS n xs k = some (k + 1 * (xs.length : Int), marked mkInt 1 k xs.length, ()) := by
  unfold f_laws_markIntS
  have hlim : xs.length ≤ lim := by unfold lim; omega
  have := loop_to (l := fun m i => l_laws_markIntS_0 n m (marked mkInt 1 k i ++ xs.drop i) (k + 1 * (i : Int)) (i : Int) (fun w7 w8 => some (w7, w8, ()))) (len := xs.length)
    (r := some (k + 1 * (xs.length : Int), marked mkInt 1 k xs.length, ())) (fun _ => True) trivial (fun m _ => ?_) (fun m i hi _ => .inl ⟨?_, trivial⟩) (m := n) hn
  · have e : k + 1 * ((0 : Nat) : Int) = k := by omega
    simp only [e, List.drop_zero] at this
    exact this
  · have hlen : (marked mkInt 1 k xs.length ++ xs.drop xs.length).length = xs.length := mid_len (marked_len ..) (Nat.le_refl _)
    simp only [l_laws_markIntS_0, hlen, lt_f, cond_false]
    rw [List.drop_length, List.append_nil]
  · rw [markInt_step (marked_len ..) hi hlim (by omega) (by omega), ← marked_succ]
    have e : k + 1 * (i : Int) + 1 = k + 1 * ((i + 1 : Nat) : Int) := by omega
    rw [e]
set_option maxHeartbeats 4000000 in
theorem heldIntS_eq {n : Nat} {len : Nat} {k : Int} (hn : len < n) (hl : len ≤ 10000000) (h0 : 0 ≤ k) (h1 : k ≤ 549755813888) : f_laws_heldIntS n (marked mkInt 1 k len) k = some (k + 1 * (len : Int), ()) := by
  unfold f_laws_heldIntS
  have hlim : len ≤ lim := by unfold lim; omega
  have := loop_to (l := fun m i => l_laws_heldIntS_0 n m (marked mkInt 1 k len) (k + 1 * (i : Int)) (i : Int) (fun _ => some ((-1), ())) (fun w8 => some (w8, ()))) (len := len)
    (r := some (k + 1 * (len : Int), ())) (fun _ => True) trivial (fun m _ => ?_) (fun m i hi _ => .inl ⟨?_, trivial⟩) (m := n) hn
  · have e : k + 1 * ((0 : Nat) : Int) = k := by omega
    simp only [e] at this
    exact this
  · simp only [l_laws_heldIntS_0, marked_len, lt_f, cond_false]
  · have hv : i < (marked mkInt 1 k len).length := by rw [marked_len]; exact hi
    have hg : List.getD (marked mkInt 1 k len) (Int.toNat (i : Int)) (Kd.dflt .int) = mkInt (k + 1 * (i : Int)) := by rw [getD_at hv, marked_get]
    have z1 : (0 : Int) ≤ (i : Int) := by omega
    have z2 : (i : Int) < ((marked mkInt 1 k len).length : Int) := by omega
    have hq0 : 0 ≤ k + 1 * (i : Int) := by omega
    have hq1 : k + 1 * (i : Int) ≤ 1099511627776 := by omega
    have e9 : k + 1 * ((i + 1 : Nat) : Int) = k + 1 * (i : Int) + 1 := by omega
    rw [e9]
    revert hg hq0 hq1
    generalize marked mkInt 1 k len = v at z2 ⊢
    generalize k + 1 * (i : Int) = q
    intro hg hq0 hq1
    have w1 : w64 (q + 1) = q + 1 := w64_id (by omega) (by omega)
    have wi := wsucc (Nat.lt_trans hi (lim_lm hlim))
    have e : q + 1 = q + 1 := by omega
    simp only [l_laws_heldIntS_0, z1, z2, decide_true, Bool.and_self, cond_true, hg, mkInt, w1, wi, Bool.not_true, cond_false, beq_self_eq_true]
    first | done | rw [e]
def mkTask (k : Int) : Task := ⟨k, k + 1, k + 1 + 1, k + 1 + 1 + 1, decide (Int.tmod (k + 1 + 1 + 1 + 1) 3 = 0), k + 1 + 1 + 1 + 1 + 1, k + 1 + 1 + 1 + 1 + 1 + 1, k + 1 + 1 + 1 + 1 + 1 + 1 + 1, k + 1 + 1 + 1 + 1 + 1 + 1 + 1 + 1, k + 1 + 1 + 1 + 1 + 1 + 1 + 1 + 1 + 1, k + 1 + 1 + 1 + 1 + 1 + 1 + 1 + 1 + 1 + 1, k + 1 + 1 + 1 + 1 + 1 + 1 + 1 + 1 + 1 + 1 + 1, k + 1 + 1 + 1 + 1 + 1 + 1 + 1 + 1 + 1 + 1 + 1 + 1, k + 1 + 1 + 1 + 1 + 1 + 1 + 1 + 1 + 1 + 1 + 1 + 1 + 1⟩
set_option maxHeartbeats 4000000 in
theorem markTask_step {α : Type} {n m : Nat} {A xs : List Task} {k : Int} {i : Nat} {K : Int → List Task → Option α} (hA : A.length = i) (hi : i < xs.length) (hl : xs.length ≤ lim) (h0 : 0 ≤ k) (h1 : k ≤ 1099511627776) :
    l_laws_markTaskS_0 n (m + 1) (A ++ xs.drop i) k (i : Int) K = l_laws_markTaskS_0 n m ((A ++ [mkTask k]) ++ xs.drop (i + 1)) (k + 14) ((i + 1 : Nat) : Int) K := by
  have hs := fun x => set_mid hA hi x
  have hv : i < (A ++ xs.drop i).length := by rw [mid_len hA (Nat.le_of_lt hi)]; exact hi
  revert hs hv
  generalize A ++ xs.drop i = v
  intro hs hv
  have z1 : (0 : Int) ≤ (i : Int) := by omega
  have z2 : (i : Int) < (v.length : Int) := by omega
  have w1 : w64 (k + 1) = k + 1 := w64_id (by omega) (by omega)
  have w2 : w64 (k + 1 + 1) = k + 1 + 1 := w64_id (by omega) (by omega)
  have w3 : w64 (k + 1 + 1 + 1) = k + 1 + 1 + 1 := w64_id (by omega) (by omega)
  have w4 : w64 (k + 1 + 1 + 1 + 1) = k + 1 + 1 + 1 + 1 := w64_id (by omega) (by omega)
  have w5 : w64 (k + 1 + 1 + 1 + 1 + 1) = k + 1 + 1 + 1 + 1 + 1 := w64_id (by omega) (by omega)
  have w6 : w64 (k + 1 + 1 + 1 + 1 + 1 + 1) = k + 1 + 1 + 1 + 1 + 1 + 1 := w64_id (by omega) (by omega)
  have w7 : w64 (k + 1 + 1 + 1 + 1 + 1 + 1 + 1) = k + 1 + 1 + 1 + 1 + 1 + 1 + 1 := w64_id (by omega) (by omega)
  have w8 : w64 (k + 1 + 1 + 1 + 1 + 1 + 1 + 1 + 1) = k + 1 + 1 + 1 + 1 + 1 + 1 + 1 + 1 := w64_id (by omega) (by omega)
  have w9 : w64 (k + 1 + 1 + 1 + 1 + 1 + 1 + 1 + 1 + 1) = k + 1 + 1 + 1 + 1 + 1 + 1 + 1 + 1 + 1 := w64_id (by omega) (by omega)
  have w10 : w64 (k + 1 + 1 + 1 + 1 + 1 + 1 + 1 + 1 + 1 + 1) = k + 1 + 1 + 1 + 1 + 1 + 1 + 1 + 1 + 1 + 1 := w64_id (by omega) (by omega)
  have w11 : w64 (k + 1 + 1 + 1 + 1 + 1 + 1 + 1 + 1 + 1 + 1 + 1) = k + 1 + 1 + 1 + 1 + 1 + 1 + 1 + 1 + 1 + 1 + 1 := w64_id (by omega) (by omega)
  have w12 : w64 (k + 1 + 1 + 1 + 1 + 1 + 1 + 1 + 1 + 1 + 1 + 1 + 1) = k + 1 + 1 + 1 + 1 + 1 + 1 + 1 + 1 + 1 + 1 + 1 + 1 := w64_id (by omega) (by omega)
  have w13 : w64 (k + 1 + 1 + 1 + 1 + 1 + 1 + 1 + 1 + 1 + 1 + 1 + 1 + 1) = k + 1 + 1 + 1 + 1 + 1 + 1 + 1 + 1 + 1 + 1 + 1 + 1 + 1 := w64_id (by omega) (by omega)
  have w14 : w64 (k + 1 + 1 + 1 + 1 + 1 + 1 + 1 + 1 + 1 + 1 + 1 + 1 + 1 + 1) = k + 1 + 1 + 1 + 1 + 1 + 1 + 1 + 1 + 1 + 1 + 1 + 1 + 1 + 1 := w64_id (by omega) (by omega)
  have wi := wsucc (Nat.lt_trans hi (lim_lm hl))
  simp only [l_laws_markTaskS_0, z1, z2, hv, Int.toNat_natCast, List.length_set, decide_true, Bool.and_self, cond_true, set_get hv, List.set_set, w1, w2, w3, w4, w5, w6, w7, w8, w9, w10, w11, w12, w13, w14, wi]
  rw [hs]
  have e : k + 1 + 1 + 1 + 1 + 1 + 1 + 1 + 1 + 1 + 1 + 1 + 1 + 1 + 1 = k + 14 := by omega
  rw [e]
  first | done | rfl
theorem markTaskS_eq {n : Nat} {xs : List Task} {k : Int} (hn : xs.length < n) (hl : xs.length ≤ 10000000) (h0 : 0 ≤ k) (h1 : k ≤ 549755813888) : f_laws_markTaskS n xs k = some (k + 14 * (xs.length : Int), marked mkTask 14 k xs.length, ()) := by
  unfold f_laws_markTaskS
  have hlim : xs.length ≤ lim := by unfold lim; omega
  have := loop_to (l := fun m i => l_laws_markTaskS_0 n m (marked mkTask 14 k i ++ xs.drop i) (k + 14 * (i : Int)) (i : Int) (fun w7 w8 => some (w7, w8, ()))) (len := xs.length)
    (r := some (k + 14 * (xs.length : Int), marked mkTask 14 k xs.length, ())) (fun _ => True) trivial (fun m _ => ?_) (fun m i hi _ => .inl ⟨?_, trivial⟩) (m := n) hn
  · have e : k + 14 * ((0 : Nat) : Int) = k := by omega
    simp only [e, List.drop_zero] at this
    exact this
  · have hlen : (marked mkTask 14 k xs.length ++ xs.drop xs.length).length = xs.length := mid_len (marked_len ..) (Nat.le_refl _)
    simp only [l_laws_markTaskS_0, hlen, lt_f, cond_false]
    rw [List.drop_length, List.append_nil]
  · rw [markTask_step (marked_len ..) hi hlim (by omega) (by omega), ← marked_succ]
    have e : k + 14 * (i : Int) + 14 = k + 14 * ((i + 1 : Nat) : Int) := by omega
    rw [e]
set_option maxHeartbeats 4000000 in
theorem heldTaskS_eq {n : Nat} {len : Nat} {k : Int} (hn : len < n) (hl : len ≤ 10000000) (h0 : 0 ≤ k) (h1 : k ≤ 549755813888) : f_laws_heldTaskS n (marked mkTask 14 k len) k = some (k + 14 * (len : Int), ()) := by
  unfold f_laws_heldTaskS
  have hlim : len ≤ lim := by unfold lim; omega
  have := loop_to (l := fun m i => l_laws_heldTaskS_0 n m (marked mkTask 14 k len) (k + 14 * (i : Int)) (i : Int) (fun _ => some ((-1), ())) (fun w8 => some (w8, ()))) (len := len)
    (r := some (k + 14 * (len : Int), ())) (fun _ => True) trivial (fun m _ => ?_) (fun m i hi _ => .inl ⟨?_, trivial⟩) (m := n) hn
  · have e : k + 14 * ((0 : Nat) : Int) = k := by omega
    simp only [e] at this
    exact this
  · simp only [l_laws_heldTaskS_0, marked_len, lt_f, cond_false]
  · have hv : i < (marked mkTask 14 k len).length := by rw [marked_len]; exact hi
    have hg : List.getD (marked mkTask 14 k len) (Int.toNat (i : Int)) (Kd.dflt .task) = mkTask (k + 14 * (i : Int)) := by rw [getD_at hv, marked_get]
    have z1 : (0 : Int) ≤ (i : Int) := by omega
    have z2 : (i : Int) < ((marked mkTask 14 k len).length : Int) := by omega
    have hq0 : 0 ≤ k + 14 * (i : Int) := by omega
    have hq1 : k + 14 * (i : Int) ≤ 1099511627776 := by omega
    have e9 : k + 14 * ((i + 1 : Nat) : Int) = k + 14 * (i : Int) + 14 := by omega
    rw [e9]
    revert hg hq0 hq1
    generalize marked mkTask 14 k len = v at z2 ⊢
    generalize k + 14 * (i : Int) = q
    intro hg hq0 hq1
    have w1 : w64 (q + 1) = q + 1 := w64_id (by omega) (by omega)
    have w2 : w64 (q + 1 + 1) = q + 1 + 1 := w64_id (by omega) (by omega)
    have w3 : w64 (q + 1 + 1 + 1) = q + 1 + 1 + 1 := w64_id (by omega) (by omega)
    have w4 : w64 (q + 1 + 1 + 1 + 1) = q + 1 + 1 + 1 + 1 := w64_id (by omega) (by omega)
    have w5 : w64 (q + 1 + 1 + 1 + 1 + 1) = q + 1 + 1 + 1 + 1 + 1 := w64_id (by omega) (by omega)
    have w6 : w64 (q + 1 + 1 + 1 + 1 + 1 + 1) = q + 1 + 1 + 1 + 1 + 1 + 1 := w64_id (by omega) (by omega)
    have w7 : w64 (q + 1 + 1 + 1 + 1 + 1 + 1 + 1) = q + 1 + 1 + 1 + 1 + 1 + 1 + 1 := w64_id (by omega) (by omega)
    have w8 : w64 (q + 1 + 1 + 1 + 1 + 1 + 1 + 1 + 1) = q + 1 + 1 + 1 + 1 + 1 + 1 + 1 + 1 := w64_id (by omega) (by omega)
    have w9 : w64 (q + 1 + 1 + 1 + 1 + 1 + 1 + 1 + 1 + 1) = q + 1 + 1 + 1 + 1 + 1 + 1 + 1 + 1 + 1 := w64_id (by omega) (by omega)
    have w10 : w64 (q + 1 + 1 + 1 + 1 + 1 + 1 + 1 + 1 + 1 + 1) = q + 1 + 1 + 1 + 1 + 1 + 1 + 1 + 1 + 1 + 1 := w64_id (by omega) (by omega)
    have w11 : w64 (q + 1 + 1 + 1 + 1 + 1 + 1 + 1 + 1 + 1 + 1 + 1) = q + 1 + 1 + 1 + 1 + 1 + 1 + 1 + 1 + 1 + 1 + 1 := w64_id (by omega) (by omega)
    have w12 : w64 (q + 1 + 1 + 1 + 1 + 1 + 1 + 1 + 1 + 1 + 1 + 1 + 1) = q + 1 + 1 + 1 + 1 + 1 + 1 + 1 + 1 + 1 + 1 + 1 + 1 := w64_id (by omega) (by omega)
    have w13 : w64 (q + 1 + 1 + 1 + 1 + 1 + 1 + 1 + 1 + 1 + 1 + 1 + 1 + 1) = q + 1 + 1 + 1 + 1 + 1 + 1 + 1 + 1 + 1 + 1 + 1 + 1 + 1 := w64_id (by omega) (by omega)
    have w14 : w64 (q + 1 + 1 + 1 + 1 + 1 + 1 + 1 + 1 + 1 + 1 + 1 + 1 + 1 + 1) = q + 1 + 1 + 1 + 1 + 1 + 1 + 1 + 1 + 1 + 1 + 1 + 1 + 1 + 1 := w64_id (by omega) (by omega)
    have wi := wsucc (Nat.lt_trans hi (lim_lm hlim))
    have e : q + 1 + 1 + 1 + 1 + 1 + 1 + 1 + 1 + 1 + 1 + 1 + 1 + 1 + 1 = q + 14 := by omega
    simp only [l_laws_heldTaskS_0, z1, z2, decide_true, Bool.and_self, cond_true, hg, mkTask, w1, w2, w3, w4, w5, w6, w7, w8, w9, w10, w11, w12, w13, w14, wi, Bool.not_true, cond_false, beq_self_eq_true]
    first | done | rw [e]
end Go.Proofs.Ytoedeimpfbebpaa.VR
