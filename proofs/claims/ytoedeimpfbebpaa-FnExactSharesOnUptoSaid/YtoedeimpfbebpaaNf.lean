/- Locks: what the functions over them come to. -/
import Derived.Test.YtoedeimpfbebpaaNp
import Derived.Test.YtoedeimpfbebpaaNc
import Derived.Test.YtoedeimpfbebpaaG08
set_option linter.unusedVariables false
set_option linter.unusedSimpArgs false
namespace Go.Proofs.Ytoedeimpfbebpaa.VR
open Go
theorem lim_lm {n : Nat} (h : n ≤ lim) : n < lmax := by unfold lim at h; unfold lmax; omega
def idx : Option Nat → Int
  | some i => (i : Int)
  | none => -1
theorem idx_neg (o : Option Nat) : decide (idx o < 0) = o.isNone := by
  cases o with
  | none => rfl
  | some i => exact decide_eq_false (by simp [idx])
theorem idx_ge (o : Option Nat) : decide (0 ≤ idx o) = o.isSome := by
  cases o with
  | none => rfl
  | some i => exact decide_eq_true (by simp [idx])
theorem neg_f (i : Nat) : decide ((i : Int) < 0) = false := decide_eq_false (by omega)
theorem spec_l7Has_eq {xs : List Int} {x : Int} {n : Nat} (hn : xs.length < n) (hb : xs.length ≤ lim) : f_spec_l7Has n xs x = some (decide (x ∈ xs), ()) := by
  unfold f_spec_l7Has
  by_cases hx : x ∈ xs
  · rw [decide_eq_true hx]
    refine loop_to (l := fun m i => l_spec_l7Has_0 n m xs x (i : Int) (some (true, ())) (some (false, ()))) (len := xs.length) (fun i => x ∉ xs.take i) (by simp) (fun m hI => ?_) (fun m i hi hI => ?_) hn
    · rw [List.take_length] at hI; exact absurd hx hI
    · by_cases e : xs[i] = x
      · right
        simp only [l_spec_l7Has_0, lt_t hi, ge_t, Bool.and_self, cond_true, getD_at hi, decide_eq_true e]
      · left
        refine ⟨?_, ?_⟩
        · simp only [l_spec_l7Has_0, lt_t hi, ge_t, Bool.and_self, cond_true, getD_at hi, decide_eq_false e, cond_false, wsucc (Nat.lt_trans hi (lim_lm hb))]
        · rw [List.take_succ_eq_append_getElem hi, List.mem_append, not_or]
          exact ⟨hI, by simpa using fun h => e h.symm⟩
  · rw [decide_eq_false hx]
    refine loop_to (l := fun m i => l_spec_l7Has_0 n m xs x (i : Int) (some (true, ())) (some (false, ()))) (len := xs.length) (fun _ => True) trivial (fun m _ => ?_) (fun m i hi _ => .inl ⟨?_, trivial⟩) hn
    · simp only [l_spec_l7Has_0, lt_f, cond_false]
    · have e : ¬ xs[i] = x := fun e => hx (e ▸ List.getElem_mem hi)
      simp only [l_spec_l7Has_0, lt_t hi, ge_t, Bool.and_self, cond_true, getD_at hi, decide_eq_false e, cond_false, wsucc (Nat.lt_trans hi (lim_lm hb))]
theorem slices_Index_int_eq {xs : List Int} {x : Int} {n : Nat} (hn : xs.length < n) (hb : xs.length ≤ lim) : f_slices_Index_int n xs x = some (idx (xs.findIdx? fun y => decide (x = y)), ()) := by
  unfold f_slices_Index_int
  have := find_loop (l := fun m i => l_slices_Index_int_0 n m xs x (xs.length : Int) i (fun w5 => some (w5, ())) (some (-1, ()))) (xs := xs) (p := fun y => decide (x = y)) (k0 := fun w5 => some (w5, ())) (k1 := some (-1, ()))
    (fun m => by simp only [l_slices_Index_int_0, lt_f, cond_false])
    (fun m i hi => by simp only [l_slices_Index_int_0, lt_t hi, ge_t, Bool.and_self, cond_true, getD_at hi, wsucc (Nat.lt_trans hi (lim_lm hb))]) (m := n) hn
  refine this.trans ?_
  cases xs.findIdx? fun y => decide (x = y) <;> rfl
theorem slices_Contains_int_eq {xs : List Int} {x : Int} {n : Nat} (hn : xs.length < n) (hb : xs.length ≤ lim) : f_slices_Contains_int n xs x = some (decide (x ∈ xs), ()) := by
  simp only [f_slices_Contains_int, slices_Index_int_eq hn hb, Option.bind_some, idx_ge]
  refine congrArg (fun b => some (b, ())) (eq_of_iff ?_)
  rw [List.findIdx?_isSome]
  simp
/-- Lists of a table of locks are of no great length. -/
structure LSmall (B : Nat) (l : List Lock) : Prop where
  len : l.length ≤ B
  waits : ∀ k ∈ l, k.Waits.length ≤ B
theorem spec_WaitAt_eq {l : List Lock} {no : Int} {B n : Nat} (h : LSmall B l) (hn : B < n) (hb : B ≤ lim) : f_spec_WaitAt n l no = some (idx (waitIdx l no), ()) := by
  unfold f_spec_WaitAt waitIdx
  have := find_loop (l := fun m i => l_spec_WaitAt_0 n m l no i (fun w5 => some (w5, ())) (some (-1, ()))) (xs := l) (p := fun k => decide (no ∈ k.Waits)) (k0 := fun w5 => some (w5, ())) (k1 := some (-1, ()))
    (fun m => by simp only [l_spec_WaitAt_0, lt_f, cond_false])
    (fun m i hi => by
      have hw := h.waits _ (List.getElem_mem hi)
      have hl := h.len
      have e := spec_l7Has_eq (xs := l[i].Waits) (x := no) (n := n) (by omega) (by omega)
      simp only [l_spec_WaitAt_0, lt_t hi, ge_t, Bool.and_self, cond_true, getD_at hi, e, Option.bind_some, wsucc (Nat.lt_trans hi (lim_lm (Nat.le_trans hl hb)))]) (m := n) (by have := h.len; omega)
  refine this.trans ?_
  cases l.findIdx? fun k => decide (no ∈ k.Waits) <;> rfl
theorem impl_WaitAt_eq {l : List Lock} {no : Int} {B n : Nat} (h : LSmall B l) (hn : B < n) (hb : B ≤ lim) : f_impl_WaitAt n l no = some (idx (waitIdx l no), ()) := by
  have : f_slices_IndexFunc_Lock_WaitAt_1 n l no = some (idx (waitIdx l no), ()) := by
    unfold f_slices_IndexFunc_Lock_WaitAt_1 waitIdx
    have := find_loop (l := fun m i => l_slices_IndexFunc_Lock_WaitAt_1_0 n m l no (l.length : Int) i (fun w5 => some (w5, ())) (some (-1, ()))) (xs := l) (p := fun k => decide (no ∈ k.Waits)) (k0 := fun w5 => some (w5, ())) (k1 := some (-1, ()))
      (fun m => by simp only [l_slices_IndexFunc_Lock_WaitAt_1_0, lt_f, cond_false])
      (fun m i hi => by
        have hw := h.waits _ (List.getElem_mem hi)
        have hl := h.len
        have e := slices_Contains_int_eq (xs := l[i].Waits) (x := no) (n := n) (by omega) (by omega)
        simp only [l_slices_IndexFunc_Lock_WaitAt_1_0, f_impl_WaitAt_1, lt_t hi, ge_t, Bool.and_self, cond_true, getD_at hi, e, Option.bind_some, wsucc (Nat.lt_trans hi (lim_lm (Nat.le_trans hl hb)))]) (m := n) (by have := h.len; omega)
    refine this.trans ?_
    cases l.findIdx? fun k => decide (no ∈ k.Waits) <;> rfl
  simp only [f_impl_WaitAt, this, Option.bind_some]
/-- One step of a chain. -/
theorem next_cases (l : List Lock) (no : Int) : (waitIdx l no = none ∧ next l no = none) ∨ ∃ i, waitIdx l no = some i ∧ ∃ h : i < l.length, next l no = some l[i].Owner := by
  unfold next
  cases e : waitIdx l no with
  | none => exact .inl ⟨rfl, rfl⟩
  | some i =>
    have hi := waitIdx_lt e
    refine .inr ⟨i, rfl, hi, ?_⟩
    simp [List.getD_eq_getElem?_getD, List.getElem?_eq_getElem hi]
theorem chain_ends {α : Type} {l : List Lock} {B n : Nat} (hl : LSmall B l) (hn : B + 1 < n) (hb : B + 1 ≤ lim) {k0 k1 : List Int → Option α} {a0 : Int} :
    ∀ (c t : List Int) (no : Int) (m : Nat), chainOf l a0 = some (t ++ c) → chainOf l no = some c → c.length < m → l_impl_chain_0 n m l no (a0 :: t) k0 k1 = k0 (a0 :: (t ++ c))
  | [], t, no, m, h1, h2, hm => by
    obtain ⟨m, rfl⟩ : ∃ q, m = q + 1 := ⟨m - 1, by simp at hm; omega⟩
    rcases next_cases l no with ⟨e1, e2⟩ | ⟨i, e1, hi, e2⟩
    · simp only [l_impl_chain_0, impl_WaitAt_eq hl (show B < n by omega) (show B ≤ lim by omega), Option.bind_some, e1, idx_neg, Option.isNone_none, cond_true, List.append_nil]
    · rw [chainOf_step e2] at h2
      obtain ⟨_, _, h⟩ := Option.map_eq_some_iff.1 h2
      cases h
  | o :: c, t, no, m, h1, h2, hm => by
    obtain ⟨m, rfl⟩ : ∃ q, m = q + 1 := ⟨m - 1, by simp at hm; omega⟩
    rcases next_cases l no with ⟨e1, e2⟩ | ⟨i, e1, hi, e2⟩
    · rw [chainOf_end e2] at h2; cases h2
    · rw [chainOf_step e2] at h2
      obtain ⟨c', h3, h4⟩ := Option.map_eq_some_iff.1 h2
      injection h4 with h4 h5
      subst h5
      have hnd := chainR_nodup h1
      have hsh := chainR_short h1
      have hlen := hl.len
      have hnot : ¬ o ∈ a0 :: t := by
        intro hm
        rw [show a0 :: (t ++ o :: c') = (a0 :: t) ++ o :: c' by rfl, List.nodup_append] at hnd
        exact hnd.2.2 o hm o (List.mem_cons_self ..) rfl
      simp at hsh
      have e3 := slices_Contains_int_eq (xs := a0 :: t) (x := l[i].Owner) (n := n) (by simp; omega) (by simp; omega)
      have e4 : decide ((a0 :: t).length + [l[i].Owner].length ≤ lim) = true := decide_eq_true (by simp; omega)
      rw [h4] at e3 e4
      have e5 := chain_ends hl hn hb c' (t ++ [o]) o m (by rw [List.append_assoc]; exact h1) (by rw [← h4]; exact h3) (by simp at hm; omega) (k0 := k0) (k1 := k1)
      simp only [l_impl_chain_0, impl_WaitAt_eq hl (show B < n by omega) (show B ≤ lim by omega), Option.bind_some, e1, idx_neg, Option.isNone_some, cond_false, neg_f, idx, ge_t, lt_t hi, Bool.and_self, cond_true, getD_at hi, h4, e3, decide_eq_false hnot, e4]
      rw [show (a0 :: t) ++ [o] = a0 :: (t ++ [o]) by rfl, e5, List.append_assoc]; rfl
theorem chain_never {α : Type} {l : List Lock} {B n : Nat} (hl : LSmall B l) (hn : B + 1 < n) (hb : B + 1 ≤ lim) {k0 k1 : List Int → Option α} {a0 : Int} :
    ∀ (d : Nat) (t : List Int) (no : Int) (m : Nat), t.length + d = l.length → chainOf l no = none → (a0 :: t).Nodup → (∀ x ∈ t, x ∈ l.map (·.Owner)) → d < m → ∃ w, l_impl_chain_0 n m l no (a0 :: t) k0 k1 = k1 w := by
  intro d
  induction d with
  | zero =>
    intro t no m hd h2 hnd hs hm
    obtain ⟨m, rfl⟩ : ∃ q, m = q + 1 := ⟨m - 1, by omega⟩
    rcases next_cases l no with ⟨e1, e2⟩ | ⟨i, e1, hi, e2⟩
    · rw [chainOf_end e2] at h2; cases h2
    · have hlen := hl.len
      have hin : l[i].Owner ∈ a0 :: t := by
        apply Classical.byContradiction
        intro hno
        have h3 := nodup_sub_len (c := l[i].Owner :: t) (L := l.map (·.Owner)) (List.nodup_cons.2 ⟨fun h => hno (List.mem_cons_of_mem _ h), (List.nodup_cons.1 hnd).2⟩) (fun x hx => by
          rcases List.mem_cons.1 hx with rfl | hx
          · exact next_mem e2
          · exact hs x hx)
        simp at h3; omega
      have e3 := slices_Contains_int_eq (xs := a0 :: t) (x := l[i].Owner) (n := n) (by simp; omega) (by simp; omega)
      refine ⟨a0 :: t, ?_⟩
      simp only [l_impl_chain_0, impl_WaitAt_eq hl (show B < n by omega) (show B ≤ lim by omega), Option.bind_some, e1, idx_neg, Option.isNone_some, cond_false, neg_f, idx, ge_t, lt_t hi, Bool.and_self, cond_true, getD_at hi, e3, decide_eq_true hin]
  | succ d ih =>
    intro t no m hd h2 hnd hs hm
    obtain ⟨m, rfl⟩ : ∃ q, m = q + 1 := ⟨m - 1, by omega⟩
    rcases next_cases l no with ⟨e1, e2⟩ | ⟨i, e1, hi, e2⟩
    · rw [chainOf_end e2] at h2; cases h2
    · have hlen := hl.len
      have e3 := slices_Contains_int_eq (xs := a0 :: t) (x := l[i].Owner) (n := n) (by simp; omega) (by simp; omega)
      by_cases hin : l[i].Owner ∈ a0 :: t
      · refine ⟨a0 :: t, ?_⟩
        simp only [l_impl_chain_0, impl_WaitAt_eq hl (show B < n by omega) (show B ≤ lim by omega), Option.bind_some, e1, idx_neg, Option.isNone_some, cond_false, neg_f, idx, ge_t, lt_t hi, Bool.and_self, cond_true, getD_at hi, e3, decide_eq_true hin]
      · have h3 : chainOf l l[i].Owner = none := by
          rw [chainOf_step e2] at h2
          exact Option.map_eq_none_iff.1 h2
        have e4 : decide ((a0 :: t).length + [l[i].Owner].length ≤ lim) = true := decide_eq_true (by simp; omega)
        obtain ⟨w, hw⟩ := ih (t ++ [l[i].Owner]) l[i].Owner m (by simp; omega) h3 (by
          rw [show a0 :: (t ++ [l[i].Owner]) = (a0 :: t) ++ [l[i].Owner] by rfl, List.nodup_append]
          exact ⟨hnd, by simp, fun x hx y hy e => by simp at hy; subst hy; subst e; exact hin hx⟩) (fun x hx => by
          rcases List.mem_append.1 hx with hx | hx
          · exact hs x hx
          · simp at hx; subst hx; exact next_mem e2) (by omega)
        refine ⟨w, ?_⟩
        simp only [l_impl_chain_0, impl_WaitAt_eq hl (show B < n by omega) (show B ≤ lim by omega), Option.bind_some, e1, idx_neg, Option.isNone_some, cond_false, neg_f, idx, ge_t, lt_t hi, Bool.and_self, cond_true, getD_at hi, e3, decide_eq_false hin, e4]
        exact hw
theorem impl_chain_eq {l : List Lock} {no : Int} {B n : Nat} (hl : LSmall B l) (hn : B + 1 < n) (hb : B + 1 ≤ lim) : f_impl_chain n l no = some (match chainOf l no with | some c => (no :: c, true, ()) | none => ([], false, ()), ()) := by
  unfold f_impl_chain
  have hlen := hl.len
  cases e : chainOf l no with
  | some c =>
    have hs := chainR_short e
    exact chain_ends hl hn hb c [] no n e e (by omega)
  | none =>
    obtain ⟨w, hw⟩ := chain_never hl hn hb (k0 := fun w7 => some ((w7, true, ()), ())) (k1 := fun w8 => some (([], false, ()), ())) (a0 := no) l.length [] no n (by simp) e (by simp) (fun x hx => by cases hx) (by omega)
    exact hw
theorem spec_chain_loop {α : Type} {l : List Lock} {B n : Nat} (hl : LSmall B l) (hn : B + 1 < n) (hb : B + 2 ≤ lim) {k0 k1 : List Int → Option α} :
    ∀ (d i : Nat) (no : Int) (out : List Int) (m : Nat), i + d = l.length + 1 → out.length = i + 1 → d < m → (∀ c, chainR l d no = some c → l_spec_l7Chain_0 n m l no out (i : Int) k0 k1 = k0 (out ++ c)) ∧ (chainR l d no = none → ∃ w, l_spec_l7Chain_0 n m l no out (i : Int) k0 k1 = k1 w) := by
  intro d
  induction d with
  | zero =>
    intro i no out m hd ho hm
    obtain ⟨m, rfl⟩ : ∃ q, m = q + 1 := ⟨m - 1, by omega⟩
    refine ⟨fun c h => (by cases h), fun _ => ⟨out, ?_⟩⟩
    have : decide ((i : Int) ≤ (l.length : Int)) = false := decide_eq_false (by omega)
    simp only [l_spec_l7Chain_0, this, cond_false]
  | succ d ih =>
    intro i no out m hd ho hm
    obtain ⟨m, rfl⟩ : ∃ q, m = q + 1 := ⟨m - 1, by omega⟩
    have hlen := hl.len
    have h0 : decide ((i : Int) ≤ (l.length : Int)) = true := decide_eq_true (by omega)
    rcases next_cases l no with ⟨e1, e2⟩ | ⟨j, e1, hj, e2⟩
    · have h3 : chainR l (d + 1) no = some [] := by unfold chainR; rw [e2]
      have h4 : l_spec_l7Chain_0 n (m + 1) l no out (i : Int) k0 k1 = k0 out := by
        simp only [l_spec_l7Chain_0, h0, cond_true, spec_WaitAt_eq hl (show B < n by omega) (show B ≤ lim by omega), Option.bind_some, e1, idx_neg, Option.isNone_none]
      refine ⟨fun c h => ?_, fun h => by rw [h3] at h; cases h⟩
      rw [h3] at h; injection h with h; subst h
      rw [h4, List.append_nil]
    · have h3 : chainR l (d + 1) no = (chainR l d l[j].Owner).map (l[j].Owner :: ·) := by
        show (match next l no with | none => some [] | some o => (chainR l d o).map (o :: ·)) = _
        rw [e2]
      have e4 : decide (out.length + [l[j].Owner].length ≤ lim) = true := decide_eq_true (by simp; omega)
      have h4 : l_spec_l7Chain_0 n (m + 1) l no out (i : Int) k0 k1 = l_spec_l7Chain_0 n m l l[j].Owner (out ++ [l[j].Owner]) ((i + 1 : Nat) : Int) k0 k1 := by
        have hi : i < lmax := by unfold lim at hb; unfold lmax; omega
        simp only [l_spec_l7Chain_0, h0, cond_true, spec_WaitAt_eq hl (show B < n by omega) (show B ≤ lim by omega), Option.bind_some, e1, idx_neg, Option.isNone_some, cond_false, neg_f, idx, ge_t, lt_t hj, Bool.and_self, getD_at hj, e4, wsucc hi]
      obtain ⟨g1, g2⟩ := ih (i + 1) l[j].Owner (out ++ [l[j].Owner]) m (by omega) (by simp; omega) (by omega)
      rw [h3, h4]
      refine ⟨fun c h => ?_, fun h => g2 (Option.map_eq_none_iff.1 h)⟩
      obtain ⟨c', h5, rfl⟩ := Option.map_eq_some_iff.1 h
      rw [g1 c' h5, List.append_assoc]; rfl
theorem spec_l7Chain_some {l : List Lock} {no : Int} {B n : Nat} (hl : LSmall B l) (hn : B + 2 < n) (hb : B + 2 ≤ lim) {c : List Int} (h : chainOf l no = some c) : f_spec_l7Chain n l no = some ((no :: c, true, ()), ()) := by
  have hlen := hl.len
  exact (spec_chain_loop hl (show B + 1 < n by omega) hb (l.length + 1) 0 no [no] n (by omega) rfl (by omega)).1 c h
theorem spec_l7Chain_none {l : List Lock} {no : Int} {B n : Nat} (hl : LSmall B l) (hn : B + 2 < n) (hb : B + 2 ≤ lim) (h : chainOf l no = none) : ∃ w, f_spec_l7Chain n l no = some ((w, false, ()), ()) := by
  have hlen := hl.len
  exact (spec_chain_loop hl (show B + 1 < n by omega) hb (k0 := fun w7 => some ((w7, true, ()), ())) (k1 := fun w8 => some ((w8, false, ()), ())) (l.length + 1) 0 no [no] n (by omega) rfl (by omega)).2 h
end Go.Proofs.Ytoedeimpfbebpaa.VR
