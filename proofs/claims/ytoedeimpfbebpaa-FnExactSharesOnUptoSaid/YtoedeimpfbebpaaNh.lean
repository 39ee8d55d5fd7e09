/- Locks that are right: both programs' tests. -/
import Derived.Test.YtoedeimpfbebpaaNg
import Derived.Test.YtoedeimpfbebpaaG08
set_option linter.unusedVariables false
set_option linter.unusedSimpArgs false
namespace Go.Proofs.Ytoedeimpfbebpaa.VR
open Go
theorem waitsOf_take {l : List Lock} {i : Nat} (h : i < l.length) : waitsOf (l.take (i + 1)) = waitsOf (l.take i) ++ l[i].Waits := by
  unfold waitsOf
  rw [List.take_succ_eq_append_getElem h, List.flatMap_append]; simp
/-- Locks whose waits are, all together, not many. -/
structure LBound (B : Nat) (l : List Lock) : Prop where
  len : l.length ≤ B
  all : (waitsOf l).length ≤ B
theorem waits_le {l : List Lock} {k : Lock} (h : k ∈ l) : k.Waits.length ≤ (waitsOf l).length := by
  obtain ⟨a, b, rfl⟩ := List.append_of_mem h
  simp [waitsOf]; omega
theorem LBound.small {B : Nat} {l : List Lock} (h : LBound B l) : LSmall B l := ⟨h.len, fun k hk => Nat.le_trans (waits_le hk) h.all⟩
theorem take_waits_le {l : List Lock} (i : Nat) : (waitsOf (l.take i)).length ≤ (waitsOf l).length := by
  have : waitsOf l = waitsOf (l.take i) ++ waitsOf (l.drop i) := by
    unfold waitsOf; rw [← List.flatMap_append, List.take_append_drop]
  rw [this]; simp
def ownOk (k : Lock) : Prop := (0 ≤ k.Owner ∧ k.Owner ≤ 1000) ∧ (k.Owner = 0 → k.Waits = [])
instance (k : Lock) : Decidable (ownOk k) := by unfold ownOk; infer_instance
def InOk (W ys : List Int) : Prop := (∀ y ∈ ys, 1 ≤ y ∧ y ≤ 1000) ∧ (W ++ ys).Nodup
instance (W ys : List Int) : Decidable (InOk W ys) := by unfold InOk; infer_instance
theorem impl_inner {α : Type} {l v12 : List Lock} {W ys : List Int} {a b : Int} {n : Nat} {k0 k1 : List Int → Option α} {K : Option α} (hk : ∀ w, k0 w = K) (hW : W.Nodup) (hn : (W ++ ys).length < n) (hb : (W ++ ys).length + 1 ≤ lim) :
    l_impl_LocksOk_1 n n l W v12 a b ys (ys.length : Int) 0 k0 k1 = if InOk W ys then k1 (W ++ ys) else K := by
  have hlen : (W ++ ys).length = W.length + ys.length := List.length_append
  have := loop_to (l := fun m j => l_impl_LocksOk_1 n m l (W ++ ys.take j) v12 a b ys (ys.length : Int) (j : Int) k0 k1) (len := ys.length)
    (r := if InOk W ys then k1 (W ++ ys) else K) (fun j => (∀ y ∈ ys.take j, 1 ≤ y ∧ y ≤ 1000) ∧ (W ++ ys.take j).Nodup) (by simpa using hW) (fun m hI => ?_) (fun m j hj hI => ?_) (m := n) (by omega)
  · simpa using this
  · rw [List.take_length] at hI
    rw [if_pos (show InOk W ys from hI)]
    simp only [l_impl_LocksOk_1, lt_f, cond_false, List.take_length]
  · have hjl : j < lmax := Nat.lt_trans hj (lim_lm (by omega))
    have htl : (ys.take j).length = j := by simp; omega
    have e3 := slices_Contains_int_eq (xs := W ++ ys.take j) (x := ys[j]) (n := n) (by rw [List.length_append, htl]; omega) (by rw [List.length_append, htl]; omega)
    by_cases h1 : 1 ≤ ys[j] ∧ ys[j] ≤ 1000
    · by_cases h2 : ys[j] ∈ W ++ ys.take j
      · right
        rw [if_neg]
        · simp only [l_impl_LocksOk_1, lt_t hj, ge_t, Bool.and_self, cond_true, getD_at hj, impl_isNo_eq, Option.bind_some, decide_eq_true h1, Bool.not_true, cond_false, e3, decide_eq_true h2, hk]
        · rintro ⟨_, h3⟩
          have e : W ++ ys = (W ++ ys.take j) ++ ys[j] :: ys.drop (j + 1) := by
            rw [List.append_assoc, ← List.drop_eq_getElem_cons hj, List.take_append_drop]
          rw [e, List.nodup_append] at h3
          exact h3.2.2 _ h2 _ (List.mem_cons_self ..) rfl
      · left
        have e4 : decide ((W ++ ys.take j).length + [ys[j]].length ≤ lim) = true := decide_eq_true (by rw [List.length_append, htl]; simp; omega)
        refine ⟨?_, ?_, ?_⟩
        · simp only [l_impl_LocksOk_1, lt_t hj, ge_t, Bool.and_self, cond_true, getD_at hj, impl_isNo_eq, Option.bind_some, decide_eq_true h1, Bool.not_true, cond_false, e3, decide_eq_false h2, e4, wsucc hjl]
          rw [List.take_succ_eq_append_getElem hj, List.append_assoc]
        · intro y hy
          rw [List.take_succ_eq_append_getElem hj] at hy
          rcases List.mem_append.1 hy with hy | hy
          · exact hI.1 y hy
          · simp at hy; subst hy; exact h1
        · rw [List.take_succ_eq_append_getElem hj, ← List.append_assoc, List.nodup_append]
          exact ⟨hI.2, by simp, fun x hx y hy e => by simp at hy; subst hy; subst e; exact h2 hx⟩
    · right
      rw [if_neg (fun h => h1 (h.1 _ (List.getElem_mem hj)))]
      simp only [l_impl_LocksOk_1, lt_t hj, ge_t, Bool.and_self, cond_true, getD_at hj, impl_isNo_eq, Option.bind_some, decide_eq_false h1, Bool.not_false, hk]
structure LPre (l : List Lock) : Prop where
  own : ∀ k ∈ l, ownOk k
  nos : ∀ x ∈ waitsOf l, 1 ≤ x ∧ x ≤ 1000
  nodup : (waitsOf l).Nodup
theorem lpre_iff (l : List Lock) : LPre l ↔ (∀ k ∈ l, ownOk k) ∧ (∀ x ∈ waitsOf l, 1 ≤ x ∧ x ≤ 1000) ∧ (waitsOf l).Nodup := ⟨fun h => ⟨h.1, h.2, h.3⟩, fun h => ⟨h.1, h.2.1, h.2.2⟩⟩
instance (l : List Lock) : Decidable (LPre l) := decidable_of_iff _ (lpre_iff l).symm
theorem LPre.take {l : List Lock} (h : LPre l) (i : Nat) : LPre (l.take i) := by
  have e : waitsOf l = waitsOf (l.take i) ++ waitsOf (l.drop i) := by unfold waitsOf; rw [← List.flatMap_append, List.take_append_drop]
  refine ⟨fun k hk => h.own k (List.mem_of_mem_take hk), fun x hx => h.nos x (by rw [e]; exact List.mem_append_left _ hx), ?_⟩
  have := h.nodup
  rw [e, List.nodup_append] at this
  exact this.1
theorem lpre_step {l : List Lock} {i : Nat} (h : i < l.length) : LPre (l.take (i + 1)) ↔ LPre (l.take i) ∧ ownOk l[i] ∧ (∀ y ∈ l[i].Waits, 1 ≤ y ∧ y ≤ 1000) ∧ (waitsOf (l.take i) ++ l[i].Waits).Nodup := by
  constructor
  · intro hp
    refine ⟨?_, hp.own _ ?_, fun y hy => hp.nos y ?_, ?_⟩
    · have := hp.take i
      rwa [List.take_take, Nat.min_eq_left (by omega)] at this
    · rw [List.take_succ_eq_append_getElem h]; exact List.mem_append_right _ (List.mem_singleton.2 rfl)
    · rw [waitsOf_take h]; exact List.mem_append_right _ hy
    · rw [← waitsOf_take h]; exact hp.nodup
  · rintro ⟨h1, h2, h3, h4⟩
    refine ⟨fun k hk => ?_, fun x hx => ?_, by rw [waitsOf_take h]; exact h4⟩
    · rw [List.take_succ_eq_append_getElem h] at hk
      rcases List.mem_append.1 hk with hk | hk
      · exact h1.own k hk
      · simp at hk; subst hk; exact h2
    · rw [waitsOf_take h] at hx
      rcases List.mem_append.1 hx with hx | hx
      · exact h1.nos x hx
      · exact h3 x hx
theorem impl_LocksOk_eq {l : List Lock} {B n : Nat} (hl : LBound B l) (hn : B + 2 < n) (hb : B + 2 ≤ lim) : f_impl_LocksOk n l = some (decide (LocksOk l), ()) := by
  unfold f_impl_LocksOk
  have hlen := hl.len
  have hall := hl.all
  have key : ∀ k2 : List Int → Option (Bool × Unit), l_impl_LocksOk_0 n n l ([] : List Int) l (l.length : Int) 0 (fun w26 => some (false, ())) (fun w27 => some (false, ())) k2 = if LPre l then k2 (waitsOf l) else some (false, ()) := by
    intro k2
    have := loop_to (l := fun m i => l_impl_LocksOk_0 n m l (waitsOf (l.take i)) l (l.length : Int) (i : Int) (fun w26 => some (false, ())) (fun w27 => some (false, ())) k2) (len := l.length)
      (r := if LPre l then k2 (waitsOf l) else some (false, ())) (fun i => LPre (l.take i)) ⟨fun k hk => by simp at hk, fun x hx => by simp [waitsOf] at hx, by simp [waitsOf]⟩ (fun m hI => ?_) (fun m i hi hI => ?_) (m := n) (by omega)
    · simpa [waitsOf] using this
    · rw [List.take_length] at hI
      rw [if_pos hI]
      simp only [l_impl_LocksOk_0, lt_f, cond_false, List.take_length]
    · have hil := Nat.lt_trans hi (lim_lm (show l.length ≤ lim by omega))
      have htw := take_waits_le (l := l) (i + 1)
      rw [waitsOf_take hi] at htw
      have hin := impl_inner (l := l) (v12 := l) (W := waitsOf (l.take i)) (ys := l[i].Waits) (a := (l.length : Int)) (b := (i : Int)) (n := n) (k0 := fun w => some (false, ())) (K := some (false, ()))
        (k1 := fun w22 => l_impl_LocksOk_0 n m l w22 l (l.length : Int) ((i + 1 : Nat) : Int) (fun w26 => some (false, ())) (fun w27 => some (false, ())) k2) (fun _ => rfl) hI.nodup (by omega) (by omega)
      have hno : ¬ LPre (l.take (i + 1)) → ¬ LPre l := fun h hp => h (hp.take _)
      by_cases ho : 0 ≤ l[i].Owner ∧ l[i].Owner ≤ 1000
      · by_cases hz : l[i].Owner = 0
        · by_cases hw : l[i].Waits = []
          · left
            refine ⟨?_, (lpre_step hi).2 ⟨hI, ⟨ho, fun _ => hw⟩, (by rw [hw]; intro y hy; cases hy), (by rw [hw, List.append_nil]; exact hI.nodup)⟩⟩
            have h0 : ¬ 0 < (l[i].Waits.length : Int) := by rw [hw]; simp
            simp only [l_impl_LocksOk_0, lt_t hi, ge_t, Bool.and_self, cond_true, getD_at hi, impl_in_eq, Option.bind_some, decide_eq_true ho, Bool.not_true, cond_false, decide_eq_true hz, decide_eq_false h0, wsucc hil]
            rw [hin, if_pos (show InOk _ _ from ⟨(by rw [hw]; intro y hy; cases hy), (by rw [hw, List.append_nil]; exact hI.nodup)⟩), waitsOf_take hi]
          · right
            have h0 : 0 < (l[i].Waits.length : Int) := by have := List.length_pos_iff.2 hw; omega
            rw [if_neg (hno fun hp => hw (((lpre_step hi).1 hp).2.1.2 hz))]
            simp only [l_impl_LocksOk_0, lt_t hi, ge_t, Bool.and_self, cond_true, getD_at hi, impl_in_eq, Option.bind_some, decide_eq_true ho, Bool.not_true, cond_false, decide_eq_true hz, decide_eq_true h0]
        · have e : l_impl_LocksOk_0 n (m + 1) l (waitsOf (l.take i)) l (l.length : Int) (i : Int) (fun w26 => some (false, ())) (fun w27 => some (false, ())) k2 =
              if InOk (waitsOf (l.take i)) l[i].Waits then l_impl_LocksOk_0 n m l (waitsOf (l.take i) ++ l[i].Waits) l (l.length : Int) ((i + 1 : Nat) : Int) (fun w26 => some (false, ())) (fun w27 => some (false, ())) k2 else some (false, ()) := by
            rw [← hin]
            simp only [l_impl_LocksOk_0, lt_t hi, ge_t, Bool.and_self, cond_true, getD_at hi, impl_in_eq, Option.bind_some, decide_eq_true ho, Bool.not_true, cond_false, decide_eq_false hz, wsucc hil]
          rw [e]
          by_cases hc : InOk (waitsOf (l.take i)) l[i].Waits
          · left
            rw [if_pos hc, waitsOf_take hi]
            exact ⟨rfl, (lpre_step hi).2 ⟨hI, ⟨ho, fun h => absurd h hz⟩, hc.1, hc.2⟩⟩
          · right
            rw [if_neg hc, if_neg (hno fun hp => hc ⟨((lpre_step hi).1 hp).2.2.1, ((lpre_step hi).1 hp).2.2.2⟩)]
      · right
        rw [if_neg (hno fun hp => ho ((lpre_step hi).1 hp).2.1.1)]
        simp only [l_impl_LocksOk_0, lt_t hi, ge_t, Bool.and_self, cond_true, getD_at hi, impl_in_eq, Option.bind_some, decide_eq_false ho, Bool.not_false]
  rw [key]
  have hlast : ∀ w : List Int, w.length ≤ B → l_impl_LocksOk_2 n n l w (w.length : Int) 0 (some (false, ())) (some ((decide ((l.length : Int) ≤ 5)), ())) = cond (w.all fun x => (chainOf l x).isSome) (some ((decide ((l.length : Int) ≤ 5)), ())) (some (false, ())) := by
    intro w hw
    have := all_loop (l := fun m i => l_impl_LocksOk_2 n m l w (w.length : Int) i (some (false, ())) (some ((decide ((l.length : Int) ≤ 5)), ()))) (xs := w) (p := fun x => (chainOf l x).isSome) (k0 := some (false, ())) (k1 := some ((decide ((l.length : Int) ≤ 5)), ()))
      (fun m => by simp only [l_impl_LocksOk_2, lt_f, cond_false]) (fun m i hi => by
        have e := impl_chain_eq (l := l) (no := w[i]) hl.small (show B + 1 < n by omega) (show B + 1 ≤ lim by omega)
        simp only [l_impl_LocksOk_2, lt_t hi, ge_t, Bool.and_self, cond_true, getD_at hi, e, Option.bind_some, wsucc (Nat.lt_trans hi (lim_lm (show w.length ≤ lim by omega)))]
        cases chainOf l w[i] <;> rfl) (m := n) (by omega)
    exact this
  by_cases hp : LPre l
  · rw [if_pos hp, hlast _ hall, cond_some]
    refine some_iff ?_
    rw [cond_iff, locksOk_iff]
    simp only [List.all_eq_true, decide_eq_true_eq, Bool.false_eq_true, and_false, or_false]
    constructor
    · rintro ⟨h1, h2⟩
      exact ⟨by omega, hp.own, hp.nos, hp.nodup, h1⟩
    · rintro ⟨h1, _, _, _, h5⟩
      exact ⟨h5, by omega⟩
  · rw [if_neg hp, decide_eq_false]
    intro h
    exact hp ⟨h.own, h.nos, h.nodup⟩
/-! The other one's test. -/
def times (x : Int) (w : List Int) : Nat := w.countP fun y => decide (y = x)
theorem times_inner {α : Type} {l : List Lock} {x : Int} {i : Nat} {B n c : Nat} (hi : i < l.length) (hl : LBound B l) (hn : B < n) (hb : B ≤ lim) (hc : c ≤ B) {k : Int → Option α} :
    l_spec_l7Waits_1 n n l x (c : Int) (i : Int) 0 k = k ((c + times x l[i].Waits : Nat) : Int) := by
  have hw := Nat.le_trans (waits_le (List.getElem_mem hi)) hl.all
  have := loop_to (l := fun m j => l_spec_l7Waits_1 n m l x ((c + times x (l[i].Waits.take j) : Nat) : Int) (i : Int) (j : Int) k) (len := l[i].Waits.length) (r := k ((c + times x l[i].Waits : Nat) : Int)) (fun _ => True) trivial (fun m _ => ?_) (fun m j hj _ => .inl ⟨?_, trivial⟩) (m := n) (by omega)
  · simpa [times] using this
  · simp only [l_spec_l7Waits_1, lt_t hi, ge_t, Bool.and_self, cond_true, getD_at hi, lt_f, cond_false, List.take_length]
  · have hcl := count_le (fun y : Int => decide (y = x)) l[i].Waits j
    have hlm : c + times x (l[i].Waits.take j) < lmax := by unfold times; unfold lim at hb; unfold lmax; omega
    have e : times x (l[i].Waits.take (j + 1)) = times x (l[i].Waits.take j) + cond (decide (l[i].Waits[j] = x)) 1 0 := count_take _ hj
    simp only [l_spec_l7Waits_1, lt_t hi, ge_t, Bool.and_self, cond_true, getD_at hi, lt_t hj, getD_at hj, wsucc (Nat.lt_trans hj (lim_lm (show l[i].Waits.length ≤ lim by omega))), wsucc hlm, e]
    cases decide (l[i].Waits[j] = x) <;> rfl
theorem spec_l7Waits_eq {l : List Lock} {x : Int} {B n : Nat} (hl : LBound B l) (hn : B < n) (hb : B ≤ lim) : f_spec_l7Waits n l x = some (((times x (waitsOf l) : Nat) : Int), ()) := by
  unfold f_spec_l7Waits
  have hlen := hl.len
  have hall := hl.all
  have := loop_to (l := fun m i => l_spec_l7Waits_0 n m l x ((times x (waitsOf (l.take i)) : Nat) : Int) (i : Int) (fun w13 => some (w13, ()))) (len := l.length) (r := some (((times x (waitsOf l) : Nat) : Int), ())) (fun _ => True) trivial (fun m _ => ?_) (fun m i hi _ => .inl ⟨?_, trivial⟩) (m := n) (by omega)
  · simpa [times, waitsOf] using this
  · simp only [l_spec_l7Waits_0, lt_f, cond_false, List.take_length]
  · have hle : times x (waitsOf (l.take i)) ≤ B := Nat.le_trans List.countP_le_length (Nat.le_trans (take_waits_le i) hall)
    simp only [l_spec_l7Waits_0, lt_t hi, cond_true, times_inner hi hl hn hb hle, wsucc (Nat.lt_trans hi (lim_lm (show l.length ≤ lim by omega)))]
    rw [waitsOf_take hi]
    unfold times
    rw [List.countP_append]
theorem nodup_times {w : List Int} : w.Nodup ↔ ∀ x ∈ w, times x w = 1 := by
  have e : ∀ x, times x w = w.count x := fun x => by
    unfold times; rw [List.count_eq_countP]; rfl
  rw [List.nodup_iff_count]
  constructor
  · intro h x hx
    rw [e]
    have := h x
    have := List.one_le_count_iff.2 hx
    omega
  · intro h a
    by_cases ha : a ∈ w
    · rw [← e, h a ha]; exact Nat.le_refl _
    · rw [List.count_eq_zero_of_not_mem ha]; omega
def oneOk (l : List Lock) (x : Int) : Prop := (1 ≤ x ∧ x ≤ 1000) ∧ times x (waitsOf l) = 1 ∧ (chainOf l x).isSome = true
instance (l : List Lock) (x : Int) : Decidable (oneOk l x) := by unfold oneOk; infer_instance
theorem spec_inner {α : Type} {l : List Lock} {i : Nat} {B n : Nat} (hi : i < l.length) (hl : LBound B l) (hn : B + 2 < n) (hb : B + 2 ≤ lim) {k0 k1 : Option α} :
    l_spec_LocksOk_1 n n l (i : Int) 0 k0 k1 = cond (l[i].Waits.all fun x => decide (oneOk l x)) k1 k0 := by
  have hw := Nat.le_trans (waits_le (List.getElem_mem hi)) hl.all
  have := all_loop (l := fun m j => l_spec_LocksOk_1 n m l (i : Int) j k0 k1) (xs := l[i].Waits) (p := fun x => decide (oneOk l x)) (k0 := k0) (k1 := k1)
    (fun m => by simp only [l_spec_LocksOk_1, lt_t hi, ge_t, Bool.and_self, cond_true, getD_at hi, lt_f, cond_false]) (fun m j hj => ?_) (m := n) (by omega)
  · exact this
  · have e2 := spec_l7Waits_eq (x := l[i].Waits[j]) hl (show B < n by omega) (show B ≤ lim by omega)
    have hjl := Nat.lt_trans hj (lim_lm (show l[i].Waits.length ≤ lim by omega))
    by_cases h1 : 1 ≤ l[i].Waits[j] ∧ l[i].Waits[j] ≤ 1000
    · by_cases h2 : times l[i].Waits[j] (waitsOf l) = 1
      · have h2' : ((times l[i].Waits[j] (waitsOf l) : Nat) : Int) = 1 := by omega
        cases e : chainOf l l[i].Waits[j] with
        | some c =>
          have ho : oneOk l l[i].Waits[j] := ⟨h1, h2, by rw [e]; rfl⟩
          simp only [l_spec_LocksOk_1, lt_t hi, ge_t, Bool.and_self, cond_true, getD_at hi, lt_t hj, getD_at hj, spec_l7Chain_some hl.small hn hb e, Option.bind_some, spec_l1In_eq, decide_eq_true h1, Bool.not_true, cond_false, e2, decide_eq_true h2', wsucc hjl, decide_eq_true ho]
        | none =>
          have ho : ¬ oneOk l l[i].Waits[j] := fun h => by have := h.2.2; rw [e] at this; cases this
          obtain ⟨w, hc⟩ := spec_l7Chain_none hl.small hn hb e
          simp only [l_spec_LocksOk_1, lt_t hi, ge_t, Bool.and_self, cond_true, getD_at hi, lt_t hj, getD_at hj, hc, Option.bind_some, spec_l1In_eq, decide_eq_true h1, Bool.not_true, cond_false, e2, decide_eq_true h2', Bool.not_false, decide_eq_false ho]
      · have h2' : ¬ ((times l[i].Waits[j] (waitsOf l) : Nat) : Int) = 1 := by omega
        have ho : ¬ oneOk l l[i].Waits[j] := fun h => h2 h.2.1
        obtain ⟨w, b, hc⟩ : ∃ w b, f_spec_l7Chain n l l[i].Waits[j] = some ((w, b, ()), ()) := by
          cases e : chainOf l l[i].Waits[j] with
          | some c => exact ⟨_, _, spec_l7Chain_some hl.small hn hb e⟩
          | none => obtain ⟨w, hc⟩ := spec_l7Chain_none hl.small hn hb e; exact ⟨w, _, hc⟩
        simp only [l_spec_LocksOk_1, lt_t hi, ge_t, Bool.and_self, cond_true, getD_at hi, lt_t hj, getD_at hj, hc, Option.bind_some, spec_l1In_eq, decide_eq_true h1, Bool.not_true, cond_false, e2, decide_eq_false h2', Bool.not_false, decide_eq_false ho, cond_false]
    · have ho : ¬ oneOk l l[i].Waits[j] := fun h => h1 h.1
      obtain ⟨w, b, hc⟩ : ∃ w b, f_spec_l7Chain n l l[i].Waits[j] = some ((w, b, ()), ()) := by
        cases e : chainOf l l[i].Waits[j] with
        | some c => exact ⟨_, _, spec_l7Chain_some hl.small hn hb e⟩
        | none => obtain ⟨w, hc⟩ := spec_l7Chain_none hl.small hn hb e; exact ⟨w, _, hc⟩
      simp only [l_spec_LocksOk_1, lt_t hi, ge_t, Bool.and_self, cond_true, getD_at hi, lt_t hj, getD_at hj, hc, Option.bind_some, spec_l1In_eq, decide_eq_false h1, Bool.not_false, decide_eq_false ho, cond_false]
theorem spec_LocksOk_eq {l : List Lock} {B n : Nat} (hl : LBound B l) (hn : B + 2 < n) (hb : B + 2 ≤ lim) : f_spec_LocksOk n l = some (decide (LocksOk l), ()) := by
  unfold f_spec_LocksOk
  have hlen := hl.len
  by_cases h5 : 5 < (l.length : Int)
  · rw [decide_eq_true h5, cond_true, decide_eq_false]
    intro h; have := h.len; omega
  rw [decide_eq_false h5, cond_false]
  have := all_loop (l := fun m i => l_spec_LocksOk_0 n m l i (some (false, ())) (some (true, ()))) (xs := l) (p := fun k => decide (ownOk k) && k.Waits.all fun x => decide (oneOk l x)) (k0 := some (false, ())) (k1 := some (true, ()))
    (fun m => by simp only [l_spec_LocksOk_0, lt_f, cond_false]) (fun m i hi => ?_) (m := n) (by omega)
  · refine this.trans ?_
    rw [cond_some]
    refine some_iff ?_
    rw [cond_iff, locksOk_iff]
    simp only [List.all_eq_true, Bool.and_eq_true, decide_eq_true_eq, Bool.false_eq_true, and_false, or_false, and_true]
    constructor
    · intro h
      have hx : ∀ x ∈ waitsOf l, oneOk l x := fun x hx => by
        obtain ⟨k, hk, hx⟩ := List.mem_flatMap.1 hx
        exact (h k hk).2 x hx
      exact ⟨by omega, fun k hk => (h k hk).1, fun x hx' => (hx x hx').1, nodup_times.2 fun x hx' => (hx x hx').2.1, fun x hx' => (hx x hx').2.2⟩
    · rintro ⟨h1, h2, h3, h4, h6⟩ k hk
      refine ⟨h2 k hk, fun x hx => ?_⟩
      have hx' : x ∈ waitsOf l := List.mem_flatMap.2 ⟨k, hk, hx⟩
      exact ⟨h3 x hx', nodup_times.1 h4 x hx', h6 x hx'⟩
  · have hil := Nat.lt_trans hi (lim_lm (show l.length ≤ lim by omega))
    by_cases ho : 0 ≤ l[i].Owner ∧ l[i].Owner ≤ 1000
    · by_cases hz : l[i].Owner = 0
      · by_cases hw : l[i].Waits = []
        · have hown : ownOk l[i] := ⟨ho, fun _ => hw⟩
          have h0 : ¬ 0 < (l[i].Waits.length : Int) := by rw [hw]; simp
          simp only [l_spec_LocksOk_0, lt_t hi, ge_t, Bool.and_self, cond_true, getD_at hi, spec_l1In_eq, Option.bind_some, decide_eq_true ho, Bool.not_true, cond_false, decide_eq_true hz, decide_eq_false h0, wsucc hil, spec_inner hi hl hn hb, decide_eq_true hown, Bool.true_and]
        · have hown : ¬ ownOk l[i] := fun h => hw (h.2 hz)
          have h0 : 0 < (l[i].Waits.length : Int) := by have := List.length_pos_iff.2 hw; omega
          simp only [l_spec_LocksOk_0, lt_t hi, ge_t, Bool.and_self, cond_true, getD_at hi, spec_l1In_eq, Option.bind_some, decide_eq_true ho, Bool.not_true, cond_false, decide_eq_true hz, decide_eq_true h0, decide_eq_false hown, Bool.false_and]
      · have hown : ownOk l[i] := ⟨ho, fun h => absurd h hz⟩
        simp only [l_spec_LocksOk_0, lt_t hi, ge_t, Bool.and_self, cond_true, getD_at hi, spec_l1In_eq, Option.bind_some, decide_eq_true ho, Bool.not_true, cond_false, decide_eq_false hz, wsucc hil, spec_inner hi hl hn hb, decide_eq_true hown, Bool.true_and]
    · have hown : ¬ ownOk l[i] := fun h => ho h.1
      simp only [l_spec_LocksOk_0, lt_t hi, ge_t, Bool.and_self, cond_true, getD_at hi, spec_l1In_eq, Option.bind_some, decide_eq_false ho, Bool.not_false, decide_eq_false hown, Bool.false_and, cond_false]
end Go.Proofs.Ytoedeimpfbebpaa.VR
