/- Sums of parts of time; whose parts are counted on a processor. -/
import Derived.Test.YtoedeimpfbebpaaNg
import Derived.Test.YtoedeimpfbebpaaG11
set_option linter.unusedVariables false
set_option linter.unusedSimpArgs false
namespace Go.Proofs.Ytoedeimpfbebpaa.VR
open Go
theorem gcd_step (a b : Nat) : Nat.gcd a b = Nat.gcd b (a % b) := by
  rw [Nat.gcd_comm a b, Nat.gcd_rec b a, Nat.gcd_comm]
theorem tmod_nat (a b : Nat) : Int.tmod (a : Int) (b : Int) = ((a % b : Nat) : Int) := rfl
theorem tdiv_nat (a b : Nat) : Int.tdiv (a : Int) (b : Int) = ((a / b : Nat) : Int) := rfl
theorem impl_gcd_loop {α : Type} (n : Nat) (k : Int → Option α) : ∀ (m a b : Nat), b < m → l_impl_gcd_0 n m (a : Int) (b : Int) k = k ((Nat.gcd a b : Nat) : Int)
  | 0, a, b, h => absurd h (Nat.not_lt_zero _)
  | m + 1, a, b, h => by
    by_cases hb : b = 0
    · subst hb; simp [l_impl_gcd_0]
    · have h1 : ¬ ((b : Int) = 0) := by omega
      have h2 : a % b < m := by have := Nat.mod_lt a (Nat.pos_of_ne_zero hb); omega
      simp only [l_impl_gcd_0, h1, decide_false, Bool.not_false, cond_true, cond_false, tmod_nat]
      rw [impl_gcd_loop n k m b (a % b) h2, ← gcd_step]
theorem spec_gcd_loop {α : Type} (n : Nat) (k : Int → Option α) : ∀ (m a b : Nat), b < m → l_spec_l1Gcd_0 n m (a : Int) (b : Int) k = k ((Nat.gcd a b : Nat) : Int)
  | 0, a, b, h => absurd h (Nat.not_lt_zero _)
  | m + 1, a, b, h => by
    by_cases hb : b = 0
    · subst hb; simp [l_spec_l1Gcd_0]
    · have h1 : ¬ ((b : Int) = 0) := by omega
      have h3 : 0 < (b : Int) := by omega
      have h2 : a % b < m := by have := Nat.mod_lt a (Nat.pos_of_ne_zero hb); omega
      simp only [l_spec_l1Gcd_0, h1, h3, decide_false, decide_true, cond_true, cond_false, tmod_nat]
      rw [spec_gcd_loop n k m b (a % b) h2, ← gcd_step]
theorem impl_gcd_eq {n a b : Nat} (h : b < n) (ha : a ≤ 4000000000000000000) (hb : b ≤ 4000000000000000000) : f_impl_gcd n (a : Int) (b : Int) = some (((Nat.gcd a b : Nat) : Int), ()) := by
  unfold f_impl_gcd
  rw [impl_gcd_loop n _ n a b h]
  have hg : Nat.gcd a b ≤ 4000000000000000000 := by
    rcases Nat.eq_zero_or_pos b with e | e
    · subst e; simpa using ha
    · exact Nat.le_trans (Nat.gcd_le_right a e) hb
  rw [w64_id (by omega) (by omega), if_neg (by omega)]
theorem spec_l1Gcd_eq {n a b : Nat} (h : b < n) : f_spec_l1Gcd n (a : Int) (b : Int) = some (((Nat.gcd a b : Nat) : Int), ()) := by
  unfold f_spec_l1Gcd
  rw [spec_gcd_loop n _ n a b h]
def addShare (p : Nat × Nat) (s : Share) : Nat × Nat := ((p.1 * s.P.toNat + s.Q.toNat * p.2) / Nat.gcd (p.1 * s.P.toNat + s.Q.toNat * p.2) (p.2 * s.P.toNat), (p.2 * s.P.toNat) / Nat.gcd (p.1 * s.P.toNat + s.Q.toNat * p.2) (p.2 * s.P.toNat))
def sumN (l : List Share) : Nat × Nat := l.foldl addShare (0, 1)
structure SumInv (i : Nat) (p : Nat × Nat) : Prop where
  le : p.1 ≤ i * p.2
  pos : 0 < p.2
  hi : p.2 ≤ 40 ^ i
theorem SumInv.step {i : Nat} {p : Nat × Nat} {s : Share} (h : SumInv i p) (hs : ShareOk s) : SumInv (i + 1) (addShare p s) ∧ p.1 * s.P.toNat + s.Q.toNat * p.2 ≤ (i + 1) * (p.2 * s.P.toNat) ∧ 0 < p.2 * s.P.toNat ∧ p.2 * s.P.toNat ≤ 40 ^ (i + 1) := by
  obtain ⟨⟨p1, p2⟩, q1, q2⟩ := hs
  have hP : 1 ≤ s.P.toNat ∧ s.P.toNat ≤ 40 := by omega
  have hQ : s.Q.toNat ≤ s.P.toNat := by omega
  have hx : p.1 * s.P.toNat + s.Q.toNat * p.2 ≤ (i + 1) * (p.2 * s.P.toNat) := by
    have e1 : p.1 * s.P.toNat ≤ i * p.2 * s.P.toNat := Nat.mul_le_mul_right _ h.le
    have e2 : s.Q.toNat * p.2 ≤ s.P.toNat * p.2 := Nat.mul_le_mul_right _ hQ
    have e3 : (i + 1) * (p.2 * s.P.toNat) = i * p.2 * s.P.toNat + s.P.toNat * p.2 := by
      rw [Nat.succ_mul, Nat.mul_assoc, Nat.mul_comm s.P.toNat]
    omega
  have hy : 0 < p.2 * s.P.toNat := Nat.mul_pos h.pos hP.1
  have hy2 : p.2 * s.P.toNat ≤ 40 ^ (i + 1) := by
    rw [Nat.pow_succ]; exact Nat.mul_le_mul h.hi hP.2
  have hg := Nat.gcd_pos_of_pos_right (p.1 * s.P.toNat + s.Q.toNat * p.2) hy
  have hd : Nat.gcd (p.1 * s.P.toNat + s.Q.toNat * p.2) (p.2 * s.P.toNat) ∣ p.2 * s.P.toNat := Nat.gcd_dvd_right _ _
  refine ⟨⟨?_, ?_, ?_⟩, hx, hy, hy2⟩
  · simp only [addShare]
    rw [← Nat.mul_div_assoc _ hd]
    exact Nat.div_le_div_right hx
  · exact Nat.div_pos (Nat.le_of_dvd hy hd) hg
  · exact Nat.le_trans (Nat.div_le_self _ _) hy2
theorem sumN_inv {l : List Share} (h : ∀ s ∈ l, ShareOk s) : SumInv l.length (sumN l) := by
  have : ∀ (l : List Share) (i : Nat) (p : Nat × Nat), (∀ s ∈ l, ShareOk s) → SumInv i p → SumInv (i + l.length) (l.foldl addShare p) := by
    intro l
    induction l with
    | nil => intro i p _ h; exact h
    | cons s l ih =>
      intro i p hs h
      have := ih (i + 1) (addShare p s) (fun t ht => hs t (List.mem_cons_of_mem _ ht)) (h.step (hs s (List.mem_cons_self ..))).1
      rw [List.length_cons, Nat.add_comm l.length, ← Nat.add_assoc]; exact this
  have h0 := this l 0 (0, 1) h ⟨Nat.zero_le _, Nat.one_pos, Nat.le_refl _⟩
  rw [Nat.zero_add] at h0; exact h0
theorem sumN_take {l : List Share} {i : Nat} (hi : i < l.length) : sumN (l.take (i + 1)) = addShare (sumN (l.take i)) l[i] := by
  unfold sumN
  rw [List.take_succ_eq_append_getElem hi, List.foldl_append]; rfl
def GN : Nat := 40 ^ 8
theorem sum_small {i : Nat} {p : Nat × Nat} {s : Share} (h : SumInv i p) (hs : ShareOk s) (hi : i < 7) : 
    w64 ((p.1 : Int) * s.P) = ((p.1 * s.P.toNat : Nat) : Int) ∧ w64 (s.Q * (p.2 : Int)) = ((s.Q.toNat * p.2 : Nat) : Int) ∧ w64 ((p.2 : Int) * s.P) = ((p.2 * s.P.toNat : Nat) : Int) ∧
    w64 (((p.1 * s.P.toNat : Nat) : Int) + ((s.Q.toNat * p.2 : Nat) : Int)) = ((p.1 * s.P.toNat + s.Q.toNat * p.2 : Nat) : Int) ∧
    p.1 * s.P.toNat + s.Q.toNat * p.2 ≤ 4000000000000000000 ∧ p.2 * s.P.toNat ≤ 4000000000000000000 ∧ p.2 * s.P.toNat < GN ∧
    0 < Nat.gcd (p.1 * s.P.toNat + s.Q.toNat * p.2) (p.2 * s.P.toNat) := by
  obtain ⟨_, h1, h2, h3⟩ := h.step hs
  obtain ⟨⟨p1, p2⟩, q1, q2⟩ := hs
  have h4 : 40 ^ (i + 1) ≤ 40 ^ 7 := Nat.pow_le_pow_right (by omega) (by omega)
  have h5 : (40 : Nat) ^ 7 = 163840000000 := by decide
  have h7 : (40 : Nat) ^ 8 = 6553600000000 := by decide
  have h6 : (i + 1) * (p.2 * s.P.toNat) ≤ 7 * (p.2 * s.P.toNat) := Nat.mul_le_mul_right _ (by omega)
  have eP : s.P = (s.P.toNat : Int) := by omega
  have eQ : s.Q = (s.Q.toNat : Int) := by omega
  have b1 : p.1 * s.P.toNat ≤ 4000000000000000000 := by omega
  have b2 : s.Q.toNat * p.2 ≤ 4000000000000000000 := by omega
  have b3 : p.2 * s.P.toNat ≤ 4000000000000000000 := by omega
  have a1 : (p.1 : Int) * s.P = ((p.1 * s.P.toNat : Nat) : Int) := by rw [Int.natCast_mul, ← eP]
  have a2 : s.Q * (p.2 : Int) = ((s.Q.toNat * p.2 : Nat) : Int) := by rw [Int.natCast_mul, ← eQ]
  have a3 : (p.2 : Int) * s.P = ((p.2 * s.P.toNat : Nat) : Int) := by rw [Int.natCast_mul, ← eP]
  refine ⟨?_, ?_, ?_, ?_, by omega, b3, by unfold GN; omega, Nat.gcd_pos_of_pos_right _ h2⟩
  · rw [a1]; exact w64_id (by omega) (by omega)
  · rw [a2]; exact w64_id (by omega) (by omega)
  · rw [a3]; exact w64_id (by omega) (by omega)
  · rw [← Int.natCast_add]; exact w64_id (by omega) (by omega)
theorem div_small {x g : Nat} (hx : x ≤ 4000000000000000000) : w64 (Int.tdiv (x : Int) (g : Int)) = ((x / g : Nat) : Int) := by
  rw [tdiv_nat]
  have := Nat.div_le_self x g
  generalize x / g = q at this
  exact w64_id (by omega) (by omega)
def SumOk (l : List Share) : Prop := l.length ≤ 7 ∧ ∀ s ∈ l, ShareOk s
instance (l : List Share) : Decidable (SumOk l) := by unfold SumOk; infer_instance
def sumOf (l : List Share) : Int × Int × Bool × Unit := if SumOk l then (((sumN l).1 : Int), ((sumN l).2 : Int), true, ()) else (0, 0, false, ())
def fitsB (l : List Share) : Bool := decide (SumOk l) && decide ((sumN l).1 ≤ (sumN l).2)
theorem impl_SumOf_eq {l : List Share} {n : Nat} (hn : GN + l.length < n) (hb : l.length ≤ lim) : f_impl_SumOf n l = some (sumOf l, ()) := by
  have hc : f_slices_ContainsFunc_Share_SumOf_1 n l = some (!decide (∀ s ∈ l, ShareOk s), ()) := by
    unfold f_slices_ContainsFunc_Share_SumOf_1 f_slices_IndexFunc_Share_SumOf_1
    have := find_loop (l := fun m i => l_slices_IndexFunc_Share_SumOf_1_0 n m l (l.length : Int) i (fun w5 => some (w5, ())) (some (-1, ()))) (xs := l) (p := fun s => !decide (ShareOk s)) (k0 := fun w5 => some (w5, ())) (k1 := some (-1, ()))
      (fun m => by simp only [l_slices_IndexFunc_Share_SumOf_1_0, lt_f, cond_false])
      (fun m i hi => by simp only [l_slices_IndexFunc_Share_SumOf_1_0, lt_t hi, ge_t, Bool.and_self, cond_true, getD_at hi, f_impl_SumOf_1, impl_ShareOk_eq, Option.bind_some, wsucc (Nat.lt_trans hi (lim_lm hb))]) (m := n) (by omega)
    rw [this]
    cases e : l.findIdx? fun s => !decide (ShareOk s) with
    | none =>
      rw [List.findIdx?_eq_none_iff] at e
      have : ∀ s ∈ l, ShareOk s := fun s hs => by simpa using e s hs
      simp only [Option.bind_some, decide_eq_true this]; rfl
    | some i =>
      rw [List.findIdx?_eq_some_iff_getElem] at e
      obtain ⟨hi, h1, _⟩ := e
      have : ¬ ∀ s ∈ l, ShareOk s := fun h => by have := h l[i] (List.getElem_mem hi); simp [this] at h1
      simp only [Option.bind_some, decide_eq_false this, ge_t]; rfl
  unfold f_impl_SumOf sumOf
  by_cases h7 : l.length ≤ 7
  · have h7' : ¬ (7 < (l.length : Int)) := by omega
    rw [decide_eq_false h7', cond_false, hc, Option.bind_some]
    by_cases ha : ∀ s ∈ l, ShareOk s
    · rw [if_pos ⟨h7, ha⟩]
      simp only [decide_eq_true ha, Bool.not_true, cond_false]
      have := loop_to (l := fun m i => l_impl_SumOf_0 n m ((sumN (l.take i)).1 : Int) ((sumN (l.take i)).2 : Int) l (l.length : Int) (i : Int) (fun w11 w12 => some ((w11, w12, true, ()), ()))) (len := l.length)
        (r := some ((((sumN l).1 : Int), ((sumN l).2 : Int), true, ()), ())) (fun _ => True) trivial (fun m _ => ?_) (fun m i hi _ => .inl ⟨?_, trivial⟩) (m := n) (by omega)
      · exact this
      · simp only [l_impl_SumOf_0, lt_f, cond_false, List.take_length]
      · have hinv := sumN_inv (l := l.take i) (fun s hs => ha s (List.mem_of_mem_take hs))
        rw [List.length_take, Nat.min_eq_left (Nat.le_of_lt hi)] at hinv
        have hsi := ha l[i] (List.getElem_mem hi)
        obtain ⟨e1, e2, e3, e4, b1, b2, b3, b4⟩ := sum_small hinv hsi (by omega)
        have hg0 : ¬ (((Nat.gcd ((sumN (l.take i)).1 * l[i].P.toNat + l[i].Q.toNat * (sumN (l.take i)).2) ((sumN (l.take i)).2 * l[i].P.toNat) : Nat) : Int) = 0) := by omega
        simp only [l_impl_SumOf_0, lt_t hi, ge_t, Bool.and_self, cond_true, getD_at hi, e1, e2, e3, e4, impl_gcd_eq (Nat.lt_of_lt_of_le b3 (show GN ≤ n by omega)) b1 b2, Option.bind_some, hg0, decide_false, cond_false, div_small b1, div_small b2, wsucc (Nat.lt_trans hi (lim_lm hb))]
        rw [sumN_take hi]; rfl
    · rw [if_neg (fun h => ha h.2)]
      simp only [decide_eq_false ha, Bool.not_false, cond_true]
  · have h7' : (7 < (l.length : Int)) := by omega
    rw [decide_eq_true h7', cond_true, if_neg (fun h => h7 h.1)]
theorem spec_SumOf_eq {l : List Share} {n : Nat} (hn : GN + l.length < n) (hb : l.length ≤ lim) : f_spec_SumOf n l = some (sumOf l, ()) := by
  unfold f_spec_SumOf sumOf
  by_cases h7 : l.length ≤ 7
  · have h7' : ¬ (7 < (l.length : Int)) := by omega
    rw [decide_eq_false h7', cond_false]
    have hstep : ∀ m i (hi : i < l.length), (∀ j (hj : j < i), ShareOk (l[j]'(Nat.lt_trans hj hi))) → l_spec_SumOf_0 n (m + 1) l ((sumN (l.take i)).1 : Int) ((sumN (l.take i)).2 : Int) (i : Int) (fun _ _ => some ((0, 0, false, ()), ())) (fun w12 w13 => some ((w12, w13, true, ()), ())) =
        if ShareOk l[i] then l_spec_SumOf_0 n m l ((sumN (l.take (i + 1))).1 : Int) ((sumN (l.take (i + 1))).2 : Int) ((i + 1 : Nat) : Int) (fun _ _ => some ((0, 0, false, ()), ())) (fun w12 w13 => some ((w12, w13, true, ()), ())) else some ((0, 0, false, ()), ()) := by
      intro m i hi hI
      by_cases hsi : ShareOk l[i]
      · have hinv := sumN_inv (l := l.take i) (fun s hs => by
          obtain ⟨j, hj, rfl⟩ := List.getElem_of_mem hs
          rw [List.length_take] at hj
          rw [List.getElem_take]
          exact hI j (by omega))
        rw [List.length_take, Nat.min_eq_left (Nat.le_of_lt hi)] at hinv
        obtain ⟨e1, e2, e3, e4, b1, b2, b3, b4⟩ := sum_small hinv hsi (by omega)
        have hg0 : ¬ (((Nat.gcd ((sumN (l.take i)).1 * l[i].P.toNat + l[i].Q.toNat * (sumN (l.take i)).2) ((sumN (l.take i)).2 * l[i].P.toNat) : Nat) : Int) = 0) := by omega
        simp only [l_spec_SumOf_0, lt_t hi, ge_t, Bool.and_self, cond_true, getD_at hi, spec_ShareOk_eq, decide_eq_true hsi, Bool.not_true, e1, e2, e3, e4, spec_l1Gcd_eq (Nat.lt_of_lt_of_le b3 (show GN ≤ n by omega)), Option.bind_some, hg0, decide_false, cond_false, div_small b1, div_small b2, wsucc (Nat.lt_trans hi (lim_lm hb)), if_pos hsi]
        rw [sumN_take hi]; rfl
      · simp only [l_spec_SumOf_0, lt_t hi, ge_t, Bool.and_self, cond_true, getD_at hi, spec_ShareOk_eq, decide_eq_false hsi, Bool.not_false, Option.bind_some, if_neg hsi]
    by_cases ha : ∀ s ∈ l, ShareOk s
    · rw [if_pos ⟨h7, ha⟩]
      have := loop_to (l := fun m i => l_spec_SumOf_0 n m l ((sumN (l.take i)).1 : Int) ((sumN (l.take i)).2 : Int) (i : Int) (fun _ _ => some ((0, 0, false, ()), ())) (fun w12 w13 => some ((w12, w13, true, ()), ()))) (len := l.length)
        (r := some ((((sumN l).1 : Int), ((sumN l).2 : Int), true, ()), ())) (fun _ => True) trivial (fun m _ => ?_) (fun m i hi _ => .inl ⟨?_, trivial⟩) (m := n) (by omega)
      · exact this
      · simp only [l_spec_SumOf_0, lt_f, cond_false, List.take_length]
      · rw [hstep m i hi (fun j hj => ha _ (List.getElem_mem _)), if_pos (ha _ (List.getElem_mem _))]
    · rw [if_neg (fun h => ha h.2)]
      have hall : ¬ ∀ j (hj : j < l.length), ShareOk l[j] := fun h => ha fun s hs => by
        obtain ⟨j, hj, rfl⟩ := List.getElem_of_mem hs; exact h j hj
      have := loop_to (l := fun m i => l_spec_SumOf_0 n m l ((sumN (l.take i)).1 : Int) ((sumN (l.take i)).2 : Int) (i : Int) (fun _ _ => some ((0, 0, false, ()), ())) (fun w12 w13 => some ((w12, w13, true, ()), ()))) (len := l.length)
        (r := some ((0, 0, false, ()), ())) (fun i => ∀ j (hj : j < l.length), j < i → ShareOk l[j]) (fun j _ h => absurd h (Nat.not_lt_zero j)) (fun m hI => absurd (fun j hj => hI j hj hj) hall) (fun m i hi hI => ?_) (m := n) (by omega)
      · exact this
      · rw [hstep m i hi (fun j hj => hI j _ hj)]
        by_cases hr : ShareOk l[i]
        · rw [if_pos hr]
          exact .inl ⟨rfl, fun j hj hji => by
            by_cases e : j = i
            · subst e; exact hr
            · exact hI j hj (by omega)⟩
        · rw [if_neg hr]; exact .inr rfl
  · have h7' : (7 < (l.length : Int)) := by omega
    rw [decide_eq_true h7', cond_true, if_neg (fun h => h7 h.1)]
theorem fits_step (l : List Share) : (cond (sumOf l).2.2.1 (some ((decide ((sumOf l).1 ≤ (sumOf l).2.1)), ())) (some (false, ())) : Option (Bool × Unit)) = some (fitsB l, ()) := by
  unfold sumOf fitsB
  by_cases h : SumOk l
  · rw [if_pos h, decide_eq_true h, cond_true, Bool.true_and]
    exact some_iff (P := (sumN l).1 ≤ (sumN l).2) (by simp)
  · rw [if_neg h, decide_eq_false h, cond_false, Bool.false_and]
theorem impl_Fits_eq {l : List Share} {n : Nat} (hn : GN + l.length < n) (hb : l.length ≤ lim) : f_impl_Fits n l = some (fitsB l, ()) := by
  simp only [f_impl_Fits, impl_SumOf_eq hn hb, Option.bind_some, fits_step]
theorem spec_Fits_eq {l : List Share} {n : Nat} (hn : GN + l.length < n) (hb : l.length ≤ lim) : f_spec_Fits n l = some (fitsB l, ()) := by
  simp only [f_spec_Fits, spec_SumOf_eq hn hb, Option.bind_some, fits_step]
/-! Whose parts are counted. -/
def taskShares (ts : List Task) (cpu : Int) : List Share := (ts.filter fun t => decide (t.Cpu = cpu) && decide (t.Class = 1)).map fun t => ⟨t.Q, t.P⟩
def ghostShares (gs : List Ghost) (cpu : Int) : List Share := (gs.filter fun g => decide (g.Cpu = cpu)).map fun g => g.S
def sharesOn (s : Sys) (cpu : Int) : List Share := taskShares s.Tasks cpu ++ ghostShares s.Ghosts cpu
theorem taskShares_take {ts : List Task} {cpu : Int} {i : Nat} (hi : i < ts.length) : taskShares (ts.take (i + 1)) cpu = taskShares (ts.take i) cpu ++ cond (decide (ts[i].Cpu = cpu) && decide (ts[i].Class = 1)) [⟨ts[i].Q, ts[i].P⟩] [] := by
  unfold taskShares
  rw [filter_take _ hi, List.map_append]
  cases decide (ts[i].Cpu = cpu) && decide (ts[i].Class = 1) <;> rfl
theorem ghostShares_take {gs : List Ghost} {cpu : Int} {i : Nat} (hi : i < gs.length) : ghostShares (gs.take (i + 1)) cpu = ghostShares (gs.take i) cpu ++ cond (decide (gs[i].Cpu = cpu)) [gs[i].S] [] := by
  unfold ghostShares
  rw [filter_take _ hi, List.map_append]
  cases decide (gs[i].Cpu = cpu) <;> rfl
theorem taskShares_le (ts : List Task) (cpu : Int) (i : Nat) : (taskShares (ts.take i) cpu).length ≤ i := by
  unfold taskShares
  rw [List.length_map]
  exact Nat.le_trans (List.length_filter_le _ _) (List.length_take_le _ _)
theorem ghostShares_le (gs : List Ghost) (cpu : Int) (i : Nat) : (ghostShares (gs.take i) cpu).length ≤ i := by
  unfold ghostShares
  rw [List.length_map]
  exact Nat.le_trans (List.length_filter_le _ _) (List.length_take_le _ _)
theorem sharesOn_le (s : Sys) (cpu : Int) : (sharesOn s cpu).length ≤ s.Tasks.length + s.Ghosts.length := by
  have h1 := taskShares_le s.Tasks cpu s.Tasks.length
  have h2 := ghostShares_le s.Ghosts cpu s.Ghosts.length
  rw [List.take_length] at h1 h2
  unfold sharesOn; rw [List.length_append]; omega
theorem app_ok {β : Type} {xs : List β} {x : β} {B : Nat} (h : xs.length < B) (hb : B ≤ lim) : decide (xs.length + [x].length ≤ lim) = true := decide_eq_true (by simp only [List.length_cons, List.length_nil]; omega)
theorem spec_l9Shares_eq {s : Sys} {cpu : Int} {n : Nat} (hn : s.Tasks.length + s.Ghosts.length < n) (hb : s.Tasks.length + s.Ghosts.length ≤ lim) : f_spec_l9Shares n s cpu = some (sharesOn s cpu, ()) := by
  unfold f_spec_l9Shares
  have h1 := loop_to (l := fun m i => l_spec_l9Shares_0 n m cpu s (taskShares (s.Tasks.take i) cpu) (i : Int) (fun w8 => l_spec_l9Shares_1 n n cpu s w8 0 (fun w15 => some (w15, ())))) (len := s.Tasks.length)
    (r := l_spec_l9Shares_1 n n cpu s (taskShares s.Tasks cpu) 0 (fun w15 => some (w15, ()))) (fun _ => True) trivial (fun m _ => ?_) (fun m i hi _ => .inl ⟨?_, trivial⟩) (m := n) (by omega)
  · refine h1.trans ?_
    have h2 := loop_to (l := fun m i => l_spec_l9Shares_1 n m cpu s (taskShares s.Tasks cpu ++ ghostShares (s.Ghosts.take i) cpu) (i : Int) (fun w15 => some (w15, ()))) (len := s.Ghosts.length)
      (r := some (sharesOn s cpu, ())) (fun _ => True) trivial (fun m _ => ?_) (fun m i hi _ => .inl ⟨?_, trivial⟩) (m := n) (by omega)
    · rw [List.take_zero] at h2
      rw [show ghostShares [] cpu = [] from rfl, List.append_nil] at h2; exact h2
    · simp only [l_spec_l9Shares_1, lt_f, cond_false, List.take_length]; rfl
    · have hl1 := taskShares_le s.Tasks cpu s.Tasks.length
      rw [List.take_length] at hl1
      have hl2 := ghostShares_le s.Ghosts cpu i
      have hl : (taskShares s.Tasks cpu ++ ghostShares (s.Ghosts.take i) cpu).length < lim := by rw [List.length_append]; omega
      simp only [l_spec_l9Shares_1, lt_t hi, ge_t, Bool.and_self, cond_true, getD_at hi, app_ok hl (Nat.le_refl _), wsucc (Nat.lt_trans hi (lim_lm (show s.Ghosts.length ≤ lim by omega)))]
      rw [ghostShares_take hi]
      cases decide (s.Ghosts[i].Cpu = cpu) with
      | false => simp only [cond_false, List.append_nil]
      | true => simp only [cond_true, List.append_assoc]
  · simp only [l_spec_l9Shares_0, lt_f, cond_false, List.take_length]
  · have hl := taskShares_le s.Tasks cpu i
    have hl3 : (taskShares (s.Tasks.take i) cpu).length < lim := by omega
    simp only [l_spec_l9Shares_0, lt_t hi, ge_t, Bool.and_self, cond_true, getD_at hi, app_ok hl3 (Nat.le_refl _), wsucc (Nat.lt_trans hi (lim_lm (show s.Tasks.length ≤ lim by omega)))]
    rw [taskShares_take hi]
    cases decide (s.Tasks[i].Cpu = cpu) <;> cases decide (s.Tasks[i].Class = 1) <;> simp only [cond_false, cond_true, Bool.and_true, Bool.and_false, Bool.false_and, Bool.true_and, List.append_nil]
theorem impl_SharesOn_eq {s : Sys} {cpu : Int} {n : Nat} (hn : s.Tasks.length + s.Ghosts.length < n) (hb : s.Tasks.length + s.Ghosts.length ≤ lim) : f_impl_SharesOn n s cpu = some (sharesOn s cpu, ()) := by
  unfold f_impl_SharesOn
  have h1 := loop_to (l := fun m i => l_impl_SharesOn_0 n m cpu s (taskShares (s.Tasks.take i) cpu) s.Tasks (s.Tasks.length : Int) (i : Int) (fun w10 => l_impl_SharesOn_1 n n cpu w10 s.Ghosts (s.Ghosts.length : Int) 0 (fun w18 => some (w18, ())))) (len := s.Tasks.length)
    (r := l_impl_SharesOn_1 n n cpu (taskShares s.Tasks cpu) s.Ghosts (s.Ghosts.length : Int) 0 (fun w18 => some (w18, ()))) (fun _ => True) trivial (fun m _ => ?_) (fun m i hi _ => .inl ⟨?_, trivial⟩) (m := n) (by omega)
  · refine h1.trans ?_
    have h2 := loop_to (l := fun m i => l_impl_SharesOn_1 n m cpu (taskShares s.Tasks cpu ++ ghostShares (s.Ghosts.take i) cpu) s.Ghosts (s.Ghosts.length : Int) (i : Int) (fun w15 => some (w15, ()))) (len := s.Ghosts.length)
      (r := some (sharesOn s cpu, ())) (fun _ => True) trivial (fun m _ => ?_) (fun m i hi _ => .inl ⟨?_, trivial⟩) (m := n) (by omega)
    · rw [List.take_zero] at h2
      rw [show ghostShares [] cpu = [] from rfl, List.append_nil] at h2; exact h2
    · simp only [l_impl_SharesOn_1, lt_f, cond_false, List.take_length]; rfl
    · have hl1 := taskShares_le s.Tasks cpu s.Tasks.length
      rw [List.take_length] at hl1
      have hl2 := ghostShares_le s.Ghosts cpu i
      have hl : (taskShares s.Tasks cpu ++ ghostShares (s.Ghosts.take i) cpu).length < lim := by rw [List.length_append]; omega
      simp only [l_impl_SharesOn_1, lt_t hi, ge_t, Bool.and_self, cond_true, getD_at hi, app_ok hl (Nat.le_refl _), wsucc (Nat.lt_trans hi (lim_lm (show s.Ghosts.length ≤ lim by omega)))]
      rw [ghostShares_take hi]
      cases decide (s.Ghosts[i].Cpu = cpu) with
      | false => simp only [cond_false, List.append_nil]
      | true => simp only [cond_true, List.append_assoc]
  · simp only [l_impl_SharesOn_0, lt_f, cond_false, List.take_length]
  · have hl := taskShares_le s.Tasks cpu i
    have hl3 : (taskShares (s.Tasks.take i) cpu).length < lim := by omega
    simp only [l_impl_SharesOn_0, lt_t hi, ge_t, Bool.and_self, cond_true, getD_at hi, app_ok hl3 (Nat.le_refl _), wsucc (Nat.lt_trans hi (lim_lm (show s.Tasks.length ≤ lim by omega)))]
    rw [taskShares_take hi]
    cases decide (s.Tasks[i].Cpu = cpu) <;> cases decide (s.Tasks[i].Class = 1) <;> simp only [cond_false, cond_true, Bool.and_true, Bool.and_false, Bool.false_and, Bool.true_and, List.append_nil]
theorem impl_SharesOn_1_eq {s : Sys} {cpu : Int} {n : Nat} (hn : s.Tasks.length + s.Ghosts.length < n) (hb : s.Tasks.length + s.Ghosts.length ≤ lim) : f_impl_SharesOn_1 n s cpu = some (sharesOn s cpu, ()) := by
  unfold f_impl_SharesOn_1
  have h1 := loop_to (l := fun m i => l_impl_SharesOn_1_0 n m cpu s (taskShares (s.Tasks.take i) cpu) s.Tasks (s.Tasks.length : Int) (i : Int) (fun w10 => l_impl_SharesOn_1_1 n n cpu w10 s.Ghosts (s.Ghosts.length : Int) 0 (fun w18 => some (w18, ())))) (len := s.Tasks.length)
    (r := l_impl_SharesOn_1_1 n n cpu (taskShares s.Tasks cpu) s.Ghosts (s.Ghosts.length : Int) 0 (fun w18 => some (w18, ()))) (fun _ => True) trivial (fun m _ => ?_) (fun m i hi _ => .inl ⟨?_, trivial⟩) (m := n) (by omega)
  · refine h1.trans ?_
    have h2 := loop_to (l := fun m i => l_impl_SharesOn_1_1 n m cpu (taskShares s.Tasks cpu ++ ghostShares (s.Ghosts.take i) cpu) s.Ghosts (s.Ghosts.length : Int) (i : Int) (fun w15 => some (w15, ()))) (len := s.Ghosts.length)
      (r := some (sharesOn s cpu, ())) (fun _ => True) trivial (fun m _ => ?_) (fun m i hi _ => .inl ⟨?_, trivial⟩) (m := n) (by omega)
    · rw [List.take_zero] at h2
      rw [show ghostShares [] cpu = [] from rfl, List.append_nil] at h2; exact h2
    · simp only [l_impl_SharesOn_1_1, lt_f, cond_false, List.take_length]; rfl
    · have hl1 := taskShares_le s.Tasks cpu s.Tasks.length
      rw [List.take_length] at hl1
      have hl2 := ghostShares_le s.Ghosts cpu i
      have hl : (taskShares s.Tasks cpu ++ ghostShares (s.Ghosts.take i) cpu).length < lim := by rw [List.length_append]; omega
      simp only [l_impl_SharesOn_1_1, lt_t hi, ge_t, Bool.and_self, cond_true, getD_at hi, app_ok hl (Nat.le_refl _), wsucc (Nat.lt_trans hi (lim_lm (show s.Ghosts.length ≤ lim by omega)))]
      rw [ghostShares_take hi]
      cases decide (s.Ghosts[i].Cpu = cpu) with
      | false => simp only [cond_false, List.append_nil]
      | true => simp only [cond_true, List.append_assoc]
  · simp only [l_impl_SharesOn_1_0, lt_f, cond_false, List.take_length]
  · have hl := taskShares_le s.Tasks cpu i
    have hl3 : (taskShares (s.Tasks.take i) cpu).length < lim := by omega
    simp only [l_impl_SharesOn_1_0, lt_t hi, ge_t, Bool.and_self, cond_true, getD_at hi, app_ok hl3 (Nat.le_refl _), wsucc (Nat.lt_trans hi (lim_lm (show s.Tasks.length ≤ lim by omega)))]
    rw [taskShares_take hi]
    cases decide (s.Tasks[i].Cpu = cpu) <;> cases decide (s.Tasks[i].Class = 1) <;> simp only [cond_false, cond_true, Bool.and_true, Bool.and_false, Bool.false_and, Bool.true_and, List.append_nil]
end Go.Proofs.Ytoedeimpfbebpaa.VR
