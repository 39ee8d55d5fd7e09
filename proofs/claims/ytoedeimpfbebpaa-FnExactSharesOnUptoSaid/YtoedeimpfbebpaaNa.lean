/- Small laws for the printed functions. -/
import Derived.Test.YtoedeimpfbebpaaK5
import Derived.IntWalk
set_option linter.unusedVariables false
namespace Go.Proofs.Ytoedeimpfbebpaa.VR
open Go
theorem callOk_bool {P : Program} {tyK : Kd → TypeId} {f : FuncId} {bs : List A} {b : Bool} (h : CallOk P tyK f bs (.pair .bool .one) (b, ())) : CallOk P tyK f bs .bool b := by
  intro Rc w us hh hv
  refine (h Rc w us hh hv).mono ?_
  rintro e w' ⟨v, rfl, Rc', Hf, vf, h1, h2, h3, h4, rest, Hf', ht⟩
  refine ⟨v, rfl, Rc', Hf, vf, h1, h2, h3, h4, ?_⟩
  simp only [take] at ht
  obtain ⟨⟨r1, r2, r3⟩, e1, ht⟩ := Option.bind_eq_some_iff.1 ht
  obtain ⟨⟨q1, q2, q3⟩, e2, ht⟩ := Option.bind_eq_some_iff.1 ht
  simp only [Option.some.injEq, Prod.mk.injEq] at ht
  obtain ⟨⟨rfl, _⟩, _⟩ := ht
  exact ⟨r2, r3, e1⟩
theorem cond_dec {p : Prop} [Decidable p] {α : Type} (x y : α) : cond (decide p) x y = if p then x else y := by by_cases h : p <;> simp [h]
theorem law_end {x y : Bool} (h : x = y) : cond (!(x == y)) (some (false, ())) (some (true, ())) = some (true, ()) := by subst h; simp
theorem eq_of_iff {x y : Bool} (h : x = true ↔ y = true) : x = y := Bool.eq_iff_iff.2 h
theorem w64_id {n : Int} (h1 : -9223372036854775808 ≤ n) (h2 : n ≤ 9223372036854775807) : w64 n = n := by
  exact IntWalk.i64_in _ ⟨h1, h2⟩
theorem cond_some {β : Type} (b : Bool) (x y : β) : cond b (some (x, ())) (some (y, ())) = some (cond b x y, ()) := by cases b <;> rfl
theorem cond_iff (b x y : Bool) : (cond b x y = true) ↔ ((b = true ∧ x = true) ∨ (b = false ∧ y = true)) := by cases b <;> simp
theorem cond_not {β : Type} (b : Bool) (x y : β) : cond (!b) x y = cond b y x := by cases b <;> rfl
theorem some_iff {P : Prop} [Decidable P] {x : Bool} (h : x = true ↔ P) : (some (x, ()) : Option (Bool × Unit)) = some (decide P, ()) := by
  rw [eq_of_iff (h.trans decide_eq_true_iff.symm)]
/-! Indexes. -/
def lmax : Nat := 4611686018427387904
theorem lt_t {i n : Nat} (h : i < n) : decide ((i : Int) < (n : Int)) = true := decide_eq_true (by omega)
theorem lt_f (n : Nat) : decide ((n : Int) < (n : Int)) = false := decide_eq_false (by omega)
theorem ge_t (i : Nat) : decide (0 ≤ (i : Int)) = true := decide_eq_true (by omega)
theorem wsucc {i : Nat} (h : i < lmax) : w64 ((i : Int) + 1) = ((i + 1 : Nat) : Int) := by
  unfold lmax at h
  rw [w64_id (by omega) (by omega)]; omega
theorem getD_at {β : Type} {xs : List β} {i : Nat} (h : i < xs.length) (d : β) : List.getD xs (Int.toNat (i : Int)) d = xs[i] := by
  simp [List.getD_eq_getElem?_getD, List.getElem?_eq_getElem h]
theorem getD_nat {β : Type} {xs : List β} {i : Nat} (h : i < xs.length) (d : β) : List.getD xs i d = xs[i] := by
  simp [List.getD_eq_getElem?_getD, List.getElem?_eq_getElem h]
/-! Loops over a list. -/
theorem fold_from {σ R β : Type} {l : Nat → Int → σ → R} {xs : List β} {f : σ → β → σ} {k : σ → R} (hend : ∀ m s, l (m + 1) (xs.length : Int) s = k s)
    (hstep : ∀ m (i : Nat) s (h : i < xs.length), l (m + 1) (i : Int) s = l m ((i + 1 : Nat) : Int) (f s xs[i])) :
    ∀ (d i m : Nat) (s : σ), i + d = xs.length → d < m → l m (i : Int) s = k ((xs.drop i).foldl f s)
  | 0, i, m, s, hi, hm => by
    obtain ⟨m, rfl⟩ : ∃ q, m = q + 1 := ⟨m - 1, by omega⟩
    have : i = xs.length := by omega
    subst this
    rw [hend, List.drop_length]; rfl
  | d + 1, i, m, s, hi, hm => by
    obtain ⟨m, rfl⟩ : ∃ q, m = q + 1 := ⟨m - 1, by omega⟩
    have h : i < xs.length := by omega
    rw [hstep m i s h, fold_from hend hstep d (i + 1) m _ (by omega) (by omega), List.drop_eq_getElem_cons h]; rfl
theorem fold_loop {σ R β : Type} {l : Nat → Int → σ → R} {xs : List β} {f : σ → β → σ} {k : σ → R} (hend : ∀ m s, l (m + 1) (xs.length : Int) s = k s)
    (hstep : ∀ m (i : Nat) s (h : i < xs.length), l (m + 1) (i : Int) s = l m ((i + 1 : Nat) : Int) (f s xs[i])) {m : Nat} {s : σ} (hm : xs.length < m) : l m 0 s = k (xs.foldl f s) := by
  have := fold_from hend hstep xs.length 0 m s (by omega) hm
  simpa using this
/-- A loop whose state is told by its index: it comes to r. -/
theorem loop_to {R : Type} {l : Nat → Nat → R} {len : Nat} {r : R} (Inv : Nat → Prop) (h0 : Inv 0) (hend : ∀ m, Inv len → l (m + 1) len = r)
    (hstep : ∀ m i, i < len → Inv i → (l (m + 1) i = l m (i + 1) ∧ Inv (i + 1)) ∨ l (m + 1) i = r) {m : Nat} (hm : len < m) : l m 0 = r := by
  have : ∀ (d i m : Nat), i + d = len → d < m → Inv i → l m i = r := by
    intro d
    induction d with
    | zero =>
      intro i m hi hm hI
      obtain ⟨m, rfl⟩ : ∃ q, m = q + 1 := ⟨m - 1, by omega⟩
      have : i = len := by omega
      subst this
      exact hend m hI
    | succ d ih =>
      intro i m hi hm hI
      obtain ⟨m, rfl⟩ : ∃ q, m = q + 1 := ⟨m - 1, by omega⟩
      rcases hstep m i (by omega) hI with ⟨h1, h2⟩ | h1
      · rw [h1]; exact ih (i + 1) m (by omega) (by omega) h2
      · exact h1
  exact this len 0 m (by omega) hm h0
/-- Until one is not so. -/
theorem all_loop {R β : Type} {l : Nat → Int → R} {xs : List β} {p : β → Bool} {k0 k1 : R} (hend : ∀ m, l (m + 1) (xs.length : Int) = k1)
    (hstep : ∀ m (i : Nat) (h : i < xs.length), l (m + 1) (i : Int) = cond (p xs[i]) (l m ((i + 1 : Nat) : Int)) k0) {m : Nat} (hm : xs.length < m) : l m 0 = cond (xs.all p) k1 k0 := by
  have : ∀ (d i m : Nat), i + d = xs.length → d < m → l m (i : Int) = cond ((xs.drop i).all p) k1 k0 := by
    intro d
    induction d with
    | zero =>
      intro i m hi hm
      obtain ⟨m, rfl⟩ : ∃ q, m = q + 1 := ⟨m - 1, by omega⟩
      have : i = xs.length := by omega
      subst this
      rw [hend, List.drop_length]; rfl
    | succ d ih =>
      intro i m hi hm
      obtain ⟨m, rfl⟩ : ∃ q, m = q + 1 := ⟨m - 1, by omega⟩
      have h : i < xs.length := by omega
      rw [hstep m i h, ih (i + 1) m (by omega) (by omega), List.drop_eq_getElem_cons h, List.all_cons]
      cases p xs[i] <;> rfl
  have := this xs.length 0 m (by omega) hm
  simpa using this
/-- The first that is so: its place. -/
theorem find_loop {R β : Type} {l : Nat → Int → R} {xs : List β} {p : β → Bool} {k0 : Int → R} {k1 : R} (hend : ∀ m, l (m + 1) (xs.length : Int) = k1)
    (hstep : ∀ m (i : Nat) (h : i < xs.length), l (m + 1) (i : Int) = cond (p xs[i]) (k0 (i : Int)) (l m ((i + 1 : Nat) : Int))) {m : Nat} (hm : xs.length < m) :
    l m 0 = match xs.findIdx? p with | some i => k0 (i : Int) | none => k1 := by
  have : ∀ (d i m : Nat), i + d = xs.length → d < m → l m (i : Int) = match (xs.drop i).findIdx? p with | some j => k0 ((i + j : Nat) : Int) | none => k1 := by
    intro d
    induction d with
    | zero =>
      intro i m hi hm
      obtain ⟨m, rfl⟩ : ∃ q, m = q + 1 := ⟨m - 1, by omega⟩
      have : i = xs.length := by omega
      subst this
      rw [hend, List.drop_length]; rfl
    | succ d ih =>
      intro i m hi hm
      obtain ⟨m, rfl⟩ : ∃ q, m = q + 1 := ⟨m - 1, by omega⟩
      have h : i < xs.length := by omega
      rw [hstep m i h, ih (i + 1) m (by omega) (by omega), List.drop_eq_getElem_cons h, List.findIdx?_cons]
      cases hp : p xs[i] with
      | true => simp
      | false =>
        simp only [cond_false, Bool.false_eq_true, if_false]
        cases (xs.drop (i + 1)).findIdx? p with
        | none => rfl
        | some j => simp; congr 1; omega
  have := this xs.length 0 m (by omega) hm
  simpa using this
theorem count_le {β : Type} (p : β → Bool) (xs : List β) (i : Nat) : (xs.take i).countP p ≤ i := Nat.le_trans List.countP_le_length (List.length_take_le _ _)
theorem count_take {β : Type} (p : β → Bool) {xs : List β} {i : Nat} (h : i < xs.length) : (xs.take (i + 1)).countP p = (xs.take i).countP p + cond (p xs[i]) 1 0 := by
  rw [List.take_succ_eq_append_getElem h, List.countP_append, List.countP_singleton]
  cases p xs[i] <;> simp
theorem map_take {β γ : Type} (f : β → γ) {xs : List β} {i : Nat} (h : i < xs.length) : (xs.take (i + 1)).map f = (xs.take i).map f ++ [f xs[i]] := by
  rw [List.take_succ_eq_append_getElem h, List.map_append]; rfl
theorem filter_take {β : Type} (p : β → Bool) {xs : List β} {i : Nat} (h : i < xs.length) : (xs.take (i + 1)).filter p = (xs.take i).filter p ++ cond (p xs[i]) [xs[i]] [] := by
  rw [List.take_succ_eq_append_getElem h, List.filter_append]
  cases hp : p xs[i] <;> simp [List.filter_cons, hp]
end Go.Proofs.Ytoedeimpfbebpaa.VR
