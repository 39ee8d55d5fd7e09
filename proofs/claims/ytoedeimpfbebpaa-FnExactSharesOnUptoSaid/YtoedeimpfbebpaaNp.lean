/- Locks: who waits, whose turn is lent; chains that come to an end. -/
import Derived.Test.YtoedeimpfbebpaaNa
set_option linter.unusedVariables false
set_option linter.unusedSimpArgs false
namespace Go.Proofs.Ytoedeimpfbebpaa.VR
open Go
def waitIdx (l : List Lock) (no : Int) : Option Nat := l.findIdx? fun k => decide (no ∈ k.Waits)
def next (l : List Lock) (no : Int) : Option Int := match waitIdx l no with
  | none => none
  | some i => some (l.getD i (Kd.dflt .lock)).Owner
/-- What follows somebody, up to so many. -/
def chainR (l : List Lock) : Nat → Int → Option (List Int)
  | 0, _ => none
  | k + 1, no => match next l no with
    | none => some []
    | some o => (chainR l k o).map (o :: ·)
theorem chainR_mono {l : List Lock} : ∀ {k : Nat} {no : Int} {c : List Int}, chainR l k no = some c → ∀ k', k ≤ k' → chainR l k' no = some c
  | 0, no, c, h, k', hk => by cases h
  | k + 1, no, c, h, k', hk => by
    obtain ⟨k', rfl⟩ : ∃ q, k' = q + 1 := ⟨k' - 1, by omega⟩
    unfold chainR at h ⊢
    cases hn : next l no with
    | none => rw [hn] at h; exact h
    | some o =>
      rw [hn] at h
      simp only at h ⊢
      obtain ⟨c', h1, rfl⟩ := Option.map_eq_some_iff.1 h
      rw [chainR_mono h1 k' (by omega)]; rfl
theorem chainR_len {l : List Lock} : ∀ {k : Nat} {no : Int} {c : List Int}, chainR l k no = some c → c.length < k
  | 0, no, c, h => by cases h
  | k + 1, no, c, h => by
    unfold chainR at h
    cases hn : next l no with
    | none => rw [hn] at h; injection h with h; subst h; simp
    | some o =>
      rw [hn] at h
      simp only at h
      obtain ⟨c', h1, rfl⟩ := Option.map_eq_some_iff.1 h
      have := chainR_len h1
      simp; omega
theorem chainR_eq {l : List Lock} {k k' : Nat} {no : Int} {c c' : List Int} (h : chainR l k no = some c) (h' : chainR l k' no = some c') : c = c' := by
  have h1 := chainR_mono h (k + k') (by omega)
  have h2 := chainR_mono h' (k + k') (by omega)
  rw [h1] at h2; exact Option.some.inj h2
/-- What stands behind one of a chain is its chain. -/
theorem chainR_suffix {l : List Lock} : ∀ {k : Nat} {no : Int} {c : List Int}, chainR l k no = some c → ∀ (p s : List Int) (x : Int), no :: c = p ++ x :: s → chainR l k x = some s
  | 0, no, c, h, p, s, x, e => by cases h
  | k + 1, no, c, h, p, s, x, e => by
    cases p with
    | nil =>
      simp only [List.nil_append, List.cons.injEq] at e
      obtain ⟨rfl, rfl⟩ := e
      exact h
    | cons y p =>
      simp only [List.cons_append, List.cons.injEq] at e
      obtain ⟨rfl, e⟩ := e
      unfold chainR at h
      cases hn : next l no with
      | none => rw [hn] at h; injection h with h; subst h; cases p <;> cases e
      | some o =>
        rw [hn] at h
        simp only at h
        obtain ⟨c', h1, rfl⟩ := Option.map_eq_some_iff.1 h
        exact chainR_mono (chainR_suffix h1 p s x e) _ (by omega)
theorem chainR_nodup {l : List Lock} : ∀ {k : Nat} {no : Int} {c : List Int}, chainR l k no = some c → (no :: c).Nodup
  | 0, no, c, h => by cases h
  | k + 1, no, c, h => by
    have h0 := h
    unfold chainR at h
    cases hn : next l no with
    | none => rw [hn] at h; injection h with h; subst h; simp
    | some o =>
      rw [hn] at h
      simp only at h
      obtain ⟨c', h1, rfl⟩ := Option.map_eq_some_iff.1 h
      refine List.nodup_cons.2 ⟨fun hm => ?_, chainR_nodup h1⟩
      obtain ⟨s1, s2, e⟩ := List.append_of_mem hm
      have h2 := chainR_suffix h0 (no :: s1) s2 no (by rw [e]; rfl)
      have h3 := congrArg List.length (chainR_eq h2 h0)
      have h4 := congrArg List.length e
      simp at h3 h4
      omega
theorem nodup_sub_len : ∀ {c L : List Int}, c.Nodup → (∀ x ∈ c, x ∈ L) → c.length ≤ L.length
  | [], L, _, _ => Nat.zero_le _
  | x :: c, L, hn, hs => by
    rw [List.nodup_cons] at hn
    have hx := hs x (List.mem_cons_self ..)
    have h1 := nodup_sub_len (L := L.erase x) hn.2 fun y hy => by
      have hne : y ≠ x := fun e => hn.1 (e ▸ hy)
      exact (List.mem_erase_of_ne hne).2 (hs y (List.mem_cons_of_mem _ hy))
    have h2 := List.length_erase_of_mem hx
    have h3 := List.length_pos_of_mem hx
    simp; omega
theorem waitIdx_lt {l : List Lock} {no : Int} {i : Nat} (h : waitIdx l no = some i) : i < l.length := by
  unfold waitIdx at h
  rw [List.findIdx?_eq_some_iff_findIdx_eq] at h
  exact h.1
theorem next_mem {l : List Lock} {no o : Int} (h : next l no = some o) : o ∈ l.map (·.Owner) := by
  unfold next at h
  split at h
  · cases h
  · rename_i i hi
    injection h with h
    have hl := waitIdx_lt hi
    rw [← h, List.getD_eq_getElem?_getD, List.getElem?_eq_getElem hl]
    exact List.mem_map.2 ⟨_, List.getElem_mem hl, rfl⟩
theorem chainR_owners {l : List Lock} : ∀ {k : Nat} {no : Int} {c : List Int}, chainR l k no = some c → ∀ x ∈ c, x ∈ l.map (·.Owner)
  | 0, no, c, h => by cases h
  | k + 1, no, c, h => by
    unfold chainR at h
    cases hn : next l no with
    | none => rw [hn] at h; injection h with h; subst h; intro x hx; cases hx
    | some o =>
      rw [hn] at h
      simp only at h
      obtain ⟨c', h1, rfl⟩ := Option.map_eq_some_iff.1 h
      intro x hx
      rcases List.mem_cons.1 hx with rfl | hx
      · exact next_mem hn
      · exact chainR_owners h1 x hx
theorem chainR_short {l : List Lock} {k : Nat} {no : Int} {c : List Int} (h : chainR l k no = some c) : c.length ≤ l.length := by
  have := nodup_sub_len (List.nodup_cons.1 (chainR_nodup h)).2 (chainR_owners h)
  simpa using this
/-- Fuel that is enough is enough. -/
theorem chainR_at {l : List Lock} : ∀ {k : Nat} {no : Int} {c : List Int}, chainR l k no = some c → chainR l (c.length + 1) no = some c
  | 0, no, c, h => by cases h
  | k + 1, no, c, h => by
    unfold chainR at h ⊢
    cases hn : next l no with
    | none => rw [hn] at h; exact h
    | some o =>
      rw [hn] at h
      simp only at h ⊢
      obtain ⟨c', h1, rfl⟩ := Option.map_eq_some_iff.1 h
      rw [List.length_cons, chainR_at h1]; rfl
def chainOf (l : List Lock) (no : Int) : Option (List Int) := chainR l (l.length + 1) no
theorem chainOf_of {l : List Lock} {k : Nat} {no : Int} {c : List Int} (h : chainR l k no = some c) : chainOf l no = some c := by
  have := chainR_short h
  exact chainR_mono (chainR_at h) _ (by omega)
theorem chainOf_none {l : List Lock} {no : Int} (h : chainOf l no = none) (k : Nat) : chainR l k no = none := by
  cases e : chainR l k no with
  | none => rfl
  | some c => rw [chainOf_of e] at h; cases h
/-- One step on. -/
theorem chainOf_step {l : List Lock} {no o : Int} (h : next l no = some o) : chainOf l no = (chainOf l o).map (o :: ·) := by
  cases e : chainOf l o with
  | some c =>
    have : chainR l (l.length + 2) no = some (o :: c) := by
      show (match next l no with | none => some [] | some o => (chainR l (l.length + 1) o).map (o :: ·)) = _
      rw [h]
      show (chainR l (l.length + 1) o).map (o :: ·) = _
      unfold chainOf at e
      rw [e]; rfl
    rw [chainOf_of this]; rfl
  | none =>
    have : chainR l (l.length + 1) no = none := by
      show (match next l no with | none => some [] | some o => (chainR l l.length o).map (o :: ·)) = _
      rw [h]
      show (chainR l l.length o).map (o :: ·) = _
      rw [chainOf_none e]; rfl
    exact this
theorem chainOf_end {l : List Lock} {no : Int} (h : next l no = none) : chainOf l no = some [] := by
  show (match next l no with | none => some [] | some o => (chainR l l.length o).map (o :: ·)) = _
  rw [h]
def waitsOf (l : List Lock) : List Int := l.flatMap (·.Waits)
structure LocksOk (l : List Lock) : Prop where
  len : l.length ≤ 5
  own : ∀ k ∈ l, (0 ≤ k.Owner ∧ k.Owner ≤ 1000) ∧ (k.Owner = 0 → k.Waits = [])
  nos : ∀ x ∈ waitsOf l, 1 ≤ x ∧ x ≤ 1000
  nodup : (waitsOf l).Nodup
  ends : ∀ x ∈ waitsOf l, (chainOf l x).isSome = true
theorem locksOk_iff (l : List Lock) : LocksOk l ↔ l.length ≤ 5 ∧ (∀ k ∈ l, (0 ≤ k.Owner ∧ k.Owner ≤ 1000) ∧ (k.Owner = 0 → k.Waits = [])) ∧ (∀ x ∈ waitsOf l, 1 ≤ x ∧ x ≤ 1000) ∧ (waitsOf l).Nodup ∧ ∀ x ∈ waitsOf l, (chainOf l x).isSome = true :=
  ⟨fun h => ⟨h.1, h.2, h.3, h.4, h.5⟩, fun h => ⟨h.1, h.2.1, h.2.2.1, h.2.2.2.1, h.2.2.2.2⟩⟩
instance (l : List Lock) : Decidable (LocksOk l) := decidable_of_iff _ (locksOk_iff l).symm
end Go.Proofs.Ytoedeimpfbebpaa.VR
