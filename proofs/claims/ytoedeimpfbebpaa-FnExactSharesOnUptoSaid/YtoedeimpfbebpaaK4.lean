/- What is computed out of some of the slots is computed out of all. -/
import Derived.Test.YtoedeimpfbebpaaK3
section
set_option linter.unusedVariables false
set_option linter.unusedSimpArgs false
set_option linter.unusedSectionVars false
namespace Go.Proofs.Ytoedeimpfbebpaa.VR
open Go
def HLe (H H' : List E) : Prop := H.length = H'.length ∧ ∀ s, geti H s = .dead ∨ geti H s = geti H' s
theorem HLe.set {H H' : List E} (h : HLe H H') (s : Nat) (e : E) : HLe (H.set s e) (H'.set s e) := by
  refine ⟨by simp [h.1], fun s' => ?_⟩
  rw [geti_set, geti_set, ← h.1]
  split
  · exact .inr rfl
  · exact h.2 s'
theorem HLe.puts {ws : List (Nat × E)} : ∀ {H H' : List E}, HLe H H' → HLe (puts H ws) (VR.puts H' ws) := by
  induction ws with
  | nil => intro H H' h; exact h
  | cons p ws ih => intro H H' h; obtain ⟨s, e⟩ := p; exact ih (h.set s e)
theorem mask_length (rd : List Nat) : ∀ (H : List E) (n : Nat), (mask H rd n).length = H.length
  | [], n => rfl
  | e :: H, n => by simp [mask, mask_length rd H]
theorem geti_mask (rd : List Nat) : ∀ (H : List E) (n s : Nat), geti (mask H rd n) s = if s < H.length ∧ rd.contains (n + s) = false then .dead else geti H s
  | [], n, s => by simp [mask]
  | e :: H, n, 0 => by
    simp only [mask, geti, List.getD_cons_zero, List.length_cons, Nat.add_zero]
    cases rd.contains n <;> simp
  | e :: H, n, s + 1 => by
    have := geti_mask rd H (n + 1) s
    simp only [mask, geti, List.getD_cons_succ, List.length_cons] at this ⊢
    rw [this, show n + 1 + s = n + (s + 1) by omega]
    simp
theorem HLe.mask (H : List E) (rd : List Nat) : HLe (mask H rd 0) H := by
  refine ⟨mask_length rd H 0, fun s => ?_⟩
  rw [geti_mask]
  split
  · exact .inl rfl
  · exact .inr rfl
section
variable {H H' : List E} {α : Type} {r : α}
theorem HLe.root (h : HLe H H') {s : Nat} {k : Kd} {xs : List k.T} {ho : Ho} (e : geti H s = .root k xs ho) : geti H' s = .root k xs ho := by
  rcases h.2 s with h1 | h1
  · rw [e] at h1; cases h1
  · rw [← h1, e]
theorem HLe.box (h : HLe H H') {s : Nat} {cs : List V} (e : geti H s = .box cs) : geti H' s = .box cs := by
  rcases h.2 s with h1 | h1
  · rw [e] at h1; cases h1
  · rw [← h1, e]
theorem HLe.fresh (h : HLe H H') {s : Nat} (e : geti H s = .fresh) : geti H' s = .fresh := by
  rcases h.2 s with h1 | h1
  · rw [e] at h1; cases h1
  · rw [← h1, e]
mutual
theorem fz_mono (hl : HLe H H') : ∀ (n : Nat) (v v' : V), fz H n v = some v' → fz H' n v = some v'
  | 0, v, v', h => by simp [fz] at h
  | n + 1, v, v', h => by
    cases v with
    | bor r =>
      simp only [fz] at h ⊢
      split at h
      · rename_i e; rw [hl.root e]; exact h
      · cases h
    | borN r i j =>
      simp only [fz] at h ⊢
      split at h
      · rename_i e; rw [hl.root e]; exact h
      · cases h
    | ptr b j =>
      simp only [fz] at h ⊢
      split at h
      · rename_i e
        rw [hl.box e]
        obtain ⟨x, h1, h2⟩ := Option.bind_eq_some_iff.1 h
        exact Option.bind_eq_some_iff.2 ⟨x, fz_go_mono hl n _ _ h1, h2⟩
      · cases h
    | ep r i j =>
      simp only [fz] at h ⊢
      split at h
      · rename_i e; rw [hl.root e]; exact h
      · cases h
    | agg xs => simp only [fz] at h ⊢; obtain ⟨x, h1, h2⟩ := Option.bind_eq_some_iff.1 h; exact Option.bind_eq_some_iff.2 ⟨x, fz_go_mono hl n _ _ h1, h2⟩
    | tup xs => simp only [fz] at h ⊢; obtain ⟨x, h1, h2⟩ := Option.bind_eq_some_iff.1 h; exact Option.bind_eq_some_iff.2 ⟨x, fz_go_mono hl n _ _ h1, h2⟩
    | clo f xs => simp only [fz] at h ⊢; obtain ⟨x, h1, h2⟩ := Option.bind_eq_some_iff.1 h; exact Option.bind_eq_some_iff.2 ⟨x, fz_go_mono hl n _ _ h1, h2⟩
    | rp xs j => simp only [fz] at h ⊢; obtain ⟨x, h1, h2⟩ := Option.bind_eq_some_iff.1 h; exact Option.bind_eq_some_iff.2 ⟨x, fz_go_mono hl n _ _ h1, h2⟩
    | _ => simpa only [fz] using h
theorem fz_go_mono (hl : HLe H H') : ∀ (n : Nat) (vs vs' : List V), fz.go H n vs = some vs' → fz.go H' n vs = some vs'
  | 0, vs, vs', h => by simp [fz.go] at h
  | n + 1, [], vs', h => by simpa [fz.go] using h
  | n + 1, v :: vs, vs', h => by
    simp only [fz.go] at h ⊢
    obtain ⟨x, h1, h2⟩ := Option.bind_eq_some_iff.1 h
    obtain ⟨y, h3, h4⟩ := Option.bind_eq_some_iff.1 h2
    exact Option.bind_eq_some_iff.2 ⟨x, fz_mono hl n _ _ h1, Option.bind_eq_some_iff.2 ⟨y, fz_go_mono hl n _ _ h3, h4⟩⟩
end
mutual
theorem mvA_mono : ∀ (n : Nat) (v : V) (H H' : List E) (x : A × List (Nat × E)), HLe H H' → mvA n v H = some x → mvA n v H' = some x
  | 0, v, H, H', x, hl, h => by simp [mvA] at h
  | n + 1, v, H, H', x, hl, h => by
    cases v with
    | bor r =>
      simp only [mvA] at h ⊢
      split at h
      · rename_i e; rw [hl.root e]; exact h
      · cases h
    | borN r i j =>
      simp only [mvA] at h ⊢
      split at h
      · rename_i e; rw [hl.root e]; exact h
      · cases h
    | ptr b j =>
      cases j with
      | succ j => simp [mvA] at h
      | zero =>
        simp only [mvA] at h ⊢
        split at h
        · rename_i e
          rw [hl.box e]
          obtain ⟨y, h1, h2⟩ := Option.bind_eq_some_iff.1 h
          exact Option.bind_eq_some_iff.2 ⟨y, mvA_go_mono n _ _ _ _ (hl.set _ _) h1, h2⟩
        · cases h
    | agg xs =>
      simp only [mvA] at h ⊢
      obtain ⟨y, h1, h2⟩ := Option.bind_eq_some_iff.1 h
      exact Option.bind_eq_some_iff.2 ⟨y, mvA_go_mono n _ _ _ _ hl h1, h2⟩
    | ro p k xs => cases p <;> simpa only [mvA] using h
    | _ => simpa only [mvA] using h
theorem mvA_go_mono : ∀ (n : Nat) (vs : List V) (H H' : List E) (x : List A × List (Nat × E)), HLe H H' → mvA.go n vs H = some x → mvA.go n vs H' = some x
  | 0, vs, H, H', x, hl, h => by simp [mvA.go] at h
  | n + 1, [], H, H', x, hl, h => by simpa [mvA.go] using h
  | n + 1, v :: vs, H, H', x, hl, h => by
    simp only [mvA.go] at h ⊢
    obtain ⟨y, h1, h2⟩ := Option.bind_eq_some_iff.1 h
    obtain ⟨z, h3, h4⟩ := Option.bind_eq_some_iff.1 h2
    exact Option.bind_eq_some_iff.2 ⟨y, mvA_mono n _ _ _ _ hl h1, Option.bind_eq_some_iff.2 ⟨z, mvA_go_mono n _ _ _ _ hl.puts h3, h4⟩⟩
end
theorem mkArgs_mono : ∀ (vs : List V) (ms : List AM) (H H' : List E) (x : List (V ⊕ A) × List (Nat × E)), HLe H H' → mkArgs vs ms H = some x → mkArgs vs ms H' = some x
  | [], [], H, H', x, hl, h => by simpa [mkArgs] using h
  | [], m :: ms, H, H', x, hl, h => by simp [mkArgs] at h
  | v :: vs, [], H, H', x, hl, h => by simp [mkArgs] at h
  | v :: vs, .ro :: ms, H, H', x, hl, h => by
    simp only [mkArgs] at h ⊢
    obtain ⟨y, h1, h2⟩ := Option.bind_eq_some_iff.1 h
    exact Option.bind_eq_some_iff.2 ⟨y, mkArgs_mono _ _ _ _ _ hl h1, h2⟩
  | v :: vs, .mv :: ms, H, H', x, hl, h => by
    simp only [mkArgs] at h ⊢
    obtain ⟨y, h1, h2⟩ := Option.bind_eq_some_iff.1 h
    obtain ⟨z, h3, h4⟩ := Option.bind_eq_some_iff.1 h2
    exact Option.bind_eq_some_iff.2 ⟨y, mvA_mono _ _ _ _ _ hl h1, Option.bind_eq_some_iff.2 ⟨z, mkArgs_mono _ _ _ _ _ hl.puts h3, h4⟩⟩
theorem fzArgs_mono (hl : HLe H H') : ∀ (xs : List (V ⊕ A)) (bz : List A), fzArgs H xs = some bz → fzArgs H' xs = some bz
  | [], bz, h => by simpa [fzArgs] using h
  | .inl v :: xs, bz, h => by
    simp only [fzArgs] at h ⊢
    obtain ⟨y, h1, h2⟩ := Option.bind_eq_some_iff.1 h
    obtain ⟨z, h3, h4⟩ := Option.bind_eq_some_iff.1 h2
    exact Option.bind_eq_some_iff.2 ⟨y, fz_mono hl _ _ _ h1, Option.bind_eq_some_iff.2 ⟨z, fzArgs_mono hl _ _ h3, h4⟩⟩
  | .inr a :: xs, bz, h => by
    simp only [fzArgs] at h ⊢
    obtain ⟨z, h3, h4⟩ := Option.bind_eq_some_iff.1 h
    exact Option.bind_eq_some_iff.2 ⟨z, fzArgs_mono hl _ _ h3, h4⟩
theorem ssOk_mono : ∀ (ss : List (Option Nat)) (H H' : List E), HLe H H' → ssOk H ss = true → ssOk H' ss = true
  | [], H, H', hl, h => rfl
  | none :: ss, H, H', hl, h => ssOk_mono ss H H' hl h
  | some s :: ss, H, H', hl, h => by
    simp only [ssOk, Bool.and_eq_true] at h ⊢
    obtain ⟨⟨h1, h2⟩, h3⟩ := h
    have h2' : geti H s = .fresh := by cases e : geti H s <;> rw [e] at h2 <;> first | rfl | cases h2
    exact ⟨⟨by rw [← hl.1]; exact h1, by rw [hl.fresh h2']; rfl⟩, ssOk_mono ss _ _ (hl.set _ _) h3⟩
theorem toC_mono (hl : HLe H H') {v : V} {x : C × List (Nat × E)} (h : toC H v = some x) : toC H' v = some x := by
  cases v with
  | bor r =>
    simp only [toC] at h ⊢
    split at h
    · rename_i e; rw [hl.root e]; exact h
    · cases h
  | _ => simpa only [toC] using h
theorem toCs_mono : ∀ (vs : List V) (H H' : List E) (x : List C × List (Nat × E)), HLe H H' → toCs H vs = some x → toCs H' vs = some x
  | [], H, H', x, hl, h => by simpa [toCs] using h
  | v :: vs, H, H', x, hl, h => by
    simp only [toCs] at h ⊢
    obtain ⟨y, h1, h2⟩ := Option.bind_eq_some_iff.1 h
    obtain ⟨z, h3, h4⟩ := Option.bind_eq_some_iff.1 h2
    exact Option.bind_eq_some_iff.2 ⟨y, toC_mono hl h1, Option.bind_eq_some_iff.2 ⟨z, toCs_mono _ _ _ _ hl.puts h3, h4⟩⟩
theorem rowsOf_mono (k : Kd) : ∀ (vs : List V) (H H' : List E) (x : List k.T × List (Nat × E)), HLe H H' → rowsOf k H vs = some x → rowsOf k H' vs = some x
  | [], H, H', x, hl, h => by simpa [rowsOf] using h
  | v :: vs, H, H', x, hl, h => by
    simp only [rowsOf] at h ⊢
    obtain ⟨y, h1, h2⟩ := Option.bind_eq_some_iff.1 h
    obtain ⟨z, h3, h4⟩ := Option.bind_eq_some_iff.1 h2
    obtain ⟨u, h5, h6⟩ := Option.bind_eq_some_iff.1 h4
    exact Option.bind_eq_some_iff.2 ⟨y, toCs_mono _ _ _ _ hl h1, Option.bind_eq_some_iff.2 ⟨z, h3, Option.bind_eq_some_iff.2 ⟨u, rowsOf_mono k _ _ _ _ hl.puts h5, h6⟩⟩⟩
theorem appTo_mono (hl : HLe H H') {k : Kd} {v : V} {x : List k.T × List (Nat × E) × Ho} (h : appTo k H v = some x) : appTo k H' v = some x := by
  cases v with
  | bor r =>
    simp only [appTo] at h ⊢
    split at h
    · rename_i e; rw [hl.root e]; exact h
    · cases h
  | borN r i j =>
    simp only [appTo] at h ⊢
    split at h
    · rename_i e; rw [hl.root e]; exact h
    · cases h
  | _ => simpa only [appTo] using h
theorem appOf_mono (hl : HLe H H') {k : Kd} {v : V} {x : List k.T × List (Nat × E)} (h : appOf k H v = some x) : appOf k H' v = some x := by
  cases v with
  | bor r =>
    simp only [appOf] at h ⊢
    split at h
    · rename_i e; rw [hl.root e]; exact h
    · cases h
  | _ => simpa only [appOf] using h
theorem pinsOk_mono (hl : HLe H H') : ∀ (sh : Sh) (vs : List V), pinsOk H sh vs = true → pinsOk H' sh vs = true := by
  intro sh
  induction sh with
  | own k =>
    intro vs h
    cases vs with
    | nil => rfl
    | cons v vs =>
      cases v with
      | bor q =>
        simp only [pinsOk] at h ⊢
        split at h
        · rename_i e; rw [hl.root e]; exact h
        · cases h
      | _ => rfl
  | agg s ih =>
    intro vs h
    cases vs with
    | nil => rfl
    | cons v vs =>
      cases v with
      | agg us => simp only [pinsOk] at h ⊢; exact ih us h
      | _ => rfl
  | pair a b iha ihb =>
    intro vs h
    simp only [pinsOk, Bool.and_eq_true] at h ⊢
    exact ⟨iha _ h.1, ihb _ h.2⟩
  | _ => intro vs h; rfl
theorem callN_mono (hl : HLe H H') {Co : Orc} {f : FuncId} {vs : List V} {k : Eff → Option α} (h : callN Co f vs H k = some r) : callN Co f vs H' k = some r := by
  unfold callN at h ⊢
  split at h
  · split at h
    · rename_i e
      rw [hl.root e]
      exact h
    · cases h
  · cases h
theorem callK_mono (hl : HLe H H') {Co : Orc} {f : FuncId} {vs : List V} {ms : List AM} {sh : Sh} {outs : List Sh} {ss : List (Option Nat)} {k : Eff → Option α} (h : callK Co f vs ms sh outs ss H k = some r) : callK Co f vs ms sh outs ss H' k = some r := by
  unfold callK at h ⊢
  obtain ⟨y, h1, h2⟩ := Option.bind_eq_some_iff.1 h
  obtain ⟨z, h3, h4⟩ := Option.bind_eq_some_iff.1 h2
  obtain ⟨h5, h6⟩ := cond_none h4
  refine Option.bind_eq_some_iff.2 ⟨y, mkArgs_mono _ _ _ _ _ hl h1, Option.bind_eq_some_iff.2 ⟨z, fzArgs_mono hl.puts _ _ h3, ?_⟩⟩
  rw [Bool.and_eq_true] at h5
  rw [ssOk_mono _ _ _ hl h5.1, pinsOk_mono hl _ _ h5.2]
  exact h6
variable {P : Program} {Tb : TypeId → Option TI} {tyK : Kd → TypeId} {o : Oper} {oa : OA} {tm : List V} {Co : Orc} {k : Eff → Option α}
theorem builtin_mono (hl : HLe H H') {b : Builtin} {ts : Array TypeId} {vs : List V} (h : builtinK Tb tyK b ts vs oa H k = some r) : builtinK Tb tyK b ts vs oa H' k = some r := by
  unfold builtinK at h ⊢
  split at h
  · split at h
    · split at h
      all_goals first | exact h | (cases h; done) | skip
      split at h
      · rename_i e; (try dsimp only); rw [hl.root e]; exact h
      · cases h
    · cases h
  · exact h
  · exact h
  · split at h
    · split at h
      · rename_i htb e
        (try dsimp only)
        rw [hl.fresh e]
        obtain ⟨y, h1, h2⟩ := Option.bind_eq_some_iff.1 h
        obtain ⟨z, h3, h4⟩ := Option.bind_eq_some_iff.1 h2
        simp only [htb]
        exact Option.bind_eq_some_iff.2 ⟨y, appTo_mono hl h1, Option.bind_eq_some_iff.2 ⟨z, appOf_mono hl.puts h3, h4⟩⟩
      · cases h
    · cases h
  · cases h
theorem op_mono (hl : HLe H H') (h : opK Tb tyK Co o oa tm H k = some r) : opK Tb tyK Co o oa tm H' k = some r := by
  cases ho : o.op with
  | nilCheck x =>
    simp only [opK, ho] at h ⊢
    split at h
    all_goals first | exact h | (cases h; done) | skip
    split at h
    · rename_i e; (try dsimp only); rw [hl.root e]; exact h
    · cases h
  | fieldAddr t x f =>
    simp only [opK, ho] at h ⊢
    split at h
    · rename_i htb
      (try dsimp only)
      split at h
      · rename_i hf
        (try dsimp only)
        split at h
        · rename_i hti
          (try dsimp only)
          obtain ⟨h0, h⟩ := cond_none' h
          rw [h0]
          simp only [cond_false]
          split at h
          all_goals first | exact h | (cases h; done) | skip
          split at h
          · rename_i e; (try dsimp only); rw [hl.root e]; exact h
          · cases h
        · cases h
      · cases h
    · cases h
  | indexAddr t x ix =>
    simp only [opK, ho] at h ⊢
    split at h
    · rename_i htb
      obtain ⟨n, e, h⟩ := asI_some h
      simp only [e, V.asI]
      split at h
      all_goals first | exact h | (cases h; done) | skip
      split at h
      · rename_i e; (try dsimp only); rw [hl.root e]; exact h
      · cases h
    · cases h
  | load t x =>
    simp only [opK, ho] at h ⊢
    split at h
    · rename_i htb
      split at h
      all_goals first | exact h | (cases h; done) | skip
      · split at h
        · rename_i e; (try dsimp only); rw [hl.box e]; exact h
        · cases h
      · split at h
        · rename_i e; (try dsimp only); rw [hl.root e]; exact h
        · rename_i e; (try dsimp only); rw [hl.root e]; exact h
        · cases h
    · cases h
  | store t x y =>
    simp only [opK, ho] at h ⊢
    split at h
    · rename_i htb
      obtain ⟨h0, h⟩ := cond_none h
      rw [h0]
      simp only [cond_true]
      split at h
      · split at h
        · rename_i e; (try dsimp only); rw [hl.box e]; exact h
        · cases h
      · split at h
        · rename_i e
          (try dsimp only)
          rw [hl.root e]
          obtain ⟨z, h3, h4⟩ := Option.bind_eq_some_iff.1 h
          exact Option.bind_eq_some_iff.2 ⟨z, toCs_mono _ _ _ _ hl h3, h4⟩
        · cases h
      · cases h
    · cases h
  | alloc t =>
    simp only [opK, ho] at h ⊢
    split at h
    · split at h
      · rename_i e; (try dsimp only); rw [hl.fresh e]; exact h
      · cases h
    · cases h
  | box t x =>
    simp only [opK, ho] at h ⊢
    split at h
    · split at h
      · rename_i e; (try dsimp only); rw [hl.fresh e]; exact h
      · cases h
    · cases h
  | buildSlice t n parts =>
    simp only [opK, ho] at h ⊢
    split at h
    · split at h
      · rename_i e
        (try dsimp only)
        rw [hl.fresh e]
        obtain ⟨h0, h⟩ := cond_none h
        rw [h0]
        obtain ⟨z, h3, h4⟩ := Option.bind_eq_some_iff.1 h
        exact Option.bind_eq_some_iff.2 ⟨z, rowsOf_mono _ _ _ _ _ hl h3, h4⟩
      · cases h
    · cases h
  | makeSlice t x y =>
    simp only [opK, ho] at h ⊢
    split at h
    · split at h
      · rename_i e; (try dsimp only); rw [hl.fresh e]; exact h
      · cases h
    · cases h
  | slice t x lo hi mx =>
    simp only [opK, ho] at h ⊢
    split at h
    · rename_i htb
      split at h
      · split at h
        all_goals first | exact h | (cases h; done) | skip
        (try dsimp only)
        split at h
        · rename_i e
          split at h
          · rename_i e2
            (try dsimp only)
            rw [hl.root e]
            (try dsimp only)
            rw [hl.fresh e2]
            exact h
          · cases h
        · cases h
      · exact h
    · exact h
    · cases h
  | call c =>
    simp only [opK, ho] at h ⊢
    split at h
    · exact builtin_mono hl h
    · split at h
      · exact callK_mono hl h
      · exact callN_mono hl h
      · cases h
    · cases h
  | makeFunc fn first caps => cases fn <;> first | (simp only [opK, ho] at h ⊢; exact h) | (simp [opK, ho] at h)
  | _ => (simp only [opK, ho] at h ⊢; exact h)
end
end Go.Proofs.Ytoedeimpfbebpaa.VR
end
section
set_option linter.unusedVariables false
set_option linter.unusedSimpArgs false
set_option linter.unusedSectionVars false
namespace Go.Proofs.Ytoedeimpfbebpaa.VR
open Go
/-- Where a function's run is: what was at its entry, and what is now. -/
structure At (tyK : Kd → TypeId) (R0 : Re) (w0 : World) (lv : List V) (us : List Value) (R : Re) (tm : List V) (H : List E) (a : Act) (w : World) : Prop where
  step : Step R0 w0 R w
  hr : HR tyK R H w
  tm : VRs R H w tm a.tmps.toList
  lv : VRs R H w lv us
  defers : a.defers = []
def J (tyK : Kd → TypeId) (R0 : Re) (w0 : World) (lv : List V) (us : List Value) (st : St) (a : Act) (w : World) : Prop := ∃ R, At tyK R0 w0 lv us R st.tm st.H a w
section
variable {P : Program} {Tb : TypeId → Option TI} {tyK : Kd → TypeId} {R : Re} {H : List E} {w : World} {a : Act} {o : Oper} {oa : OA} {tm : List V} {α : Type} {r : α} {Co : Orc}
theorem put_tmps (a : Act) (d : Option Tmp) (v : Value) : (a.put d v).tmps.toList = match d with | some d => a.tmps.toList.set d v | none => a.tmps.toList := by
  cases d <;> simp [Act.put]
theorem put_defers (a : Act) (d : Option Tmp) (v : Value) : (a.put d v).defers = a.defers := by cases d <;> rfl
theorem VRs.set {vs : List V} {us : List Value} (h : VRs R H w vs us) (d : Nat) {v : V} {u : Value} (hv : VR R H w v u) : VRs R H w (vs.set d v) (us.set d u) := by
  refine ⟨by simp [h.1], fun i x y hx hy => ?_⟩
  rw [List.getElem?_set] at hx hy
  by_cases e : d = i
  · subst e
    rw [if_pos rfl] at hx hy
    split at hx
    · split at hy
      · injection hx with hx; injection hy with hy; subst hx; subst hy; exact hv
      · cases hy
    · cases hx
  · rw [if_neg e] at hx hy
    exact h.2 i x y hx hy
theorem VRs.putd (h : VRs R H w tm a.tmps.toList) (d : Option Tmp) {v : V} {u : Value} (hv : VR R H w v u) : VRs R H w (putd tm d v) (a.put d u).tmps.toList := by
  rw [put_tmps]
  cases d with
  | none => exact h
  | some d => exact h.set d hv
theorem VRs.bool_at (h : VRs R H w tm a.tmps.toList) {d : Nat} {b : Bool} (hd : tm.getD d .junk = .bool b) : a.tmps[d]? = some (.bool b) ∧ VRs R H w (tm.set d (.bool b)) a.tmps.toList := by
  rw [List.getD_eq_getElem?_getD] at hd
  have hlt : d < tm.length := by
    rcases Nat.lt_or_ge d tm.length with h1 | h1
    · exact h1
    · rw [List.getElem?_eq_none h1] at hd; cases hd
  rw [List.getElem?_eq_getElem hlt] at hd
  simp at hd
  have hlt2 : d < a.tmps.toList.length := by rw [← h.1]; exact hlt
  have h3 := h.2 d _ _ (List.getElem?_eq_getElem hlt) (List.getElem?_eq_getElem hlt2)
  rw [hd] at h3
  have h4 : a.tmps.toList[d] = .bool b := h3.bool_inv
  refine ⟨by rw [← Array.getElem?_toList, List.getElem?_eq_getElem hlt2, h4], ?_⟩
  have := h.set d (VR.bool (R := R) (H := H) (w := w) b)
  have e : a.tmps.toList.set d (.bool b) = a.tmps.toList := by
    rw [← h4]; exact List.set_getElem_self hlt2
  rwa [e] at this
theorem VRs.und_at (h : VRs R H w tm a.tmps.toList) {d : Nat} (hd : tm.getD d .junk = .und) : a.tmps[d]? = some undef := by
  rw [List.getD_eq_getElem?_getD] at hd
  have hlt : d < tm.length := by
    rcases Nat.lt_or_ge d tm.length with h1 | h1
    · exact h1
    · rw [List.getElem?_eq_none h1] at hd; cases hd
  rw [List.getElem?_eq_getElem hlt] at hd
  simp at hd
  have hlt2 : d < a.tmps.toList.length := by rw [← h.1]; exact hlt
  have h3 := h.2 d _ _ (List.getElem?_eq_getElem hlt) (List.getElem?_eq_getElem hlt2)
  rw [hd] at h3
  have h4 : a.tmps.toList[d] = undef := by
    generalize a.tmps.toList[d] = x at h3
    cases h3; rfl
  rw [← Array.getElem?_toList, List.getElem?_eq_getElem hlt2, h4]
/-- What an operation of a region comes to, wanted or not. -/
def GOk (P : Program) (ty : Kd → TypeId) (ops : Array Oper) (o : Oper) (a : Act) (w : World) (R : Re) (H : List E) (e : Eff) : Prop :=
  ∀ (K : Act → World → Prop) (Q : Exit → Act → World → Prop), (∀ R' v w', Pres R H w R' (puts H e.ws) w' → HR ty R' (puts H e.ws) w' → VR R' (puts H e.ws) w' e.v v → K (a.put o.dst v) w') →
    if Region.wanted o (yielded ops a.tmps) then o.wp P a w K Q else K (a.put o.dst undef) w
theorem gop_sound {ops : Array Oper} {k : List V → Eff → Option α} (hT : TbOk P Tb tyK) (hC : CoOk P tyK Co) (hh : HR tyK R H w) (ht : VRs R H w tm a.tmps.toList) (h : gopK Tb tyK Co ops o oa tm H k = some r) :
    ∃ tm' e, k tm' e = some r ∧ VRs R H w tm' a.tmps.toList ∧ GOk P tyK ops o a w R H e := by
  unfold gopK at h
  obtain ⟨hs, h⟩ := cond_none h
  have hs' : ∀ s q, oa = .slot s q → s < H.length := by
    rintro s q rfl
    simpa [slotOk] using hs
  split at h
  · rename_i hg
    obtain ⟨e, hk, hok⟩ := op_sound hT hC hh ht hs' h
    exact ⟨tm, e, hk, ht, fun K Q hK => by rw [if_pos (by simp [Region.wanted, hg])]; exact hok K Q hK⟩
  · rename_i g want hg
    split at h
    · rename_i d hd
      rcases asG_some h with ⟨b, hb, h⟩ | ⟨hb, h⟩
      rotate_left
      · have hy := ht.und_at hb
        have hyl : yielded ops a.tmps g = none := by simp [yielded, hd, hy, undef]
        have hwant : Region.wanted o (yielded ops a.tmps) = false := by simp [Region.wanted, hg, hyl]
        exact ⟨_, _, h, ht, fun K Q hK => by rw [hwant]; exact hK R undef w (Pres.refl _ _ _) hh .und⟩
      obtain ⟨hy, ht'⟩ := ht.bool_at hb
      have hyl : yielded ops a.tmps g = some b := by simp [yielded, hd, hy]
      have hwant : Region.wanted o (yielded ops a.tmps) = (b == want) := by simp [Region.wanted, hg, hyl]
      cases b with
      | true =>
        simp only [cond_true] at h
        cases want with
        | true =>
          simp only [cond_true] at h
          obtain ⟨e, hk, hok⟩ := op_sound hT hC hh ht' hs' h
          exact ⟨_, e, hk, ht', fun K Q hK => by rw [hwant]; exact hok K Q hK⟩
        | false =>
          simp only [cond_false] at h
          exact ⟨_, _, h, ht', fun K Q hK => by rw [hwant]; exact hK R undef w (Pres.refl _ _ _) hh .und⟩
      | false =>
        simp only [cond_false] at h
        cases want with
        | true =>
          simp only [cond_true] at h
          exact ⟨_, _, h, ht', fun K Q hK => by rw [hwant]; exact hK R undef w (Pres.refl _ _ _) hh .und⟩
        | false =>
          simp only [cond_false] at h
          obtain ⟨e, hk, hok⟩ := op_sound hT hC hh ht' hs' h
          exact ⟨_, e, hk, ht', fun K Q hK => by rw [hwant]; exact hok K Q hK⟩
    · cases h
variable {R0 : Re} {w0 : World} {lv : List V} {us : List Value}
theorem At.next (h : At tyK R0 w0 lv us R tm H a w) {R' : Re} {e : Eff} {v : Value} {w' : World} {d : Option Tmp} {tm' : List V} (ht' : VRs R H w tm' a.tmps.toList) (hp : Pres R H w R' (puts H e.ws) w') (hr : HR tyK R' (puts H e.ws) w') (hv : VR R' (puts H e.ws) w' e.v v) :
    At tyK R0 w0 lv us R' (putd tm' d e.v) (puts H e.ws) (a.put d v) w' :=
  ⟨h.step.trans hp.step, hr, VRs.putd (ht'.pres hp) d hv, h.lv.pres hp, by rw [put_defers]; exact h.defers⟩
theorem reg_sound {ops : Array Oper} {bz : List (Nat × OA)} {k : St → Option α} {Q : Exit → Act → World → Prop} (hT : TbOk P Tb tyK) (hC : CoOk P tyK Co) (hQ : ∀ st a w, k st = some r → J tyK R0 w0 lv us st a w → Q .normal a w) :
    ∀ (os : List Oper) (i : Nat) (tm : List V) (H : List E) (a : Act) (w : World), regK Tb tyK Co ops bz i os tm H k = some r → J tyK R0 w0 lv us ⟨tm, H⟩ a w → wpList P ops Q os a w
  | [], i, tm, H, a, w, h, hj => hQ _ a w h hj
  | o :: os, i, tm, H, a, w, h, ⟨R, hj⟩ => by
    simp only [regK] at h
    obtain ⟨tm', e, hk, ht', hok⟩ := gop_sound hT hC hj.hr hj.tm h
    refine wpList_step fun K hK => hok K Q fun R' v w' hp hr hv => hK _ _ ?_
    exact reg_sound hT hC hQ os (i + 1) _ _ _ _ hk ⟨R', hj.next ht' hp hr hv⟩
end
end Go.Proofs.Ytoedeimpfbebpaa.VR
end
section
set_option linter.unusedVariables false
set_option linter.unusedSimpArgs false
set_option linter.unusedSectionVars false
namespace Go.Proofs.Ytoedeimpfbebpaa.VR
open Go
section
variable {α β : Type}
theorem cond_bind (c : Bool) (x y : Option α) (k : α → Option β) : (cond c x y).bind k = cond c (x.bind k) (y.bind k) := by cases c <;> rfl
theorem asI_bind (v : V) (f : Int → Option α) (k : α → Option β) : (v.asI f).bind k = v.asI fun n => (f n).bind k := by cases v <;> rfl
theorem asB_bind (v : V) (f : Bool → Option α) (k : α → Option β) : (v.asB f).bind k = v.asB fun n => (f n).bind k := by cases v <;> rfl
theorem asG_bind (v : V) (f : Bool → Option α) (z : Option α) (k : α → Option β) : (v.asG f z).bind k = v.asG (fun n => (f n).bind k) (z.bind k) := by cases v <;> rfl
theorem binN_bind (op : BinOp) (b : Bool) (f : Bool → Option α) (k : α → Option β) : (binN op b f).bind k = binN op b fun n => (f n).bind k := by cases op <;> rfl
theorem opt1_bind (tm : List V) (x : Option Operand) (d : Int) (f : Int → Option α) (k : α → Option β) : (opt1 tm x d f).bind k = opt1 tm x d fun n => (f n).bind k := by
  cases x with
  | none => rfl
  | some y => exact asI_bind _ _ _
theorem hoStore_bind (h : Ho) (i j : Nat) (cs : List C) (f : Ho → Option α) (k : α → Option β) : (h.store i j cs f).bind k = h.store i j cs fun n => (f n).bind k := by
  unfold Ho.store
  rw [cond_bind]
  congr 1
  cases h with
  | hole i' j' => exact cond_bind _ _ _ _
  | _ => rfl
theorem binI_bind (op : BinOp) (a b : Int) (f : V → Option α) (k : α → Option β) : (binI op a b f).bind k = binI op a b fun n => (f n).bind k := by
  cases op <;> simp only [binI, cond_bind] <;> rfl
theorem binU_bind (op : BinOp) (a b : Int) (f : V → Option α) (k : α → Option β) : (binU op a b f).bind k = binU op a b fun n => (f n).bind k := by
  cases op <;> simp only [binU, cond_bind] <;> rfl
theorem binS_bind (op : BinOp) (a b : ByteArray) (f : V → Option α) (k : α → Option β) : (binS op a b f).bind k = binS op a b fun n => (f n).bind k := by
  cases op <;> simp only [binS, cond_bind] <;> rfl
theorem some_bind' (x : α) (k : α → Option β) : (some x).bind k = k x := rfl
theorem none_bind' (k : α → Option β) : (none : Option α).bind k = none := rfl
variable {Tb : TypeId → Option TI} {tyK : Kd → TypeId} {H : List E} {o : Oper} {oa : OA} {tm : List V} {Co : Orc} {k : Eff → Option β}
theorem callN_nat {f : FuncId} {vs : List V} : callN Co f vs H k = (callN Co f vs H some).bind k := by
  unfold callN
  split
  · split
    · rw [cond_bind]; simp only [Option.bind_assoc, none_bind', some_bind']
    · rfl
  · rfl
theorem callK_nat {f : FuncId} {vs : List V} {ms : List AM} {sh : Sh} {outs : List Sh} {ss : List (Option Nat)} : callK Co f vs ms sh outs ss H k = (callK Co f vs ms sh outs ss H some).bind k := by
  unfold callK
  simp only [Option.bind_assoc, cond_bind, none_bind']
  congr 1; funext m
  congr 1; funext bz
  congr 1
  congr 1; funext r
  (try dsimp only)
  split <;> rfl
theorem builtin_nat {b : Builtin} {ts : Array TypeId} {vs : List V} : builtinK Tb tyK b ts vs oa H k = (builtinK Tb tyK b ts vs oa H some).bind k := by
  unfold builtinK
  split
  · split
    · split <;> (try rfl)
      split <;> rfl
    · rfl
  · rfl
  · rfl
  · split
    · split
      · simp only [Option.bind_assoc, cond_bind, none_bind', some_bind']
      · rfl
    · rfl
  · rfl
theorem op_nat : opK Tb tyK Co o oa tm H k = (opK Tb tyK Co o oa tm H some).bind k := by
  cases ho : o.op with
  | move x => simp only [opK, ho]; rfl
  | assign x => simp only [opK, ho]; rfl
  | pick c x y =>
    simp only [opK, ho, asB_bind]
    congr 1; funext b
    split
    · rfl
    · simp only [cond_bind, some_bind']
  | binOp op t x y t' =>
    simp only [opK, ho]
    split
    · simp only [binI_bind, some_bind']
    · simp only [binU_bind, some_bind']
    · simp only [binS_bind, some_bind']
    · split
      · split <;> rfl
      · rfl
    · split
      · simp only [cond_bind, Option.bind_assoc, none_bind', some_bind']
      · simp only [cond_bind, Option.bind_assoc, none_bind', some_bind']
      · rfl
    · simp only [cond_bind, binN_bind, some_bind', none_bind']
    · simp only [cond_bind, binN_bind, some_bind', none_bind']
    · simp only [cond_bind, binN_bind, some_bind', none_bind']
    · rfl
  | unOp op t x =>
    simp only [opK, ho]
    split <;> rfl
  | nilCheck x =>
    simp only [opK, ho]
    split <;> (try rfl)
    split <;> rfl
  | fieldAddr t x f =>
    simp only [opK, ho]
    split <;> (try rfl)
    split <;> (try rfl)
    split <;> (try rfl)
    rw [cond_bind]
    congr 1
    split <;> (try rfl)
    split <;> rfl
  | indexAddr t x ix =>
    simp only [opK, ho]
    split <;> (try rfl)
    rw [asI_bind]
    congr 1; funext n
    split
    · simp only [cond_bind, none_bind', some_bind']
    · split
      · simp only [cond_bind, none_bind', some_bind']
      · rfl
    · rfl
  | load t x =>
    simp only [opK, ho]
    split <;> (try rfl)
    split <;> (try rfl)
    · simp only [Option.bind_assoc, some_bind']
    · split
      · simp only [Option.bind_assoc, some_bind']
      · rfl
    · split
      · simp only [Option.bind_assoc, some_bind']
      · simp only [cond_bind, Option.bind_assoc, none_bind', some_bind']
      · rfl
  | store t x y =>
    simp only [opK, ho]
    split <;> (try rfl)
    rw [cond_bind]
    congr 1
    split <;> (try rfl)
    · split
      · simp only [cond_bind, none_bind', some_bind']
      · rfl
    · split
      · simp only [cond_bind, Option.bind_assoc, hoStore_bind, none_bind', some_bind']
      · rfl
  | alloc t =>
    simp only [opK, ho]
    split <;> (try rfl)
    split
    · simp only [Option.bind_assoc, some_bind']
    · rfl
  | box t x =>
    simp only [opK, ho]
    split <;> (try rfl)
    split
    · simp only [cond_bind, none_bind', some_bind']
    · rfl
  | build t parts =>
    simp only [opK, ho]
    split
    · simp only [Option.bind_assoc, some_bind']
    · rfl
  | buildSlice t n parts =>
    simp only [opK, ho]
    split <;> (try rfl)
    split
    · simp only [cond_bind, Option.bind_assoc, none_bind', some_bind']
    · rfl
  | makeSlice t x y =>
    simp only [opK, ho]
    split <;> (try rfl)
    split
    · simp only [asI_bind, cond_bind, Option.bind_assoc, none_bind', some_bind']
    · rfl
  | makeFunc fn first caps =>
    cases fn <;> simp only [opK, ho] <;> first | rfl | simp only [cond_bind, none_bind', some_bind']
  | extract x i =>
    simp only [opK, ho]
    split <;> (try rfl)
    split <;> rfl
  | index t x ix =>
    simp only [opK, ho]
    split
    · simp only [cond_bind, none_bind', some_bind']
    · rfl
  | convert s d x =>
    simp only [opK, ho]
    split <;> rfl
  | slice t x lo hi mx =>
    simp only [opK, ho]
    split
    · split
      · split
        · simp only [opt1_bind, cond_bind, none_bind', some_bind']
        · split
          · split
            · simp only [opt1_bind, cond_bind, none_bind', some_bind']
            · rfl
          · rfl
        · simp only [opt1_bind, cond_bind, none_bind', some_bind']
        · rfl
      · split
        · simp only [opt1_bind, cond_bind, none_bind']
          congr 1; funext h
          congr 1; funext m
          congr 1
          split
          · simp only [cond_bind, none_bind', some_bind']
          · simp only [cond_bind, none_bind', some_bind']
          · rfl
        · rfl
    · split
      · simp only [opt1_bind, cond_bind, none_bind', some_bind']
      · rfl
    · rfl
  | call c =>
    simp only [opK, ho]
    split
    · exact builtin_nat
    · split
      · exact callK_nat
      · exact callN_nat
      · rfl
    · rfl
  | _ => simp only [opK, ho]; rfl
theorem gop_nat {ops : Array Oper} {k : List V → Eff → Option β} : gopK Tb tyK Co ops o oa tm H k = (gopK Tb tyK Co ops o oa tm H fun t e => some (t, e)).bind fun p => k p.1 p.2 := by
  have hop : ∀ (tm t : List V), opK Tb tyK Co o oa tm H (k t) = (opK Tb tyK Co o oa tm H fun e => some (t, e)).bind fun p => k p.1 p.2 := by
    intro tm t
    rw [op_nat, op_nat (k := fun e => some (t, e)), Option.bind_assoc]
    rfl
  unfold gopK
  rw [cond_bind]
  congr 1
  split
  · exact hop _ _
  · split
    · simp only [asG_bind, cond_bind, hop, some_bind']
    · rfl
end
end Go.Proofs.Ytoedeimpfbebpaa.VR
end
section
set_option linter.unusedVariables false
set_option linter.unusedSimpArgs false
set_option linter.unusedSectionVars false
namespace Go.Proofs.Ytoedeimpfbebpaa.VR
open Go
/-! ### Writes that are taken or left -/
section
variable {β : Type}
def sets (x : List β) : List (Nat × β) → List β
  | [] => x
  | (s, e) :: ws => sets (x.set s e) ws
theorem sets_length (ws : List (Nat × β)) : ∀ x : List β, (sets x ws).length = x.length := by
  induction ws with
  | nil => intro x; rfl
  | cons p ws ih => intro x; obtain ⟨s, e⟩ := p; simp only [sets]; rw [ih]; simp
def hits (ws : List (Nat × β)) (s : Nat) : Prop := ∃ p ∈ ws, p.1 = s
theorem sets_out {ws : List (Nat × β)} : ∀ {x : List β} {s : Nat}, ¬ hits ws s → (sets x ws)[s]? = x[s]? := by
  induction ws with
  | nil => intro x s _; rfl
  | cons p ws ih =>
    intro x s h
    obtain ⟨q, e⟩ := p
    simp only [sets]
    rw [ih (fun ⟨p, hp, e⟩ => h ⟨p, by simp [hp], e⟩), List.getElem?_set_ne]
    exact fun e' => h ⟨(q, e), by simp, e'⟩
theorem sets_set (ws : List (Nat × β)) : ∀ (x : List β) (s : Nat) (e : β), ¬ hits ws s → sets (x.set s e) ws = (sets x ws).set s e := by
  induction ws with
  | nil => intro x s e _; rfl
  | cons p ws ih =>
    intro x s e h
    obtain ⟨q, f⟩ := p
    simp only [sets]
    rw [List.set_comm, ih _ _ _ (fun ⟨p, hp, e⟩ => h ⟨p, by simp [hp], e⟩)]
    exact fun e' => h ⟨(q, f), by simp, e'.symm⟩
theorem sets_comm (a b : List (Nat × β)) : ∀ x : List β, (∀ s, hits a s → ¬ hits b s) → sets (sets x a) b = sets (sets x b) a := by
  induction a with
  | nil => intro x _; rfl
  | cons p a ih =>
    intro x h
    obtain ⟨q, f⟩ := p
    simp only [sets]
    rw [ih _ (fun s ⟨p, hp, e⟩ => h s ⟨p, by simp [hp], e⟩), sets_set b x q f (h q ⟨(q, f), by simp, rfl⟩)]
def app (x : List β) : List (List (Nat × β)) → (Nat → Bool) → Nat → List β
  | [], S, i => x
  | w :: l, S, i => app (cond (S i) (sets x w) x) l S (i + 1)
theorem app_length : ∀ (l : List (List (Nat × β))) (x : List β) (S : Nat → Bool) (i : Nat), (app x l S i).length = x.length
  | [], x, S, i => rfl
  | w :: l, x, S, i => by simp only [app]; rw [app_length l]; cases S i <;> simp [sets_length]
theorem app_congr : ∀ (l : List (List (Nat × β))) (x : List β) (S S' : Nat → Bool) (i : Nat), (∀ m, i ≤ m → m < i + l.length → S m = S' m) → app x l S i = app x l S' i
  | [], x, S, S', i, h => rfl
  | w :: l, x, S, S', i, h => by
    simp only [app]
    rw [h i (Nat.le_refl _) (by simp)]
    exact app_congr l _ S S' (i + 1) fun m h1 h2 => h m (by omega) (by simp; omega)
theorem app_false : ∀ (l : List (List (Nat × β))) (x : List β) (S : Nat → Bool) (i : Nat), (∀ m, i ≤ m → S m = false) → app x l S i = x
  | [], x, S, i, h => rfl
  | w :: l, x, S, i, h => by
    simp only [app]
    rw [h i (Nat.le_refl _)]
    exact app_false l x S (i + 1) fun m h1 => h m (by omega)
theorem app_past : ∀ (l : List (List (Nat × β))) (x : List β) (S : Nat → Bool) (i : Nat) (w : List (Nat × β)), (∀ m v, l[m]? = some v → S (i + m) = true → ∀ s, hits w s → ¬ hits v s) → app (sets x w) l S i = sets (app x l S i) w
  | [], x, S, i, w, h => rfl
  | v :: l, x, S, i, w, h => by
    simp only [app]
    have ih := fun x => app_past l x S (i + 1) w fun m v' hv hs => h (m + 1) v' (by simpa using hv) (by rw [show i + (m + 1) = i + 1 + m by omega]; exact hs)
    cases hS : S i with
    | true =>
      simp only [cond_true]
      rw [sets_comm w v x (h 0 v rfl (by simpa using hS)), ih]
    | false =>
      simp only [cond_false]
      exact ih x
/-- One more is taken. -/
theorem app_insert : ∀ (l : List (List (Nat × β))) (x : List β) (S S' : Nat → Bool) (i j : Nat) (w : List (Nat × β)), l[j]? = some w → S (i + j) = false → S' (i + j) = true → (∀ m, m ≠ i + j → S' m = S m) →
    (∀ m v, j < m → l[m]? = some v → S (i + m) = true → ∀ s, hits w s → ¬ hits v s) → app x l S' i = sets (app x l S i) w
  | [], x, S, S', i, j, w, h, _, _, _, _ => by simp at h
  | v :: l, x, S, S', i, 0, w, h, h1, h2, h3, h4 => by
    simp at h
    subst h
    simp only [app, Nat.add_zero] at *
    rw [h1, h2]
    simp only [cond_true, cond_false]
    rw [app_congr l _ S' S (i + 1) fun m h5 _ => h3 m (by omega)]
    exact app_past l x S (i + 1) v fun m u hu hs => h4 (m + 1) u (by omega) (by simpa using hu) (by rw [show i + (m + 1) = i + 1 + m by omega]; exact hs)
  | v :: l, x, S, S', i, j + 1, w, h, h1, h2, h3, h4 => by
    simp only [app]
    rw [h3 i (by omega)]
    refine app_insert l _ S S' (i + 1) j w (by simpa using h) ?_ ?_ ?_ fun m u hm hu hs => h4 (m + 1) u (by omega) (by simpa using hu) (by rw [show i + (m + 1) = i + 1 + m by omega]; exact hs)
    · rw [show i + 1 + j = i + (j + 1) by omega]; exact h1
    · rw [show i + 1 + j = i + (j + 1) by omega]; exact h2
    · intro m hm; exact h3 m (by omega)
/-- A place that is written alike. -/
theorem app_at : ∀ (l : List (List (Nat × β))) (x x' : List β) (S S' : Nat → Bool) (i s : Nat), x.length = x'.length → x[s]? = x'[s]? → (∀ m v, l[m]? = some v → hits v s → S (i + m) = S' (i + m)) → (app x l S i)[s]? = (app x' l S' i)[s]?
  | [], x, x', S, S', i, s, hl, hx, h => hx
  | v :: l, x, x', S, S', i, s, hl, hx, h => by
    simp only [app]
    refine app_at l _ _ S S' (i + 1) s ?_ ?_ fun m u hu hh => ?_
    · cases S i <;> cases S' i <;> simp [sets_length, hl]
    · by_cases hv : hits v s
      · rw [show S i = S' i from h 0 v rfl hv]
        cases S' i with
        | false => exact hx
        | true =>
          simp only [cond_true]
          clear h
          induction v generalizing x x' with
          | nil => exact hx
          | cons p v ih =>
            obtain ⟨q, e⟩ := p
            simp only [sets]
            by_cases hv2 : hits v s
            · refine ih (x.set q e) (x'.set q e) (by simp [hl]) ?_ hv2
              rw [List.getElem?_set, List.getElem?_set, hl, hx]
            · rw [sets_out hv2, sets_out hv2, List.getElem?_set, List.getElem?_set, hl, hx]
      · have e1 : ∀ (b : Bool) (y : List β), (cond b (sets y v) y)[s]? = y[s]? := by intro b y; cases b <;> simp [sets_out hv]
        rw [e1, e1]; exact hx
    · have := h (m + 1) u (by simpa using hu) hh
      rwa [show i + (m + 1) = i + 1 + m by omega] at this
end
theorem puts_sets (ws : List (Nat × E)) : ∀ H : List E, puts H ws = sets H ws := by
  induction ws with
  | nil => intro H; rfl
  | cons p ws ih => intro H; obtain ⟨s, e⟩ := p; exact ih _
def wt (o : Oper) (e : Eff) : List (Nat × V) := match o.dst with
  | some d => [(d, e.v)]
  | none => []
theorem putd_sets (tm : List V) (o : Oper) (e : Eff) : putd tm o.dst e.v = sets tm (wt o e) := by
  unfold putd wt
  cases o.dst <;> rfl
theorem hits_wt {o : Oper} {e : Eff} {s : Nat} (h : hits (wt o e) s) : o.dst = some s := by
  unfold wt at h
  obtain ⟨p, hp, rfl⟩ := h
  split at hp
  · rename_i d hd; simp at hp; subst hp; exact hd
  · cases hp
section
variable {α : Type} {Tb : TypeId → Option TI} {tyK : Kd → TypeId} {Co : Orc} {ops : Array Oper} {bz : List (Nat × OA)}
inductive Chn (Tb : TypeId → Option TI) (tyK : Kd → TypeId) (Co : Orc) (ops : Array Oper) (bz : List (Nat × OA)) : Nat → List Oper → List (List Nat × List Nat) → List V → List E → List Eff → List V → List E → Prop
  | nil {i ds tm H} : Chn Tb tyK Co ops bz i [] ds tm H [] tm H
  | cons {i o os rd wr ds tm H t e es tm' H'} : gopK Tb tyK Co ops o (oaOf bz i) (keepT (o.looksAt ops) 0 tm) (mask H rd 0) (fun t e => some (t, e)) = some (t, e) → within e.ws wr = true →
      Chn Tb tyK Co ops bz (i + 1) os ds (sets tm (wt o e)) (sets H e.ws) es tm' H' → Chn Tb tyK Co ops bz i (o :: os) ((rd, wr) :: ds) tm H (e :: es) tm' H'
theorem chn_of {k : St → Option α} {r : α} : ∀ (os : List Oper) (i : Nat) (ds : List (List Nat × List Nat)) (tm : List V) (H : List E), dregK Tb tyK Co ops bz i os ds tm H k = some r → ∃ es tm' H', Chn Tb tyK Co ops bz i os ds tm H es tm' H' ∧ k ⟨tm', H'⟩ = some r
  | [], i, ds, tm, H, h => ⟨[], tm, H, .nil, h⟩
  | o :: os, i, [], tm, H, h => by simp [dregK] at h
  | o :: os, i, (rd, wr) :: ds, tm, H, h => by
    simp only [dregK] at h
    rw [gop_nat] at h
    obtain ⟨⟨t, e⟩, h1, h⟩ := Option.bind_eq_some_iff.1 h
    obtain ⟨h2, h⟩ := cond_none h
    dsimp only at h2 h
    rw [putd_sets, puts_sets] at h
    obtain ⟨es, tm', H', hc, hk⟩ := chn_of os (i + 1) ds _ _ h
    exact ⟨e :: es, tm', H', .cons h1 h2 hc, hk⟩
def wts (os : List Oper) (es : List Eff) : List (List (Nat × V)) := (os.zip es).map fun p => wt p.1 p.2
def wsH (es : List Eff) : List (List (Nat × E)) := es.map (·.ws)
theorem Chn.len {i os ds tm H es tm' H'} (h : Chn Tb tyK Co ops bz i os ds tm H es tm' H') : es.length = os.length ∧ os.length ≤ ds.length := by
  induction h with
  | nil => simp
  | cons _ _ _ ih => simp; omega
theorem Chn.end {i os ds tm H es tm' H'} (h : Chn Tb tyK Co ops bz i os ds tm H es tm' H') (S : Nat → Bool) (hS : ∀ m, i ≤ m → m < i + os.length → S m = true) : tm' = app tm (wts os es) S i ∧ H' = app H (wsH es) S i := by
  induction h with
  | nil => exact ⟨rfl, rfl⟩
  | cons _ _ _ ih =>
    rename_i i o os rd wr ds tm H t e es tm' H' _ _ _
    obtain ⟨h1, h2⟩ := ih fun m h3 h4 => hS m (by omega) (by simp; omega)
    have h3 := hS i (Nat.le_refl _) (by simp)
    simp only [wts, wsH, List.zip_cons_cons, List.map_cons, app, h3, cond_true]
    exact ⟨h1, h2⟩
theorem Chn.at {i os ds tm H es tm' H'} (h : Chn Tb tyK Co ops bz i os ds tm H es tm' H') : ∀ (j : Nat) (o : Oper) (d : List Nat × List Nat) (e : Eff), os[j]? = some o → ds[j]? = some d → es[j]? = some e →
    ∃ t, gopK Tb tyK Co ops o (oaOf bz (i + j)) (keepT (o.looksAt ops) 0 (app tm (wts os es) (fun m => decide (m < i + j)) i)) (mask (app H (wsH es) (fun m => decide (m < i + j)) i) d.1 0) (fun t e => some (t, e)) = some (t, e) ∧ within e.ws d.2 = true := by
  induction h with
  | nil => intro j o d e ho; simp at ho
  | cons h1 h2 h3 ih =>
    rename_i i o os rd wr ds tm H t e es tm' H'
    intro j o' d' e' ho hd he
    cases j with
    | zero =>
      simp at ho hd he
      subst ho; subst hd; subst he
      rw [app_false _ tm _ i (fun m hm => by simp; omega), app_false _ H _ i (fun m hm => by simp; omega)]
      exact ⟨t, h1, h2⟩
    | succ j =>
      obtain ⟨t', h4, h5⟩ := ih j o' d' e' (by simpa using ho) (by simpa using hd) (by simpa using he)
      refine ⟨t', ?_, h5⟩
      have e1 : decide (i < i + (j + 1)) = true := by simp
      have e2 : (fun m => decide (m < i + 1 + j)) = fun m => decide (m < i + (j + 1)) := by funext m; rw [show i + 1 + j = i + (j + 1) by omega]
      rw [e2, show i + 1 + j = i + (j + 1) by omega] at h4
      simp only [wts, wsH, List.zip_cons_cons, List.map_cons, app, e1, cond_true] at h4 ⊢
      exact h4
/-! ### Who waits for whom -/
theorem ancs_pre : ∀ (os : List Oper) (acc : List (List Nat)), ∃ l, ancs os acc = acc ++ l ∧ l.length = os.length
  | [], acc => ⟨[], by simp [ancs], rfl⟩
  | o :: os, acc => by
    obtain ⟨l, h1, h2⟩ := ancs_pre os (acc ++ [o.after.toList.flatMap fun e => cond (Region.binds .any e) (e.on :: (acc.getD e.on [])) []])
    exact ⟨_ :: l, by simp only [ancs]; rw [h1, List.append_assoc]; rfl, by simp [h2]⟩
theorem ancs_at : ∀ (os : List Oper) (acc : List (List Nat)) (m : Nat) (o : Oper), os[m]? = some o → (∀ e ∈ o.after.toList, Region.binds .any e = true → e.on < acc.length + m) →
    (ancs os acc).getD (acc.length + m) [] = o.after.toList.flatMap fun e => cond (Region.binds .any e) (e.on :: ((ancs os acc).getD e.on [])) []
  | [], acc, m, o, h, _ => by simp at h
  | o' :: os, acc, 0, o, h, hb => by
    simp at h
    subst h
    simp only [ancs]
    obtain ⟨l, h1, h2⟩ := ancs_pre os (acc ++ [o'.after.toList.flatMap fun e => cond (Region.binds .any e) (e.on :: (acc.getD e.on [])) []])
    rw [h1]
    have e1 : ∀ (m : Nat), m < acc.length → (acc ++ [o'.after.toList.flatMap fun e => cond (Region.binds .any e) (e.on :: (acc.getD e.on [])) []] ++ l).getD m [] = acc.getD m [] := by
      intro m hm
      rw [List.getD_eq_getElem?_getD, List.getD_eq_getElem?_getD, List.append_assoc, List.getElem?_append_left hm]
    have e2 : (acc ++ [o'.after.toList.flatMap fun e => cond (Region.binds .any e) (e.on :: (acc.getD e.on [])) []] ++ l).getD (acc.length + 0) [] = o'.after.toList.flatMap fun e => cond (Region.binds .any e) (e.on :: (acc.getD e.on [])) [] := by
      rw [List.getD_eq_getElem?_getD, List.append_assoc, List.getElem?_append_right (by omega)]
      simp
    rw [e2]
    have : ∀ (es : List Edge), (∀ e ∈ es, Region.binds .any e = true → e.on < acc.length + 0) → (es.flatMap fun e => cond (Region.binds .any e) (e.on :: (acc.getD e.on [])) []) =
        es.flatMap fun e => cond (Region.binds .any e) (e.on :: ((acc ++ [o'.after.toList.flatMap fun e => cond (Region.binds .any e) (e.on :: (acc.getD e.on [])) []] ++ l).getD e.on [])) [] := by
      intro es
      induction es with
      | nil => intro _; rfl
      | cons e es ih =>
        intro h
        simp only [List.flatMap_cons]
        rw [ih fun e he => h e (by simp [he])]
        congr 1
        cases hbe : Region.binds .any e with
        | false => rfl
        | true =>
          simp only [cond_true]
          rw [e1 _ (by have := h e (by simp) hbe; omega)]
    exact this _ hb
  | o' :: os, acc, m + 1, o, h, hb => by
    simp only [ancs]
    have := ancs_at os (acc ++ [o'.after.toList.flatMap fun e => cond (Region.binds .any e) (e.on :: (acc.getD e.on [])) []]) m o (by simpa using h) (fun e he hbe => by have := hb e he hbe; simp; omega)
    rw [show (acc ++ [o'.after.toList.flatMap fun e => cond (Region.binds .any e) (e.on :: (acc.getD e.on [])) []]).length + m = acc.length + (m + 1) by simp; omega] at this
    exact this
/-- What is done already is closed under waiting. -/
def Closed (ops : Array Oper) (S : Nat → Bool) : Prop := ∀ j o, ops[j]? = some o → S j = true → ∀ e ∈ o.after.toList, Region.binds .any e = true → S e.on = true
theorem edgesBack_spec (h : edgesBack ops = true) {j : Nat} {o : Oper} (ho : ops[j]? = some o) {e : Edge} (he : e ∈ o.after.toList) (hb : Region.binds .any e = true) : e.on < j := by
  unfold edgesBack at h
  rw [List.all_eq_true] at h
  have hj : j < ops.size := (Array.getElem?_eq_some_iff.1 ho).1
  have := h j (List.mem_range.2 hj)
  rw [ho] at this
  simp only [List.all_eq_true] at this
  have := this e he
  simpa [hb] using this
theorem ancs_closed (hb : edgesBack ops = true) {S : Nat → Bool} (hS : Closed ops S) : ∀ (j : Nat) (o : Oper), ops[j]? = some o → (∀ e ∈ o.after.toList, Region.binds .any e = true → S e.on = true) → ∀ i ∈ (ancs ops.toList []).getD j [], S i = true := by
  intro j
  induction j using Nat.strongRecOn with
  | _ j ih =>
    intro o ho hr i hi
    have := ancs_at ops.toList [] j o (by rw [Array.getElem?_toList]; exact ho) (fun e he hbe => by simpa using edgesBack_spec hb ho he hbe)
    simp only [List.length_nil, Nat.zero_add] at this
    rw [this] at hi
    obtain ⟨e, he, hi⟩ := List.mem_flatMap.1 hi
    cases hbe : Region.binds .any e with
    | false => rw [hbe] at hi; cases hi
    | true =>
      rw [hbe] at hi
      simp only [cond_true] at hi
      rcases List.mem_cons.1 hi with rfl | hi
      · exact hr e he hbe
      · have hlt := edgesBack_spec hb ho he hbe
        have hj : j < ops.size := (Array.getElem?_eq_some_iff.1 ho).1
        have ho2 : ops[e.on]? = some (ops[e.on]'(by omega)) := Array.getElem?_eq_getElem (by omega)
        exact ih e.on hlt _ ho2 (hS e.on _ ho2 (hr e he hbe)) i hi
theorem disj_spec {a b : List Nat} (h : disj a b = true) {x : Nat} (ha : x ∈ a) : x ∉ b := by
  unfold disj at h
  rw [List.all_eq_true] at h
  have := h x ha
  simpa using this
theorem apartD_spec {ds : List (List Nat × List Nat)} (h : apartD ops ds = true) {i j : Nat} (hij : i < j) {x y : Oper} (hx : ops[i]? = some x) (hy : ops[j]? = some y) (hn : i ∉ (ancs ops.toList []).getD j []) :
    ∃ dx dy, ds[i]? = some dx ∧ ds[j]? = some dy ∧ x.apart ops y = true ∧ disj dx.2 dy.1 = true ∧ disj dx.2 dy.2 = true ∧ disj dy.2 dx.1 = true := by
  unfold apartD at h
  have hj : j < ops.size := (Array.getElem?_eq_some_iff.1 hy).1
  simp only [List.all_eq_true] at h
  have := h j (List.mem_range.2 hj) i (List.mem_range.2 (by omega))
  rw [if_pos (by simp only [Bool.and_eq_true, decide_eq_true_eq, Bool.not_eq_true', List.contains_eq_mem, decide_eq_false_iff_not]; exact ⟨hij, hn⟩)] at this
  rw [hx, hy] at this
  split at this
  · rename_i x' y' dx dy e1 e2 e3 e4
    injection e1 with e1
    injection e2 with e2
    subst e1
    subst e2
    simp only [Bool.and_eq_true] at this
    exact ⟨dx, dy, e3, e4, this.1.1.1, this.1.1.2, this.1.2, this.2⟩
  · cases this
end
end Go.Proofs.Ytoedeimpfbebpaa.VR
end
section
set_option linter.unusedVariables false
set_option linter.unusedSimpArgs false
set_option linter.unusedSectionVars false
namespace Go.Proofs.Ytoedeimpfbebpaa.VR
open Go
section
variable {P : Program} {Tb : TypeId → Option TI} {tyK : Kd → TypeId} {R : Re} {H : List E} {w : World} {a : Act} {o : Oper} {oa : OA} {tm : List V} {α : Type} {r : α} {Co : Orc}
theorem gop_mono {H' : List E} {ops : Array Oper} {k : List V → Eff → Option α} (hl : HLe H H') (h : gopK Tb tyK Co ops o oa tm H k = some r) : gopK Tb tyK Co ops o oa tm H' k = some r := by
  unfold gopK at h ⊢
  obtain ⟨hs, h⟩ := cond_none h
  rw [← hl.1, hs]
  simp only [cond_true]
  split at h
  · exact op_mono hl h
  · rename_i g want hg
    split at h
    · rcases asG_some h with ⟨b, hb, h⟩ | ⟨hb, h⟩
      rotate_left
      · simp only [hb, V.asG]
        exact h
      simp only [hb, V.asG]
      cases b with
      | true =>
        simp only [cond_true] at h ⊢
        cases want with
        | true => exact op_mono hl h
        | false => exact h
      | false =>
        simp only [cond_false] at h ⊢
        cases want with
        | true => exact h
        | false => exact op_mono hl h
    · cases h
theorem keepT_get (keep : List Nat) : ∀ (tm : List V) (n s : Nat), (keepT keep n tm)[s]? = (tm[s]?).map fun v => cond (keep.contains (n + s)) v .junk
  | [], n, s => by simp [keepT]
  | v :: tm, n, 0 => by simp [keepT]
  | v :: tm, n, s + 1 => by
    simp only [keepT, List.getElem?_cons_succ]
    rw [keepT_get keep tm, show n + 1 + s = n + (s + 1) by omega]
theorem VRs.keepT {us : List Value} (h : VRs R H w tm us) (keep : List Nat) : VRs R H w (keepT keep 0 tm) us := by
  have hl : ∀ (tm : List V) (n : Nat), (VR.keepT keep n tm).length = tm.length := by
    intro tm
    induction tm with
    | nil => intro n; rfl
    | cons v tm ih => intro n; simp [VR.keepT, ih]
  refine ⟨by rw [hl]; exact h.1, fun i v u hv hu => ?_⟩
  rw [keepT_get] at hv
  obtain ⟨x, hx, rfl⟩ := Option.map_eq_some_iff.1 hv
  cases keep.contains (0 + i) with
  | true => exact h.2 i x u hx hu
  | false => exact .junk _
theorem keepT_congr {keep : List Nat} {tm' : List V} (h : ∀ s ∈ keep, tm[s]? = tm'[s]?) (hl : tm.length = tm'.length) : keepT keep 0 tm = keepT keep 0 tm' := by
  apply List.ext_getElem?
  intro s
  rw [keepT_get, keepT_get]
  by_cases hs : s ∈ keep
  · rw [h s hs]
  · have : keep.contains (0 + s) = false := by simpa using hs
    rw [this]
    rcases Nat.lt_or_ge s tm.length with h1 | h1
    · rw [List.getElem?_eq_getElem h1, List.getElem?_eq_getElem (by omega : s < tm'.length)]; rfl
    · rw [List.getElem?_eq_none h1, List.getElem?_eq_none (by omega)]
theorem mask_get (rd : List Nat) : ∀ (H : List E) (n s : Nat), (mask H rd n)[s]? = (H[s]?).map fun v => cond (rd.contains (n + s)) v .dead
  | [], n, s => by simp [mask]
  | v :: H, n, 0 => by simp [mask]
  | v :: H, n, s + 1 => by
    simp only [mask, List.getElem?_cons_succ]
    rw [mask_get rd H, show n + 1 + s = n + (s + 1) by omega]
theorem mask_congr {rd : List Nat} {H' : List E} (h : ∀ s ∈ rd, H[s]? = H'[s]?) (hl : H.length = H'.length) : mask H rd 0 = mask H' rd 0 := by
  apply List.ext_getElem?
  intro s
  rw [mask_get, mask_get]
  by_cases hs : s ∈ rd
  · rw [h s hs]
  · have : rd.contains (0 + s) = false := by simpa using hs
    rw [this]
    rcases Nat.lt_or_ge s H.length with h1 | h1
    · rw [List.getElem?_eq_getElem h1, List.getElem?_eq_getElem (by omega : s < H'.length)]; rfl
    · rw [List.getElem?_eq_none h1, List.getElem?_eq_none (by omega)]
theorem gop_eff {ops : Array Oper} {e : Eff} {t : List V} (hT : TbOk P Tb tyK) (hC : CoOk P tyK Co) (hh : HR tyK R H w) (ht : VRs R H w tm a.tmps.toList)
    (h : gopK Tb tyK Co ops o oa tm H (fun t e => some (t, e)) = some (t, e)) : GOk P tyK ops o a w R H e := by
  obtain ⟨tm', e', he, _, hok⟩ := gop_sound hT hC hh ht h
  simp only [Option.some.injEq, Prod.mk.injEq] at he
  obtain ⟨rfl, rfl⟩ := he
  exact hok
theorem countP_lt {l : List Nat} {p p' : Nat → Bool} (h : ∀ x, p' x = true → p x = true) {i : Nat} (hi : i ∈ l) (h1 : p i = true) (h2 : p' i = false) : l.countP p' < l.countP p := by
  induction l with
  | nil => cases hi
  | cons x l ih =>
    rw [List.countP_cons, List.countP_cons]
    have hm : l.countP p' ≤ l.countP p := List.countP_mono_left fun x _ => h x
    rcases List.mem_cons.1 hi with rfl | hi
    · rw [h1, h2]; simp; omega
    · have := ih hi
      cases e : p' x with
      | true => rw [h x e]; simp; omega
      | false => cases p x <;> simp <;> omega
variable {R0 : Re} {w0 : World} {lv : List V} {us : List Value}
theorem within_spec {ws : List (Nat × E)} {wr : List Nat} (h : within ws wr = true) {s : Nat} (hs : hits ws s) : s ∈ wr := by
  obtain ⟨p, hp, rfl⟩ := hs
  unfold within at h
  rw [List.all_eq_true] at h
  simpa using h p hp
theorem any_sound {ops : Array Oper} {bz : List (Nat × OA)} {ds : List (List Nat × List Nat)} {k : St → Option α} {Q : Exit → Act → World → Prop} (hT : TbOk P Tb tyK) (hC : CoOk P tyK Co)
    (hQ : ∀ st a w, k st = some r → J tyK R0 w0 lv us st a w → Q .normal a w) (hb : edgesBack ops = true) (ha : apartD ops ds = true) {es : List Eff} {tm' : List V} {H' : List E}
    (hc : Chn Tb tyK Co ops bz 0 ops.toList ds tm H es tm' H') (hk : k ⟨tm', H'⟩ = some r) :
    ∀ (fuel : Nat) (listed : Array Bool) (a : Act) (w : World), listed.size = ops.size → (List.range ops.size).countP (fun i => !listed.getD i true) ≤ fuel → Closed ops (fun m => listed.getD m false) →
      J tyK R0 w0 lv us ⟨app tm (wts ops.toList es) (fun m => listed.getD m false) 0, app H (wsH es) (fun m => listed.getD m false) 0⟩ a w → wpAny P .any ops Q fuel listed a w := by
  obtain ⟨hlen1, hlen2⟩ := hc.len
  have hlen1 : es.length = ops.size := by simpa using hlen1
  have hlen2 : ops.size ≤ ds.length := by simpa using hlen2
  have hin : ∀ {listed : Array Bool} {i : Nat}, listed.size = ops.size → i < ops.size → listed.getD i true = listed.getD i false := by
    intro listed i hl hi
    rw [Array.getD_eq_getD_getElem?, Array.getD_eq_getD_getElem?, Array.getElem?_eq_getElem (by omega)]
    rfl
  -- nothing is ready: all is done
  have hall : ∀ (listed : Array Bool), listed.size = ops.size → Region.ready .any ops listed = [] → ∀ j, j < ops.size → listed.getD j false = true := by
    intro listed hl hr j
    induction j using Nat.strongRecOn with
    | _ j ih =>
      intro hj
      cases hlj : listed.getD j false with
      | true => rfl
      | false =>
        exfalso
        have ho : ops[j]? = some ops[j] := Array.getElem?_eq_getElem hj
        have : j ∈ Region.ready .any ops listed := by
          unfold Region.ready
          rw [List.mem_filter]
          refine ⟨List.mem_range.2 hj, ?_⟩
          rw [hin hl hj, hlj, ho]
          simp only [Bool.not_false, Option.map_some, Option.getD_some, Bool.true_and, Array.all_eq_true_iff_forall_mem]
          intro e he
          cases hbe : Region.binds .any e with
          | false => rfl
          | true =>
            have hlt := edgesBack_spec hb ho (Array.mem_toList_iff.2 he) hbe
            simp [ih e.on hlt (by omega)]
        rw [hr] at this
        cases this
  have hdone : ∀ (listed : Array Bool) (a : Act) (w : World), listed.size = ops.size → Region.ready .any ops listed = [] →
      J tyK R0 w0 lv us ⟨app tm (wts ops.toList es) (fun m => listed.getD m false) 0, app H (wsH es) (fun m => listed.getD m false) 0⟩ a w → Q .normal a w := by
    intro listed a w hl hr hj
    obtain ⟨e1, e2⟩ := hc.end (fun m => listed.getD m false) fun m _ hm => hall listed hl hr m (by simpa using hm)
    rw [← e1, ← e2] at hj
    exact hQ _ a w hk hj
  intro fuel
  induction fuel with
  | zero =>
    intro listed a w hl hcnt hcl hj
    have hr : Region.ready .any ops listed = [] := by
      unfold Region.ready
      rw [List.filter_eq_nil_iff]
      intro i hi hcond
      have h0 : (List.range ops.size).countP (fun i => !listed.getD i true) = 0 := by omega
      rw [List.countP_eq_zero] at h0
      rw [Bool.and_eq_true] at hcond
      exact h0 i hi hcond.1
    exact ⟨hr, hdone listed a w hl hr hj⟩
  | succ fuel ih =>
    intro listed a w hl hcnt hcl hj
    refine ⟨fun hr => hdone listed a w hl hr hj, fun j hj' => ?_⟩
    unfold Region.ready at hj'
    rw [List.mem_filter, Bool.and_eq_true] at hj'
    obtain ⟨hjn, hnl, hrd⟩ := hj'
    have hjn := List.mem_range.1 hjn
    have ho : ops[j]? = some ops[j] := Array.getElem?_eq_getElem hjn
    generalize ops[j] = o at ho
    rw [ho] at hrd
    simp only [Option.map_some, Option.getD_some, Array.all_eq_true_iff_forall_mem] at hrd
    rw [hin hl hjn] at hnl
    have hnl : listed.getD j false = false := by simpa using hnl
    have hready : ∀ e ∈ o.after.toList, Region.binds .any e = true → listed.getD e.on false = true := by
      intro e he hbe
      have := hrd e (Array.mem_toList_iff.1 he)
      simpa [hbe] using this
    have hanc := ancs_closed hb hcl j o ho hready
    -- its effect
    have hd0 : ds[j]? = some (ds[j]'(by omega)) := List.getElem?_eq_getElem (by omega)
    generalize ds[j]'(by omega) = d at hd0
    have he0 : es[j]? = some (es[j]'(by omega)) := List.getElem?_eq_getElem (by omega)
    generalize es[j]'(by omega) = e at he0
    obtain ⟨t, hg, hw⟩ := hc.at j o d e (by rw [Array.getElem?_toList]; exact ho) hd0 he0
    simp only [Nat.zero_add] at hg
    -- the pairs
    have hpair : ∀ (m : Nat) (om : Oper) (em : Eff), ops[m]? = some om → es[m]? = some em → (listed.getD m false ≠ decide (m < j)) → m ≠ j → 
        (∀ s, hits (wt om em) s → s ∉ o.looksAt ops ∧ o.dst ≠ some s) ∧ (∀ s, hits em.ws s → s ∉ d.1 ∧ s ∉ d.2) := by
      intro m om em hom hem hne hmj
      have hmn : m < ops.size := (Array.getElem?_eq_some_iff.1 hom).1
      have hdm : ds[m]? = some (ds[m]'(by omega)) := List.getElem?_eq_getElem (by omega)
      obtain ⟨_, _, hwm⟩ := hc.at m om _ em (by rw [Array.getElem?_toList]; exact hom) hdm hem
      by_cases hlt : m < j
      · have hSm : listed.getD m false = false := by
          cases h : listed.getD m false with
          | false => rfl
          | true => rw [h] at hne; simp [hlt] at hne
        have hna : m ∉ (ancs ops.toList []).getD j [] := fun hmem => by
          have := hanc m hmem
          rw [hSm] at this; cases this
        obtain ⟨dx, dy, e1, e2, hap, h1, h2, h3⟩ := apartD_spec ha hlt hom ho hna
        rw [hd0] at e2
        injection e2 with e2
        subst e2
        rw [hdm] at e1
        injection e1 with e1
        rw [e1] at hwm
        obtain ⟨p1, p2, p3⟩ := Oper.apart_spec hap
        exact ⟨fun s hs => ⟨p1 s (hits_wt hs), fun h => p2 s (hits_wt hs) h⟩, fun s hs => ⟨disj_spec h1 (within_spec hwm hs), disj_spec h2 (within_spec hwm hs)⟩⟩
      · have hSm : listed.getD m false = true := by
          cases h : listed.getD m false with
          | true => rfl
          | false => rw [h] at hne; simp [hlt] at hne
        have hna : j ∉ (ancs ops.toList []).getD m [] := fun hmem => by
          have := ancs_closed hb hcl m om hom (hcl m om hom hSm) j hmem
          rw [hnl] at this; cases this
        obtain ⟨dx, dy, e1, e2, hap, h1, h2, h3⟩ := apartD_spec ha (show j < m by omega) ho hom hna
        rw [hd0] at e1
        injection e1 with e1
        subst e1
        rw [hdm] at e2
        injection e2 with e2
        rw [e2] at hwm
        obtain ⟨p1, p2, p3⟩ := Oper.apart_spec hap
        refine ⟨fun s hs => ⟨p3 s (hits_wt hs), fun h => p2 s h (hits_wt hs)⟩, fun s hs => ⟨fun h => disj_spec h3 (within_spec hwm hs) h, fun h => disj_spec h2 h (within_spec hwm hs)⟩⟩
    have hwts : ∀ (m : Nat) (v : List (Nat × V)), (wts ops.toList es)[m]? = some v → ∃ (om : Oper) (em : Eff), ops[m]? = some om ∧ es[m]? = some em ∧ v = wt om em := by
      intro m v hv
      unfold wts at hv
      rw [List.getElem?_map] at hv
      obtain ⟨p, hp, rfl⟩ := Option.map_eq_some_iff.1 hv
      rw [List.getElem?_zip_eq_some] at hp
      exact ⟨p.1, p.2, by rw [← Array.getElem?_toList]; exact hp.1, hp.2, rfl⟩
    have hwsH : ∀ (m : Nat) (v : List (Nat × E)), (wsH es)[m]? = some v → ∃ (om : Oper) (em : Eff), ops[m]? = some om ∧ es[m]? = some em ∧ v = em.ws := by
      intro m v hv
      unfold wsH at hv
      rw [List.getElem?_map] at hv
      obtain ⟨em, hp, rfl⟩ := Option.map_eq_some_iff.1 hv
      have hm : m < ops.size := by have := (List.getElem?_eq_some_iff.1 hp).1; omega
      exact ⟨_, em, Array.getElem?_eq_getElem hm, hp, rfl⟩
    have hagree : ∀ m, listed.getD m false ≠ decide (m < j) → m ≠ j := by
      rintro m h rfl
      rw [hnl] at h
      simp at h
    have ekeep : keepT (o.looksAt ops) 0 (app tm (wts ops.toList es) (fun m => listed.getD m false) 0) = keepT (o.looksAt ops) 0 (app tm (wts ops.toList es) (fun m => decide (m < j)) 0) := by
      refine keepT_congr (fun s hs => app_at _ _ _ _ _ 0 s rfl rfl fun m v hv hh => ?_) (by rw [app_length, app_length])
      rw [Nat.zero_add]
      obtain ⟨om, em, h1, h2, rfl⟩ := hwts m v hv
      by_cases hne : listed.getD m false = decide (m < j)
      · exact hne
      · exact absurd hs (((hpair m om em h1 h2 hne (hagree m hne)).1 s hh).1)
    have emask : mask (app H (wsH es) (fun m => listed.getD m false) 0) d.1 0 = mask (app H (wsH es) (fun m => decide (m < j)) 0) d.1 0 := by
      refine mask_congr (fun s hs => app_at _ _ _ _ _ 0 s rfl rfl fun m v hv hh => ?_) (by rw [app_length, app_length])
      rw [Nat.zero_add]
      obtain ⟨om, em, h1, h2, rfl⟩ := hwsH m v hv
      by_cases hne : listed.getD m false = decide (m < j)
      · exact hne
      · exact absurd hs (((hpair m om em h1 h2 hne (hagree m hne)).2 s hh).1)
    rw [← ekeep, ← emask] at hg
    have hg2 := gop_mono (HLe.mask _ _) hg
    obtain ⟨R, hat⟩ := hj
    have hok := gop_eff hT hC hat.hr (hat.tm.keepT (o.looksAt ops)) hg2
    -- the state behind it
    have hS' : ∀ m, m ≠ j → (listed.setIfInBounds j true).getD m false = listed.getD m false := by
      intro m hm
      rw [Array.getD_eq_getD_getElem?, Array.getD_eq_getD_getElem?, Array.getElem?_setIfInBounds, if_neg (fun h => hm h.symm)]
    have hSj : (listed.setIfInBounds j true).getD j false = true := by
      rw [Array.getD_eq_getD_getElem?, Array.getElem?_setIfInBounds, if_pos rfl, if_pos (by omega)]
      rfl
    have insT : app tm (wts ops.toList es) (fun m => (listed.setIfInBounds j true).getD m false) 0 = sets (app tm (wts ops.toList es) (fun m => listed.getD m false) 0) (wt o e) := by
      refine app_insert _ _ _ _ 0 j (wt o e) ?_ (by rw [Nat.zero_add]; exact hnl) (by rw [Nat.zero_add]; exact hSj) (fun m hm => hS' m (by omega)) fun m v hm hv hs s h1 h2 => ?_
      · unfold wts
        rw [List.getElem?_map, show (ops.toList.zip es)[j]? = some (o, e) by rw [List.getElem?_zip_eq_some]; exact ⟨by rw [Array.getElem?_toList]; exact ho, he0⟩]
        rfl
      · obtain ⟨om, em, h3, h4, rfl⟩ := hwts m v hv
        rw [Nat.zero_add] at hs
        exact ((hpair m om em h3 h4 (by rw [hs]; simp; omega) (by omega)).1 s h2).2 (hits_wt h1)
    have insH : app H (wsH es) (fun m => (listed.setIfInBounds j true).getD m false) 0 = sets (app H (wsH es) (fun m => listed.getD m false) 0) e.ws := by
      refine app_insert _ _ _ _ 0 j e.ws ?_ (by rw [Nat.zero_add]; exact hnl) (by rw [Nat.zero_add]; exact hSj) (fun m hm => hS' m (by omega)) fun m v hm hv hs s h1 h2 => ?_
      · unfold wsH
        rw [List.getElem?_map, he0]
        rfl
      · obtain ⟨om, em, h3, h4, rfl⟩ := hwsH m v hv
        rw [Nat.zero_add] at hs
        exact ((hpair m om em h3 h4 (by rw [hs]; simp; omega) (by omega)).2 s h2).2 (within_spec hw h1)
    have hnext : ∀ R' v w', Pres R (app H (wsH es) (fun m => listed.getD m false) 0) w R' (puts (app H (wsH es) (fun m => listed.getD m false) 0) e.ws) w' → HR tyK R' (puts (app H (wsH es) (fun m => listed.getD m false) 0) e.ws) w' →
        VR R' (puts (app H (wsH es) (fun m => listed.getD m false) 0) e.ws) w' e.v v → wpAny P .any ops Q fuel (listed.setIfInBounds j true) (a.put o.dst v) w' := by
      intro R' v w' hp hr hv
      refine ih _ _ _ (by simp [hl]) ?_ ?_ ?_
      · have : (List.range ops.size).countP (fun i => !(listed.setIfInBounds j true).getD i true) < (List.range ops.size).countP (fun i => !listed.getD i true) := by
          refine countP_lt (i := j) (fun x hx => ?_) (List.mem_range.2 hjn) (by rw [hin hl hjn, hnl]; rfl) (by rw [hin (by simp [hl]) hjn, hSj]; rfl)
          by_cases hxj : x = j
          · subst hxj
            rw [hin (by simp [hl]) hjn, hSj] at hx
            cases hx
          · have e : (listed.setIfInBounds j true).getD x true = listed.getD x true := by
              rw [Array.getD_eq_getD_getElem?, Array.getD_eq_getD_getElem?, Array.getElem?_setIfInBounds, if_neg (fun h => hxj h.symm)]
            have hx : (!(listed.setIfInBounds j true).getD x true) = true := hx
            rw [e] at hx
            exact hx
        omega
      · intro m om hom hm e' he' hbe
        have hmono : ∀ x, listed.getD x false = true → (listed.setIfInBounds j true).getD x false = true := by
          intro x hx
          by_cases hxj : x = j
          · subst hxj; exact hSj
          · rw [hS' x hxj]; exact hx
        by_cases hmj : m = j
        · subst hmj
          rw [ho] at hom
          injection hom with hom
          subst hom
          exact hmono _ (hready e' he' hbe)
        · have hm : (listed.setIfInBounds j true).getD m false = true := hm
          rw [hS' m hmj] at hm
          exact hmono _ (hcl m om hom hm e' he' hbe)
      · rw [insT, insH, ← putd_sets, ← puts_sets]
        exact ⟨R', hat.next hat.tm hp hr hv⟩
    unfold wpOp
    rw [ho]
    simp only
    have := hok _ Q hnext
    split
    · rename_i hwt
      rw [if_pos hwt] at this
      exact .inl this
    · rename_i hwt
      rw [if_neg hwt] at this
      exact this
theorem At.draw (h : At tyK R0 w0 lv us R tm H a w) (n : Nat) : At tyK R0 w0 lv us R tm H a { w with drawn := n } := by
  have hp : Pres R H w R H { w with drawn := n } := Pres.same rfl rfl rfl rfl
  exact ⟨h.step.trans hp.step, h.hr.same rfl rfl rfl rfl, h.tm.pres hp, h.lv.pres hp, h.defers⟩
/-- A region whose order is drawn. -/
theorem dreg_sound {id : Nat} {ops : Array Oper} {bz : List (Nat × OA)} {ds : List (List Nat × List Nat)} {k : St → Option α} {Q : Exit → Act → World → Prop} (hm : P.follows .mixedOrders = true) (hT : TbOk P Tb tyK) (hC : CoOk P tyK Co)
    (hQ : ∀ st a w, k st = some r → J tyK R0 w0 lv us st a w → Q .normal a w) (hb : edgesBack ops = true) (ha : apartD ops ds = true) (h : dregK Tb tyK Co ops bz 0 ops.toList ds tm H k = some r)
    (hj : J tyK R0 w0 lv us ⟨tm, H⟩ a w) : (Code.region id ops true).wp P Q a w := by
  obtain ⟨es, tm', H', hc, hk⟩ := chn_of ops.toList 0 ds tm H h
  refine wp_region_any hm (any_sound hT hC hQ hb ha hc hk ops.size _ _ _ (by simp) ?_ ?_ ?_)
  · exact Nat.le_trans (List.countP_le_length) (by simp)
  · intro m o ho hm
    exfalso
    simp only [Array.getD_eq_getD_getElem?, Array.getElem?_replicate] at hm
    split at hm <;> cases hm
  · have e : ∀ m, (Array.replicate ops.size false).getD m false = false := by
      intro m
      rw [Array.getD_eq_getD_getElem?]
      simp only [Array.getElem?_replicate]
      split <;> rfl
    rw [app_false _ tm _ 0 (fun m _ => e m), app_false _ H _ 0 (fun m _ => e m)]
    obtain ⟨R, hat⟩ := hj
    exact ⟨R, hat.draw _⟩
end
end Go.Proofs.Ytoedeimpfbebpaa.VR
end
section
set_option linter.unusedVariables false
set_option linter.unusedSimpArgs false
set_option linter.unusedSectionVars false
namespace Go.Proofs.Ytoedeimpfbebpaa.VR
open Go
section
variable {P : Program} {Tb : TypeId → Option TI} {tyK : Kd → TypeId} {R : Re} {H : List E} {w : World} {a : Act} {tm : List V}
theorem resetH_length (bad : List Nat) : ∀ (H : List E) (n : Nat), (resetH bad n H).length = H.length
  | [], n => rfl
  | e :: H, n => by simp [resetH, resetH_length bad H]
theorem geti_reset (bad : List Nat) : ∀ (H : List E) (n s : Nat), geti (resetH bad n H) s = if (n + s) ∈ bad then .fresh else geti H s
  | [], n, s => by simp only [resetH, geti, List.getD_nil]; split <;> rfl
  | e :: H, n, 0 => by
    simp only [resetH, geti, List.getD_cons_zero, Nat.add_zero]
    by_cases h : n ∈ bad
    · have : bad.contains n = true := by simpa using h
      rw [this, if_pos h]; rfl
    · have : bad.contains n = false := by simpa using h
      rw [this, if_neg h]; rfl
  | e :: H, n, s + 1 => by
    have := geti_reset bad H (n + 1) s
    simp only [resetH, geti, List.getD_cons_succ] at this ⊢
    rw [this, show n + 1 + s = n + (s + 1) by omega]
theorem free_go (bad : List Nat) : ∀ (n : Nat) (vs : List V), V.free.go bad n vs = true → ∀ (i : Nat) (v : V), vs[i]? = some v → ∃ m, V.free bad m v = true
  | 0, vs, h, i, v, hv => by simp [V.free.go] at h
  | n + 1, [], h, i, v, hv => by simp at hv
  | n + 1, x :: xs, h, i, v, hv => by
    simp only [V.free.go, Bool.and_eq_true] at h
    cases i with
    | zero => simp at hv; subst hv; exact ⟨n, h.1⟩
    | succ i => exact free_go bad n xs h.2 i v (by simpa using hv)
theorem freeH_spec (bad : List Nat) : ∀ (H : List E) (n : Nat), freeH bad n H = true → ∀ (s : Nat) (cs : List V), geti H s = .box cs → (n + s) ∈ bad ∨ V.free.go bad 60 cs = true
  | [], n, h, s, cs, e => by simp [geti] at e
  | e' :: H, n, h, 0, cs, e => by
    simp only [freeH, Bool.and_eq_true] at h
    simp [geti] at e
    subst e
    by_cases hb : n ∈ bad
    · exact .inl hb
    · right
      have : bad.contains n = false := by simpa using hb
      have h1 := h.1
      rw [this] at h1
      exact h1
  | e' :: H, n, h, s + 1, cs, e => by
    simp only [freeH, Bool.and_eq_true] at h
    rw [show n + (s + 1) = n + 1 + s by omega]
    exact freeH_spec bad H (n + 1) h.2 s cs (by simpa [geti] using e)
theorem VR.reset {bad : List Nat} {v : V} {u : Value} (h : VR R H w v u) : ∀ n, V.free bad n v = true → VR R (resetH bad 0 H) w v u := by
  have gs : ∀ s, s ∉ bad → geti (resetH bad 0 H) s = geti H s := fun s hs => by rw [geti_reset, Nat.zero_add, if_neg hs]
  induction h with
  | int n => exact fun _ _ => .int n
  | u8 n => exact fun _ _ => .u8 n
  | bool b => exact fun _ _ => .bool b
  | str s => exact fun _ _ => .str s
  | nil => exact fun _ _ => .nil
  | emp A => exact fun _ _ => .emp A
  | ro p k xs v hr => exact fun _ _ => .ro p k xs v hr
  | rp cs j b o u hT hc hv ih =>
    intro n hn
    cases n with
    | zero => cases hn
    | succ n =>
      simp only [V.free] at hn
      exact .rp cs j b o u hT hc fun i c hi => by obtain ⟨m, hm⟩ := free_go bad n cs hn i c hi; exact ih i c hi m hm
  | bor r v h1 h0 hv =>
    intro n hn
    cases n with
    | zero => cases hn
    | succ n =>
      have hr : r ∉ bad := by simpa [V.free] using hn
      exact .bor r v h1 (by rw [gs r hr]; exact h0) (by rw [gs r hr]; exact hv)
  | borN r i j v h1 h0 hv =>
    intro n hn
    cases n with
    | zero => cases hn
    | succ n =>
      have hr : r ∉ bad := by simpa [V.free] using hn
      exact .borN r i j v h1 (by rw [gs r hr]; exact h0) (by rw [gs r hr]; exact hv)
  | ptr b j h0 =>
    intro n hn
    cases n with
    | zero => cases hn
    | succ n =>
      have hr : b ∉ bad := by simpa [V.free] using hn
      exact .ptr b j (by rw [gs b hr]; exact h0)
  | ep r i j v h1 h0 hv =>
    intro n hn
    cases n with
    | zero => cases hn
    | succ n =>
      have hr : r ∉ bad := by simpa [V.free] using hn
      exact .ep r i j v h1 (by rw [gs r hr]; exact h0) (by rw [gs r hr]; exact hv)
  | agg vs us hl _ ih =>
    intro n hn
    cases n with
    | zero => cases hn
    | succ n =>
      simp only [V.free] at hn
      exact .agg vs us hl fun i v u hv hu => by obtain ⟨m, hm⟩ := free_go bad n vs hn i v hv; exact ih i v u hv hu m hm
  | tup vs us hl _ ih =>
    intro n hn
    cases n with
    | zero => cases hn
    | succ n =>
      simp only [V.free] at hn
      exact .tup vs us hl fun i v u hv hu => by obtain ⟨m, hm⟩ := free_go bad n vs hn i v hv; exact ih i v u hv hu m hm
  | clo f vs us hl _ ih =>
    intro n hn
    cases n with
    | zero => cases hn
    | succ n =>
      simp only [V.free] at hn
      exact .clo f vs us hl fun i v u hv hu => by obtain ⟨m, hm⟩ := free_go bad n vs hn i v hv; exact ih i v u hv hu m hm
  | junk v => exact fun _ _ => .junk v
  | und => exact fun _ _ => .und
  | em b A cap h => exact fun _ _ => .em b A cap h
theorem VRs.reset {bad : List Nat} {vs : List V} {us : List Value} (h : VRs R H w vs us) {n : Nat} (hf : V.free.go bad n vs = true) : VRs R (resetH bad 0 H) w vs us :=
  ⟨h.1, fun i v u hv hu => by obtain ⟨m, hm⟩ := free_go bad n vs hf i v hv; exact (h.2 i v u hv hu).reset m hm⟩
theorem HR.reset (hh : HR tyK R H w) {bad : List Nat} (hf : freeH bad 0 H = true) : HR tyK R (resetH bad 0 H) w := by
  refine ⟨fun s hs => ?_, hh.none_⟩
  rw [resetH_length] at hs
  rw [geti_reset, Nat.zero_add]
  split
  · trivial
  · rename_i hb
    have := hh.at_ s hs
    cases e : geti H s with
    | fresh => trivial
    | dead => trivial
    | root k xs ho => rw [e] at this; exact this
    | box cs =>
      rw [e] at this
      obtain ⟨e', us, h1, h2, h3, h4⟩ := this
      rcases freeH_spec bad H 0 hf s cs e with h5 | h5
      · rw [Nat.zero_add] at h5; exact absurd h5 hb
      · exact ⟨e', us, h1, h2, h3, fun i c u hc hu => ⟨by obtain ⟨m, hm⟩ := free_go bad 60 cs h5 i c hc; exact (h4 i c u hc hu).1.reset m hm, (h4 i c u hc hu).2⟩⟩
variable {R0 : Re} {w0 : World} {lv : List V} {us : List Value}
theorem At.reset (h : At tyK R0 w0 lv us R tm H a w) {bad : List Nat} {n m : Nat} (h1 : V.free.go bad n tm = true) (h2 : freeH bad 0 H = true) (h3 : V.free.go bad m lv = true) : At tyK R0 w0 lv us R tm (resetH bad 0 H) a w :=
  ⟨h.step, h.hr.reset h2, h.tm.reset h1, h.lv.reset h3, h.defers⟩
/-- A cell of a box is seen in another way. -/
theorem box_view (hh : HR tyK R H w) {b : Nat} {cs : List V} (e : geti H b = .box cs) (j : Nat) {v : V} (hv : ∀ (e : TypeId) (us : Array Value) (u : Value), w.heap[R.β b]? = some (.cells us e (0, 0)) → us[j]? = some u → VR R H w v u) :
    Pres R H w R (H.set b (.box (cs.set j v))) w ∧ HR tyK R (H.set b (.box (cs.set j v))) w := by
  have h0 : geti H b ≠ .fresh := by rw [e]; exact fun h => by cases h
  have hlt := geti_lt h0
  have hp : Pres R H w R (H.set b (.box (cs.set j v))) w := by
    refine ⟨Step.refl R w, fun s hs => ?_, fun _ _ => rfl, fun s k xs' ho' hs e2 => ?_⟩
    · rw [geti_set]; split
      · exact fun h => by cases h
      · exact hs
    · rw [geti_set] at e2
      split at e2
      · cases e2
      · exact ⟨xs', ho', e2, rfl, rfl, fun h => ⟨h, fun _ _ _ _ _ _ _ _ => rfl⟩⟩
  refine ⟨hp, hh.next hp (by simp) (fun s hs => ?_) hh.none_⟩
  by_cases hbs : b = s
  · subst hbs
    refine .inr ?_
    rw [geti_set_same hlt]
    have := hh.at_ b hlt
    rw [e] at this
    obtain ⟨e', us, h1, h2, h3, h4⟩ := this
    refine ⟨e', us, h1, h2, by simpa using h3, fun i c u hc hu => ?_⟩
    rw [List.getElem?_set] at hc
    split at hc
    · rename_i hij
      subst hij
      split at hc
      · rename_i hj
        injection hc with hc
        subst hc
        have h5 := h4 j cs[j] u (List.getElem?_eq_getElem hj) hu
        exact ⟨(hv e' us u h1 hu).pres hp, h5.2⟩
      · cases hc
    · exact ⟨(h4 i c u hc hu).1.pres hp, (h4 i c u hc hu).2⟩
  · exact .inl ⟨geti_set_ne hbs, fun g t ht _ => ⟨ht, rfl⟩⟩
theorem At.pres (h : At tyK R0 w0 lv us R tm H a w) {R' : Re} {H' : List E} (hp : Pres R H w R' H' w) (hr : HR tyK R' H' w) : At tyK R0 w0 lv us R' tm H' a w :=
  ⟨h.step.trans hp.step, hr, h.tm.pres hp, h.lv.pres hp, h.defers⟩
/-- One slot's slice goes over into another, empty one. -/
theorem rest_root (hh : HR tyK R H w) {r s : Nat} {q : Kd} {xs : List q.T} {ho : Ho} (er : geti H r = .root q xs ho) (hw : ho.whole = true) (es : geti H s = .fresh) (hs : s < H.length) :
    ∃ R', Pres R H w R' ((H.set r .dead).set s (.root q xs .ok)) w ∧ HR tyK R' ((H.set r .dead).set s (.root q xs .ok)) w ∧ R'.ρ s = R.ρ r := by
  have hal : geti H r ≠ .fresh := by rw [er]; exact fun h => by cases h
  have hws : ∀ p ∈ [(r, E.dead)], p.2 = .dead ∧ geti H p.1 ≠ .fresh := fun p hp => by simp at hp; subst hp; exact ⟨rfl, hal⟩
  have hg : Grew R w w (fun s' => ∃ p ∈ [(r, E.dead)], p.1 = s') := Grew.refl _ _ _
  have htag : ∀ g t, R.T g = some t → (R.turn w w (mvAll r s) s (R.ρ r)).T g = some (mvAll r s t) := by
    intro g t ht
    show (if g < w.heap.size then (R.T g).map (mvAll r s) else _) = _
    rw [if_pos (tag_lt hh ht), ht]
    rfl
  have hnew := newRoot (s := s) (k := q) (xs := xs) (ho := .ok) (v := R.ρ r) (H1 := puts H [(r, .dead)]) (f := mvAll r s) hh hs es hg rfl
    (fun s' t hc _ hof => mvAll_of hof (fun e => hc ⟨(r, .dead), by simp, e.symm⟩)) (puts_length _ H) (fun s' hc => geti_puts_notin fun p hp e => hc ⟨p, hp, e⟩)
    (dead_Ch hws)
    ((root_own hh er).retag hw (fun g hg => by rw [htag g _ hg]; simp [mvAll]) (fun g i j hg => by rw [htag g _ hg]; simp [mvAll]))
    (fun s' hc hp => by
      obtain ⟨p, hp', rfl⟩ := hc
      rw [geti_puts_dead (fun p hp => (hws p hp).1) ⟨p, hp', rfl⟩ (geti_lt (hws p hp').2)]
      trivial)
  exact ⟨_, hnew.1, hnew.2, upd_same _ _ _⟩
theorem rest_nil (hh : HR tyK R H w) {s : Nat} (q : Kd) (A : Option Addr) (es : geti H s = .fresh) (hs : s < H.length) :
    ∃ R', Pres R H w R' (H.set s (.root q [] .ok)) w ∧ HR tyK R' (H.set s (.root q [] .ok)) w ∧ R'.ρ s = .slice A 0 0 := by
  have hnew := newRoot (s := s) (k := q) (xs := []) (ho := .ok) (v := .slice A 0 0) (H1 := H) (f := id) (Ch := fun _ => False) hh hs es (Grew.refl _ _ _) rfl
    (fun _ _ _ _ _ => rfl) rfl (fun _ _ => rfl) (fun _ hc => hc.elim) (.inl ⟨A, rfl, rfl⟩) (fun _ hc _ => hc.elim)
  exact ⟨_, hnew.1, hnew.2, upd_same _ _ _⟩
end
end Go.Proofs.Ytoedeimpfbebpaa.VR
end
section
set_option linter.unusedVariables false
set_option linter.unusedSimpArgs false
set_option linter.unusedSectionVars false
namespace Go.Proofs.Ytoedeimpfbebpaa.VR
open Go
section
variable {tyK : Kd → TypeId} {R : Re} {H : List E} {w : World} {a : Act} {tm : List V} {R0 : Re} {w0 : World} {lv : List V} {us : List Value}
def Place.v (st : St) (p : Place) : V := match p with
    | .t i => st.tm.getD i .junk
    | .c b j => match geti st.H b with
      | .box cs => cs.getD j .junk
      | _ => .junk
def Place.back (st : St) (p : Place) (s : Nat) (H : List E) : Option St := match p with
    | .t i => some ⟨st.tm.set i (.bor s), H⟩
    | .c b j => match geti H b with
      | .box cs => some ⟨st.tm, H.set b (.box (cs.set j (.bor s)))⟩
      | _ => none
theorem norm1_eq (st : St) (p : Place) (s : Nat) (q : Kd) : norm1 st p s q = match p.v st with
  | .nil => match geti st.H s with
    | .fresh => p.back st s (st.H.set s (.root q [] .ok))
    | _ => none
  | .emp => match geti st.H s with
    | .fresh => p.back st s (st.H.set s (.root q [] .ok))
    | _ => none
  | .bor r => cond (r == s) (some st) (match geti st.H r with
    | .root q xs ho => cond ho.whole (match geti st.H s with
      | .fresh => p.back st s ((st.H.set r .dead).set s (.root q xs .ok))
      | .dead => cond (V.free.go [s] 200 st.tm && freeH [s] 0 st.H) (p.back st s (((resetH [s] 0 st.H).set r .dead).set s (.root q xs .ok))) none
      | _ => none) none
    | _ => none)
  | _ => none := rfl
/-- The value in a place. -/
def Place.at (R : Re) (a : Act) (w : World) (p : Place) (u : Value) : Prop := match p with
  | .t i => a.tmps.toList[i]? = some u
  | .c b j => ∃ e us, w.heap[R.β b]? = some (.cells us e (0, 0)) ∧ us[j]? = some u
theorem place_at (h : At tyK R0 w0 lv us R tm H a w) {p : Place} {v : V} (hv : p.v ⟨tm, H⟩ = v) (hj : v ≠ .junk) : ∃ u, p.at R a w u ∧ VR R H w v u := by
  cases p with
  | t t =>
    simp only [Place.v] at hv
    rw [List.getD_eq_getElem?_getD] at hv
    rcases Nat.lt_or_ge t tm.length with h1 | h1
    · rw [List.getElem?_eq_getElem h1] at hv
      simp at hv
      have h2 : t < a.tmps.toList.length := by rw [← h.tm.1]; exact h1
      refine ⟨a.tmps.toList[t], List.getElem?_eq_getElem h2, ?_⟩
      rw [← hv]
      exact h.tm.2 t _ _ (List.getElem?_eq_getElem h1) (List.getElem?_eq_getElem h2)
    · rw [List.getElem?_eq_none h1] at hv
      exact absurd hv.symm hj
  | c b j =>
    simp only [Place.v] at hv
    split at hv
    · rename_i cs e
      rw [List.getD_eq_getElem?_getD] at hv
      rcases Nat.lt_or_ge j cs.length with h1 | h1
      · rw [List.getElem?_eq_getElem h1] at hv
        simp at hv
        have h0 : geti H b ≠ .fresh := by rw [e]; exact fun h => by cases h
        have hER := h.hr.at_ b (geti_lt h0)
        rw [e] at hER
        obtain ⟨e', us', hg, hT, hl, hcv⟩ := hER
        have h2 : j < us'.size := by rw [hl]; exact h1
        refine ⟨us'[j], ⟨e', us', hg, Array.getElem?_eq_getElem h2⟩, ?_⟩
        rw [← hv]
        exact (hcv j _ _ (List.getElem?_eq_getElem h1) (Array.getElem?_eq_getElem h2)).1
      · rw [List.getElem?_eq_none h1] at hv
        exact absurd hv.symm hj
    · exact absurd hv.symm hj
theorem back_sound {st' : St} {H0 : List E} {p : Place} {u : Value} {s : Nat} {q : Kd} {xs : List q.T} {ho : Ho} (h : At tyK R0 w0 lv us R tm H a w) (hu : p.at R a w u) (h1 : u.oneCell' = true) (es : geti H s = .root q xs ho) (er : R.ρ s = u)
    (hb : p.back ⟨tm, H0⟩ s H = some st') : J tyK R0 w0 lv us st' a w := by
  have hv : VR R H w (.bor s) u := .bor s u h1 (by rw [es]; exact fun h => by cases h) fun _ _ _ _ => er.symm
  cases p with
  | t t =>
    simp only [Place.back] at hb
    injection hb with hb
    subst hb
    refine ⟨R, h.step, h.hr, ?_, h.lv, h.defers⟩
    have := h.tm.set t hv
    have e2 : a.tmps.toList.set t u = a.tmps.toList := by
      obtain ⟨hlt, e3⟩ := List.getElem?_eq_some_iff.1 hu
      rw [← e3]
      exact List.set_getElem_self hlt
    rwa [e2] at this
  | c b j =>
    simp only [Place.back] at hb
    split at hb
    · rename_i cs e
      injection hb with hb
      subst hb
      obtain ⟨e', us', hg, hj⟩ := hu
      obtain ⟨hp, hr⟩ := box_view h.hr e j (v := .bor s) fun e2 us2 u2 hg2 hj2 => by
        rw [hg] at hg2
        injection hg2 with hg2
        injection hg2 with hg2 _ _
        subst hg2
        rw [hj] at hj2
        injection hj2 with hj2
        subst hj2
        exact hv
      exact ⟨R, h.pres hp hr⟩
    · cases hb
theorem Place.at_beta {R R' : Re} {p : Place} {u : Value} (h : p.at R a w u) (hb : ∀ b j, p = .c b j → R'.β b = R.β b) : p.at R' a w u := by
  cases p with
  | t t => exact h
  | c b j => obtain ⟨e, us, h1, h2⟩ := h; exact ⟨e, us, by rw [hb b j rfl]; exact h1, h2⟩
theorem norm1_sound {st st' : St} {p : Place} {s : Nat} {q : Kd} (hs : s < st.H.length) {m : Nat} (hlv : V.free.go [s] m lv = true) (h : norm1 st p s q = some st') (hj : J tyK R0 w0 lv us st a w) : J tyK R0 w0 lv us st' a w := by
  obtain ⟨R, hat⟩ := hj
  obtain ⟨tm, H⟩ := st
  dsimp only at hat hs
  rw [norm1_eq] at h
  have hbox : ∀ {v : V}, p.v ⟨tm, H⟩ = v → v ≠ .junk → ∀ b j, p = .c b j → geti H b ≠ .fresh := by
    intro v hv hjk b j e
    subst e
    simp only [Place.v] at hv
    split at hv
    · rename_i e; rw [e]; exact fun h => by cases h
    · exact absurd hv.symm hjk
  have hnil : ∀ (A : Option Addr) (v : V), p.v ⟨tm, H⟩ = v → v ≠ .junk → (∀ u, VR R H w v u → ∃ A, u = .slice A 0 0) → geti H s = .fresh → p.back ⟨tm, H⟩ s (H.set s (.root q [] .ok)) = some st' → J tyK R0 w0 lv us st' a w := by
    intro _ v hv hjk hA es hb
    obtain ⟨u, hu, hvr⟩ := place_at hat hv hjk
    obtain ⟨A, rfl⟩ := hA u hvr
    obtain ⟨R', hp, hr, er⟩ := rest_nil hat.hr q A es hs
    exact back_sound (hat.pres hp hr) (Place.at_beta hu fun b j e => hp.beta b (hbox hv hjk b j e)) rfl (geti_set_same hs) er hb
  split at h
  · rename_i hv
    split at h
    · rename_i es
      exact hnil none .nil hv (fun h => by cases h) (fun u hu => by cases hu; exact ⟨_, rfl⟩) es h
    · cases h
  · rename_i hv
    split at h
    · rename_i es
      exact hnil none .emp hv (fun h => by cases h) (fun u hu => by cases hu; exact ⟨_, rfl⟩) es h
    · cases h
  · rename_i r hv
    cases hrs : (r == s) with
    | true => rw [hrs] at h; simp at h; subst h; exact ⟨R, hat⟩
    | false =>
      rw [hrs] at h
      simp only [cond_false] at h
      split at h
      · rename_i q' xs ho er
        obtain ⟨hw, h⟩ := cond_none h
        have hjk : V.bor r ≠ .junk := fun h => by cases h
        have fin : ∀ {H1 : List E} (hat1 : At tyK R0 w0 lv us R tm H1 a w), geti H1 r = .root q' xs ho → geti H1 s = .fresh → s < H1.length → (∀ b j, p = .c b j → geti H1 b ≠ .fresh) → p.v ⟨tm, H1⟩ = .bor r →
            p.back ⟨tm, H⟩ s ((H1.set r .dead).set s (.root q' xs .ok)) = some st' → J tyK R0 w0 lv us st' a w := by
          intro H1 hat1 er1 es1 hs1 hbx hv1 hb
          obtain ⟨u, hu, hvr⟩ := place_at hat1 hv1 hjk
          have eu := hvr.bor_inv er1
          obtain ⟨R', hp, hr, er'⟩ := rest_root hat1.hr er1 hw es1 hs1
          have h1 : u.oneCell' = true := by cases hvr; assumption
          exact back_sound (hat1.pres hp hr) (Place.at_beta hu fun b j e => hp.beta b (hbx b j e)) h1 (geti_set_same (by simpa using hs1)) (er'.trans eu.symm) hb
        split at h
        · rename_i es
          exact fin hat er es hs (hbox hv hjk) hv h
        · rename_i es
          obtain ⟨hf, h⟩ := cond_none h
          rw [Bool.and_eq_true] at hf
          have hat1 := hat.reset hf.1 hf.2 hlv
          have gs : ∀ s', s' ≠ s → geti (resetH [s] 0 H) s' = geti H s' := fun s' hs' => by rw [geti_reset, Nat.zero_add, if_neg (by simpa using hs')]
          have hrs' : r ≠ s := by simpa using hrs
          refine fin hat1 (by rw [gs r hrs']; exact er) (by rw [geti_reset, Nat.zero_add, if_pos (by simp)]) (by rw [resetH_length]; exact hs) (fun b j e => ?_) ?_ h
          · by_cases hbs : b = s
            · subst hbs
              exfalso
              subst e
              simp only [Place.v] at hv
              rw [es] at hv
              cases hv
            · rw [gs b hbs]; exact hbox hv hjk b j e
          · cases p with
            | t t => exact hv
            | c b j =>
              by_cases hbs : b = s
              · subst hbs
                simp only [Place.v] at hv
                rw [es] at hv
                cases hv
              · simp only [Place.v] at hv ⊢
                rw [gs b hbs]; exact hv
        · cases h
      · cases h
  · cases h
theorem norm1_len {st st' : St} {p : Place} {s : Nat} {q : Kd} (h : norm1 st p s q = some st') : st'.H.length = st.H.length := by
  have hb : ∀ {H : List E}, H.length = st.H.length → p.back st s H = some st' → st'.H.length = st.H.length := by
    intro H hl h
    cases p with
    | t t => simp only [Place.back] at h; injection h with h; subst h; exact hl
    | c b j =>
      simp only [Place.back] at h
      split at h
      · injection h with h; subst h; simpa using hl
      · cases h
  rw [norm1_eq] at h
  split at h
  · split at h
    · exact hb (by simp) h
    · cases h
  · split at h
    · exact hb (by simp) h
    · cases h
  · rename_i r _
    cases hrs : (r == s) with
    | true => rw [hrs] at h; simp at h; subst h; rfl
    | false =>
      rw [hrs] at h
      simp only [cond_false] at h
      split at h
      · obtain ⟨_, h⟩ := cond_none h
        split at h
        · exact hb (by simp) h
        · obtain ⟨_, h⟩ := cond_none h
          exact hb (by simp [resetH_length]) h
        · cases h
      · cases h
  · cases h
theorem free_sub {bad bad' : List Nat} (hs : ∀ x ∈ bad', x ∈ bad) : ∀ (n : Nat), (∀ v, V.free bad n v = true → V.free bad' n v = true) ∧ (∀ vs, V.free.go bad n vs = true → V.free.go bad' n vs = true) := by
  intro n
  induction n with
  | zero => exact ⟨fun v h => (by cases h), fun vs h => (by simp [V.free.go] at h)⟩
  | succ n ih =>
    have hc : ∀ r, (!bad.contains r) = true → (!bad'.contains r) = true := by
      intro r h
      simp at h ⊢
      exact fun h2 => h (hs r h2)
    refine ⟨fun v h => ?_, fun vs h => ?_⟩
    · cases v <;> simp only [V.free] at h ⊢ <;> first | exact hc _ h | exact ih.2 _ h
    · cases vs with
      | nil => rfl
      | cons x xs =>
        simp only [V.free.go, Bool.and_eq_true] at h ⊢
        exact ⟨ih.1 x h.1, ih.2 xs h.2⟩
theorem normAll_sound : ∀ (ps : List (Place × Nat × Kd)) {st st' : St} {m : Nat}, (∀ p ∈ ps, V.free.go [p.2.1] m lv = true) → (∀ p ∈ ps, p.2.1 < st.H.length) → normAll st ps = some st' → J tyK R0 w0 lv us st a w → J tyK R0 w0 lv us st' a w
  | [], st, st', m, _, _, h, hj => by simp [normAll] at h; subst h; exact hj
  | (p, s, q) :: ps, st, st', m, hlv, hlt, h, hj => by
    simp only [normAll] at h
    obtain ⟨st1, h1, h⟩ := Option.bind_eq_some_iff.1 h
    exact normAll_sound ps (fun p hp => hlv p (by simp [hp])) (fun p' hp => by rw [norm1_len h1]; exact hlt p' (by simp [hp])) h (norm1_sound (hlt (p, s, q) (by simp)) (hlv (p, s, q) (by simp)) h1 hj)
theorem head_sound {la : LA} {st st' : St} (hlv : V.free.go (la.reset ++ la.norm.map (·.2.1)) 200 lv = true) (h : head la st = some st') (hj : J tyK R0 w0 lv us st a w) : J tyK R0 w0 lv us st' a w := by
  unfold head at h
  obtain ⟨hlt, h⟩ := cond_none h
  obtain ⟨st1, h1, h⟩ := Option.bind_eq_some_iff.1 h
  obtain ⟨h2, h⟩ := cond_none h
  injection h with h
  subst h
  rw [Bool.and_eq_true] at h2
  have hj1 : J tyK R0 w0 lv us ⟨keepT la.keep 0 st.tm, st.H⟩ a w := by
    obtain ⟨R, hat⟩ := hj
    exact ⟨R, hat.step, hat.hr, hat.tm.keepT _, hat.lv, hat.defers⟩
  obtain ⟨R, hat⟩ := normAll_sound la.norm (m := 200) (fun p hp => (free_sub (fun x hx => by simp at hx; subst hx; exact List.mem_append.2 (.inr (List.mem_map.2 ⟨p, hp, rfl⟩))) 200).2 lv hlv) (fun p hp => by
    rw [List.all_eq_true] at hlt
    simpa using hlt p hp) h1 hj1
  exact ⟨R, hat.reset h2.1 h2.2 ((free_sub (fun x hx => List.mem_append.2 (.inl hx)) 200).2 lv hlv)⟩
end
end Go.Proofs.Ytoedeimpfbebpaa.VR
end
section
set_option linter.unusedVariables false
set_option linter.unusedSimpArgs false
set_option linter.unusedSectionVars false
namespace Go.Proofs.Ytoedeimpfbebpaa.VR
open Go
def exOf : Ex → Exit
  | .normal => .normal
  | .ret => .ret
  | .exit id => .exit id
section
variable {P : Program} {Tb : TypeId → Option TI} {tyK : Kd → TypeId} {α : Type} {r : α} {Co : Orc} {R0 : Re} {w0 : World} {lv : List V} {us : List Value}
theorem findLA_mem {n : Option Nat} {la : LA} : ∀ {ls : List LA}, findLA n ls = some la → la ∈ ls
  | l :: ls, h => by
    unfold findLA at h
    cases hb : (n == some l.first) with
    | true => rw [hb] at h; simp at h; subst h; exact List.mem_cons_self ..
    | false => rw [hb] at h; exact List.mem_cons_of_mem _ (findLA_mem h)
theorem least {p : Nat → Prop} (h : ∃ m, p m) : ∃ m, p m ∧ ∀ n, p n → m ≤ n := by
  obtain ⟨m, hm⟩ := h
  induction m using Nat.strongRecOn with
  | _ m ih =>
    by_cases hl : ∃ n, n < m ∧ p n
    · obtain ⟨n, h1, h2⟩ := hl
      exact ih n h1 h2
    · exact ⟨m, hm, fun n hn => by
        rcases Nat.lt_or_ge n m with h1 | h1
        · exact absurd ⟨n, h1, hn⟩ hl
        · exact h1⟩
theorem trim_sound {la : LA} {st : St} {a : Act} {w : World} (hj : J tyK R0 w0 lv us st a w) : J tyK R0 w0 lv us (trim la st) a w := by
  obtain ⟨R, hat⟩ := hj
  have hg : ∀ s, geti (mask st.H la.outH 0) s = .dead ∨ geti (mask st.H la.outH 0) s = geti st.H s := (HLe.mask st.H la.outH).2
  have hp : Pres R st.H w R (mask st.H la.outH 0) w := by
    refine ⟨Step.refl R w, fun s hs => ?_, fun _ _ => rfl, fun s k xs ho hs e => ?_⟩
    · rcases hg s with h | h
      · rw [h]; exact fun h => by cases h
      · rw [h]; exact hs
    · rcases hg s with h | h
      · rw [h] at e; cases e
      · rw [h] at e
        exact ⟨xs, ho, e, rfl, rfl, fun h => ⟨h, fun _ _ _ _ _ _ _ _ => rfl⟩⟩
  have hh : HR tyK R (mask st.H la.outH 0) w := by
    refine hat.hr.next hp (mask_length _ _ _) (fun s _ => ?_) hat.hr.none_
    rcases hg s with h | h
    · right; rw [h]; trivial
    · exact .inl ⟨h, fun g t ht _ => ⟨ht, rfl⟩⟩
  have := hat.pres hp hh
  exact ⟨R, this.step, this.hr, this.tm.keepT _, this.lv, this.defers⟩
open Classical in
theorem loop_sound {la : LA} {c : Code} {bd : St → (Ex → St → Option α) → Option α} {k : Ex → St → Option α} {Q : Exit → Act → World → Prop} (hlv : V.free.go (la.reset ++ la.norm.map (·.2.1)) 200 lv = true)
    (hQ : ∀ ex st a w, k ex st = some r → J tyK R0 w0 lv us st a w → Q (exOf ex) a w)
    (hbd : ∀ (st : St) (k : Ex → St → Option α) (Q : Exit → Act → World → Prop) (a : Act) (w : World), (∀ ex st a w, k ex st = some r → J tyK R0 w0 lv us st a w → Q (exOf ex) a w) → bd st k = some r → J tyK R0 w0 lv us st a w → c.wp P Q a w)
    {m : Nat} {st : St} {a : Act} {w : World} (h : loopK bd la m st k = some r) (hj : J tyK R0 w0 lv us st a w) : (Code.loop c).wp P Q a w := by
  let I : Act → World → Prop := fun a w => ∃ m st, loopK bd la m st k = some r ∧ J tyK R0 w0 lv us st a w
  let μ : Act → World → Nat := fun a w => if h : I a w then Classical.choose (least h) else 0
  have hμ : ∀ a w (h : I a w), (∃ st, loopK bd la (μ a w) st k = some r ∧ J tyK R0 w0 lv us st a w) ∧ ∀ m st, loopK bd la m st k = some r → J tyK R0 w0 lv us st a w → μ a w ≤ m := by
    intro a w h
    have e : μ a w = Classical.choose (least h) := dif_pos h
    rw [e]
    obtain ⟨h3, h4⟩ := Classical.choose_spec (least h)
    exact ⟨h3, fun m st h1 h2 => h4 m ⟨st, h1, h2⟩⟩
  refine wp_loop I μ ⟨m, st, h, hj⟩ fun a w hI => ?_
  obtain ⟨⟨st, h1, hj⟩, _⟩ := hμ a w hI
  cases hm : μ a w with
  | zero => rw [hm] at h1; simp [loopK] at h1
  | succ m =>
    rw [hm] at h1
    simp only [loopK] at h1
    obtain ⟨st1, hh, h1⟩ := Option.bind_eq_some_iff.1 h1
    refine hbd st1 _ _ a w (fun ex st2 a2 w2 hk hj2 => ?_) h1 (head_sound hlv hh hj)
    cases ex with
    | normal =>
      have hI2 : I a2 w2 := ⟨m, st2, hk, hj2⟩
      refine ⟨hI2, ?_⟩
      have := (hμ a2 w2 hI2).2 m st2 hk hj2
      omega
    | ret => exact hQ .ret _ a2 w2 hk (trim_sound hj2)
    | exit id => exact hQ (.exit id) _ a2 w2 hk (trim_sound hj2)
theorem vx_sound {m : Nat} {an : Ann} (hm : P.follows .mixedOrders = true) (hT : TbOk P Tb tyK) (hC : CoOk P tyK Co) (hlv : ∀ la ∈ an.loops, V.free.go (la.reset ++ la.norm.map (·.2.1)) 200 lv = true) :
    ∀ (c : Code) (st : St) (k : Ex → St → Option α) (Q : Exit → Act → World → Prop) (a : Act) (w : World), (∀ ex st a w, k ex st = some r → J tyK R0 w0 lv us st a w → Q (exOf ex) a w) →
      vx Tb tyK Co m an c st k = some r → J tyK R0 w0 lv us st a w → c.wp P Q a w
  | .skip, st, k, Q, a, w, hQ, h, hj => wp_skip (hQ .normal st a w h hj)
  | .label l, st, k, Q, a, w, hQ, h, hj => wp_label (hQ .normal st a w h hj)
  | .ret, st, k, Q, a, w, hQ, h, hj => wp_ret (hQ .ret st a w h hj)
  | .exit id, st, k, Q, a, w, hQ, h, hj => wp_exit (hQ (.exit id) st a w h hj)
  | .goto l, st, k, Q, a, w, hQ, h, hj => by simp [vx] at h
  | .scope c, st, k, Q, a, w, hQ, h, hj => by simp [vx] at h
  | .rangeFunc _ _ _ _, st, k, Q, a, w, hQ, h, hj => by simp [vx] at h
  | .seq x y, st, k, Q, a, w, hQ, h, hj => by
    simp only [vx] at h
    refine wp_seq (vx_sound hm hT hC hlv x st _ _ a w (fun ex st2 a2 w2 hk hj2 => ?_) h hj)
    cases ex with
    | normal => exact vx_sound hm hT hC hlv y st2 k Q a2 w2 hQ hk hj2
    | ret => exact hQ .ret st2 a2 w2 hk hj2
    | exit id => exact hQ (.exit id) st2 a2 w2 hk hj2
  | .cond c x y, st, k, Q, a, w, hQ, h, hj => by
    simp only [vx] at h
    obtain ⟨b, hb, h⟩ := asB_some h
    obtain ⟨R, hat⟩ := hj
    have hv := ev_rel hat.tm c
    rw [hb] at hv
    have hset : ∀ b', b' = b → J tyK R0 w0 lv us ⟨setB st.tm c b', st.H⟩ a w := by
      rintro b' rfl
      refine ⟨R, hat.step, hat.hr, ?_, hat.lv, hat.defers⟩
      unfold setB
      split
      · exact (hat.tm.bool_at hb).2
      · exact hat.tm
    refine wp_cond hv.bool_inv ?_
    cases b with
    | true => exact vx_sound hm hT hC hlv x _ k Q a w hQ h (hset true rfl)
    | false => exact vx_sound hm hT hC hlv y _ k Q a w hQ h (hset false rfl)
  | .block id c, st, k, Q, a, w, hQ, h, hj => by
    simp only [vx] at h
    refine wp_block (vx_sound hm hT hC hlv c st _ _ a w (fun ex st2 a2 w2 hk hj2 => ?_) h hj)
    cases ex with
    | normal => exact hQ .normal st2 a2 w2 hk hj2
    | ret => exact hQ .ret st2 a2 w2 hk hj2
    | exit id' =>
      dsimp only at hk
      show (if id' = id then Q .normal a2 w2 else Q (.exit id') a2 w2)
      by_cases hid : id' = id
      · have : (id' == id) = true := by simpa using hid
        rw [this] at hk
        rw [if_pos hid]
        exact hQ .normal st2 a2 w2 hk hj2
      · have : (id' == id) = false := by simpa using hid
        rw [this] at hk
        rw [if_neg hid]
        exact hQ (.exit id') st2 a2 w2 hk hj2
  | .region id ops false, st, k, Q, a, w, hQ, h, hj => by
    simp only [vx] at h
    exact wp_region_list (reg_sound hT hC (k := fun st => k .normal st) (fun st2 a2 w2 hk hj2 => hQ .normal st2 a2 w2 hk hj2) ops.toList 0 st.tm st.H a w h hj)
  | .region id ops true, st, k, Q, a, w, hQ, h, hj => by
    simp only [vx] at h
    obtain ⟨h1, h⟩ := cond_none h
    rw [Bool.and_eq_true] at h1
    exact dreg_sound hm hT hC (k := fun st => k .normal st) (fun st2 a2 w2 hk hj2 => hQ .normal st2 a2 w2 hk hj2) h1.1 h1.2 h hj
  | .loop c, st, k, Q, a, w, hQ, h, hj => by
    simp only [vx] at h
    split at h
    · rename_i la hla
      exact loop_sound (hlv la (findLA_mem hla)) hQ (fun st k Q a w hQ h hj => vx_sound hm hT hC hlv c st k Q a w hQ h hj) h hj
    · cases h
end
end Go.Proofs.Ytoedeimpfbebpaa.VR
end
section
set_option linter.unusedVariables false
set_option linter.unusedSimpArgs false
set_option linter.unusedSectionVars false
namespace Go.Proofs.Ytoedeimpfbebpaa.VR
open Go
section
variable {P : Program} {Tb : TypeId → Option TI} {tyK : Kd → TypeId} {R : Re} {H : List E} {w : World} {tm : List V} {Co : Orc} {tmps : Array Value}
def resOf (tmps : Array Value) (x : ResultVar) : Sem Value := match x with
  | .tmp t => pure (tmps.getD t undef)
  | .cell a t => do loadVar t (← asAddr (tmps.getD a undef))
theorem resV_run (hT : TbOk P Tb tyK) (hh : HR tyK R H w) (ht : VRs R H w tm tmps.toList) : ∀ (rs : List ResultVar) (vs : List V), resV Tb tm H rs = some vs → ∃ us, (rs.mapM (resOf tmps)).run P w = .ok us w ∧ VRs R H w vs us
  | [], vs, h => by
    simp [resV] at h
    subst h
    exact ⟨[], rfl, VRs.nil⟩
  | .tmp t :: rs, vs, h => by
    simp only [resV] at h
    obtain ⟨vs', h1, h⟩ := Option.bind_eq_some_iff.1 h
    injection h with h
    subst h
    obtain ⟨us, h2, h3⟩ := resV_run hT hh ht rs vs' h1
    refine ⟨tmps.getD t undef :: us, ?_, VRs.mk (ev_rel (a := ⟨tmps, []⟩) ht (.tmp t)) h3⟩
    rw [List.mapM_cons]
    simp [resOf, h2]
  | .cell b t :: rs, vs, h => by
    simp only [resV] at h
    obtain ⟨vs', h1, h⟩ := Option.bind_eq_some_iff.1 h
    split at h
    · rename_i c j ti e1 htb
      split at h
      · rename_i cs e2
        obtain ⟨v, hp, h⟩ := Option.bind_eq_some_iff.1 h
        injection h with h
        subst h
        obtain ⟨us, h2, h3⟩ := resV_run hT hh ht rs vs' h1
        have hv := ev_rel (a := ⟨tmps, []⟩) ht (.tmp b)
        simp only [ev] at hv
        rw [e1] at hv
        obtain ⟨e3, _⟩ := hv.ptr_inv
        have e3 : tmps.getD b undef = .pointer (some ⟨R.β c, 0 + j, none⟩) := by rw [Nat.zero_add]; exact e3
        obtain ⟨u, hl, hu⟩ := load_rel' hT htb hp (box_cells hh e2)
        refine ⟨u :: us, ?_, VRs.mk hu h3⟩
        rw [List.mapM_cons]
        rw [Nat.zero_add] at e3 hl
        simp [resOf, h2, e3, asAddr, hl]
      · cases h
    · cases h
theorem results_run {fn : Func} {us : List Value} (h : (fn.results.toList.mapM (resOf tmps)).run P w = .ok us w) : (results fn tmps).run P w = .ok (if h : us.length = 1 then us[0] else .tuple us.toArray) w := by
  have e : results fn tmps = (fn.results.mapM (resOf tmps) >>= fun vs => pure (if h : vs.size = 1 then vs[0] else .tuple vs)) := by
    unfold results
    congr 1
  rw [e, Array.mapM_eq_mapM_toList]
  simp [h]
theorem one_rel {vs : List V} {us : List Value} (h : VRs R H w vs us) : VR R H w (one vs) (if h : us.length = 1 then us[0] else .tuple us.toArray) := by
  match vs, us, h with
  | [v], [u], h => exact h.2 0 v u rfl rfl
  | [], [], h => exact .tup _ _ h.1 h.2
  | v :: v' :: vs, u :: u' :: us, h =>
    rw [dif_neg (by simp)]
    exact .tup _ _ h.1 h.2
  | [], u :: us, h => have := h.1; simp at this
  | v :: vs, [], h => have := h.1; simp at this
  | [v], u :: u' :: us, h => have := h.1; simp at this
  | v :: v' :: vs, [u], h => have := h.1; simp at this
theorem geti_grow (H : List E) (n s : Nat) : geti (H ++ List.replicate n .fresh) s = geti H s := by
  unfold geti
  rw [List.getD_eq_getElem?_getD, List.getD_eq_getElem?_getD]
  rcases Nat.lt_or_ge s H.length with h | h
  · rw [List.getElem?_append_left h]
  · rw [List.getElem?_append_right h, List.getElem?_eq_none h, List.getElem?_replicate]
    split <;> rfl
theorem body_sound {m : Nat} {f : FuncId} {fa : FnA} {bz : List A} {sh : Sh} {r : sh.T} (hm : P.follows .mixedOrders = true) (hT : TbOk P Tb tyK) (hC : CoOk P tyK Co) (hf : P.funcs[f]? = some fa.fn) (h : body Tb tyK Co m fa bz sh = some r) : CallOk P tyK f bz sh r := by
  unfold body at h
  dsimp only at h
  intro Rc w us hh hv
  split at h
  · cases h
  · rename_i c hc
    obtain ⟨hlv, h⟩ := cond_none h
    refine calls_of_wp hf hc ?_
    rw [List.all_eq_true] at hlv
    have hgrow := geti_grow (layL bz 0).2.1 (fa.slots - (layL bz 0).2.1.length)
    have hp : Pres Rc (layL bz 0).2.1 w Rc ((layL bz 0).2.1 ++ List.replicate (fa.slots - (layL bz 0).2.1.length) .fresh) w :=
      ⟨Step.refl _ _, fun s hs => by rw [hgrow]; exact hs, fun _ _ => rfl, fun s k xs ho hs e => ⟨xs, ho, by rw [← hgrow]; exact e, rfl, rfl, fun h => ⟨h, fun _ _ _ _ _ _ _ _ => rfl⟩⟩⟩
    have hh' : HR tyK Rc ((layL bz 0).2.1 ++ List.replicate (fa.slots - (layL bz 0).2.1.length) .fresh) w := by
      refine ⟨fun s hs => ?_, hh.none_⟩
      rcases Nat.lt_or_ge s (layL bz 0).2.1.length with h1 | h1
      · exact ER.keep hp (fun g t ht _ => ⟨ht, rfl⟩) (hgrow s) (hh.at_ s h1)
      · rw [hgrow]
        have : geti (layL bz 0).2.1 s = .fresh := by unfold geti; rw [List.getD_eq_getElem?_getD, List.getElem?_eq_none h1]; rfl
        rw [this]
        trivial
    have hv' := hv.pres hp
    have htm : VRs Rc ((layL bz 0).2.1 ++ List.replicate (fa.slots - (layL bz 0).2.1.length) .fresh) w ((layL bz 0).1 ++ List.replicate (fa.fn.ntmps - (layL bz 0).1.length) .junk)
        (us.toArray ++ Array.replicate (fa.fn.ntmps - us.toArray.size) undef).toList := by
      have e1 : (us.toArray ++ Array.replicate (fa.fn.ntmps - us.toArray.size) undef).toList = us ++ List.replicate (fa.fn.ntmps - (layL bz 0).1.length) undef := by
        simp [hv.1]
      rw [e1]
      refine ⟨by simp [hv.1], fun i v u hv1 hu => ?_⟩
      rcases Nat.lt_or_ge i (layL bz 0).1.length with h1 | h1
      · rw [List.getElem?_append_left h1] at hv1
        rw [List.getElem?_append_left (by rw [← hv.1]; exact h1)] at hu
        exact hv'.2 i v u hv1 hu
      · rw [List.getElem?_append_right h1] at hv1
        have := (List.getElem?_replicate.symm.trans hv1)
        split at this
        · injection this with this; subst this; exact .junk _
        · cases this
    refine vx_sound (r := r) (R0 := Rc) (w0 := w) (lv := (layL bz 0).1) (us := us) hm hT hC hlv c _ _ _ _ w (fun ex st a w' hk hj => ?_) h ⟨Rc, Step.refl _ _, hh', htm, hv', rfl⟩
    obtain ⟨R', hat⟩ := hj
    have fin : ((resV Tb st.tm st.H fa.fn.results.toList).bind fun vs => (take sh (one vs :: (layL bz 0).1) st.H).bind fun r => some r.1) = some r →
        a.defers = [] ∧ ∃ v, (results fa.fn a.tmps).run P w' = .ok v w' ∧ (∃ v', Ending.returned v = .returned v' ∧ ∃ (Rc' : Re) (Hf : List E) (vf : V), Step Rc w Rc' w' ∧ HR tyK Rc' Hf w' ∧ VR Rc' Hf w' vf v' ∧ VRs Rc' Hf w' (layL bz 0).1 us ∧
          ∃ rest Hf', take sh (vf :: (layL bz 0).1) Hf = some (r, rest, Hf')) := by
      intro hk
      obtain ⟨vs, h1, hk⟩ := Option.bind_eq_some_iff.1 hk
      obtain ⟨⟨r', rest, Hf'⟩, h2, hk⟩ := Option.bind_eq_some_iff.1 hk
      injection hk with hk
      dsimp only at hk
      subst hk
      obtain ⟨xs, h3, h4⟩ := resV_run hT hat.hr hat.tm _ vs h1
      exact ⟨hat.defers, _, results_run h3, _, rfl, R', st.H, one vs, hat.step, hat.hr, one_rel h4, hat.lv, rest, Hf', h2⟩
    cases ex with
    | normal => exact fin hk
    | ret => exact fin hk
    | exit id => cases hk
theorem enters_of {f : FuncId} {fn : Func} (hf : P.funcs[f]? = some fn) (h1 : (fn.name == "runtime.NumGoroutine") = false) (h2 : fn.body.isNone = false) : Enters P f := by
  intro args w
  unfold callFunc
  simp at h1
  have h3 : fn.body ≠ none := fun e => by rw [e] at h2; cases h2
  simp [hf, h1, h3]
/-- What is asked of a table of functions. -/
structure CodesOk (P : Program) (codes : FuncId → Option FnA) : Prop where
  fn : ∀ f fa, codes f = some fa → P.funcs[f]? = some fa.fn
  enters : ∀ f fa, codes f = some fa → Enters P f
theorem pcall_sound {ext : Orc} {codes : FuncId → Option FnA} (hm : P.follows .mixedOrders = true) (hT : TbOk P Tb tyK) (hc : CodesOk P codes) (he : CoOk P tyK ext) : ∀ n, CoOk P tyK (pcall Tb tyK ext codes n)
  | 0 => he
  | n + 1 => by
    have ih := pcall_sound hm hT hc he n
    refine ⟨fun f bz sh r h => ?_, fun f bz sh r h => ?_⟩
    · simp only [pcall] at h
      split at h
      · rename_i fa hfa
        exact body_sound hm hT ih (hc.fn f fa hfa) h
      · exact he.orc f bz sh r h
    · simp only [pcall] at h
      split at h
      · rename_i fa hfa
        exact hc.enters f fa hfa
      · exact he.enters f bz sh r h
#print axioms pcall_sound
end
end Go.Proofs.Ytoedeimpfbebpaa.VR
end
