/- A call's way in: what is only read, what is handed over. -/
import Derived.Test.YtoedeimpfbebpaaK2
section
set_option linter.unusedVariables false
set_option linter.unusedSimpArgs false
set_option linter.unusedSectionVars false
namespace Go.Proofs.Ytoedeimpfbebpaa.VR
open Go
section
variable {tyK : Kd → TypeId} {R : Re} {H : List E} {w : World}
/-! ### What is only read -/
theorem CR_of_own {T T' : Nat → Option Tag} {s i j : Nat} {c : C} {v : Value} {p : Bool} (h : OwnC tyK T w s i j c v) (hT : ∀ g t, T g = some t → t.of s → okRo p (T' g)) : CR T' w p c v := by
  cases c with
  | nest ys =>
    rcases h with ⟨A, rfl, rfl⟩ | ⟨h1, h2⟩
    · exact ⟨A, 0, rfl, Nat.le_refl _, by simp [maxLen], fun i x hx => by simp at hx⟩
    · rcases h1.2 with ⟨rfl, h3⟩ | ⟨g, cap, cur, rfl, _, hg, hnc, hcm, hcs, htake⟩
      · exact ⟨none, 0, by rw [h3], by rw [h3]; exact Nat.le_refl _, by simp [maxLen], fun i x hx => by have := (List.getElem?_eq_some_iff.1 hx).1; omega⟩
      · refine ⟨_, cap, rfl, hnc, hcm, fun i x hx => ⟨g, 0, rfl, hT g _ (h2 g rfl) rfl, ?_⟩⟩
        rw [cell_of_row w g _ cur _ _ hg]
        have hi := (List.getElem?_eq_some_iff.1 hx).1
        have h4 : (ys.map fun y => Value.int .i64 y)[i]? = some (.int .i64 x) := by rw [List.getElem?_map, hx]; rfl
        rw [← htake, List.getElem?_take, if_pos (by omega)] at h4
        simpa using h4
  | _ => exact h
theorem ro_of_own {T T' : Nat → Option Tag} {s : Nat} {k : Kd} {xs : List k.T} {ho : Ho} {v : Value} {p : Bool} (h : OwnSl tyK T w s k xs ho v) (hw : ho.whole = true) (hT : ∀ g t, T g = some t → t.of s → okRo p (T' g)) :
    RoSl T' w p k xs v := by
  rcases h with ⟨A, rfl, rfl⟩ | ⟨flat, h1, h2, h3, h4⟩
  · exact ⟨A, 0, rfl, Nat.le_refl _, by simp [maxLen], fun i x hx => by simp at hx⟩
  · rcases h1.2 with ⟨rfl, h5⟩ | ⟨g, cap, cur, rfl, _, hg, hnc, hcm, hcs, htake⟩
    · exact ⟨none, 0, by rw [h5], by rw [h5]; exact Nat.le_refl _, by simp [maxLen], fun i x hx => by have := (List.getElem?_eq_some_iff.1 hx).1; omega⟩
    · refine ⟨_, cap, rfl, hnc, hcm, fun i x hx => ⟨g, 0, rfl, hT g _ (h2 g rfl) rfl, fun j c hj => ?_⟩⟩
      obtain ⟨u, hu, hoc⟩ := h4 i x hx j c hj (Ho.not_at hw i j)
      refine ⟨u, ?_, CR_of_own hoc hT⟩
      rw [Nat.zero_add, cell_of_row w g _ cur _ _ hg]
      rw [← htake, List.getElem?_take] at hu
      split at hu
      · simpa using hu
      · cases hu
def E.whole : E → Bool
  | .root _ _ h => h.whole
  | .box _ => true
  | _ => false
/-- A callee's tags, as to what is only read. -/
structure FzFit (R : Re) (H : List E) (Rc : Re) : Prop where
  none_ : ∀ g, R.T g = none → Rc.T g = none
  froz : ∀ g, R.T g = some .frozen → Rc.T g = some .frozen
  slot : ∀ g t s, R.T g = some t → t.of s → (geti H s).whole = true → Rc.T g = some .frozen
theorem FzFit.ro {Rc : Re} (h : FzFit R H Rc) {p : Bool} {g : Nat} (ho : okRo p (R.T g)) : okRo p (Rc.T g) := by
  rcases ho with ho | ⟨hp, ho⟩
  · exact .inl (h.none_ g ho)
  · exact .inr ⟨hp, h.froz g ho⟩
theorem FzFit.slot_ro {Rc : Re} (h : FzFit R H Rc) {s : Nat} (hs : (geti H s).whole = true) : ∀ g t, R.T g = some t → t.of s → okRo false (Rc.T g) := fun g t ht hof => .inr ⟨rfl, h.slot g t s ht hof hs⟩
theorem CR.fz {Rc : Re} (h : FzFit R H Rc) {p : Bool} {c : C} {u : Value} (hc : CR R.T w p c u) : CR Rc.T w p c u := by
  cases c with
  | nest xs =>
    obtain ⟨A, cap, e, h1, h2, h3⟩ := hc
    exact ⟨A, cap, e, h1, h2, fun i x hx => by obtain ⟨b, o, ea, ho, hc⟩ := h3 i x hx; exact ⟨b, o, ea, h.ro ho, hc⟩⟩
  | _ => exact hc
theorem RoSl.fz {Rc : Re} (h : FzFit R H Rc) {p : Bool} {k : Kd} {xs : List k.T} {u : Value} (hr : RoSl R.T w p k xs u) : RoSl Rc.T w p k xs u := by
  obtain ⟨A, cap, e, h1, h2, h3⟩ := hr
  exact ⟨A, cap, e, h1, h2, fun i x hx => by
    obtain ⟨b, o, ea, ho, hc⟩ := h3 i x hx
    exact ⟨b, o, ea, h.ro ho, fun j c hj => by obtain ⟨y, h4, h5⟩ := hc j c hj; exact ⟨y, h4, h5.fz h⟩⟩⟩
mutual
theorem fz_rel (hh : HR tyK R H w) {Rc : Re} (hf : FzFit R H Rc) (HL : List E) : ∀ (n : Nat) (v v' : V) (u : Value), VR R H w v u → fz H n v = some v' → VR Rc HL w v' u
  | 0, v, v', u, hv, h => by simp [fz] at h
  | n + 1, v, v', u, hv, h => by
    cases hv with
    | int m => simp [fz] at h; subst h; exact .int _
    | u8 m => simp [fz] at h; subst h; exact .u8 _
    | bool m => simp [fz] at h; subst h; exact .bool _
    | str m => simp [fz] at h; subst h; exact .str _
    | nil => simp [fz] at h; subst h; exact .nil
    | emp A => simp [fz] at h; subst h; exact .emp _
    | junk => simp [fz] at h; subst h; exact .junk _
    | und => simp [fz] at h
    | em => simp [fz] at h
    | ro p k xs v hr => simp [fz] at h; subst h; exact .ro _ _ _ _ (hr.fz hf)
    | rp cs j b o f hT hc hv' =>
      simp only [fz] at h
      obtain ⟨cs', hcs, h⟩ := Option.bind_eq_some_iff.1 h
      injection h with h
      subst h
      have hvs' := fz_go hh hf HL n cs cs' ((List.range cs.length).map f) ⟨by simp, fun i c u hi hu => by
        have hlt := (List.getElem?_eq_some_iff.1 hi).1
        rw [List.getElem?_map, List.getElem?_range hlt] at hu
        simp at hu
        subst hu
        exact hv' i c hi⟩ hcs
      have hlen : cs'.length = cs.length := by have := hvs'.1; simpa using this
      refine .rp cs' j b o f (fun i c hi => ?_) (fun i c hi => ?_) fun i c hi => ?_
      all_goals have hlt := (List.getElem?_eq_some_iff.1 hi).1; rw [hlen] at hlt
      · exact hf.ro (hT i _ (List.getElem?_eq_getElem hlt))
      · exact hc i _ (List.getElem?_eq_getElem hlt)
      · exact hvs'.2 i c (f i) hi (by rw [List.getElem?_map, List.getElem?_range hlt]; rfl)
    | bor r v h1 h0 hvv =>
      simp only [fz] at h
      split at h
      · rename_i k xs ho e
        obtain ⟨hw, h⟩ := cond_none h
        injection h with h
        subst h
        rw [hvv k xs ho e]
        exact .ro _ _ _ _ (ro_of_own (root_own hh e) hw (hf.slot_ro (by rw [e]; exact hw)))
      · cases h
    | borN r i j v h1 h0 hvv =>
      simp only [fz] at h
      split at h
      · rename_i k xs e
        injection h with h
        subst h
        obtain ⟨hi, hj, g, cap, hg, hc⟩ := hvv k xs e
        obtain ⟨g', cap', cur, hr', _, hTg, _, _, _, _, hcell⟩ := own_elem hh e hi
        rw [hg] at hr'
        simp only [Value.slice.injEq, Option.some.injEq, Addr.mk.injEq, and_true] at hr'
        obtain ⟨rfl, _, rfl⟩ := hr'
        obtain ⟨rfl, rfl⟩ := nestAt_inv hj
        have hget : (row .lock xs i)[1]? = some (.nest (xs.getD i Kd.lock.dflt).Waits) := rfl
        obtain ⟨y, hy, hoc⟩ := hcell 1 _ hget (fun h => h)
        rw [hc] at hy
        injection hy with hy
        subst hy
        have := toV_rel (H := HL) (R := Rc) (CR_of_own (p := false) hoc (hf.slot_ro (by rw [e]; rfl)))
        exact this
      · cases h
    | ptr b j h0 =>
      simp only [fz] at h
      split at h
      · rename_i cs e
        obtain ⟨cs', hcs, h⟩ := Option.bind_eq_some_iff.1 h
        injection h with h
        subst h
        have hb := box_cells hh e
        have hER := hh.at_ b (geti_lt h0)
        rw [e] at hER
        obtain ⟨e', us, hg, hTg, hl, hv⟩ := hER
        have hvs : VRs R H w cs us.toList := ⟨by rw [Array.length_toList]; exact hl.symm, fun i c u hc hu => (hv i c u hc (by rw [← Array.getElem?_toList]; exact hu)).1⟩
        have hvs' := fz_go hh hf HL n cs cs' us.toList hvs hcs
        refine (by rw [Nat.zero_add] : Value.pointer (some ⟨R.β b, 0 + j, none⟩) = .pointer (some ⟨R.β b, j, none⟩)) ▸ VR.rp_mk (R := Rc) (H := HL) (w := w) (cs := cs') (b := R.β b) (q := 0) j (fun i c hc => .inr ⟨rfl, hf.slot _ _ b hTg rfl (by rw [e]; rfl)⟩) fun i c hc => ?_
        have hlt := (List.getElem?_eq_some_iff.1 hc).1
        rw [hvs'.1] at hlt
        refine ⟨us.toList[i], ?_, hvs'.2 i c _ hc (List.getElem?_eq_getElem hlt)⟩
        rw [Nat.zero_add, cell_of_row w _ _ us e' _ hg, ← Array.getElem?_toList, List.getElem?_eq_getElem hlt]
      · cases h
    | ep r i j v h1 h0 hvv =>
      simp only [fz] at h
      split at h
      · rename_i k xs ho e
        obtain ⟨hw, h⟩ := cond_none h
        injection h with h
        subst h
        obtain ⟨hi, g, m, cap, hg, rfl⟩ := hvv k xs ho e
        obtain ⟨g', cap', cur, hr', _, hTg, _, _, _, _, hcell⟩ := own_elem hh e hi
        rw [hg] at hr'
        simp only [Value.slice.injEq, Option.some.injEq, Addr.mk.injEq, and_true] at hr'
        obtain ⟨rfl, _, rfl⟩ := hr'
        refine VR.rp_mk j (fun i c hc => .inr ⟨rfl, hf.slot _ _ r hTg rfl (by rw [e]; exact hw)⟩) fun i' c hc => ?_
        rw [List.getElem?_map] at hc
        obtain ⟨c0, hc0, rfl⟩ := Option.map_eq_some_iff.1 hc
        obtain ⟨y, hy, hoc⟩ := hcell i' c0 hc0 (Ho.not_at hw _ _)
        exact ⟨y, hy, toV_rel (CR_of_own hoc (hf.slot_ro (by rw [e]; exact hw)))⟩
      · cases h
    | agg vs us hl hr =>
      simp only [fz] at h
      obtain ⟨cs', hcs, h⟩ := Option.bind_eq_some_iff.1 h
      injection h with h
      subst h
      have := fz_go hh hf HL n vs cs' us ⟨hl, hr⟩ hcs
      exact .agg _ _ this.1 this.2
    | tup vs us hl hr =>
      simp only [fz] at h
      obtain ⟨cs', hcs, h⟩ := Option.bind_eq_some_iff.1 h
      injection h with h
      subst h
      have := fz_go hh hf HL n vs cs' us ⟨hl, hr⟩ hcs
      exact .tup _ _ this.1 this.2
    | clo f vs us hl hr =>
      simp only [fz] at h
      obtain ⟨cs', hcs, h⟩ := Option.bind_eq_some_iff.1 h
      injection h with h
      subst h
      have := fz_go hh hf HL n vs cs' us ⟨hl, hr⟩ hcs
      exact .clo _ _ _ this.1 this.2
theorem fz_go (hh : HR tyK R H w) {Rc : Re} (hf : FzFit R H Rc) (HL : List E) : ∀ (n : Nat) (vs vs' : List V) (us : List Value), VRs R H w vs us → fz.go H n vs = some vs' → VRs Rc HL w vs' us
  | 0, vs, vs', us, hv, h => by simp [fz.go] at h
  | n + 1, [], vs', us, hv, h => by
    simp [fz.go] at h
    subst h
    have : us = [] := by have := hv.1; simpa using this.symm
    subst this
    exact ⟨rfl, fun i v u h => by simp at h⟩
  | n + 1, v :: vs, vs', [], hv, h => by have := hv.1; simp at this
  | n + 1, v :: vs, vs', u :: us, hv, h => by
    obtain ⟨hv1, hv2⟩ := hv.cons
    simp only [fz.go] at h
    obtain ⟨v1, e1, h⟩ := Option.bind_eq_some_iff.1 h
    obtain ⟨v2, e2, h⟩ := Option.bind_eq_some_iff.1 h
    injection h with h
    subst h
    have h1 := fz_rel hh hf HL n v v1 u hv1 e1
    have h2 := fz_go hh hf HL n vs v2 us hv2 e2
    refine ⟨by simp [h2.1], fun i v' u' hv' hu' => ?_⟩
    cases i with
    | zero => simp at hv' hu'; subst hv'; subst hu'; exact h1
    | succ i => exact h2.2 i v' u' (by simpa using hv') (by simpa using hu')
end
end
end Go.Proofs.Ytoedeimpfbebpaa.VR
end
section
set_option linter.unusedVariables false
set_option linter.unusedSimpArgs false
set_option linter.unusedSectionVars false
namespace Go.Proofs.Ytoedeimpfbebpaa.VR
open Go
inductive Src where
  | root (r : Nat) | nest (r i j : Nat) | box (b : Nat)
def Src.slot : Src → Nat
  | .root r => r | .nest r _ _ => r | .box b => b
def Src.cov : Src → Tag → Prop
  | .nest r i j, t => t = .nest r i j
  | .root r, t => t.of r
  | .box b, t => t.of b
def Src.retag : Src → Nat → Tag → Tag
  | .nest _ _ _, s, _ => .slot s
  | _, s, .slot _ => .slot s
  | _, s, .nest _ i j => .nest s i j
  | _, _, .frozen => .frozen
structure EM where
  src : Src
  tgt : Nat
  val : Value
def EM.ok (H H' : List E) (m : EM) : Prop := match m.src with
  | .root r => (∃ k xs ho, geti H r = .root k xs ho ∧ ho.whole = true) ∧ geti H' r = .dead
  | .nest r i j => ∃ k xs, geti H r = .root k xs .ok ∧ geti H' r = .root k xs (.hole i j)
  | .box b => (∃ cs, geti H b = .box cs) ∧ geti H' b = .dead
structure Ent (H H' : List E) (M : List EM) (s0 s1 : Nat) : Prop where
  ok : ∀ m ∈ M, m.ok H H'
  same : ∀ s, (∀ m ∈ M, m.src.slot ≠ s) → geti H' s = geti H s
  dist : M.Pairwise fun m m' => m.src.slot ≠ m'.src.slot ∧ m.tgt ≠ m'.tgt
  rng : ∀ m ∈ M, s0 ≤ m.tgt ∧ m.tgt < s1
  len : H'.length = H.length
  le : s0 ≤ s1
theorem Ent.nil (H : List E) (s : Nat) : Ent H H [] s s := ⟨fun m hm => (by cases hm), fun _ _ => rfl, .nil, fun m hm => (by cases hm), rfl, Nat.le_refl _⟩
theorem EM.ok.use {H H' : List E} {m : EM} (h : m.ok H H') : ∃ (s : Src), m.src = s ∧ ((geti H s.slot).whole = true) ∧ (geti H' s.slot).whole = false ∧ geti H' s.slot ≠ .fresh ∧ geti H s.slot ≠ .fresh := by
  obtain ⟨src, tgt, val⟩ := m
  cases src with
  | root r => obtain ⟨⟨k, xs, ho, e, hw⟩, e2⟩ := h; exact ⟨_, rfl, by simp only [Src.slot]; rw [e]; exact hw, by simp only [Src.slot]; rw [e2]; rfl, by simp only [Src.slot]; rw [e2]; exact (fun h => by cases h), by simp only [Src.slot]; rw [e]; exact (fun h => by cases h)⟩
  | nest r i j => obtain ⟨k, xs, e, e2⟩ := h; exact ⟨_, rfl, by simp only [Src.slot]; rw [e]; rfl, by simp only [Src.slot]; rw [e2]; rfl, by simp only [Src.slot]; rw [e2]; exact (fun h => by cases h), by simp only [Src.slot]; rw [e]; exact (fun h => by cases h)⟩
  | box b => obtain ⟨⟨cs, e⟩, e2⟩ := h; exact ⟨_, rfl, by simp only [Src.slot]; rw [e]; rfl, by simp only [Src.slot]; rw [e2]; rfl, by simp only [Src.slot]; rw [e2]; exact (fun h => by cases h), by simp only [Src.slot]; rw [e]; exact (fun h => by cases h)⟩
theorem EM.ok.congr {H H' H2 H2' : List E} {m : EM} (h : m.ok H H') (h1 : geti H2 m.src.slot = geti H m.src.slot) (h2 : geti H2' m.src.slot = geti H' m.src.slot) : m.ok H2 H2' := by
  obtain ⟨src, tgt, val⟩ := m
  cases src with
  | root r => simp only [Src.slot] at h1 h2; obtain ⟨⟨k, xs, ho, e, hw⟩, e2⟩ := h; exact ⟨⟨k, xs, ho, h1.trans e, hw⟩, h2.trans e2⟩
  | nest r i j => simp only [Src.slot] at h1 h2; obtain ⟨k, xs, e, e2⟩ := h; exact ⟨k, xs, h1.trans e, h2.trans e2⟩
  | box b => simp only [Src.slot] at h1 h2; obtain ⟨⟨cs, e⟩, e2⟩ := h; exact ⟨⟨cs, h1.trans e⟩, h2.trans e2⟩
theorem Ent.append {H H1 H2 : List E} {M1 M2 : List EM} {a b c : Nat} (h1 : Ent H H1 M1 a b) (h2 : Ent H1 H2 M2 b c) : Ent H H2 (M1 ++ M2) a c := by
  have hd : ∀ m ∈ M1, ∀ m' ∈ M2, m.src.slot ≠ m'.src.slot := by
    intro m hm m' hm' e
    obtain ⟨_, rfl, _, hw, _⟩ := (h1.ok m hm).use
    obtain ⟨_, rfl, hw2, _⟩ := (h2.ok m' hm').use
    rw [e, hw2] at hw
    cases hw
  refine ⟨fun m hm => ?_, fun s hs => ?_, ?_, fun m hm => ?_, h2.len.trans h1.len, Nat.le_trans h1.le h2.le⟩
  · rcases List.mem_append.1 hm with hm | hm
    · exact (h1.ok m hm).congr rfl (h2.same _ fun m' hm' e => hd m hm m' hm' e.symm)
    · exact (h2.ok m hm).congr (h1.same _ fun m' hm' e => hd m' hm' m hm e).symm rfl
  · rw [h2.same s fun m hm => hs m (List.mem_append.2 (.inr hm)), h1.same s fun m hm => hs m (List.mem_append.2 (.inl hm))]
  · refine List.pairwise_append.2 ⟨h1.dist, h2.dist, fun m hm m' hm' => ⟨hd m hm m' hm', ?_⟩⟩
    have := h1.rng m hm
    have := h2.rng m' hm'
    omega
  · rcases List.mem_append.1 hm with hm | hm
    · have := h1.rng m hm; have := h2.le; omega
    · have := h2.rng m hm; have := h1.le; omega
theorem Ent.wide {H H' : List E} {M : List EM} {a b c : Nat} (h : Ent H H' M a b) (hb : b ≤ c) : Ent H H' M a c :=
  ⟨h.ok, h.same, h.dist, fun m hm => by have := h.rng m hm; omega, h.len, Nat.le_trans h.le hb⟩
theorem Ent.one {H H' : List E} {m : EM} (h : m.ok H H') (hs : ∀ s, m.src.slot ≠ s → geti H' s = geti H s) (hl : H'.length = H.length) : Ent H H' [m] m.tgt (m.tgt + 1) :=
  ⟨fun m' hm' => by simp at hm'; subst hm'; exact h, fun s hs' => hs s (hs' m (by simp)), List.pairwise_singleton _ _, fun m' hm' => by simp at hm'; subst hm'; omega, hl, by omega⟩
section
variable {tyK : Kd → TypeId} {R : Re} {H : List E} {w : World}
theorem Ent.pres {H' : List E} {M : List EM} {a b : Nat} (h : Ent H H' M a b) : Pres R H w R H' w := by
  refine ⟨Step.refl R w, fun s hs => ?_, fun _ _ => rfl, fun s k xs' ho' hs e => ?_⟩
  · by_cases hm : ∃ m ∈ M, m.src.slot = s
    · obtain ⟨m, hm, rfl⟩ := hm
      obtain ⟨_, rfl, _, _, h1, _⟩ := (h.ok m hm).use
      exact h1
    · rw [h.same s fun m hm' e => hm ⟨m, hm', e⟩]; exact hs
  · by_cases hm : ∃ m ∈ M, m.src.slot = s
    · obtain ⟨m, hm, rfl⟩ := hm
      have hok := h.ok m hm
      obtain ⟨src, tgt, val⟩ := m
      cases src with
      | root r => obtain ⟨_, e2⟩ := hok; simp only [Src.slot] at e; rw [e2] at e; cases e
      | box r => obtain ⟨_, e2⟩ := hok; simp only [Src.slot] at e; rw [e2] at e; cases e
      | nest r i j =>
        obtain ⟨k0, xs, e1, e2⟩ := hok
        simp only [Src.slot] at e ⊢
        rw [e2] at e
        cases e
        exact ⟨_, .ok, e1, by first | rfl | trivial, by first | rfl | trivial, fun h => by cases h⟩
    · rw [h.same s fun m hm' e => hm ⟨m, hm', e⟩] at e
      exact ⟨xs', ho', e, rfl, rfl, fun h => ⟨h, fun _ _ _ _ _ _ _ _ => rfl⟩⟩
theorem OwnSl.hole {T : Nat → Option Tag} {s i j : Nat} {k : Kd} {xs : List k.T} {v : Value} (h : OwnSl tyK T w s k xs .ok v) : OwnSl tyK T w s k xs (.hole i j) v := by
  rcases h with h | ⟨flat, h1, h2, h3, h4⟩
  · exact .inl h
  · exact .inr ⟨flat, h1, h2, h3, fun i x hx j c hc _ => h4 i x hx j c hc (fun h => h)⟩
theorem Ent.hr {H' : List E} {M : List EM} {a b : Nat} (h : Ent H H' M a b) (hh : HR tyK R H w) : HR tyK R H' w := by
  refine hh.next h.pres h.len (fun s hs => ?_) hh.none_
  by_cases hm : ∃ m ∈ M, m.src.slot = s
  · obtain ⟨m, hm, rfl⟩ := hm
    refine .inr ?_
    have hok := h.ok m hm
    obtain ⟨src, tgt, val⟩ := m
    cases src with
    | root r => obtain ⟨_, e2⟩ := hok; simp only [Src.slot]; rw [e2]; trivial
    | box r => obtain ⟨_, e2⟩ := hok; simp only [Src.slot]; rw [e2]; trivial
    | nest r i j =>
      obtain ⟨k0, xs, e1, e2⟩ := hok
      simp only [Src.slot]
      rw [e2]
      exact (root_own hh e1).hole
  · exact .inl ⟨h.same s fun m hm' e => hm ⟨m, hm', e⟩, fun g t ht _ => ⟨ht, rfl⟩⟩
/-! ### The callee's side -/
structure Fit (R Rc : Re) (M : List EM) : Prop where
  none_ : ∀ g, R.T g = none → Rc.T g = none
  tag : ∀ m ∈ M, ∀ g t, R.T g = some t → m.src.cov t → Rc.T g = some (m.src.retag m.tgt t)
  rho : ∀ m ∈ M, (∀ b, m.src ≠ .box b) → Rc.ρ m.tgt = m.val
  beta : ∀ m ∈ M, ∀ b, m.src = .box b → Rc.β m.tgt = R.β b
theorem Fit.left {Rc : Re} {M1 M2 : List EM} (h : Fit R Rc (M1 ++ M2)) : Fit R Rc M1 :=
  ⟨h.none_, fun m hm => h.tag m (List.mem_append.2 (.inl hm)), fun m hm => h.rho m (List.mem_append.2 (.inl hm)), fun m hm => h.beta m (List.mem_append.2 (.inl hm))⟩
theorem Fit.right {Rc : Re} {M1 M2 : List EM} (h : Fit R Rc (M1 ++ M2)) : Fit R Rc M2 :=
  ⟨h.none_, fun m hm => h.tag m (List.mem_append.2 (.inr hm)), fun m hm => h.rho m (List.mem_append.2 (.inr hm)), fun m hm => h.beta m (List.mem_append.2 (.inr hm))⟩
theorem OwnN.retag {T T' : Nat → Option Tag} {t t' : Tag} {ys : List Int} {v : Value} (h : OwnN tyK T w t ys v) (hT : ∀ g, T g = some t → T' g = some t') : OwnN tyK T' w t' ys v := by
  rcases h with h | ⟨h1, h2⟩
  · exact .inl h
  · exact .inr ⟨h1, fun g hg => hT g (h2 g hg)⟩
theorem OwnSl.retag {T T' : Nat → Option Tag} {r s : Nat} {k : Kd} {xs : List k.T} {ho : Ho} {v : Value} (h : OwnSl tyK T w r k xs ho v) (hw : ho.whole = true)
    (h1 : ∀ g, T g = some (.slot r) → T' g = some (.slot s)) (h2 : ∀ g i j, T g = some (.nest r i j) → T' g = some (.nest s i j)) : OwnSl tyK T' w s k xs .ok v := by
  rcases h with h | ⟨flat, h3, h4, h5, h6⟩
  · exact .inl h
  · refine .inr ⟨flat, h3, fun g hg => h1 g (h4 g hg), h5, fun i x hx j c hc _ => ?_⟩
    obtain ⟨u, hu, hoc⟩ := h6 i x hx j c hc (Ho.not_at hw i j)
    refine ⟨u, hu, ?_⟩
    cases c with
    | nest ys => exact OwnN.retag hoc fun g => h2 g i j
    | _ => exact hoc
theorem OwnN.slot {T T' : Nat → Option Tag} {t : Tag} {s : Nat} {ys : List Int} {v : Value} (h : OwnN tyK T w t ys v) (hT : ∀ g, T g = some t → T' g = some (.slot s)) : OwnSl tyK T' w s .int ys .ok v := by
  rcases h with h | ⟨h1, h2⟩
  · exact .inl h
  · refine .inr ⟨ys.map fun y => .int .i64 y, h1, fun g hg => hT g (h2 g hg), fun u hu => by obtain ⟨_, _, rfl⟩ := List.mem_map.1 hu; rfl, fun i x hx j c hc _ => ?_⟩
    cases j with
    | zero =>
      simp [Kd.cells] at hc
      subst hc
      exact ⟨.int .i64 x, by simp [Kd.size, hx], rfl⟩
    | succ j => simp [Kd.cells] at hc
def Laid (tyK : Kd → TypeId) (R : Re) (w : World) (M : List EM) (s0 : Nat) (lH : List E) (vs : List V) (us : List Value) : Prop :=
  ∀ Rc HL, Fit R Rc M → (∀ i e, lH[i]? = some e → geti HL (s0 + i) = e) → VRs Rc HL w vs us ∧ ∀ i e, lH[i]? = some e → ER tyK Rc HL w (s0 + i) e
theorem VRs.nil {R : Re} {H : List E} {w : World} : VRs R H w [] [] := ⟨rfl, fun i v u h => by simp at h⟩
theorem VRs.mk {R : Re} {H : List E} {w : World} {v : V} {u : Value} {vs : List V} {us : List Value} (h1 : VR R H w v u) (h2 : VRs R H w vs us) : VRs R H w (v :: vs) (u :: us) := by
  refine ⟨by simp [h2.1], fun i v' u' hv' hu' => ?_⟩
  cases i with
  | zero => simp at hv' hu'; subst hv'; subst hu'; exact h1
  | succ i => exact h2.2 i v' u' (by simpa using hv') (by simpa using hu')
theorem VRs.pres {R R' : Re} {H H' : List E} {w w' : World} (hp : Pres R H w R' H' w') {vs : List V} {us : List Value} (h : VRs R H w vs us) : VRs R' H' w' vs us :=
  ⟨h.1, fun i v u hv hu => (h.2 i v u hv hu).pres hp⟩
theorem Laid.cons {M1 M2 : List EM} {s0 : Nat} {lH1 lH2 : List E} {v : V} {u : Value} {vs : List V} {us : List Value} (h1 : Laid tyK R w M1 s0 lH1 [v] [u]) (h2 : Laid tyK R w M2 (s0 + lH1.length) lH2 vs us) :
    Laid tyK R w (M1 ++ M2) s0 (lH1 ++ lH2) (v :: vs) (u :: us) := by
  intro Rc HL hf hH
  obtain ⟨h3, h4⟩ := h1 Rc HL hf.left fun i e he => hH i e (by rw [List.getElem?_append_left (List.getElem?_eq_some_iff.1 he).1]; exact he)
  obtain ⟨h5, h6⟩ := h2 Rc HL hf.right fun i e he => by rw [Nat.add_assoc]; exact hH _ e (by rw [List.getElem?_append_right (by omega), show lH1.length + i - lH1.length = i by omega]; exact he)
  refine ⟨VRs.mk (h3.2 0 v u rfl rfl) h5, fun i e he => ?_⟩
  by_cases hi : i < lH1.length
  · rw [List.getElem?_append_left hi] at he; exact h4 i e he
  · rw [List.getElem?_append_right (by omega)] at he
    have := h6 _ e he
    rwa [show s0 + lH1.length + (i - lH1.length) = s0 + i by omega] at this
theorem Laid.pure {s0 : Nat} {v : V} {u : Value} (h : ∀ Rc HL, (∀ g, R.T g = none → Rc.T g = none) → VR Rc HL w v u) : Laid tyK R w [] s0 [] [v] [u] :=
  fun Rc HL hf _ => ⟨VRs.mk (h Rc HL hf.none_) VRs.nil, fun i e he => by simp at he⟩
mutual
theorem mvA_rel : ∀ (n : Nat) (v : V) (H : List E) (u : Value) (a : A) (ws : List (Nat × E)) (s0 : Nat), HR tyK R H w → VR R H w v u → mvA n v H = some (a, ws) →
    (lay a s0).2.2 = s0 + (lay a s0).2.1.length ∧ ∃ M, Ent H (puts H ws) M s0 (lay a s0).2.2 ∧ Laid tyK R w M s0 (lay a s0).2.1 [(lay a s0).1] [u]
  | 0, v, H, u, a, ws, s0, hh, hv, h => by simp [mvA] at h
  | n + 1, v, H, u, a, ws, s0, hh, hv, h => by
    have plain : ∀ x : V, a = .v x → ws = [] → (∀ Rc HL, (∀ g, R.T g = none → Rc.T g = none) → VR Rc HL w x u) → (lay a s0).2.2 = s0 + (lay a s0).2.1.length ∧ ∃ M, Ent H (puts H ws) M s0 (lay a s0).2.2 ∧ Laid tyK R w M s0 (lay a s0).2.1 [(lay a s0).1] [u] := by
      rintro x rfl rfl hx
      exact ⟨rfl, [], Ent.nil H s0, Laid.pure hx⟩
    cases hv with
    | int m => simp [mvA] at h; exact plain _ h.1.symm h.2 fun _ _ _ => .int _
    | u8 m => simp [mvA] at h; exact plain _ h.1.symm h.2 fun _ _ _ => .u8 _
    | bool m => simp [mvA] at h; exact plain _ h.1.symm h.2 fun _ _ _ => .bool _
    | str m => simp [mvA] at h; exact plain _ h.1.symm h.2 fun _ _ _ => .str _
    | nil => simp [mvA] at h; exact plain _ h.1.symm h.2 fun _ _ _ => .nil
    | emp A => simp [mvA] at h; exact plain _ h.1.symm h.2 fun _ _ _ => .emp _
    | junk => simp [mvA] at h
    | und => simp [mvA] at h
    | em => simp [mvA] at h
    | rp => simp [mvA] at h
    | ep => simp [mvA] at h
    | tup => simp [mvA] at h
    | clo => simp [mvA] at h
    | ro p k xs v hr =>
      cases p with
      | false => simp [mvA] at h
      | true =>
        simp [mvA] at h
        refine plain _ h.1.symm h.2 fun Rc HL hn => .ro _ _ _ _ ?_
        have ro : ∀ g, okRo true (R.T g) → okRo true (Rc.T g) := fun g ho => by
          rcases ho with ho | ⟨h1, _⟩
          · exact .inl (hn g ho)
          · cases h1
        obtain ⟨A, cap, e, h1, h2, h3⟩ := hr
        refine ⟨A, cap, e, h1, h2, fun i x hx => ?_⟩
        obtain ⟨b, o, ea, ho, hc⟩ := h3 i x hx
        refine ⟨b, o, ea, ro b ho, fun j c hj => ?_⟩
        obtain ⟨y, h4, h5⟩ := hc j c hj
        refine ⟨y, h4, ?_⟩
        cases c with
        | nest ys =>
          obtain ⟨A, cap, e, h1, h2, h3⟩ := h5
          exact ⟨A, cap, e, h1, h2, fun i x hx => by obtain ⟨b, o, ea, ho, hc⟩ := h3 i x hx; exact ⟨b, o, ea, ro b ho, hc⟩⟩
        | _ => exact h5
    | bor r v h1 h0 hvv =>
      simp only [mvA] at h
      split at h
      · rename_i k xs ho e
        obtain ⟨hw, h⟩ := cond_none h
        simp only [Option.some.injEq, Prod.mk.injEq] at h
        obtain ⟨rfl, rfl⟩ := h
        have eu := hvv k xs ho e
        have hlt := geti_lt h0
        refine ⟨rfl, [⟨.root r, s0, u⟩], Ent.one (m := ⟨.root r, s0, u⟩) ⟨⟨k, xs, ho, e, hw⟩, geti_set_same hlt⟩ (fun s hs => geti_set_ne hs) (by simp [puts]), fun Rc HL hf hH => ?_⟩
        have e0 : geti HL s0 = .root k xs .ok := hH 0 _ rfl
        have erho : Rc.ρ s0 = u := hf.rho ⟨.root r, s0, u⟩ (by simp) (fun b h => by cases h)
        refine ⟨VRs.mk (.bor s0 u h1 (by rw [e0]; exact fun h => by cases h) fun _ _ _ _ => erho.symm) VRs.nil, fun i e' he' => ?_⟩
        cases i with
        | succ i => simp [lay] at he'
        | zero =>
          simp [lay] at he'
          subst he'
          show OwnSl tyK Rc.T w s0 k xs .ok (Rc.ρ s0)
          rw [erho, eu]
          exact (root_own hh e).retag hw (fun g hg => hf.tag ⟨.root r, s0, u⟩ (by simp) g _ hg rfl) (fun g i j hg => hf.tag ⟨.root r, s0, u⟩ (by simp) g _ hg rfl)
      · cases h
    | borN r i j v h1 h0 hvv =>
      simp only [mvA] at h
      split at h
      · rename_i k xs e
        simp only [Option.some.injEq, Prod.mk.injEq] at h
        obtain ⟨rfl, rfl⟩ := h
        have hlt := geti_lt h0
        refine ⟨rfl, [⟨.nest r i j, s0, u⟩], Ent.one (m := ⟨.nest r i j, s0, u⟩) ⟨k, xs, e, geti_set_same hlt⟩ (fun s hs => geti_set_ne hs) (by simp [puts]), fun Rc HL hf hH => ?_⟩
        have e0 : geti HL s0 = .root .int ((row k xs i).getD j (.int 0)).ints .ok := hH 0 _ rfl
        have erho : Rc.ρ s0 = u := hf.rho ⟨.nest r i j, s0, u⟩ (by simp) (fun b h => by cases h)
        refine ⟨VRs.mk (.bor s0 u h1 (by rw [e0]; exact fun h => by cases h) fun _ _ _ _ => erho.symm) VRs.nil, fun i' e' he' => ?_⟩
        cases i' with
        | succ i => simp [lay] at he'
        | zero =>
          simp [lay] at he'
          subst he'
          show OwnSl tyK Rc.T w s0 .int _ .ok (Rc.ρ s0)
          rw [erho]
          obtain ⟨hi, hj, g, cap, hg, hc⟩ := hvv k xs e
          obtain ⟨g', cap', cur, hr', _, hTg, _, _, _, _, hcell⟩ := own_elem hh e hi
          rw [hg] at hr'
          simp only [Value.slice.injEq, Option.some.injEq, Addr.mk.injEq, and_true] at hr'
          obtain ⟨rfl, _, rfl⟩ := hr'
          obtain ⟨rfl, rfl⟩ := nestAt_inv hj
          obtain ⟨y, hy, hoc⟩ := hcell 1 (.nest (xs.getD i Kd.lock.dflt).Waits) rfl (fun h => h)
          rw [hc] at hy
          injection hy with hy
          subst hy
          exact OwnN.slot hoc fun g hg => hf.tag ⟨.nest r i 1, s0, u⟩ (by simp) g _ hg rfl
      · cases h
    | ptr b j h0 =>
      cases j with
      | succ j => simp [mvA] at h
      | zero =>
        simp only [mvA] at h
        split at h
        · rename_i cs e
          obtain ⟨⟨bz, ws'⟩, hgo, h⟩ := Option.bind_eq_some_iff.1 h
          simp only [Option.some.injEq, Prod.mk.injEq] at h
          obtain ⟨rfl, rfl⟩ := h
          have hlt := geti_lt h0
          have hE1 : Ent H (H.set b .dead) [⟨.box b, s0, undef⟩] s0 (s0 + 1) := Ent.one (m := ⟨.box b, s0, undef⟩) ⟨⟨cs, e⟩, geti_set_same hlt⟩ (fun s hs => geti_set_ne hs) (by simp)
          have hER := hh.at_ b hlt
          rw [e] at hER
          obtain ⟨e', us, hg, hTg, hl, hcv⟩ := hER
          have hvs : VRs R H w cs us.toList := ⟨by rw [Array.length_toList]; exact hl.symm, fun i c u hc hu => (hcv i c u hc (by rw [← Array.getElem?_toList]; exact hu)).1⟩
          obtain ⟨hlen, M, hE2, hL⟩ := mvA_go n cs (H.set b .dead) us.toList bz ws' (s0 + 1) (hE1.hr hh) (hvs.pres hE1.pres) hgo
          refine ⟨by simp only [lay, List.length_cons]; rw [hlen]; omega, _, hE1.append hE2, fun Rc HL hf hH => ?_⟩
          have e0 : geti HL s0 = .box (layL bz (s0 + 1)).1 := hH 0 _ rfl
          obtain ⟨h5, h6⟩ := hL Rc HL hf.right fun i e he => by rw [Nat.add_assoc]; exact hH (1 + i) e (by rw [Nat.add_comm]; exact he)
          have eb : Rc.β s0 = R.β b := hf.beta ⟨.box b, s0, undef⟩ (by simp) b rfl
          refine ⟨VRs.mk (eb ▸ .ptr s0 0 (by rw [e0]; exact fun h => by cases h)) VRs.nil, fun i e2 he2 => ?_⟩
          cases i with
          | zero =>
            simp [lay] at he2
            subst he2
            refine ⟨e', us, by rw [Nat.add_zero, eb]; exact hg, ?_, by rw [h5.1, Array.length_toList], fun i c u hc hu => ⟨h5.2 i c u hc (by rw [Array.getElem?_toList]; exact hu), ?_⟩⟩
            · rw [Nat.add_zero, eb]
              exact hf.tag ⟨.box b, s0, undef⟩ (by simp) _ _ hTg rfl
            · have hlt2 := (Array.getElem?_eq_some_iff.1 hu).1
              rw [hl] at hlt2
              exact (hcv i _ u (List.getElem?_eq_getElem hlt2) hu).2
          | succ i =>
            have := h6 i e2 (by simpa [lay] using he2)
            rwa [show s0 + 1 + i = s0 + (i + 1) by omega] at this
        · cases h
    | agg vs us hl hr =>
      simp only [mvA] at h
      obtain ⟨⟨bz, ws'⟩, hgo, h⟩ := Option.bind_eq_some_iff.1 h
      simp only [Option.some.injEq, Prod.mk.injEq] at h
      obtain ⟨rfl, rfl⟩ := h
      obtain ⟨hlen, M, hE, hL⟩ := mvA_go n vs H us bz ws' s0 hh ⟨hl, hr⟩ hgo
      refine ⟨hlen, M, hE, fun Rc HL hf hH => ?_⟩
      obtain ⟨h5, h6⟩ := hL Rc HL hf hH
      exact ⟨VRs.mk (.agg _ _ h5.1 h5.2) VRs.nil, h6⟩
theorem mvA_go : ∀ (n : Nat) (vs : List V) (H : List E) (us : List Value) (bz : List A) (ws : List (Nat × E)) (s0 : Nat), HR tyK R H w → VRs R H w vs us → mvA.go n vs H = some (bz, ws) →
    (layL bz s0).2.2 = s0 + (layL bz s0).2.1.length ∧ ∃ M, Ent H (puts H ws) M s0 (layL bz s0).2.2 ∧ Laid tyK R w M s0 (layL bz s0).2.1 (layL bz s0).1 us
  | 0, vs, H, us, bz, ws, s0, hh, hv, h => by simp [mvA.go] at h
  | n + 1, [], H, us, bz, ws, s0, hh, hv, h => by
    simp [mvA.go] at h
    obtain ⟨rfl, rfl⟩ := h
    have : us = [] := by have := hv.1; simpa using this.symm
    subst this
    exact ⟨rfl, [], Ent.nil H s0, fun Rc HL _ _ => ⟨VRs.nil, fun i e he => by simp [layL] at he⟩⟩
  | n + 1, v :: vs, H, [], bz, ws, s0, hh, hv, h => by have := hv.1; simp at this
  | n + 1, v :: vs, H, u :: us, bz, ws, s0, hh, hv, h => by
    obtain ⟨hv1, hv2⟩ := hv.cons
    simp only [mvA.go] at h
    obtain ⟨⟨a1, ws1⟩, e1, h⟩ := Option.bind_eq_some_iff.1 h
    obtain ⟨⟨as2, ws2⟩, e2, h⟩ := Option.bind_eq_some_iff.1 h
    simp only [Option.some.injEq, Prod.mk.injEq] at h
    obtain ⟨rfl, rfl⟩ := h
    obtain ⟨l1, M1, E1, L1⟩ := mvA_rel n v H u a1 ws1 s0 hh hv1 e1
    obtain ⟨l2, M2, E2, L2⟩ := mvA_go n vs (puts H ws1) us as2 ws2 (lay a1 s0).2.2 (E1.hr hh) (hv2.pres E1.pres) e2
    refine ⟨by simp only [layL, List.length_append]; rw [l2, l1]; omega, M1 ++ M2, ?_, ?_⟩
    · rw [puts_append]; exact E1.append E2
    · rw [l1] at L2
      simp only [layL]
      rw [l1]
      exact L1.cons L2
end
end
end Go.Proofs.Ytoedeimpfbebpaa.VR
end
section
set_option linter.unusedVariables false
set_option linter.unusedSimpArgs false
set_option linter.unusedSectionVars false
namespace Go.Proofs.Ytoedeimpfbebpaa.VR
open Go
section
variable {tyK : Kd → TypeId} {R : Re} {H : List E} {w : World}
theorem mkArgs_rel : ∀ (vs : List V) (ms : List AM) (H : List E) (us : List Value) (xs : List (V ⊕ A)) (ws : List (Nat × E)) (s0 : Nat) (Hf : List E) (bz : List A), HR tyK R H w → VRs R H w vs us → mkArgs vs ms H = some (xs, ws) →
    fzArgs Hf xs = some bz → HR tyK R Hf w → Pres R (puts H ws) w R Hf w →
    (layL bz s0).2.2 = s0 + (layL bz s0).2.1.length ∧ ∃ M, Ent H (puts H ws) M s0 (layL bz s0).2.2 ∧ ∀ Rc, FzFit R Hf Rc → ∀ HL, Fit R Rc M → (∀ i e, (layL bz s0).2.1[i]? = some e → geti HL (s0 + i) = e) →
      VRs Rc HL w (layL bz s0).1 us ∧ ∀ i e, (layL bz s0).2.1[i]? = some e → ER tyK Rc HL w (s0 + i) e
  | [], [], H, us, xs, ws, s0, Hf, bz, hh, hv, h, hz, hhf, hp => by
    simp [mkArgs] at h
    obtain ⟨rfl, rfl⟩ := h
    simp [fzArgs] at hz
    subst hz
    have : us = [] := by have := hv.1; simpa using this.symm
    subst this
    exact ⟨rfl, [], Ent.nil H s0, fun Rc _ HL _ _ => ⟨VRs.nil, fun i e he => by simp [layL] at he⟩⟩
  | [], m :: ms, H, us, xs, ws, s0, Hf, bz, hh, hv, h, hz, hhf, hp => by simp [mkArgs] at h
  | v :: vs, [], H, us, xs, ws, s0, Hf, bz, hh, hv, h, hz, hhf, hp => by simp [mkArgs] at h
  | v :: vs, m :: ms, H, [], xs, ws, s0, Hf, bz, hh, hv, h, hz, hhf, hp => by have := hv.1; simp at this
  | v :: vs, .ro :: ms, H, u :: us, xs, ws, s0, Hf, bz, hh, hv, h, hz, hhf, hp => by
    obtain ⟨hv1, hv2⟩ := hv.cons
    simp only [mkArgs] at h
    obtain ⟨⟨xs', ws'⟩, e1, h⟩ := Option.bind_eq_some_iff.1 h
    simp only [Option.some.injEq, Prod.mk.injEq] at h
    obtain ⟨rfl, rfl⟩ := h
    simp only [fzArgs] at hz
    obtain ⟨v', ez, hz⟩ := Option.bind_eq_some_iff.1 hz
    obtain ⟨as', ea, hz⟩ := Option.bind_eq_some_iff.1 hz
    injection hz with hz
    subst hz
    obtain ⟨hl, M, hE, hL⟩ := mkArgs_rel vs ms H us xs' ws' s0 Hf as' hh hv2 e1 ea hhf hp
    refine ⟨by simpa [layL, lay] using hl, M, by simpa [layL, lay] using hE, fun Rc hF HL hf hH => ?_⟩
    obtain ⟨h1, h2⟩ := hL Rc hF HL hf (by simpa [layL, lay] using hH)
    refine ⟨?_, by simpa [layL, lay] using h2⟩
    show VRs Rc HL w (v' :: _) (u :: us)
    exact VRs.mk (fz_rel hhf hF HL 60 v v' u ((hv1.pres hE.pres).pres hp) ez) h1
  | v :: vs, .mv :: ms, H, u :: us, xs, ws, s0, Hf, bz, hh, hv, h, hz, hhf, hp => by
    obtain ⟨hv1, hv2⟩ := hv.cons
    simp only [mkArgs] at h
    obtain ⟨⟨a1, ws1⟩, e1, h⟩ := Option.bind_eq_some_iff.1 h
    obtain ⟨⟨xs', ws'⟩, e2, h⟩ := Option.bind_eq_some_iff.1 h
    simp only [Option.some.injEq, Prod.mk.injEq] at h
    obtain ⟨rfl, rfl⟩ := h
    simp only [fzArgs] at hz
    obtain ⟨as', ea, hz⟩ := Option.bind_eq_some_iff.1 hz
    injection hz with hz
    subst hz
    obtain ⟨l1, M1, E1, L1⟩ := mvA_rel (tyK := tyK) 40 v H u a1 ws1 s0 hh hv1 e1
    rw [puts_append] at hp
    obtain ⟨l2, M2, E2, L2⟩ := mkArgs_rel vs ms (puts H ws1) us xs' ws' (lay a1 s0).2.2 Hf as' (E1.hr hh) (hv2.pres E1.pres) e2 ea hhf hp
    refine ⟨by simp only [layL, List.length_append]; rw [l2, l1]; omega, M1 ++ M2, by rw [puts_append]; exact E1.append E2, fun Rc hF HL hf hH => ?_⟩
    have hL2 : ∀ Rc, FzFit R Hf Rc → ∀ HL, Fit R Rc M2 → _ := L2
    have hH1 : ∀ i e, (lay a1 s0).2.1[i]? = some e → geti HL (s0 + i) = e := fun i e he => hH i e (by simp only [layL]; rw [List.getElem?_append_left (List.getElem?_eq_some_iff.1 he).1]; exact he)
    obtain ⟨h3, h4⟩ := L1 Rc HL hf.left hH1
    obtain ⟨h5, h6⟩ := hL2 Rc hF HL hf.right fun i e he => by
      rw [l1, Nat.add_assoc]
      exact hH _ e (by simp only [layL]; rw [List.getElem?_append_right (by omega), show (lay a1 s0).2.1.length + i - (lay a1 s0).2.1.length = i by omega]; exact he)
    refine ⟨VRs.mk (h3.2 0 _ u rfl rfl) h5, fun i e he => ?_⟩
    simp only [layL] at he
    by_cases hi : i < (lay a1 s0).2.1.length
    · rw [List.getElem?_append_left hi] at he; exact h4 i e he
    · rw [List.getElem?_append_right (by omega)] at he
      have := h6 _ e he
      rwa [show (lay a1 s0).2.2 + (i - (lay a1 s0).2.1.length) = s0 + i by rw [l1]; omega] at this
/-! ### The callee's tags -/
open Classical in
noncomputable def phi : List EM → Tag → Tag
  | [], _ => .frozen
  | m :: M, t => if m.src.cov t then m.src.retag m.tgt t else phi M t
theorem Src.cov_of {s : Src} {t : Tag} (h : s.cov t) : t.of s.slot := by
  cases s with
  | nest r i j => cases h; rfl
  | root r => exact h
  | box b => exact h
theorem phi_mem : ∀ {M : List EM} {m : EM} {t : Tag}, M.Pairwise (fun m m' => m.src.slot ≠ m'.src.slot ∧ m.tgt ≠ m'.tgt) → m ∈ M → m.src.cov t → phi M t = m.src.retag m.tgt t
  | m' :: M, m, t, hd, hm, hc => by
    rw [List.pairwise_cons] at hd
    unfold phi
    rcases List.mem_cons.1 hm with rfl | hm
    · rw [if_pos hc]
    · rw [if_neg, phi_mem hd.2 hm hc]
      intro hc'
      exact (hd.1 m hm).1 (of_inj (Src.cov_of hc') (Src.cov_of hc))
theorem phi_out : ∀ {M : List EM} {t : Tag}, (∀ m ∈ M, ¬ m.src.cov t) → phi M t = .frozen
  | [], t, _ => rfl
  | m :: M, t, h => by
    unfold phi
    rw [if_neg (h m (by simp)), phi_out fun m' hm' => h m' (by simp [hm'])]
def rhoM : List EM → Nat → Value
  | [], _ => undef
  | m :: M, s => if m.tgt = s then m.val else rhoM M s
def betaM (β : Nat → Nat) : List EM → Nat → Nat
  | [], _ => 0
  | m :: M, s => if m.tgt = s then (match m.src with | .box b => β b | _ => 0) else betaM β M s
theorem rhoM_mem : ∀ {M : List EM} {m : EM}, M.Pairwise (fun m m' => m.src.slot ≠ m'.src.slot ∧ m.tgt ≠ m'.tgt) → m ∈ M → rhoM M m.tgt = m.val
  | m' :: M, m, hd, hm => by
    rw [List.pairwise_cons] at hd
    unfold rhoM
    rcases List.mem_cons.1 hm with rfl | hm
    · rw [if_pos rfl]
    · rw [if_neg (hd.1 m hm).2, rhoM_mem hd.2 hm]
theorem betaM_mem {β : Nat → Nat} : ∀ {M : List EM} {m : EM} {b : Nat}, M.Pairwise (fun m m' => m.src.slot ≠ m'.src.slot ∧ m.tgt ≠ m'.tgt) → m ∈ M → m.src = .box b → betaM β M m.tgt = β b
  | m' :: M, m, b, hd, hm, e => by
    rw [List.pairwise_cons] at hd
    unfold betaM
    rcases List.mem_cons.1 hm with rfl | hm
    · rw [if_pos rfl, e]
    · rw [if_neg (hd.1 m hm).2, betaM_mem hd.2 hm e]
noncomputable def Re.inn (R : Re) (M : List EM) : Re := ⟨fun g => (R.T g).map (phi M), betaM R.β M, rhoM M⟩
theorem Ent.fit {H' : List E} {M : List EM} {a b : Nat} (h : Ent H H' M a b) : Fit R (R.inn M) M := by
  refine ⟨fun g hg => ?_, fun m hm g t ht hc => ?_, fun m hm _ => rhoM_mem h.dist hm, fun m hm b e => betaM_mem h.dist hm e⟩
  · show (R.T g).map _ = none; rw [hg]; rfl
  · show (R.T g).map _ = _; rw [ht]; simp [phi_mem h.dist hm hc]
theorem frozen_cov (s : Src) : ¬ s.cov .frozen := by
  cases s with
  | nest r i j => exact fun h => by cases h
  | root r => exact fun h => h
  | box b => exact fun h => h
theorem Ent.fz {H' : List E} {M : List EM} {a b : Nat} (h : Ent H H' M a b) : FzFit R H' (R.inn M) := by
  refine ⟨fun g hg => ?_, fun g hg => ?_, fun g t s ht hof hw => ?_⟩
  · show (R.T g).map _ = none; rw [hg]; rfl
  · show (R.T g).map _ = _; rw [hg]; simp [phi_out fun m _ => frozen_cov m.src]
  · show (R.T g).map _ = _
    rw [ht]
    simp only [Option.map_some, Option.some.injEq]
    refine phi_out fun m hm hc => ?_
    have e := of_inj (Src.cov_of hc) hof
    obtain ⟨_, rfl, _, hw2, _⟩ := (h.ok m hm).use
    rw [e, hw] at hw2
    cases hw2
/-! ### The way out -/
structure XM where
  src : Option Nat
  tgt : Option Nat
  val : Value
  own : Bool
  pin : Bool
structure Ext (H H' : List E) (X : List XM) : Prop where
  ok : ∀ m ∈ X, ∀ s, m.src = some s → (geti H s).whole = true ∧ geti H' s = .dead
  same : ∀ s, (∀ m ∈ X, m.src ≠ some s) → geti H' s = geti H s
  dist : X.Pairwise fun m m' => ∀ s, m.src = some s → m'.src ≠ some s
  len : H'.length = H.length
theorem Ext.nil (H : List E) : Ext H H [] := ⟨fun m hm => (by cases hm), fun _ _ => rfl, .nil, rfl⟩
theorem Ext.append {H H1 H2 : List E} {X1 X2 : List XM} (h1 : Ext H H1 X1) (h2 : Ext H1 H2 X2) : Ext H H2 (X1 ++ X2) := by
  have hd : ∀ m ∈ X1, ∀ m' ∈ X2, ∀ s, m.src = some s → m'.src ≠ some s := by
    intro m hm m' hm' s e e'
    have h3 := (h1.ok m hm s e).2
    have h4 := (h2.ok m' hm' s e').1
    rw [h3] at h4
    cases h4
  refine ⟨fun m hm s e => ?_, fun s hs => ?_, List.pairwise_append.2 ⟨h1.dist, h2.dist, hd⟩, h2.len.trans h1.len⟩
  · rcases List.mem_append.1 hm with hm | hm
    · exact ⟨(h1.ok m hm s e).1, by rw [h2.same s fun m' hm' => hd m hm m' hm' s e]; exact (h1.ok m hm s e).2⟩
    · refine ⟨?_, (h2.ok m hm s e).2⟩
      rw [← h1.same s fun m' hm' e' => hd m' hm' m hm s e' e]
      exact (h2.ok m hm s e).1
  · rw [h2.same s fun m hm => hs m (List.mem_append.2 (.inr hm)), h1.same s fun m hm => hs m (List.mem_append.2 (.inl hm))]
theorem Ext.one {s : Nat} (hw : (geti H s).whole = true) (tgt : Option Nat) (val : Value) (own pin : Bool) : Ext H (H.set s .dead) [⟨some s, tgt, val, own, pin⟩] := by
  have hlt : s < H.length := geti_lt fun e => by rw [e] at hw; cases hw
  refine ⟨fun m hm s' e => ?_, fun s' hs => ?_, List.pairwise_singleton _ _, by simp⟩
  · simp at hm
    subst hm
    simp at e
    subst e
    exact ⟨hw, geti_set_same hlt⟩
  · have := hs ⟨some s, tgt, val, own, pin⟩ (by simp)
    exact geti_set_ne fun e => this (by rw [e])
theorem Ext.keep (tgt : Option Nat) (val : Value) (own pin : Bool) : Ext H H [⟨none, tgt, val, own, pin⟩] :=
  ⟨fun m hm s e => (by simp at hm; subst hm; cases e), fun _ _ => rfl, List.pairwise_singleton _ _, rfl⟩
theorem Ext.pres {H' : List E} {X : List XM} (h : Ext H H' X) : Pres R H w R H' w := by
  refine ⟨Step.refl R w, fun s hs => ?_, fun _ _ => rfl, fun s k xs' ho' hs e => ?_⟩
  · by_cases hm : ∃ m ∈ X, m.src = some s
    · obtain ⟨m, hm, e⟩ := hm
      rw [(h.ok m hm s e).2]; exact fun h => by cases h
    · rw [h.same s fun m hm' e => hm ⟨m, hm', e⟩]; exact hs
  · by_cases hm : ∃ m ∈ X, m.src = some s
    · obtain ⟨m, hm, e2⟩ := hm
      rw [(h.ok m hm s e2).2] at e
      cases e
    · rw [h.same s fun m hm' e => hm ⟨m, hm', e⟩] at e
      exact ⟨xs', ho', e, rfl, rfl, fun h => ⟨h, fun _ _ _ _ _ _ _ _ => rfl⟩⟩
theorem Ext.hr {H' : List E} {X : List XM} (h : Ext H H' X) (hh : HR tyK R H w) : HR tyK R H' w := by
  refine hh.next h.pres h.len (fun s hs => ?_) hh.none_
  by_cases hm : ∃ m ∈ X, m.src = some s
  · obtain ⟨m, hm, e⟩ := hm
    refine .inr ?_
    rw [(h.ok m hm s e).2]
    trivial
  · exact .inl ⟨h.same s fun m hm' e => hm ⟨m, hm', e⟩, fun g t ht _ => ⟨ht, rfl⟩⟩
structure XFit (Rc R' : Re) (X : List XM) : Prop where
  none_ : ∀ g, Rc.T g = none → R'.T g = none
  slot : ∀ m ∈ X, ∀ s, m.src = some s → ∀ g, Rc.T g = some (.slot s) → R'.T g = m.tgt.map .slot
  nest : ∀ m ∈ X, ∀ s, m.src = some s → ∀ g i j, Rc.T g = some (.nest s i j) → R'.T g = m.tgt.map fun t => .nest t i j
  rho : ∀ m ∈ X, m.own = true ∨ m.pin = true → ∀ t, m.tgt = some t → R'.ρ t = m.val
  beta : ∀ m ∈ X, m.own = false → m.pin = false → ∀ t s, m.tgt = some t → m.src = some s → R'.β t = Rc.β s
theorem XFit.left {Rc R' : Re} {X1 X2 : List XM} (h : XFit Rc R' (X1 ++ X2)) : XFit Rc R' X1 :=
  ⟨h.none_, fun m hm => h.slot m (List.mem_append.2 (.inl hm)), fun m hm => h.nest m (List.mem_append.2 (.inl hm)), fun m hm => h.rho m (List.mem_append.2 (.inl hm)), fun m hm => h.beta m (List.mem_append.2 (.inl hm))⟩
theorem XFit.right {Rc R' : Re} {X1 X2 : List XM} (h : XFit Rc R' (X1 ++ X2)) : XFit Rc R' X2 :=
  ⟨h.none_, fun m hm => h.slot m (List.mem_append.2 (.inr hm)), fun m hm => h.nest m (List.mem_append.2 (.inr hm)), fun m hm => h.rho m (List.mem_append.2 (.inr hm)), fun m hm => h.beta m (List.mem_append.2 (.inr hm))⟩
def ownT (X : List XM) : List (Option Nat) := (X.filter (·.own)).map (·.tgt)
theorem ownT_append (X1 X2 : List XM) : ownT (X1 ++ X2) = ownT X1 ++ ownT X2 := by simp [ownT]
/-- What comes back, in the caller's slots. -/
structure Back (tyK : Kd → TypeId) (Pn : Nat × E → Prop) (Rc : Re) (w : World) (X : List XM) (ws : List (Nat × E)) (vs : List V) (us : List Value) : Prop where
  tgt : X.filterMap (·.tgt) = ws.map (·.1)
  live : ∀ p ∈ ws, (p.2 ≠ .fresh ∧ p.2 ≠ .dead) ∧ ((∃ cs, p.2 = .box cs) ∨ some p.1 ∈ ownT X ∨ Pn p)
  len : vs.length = us.length
  rel : ∀ R' H', XFit Rc R' X → (∀ p ∈ ws, geti H' p.1 = p.2) → VRs R' H' w vs us ∧ ∀ p ∈ ws, ER tyK R' H' w p.1 p.2
theorem Back.append {Pn : Nat × E → Prop} {Rc : Re} {X1 X2 : List XM} {ws1 ws2 : List (Nat × E)} {vs1 vs2 : List V} {us1 us2 : List Value} (h1 : Back tyK Pn Rc w X1 ws1 vs1 us1) (h2 : Back tyK Pn Rc w X2 ws2 vs2 us2) :
    Back tyK Pn Rc w (X1 ++ X2) (ws1 ++ ws2) (vs1 ++ vs2) (us1 ++ us2) := by
  refine ⟨by simp [h1.tgt, h2.tgt], fun p hp => ?_, by simp [h1.len, h2.len], fun R' H' hx hH => ?_⟩
  · rcases List.mem_append.1 hp with hp | hp
    · obtain ⟨h3, h4⟩ := h1.live p hp
      exact ⟨h3, h4.imp id fun h => h.imp (fun h => by rw [ownT_append]; exact List.mem_append.2 (.inl h)) id⟩
    · obtain ⟨h3, h4⟩ := h2.live p hp
      exact ⟨h3, h4.imp id fun h => h.imp (fun h => by rw [ownT_append]; exact List.mem_append.2 (.inr h)) id⟩
  · obtain ⟨h3, h4⟩ := h1.rel R' H' hx.left fun p hp => hH p (List.mem_append.2 (.inl hp))
    obtain ⟨h5, h6⟩ := h2.rel R' H' hx.right fun p hp => hH p (List.mem_append.2 (.inr hp))
    refine ⟨⟨by simp [h3.1, h5.1], fun i v u hv hu => ?_⟩, fun p hp => ?_⟩
    · by_cases hi : i < vs1.length
      · rw [List.getElem?_append_left hi] at hv
        rw [List.getElem?_append_left (by rw [← h3.1]; exact hi)] at hu
        exact h3.2 i v u hv hu
      · rw [List.getElem?_append_right (by omega)] at hv
        rw [List.getElem?_append_right (by rw [← h3.1]; omega), ← h3.1] at hu
        exact h5.2 _ v u hv hu
    · rcases List.mem_append.1 hp with hp | hp
      · exact h4 p hp
      · exact h6 p hp
theorem Back.pure {Pn : Nat × E → Prop} {Rc : Re} {v : V} {u : Value} (h : ∀ R' H', (∀ g, Rc.T g = none → R'.T g = none) → VR R' H' w v u) : Back tyK Pn Rc w [] [] [v] [u] :=
  ⟨rfl, fun p hp => (by cases hp), rfl, fun R' H' hx _ => ⟨VRs.mk (h R' H' hx.none_) VRs.nil, fun p hp => (by cases hp)⟩⟩
end
end Go.Proofs.Ytoedeimpfbebpaa.VR
end
section
set_option linter.unusedVariables false
set_option linter.unusedSimpArgs false
set_option linter.unusedSectionVars false
namespace Go.Proofs.Ytoedeimpfbebpaa.VR
open Go
section
variable {tyK : Kd → TypeId} {R : Re} {H : List E} {w : World}
theorem RoSl.keep {T T' : Nat → Option Tag} {k : Kd} {xs : List k.T} {u : Value} (hr : RoSl T w true k xs u) (hn : ∀ g, T g = none → T' g = none) : RoSl T' w true k xs u := by
  have ro : ∀ g, okRo true (T g) → okRo true (T' g) := fun g ho => by
    rcases ho with ho | ⟨h1, _⟩
    · exact .inl (hn g ho)
    · cases h1
  obtain ⟨A, cap, e, h1, h2, h3⟩ := hr
  refine ⟨A, cap, e, h1, h2, fun i x hx => ?_⟩
  obtain ⟨b, o, ea, ho, hc⟩ := h3 i x hx
  refine ⟨b, o, ea, ro b ho, fun j c hj => ?_⟩
  obtain ⟨y, h4, h5⟩ := hc j c hj
  refine ⟨y, h4, ?_⟩
  cases c with
  | nest ys =>
    obtain ⟨A, cap, e, h1, h2, h3⟩ := h5
    exact ⟨A, cap, e, h1, h2, fun i x hx => by obtain ⟨b, o, ea, ho, hc⟩ := h3 i x hx; exact ⟨b, o, ea, ro b ho, hc⟩⟩
  | _ => exact h5
def XM.kill (m : XM) : XM := ⟨m.src, none, undef, false, true⟩
theorem Ext.kill {H H' : List E} {X : List XM} (h : Ext H H' X) : Ext H H' (X.map XM.kill) := by
  refine ⟨fun m hm s e => ?_, fun s hs => h.same s fun m hm => hs m.kill (List.mem_map.2 ⟨m, hm, rfl⟩), List.pairwise_map.2 (h.dist.imp fun h => h), h.len⟩
  obtain ⟨m', hm', rfl⟩ := List.mem_map.1 hm
  exact h.ok m' hm' s e
theorem kill_ownT (X : List XM) : ownT (X.map XM.kill) = [] := by
  induction X with
  | nil => rfl
  | cons m X ih => exact ih
theorem kill_tgt (X : List XM) : (X.map XM.kill).filterMap (·.tgt) = [] := by
  induction X with
  | nil => rfl
  | cons m X ih => exact ih
structure Tk (tyK : Kd → TypeId) (Rc : Re) (w : World) (Hf Hf' : List E) (rest : List V) (us upre urest : List Value) (X : List XM) (ss ss' : List (Option Nat)) : Prop where
  us : us = upre ++ urest
  rest : VRs Rc Hf' w rest urest
  ext : Ext Hf Hf' X
  ss : ss = ownT X ++ ss'
theorem Tk.one {Rc : Re} {Hf Hf' : List E} {v : V} {vs : List V} {u : Value} {us : List Value} {X : List XM} {ss ss' : List (Option Nat)} (hv : VRs Rc Hf w (v :: vs) (u :: us)) (hx : Ext Hf Hf' X) (hs : ss = ownT X ++ ss') :
    Tk tyK Rc w Hf Hf' vs (u :: us) [u] us X ss ss' := ⟨rfl, hv.cons.2.pres hx.pres, hx, hs⟩
def NoTgt (X : List XM) : Prop := ∀ m ∈ X, m.own = false → m.tgt = none
theorem VRs.left {Rc : Re} {Hf : List E} {v : V} {vs : List V} {us : List Value} (h : VRs Rc Hf w (v :: vs) us) : ∃ u us', us = u :: us' := by
  cases us with
  | nil => have := h.1; simp at this
  | cons u us => exact ⟨u, us, rfl⟩
theorem isNil_eq {vs : List V} (h : isNil vs = true) : vs = [] := by cases vs with | nil => rfl | cons => cases h
theorem thaw_rel {Pn : Nat × E → Prop} {Rc : Re} : ∀ (sh : Sh) (vs : List V) (us : List Value) (Hf : List E) (r : sh.T) (rest : List V) (Hf' : List E) (ss : List (Option Nat)), HR tyK Rc Hf w → VRs Rc Hf w vs us → take sh vs Hf = some (r, rest, Hf') →
    ∃ X upre urest, Tk tyK Rc w Hf Hf' rest us upre urest X ss (thaw sh r ss).ss ∧ NoTgt X ∧ Back tyK Pn Rc w X (thaw sh r ss).ws (thaw sh r ss).vs upre := by
  intro sh
  have scalar : ∀ {v : V} {vs : List V} {us : List Value} {Hf : List E} {ss : List (Option Nat)} (x : V), VRs Rc Hf w (v :: vs) us → (∀ (u : Value) R' H', VR Rc Hf w v u → (∀ g, Rc.T g = none → R'.T g = none) → VR R' H' w x u) →
      ∃ X upre urest, Tk tyK Rc w Hf Hf vs us upre urest X ss ss ∧ NoTgt X ∧ Back tyK Pn Rc w X [] [x] upre := by
    intro v vs us Hf ss x hv hx
    obtain ⟨u, us', rfl⟩ := hv.left
    exact ⟨[], [u], us', Tk.one hv (Ext.nil Hf) rfl, fun m hm => (by cases hm), Back.pure fun R' H' hn => hx u R' H' hv.cons.1 hn⟩
  -- an own slice comes to rest
  have own : ∀ {v : V} {vs : List V} {us : List Value} {Hf Hf' : List E} {ss : List (Option Nat)} (k : Kd) (xs : List k.T) (src : Option Nat), VRs Rc Hf w (v :: vs) us →
      (∀ (tgt : Option Nat) (val : Value) (b c : Bool), Ext Hf Hf' [⟨src, tgt, val, b, c⟩]) →
      (∀ (u : Value), VR Rc Hf w v u → u.oneCell' = true ∧ ∀ (T' : Nat → Option Tag), (∀ g, Rc.T g = none → T' g = none) →
        (∀ s, (∀ q, src = some q → (∀ g, Rc.T g = some (.slot q) → T' g = some (.slot s)) ∧ ∀ g i j, Rc.T g = some (.nest q i j) → T' g = some (.nest s i j)) → OwnSl tyK T' w s k xs .ok u) ∧
        ((∀ q, src = some q → ∀ g t, Rc.T g = some t → t.of q → T' g = none) → RoSl T' w true k xs u)) →
      ∃ X upre urest, Tk tyK Rc w Hf Hf' vs us upre urest X ss (thaw (.own k) xs ss).ss ∧ NoTgt X ∧ Back tyK Pn Rc w X (thaw (.own k) xs ss).ws (thaw (.own k) xs ss).vs upre := by
    intro v vs us Hf Hf' ss k xs src hv hext hu
    obtain ⟨u, us', rfl⟩ := hv.left
    obtain ⟨h1, h2⟩ := hu u hv.cons.1
    match ss with
    | [] =>
      refine ⟨[⟨src, none, undef, false, true⟩], [u], us', Tk.one hv (hext _ _ _ _) rfl, fun m hm _ => (by simp at hm; subst hm; rfl), rfl, fun p hp => (by cases hp), rfl, fun R' H' hx _ => ⟨VRs.mk (.junk _) VRs.nil, fun p hp => (by cases hp)⟩⟩
    | none :: ss =>
      refine ⟨[⟨src, none, u, true, false⟩], [u], us', Tk.one hv (hext _ _ _ _) rfl, fun m hm h => (by simp at hm; subst hm; cases h), rfl, fun p hp => (by cases hp), rfl, fun R' H' hx _ => ⟨VRs.mk (.ro true k xs u ?_) VRs.nil, fun p hp => (by cases hp)⟩⟩
      refine (h2 R'.T hx.none_).2 fun q e g t ht hof => ?_
      cases t with
      | slot q' => cases hof; exact hx.slot _ (List.mem_singleton.2 rfl) q e g ht
      | nest q' i j => cases hof; exact hx.nest _ (List.mem_singleton.2 rfl) q e g i j ht
      | frozen => exact hof.elim
    | some s :: ss =>
      refine ⟨[⟨src, some s, u, true, false⟩], [u], us', Tk.one hv (hext _ _ _ _) rfl, fun m hm h => (by simp at hm; subst hm; cases h), rfl, fun p hp => (by simp [thaw] at hp; subst hp; exact ⟨⟨(fun h => by cases h), (fun h => by cases h)⟩, .inr (.inl (by simp [ownT]))⟩), rfl, fun R' H' hx hH => ?_⟩
      have e0 : geti H' s = .root k xs .ok := hH (s, .root k xs .ok) (by simp [thaw])
      have erho : R'.ρ s = u := hx.rho _ (List.mem_singleton.2 rfl) (.inl rfl) s rfl
      refine ⟨VRs.mk (.bor s u h1 (by rw [e0]; exact fun h => by cases h) fun _ _ _ _ => erho.symm) VRs.nil, fun p hp => ?_⟩
      simp [thaw] at hp
      subst hp
      show OwnSl tyK R'.T w s k xs .ok (R'.ρ s)
      rw [erho]
      exact (h2 R'.T hx.none_).1 s fun q e => ⟨fun g hg => hx.slot _ (List.mem_singleton.2 rfl) q e g hg, fun g i j hg => hx.nest _ (List.mem_singleton.2 rfl) q e g i j hg⟩
  have empty : ∀ {v : V} {vs : List V} {us : List Value} {Hf : List E} {ss : List (Option Nat)} (k : Kd), VRs Rc Hf w (v :: vs) us → (∀ u, VR Rc Hf w v u → ∃ A, u = .slice A 0 0) →
      ∃ X upre urest, Tk tyK Rc w Hf Hf vs us upre urest X ss (thaw (.own k) [] ss).ss ∧ NoTgt X ∧ Back tyK Pn Rc w X (thaw (.own k) [] ss).ws (thaw (.own k) [] ss).vs upre := by
    intro v vs us Hf ss k hv hA
    refine own k [] none hv (fun _ _ _ _ => Ext.keep _ _ _ _) fun u hu => ?_
    obtain ⟨A, rfl⟩ := hA u hu
    exact ⟨rfl, fun T' _ => ⟨fun s _ => .inl ⟨A, rfl, rfl⟩, fun _ => ⟨A, 0, rfl, Nat.le_refl _, by simp [maxLen], fun i x hx => by simp at hx⟩⟩⟩
  have roE : ∀ {u : Value} {k : Kd} {T' : Nat → Option Tag}, (∃ A, u = .slice A 0 0) → RoSl T' w true k [] u := by
    rintro u k T' ⟨A, rfl⟩
    exact ⟨A, 0, rfl, Nat.le_refl _, by simp [maxLen], fun i x hx => by simp at hx⟩
  have nilA : ∀ {Hf : List E} {u : Value}, VR Rc Hf w .nil u → ∃ A, u = .slice A 0 0 := fun h => by cases h; exact ⟨_, rfl⟩
  have empA : ∀ {Hf : List E} {u : Value}, VR Rc Hf w .emp u → ∃ A, u = .slice A 0 0 := fun h => by cases h; exact ⟨_, rfl⟩
  induction sh with
  | int =>
    intro vs us Hf r rest Hf' ss hh hv h
    cases vs with
    | nil => simp [take] at h
    | cons v vs =>
      cases v <;> simp [take] at h
      obtain ⟨rfl, rfl, rfl⟩ := h
      exact scalar (.int _) hv fun u R' H' hu _ => by cases hu; exact .int _
  | u8 =>
    intro vs us Hf r rest Hf' ss hh hv h
    cases vs with
    | nil => simp [take] at h
    | cons v vs =>
      cases v <;> simp [take] at h
      obtain ⟨rfl, rfl, rfl⟩ := h
      exact scalar (.u8 _) hv fun u R' H' hu _ => by cases hu; exact .u8 _
  | bool =>
    intro vs us Hf r rest Hf' ss hh hv h
    cases vs with
    | nil => simp [take] at h
    | cons v vs =>
      cases v <;> simp [take] at h
      obtain ⟨rfl, rfl, rfl⟩ := h
      exact scalar (.bool _) hv fun u R' H' hu _ => by cases hu; exact .bool _
  | str =>
    intro vs us Hf r rest Hf' ss hh hv h
    cases vs with
    | nil => simp [take] at h
    | cons v vs =>
      cases v <;> simp [take] at h
      obtain ⟨rfl, rfl, rfl⟩ := h
      exact scalar (.str _) hv fun u R' H' hu _ => by cases hu; exact .str _
  | own k =>
    intro vs us Hf r rest Hf' ss hh hv h
    cases vs with
    | nil => simp [take] at h
    | cons v vs =>
      cases v <;> (try simp only [take] at h) <;> first | (cases h; done) | skip
      · simp only [Option.some.injEq, Prod.mk.injEq] at h
        obtain ⟨rfl, rfl, rfl⟩ := h
        exact empty k hv fun u hu => nilA hu
      · simp only [Option.some.injEq, Prod.mk.injEq] at h
        obtain ⟨rfl, rfl, rfl⟩ := h
        exact empty k hv fun u hu => empA hu
      · rename_i q
        split at h
        · rename_i k' xs ho e
          obtain ⟨hw, h⟩ := cond_none h
          split at h
          · rename_i hk
            subst hk
            simp only [Option.some.injEq, Prod.mk.injEq] at h
            obtain ⟨rfl, rfl, rfl⟩ := h
            refine own k' xs (some q) hv (fun _ _ _ _ => Ext.one (by rw [e]; exact hw) _ _ _ _) fun u hu => ?_
            have eu := hu.bor_inv e
            refine ⟨by cases hu; assumption, fun T' hn => ⟨fun s hs => ?_, fun hs => ?_⟩⟩
            · rw [eu]
              exact (root_own hh e).retag hw (hs q rfl).1 (hs q rfl).2
            · rw [eu]
              exact ro_of_own (root_own hh e) hw fun g t ht hof => .inl (hs q rfl g t ht hof)
          · cases h
        · cases h
  | ro k =>
    intro vs us Hf r rest Hf' ss hh hv h
    cases vs with
    | nil => simp [take] at h
    | cons v vs =>
      cases v <;> (try simp only [take] at h) <;> first | (cases h; done) | skip
      · simp only [Option.some.injEq, Prod.mk.injEq] at h
        obtain ⟨rfl, rfl, rfl⟩ := h
        exact scalar (.ro true k []) hv fun u R' H' hu _ => .ro _ _ _ _ (roE (nilA hu))
      · simp only [Option.some.injEq, Prod.mk.injEq] at h
        obtain ⟨rfl, rfl, rfl⟩ := h
        exact scalar (.ro true k []) hv fun u R' H' hu _ => .ro _ _ _ _ (roE (empA hu))
      · rename_i p k' xs
        cases p with
        | false => first | (cases h; done) | (simp [take] at h; done)
        | true =>
          (try simp only [take] at h)
          split at h
          · rename_i hk
            subst hk
            simp only [Option.some.injEq, Prod.mk.injEq] at h
            obtain ⟨rfl, rfl, rfl⟩ := h
            exact scalar (.ro true k' xs) hv fun u R' H' hu hn => .ro _ _ _ _ (hu.ro_inv.keep hn)
          · cases h
  | junk =>
    intro vs us Hf r rest Hf' ss hh hv h
    cases vs with
    | nil => simp [take] at h
    | cons v vs =>
      simp [take] at h
      obtain ⟨rfl, rfl⟩ := h
      exact scalar .junk hv fun u R' H' _ _ => .junk _
  | agg s ih =>
    intro vs us Hf r rest Hf' ss hh hv h
    cases vs with
    | nil => simp [take] at h
    | cons v vs =>
      cases v <;> (try simp only [take] at h) <;> first | (cases h; done) | skip
      rename_i ws
      obtain ⟨⟨r1, rest1, Hf1⟩, h1, h⟩ := Option.bind_eq_some_iff.1 h
      obtain ⟨hn, h⟩ := cond_none h
      simp only [Option.some.injEq, Prod.mk.injEq] at h
      obtain ⟨rfl, rfl, rfl⟩ := h
      obtain ⟨u, us', rfl⟩ := hv.left
      have hv1 := hv.cons.1
      cases hv1 with
      | agg _ us1 hl hr =>
        obtain ⟨X, upre, urest, hk, hnt, hb⟩ := ih ws us1 Hf r1 rest1 Hf1 ss hh ⟨hl, hr⟩ h1
        have hre := isNil_eq hn
        simp only at hre
        subst hre
        have hur : urest = [] := by have := hk.rest.1; simpa using this.symm
        subst hur
        have hus := hk.us
        simp at hus
        subst hus
        exact ⟨X, [_], us', Tk.one hv hk.ext hk.ss, hnt, hb.tgt, hb.live, rfl, fun R' H' hx hH => by
          obtain ⟨h3, h4⟩ := hb.rel R' H' hx hH
          exact ⟨VRs.mk (.agg _ _ h3.1 h3.2) VRs.nil, h4⟩⟩
  | tup s ih =>
    intro vs us Hf r rest Hf' ss hh hv h
    cases vs with
    | nil => simp [take] at h
    | cons v vs =>
      cases v <;> (try simp only [take] at h) <;> first | (cases h; done) | skip
      rename_i ws
      obtain ⟨⟨r1, rest1, Hf1⟩, h1, h⟩ := Option.bind_eq_some_iff.1 h
      obtain ⟨hn, h⟩ := cond_none h
      simp only [Option.some.injEq, Prod.mk.injEq] at h
      obtain ⟨rfl, rfl, rfl⟩ := h
      obtain ⟨u, us', rfl⟩ := hv.left
      have hv1 := hv.cons.1
      cases hv1 with
      | tup _ us1 hl hr =>
        obtain ⟨X, upre, urest, hk, hnt, hb⟩ := ih ws us1 Hf r1 rest1 Hf1 ss hh ⟨hl, hr⟩ h1
        have hre := isNil_eq hn
        simp only at hre
        subst hre
        have hur : urest = [] := by have := hk.rest.1; simpa using this.symm
        subst hur
        have hus := hk.us
        simp at hus
        subst hus
        exact ⟨X, [_], us', Tk.one hv hk.ext hk.ss, hnt, hb.tgt, hb.live, rfl, fun R' H' hx hH => by
          obtain ⟨h3, h4⟩ := hb.rel R' H' hx hH
          exact ⟨VRs.mk (.tup _ _ h3.1 h3.2) VRs.nil, h4⟩⟩
  | box s ih =>
    intro vs us Hf r rest Hf' ss hh hv h
    cases vs with
    | nil => simp [take] at h
    | cons v vs =>
      cases v <;> (try simp only [take] at h) <;> first | (cases h; done) | skip
      rename_i b j
      cases j with
      | succ j => first | (cases h; done) | (simp [take] at h; done)
      | zero =>
        (try simp only [take] at h)
        split at h
        · rename_i cs e
          obtain ⟨⟨r1, rest1, Hf1⟩, h1, h⟩ := Option.bind_eq_some_iff.1 h
          obtain ⟨hn, h⟩ := cond_none h
          simp only [Option.some.injEq, Prod.mk.injEq] at h
          obtain ⟨rfl, rfl, rfl⟩ := h
          obtain ⟨u, us', rfl⟩ := hv.left
          have h0 : geti Hf b ≠ .fresh := by rw [e]; exact fun h => by cases h
          have hE := Ext.one (H := Hf) (s := b) (by rw [e]; rfl) none undef false true
          have hER := hh.at_ b (geti_lt h0)
          rw [e] at hER
          obtain ⟨e', us1, hg, hTg, hl, hcv⟩ := hER
          have hvs : VRs Rc Hf w cs us1.toList := ⟨by rw [Array.length_toList]; exact hl.symm, fun i c u hc hu => (hcv i c u hc (by rw [← Array.getElem?_toList]; exact hu)).1⟩
          obtain ⟨X, upre, urest, hk, _, _⟩ := ih cs us1.toList (Hf.set b .dead) r1 rest1 Hf1 ss (hE.hr hh) (hvs.pres hE.pres) h1
          refine ⟨([(⟨some b, none, undef, false, true⟩ : XM)] ++ X).map XM.kill, [u], us', Tk.one hv (hE.append hk.ext).kill (by rw [kill_ownT]; rfl), fun m hm _ => ?_, by rw [kill_tgt]; rfl, fun p hp => (by cases hp), rfl, fun R' H' hx _ => ⟨VRs.mk (.junk _) VRs.nil, fun p hp => (by cases hp)⟩⟩
          obtain ⟨m', _, rfl⟩ := List.mem_map.1 hm
          rfl
        · cases h
  | one =>
    intro vs us Hf r rest Hf' ss hh hv h
    simp [take] at h
    obtain ⟨rfl, rfl⟩ := h
    exact ⟨[], [], us, ⟨rfl, hv, Ext.nil _, rfl⟩, fun m hm => (by cases hm), rfl, fun p hp => (by cases hp), rfl, fun R' H' _ _ => ⟨VRs.nil, fun p hp => (by cases hp)⟩⟩
  | pair a b iha ihb =>
    intro vs us Hf r rest Hf' ss hh hv h
    simp only [take] at h
    obtain ⟨⟨r1, rest1, Hf1⟩, h1, h⟩ := Option.bind_eq_some_iff.1 h
    obtain ⟨⟨r2, rest2, Hf2⟩, h2, h⟩ := Option.bind_eq_some_iff.1 h
    simp only [Option.some.injEq, Prod.mk.injEq] at h
    obtain ⟨rfl, rfl, rfl⟩ := h
    obtain ⟨X1, up1, ur1, k1, n1, b1⟩ := iha vs us Hf r1 rest1 Hf1 ss hh hv h1
    obtain ⟨X2, up2, ur2, k2, n2, b2⟩ := ihb rest1 ur1 Hf1 r2 rest2 Hf2 (thaw a r1 ss).ss (k1.ext.hr hh) k1.rest h2
    refine ⟨X1 ++ X2, up1 ++ up2, ur2, ⟨by rw [k1.us, k2.us, List.append_assoc], k2.rest, k1.ext.append k2.ext, by rw [ownT_append, List.append_assoc]; exact k1.ss.trans (congrArg (ownT X1 ++ ·) k2.ss)⟩, fun m hm h => ?_, b1.append b2⟩
    rcases List.mem_append.1 hm with hm | hm
    · exact n1 m hm h
    · exact n2 m hm h
end
end Go.Proofs.Ytoedeimpfbebpaa.VR
end
section
set_option linter.unusedVariables false
set_option linter.unusedSimpArgs false
set_option linter.unusedSectionVars false
namespace Go.Proofs.Ytoedeimpfbebpaa.VR
open Go
section
variable {tyK : Kd → TypeId} {R : Re} {H : List E} {w0 w : World}
/-- The boxes' entries, the slices' that get their content back. -/
def BoxT (Rc R : Re) (H : List E) (X : List XM) : Prop := ∀ m ∈ X, m.own = false → ∀ t, m.tgt = some t →
  (m.pin = false → ∃ s, m.src = some s ∧ Rc.β s = R.β t) ∧ (m.pin = true → R.ρ t = m.val) ∧ geti H t ≠ .fresh
theorem NoTgt.boxT {Rc R : Re} {H : List E} {X : List XM} (h : NoTgt X) : BoxT Rc R H X := fun m hm ho t e => by rw [h m hm ho] at e; cases e
theorem BoxT.append {Rc R : Re} {H : List E} {X1 X2 : List XM} (h1 : BoxT Rc R H X1) (h2 : BoxT Rc R H X2) : BoxT Rc R H (X1 ++ X2) := fun m hm => by
  rcases List.mem_append.1 hm with hm | hm
  · exact h1 m hm
  · exact h2 m hm
/-- A slice that gets its content back. -/
def PinE (H : List E) (p : Nat × E) : Prop := ∃ (k : Kd) (xs : List k.T) (ho : Ho) (r : List k.T), geti H p.1 = .root k xs ho ∧ p.2 = .root k r .dirty ∧ r.length = xs.length
structure Rs (tyK : Kd → TypeId) (Rc : Re) (w : World) (R : Re) (H : List E) (w0 : World) (Hf Hf' : List E) (rest : List V) (us : List Value) (cvs' : List V) (X : List XM) (ss : List (Option Nat)) (x : Thawed) : Prop where
  split : ∃ upre urest, us = upre ++ urest ∧ VRs Rc Hf' w rest urest ∧ VRs R H w0 cvs' urest
  ext : Ext Hf Hf' X
  ss : ss = ownT X ++ x.ss
  box : BoxT Rc R H X
  back : Back tyK (PinE H) Rc w X x.ws [] []
theorem Back.none {Pn : Nat × E → Prop} {Rc : Re} {X : List XM} (h : X.filterMap (·.tgt) = []) : Back tyK Pn Rc w X [] [] [] :=
  ⟨h, fun p hp => (by cases hp), rfl, fun R' H' _ _ => ⟨VRs.nil, fun p hp => (by cases hp)⟩⟩
theorem OwnSl.len {T : Nat → Option Tag} {w : World} {s : Nat} {k : Kd} {xs : List k.T} {ho : Ho} {v : Value} (h : OwnSl tyK T w s k xs ho v) : ∃ A cap, v = .slice A xs.length cap := by
  rcases h with ⟨A, rfl, rfl⟩ | ⟨flat, h1, _⟩
  · exact ⟨A, 0, rfl⟩
  · rcases h1.2 with ⟨h2, h3⟩ | ⟨g, cap, cur, h2, _⟩
    · exact ⟨none, 0, by rw [h2, h3]⟩
    · exact ⟨_, cap, h2⟩
theorem OwnSl.any {T : Nat → Option Tag} {w : World} {s : Nat} {k : Kd} {xs : List k.T} {ho : Ho} {v : Value} (h : OwnSl tyK T w s k xs .ok v) : OwnSl tyK T w s k xs ho v := by
  rcases h with h | ⟨flat, h1, h2, h3, h4⟩
  · exact .inl h
  · exact .inr ⟨flat, h1, h2, h3, fun i x hx j c hc _ => h4 i x hx j c hc (fun h => h)⟩
theorem restore_rel {Rc : Re} (hhc : HR tyK R H w0) : ∀ (sh : Sh) (cvs vs : List V) (us : List Value) (Hf : List E) (r : sh.T) (rest : List V) (Hf' : List E) (ss : List (Option Nat)), HR tyK Rc Hf w → VRs Rc Hf w vs us → VRs R H w0 cvs us → pinsOk H sh cvs = true →
    take sh vs Hf = some (r, rest, Hf') → ∃ X, Rs tyK Rc w R H w0 Hf Hf' rest us (skip sh cvs) X ss (restore sh cvs r ss) := by
  intro sh
  -- what is not told goes lost
  have lost : ∀ (sh : Sh) (cvs vs : List V) (us : List Value) (Hf : List E) (r : sh.T) (rest : List V) (Hf' : List E) (ss : List (Option Nat)), (∀ x y, take sh (x :: y) Hf = some (r, rest, Hf') → rest = y) → (∃ x y, vs = x :: y) →
      HR tyK Rc Hf w → VRs Rc Hf w vs us → VRs R H w0 cvs us → take sh vs Hf = some (r, rest, Hf') → ∃ X, Rs tyK Rc w R H w0 Hf Hf' rest us cvs.tail X ss ⟨[], [], ss⟩ := by
    rintro sh cvs vs us Hf r rest Hf' ss hre ⟨x, y, rfl⟩ hh hv hc h
    obtain ⟨X, upre, urest, hk, _, _⟩ := thaw_rel (Pn := fun _ => False) sh (x :: y) us Hf r rest Hf' [] hh hv h
    have he := hre x y h
    subst he
    obtain ⟨u, us', rfl⟩ := hv.left
    cases cvs with
    | nil => have := hc.1; simp at this
    | cons cv cvs =>
      exact ⟨X.map XM.kill, ⟨[u], us', rfl, hv.cons.2.pres hk.ext.pres, hc.cons.2⟩, hk.ext.kill, by rw [kill_ownT]; rfl, fun m hm _ t e => (by
        obtain ⟨m', _, rfl⟩ := List.mem_map.1 hm
        cases e), Back.none (kill_tgt X)⟩
  have cons_of : ∀ {sh : Sh} {vs : List V} {Hf : List E} {x : sh.T × List V × List E}, (∀ H, take sh [] H = none) → take sh vs Hf = some x → ∃ a b, vs = a :: b := by
    intro sh vs Hf x h0 h
    cases vs with
    | nil => rw [h0] at h; cases h
    | cons a b => exact ⟨a, b, rfl⟩
  induction sh with
  | pair a b iha ihb =>
    intro cvs vs us Hf r rest Hf' ss hh hv hc hpn h
    simp only [take] at h
    simp only [pinsOk, Bool.and_eq_true] at hpn
    obtain ⟨⟨r1, rest1, Hf1⟩, h1, h⟩ := Option.bind_eq_some_iff.1 h
    obtain ⟨⟨r2, rest2, Hf2⟩, h2, h⟩ := Option.bind_eq_some_iff.1 h
    simp only [Option.some.injEq, Prod.mk.injEq] at h
    obtain ⟨rfl, rfl, rfl⟩ := h
    obtain ⟨X1, s1⟩ := iha cvs vs us Hf r1 rest1 Hf1 ss hh hv hc hpn.1 h1
    obtain ⟨up1, ur1, e1, v1, c1⟩ := s1.split
    obtain ⟨X2, s2⟩ := ihb (skip a cvs) rest1 ur1 Hf1 r2 rest2 Hf2 (restore a cvs r1 ss).ss (s1.ext.hr hh) v1 c1 hpn.2 h2
    obtain ⟨up2, ur2, e2, v2, c2⟩ := s2.split
    exact ⟨X1 ++ X2, ⟨up1 ++ up2, ur2, by rw [e1, e2, List.append_assoc], v2, c2⟩, s1.ext.append s2.ext, by rw [ownT_append, List.append_assoc]; exact s1.ss.trans (congrArg (ownT X1 ++ ·) s2.ss), s1.box.append s2.box, s1.back.append s2.back⟩
  | one =>
    intro cvs vs us Hf r rest Hf' ss hh hv hc _ h
    simp [take] at h
    obtain ⟨rfl, rfl⟩ := h
    exact ⟨[], ⟨[], us, rfl, hv, hc⟩, Ext.nil _, rfl, fun m hm => (by cases hm), Back.none rfl⟩
  | box s ih =>
    intro cvs vs us Hf r rest Hf' ss hh hv hc _ h
    have hre : ∀ x y, take (.box s) (x :: y) Hf = some (r, rest, Hf') → rest = y := by
      intro x y h
      cases x <;> (try simp only [take] at h) <;> first | (cases h; done) | skip
      rename_i b j
      cases j with
      | succ j => first | (cases h; done) | (simp [take] at h; done)
      | zero =>
        (try simp only [take] at h)
        split at h
        · obtain ⟨⟨r1, rest1, Hf1⟩, h1, h⟩ := Option.bind_eq_some_iff.1 h
          obtain ⟨hn, h⟩ := cond_none h
          simp only [Option.some.injEq, Prod.mk.injEq] at h
          exact h.2.1.symm
        · cases h
    obtain ⟨v, vs', rfl⟩ := cons_of (fun H => rfl) h
    have gen := lost (.box s) cvs (v :: vs') us Hf r rest Hf' ss hre ⟨v, vs', rfl⟩ hh hv hc h
    obtain ⟨u, us', rfl⟩ := hv.left
    cases cvs with
    | nil => have := hc.1; simp at this
    | cons cv cvs =>
      by_cases hcv : ∃ b, cv = .ptr b 0
      · obtain ⟨b, rfl⟩ := hcv
        cases v <;> (try simp only [take] at h) <;> first | (cases h; done) | skip
        rename_i q j
        cases j with
        | succ j => first | (cases h; done) | (simp [take] at h; done)
        | zero =>
          (try simp only [take] at h)
          split at h
          · rename_i cs e
            obtain ⟨⟨r1, rest1, Hf1⟩, h1, h⟩ := Option.bind_eq_some_iff.1 h
            obtain ⟨hn, h⟩ := cond_none h
            simp only [Option.some.injEq, Prod.mk.injEq] at h
            obtain ⟨rfl, rfl, rfl⟩ := h
            have h0 : geti Hf q ≠ .fresh := by rw [e]; exact fun h => by cases h
            have hE := Ext.one (H := Hf) (s := q) (by rw [e]; rfl) (some b) undef false false
            have hER := hh.at_ q (geti_lt h0)
            rw [e] at hER
            obtain ⟨e', us1, hg, hTg, hl, hcv⟩ := hER
            have hvs : VRs Rc Hf w cs us1.toList := ⟨by rw [Array.length_toList]; exact hl.symm, fun i c u hc hu => (hcv i c u hc (by rw [← Array.getElem?_toList]; exact hu)).1⟩
            obtain ⟨X, upre, urest, hk, hnt, hb⟩ := thaw_rel (Pn := PinE H) s cs us1.toList (Hf.set q .dead) r1 rest1 Hf1 ss (hE.hr hh) (hvs.pres hE.pres) h1
            have hre := isNil_eq hn
            simp only at hre
            subst hre
            have hur : urest = [] := by have := hk.rest.1; simpa using this.symm
            subst hur
            have hus := hk.us
            simp at hus
            obtain ⟨eu1, hb0⟩ := hc.cons.1.ptr_inv
            obtain ⟨eu2, _⟩ := hv.cons.1.ptr_inv
            have eβ : Rc.β q = R.β b := by
              rw [eu1] at eu2
              simp only [Value.pointer.injEq, Option.some.injEq, Addr.mk.injEq, and_true] at eu2
              exact eu2.symm
            have hX := hE.append hk.ext
            refine ⟨[⟨some q, some b, undef, false, false⟩] ++ X, ⟨[u], us', rfl, hv.cons.2.pres hX.pres, hc.cons.2⟩, hX, hk.ss, fun m hm ho t et => ?_, ?_, fun p hp => ?_, rfl, fun R' H' hx hH => ⟨VRs.nil, fun p hp => ?_⟩⟩
            · rcases List.mem_append.1 hm with hm | hm
              · simp at hm
                subst hm
                injection et with et
                subst et
                exact ⟨fun _ => ⟨q, rfl, eβ⟩, (fun h => by cases h), hb0⟩
              · rw [hnt m hm ho] at et; cases et
            · simp only [restore, List.map_cons, List.filterMap_append, List.filterMap_cons, List.filterMap_nil]
              rw [hb.tgt]
              rfl
            · simp only [restore, List.mem_cons] at hp
              rcases hp with rfl | hp
              · exact ⟨⟨(fun h => by cases h), (fun h => by cases h)⟩, .inl ⟨_, rfl⟩⟩
              · obtain ⟨h3, h4⟩ := hb.live p hp
                exact ⟨h3, h4.imp id fun h => h.imp (fun h => by rw [ownT_append]; exact List.mem_append.2 (.inr h)) id⟩
            · obtain ⟨h3, h4⟩ := hb.rel R' H' hx.right fun p hp => hH p (by simp only [restore, List.mem_cons]; exact .inr hp)
              simp only [restore, List.mem_cons] at hp
              rcases hp with rfl | hp
              · have eb : R'.β b = Rc.β q := hx.left.beta _ (List.mem_singleton.2 rfl) rfl rfl b q rfl rfl
                refine ⟨e', us1, by rw [eb]; exact hg, by rw [eb]; exact hx.left.slot _ (List.mem_singleton.2 rfl) q rfl _ hTg, ?_, fun i c u hc hu => ⟨h3.2 i c u hc (by rw [← hus, Array.getElem?_toList]; exact hu), ?_⟩⟩
                · have := h3.1
                  rw [← hus, Array.length_toList] at this
                  exact this.symm
                · have hlt2 := (Array.getElem?_eq_some_iff.1 hu).1
                  rw [hl] at hlt2
                  exact (hcv i _ u (List.getElem?_eq_getElem hlt2) hu).2
              · exact h4 p hp
          · cases h
      · have e : restore (.box s) (cv :: cvs) r ss = ⟨[], [], ss⟩ := by
          cases cv with
          | ptr b j =>
            cases j with
            | zero => exact absurd ⟨b, rfl⟩ hcv
            | succ j => rfl
          | _ => rfl
        rw [e]
        exact gen
  | own k =>
    intro cvs vs us Hf r rest Hf' ss hh hv hc hpn h
    have hre : ∀ x y, take (.own k) (x :: y) Hf = some (r, rest, Hf') → rest = y := by
      intro x y h
      cases x <;> (try simp only [take] at h) <;> first | (cases h; done) | skip
      · simp only [Option.some.injEq, Prod.mk.injEq] at h; exact h.2.1.symm
      · simp only [Option.some.injEq, Prod.mk.injEq] at h; exact h.2.1.symm
      · split at h
        · obtain ⟨_, h⟩ := cond_none h
          split at h
          · simp only [Option.some.injEq, Prod.mk.injEq] at h; exact h.2.1.symm
          · cases h
        · cases h
    obtain ⟨v, vs', rfl⟩ := cons_of (fun H => rfl) h
    have gen := lost (.own k) cvs (v :: vs') us Hf r rest Hf' ss hre ⟨v, vs', rfl⟩ hh hv hc h
    obtain ⟨u, us', rfl⟩ := hv.left
    cases cvs with
    | nil => have := hc.1; simp at this
    | cons cv cvs =>
      by_cases hcv : ∃ q, cv = .bor q
      · obtain ⟨q, rfl⟩ := hcv
        simp only [pinsOk] at hpn
        split at hpn
        · rename_i k' xs ho eq
          have hkk : k' = k := of_decide_eq_true hpn
          subst hkk
          have eu := hc.cons.1.bor_inv eq
          obtain ⟨A0, cap0, el⟩ := (root_own hhc eq).len
          rw [← eu] at el
          have hq0 : geti H q ≠ .fresh := by rw [eq]; exact fun h => by cases h
          have fin : ∀ (src : Option Nat) (r : List k'.T) (Hf' : List E), Ext Hf Hf' [⟨src, some q, u, false, true⟩] → r.length = xs.length →
              (∀ (T' : Nat → Option Tag), (∀ s, src = some s → (∀ g, Rc.T g = some (.slot s) → T' g = some (.slot q)) ∧ ∀ g i j, Rc.T g = some (.nest s i j) → T' g = some (.nest q i j)) → OwnSl tyK T' w q k' r .ok u) →
              ∃ X, Rs tyK Rc w R H w0 Hf Hf' vs' (u :: us') cvs X ss ⟨[], [(q, .root k' r .dirty)], ss⟩ := by
            intro src r Hf' hX hlen hown
            refine ⟨[⟨src, some q, u, false, true⟩], ⟨[u], us', rfl, hv.cons.2.pres hX.pres, hc.cons.2⟩, hX, rfl, fun m hm _ t et => ?_, rfl, fun p hp => ?_, rfl, fun R' H' hx hH => ⟨VRs.nil, fun p hp => ?_⟩⟩
            · simp at hm
              subst hm
              injection et with et
              subst et
              exact ⟨(fun h => by cases h), fun _ => eu.symm, hq0⟩
            · simp at hp
              subst hp
              exact ⟨⟨(fun h => by cases h), (fun h => by cases h)⟩, .inr (.inr ⟨k', xs, ho, r, eq, rfl, hlen⟩)⟩
            · simp at hp
              subst hp
              have erho : R'.ρ q = u := hx.rho _ (List.mem_singleton.2 rfl) (.inr rfl) q rfl
              show OwnSl tyK R'.T w q k' r .dirty (R'.ρ q)
              rw [erho]
              exact (hown R'.T fun s es => ⟨fun g hg => hx.slot _ (List.mem_singleton.2 rfl) s es g hg, fun g i j hg => hx.nest _ (List.mem_singleton.2 rfl) s es g i j hg⟩).any
          have hemp : (∃ A, u = .slice A 0 0) → (0 : Nat) = xs.length := by
            rintro ⟨A, e⟩
            rw [e] at el
            injection el with _ el _
          have hrest := hre _ _ h
          subst hrest
          have hv1 := hv.cons.1
          cases v <;> (try simp only [take] at h) <;> first | (cases h; done) | skip
          · simp only [Option.some.injEq, Prod.mk.injEq] at h
            obtain ⟨rfl, _, rfl⟩ := h
            have eA : ∃ A, u = .slice A 0 0 := by cases hv1; exact ⟨_, rfl⟩
            exact fin none [] Hf (Ext.keep _ _ _ _) (hemp eA) fun T' _ => by obtain ⟨A, rfl⟩ := eA; exact .inl ⟨A, rfl, rfl⟩
          · simp only [Option.some.injEq, Prod.mk.injEq] at h
            obtain ⟨rfl, _, rfl⟩ := h
            have eA : ∃ A, u = .slice A 0 0 := by cases hv1; exact ⟨_, rfl⟩
            exact fin none [] Hf (Ext.keep _ _ _ _) (hemp eA) fun T' _ => by obtain ⟨A, rfl⟩ := eA; exact .inl ⟨A, rfl, rfl⟩
          · rename_i s
            split at h
            · rename_i k2 xs2 ho2 e
              obtain ⟨hw, h⟩ := cond_none h
              split at h
              · rename_i hk2
                subst hk2
                simp only [Option.some.injEq, Prod.mk.injEq] at h
                obtain ⟨rfl, _, rfl⟩ := h
                have eu2 := hv1.bor_inv e
                obtain ⟨A2, cap2, el2⟩ := (root_own hh e).len
                rw [← eu2, el] at el2
                injection el2 with _ el2 _
                refine fin (some s) xs2 (Hf.set s .dead) (Ext.one (by rw [e]; exact hw) _ _ _ _) el2.symm fun T' hs => ?_
                rw [eu2]
                exact (root_own hh e).retag hw (hs s rfl).1 (hs s rfl).2
              · cases h
            · cases h
        · cases hpn
      · have e : restore (.own k) (cv :: cvs) r ss = ⟨[], [], ss⟩ := by
          cases cv <;> first | rfl | exact absurd ⟨_, rfl⟩ hcv
        rw [e]
        exact gen
  | agg s ih =>
    intro cvs vs us Hf r rest Hf' ss hh hv hc hpn h
    have hre : ∀ x y, take (.agg s) (x :: y) Hf = some (r, rest, Hf') → rest = y := by
      intro x y h
      cases x <;> (try simp only [take] at h) <;> first | (cases h; done) | skip
      obtain ⟨_, _, h⟩ := Option.bind_eq_some_iff.1 h
      obtain ⟨_, h⟩ := cond_none h
      simp only [Option.some.injEq, Prod.mk.injEq] at h
      exact h.2.1.symm
    obtain ⟨v, vs', rfl⟩ := cons_of (fun H => rfl) h
    have gen := lost (.agg s) cvs (v :: vs') us Hf r rest Hf' ss hre ⟨v, vs', rfl⟩ hh hv hc h
    obtain ⟨u, us', rfl⟩ := hv.left
    cases cvs with
    | nil => have := hc.1; simp at this
    | cons cv cvs =>
      by_cases hcv : ∃ xs, cv = .agg xs
      · obtain ⟨cxs, rfl⟩ := hcv
        simp only [pinsOk] at hpn
        cases v <;> (try simp only [take] at h) <;> first | (cases h; done) | skip
        rename_i ws
        obtain ⟨⟨r1, rest1, Hf1⟩, h1, h⟩ := Option.bind_eq_some_iff.1 h
        obtain ⟨hn, h⟩ := cond_none h
        simp only [Option.some.injEq, Prod.mk.injEq] at h
        obtain ⟨rfl, rfl, rfl⟩ := h
        have hv1 := hv.cons.1
        have hc1 := hc.cons.1
        generalize hu : u = uu at hc1
        cases hv1 with
        | agg _ us1 hl hr =>
          cases hc1 with
          | agg _ us2 hl2 hr2 =>
            have e12 : us1 = us2 := by injection hu with hu; injection hu
            subst e12
            obtain ⟨X, sX⟩ := ih cxs ws us1 Hf r1 rest1 Hf1 ss hh ⟨hl, hr⟩ ⟨hl2, hr2⟩ hpn h1
            exact ⟨X, ⟨[_], us', rfl, hv.cons.2.pres sX.ext.pres, hc.cons.2⟩, sX.ext, sX.ss, sX.box, sX.back⟩
      · have e : restore (.agg s) (cv :: cvs) r ss = ⟨[], [], ss⟩ := by
          cases cv <;> first | rfl | exact absurd ⟨_, rfl⟩ hcv
        rw [e]
        exact gen
  | int =>
    intro cvs vs us Hf r rest Hf' ss hh hv hc _ h
    exact lost .int cvs vs us Hf r rest Hf' ss (fun x y h => by cases x <;> simp [take] at h; exact h.2.1.symm) (cons_of (fun H => rfl) h) hh hv hc h
  | u8 =>
    intro cvs vs us Hf r rest Hf' ss hh hv hc _ h
    exact lost .u8 cvs vs us Hf r rest Hf' ss (fun x y h => by cases x <;> simp [take] at h; exact h.2.1.symm) (cons_of (fun H => rfl) h) hh hv hc h
  | bool =>
    intro cvs vs us Hf r rest Hf' ss hh hv hc _ h
    exact lost .bool cvs vs us Hf r rest Hf' ss (fun x y h => by cases x <;> simp [take] at h; exact h.2.1.symm) (cons_of (fun H => rfl) h) hh hv hc h
  | str =>
    intro cvs vs us Hf r rest Hf' ss hh hv hc _ h
    exact lost .str cvs vs us Hf r rest Hf' ss (fun x y h => by cases x <;> simp [take] at h; exact h.2.1.symm) (cons_of (fun H => rfl) h) hh hv hc h
  | junk =>
    intro cvs vs us Hf r rest Hf' ss hh hv hc _ h
    exact lost .junk cvs vs us Hf r rest Hf' ss (fun x y h => by simp [take] at h; exact h.1.symm) (cons_of (fun H => rfl) h) hh hv hc h
  | ro k =>
    intro cvs vs us Hf r rest Hf' ss hh hv hc _ h
    refine lost (.ro k) cvs vs us Hf r rest Hf' ss (fun x y h => ?_) (cons_of (fun H => rfl) h) hh hv hc h
    cases x <;> (try simp only [take] at h) <;> first | (cases h; done) | skip
    · simp only [Option.some.injEq, Prod.mk.injEq] at h; exact h.2.1.symm
    · simp only [Option.some.injEq, Prod.mk.injEq] at h; exact h.2.1.symm
    · rename_i p k' xs
      cases p with
      | false => first | (cases h; done) | (simp [take] at h; done)
      | true =>
        (try simp only [take] at h)
        split at h
        · simp only [Option.some.injEq, Prod.mk.injEq] at h; exact h.2.1.symm
        · cases h
  | tup s ih =>
    intro cvs vs us Hf r rest Hf' ss hh hv hc _ h
    refine lost (.tup s) cvs vs us Hf r rest Hf' ss (fun x y h => ?_) (cons_of (fun H => rfl) h) hh hv hc h
    cases x <;> (try simp only [take] at h) <;> first | (cases h; done) | skip
    obtain ⟨_, _, h⟩ := Option.bind_eq_some_iff.1 h
    obtain ⟨_, h⟩ := cond_none h
    simp only [Option.some.injEq, Prod.mk.injEq] at h
    exact h.2.1.symm
end
end Go.Proofs.Ytoedeimpfbebpaa.VR
end
section
set_option linter.unusedVariables false
set_option linter.unusedSimpArgs false
set_option linter.unusedSectionVars false
namespace Go.Proofs.Ytoedeimpfbebpaa.VR
open Go
/-- A callee's contract. -/
def CallOk (P : Program) (tyK : Kd → TypeId) (f : FuncId) (bz : List A) (sh : Sh) (r : sh.T) : Prop :=
  ∀ (Rc : Re) (w : World) (us : List Value), HR tyK Rc (layL bz 0).2.1 w → VRs Rc (layL bz 0).2.1 w (layL bz 0).1 us →
    Calls P f us.toArray w fun e w' => ∃ v, e = .returned v ∧ ∃ (Rc' : Re) (Hf : List E) (vf : V), Step Rc w Rc' w' ∧ HR tyK Rc' Hf w' ∧ VR Rc' Hf w' vf v ∧ VRs Rc' Hf w' (layL bz 0).1 us ∧
      ∃ rest Hf', take sh (vf :: (layL bz 0).1) Hf = some (r, rest, Hf')
def OrcOk (P : Program) (tyK : Kd → TypeId) (Co : Orc) : Prop := ∀ f bz sh r, Co f bz sh = some r → CallOk P tyK f bz sh r
section
open Classical in
noncomputable def psi : List XM → Tag → Option Tag
  | [], _ => none
  | m :: X, t => if ∃ s, m.src = some s ∧ t.of s then m.tgt.bind fun s' => match t with | .slot _ => some (.slot s') | .nest _ i j => some (.nest s' i j) | .frozen => none else psi X t
theorem psi_mem : ∀ {X : List XM} {m : XM} {s : Nat} {t : Tag}, X.Pairwise (fun m m' => ∀ s, m.src = some s → m'.src ≠ some s) → m ∈ X → m.src = some s → t.of s →
    psi X t = m.tgt.bind fun s' => match t with | .slot _ => some (.slot s') | .nest _ i j => some (.nest s' i j) | .frozen => none
  | m' :: X, m, s, t, hd, hm, e, hof => by
    rw [List.pairwise_cons] at hd
    unfold psi
    rcases List.mem_cons.1 hm with rfl | hm
    · rw [if_pos ⟨s, e, hof⟩]
    · rw [if_neg, psi_mem hd.2 hm e hof]
      rintro ⟨s', e', hof'⟩
      have := of_inj hof hof'
      subst this
      exact hd.1 m hm s e' e
def rhoX (ρ : Nat → Value) : List XM → Nat → Value
  | [], s => ρ s
  | m :: X, s => if m.own = true ∧ m.tgt = some s then m.val else rhoX ρ X s
theorem rhoX_mem {ρ : Nat → Value} : ∀ {X : List XM} {m : XM} {t : Nat}, (X.filterMap (·.tgt)).Nodup → m ∈ X → m.own = true → m.tgt = some t → rhoX ρ X t = m.val
  | m' :: X, m, t, hd, hm, ho, e => by
    unfold rhoX
    rcases List.mem_cons.1 hm with rfl | hm
    · rw [if_pos ⟨ho, e⟩]
    · have hmem : t ∈ X.filterMap (·.tgt) := List.mem_filterMap.2 ⟨m, hm, e⟩
      rw [if_neg]
      · refine rhoX_mem ?_ hm ho e
        cases e' : m'.tgt with
        | none => rw [List.filterMap_cons_none e'] at hd; exact hd
        | some t' => rw [List.filterMap_cons_some e'] at hd; exact (List.nodup_cons.1 hd).2
      · rintro ⟨_, e'⟩
        rw [List.filterMap_cons_some e'] at hd
        exact (List.nodup_cons.1 hd).1 hmem
theorem rhoX_out {ρ : Nat → Value} : ∀ {X : List XM} {s : Nat}, (∀ m ∈ X, m.own = true → m.tgt ≠ some s) → rhoX ρ X s = ρ s
  | [], s, _ => rfl
  | m :: X, s, h => by
    unfold rhoX
    rw [if_neg (fun h2 => h m (by simp) h2.1 h2.2), rhoX_out fun m' hm' => h m' (by simp [hm'])]
open Classical in
noncomputable def Re.out (R R1 Rc : Re) (X : List XM) : Re := ⟨fun g => if R1.T g = some .frozen then R.T g else (Rc.T g).bind (psi X), R.β, rhoX R.ρ X⟩
theorem ssOk_spec : ∀ {ss : List (Option Nat)} {H : List E}, ssOk H ss = true → (∀ s, some s ∈ ss → s < H.length ∧ geti H s = .fresh) ∧ (ss.filterMap id).Nodup
  | [], H, _ => ⟨fun s h => by simp at h, by simp⟩
  | none :: ss, H, h => by
    obtain ⟨h1, h2⟩ := ssOk_spec (ss := ss) (H := H) h
    exact ⟨fun s hs => h1 s (by simpa using hs), by simpa using h2⟩
  | some s :: ss, H, h => by
    simp only [ssOk, Bool.and_eq_true] at h
    obtain ⟨⟨h1, h2⟩, h3⟩ := h
    have h1 : s < H.length := by simpa using h1
    have h2 : geti H s = .fresh := by
      cases e : geti H s <;> rw [e] at h2 <;> first | rfl | cases h2
    obtain ⟨h4, h5⟩ := ssOk_spec h3
    refine ⟨fun s' hs' => ?_, ?_⟩
    · rcases List.mem_cons.1 hs' with e | hs'
      · injection e with e; subst e; exact ⟨h1, h2⟩
      · obtain ⟨h6, h7⟩ := h4 s' hs'
        rw [List.length_set] at h6
        refine ⟨h6, ?_⟩
        rw [geti_set] at h7
        split at h7
        · cases h7
        · exact h7
    · simp only [List.filterMap_cons, id, List.nodup_cons]
      refine ⟨fun hm => ?_, h5⟩
      obtain ⟨x, hx, e⟩ := List.mem_filterMap.1 hm
      simp only [id] at e
      subst e
      have := (h4 s hx).2
      rw [geti_set_same h1] at this
      cases this
theorem geti_puts_in : ∀ {ws : List (Nat × E)} {H : List E}, (ws.map (·.1)).Nodup → (∀ p ∈ ws, p.1 < H.length) → ∀ p ∈ ws, geti (puts H ws) p.1 = p.2
  | [], H, _, _, p, hp => by cases hp
  | (s, e) :: ws, H, hd, hl, p, hp => by
    simp only [List.map_cons, List.nodup_cons] at hd
    simp only [puts]
    rcases List.mem_cons.1 hp with rfl | hp
    · rw [geti_puts_notin fun p hp e => hd.1 (List.mem_map.2 ⟨p, hp, e⟩)]
      exact geti_set_same (hl (s, e) (by simp))
    · exact geti_puts_in hd.2 (fun p hp => by rw [List.length_set]; exact hl p (by simp [hp])) p hp
theorem nodupB_spec : ∀ {l : List Nat}, nodupB l = true → l.Nodup
  | [], _ => by simp
  | x :: l, h => by
    simp only [nodupB, Bool.and_eq_true] at h
    rw [List.nodup_cons]
    exact ⟨by simpa using h.1, nodupB_spec h.2⟩
variable {tyK : Kd → TypeId} {R : Re} {H : List E} {w w' : World}
theorem mkArgs_hr : ∀ (vs : List V) (ms : List AM) (H : List E) (us : List Value) (xs : List (V ⊕ A)) (ws : List (Nat × E)), HR tyK R H w → VRs R H w vs us → mkArgs vs ms H = some (xs, ws) → HR tyK R (puts H ws) w
  | [], [], H, us, xs, ws, hh, hv, h => by
    simp [mkArgs] at h
    obtain ⟨rfl, rfl⟩ := h
    exact hh
  | [], m :: ms, H, us, xs, ws, hh, hv, h => by simp [mkArgs] at h
  | v :: vs, [], H, us, xs, ws, hh, hv, h => by simp [mkArgs] at h
  | v :: vs, m :: ms, H, [], xs, ws, hh, hv, h => by have := hv.1; simp at this
  | v :: vs, .ro :: ms, H, u :: us, xs, ws, hh, hv, h => by
    simp only [mkArgs] at h
    obtain ⟨⟨xs', ws'⟩, e1, h⟩ := Option.bind_eq_some_iff.1 h
    simp only [Option.some.injEq, Prod.mk.injEq] at h
    obtain ⟨rfl, rfl⟩ := h
    exact mkArgs_hr vs ms H us xs' ws' hh hv.cons.2 e1
  | v :: vs, .mv :: ms, H, u :: us, xs, ws, hh, hv, h => by
    simp only [mkArgs] at h
    obtain ⟨⟨a1, ws1⟩, e1, h⟩ := Option.bind_eq_some_iff.1 h
    obtain ⟨⟨xs', ws'⟩, e2, h⟩ := Option.bind_eq_some_iff.1 h
    simp only [Option.some.injEq, Prod.mk.injEq] at h
    obtain ⟨rfl, rfl⟩ := h
    obtain ⟨_, M1, E1, _⟩ := mvA_rel (tyK := tyK) 40 v H u a1 ws1 0 hh hv.cons.1 e1
    rw [puts_append]
    exact mkArgs_hr vs ms (puts H ws1) us xs' ws' (E1.hr hh) (hv.cons.2.pres E1.pres) e2
theorem OwnSl.keepHole {T T' : Nat → Option Tag} {s i j : Nat} {k : Kd} {xs : List k.T} {v : Value} (h : OwnSl tyK T w s k xs (.hole i j) v) (hk : ∀ g t, T g = some t → t.of s → t ≠ .nest s i j → T' g = some t ∧ w'.heap[g]? = w.heap[g]?) :
    OwnSl tyK T' w' s k xs (.hole i j) v := by
  rcases h with h | ⟨flat, h1, h2, h3, h4⟩
  · exact .inl h
  · refine .inr ⟨flat, ownsRow_move h1 fun g hg => (hk g _ (h2 g hg) rfl (fun h => by cases h)).2, fun g hg => (hk g _ (h2 g hg) rfl (fun h => by cases h)).1, h3, fun i' x hx j' c hc hna => ?_⟩
    obtain ⟨u, hu, hoc⟩ := h4 i' x hx j' c hc hna
    refine ⟨u, hu, ?_⟩
    cases c with
    | nest ys =>
      rcases hoc with h5 | ⟨h5, h6⟩
      · exact .inl h5
      · have hne : Tag.nest s i' j' ≠ .nest s i j := by
          intro e
          injection e with _ e1 e2
          exact hna ⟨e1, e2⟩
        exact .inr ⟨ownsRow_move h5 fun g hg => (hk g _ (h6 g hg) rfl hne).2, fun g hg => (hk g _ (h6 g hg) rfl hne).1⟩
    | _ => exact hoc
open Classical in
/-- The state behind a call. -/
theorem out_rel (hh : HR tyK R H w) {H1 : List E} {M : List EM} {a b : Nat} (hE : Ent H H1 M a b) {Rc : Re} {Hf Hf' : List E} (hst : Step (R.inn M) w Rc w') (hc : HR tyK Rc Hf w') {X : List XM} (hX : Ext Hf Hf' X)
    {ws : List (Nat × E)} {vs : List V} {us : List Value} (hB : Back tyK (PinE H) Rc w' X ws vs us) (hnd' : (ws.map (·.1)).Nodup) (hbx : BoxT Rc R H X) {ss ss' : List (Option Nat)} (hss : ssOk H ss = true) (es : ss = ownT X ++ ss') :
    Pres R H w (R.out (R.inn M) Rc X) (puts H1 ws) w' ∧ HR tyK (R.out (R.inn M) Rc X) (puts H1 ws) w' ∧ VRs (R.out (R.inn M) Rc X) (puts H1 ws) w' vs us := by
  obtain ⟨hs1, hs2⟩ := ssOk_spec hss
  have hnd : (X.filterMap (·.tgt)).Nodup := by rw [hB.tgt]; exact hnd'
  -- the targets
  have htg : ∀ p ∈ ws, p.1 < H.length ∧ (geti H p.1 = .fresh ∨ geti H p.1 ≠ .fresh ∧ ∃ m ∈ X, m.own = false ∧ m.tgt = some p.1) := by
    intro p hp
    have : p.1 ∈ X.filterMap (·.tgt) := by rw [hB.tgt]; exact List.mem_map.2 ⟨p, hp, rfl⟩
    obtain ⟨m, hm, e⟩ := List.mem_filterMap.1 this
    cases ho : m.own with
    | true =>
      have h2 : some p.1 ∈ ss := by rw [es]; exact List.mem_append.2 (.inl (List.mem_map.2 ⟨m, List.mem_filter.2 ⟨hm, ho⟩, e⟩))
      exact ⟨(hs1 _ h2).1, .inl (hs1 _ h2).2⟩
    | false =>
      obtain ⟨_, _, h2⟩ := hbx m hm ho p.1 e
      exact ⟨geti_lt h2, .inr ⟨h2, m, hm, ho, e⟩⟩
  have hput : ∀ p ∈ ws, geti (puts H1 ws) p.1 = p.2 := geti_puts_in hnd' fun p hp => by rw [hE.len]; exact (htg p hp).1
  have hfz : ∀ g, (R.inn M).T g = some .frozen → Rc.T g = some .frozen ∧ w'.heap[g]? = w.heap[g]? := by
    intro g hg
    have hT : R.T g ≠ none := fun h => by
      have : (R.T g).map (phi M) = some .frozen := hg
      rw [h] at this; cases this
    obtain ⟨t, ht⟩ := Option.ne_none_iff_exists'.1 hT
    obtain ⟨h1, h2⟩ := hst.ro g (tag_lt hh ht) (by rw [hg]; exact .inr ⟨rfl, rfl⟩)
    exact ⟨h1.trans hg, h2⟩
  have hkeep : ∀ g t, R.T g = some t → (∀ m ∈ M, ¬ m.src.cov t) → (R.out (R.inn M) Rc X).T g = some t ∧ w'.heap[g]? = w.heap[g]? := by
    intro g t ht hno
    have hg : (R.inn M).T g = some .frozen := by show (R.T g).map _ = _; rw [ht]; simp [phi_out hno]
    refine ⟨?_, (hfz g hg).2⟩
    show (if (R.inn M).T g = some .frozen then R.T g else _) = _
    rw [if_pos hg, ht]
  have hfit : XFit Rc (R.out (R.inn M) Rc X) X := by
    refine ⟨fun g hg => ?_, fun m hm s e g hg => ?_, fun m hm s e g i j hg => ?_, fun m hm ho t e => ?_, fun m hm ho hp t s e es => ?_⟩
    · show (if (R.inn M).T g = some .frozen then R.T g else (Rc.T g).bind (psi X)) = none
      rw [if_neg, hg]
      · rfl
      · intro h
        have := (hfz g h).1
        rw [hg] at this; cases this
    · show (if (R.inn M).T g = some .frozen then R.T g else (Rc.T g).bind (psi X)) = _
      rw [if_neg, hg]
      · show psi X (.slot s) = _
        rw [psi_mem hX.dist hm e (show Tag.of s (.slot s) from rfl)]
        cases m.tgt <;> rfl
      · intro h
        have := (hfz g h).1
        rw [hg] at this; cases this
    · show (if (R.inn M).T g = some .frozen then R.T g else (Rc.T g).bind (psi X)) = _
      rw [if_neg, hg]
      · show psi X (.nest s i j) = _
        rw [psi_mem hX.dist hm e (show Tag.of s (.nest s i j) from rfl)]
        cases m.tgt <;> rfl
      · intro h
        have := (hfz g h).1
        rw [hg] at this; cases this
    · cases ho1 : m.own with
      | true => exact rhoX_mem hnd hm ho1 e
      | false =>
        have hpin : m.pin = true := by rcases ho with ho | ho; rw [ho1] at ho; cases ho; exact ho
        have h1 := (hbx m hm ho1 t e).2.1 hpin
        rw [← h1]
        refine rhoX_out fun m2 hm2 ho2 e2 => ?_
        -- two with one target are one
        have huniq : ∀ {X : List XM}, (X.filterMap (·.tgt)).Nodup → ∀ {m m2 : XM} {t : Nat}, m ∈ X → m2 ∈ X → m.tgt = some t → m2.tgt = some t → m = m2 := by
          intro X
          induction X with
          | nil => intro _ m m2 t hm; cases hm
          | cons x X ih =>
            intro hn m m2 t hm hm2 e e2
            have hmem : ∀ y ∈ X, y.tgt = some t → t ∈ X.filterMap (·.tgt) := fun y hy ey => List.mem_filterMap.2 ⟨y, hy, ey⟩
            rcases List.mem_cons.1 hm with h1 | hm1
            · rcases List.mem_cons.1 hm2 with h | hm3
              · exact h1.trans h.symm
              · subst h1
                rw [List.filterMap_cons_some e, List.nodup_cons] at hn
                exact absurd (hmem m2 hm3 e2) hn.1
            · rcases List.mem_cons.1 hm2 with h | hm3
              · subst h
                rw [List.filterMap_cons_some e2, List.nodup_cons] at hn
                exact absurd (hmem m hm1 e) hn.1
              · refine ih ?_ hm1 hm3 e e2
                cases ex : x.tgt with
                | none => rw [List.filterMap_cons_none ex] at hn; exact hn
                | some t' => rw [List.filterMap_cons_some ex] at hn; exact (List.nodup_cons.1 hn).2
        have := huniq hnd hm hm2 e e2
        subst this
        rw [ho1] at ho2
        cases ho2
    · obtain ⟨s', es', h1⟩ := (hbx m hm ho t e).1 hp
      rw [es] at es'
      injection es' with es'
      subst es'
      exact h1.symm
  obtain ⟨hvs, hers⟩ := hB.rel (R.out (R.inn M) Rc X) (puts H1 ws) hfit hput
  have hnot : ∀ s, (∀ p ∈ ws, p.1 ≠ s) → geti (puts H1 ws) s = geti H1 s := fun s hs => geti_puts_notin hs
  have hcovs : ∀ s, (∀ m ∈ M, m.src.slot ≠ s) → ∀ t : Tag, t.of s → ∀ m ∈ M, ¬ m.src.cov t := fun s hs t hof m hm hcv => hs m hm (of_inj (Src.cov_of hcv) hof)
  have hp : Pres R H w (R.out (R.inn M) Rc X) (puts H1 ws) w' := by
    refine ⟨⟨hst.os, hst.tape, hst.output, hst.size, fun g hg ho => ?_⟩, fun s hs => ?_, fun _ _ => rfl, fun s k xs' ho' hs e => ?_⟩
    · rcases ho with ho | ⟨_, ho⟩
      · have h1 : (R.inn M).T g = none := by show (R.T g).map _ = none; rw [ho]; rfl
        obtain ⟨h2, h3⟩ := hst.ro g hg (.inl h1)
        refine ⟨?_, h3⟩
        rw [ho]
        exact hfit.none_ g (h2.trans h1)
      · obtain ⟨h2, h3⟩ := hkeep g .frozen ho fun m _ => frozen_cov m.src
        exact ⟨by rw [h2, ho], h3⟩
    · by_cases hm : ∃ p ∈ ws, p.1 = s
      · obtain ⟨p, hp, rfl⟩ := hm
        rw [hput p hp]; exact (hB.live p hp).1.1
      · rw [hnot s fun p hp e => hm ⟨p, hp, e⟩]
        exact (hE.pres (R := R) (w := w)).alive s hs
    · by_cases hm : ∃ p ∈ ws, p.1 = s
      · obtain ⟨p, hp, rfl⟩ := hm
        rcases (htg p hp).2 with h1 | ⟨_, m, hm, ho, et⟩
        · exact absurd h1 hs
        · rw [hput p hp] at e
          rcases (hB.live p hp).2 with ⟨cs, e2⟩ | h2 | ⟨k0, xs0, ho0, r0, h3, h4, h5⟩
          · rw [e] at e2; cases e2
          · exact absurd (hs1 p.1 (by rw [es]; exact List.mem_append.2 (.inl h2))).2 hs
          · rw [e] at h4
            cases h4
            refine ⟨xs0, ho0, h3, ?_, h5, fun h => by cases h⟩
            -- its value stays
            cases hpin : m.pin with
            | true => rw [hfit.rho m hm (.inr hpin) p.1 et]; exact ((hbx m hm ho p.1 et).2.1 hpin).symm
            | false =>
              refine rhoX_out fun m2 hm2 ho2 e2 => ?_
              have h6 : some p.1 ∈ ownT X := List.mem_map.2 ⟨m2, List.mem_filter.2 ⟨hm2, ho2⟩, e2⟩
              exact absurd (hs1 p.1 (by rw [es]; exact List.mem_append.2 (.inl h6))).2 hs
      · rw [hnot s fun p hp e => hm ⟨p, hp, e⟩] at e
        obtain ⟨xs0, ho0, e0, _, el, _⟩ := (hE.pres (R := R) (w := w)).root s k xs' ho' hs e
        refine ⟨xs0, ho0, e0, rhoX_out fun m hm2 ho et => hm ?_, el, fun hok => ?_⟩
        · have : s ∈ X.filterMap (·.tgt) := List.mem_filterMap.2 ⟨m, hm2, et⟩
          rw [hB.tgt] at this
          obtain ⟨p, hp, e2⟩ := List.mem_map.1 this
          exact ⟨p, hp, e2⟩
        · subst hok
          have hnM : ∀ m ∈ M, m.src.slot ≠ s := by
            rintro m hm2 rfl
            obtain ⟨_, rfl, _, hw2, _⟩ := (hE.ok m hm2).use
            rw [e] at hw2
            cases hw2
          rw [hE.same s hnM] at e
          rw [e0] at e
          cases e
          refine ⟨rfl, fun g n cap i j hr _ hi => ?_⟩
          obtain ⟨h3, _, _⟩ := root_block hh e0 hr (by omega)
          exact World.cell?_of_block (a := ⟨g, _, none⟩) (hkeep g _ h3 (hcovs s hnM _ rfl)).2
  refine ⟨hp, hh.next hp (by rw [puts_length, hE.len]) (fun s hs => ?_) (fun g hg => ?_), hvs⟩
  · by_cases hm : ∃ p ∈ ws, p.1 = s
    · obtain ⟨p, hp2, rfl⟩ := hm
      refine .inr ?_
      rw [hput p hp2]
      exact hers p hp2
    · rw [hnot s fun p hp e => hm ⟨p, hp, e⟩]
      by_cases hM : ∃ m ∈ M, m.src.slot = s
      · obtain ⟨m, hm2, rfl⟩ := hM
        refine .inr ?_
        have hok := hE.ok m hm2
        have hcov : ∀ t : Tag, t.of m.src.slot → ¬ m.src.cov t → ∀ m' ∈ M, ¬ m'.src.cov t := by
          intro t hof hnc m' hm' hcv
          by_cases hmm : m' = m
          · subst hmm; exact hnc hcv
          · have := hE.dist
            have hne : m'.src.slot ≠ m.src.slot := by
              rcases List.mem_iff_append.1 hm2 with ⟨l1, l2, e⟩
              rw [e] at this hm'
              rw [List.pairwise_append] at this
              rcases List.mem_append.1 hm' with h2 | h2
              · exact (this.2.2 m' h2 m (by simp)).1
              · rcases List.mem_cons.1 h2 with h2 | h2
                · exact absurd h2 hmm
                · exact fun e => ((List.pairwise_cons.1 this.2.1).1 m' h2).1 e.symm
            exact hne (of_inj (Src.cov_of hcv) hof)
        obtain ⟨src, tgt, val⟩ := m
        cases src with
        | root r => obtain ⟨_, e2⟩ := hok; simp only [Src.slot]; rw [e2]; trivial
        | box r => obtain ⟨_, e2⟩ := hok; simp only [Src.slot]; rw [e2]; trivial
        | nest r i j =>
          obtain ⟨k0, xs, e1, e2⟩ := hok
          simp only [Src.slot] at hcov hm ⊢
          rw [e2]
          show OwnSl tyK _ w' r k0 xs (.hole i j) (rhoX R.ρ X r)
          rw [rhoX_out fun m hm3 ho et => hm (by
            have : r ∈ X.filterMap (·.tgt) := List.mem_filterMap.2 ⟨m, hm3, et⟩
            rw [hB.tgt] at this
            obtain ⟨p, hp, e2⟩ := List.mem_map.1 this
            exact ⟨p, hp, e2⟩)]
          exact (root_own hh e1).hole.keepHole fun g t ht hof hne => hkeep g t ht (hcov t hof hne)
      · have hnM : ∀ m ∈ M, m.src.slot ≠ s := fun m hm e => hM ⟨m, hm, e⟩
        exact .inl ⟨hE.same s hnM, fun g t ht hof => hkeep g t ht (hcovs s hnM t hof)⟩
  · have hg0 : R.T g = none := hh.none_ g (Nat.le_trans hst.size hg)
    exact hfit.none_ g (hc.none_ g hg)
/-- A call, from the caller's side. -/
theorem call_sound {P : Program} {α : Type} {r : α} {Co : Orc} {k : Eff → Option α} (hC : OrcOk P tyK Co) (hh : HR tyK R H w) {f : FuncId} {vs : List V} {us : List Value} {ms : List AM} {sh : Sh} {outs : List Sh} {ss : List (Option Nat)}
    (hv : VRs R H w vs us) (h : callK Co f vs ms sh outs ss H k = some r) :
    ∃ e, k e = some r ∧ Calls P f us.toArray w fun e' w' => ∃ v, e' = .returned v ∧ ∃ R', Pres R H w R' (puts H e.ws) w' ∧ HR tyK R' (puts H e.ws) w' ∧ VR R' (puts H e.ws) w' e.v v := by
  unfold callK at h
  obtain ⟨⟨xs, ws⟩, hm, h⟩ := Option.bind_eq_some_iff.1 h
  obtain ⟨bz, ha, h⟩ := Option.bind_eq_some_iff.1 h
  obtain ⟨hss, h⟩ := cond_none h
  rw [Bool.and_eq_true] at hss
  obtain ⟨hss, hpins⟩ := hss
  obtain ⟨⟨r1, r2⟩, hco, h⟩ := Option.bind_eq_some_iff.1 h
  dsimp only at ha h
  have hhf := mkArgs_hr vs ms H us xs ws hh hv hm
  obtain ⟨hl, M, hE, hL⟩ := mkArgs_rel vs ms H us xs ws 0 (puts H ws) bz hh hv hm ha hhf (Pres.refl _ _ _)
  rw [Nat.zero_add] at hl
  obtain ⟨hvs, hers⟩ := hL (R.inn M) hE.fz (layL bz 0).2.1 hE.fit fun i e he => by
    rw [Nat.zero_add]
    unfold geti
    rw [List.getD_eq_getElem?_getD, he]
    rfl
  have hHR : HR tyK (R.inn M) (layL bz 0).2.1 w := by
    refine ⟨fun s hs => ?_, fun g hg => hE.fit.none_ g (hh.none_ g hg)⟩
    have h1 := List.getElem?_eq_getElem hs
    have h2 := hers s _ h1
    rw [Nat.zero_add] at h2
    have : geti (layL bz 0).2.1 s = (layL bz 0).2.1[s] := by
      unfold geti
      rw [List.getD_eq_getElem?_getD, h1]
      rfl
    rw [this]
    exact h2
  split at h
  · rename_i v hx hnd
    have hnd' := nodupB_spec hnd
    refine ⟨_, h, Calls.mono (hC f bz _ _ hco (R.inn M) w us hHR hvs) ?_⟩
    rintro e' w' ⟨u, rfl, Rc, Hf, vf, hst, hc, hvf, hvs', rest, Hf', ht⟩
    refine ⟨u, rfl, ?_⟩
    simp only [take] at ht
    obtain ⟨⟨t1, rest1, Hf1⟩, h1, ht⟩ := Option.bind_eq_some_iff.1 ht
    obtain ⟨⟨t2, rest2, Hf2⟩, h2, ht⟩ := Option.bind_eq_some_iff.1 ht
    simp only [Option.some.injEq, Prod.mk.injEq] at ht
    obtain ⟨⟨rfl, rfl⟩, rfl, rfl⟩ := ht
    obtain ⟨X1, upre, urest, hk, hnt, hB⟩ := thaw_rel (Pn := PinE H) sh (vf :: (layL bz 0).1) (u :: us) Hf t1 rest1 Hf1 ss hc (VRs.mk hvf hvs') h1
    have hlen := hB.len
    rw [hx] at hlen
    have hup : upre = [u] ∧ urest = us := by
      match upre, hlen with
      | [u'], _ =>
        have := hk.us
        simp at this
        exact ⟨by rw [this.1], this.2.symm⟩
    obtain ⟨rfl, rfl⟩ := hup
    obtain ⟨X2, s2⟩ := restore_rel (tyK := tyK) (w0 := w) (H := H) (R := R) hh (outsSh outs) vs rest1 urest Hf1 t2 rest2 Hf2 (thaw sh t1 ss).ss (hk.ext.hr hc) hk.rest hv hpins h2
    have hB2 := hB.append s2.back
    have := out_rel hh hE hst hc (hk.ext.append s2.ext) hB2 hnd' (hnt.boxT.append s2.box) hss (ss' := (restore (outsSh outs) vs t2 (thaw sh t1 ss).ss).ss)
      (by rw [ownT_append, List.append_assoc]; exact hk.ss.trans (congrArg (ownT X1 ++ ·) s2.ss))
    rw [hx] at this
    have he : puts H (ws ++ (thaw sh t1 ss).ws ++ (restore (outsSh outs) vs t2 (thaw sh t1 ss).ss).ws) = puts (puts H ws) ((thaw sh t1 ss).ws ++ (restore (outsSh outs) vs t2 (thaw sh t1 ss).ss).ws) := by rw [List.append_assoc, puts_append]
    dsimp only
    rw [he]
    exact ⟨_, this.1, this.2.1, this.2.2.2 0 v u rfl rfl⟩
  · cases h
end
end Go.Proofs.Ytoedeimpfbebpaa.VR
end
section
set_option linter.unusedVariables false
set_option linter.unusedSimpArgs false
set_option linter.unusedSectionVars false
namespace Go.Proofs.Ytoedeimpfbebpaa.VR
open Go
section
variable {P : Program} {tyK : Kd → TypeId} {R : Re} {H : List E} {w : World} {α : Type} {r : α} {Co : Orc}
theorem OwnSl.toN {T T' : Nat → Option Tag} {t : Tag} {s : Nat} {ys : List Int} {ho : Ho} {v : Value} (h : OwnSl tyK T w s .int ys ho v) (hw : ho.whole = true) (hT : ∀ g, T g = some (.slot s) → T' g = some t) : OwnN tyK T' w t ys v := by
  rcases h with h | ⟨flat, h1, h2, h3, h4⟩
  · exact .inl h
  · have e : flat = ys.map fun y => .int .i64 y := by
      apply List.ext_getElem?
      intro i
      have hl : flat.length = ys.length := by have := h1.1; simpa [Kd.size] using this
      rcases Nat.lt_or_ge i ys.length with hi | hi
      · obtain ⟨u, hu, hc⟩ := h4 i ys[i] (List.getElem?_eq_getElem hi) 0 (.int ys[i]) rfl (Ho.not_at hw i 0)
        simp only [Kd.size, Nat.mul_one, Nat.add_zero] at hu
        rw [hu, List.getElem?_map, List.getElem?_eq_getElem hi]
        exact congrArg some hc
      · rw [List.getElem?_eq_none (by omega), List.getElem?_eq_none (by simpa using hi)]
    subst e
    exact .inr ⟨h1, fun g hg => hT g (h2 g hg)⟩
theorem isInts_rel {R' : Re} {H' : List E} {w' : World} : ∀ {vs : List V} {us : List Value}, V.ints vs = true → VRs R H w vs us → VRs R' H' w' vs us
  | [], [], _, _ => VRs.nil
  | [], _ :: _, _, h => by have := h.1; simp at this
  | v :: vs, [], _, h => by have := h.1; simp at this
  | v :: vs, u :: us, hi, h => by
    cases v <;> simp only [V.ints] at hi <;> first | (cases hi; done) | skip
    have h1 := h.cons.1
    have e := h1.int_inv
    subst e
    exact VRs.mk (.int _) (isInts_rel hi h.cons.2)
theorem layL_ints : ∀ {vs : List V} (s : Nat), layL (vs.map .v) s = (vs, [], s)
  | [], s => rfl
  | v :: vs, s => by simp [layL, lay, layL_ints (vs := vs) s]
open Classical in
theorem callN_sound {k : Eff → Option α} (hC : OrcOk P tyK Co) (hh : HR tyK R H w) {f : FuncId} {vs : List V} {us : List Value} (hv : VRs R H w vs us) (h : callN Co f vs H k = some r) :
    ∃ e, k e = some r ∧ Calls P f us.toArray w fun e' w' => ∃ v, e' = .returned v ∧ ∃ R', Pres R H w R' (puts H e.ws) w' ∧ HR tyK R' (puts H e.ws) w' ∧ VR R' (puts H e.ws) w' e.v v := by
  unfold callN at h
  split at h
  rotate_left
  · cases h
  rename_i q i j rest
  split at h
  rotate_left
  · cases h
  rename_i kd xs e0
  obtain ⟨h1, h⟩ := cond_none h
  simp only [Bool.and_eq_true, decide_eq_true_eq] at h1
  obtain ⟨hi, hint⟩ := h1
  obtain ⟨⟨n, zs, un⟩, hco, h⟩ := Option.bind_eq_some_iff.1 h
  obtain ⟨x, hx, h⟩ := Option.bind_eq_some_iff.1 h
  match us, hv.1 with
  | u :: us, _ =>
  have hvn := hv.cons.1
  have hvr := hv.cons.2
  have hnest : kd.nestAt j = true ∧ ∃ g cap, R.ρ q = .slice (some ⟨g, 0, none⟩) xs.length cap ∧ w.cell? ⟨g, i * kd.size + j, none⟩ = some u := by
    generalize hv0 : V.borN q i j = vv at hvn
    cases hvn <;> first | (cases hv0; done) | skip
    cases hv0
    rename_i h5 h6 h7
    obtain ⟨_, a, b⟩ := h7 kd xs e0
    exact ⟨a, b⟩
  obtain ⟨hnj, g0, cap0, hr0, hcell⟩ := hnest
  obtain ⟨ht0, hg0, _⟩ := root_block hh e0 hr0 (by omega)
  -- the element's cells
  obtain ⟨flat, f1, f2, f3, f4⟩ : ∃ flat, w.ownsRow 0 (tyK kd) kd.size (R.ρ q) xs.length flat ∧ (∀ g, (R.ρ q).ownBlock = some g → R.T g = some (.slot q)) ∧ (∀ u ∈ flat, u.oneCell' = true) ∧
      ∀ i x, xs[i]? = some x → ∀ j c, (kd.cells x)[j]? = some c → ∃ u, flat[i * kd.size + j]? = some u ∧ OwnC tyK R.T w q i j c u := by
    rcases root_own hh e0 with ⟨A, _, hx0⟩ | ⟨flat, f1, f2, f3, f4⟩
    · subst hx0; simp at hi
    · exact ⟨flat, f1, f2, f3, fun i x hx j c hc => f4 i x hx j c hc (fun h => h)⟩
  obtain ⟨ys, hys⟩ : ∃ ys, (kd.cells xs[i])[j]? = some (.nest ys) := nestAt_cell xs[i] hnj
  have hrow : row kd xs i = kd.cells xs[i] := by unfold row; rw [List.getD_eq_getElem?_getD, List.getElem?_eq_getElem hi]; rfl
  obtain ⟨u1, hu1, hown⟩ := f4 i xs[i] (List.getElem?_eq_getElem hi) j (.nest ys) hys
  have hu1' : u1 = u := by
    have := f1.cells (g := g0) (by rw [hr0]; rfl) (i * kd.size + j) u1 hu1
    rw [addr_add] at this
    simp only [Nat.zero_add] at this
    rw [hcell] at this
    exact (Option.some.inj this).symm
  subst hu1'
  have hown : OwnN tyK R.T w (.nest q i j) ys u1 := hown
  -- the callee's side
  let Rn : Re := ⟨fun g => (R.T g).map fun t => if t = .nest q i j then .slot 0 else .frozen, R.β, fun _ => u1⟩
  have hRn : HR tyK Rn [E.root .int ys .ok] w := by
    refine ⟨fun s hs => ?_, fun g hg => by show (R.T g).map _ = none; rw [hh.none_ g hg]; rfl⟩
    have : s = 0 := by simpa using hs
    subst this
    exact hown.slot fun g hg => by show (R.T g).map _ = _; rw [hg]; simp
  have hone : u1.oneCell' = true := by
    rcases hown with ⟨A, rfl, _⟩ | ⟨h5, _⟩
    · rfl
    · rcases h5.2 with ⟨h6, _⟩ | ⟨g, cap, cur, h6, _⟩ <;> rw [h6] <;> rfl
  have hgD : ((row kd xs i).getD j (.int 0)).ints = ys := by rw [hrow, List.getD_eq_getElem?_getD, hys]; rfl
  rw [hgD] at hco
  have hlay : layL (A.own .int ys :: rest.map .v) 0 = (V.bor 0 :: rest, [E.root .int ys .ok], 1) := by
    simp [layL, lay, layL_ints]
  have hargs : VRs Rn [E.root .int ys .ok] w (V.bor 0 :: rest) (u1 :: us) :=
    VRs.mk (.bor 0 u1 hone (fun h => by cases h) fun k xs ho h => rfl) (isInts_rel hint hvr)
  have hcalls := hC f _ _ _ hco Rn w (u1 :: us) (by rw [hlay]; exact hRn) (by rw [hlay]; exact hargs)
  rw [hlay] at hcalls
  refine ⟨_, h, Calls.mono hcalls ?_⟩
  rintro e' w' ⟨v, rfl, Rc, Hf, vf, hst, hc, hvf, hvs, rest', Hf', ht⟩
  simp only [take] at ht
  obtain ⟨⟨t1, r1, H1⟩, q1, ht⟩ := Option.bind_eq_some_iff.1 ht
  obtain ⟨⟨t2, r2, H2⟩, q2, ht⟩ := Option.bind_eq_some_iff.1 ht
  obtain ⟨⟨t3, r3, H3⟩, q3, q2⟩ := Option.bind_eq_some_iff.1 q2
  simp only [Option.bind_some, Option.some.injEq, Prod.mk.injEq] at ht q2
  obtain ⟨⟨rfl, rfl⟩, rfl, rfl⟩ := ht
  obtain ⟨⟨rfl, _⟩, _, _⟩ := q2
  have hvfn : vf = .int t1 ∧ r1 = V.bor 0 :: rest ∧ H1 = Hf := by
    cases vf <;> simp [take] at q1
    obtain ⟨rfl, rfl, rfl⟩ := q1; exact ⟨rfl, rfl, rfl⟩
  obtain ⟨rfl, rfl, rfl⟩ := hvfn
  have hb0 := hvs.cons.1
  obtain ⟨ho, hg, hw⟩ : ∃ ho, geti H1 0 = .root .int zs ho ∧ ho.whole = true := by
    simp only [take] at q3
    split at q3
    · rename_i k' xs' ho e
      obtain ⟨hw, q3⟩ := cond_none q3
      split at q3
      · rename_i hk
        subst hk
        simp only [Option.some.injEq, Prod.mk.injEq] at q3
        obtain ⟨rfl, _⟩ := q3
        exact ⟨ho, e, hw⟩
      · cases q3
    · cases q3
  have hu0 := hb0.bor_inv hg
  have hown' := root_own hc hg
  rw [← hu0] at hown'
  refine ⟨v, rfl, ?_⟩
  -- what is behind the call
  have hfz : ∀ g t, R.T g = some t → t ≠ .nest q i j → Rc.T g = some .frozen ∧ w'.heap[g]? = w.heap[g]? := by
    intro g t ht hne
    have h2 : Rn.T g = some .frozen := by show (R.T g).map _ = _; rw [ht]; simp [hne]
    have hlt : g < w.heap.size := by
      rcases Nat.lt_or_ge g w.heap.size with h3 | h3
      · exact h3
      · have := hh.none_ g h3; rw [this] at ht; cases ht
    obtain ⟨h3, h4⟩ := hst.ro g hlt (by rw [h2]; exact .inr ⟨rfl, rfl⟩)
    exact ⟨h3.trans h2, h4⟩
  let R' : Re := ⟨fun g => if Rn.T g = some .frozen then R.T g else if Rc.T g = some (.slot 0) then some (.nest q i j) else none, R.β, R.ρ⟩
  have hkeep : ∀ g t, R.T g = some t → t ≠ .nest q i j → R'.T g = some t ∧ w'.heap[g]? = w.heap[g]? := by
    intro g t ht hne
    have h2 : Rn.T g = some .frozen := by show (R.T g).map _ = _; rw [ht]; simp [hne]
    refine ⟨?_, (hfz g t ht hne).2⟩
    show (if Rn.T g = some .frozen then R.T g else _) = _
    rw [if_pos h2, ht]
  have hnest' : OwnN tyK R'.T w' (.nest q i j) zs u1 := hown'.toN hw fun g hg => by
    show (if Rn.T g = some .frozen then R.T g else if Rc.T g = some (.slot 0) then _ else _) = _
    rw [if_neg, if_pos hg]
    intro h2
    have hlt : g < w.heap.size := by
      rcases Nat.lt_or_ge g w.heap.size with h3 | h3
      · exact h3
      · have h4 : R.T g = none := hh.none_ g h3
        have h5 : Rn.T g = none := by show (R.T g).map _ = none; rw [h4]; rfl
        rw [h5] at h2; cases h2
    have h3 := (hst.ro g hlt (by rw [h2]; exact .inr ⟨rfl, rfl⟩)).1
    rw [h2, hg] at h3
    cases h3
  have hcs := Kd.cells_ofCells hx
  have hjs : j < kd.size := by obtain ⟨e1, e2⟩ := nestAt_inv hnj; rw [e1, e2]; decide
  have hjl : j + 1 ≤ (row kd xs i).length := by rw [hrow, Kd.cells_length]; exact hjs
  have hq0 : geti H q ≠ .fresh := by rw [e0]; exact fun h => by cases h
  have hql := geti_lt hq0
  have hroot : OwnSl tyK R'.T w' q kd (xs.set i x) .ok (R.ρ q) := by
    refine .inr ⟨flat, ?_, fun g hg => (hkeep g _ (f2 g hg) (fun h => by cases h)).1, f3, fun i' x' hx' j' c hc' _ => ?_⟩
    · rw [List.length_set]
      exact ownsRow_move f1 fun g hg => (hkeep g _ (f2 g hg) (fun h => by cases h)).2
    · by_cases hii : i' = i
      · subst hii
        rw [List.getElem?_set_self hi] at hx'
        injection hx' with hx'
        subst hx'
        rw [hcs, splice_get _ _ _ (by simpa using hjl)] at hc'
        by_cases hjj : j' = j
        · subst hjj
          simp at hc'
          subst hc'
          exact ⟨u1, hu1, hnest'⟩
        · rw [hrow] at hc'
          have hc2 : (kd.cells xs[i'])[j']? = some c := by
            by_cases hlt : j' < j
            · rw [if_pos hlt] at hc'; exact hc'
            · rw [if_neg hlt, if_neg (by simp; omega)] at hc'; exact hc'
          obtain ⟨y, hy, hoc⟩ := f4 i' xs[i'] (List.getElem?_eq_getElem hi) j' c hc2
          refine ⟨y, hy, ?_⟩
          cases c with
          | nest zs' =>
            rcases hoc with h5 | ⟨h5, h6⟩
            · exact .inl h5
            · have hne : Tag.nest q i' j' ≠ .nest q i' j := by intro h; injection h with _ _ h; exact hjj h
              exact .inr ⟨ownsRow_move h5 fun g hg => (hkeep g _ (h6 g hg) hne).2, fun g hg => (hkeep g _ (h6 g hg) hne).1⟩
          | _ => exact hoc
      · rw [List.getElem?_set_ne (Ne.symm hii)] at hx'
        obtain ⟨y, hy, hoc⟩ := f4 i' x' hx' j' c hc'
        refine ⟨y, hy, ?_⟩
        cases c with
        | nest zs' =>
          rcases hoc with h5 | ⟨h5, h6⟩
          · exact .inl h5
          · have hne : Tag.nest q i' j' ≠ .nest q i j := by intro h; injection h with _ h _; exact hii h
            exact .inr ⟨ownsRow_move h5 fun g hg => (hkeep g _ (h6 g hg) hne).2, fun g hg => (hkeep g _ (h6 g hg) hne).1⟩
        | _ => exact hoc
  have hputs : puts H [(q, E.root kd (xs.set i x) .ok)] = H.set q (.root kd (xs.set i x) .ok) := rfl
  have hgs : ∀ s, geti (H.set q (E.root kd (xs.set i x) .ok)) s = if s = q then .root kd (xs.set i x) .ok else geti H s := by
    intro s
    by_cases hs : s = q
    · subst hs; rw [if_pos rfl]; exact geti_set_same hql
    · rw [if_neg hs, geti_set, if_neg]
      intro h; exact hs (by first | exact h.1.symm | exact h.symm | exact h.1 | exact h)
  have hp : Pres R H w R' (H.set q (.root kd (xs.set i x) .ok)) w' := by
    refine ⟨⟨hst.os, hst.tape, hst.output, hst.size, fun g hg ho => ?_⟩, fun s hs => ?_, fun _ _ => rfl, fun s k xs' ho' hs e => ?_⟩
    · rcases ho with ho | ⟨_, ho⟩
      · have h2 : Rn.T g = none := by show (R.T g).map _ = none; rw [ho]; rfl
        obtain ⟨h3, h4⟩ := hst.ro g hg (.inl h2)
        refine ⟨?_, h4⟩
        show (if Rn.T g = some .frozen then R.T g else if Rc.T g = some (.slot 0) then _ else _) = _
        rw [if_neg (by rw [h2]; exact fun h => by cases h), if_neg (by rw [h3, h2]; exact fun h => by cases h), ho]
      · obtain ⟨h3, h4⟩ := hkeep g _ ho (fun h => by cases h)
        exact ⟨by rw [h3, ho], h4⟩
    · rw [hgs]; split
      · exact fun h => by cases h
      · exact hs
    · rw [hgs] at e
      split at e
      · rename_i hs2
        subst hs2
        cases e
        refine ⟨xs, .ok, e0, rfl, by rw [List.length_set], fun _ => ⟨rfl, fun g n cap i2 j2 hr _ hi2 => ?_⟩⟩
        obtain ⟨h3, _, _⟩ := root_block hh e0 hr (by omega)
        exact World.cell?_of_block (a := ⟨g, _, none⟩) (hkeep g _ h3 (fun h => by cases h)).2
      · refine ⟨xs', ho', e, rfl, rfl, fun hok => ⟨hok, fun g n cap i2 j2 hr _ hi2 => ?_⟩⟩
        obtain ⟨h3, _, _⟩ := root_block hh e hr (by omega)
        exact World.cell?_of_block (a := ⟨g, _, none⟩) (hkeep g _ h3 (fun h => by cases h)).2
  refine ⟨R', by rw [hputs]; exact hp, ?_, ?_⟩
  · rw [hputs]
    refine hh.next hp (by simp) (fun s hs => ?_) (fun g hg => ?_)
    · by_cases hs2 : s = q
      · subst hs2
        right
        rw [hgs, if_pos rfl]
        exact hroot
      · left
        refine ⟨by rw [hgs, if_neg hs2], fun g t ht hof => hkeep g t ht ?_⟩
        rintro rfl
        exact hs2 hof.symm
    · show (if Rn.T g = some .frozen then R.T g else if Rc.T g = some (.slot 0) then _ else _) = _
      have h4 : R.T g = none := hh.none_ g (Nat.le_trans hst.size hg)
      have h5 : Rn.T g = none := by show (R.T g).map _ = none; rw [h4]; rfl
      rw [if_neg (by rw [h5]; exact fun h => by cases h), if_neg (by rw [hc.none_ g hg]; exact fun h => by cases h)]
  · have := hvf.int_inv
    rw [this]
    exact .int _
end
end Go.Proofs.Ytoedeimpfbebpaa.VR
end
section
set_option linter.unusedVariables false
set_option linter.unusedSimpArgs false
set_option linter.unusedSectionVars false
namespace Go.Proofs.Ytoedeimpfbebpaa.VR
open Go
/-- Functions whose calls are entered. -/
def Enters (P : Program) (f : FuncId) : Prop := ∀ (args : Array Value) (w : World), (callFunc f args).run P w = .ok (.enter f args) w
structure CoOk (P : Program) (tyK : Kd → TypeId) (Co : Orc) : Prop where
  orc : OrcOk P tyK Co
  enters : ∀ f bz sh r, Co f bz sh = some r → Enters P f
section
variable {P : Program} {Tb : TypeId → Option TI} {tyK : Kd → TypeId} {R : Re} {H : List E} {w : World} {a : Act} {o : Oper} {oa : OA} {tm : List V} {α : Type} {r : α} {Co : Orc} {k : Eff → Option α}
variable (hT : TbOk P Tb tyK) (hC : CoOk P tyK Co) (hh : HR tyK R H w) (ht : VRs R H w tm a.tmps.toList)
include hT hC hh ht
theorem op_call {c : Go.Call} {f : Operand} (hc : c.callee = .value f) (ho : o.op = .call c) (h : opK Tb tyK Co o oa tm H k = some r) : Sound P tyK o a w R H k r := by
  simp only [opK, ho, hc] at h
  have gen : ∀ {g : FuncId} {caps : List V}, ev tm f = .clo g caps → Enters P g →
      (∀ us, VRs R H w (c.args.toList.map (ev tm) ++ caps) us → ∃ e, k e = some r ∧ Calls P g us.toArray w fun e' w' => ∃ v, e' = .returned v ∧ ∃ R', Pres R H w R' (puts H e.ws) w' ∧ HR tyK R' (puts H e.ws) w' ∧ VR R' (puts H e.ws) w' e.v v) →
      Sound P tyK o a w R H k r := by
    intro g caps hf hen hcs
    have hv := ev_rel ht f
    rw [hf] at hv
    generalize hu : a.eval f = uf at hv
    cases hv with
    | clo _ _ us hl hr =>
      have hargs : VRs R H w (c.args.toList.map (ev tm) ++ caps) ((c.args.toList.map a.eval) ++ us) := by
        refine ⟨by simp [hl], fun i v u hv hu' => ?_⟩
        by_cases hi : i < c.args.size
        · rw [List.getElem?_append_left (by simpa using hi), List.getElem?_map] at hv
          rw [List.getElem?_append_left (by simpa using hi), List.getElem?_map] at hu'
          obtain ⟨x, hx, rfl⟩ := Option.map_eq_some_iff.1 hv
          rw [hx] at hu'
          simp at hu'
          subst hu'
          exact ev_rel ht x
        · rw [List.getElem?_append_right (by simpa using hi)] at hv
          rw [List.getElem?_append_right (by simpa using hi)] at hu'
          simp at hv hu'
          exact hr _ v u hv hu'
      obtain ⟨e, hk, hcalls⟩ := hcs _ hargs
      refine ⟨e, hk, fun K Q hK => ?_⟩
      have hrun : (execOp a.eval o).run P w = .ok (.enter g ((c.args.toList.map a.eval) ++ us).toArray) w := by
        have h5 : (c.args.map a.eval ++ us.toArray) = ((c.args.toList.map a.eval) ++ us).toArray := by apply Array.ext'; simp
        simp [execOp, ho, resolve, hc, hu, Deferred.ofValue, invoke, h5, hen _ w]
      unfold Oper.wp
      rw [hrun]
      refine Calls.mono hcalls ?_
      rintro e' w' ⟨v, rfl, R', hp, hr', hv'⟩
      exact hK R' v w' hp hr' hv'
  split at h
  · rename_i g caps ms sh outs ss hf
    refine gen hf ?_ fun us hargs => call_sound hC.orc hh hargs h
    unfold callK at h
    obtain ⟨_, _, h⟩ := Option.bind_eq_some_iff.1 h
    obtain ⟨_, _, h⟩ := Option.bind_eq_some_iff.1 h
    obtain ⟨_, h⟩ := cond_none h
    obtain ⟨_, hco, _⟩ := Option.bind_eq_some_iff.1 h
    exact hC.enters _ _ _ _ hco
  · rename_i g caps hf
    refine gen hf ?_ fun us hargs => callN_sound hC.orc hh hargs h
    unfold callN at h
    split at h
    · split at h
      · obtain ⟨_, h⟩ := cond_none h
        obtain ⟨_, hco, _⟩ := Option.bind_eq_some_iff.1 h
        exact hC.enters _ _ _ _ hco
      · cases h
    · cases h
  · cases h
/-- Every operation. -/
theorem op_sound (hs : ∀ s q, oa = .slot s q → s < H.length) (h : opK Tb tyK Co o oa tm H k = some r) : Sound P tyK o a w R H k r := by
  have h' := h
  unfold opK at h'
  cases ho : o.op with
  | move x => exact op_move hh ht ho h
  | assign x => exact op_assign hh ht ho h
  | pick c x y => exact op_pick hh ht ho h
  | binOp op t x y t' => exact op_bin hT hh ht ho h
  | unOp op t x => exact op_un hh ht ho h
  | nilCheck x => exact op_nilck hh ht ho h
  | fieldAddr t x f => exact op_fa hT hh ht ho h
  | indexAddr t x ix => exact op_ia hT hh ht ho h
  | load t x => exact op_load hT hh ht ho h
  | store t x y =>
    rw [ho] at h'
    simp only at h'
    split at h'
    · obtain ⟨_, h'⟩ := cond_none h'
      split at h'
      · rename_i e; exact op_store_box hT hh ht e ho h
      · rename_i e; exact op_store_ep hT hh ht e ho h
      · cases h'
    · cases h'
  | alloc t => exact op_alloc hT hh ht hs ho h
  | box t x => exact op_box hT hh ht hs ho h
  | build t parts => exact op_build hT hh ht ho h
  | buildSlice t n parts => exact op_buildSlice hT hh ht hs ho h
  | makeSlice t x y => exact op_makeSlice hT hh ht hs ho h
  | makeFunc fn first caps => exact op_mkf hh ht ho h
  | extract x i => exact op_extract hh ht ho h
  | index t x ix => exact op_index hT hh ht ho h
  | convert s d x => exact op_convert hT hh ht ho h
  | slice t x lo hi mx =>
    by_cases hb : ∃ q0, ev tm x = .bor q0
    · obtain ⟨q0, hb⟩ := hb
      exact op_slice_bor hT hh ht hb hs ho h
    · exact op_slice hT hh ht (fun s q q0 e => absurd ⟨q0, e⟩ hb) ho h
  | call c =>
    cases hc : c.callee with
    | value f => exact op_call hT hC hh ht hc ho h
    | builtin b =>
      cases b with
      | len => exact op_len hT hh ht hc ho h
      | max => exact op_mm hT hh ht (.inl rfl) hc ho h
      | min => exact op_mm hT hh ht (.inr rfl) hc ho h
      | append => exact op_append hT hh ht hs hc ho h
      | _ => rw [ho] at h'; simp only [hc, builtinK] at h'; first | (cases h'; done) | (split at h' <;> first | (cases h'; done) | (rename_i hq; cases hq; done) | (rename_i hq _; cases hq; done))
    | invoke x n => rw [ho] at h'; simp only [hc] at h'; cases h'
  | _ => rw [ho] at h'; cases h'
end
end Go.Proofs.Ytoedeimpfbebpaa.VR
end
