/- Code over summaries of its loops: definitions, soundness. -/
import Derived.Test.YtoedeimpfbebpaaK4
section
set_option linter.unusedVariables false
set_option linter.unusedSimpArgs false
set_option linter.unusedSectionVars false
namespace Go.Proofs.Ytoedeimpfbebpaa.VR
open Go
/-- A slot at a loop's head: looked at, free, or of no use. -/
inductive HT where
  | k | d | fresh | dead
/-- A slice whose own inner slices may have been turned. -/
def E.dirt : E → E
  | .root k xs .ok => .root k xs .dirty
  | e => e
def look (i : Nat) : List Nat → List V → V
  | k :: ks, v :: vs => cond (i == k) v (look i ks vs)
  | _, _ => .junk
def layT (kt : List Nat) (vs : List V) : Nat → Nat → List V
  | _, 0 => []
  | i, n + 1 => look i kt vs :: layT kt vs (i + 1) n
def pickT (kt : List Nat) (tm : List V) : List V := kt.map fun i => tm.getD i .junk
def layH : List HT → List E → List E
  | [], _ => []
  | .k :: hs, e :: es => e :: layH hs es
  | .k :: hs, [] => .dead :: layH hs []
  | .d :: hs, e :: es => e :: layH hs es
  | .d :: hs, [] => .dead :: layH hs []
  | .fresh :: hs, es => .fresh :: layH hs es
  | .dead :: hs, es => .dead :: layH hs es
def pickH : List HT → List E → List E
  | .k :: hs, e :: es => e :: pickH hs es
  | .d :: hs, e :: es => e.dirt :: pickH hs es
  | _ :: hs, _ :: es => pickH hs es
  | _, _ => []
def okH : List HT → List E → Bool
  | [], [] => true
  | .fresh :: hs, e :: es => e.isFresh && okH hs es
  | _ :: hs, _ :: es => okH hs es
  | _, _ => false
/-- A loop's summary. -/
structure LS where
  la : LA
  nt : Nat
  kt : List Nat
  hs : List HT
  X : Type
  abs : List V → List E → Option X
  tms : X → List V
  ets : X → List E
  run : {α : Type} → Nat → X → (Ex → St → Option α) → Option α
def LS.entry (l : LS) (st : St) : Option l.X := (head l.la st).bind fun st =>
  cond (st.tm.length == l.nt && okH l.hs st.H) (l.abs (pickT l.kt st.tm) (pickH l.hs st.H)) none
def LS.pack (l : LS) (x : l.X) : St := ⟨layT l.kt (l.tms x) 0 l.nt, layH l.hs (l.ets x)⟩
def findLS (n : Option Nat) : List LS → Option LS
  | [] => none
  | l :: r => cond (n == some l.la.first) (some l) (findLS n r)
def LS.round (l : LS) {α : Type} (m : Nat) (k : Ex → St → Option α) : Ex → St → Option α := fun ex st => match ex with
  | .normal => (l.entry st).bind fun x => l.run m x k
  | .ret => k .ret (trim l.la st)
  | .exit id => k (.exit id) (trim l.la st)
section
variable (Tb : TypeId → Option TI) (tyK : Kd → TypeId) {α : Type}
/-- A guard that is known on this way. -/
def refG (ops : Array Oper) (o : Oper) (tm : List V) (k : List V → Option α) : Option α := match o.guard with
  | none => k tm
  | some (g, _) => match (ops[g]?).bind (·.dst) with
    | some d => (tm.getD d .junk).asG (fun b => cond b (k (tm.set d (.bool true))) (k (tm.set d (.bool false)))) (k tm)
    | none => none
def dregL (Co : Orc) (ops : Array Oper) (bz : List (Nat × OA)) : Nat → List Oper → List (List Nat × List Nat) → List V → List E → (St → Option α) → Option α
  | _, [], _, tm, H, k => k ⟨tm, H⟩
  | i, o :: os, (rd, wr) :: ds, tm, H, k => refG ops o tm fun tm => gopK Tb tyK Co ops o (oaOf bz i) (keepT (o.looksAt ops) 0 tm) (mask H rd 0) fun _ e =>
    cond (within e.ws wr) (dregL Co ops bz (i + 1) os ds (putd tm o.dst e.v) (puts H e.ws) k) none
  | _, _, _, _, _, _ => none
def vl (Co : Orc) (m : Nat) (an : Ann) (ls : List LS) : Code → St → (Ex → St → Option α) → Option α
  | .skip, st, k => k .normal st
  | .label _, st, k => k .normal st
  | .ret, st, k => k .ret st
  | .exit id, st, k => k (.exit id) st
  | .seq a b, st, k => vl Co m an ls a st fun ex st => match ex with
    | .normal => vl Co m an ls b st k
    | .ret => k .ret st
    | .exit id => k (.exit id) st
  | .cond c a b, st, k => (ev st.tm c).asB fun t => cond t (vl Co m an ls a ⟨setB st.tm c true, st.H⟩ k) (vl Co m an ls b ⟨setB st.tm c false, st.H⟩ k)
  | .block id c, st, k => vl Co m an ls c st fun ex st => match ex with
    | .normal => k .normal st
    | .ret => k .ret st
    | .exit id' => cond (id' == id) (k .normal st) (k (.exit id') st)
  | .region id ops false, st, k => regK Tb tyK Co ops (findR id an.regs) 0 ops.toList st.tm st.H fun st => k .normal st
  | .region id ops true, st, k => let ds := findD id an.draws
    cond (edgesBack ops && apartD ops ds) (dregL Tb tyK Co ops (findR id an.regs) 0 ops.toList ds st.tm st.H fun st => k .normal st) none
  | .loop c, st, k => match findLS (firstReg c) ls with
    | some l => (l.entry st).bind fun x => l.run m x k
    | none => none
  | _, _, _ => none
/-- A function's body, over its loops' summaries. -/
def bodyL (Co : Orc) (m : Nat) (fa : FnA) (ls : List LS) (bz : List A) (sh : Sh) : Option sh.T :=
  let l := layL bz 0
  match fa.fn.body with
  | none => none
  | some c => cond (ls.all fun s => V.free.go (s.la.reset ++ s.la.norm.map (·.2.1)) 200 l.1)
    (vl Tb tyK Co m fa.ann ls c ⟨l.1 ++ List.replicate (fa.fn.ntmps - l.1.length) .junk, l.2.1 ++ List.replicate (fa.slots - l.2.1.length) .fresh⟩ fun ex st =>
      let fin := (resV Tb st.tm st.H fa.fn.results.toList).bind fun vs => (take sh (one vs :: l.1) st.H).bind fun r => some r.1
      match ex with
      | .normal => fin
      | .ret => fin
      | .exit _ => none) none
/-- What is asked of a loop's summary. -/
structure LSok (Co : Orc) (n : Nat) (an : Ann) (ls : List LS) (c : Code) (l : LS) : Prop where
  inv : ∀ vs es x, l.abs vs es = some x → vs = l.tms x ∧ es = l.ets x
  zero : ∀ {α : Type} (x : l.X) (k : Ex → St → Option α), l.run 0 x k = none
  succ : ∀ {α : Type} (m : Nat) (x : l.X) (k : Ex → St → Option α), vl Tb tyK Co n an ls c (l.pack x) (l.round m k) = l.run (m + 1) x k
def loopsOf : Code → List Code
  | .seq a b => loopsOf a ++ loopsOf b
  | .cond _ a b => loopsOf a ++ loopsOf b
  | .block _ c => loopsOf c
  | .loop c => c :: loopsOf c
  | _ => []
def LSsOk (Co : Orc) (n : Nat) (an : Ann) (ls : List LS) (cs : List Code) : Prop := ∀ c ∈ cs, ∀ l, findLS (firstReg c) ls = some l → LSok Tb tyK Co n an ls c l
theorem LSsOk.nil {Co : Orc} {n : Nat} {an : Ann} {ls : List LS} : LSsOk Tb tyK Co n an ls [] := fun c h => by cases h
theorem LSsOk.cons {Co : Orc} {n : Nat} {an : Ann} {ls : List LS} {c : Code} {cs : List Code} {l : LS} (h : findLS (firstReg c) ls = some l) (h1 : LSok Tb tyK Co n an ls c l) (h2 : LSsOk Tb tyK Co n an ls cs) : LSsOk Tb tyK Co n an ls (c :: cs) := by
  intro c' hc l' hl
  rcases List.mem_cons.1 hc with rfl | hc
  · rw [h] at hl
    injection hl with hl
    subst hl
    exact h1
  · exact h2 c' hc l' hl
end
theorem look_spec (tm : List V) (i : Nat) : ∀ (kt : List Nat), look i kt (pickT kt tm) = .junk ∨ look i kt (pickT kt tm) = tm.getD i .junk
  | [] => .inl rfl
  | k :: kt => by
    show cond (i == k) (tm.getD k .junk) (look i kt (pickT kt tm)) = _ ∨ cond (i == k) (tm.getD k .junk) (look i kt (pickT kt tm)) = _
    cases h : (i == k) with
    | true =>
      have : i = k := by simpa using h
      subst this
      exact .inr rfl
    | false => exact look_spec tm i kt
theorem layT_get (kt : List Nat) (vs : List V) : ∀ (n i j : Nat), (layT kt vs i n)[j]? = if j < n then some (look (i + j) kt vs) else none
  | 0, i, j => by simp [layT]
  | n + 1, i, 0 => by simp [layT]
  | n + 1, i, j + 1 => by
    simp only [layT, List.getElem?_cons_succ, layT_get kt vs n (i + 1) j, Nat.add_lt_add_iff_right]
    rw [show i + 1 + j = i + (j + 1) by omega]
theorem layT_length (kt : List Nat) (vs : List V) : ∀ (n i : Nat), (layT kt vs i n).length = n
  | 0, i => rfl
  | n + 1, i => by simp [layT, layT_length kt vs n (i + 1)]
def Sub1 (x y : E) : Prop := x = .dead ∨ x = y ∨ ∃ k xs, x = .root k xs .dirty ∧ y = .root k xs .ok
theorem dirt_sub (e : E) : Sub1 e.dirt e := by
  cases e with
  | root k xs ho => cases ho with
    | ok => exact .inr (.inr ⟨k, xs, rfl, rfl⟩)
    | _ => exact .inr (.inl rfl)
  | _ => exact .inr (.inl rfl)
theorem layH_le : ∀ (hs : List HT) (H : List E), okH hs H = true → (layH hs (pickH hs H)).length = H.length ∧ ∀ s, Sub1 (geti (layH hs (pickH hs H)) s) (geti H s)
  | [], [], _ => ⟨rfl, fun s => .inr (.inl rfl)⟩
  | [], e :: H, h => by simp [okH] at h
  | .k :: hs, [], h => by simp [okH] at h
  | .d :: hs, [], h => by simp [okH] at h
  | .fresh :: hs, [], h => by simp [okH] at h
  | .dead :: hs, [], h => by simp [okH] at h
  | .k :: hs, e :: H, h => by
    obtain ⟨h1, h2⟩ := layH_le hs H h
    refine ⟨by simp [layH, pickH, h1], fun s => ?_⟩
    cases s with
    | zero => exact .inr (.inl rfl)
    | succ s => exact h2 s
  | .d :: hs, e :: H, h => by
    obtain ⟨h1, h2⟩ := layH_le hs H h
    refine ⟨by simp [layH, pickH, h1], fun s => ?_⟩
    cases s with
    | zero => exact dirt_sub e
    | succ s => exact h2 s
  | .fresh :: hs, e :: H, h => by
    simp only [okH, Bool.and_eq_true] at h
    obtain ⟨h0, h⟩ := h
    obtain ⟨h1, h2⟩ := layH_le hs H h
    refine ⟨by simp [layH, pickH, h1], fun s => ?_⟩
    cases s with
    | zero => cases e <;> first | exact .inr (.inl rfl) | cases h0
    | succ s => exact h2 s
  | .dead :: hs, e :: H, h => by
    obtain ⟨h1, h2⟩ := layH_le hs H h
    refine ⟨by simp [layH, pickH, h1], fun s => ?_⟩
    cases s with
    | zero => exact .inl rfl
    | succ s => exact h2 s
section
variable {P : Program} {Tb : TypeId → Option TI} {tyK : Kd → TypeId} {α : Type} {r : α} {Co : Orc} {R0 : Re} {w0 : World} {lv : List V} {us : List Value}
theorem J_le {st st' : St} {a : Act} {w : World} (hj : J tyK R0 w0 lv us st a w) (hl : st'.H.length = st.H.length ∧ ∀ s, Sub1 (geti st'.H s) (geti st.H s)) (hn : st'.tm.length = st.tm.length) (ht : ∀ (i : Nat) (v : V), st'.tm[i]? = some v → v = V.junk ∨ st.tm[i]? = some v) : J tyK R0 w0 lv us st' a w := by
  obtain ⟨R, hat⟩ := hj
  have hg := hl.2
  have hp : Pres R st.H w R st'.H w := by
    refine ⟨Step.refl R w, fun s hs => ?_, fun _ _ => rfl, fun s k xs ho hs e => ?_⟩
    · rcases hg s with h | h | ⟨k, xs, h, _⟩
      · rw [h]; exact fun h => by cases h
      · rw [h]; exact hs
      · rw [h]; exact fun h => by cases h
    · rcases hg s with h | h | ⟨k', xs', h, h2⟩
      · rw [h] at e; cases e
      · rw [h] at e
        exact ⟨xs, ho, e, rfl, rfl, fun h => ⟨h, fun _ _ _ _ _ _ _ _ => rfl⟩⟩
      · rw [h] at e
        cases e
        exact ⟨xs, .ok, h2, rfl, rfl, fun h => by cases h⟩
  have hh : HR tyK R st'.H w := by
    refine hat.hr.next hp hl.1 (fun s hs => ?_) hat.hr.none_
    rcases hg s with h | h | ⟨k', xs', h, h2⟩
    · right; rw [h]; trivial
    · exact .inl ⟨h, fun g t ht _ => ⟨ht, rfl⟩⟩
    · right
      rw [h]
      have h3 := hat.hr.at_ s (geti_lt (by rw [h2]; exact fun h => by cases h))
      rw [h2] at h3
      exact h3
  have := hat.pres hp hh
  refine ⟨R, this.step, this.hr, ⟨by rw [hn]; exact this.tm.1, fun i v u hv hu => ?_⟩, this.lv, this.defers⟩
  rcases ht i v hv with rfl | h
  · exact .junk _
  · exact this.tm.2 i v u h hu
theorem LS.entry_sound {l : LS} (hinv : ∀ vs es x, l.abs vs es = some x → vs = l.tms x ∧ es = l.ets x) (hlv : V.free.go (l.la.reset ++ l.la.norm.map (·.2.1)) 200 lv = true) {st : St} {x : l.X} {a : Act} {w : World}
    (h : l.entry st = some x) (hj : J tyK R0 w0 lv us st a w) : J tyK R0 w0 lv us (l.pack x) a w := by
  unfold LS.entry at h
  obtain ⟨st1, hh, h⟩ := Option.bind_eq_some_iff.1 h
  obtain ⟨h1, h⟩ := cond_none h
  rw [Bool.and_eq_true] at h1
  have hn : st1.tm.length = l.nt := by simpa using h1.1
  have hj1 := head_sound hlv hh hj
  obtain ⟨e1, e2⟩ := hinv _ _ _ h
  obtain ⟨g1, g2⟩ := layH_le l.hs st1.H h1.2
  unfold LS.pack
  rw [← e1, ← e2]
  refine J_le hj1 ⟨g1, g2⟩ (by rw [layT_length, hn]) fun i v hv => ?_
  rw [layT_get] at hv
  split at hv
  · rename_i hi
    injection hv with hv
    rw [Nat.zero_add] at hv
    rcases look_spec st1.tm i l.kt with h2 | h2
    · exact .inl (hv.symm.trans h2)
    · right
      rw [h2] at hv
      rw [← hv, List.getD_eq_getElem?_getD, List.getElem?_eq_getElem (by rw [hn]; exact hi)]
      rfl
  · cases hv
open Classical in
theorem LS.sound {l : LS} {c : Code} {k : Ex → St → Option α} {Q : Exit → Act → World → Prop} {n : Nat} {an : Ann} {ls : List LS} (hok : LSok Tb tyK Co n an ls c l) (hlv : V.free.go (l.la.reset ++ l.la.norm.map (·.2.1)) 200 lv = true)
    (hQ : ∀ ex st a w, k ex st = some r → J tyK R0 w0 lv us st a w → Q (exOf ex) a w)
    (hbd : ∀ (st : St) (k : Ex → St → Option α) (Q : Exit → Act → World → Prop) (a : Act) (w : World), (∀ ex st a w, k ex st = some r → J tyK R0 w0 lv us st a w → Q (exOf ex) a w) → vl Tb tyK Co n an ls c st k = some r → J tyK R0 w0 lv us st a w → c.wp P Q a w)
    {m : Nat} {x : l.X} {a : Act} {w : World} (h : l.run m x k = some r) (hj : J tyK R0 w0 lv us (l.pack x) a w) : (Code.loop c).wp P Q a w := by
  let I : Act → World → Prop := fun a w => ∃ m x, l.run m x k = some r ∧ J tyK R0 w0 lv us (l.pack x) a w
  let μ : Act → World → Nat := fun a w => if h : I a w then Classical.choose (least h) else 0
  have hμ : ∀ a w (h : I a w), (∃ x, l.run (μ a w) x k = some r ∧ J tyK R0 w0 lv us (l.pack x) a w) ∧ ∀ m x, l.run m x k = some r → J tyK R0 w0 lv us (l.pack x) a w → μ a w ≤ m := by
    intro a w h
    have e : μ a w = Classical.choose (least h) := dif_pos h
    rw [e]
    obtain ⟨h3, h4⟩ := Classical.choose_spec (least h)
    exact ⟨h3, fun m x h1 h2 => h4 m ⟨x, h1, h2⟩⟩
  refine wp_loop I μ ⟨m, x, h, hj⟩ fun a w hI => ?_
  obtain ⟨⟨x, h1, hj⟩, _⟩ := hμ a w hI
  cases hm : μ a w with
  | zero => rw [hm, hok.zero] at h1; cases h1
  | succ m =>
    rw [hm, ← hok.succ] at h1
    refine hbd (l.pack x) _ _ a w (fun ex st2 a2 w2 hk hj2 => ?_) h1 hj
    cases ex with
    | normal =>
      obtain ⟨x2, hx2, hk2⟩ := Option.bind_eq_some_iff.1 hk
      have hj3 := LS.entry_sound hok.inv hlv hx2 hj2
      have hI2 : I a2 w2 := ⟨m, x2, hk2, hj3⟩
      refine ⟨hI2, ?_⟩
      have := (hμ a2 w2 hI2).2 m x2 hk2 hj3
      omega
    | ret => exact hQ .ret _ a2 w2 hk (trim_sound hj2)
    | exit id => exact hQ (.exit id) _ a2 w2 hk (trim_sound hj2)
theorem set_self {tm : List V} {d : Nat} {v : V} (h : tm.getD d .junk = v) (hv : v ≠ .junk) : tm.set d v = tm := by
  rw [List.getD_eq_getElem?_getD] at h
  rcases Nat.lt_or_ge d tm.length with hd | hd
  · rw [List.getElem?_eq_getElem hd] at h
    simp only [Option.getD_some] at h
    subst h
    exact List.set_getElem_self hd
  · rw [List.getElem?_eq_none hd] at h
    exact absurd h.symm hv
theorem refG_sound {ops : Array Oper} {o : Oper} {tm : List V} {k : List V → Option α} (h : refG ops o tm k = some r) : k tm = some r := by
  unfold refG at h
  split at h
  · exact h
  · split at h
    · rename_i d _
      rcases asG_some h with ⟨b, hb, h⟩ | ⟨hb, h⟩
      rotate_left
      · exact h
      cases b with
      | true => rw [cond_true, set_self hb (fun h => by cases h)] at h; exact h
      | false => rw [cond_false, set_self hb (fun h => by cases h)] at h; exact h
    · cases h
theorem dregL_sound {ops : Array Oper} {as' : List (Nat × OA)} {k : St → Option α} : ∀ (os : List Oper) (i : Nat) (ds : List (List Nat × List Nat)) (tm : List V) (H : List E), dregL Tb tyK Co ops as' i os ds tm H k = some r → dregK Tb tyK Co ops as' i os ds tm H k = some r
  | [], i, ds, tm, H, h => by simpa only [dregL, dregK] using h
  | o :: os, i, [], tm, H, h => by simp [dregL] at h
  | o :: os, i, (rd, wr) :: ds, tm, H, h => by
    simp only [dregL] at h
    have h := refG_sound h
    simp only [dregK]
    rw [gop_nat] at h ⊢
    obtain ⟨⟨t, e⟩, h1, h⟩ := Option.bind_eq_some_iff.1 h
    refine Option.bind_eq_some_iff.2 ⟨(t, e), h1, ?_⟩
    obtain ⟨h3, h4⟩ := cond_none h
    dsimp only at h3 h4 ⊢
    rw [h3, cond_true]
    exact dregL_sound os (i + 1) ds _ _ h4
theorem findLS_mem {n : Option Nat} {l : LS} : ∀ {ls : List LS}, findLS n ls = some l → l ∈ ls
  | l' :: ls, h => by
    unfold findLS at h
    cases hb : (n == some l'.la.first) with
    | true => rw [hb] at h; simp at h; subst h; exact List.mem_cons_self ..
    | false => rw [hb] at h; exact List.mem_cons_of_mem _ (findLS_mem h)
theorem vl_sound {m : Nat} {an : Ann} {ls : List LS} (hm : P.follows .mixedOrders = true) (hT : TbOk P Tb tyK) (hC : CoOk P tyK Co) (hlv : ∀ l ∈ ls, V.free.go (l.la.reset ++ l.la.norm.map (·.2.1)) 200 lv = true) :
    ∀ (c : Code) (st : St) (k : Ex → St → Option α) (Q : Exit → Act → World → Prop) (a : Act) (w : World), LSsOk Tb tyK Co m an ls (loopsOf c) → (∀ ex st a w, k ex st = some r → J tyK R0 w0 lv us st a w → Q (exOf ex) a w) →
      vl Tb tyK Co m an ls c st k = some r → J tyK R0 w0 lv us st a w → c.wp P Q a w
  | .skip, st, k, Q, a, w, hL, hQ, h, hj => wp_skip (hQ .normal st a w h hj)
  | .label l, st, k, Q, a, w, hL, hQ, h, hj => wp_label (hQ .normal st a w h hj)
  | .ret, st, k, Q, a, w, hL, hQ, h, hj => wp_ret (hQ .ret st a w h hj)
  | .exit id, st, k, Q, a, w, hL, hQ, h, hj => wp_exit (hQ (.exit id) st a w h hj)
  | .goto l, st, k, Q, a, w, hL, hQ, h, hj => by simp [vl] at h
  | .scope c, st, k, Q, a, w, hL, hQ, h, hj => by simp [vl] at h
  | .rangeFunc _ _ _ _, st, k, Q, a, w, hL, hQ, h, hj => by simp [vl] at h
  | .seq x y, st, k, Q, a, w, hL, hQ, h, hj => by
    simp only [vl] at h
    have hx : LSsOk Tb tyK Co m an ls (loopsOf x) := fun c hc => hL c (List.mem_append_left _ hc)
    have hy : LSsOk Tb tyK Co m an ls (loopsOf y) := fun c hc => hL c (List.mem_append_right _ hc)
    refine wp_seq (vl_sound hm hT hC hlv x st _ _ a w hx (fun ex st2 a2 w2 hk hj2 => ?_) h hj)
    cases ex with
    | normal => exact vl_sound hm hT hC hlv y st2 k Q a2 w2 hy hQ hk hj2
    | ret => exact hQ .ret st2 a2 w2 hk hj2
    | exit id => exact hQ (.exit id) st2 a2 w2 hk hj2
  | .cond c x y, st, k, Q, a, w, hL, hQ, h, hj => by
    simp only [vl] at h
    have hx : LSsOk Tb tyK Co m an ls (loopsOf x) := fun c hc => hL c (List.mem_append_left _ hc)
    have hy : LSsOk Tb tyK Co m an ls (loopsOf y) := fun c hc => hL c (List.mem_append_right _ hc)
    obtain ⟨b, hb, h⟩ := asB_some h
    obtain ⟨R, hat⟩ := hj
    have hv := ev_rel hat.tm c
    rw [hb] at hv
    have hset : ∀ b', b' = b → J tyK R0 w0 lv us ⟨setB st.tm c b', st.H⟩ a w := by
      rintro b' rfl
      refine ⟨R, hat.step, hat.hr, ?_, hat.lv, hat.defers⟩
      unfold setB
      split
      · exact (hat.tm.bool_at hb).2
      · exact hat.tm
    refine wp_cond hv.bool_inv ?_
    cases b with
    | true => exact vl_sound hm hT hC hlv x _ k Q a w hx hQ h (hset true rfl)
    | false => exact vl_sound hm hT hC hlv y _ k Q a w hy hQ h (hset false rfl)
  | .block id c, st, k, Q, a, w, hL, hQ, h, hj => by
    simp only [vl] at h
    refine wp_block (vl_sound hm hT hC hlv c st _ _ a w hL (fun ex st2 a2 w2 hk hj2 => ?_) h hj)
    cases ex with
    | normal => exact hQ .normal st2 a2 w2 hk hj2
    | ret => exact hQ .ret st2 a2 w2 hk hj2
    | exit id' =>
      dsimp only at hk
      show (if id' = id then Q .normal a2 w2 else Q (.exit id') a2 w2)
      by_cases hid : id' = id
      · have : (id' == id) = true := by simpa using hid
        rw [this] at hk
        rw [if_pos hid]
        exact hQ .normal st2 a2 w2 hk hj2
      · have : (id' == id) = false := by simpa using hid
        rw [this] at hk
        rw [if_neg hid]
        exact hQ (.exit id') st2 a2 w2 hk hj2
  | .region id ops false, st, k, Q, a, w, hL, hQ, h, hj => by
    simp only [vl] at h
    exact wp_region_list (reg_sound hT hC (k := fun st => k .normal st) (fun st2 a2 w2 hk hj2 => hQ .normal st2 a2 w2 hk hj2) ops.toList 0 st.tm st.H a w h hj)
  | .region id ops true, st, k, Q, a, w, hL, hQ, h, hj => by
    simp only [vl] at h
    obtain ⟨h1, h⟩ := cond_none h
    rw [Bool.and_eq_true] at h1
    exact dreg_sound hm hT hC (k := fun st => k .normal st) (fun st2 a2 w2 hk hj2 => hQ .normal st2 a2 w2 hk hj2) h1.1 h1.2 (dregL_sound _ _ _ _ _ h) hj
  | .loop c, st, k, Q, a, w, hL, hQ, h, hj => by
    simp only [vl] at h
    have hc : LSsOk Tb tyK Co m an ls (loopsOf c) := fun c' hc => hL c' (List.mem_cons_of_mem _ hc)
    split at h
    · rename_i l hl
      obtain ⟨x, hx, h⟩ := Option.bind_eq_some_iff.1 h
      have hok := hL c (List.mem_cons_self ..) l hl
      exact LS.sound hok (hlv l (findLS_mem hl)) hQ (fun st k Q a w hQ h hj => vl_sound hm hT hC hlv c st k Q a w hc hQ h hj) h (LS.entry_sound hok.inv (hlv l (findLS_mem hl)) hx hj)
    · cases h
theorem bodyL_sound {m : Nat} {f : FuncId} {fa : FnA} {bz : List A} {sh : Sh} {r : sh.T} {ls : List LS} {cs : List Code} (hm : P.follows .mixedOrders = true) (hT : TbOk P Tb tyK) (hC : CoOk P tyK Co) (hf : P.funcs[f]? = some fa.fn)
    (hcs : (fa.fn.body.map loopsOf) = some cs) (hL : LSsOk Tb tyK Co m fa.ann ls cs) (h : bodyL Tb tyK Co m fa ls bz sh = some r) : CallOk P tyK f bz sh r := by
  unfold bodyL at h
  dsimp only at h
  intro Rc w us hh hv
  split at h
  · cases h
  · rename_i c hc
    have hL' : LSsOk Tb tyK Co m fa.ann ls (loopsOf c) := by
      rw [hc] at hcs
      simp only [Option.map_some, Option.some.injEq] at hcs
      rw [hcs]; exact hL
    obtain ⟨hlv, h⟩ := cond_none h
    refine calls_of_wp hf hc ?_
    rw [List.all_eq_true] at hlv
    have hgrow := geti_grow (layL bz 0).2.1 (fa.slots - (layL bz 0).2.1.length)
    have hp : Pres Rc (layL bz 0).2.1 w Rc ((layL bz 0).2.1 ++ List.replicate (fa.slots - (layL bz 0).2.1.length) .fresh) w :=
      ⟨Step.refl _ _, fun s hs => by rw [hgrow]; exact hs, fun _ _ => rfl, fun s k xs ho hs e => ⟨xs, ho, by rw [← hgrow]; exact e, rfl, rfl, fun h => ⟨h, fun _ _ _ _ _ _ _ _ => rfl⟩⟩⟩
    have hh' : HR tyK Rc ((layL bz 0).2.1 ++ List.replicate (fa.slots - (layL bz 0).2.1.length) .fresh) w := by
      refine ⟨fun s hs => ?_, hh.none_⟩
      rcases Nat.lt_or_ge s (layL bz 0).2.1.length with h1 | h1
      · exact ER.keep hp (fun g t ht _ => ⟨ht, rfl⟩) (hgrow s) (hh.at_ s h1)
      · rw [hgrow]
        have : geti (layL bz 0).2.1 s = .fresh := by unfold geti; rw [List.getD_eq_getElem?_getD, List.getElem?_eq_none h1]; rfl
        rw [this]
        trivial
    have hv' := hv.pres hp
    have htm : VRs Rc ((layL bz 0).2.1 ++ List.replicate (fa.slots - (layL bz 0).2.1.length) .fresh) w ((layL bz 0).1 ++ List.replicate (fa.fn.ntmps - (layL bz 0).1.length) .junk)
        (us.toArray ++ Array.replicate (fa.fn.ntmps - us.toArray.size) undef).toList := by
      have e1 : (us.toArray ++ Array.replicate (fa.fn.ntmps - us.toArray.size) undef).toList = us ++ List.replicate (fa.fn.ntmps - (layL bz 0).1.length) undef := by
        simp [hv.1]
      rw [e1]
      refine ⟨by simp [hv.1], fun i v u hv1 hu => ?_⟩
      rcases Nat.lt_or_ge i (layL bz 0).1.length with h1 | h1
      · rw [List.getElem?_append_left h1] at hv1
        rw [List.getElem?_append_left (by rw [← hv.1]; exact h1)] at hu
        exact hv'.2 i v u hv1 hu
      · rw [List.getElem?_append_right h1] at hv1
        have := (List.getElem?_replicate.symm.trans hv1)
        split at this
        · injection this with this; subst this; exact .junk _
        · cases this
    refine vl_sound (r := r) (R0 := Rc) (w0 := w) (lv := (layL bz 0).1) (us := us) hm hT hC hlv c _ _ _ _ w hL' (fun ex st a w' hk hj => ?_) h ⟨Rc, Step.refl _ _, hh', htm, hv', rfl⟩
    obtain ⟨R', hat⟩ := hj
    have fin : ((resV Tb st.tm st.H fa.fn.results.toList).bind fun vs => (take sh (one vs :: (layL bz 0).1) st.H).bind fun r => some r.1) = some r →
        a.defers = [] ∧ ∃ v, (results fa.fn a.tmps).run P w' = .ok v w' ∧ (∃ v', Ending.returned v = .returned v' ∧ ∃ (Rc' : Re) (Hf : List E) (vf : V), Step Rc w Rc' w' ∧ HR tyK Rc' Hf w' ∧ VR Rc' Hf w' vf v' ∧ VRs Rc' Hf w' (layL bz 0).1 us ∧
          ∃ rest Hf', take sh (vf :: (layL bz 0).1) Hf = some (r, rest, Hf')) := by
      intro hk
      obtain ⟨vs, h1, hk⟩ := Option.bind_eq_some_iff.1 hk
      obtain ⟨⟨r', rest, Hf'⟩, h2, hk⟩ := Option.bind_eq_some_iff.1 hk
      injection hk with hk
      dsimp only at hk
      subst hk
      obtain ⟨xs, h3, h4⟩ := resV_run hT hat.hr hat.tm _ vs h1
      exact ⟨hat.defers, _, results_run h3, _, rfl, R', st.H, one vs, hat.step, hat.hr, one_rel h4, hat.lv, rest, Hf', h2⟩
    cases ex with
    | normal => exact fin hk
    | ret => exact fin hk
    | exit id => cases hk
end
end Go.Proofs.Ytoedeimpfbebpaa.VR
end
section
set_option linter.unusedVariables false
set_option linter.unusedSimpArgs false
set_option linter.unusedSectionVars false
namespace Go.Proofs.Ytoedeimpfbebpaa.VR
open Go
deriving instance DecidableEq for Sh
/-- What values are. -/
inductive DV where
  | int | u8 | bool | str | nil | emp | em (b : Bool) | ro (k : Kd) | rp (d : DV) (j : Nat) | agg (d : DV) | clo (f : FuncId) (d : DV) | one | pair (a b : DV)
@[reducible] def DV.T : DV → Type
  | .int => Int | .u8 => Int | .bool => Bool | .str => ByteArray | .nil => Unit | .emp => Unit | .em _ => Unit | .ro k => Bool × List k.T
  | .rp d _ => d.T | .agg d => d.T | .clo _ d => d.T | .one => Unit | .pair a b => a.T × b.T
def DV.make : (d : DV) → d.T → List V
  | .int, n => [.int n] | .u8, n => [.u8 n] | .bool, b => [.bool b] | .str, s => [.str s] | .nil, _ => [.nil] | .emp, _ => [.emp] | .em b, _ => [.em b]
  | .ro k, x => [.ro x.1 k x.2] | .rp d j, x => [.rp (d.make x) j] | .agg d, x => [.agg (d.make x)] | .clo f d, x => [.clo f (d.make x)]
  | .one, _ => [] | .pair a b, x => a.make x.1 ++ b.make x.2
def DV.read : (d : DV) → List V → Option (d.T × List V)
  | .int, .int n :: vs => some (n, vs)
  | .u8, .u8 n :: vs => some (n, vs)
  | .bool, .bool b :: vs => some (b, vs)
  | .str, .str s :: vs => some (s, vs)
  | .nil, .nil :: vs => some ((), vs)
  | .emp, .emp :: vs => some ((), vs)
  | .em b, .em b' :: vs => cond (b' == b) (some ((), vs)) none
  | .ro k, .ro p k' xs :: vs => if h : k' = k then some ((p, h ▸ xs), vs) else none
  | .rp d j, .rp cs j' :: vs => cond (j' == j) ((d.read cs).bind fun r => cond (isNil r.2) (some (r.1, vs)) none) none
  | .agg d, .agg cs :: vs => (d.read cs).bind fun r => cond (isNil r.2) (some (r.1, vs)) none
  | .clo f d, .clo f' cs :: vs => cond (f' == f) ((d.read cs).bind fun r => cond (isNil r.2) (some (r.1, vs)) none) none
  | .one, vs => some ((), vs)
  | .pair a b, vs => (a.read vs).bind fun r => (b.read r.2).bind fun r' => some ((r.1, r'.1), r'.2)
  | _, _ => none
/-- What arguments are. -/
inductive DA where
  | v (d : DV) | own (k : Kd) | agg (d : DA) | box (d : DA) | one | pair (a b : DA)
@[reducible] def DA.T : DA → Type
  | .v d => d.T | .own k => List k.T | .agg d => d.T | .box d => d.T | .one => Unit | .pair a b => a.T × b.T
def DA.make : (d : DA) → d.T → List A
  | .v d, x => (d.make x).map .v | .own k, xs => [.own k xs] | .agg d, x => [.agg (d.make x)] | .box d, x => [.box (d.make x)]
  | .one, _ => [] | .pair a b, x => a.make x.1 ++ b.make x.2
def isNilA : List A → Bool
  | [] => true
  | _ => false
def DA.read : (d : DA) → List A → Option (d.T × List A)
  | .v d, .v x :: bz => (d.read [x]).bind fun r => cond (isNil r.2) (some (r.1, bz)) none
  | .own k, .own k' xs :: bz => if h : k' = k then some (h ▸ xs, bz) else none
  | .agg d, .agg bs :: bz => (d.read bs).bind fun r => cond (isNilA r.2) (some (r.1, bz)) none
  | .box d, .box bs :: bz => (d.read bs).bind fun r => cond (isNilA r.2) (some (r.1, bz)) none
  | .one, bz => some ((), bz)
  | .pair a b, bz => (a.read bz).bind fun r => (b.read r.2).bind fun r' => some ((r.1, r'.1), r'.2)
  | _, _ => none
/-- A function's row. -/
structure Rw where
  f : FuncId
  d : DA
  sh : Sh
  run : d.T → Option sh.T
def Rw.get (e : Rw) (bs : List A) (sh : Sh) : Option (Option sh.T) :=
  if h : e.sh = sh then (e.d.read bs).bind fun r => cond (isNilA r.2) (some (h ▸ e.run r.1)) none else none
def orc : List Rw → Orc
  | [], _, _, _ => none
  | e :: es, f, bs, sh => cond (f == e.f) (match e.get bs sh with | some r => r | none => orc es f bs sh) (orc es f bs sh)
structure RwOk (P : Program) (tyK : Kd → TypeId) (e : Rw) : Prop where
  call : ∀ x r, e.run x = some r → CallOk P tyK e.f (e.d.make x) e.sh r
  enters : Enters P e.f
theorem isNilA_eq {vs : List A} (h : isNilA vs = true) : vs = [] := by
  cases vs with
  | nil => rfl
  | cons _ _ => cases h
theorem read_in {β : Type} {d : DV} {cs : List V} {vs r : List V} {x : d.T} {f : d.T → β} (ih : ∀ (vs : List V) (x : d.T) (r : List V), d.read vs = some (x, r) → vs = d.make x ++ r)
    (h : ((d.read cs).bind fun r => cond (isNil r.2) (some (r.1, vs)) none) = some (x, r)) : cs = d.make x ∧ vs = r := by
  obtain ⟨⟨x1, r1⟩, h1, h⟩ := Option.bind_eq_some_iff.1 h
  obtain ⟨h2, h⟩ := cond_none h
  simp only [Option.some.injEq, Prod.mk.injEq] at h
  obtain ⟨rfl, rfl⟩ := h
  have h3 := ih _ _ _ h1
  dsimp only at h2
  rw [isNil_eq h2, List.append_nil] at h3
  exact ⟨h3, rfl⟩
theorem DV.read_eq : ∀ (d : DV) (vs : List V) (x : d.T) (r : List V), d.read vs = some (x, r) → vs = d.make x ++ r := by
  intro d
  induction d with
  | one => intro vs x r h; simp only [DV.read, Option.some.injEq, Prod.mk.injEq] at h; simp [DV.make, h.2]
  | pair a b iha ihb =>
    intro vs x r h
    simp only [DV.read] at h
    obtain ⟨⟨x1, r1⟩, h1, h⟩ := Option.bind_eq_some_iff.1 h
    obtain ⟨⟨x2, r2⟩, h2, h⟩ := Option.bind_eq_some_iff.1 h
    simp only [Option.some.injEq, Prod.mk.injEq] at h
    obtain ⟨rfl, rfl⟩ := h
    have h2 := ihb _ _ _ h2
    dsimp only at h2
    rw [iha _ _ _ h1, h2]
    simp [DV.make]
  | agg d ih =>
    intro vs x r h
    cases vs with
    | nil => simp [DV.read] at h
    | cons v vs =>
      cases v <;> simp only [DV.read] at h <;> try (cases h; done)
      obtain ⟨h1, h2⟩ := read_in (f := id) ih h
      rw [h1, h2]; rfl
  | rp d j ih =>
    intro vs x r h
    cases vs with
    | nil => simp [DV.read] at h
    | cons v vs =>
      cases v <;> simp only [DV.read] at h <;> try (cases h; done)
      obtain ⟨h0, h⟩ := cond_none h
      have h0 := eq_of_beq h0
      obtain ⟨h1, h2⟩ := read_in (f := id) ih h
      rw [h0, h1, h2]; rfl
  | clo f d ih =>
    intro vs x r h
    cases vs with
    | nil => simp [DV.read] at h
    | cons v vs =>
      cases v <;> simp only [DV.read] at h <;> try (cases h; done)
      obtain ⟨h0, h⟩ := cond_none h
      have h0 := eq_of_beq h0
      obtain ⟨h1, h2⟩ := read_in (f := id) ih h
      rw [h0, h1, h2]; rfl
  | em b =>
    intro vs x r h
    cases vs with
    | nil => simp [DV.read] at h
    | cons v vs =>
      cases v <;> simp only [DV.read] at h <;> try (cases h; done)
      obtain ⟨h0, h⟩ := cond_none h
      have h0 := eq_of_beq h0
      injection h with h
      obtain ⟨rfl, rfl⟩ := Prod.mk.inj h
      rw [h0]; rfl
  | ro k =>
    intro vs x r h
    cases vs with
    | nil => simp [DV.read] at h
    | cons v vs =>
      cases v <;> simp only [DV.read] at h <;> try (cases h; done)
      split at h
      · rename_i e; subst e; simp only [Option.some.injEq, Prod.mk.injEq] at h; obtain ⟨rfl, rfl⟩ := h; rfl
      · cases h
  | _ =>
    intro vs x r h
    cases vs with
    | nil => simp [DV.read] at h
    | cons v vs =>
      cases v <;> simp only [DV.read] at h <;> try (cases h; done)
      injection h with h
      obtain ⟨rfl, rfl⟩ := Prod.mk.inj h
      rfl
theorem DV.make_len : ∀ (d : DV) (v : V) (x : d.T), d.read [v] = some (x, []) → d.make x = [v] := fun d v x h => by
  have := d.read_eq _ _ _ h
  rw [List.append_nil] at this
  exact this.symm
theorem DA.read_eq : ∀ (d : DA) (vs : List A) (x : d.T) (r : List A), d.read vs = some (x, r) → vs = d.make x ++ r := by
  intro d
  induction d with
  | one => intro vs x r h; simp only [DA.read, Option.some.injEq, Prod.mk.injEq] at h; simp [DA.make, h.2]
  | pair a b iha ihb =>
    intro vs x r h
    simp only [DA.read] at h
    obtain ⟨⟨x1, r1⟩, h1, h⟩ := Option.bind_eq_some_iff.1 h
    obtain ⟨⟨x2, r2⟩, h2, h⟩ := Option.bind_eq_some_iff.1 h
    simp only [Option.some.injEq, Prod.mk.injEq] at h
    obtain ⟨rfl, rfl⟩ := h
    have h2 := ihb _ _ _ h2
    dsimp only at h2
    rw [iha _ _ _ h1, h2]
    simp [DA.make]
  | v d =>
    intro vs x r h
    cases vs with
    | nil => simp [DA.read] at h
    | cons a vs =>
      cases a <;> simp only [DA.read] at h <;> try (cases h; done)
      obtain ⟨⟨x1, r1⟩, h1, h⟩ := Option.bind_eq_some_iff.1 h
      obtain ⟨h2, h⟩ := cond_none h
      simp only [Option.some.injEq, Prod.mk.injEq] at h
      obtain ⟨rfl, rfl⟩ := h
      have h2 := isNil_eq h2
      dsimp only at h2
      subst h2
      simp only [DA.make, DV.make_len _ _ _ h1, List.map_cons, List.map_nil, List.singleton_append]
  | own k =>
    intro vs x r h
    cases vs with
    | nil => simp [DA.read] at h
    | cons a vs =>
      cases a <;> simp only [DA.read] at h <;> try (cases h; done)
      split at h
      · rename_i e; subst e; simp only [Option.some.injEq, Prod.mk.injEq] at h; obtain ⟨rfl, rfl⟩ := h; rfl
      · cases h
  | agg d ih =>
    intro vs x r h
    cases vs with
    | nil => simp [DA.read] at h
    | cons a vs =>
      cases a <;> simp only [DA.read] at h <;> try (cases h; done)
      obtain ⟨⟨x1, r1⟩, h1, h⟩ := Option.bind_eq_some_iff.1 h
      obtain ⟨h2, h⟩ := cond_none h
      simp only [Option.some.injEq, Prod.mk.injEq] at h
      obtain ⟨rfl, rfl⟩ := h
      have h3 := ih _ _ _ h1
      dsimp only at h2
      rw [isNilA_eq h2, List.append_nil] at h3
      subst h3; rfl
  | box d ih =>
    intro vs x r h
    cases vs with
    | nil => simp [DA.read] at h
    | cons a vs =>
      cases a <;> simp only [DA.read] at h <;> try (cases h; done)
      obtain ⟨⟨x1, r1⟩, h1, h⟩ := Option.bind_eq_some_iff.1 h
      obtain ⟨h2, h⟩ := cond_none h
      simp only [Option.some.injEq, Prod.mk.injEq] at h
      obtain ⟨rfl, rfl⟩ := h
      have h3 := ih _ _ _ h1
      dsimp only at h2
      rw [isNilA_eq h2, List.append_nil] at h3
      subst h3; rfl
section
variable {P : Program} {Tb : TypeId → Option TI} {tyK : Kd → TypeId}
theorem RwOk.get {e : Rw} (he : RwOk P tyK e) {bs : List A} {sh : Sh} {o : Option sh.T} {r : sh.T} (h : e.get bs sh = some o) (hr : o = some r) : CallOk P tyK e.f bs sh r := by
  unfold Rw.get at h
  split at h
  · rename_i hs
    subst hs
    obtain ⟨⟨x, rest⟩, h1, h⟩ := Option.bind_eq_some_iff.1 h
    obtain ⟨h2, h⟩ := cond_none h
    injection h with h
    dsimp only at h h2
    rw [isNilA_eq h2] at h1
    have h3 := e.d.read_eq _ _ _ h1
    rw [List.append_nil] at h3
    rw [h3]
    exact he.call x r (h.trans hr)
  · cases h
theorem orc_call : ∀ {es : List Rw}, (∀ e ∈ es, RwOk P tyK e) → ∀ f bs sh r, orc es f bs sh = some r → CallOk P tyK f bs sh r ∧ Enters P f
  | [], _, f, bs, sh, r, h => by cases h
  | e :: es, he, f, bs, sh, r, h => by
    have ih := orc_call (es := es) fun e' h' => he e' (List.mem_cons_of_mem _ h')
    simp only [orc] at h
    cases hb : (f == e.f) with
    | false => rw [hb] at h; exact ih f bs sh r h
    | true =>
      have hf : f = e.f := by simpa using hb
      subst hf
      rw [hb] at h
      simp only [cond_true] at h
      split at h
      · rename_i o ho
        exact ⟨(he e (List.mem_cons_self ..)).get ho h, (he e (List.mem_cons_self ..)).enters⟩
      · exact ih _ bs sh r h
theorem orc_ok {es : List Rw} (he : ∀ e ∈ es, RwOk P tyK e) : CoOk P tyK (orc es) := ⟨fun f bs sh r h => (orc_call he f bs sh r h).1, fun f bs sh r h => (orc_call he f bs sh r h).2⟩
theorem ents_nil : ∀ e ∈ ([] : List Rw), RwOk P tyK e := fun e h => by cases h
theorem ents_cons {e : Rw} {es : List Rw} (h : RwOk P tyK e) (hs : ∀ e ∈ es, RwOk P tyK e) : ∀ e' ∈ e :: es, RwOk P tyK e' := fun e' h' => by
  rcases List.mem_cons.1 h' with rfl | h'
  · exact h
  · exact hs _ h'
/-- A function's row holds. -/
theorem ent_ok {e : Rw} {fa : FnA} {ls : List LS} {cs : List Code} {n : Nat} {es : List Rw} (hm : P.follows .mixedOrders = true) (hT : TbOk P Tb tyK) (hes : ∀ e' ∈ es, RwOk P tyK e') (hf : P.funcs[e.f]? = some fa.fn)
    (h1 : (fa.fn.name == "runtime.NumGoroutine") = false) (h2 : fa.fn.body.isNone = false) (hcs : (fa.fn.body.map loopsOf) = some cs) (hL : LSsOk Tb tyK (orc es) n fa.ann ls cs)
    (heq : ∀ x, bodyL Tb tyK (orc es) n fa ls (e.d.make x) e.sh = e.run x) : RwOk P tyK e :=
  ⟨fun x r h => bodyL_sound hm hT (orc_ok hes) hf hcs hL ((heq x).trans h), enters_of hf h1 h2⟩
end
end Go.Proofs.Ytoedeimpfbebpaa.VR
end
section
namespace Go.Proofs.Ytoedeimpfbebpaa.VR
open Go
structure Sys where
  Now : Int
  Cpus : Int
  Tasks : List Task
  Locks : List Lock
  Ghosts : List Ghost
  Floors : List Int
  Seq : Int
  Missed : Int
  Trace : List Turn
deriving instance DecidableEq, Inhabited for Sys
structure Cur where
  b : List Int
  i : Int
  h : Int
deriving instance DecidableEq, Inhabited for Cur
abbrev ShareT := Int × Int × Unit
abbrev TaskT := Int × Int × Int × Int × Bool × Int × Int × Int × Int × Int × Int × Int × Int × Int × Unit
abbrev LockT := Int × List Int × Unit
abbrev GhostT := Int × Int × Int × Int × Unit
abbrev TurnT := Int × Int × Int × Unit
abbrev CallT := Int × Int × Int × Int × Int × Unit
abbrev SysT := Int × Int × List Task × List Lock × List Ghost × List Int × Int × Int × List Turn × Unit
abbrev CurT := List Int × Int × Int × Unit
def upShare (x : Share) : ShareT := (x.Q, x.P, ())
def dnShare (x : ShareT) : Share := ⟨x.1, x.2.1⟩
def upTask (x : Task) : TaskT := (x.No, x.Class, x.Cpu, x.State, x.Idle, x.Q, x.P, x.Left, x.Due, x.Prio, x.Round, x.Seq, x.Nice, x.V, ())
def dnTask (x : TaskT) : Task := ⟨x.1, x.2.1, x.2.2.1, x.2.2.2.1, x.2.2.2.2.1, x.2.2.2.2.2.1, x.2.2.2.2.2.2.1, x.2.2.2.2.2.2.2.1, x.2.2.2.2.2.2.2.2.1, x.2.2.2.2.2.2.2.2.2.1, x.2.2.2.2.2.2.2.2.2.2.1, x.2.2.2.2.2.2.2.2.2.2.2.1, x.2.2.2.2.2.2.2.2.2.2.2.2.1, x.2.2.2.2.2.2.2.2.2.2.2.2.2.1⟩
def upLock (x : Lock) : LockT := (x.Owner, x.Waits, ())
def dnLock (x : LockT) : Lock := ⟨x.1, x.2.1⟩
def upGhost (x : Ghost) : GhostT := (x.Cpu, x.S.Q, x.S.P, x.Until, ())
def dnGhost (x : GhostT) : Ghost := ⟨x.1, ⟨x.2.1, x.2.2.1⟩, x.2.2.2.1⟩
def upTurn (x : Turn) : TurnT := (x.Cpu, x.Context, x.Executor, ())
def dnTurn (x : TurnT) : Turn := ⟨x.1, x.2.1, x.2.2.1⟩
def upCall (x : Call) : CallT := (x.Kind, x.No, x.Cpu, x.A, x.B, ())
def dnCall (x : CallT) : Call := ⟨x.1, x.2.1, x.2.2.1, x.2.2.2.1, x.2.2.2.2.1⟩
def upSys (x : Sys) : SysT := (x.Now, x.Cpus, x.Tasks, x.Locks, x.Ghosts, x.Floors, x.Seq, x.Missed, x.Trace, ())
def dnSys (x : SysT) : Sys := ⟨x.1, x.2.1, x.2.2.1, x.2.2.2.1, x.2.2.2.2.1, x.2.2.2.2.2.1, x.2.2.2.2.2.2.1, x.2.2.2.2.2.2.2.1, x.2.2.2.2.2.2.2.2.1⟩
def upCur (x : Cur) : CurT := (x.b, x.i, x.h, ())
def dnCur (x : CurT) : Cur := ⟨x.1, x.2.1, x.2.2.1⟩
@[simp] theorem dnShare_up (x : Share) : dnShare (upShare x) = x := rfl
@[simp] theorem dnTask_up (x : Task) : dnTask (upTask x) = x := rfl
@[simp] theorem dnLock_up (x : Lock) : dnLock (upLock x) = x := rfl
@[simp] theorem dnGhost_up (x : Ghost) : dnGhost (upGhost x) = x := rfl
@[simp] theorem dnTurn_up (x : Turn) : dnTurn (upTurn x) = x := rfl
@[simp] theorem dnCall_up (x : Call) : dnCall (upCall x) = x := rfl
@[simp] theorem dnSys_up (x : Sys) : dnSys (upSys x) = x := rfl
@[simp] theorem dnCur_up (x : Cur) : dnCur (upCur x) = x := rfl
def subLoop (n : Nat) : Code → Option Code
  | .seq a b => match subLoop n a with | some c => some c | none => subLoop n b
  | .cond _ a b => match subLoop n a with | some c => some c | none => subLoop n b
  | .block _ c => subLoop n c
  | .loop c => cond (firstReg c == some n) (some c) (subLoop n c)
  | _ => none
/-- A table of types. -/
def findT (t : TypeId) : List (TypeId × TI) → Option TI
  | [] => none
  | (u, ti) :: r => cond (t == u) (some ti) (findT t r)
structure TIok (P : Program) (t : TypeId) (ti : TI) : Prop where
  inf : P.underlying t = some ti.und ∧ ∃ i, P.info? t = some i ∧ i.zero = some ti.zero ∧ i.size = ti.size ∧ i.bytes = ti.bytes ∧ ti.zero.cells.size = ti.size ∧ ti.bytes ≤ 131072
  eqs : ∀ fs, ti.und = .struct fs → P.eqGuardType P.depth t = false ∧ P.stoodInHeld t = false
def zeroB (zs : List Value) : List C → Bool
  | [] => true
  | c :: cs => match zs, c with
    | .int .i64 0 :: zs, .int 0 => zeroB zs cs
    | .int .u8 0 :: zs, .u8 0 => zeroB zs cs
    | .bool false :: zs, .bool false => zeroB zs cs
    | .string s :: zs, .str t => (s.size == 0) && (t.size == 0) && zeroB zs cs
    | .slice none 0 0 :: zs, .nest [] => zeroB zs cs
    | _, _ => false
theorem findT_ok {P : Program} {t : TypeId} {ti : TI} : ∀ {l : List (TypeId × TI)}, (∀ p ∈ l, TIok P p.1 p.2) → findT t l = some ti → TIok P t ti
  | (u, x) :: r, hl, h => by
    simp only [findT] at h
    cases hb : (t == u) with
    | true =>
      rw [hb] at h
      have : t = u := by simpa using hb
      subst this
      simp only [cond_true, Option.some.injEq] at h
      subst h
      exact hl _ (List.mem_cons_self ..)
    | false => rw [hb] at h; exact findT_ok (fun p hp => hl p (List.mem_cons_of_mem _ hp)) h
theorem size0 {s : ByteArray} (h : (s.size == 0) = true) : s = ByteArray.empty := by
  have h : s.size = 0 := by simpa using h
  exact ByteArray.ext (Array.eq_empty_of_size_eq_zero h)
theorem zeroB_ok : ∀ (cs : List C) (zs : List Value), zeroB zs cs = true → ∀ (j : Nat) (c : C), cs[j]? = some c → ∃ u, zs[j]? = some u ∧ scal c u
  | [], zs, _, j, c, h => by simp at h
  | c :: cs, zs, hb, j, x, h => by
    unfold zeroB at hb
    split at hb
    all_goals first | (cases hb; done) | skip
    all_goals (try (rw [Bool.and_eq_true, Bool.and_eq_true] at hb; have e1 := size0 hb.1.1; have e2 := size0 hb.1.2; have hb := hb.2))
    all_goals
      cases j with
      | succ j => simp only [List.getElem?_cons_succ] at h ⊢; exact zeroB_ok _ _ (by first | exact hb | exact hb.2) j x h
      | zero =>
        simp only [List.getElem?_cons_zero, Option.some.injEq] at h ⊢
        subst h
        first | exact ⟨_, rfl, rfl⟩ | exact ⟨_, rfl, _, rfl, rfl⟩ | (subst e1; subst e2; exact ⟨_, rfl, rfl⟩)
theorem tb_ok {P : Program} {l : List (TypeId × TI)} {tyK : Kd → TypeId} (hl : ∀ p ∈ l, TIok P p.1 p.2)
    (hz : ∀ k, match findT (tyK k) l with | some ti => zeroB ti.zero.cells.toList (k.cells k.dflt) = true | none => True) : TbOk P (fun t => findT t l) tyK := by
  refine ⟨fun t ti h => (findT_ok hl h).inf, fun k ti h hs => ?_, fun t ti fs h e => (findT_ok hl h).eqs fs e⟩
  have := hz k
  rw [h] at this
  exact zeroB_ok _ _ this
theorem tis_nil {P : Program} : ∀ p ∈ ([] : List (TypeId × TI)), TIok P p.1 p.2 := fun p h => by cases h
theorem tis_cons {P : Program} {t : TypeId} {ti : TI} {l : List (TypeId × TI)} (h : TIok P t ti) (hl : ∀ p ∈ l, TIok P p.1 p.2) : ∀ p ∈ (t, ti) :: l, TIok P p.1 p.2 := fun p hp => by
  rcases List.mem_cons.1 hp with rfl | hp
  · exact h
  · exact hl p hp
end Go.Proofs.Ytoedeimpfbebpaa.VR
end
section
set_option linter.unusedVariables false
set_option linter.unusedSimpArgs false
namespace Go.Proofs.Ytoedeimpfbebpaa.VR
open Go
def rowNe (f : FuncId) (k : Kd) (g : List k.T → Option (List k.T × Unit)) : Rw := ⟨f, .pair (.v (.ro k)) .one, .pair (.own k) .one, fun x => g x.1.2⟩
def rowEm (f : FuncId) (k : Kd) (b : Bool) (c : Option (List k.T × Unit)) : Rw := ⟨f, .pair (.v (.em b)) .one, .pair (.own k) .one, fun _ => c⟩
theorem take_own {k : Kd} {v : V} {vs vs' rest : List V} {H H' : List E} {r : List k.T} (h : take (.pair (.own k) .one) (v :: vs) H = some ((r, ()), rest, H')) : take (.pair (.own k) .one) (v :: vs') H = some ((r, ()), vs', H') := by
  simp only [take] at h ⊢
  obtain ⟨⟨r1, r2, r3⟩, e1, h⟩ := Option.bind_eq_some_iff.1 h
  obtain ⟨⟨q1, q2, q3⟩, e2, h⟩ := Option.bind_eq_some_iff.1 h
  simp only [Option.some.injEq, Prod.mk.injEq] at h e2
  obtain ⟨⟨rfl, _⟩, rfl, rfl⟩ := h
  obtain ⟨_, rfl, rfl⟩ := e2
  refine Option.bind_eq_some_iff.2 ⟨(r1, vs', r3), ?_, rfl⟩
  cases v <;> (try simp only [take] at e1 ⊢) <;> first | (cases e1; done) | skip
  all_goals first
    | (simp only [Option.some.injEq, Prod.mk.injEq] at e1; obtain ⟨rfl, _, rfl⟩ := e1; rfl)
    | (split at e1
       · rename_i k' xs ho e
         obtain ⟨h1, e1⟩ := cond_none e1
         split at e1
         · rename_i hk
           simp only [Option.some.injEq, Prod.mk.injEq] at e1
           obtain ⟨rfl, _, rfl⟩ := e1
           simp [h1, hk]
         · cases e1
       · cases e1)
theorem clone_ok {P : Program} {tyK : Kd → TypeId} {f : FuncId} {k : Kd} {g : List k.T → Option (List k.T × Unit)} {c1 c2 : Option (List k.T × Unit)} (h1 : RwOk P tyK (rowNe f k g)) (h2 : RwOk P tyK (rowEm f k true c1)) (h3 : RwOk P tyK (rowEm f k false c2))
    (e1 : ∀ xs : List k.T, xs.isEmpty = false → xs.length ≤ lim → g xs = some (xs, ())) (e2 : c1 = some ([], ())) (e3 : c2 = some ([], ())) :
    RwOk P tyK (rowNe f k fun xs => cond (decide (xs.length ≤ lim)) (some (xs, ())) none) := by
  refine ⟨fun x r h => ?_, h1.enters⟩
  obtain ⟨⟨p, xs⟩, u0⟩ := x
  obtain ⟨hl, h⟩ := cond_none h
  have hl : xs.length ≤ lim := of_decide_eq_true hl
  injection h with h
  subst h
  cases xs with
  | cons y ys => exact h1.call ((p, y :: ys), ()) (y :: ys, ()) (e1 _ rfl hl)
  | nil =>
    have hem : ∀ b : Bool, CallOk P tyK f [.v (.em b)] (.pair (.own k) .one) ([], ()) := fun b => by
      cases b with
      | true => exact h2.call ((), ()) ([], ()) e2
      | false => exact h3.call ((), ()) ([], ()) e3
    intro Rc w us hh hv
    obtain ⟨u, rfl⟩ : ∃ u, us = [u] := by
      have := hv.1
      match us, this with
      | [u], _ => exact ⟨u, rfl⟩
    have hu := hv.2 0 _ _ rfl rfl
    obtain ⟨A, cap, rfl, hc1, hc2, _⟩ := hu.ro_inv
    have hv' : VRs Rc (layL [.v (.em A.isNone)] 0).2.1 w (layL [.v (.em A.isNone)] 0).1 [.slice A 0 cap] := VRs.mk (.em _ A cap rfl) VRs.nil
    refine (hem A.isNone Rc w [.slice A 0 cap] hh hv').mono ?_
    rintro e w' ⟨v, rfl, Rc', Hf, vf, h4, h5, h6, h7, rest, Hf', ht⟩
    refine ⟨v, rfl, Rc', Hf, vf, h4, h5, h6, VRs.mk (.ro p k [] _ ⟨A, cap, rfl, hc1, hc2, fun i x hx => by simp at hx⟩) VRs.nil, _, Hf', take_own ht⟩
end Go.Proofs.Ytoedeimpfbebpaa.VR
end
