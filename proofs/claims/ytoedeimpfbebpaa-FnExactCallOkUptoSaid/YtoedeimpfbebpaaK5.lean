/- What the printed functions use: structs as rows, tables of types. -/
import Derived.Test.YtoedeimpfbebpaaK4
section
namespace Go.Proofs.Ytoedeimpfbebpaa.VR
open Go
structure Sys where
  Now : Int
  Cpus : Int
  Tasks : List Task
  Locks : List Lock
  Ghosts : List Ghost
  Floors : List Int
  Seq : Int
  Missed : Int
  Trace : List Turn
deriving instance DecidableEq, Inhabited for Sys
structure Cur where
  b : List Int
  i : Int
  h : Int
deriving instance DecidableEq, Inhabited for Cur
abbrev ShareT := Int × Int × Unit
abbrev TaskT := Int × Int × Int × Int × Bool × Int × Int × Int × Int × Int × Int × Int × Int × Int × Unit
abbrev LockT := Int × List Int × Unit
abbrev GhostT := Int × Int × Int × Int × Unit
abbrev TurnT := Int × Int × Int × Unit
abbrev CallT := Int × Int × Int × Int × Int × Unit
abbrev SysT := Int × Int × List Task × List Lock × List Ghost × List Int × Int × Int × List Turn × Unit
abbrev CurT := List Int × Int × Int × Unit
def upShare (x : Share) : ShareT := (x.Q, x.P, ())
def dnShare (x : ShareT) : Share := ⟨x.1, x.2.1⟩
def upTask (x : Task) : TaskT := (x.No, x.Class, x.Cpu, x.State, x.Idle, x.Q, x.P, x.Left, x.Due, x.Prio, x.Round, x.Seq, x.Nice, x.V, ())
def dnTask (x : TaskT) : Task := ⟨x.1, x.2.1, x.2.2.1, x.2.2.2.1, x.2.2.2.2.1, x.2.2.2.2.2.1, x.2.2.2.2.2.2.1, x.2.2.2.2.2.2.2.1, x.2.2.2.2.2.2.2.2.1, x.2.2.2.2.2.2.2.2.2.1, x.2.2.2.2.2.2.2.2.2.2.1, x.2.2.2.2.2.2.2.2.2.2.2.1, x.2.2.2.2.2.2.2.2.2.2.2.2.1, x.2.2.2.2.2.2.2.2.2.2.2.2.2.1⟩
def upLock (x : Lock) : LockT := (x.Owner, x.Waits, ())
def dnLock (x : LockT) : Lock := ⟨x.1, x.2.1⟩
def upGhost (x : Ghost) : GhostT := (x.Cpu, x.S.Q, x.S.P, x.Until, ())
def dnGhost (x : GhostT) : Ghost := ⟨x.1, ⟨x.2.1, x.2.2.1⟩, x.2.2.2.1⟩
def upTurn (x : Turn) : TurnT := (x.Cpu, x.Context, x.Executor, ())
def dnTurn (x : TurnT) : Turn := ⟨x.1, x.2.1, x.2.2.1⟩
def upCall (x : Call) : CallT := (x.Kind, x.No, x.Cpu, x.A, x.B, ())
def dnCall (x : CallT) : Call := ⟨x.1, x.2.1, x.2.2.1, x.2.2.2.1, x.2.2.2.2.1⟩
def upSys (x : Sys) : SysT := (x.Now, x.Cpus, x.Tasks, x.Locks, x.Ghosts, x.Floors, x.Seq, x.Missed, x.Trace, ())
def dnSys (x : SysT) : Sys := ⟨x.1, x.2.1, x.2.2.1, x.2.2.2.1, x.2.2.2.2.1, x.2.2.2.2.2.1, x.2.2.2.2.2.2.1, x.2.2.2.2.2.2.2.1, x.2.2.2.2.2.2.2.2.1⟩
def upCur (x : Cur) : CurT := (x.b, x.i, x.h, ())
def dnCur (x : CurT) : Cur := ⟨x.1, x.2.1, x.2.2.1⟩
@[simp] theorem dnShare_up (x : Share) : dnShare (upShare x) = x := rfl
@[simp] theorem dnTask_up (x : Task) : dnTask (upTask x) = x := rfl
@[simp] theorem dnLock_up (x : Lock) : dnLock (upLock x) = x := rfl
@[simp] theorem dnGhost_up (x : Ghost) : dnGhost (upGhost x) = x := rfl
@[simp] theorem dnTurn_up (x : Turn) : dnTurn (upTurn x) = x := rfl
@[simp] theorem dnCall_up (x : Call) : dnCall (upCall x) = x := rfl
@[simp] theorem dnSys_up (x : Sys) : dnSys (upSys x) = x := rfl
@[simp] theorem dnCur_up (x : Cur) : dnCur (upCur x) = x := rfl
def subLoop (n : Nat) : Code → Option Code
  | .seq a b => match subLoop n a with | some c => some c | none => subLoop n b
  | .cond _ a b => match subLoop n a with | some c => some c | none => subLoop n b
  | .block _ c => subLoop n c
  | .loop c => cond (firstReg c == some n) (some c) (subLoop n c)
  | _ => none
/-- A table of types. -/
def findT (t : TypeId) : List (TypeId × TI) → Option TI
  | [] => none
  | (u, ti) :: r => cond (t == u) (some ti) (findT t r)
structure TIok (P : Program) (t : TypeId) (ti : TI) : Prop where
  inf : P.underlying t = some ti.und ∧ ∃ i, P.info? t = some i ∧ i.zero = some ti.zero ∧ i.size = ti.size ∧ i.bytes = ti.bytes ∧ ti.zero.cells.size = ti.size ∧ ti.bytes ≤ 131072
  eqs : ∀ fs, ti.und = .struct fs → P.eqGuardType P.depth t = false ∧ P.stoodInHeld t = false
def zeroB (zs : List Value) : List C → Bool
  | [] => true
  | c :: cs => match zs, c with
    | .int .i64 0 :: zs, .int 0 => zeroB zs cs
    | .int .u8 0 :: zs, .u8 0 => zeroB zs cs
    | .bool false :: zs, .bool false => zeroB zs cs
    | .string s :: zs, .str t => (s.size == 0) && (t.size == 0) && zeroB zs cs
    | .slice none 0 0 :: zs, .nest [] => zeroB zs cs
    | _, _ => false
theorem findT_ok {P : Program} {t : TypeId} {ti : TI} : ∀ {l : List (TypeId × TI)}, (∀ p ∈ l, TIok P p.1 p.2) → findT t l = some ti → TIok P t ti
  | (u, x) :: r, hl, h => by
    simp only [findT] at h
    cases hb : (t == u) with
    | true =>
      rw [hb] at h
      have : t = u := by simpa using hb
      subst this
      simp only [cond_true, Option.some.injEq] at h
      subst h
      exact hl _ (List.mem_cons_self ..)
    | false => rw [hb] at h; exact findT_ok (fun p hp => hl p (List.mem_cons_of_mem _ hp)) h
theorem size0 {s : ByteArray} (h : (s.size == 0) = true) : s = ByteArray.empty := by
  have h : s.size = 0 := by simpa using h
  exact ByteArray.ext (Array.eq_empty_of_size_eq_zero h)
theorem zeroB_ok : ∀ (cs : List C) (zs : List Value), zeroB zs cs = true → ∀ (j : Nat) (c : C), cs[j]? = some c → ∃ u, zs[j]? = some u ∧ scal c u
  | [], zs, _, j, c, h => by simp at h
  | c :: cs, zs, hb, j, x, h => by
    unfold zeroB at hb
    split at hb
    all_goals first | (cases hb; done) | skip
    all_goals (try (rw [Bool.and_eq_true, Bool.and_eq_true] at hb; have e1 := size0 hb.1.1; have e2 := size0 hb.1.2; have hb := hb.2))
    all_goals
      cases j with
      | succ j => simp only [List.getElem?_cons_succ] at h ⊢; exact zeroB_ok _ _ (by first | exact hb | exact hb.2) j x h
      | zero =>
        simp only [List.getElem?_cons_zero, Option.some.injEq] at h ⊢
        subst h
        first | exact ⟨_, rfl, rfl⟩ | exact ⟨_, rfl, _, rfl, rfl⟩ | (subst e1; subst e2; exact ⟨_, rfl, rfl⟩)
theorem tb_ok {P : Program} {l : List (TypeId × TI)} {tyK : Kd → TypeId} (hl : ∀ p ∈ l, TIok P p.1 p.2)
    (hz : ∀ k, match findT (tyK k) l with | some ti => zeroB ti.zero.cells.toList (k.cells k.dflt) = true | none => True) : TbOk P (fun t => findT t l) tyK := by
  refine ⟨fun t ti h => (findT_ok hl h).inf, fun k ti h hs => ?_, fun t ti fs h e => (findT_ok hl h).eqs fs e⟩
  have := hz k
  rw [h] at this
  exact zeroB_ok _ _ this
theorem tis_nil {P : Program} : ∀ p ∈ ([] : List (TypeId × TI)), TIok P p.1 p.2 := fun p h => by cases h
theorem tis_cons {P : Program} {t : TypeId} {ti : TI} {l : List (TypeId × TI)} (h : TIok P t ti) (hl : ∀ p ∈ l, TIok P p.1 p.2) : ∀ p ∈ (t, ti) :: l, TIok P p.1 p.2 := fun p hp => by
  rcases List.mem_cons.1 hp with rfl | hp
  · exact h
  · exact hl p hp
end Go.Proofs.Ytoedeimpfbebpaa.VR
end
