/- Functions, printed by program (wip/gen/emit.py). -/
import Derived.Test.YtoedeimpfbebpaaG00
set_option linter.unusedVariables false
set_option maxRecDepth 100000
namespace Go.Proofs.Ytoedeimpfbebpaa.VR
open Go
/-! loop.example/g00185/impl.turnsOf -/
noncomputable def a_impl_turnsOf_UsedBy_1 : FnA := ⟨Go.Proofs.Try.f59, ⟨[(4, [(2, .slot 0 .int)]), (5, [(2, .call [.ro] .bool [] [])])], [], []⟩, 1⟩
def l_impl_turnsOf_UsedBy_1_0 {α : Type} (n : Nat) : Nat → Int → Int → List Turn → Int → Int → (Int → Option α) → Option α
  | 0, _, _, _, _, _, _ => none
  | m0 + 1, v1, v2, v3, v4, v5, k0_0 =>
    cond (decide (v5 < v4))
     (cond ((decide (0 ≤ v5)) && (decide (v5 < ((v3).length : Int))))
       ((f_impl_UsedBy_1 (List.getD v3 (Int.toNat v5) (Kd.dflt .turn)) v1).bind fun r6 =>
        cond r6.1
         (l_impl_turnsOf_UsedBy_1_0 n m0 v1 (w64 (v2 + 1)) v3 v4 (w64 (v5 + 1)) k0_0)
         (l_impl_turnsOf_UsedBy_1_0 n m0 v1 v2 v3 v4 (w64 (v5 + 1)) k0_0))
       (none))
     (k0_0 v2)
def f_impl_turnsOf_UsedBy_1 (n : Nat) (a0 : List Turn) (a1_0_0 : Int) : Option (Int × Unit) :=
  l_impl_turnsOf_UsedBy_1_0 n n a1_0_0 0 a0 ((a0).length : Int) 0
   (fun w7 =>
    some (w7, ()))
def r_impl_turnsOf_UsedBy_1 (n : Nat) : Rw := ⟨59, (.pair (.v (.ro .turn)) (.pair (.v (.clo 63 (.pair (.rp (.pair .int .one) 0) .one))) .one)), (.pair .int .one), fun x => f_impl_turnsOf_UsedBy_1 n x.1.2 x.2.1.1.1⟩
def s_impl_turnsOf_UsedBy_1_0 (n : Nat) : LS where
  la := ⟨3, [1, 5, 8, 9, 10], [], [0], [5], [0]⟩
  nt := 21
  kt := [1, 5, 8, 9, 10]
  hs := [.fresh]
  X := Int × Int × Bool × List Turn × Int × Int
  abs := fun vs es => match vs, es with | [.clo 63 [.rp [.int y0] 0], .int y1, .ro y2 .turn y3, .int y4, .int y5], [] => some (y0, y1, y2, y3, y4, y5) | _, _ => none
  tms := fun x => [.clo 63 [.rp [.int x.1] 0], .int x.2.1, .ro x.2.2.1 .turn x.2.2.2.1, .int x.2.2.2.2.1, .int x.2.2.2.2.2]
  ets := fun x => []
  run := fun m x k => l_impl_turnsOf_UsedBy_1_0 n m x.1 x.2.1 x.2.2.2.1 x.2.2.2.2.1 x.2.2.2.2.2 (fun w0 => k (.exit 0) ⟨layT [5] [.int w0] 0 21, layH [.fresh] []⟩)
noncomputable def c_impl_turnsOf_UsedBy_1_0 : Code := (Go.Proofs.Try.f59.body.bind (subLoop 3)).getD .skip
theorem s_impl_turnsOf_UsedBy_1_0_ok (n : Nat) : LSok Tb tyK (orc [r_impl_UsedBy_1]) n a_impl_turnsOf_UsedBy_1.ann [s_impl_turnsOf_UsedBy_1_0 n] c_impl_turnsOf_UsedBy_1_0 (s_impl_turnsOf_UsedBy_1_0 n) :=
  ⟨by intro vs es x h; dsimp only [s_impl_turnsOf_UsedBy_1_0] at h; split at h; (· injection h with h; subst h; exact ⟨rfl, rfl⟩); (· cases h), fun _ _ => rfl, fun m x k => by kernel_rfl⟩
theorem r_impl_turnsOf_UsedBy_1_ok (n : Nat) : RwOk Go.Proofs.Try.prog tyK (r_impl_turnsOf_UsedBy_1 n) :=
  ent_ok (fa := a_impl_turnsOf_UsedBy_1) (ls := [s_impl_turnsOf_UsedBy_1_0 n]) (cs := [c_impl_turnsOf_UsedBy_1_0]) (n := n) (es := [r_impl_UsedBy_1]) mixedOk tbOk (ents_cons (r_impl_UsedBy_1_ok) ents_nil) Go.Proofs.Try.func59 (by kernel_rfl) (by kernel_rfl) (by kernel_rfl) (LSsOk.cons _ _ (l := s_impl_turnsOf_UsedBy_1_0 n) (by kernel_rfl) (s_impl_turnsOf_UsedBy_1_0_ok n) (LSsOk.nil _ _)) (fun x => by kernel_rfl)
/-! loop.example/g00185/impl.UsedBy -/
noncomputable def a_impl_UsedBy : FnA := ⟨Go.Proofs.Try.f25, ⟨[(0, [(0, .slot 0 .int)]), (3, [(2, .call [.ro, .ro] .int [] [])])], [], []⟩, 1⟩
def f_impl_UsedBy (n : Nat) (a0 : List Turn) (a1 : Int) : Option (Int × Unit) :=
  cond (decide (a1 < 1))
   (some (0, ()))
   ((f_impl_turnsOf_UsedBy_1 n a0 a1).bind fun r1 =>
    some (r1.1, ()))
def r_impl_UsedBy (n : Nat) : Rw := ⟨25, (.pair (.v (.ro .turn)) (.pair (.v (.int)) .one)), (.pair .int .one), fun x => f_impl_UsedBy n x.1.2 x.2.1⟩
theorem r_impl_UsedBy_ok (n : Nat) : RwOk Go.Proofs.Try.prog tyK (r_impl_UsedBy n) :=
  ent_ok (fa := a_impl_UsedBy) (ls := []) (cs := []) (n := n) (es := [(r_impl_turnsOf_UsedBy_1 n)]) mixedOk tbOk (ents_cons (r_impl_turnsOf_UsedBy_1_ok n) ents_nil) Go.Proofs.Try.func25 (by kernel_rfl) (by kernel_rfl) (by kernel_rfl) (LSsOk.nil _ _) (fun x => by kernel_rfl)
/-! loop.example/g00185/laws.FnExactUsedBy -/
noncomputable def a_laws_FnExactUsedBy : FnA := ⟨Go.Proofs.Try.f6, ⟨[(2, [(2, .call [.ro, .ro] .int [] [])]), (5, [(1, .call [.ro] (.own .turn) [] [none]), (3, .call [.ro, .ro] .int [] [])]), (6, [(1, .call [.ro] (.own .turn) [] [none])]), (7, [(2, .call [.ro, .ro] .int [] [])]), (10, [(2, .call [.ro] (.own .turn) [] [none]), (3, .call [.ro, .ro] .bool [] [])])], [], []⟩, 0⟩
def f_laws_FnExactUsedBy (n : Nat) (a0 : List Turn) (a1 : Int) : Option (Bool × Unit) :=
  (f_laws_szTurnS a0 1048576).bind fun r1 =>
  cond (decide (r1.1 < 0))
   (some (true, ()))
   ((f_laws_toTurnS n a0).bind fun r2 =>
    (f_spec_UsedBy n r2.1 a1).bind fun r3 =>
    (f_laws_toTurnS n a0).bind fun r4 =>
    (f_impl_UsedBy n r4.1 a1).bind fun r5 =>
    cond (!(decide (r5.1 = r3.1)))
     (some (false, ()))
     ((f_laws_toTurnS n a0).bind fun r6 =>
      (f_laws_eqTurnS n r4.1 r6.1).bind fun r7 =>
      cond (!r7.1)
       (some (false, ()))
       (some (true, ()))))
def r_laws_FnExactUsedBy (n : Nat) : Rw := ⟨6, (.pair (.v (.ro .turn)) (.pair (.v (.int)) .one)), (.pair .bool .one), fun x => f_laws_FnExactUsedBy n x.1.2 x.2.1⟩
theorem r_laws_FnExactUsedBy_ok (n : Nat) : RwOk Go.Proofs.Try.prog tyK (r_laws_FnExactUsedBy n) :=
  ent_ok (fa := a_laws_FnExactUsedBy) (ls := []) (cs := []) (n := n) (es := [r_laws_szTurnS, (r_laws_toTurnS n), (r_spec_UsedBy n), (r_impl_UsedBy n), (r_laws_eqTurnS n)]) mixedOk tbOk (ents_cons (r_laws_szTurnS_ok) (ents_cons (r_laws_toTurnS_ok n) (ents_cons (r_spec_UsedBy_ok n) (ents_cons (r_impl_UsedBy_ok n) (ents_cons (r_laws_eqTurnS_ok n) ents_nil))))) Go.Proofs.Try.func6 (by kernel_rfl) (by kernel_rfl) (by kernel_rfl) (LSsOk.nil _ _) (fun x => by kernel_rfl)
/-! loop.example/g00185/laws.szTaskS -/
noncomputable def a_laws_szTaskS : FnA := ⟨Go.Proofs.Try.f46, ⟨[], [], []⟩, 0⟩
def f_laws_szTaskS (a0 : List Task) (a1 : Int) : Option (Int × Unit) :=
  cond (decide ((w64 (a1 - ((a0).length : Int))) < 0))
   (some ((-1), ()))
   (some ((w64 (a1 - ((a0).length : Int))), ()))
def r_laws_szTaskS : Rw := ⟨46, (.pair (.v (.ro .task)) (.pair (.v (.int)) .one)), (.pair .int .one), fun x => f_laws_szTaskS x.1.2 x.2.1⟩
theorem r_laws_szTaskS_ok : RwOk Go.Proofs.Try.prog tyK (r_laws_szTaskS) :=
  ent_ok (fa := a_laws_szTaskS) (ls := []) (cs := []) (n := 0) (es := []) mixedOk tbOk ents_nil Go.Proofs.Try.func46 (by kernel_rfl) (by kernel_rfl) (by kernel_rfl) (LSsOk.nil _ _) (fun x => by kernel_rfl)
/-! loop.example/g00185/laws.szIntS -/
noncomputable def a_laws_szIntS : FnA := ⟨Go.Proofs.Try.f65, ⟨[], [], []⟩, 0⟩
def f_laws_szIntS (a0 : List Int) (a1 : Int) : Option (Int × Unit) :=
  cond (decide ((w64 (a1 - ((a0).length : Int))) < 0))
   (some ((-1), ()))
   (some ((w64 (a1 - ((a0).length : Int))), ()))
def r_laws_szIntS : Rw := ⟨65, (.pair (.v (.ro .int)) (.pair (.v (.int)) .one)), (.pair .int .one), fun x => f_laws_szIntS x.1.2 x.2.1⟩
theorem r_laws_szIntS_ok : RwOk Go.Proofs.Try.prog tyK (r_laws_szIntS) :=
  ent_ok (fa := a_laws_szIntS) (ls := []) (cs := []) (n := 0) (es := []) mixedOk tbOk ents_nil Go.Proofs.Try.func65 (by kernel_rfl) (by kernel_rfl) (by kernel_rfl) (LSsOk.nil _ _) (fun x => by kernel_rfl)
/-! loop.example/g00185/laws.szLock -/
noncomputable def a_laws_szLock : FnA := ⟨Go.Proofs.Try.f85, ⟨[(0, [(0, .slot 0 .int)]), (1, [(3, .call [.ro, .ro] .int [] [])])], [], []⟩, 1⟩
def f_laws_szLock (a0 : Lock) (a1 : Int) : Option (Int × Unit) :=
  (f_laws_szIntS a0.Waits a1).bind fun r1 =>
  cond (decide (r1.1 < 0))
   (some ((-1), ()))
   (some (r1.1, ()))
def r_laws_szLock : Rw := ⟨85, (.pair (.v (.agg (.pair .int (.pair (.ro .int) .one)))) (.pair (.v (.int)) .one)), (.pair .int .one), fun x => f_laws_szLock (⟨x.1.1, x.1.2.1.2⟩ : Lock) x.2.1⟩
theorem r_laws_szLock_ok : RwOk Go.Proofs.Try.prog tyK (r_laws_szLock) :=
  ent_ok (fa := a_laws_szLock) (ls := []) (cs := []) (n := 0) (es := [r_laws_szIntS]) mixedOk tbOk (ents_cons (r_laws_szIntS_ok) ents_nil) Go.Proofs.Try.func85 (by kernel_rfl) (by kernel_rfl) (by kernel_rfl) (LSsOk.nil _ _) (fun x => by kernel_rfl)
/-! loop.example/g00185/laws.szLockS -/
noncomputable def a_laws_szLockS : FnA := ⟨Go.Proofs.Try.f47, ⟨[(7, [(5, .call [.ro, .ro] .int [] [])])], [], []⟩, 0⟩
def l_laws_szLockS_0 {α : Type} (n : Nat) : Nat → List Lock → Int → Int → (Int → Option α) → (Int → Option α) → Option α
  | 0, _, _, _, _, _ => none
  | m0 + 1, v1, v2, v3, k0_0, k0_1 =>
    cond (decide (v3 < ((v1).length : Int)))
     (cond ((decide (0 ≤ v3)) && (decide (v3 < ((v1).length : Int))))
       ((f_laws_szLock (List.getD v1 (Int.toNat v3) (Kd.dflt .lock)) v2).bind fun r4 =>
        cond (decide (r4.1 < 0))
         (k0_0 r4.1)
         (l_laws_szLockS_0 n m0 v1 r4.1 (w64 (v3 + 1)) k0_0 k0_1))
       (none))
     (k0_1 v2)
def f_laws_szLockS (n : Nat) (a0 : List Lock) (a1 : Int) : Option (Int × Unit) :=
  cond (decide ((w64 (a1 - ((a0).length : Int))) < 0))
   (some ((-1), ()))
   (l_laws_szLockS_0 n n a0 (w64 (a1 - ((a0).length : Int))) 0
     (fun w5 =>
      some ((-1), ()))
     (fun w6 =>
      some (w6, ())))
def r_laws_szLockS (n : Nat) : Rw := ⟨47, (.pair (.v (.ro .lock)) (.pair (.v (.int)) .one)), (.pair .int .one), fun x => f_laws_szLockS n x.1.2 x.2.1⟩
def s_laws_szLockS_0 (n : Nat) : LS where
  la := ⟨5, [0, 1, 5], [], [], [1, 4], []⟩
  nt := 27
  kt := [0, 1, 5]
  hs := []
  X := Bool × List Lock × Int × Int
  abs := fun vs es => match vs, es with | [.ro y0 .lock y1, .int y2, .int y3], [] => some (y0, y1, y2, y3) | _, _ => none
  tms := fun x => [.ro x.1 .lock x.2.1, .int x.2.2.1, .int x.2.2.2]
  ets := fun x => []
  run := fun m x k => l_laws_szLockS_0 n m x.2.1 x.2.2.1 x.2.2.2 (fun w0 => k .ret ⟨layT [1, 4] [.int w0, .int (-1)] 0 27, layH [] []⟩) (fun w0 => k (.exit 0) ⟨layT [1] [.int w0] 0 27, layH [] []⟩)
noncomputable def c_laws_szLockS_0 : Code := (Go.Proofs.Try.f47.body.bind (subLoop 5)).getD .skip
theorem s_laws_szLockS_0_ok (n : Nat) : LSok Tb tyK (orc [r_laws_szLock]) n a_laws_szLockS.ann [s_laws_szLockS_0 n] c_laws_szLockS_0 (s_laws_szLockS_0 n) :=
  ⟨by intro vs es x h; dsimp only [s_laws_szLockS_0] at h; split at h; (· injection h with h; subst h; exact ⟨rfl, rfl⟩); (· cases h), fun _ _ => rfl, fun m x k => by kernel_rfl⟩
theorem r_laws_szLockS_ok (n : Nat) : RwOk Go.Proofs.Try.prog tyK (r_laws_szLockS n) :=
  ent_ok (fa := a_laws_szLockS) (ls := [s_laws_szLockS_0 n]) (cs := [c_laws_szLockS_0]) (n := n) (es := [r_laws_szLock]) mixedOk tbOk (ents_cons (r_laws_szLock_ok) ents_nil) Go.Proofs.Try.func47 (by kernel_rfl) (by kernel_rfl) (by kernel_rfl) (LSsOk.cons _ _ (l := s_laws_szLockS_0 n) (by kernel_rfl) (s_laws_szLockS_0_ok n) (LSsOk.nil _ _)) (fun x => by kernel_rfl)
/-! loop.example/g00185/laws.szGhostS -/
noncomputable def a_laws_szGhostS : FnA := ⟨Go.Proofs.Try.f64, ⟨[], [], []⟩, 0⟩
def f_laws_szGhostS (a0 : List Ghost) (a1 : Int) : Option (Int × Unit) :=
  cond (decide ((w64 (a1 - ((a0).length : Int))) < 0))
   (some ((-1), ()))
   (some ((w64 (a1 - ((a0).length : Int))), ()))
def r_laws_szGhostS : Rw := ⟨64, (.pair (.v (.ro .ghost)) (.pair (.v (.int)) .one)), (.pair .int .one), fun x => f_laws_szGhostS x.1.2 x.2.1⟩
theorem r_laws_szGhostS_ok : RwOk Go.Proofs.Try.prog tyK (r_laws_szGhostS) :=
  ent_ok (fa := a_laws_szGhostS) (ls := []) (cs := []) (n := 0) (es := []) mixedOk tbOk ents_nil Go.Proofs.Try.func64 (by kernel_rfl) (by kernel_rfl) (by kernel_rfl) (LSsOk.nil _ _) (fun x => by kernel_rfl)
/-! loop.example/g00185/laws.szSys -/
noncomputable def a_laws_szSys : FnA := ⟨Go.Proofs.Try.f26, ⟨[(0, [(0, .slot 0 .int)]), (1, [(3, .call [.ro, .ro] .int [] [])]), (4, [(3, .call [.ro, .ro] .int [] [])]), (7, [(3, .call [.ro, .ro] .int [] [])]), (10, [(3, .call [.ro, .ro] .int [] [])]), (13, [(3, .call [.ro, .ro] .int [] [])])], [], []⟩, 1⟩
def f_laws_szSys (n : Nat) (a0 : Sys) (a1 : Int) : Option (Int × Unit) :=
  (f_laws_szTaskS a0.Tasks a1).bind fun r1 =>
  cond (decide (r1.1 < 0))
   (some ((-1), ()))
   ((f_laws_szLockS n a0.Locks r1.1).bind fun r2 =>
    cond (decide (r2.1 < 0))
     (some ((-1), ()))
     ((f_laws_szGhostS a0.Ghosts r2.1).bind fun r3 =>
      cond (decide (r3.1 < 0))
       (some ((-1), ()))
       ((f_laws_szIntS a0.Floors r3.1).bind fun r4 =>
        cond (decide (r4.1 < 0))
         (some ((-1), ()))
         ((f_laws_szTurnS a0.Trace r4.1).bind fun r5 =>
          cond (decide (r5.1 < 0))
           (some ((-1), ()))
           (some (r5.1, ()))))))
def r_laws_szSys (n : Nat) : Rw := ⟨26, (.pair (.v (.agg (.pair .int (.pair .int (.pair (.ro .task) (.pair (.ro .lock) (.pair (.ro .ghost) (.pair (.ro .int) (.pair .int (.pair .int (.pair (.ro .turn) .one))))))))))) (.pair (.v (.int)) .one)), (.pair .int .one), fun x => f_laws_szSys n (⟨x.1.1, x.1.2.1, x.1.2.2.1.2, x.1.2.2.2.1.2, x.1.2.2.2.2.1.2, x.1.2.2.2.2.2.1.2, x.1.2.2.2.2.2.2.1, x.1.2.2.2.2.2.2.2.1, x.1.2.2.2.2.2.2.2.2.1.2⟩ : Sys) x.2.1⟩
theorem r_laws_szSys_ok (n : Nat) : RwOk Go.Proofs.Try.prog tyK (r_laws_szSys n) :=
  ent_ok (fa := a_laws_szSys) (ls := []) (cs := []) (n := n) (es := [r_laws_szTaskS, (r_laws_szLockS n), r_laws_szGhostS, r_laws_szIntS, r_laws_szTurnS]) mixedOk tbOk (ents_cons (r_laws_szTaskS_ok) (ents_cons (r_laws_szLockS_ok n) (ents_cons (r_laws_szGhostS_ok) (ents_cons (r_laws_szIntS_ok) (ents_cons (r_laws_szTurnS_ok) ents_nil))))) Go.Proofs.Try.func26 (by kernel_rfl) (by kernel_rfl) (by kernel_rfl) (LSsOk.nil _ _) (fun x => by kernel_rfl)
/-! loop.example/g00185/laws.toTask -/
noncomputable def a_laws_toTask : FnA := ⟨Go.Proofs.Try.f90, ⟨[(0, [(0, .slot 0 .int), (1, .slot 1 .int)]), (1, [(0, .slot 2 .int)])], [], []⟩, 3⟩
def f_laws_toTask (a0 : Task) : Option (TaskT × Unit) :=
  some ((upTask a0), ())
def r_laws_toTask : Rw := ⟨90, (.pair (.v (.agg (.pair .int (.pair .int (.pair .int (.pair .int (.pair .bool (.pair .int (.pair .int (.pair .int (.pair .int (.pair .int (.pair .int (.pair .int (.pair .int (.pair .int .one)))))))))))))))) .one), (.pair (.agg (.pair .int (.pair .int (.pair .int (.pair .int (.pair .bool (.pair .int (.pair .int (.pair .int (.pair .int (.pair .int (.pair .int (.pair .int (.pair .int (.pair .int .one))))))))))))))) .one), fun x => f_laws_toTask (⟨x.1.1, x.1.2.1, x.1.2.2.1, x.1.2.2.2.1, x.1.2.2.2.2.1, x.1.2.2.2.2.2.1, x.1.2.2.2.2.2.2.1, x.1.2.2.2.2.2.2.2.1, x.1.2.2.2.2.2.2.2.2.1, x.1.2.2.2.2.2.2.2.2.2.1, x.1.2.2.2.2.2.2.2.2.2.2.1, x.1.2.2.2.2.2.2.2.2.2.2.2.1, x.1.2.2.2.2.2.2.2.2.2.2.2.2.1, x.1.2.2.2.2.2.2.2.2.2.2.2.2.2.1⟩ : Task)⟩
theorem r_laws_toTask_ok : RwOk Go.Proofs.Try.prog tyK (r_laws_toTask) :=
  ent_ok (fa := a_laws_toTask) (ls := []) (cs := []) (n := 0) (es := []) mixedOk tbOk ents_nil Go.Proofs.Try.func90 (by kernel_rfl) (by kernel_rfl) (by kernel_rfl) (LSsOk.nil _ _) (fun x => by kernel_rfl)
/-! loop.example/g00185/laws.toTaskS -/
noncomputable def a_laws_toTaskS : FnA := ⟨Go.Proofs.Try.f49, ⟨[(1, [(2, .slot 0 .task)]), (5, [(6, .call [.ro] (.agg (.pair .int (.pair .int (.pair .int (.pair .int (.pair .bool (.pair .int (.pair .int (.pair .int (.pair .int (.pair .int (.pair .int (.pair .int (.pair .int (.pair .int .one))))))))))))))) [] [])])], [], []⟩, 1⟩
def l_laws_toTaskS_0 {α : Type} (n : Nat) : Nat → List Task → List Task → Int → (List Task → Option α) → Option α
  | 0, _, _, _, _ => none
  | m0 + 1, v1, v2, v3, k0_0 =>
    cond (decide (v3 < ((v1).length : Int)))
     (cond ((decide (0 ≤ v3)) && (decide (v3 < ((v1).length : Int))))
       ((f_laws_toTask (List.getD v1 (Int.toNat v3) (Kd.dflt .task))).bind fun r4 =>
        cond ((decide (0 ≤ v3)) && (decide (v3 < ((v2).length : Int))))
         (cond (decide ((Int.toNat v3) < (v2).length))
           (l_laws_toTaskS_0 n m0 v1 (List.set v2 (Int.toNat v3) (dnTask r4.1)) (w64 (v3 + 1)) k0_0)
           (none))
         (none))
       (none))
     (k0_0 v2)
def f_laws_toTaskS (n : Nat) (a0 : List Task) : Option (List Task × Unit) :=
  cond (((decide (((a0).length : Int) = ((a0).length : Int))) && (decide (0 ≤ ((a0).length : Int)))) && (decide (((a0).length : Int) ≤ (lim : Int))))
   (l_laws_toTaskS_0 n n a0 (List.replicate (Int.toNat ((a0).length : Int)) (Kd.dflt .task)) 0
     (fun w5 =>
      some (w5, ())))
   (none)
def r_laws_toTaskS (n : Nat) : Rw := ⟨49, (.pair (.v (.ro .task)) .one), (.pair (.own .task) .one), fun x => f_laws_toTaskS n x.1.2⟩
def s_laws_toTaskS_0 (n : Nat) : LS where
  la := ⟨3, [0, 3, 4], [], [], [3], [0]⟩
  nt := 23
  kt := [0, 3, 4]
  hs := [.k]
  X := Bool × List Task × List Task × Int
  abs := fun vs es => match vs, es with | [.ro y0 .task y1, .bor 0, .int y3], [.root .task y2 .ok] => some (y0, y1, y2, y3) | _, _ => none
  tms := fun x => [.ro x.1 .task x.2.1, .bor 0, .int x.2.2.2]
  ets := fun x => [.root .task x.2.2.1 .ok]
  run := fun m x k => l_laws_toTaskS_0 n m x.2.1 x.2.2.1 x.2.2.2 (fun w0 => k (.exit 0) ⟨layT [3] [.bor 0] 0 23, layH [.k] [.root .task w0 .ok]⟩)
noncomputable def c_laws_toTaskS_0 : Code := (Go.Proofs.Try.f49.body.bind (subLoop 3)).getD .skip
theorem s_laws_toTaskS_0_ok (n : Nat) : LSok Tb tyK (orc [r_laws_toTask]) n a_laws_toTaskS.ann [s_laws_toTaskS_0 n] c_laws_toTaskS_0 (s_laws_toTaskS_0 n) :=
  ⟨by intro vs es x h; dsimp only [s_laws_toTaskS_0] at h; split at h; (· injection h with h; subst h; exact ⟨rfl, rfl⟩); (· cases h), fun _ _ => rfl, fun m x k => by kernel_rfl⟩
theorem r_laws_toTaskS_ok (n : Nat) : RwOk Go.Proofs.Try.prog tyK (r_laws_toTaskS n) :=
  ent_ok (fa := a_laws_toTaskS) (ls := [s_laws_toTaskS_0 n]) (cs := [c_laws_toTaskS_0]) (n := n) (es := [r_laws_toTask]) mixedOk tbOk (ents_cons (r_laws_toTask_ok) ents_nil) Go.Proofs.Try.func49 (by kernel_rfl) (by kernel_rfl) (by kernel_rfl) (LSsOk.cons _ _ (l := s_laws_toTaskS_0 n) (by kernel_rfl) (s_laws_toTaskS_0_ok n) (LSsOk.nil _ _)) (fun x => by kernel_rfl)
/-! loop.example/g00185/laws.toIntS -/
noncomputable def a_laws_toIntS : FnA := ⟨Go.Proofs.Try.f67, ⟨[(1, [(2, .slot 0 .int)])], [], []⟩, 1⟩
def l_laws_toIntS_0 {α : Type} (n : Nat) : Nat → List Int → List Int → Int → (List Int → Option α) → Option α
  | 0, _, _, _, _ => none
  | m0 + 1, v1, v2, v3, k0_0 =>
    cond (decide (v3 < ((v1).length : Int)))
     (cond ((decide (0 ≤ v3)) && (decide (v3 < ((v1).length : Int))))
       (cond ((decide (0 ≤ v3)) && (decide (v3 < ((v2).length : Int))))
         (cond (decide ((Int.toNat v3) < (v2).length))
           (let e4 := (List.set v2 (Int.toNat v3) (List.getD v1 (Int.toNat v3) (Kd.dflt .int)))
            l_laws_toIntS_0 n m0 v1 e4 (w64 (v3 + 1)) k0_0)
           (none))
         (none))
       (none))
     (k0_0 v2)
def f_laws_toIntS (n : Nat) (a0 : List Int) : Option (List Int × Unit) :=
  cond (((decide (((a0).length : Int) = ((a0).length : Int))) && (decide (0 ≤ ((a0).length : Int)))) && (decide (((a0).length : Int) ≤ (lim : Int))))
   (l_laws_toIntS_0 n n a0 (List.replicate (Int.toNat ((a0).length : Int)) (Kd.dflt .int)) 0
     (fun w5 =>
      some (w5, ())))
   (none)
def r_laws_toIntS (n : Nat) : Rw := ⟨67, (.pair (.v (.ro .int)) .one), (.pair (.own .int) .one), fun x => f_laws_toIntS n x.1.2⟩
def s_laws_toIntS_0 (n : Nat) : LS where
  la := ⟨3, [0, 3, 4], [], [], [3], [0]⟩
  nt := 22
  kt := [0, 3, 4]
  hs := [.k]
  X := Bool × List Int × List Int × Int
  abs := fun vs es => match vs, es with | [.ro y0 .int y1, .bor 0, .int y3], [.root .int y2 .ok] => some (y0, y1, y2, y3) | _, _ => none
  tms := fun x => [.ro x.1 .int x.2.1, .bor 0, .int x.2.2.2]
  ets := fun x => [.root .int x.2.2.1 .ok]
  run := fun m x k => l_laws_toIntS_0 n m x.2.1 x.2.2.1 x.2.2.2 (fun w0 => k (.exit 0) ⟨layT [3] [.bor 0] 0 22, layH [.k] [.root .int w0 .ok]⟩)
noncomputable def c_laws_toIntS_0 : Code := (Go.Proofs.Try.f67.body.bind (subLoop 3)).getD .skip
theorem s_laws_toIntS_0_ok (n : Nat) : LSok Tb tyK (orc []) n a_laws_toIntS.ann [s_laws_toIntS_0 n] c_laws_toIntS_0 (s_laws_toIntS_0 n) :=
  ⟨by intro vs es x h; dsimp only [s_laws_toIntS_0] at h; split at h; (· injection h with h; subst h; exact ⟨rfl, rfl⟩); (· cases h), fun _ _ => rfl, fun m x k => by kernel_rfl⟩
theorem r_laws_toIntS_ok (n : Nat) : RwOk Go.Proofs.Try.prog tyK (r_laws_toIntS n) :=
  ent_ok (fa := a_laws_toIntS) (ls := [s_laws_toIntS_0 n]) (cs := [c_laws_toIntS_0]) (n := n) (es := []) mixedOk tbOk ents_nil Go.Proofs.Try.func67 (by kernel_rfl) (by kernel_rfl) (by kernel_rfl) (LSsOk.cons _ _ (l := s_laws_toIntS_0 n) (by kernel_rfl) (s_laws_toIntS_0_ok n) (LSsOk.nil _ _)) (fun x => by kernel_rfl)
/-! loop.example/g00185/laws.toLock -/
noncomputable def a_laws_toLock : FnA := ⟨Go.Proofs.Try.f91, ⟨[(0, [(0, .slot 0 .int), (1, .slot 1 .int)]), (1, [(0, .slot 2 .int)]), (3, [(2, .call [.ro] (.own .int) [] [some 3])])], [], []⟩, 4⟩
def f_laws_toLock (n : Nat) (a0 : Lock) : Option (LockT × Unit) :=
  (f_laws_toIntS n a0.Waits).bind fun r1 =>
  some ((upLock (⟨a0.Owner, r1.1⟩ : Lock)), ())
def r_laws_toLock (n : Nat) : Rw := ⟨91, (.pair (.v (.agg (.pair .int (.pair (.ro .int) .one)))) .one), (.pair (.agg (.pair .int (.pair (.own .int) .one))) .one), fun x => f_laws_toLock n (⟨x.1.1, x.1.2.1.2⟩ : Lock)⟩
theorem r_laws_toLock_ok (n : Nat) : RwOk Go.Proofs.Try.prog tyK (r_laws_toLock n) :=
  ent_ok (fa := a_laws_toLock) (ls := []) (cs := []) (n := n) (es := [(r_laws_toIntS n)]) mixedOk tbOk (ents_cons (r_laws_toIntS_ok n) ents_nil) Go.Proofs.Try.func91 (by kernel_rfl) (by kernel_rfl) (by kernel_rfl) (LSsOk.nil _ _) (fun x => by kernel_rfl)
/-! loop.example/g00185/laws.toLockS -/
noncomputable def a_laws_toLockS : FnA := ⟨Go.Proofs.Try.f50, ⟨[(1, [(2, .slot 0 .lock)]), (5, [(6, .call [.ro] (.agg (.pair .int (.pair (.own .int) .one))) [] [some 1])])], [], []⟩, 2⟩
def l_laws_toLockS_0 {α : Type} (n : Nat) : Nat → List Lock → List Lock → Int → (List Lock → Option α) → Option α
  | 0, _, _, _, _ => none
  | m0 + 1, v1, v2, v3, k0_0 =>
    cond (decide (v3 < ((v1).length : Int)))
     (cond ((decide (0 ≤ v3)) && (decide (v3 < ((v1).length : Int))))
       ((f_laws_toLock n (List.getD v1 (Int.toNat v3) (Kd.dflt .lock))).bind fun r4 =>
        cond ((decide (0 ≤ v3)) && (decide (v3 < ((v2).length : Int))))
         (cond (decide ((Int.toNat v3) < (v2).length))
           (l_laws_toLockS_0 n m0 v1 (List.set v2 (Int.toNat v3) (dnLock r4.1)) (w64 (v3 + 1)) k0_0)
           (none))
         (none))
       (none))
     (k0_0 v2)
def f_laws_toLockS (n : Nat) (a0 : List Lock) : Option (List Lock × Unit) :=
  cond (((decide (((a0).length : Int) = ((a0).length : Int))) && (decide (0 ≤ ((a0).length : Int)))) && (decide (((a0).length : Int) ≤ (lim : Int))))
   (l_laws_toLockS_0 n n a0 (List.replicate (Int.toNat ((a0).length : Int)) (Kd.dflt .lock)) 0
     (fun w5 =>
      some (w5, ())))
   (none)
def r_laws_toLockS (n : Nat) : Rw := ⟨50, (.pair (.v (.ro .lock)) .one), (.pair (.own .lock) .one), fun x => f_laws_toLockS n x.1.2⟩
def s_laws_toLockS_0 (n : Nat) : LS where
  la := ⟨3, [0, 3, 4], [], [1], [3], [0, 1]⟩
  nt := 23
  kt := [0, 3, 4]
  hs := [.d, .fresh]
  X := Bool × List Lock × List Lock × Int
  abs := fun vs es => match vs, es with | [.ro y0 .lock y1, .bor 0, .int y3], [.root .lock y2 .dirty] => some (y0, y1, y2, y3) | _, _ => none
  tms := fun x => [.ro x.1 .lock x.2.1, .bor 0, .int x.2.2.2]
  ets := fun x => [.root .lock x.2.2.1 .dirty]
  run := fun m x k => l_laws_toLockS_0 n m x.2.1 x.2.2.1 x.2.2.2 (fun w0 => k (.exit 0) ⟨layT [3] [.bor 0] 0 23, layH [.k, .fresh] [.root .lock w0 .dirty]⟩)
noncomputable def c_laws_toLockS_0 : Code := (Go.Proofs.Try.f50.body.bind (subLoop 3)).getD .skip
theorem s_laws_toLockS_0_ok (n : Nat) : LSok Tb tyK (orc [(r_laws_toLock n)]) n a_laws_toLockS.ann [s_laws_toLockS_0 n] c_laws_toLockS_0 (s_laws_toLockS_0 n) :=
  ⟨by intro vs es x h; dsimp only [s_laws_toLockS_0] at h; split at h; (· injection h with h; subst h; exact ⟨rfl, rfl⟩); (· cases h), fun _ _ => rfl, fun m x k => by kernel_rfl⟩
theorem r_laws_toLockS_ok (n : Nat) : RwOk Go.Proofs.Try.prog tyK (r_laws_toLockS n) :=
  ent_ok (fa := a_laws_toLockS) (ls := [s_laws_toLockS_0 n]) (cs := [c_laws_toLockS_0]) (n := n) (es := [(r_laws_toLock n)]) mixedOk tbOk (ents_cons (r_laws_toLock_ok n) ents_nil) Go.Proofs.Try.func50 (by kernel_rfl) (by kernel_rfl) (by kernel_rfl) (LSsOk.cons _ _ (l := s_laws_toLockS_0 n) (by kernel_rfl) (s_laws_toLockS_0_ok n) (LSsOk.nil _ _)) (fun x => by kernel_rfl)
/-! loop.example/g00185/laws.toShare -/
noncomputable def a_laws_toShare : FnA := ⟨Go.Proofs.Try.f139, ⟨[(0, [(0, .slot 0 .int), (1, .slot 1 .int)]), (1, [(0, .slot 2 .int)])], [], []⟩, 3⟩
def f_laws_toShare (a0 : Share) : Option (ShareT × Unit) :=
  some ((upShare a0), ())
def r_laws_toShare : Rw := ⟨139, (.pair (.v (.agg (.pair .int (.pair .int .one)))) .one), (.pair (.agg (.pair .int (.pair .int .one))) .one), fun x => f_laws_toShare (⟨x.1.1, x.1.2.1⟩ : Share)⟩
theorem r_laws_toShare_ok : RwOk Go.Proofs.Try.prog tyK (r_laws_toShare) :=
  ent_ok (fa := a_laws_toShare) (ls := []) (cs := []) (n := 0) (es := []) mixedOk tbOk ents_nil Go.Proofs.Try.func139 (by kernel_rfl) (by kernel_rfl) (by kernel_rfl) (LSsOk.nil _ _) (fun x => by kernel_rfl)
/-! loop.example/g00185/laws.toGhost -/
noncomputable def a_laws_toGhost : FnA := ⟨Go.Proofs.Try.f115, ⟨[(0, [(0, .slot 0 .int), (1, .slot 1 .int)]), (1, [(0, .slot 2 .int)]), (3, [(2, .call [.ro] (.agg (.pair .int (.pair .int .one))) [] [])])], [], []⟩, 3⟩
def f_laws_toGhost (a0 : Ghost) : Option (GhostT × Unit) :=
  (f_laws_toShare a0.S).bind fun r1 =>
  some ((upGhost (⟨a0.Cpu, ⟨(dnShare r1.1).Q, (dnShare r1.1).P⟩, a0.Until⟩ : Ghost)), ())
def r_laws_toGhost : Rw := ⟨115, (.pair (.v (.agg (.pair .int (.pair .int (.pair .int (.pair .int .one)))))) .one), (.pair (.agg (.pair .int (.pair .int (.pair .int (.pair .int .one))))) .one), fun x => f_laws_toGhost (⟨x.1.1, ⟨x.1.2.1, x.1.2.2.1⟩, x.1.2.2.2.1⟩ : Ghost)⟩
theorem r_laws_toGhost_ok : RwOk Go.Proofs.Try.prog tyK (r_laws_toGhost) :=
  ent_ok (fa := a_laws_toGhost) (ls := []) (cs := []) (n := 0) (es := [r_laws_toShare]) mixedOk tbOk (ents_cons (r_laws_toShare_ok) ents_nil) Go.Proofs.Try.func115 (by kernel_rfl) (by kernel_rfl) (by kernel_rfl) (LSsOk.nil _ _) (fun x => by kernel_rfl)
/-! loop.example/g00185/laws.toGhostS -/
noncomputable def a_laws_toGhostS : FnA := ⟨Go.Proofs.Try.f66, ⟨[(1, [(2, .slot 0 .ghost)]), (5, [(6, .call [.ro] (.agg (.pair .int (.pair .int (.pair .int (.pair .int .one))))) [] [])])], [], []⟩, 1⟩
def l_laws_toGhostS_0 {α : Type} (n : Nat) : Nat → List Ghost → List Ghost → Int → (List Ghost → Option α) → Option α
  | 0, _, _, _, _ => none
  | m0 + 1, v1, v2, v3, k0_0 =>
    cond (decide (v3 < ((v1).length : Int)))
     (cond ((decide (0 ≤ v3)) && (decide (v3 < ((v1).length : Int))))
       ((f_laws_toGhost (List.getD v1 (Int.toNat v3) (Kd.dflt .ghost))).bind fun r4 =>
        cond ((decide (0 ≤ v3)) && (decide (v3 < ((v2).length : Int))))
         (cond (decide ((Int.toNat v3) < (v2).length))
           (l_laws_toGhostS_0 n m0 v1 (List.set v2 (Int.toNat v3) (dnGhost r4.1)) (w64 (v3 + 1)) k0_0)
           (none))
         (none))
       (none))
     (k0_0 v2)
def f_laws_toGhostS (n : Nat) (a0 : List Ghost) : Option (List Ghost × Unit) :=
  cond (((decide (((a0).length : Int) = ((a0).length : Int))) && (decide (0 ≤ ((a0).length : Int)))) && (decide (((a0).length : Int) ≤ (lim : Int))))
   (l_laws_toGhostS_0 n n a0 (List.replicate (Int.toNat ((a0).length : Int)) (Kd.dflt .ghost)) 0
     (fun w5 =>
      some (w5, ())))
   (none)
def r_laws_toGhostS (n : Nat) : Rw := ⟨66, (.pair (.v (.ro .ghost)) .one), (.pair (.own .ghost) .one), fun x => f_laws_toGhostS n x.1.2⟩
def s_laws_toGhostS_0 (n : Nat) : LS where
  la := ⟨3, [0, 3, 4], [], [], [3], [0]⟩
  nt := 23
  kt := [0, 3, 4]
  hs := [.k]
  X := Bool × List Ghost × List Ghost × Int
  abs := fun vs es => match vs, es with | [.ro y0 .ghost y1, .bor 0, .int y3], [.root .ghost y2 .ok] => some (y0, y1, y2, y3) | _, _ => none
  tms := fun x => [.ro x.1 .ghost x.2.1, .bor 0, .int x.2.2.2]
  ets := fun x => [.root .ghost x.2.2.1 .ok]
  run := fun m x k => l_laws_toGhostS_0 n m x.2.1 x.2.2.1 x.2.2.2 (fun w0 => k (.exit 0) ⟨layT [3] [.bor 0] 0 23, layH [.k] [.root .ghost w0 .ok]⟩)
noncomputable def c_laws_toGhostS_0 : Code := (Go.Proofs.Try.f66.body.bind (subLoop 3)).getD .skip
theorem s_laws_toGhostS_0_ok (n : Nat) : LSok Tb tyK (orc [r_laws_toGhost]) n a_laws_toGhostS.ann [s_laws_toGhostS_0 n] c_laws_toGhostS_0 (s_laws_toGhostS_0 n) :=
  ⟨by intro vs es x h; dsimp only [s_laws_toGhostS_0] at h; split at h; (· injection h with h; subst h; exact ⟨rfl, rfl⟩); (· cases h), fun _ _ => rfl, fun m x k => by kernel_rfl⟩
theorem r_laws_toGhostS_ok (n : Nat) : RwOk Go.Proofs.Try.prog tyK (r_laws_toGhostS n) :=
  ent_ok (fa := a_laws_toGhostS) (ls := [s_laws_toGhostS_0 n]) (cs := [c_laws_toGhostS_0]) (n := n) (es := [r_laws_toGhost]) mixedOk tbOk (ents_cons (r_laws_toGhost_ok) ents_nil) Go.Proofs.Try.func66 (by kernel_rfl) (by kernel_rfl) (by kernel_rfl) (LSsOk.cons _ _ (l := s_laws_toGhostS_0 n) (by kernel_rfl) (s_laws_toGhostS_0_ok n) (LSsOk.nil _ _)) (fun x => by kernel_rfl)
/-! loop.example/g00185/laws.toSys -/
noncomputable def a_laws_toSys : FnA := ⟨Go.Proofs.Try.f28, ⟨[(0, [(0, .slot 0 .int), (1, .slot 1 .int)]), (1, [(0, .slot 2 .int)]), (4, [(2, .call [.ro] (.own .task) [] [none])]), (5, [(2, .call [.ro] (.own .lock) [] [none])]), (6, [(2, .call [.ro] (.own .ghost) [] [none])]), (7, [(2, .call [.ro] (.own .int) [] [none])]), (10, [(2, .call [.ro] (.own .turn) [] [none])])], [], []⟩, 3⟩
def f_laws_toSys (n : Nat) (a0 : Sys) : Option (SysT × Unit) :=
  (f_laws_toTaskS n a0.Tasks).bind fun r1 =>
  (f_laws_toLockS n a0.Locks).bind fun r2 =>
  (f_laws_toGhostS n a0.Ghosts).bind fun r3 =>
  (f_laws_toIntS n a0.Floors).bind fun r4 =>
  (f_laws_toTurnS n a0.Trace).bind fun r5 =>
  some ((upSys (⟨a0.Now, a0.Cpus, r1.1, r2.1, r3.1, r4.1, a0.Seq, a0.Missed, r5.1⟩ : Sys)), ())
def r_laws_toSys (n : Nat) : Rw := ⟨28, (.pair (.v (.agg (.pair .int (.pair .int (.pair (.ro .task) (.pair (.ro .lock) (.pair (.ro .ghost) (.pair (.ro .int) (.pair .int (.pair .int (.pair (.ro .turn) .one))))))))))) .one), (.pair (.agg (.pair .int (.pair .int (.pair (.ro .task) (.pair (.ro .lock) (.pair (.ro .ghost) (.pair (.ro .int) (.pair .int (.pair .int (.pair (.ro .turn) .one)))))))))) .one), fun x => f_laws_toSys n (⟨x.1.1, x.1.2.1, x.1.2.2.1.2, x.1.2.2.2.1.2, x.1.2.2.2.2.1.2, x.1.2.2.2.2.2.1.2, x.1.2.2.2.2.2.2.1, x.1.2.2.2.2.2.2.2.1, x.1.2.2.2.2.2.2.2.2.1.2⟩ : Sys)⟩
theorem r_laws_toSys_ok (n : Nat) : RwOk Go.Proofs.Try.prog tyK (r_laws_toSys n) :=
  ent_ok (fa := a_laws_toSys) (ls := []) (cs := []) (n := n) (es := [(r_laws_toTaskS n), (r_laws_toLockS n), (r_laws_toGhostS n), (r_laws_toIntS n), (r_laws_toTurnS n)]) mixedOk tbOk (ents_cons (r_laws_toTaskS_ok n) (ents_cons (r_laws_toLockS_ok n) (ents_cons (r_laws_toGhostS_ok n) (ents_cons (r_laws_toIntS_ok n) (ents_cons (r_laws_toTurnS_ok n) ents_nil))))) Go.Proofs.Try.func28 (by kernel_rfl) (by kernel_rfl) (by kernel_rfl) (LSsOk.nil _ _) (fun x => by kernel_rfl)
/-! loop.example/g00185/spec.FloorOn -/
noncomputable def a_spec_FloorOn : FnA := ⟨Go.Proofs.Try.f27, ⟨[(0, [(0, .slot 0 .int)]), (1, [(5, .call [.ro, .ro, .ro] .bool [] [])])], [], []⟩, 1⟩
def f_spec_FloorOn (a0 : Sys) (a1 : Int) : Option (Int × Unit) :=
  (f_spec_l1In a1 0 (w64 (((a0.Floors).length : Int) - 1))).bind fun r1 =>
  cond (!r1.1)
   (some (0, ()))
   (cond ((decide (0 ≤ a1)) && (decide (a1 < ((a0.Floors).length : Int))))
     (some ((List.getD a0.Floors (Int.toNat a1) (Kd.dflt .int)), ()))
     (none))
def r_spec_FloorOn : Rw := ⟨27, (.pair (.v (.agg (.pair .int (.pair .int (.pair (.ro .task) (.pair (.ro .lock) (.pair (.ro .ghost) (.pair (.ro .int) (.pair .int (.pair .int (.pair (.ro .turn) .one))))))))))) (.pair (.v (.int)) .one)), (.pair .int .one), fun x => f_spec_FloorOn (⟨x.1.1, x.1.2.1, x.1.2.2.1.2, x.1.2.2.2.1.2, x.1.2.2.2.2.1.2, x.1.2.2.2.2.2.1.2, x.1.2.2.2.2.2.2.1, x.1.2.2.2.2.2.2.2.1, x.1.2.2.2.2.2.2.2.2.1.2⟩ : Sys) x.2.1⟩
theorem r_spec_FloorOn_ok : RwOk Go.Proofs.Try.prog tyK (r_spec_FloorOn) :=
  ent_ok (fa := a_spec_FloorOn) (ls := []) (cs := []) (n := 0) (es := [r_spec_l1In]) mixedOk tbOk (ents_cons (r_spec_l1In_ok) ents_nil) Go.Proofs.Try.func27 (by kernel_rfl) (by kernel_rfl) (by kernel_rfl) (LSsOk.nil _ _) (fun x => by kernel_rfl)
/-! loop.example/g00185/impl.in -/
noncomputable def a_impl_in : FnA := ⟨Go.Proofs.Try.f68, ⟨[], [], []⟩, 0⟩
def f_impl_in (a0 : Int) (a1 : Int) (a2 : Int) : Option (Bool × Unit) :=
  cond (decide (a1 ≤ a0))
   (some ((decide (a0 ≤ a2)), ()))
   (some (false, ()))
def r_impl_in : Rw := ⟨68, (.pair (.v (.int)) (.pair (.v (.int)) (.pair (.v (.int)) .one))), (.pair .bool .one), fun x => f_impl_in x.1 x.2.1 x.2.2.1⟩
theorem r_impl_in_ok : RwOk Go.Proofs.Try.prog tyK (r_impl_in) :=
  ent_ok (fa := a_impl_in) (ls := []) (cs := []) (n := 0) (es := []) mixedOk tbOk ents_nil Go.Proofs.Try.func68 (by kernel_rfl) (by kernel_rfl) (by kernel_rfl) (LSsOk.nil _ _) (fun x => by kernel_rfl)
/-! loop.example/g00185/impl.FloorOn -/
noncomputable def a_impl_FloorOn : FnA := ⟨Go.Proofs.Try.f29, ⟨[(0, [(0, .slot 0 .int)]), (1, [(5, .call [.ro, .ro, .ro] .bool [] [])])], [], []⟩, 1⟩
def f_impl_FloorOn (a0 : Sys) (a1 : Int) : Option (Int × Unit) :=
  (f_impl_in a1 0 (w64 (((a0.Floors).length : Int) - 1))).bind fun r1 =>
  cond (!r1.1)
   (some (0, ()))
   (cond ((decide (0 ≤ a1)) && (decide (a1 < ((a0.Floors).length : Int))))
     (some ((List.getD a0.Floors (Int.toNat a1) (Kd.dflt .int)), ()))
     (none))
def r_impl_FloorOn : Rw := ⟨29, (.pair (.v (.agg (.pair .int (.pair .int (.pair (.ro .task) (.pair (.ro .lock) (.pair (.ro .ghost) (.pair (.ro .int) (.pair .int (.pair .int (.pair (.ro .turn) .one))))))))))) (.pair (.v (.int)) .one)), (.pair .int .one), fun x => f_impl_FloorOn (⟨x.1.1, x.1.2.1, x.1.2.2.1.2, x.1.2.2.2.1.2, x.1.2.2.2.2.1.2, x.1.2.2.2.2.2.1.2, x.1.2.2.2.2.2.2.1, x.1.2.2.2.2.2.2.2.1, x.1.2.2.2.2.2.2.2.2.1.2⟩ : Sys) x.2.1⟩
theorem r_impl_FloorOn_ok : RwOk Go.Proofs.Try.prog tyK (r_impl_FloorOn) :=
  ent_ok (fa := a_impl_FloorOn) (ls := []) (cs := []) (n := 0) (es := [r_impl_in]) mixedOk tbOk (ents_cons (r_impl_in_ok) ents_nil) Go.Proofs.Try.func29 (by kernel_rfl) (by kernel_rfl) (by kernel_rfl) (LSsOk.nil _ _) (fun x => by kernel_rfl)
/-! loop.example/g00185/laws.eqTask -/
noncomputable def a_laws_eqTask : FnA := ⟨Go.Proofs.Try.f95, ⟨[(0, [(0, .slot 0 .int), (1, .slot 1 .int)])], [], []⟩, 2⟩
def f_laws_eqTask (a0 : Task) (a1 : Task) : Option (Bool × Unit) :=
  cond (!(decide (a0.No = a1.No)))
   (some (false, ()))
   (cond (!(decide (a0.Class = a1.Class)))
     (some (false, ()))
     (cond (!(decide (a0.Cpu = a1.Cpu)))
       (some (false, ()))
       (cond (!(decide (a0.State = a1.State)))
         (some (false, ()))
         (cond (!(a0.Idle == a1.Idle))
           (some (false, ()))
           (cond (!(decide (a0.Q = a1.Q)))
             (some (false, ()))
             (cond (!(decide (a0.P = a1.P)))
               (some (false, ()))
               (cond (!(decide (a0.Left = a1.Left)))
                 (some (false, ()))
                 (cond (!(decide (a0.Due = a1.Due)))
                   (some (false, ()))
                   (cond (!(decide (a0.Prio = a1.Prio)))
                     (some (false, ()))
                     (cond (!(decide (a0.Round = a1.Round)))
                       (some (false, ()))
                       (cond (!(decide (a0.Seq = a1.Seq)))
                         (some (false, ()))
                         (cond (!(decide (a0.Nice = a1.Nice)))
                           (some (false, ()))
                           (cond (!(decide (a0.V = a1.V)))
                             (some (false, ()))
                             (some (true, ())))))))))))))))
def r_laws_eqTask : Rw := ⟨95, (.pair (.v (.agg (.pair .int (.pair .int (.pair .int (.pair .int (.pair .bool (.pair .int (.pair .int (.pair .int (.pair .int (.pair .int (.pair .int (.pair .int (.pair .int (.pair .int .one)))))))))))))))) (.pair (.v (.agg (.pair .int (.pair .int (.pair .int (.pair .int (.pair .bool (.pair .int (.pair .int (.pair .int (.pair .int (.pair .int (.pair .int (.pair .int (.pair .int (.pair .int .one)))))))))))))))) .one)), (.pair .bool .one), fun x => f_laws_eqTask (⟨x.1.1, x.1.2.1, x.1.2.2.1, x.1.2.2.2.1, x.1.2.2.2.2.1, x.1.2.2.2.2.2.1, x.1.2.2.2.2.2.2.1, x.1.2.2.2.2.2.2.2.1, x.1.2.2.2.2.2.2.2.2.1, x.1.2.2.2.2.2.2.2.2.2.1, x.1.2.2.2.2.2.2.2.2.2.2.1, x.1.2.2.2.2.2.2.2.2.2.2.2.1, x.1.2.2.2.2.2.2.2.2.2.2.2.2.1, x.1.2.2.2.2.2.2.2.2.2.2.2.2.2.1⟩ : Task) (⟨x.2.1.1, x.2.1.2.1, x.2.1.2.2.1, x.2.1.2.2.2.1, x.2.1.2.2.2.2.1, x.2.1.2.2.2.2.2.1, x.2.1.2.2.2.2.2.2.1, x.2.1.2.2.2.2.2.2.2.1, x.2.1.2.2.2.2.2.2.2.2.1, x.2.1.2.2.2.2.2.2.2.2.2.1, x.2.1.2.2.2.2.2.2.2.2.2.2.1, x.2.1.2.2.2.2.2.2.2.2.2.2.2.1, x.2.1.2.2.2.2.2.2.2.2.2.2.2.2.1, x.2.1.2.2.2.2.2.2.2.2.2.2.2.2.2.1⟩ : Task)⟩
theorem r_laws_eqTask_ok : RwOk Go.Proofs.Try.prog tyK (r_laws_eqTask) :=
  ent_ok (fa := a_laws_eqTask) (ls := []) (cs := []) (n := 0) (es := []) mixedOk tbOk ents_nil Go.Proofs.Try.func95 (by kernel_rfl) (by kernel_rfl) (by kernel_rfl) (LSsOk.nil _ _) (fun x => by kernel_rfl)
/-! loop.example/g00185/laws.eqTaskS -/
noncomputable def a_laws_eqTaskS : FnA := ⟨Go.Proofs.Try.f52, ⟨[(6, [(8, .call [.ro, .ro] .bool [] [])])], [(6, [([], []), ([], []), ([], []), ([], []), ([], []), ([], []), ([], []), ([], []), ([], []), ([], [])])], []⟩, 0⟩
def l_laws_eqTaskS_0 {α : Type} (n : Nat) : Nat → List Task → List Task → Int → (Option α) → (Option α) → Option α
  | 0, _, _, _, _, _ => none
  | m0 + 1, v1, v2, v3, k0_0, k0_1 =>
    cond (decide (v3 < ((v1).length : Int)))
     (cond ((decide (0 ≤ v3)) && (decide (v3 < ((v1).length : Int))))
       (cond ((decide (0 ≤ v3)) && (decide (v3 < ((v2).length : Int))))
         ((f_laws_eqTask (List.getD v1 (Int.toNat v3) (Kd.dflt .task)) (List.getD v2 (Int.toNat v3) (Kd.dflt .task))).bind fun r4 =>
          cond (!r4.1)
           (k0_0)
           (l_laws_eqTaskS_0 n m0 v1 v2 (w64 (v3 + 1)) k0_0 k0_1))
         (none))
       (none))
     (k0_1)
def f_laws_eqTaskS (n : Nat) (a0 : List Task) (a1 : List Task) : Option (Bool × Unit) :=
  cond (!(decide (((a0).length : Int) = ((a1).length : Int))))
   (some (false, ()))
   (l_laws_eqTaskS_0 n n a0 a1 0
     (some (false, ()))
     (some (true, ())))
def r_laws_eqTaskS (n : Nat) : Rw := ⟨52, (.pair (.v (.ro .task)) (.pair (.v (.ro .task)) .one)), (.pair .bool .one), fun x => f_laws_eqTaskS n x.1.2 x.2.1.2⟩
def s_laws_eqTaskS_0 (n : Nat) : LS where
  la := ⟨4, [0, 1, 5], [], [], [4], []⟩
  nt := 27
  kt := [0, 1, 5]
  hs := []
  X := Bool × List Task × Bool × List Task × Int
  abs := fun vs es => match vs, es with | [.ro y0 .task y1, .ro y2 .task y3, .int y4], [] => some (y0, y1, y2, y3, y4) | _, _ => none
  tms := fun x => [.ro x.1 .task x.2.1, .ro x.2.2.1 .task x.2.2.2.1, .int x.2.2.2.2]
  ets := fun x => []
  run := fun m x k => l_laws_eqTaskS_0 n m x.2.1 x.2.2.2.1 x.2.2.2.2 (k .ret ⟨layT [4] [.bool false] 0 27, layH [] []⟩) (k (.exit 0) ⟨layT [] [] 0 27, layH [] []⟩)
noncomputable def c_laws_eqTaskS_0 : Code := (Go.Proofs.Try.f52.body.bind (subLoop 4)).getD .skip
theorem s_laws_eqTaskS_0_ok (n : Nat) : LSok Tb tyK (orc [r_laws_eqTask]) n a_laws_eqTaskS.ann [s_laws_eqTaskS_0 n] c_laws_eqTaskS_0 (s_laws_eqTaskS_0 n) :=
  ⟨by intro vs es x h; dsimp only [s_laws_eqTaskS_0] at h; split at h; (· injection h with h; subst h; exact ⟨rfl, rfl⟩); (· cases h), fun _ _ => rfl, fun m x k => by kernel_rfl⟩
theorem r_laws_eqTaskS_ok (n : Nat) : RwOk Go.Proofs.Try.prog tyK (r_laws_eqTaskS n) :=
  ent_ok (fa := a_laws_eqTaskS) (ls := [s_laws_eqTaskS_0 n]) (cs := [c_laws_eqTaskS_0]) (n := n) (es := [r_laws_eqTask]) mixedOk tbOk (ents_cons (r_laws_eqTask_ok) ents_nil) Go.Proofs.Try.func52 (by kernel_rfl) (by kernel_rfl) (by kernel_rfl) (LSsOk.cons _ _ (l := s_laws_eqTaskS_0 n) (by kernel_rfl) (s_laws_eqTaskS_0_ok n) (LSsOk.nil _ _)) (fun x => by kernel_rfl)
end Go.Proofs.Ytoedeimpfbebpaa.VR
