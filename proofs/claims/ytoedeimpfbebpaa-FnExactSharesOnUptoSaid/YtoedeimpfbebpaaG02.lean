/- Functions, printed by program (wip/gen/emit.py). -/
import Derived.Test.YtoedeimpfbebpaaG01
set_option linter.unusedVariables false
set_option maxRecDepth 100000
namespace Go.Proofs.Ytoedeimpfbebpaa.VR
open Go
/-! loop.example/g00185/laws.eqIntS -/
noncomputable def a_laws_eqIntS : FnA := ⟨Go.Proofs.Try.f70, ⟨[], [(6, [([], []), ([], []), ([], []), ([], []), ([], []), ([], []), ([], []), ([], []), ([], [])])], []⟩, 0⟩
def l_laws_eqIntS_0 {α : Type} (n : Nat) : Nat → List Int → List Int → Int → (Option α) → (Option α) → Option α
  | 0, _, _, _, _, _ => none
  | m0 + 1, v1, v2, v3, k0_0, k0_1 =>
    cond (decide (v3 < ((v1).length : Int)))
     (cond ((decide (0 ≤ v3)) && (decide (v3 < ((v1).length : Int))))
       (cond ((decide (0 ≤ v3)) && (decide (v3 < ((v2).length : Int))))
         (let e4 := (!(decide ((List.getD v1 (Int.toNat v3) (Kd.dflt .int)) = (List.getD v2 (Int.toNat v3) (Kd.dflt .int)))))
          cond e4
           (k0_0)
           (l_laws_eqIntS_0 n m0 v1 v2 (w64 (v3 + 1)) k0_0 k0_1))
         (none))
       (none))
     (k0_1)
def f_laws_eqIntS (n : Nat) (a0 : List Int) (a1 : List Int) : Option (Bool × Unit) :=
  cond (!(decide (((a0).length : Int) = ((a1).length : Int))))
   (some (false, ()))
   (l_laws_eqIntS_0 n n a0 a1 0
     (some (false, ()))
     (some (true, ())))
def r_laws_eqIntS (n : Nat) : Rw := ⟨70, (.pair (.v (.ro .int)) (.pair (.v (.ro .int)) .one)), (.pair .bool .one), fun x => f_laws_eqIntS n x.1.2 x.2.1.2⟩
def s_laws_eqIntS_0 (n : Nat) : LS where
  la := ⟨4, [0, 1, 5], [], [], [4], []⟩
  nt := 26
  kt := [0, 1, 5]
  hs := []
  X := Bool × List Int × Bool × List Int × Int
  abs := fun vs es => match vs, es with | [.ro y0 .int y1, .ro y2 .int y3, .int y4], [] => some (y0, y1, y2, y3, y4) | _, _ => none
  tms := fun x => [.ro x.1 .int x.2.1, .ro x.2.2.1 .int x.2.2.2.1, .int x.2.2.2.2]
  ets := fun x => []
  run := fun m x k => l_laws_eqIntS_0 n m x.2.1 x.2.2.2.1 x.2.2.2.2 (k .ret ⟨layT [4] [.bool false] 0 26, layH [] []⟩) (k (.exit 0) ⟨layT [] [] 0 26, layH [] []⟩)
noncomputable def c_laws_eqIntS_0 : Code := (Go.Proofs.Try.f70.body.bind (subLoop 4)).getD .skip
theorem s_laws_eqIntS_0_ok (n : Nat) : LSok Tb tyK (orc []) n a_laws_eqIntS.ann [s_laws_eqIntS_0 n] c_laws_eqIntS_0 (s_laws_eqIntS_0 n) :=
  ⟨by intro vs es x h; dsimp only [s_laws_eqIntS_0] at h; split at h; (· injection h with h; subst h; exact ⟨rfl, rfl⟩); (· cases h), fun _ _ => rfl, fun m x k => by kernel_rfl⟩
theorem r_laws_eqIntS_ok (n : Nat) : RwOk Go.Proofs.Try.prog tyK (r_laws_eqIntS n) :=
  ent_ok (fa := a_laws_eqIntS) (ls := [s_laws_eqIntS_0 n]) (cs := [c_laws_eqIntS_0]) (n := n) (es := []) mixedOk tbOk ents_nil Go.Proofs.Try.func70 (by kernel_rfl) (by kernel_rfl) (by kernel_rfl) (LSsOk.cons _ _ (l := s_laws_eqIntS_0 n) (by kernel_rfl) (s_laws_eqIntS_0_ok n) (LSsOk.nil _ _)) (fun x => by kernel_rfl)
/-! loop.example/g00185/laws.eqLock -/
noncomputable def a_laws_eqLock : FnA := ⟨Go.Proofs.Try.f96, ⟨[(0, [(0, .slot 0 .int), (1, .slot 1 .int)]), (3, [(4, .call [.ro, .ro] .bool [] [])])], [], []⟩, 2⟩
def f_laws_eqLock (n : Nat) (a0 : Lock) (a1 : Lock) : Option (Bool × Unit) :=
  cond (!(decide (a0.Owner = a1.Owner)))
   (some (false, ()))
   ((f_laws_eqIntS n a0.Waits a1.Waits).bind fun r1 =>
    cond (!r1.1)
     (some (false, ()))
     (some (true, ())))
def r_laws_eqLock (n : Nat) : Rw := ⟨96, (.pair (.v (.agg (.pair .int (.pair (.ro .int) .one)))) (.pair (.v (.agg (.pair .int (.pair (.ro .int) .one)))) .one)), (.pair .bool .one), fun x => f_laws_eqLock n (⟨x.1.1, x.1.2.1.2⟩ : Lock) (⟨x.2.1.1, x.2.1.2.1.2⟩ : Lock)⟩
theorem r_laws_eqLock_ok (n : Nat) : RwOk Go.Proofs.Try.prog tyK (r_laws_eqLock n) :=
  ent_ok (fa := a_laws_eqLock) (ls := []) (cs := []) (n := n) (es := [(r_laws_eqIntS n)]) mixedOk tbOk (ents_cons (r_laws_eqIntS_ok n) ents_nil) Go.Proofs.Try.func96 (by kernel_rfl) (by kernel_rfl) (by kernel_rfl) (LSsOk.nil _ _) (fun x => by kernel_rfl)
/-! loop.example/g00185/laws.eqLockS -/
noncomputable def a_laws_eqLockS : FnA := ⟨Go.Proofs.Try.f53, ⟨[(6, [(8, .call [.ro, .ro] .bool [] [])])], [(6, [([], []), ([], []), ([], []), ([], []), ([], []), ([], []), ([], []), ([], []), ([], []), ([], [])])], []⟩, 0⟩
def l_laws_eqLockS_0 {α : Type} (n : Nat) : Nat → List Lock → List Lock → Int → (Option α) → (Option α) → Option α
  | 0, _, _, _, _, _ => none
  | m0 + 1, v1, v2, v3, k0_0, k0_1 =>
    cond (decide (v3 < ((v1).length : Int)))
     (cond ((decide (0 ≤ v3)) && (decide (v3 < ((v1).length : Int))))
       (cond ((decide (0 ≤ v3)) && (decide (v3 < ((v2).length : Int))))
         ((f_laws_eqLock n (List.getD v1 (Int.toNat v3) (Kd.dflt .lock)) (List.getD v2 (Int.toNat v3) (Kd.dflt .lock))).bind fun r4 =>
          cond (!r4.1)
           (k0_0)
           (l_laws_eqLockS_0 n m0 v1 v2 (w64 (v3 + 1)) k0_0 k0_1))
         (none))
       (none))
     (k0_1)
def f_laws_eqLockS (n : Nat) (a0 : List Lock) (a1 : List Lock) : Option (Bool × Unit) :=
  cond (!(decide (((a0).length : Int) = ((a1).length : Int))))
   (some (false, ()))
   (l_laws_eqLockS_0 n n a0 a1 0
     (some (false, ()))
     (some (true, ())))
def r_laws_eqLockS (n : Nat) : Rw := ⟨53, (.pair (.v (.ro .lock)) (.pair (.v (.ro .lock)) .one)), (.pair .bool .one), fun x => f_laws_eqLockS n x.1.2 x.2.1.2⟩
def s_laws_eqLockS_0 (n : Nat) : LS where
  la := ⟨4, [0, 1, 5], [], [], [4], []⟩
  nt := 27
  kt := [0, 1, 5]
  hs := []
  X := Bool × List Lock × Bool × List Lock × Int
  abs := fun vs es => match vs, es with | [.ro y0 .lock y1, .ro y2 .lock y3, .int y4], [] => some (y0, y1, y2, y3, y4) | _, _ => none
  tms := fun x => [.ro x.1 .lock x.2.1, .ro x.2.2.1 .lock x.2.2.2.1, .int x.2.2.2.2]
  ets := fun x => []
  run := fun m x k => l_laws_eqLockS_0 n m x.2.1 x.2.2.2.1 x.2.2.2.2 (k .ret ⟨layT [4] [.bool false] 0 27, layH [] []⟩) (k (.exit 0) ⟨layT [] [] 0 27, layH [] []⟩)
noncomputable def c_laws_eqLockS_0 : Code := (Go.Proofs.Try.f53.body.bind (subLoop 4)).getD .skip
theorem s_laws_eqLockS_0_ok (n : Nat) : LSok Tb tyK (orc [(r_laws_eqLock n)]) n a_laws_eqLockS.ann [s_laws_eqLockS_0 n] c_laws_eqLockS_0 (s_laws_eqLockS_0 n) :=
  ⟨by intro vs es x h; dsimp only [s_laws_eqLockS_0] at h; split at h; (· injection h with h; subst h; exact ⟨rfl, rfl⟩); (· cases h), fun _ _ => rfl, fun m x k => by kernel_rfl⟩
theorem r_laws_eqLockS_ok (n : Nat) : RwOk Go.Proofs.Try.prog tyK (r_laws_eqLockS n) :=
  ent_ok (fa := a_laws_eqLockS) (ls := [s_laws_eqLockS_0 n]) (cs := [c_laws_eqLockS_0]) (n := n) (es := [(r_laws_eqLock n)]) mixedOk tbOk (ents_cons (r_laws_eqLock_ok n) ents_nil) Go.Proofs.Try.func53 (by kernel_rfl) (by kernel_rfl) (by kernel_rfl) (LSsOk.cons _ _ (l := s_laws_eqLockS_0 n) (by kernel_rfl) (s_laws_eqLockS_0_ok n) (LSsOk.nil _ _)) (fun x => by kernel_rfl)
/-! loop.example/g00185/laws.eqShare -/
noncomputable def a_laws_eqShare : FnA := ⟨Go.Proofs.Try.f84, ⟨[(0, [(0, .slot 0 .int), (1, .slot 1 .int)])], [], []⟩, 2⟩
def f_laws_eqShare (a0 : Share) (a1 : Share) : Option (Bool × Unit) :=
  cond (!(decide (a0.Q = a1.Q)))
   (some (false, ()))
   (cond (!(decide (a0.P = a1.P)))
     (some (false, ()))
     (some (true, ())))
def r_laws_eqShare : Rw := ⟨84, (.pair (.v (.agg (.pair .int (.pair .int .one)))) (.pair (.v (.agg (.pair .int (.pair .int .one)))) .one)), (.pair .bool .one), fun x => f_laws_eqShare (⟨x.1.1, x.1.2.1⟩ : Share) (⟨x.2.1.1, x.2.1.2.1⟩ : Share)⟩
theorem r_laws_eqShare_ok : RwOk Go.Proofs.Try.prog tyK (r_laws_eqShare) :=
  ent_ok (fa := a_laws_eqShare) (ls := []) (cs := []) (n := 0) (es := []) mixedOk tbOk ents_nil Go.Proofs.Try.func84 (by kernel_rfl) (by kernel_rfl) (by kernel_rfl) (LSsOk.nil _ _) (fun x => by kernel_rfl)
/-! loop.example/g00185/laws.eqGhost -/
noncomputable def a_laws_eqGhost : FnA := ⟨Go.Proofs.Try.f116, ⟨[(0, [(0, .slot 0 .int), (1, .slot 1 .int)]), (3, [(4, .call [.ro, .ro] .bool [] [])])], [], []⟩, 2⟩
def f_laws_eqGhost (a0 : Ghost) (a1 : Ghost) : Option (Bool × Unit) :=
  cond (!(decide (a0.Cpu = a1.Cpu)))
   (some (false, ()))
   ((f_laws_eqShare a0.S a1.S).bind fun r1 =>
    cond (!r1.1)
     (some (false, ()))
     (cond (!(decide (a0.Until = a1.Until)))
       (some (false, ()))
       (some (true, ()))))
def r_laws_eqGhost : Rw := ⟨116, (.pair (.v (.agg (.pair .int (.pair .int (.pair .int (.pair .int .one)))))) (.pair (.v (.agg (.pair .int (.pair .int (.pair .int (.pair .int .one)))))) .one)), (.pair .bool .one), fun x => f_laws_eqGhost (⟨x.1.1, ⟨x.1.2.1, x.1.2.2.1⟩, x.1.2.2.2.1⟩ : Ghost) (⟨x.2.1.1, ⟨x.2.1.2.1, x.2.1.2.2.1⟩, x.2.1.2.2.2.1⟩ : Ghost)⟩
theorem r_laws_eqGhost_ok : RwOk Go.Proofs.Try.prog tyK (r_laws_eqGhost) :=
  ent_ok (fa := a_laws_eqGhost) (ls := []) (cs := []) (n := 0) (es := [r_laws_eqShare]) mixedOk tbOk (ents_cons (r_laws_eqShare_ok) ents_nil) Go.Proofs.Try.func116 (by kernel_rfl) (by kernel_rfl) (by kernel_rfl) (LSsOk.nil _ _) (fun x => by kernel_rfl)
/-! loop.example/g00185/laws.eqGhostS -/
noncomputable def a_laws_eqGhostS : FnA := ⟨Go.Proofs.Try.f69, ⟨[(6, [(8, .call [.ro, .ro] .bool [] [])])], [(6, [([], []), ([], []), ([], []), ([], []), ([], []), ([], []), ([], []), ([], []), ([], []), ([], [])])], []⟩, 0⟩
def l_laws_eqGhostS_0 {α : Type} (n : Nat) : Nat → List Ghost → List Ghost → Int → (Option α) → (Option α) → Option α
  | 0, _, _, _, _, _ => none
  | m0 + 1, v1, v2, v3, k0_0, k0_1 =>
    cond (decide (v3 < ((v1).length : Int)))
     (cond ((decide (0 ≤ v3)) && (decide (v3 < ((v1).length : Int))))
       (cond ((decide (0 ≤ v3)) && (decide (v3 < ((v2).length : Int))))
         ((f_laws_eqGhost (List.getD v1 (Int.toNat v3) (Kd.dflt .ghost)) (List.getD v2 (Int.toNat v3) (Kd.dflt .ghost))).bind fun r4 =>
          cond (!r4.1)
           (k0_0)
           (l_laws_eqGhostS_0 n m0 v1 v2 (w64 (v3 + 1)) k0_0 k0_1))
         (none))
       (none))
     (k0_1)
def f_laws_eqGhostS (n : Nat) (a0 : List Ghost) (a1 : List Ghost) : Option (Bool × Unit) :=
  cond (!(decide (((a0).length : Int) = ((a1).length : Int))))
   (some (false, ()))
   (l_laws_eqGhostS_0 n n a0 a1 0
     (some (false, ()))
     (some (true, ())))
def r_laws_eqGhostS (n : Nat) : Rw := ⟨69, (.pair (.v (.ro .ghost)) (.pair (.v (.ro .ghost)) .one)), (.pair .bool .one), fun x => f_laws_eqGhostS n x.1.2 x.2.1.2⟩
def s_laws_eqGhostS_0 (n : Nat) : LS where
  la := ⟨4, [0, 1, 5], [], [], [4], []⟩
  nt := 27
  kt := [0, 1, 5]
  hs := []
  X := Bool × List Ghost × Bool × List Ghost × Int
  abs := fun vs es => match vs, es with | [.ro y0 .ghost y1, .ro y2 .ghost y3, .int y4], [] => some (y0, y1, y2, y3, y4) | _, _ => none
  tms := fun x => [.ro x.1 .ghost x.2.1, .ro x.2.2.1 .ghost x.2.2.2.1, .int x.2.2.2.2]
  ets := fun x => []
  run := fun m x k => l_laws_eqGhostS_0 n m x.2.1 x.2.2.2.1 x.2.2.2.2 (k .ret ⟨layT [4] [.bool false] 0 27, layH [] []⟩) (k (.exit 0) ⟨layT [] [] 0 27, layH [] []⟩)
noncomputable def c_laws_eqGhostS_0 : Code := (Go.Proofs.Try.f69.body.bind (subLoop 4)).getD .skip
theorem s_laws_eqGhostS_0_ok (n : Nat) : LSok Tb tyK (orc [r_laws_eqGhost]) n a_laws_eqGhostS.ann [s_laws_eqGhostS_0 n] c_laws_eqGhostS_0 (s_laws_eqGhostS_0 n) :=
  ⟨by intro vs es x h; dsimp only [s_laws_eqGhostS_0] at h; split at h; (· injection h with h; subst h; exact ⟨rfl, rfl⟩); (· cases h), fun _ _ => rfl, fun m x k => by kernel_rfl⟩
theorem r_laws_eqGhostS_ok (n : Nat) : RwOk Go.Proofs.Try.prog tyK (r_laws_eqGhostS n) :=
  ent_ok (fa := a_laws_eqGhostS) (ls := [s_laws_eqGhostS_0 n]) (cs := [c_laws_eqGhostS_0]) (n := n) (es := [r_laws_eqGhost]) mixedOk tbOk (ents_cons (r_laws_eqGhost_ok) ents_nil) Go.Proofs.Try.func69 (by kernel_rfl) (by kernel_rfl) (by kernel_rfl) (LSsOk.cons _ _ (l := s_laws_eqGhostS_0 n) (by kernel_rfl) (s_laws_eqGhostS_0_ok n) (LSsOk.nil _ _)) (fun x => by kernel_rfl)
/-! loop.example/g00185/laws.eqSys -/
noncomputable def a_laws_eqSys : FnA := ⟨Go.Proofs.Try.f30, ⟨[(0, [(0, .slot 0 .int), (1, .slot 1 .int)]), (5, [(4, .call [.ro, .ro] .bool [] [])]), (7, [(4, .call [.ro, .ro] .bool [] [])]), (9, [(4, .call [.ro, .ro] .bool [] [])]), (11, [(4, .call [.ro, .ro] .bool [] [])]), (17, [(4, .call [.ro, .ro] .bool [] [])])], [], []⟩, 2⟩
def f_laws_eqSys (n : Nat) (a0 : Sys) (a1 : Sys) : Option (Bool × Unit) :=
  cond (!(decide (a0.Now = a1.Now)))
   (some (false, ()))
   (cond (!(decide (a0.Cpus = a1.Cpus)))
     (some (false, ()))
     ((f_laws_eqTaskS n a0.Tasks a1.Tasks).bind fun r1 =>
      cond (!r1.1)
       (some (false, ()))
       ((f_laws_eqLockS n a0.Locks a1.Locks).bind fun r2 =>
        cond (!r2.1)
         (some (false, ()))
         ((f_laws_eqGhostS n a0.Ghosts a1.Ghosts).bind fun r3 =>
          cond (!r3.1)
           (some (false, ()))
           ((f_laws_eqIntS n a0.Floors a1.Floors).bind fun r4 =>
            cond (!r4.1)
             (some (false, ()))
             (cond (!(decide (a0.Seq = a1.Seq)))
               (some (false, ()))
               (cond (!(decide (a0.Missed = a1.Missed)))
                 (some (false, ()))
                 ((f_laws_eqTurnS n a0.Trace a1.Trace).bind fun r5 =>
                  cond (!r5.1)
                   (some (false, ()))
                   (some (true, ()))))))))))
def r_laws_eqSys (n : Nat) : Rw := ⟨30, (.pair (.v (.agg (.pair .int (.pair .int (.pair (.ro .task) (.pair (.ro .lock) (.pair (.ro .ghost) (.pair (.ro .int) (.pair .int (.pair .int (.pair (.ro .turn) .one))))))))))) (.pair (.v (.agg (.pair .int (.pair .int (.pair (.ro .task) (.pair (.ro .lock) (.pair (.ro .ghost) (.pair (.ro .int) (.pair .int (.pair .int (.pair (.ro .turn) .one))))))))))) .one)), (.pair .bool .one), fun x => f_laws_eqSys n (⟨x.1.1, x.1.2.1, x.1.2.2.1.2, x.1.2.2.2.1.2, x.1.2.2.2.2.1.2, x.1.2.2.2.2.2.1.2, x.1.2.2.2.2.2.2.1, x.1.2.2.2.2.2.2.2.1, x.1.2.2.2.2.2.2.2.2.1.2⟩ : Sys) (⟨x.2.1.1, x.2.1.2.1, x.2.1.2.2.1.2, x.2.1.2.2.2.1.2, x.2.1.2.2.2.2.1.2, x.2.1.2.2.2.2.2.1.2, x.2.1.2.2.2.2.2.2.1, x.2.1.2.2.2.2.2.2.2.1, x.2.1.2.2.2.2.2.2.2.2.1.2⟩ : Sys)⟩
theorem r_laws_eqSys_ok (n : Nat) : RwOk Go.Proofs.Try.prog tyK (r_laws_eqSys n) :=
  ent_ok (fa := a_laws_eqSys) (ls := []) (cs := []) (n := n) (es := [(r_laws_eqTaskS n), (r_laws_eqLockS n), (r_laws_eqGhostS n), (r_laws_eqIntS n), (r_laws_eqTurnS n)]) mixedOk tbOk (ents_cons (r_laws_eqTaskS_ok n) (ents_cons (r_laws_eqLockS_ok n) (ents_cons (r_laws_eqGhostS_ok n) (ents_cons (r_laws_eqIntS_ok n) (ents_cons (r_laws_eqTurnS_ok n) ents_nil))))) Go.Proofs.Try.func30 (by kernel_rfl) (by kernel_rfl) (by kernel_rfl) (LSsOk.nil _ _) (fun x => by kernel_rfl)
/-! loop.example/g00185/laws.FnExactFloorOn -/
noncomputable def a_laws_FnExactFloorOn : FnA := ⟨Go.Proofs.Try.f7, ⟨[(0, [(0, .slot 0 .int)]), (2, [(2, .call [.ro, .ro] .int [] [])]), (5, [(1, .call [.ro] (.agg (.pair .int (.pair .int (.pair (.ro .task) (.pair (.ro .lock) (.pair (.ro .ghost) (.pair (.ro .int) (.pair .int (.pair .int (.pair (.ro .turn) .one)))))))))) [] []), (3, .call [.ro, .ro] .int [] [])]), (6, [(1, .call [.ro] (.agg (.pair .int (.pair .int (.pair (.ro .task) (.pair (.ro .lock) (.pair (.ro .ghost) (.pair (.ro .int) (.pair .int (.pair .int (.pair (.ro .turn) .one)))))))))) [] []), (2, .slot 1 .int)]), (7, [(2, .call [.ro, .ro] .int [] [])]), (10, [(2, .call [.ro] (.agg (.pair .int (.pair .int (.pair (.ro .task) (.pair (.ro .lock) (.pair (.ro .ghost) (.pair (.ro .int) (.pair .int (.pair .int (.pair (.ro .turn) .one)))))))))) [] []), (3, .call [.ro, .ro] .bool [] [])])], [(10, [([1], []), ([0], []), ([], []), ([], []), ([], [])])], []⟩, 2⟩
def f_laws_FnExactFloorOn (n : Nat) (a0 : Sys) (a1 : Int) : Option (Bool × Unit) :=
  (f_laws_szSys n a0 1048576).bind fun r1 =>
  cond (decide (r1.1 < 0))
   (some (true, ()))
   ((f_laws_toSys n a0).bind fun r2 =>
    (f_spec_FloorOn (dnSys r2.1) a1).bind fun r3 =>
    (f_laws_toSys n a0).bind fun r4 =>
    (f_impl_FloorOn (dnSys r4.1) a1).bind fun r5 =>
    cond (!(decide (r5.1 = r3.1)))
     (some (false, ()))
     ((f_laws_toSys n a0).bind fun r6 =>
      (f_laws_eqSys n (dnSys r4.1) (dnSys r6.1)).bind fun r7 =>
      cond (!r7.1)
       (some (false, ()))
       (some (true, ()))))
def r_laws_FnExactFloorOn (n : Nat) : Rw := ⟨7, (.pair (.v (.agg (.pair .int (.pair .int (.pair (.ro .task) (.pair (.ro .lock) (.pair (.ro .ghost) (.pair (.ro .int) (.pair .int (.pair .int (.pair (.ro .turn) .one))))))))))) (.pair (.v (.int)) .one)), (.pair .bool .one), fun x => f_laws_FnExactFloorOn n (⟨x.1.1, x.1.2.1, x.1.2.2.1.2, x.1.2.2.2.1.2, x.1.2.2.2.2.1.2, x.1.2.2.2.2.2.1.2, x.1.2.2.2.2.2.2.1, x.1.2.2.2.2.2.2.2.1, x.1.2.2.2.2.2.2.2.2.1.2⟩ : Sys) x.2.1⟩
theorem r_laws_FnExactFloorOn_ok (n : Nat) : RwOk Go.Proofs.Try.prog tyK (r_laws_FnExactFloorOn n) :=
  ent_ok (fa := a_laws_FnExactFloorOn) (ls := []) (cs := []) (n := n) (es := [(r_laws_szSys n), (r_laws_toSys n), r_spec_FloorOn, r_impl_FloorOn, (r_laws_eqSys n)]) mixedOk tbOk (ents_cons (r_laws_szSys_ok n) (ents_cons (r_laws_toSys_ok n) (ents_cons (r_spec_FloorOn_ok) (ents_cons (r_impl_FloorOn_ok) (ents_cons (r_laws_eqSys_ok n) ents_nil))))) Go.Proofs.Try.func7 (by kernel_rfl) (by kernel_rfl) (by kernel_rfl) (LSsOk.nil _ _) (fun x => by kernel_rfl)
/-! loop.example/g00185/spec.TaskAt -/
noncomputable def a_spec_TaskAt : FnA := ⟨Go.Proofs.Try.f71, ⟨[], [], []⟩, 0⟩
def l_spec_TaskAt_0 {α : Type} (n : Nat) : Nat → List Task → Int → Int → (Int → Option α) → (Option α) → Option α
  | 0, _, _, _, _, _ => none
  | m0 + 1, v1, v2, v3, k0_0, k0_1 =>
    cond (decide (v3 < ((v1).length : Int)))
     (cond ((decide (0 ≤ v3)) && (decide (v3 < ((v1).length : Int))))
       (let e4 := (decide ((List.getD v1 (Int.toNat v3) (Kd.dflt .task)).No = v2))
        cond e4
         (k0_0 v3)
         (l_spec_TaskAt_0 n m0 v1 v2 (w64 (v3 + 1)) k0_0 k0_1))
       (none))
     (k0_1)
def f_spec_TaskAt (n : Nat) (a0 : List Task) (a1 : Int) : Option (Int × Unit) :=
  l_spec_TaskAt_0 n n a0 a1 0
   (fun w5 =>
    some (w5, ()))
   (some ((-1), ()))
def r_spec_TaskAt (n : Nat) : Rw := ⟨71, (.pair (.v (.ro .task)) (.pair (.v (.int)) .one)), (.pair .int .one), fun x => f_spec_TaskAt n x.1.2 x.2.1⟩
def s_spec_TaskAt_0 (n : Nat) : LS where
  la := ⟨2, [0, 1, 5], [], [], [4], []⟩
  nt := 20
  kt := [0, 1, 5]
  hs := []
  X := Bool × List Task × Int × Int
  abs := fun vs es => match vs, es with | [.ro y0 .task y1, .int y2, .int y3], [] => some (y0, y1, y2, y3) | _, _ => none
  tms := fun x => [.ro x.1 .task x.2.1, .int x.2.2.1, .int x.2.2.2]
  ets := fun x => []
  run := fun m x k => l_spec_TaskAt_0 n m x.2.1 x.2.2.1 x.2.2.2 (fun w0 => k .ret ⟨layT [4] [.int w0] 0 20, layH [] []⟩) (k (.exit 0) ⟨layT [] [] 0 20, layH [] []⟩)
noncomputable def c_spec_TaskAt_0 : Code := (Go.Proofs.Try.f71.body.bind (subLoop 2)).getD .skip
theorem s_spec_TaskAt_0_ok (n : Nat) : LSok Tb tyK (orc []) n a_spec_TaskAt.ann [s_spec_TaskAt_0 n] c_spec_TaskAt_0 (s_spec_TaskAt_0 n) :=
  ⟨by intro vs es x h; dsimp only [s_spec_TaskAt_0] at h; split at h; (· injection h with h; subst h; exact ⟨rfl, rfl⟩); (· cases h), fun _ _ => rfl, fun m x k => by kernel_rfl⟩
theorem r_spec_TaskAt_ok (n : Nat) : RwOk Go.Proofs.Try.prog tyK (r_spec_TaskAt n) :=
  ent_ok (fa := a_spec_TaskAt) (ls := [s_spec_TaskAt_0 n]) (cs := [c_spec_TaskAt_0]) (n := n) (es := []) mixedOk tbOk ents_nil Go.Proofs.Try.func71 (by kernel_rfl) (by kernel_rfl) (by kernel_rfl) (LSsOk.cons _ _ (l := s_spec_TaskAt_0 n) (by kernel_rfl) (s_spec_TaskAt_0_ok n) (LSsOk.nil _ _)) (fun x => by kernel_rfl)
/-! loop.example/g00185/spec.SameCpu -/
noncomputable def a_spec_SameCpu : FnA := ⟨Go.Proofs.Try.f31, ⟨[(0, [(0, .slot 0 .int)]), (1, [(3, .call [.ro, .ro] .int [] [])]), (2, [(5, .call [.ro, .ro, .ro] .bool [] [])]), (4, [(8, .call [.ro, .ro] .int [] [])])], [(4, [([0], []), ([0], []), ([0], []), ([0], []), ([], []), ([], []), ([], []), ([], []), ([], []), ([], [])]), (5, [([0], []), ([0], []), ([], []), ([], []), ([], []), ([], []), ([], []), ([], []), ([], []), ([], []), ([], []), ([0], []), ([0], []), ([], []), ([], []), ([], []), ([], []), ([0], []), ([0], []), ([], []), ([], []), ([], []), ([], []), ([], []), ([], []), ([], []), ([], [])])], []⟩, 1⟩
def f_spec_SameCpu (n : Nat) (a0 : Sys) (a1 : Int) (a2 : Int) : Option (Bool × Unit) :=
  (f_spec_TaskAt n a0.Tasks a2).bind fun r1 =>
  (f_spec_l1In a1 0 (w64 (((a0.Locks).length : Int) - 1))).bind fun r2 =>
  cond (!r2.1)
   (some (false, ()))
   (cond (decide (r1.1 < 0))
     (some (false, ()))
     (cond ((decide (0 ≤ a1)) && (decide (a1 < ((a0.Locks).length : Int))))
       ((f_spec_TaskAt n a0.Tasks ((List.getD a0.Locks (Int.toNat a1) (Kd.dflt .lock)).Owner)).bind fun r3 =>
        cond ((decide (0 ≤ a1)) && (decide (a1 < ((a0.Locks).length : Int))))
         (let e4 := (decide ((List.getD a0.Locks (Int.toNat a1) (Kd.dflt .lock)).Owner = 0))
          cond e4
           (some (true, ()))
           (cond (decide (0 ≤ r3.1))
             (cond ((decide (0 ≤ r3.1)) && (decide (r3.1 < ((a0.Tasks).length : Int))))
               (cond ((decide (0 ≤ r1.1)) && (decide (r1.1 < ((a0.Tasks).length : Int))))
                 (let e5 := (decide ((List.getD a0.Tasks (Int.toNat r3.1) (Kd.dflt .task)).Cpu = (List.getD a0.Tasks (Int.toNat r1.1) (Kd.dflt .task)).Cpu))
                  some (e5, ()))
                 (none))
               (none))
             (some (false, ()))))
         (none))
       (none)))
def r_spec_SameCpu (n : Nat) : Rw := ⟨31, (.pair (.v (.agg (.pair .int (.pair .int (.pair (.ro .task) (.pair (.ro .lock) (.pair (.ro .ghost) (.pair (.ro .int) (.pair .int (.pair .int (.pair (.ro .turn) .one))))))))))) (.pair (.v (.int)) (.pair (.v (.int)) .one))), (.pair .bool .one), fun x => f_spec_SameCpu n (⟨x.1.1, x.1.2.1, x.1.2.2.1.2, x.1.2.2.2.1.2, x.1.2.2.2.2.1.2, x.1.2.2.2.2.2.1.2, x.1.2.2.2.2.2.2.1, x.1.2.2.2.2.2.2.2.1, x.1.2.2.2.2.2.2.2.2.1.2⟩ : Sys) x.2.1 x.2.2.1⟩
theorem r_spec_SameCpu_ok (n : Nat) : RwOk Go.Proofs.Try.prog tyK (r_spec_SameCpu n) :=
  ent_ok (fa := a_spec_SameCpu) (ls := []) (cs := []) (n := n) (es := [(r_spec_TaskAt n), r_spec_l1In]) mixedOk tbOk (ents_cons (r_spec_TaskAt_ok n) (ents_cons (r_spec_l1In_ok) ents_nil)) Go.Proofs.Try.func31 (by kernel_rfl) (by kernel_rfl) (by kernel_rfl) (LSsOk.nil _ _) (fun x => by kernel_rfl)
/-! loop.example/g00185/impl.TaskAt$1 -/
noncomputable def a_impl_TaskAt_1 : FnA := ⟨Go.Proofs.Try.f118, ⟨[(0, [(0, .slot 0 .int)])], [], []⟩, 1⟩
def f_impl_TaskAt_1 (a0 : Task) (a1_0 : Int) : Option (Bool × Unit) :=
  some ((decide (a0.No = a1_0)), ())
def r_impl_TaskAt_1 : Rw := ⟨118, (.pair (.v (.agg (.pair .int (.pair .int (.pair .int (.pair .int (.pair .bool (.pair .int (.pair .int (.pair .int (.pair .int (.pair .int (.pair .int (.pair .int (.pair .int (.pair .int .one)))))))))))))))) (.pair (.v (.rp (.pair .int .one) 0)) .one)), (.pair .bool .one), fun x => f_impl_TaskAt_1 (⟨x.1.1, x.1.2.1, x.1.2.2.1, x.1.2.2.2.1, x.1.2.2.2.2.1, x.1.2.2.2.2.2.1, x.1.2.2.2.2.2.2.1, x.1.2.2.2.2.2.2.2.1, x.1.2.2.2.2.2.2.2.2.1, x.1.2.2.2.2.2.2.2.2.2.1, x.1.2.2.2.2.2.2.2.2.2.2.1, x.1.2.2.2.2.2.2.2.2.2.2.2.1, x.1.2.2.2.2.2.2.2.2.2.2.2.2.1, x.1.2.2.2.2.2.2.2.2.2.2.2.2.2.1⟩ : Task) x.2.1.1⟩
theorem r_impl_TaskAt_1_ok : RwOk Go.Proofs.Try.prog tyK (r_impl_TaskAt_1) :=
  ent_ok (fa := a_impl_TaskAt_1) (ls := []) (cs := []) (n := 0) (es := []) mixedOk tbOk ents_nil Go.Proofs.Try.func118 (by kernel_rfl) (by kernel_rfl) (by kernel_rfl) (LSsOk.nil _ _) (fun x => by kernel_rfl)
/-! slices.IndexFunc[[]loop.example/g00185/impl.Task,loop.example/g00185/impl.Task] -/
noncomputable def a_slices_IndexFunc_Task_TaskAt_1 : FnA := ⟨Go.Proofs.Try.f117, ⟨[(4, [(5, .call [.ro] .bool [] [])])], [], []⟩, 0⟩
def l_slices_IndexFunc_Task_TaskAt_1_0 {α : Type} (n : Nat) : Nat → List Task → Int → Int → Int → (Int → Option α) → (Option α) → Option α
  | 0, _, _, _, _, _, _ => none
  | m0 + 1, v1, v2, v3, v4, k0_0, k0_1 =>
    cond (decide (v4 < v3))
     (cond ((decide (0 ≤ v4)) && (decide (v4 < ((v1).length : Int))))
       ((f_impl_TaskAt_1 (List.getD v1 (Int.toNat v4) (Kd.dflt .task)) v2).bind fun r5 =>
        cond r5.1
         (k0_0 v4)
         (l_slices_IndexFunc_Task_TaskAt_1_0 n m0 v1 v2 v3 (w64 (v4 + 1)) k0_0 k0_1))
       (none))
     (k0_1)
def f_slices_IndexFunc_Task_TaskAt_1 (n : Nat) (a0 : List Task) (a1_0_0 : Int) : Option (Int × Unit) :=
  l_slices_IndexFunc_Task_TaskAt_1_0 n n a0 a1_0_0 ((a0).length : Int) 0
   (fun w6 =>
    some (w6, ()))
   (some ((-1), ()))
def r_slices_IndexFunc_Task_TaskAt_1 (n : Nat) : Rw := ⟨117, (.pair (.v (.ro .task)) (.pair (.v (.clo 118 (.pair (.rp (.pair .int .one) 0) .one))) .one)), (.pair .int .one), fun x => f_slices_IndexFunc_Task_TaskAt_1 n x.1.2 x.2.1.1.1⟩
def s_slices_IndexFunc_Task_TaskAt_1_0 (n : Nat) : LS where
  la := ⟨2, [0, 1, 7, 8], [], [], [4], []⟩
  nt := 19
  kt := [0, 1, 7, 8]
  hs := []
  X := Bool × List Task × Int × Int × Int
  abs := fun vs es => match vs, es with | [.ro y0 .task y1, .clo 118 [.rp [.int y2] 0], .int y3, .int y4], [] => some (y0, y1, y2, y3, y4) | _, _ => none
  tms := fun x => [.ro x.1 .task x.2.1, .clo 118 [.rp [.int x.2.2.1] 0], .int x.2.2.2.1, .int x.2.2.2.2]
  ets := fun x => []
  run := fun m x k => l_slices_IndexFunc_Task_TaskAt_1_0 n m x.2.1 x.2.2.1 x.2.2.2.1 x.2.2.2.2 (fun w0 => k .ret ⟨layT [4] [.int w0] 0 19, layH [] []⟩) (k (.exit 0) ⟨layT [] [] 0 19, layH [] []⟩)
noncomputable def c_slices_IndexFunc_Task_TaskAt_1_0 : Code := (Go.Proofs.Try.f117.body.bind (subLoop 2)).getD .skip
theorem s_slices_IndexFunc_Task_TaskAt_1_0_ok (n : Nat) : LSok Tb tyK (orc [r_impl_TaskAt_1]) n a_slices_IndexFunc_Task_TaskAt_1.ann [s_slices_IndexFunc_Task_TaskAt_1_0 n] c_slices_IndexFunc_Task_TaskAt_1_0 (s_slices_IndexFunc_Task_TaskAt_1_0 n) :=
  ⟨by intro vs es x h; dsimp only [s_slices_IndexFunc_Task_TaskAt_1_0] at h; split at h; (· injection h with h; subst h; exact ⟨rfl, rfl⟩); (· cases h), fun _ _ => rfl, fun m x k => by kernel_rfl⟩
theorem r_slices_IndexFunc_Task_TaskAt_1_ok (n : Nat) : RwOk Go.Proofs.Try.prog tyK (r_slices_IndexFunc_Task_TaskAt_1 n) :=
  ent_ok (fa := a_slices_IndexFunc_Task_TaskAt_1) (ls := [s_slices_IndexFunc_Task_TaskAt_1_0 n]) (cs := [c_slices_IndexFunc_Task_TaskAt_1_0]) (n := n) (es := [r_impl_TaskAt_1]) mixedOk tbOk (ents_cons (r_impl_TaskAt_1_ok) ents_nil) Go.Proofs.Try.func117 (by kernel_rfl) (by kernel_rfl) (by kernel_rfl) (LSsOk.cons _ _ (l := s_slices_IndexFunc_Task_TaskAt_1_0 n) (by kernel_rfl) (s_slices_IndexFunc_Task_TaskAt_1_0_ok n) (LSsOk.nil _ _)) (fun x => by kernel_rfl)
/-! loop.example/g00185/impl.TaskAt -/
noncomputable def a_impl_TaskAt : FnA := ⟨Go.Proofs.Try.f72, ⟨[(0, [(0, .slot 0 .int)]), (1, [(2, .call [.ro, .ro] .int [] [])])], [], []⟩, 1⟩
def f_impl_TaskAt (n : Nat) (a0 : List Task) (a1 : Int) : Option (Int × Unit) :=
  (f_slices_IndexFunc_Task_TaskAt_1 n a0 a1).bind fun r1 =>
  some (r1.1, ())
def r_impl_TaskAt (n : Nat) : Rw := ⟨72, (.pair (.v (.ro .task)) (.pair (.v (.int)) .one)), (.pair .int .one), fun x => f_impl_TaskAt n x.1.2 x.2.1⟩
theorem r_impl_TaskAt_ok (n : Nat) : RwOk Go.Proofs.Try.prog tyK (r_impl_TaskAt n) :=
  ent_ok (fa := a_impl_TaskAt) (ls := []) (cs := []) (n := n) (es := [(r_slices_IndexFunc_Task_TaskAt_1 n)]) mixedOk tbOk (ents_cons (r_slices_IndexFunc_Task_TaskAt_1_ok n) ents_nil) Go.Proofs.Try.func72 (by kernel_rfl) (by kernel_rfl) (by kernel_rfl) (LSsOk.nil _ _) (fun x => by kernel_rfl)
/-! loop.example/g00185/impl.SameCpu -/
noncomputable def a_impl_SameCpu : FnA := ⟨Go.Proofs.Try.f32, ⟨[(0, [(0, .slot 0 .int)]), (1, [(3, .call [.ro, .ro] .int [] [])]), (2, [(5, .call [.ro, .ro, .ro] .bool [] [])]), (7, [(3, .call [.ro, .ro] .int [] [])])], [(8, [([], []), ([], []), ([], []), ([0], []), ([0], []), ([], []), ([], []), ([], []), ([], []), ([0], []), ([0], []), ([], []), ([], []), ([], []), ([], []), ([], []), ([], []), ([], [])])], []⟩, 1⟩
def f_impl_SameCpu (n : Nat) (a0 : Sys) (a1 : Int) (a2 : Int) : Option (Bool × Unit) :=
  (f_impl_TaskAt n a0.Tasks a2).bind fun r1 =>
  (f_impl_in a1 0 (w64 (((a0.Locks).length : Int) - 1))).bind fun r2 =>
  cond (!r2.1)
   (some (false, ()))
   (cond (decide (r1.1 < 0))
     (some (false, ()))
     (cond ((decide (0 ≤ a1)) && (decide (a1 < ((a0.Locks).length : Int))))
       (let e3 := (decide ((List.getD a0.Locks (Int.toNat a1) (Kd.dflt .lock)).Owner = 0))
        cond e3
         (some (true, ()))
         ((f_impl_TaskAt n a0.Tasks ((List.getD a0.Locks (Int.toNat a1) (Kd.dflt .lock)).Owner)).bind fun r4 =>
          cond (decide (0 ≤ r4.1))
           (cond ((decide (0 ≤ r4.1)) && (decide (r4.1 < ((a0.Tasks).length : Int))))
             (cond ((decide (0 ≤ r1.1)) && (decide (r1.1 < ((a0.Tasks).length : Int))))
               (let e5 := (decide ((List.getD a0.Tasks (Int.toNat r4.1) (Kd.dflt .task)).Cpu = (List.getD a0.Tasks (Int.toNat r1.1) (Kd.dflt .task)).Cpu))
                some (e5, ()))
               (none))
             (none))
           (some (false, ()))))
       (none)))
def r_impl_SameCpu (n : Nat) : Rw := ⟨32, (.pair (.v (.agg (.pair .int (.pair .int (.pair (.ro .task) (.pair (.ro .lock) (.pair (.ro .ghost) (.pair (.ro .int) (.pair .int (.pair .int (.pair (.ro .turn) .one))))))))))) (.pair (.v (.int)) (.pair (.v (.int)) .one))), (.pair .bool .one), fun x => f_impl_SameCpu n (⟨x.1.1, x.1.2.1, x.1.2.2.1.2, x.1.2.2.2.1.2, x.1.2.2.2.2.1.2, x.1.2.2.2.2.2.1.2, x.1.2.2.2.2.2.2.1, x.1.2.2.2.2.2.2.2.1, x.1.2.2.2.2.2.2.2.2.1.2⟩ : Sys) x.2.1 x.2.2.1⟩
theorem r_impl_SameCpu_ok (n : Nat) : RwOk Go.Proofs.Try.prog tyK (r_impl_SameCpu n) :=
  ent_ok (fa := a_impl_SameCpu) (ls := []) (cs := []) (n := n) (es := [(r_impl_TaskAt n), r_impl_in]) mixedOk tbOk (ents_cons (r_impl_TaskAt_ok n) (ents_cons (r_impl_in_ok) ents_nil)) Go.Proofs.Try.func32 (by kernel_rfl) (by kernel_rfl) (by kernel_rfl) (LSsOk.nil _ _) (fun x => by kernel_rfl)
/-! loop.example/g00185/laws.FnExactSameCpu -/
noncomputable def a_laws_FnExactSameCpu : FnA := ⟨Go.Proofs.Try.f8, ⟨[(0, [(0, .slot 0 .int)]), (2, [(2, .call [.ro, .ro] .int [] [])]), (5, [(1, .call [.ro] (.agg (.pair .int (.pair .int (.pair (.ro .task) (.pair (.ro .lock) (.pair (.ro .ghost) (.pair (.ro .int) (.pair .int (.pair .int (.pair (.ro .turn) .one)))))))))) [] []), (4, .call [.ro, .ro, .ro] .bool [] [])]), (6, [(1, .call [.ro] (.agg (.pair .int (.pair .int (.pair (.ro .task) (.pair (.ro .lock) (.pair (.ro .ghost) (.pair (.ro .int) (.pair .int (.pair .int (.pair (.ro .turn) .one)))))))))) [] []), (2, .slot 1 .int)]), (7, [(3, .call [.ro, .ro, .ro] .bool [] [])]), (10, [(2, .call [.ro] (.agg (.pair .int (.pair .int (.pair (.ro .task) (.pair (.ro .lock) (.pair (.ro .ghost) (.pair (.ro .int) (.pair .int (.pair .int (.pair (.ro .turn) .one)))))))))) [] []), (3, .call [.ro, .ro] .bool [] [])])], [(10, [([1], []), ([0], []), ([], []), ([], []), ([], [])])], []⟩, 2⟩
def f_laws_FnExactSameCpu (n : Nat) (a0 : Sys) (a1 : Int) (a2 : Int) : Option (Bool × Unit) :=
  (f_laws_szSys n a0 1048576).bind fun r1 =>
  cond (decide (r1.1 < 0))
   (some (true, ()))
   ((f_laws_toSys n a0).bind fun r2 =>
    (f_spec_SameCpu n (dnSys r2.1) a1 a2).bind fun r3 =>
    (f_laws_toSys n a0).bind fun r4 =>
    (f_impl_SameCpu n (dnSys r4.1) a1 a2).bind fun r5 =>
    cond (!(r5.1 == r3.1))
     (some (false, ()))
     ((f_laws_toSys n a0).bind fun r6 =>
      (f_laws_eqSys n (dnSys r4.1) (dnSys r6.1)).bind fun r7 =>
      cond (!r7.1)
       (some (false, ()))
       (some (true, ()))))
def r_laws_FnExactSameCpu (n : Nat) : Rw := ⟨8, (.pair (.v (.agg (.pair .int (.pair .int (.pair (.ro .task) (.pair (.ro .lock) (.pair (.ro .ghost) (.pair (.ro .int) (.pair .int (.pair .int (.pair (.ro .turn) .one))))))))))) (.pair (.v (.int)) (.pair (.v (.int)) .one))), (.pair .bool .one), fun x => f_laws_FnExactSameCpu n (⟨x.1.1, x.1.2.1, x.1.2.2.1.2, x.1.2.2.2.1.2, x.1.2.2.2.2.1.2, x.1.2.2.2.2.2.1.2, x.1.2.2.2.2.2.2.1, x.1.2.2.2.2.2.2.2.1, x.1.2.2.2.2.2.2.2.2.1.2⟩ : Sys) x.2.1 x.2.2.1⟩
theorem r_laws_FnExactSameCpu_ok (n : Nat) : RwOk Go.Proofs.Try.prog tyK (r_laws_FnExactSameCpu n) :=
  ent_ok (fa := a_laws_FnExactSameCpu) (ls := []) (cs := []) (n := n) (es := [(r_laws_szSys n), (r_laws_toSys n), (r_spec_SameCpu n), (r_impl_SameCpu n), (r_laws_eqSys n)]) mixedOk tbOk (ents_cons (r_laws_szSys_ok n) (ents_cons (r_laws_toSys_ok n) (ents_cons (r_spec_SameCpu_ok n) (ents_cons (r_impl_SameCpu_ok n) (ents_cons (r_laws_eqSys_ok n) ents_nil))))) Go.Proofs.Try.func8 (by kernel_rfl) (by kernel_rfl) (by kernel_rfl) (LSsOk.nil _ _) (fun x => by kernel_rfl)
/-! loop.example/g00185/spec.SysNew -/
noncomputable def a_spec_SysNew : FnA := ⟨Go.Proofs.Try.f33, ⟨[(0, [(0, .slot 0 .int)]), (1, [(1, .call [.ro, .ro, .ro] .bool [] [])]), (3, [(1, .slot 1 .lock), (3, .slot 2 .int)])], [(3, [([], []), ([1], [1]), ([], []), ([2], [2]), ([1, 2], []), ([0, 1, 2], [0]), ([], [])])], []⟩, 3⟩
def f_spec_SysNew (a0 : Int) : Option ((SysT × Bool × Unit) × Unit) :=
  (f_spec_l1In a0 1 4).bind fun r1 =>
  cond (!r1.1)
   (some (((upSys (⟨0, 0, [], [], [], [], 0, 0, []⟩ : Sys)), false, ()), ()))
   (cond (((decide (a0 = a0)) && (decide (0 ≤ a0))) && (decide (a0 ≤ (lim : Int))))
     (some (((upSys (⟨0, a0, [], (List.replicate (Int.toNat 5) (Kd.dflt .lock)), [], (List.replicate (Int.toNat a0) (Kd.dflt .int)), 0, 0, []⟩ : Sys)), true, ()), ()))
     (none))
def r_spec_SysNew : Rw := ⟨33, (.pair (.v (.int)) .one), (.pair (.tup (.pair (.agg (.pair .int (.pair .int (.pair (.own .task) (.pair (.own .lock) (.pair (.own .ghost) (.pair (.own .int) (.pair .int (.pair .int (.pair (.own .turn) .one)))))))))) (.pair .bool .one))) .one), fun x => f_spec_SysNew x.1⟩
theorem r_spec_SysNew_ok : RwOk Go.Proofs.Try.prog tyK (r_spec_SysNew) :=
  ent_ok (fa := a_spec_SysNew) (ls := []) (cs := []) (n := 0) (es := [r_spec_l1In]) mixedOk tbOk (ents_cons (r_spec_l1In_ok) ents_nil) Go.Proofs.Try.func33 (by kernel_rfl) (by kernel_rfl) (by kernel_rfl) (LSsOk.nil _ _) (fun x => by kernel_rfl)
/-! loop.example/g00185/impl.SysNew -/
noncomputable def a_impl_SysNew : FnA := ⟨Go.Proofs.Try.f34, ⟨[(0, [(0, .slot 0 .int)]), (1, [(1, .call [.ro, .ro, .ro] .bool [] [])]), (3, [(1, .slot 1 .lock), (3, .slot 2 .int)])], [(3, [([], []), ([1], [1]), ([], []), ([2], [2]), ([1, 2], []), ([0, 1, 2], [0]), ([], [])])], []⟩, 3⟩
def f_impl_SysNew (a0 : Int) : Option ((SysT × Bool × Unit) × Unit) :=
  (f_impl_in a0 1 4).bind fun r1 =>
  cond (!r1.1)
   (some (((upSys (⟨0, 0, [], [], [], [], 0, 0, []⟩ : Sys)), false, ()), ()))
   (cond (((decide (a0 = a0)) && (decide (0 ≤ a0))) && (decide (a0 ≤ (lim : Int))))
     (some (((upSys (⟨0, a0, [], (List.replicate (Int.toNat 5) (Kd.dflt .lock)), [], (List.replicate (Int.toNat a0) (Kd.dflt .int)), 0, 0, []⟩ : Sys)), true, ()), ()))
     (none))
def r_impl_SysNew : Rw := ⟨34, (.pair (.v (.int)) .one), (.pair (.tup (.pair (.agg (.pair .int (.pair .int (.pair (.own .task) (.pair (.own .lock) (.pair (.own .ghost) (.pair (.own .int) (.pair .int (.pair .int (.pair (.own .turn) .one)))))))))) (.pair .bool .one))) .one), fun x => f_impl_SysNew x.1⟩
theorem r_impl_SysNew_ok : RwOk Go.Proofs.Try.prog tyK (r_impl_SysNew) :=
  ent_ok (fa := a_impl_SysNew) (ls := []) (cs := []) (n := 0) (es := [r_impl_in]) mixedOk tbOk (ents_cons (r_impl_in_ok) ents_nil) Go.Proofs.Try.func34 (by kernel_rfl) (by kernel_rfl) (by kernel_rfl) (LSsOk.nil _ _) (fun x => by kernel_rfl)
end Go.Proofs.Ytoedeimpfbebpaa.VR
