/- Functions, printed by program (wip/gen/emit.py). -/
import Derived.Test.YtjgkeaiibdodfaaG05
set_option linter.unusedVariables false
set_option maxRecDepth 100000
namespace Go.Proofs.Ytjgkeaiibdodfaa.VR
open Go
/-! loop.example/g00185/laws.eqTaskS -/
noncomputable def a_laws_eqTaskS : FnA := ⟨Go.Proofs.Try.f51, ⟨[(6, [(8, .call [.ro, .ro] .bool [] [])])], [(6, [([], []), ([], []), ([], []), ([], []), ([], []), ([], []), ([], []), ([], []), ([], []), ([], [])])], []⟩, 0⟩
def l_laws_eqTaskS_0 {α : Type} (n : Nat) : Nat → List Task → List Task → Int → (Option α) → (Option α) → Option α
  | 0, _, _, _, _, _ => none
  | m0 + 1, v1, v2, v3, k0_0, k0_1 =>
    cond (decide (v3 < ((v1).length : Int)))
     (cond ((decide (0 ≤ v3)) && (decide (v3 < ((v1).length : Int))))
       (cond ((decide (0 ≤ v3)) && (decide (v3 < ((v2).length : Int))))
         ((f_laws_eqTask (List.getD v1 (Int.toNat v3) (Kd.dflt .task)) (List.getD v2 (Int.toNat v3) (Kd.dflt .task))).bind fun r4 =>
          cond (!r4.1)
           (k0_0)
           (l_laws_eqTaskS_0 n m0 v1 v2 (w64 (v3 + 1)) k0_0 k0_1))
         (none))
       (none))
     (k0_1)
def f_laws_eqTaskS (n : Nat) (a0 : List Task) (a1 : List Task) : Option (Bool × Unit) :=
  cond (!(decide (((a0).length : Int) = ((a1).length : Int))))
   (some (false, ()))
   (l_laws_eqTaskS_0 n n a0 a1 0
     (some (false, ()))
     (some (true, ())))
def r_laws_eqTaskS (n : Nat) : Rw := ⟨51, (.pair (.v (.ro .task)) (.pair (.v (.ro .task)) .one)), (.pair .bool .one), fun x => f_laws_eqTaskS n x.1.2 x.2.1.2⟩
def s_laws_eqTaskS_0 (n : Nat) : LS where
  la := ⟨4, [0, 1, 5], [], [], [4], []⟩
  nt := 27
  kt := [0, 1, 5]
  hs := []
  X := Bool × List Task × Bool × List Task × Int
  abs := fun vs es => match vs, es with | [.ro y0 .task y1, .ro y2 .task y3, .int y4], [] => some (y0, y1, y2, y3, y4) | _, _ => none
  tms := fun x => [.ro x.1 .task x.2.1, .ro x.2.2.1 .task x.2.2.2.1, .int x.2.2.2.2]
  ets := fun x => []
  run := fun m x k => l_laws_eqTaskS_0 n m x.2.1 x.2.2.2.1 x.2.2.2.2 (k .ret ⟨layT [4] [.bool false] 0 27, layH [] []⟩) (k (.exit 0) ⟨layT [] [] 0 27, layH [] []⟩)
noncomputable def c_laws_eqTaskS_0 : Code := (Go.Proofs.Try.f51.body.bind (subLoop 4)).getD .skip
theorem s_laws_eqTaskS_0_ok (n : Nat) : LSok Tb tyK (orc [r_laws_eqTask]) n a_laws_eqTaskS.ann [s_laws_eqTaskS_0 n] c_laws_eqTaskS_0 (s_laws_eqTaskS_0 n) :=
  ⟨by intro vs es x h; dsimp only [s_laws_eqTaskS_0] at h; split at h; (· injection h with h; subst h; exact ⟨rfl, rfl⟩); (· cases h), fun _ _ => rfl, fun m x k => by kernel_rfl⟩
theorem r_laws_eqTaskS_ok (n : Nat) : RwOk Go.Proofs.Try.prog tyK (r_laws_eqTaskS n) :=
  ent_ok (fa := a_laws_eqTaskS) (ls := [s_laws_eqTaskS_0 n]) (cs := [c_laws_eqTaskS_0]) (n := n) (es := [r_laws_eqTask]) mixedOk tbOk (ents_cons (r_laws_eqTask_ok) ents_nil) Go.Proofs.Try.func51 (by kernel_rfl) (by kernel_rfl) (by kernel_rfl) (LSsOk.cons _ _ (l := s_laws_eqTaskS_0 n) (by kernel_rfl) (s_laws_eqTaskS_0_ok n) (LSsOk.nil _ _)) (fun x => by kernel_rfl)
/-! loop.example/g00185/laws.eqIntS -/
noncomputable def a_laws_eqIntS : FnA := ⟨Go.Proofs.Try.f54, ⟨[], [(6, [([], []), ([], []), ([], []), ([], []), ([], []), ([], []), ([], []), ([], []), ([], [])])], []⟩, 0⟩
def l_laws_eqIntS_0 {α : Type} (n : Nat) : Nat → List Int → List Int → Int → (Option α) → (Option α) → Option α
  | 0, _, _, _, _, _ => none
  | m0 + 1, v1, v2, v3, k0_0, k0_1 =>
    cond (decide (v3 < ((v1).length : Int)))
     (cond ((decide (0 ≤ v3)) && (decide (v3 < ((v1).length : Int))))
       (cond ((decide (0 ≤ v3)) && (decide (v3 < ((v2).length : Int))))
         (let e4 := (!(decide ((List.getD v1 (Int.toNat v3) (Kd.dflt .int)) = (List.getD v2 (Int.toNat v3) (Kd.dflt .int)))))
          cond e4
           (k0_0)
           (l_laws_eqIntS_0 n m0 v1 v2 (w64 (v3 + 1)) k0_0 k0_1))
         (none))
       (none))
     (k0_1)
def f_laws_eqIntS (n : Nat) (a0 : List Int) (a1 : List Int) : Option (Bool × Unit) :=
  cond (!(decide (((a0).length : Int) = ((a1).length : Int))))
   (some (false, ()))
   (l_laws_eqIntS_0 n n a0 a1 0
     (some (false, ()))
     (some (true, ())))
def r_laws_eqIntS (n : Nat) : Rw := ⟨54, (.pair (.v (.ro .int)) (.pair (.v (.ro .int)) .one)), (.pair .bool .one), fun x => f_laws_eqIntS n x.1.2 x.2.1.2⟩
def s_laws_eqIntS_0 (n : Nat) : LS where
  la := ⟨4, [0, 1, 5], [], [], [4], []⟩
  nt := 26
  kt := [0, 1, 5]
  hs := []
  X := Bool × List Int × Bool × List Int × Int
  abs := fun vs es => match vs, es with | [.ro y0 .int y1, .ro y2 .int y3, .int y4], [] => some (y0, y1, y2, y3, y4) | _, _ => none
  tms := fun x => [.ro x.1 .int x.2.1, .ro x.2.2.1 .int x.2.2.2.1, .int x.2.2.2.2]
  ets := fun x => []
  run := fun m x k => l_laws_eqIntS_0 n m x.2.1 x.2.2.2.1 x.2.2.2.2 (k .ret ⟨layT [4] [.bool false] 0 26, layH [] []⟩) (k (.exit 0) ⟨layT [] [] 0 26, layH [] []⟩)
noncomputable def c_laws_eqIntS_0 : Code := (Go.Proofs.Try.f54.body.bind (subLoop 4)).getD .skip
theorem s_laws_eqIntS_0_ok (n : Nat) : LSok Tb tyK (orc []) n a_laws_eqIntS.ann [s_laws_eqIntS_0 n] c_laws_eqIntS_0 (s_laws_eqIntS_0 n) :=
  ⟨by intro vs es x h; dsimp only [s_laws_eqIntS_0] at h; split at h; (· injection h with h; subst h; exact ⟨rfl, rfl⟩); (· cases h), fun _ _ => rfl, fun m x k => by kernel_rfl⟩
theorem r_laws_eqIntS_ok (n : Nat) : RwOk Go.Proofs.Try.prog tyK (r_laws_eqIntS n) :=
  ent_ok (fa := a_laws_eqIntS) (ls := [s_laws_eqIntS_0 n]) (cs := [c_laws_eqIntS_0]) (n := n) (es := []) mixedOk tbOk ents_nil Go.Proofs.Try.func54 (by kernel_rfl) (by kernel_rfl) (by kernel_rfl) (LSsOk.cons _ _ (l := s_laws_eqIntS_0 n) (by kernel_rfl) (s_laws_eqIntS_0_ok n) (LSsOk.nil _ _)) (fun x => by kernel_rfl)
/-! loop.example/g00185/laws.eqLock -/
noncomputable def a_laws_eqLock : FnA := ⟨Go.Proofs.Try.f115, ⟨[(0, [(0, .slot 0 .int), (1, .slot 1 .int)]), (3, [(4, .call [.ro, .ro] .bool [] [])])], [], []⟩, 2⟩
def f_laws_eqLock (n : Nat) (a0 : Lock) (a1 : Lock) : Option (Bool × Unit) :=
  cond (!(decide (a0.Owner = a1.Owner)))
   (some (false, ()))
   ((f_laws_eqIntS n a0.Waits a1.Waits).bind fun r1 =>
    cond (!r1.1)
     (some (false, ()))
     (some (true, ())))
def r_laws_eqLock (n : Nat) : Rw := ⟨115, (.pair (.v (.agg (.pair .int (.pair (.ro .int) .one)))) (.pair (.v (.agg (.pair .int (.pair (.ro .int) .one)))) .one)), (.pair .bool .one), fun x => f_laws_eqLock n (⟨x.1.1, x.1.2.1.2⟩ : Lock) (⟨x.2.1.1, x.2.1.2.1.2⟩ : Lock)⟩
theorem r_laws_eqLock_ok (n : Nat) : RwOk Go.Proofs.Try.prog tyK (r_laws_eqLock n) :=
  ent_ok (fa := a_laws_eqLock) (ls := []) (cs := []) (n := n) (es := [(r_laws_eqIntS n)]) mixedOk tbOk (ents_cons (r_laws_eqIntS_ok n) ents_nil) Go.Proofs.Try.func115 (by kernel_rfl) (by kernel_rfl) (by kernel_rfl) (LSsOk.nil _ _) (fun x => by kernel_rfl)
/-! loop.example/g00185/laws.eqLockS -/
noncomputable def a_laws_eqLockS : FnA := ⟨Go.Proofs.Try.f52, ⟨[(6, [(8, .call [.ro, .ro] .bool [] [])])], [(6, [([], []), ([], []), ([], []), ([], []), ([], []), ([], []), ([], []), ([], []), ([], []), ([], [])])], []⟩, 0⟩
def l_laws_eqLockS_0 {α : Type} (n : Nat) : Nat → List Lock → List Lock → Int → (Option α) → (Option α) → Option α
  | 0, _, _, _, _, _ => none
  | m0 + 1, v1, v2, v3, k0_0, k0_1 =>
    cond (decide (v3 < ((v1).length : Int)))
     (cond ((decide (0 ≤ v3)) && (decide (v3 < ((v1).length : Int))))
       (cond ((decide (0 ≤ v3)) && (decide (v3 < ((v2).length : Int))))
         ((f_laws_eqLock n (List.getD v1 (Int.toNat v3) (Kd.dflt .lock)) (List.getD v2 (Int.toNat v3) (Kd.dflt .lock))).bind fun r4 =>
          cond (!r4.1)
           (k0_0)
           (l_laws_eqLockS_0 n m0 v1 v2 (w64 (v3 + 1)) k0_0 k0_1))
         (none))
       (none))
     (k0_1)
def f_laws_eqLockS (n : Nat) (a0 : List Lock) (a1 : List Lock) : Option (Bool × Unit) :=
  cond (!(decide (((a0).length : Int) = ((a1).length : Int))))
   (some (false, ()))
   (l_laws_eqLockS_0 n n a0 a1 0
     (some (false, ()))
     (some (true, ())))
def r_laws_eqLockS (n : Nat) : Rw := ⟨52, (.pair (.v (.ro .lock)) (.pair (.v (.ro .lock)) .one)), (.pair .bool .one), fun x => f_laws_eqLockS n x.1.2 x.2.1.2⟩
def s_laws_eqLockS_0 (n : Nat) : LS where
  la := ⟨4, [0, 1, 5], [], [], [4], []⟩
  nt := 27
  kt := [0, 1, 5]
  hs := []
  X := Bool × List Lock × Bool × List Lock × Int
  abs := fun vs es => match vs, es with | [.ro y0 .lock y1, .ro y2 .lock y3, .int y4], [] => some (y0, y1, y2, y3, y4) | _, _ => none
  tms := fun x => [.ro x.1 .lock x.2.1, .ro x.2.2.1 .lock x.2.2.2.1, .int x.2.2.2.2]
  ets := fun x => []
  run := fun m x k => l_laws_eqLockS_0 n m x.2.1 x.2.2.2.1 x.2.2.2.2 (k .ret ⟨layT [4] [.bool false] 0 27, layH [] []⟩) (k (.exit 0) ⟨layT [] [] 0 27, layH [] []⟩)
noncomputable def c_laws_eqLockS_0 : Code := (Go.Proofs.Try.f52.body.bind (subLoop 4)).getD .skip
theorem s_laws_eqLockS_0_ok (n : Nat) : LSok Tb tyK (orc [(r_laws_eqLock n)]) n a_laws_eqLockS.ann [s_laws_eqLockS_0 n] c_laws_eqLockS_0 (s_laws_eqLockS_0 n) :=
  ⟨by intro vs es x h; dsimp only [s_laws_eqLockS_0] at h; split at h; (· injection h with h; subst h; exact ⟨rfl, rfl⟩); (· cases h), fun _ _ => rfl, fun m x k => by kernel_rfl⟩
theorem r_laws_eqLockS_ok (n : Nat) : RwOk Go.Proofs.Try.prog tyK (r_laws_eqLockS n) :=
  ent_ok (fa := a_laws_eqLockS) (ls := [s_laws_eqLockS_0 n]) (cs := [c_laws_eqLockS_0]) (n := n) (es := [(r_laws_eqLock n)]) mixedOk tbOk (ents_cons (r_laws_eqLock_ok n) ents_nil) Go.Proofs.Try.func52 (by kernel_rfl) (by kernel_rfl) (by kernel_rfl) (LSsOk.cons _ _ (l := s_laws_eqLockS_0 n) (by kernel_rfl) (s_laws_eqLockS_0_ok n) (LSsOk.nil _ _)) (fun x => by kernel_rfl)
/-! loop.example/g00185/laws.eqShare -/
noncomputable def a_laws_eqShare : FnA := ⟨Go.Proofs.Try.f165, ⟨[(0, [(0, .slot 0 .int), (1, .slot 1 .int)])], [], []⟩, 2⟩
def f_laws_eqShare (a0 : Share) (a1 : Share) : Option (Bool × Unit) :=
  cond (!(decide (a0.Q = a1.Q)))
   (some (false, ()))
   (cond (!(decide (a0.P = a1.P)))
     (some (false, ()))
     (some (true, ())))
def r_laws_eqShare : Rw := ⟨165, (.pair (.v (.agg (.pair .int (.pair .int .one)))) (.pair (.v (.agg (.pair .int (.pair .int .one)))) .one)), (.pair .bool .one), fun x => f_laws_eqShare (⟨x.1.1, x.1.2.1⟩ : Share) (⟨x.2.1.1, x.2.1.2.1⟩ : Share)⟩
theorem r_laws_eqShare_ok : RwOk Go.Proofs.Try.prog tyK (r_laws_eqShare) :=
  ent_ok (fa := a_laws_eqShare) (ls := []) (cs := []) (n := 0) (es := []) mixedOk tbOk ents_nil Go.Proofs.Try.func165 (by kernel_rfl) (by kernel_rfl) (by kernel_rfl) (LSsOk.nil _ _) (fun x => by kernel_rfl)
/-! loop.example/g00185/laws.eqGhost -/
noncomputable def a_laws_eqGhost : FnA := ⟨Go.Proofs.Try.f116, ⟨[(0, [(0, .slot 0 .int), (1, .slot 1 .int)]), (3, [(4, .call [.ro, .ro] .bool [] [])])], [], []⟩, 2⟩
def f_laws_eqGhost (a0 : Ghost) (a1 : Ghost) : Option (Bool × Unit) :=
  cond (!(decide (a0.Cpu = a1.Cpu)))
   (some (false, ()))
   ((f_laws_eqShare a0.S a1.S).bind fun r1 =>
    cond (!r1.1)
     (some (false, ()))
     (cond (!(decide (a0.Until = a1.Until)))
       (some (false, ()))
       (some (true, ()))))
def r_laws_eqGhost : Rw := ⟨116, (.pair (.v (.agg (.pair .int (.pair .int (.pair .int (.pair .int .one)))))) (.pair (.v (.agg (.pair .int (.pair .int (.pair .int (.pair .int .one)))))) .one)), (.pair .bool .one), fun x => f_laws_eqGhost (⟨x.1.1, ⟨x.1.2.1, x.1.2.2.1⟩, x.1.2.2.2.1⟩ : Ghost) (⟨x.2.1.1, ⟨x.2.1.2.1, x.2.1.2.2.1⟩, x.2.1.2.2.2.1⟩ : Ghost)⟩
theorem r_laws_eqGhost_ok : RwOk Go.Proofs.Try.prog tyK (r_laws_eqGhost) :=
  ent_ok (fa := a_laws_eqGhost) (ls := []) (cs := []) (n := 0) (es := [r_laws_eqShare]) mixedOk tbOk (ents_cons (r_laws_eqShare_ok) ents_nil) Go.Proofs.Try.func116 (by kernel_rfl) (by kernel_rfl) (by kernel_rfl) (LSsOk.nil _ _) (fun x => by kernel_rfl)
/-! loop.example/g00185/laws.eqGhostS -/
noncomputable def a_laws_eqGhostS : FnA := ⟨Go.Proofs.Try.f53, ⟨[(6, [(8, .call [.ro, .ro] .bool [] [])])], [(6, [([], []), ([], []), ([], []), ([], []), ([], []), ([], []), ([], []), ([], []), ([], []), ([], [])])], []⟩, 0⟩
def l_laws_eqGhostS_0 {α : Type} (n : Nat) : Nat → List Ghost → List Ghost → Int → (Option α) → (Option α) → Option α
  | 0, _, _, _, _, _ => none
  | m0 + 1, v1, v2, v3, k0_0, k0_1 =>
    cond (decide (v3 < ((v1).length : Int)))
     (cond ((decide (0 ≤ v3)) && (decide (v3 < ((v1).length : Int))))
       (cond ((decide (0 ≤ v3)) && (decide (v3 < ((v2).length : Int))))
         ((f_laws_eqGhost (List.getD v1 (Int.toNat v3) (Kd.dflt .ghost)) (List.getD v2 (Int.toNat v3) (Kd.dflt .ghost))).bind fun r4 =>
          cond (!r4.1)
           (k0_0)
           (l_laws_eqGhostS_0 n m0 v1 v2 (w64 (v3 + 1)) k0_0 k0_1))
         (none))
       (none))
     (k0_1)
def f_laws_eqGhostS (n : Nat) (a0 : List Ghost) (a1 : List Ghost) : Option (Bool × Unit) :=
  cond (!(decide (((a0).length : Int) = ((a1).length : Int))))
   (some (false, ()))
   (l_laws_eqGhostS_0 n n a0 a1 0
     (some (false, ()))
     (some (true, ())))
def r_laws_eqGhostS (n : Nat) : Rw := ⟨53, (.pair (.v (.ro .ghost)) (.pair (.v (.ro .ghost)) .one)), (.pair .bool .one), fun x => f_laws_eqGhostS n x.1.2 x.2.1.2⟩
def s_laws_eqGhostS_0 (n : Nat) : LS where
  la := ⟨4, [0, 1, 5], [], [], [4], []⟩
  nt := 27
  kt := [0, 1, 5]
  hs := []
  X := Bool × List Ghost × Bool × List Ghost × Int
  abs := fun vs es => match vs, es with | [.ro y0 .ghost y1, .ro y2 .ghost y3, .int y4], [] => some (y0, y1, y2, y3, y4) | _, _ => none
  tms := fun x => [.ro x.1 .ghost x.2.1, .ro x.2.2.1 .ghost x.2.2.2.1, .int x.2.2.2.2]
  ets := fun x => []
  run := fun m x k => l_laws_eqGhostS_0 n m x.2.1 x.2.2.2.1 x.2.2.2.2 (k .ret ⟨layT [4] [.bool false] 0 27, layH [] []⟩) (k (.exit 0) ⟨layT [] [] 0 27, layH [] []⟩)
noncomputable def c_laws_eqGhostS_0 : Code := (Go.Proofs.Try.f53.body.bind (subLoop 4)).getD .skip
theorem s_laws_eqGhostS_0_ok (n : Nat) : LSok Tb tyK (orc [r_laws_eqGhost]) n a_laws_eqGhostS.ann [s_laws_eqGhostS_0 n] c_laws_eqGhostS_0 (s_laws_eqGhostS_0 n) :=
  ⟨by intro vs es x h; dsimp only [s_laws_eqGhostS_0] at h; split at h; (· injection h with h; subst h; exact ⟨rfl, rfl⟩); (· cases h), fun _ _ => rfl, fun m x k => by kernel_rfl⟩
theorem r_laws_eqGhostS_ok (n : Nat) : RwOk Go.Proofs.Try.prog tyK (r_laws_eqGhostS n) :=
  ent_ok (fa := a_laws_eqGhostS) (ls := [s_laws_eqGhostS_0 n]) (cs := [c_laws_eqGhostS_0]) (n := n) (es := [r_laws_eqGhost]) mixedOk tbOk (ents_cons (r_laws_eqGhost_ok) ents_nil) Go.Proofs.Try.func53 (by kernel_rfl) (by kernel_rfl) (by kernel_rfl) (LSsOk.cons _ _ (l := s_laws_eqGhostS_0 n) (by kernel_rfl) (s_laws_eqGhostS_0_ok n) (LSsOk.nil _ _)) (fun x => by kernel_rfl)
/-! loop.example/g00185/laws.eqTurn -/
noncomputable def a_laws_eqTurn : FnA := ⟨Go.Proofs.Try.f117, ⟨[(0, [(0, .slot 0 .int), (1, .slot 1 .int)])], [], []⟩, 2⟩
def f_laws_eqTurn (a0 : Turn) (a1 : Turn) : Option (Bool × Unit) :=
  cond (!(decide (a0.Cpu = a1.Cpu)))
   (some (false, ()))
   (cond (!(decide (a0.Context = a1.Context)))
     (some (false, ()))
     (cond (!(decide (a0.Executor = a1.Executor)))
       (some (false, ()))
       (some (true, ()))))
def r_laws_eqTurn : Rw := ⟨117, (.pair (.v (.agg (.pair .int (.pair .int (.pair .int .one))))) (.pair (.v (.agg (.pair .int (.pair .int (.pair .int .one))))) .one)), (.pair .bool .one), fun x => f_laws_eqTurn (⟨x.1.1, x.1.2.1, x.1.2.2.1⟩ : Turn) (⟨x.2.1.1, x.2.1.2.1, x.2.1.2.2.1⟩ : Turn)⟩
theorem r_laws_eqTurn_ok : RwOk Go.Proofs.Try.prog tyK (r_laws_eqTurn) :=
  ent_ok (fa := a_laws_eqTurn) (ls := []) (cs := []) (n := 0) (es := []) mixedOk tbOk ents_nil Go.Proofs.Try.func117 (by kernel_rfl) (by kernel_rfl) (by kernel_rfl) (LSsOk.nil _ _) (fun x => by kernel_rfl)
/-! loop.example/g00185/laws.eqTurnS -/
noncomputable def a_laws_eqTurnS : FnA := ⟨Go.Proofs.Try.f55, ⟨[(6, [(8, .call [.ro, .ro] .bool [] [])])], [(6, [([], []), ([], []), ([], []), ([], []), ([], []), ([], []), ([], []), ([], []), ([], []), ([], [])])], []⟩, 0⟩
def l_laws_eqTurnS_0 {α : Type} (n : Nat) : Nat → List Turn → List Turn → Int → (Option α) → (Option α) → Option α
  | 0, _, _, _, _, _ => none
  | m0 + 1, v1, v2, v3, k0_0, k0_1 =>
    cond (decide (v3 < ((v1).length : Int)))
     (cond ((decide (0 ≤ v3)) && (decide (v3 < ((v1).length : Int))))
       (cond ((decide (0 ≤ v3)) && (decide (v3 < ((v2).length : Int))))
         ((f_laws_eqTurn (List.getD v1 (Int.toNat v3) (Kd.dflt .turn)) (List.getD v2 (Int.toNat v3) (Kd.dflt .turn))).bind fun r4 =>
          cond (!r4.1)
           (k0_0)
           (l_laws_eqTurnS_0 n m0 v1 v2 (w64 (v3 + 1)) k0_0 k0_1))
         (none))
       (none))
     (k0_1)
def f_laws_eqTurnS (n : Nat) (a0 : List Turn) (a1 : List Turn) : Option (Bool × Unit) :=
  cond (!(decide (((a0).length : Int) = ((a1).length : Int))))
   (some (false, ()))
   (l_laws_eqTurnS_0 n n a0 a1 0
     (some (false, ()))
     (some (true, ())))
def r_laws_eqTurnS (n : Nat) : Rw := ⟨55, (.pair (.v (.ro .turn)) (.pair (.v (.ro .turn)) .one)), (.pair .bool .one), fun x => f_laws_eqTurnS n x.1.2 x.2.1.2⟩
def s_laws_eqTurnS_0 (n : Nat) : LS where
  la := ⟨4, [0, 1, 5], [], [], [4], []⟩
  nt := 27
  kt := [0, 1, 5]
  hs := []
  X := Bool × List Turn × Bool × List Turn × Int
  abs := fun vs es => match vs, es with | [.ro y0 .turn y1, .ro y2 .turn y3, .int y4], [] => some (y0, y1, y2, y3, y4) | _, _ => none
  tms := fun x => [.ro x.1 .turn x.2.1, .ro x.2.2.1 .turn x.2.2.2.1, .int x.2.2.2.2]
  ets := fun x => []
  run := fun m x k => l_laws_eqTurnS_0 n m x.2.1 x.2.2.2.1 x.2.2.2.2 (k .ret ⟨layT [4] [.bool false] 0 27, layH [] []⟩) (k (.exit 0) ⟨layT [] [] 0 27, layH [] []⟩)
noncomputable def c_laws_eqTurnS_0 : Code := (Go.Proofs.Try.f55.body.bind (subLoop 4)).getD .skip
theorem s_laws_eqTurnS_0_ok (n : Nat) : LSok Tb tyK (orc [r_laws_eqTurn]) n a_laws_eqTurnS.ann [s_laws_eqTurnS_0 n] c_laws_eqTurnS_0 (s_laws_eqTurnS_0 n) :=
  ⟨by intro vs es x h; dsimp only [s_laws_eqTurnS_0] at h; split at h; (· injection h with h; subst h; exact ⟨rfl, rfl⟩); (· cases h), fun _ _ => rfl, fun m x k => by kernel_rfl⟩
theorem r_laws_eqTurnS_ok (n : Nat) : RwOk Go.Proofs.Try.prog tyK (r_laws_eqTurnS n) :=
  ent_ok (fa := a_laws_eqTurnS) (ls := [s_laws_eqTurnS_0 n]) (cs := [c_laws_eqTurnS_0]) (n := n) (es := [r_laws_eqTurn]) mixedOk tbOk (ents_cons (r_laws_eqTurn_ok) ents_nil) Go.Proofs.Try.func55 (by kernel_rfl) (by kernel_rfl) (by kernel_rfl) (LSsOk.cons _ _ (l := s_laws_eqTurnS_0 n) (by kernel_rfl) (s_laws_eqTurnS_0_ok n) (LSsOk.nil _ _)) (fun x => by kernel_rfl)
/-! loop.example/g00185/laws.eqSys -/
noncomputable def a_laws_eqSys : FnA := ⟨Go.Proofs.Try.f14, ⟨[(0, [(0, .slot 0 .int), (1, .slot 1 .int)]), (5, [(4, .call [.ro, .ro] .bool [] [])]), (7, [(4, .call [.ro, .ro] .bool [] [])]), (9, [(4, .call [.ro, .ro] .bool [] [])]), (11, [(4, .call [.ro, .ro] .bool [] [])]), (17, [(4, .call [.ro, .ro] .bool [] [])])], [], []⟩, 2⟩
def f_laws_eqSys (n : Nat) (a0 : Sys) (a1 : Sys) : Option (Bool × Unit) :=
  cond (!(decide (a0.Now = a1.Now)))
   (some (false, ()))
   (cond (!(decide (a0.Cpus = a1.Cpus)))
     (some (false, ()))
     ((f_laws_eqTaskS n a0.Tasks a1.Tasks).bind fun r1 =>
      cond (!r1.1)
       (some (false, ()))
       ((f_laws_eqLockS n a0.Locks a1.Locks).bind fun r2 =>
        cond (!r2.1)
         (some (false, ()))
         ((f_laws_eqGhostS n a0.Ghosts a1.Ghosts).bind fun r3 =>
          cond (!r3.1)
           (some (false, ()))
           ((f_laws_eqIntS n a0.Floors a1.Floors).bind fun r4 =>
            cond (!r4.1)
             (some (false, ()))
             (cond (!(decide (a0.Seq = a1.Seq)))
               (some (false, ()))
               (cond (!(decide (a0.Missed = a1.Missed)))
                 (some (false, ()))
                 ((f_laws_eqTurnS n a0.Trace a1.Trace).bind fun r5 =>
                  cond (!r5.1)
                   (some (false, ()))
                   (some (true, ()))))))))))
def r_laws_eqSys (n : Nat) : Rw := ⟨14, (.pair (.v (.agg (.pair .int (.pair .int (.pair (.ro .task) (.pair (.ro .lock) (.pair (.ro .ghost) (.pair (.ro .int) (.pair .int (.pair .int (.pair (.ro .turn) .one))))))))))) (.pair (.v (.agg (.pair .int (.pair .int (.pair (.ro .task) (.pair (.ro .lock) (.pair (.ro .ghost) (.pair (.ro .int) (.pair .int (.pair .int (.pair (.ro .turn) .one))))))))))) .one)), (.pair .bool .one), fun x => f_laws_eqSys n (⟨x.1.1, x.1.2.1, x.1.2.2.1.2, x.1.2.2.2.1.2, x.1.2.2.2.2.1.2, x.1.2.2.2.2.2.1.2, x.1.2.2.2.2.2.2.1, x.1.2.2.2.2.2.2.2.1, x.1.2.2.2.2.2.2.2.2.1.2⟩ : Sys) (⟨x.2.1.1, x.2.1.2.1, x.2.1.2.2.1.2, x.2.1.2.2.2.1.2, x.2.1.2.2.2.2.1.2, x.2.1.2.2.2.2.2.1.2, x.2.1.2.2.2.2.2.2.1, x.2.1.2.2.2.2.2.2.2.1, x.2.1.2.2.2.2.2.2.2.2.1.2⟩ : Sys)⟩
theorem r_laws_eqSys_ok (n : Nat) : RwOk Go.Proofs.Try.prog tyK (r_laws_eqSys n) :=
  ent_ok (fa := a_laws_eqSys) (ls := []) (cs := []) (n := n) (es := [(r_laws_eqTaskS n), (r_laws_eqLockS n), (r_laws_eqGhostS n), (r_laws_eqIntS n), (r_laws_eqTurnS n)]) mixedOk tbOk (ents_cons (r_laws_eqTaskS_ok n) (ents_cons (r_laws_eqLockS_ok n) (ents_cons (r_laws_eqGhostS_ok n) (ents_cons (r_laws_eqIntS_ok n) (ents_cons (r_laws_eqTurnS_ok n) ents_nil))))) Go.Proofs.Try.func14 (by kernel_rfl) (by kernel_rfl) (by kernel_rfl) (LSsOk.nil _ _) (fun x => by kernel_rfl)
/-! loop.example/g00185/laws.FnExactJudgeDue -/
noncomputable def a_laws_FnExactJudgeDue : FnA := ⟨Go.Proofs.Try.f3, ⟨[(0, [(0, .slot 0 .int)]), (2, [(2, .call [.ro, .ro] .int [] [])]), (5, [(1, .call [.ro] (.agg (.pair .int (.pair .int (.pair (.ro .task) (.pair (.ro .lock) (.pair (.ro .ghost) (.pair (.ro .int) (.pair .int (.pair .int (.pair (.ro .turn) .one)))))))))) [] []), (2, .call [.ro] .bool [] [])]), (6, [(1, .call [.ro] (.agg (.pair .int (.pair .int (.pair (.ro .task) (.pair (.ro .lock) (.pair (.ro .ghost) (.pair (.ro .int) (.pair .int (.pair .int (.pair (.ro .turn) .one)))))))))) [] []), (2, .slot 1 .int)]), (7, [(1, .call [.ro] .bool [] [])]), (10, [(2, .call [.ro] (.agg (.pair .int (.pair .int (.pair (.ro .task) (.pair (.ro .lock) (.pair (.ro .ghost) (.pair (.ro .int) (.pair .int (.pair .int (.pair (.ro .turn) .one)))))))))) [] []), (3, .call [.ro, .ro] .bool [] [])])], [(10, [([1], []), ([0], []), ([], []), ([], []), ([], [])])], []⟩, 2⟩
def f_laws_FnExactJudgeDue (n : Nat) (a0 : Sys) : Option (Bool × Unit) :=
  (f_laws_szSys n a0 1048576).bind fun r1 =>
  cond (decide (r1.1 < 0))
   (some (true, ()))
   ((f_laws_toSys n a0).bind fun r2 =>
    (f_spec_JudgeDue n (dnSys r2.1)).bind fun r3 =>
    (f_laws_toSys n a0).bind fun r4 =>
    (f_impl_JudgeDue n (dnSys r4.1)).bind fun r5 =>
    cond (!(r5.1 == r3.1))
     (some (false, ()))
     ((f_laws_toSys n a0).bind fun r6 =>
      (f_laws_eqSys n (dnSys r4.1) (dnSys r6.1)).bind fun r7 =>
      cond (!r7.1)
       (some (false, ()))
       (some (true, ()))))
def r_laws_FnExactJudgeDue (n : Nat) : Rw := ⟨3, (.pair (.v (.agg (.pair .int (.pair .int (.pair (.ro .task) (.pair (.ro .lock) (.pair (.ro .ghost) (.pair (.ro .int) (.pair .int (.pair .int (.pair (.ro .turn) .one))))))))))) .one), (.pair .bool .one), fun x => f_laws_FnExactJudgeDue n (⟨x.1.1, x.1.2.1, x.1.2.2.1.2, x.1.2.2.2.1.2, x.1.2.2.2.2.1.2, x.1.2.2.2.2.2.1.2, x.1.2.2.2.2.2.2.1, x.1.2.2.2.2.2.2.2.1, x.1.2.2.2.2.2.2.2.2.1.2⟩ : Sys)⟩
theorem r_laws_FnExactJudgeDue_ok (n : Nat) : RwOk Go.Proofs.Try.prog tyK (r_laws_FnExactJudgeDue n) :=
  ent_ok (fa := a_laws_FnExactJudgeDue) (ls := []) (cs := []) (n := n) (es := [(r_laws_szSys n), (r_laws_toSys n), (r_spec_JudgeDue n), (r_impl_JudgeDue n), (r_laws_eqSys n)]) mixedOk tbOk (ents_cons (r_laws_szSys_ok n) (ents_cons (r_laws_toSys_ok n) (ents_cons (r_spec_JudgeDue_ok n) (ents_cons (r_impl_JudgeDue_ok n) (ents_cons (r_laws_eqSys_ok n) ents_nil))))) Go.Proofs.Try.func3 (by kernel_rfl) (by kernel_rfl) (by kernel_rfl) (LSsOk.nil _ _) (fun x => by kernel_rfl)
/-! loop.example/g00185/spec.ShortOf -/
noncomputable def a_spec_ShortOf : FnA := ⟨Go.Proofs.Try.f15, ⟨[(0, [(0, .slot 0 .int)]), (1, [(3, .call [.ro, .ro] .int [] [])]), (2, [(1, .call [.ro] .bool [] [])]), (4, [(5, .slot 1 .int)])], [], []⟩, 2⟩
def f_spec_ShortOf (n : Nat) (a0 : Sys) (a1 : Int) : Option ((Int × Bool × Unit) × Unit) :=
  (f_spec_TaskAt n a0.Tasks a1).bind fun r1 =>
  (f_spec_SysOk n a0).bind fun r2 =>
  cond (!r2.1)
   (some ((0, false, ()), ()))
   (cond (decide (r1.1 < 0))
     (some ((0, false, ()), ()))
     (cond ((decide (0 ≤ r1.1)) && (decide (r1.1 < ((a0.Tasks).length : Int))))
       (let e3 := (!(decide ((List.getD a0.Tasks (Int.toNat r1.1) (Kd.dflt .task)).Class = 1)))
        cond e3
         (some ((0, false, ()), ()))
         (cond ((decide (0 ≤ r1.1)) && (decide (r1.1 < ((a0.Tasks).length : Int))))
           (let e4 := (w64 ((List.getD a0.Tasks (Int.toNat r1.1) (Kd.dflt .task)).Due - a0.Now))
            let e5 := (w64 ((List.getD a0.Tasks (Int.toNat r1.1) (Kd.dflt .task)).Left - e4))
            some ((e5, true, ()), ()))
           (none)))
       (none)))
def r_spec_ShortOf (n : Nat) : Rw := ⟨15, (.pair (.v (.agg (.pair .int (.pair .int (.pair (.ro .task) (.pair (.ro .lock) (.pair (.ro .ghost) (.pair (.ro .int) (.pair .int (.pair .int (.pair (.ro .turn) .one))))))))))) (.pair (.v (.int)) .one)), (.pair (.tup (.pair .int (.pair .bool .one))) .one), fun x => f_spec_ShortOf n (⟨x.1.1, x.1.2.1, x.1.2.2.1.2, x.1.2.2.2.1.2, x.1.2.2.2.2.1.2, x.1.2.2.2.2.2.1.2, x.1.2.2.2.2.2.2.1, x.1.2.2.2.2.2.2.2.1, x.1.2.2.2.2.2.2.2.2.1.2⟩ : Sys) x.2.1⟩
theorem r_spec_ShortOf_ok (n : Nat) : RwOk Go.Proofs.Try.prog tyK (r_spec_ShortOf n) :=
  ent_ok (fa := a_spec_ShortOf) (ls := []) (cs := []) (n := n) (es := [(r_spec_TaskAt n), (r_spec_SysOk n)]) mixedOk tbOk (ents_cons (r_spec_TaskAt_ok n) (ents_cons (r_spec_SysOk_ok n) ents_nil)) Go.Proofs.Try.func15 (by kernel_rfl) (by kernel_rfl) (by kernel_rfl) (LSsOk.nil _ _) (fun x => by kernel_rfl)
/-! loop.example/g00185/impl.ShortOf -/
noncomputable def a_impl_ShortOf : FnA := ⟨Go.Proofs.Try.f16, ⟨[(0, [(0, .slot 0 .int)]), (1, [(3, .call [.ro, .ro] .int [] [])]), (2, [(1, .call [.ro] .bool [] [])])], [(4, [([0], []), ([0], []), ([], []), ([], []), ([], []), ([], []), ([0], []), ([0], []), ([], []), ([], []), ([], []), ([], []), ([0], []), ([0], []), ([], []), ([], []), ([], []), ([], [])])], []⟩, 1⟩
def f_impl_ShortOf (n : Nat) (a0 : Sys) (a1 : Int) : Option ((Int × Bool × Unit) × Unit) :=
  (f_impl_TaskAt n a0.Tasks a1).bind fun r1 =>
  (f_impl_SysOk n a0).bind fun r2 =>
  cond (!r2.1)
   (some ((0, false, ()), ()))
   (cond (decide (r1.1 < 0))
     (some ((0, false, ()), ()))
     (cond ((decide (0 ≤ r1.1)) && (decide (r1.1 < ((a0.Tasks).length : Int))))
       (let e3 := (!(decide ((List.getD a0.Tasks (Int.toNat r1.1) (Kd.dflt .task)).Class = 1)))
        cond e3
         (some ((0, false, ()), ()))
         (cond ((decide (0 ≤ r1.1)) && (decide (r1.1 < ((a0.Tasks).length : Int))))
           (cond ((decide (0 ≤ r1.1)) && (decide (r1.1 < ((a0.Tasks).length : Int))))
             (let e4 := (w64 ((List.getD a0.Tasks (Int.toNat r1.1) (Kd.dflt .task)).Due - a0.Now))
              let e5 := (w64 ((List.getD a0.Tasks (Int.toNat r1.1) (Kd.dflt .task)).Left - e4))
              some ((e5, true, ()), ()))
             (none))
           (none)))
       (none)))
def r_impl_ShortOf (n : Nat) : Rw := ⟨16, (.pair (.v (.agg (.pair .int (.pair .int (.pair (.ro .task) (.pair (.ro .lock) (.pair (.ro .ghost) (.pair (.ro .int) (.pair .int (.pair .int (.pair (.ro .turn) .one))))))))))) (.pair (.v (.int)) .one)), (.pair (.tup (.pair .int (.pair .bool .one))) .one), fun x => f_impl_ShortOf n (⟨x.1.1, x.1.2.1, x.1.2.2.1.2, x.1.2.2.2.1.2, x.1.2.2.2.2.1.2, x.1.2.2.2.2.2.1.2, x.1.2.2.2.2.2.2.1, x.1.2.2.2.2.2.2.2.1, x.1.2.2.2.2.2.2.2.2.1.2⟩ : Sys) x.2.1⟩
theorem r_impl_ShortOf_ok (n : Nat) : RwOk Go.Proofs.Try.prog tyK (r_impl_ShortOf n) :=
  ent_ok (fa := a_impl_ShortOf) (ls := []) (cs := []) (n := n) (es := [(r_impl_TaskAt n), (r_impl_SysOk n)]) mixedOk tbOk (ents_cons (r_impl_TaskAt_ok n) (ents_cons (r_impl_SysOk_ok n) ents_nil)) Go.Proofs.Try.func16 (by kernel_rfl) (by kernel_rfl) (by kernel_rfl) (LSsOk.nil _ _) (fun x => by kernel_rfl)
/-! loop.example/g00185/laws.FnExactShortOf -/
noncomputable def a_laws_FnExactShortOf : FnA := ⟨Go.Proofs.Try.f4, ⟨[(0, [(0, .slot 0 .int)]), (2, [(2, .call [.ro, .ro] .int [] [])]), (5, [(1, .call [.ro] (.agg (.pair .int (.pair .int (.pair (.ro .task) (.pair (.ro .lock) (.pair (.ro .ghost) (.pair (.ro .int) (.pair .int (.pair .int (.pair (.ro .turn) .one)))))))))) [] []), (3, .call [.ro, .ro] (.tup (.pair .int (.pair .bool .one))) [] [])]), (6, [(1, .call [.ro] (.agg (.pair .int (.pair .int (.pair (.ro .task) (.pair (.ro .lock) (.pair (.ro .ghost) (.pair (.ro .int) (.pair .int (.pair .int (.pair (.ro .turn) .one)))))))))) [] []), (2, .slot 1 .int)]), (7, [(2, .call [.ro, .ro] (.tup (.pair .int (.pair .bool .one))) [] [])]), (10, [(2, .call [.ro] (.agg (.pair .int (.pair .int (.pair (.ro .task) (.pair (.ro .lock) (.pair (.ro .ghost) (.pair (.ro .int) (.pair .int (.pair .int (.pair (.ro .turn) .one)))))))))) [] []), (3, .call [.ro, .ro] .bool [] [])])], [(10, [([1], []), ([0], []), ([], []), ([], []), ([], [])])], []⟩, 2⟩
def f_laws_FnExactShortOf (n : Nat) (a0 : Sys) (a1 : Int) : Option (Bool × Unit) :=
  (f_laws_szSys n a0 1048576).bind fun r1 =>
  cond (decide (r1.1 < 0))
   (some (true, ()))
   ((f_laws_toSys n a0).bind fun r2 =>
    (f_spec_ShortOf n (dnSys r2.1) a1).bind fun r3 =>
    (f_laws_toSys n a0).bind fun r4 =>
    (f_impl_ShortOf n (dnSys r4.1) a1).bind fun r5 =>
    cond (!(decide (r5.1.1 = r3.1.1)))
     (some (false, ()))
     (cond (!(r5.1.2.1 == r3.1.2.1))
       (some (false, ()))
       ((f_laws_toSys n a0).bind fun r6 =>
        (f_laws_eqSys n (dnSys r4.1) (dnSys r6.1)).bind fun r7 =>
        cond (!r7.1)
         (some (false, ()))
         (some (true, ())))))
def r_laws_FnExactShortOf (n : Nat) : Rw := ⟨4, (.pair (.v (.agg (.pair .int (.pair .int (.pair (.ro .task) (.pair (.ro .lock) (.pair (.ro .ghost) (.pair (.ro .int) (.pair .int (.pair .int (.pair (.ro .turn) .one))))))))))) (.pair (.v (.int)) .one)), (.pair .bool .one), fun x => f_laws_FnExactShortOf n (⟨x.1.1, x.1.2.1, x.1.2.2.1.2, x.1.2.2.2.1.2, x.1.2.2.2.2.1.2, x.1.2.2.2.2.2.1.2, x.1.2.2.2.2.2.2.1, x.1.2.2.2.2.2.2.2.1, x.1.2.2.2.2.2.2.2.2.1.2⟩ : Sys) x.2.1⟩
theorem r_laws_FnExactShortOf_ok (n : Nat) : RwOk Go.Proofs.Try.prog tyK (r_laws_FnExactShortOf n) :=
  ent_ok (fa := a_laws_FnExactShortOf) (ls := []) (cs := []) (n := n) (es := [(r_laws_szSys n), (r_laws_toSys n), (r_spec_ShortOf n), (r_impl_ShortOf n), (r_laws_eqSys n)]) mixedOk tbOk (ents_cons (r_laws_szSys_ok n) (ents_cons (r_laws_toSys_ok n) (ents_cons (r_spec_ShortOf_ok n) (ents_cons (r_impl_ShortOf_ok n) (ents_cons (r_laws_eqSys_ok n) ents_nil))))) Go.Proofs.Try.func4 (by kernel_rfl) (by kernel_rfl) (by kernel_rfl) (LSsOk.nil _ _) (fun x => by kernel_rfl)
/-! loop.example/g00185/spec.JudgeFair -/
noncomputable def a_spec_JudgeFair : FnA := ⟨Go.Proofs.Try.f17, ⟨[(0, [(0, .slot 0 .int)]), (1, [(1, .call [.ro] .bool [] [])]), (6, [(5, .slot 1 .int)]), (7, [(18, .call [.ro, .ro, .ro] .bool [] [])])], [(7, [([1], []), ([1], []), ([], []), ([], []), ([1], []), ([1], []), ([], []), ([], []), ([], []), ([1], []), ([1], []), ([0], []), ([0], []), ([1], []), ([1], []), ([], []), ([], []), ([], []), ([], []), ([], []), ([], [])])], []⟩, 2⟩
def l_spec_JudgeFair_0 {α : Type} (n : Nat) : Nat → Sys → Int → (Option α) → (Option α) → Option α
  | 0, _, _, _, _ => none
  | m0 + 1, v2, v3, k0_0, k0_1 =>
    cond (decide (v3 < ((v2.Tasks).length : Int)))
     (cond ((decide (0 ≤ v3)) && (decide (v3 < ((v2.Tasks).length : Int))))
       (let e4 := (decide ((List.getD v2.Tasks (Int.toNat v3) (Kd.dflt .task)).Class = 3))
        cond e4
         (cond (!(List.getD v2.Tasks (Int.toNat v3) (Kd.dflt .task)).Idle)
           (cond ((decide (0 ≤ (List.getD v2.Tasks (Int.toNat v3) (Kd.dflt .task)).Cpu)) && (decide ((List.getD v2.Tasks (Int.toNat v3) (Kd.dflt .task)).Cpu < ((v2.Floors).length : Int))))
             (let e5 := (List.getD v2.Floors (Int.toNat (List.getD v2.Tasks (Int.toNat v3) (Kd.dflt .task)).Cpu) (Kd.dflt .int))
              let e6 := (w64 ((List.getD v2.Tasks (Int.toNat v3) (Kd.dflt .task)).V - e5))
              (f_spec_l1In e6 0 48).bind fun r7 =>
              cond (!r7.1)
               (k0_0)
               (l_spec_JudgeFair_0 n m0 v2 (w64 (v3 + 1)) k0_0 k0_1))
             (none))
           (l_spec_JudgeFair_0 n m0 v2 (w64 (v3 + 1)) k0_0 k0_1))
         (l_spec_JudgeFair_0 n m0 v2 (w64 (v3 + 1)) k0_0 k0_1))
       (none))
     (k0_1)
def f_spec_JudgeFair (n : Nat) (a0 : Sys) : Option (Bool × Unit) :=
  (f_spec_SysOk n a0).bind fun r1 =>
  cond (!r1.1)
   (some (false, ()))
   (l_spec_JudgeFair_0 n n a0 0
     (some (false, ()))
     (some (true, ())))
def r_spec_JudgeFair (n : Nat) : Rw := ⟨17, (.pair (.v (.agg (.pair .int (.pair .int (.pair (.ro .task) (.pair (.ro .lock) (.pair (.ro .ghost) (.pair (.ro .int) (.pair .int (.pair .int (.pair (.ro .turn) .one))))))))))) .one), (.pair .bool .one), fun x => f_spec_JudgeFair n (⟨x.1.1, x.1.2.1, x.1.2.2.1.2, x.1.2.2.2.1.2, x.1.2.2.2.2.1.2, x.1.2.2.2.2.2.1.2, x.1.2.2.2.2.2.2.1, x.1.2.2.2.2.2.2.2.1, x.1.2.2.2.2.2.2.2.2.1.2⟩ : Sys)⟩
def s_spec_JudgeFair_0 (n : Nat) : LS where
  la := ⟨4, [1, 3], [], [1], [2], []⟩
  nt := 41
  kt := [1, 3]
  hs := [.k, .fresh]
  X := Int × Int × Bool × List Task × Bool × List Lock × Bool × List Ghost × Bool × List Int × Int × Int × Bool × List Turn × Int
  abs := fun vs es => match vs, es with | [.ptr 0 0, .int y14], [.box [.int y0, .int y1, .ro y2 .task y3, .ro y4 .lock y5, .ro y6 .ghost y7, .ro y8 .int y9, .int y10, .int y11, .ro y12 .turn y13]] => some (y0, y1, y2, y3, y4, y5, y6, y7, y8, y9, y10, y11, y12, y13, y14) | _, _ => none
  tms := fun x => [.ptr 0 0, .int x.2.2.2.2.2.2.2.2.2.2.2.2.2.2]
  ets := fun x => [.box [.int x.1, .int x.2.1, .ro x.2.2.1 .task x.2.2.2.1, .ro x.2.2.2.2.1 .lock x.2.2.2.2.2.1, .ro x.2.2.2.2.2.2.1 .ghost x.2.2.2.2.2.2.2.1, .ro x.2.2.2.2.2.2.2.2.1 .int x.2.2.2.2.2.2.2.2.2.1, .int x.2.2.2.2.2.2.2.2.2.2.1, .int x.2.2.2.2.2.2.2.2.2.2.2.1, .ro x.2.2.2.2.2.2.2.2.2.2.2.2.1 .turn x.2.2.2.2.2.2.2.2.2.2.2.2.2.1]]
  run := fun m x k => l_spec_JudgeFair_0 n m (⟨x.1, x.2.1, x.2.2.2.1, x.2.2.2.2.2.1, x.2.2.2.2.2.2.2.1, x.2.2.2.2.2.2.2.2.2.1, x.2.2.2.2.2.2.2.2.2.2.1, x.2.2.2.2.2.2.2.2.2.2.2.1, x.2.2.2.2.2.2.2.2.2.2.2.2.2.1⟩ : Sys) x.2.2.2.2.2.2.2.2.2.2.2.2.2.2 (k .ret ⟨layT [2] [.bool false] 0 41, layH [.dead, .dead] []⟩) (k (.exit 0) ⟨layT [] [] 0 41, layH [.dead, .dead] []⟩)
noncomputable def c_spec_JudgeFair_0 : Code := (Go.Proofs.Try.f17.body.bind (subLoop 4)).getD .skip
theorem s_spec_JudgeFair_0_ok (n : Nat) : LSok Tb tyK (orc [(r_spec_SysOk n), r_spec_l1In]) n a_spec_JudgeFair.ann [s_spec_JudgeFair_0 n] c_spec_JudgeFair_0 (s_spec_JudgeFair_0 n) :=
  ⟨by intro vs es x h; dsimp only [s_spec_JudgeFair_0] at h; split at h; (· injection h with h; subst h; exact ⟨rfl, rfl⟩); (· cases h), fun _ _ => rfl, fun m x k => by kernel_rfl⟩
theorem r_spec_JudgeFair_ok (n : Nat) : RwOk Go.Proofs.Try.prog tyK (r_spec_JudgeFair n) :=
  ent_ok (fa := a_spec_JudgeFair) (ls := [s_spec_JudgeFair_0 n]) (cs := [c_spec_JudgeFair_0]) (n := n) (es := [(r_spec_SysOk n), r_spec_l1In]) mixedOk tbOk (ents_cons (r_spec_SysOk_ok n) (ents_cons (r_spec_l1In_ok) ents_nil)) Go.Proofs.Try.func17 (by kernel_rfl) (by kernel_rfl) (by kernel_rfl) (LSsOk.cons _ _ (l := s_spec_JudgeFair_0 n) (by kernel_rfl) (s_spec_JudgeFair_0_ok n) (LSsOk.nil _ _)) (fun x => by kernel_rfl)
/-! loop.example/g00185/impl.JudgeFair$1 -/
noncomputable def a_impl_JudgeFair_1 : FnA := ⟨Go.Proofs.Try.f59, ⟨[(0, [(0, .slot 0 .int)]), (1, [(24, .call [.ro, .ro, .ro] .bool [] [])])], [(1, [([0], []), ([0], []), ([], []), ([], []), ([0], []), ([0], []), ([], []), ([], []), ([], []), ([0], []), ([0], []), ([], []), ([], []), ([0], []), ([0], []), ([], []), ([], []), ([], []), ([], []), ([0], []), ([0], []), ([], []), ([], []), ([], []), ([], []), ([], []), ([], []), ([], [])])], []⟩, 1⟩
def f_impl_JudgeFair_1 (a0 : Task) (a1 : Sys) : Option (Bool × Unit) :=
  cond (decide (a0.Class = 3))
   (cond (!a0.Idle)
     (cond ((decide (0 ≤ a0.Cpu)) && (decide (a0.Cpu < ((a1.Floors).length : Int))))
       (cond ((decide (0 ≤ a0.Cpu)) && (decide (a0.Cpu < ((a1.Floors).length : Int))))
         (let e1 := (w64 ((List.getD a1.Floors (Int.toNat a0.Cpu) (Kd.dflt .int)) + 48))
          (f_impl_in a0.V (List.getD a1.Floors (Int.toNat a0.Cpu) (Kd.dflt .int)) e1).bind fun r2 =>
          some ((!r2.1), ()))
         (none))
       (none))
     (some (false, ())))
   (some (false, ()))
def r_impl_JudgeFair_1 : Rw := ⟨59, (.pair (.v (.agg (.pair .int (.pair .int (.pair .int (.pair .int (.pair .bool (.pair .int (.pair .int (.pair .int (.pair .int (.pair .int (.pair .int (.pair .int (.pair .int (.pair .int .one)))))))))))))))) (.pair (.v (.rp (.pair .int (.pair .int (.pair (.ro .task) (.pair (.ro .lock) (.pair (.ro .ghost) (.pair (.ro .int) (.pair .int (.pair .int (.pair (.ro .turn) .one))))))))) 0)) .one)), (.pair .bool .one), fun x => f_impl_JudgeFair_1 (⟨x.1.1, x.1.2.1, x.1.2.2.1, x.1.2.2.2.1, x.1.2.2.2.2.1, x.1.2.2.2.2.2.1, x.1.2.2.2.2.2.2.1, x.1.2.2.2.2.2.2.2.1, x.1.2.2.2.2.2.2.2.2.1, x.1.2.2.2.2.2.2.2.2.2.1, x.1.2.2.2.2.2.2.2.2.2.2.1, x.1.2.2.2.2.2.2.2.2.2.2.2.1, x.1.2.2.2.2.2.2.2.2.2.2.2.2.1, x.1.2.2.2.2.2.2.2.2.2.2.2.2.2.1⟩ : Task) (⟨x.2.1.1, x.2.1.2.1, x.2.1.2.2.1.2, x.2.1.2.2.2.1.2, x.2.1.2.2.2.2.1.2, x.2.1.2.2.2.2.2.1.2, x.2.1.2.2.2.2.2.2.1, x.2.1.2.2.2.2.2.2.2.1, x.2.1.2.2.2.2.2.2.2.2.1.2⟩ : Sys)⟩
theorem r_impl_JudgeFair_1_ok : RwOk Go.Proofs.Try.prog tyK (r_impl_JudgeFair_1) :=
  ent_ok (fa := a_impl_JudgeFair_1) (ls := []) (cs := []) (n := 0) (es := [r_impl_in]) mixedOk tbOk (ents_cons (r_impl_in_ok) ents_nil) Go.Proofs.Try.func59 (by kernel_rfl) (by kernel_rfl) (by kernel_rfl) (LSsOk.nil _ _) (fun x => by kernel_rfl)
end Go.Proofs.Ytjgkeaiibdodfaa.VR
