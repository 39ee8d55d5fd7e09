/- Functions, printed by program (wip/gen/emit.py). -/
import Derived.Test.YtoedeimpfbebpaaG03
set_option linter.unusedVariables false
set_option maxRecDepth 100000
namespace Go.Proofs.Ytoedeimpfbebpaa.VR
open Go
/-! loop.example/g00185/laws.heldTaskS -/
noncomputable def a_laws_heldTaskS : FnA := ⟨Go.Proofs.Try.f77, ⟨[], [], []⟩, 0⟩
def l_laws_heldTaskS_0 {α : Type} (n : Nat) : Nat → List Task → Int → Int → (Int → Option α) → (Int → Option α) → Option α
  | 0, _, _, _, _, _ => none
  | m0 + 1, v1, v2, v3, k0_0, k0_1 =>
    cond (decide (v3 < ((v1).length : Int)))
     (cond ((decide (0 ≤ v3)) && (decide (v3 < ((v1).length : Int))))
       (let e4 := (!(decide ((List.getD v1 (Int.toNat v3) (Kd.dflt .task)).No = v2)))
        cond e4
         (k0_0 v2)
         (cond ((decide (0 ≤ v3)) && (decide (v3 < ((v1).length : Int))))
           (let e5 := (!(decide ((List.getD v1 (Int.toNat v3) (Kd.dflt .task)).Class = (w64 (v2 + 1)))))
            cond e5
             (k0_0 (w64 (v2 + 1)))
             (cond ((decide (0 ≤ v3)) && (decide (v3 < ((v1).length : Int))))
               (let e6 := (!(decide ((List.getD v1 (Int.toNat v3) (Kd.dflt .task)).Cpu = (w64 ((w64 (v2 + 1)) + 1)))))
                cond e6
                 (k0_0 (w64 ((w64 (v2 + 1)) + 1)))
                 (cond ((decide (0 ≤ v3)) && (decide (v3 < ((v1).length : Int))))
                   (let e7 := (!(decide ((List.getD v1 (Int.toNat v3) (Kd.dflt .task)).State = (w64 ((w64 ((w64 (v2 + 1)) + 1)) + 1)))))
                    cond e7
                     (k0_0 (w64 ((w64 ((w64 (v2 + 1)) + 1)) + 1)))
                     (cond ((decide (0 ≤ v3)) && (decide (v3 < ((v1).length : Int))))
                       (let e8 := (Int.tmod (w64 ((w64 ((w64 ((w64 (v2 + 1)) + 1)) + 1)) + 1)) 3)
                        let e9 := (!((List.getD v1 (Int.toNat v3) (Kd.dflt .task)).Idle == (decide (e8 = 0))))
                        cond e9
                         (k0_0 (w64 ((w64 ((w64 ((w64 (v2 + 1)) + 1)) + 1)) + 1)))
                         (let e10 := (w64 ((w64 ((w64 ((w64 ((w64 (v2 + 1)) + 1)) + 1)) + 1)) + 1))
                          cond ((decide (0 ≤ v3)) && (decide (v3 < ((v1).length : Int))))
                           (let e11 := (!(decide ((List.getD v1 (Int.toNat v3) (Kd.dflt .task)).Q = e10)))
                            cond e11
                             (k0_0 e10)
                             (cond ((decide (0 ≤ v3)) && (decide (v3 < ((v1).length : Int))))
                               (let e12 := (!(decide ((List.getD v1 (Int.toNat v3) (Kd.dflt .task)).P = (w64 (e10 + 1)))))
                                cond e12
                                 (k0_0 (w64 (e10 + 1)))
                                 (cond ((decide (0 ≤ v3)) && (decide (v3 < ((v1).length : Int))))
                                   (let e13 := (!(decide ((List.getD v1 (Int.toNat v3) (Kd.dflt .task)).Left = (w64 ((w64 (e10 + 1)) + 1)))))
                                    cond e13
                                     (k0_0 (w64 ((w64 (e10 + 1)) + 1)))
                                     (cond ((decide (0 ≤ v3)) && (decide (v3 < ((v1).length : Int))))
                                       (let e14 := (!(decide ((List.getD v1 (Int.toNat v3) (Kd.dflt .task)).Due = (w64 ((w64 ((w64 (e10 + 1)) + 1)) + 1)))))
                                        cond e14
                                         (k0_0 (w64 ((w64 ((w64 (e10 + 1)) + 1)) + 1)))
                                         (cond ((decide (0 ≤ v3)) && (decide (v3 < ((v1).length : Int))))
                                           (let e15 := (!(decide ((List.getD v1 (Int.toNat v3) (Kd.dflt .task)).Prio = (w64 ((w64 ((w64 ((w64 (e10 + 1)) + 1)) + 1)) + 1)))))
                                            cond e15
                                             (k0_0 (w64 ((w64 ((w64 ((w64 (e10 + 1)) + 1)) + 1)) + 1)))
                                             (let e16 := (w64 ((w64 ((w64 ((w64 ((w64 (e10 + 1)) + 1)) + 1)) + 1)) + 1))
                                              cond ((decide (0 ≤ v3)) && (decide (v3 < ((v1).length : Int))))
                                               (let e17 := (!(decide ((List.getD v1 (Int.toNat v3) (Kd.dflt .task)).Round = e16)))
                                                cond e17
                                                 (k0_0 e16)
                                                 (cond ((decide (0 ≤ v3)) && (decide (v3 < ((v1).length : Int))))
                                                   (let e18 := (!(decide ((List.getD v1 (Int.toNat v3) (Kd.dflt .task)).Seq = (w64 (e16 + 1)))))
                                                    cond e18
                                                     (k0_0 (w64 (e16 + 1)))
                                                     (cond ((decide (0 ≤ v3)) && (decide (v3 < ((v1).length : Int))))
                                                       (let e19 := (!(decide ((List.getD v1 (Int.toNat v3) (Kd.dflt .task)).Nice = (w64 ((w64 (e16 + 1)) + 1)))))
                                                        cond e19
                                                         (k0_0 (w64 ((w64 (e16 + 1)) + 1)))
                                                         (cond ((decide (0 ≤ v3)) && (decide (v3 < ((v1).length : Int))))
                                                           (let e20 := (!(decide ((List.getD v1 (Int.toNat v3) (Kd.dflt .task)).V = (w64 ((w64 ((w64 (e16 + 1)) + 1)) + 1)))))
                                                            cond e20
                                                             (k0_0 (w64 ((w64 ((w64 (e16 + 1)) + 1)) + 1)))
                                                             (l_laws_heldTaskS_0 n m0 v1 (w64 ((w64 ((w64 ((w64 (e16 + 1)) + 1)) + 1)) + 1)) (w64 (v3 + 1)) k0_0 k0_1))
                                                           (none)))
                                                       (none)))
                                                   (none)))
                                               (none)))
                                           (none)))
                                       (none)))
                                   (none)))
                               (none)))
                           (none)))
                       (none)))
                   (none)))
               (none)))
           (none)))
       (none))
     (k0_1 v2)
def f_laws_heldTaskS (n : Nat) (a0 : List Task) (a1 : Int) : Option (Int × Unit) :=
  l_laws_heldTaskS_0 n n a0 a1 0
   (fun w21 =>
    some ((-1), ()))
   (fun w22 =>
    some (w22, ()))
def r_laws_heldTaskS (n : Nat) : Rw := ⟨77, (.pair (.v (.ro .task)) (.pair (.v (.int)) .one)), (.pair .int .one), fun x => f_laws_heldTaskS n x.1.2 x.2.1⟩
def s_laws_heldTaskS_0 (n : Nat) : LS where
  la := ⟨2, [0, 1, 5], [], [], [1, 4], []⟩
  nt := 141
  kt := [0, 1, 5]
  hs := []
  X := Bool × List Task × Int × Int
  abs := fun vs es => match vs, es with | [.ro y0 .task y1, .int y2, .int y3], [] => some (y0, y1, y2, y3) | _, _ => none
  tms := fun x => [.ro x.1 .task x.2.1, .int x.2.2.1, .int x.2.2.2]
  ets := fun x => []
  run := fun m x k => l_laws_heldTaskS_0 n m x.2.1 x.2.2.1 x.2.2.2 (fun w0 => k .ret ⟨layT [1, 4] [.int w0, .int (-1)] 0 141, layH [] []⟩) (fun w0 => k (.exit 0) ⟨layT [1] [.int w0] 0 141, layH [] []⟩)
noncomputable def c_laws_heldTaskS_0 : Code := (Go.Proofs.Try.f77.body.bind (subLoop 2)).getD .skip
theorem s_laws_heldTaskS_0_ok (n : Nat) : LSok Tb tyK (orc []) n a_laws_heldTaskS.ann [s_laws_heldTaskS_0 n] c_laws_heldTaskS_0 (s_laws_heldTaskS_0 n) :=
  ⟨by intro vs es x h; dsimp only [s_laws_heldTaskS_0] at h; split at h; (· injection h with h; subst h; exact ⟨rfl, rfl⟩); (· cases h), fun _ _ => rfl, fun m x k => by kernel_rfl⟩
theorem r_laws_heldTaskS_ok (n : Nat) : RwOk Go.Proofs.Try.prog tyK (r_laws_heldTaskS n) :=
  ent_ok (fa := a_laws_heldTaskS) (ls := [s_laws_heldTaskS_0 n]) (cs := [c_laws_heldTaskS_0]) (n := n) (es := []) mixedOk tbOk ents_nil Go.Proofs.Try.func77 (by kernel_rfl) (by kernel_rfl) (by kernel_rfl) (LSsOk.cons _ _ (l := s_laws_heldTaskS_0 n) (by kernel_rfl) (s_laws_heldTaskS_0_ok n) (LSsOk.nil _ _)) (fun x => by kernel_rfl)
/-! loop.example/g00185/laws.heldIntS -/
noncomputable def a_laws_heldIntS : FnA := ⟨Go.Proofs.Try.f80, ⟨[], [], []⟩, 0⟩
def l_laws_heldIntS_0 {α : Type} (n : Nat) : Nat → List Int → Int → Int → (Int → Option α) → (Int → Option α) → Option α
  | 0, _, _, _, _, _ => none
  | m0 + 1, v1, v2, v3, k0_0, k0_1 =>
    cond (decide (v3 < ((v1).length : Int)))
     (cond ((decide (0 ≤ v3)) && (decide (v3 < ((v1).length : Int))))
       (let e4 := (!(decide ((List.getD v1 (Int.toNat v3) (Kd.dflt .int)) = v2)))
        cond e4
         (k0_0 v2)
         (l_laws_heldIntS_0 n m0 v1 (w64 (v2 + 1)) (w64 (v3 + 1)) k0_0 k0_1))
       (none))
     (k0_1 v2)
def f_laws_heldIntS (n : Nat) (a0 : List Int) (a1 : Int) : Option (Int × Unit) :=
  l_laws_heldIntS_0 n n a0 a1 0
   (fun w5 =>
    some ((-1), ()))
   (fun w6 =>
    some (w6, ()))
def r_laws_heldIntS (n : Nat) : Rw := ⟨80, (.pair (.v (.ro .int)) (.pair (.v (.int)) .one)), (.pair .int .one), fun x => f_laws_heldIntS n x.1.2 x.2.1⟩
def s_laws_heldIntS_0 (n : Nat) : LS where
  la := ⟨2, [0, 1, 5], [], [], [1, 4], []⟩
  nt := 21
  kt := [0, 1, 5]
  hs := []
  X := Bool × List Int × Int × Int
  abs := fun vs es => match vs, es with | [.ro y0 .int y1, .int y2, .int y3], [] => some (y0, y1, y2, y3) | _, _ => none
  tms := fun x => [.ro x.1 .int x.2.1, .int x.2.2.1, .int x.2.2.2]
  ets := fun x => []
  run := fun m x k => l_laws_heldIntS_0 n m x.2.1 x.2.2.1 x.2.2.2 (fun w0 => k .ret ⟨layT [1, 4] [.int w0, .int (-1)] 0 21, layH [] []⟩) (fun w0 => k (.exit 0) ⟨layT [1] [.int w0] 0 21, layH [] []⟩)
noncomputable def c_laws_heldIntS_0 : Code := (Go.Proofs.Try.f80.body.bind (subLoop 2)).getD .skip
theorem s_laws_heldIntS_0_ok (n : Nat) : LSok Tb tyK (orc []) n a_laws_heldIntS.ann [s_laws_heldIntS_0 n] c_laws_heldIntS_0 (s_laws_heldIntS_0 n) :=
  ⟨by intro vs es x h; dsimp only [s_laws_heldIntS_0] at h; split at h; (· injection h with h; subst h; exact ⟨rfl, rfl⟩); (· cases h), fun _ _ => rfl, fun m x k => by kernel_rfl⟩
theorem r_laws_heldIntS_ok (n : Nat) : RwOk Go.Proofs.Try.prog tyK (r_laws_heldIntS n) :=
  ent_ok (fa := a_laws_heldIntS) (ls := [s_laws_heldIntS_0 n]) (cs := [c_laws_heldIntS_0]) (n := n) (es := []) mixedOk tbOk ents_nil Go.Proofs.Try.func80 (by kernel_rfl) (by kernel_rfl) (by kernel_rfl) (LSsOk.cons _ _ (l := s_laws_heldIntS_0 n) (by kernel_rfl) (s_laws_heldIntS_0_ok n) (LSsOk.nil _ _)) (fun x => by kernel_rfl)
/-! loop.example/g00185/laws.heldLockS -/
noncomputable def a_laws_heldLockS : FnA := ⟨Go.Proofs.Try.f78, ⟨[(7, [(6, .call [.ro, .ro] .int [] [])])], [], []⟩, 0⟩
def l_laws_heldLockS_0 {α : Type} (n : Nat) : Nat → List Lock → Int → Int → (Int → Option α) → (Int → Option α) → Option α
  | 0, _, _, _, _, _ => none
  | m0 + 1, v1, v2, v3, k0_0, k0_1 =>
    cond (decide (v3 < ((v1).length : Int)))
     (cond ((decide (0 ≤ v3)) && (decide (v3 < ((v1).length : Int))))
       (let e4 := (!(decide ((List.getD v1 (Int.toNat v3) (Kd.dflt .lock)).Owner = v2)))
        cond e4
         (k0_0 v2)
         (cond ((decide (0 ≤ v3)) && (decide (v3 < ((v1).length : Int))))
           ((f_laws_heldIntS n ((List.getD v1 (Int.toNat v3) (Kd.dflt .lock)).Waits) (w64 (v2 + 1))).bind fun r5 =>
            cond (decide (r5.1 < 0))
             (k0_0 r5.1)
             (l_laws_heldLockS_0 n m0 v1 r5.1 (w64 (v3 + 1)) k0_0 k0_1))
           (none)))
       (none))
     (k0_1 v2)
def f_laws_heldLockS (n : Nat) (a0 : List Lock) (a1 : Int) : Option (Int × Unit) :=
  l_laws_heldLockS_0 n n a0 a1 0
   (fun w6 =>
    some ((-1), ()))
   (fun w7 =>
    some (w7, ()))
def r_laws_heldLockS (n : Nat) : Rw := ⟨78, (.pair (.v (.ro .lock)) (.pair (.v (.int)) .one)), (.pair .int .one), fun x => f_laws_heldLockS n x.1.2 x.2.1⟩
def s_laws_heldLockS_0 (n : Nat) : LS where
  la := ⟨2, [0, 1, 5], [], [], [1, 4], []⟩
  nt := 31
  kt := [0, 1, 5]
  hs := []
  X := Bool × List Lock × Int × Int
  abs := fun vs es => match vs, es with | [.ro y0 .lock y1, .int y2, .int y3], [] => some (y0, y1, y2, y3) | _, _ => none
  tms := fun x => [.ro x.1 .lock x.2.1, .int x.2.2.1, .int x.2.2.2]
  ets := fun x => []
  run := fun m x k => l_laws_heldLockS_0 n m x.2.1 x.2.2.1 x.2.2.2 (fun w0 => k .ret ⟨layT [1, 4] [.int w0, .int (-1)] 0 31, layH [] []⟩) (fun w0 => k (.exit 0) ⟨layT [1] [.int w0] 0 31, layH [] []⟩)
noncomputable def c_laws_heldLockS_0 : Code := (Go.Proofs.Try.f78.body.bind (subLoop 2)).getD .skip
theorem s_laws_heldLockS_0_ok (n : Nat) : LSok Tb tyK (orc [(r_laws_heldIntS n)]) n a_laws_heldLockS.ann [s_laws_heldLockS_0 n] c_laws_heldLockS_0 (s_laws_heldLockS_0 n) :=
  ⟨by intro vs es x h; dsimp only [s_laws_heldLockS_0] at h; split at h; (· injection h with h; subst h; exact ⟨rfl, rfl⟩); (· cases h), fun _ _ => rfl, fun m x k => by kernel_rfl⟩
theorem r_laws_heldLockS_ok (n : Nat) : RwOk Go.Proofs.Try.prog tyK (r_laws_heldLockS n) :=
  ent_ok (fa := a_laws_heldLockS) (ls := [s_laws_heldLockS_0 n]) (cs := [c_laws_heldLockS_0]) (n := n) (es := [(r_laws_heldIntS n)]) mixedOk tbOk (ents_cons (r_laws_heldIntS_ok n) ents_nil) Go.Proofs.Try.func78 (by kernel_rfl) (by kernel_rfl) (by kernel_rfl) (LSsOk.cons _ _ (l := s_laws_heldLockS_0 n) (by kernel_rfl) (s_laws_heldLockS_0_ok n) (LSsOk.nil _ _)) (fun x => by kernel_rfl)
/-! loop.example/g00185/laws.heldGhostS -/
noncomputable def a_laws_heldGhostS : FnA := ⟨Go.Proofs.Try.f79, ⟨[], [], []⟩, 0⟩
def l_laws_heldGhostS_0 {α : Type} (n : Nat) : Nat → List Ghost → Int → Int → (Int → Option α) → (Int → Option α) → Option α
  | 0, _, _, _, _, _ => none
  | m0 + 1, v1, v2, v3, k0_0, k0_1 =>
    cond (decide (v3 < ((v1).length : Int)))
     (cond ((decide (0 ≤ v3)) && (decide (v3 < ((v1).length : Int))))
       (let e4 := (!(decide ((List.getD v1 (Int.toNat v3) (Kd.dflt .ghost)).Cpu = v2)))
        cond e4
         (k0_0 v2)
         (cond ((decide (0 ≤ v3)) && (decide (v3 < ((v1).length : Int))))
           (let e5 := (!(decide ((List.getD v1 (Int.toNat v3) (Kd.dflt .ghost)).S.Q = (w64 (v2 + 1)))))
            cond e5
             (k0_0 (w64 (v2 + 1)))
             (cond ((decide (0 ≤ v3)) && (decide (v3 < ((v1).length : Int))))
               (let e6 := (!(decide ((List.getD v1 (Int.toNat v3) (Kd.dflt .ghost)).S.P = (w64 ((w64 (v2 + 1)) + 1)))))
                cond e6
                 (k0_0 (w64 ((w64 (v2 + 1)) + 1)))
                 (cond ((decide (0 ≤ v3)) && (decide (v3 < ((v1).length : Int))))
                   (let e7 := (!(decide ((List.getD v1 (Int.toNat v3) (Kd.dflt .ghost)).Until = (w64 ((w64 ((w64 (v2 + 1)) + 1)) + 1)))))
                    cond e7
                     (k0_0 (w64 ((w64 ((w64 (v2 + 1)) + 1)) + 1)))
                     (l_laws_heldGhostS_0 n m0 v1 (w64 ((w64 ((w64 ((w64 (v2 + 1)) + 1)) + 1)) + 1)) (w64 (v3 + 1)) k0_0 k0_1))
                   (none)))
               (none)))
           (none)))
       (none))
     (k0_1 v2)
def f_laws_heldGhostS (n : Nat) (a0 : List Ghost) (a1 : Int) : Option (Int × Unit) :=
  l_laws_heldGhostS_0 n n a0 a1 0
   (fun w8 =>
    some ((-1), ()))
   (fun w9 =>
    some (w9, ()))
def r_laws_heldGhostS (n : Nat) : Rw := ⟨79, (.pair (.v (.ro .ghost)) (.pair (.v (.int)) .one)), (.pair .int .one), fun x => f_laws_heldGhostS n x.1.2 x.2.1⟩
def s_laws_heldGhostS_0 (n : Nat) : LS where
  la := ⟨2, [0, 1, 5], [], [], [1, 4], []⟩
  nt := 51
  kt := [0, 1, 5]
  hs := []
  X := Bool × List Ghost × Int × Int
  abs := fun vs es => match vs, es with | [.ro y0 .ghost y1, .int y2, .int y3], [] => some (y0, y1, y2, y3) | _, _ => none
  tms := fun x => [.ro x.1 .ghost x.2.1, .int x.2.2.1, .int x.2.2.2]
  ets := fun x => []
  run := fun m x k => l_laws_heldGhostS_0 n m x.2.1 x.2.2.1 x.2.2.2 (fun w0 => k .ret ⟨layT [1, 4] [.int w0, .int (-1)] 0 51, layH [] []⟩) (fun w0 => k (.exit 0) ⟨layT [1] [.int w0] 0 51, layH [] []⟩)
noncomputable def c_laws_heldGhostS_0 : Code := (Go.Proofs.Try.f79.body.bind (subLoop 2)).getD .skip
theorem s_laws_heldGhostS_0_ok (n : Nat) : LSok Tb tyK (orc []) n a_laws_heldGhostS.ann [s_laws_heldGhostS_0 n] c_laws_heldGhostS_0 (s_laws_heldGhostS_0 n) :=
  ⟨by intro vs es x h; dsimp only [s_laws_heldGhostS_0] at h; split at h; (· injection h with h; subst h; exact ⟨rfl, rfl⟩); (· cases h), fun _ _ => rfl, fun m x k => by kernel_rfl⟩
theorem r_laws_heldGhostS_ok (n : Nat) : RwOk Go.Proofs.Try.prog tyK (r_laws_heldGhostS n) :=
  ent_ok (fa := a_laws_heldGhostS) (ls := [s_laws_heldGhostS_0 n]) (cs := [c_laws_heldGhostS_0]) (n := n) (es := []) mixedOk tbOk ents_nil Go.Proofs.Try.func79 (by kernel_rfl) (by kernel_rfl) (by kernel_rfl) (LSsOk.cons _ _ (l := s_laws_heldGhostS_0 n) (by kernel_rfl) (s_laws_heldGhostS_0_ok n) (LSsOk.nil _ _)) (fun x => by kernel_rfl)
/-! loop.example/g00185/laws.heldTurnS -/
noncomputable def a_laws_heldTurnS : FnA := ⟨Go.Proofs.Try.f40, ⟨[], [], []⟩, 0⟩
def l_laws_heldTurnS_0 {α : Type} (n : Nat) : Nat → List Turn → Int → Int → (Int → Option α) → (Int → Option α) → Option α
  | 0, _, _, _, _, _ => none
  | m0 + 1, v1, v2, v3, k0_0, k0_1 =>
    cond (decide (v3 < ((v1).length : Int)))
     (cond ((decide (0 ≤ v3)) && (decide (v3 < ((v1).length : Int))))
       (let e4 := (!(decide ((List.getD v1 (Int.toNat v3) (Kd.dflt .turn)).Cpu = v2)))
        cond e4
         (k0_0 v2)
         (cond ((decide (0 ≤ v3)) && (decide (v3 < ((v1).length : Int))))
           (let e5 := (!(decide ((List.getD v1 (Int.toNat v3) (Kd.dflt .turn)).Context = (w64 (v2 + 1)))))
            cond e5
             (k0_0 (w64 (v2 + 1)))
             (cond ((decide (0 ≤ v3)) && (decide (v3 < ((v1).length : Int))))
               (let e6 := (!(decide ((List.getD v1 (Int.toNat v3) (Kd.dflt .turn)).Executor = (w64 ((w64 (v2 + 1)) + 1)))))
                cond e6
                 (k0_0 (w64 ((w64 (v2 + 1)) + 1)))
                 (l_laws_heldTurnS_0 n m0 v1 (w64 ((w64 ((w64 (v2 + 1)) + 1)) + 1)) (w64 (v3 + 1)) k0_0 k0_1))
               (none)))
           (none)))
       (none))
     (k0_1 v2)
def f_laws_heldTurnS (n : Nat) (a0 : List Turn) (a1 : Int) : Option (Int × Unit) :=
  l_laws_heldTurnS_0 n n a0 a1 0
   (fun w7 =>
    some ((-1), ()))
   (fun w8 =>
    some (w8, ()))
def r_laws_heldTurnS (n : Nat) : Rw := ⟨40, (.pair (.v (.ro .turn)) (.pair (.v (.int)) .one)), (.pair .int .one), fun x => f_laws_heldTurnS n x.1.2 x.2.1⟩
def s_laws_heldTurnS_0 (n : Nat) : LS where
  la := ⟨2, [0, 1, 5], [], [], [1, 4], []⟩
  nt := 40
  kt := [0, 1, 5]
  hs := []
  X := Bool × List Turn × Int × Int
  abs := fun vs es => match vs, es with | [.ro y0 .turn y1, .int y2, .int y3], [] => some (y0, y1, y2, y3) | _, _ => none
  tms := fun x => [.ro x.1 .turn x.2.1, .int x.2.2.1, .int x.2.2.2]
  ets := fun x => []
  run := fun m x k => l_laws_heldTurnS_0 n m x.2.1 x.2.2.1 x.2.2.2 (fun w0 => k .ret ⟨layT [1, 4] [.int w0, .int (-1)] 0 40, layH [] []⟩) (fun w0 => k (.exit 0) ⟨layT [1] [.int w0] 0 40, layH [] []⟩)
noncomputable def c_laws_heldTurnS_0 : Code := (Go.Proofs.Try.f40.body.bind (subLoop 2)).getD .skip
theorem s_laws_heldTurnS_0_ok (n : Nat) : LSok Tb tyK (orc []) n a_laws_heldTurnS.ann [s_laws_heldTurnS_0 n] c_laws_heldTurnS_0 (s_laws_heldTurnS_0 n) :=
  ⟨by intro vs es x h; dsimp only [s_laws_heldTurnS_0] at h; split at h; (· injection h with h; subst h; exact ⟨rfl, rfl⟩); (· cases h), fun _ _ => rfl, fun m x k => by kernel_rfl⟩
theorem r_laws_heldTurnS_ok (n : Nat) : RwOk Go.Proofs.Try.prog tyK (r_laws_heldTurnS n) :=
  ent_ok (fa := a_laws_heldTurnS) (ls := [s_laws_heldTurnS_0 n]) (cs := [c_laws_heldTurnS_0]) (n := n) (es := []) mixedOk tbOk ents_nil Go.Proofs.Try.func40 (by kernel_rfl) (by kernel_rfl) (by kernel_rfl) (LSsOk.cons _ _ (l := s_laws_heldTurnS_0 n) (by kernel_rfl) (s_laws_heldTurnS_0_ok n) (LSsOk.nil _ _)) (fun x => by kernel_rfl)
/-! loop.example/g00185/laws.heldSys -/
noncomputable def a_laws_heldSys : FnA := ⟨Go.Proofs.Try.f36, ⟨[(0, [(0, .slot 0 .int)]), (1, [(3, .call [.ro, .ro] .int [] [])]), (4, [(3, .call [.ro, .ro] .int [] [])]), (7, [(3, .call [.ro, .ro] .int [] [])]), (10, [(3, .call [.ro, .ro] .int [] [])]), (13, [(3, .call [.ro, .ro] .int [] [])])], [], []⟩, 1⟩
def f_laws_heldSys (n : Nat) (a0 : Sys) (a1 : Int) : Option (Int × Unit) :=
  (f_laws_heldTaskS n a0.Tasks a1).bind fun r1 =>
  cond (decide (r1.1 < 0))
   (some ((-1), ()))
   ((f_laws_heldLockS n a0.Locks r1.1).bind fun r2 =>
    cond (decide (r2.1 < 0))
     (some ((-1), ()))
     ((f_laws_heldGhostS n a0.Ghosts r2.1).bind fun r3 =>
      cond (decide (r3.1 < 0))
       (some ((-1), ()))
       ((f_laws_heldIntS n a0.Floors r3.1).bind fun r4 =>
        cond (decide (r4.1 < 0))
         (some ((-1), ()))
         ((f_laws_heldTurnS n a0.Trace r4.1).bind fun r5 =>
          cond (decide (r5.1 < 0))
           (some ((-1), ()))
           (some (r5.1, ()))))))
def r_laws_heldSys (n : Nat) : Rw := ⟨36, (.pair (.v (.agg (.pair .int (.pair .int (.pair (.ro .task) (.pair (.ro .lock) (.pair (.ro .ghost) (.pair (.ro .int) (.pair .int (.pair .int (.pair (.ro .turn) .one))))))))))) (.pair (.v (.int)) .one)), (.pair .int .one), fun x => f_laws_heldSys n (⟨x.1.1, x.1.2.1, x.1.2.2.1.2, x.1.2.2.2.1.2, x.1.2.2.2.2.1.2, x.1.2.2.2.2.2.1.2, x.1.2.2.2.2.2.2.1, x.1.2.2.2.2.2.2.2.1, x.1.2.2.2.2.2.2.2.2.1.2⟩ : Sys) x.2.1⟩
theorem r_laws_heldSys_ok (n : Nat) : RwOk Go.Proofs.Try.prog tyK (r_laws_heldSys n) :=
  ent_ok (fa := a_laws_heldSys) (ls := []) (cs := []) (n := n) (es := [(r_laws_heldTaskS n), (r_laws_heldLockS n), (r_laws_heldGhostS n), (r_laws_heldIntS n), (r_laws_heldTurnS n)]) mixedOk tbOk (ents_cons (r_laws_heldTaskS_ok n) (ents_cons (r_laws_heldLockS_ok n) (ents_cons (r_laws_heldGhostS_ok n) (ents_cons (r_laws_heldIntS_ok n) (ents_cons (r_laws_heldTurnS_ok n) ents_nil))))) Go.Proofs.Try.func36 (by kernel_rfl) (by kernel_rfl) (by kernel_rfl) (LSsOk.nil _ _) (fun x => by kernel_rfl)
/-! loop.example/g00185/laws.FnExactSysNew -/
noncomputable def a_laws_FnExactSysNew : FnA := ⟨Go.Proofs.Try.f9, ⟨[(1, [(1, .call [.ro] (.tup (.pair (.agg (.pair .int (.pair .int (.pair (.own .task) (.pair (.own .lock) (.pair (.own .ghost) (.pair (.own .int) (.pair .int (.pair .int (.pair (.own .turn) .one)))))))))) (.pair .bool .one))) [] [none, none, none, none, none]), (5, .slot 0 .int)]), (2, [(1, .call [.ro] (.tup (.pair (.agg (.pair .int (.pair .int (.pair (.own .task) (.pair (.own .lock) (.pair (.own .ghost) (.pair (.own .int) (.pair .int (.pair .int (.pair (.own .turn) .one)))))))))) (.pair .bool .one))) [] [some 1, some 2, some 3, some 4, some 5]), (5, .slot 6 .int)]), (3, [(2, .call [.ro, .ro] .bool [] [])]), (6, [(2, .call [.mv, .ro] .int [.agg (.pair .junk (.pair .junk (.pair (.own .task) (.pair (.own .lock) (.pair (.own .ghost) (.pair (.own .int) (.pair .junk (.pair .junk (.pair (.own .turn) .one)))))))))] [])]), (8, [(2, .call [.ro, .ro] .int [] [])]), (13, [(1, .call [.ro] (.tup (.pair (.agg (.pair .int (.pair .int (.pair (.own .task) (.pair (.own .lock) (.pair (.own .ghost) (.pair (.own .int) (.pair .int (.pair .int (.pair (.own .turn) .one)))))))))) (.pair .bool .one))) [] [none, none, none, none, none]), (5, .slot 7 .int)]), (14, [(2, .call [.ro, .ro] .bool [] [])]), (17, [(2, .call [.ro, .ro] .int [] [])])], [], []⟩, 8⟩
def f_laws_FnExactSysNew (n : Nat) (a0 : Int) : Option (Bool × Unit) :=
  (f_spec_SysNew a0).bind fun r1 =>
  (f_impl_SysNew_1 a0).bind fun r2 =>
  (f_laws_eqSys n (dnSys r2.1.1) (dnSys r1.1.1)).bind fun r3 =>
  cond (!r3.1)
   (some (false, ()))
   (cond (!(r2.1.2.1 == r1.1.2.1))
     (some (false, ()))
     ((f_laws_markSys n (dnSys r2.1.1) 1).bind fun r4 =>
      (f_laws_heldSys n (⟨(dnSys r2.1.1).Now, (dnSys r2.1.1).Cpus, r4.2.1.2.2.1, r4.2.1.2.2.2.1, r4.2.1.2.2.2.2.1, r4.2.1.2.2.2.2.2.1, (dnSys r2.1.1).Seq, (dnSys r2.1.1).Missed, r4.2.1.2.2.2.2.2.2.2.2.1⟩ : Sys) 1).bind fun r5 =>
      cond (decide (r5.1 < 0))
       (some (false, ()))
       (cond (!(decide (r5.1 = r4.1)))
         (some (false, ()))
         ((f_impl_SysNew a0).bind fun r6 =>
          (f_laws_eqSys n (dnSys r6.1.1) (dnSys r1.1.1)).bind fun r7 =>
          cond (!r7.1)
           (some (false, ()))
           (cond (!(r6.1.2.1 == r1.1.2.1))
             (some (false, ()))
             ((f_laws_heldSys n (⟨(dnSys r2.1.1).Now, (dnSys r2.1.1).Cpus, r4.2.1.2.2.1, r4.2.1.2.2.2.1, r4.2.1.2.2.2.2.1, r4.2.1.2.2.2.2.2.1, (dnSys r2.1.1).Seq, (dnSys r2.1.1).Missed, r4.2.1.2.2.2.2.2.2.2.2.1⟩ : Sys) 1).bind fun r8 =>
              cond (decide (r8.1 < 0))
               (some (false, ()))
               (cond (!(decide (r8.1 = r4.1)))
                 (some (false, ()))
                 (some (true, ())))))))))
def r_laws_FnExactSysNew (n : Nat) : Rw := ⟨9, (.pair (.v (.int)) .one), (.pair .bool .one), fun x => f_laws_FnExactSysNew n x.1⟩
theorem r_laws_FnExactSysNew_ok (n : Nat) : RwOk Go.Proofs.Try.prog tyK (r_laws_FnExactSysNew n) :=
  ent_ok (fa := a_laws_FnExactSysNew) (ls := []) (cs := []) (n := n) (es := [r_spec_SysNew, r_impl_SysNew_1, (r_laws_eqSys n), (r_laws_markSys n), (r_laws_heldSys n), r_impl_SysNew]) mixedOk tbOk (ents_cons (r_spec_SysNew_ok) (ents_cons (r_impl_SysNew_1_ok) (ents_cons (r_laws_eqSys_ok n) (ents_cons (r_laws_markSys_ok n) (ents_cons (r_laws_heldSys_ok n) (ents_cons (r_impl_SysNew_ok) ents_nil)))))) Go.Proofs.Try.func9 (by kernel_rfl) (by kernel_rfl) (by kernel_rfl) (LSsOk.nil _ _) (fun x => by kernel_rfl)
/-! loop.example/g00185/spec.l1Max -/
noncomputable def a_spec_l1Max : FnA := ⟨Go.Proofs.Try.f81, ⟨[], [], []⟩, 0⟩
def f_spec_l1Max (a0 : Int) (a1 : Int) : Option (Int × Unit) :=
  cond (decide (a1 < a0))
   (some (a0, ()))
   (some (a1, ()))
def r_spec_l1Max : Rw := ⟨81, (.pair (.v (.int)) (.pair (.v (.int)) .one)), (.pair .int .one), fun x => f_spec_l1Max x.1 x.2.1⟩
theorem r_spec_l1Max_ok : RwOk Go.Proofs.Try.prog tyK (r_spec_l1Max) :=
  ent_ok (fa := a_spec_l1Max) (ls := []) (cs := []) (n := 0) (es := []) mixedOk tbOk ents_nil Go.Proofs.Try.func81 (by kernel_rfl) (by kernel_rfl) (by kernel_rfl) (LSsOk.nil _ _) (fun x => by kernel_rfl)
/-! loop.example/g00185/spec.LastTurns -/
noncomputable def a_spec_LastTurns : FnA := ⟨Go.Proofs.Try.f37, ⟨[(0, [(0, .slot 0 .int)]), (1, [(5, .call [.ro, .ro] .int [] []), (7, .call [.ro, .ro] .int [] [])]), (2, [(0, .slot 1 .turn), (5, .slot 2 .turn)])], [(1, [([0], []), ([0], []), ([], []), ([0], []), ([0], []), ([], []), ([], []), ([], []), ([], [])])], []⟩, 3⟩
def f_spec_LastTurns (a0 : Sys) : Option (List Turn × Unit) :=
  (f_spec_l1Max a0.Cpus 0).bind fun r1 =>
  (f_spec_l1Max (w64 (((a0.Trace).length : Int) - r1.1)) 0).bind fun r2 =>
  cond (((decide (0 ≤ r2.1)) && (decide (r2.1 ≤ ((a0.Trace).length : Int)))) && (decide (((a0.Trace).length : Int) ≤ ((a0.Trace).length : Int))))
   (cond (decide ((([] : List Turn)).length + ((List.drop (Int.toNat r2.1) (List.take (Int.toNat ((a0.Trace).length : Int)) a0.Trace))).length ≤ lim))
     (let e3 := (([] : List Turn) ++ (List.drop (Int.toNat r2.1) (List.take (Int.toNat ((a0.Trace).length : Int)) a0.Trace)))
      some (e3, ()))
     (none))
   (none)
def r_spec_LastTurns : Rw := ⟨37, (.pair (.v (.agg (.pair .int (.pair .int (.pair (.ro .task) (.pair (.ro .lock) (.pair (.ro .ghost) (.pair (.ro .int) (.pair .int (.pair .int (.pair (.ro .turn) .one))))))))))) .one), (.pair (.own .turn) .one), fun x => f_spec_LastTurns (⟨x.1.1, x.1.2.1, x.1.2.2.1.2, x.1.2.2.2.1.2, x.1.2.2.2.2.1.2, x.1.2.2.2.2.2.1.2, x.1.2.2.2.2.2.2.1, x.1.2.2.2.2.2.2.2.1, x.1.2.2.2.2.2.2.2.2.1.2⟩ : Sys)⟩
theorem r_spec_LastTurns_ok : RwOk Go.Proofs.Try.prog tyK (r_spec_LastTurns) :=
  ent_ok (fa := a_spec_LastTurns) (ls := []) (cs := []) (n := 0) (es := [r_spec_l1Max]) mixedOk tbOk (ents_cons (r_spec_l1Max_ok) ents_nil) Go.Proofs.Try.func37 (by kernel_rfl) (by kernel_rfl) (by kernel_rfl) (LSsOk.nil _ _) (fun x => by kernel_rfl)
/-! slices.Clone[[]loop.example/g00185/impl.Turn,loop.example/g00185/impl.Turn] -/
noncomputable def a_slices_Clone_Turn_ne : FnA := ⟨Go.Proofs.Try.f82, ⟨[(3, [(0, .slot 0 .turn), (2, .slot 1 .turn)])], [], []⟩, 2⟩
def f_slices_Clone_Turn_ne (a0 : List Turn) : Option (List Turn × Unit) :=
  cond (List.isEmpty a0)
   (none)
   (cond (decide ((([] : List Turn)).length + (a0).length ≤ lim))
     (some ((([] : List Turn) ++ a0), ()))
     (none))
def r_slices_Clone_Turn_ne : Rw := ⟨82, (.pair (.v (.ro .turn)) .one), (.pair (.own .turn) .one), fun x => f_slices_Clone_Turn_ne x.1.2⟩
theorem r_slices_Clone_Turn_ne_ok : RwOk Go.Proofs.Try.prog tyK (r_slices_Clone_Turn_ne) :=
  ent_ok (fa := a_slices_Clone_Turn_ne) (ls := []) (cs := []) (n := 0) (es := []) mixedOk tbOk ents_nil Go.Proofs.Try.func82 (by kernel_rfl) (by kernel_rfl) (by kernel_rfl) (LSsOk.nil _ _) (fun x => by kernel_rfl)
/-! slices.Clone[[]loop.example/g00185/impl.Turn,loop.example/g00185/impl.Turn] -/
noncomputable def a_slices_Clone_Turn_nil : FnA := ⟨Go.Proofs.Try.f82, ⟨[], [], []⟩, 0⟩
def f_slices_Clone_Turn_nil  : Option (List Turn × Unit) :=
  some ([], ())
def r_slices_Clone_Turn_nil : Rw := ⟨82, (.pair (.v (.em true)) .one), (.pair (.own .turn) .one), fun x => f_slices_Clone_Turn_nil ⟩
theorem r_slices_Clone_Turn_nil_ok : RwOk Go.Proofs.Try.prog tyK (r_slices_Clone_Turn_nil) :=
  ent_ok (fa := a_slices_Clone_Turn_nil) (ls := []) (cs := []) (n := 0) (es := []) mixedOk tbOk ents_nil Go.Proofs.Try.func82 (by kernel_rfl) (by kernel_rfl) (by kernel_rfl) (LSsOk.nil _ _) (fun x => by kernel_rfl)
/-! slices.Clone[[]loop.example/g00185/impl.Turn,loop.example/g00185/impl.Turn] -/
noncomputable def a_slices_Clone_Turn_emp : FnA := ⟨Go.Proofs.Try.f82, ⟨[(3, [(0, .slot 0 .turn), (2, .slot 1 .turn)])], [], []⟩, 2⟩
def f_slices_Clone_Turn_emp  : Option (List Turn × Unit) :=
  cond (decide ((([] : List Turn)).length + (([] : List Turn)).length ≤ lim))
   (some ((([] : List Turn) ++ ([] : List Turn)), ()))
   (none)
def r_slices_Clone_Turn_emp : Rw := ⟨82, (.pair (.v (.em false)) .one), (.pair (.own .turn) .one), fun x => f_slices_Clone_Turn_emp ⟩
theorem r_slices_Clone_Turn_emp_ok : RwOk Go.Proofs.Try.prog tyK (r_slices_Clone_Turn_emp) :=
  ent_ok (fa := a_slices_Clone_Turn_emp) (ls := []) (cs := []) (n := 0) (es := []) mixedOk tbOk ents_nil Go.Proofs.Try.func82 (by kernel_rfl) (by kernel_rfl) (by kernel_rfl) (LSsOk.nil _ _) (fun x => by kernel_rfl)
/-! slices.Clone[[]loop.example/g00185/impl.Turn,loop.example/g00185/impl.Turn] -/
def f_slices_Clone_Turn (a0 : List Turn) : Option (List Turn × Unit) := cond (decide ((a0).length ≤ lim)) (some (a0, ())) none
def r_slices_Clone_Turn : Rw := ⟨82, (.pair (.v (.ro .turn)) .one), (.pair (.own .turn) .one), fun x => f_slices_Clone_Turn x.1.2⟩
theorem r_slices_Clone_Turn_ok : RwOk Go.Proofs.Try.prog tyK r_slices_Clone_Turn := clone_ok (k := .turn) (g := f_slices_Clone_Turn_ne) r_slices_Clone_Turn_ne_ok r_slices_Clone_Turn_nil_ok r_slices_Clone_Turn_emp_ok (by intro xs h hl; simp [f_slices_Clone_Turn_ne, h, hl]) rfl rfl
/-! loop.example/g00185/impl.LastTurns -/
noncomputable def a_impl_LastTurns : FnA := ⟨Go.Proofs.Try.f38, ⟨[(0, [(0, .slot 0 .int)]), (3, [(10, .call [.ro] (.own .turn) [] [none])])], [], []⟩, 1⟩
def f_impl_LastTurns (a0 : Sys) : Option (List Turn × Unit) :=
  cond (decide (a0.Cpus < 1))
   (some ([], ()))
   (let e1 := (if (w64 (((a0.Trace).length : Int) - a0.Cpus)) > 0 then (w64 (((a0.Trace).length : Int) - a0.Cpus)) else 0)
    cond (((decide (0 ≤ e1)) && (decide (e1 ≤ ((a0.Trace).length : Int)))) && (decide (((a0.Trace).length : Int) ≤ ((a0.Trace).length : Int))))
     ((f_slices_Clone_Turn (List.drop (Int.toNat e1) (List.take (Int.toNat ((a0.Trace).length : Int)) a0.Trace))).bind fun r2 =>
      some (r2.1, ()))
     (none))
def r_impl_LastTurns : Rw := ⟨38, (.pair (.v (.agg (.pair .int (.pair .int (.pair (.ro .task) (.pair (.ro .lock) (.pair (.ro .ghost) (.pair (.ro .int) (.pair .int (.pair .int (.pair (.ro .turn) .one))))))))))) .one), (.pair (.ro .turn) .one), fun x => f_impl_LastTurns (⟨x.1.1, x.1.2.1, x.1.2.2.1.2, x.1.2.2.2.1.2, x.1.2.2.2.2.1.2, x.1.2.2.2.2.2.1.2, x.1.2.2.2.2.2.2.1, x.1.2.2.2.2.2.2.2.1, x.1.2.2.2.2.2.2.2.2.1.2⟩ : Sys)⟩
theorem r_impl_LastTurns_ok : RwOk Go.Proofs.Try.prog tyK (r_impl_LastTurns) :=
  ent_ok (fa := a_impl_LastTurns) (ls := []) (cs := []) (n := 0) (es := [r_slices_Clone_Turn]) mixedOk tbOk (ents_cons (r_slices_Clone_Turn_ok) ents_nil) Go.Proofs.Try.func38 (by kernel_rfl) (by kernel_rfl) (by kernel_rfl) (LSsOk.nil _ _) (fun x => by kernel_rfl)
/-! loop.example/g00185/laws.toSys -/
noncomputable def a_laws_toSys_1 : FnA := ⟨Go.Proofs.Try.f28, ⟨[(0, [(0, .slot 0 .int), (1, .slot 1 .int)]), (1, [(0, .slot 2 .int)]), (4, [(2, .call [.ro] (.own .task) [] [some 3])]), (5, [(2, .call [.ro] (.own .lock) [] [some 4])]), (6, [(2, .call [.ro] (.own .ghost) [] [some 5])]), (7, [(2, .call [.ro] (.own .int) [] [some 6])]), (10, [(2, .call [.ro] (.own .turn) [] [some 7])])], [], []⟩, 8⟩
def f_laws_toSys_1 (n : Nat) (a0 : Sys) : Option (SysT × Unit) :=
  (f_laws_toTaskS n a0.Tasks).bind fun r1 =>
  (f_laws_toLockS n a0.Locks).bind fun r2 =>
  (f_laws_toGhostS n a0.Ghosts).bind fun r3 =>
  (f_laws_toIntS n a0.Floors).bind fun r4 =>
  (f_laws_toTurnS n a0.Trace).bind fun r5 =>
  some ((upSys (⟨a0.Now, a0.Cpus, r1.1, r2.1, r3.1, r4.1, a0.Seq, a0.Missed, r5.1⟩ : Sys)), ())
def r_laws_toSys_1 (n : Nat) : Rw := ⟨28, (.pair (.v (.agg (.pair .int (.pair .int (.pair (.ro .task) (.pair (.ro .lock) (.pair (.ro .ghost) (.pair (.ro .int) (.pair .int (.pair .int (.pair (.ro .turn) .one))))))))))) .one), (.pair (.agg (.pair .int (.pair .int (.pair (.own .task) (.pair (.own .lock) (.pair (.own .ghost) (.pair (.own .int) (.pair .int (.pair .int (.pair (.own .turn) .one)))))))))) .one), fun x => f_laws_toSys_1 n (⟨x.1.1, x.1.2.1, x.1.2.2.1.2, x.1.2.2.2.1.2, x.1.2.2.2.2.1.2, x.1.2.2.2.2.2.1.2, x.1.2.2.2.2.2.2.1, x.1.2.2.2.2.2.2.2.1, x.1.2.2.2.2.2.2.2.2.1.2⟩ : Sys)⟩
theorem r_laws_toSys_1_ok (n : Nat) : RwOk Go.Proofs.Try.prog tyK (r_laws_toSys_1 n) :=
  ent_ok (fa := a_laws_toSys_1) (ls := []) (cs := []) (n := n) (es := [(r_laws_toTaskS n), (r_laws_toLockS n), (r_laws_toGhostS n), (r_laws_toIntS n), (r_laws_toTurnS n)]) mixedOk tbOk (ents_cons (r_laws_toTaskS_ok n) (ents_cons (r_laws_toLockS_ok n) (ents_cons (r_laws_toGhostS_ok n) (ents_cons (r_laws_toIntS_ok n) (ents_cons (r_laws_toTurnS_ok n) ents_nil))))) Go.Proofs.Try.func28 (by kernel_rfl) (by kernel_rfl) (by kernel_rfl) (LSsOk.nil _ _) (fun x => by kernel_rfl)
/-! loop.example/g00185/impl.LastTurns -/
noncomputable def a_impl_LastTurns_1 : FnA := ⟨Go.Proofs.Try.f38, ⟨[(0, [(0, .slot 0 .int)]), (3, [(10, .call [.ro] (.own .turn) [] [some 1])])], [], []⟩, 2⟩
def f_impl_LastTurns_1 (a0 : Sys) : Option (List Turn × Unit) :=
  cond (decide (a0.Cpus < 1))
   (some ([], ()))
   (let e1 := (if (w64 (((a0.Trace).length : Int) - a0.Cpus)) > 0 then (w64 (((a0.Trace).length : Int) - a0.Cpus)) else 0)
    cond (((decide (0 ≤ e1)) && (decide (e1 ≤ ((a0.Trace).length : Int)))) && (decide (((a0.Trace).length : Int) ≤ ((a0.Trace).length : Int))))
     ((f_slices_Clone_Turn (List.drop (Int.toNat e1) (List.take (Int.toNat ((a0.Trace).length : Int)) a0.Trace))).bind fun r2 =>
      some (r2.1, ()))
     (none))
def r_impl_LastTurns_1 : Rw := ⟨38, (.pair (.v (.agg (.pair .int (.pair .int (.pair (.ro .task) (.pair (.ro .lock) (.pair (.ro .ghost) (.pair (.ro .int) (.pair .int (.pair .int (.pair (.ro .turn) .one))))))))))) .one), (.pair (.own .turn) .one), fun x => f_impl_LastTurns_1 (⟨x.1.1, x.1.2.1, x.1.2.2.1.2, x.1.2.2.2.1.2, x.1.2.2.2.2.1.2, x.1.2.2.2.2.2.1.2, x.1.2.2.2.2.2.2.1, x.1.2.2.2.2.2.2.2.1, x.1.2.2.2.2.2.2.2.2.1.2⟩ : Sys)⟩
theorem r_impl_LastTurns_1_ok : RwOk Go.Proofs.Try.prog tyK (r_impl_LastTurns_1) :=
  ent_ok (fa := a_impl_LastTurns_1) (ls := []) (cs := []) (n := 0) (es := [r_slices_Clone_Turn]) mixedOk tbOk (ents_cons (r_slices_Clone_Turn_ok) ents_nil) Go.Proofs.Try.func38 (by kernel_rfl) (by kernel_rfl) (by kernel_rfl) (LSsOk.nil _ _) (fun x => by kernel_rfl)
end Go.Proofs.Ytoedeimpfbebpaa.VR
