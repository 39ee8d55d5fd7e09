/- Functions, printed by program (wip/gen/emit.py). -/
import Derived.Test.YtoedeimpfbebpaaG02
set_option linter.unusedVariables false
set_option maxRecDepth 100000
namespace Go.Proofs.Ytoedeimpfbebpaa.VR
open Go
/-! loop.example/g00185/laws.markTaskS -/
noncomputable def a_laws_markTaskS : FnA := ⟨Go.Proofs.Try.f73, ⟨[], [], []⟩, 1⟩
def l_laws_markTaskS_0 {α : Type} (n : Nat) : Nat → List Task → Int → Int → (Int → List Task → Option α) → Option α
  | 0, _, _, _, _ => none
  | m0 + 1, v1, v2, v3, k0_0 =>
    cond (decide (v3 < ((v1).length : Int)))
     (cond ((decide (0 ≤ v3)) && (decide (v3 < ((v1).length : Int))))
       (cond (decide ((Int.toNat v3) < (v1).length))
         (let e4 := (List.set v1 (Int.toNat v3) (⟨v2, (List.getD v1 (Int.toNat v3) (Kd.dflt .task)).Class, (List.getD v1 (Int.toNat v3) (Kd.dflt .task)).Cpu, (List.getD v1 (Int.toNat v3) (Kd.dflt .task)).State, (List.getD v1 (Int.toNat v3) (Kd.dflt .task)).Idle, (List.getD v1 (Int.toNat v3) (Kd.dflt .task)).Q, (List.getD v1 (Int.toNat v3) (Kd.dflt .task)).P, (List.getD v1 (Int.toNat v3) (Kd.dflt .task)).Left, (List.getD v1 (Int.toNat v3) (Kd.dflt .task)).Due, (List.getD v1 (Int.toNat v3) (Kd.dflt .task)).Prio, (List.getD v1 (Int.toNat v3) (Kd.dflt .task)).Round, (List.getD v1 (Int.toNat v3) (Kd.dflt .task)).Seq, (List.getD v1 (Int.toNat v3) (Kd.dflt .task)).Nice, (List.getD v1 (Int.toNat v3) (Kd.dflt .task)).V⟩ : Task))
          cond ((decide (0 ≤ v3)) && (decide (v3 < ((e4).length : Int))))
           (cond (decide ((Int.toNat v3) < (e4).length))
             (let e5 := (List.set e4 (Int.toNat v3) (⟨(List.getD e4 (Int.toNat v3) (Kd.dflt .task)).No, (w64 (v2 + 1)), (List.getD e4 (Int.toNat v3) (Kd.dflt .task)).Cpu, (List.getD e4 (Int.toNat v3) (Kd.dflt .task)).State, (List.getD e4 (Int.toNat v3) (Kd.dflt .task)).Idle, (List.getD e4 (Int.toNat v3) (Kd.dflt .task)).Q, (List.getD e4 (Int.toNat v3) (Kd.dflt .task)).P, (List.getD e4 (Int.toNat v3) (Kd.dflt .task)).Left, (List.getD e4 (Int.toNat v3) (Kd.dflt .task)).Due, (List.getD e4 (Int.toNat v3) (Kd.dflt .task)).Prio, (List.getD e4 (Int.toNat v3) (Kd.dflt .task)).Round, (List.getD e4 (Int.toNat v3) (Kd.dflt .task)).Seq, (List.getD e4 (Int.toNat v3) (Kd.dflt .task)).Nice, (List.getD e4 (Int.toNat v3) (Kd.dflt .task)).V⟩ : Task))
              cond ((decide (0 ≤ v3)) && (decide (v3 < ((e5).length : Int))))
               (cond (decide ((Int.toNat v3) < (e5).length))
                 (let e6 := (List.set e5 (Int.toNat v3) (⟨(List.getD e5 (Int.toNat v3) (Kd.dflt .task)).No, (List.getD e5 (Int.toNat v3) (Kd.dflt .task)).Class, (w64 ((w64 (v2 + 1)) + 1)), (List.getD e5 (Int.toNat v3) (Kd.dflt .task)).State, (List.getD e5 (Int.toNat v3) (Kd.dflt .task)).Idle, (List.getD e5 (Int.toNat v3) (Kd.dflt .task)).Q, (List.getD e5 (Int.toNat v3) (Kd.dflt .task)).P, (List.getD e5 (Int.toNat v3) (Kd.dflt .task)).Left, (List.getD e5 (Int.toNat v3) (Kd.dflt .task)).Due, (List.getD e5 (Int.toNat v3) (Kd.dflt .task)).Prio, (List.getD e5 (Int.toNat v3) (Kd.dflt .task)).Round, (List.getD e5 (Int.toNat v3) (Kd.dflt .task)).Seq, (List.getD e5 (Int.toNat v3) (Kd.dflt .task)).Nice, (List.getD e5 (Int.toNat v3) (Kd.dflt .task)).V⟩ : Task))
                  cond ((decide (0 ≤ v3)) && (decide (v3 < ((e6).length : Int))))
                   (cond (decide ((Int.toNat v3) < (e6).length))
                     (let e7 := (List.set e6 (Int.toNat v3) (⟨(List.getD e6 (Int.toNat v3) (Kd.dflt .task)).No, (List.getD e6 (Int.toNat v3) (Kd.dflt .task)).Class, (List.getD e6 (Int.toNat v3) (Kd.dflt .task)).Cpu, (w64 ((w64 ((w64 (v2 + 1)) + 1)) + 1)), (List.getD e6 (Int.toNat v3) (Kd.dflt .task)).Idle, (List.getD e6 (Int.toNat v3) (Kd.dflt .task)).Q, (List.getD e6 (Int.toNat v3) (Kd.dflt .task)).P, (List.getD e6 (Int.toNat v3) (Kd.dflt .task)).Left, (List.getD e6 (Int.toNat v3) (Kd.dflt .task)).Due, (List.getD e6 (Int.toNat v3) (Kd.dflt .task)).Prio, (List.getD e6 (Int.toNat v3) (Kd.dflt .task)).Round, (List.getD e6 (Int.toNat v3) (Kd.dflt .task)).Seq, (List.getD e6 (Int.toNat v3) (Kd.dflt .task)).Nice, (List.getD e6 (Int.toNat v3) (Kd.dflt .task)).V⟩ : Task))
                      let e8 := (Int.tmod (w64 ((w64 ((w64 ((w64 (v2 + 1)) + 1)) + 1)) + 1)) 3)
                      cond ((decide (0 ≤ v3)) && (decide (v3 < ((e7).length : Int))))
                       (cond (decide ((Int.toNat v3) < (e7).length))
                         (let e9 := (List.set e7 (Int.toNat v3) (⟨(List.getD e7 (Int.toNat v3) (Kd.dflt .task)).No, (List.getD e7 (Int.toNat v3) (Kd.dflt .task)).Class, (List.getD e7 (Int.toNat v3) (Kd.dflt .task)).Cpu, (List.getD e7 (Int.toNat v3) (Kd.dflt .task)).State, (decide (e8 = 0)), (List.getD e7 (Int.toNat v3) (Kd.dflt .task)).Q, (List.getD e7 (Int.toNat v3) (Kd.dflt .task)).P, (List.getD e7 (Int.toNat v3) (Kd.dflt .task)).Left, (List.getD e7 (Int.toNat v3) (Kd.dflt .task)).Due, (List.getD e7 (Int.toNat v3) (Kd.dflt .task)).Prio, (List.getD e7 (Int.toNat v3) (Kd.dflt .task)).Round, (List.getD e7 (Int.toNat v3) (Kd.dflt .task)).Seq, (List.getD e7 (Int.toNat v3) (Kd.dflt .task)).Nice, (List.getD e7 (Int.toNat v3) (Kd.dflt .task)).V⟩ : Task))
                          let e10 := (w64 ((w64 ((w64 ((w64 ((w64 (v2 + 1)) + 1)) + 1)) + 1)) + 1))
                          cond ((decide (0 ≤ v3)) && (decide (v3 < ((e9).length : Int))))
                           (cond (decide ((Int.toNat v3) < (e9).length))
                             (let e11 := (List.set e9 (Int.toNat v3) (⟨(List.getD e9 (Int.toNat v3) (Kd.dflt .task)).No, (List.getD e9 (Int.toNat v3) (Kd.dflt .task)).Class, (List.getD e9 (Int.toNat v3) (Kd.dflt .task)).Cpu, (List.getD e9 (Int.toNat v3) (Kd.dflt .task)).State, (List.getD e9 (Int.toNat v3) (Kd.dflt .task)).Idle, e10, (List.getD e9 (Int.toNat v3) (Kd.dflt .task)).P, (List.getD e9 (Int.toNat v3) (Kd.dflt .task)).Left, (List.getD e9 (Int.toNat v3) (Kd.dflt .task)).Due, (List.getD e9 (Int.toNat v3) (Kd.dflt .task)).Prio, (List.getD e9 (Int.toNat v3) (Kd.dflt .task)).Round, (List.getD e9 (Int.toNat v3) (Kd.dflt .task)).Seq, (List.getD e9 (Int.toNat v3) (Kd.dflt .task)).Nice, (List.getD e9 (Int.toNat v3) (Kd.dflt .task)).V⟩ : Task))
                              cond ((decide (0 ≤ v3)) && (decide (v3 < ((e11).length : Int))))
                               (cond (decide ((Int.toNat v3) < (e11).length))
                                 (let e12 := (List.set e11 (Int.toNat v3) (⟨(List.getD e11 (Int.toNat v3) (Kd.dflt .task)).No, (List.getD e11 (Int.toNat v3) (Kd.dflt .task)).Class, (List.getD e11 (Int.toNat v3) (Kd.dflt .task)).Cpu, (List.getD e11 (Int.toNat v3) (Kd.dflt .task)).State, (List.getD e11 (Int.toNat v3) (Kd.dflt .task)).Idle, (List.getD e11 (Int.toNat v3) (Kd.dflt .task)).Q, (w64 (e10 + 1)), (List.getD e11 (Int.toNat v3) (Kd.dflt .task)).Left, (List.getD e11 (Int.toNat v3) (Kd.dflt .task)).Due, (List.getD e11 (Int.toNat v3) (Kd.dflt .task)).Prio, (List.getD e11 (Int.toNat v3) (Kd.dflt .task)).Round, (List.getD e11 (Int.toNat v3) (Kd.dflt .task)).Seq, (List.getD e11 (Int.toNat v3) (Kd.dflt .task)).Nice, (List.getD e11 (Int.toNat v3) (Kd.dflt .task)).V⟩ : Task))
                                  cond ((decide (0 ≤ v3)) && (decide (v3 < ((e12).length : Int))))
                                   (cond (decide ((Int.toNat v3) < (e12).length))
                                     (let e13 := (List.set e12 (Int.toNat v3) (⟨(List.getD e12 (Int.toNat v3) (Kd.dflt .task)).No, (List.getD e12 (Int.toNat v3) (Kd.dflt .task)).Class, (List.getD e12 (Int.toNat v3) (Kd.dflt .task)).Cpu, (List.getD e12 (Int.toNat v3) (Kd.dflt .task)).State, (List.getD e12 (Int.toNat v3) (Kd.dflt .task)).Idle, (List.getD e12 (Int.toNat v3) (Kd.dflt .task)).Q, (List.getD e12 (Int.toNat v3) (Kd.dflt .task)).P, (w64 ((w64 (e10 + 1)) + 1)), (List.getD e12 (Int.toNat v3) (Kd.dflt .task)).Due, (List.getD e12 (Int.toNat v3) (Kd.dflt .task)).Prio, (List.getD e12 (Int.toNat v3) (Kd.dflt .task)).Round, (List.getD e12 (Int.toNat v3) (Kd.dflt .task)).Seq, (List.getD e12 (Int.toNat v3) (Kd.dflt .task)).Nice, (List.getD e12 (Int.toNat v3) (Kd.dflt .task)).V⟩ : Task))
                                      cond ((decide (0 ≤ v3)) && (decide (v3 < ((e13).length : Int))))
                                       (cond (decide ((Int.toNat v3) < (e13).length))
                                         (let e14 := (List.set e13 (Int.toNat v3) (⟨(List.getD e13 (Int.toNat v3) (Kd.dflt .task)).No, (List.getD e13 (Int.toNat v3) (Kd.dflt .task)).Class, (List.getD e13 (Int.toNat v3) (Kd.dflt .task)).Cpu, (List.getD e13 (Int.toNat v3) (Kd.dflt .task)).State, (List.getD e13 (Int.toNat v3) (Kd.dflt .task)).Idle, (List.getD e13 (Int.toNat v3) (Kd.dflt .task)).Q, (List.getD e13 (Int.toNat v3) (Kd.dflt .task)).P, (List.getD e13 (Int.toNat v3) (Kd.dflt .task)).Left, (w64 ((w64 ((w64 (e10 + 1)) + 1)) + 1)), (List.getD e13 (Int.toNat v3) (Kd.dflt .task)).Prio, (List.getD e13 (Int.toNat v3) (Kd.dflt .task)).Round, (List.getD e13 (Int.toNat v3) (Kd.dflt .task)).Seq, (List.getD e13 (Int.toNat v3) (Kd.dflt .task)).Nice, (List.getD e13 (Int.toNat v3) (Kd.dflt .task)).V⟩ : Task))
                                          cond ((decide (0 ≤ v3)) && (decide (v3 < ((e14).length : Int))))
                                           (cond (decide ((Int.toNat v3) < (e14).length))
                                             (let e15 := (List.set e14 (Int.toNat v3) (⟨(List.getD e14 (Int.toNat v3) (Kd.dflt .task)).No, (List.getD e14 (Int.toNat v3) (Kd.dflt .task)).Class, (List.getD e14 (Int.toNat v3) (Kd.dflt .task)).Cpu, (List.getD e14 (Int.toNat v3) (Kd.dflt .task)).State, (List.getD e14 (Int.toNat v3) (Kd.dflt .task)).Idle, (List.getD e14 (Int.toNat v3) (Kd.dflt .task)).Q, (List.getD e14 (Int.toNat v3) (Kd.dflt .task)).P, (List.getD e14 (Int.toNat v3) (Kd.dflt .task)).Left, (List.getD e14 (Int.toNat v3) (Kd.dflt .task)).Due, (w64 ((w64 ((w64 ((w64 (e10 + 1)) + 1)) + 1)) + 1)), (List.getD e14 (Int.toNat v3) (Kd.dflt .task)).Round, (List.getD e14 (Int.toNat v3) (Kd.dflt .task)).Seq, (List.getD e14 (Int.toNat v3) (Kd.dflt .task)).Nice, (List.getD e14 (Int.toNat v3) (Kd.dflt .task)).V⟩ : Task))
                                              let e16 := (w64 ((w64 ((w64 ((w64 ((w64 (e10 + 1)) + 1)) + 1)) + 1)) + 1))
                                              cond ((decide (0 ≤ v3)) && (decide (v3 < ((e15).length : Int))))
                                               (cond (decide ((Int.toNat v3) < (e15).length))
                                                 (let e17 := (List.set e15 (Int.toNat v3) (⟨(List.getD e15 (Int.toNat v3) (Kd.dflt .task)).No, (List.getD e15 (Int.toNat v3) (Kd.dflt .task)).Class, (List.getD e15 (Int.toNat v3) (Kd.dflt .task)).Cpu, (List.getD e15 (Int.toNat v3) (Kd.dflt .task)).State, (List.getD e15 (Int.toNat v3) (Kd.dflt .task)).Idle, (List.getD e15 (Int.toNat v3) (Kd.dflt .task)).Q, (List.getD e15 (Int.toNat v3) (Kd.dflt .task)).P, (List.getD e15 (Int.toNat v3) (Kd.dflt .task)).Left, (List.getD e15 (Int.toNat v3) (Kd.dflt .task)).Due, (List.getD e15 (Int.toNat v3) (Kd.dflt .task)).Prio, e16, (List.getD e15 (Int.toNat v3) (Kd.dflt .task)).Seq, (List.getD e15 (Int.toNat v3) (Kd.dflt .task)).Nice, (List.getD e15 (Int.toNat v3) (Kd.dflt .task)).V⟩ : Task))
                                                  cond ((decide (0 ≤ v3)) && (decide (v3 < ((e17).length : Int))))
                                                   (cond (decide ((Int.toNat v3) < (e17).length))
                                                     (let e18 := (List.set e17 (Int.toNat v3) (⟨(List.getD e17 (Int.toNat v3) (Kd.dflt .task)).No, (List.getD e17 (Int.toNat v3) (Kd.dflt .task)).Class, (List.getD e17 (Int.toNat v3) (Kd.dflt .task)).Cpu, (List.getD e17 (Int.toNat v3) (Kd.dflt .task)).State, (List.getD e17 (Int.toNat v3) (Kd.dflt .task)).Idle, (List.getD e17 (Int.toNat v3) (Kd.dflt .task)).Q, (List.getD e17 (Int.toNat v3) (Kd.dflt .task)).P, (List.getD e17 (Int.toNat v3) (Kd.dflt .task)).Left, (List.getD e17 (Int.toNat v3) (Kd.dflt .task)).Due, (List.getD e17 (Int.toNat v3) (Kd.dflt .task)).Prio, (List.getD e17 (Int.toNat v3) (Kd.dflt .task)).Round, (w64 (e16 + 1)), (List.getD e17 (Int.toNat v3) (Kd.dflt .task)).Nice, (List.getD e17 (Int.toNat v3) (Kd.dflt .task)).V⟩ : Task))
                                                      cond ((decide (0 ≤ v3)) && (decide (v3 < ((e18).length : Int))))
                                                       (cond (decide ((Int.toNat v3) < (e18).length))
                                                         (let e19 := (List.set e18 (Int.toNat v3) (⟨(List.getD e18 (Int.toNat v3) (Kd.dflt .task)).No, (List.getD e18 (Int.toNat v3) (Kd.dflt .task)).Class, (List.getD e18 (Int.toNat v3) (Kd.dflt .task)).Cpu, (List.getD e18 (Int.toNat v3) (Kd.dflt .task)).State, (List.getD e18 (Int.toNat v3) (Kd.dflt .task)).Idle, (List.getD e18 (Int.toNat v3) (Kd.dflt .task)).Q, (List.getD e18 (Int.toNat v3) (Kd.dflt .task)).P, (List.getD e18 (Int.toNat v3) (Kd.dflt .task)).Left, (List.getD e18 (Int.toNat v3) (Kd.dflt .task)).Due, (List.getD e18 (Int.toNat v3) (Kd.dflt .task)).Prio, (List.getD e18 (Int.toNat v3) (Kd.dflt .task)).Round, (List.getD e18 (Int.toNat v3) (Kd.dflt .task)).Seq, (w64 ((w64 (e16 + 1)) + 1)), (List.getD e18 (Int.toNat v3) (Kd.dflt .task)).V⟩ : Task))
                                                          cond ((decide (0 ≤ v3)) && (decide (v3 < ((e19).length : Int))))
                                                           (cond (decide ((Int.toNat v3) < (e19).length))
                                                             (let e20 := (List.set e19 (Int.toNat v3) (⟨(List.getD e19 (Int.toNat v3) (Kd.dflt .task)).No, (List.getD e19 (Int.toNat v3) (Kd.dflt .task)).Class, (List.getD e19 (Int.toNat v3) (Kd.dflt .task)).Cpu, (List.getD e19 (Int.toNat v3) (Kd.dflt .task)).State, (List.getD e19 (Int.toNat v3) (Kd.dflt .task)).Idle, (List.getD e19 (Int.toNat v3) (Kd.dflt .task)).Q, (List.getD e19 (Int.toNat v3) (Kd.dflt .task)).P, (List.getD e19 (Int.toNat v3) (Kd.dflt .task)).Left, (List.getD e19 (Int.toNat v3) (Kd.dflt .task)).Due, (List.getD e19 (Int.toNat v3) (Kd.dflt .task)).Prio, (List.getD e19 (Int.toNat v3) (Kd.dflt .task)).Round, (List.getD e19 (Int.toNat v3) (Kd.dflt .task)).Seq, (List.getD e19 (Int.toNat v3) (Kd.dflt .task)).Nice, (w64 ((w64 ((w64 (e16 + 1)) + 1)) + 1))⟩ : Task))
                                                              l_laws_markTaskS_0 n m0 e20 (w64 ((w64 ((w64 ((w64 (e16 + 1)) + 1)) + 1)) + 1)) (w64 (v3 + 1)) k0_0)
                                                             (none))
                                                           (none))
                                                         (none))
                                                       (none))
                                                     (none))
                                                   (none))
                                                 (none))
                                               (none))
                                             (none))
                                           (none))
                                         (none))
                                       (none))
                                     (none))
                                   (none))
                                 (none))
                               (none))
                             (none))
                           (none))
                         (none))
                       (none))
                     (none))
                   (none))
                 (none))
               (none))
             (none))
           (none))
         (none))
       (none))
     (k0_0 v2 v1)
def f_laws_markTaskS (n : Nat) (a0 : List Task) (a1 : Int) : Option (Int × List Task × Unit) :=
  l_laws_markTaskS_0 n n a0 a1 0
   (fun w21 w22 =>
    some (w21, w22, ()))
def r_laws_markTaskS (n : Nat) : Rw := ⟨73, (.pair (.own .task) (.pair (.v (.int)) .one)), (.pair .int (.pair (.own .task) .one)), fun x => f_laws_markTaskS n x.1 x.2.1⟩
def s_laws_markTaskS_0 (n : Nat) : LS where
  la := ⟨2, [0, 1, 5], [], [], [1], [0]⟩
  nt := 113
  kt := [0, 1, 5]
  hs := [.k]
  X := List Task × Int × Int
  abs := fun vs es => match vs, es with | [.bor 0, .int y1, .int y2], [.root .task y0 .ok] => some (y0, y1, y2) | _, _ => none
  tms := fun x => [.bor 0, .int x.2.1, .int x.2.2]
  ets := fun x => [.root .task x.1 .ok]
  run := fun m x k => l_laws_markTaskS_0 n m x.1 x.2.1 x.2.2 (fun w0 w1 => k (.exit 0) ⟨layT [1] [.int w0] 0 113, layH [.k] [.root .task w1 .ok]⟩)
noncomputable def c_laws_markTaskS_0 : Code := (Go.Proofs.Try.f73.body.bind (subLoop 2)).getD .skip
theorem s_laws_markTaskS_0_ok (n : Nat) : LSok Tb tyK (orc []) n a_laws_markTaskS.ann [s_laws_markTaskS_0 n] c_laws_markTaskS_0 (s_laws_markTaskS_0 n) :=
  ⟨by intro vs es x h; dsimp only [s_laws_markTaskS_0] at h; split at h; (· injection h with h; subst h; exact ⟨rfl, rfl⟩); (· cases h), fun _ _ => rfl, fun m x k => by kernel_rfl⟩
theorem r_laws_markTaskS_ok (n : Nat) : RwOk Go.Proofs.Try.prog tyK (r_laws_markTaskS n) :=
  ent_ok (fa := a_laws_markTaskS) (ls := [s_laws_markTaskS_0 n]) (cs := [c_laws_markTaskS_0]) (n := n) (es := []) mixedOk tbOk ents_nil Go.Proofs.Try.func73 (by kernel_rfl) (by kernel_rfl) (by kernel_rfl) (LSsOk.cons _ _ (l := s_laws_markTaskS_0 n) (by kernel_rfl) (s_laws_markTaskS_0_ok n) (LSsOk.nil _ _)) (fun x => by kernel_rfl)
/-! loop.example/g00185/laws.markIntS -/
noncomputable def a_laws_markIntS : FnA := ⟨Go.Proofs.Try.f76, ⟨[], [], []⟩, 1⟩
def l_laws_markIntS_0 {α : Type} (n : Nat) : Nat → List Int → Int → Int → (Int → List Int → Option α) → Option α
  | 0, _, _, _, _ => none
  | m0 + 1, v1, v2, v3, k0_0 =>
    cond (decide (v3 < ((v1).length : Int)))
     (cond ((decide (0 ≤ v3)) && (decide (v3 < ((v1).length : Int))))
       (cond (decide ((Int.toNat v3) < (v1).length))
         (l_laws_markIntS_0 n m0 (List.set v1 (Int.toNat v3) v2) (w64 (v2 + 1)) (w64 (v3 + 1)) k0_0)
         (none))
       (none))
     (k0_0 v2 v1)
def f_laws_markIntS (n : Nat) (a0 : List Int) (a1 : Int) : Option (Int × List Int × Unit) :=
  l_laws_markIntS_0 n n a0 a1 0
   (fun w4 w5 =>
    some (w4, w5, ()))
def r_laws_markIntS (n : Nat) : Rw := ⟨76, (.pair (.own .int) (.pair (.v (.int)) .one)), (.pair .int (.pair (.own .int) .one)), fun x => f_laws_markIntS n x.1 x.2.1⟩
def s_laws_markIntS_0 (n : Nat) : LS where
  la := ⟨2, [0, 1, 5], [], [], [1], [0]⟩
  nt := 19
  kt := [0, 1, 5]
  hs := [.k]
  X := List Int × Int × Int
  abs := fun vs es => match vs, es with | [.bor 0, .int y1, .int y2], [.root .int y0 .ok] => some (y0, y1, y2) | _, _ => none
  tms := fun x => [.bor 0, .int x.2.1, .int x.2.2]
  ets := fun x => [.root .int x.1 .ok]
  run := fun m x k => l_laws_markIntS_0 n m x.1 x.2.1 x.2.2 (fun w0 w1 => k (.exit 0) ⟨layT [1] [.int w0] 0 19, layH [.k] [.root .int w1 .ok]⟩)
noncomputable def c_laws_markIntS_0 : Code := (Go.Proofs.Try.f76.body.bind (subLoop 2)).getD .skip
theorem s_laws_markIntS_0_ok (n : Nat) : LSok Tb tyK (orc []) n a_laws_markIntS.ann [s_laws_markIntS_0 n] c_laws_markIntS_0 (s_laws_markIntS_0 n) :=
  ⟨by intro vs es x h; dsimp only [s_laws_markIntS_0] at h; split at h; (· injection h with h; subst h; exact ⟨rfl, rfl⟩); (· cases h), fun _ _ => rfl, fun m x k => by kernel_rfl⟩
theorem r_laws_markIntS_ok (n : Nat) : RwOk Go.Proofs.Try.prog tyK (r_laws_markIntS n) :=
  ent_ok (fa := a_laws_markIntS) (ls := [s_laws_markIntS_0 n]) (cs := [c_laws_markIntS_0]) (n := n) (es := []) mixedOk tbOk ents_nil Go.Proofs.Try.func76 (by kernel_rfl) (by kernel_rfl) (by kernel_rfl) (LSsOk.cons _ _ (l := s_laws_markIntS_0 n) (by kernel_rfl) (s_laws_markIntS_0_ok n) (LSsOk.nil _ _)) (fun x => by kernel_rfl)
/-! loop.example/g00185/laws.markLockS -/
noncomputable def a_laws_markLockS : FnA := ⟨Go.Proofs.Try.f74, ⟨[(6, [(6, .nst)])], [], []⟩, 1⟩
def l_laws_markLockS_0 {α : Type} (n : Nat) : Nat → List Lock → Int → Int → (Int → List Lock → Option α) → Option α
  | 0, _, _, _, _ => none
  | m0 + 1, v1, v2, v3, k0_0 =>
    cond (decide (v3 < ((v1).length : Int)))
     (cond ((decide (0 ≤ v3)) && (decide (v3 < ((v1).length : Int))))
       (cond (decide ((Int.toNat v3) < (v1).length))
         (let e4 := (List.set v1 (Int.toNat v3) (⟨v2, (List.getD v1 (Int.toNat v3) (Kd.dflt .lock)).Waits⟩ : Lock))
          cond ((decide (0 ≤ v3)) && (decide (v3 < ((e4).length : Int))))
           (cond ((decide ((Int.toNat v3) < (e4).length)) && true)
             ((f_laws_markIntS n ((List.getD e4 (Int.toNat v3) (Kd.dflt .lock)).Waits) (w64 (v2 + 1))).bind fun r5 =>
              let e6 := (List.set e4 (Int.toNat v3) (⟨(List.getD e4 (Int.toNat v3) (Kd.dflt .lock)).Owner, r5.2.1⟩ : Lock))
              l_laws_markLockS_0 n m0 e6 r5.1 (w64 (v3 + 1)) k0_0)
             (none))
           (none))
         (none))
       (none))
     (k0_0 v2 v1)
def f_laws_markLockS (n : Nat) (a0 : List Lock) (a1 : Int) : Option (Int × List Lock × Unit) :=
  l_laws_markLockS_0 n n a0 a1 0
   (fun w7 w8 =>
    some (w7, w8, ()))
def r_laws_markLockS (n : Nat) : Rw := ⟨74, (.pair (.own .lock) (.pair (.v (.int)) .one)), (.pair .int (.pair (.own .lock) .one)), fun x => f_laws_markLockS n x.1 x.2.1⟩
def s_laws_markLockS_0 (n : Nat) : LS where
  la := ⟨2, [0, 1, 5], [], [], [1], [0]⟩
  nt := 27
  kt := [0, 1, 5]
  hs := [.k]
  X := List Lock × Int × Int
  abs := fun vs es => match vs, es with | [.bor 0, .int y1, .int y2], [.root .lock y0 .ok] => some (y0, y1, y2) | _, _ => none
  tms := fun x => [.bor 0, .int x.2.1, .int x.2.2]
  ets := fun x => [.root .lock x.1 .ok]
  run := fun m x k => l_laws_markLockS_0 n m x.1 x.2.1 x.2.2 (fun w0 w1 => k (.exit 0) ⟨layT [1] [.int w0] 0 27, layH [.k] [.root .lock w1 .ok]⟩)
noncomputable def c_laws_markLockS_0 : Code := (Go.Proofs.Try.f74.body.bind (subLoop 2)).getD .skip
theorem s_laws_markLockS_0_ok (n : Nat) : LSok Tb tyK (orc [(r_laws_markIntS n)]) n a_laws_markLockS.ann [s_laws_markLockS_0 n] c_laws_markLockS_0 (s_laws_markLockS_0 n) :=
  ⟨by intro vs es x h; dsimp only [s_laws_markLockS_0] at h; split at h; (· injection h with h; subst h; exact ⟨rfl, rfl⟩); (· cases h), fun _ _ => rfl, fun m x k => by kernel_rfl⟩
theorem r_laws_markLockS_ok (n : Nat) : RwOk Go.Proofs.Try.prog tyK (r_laws_markLockS n) :=
  ent_ok (fa := a_laws_markLockS) (ls := [s_laws_markLockS_0 n]) (cs := [c_laws_markLockS_0]) (n := n) (es := [(r_laws_markIntS n)]) mixedOk tbOk (ents_cons (r_laws_markIntS_ok n) ents_nil) Go.Proofs.Try.func74 (by kernel_rfl) (by kernel_rfl) (by kernel_rfl) (LSsOk.cons _ _ (l := s_laws_markLockS_0 n) (by kernel_rfl) (s_laws_markLockS_0_ok n) (LSsOk.nil _ _)) (fun x => by kernel_rfl)
/-! loop.example/g00185/laws.markGhostS -/
noncomputable def a_laws_markGhostS : FnA := ⟨Go.Proofs.Try.f75, ⟨[], [], []⟩, 1⟩
def l_laws_markGhostS_0 {α : Type} (n : Nat) : Nat → List Ghost → Int → Int → (Int → List Ghost → Option α) → Option α
  | 0, _, _, _, _ => none
  | m0 + 1, v1, v2, v3, k0_0 =>
    cond (decide (v3 < ((v1).length : Int)))
     (cond ((decide (0 ≤ v3)) && (decide (v3 < ((v1).length : Int))))
       (cond (decide ((Int.toNat v3) < (v1).length))
         (let e4 := (List.set v1 (Int.toNat v3) (⟨v2, ⟨(List.getD v1 (Int.toNat v3) (Kd.dflt .ghost)).S.Q, (List.getD v1 (Int.toNat v3) (Kd.dflt .ghost)).S.P⟩, (List.getD v1 (Int.toNat v3) (Kd.dflt .ghost)).Until⟩ : Ghost))
          cond ((decide (0 ≤ v3)) && (decide (v3 < ((e4).length : Int))))
           (cond (decide ((Int.toNat v3) < (e4).length))
             (let e5 := (List.set e4 (Int.toNat v3) (⟨(List.getD e4 (Int.toNat v3) (Kd.dflt .ghost)).Cpu, ⟨(w64 (v2 + 1)), (List.getD e4 (Int.toNat v3) (Kd.dflt .ghost)).S.P⟩, (List.getD e4 (Int.toNat v3) (Kd.dflt .ghost)).Until⟩ : Ghost))
              cond ((decide (0 ≤ v3)) && (decide (v3 < ((e5).length : Int))))
               (cond (decide ((Int.toNat v3) < (e5).length))
                 (let e6 := (List.set e5 (Int.toNat v3) (⟨(List.getD e5 (Int.toNat v3) (Kd.dflt .ghost)).Cpu, ⟨(List.getD e5 (Int.toNat v3) (Kd.dflt .ghost)).S.Q, (w64 ((w64 (v2 + 1)) + 1))⟩, (List.getD e5 (Int.toNat v3) (Kd.dflt .ghost)).Until⟩ : Ghost))
                  cond ((decide (0 ≤ v3)) && (decide (v3 < ((e6).length : Int))))
                   (cond (decide ((Int.toNat v3) < (e6).length))
                     (let e7 := (List.set e6 (Int.toNat v3) (⟨(List.getD e6 (Int.toNat v3) (Kd.dflt .ghost)).Cpu, ⟨(List.getD e6 (Int.toNat v3) (Kd.dflt .ghost)).S.Q, (List.getD e6 (Int.toNat v3) (Kd.dflt .ghost)).S.P⟩, (w64 ((w64 ((w64 (v2 + 1)) + 1)) + 1))⟩ : Ghost))
                      l_laws_markGhostS_0 n m0 e7 (w64 ((w64 ((w64 ((w64 (v2 + 1)) + 1)) + 1)) + 1)) (w64 (v3 + 1)) k0_0)
                     (none))
                   (none))
                 (none))
               (none))
             (none))
           (none))
         (none))
       (none))
     (k0_0 v2 v1)
def f_laws_markGhostS (n : Nat) (a0 : List Ghost) (a1 : Int) : Option (Int × List Ghost × Unit) :=
  l_laws_markGhostS_0 n n a0 a1 0
   (fun w8 w9 =>
    some (w8, w9, ()))
def r_laws_markGhostS (n : Nat) : Rw := ⟨75, (.pair (.own .ghost) (.pair (.v (.int)) .one)), (.pair .int (.pair (.own .ghost) .one)), fun x => f_laws_markGhostS n x.1 x.2.1⟩
def s_laws_markGhostS_0 (n : Nat) : LS where
  la := ⟨2, [0, 1, 5], [], [], [1], [0]⟩
  nt := 43
  kt := [0, 1, 5]
  hs := [.k]
  X := List Ghost × Int × Int
  abs := fun vs es => match vs, es with | [.bor 0, .int y1, .int y2], [.root .ghost y0 .ok] => some (y0, y1, y2) | _, _ => none
  tms := fun x => [.bor 0, .int x.2.1, .int x.2.2]
  ets := fun x => [.root .ghost x.1 .ok]
  run := fun m x k => l_laws_markGhostS_0 n m x.1 x.2.1 x.2.2 (fun w0 w1 => k (.exit 0) ⟨layT [1] [.int w0] 0 43, layH [.k] [.root .ghost w1 .ok]⟩)
noncomputable def c_laws_markGhostS_0 : Code := (Go.Proofs.Try.f75.body.bind (subLoop 2)).getD .skip
theorem s_laws_markGhostS_0_ok (n : Nat) : LSok Tb tyK (orc []) n a_laws_markGhostS.ann [s_laws_markGhostS_0 n] c_laws_markGhostS_0 (s_laws_markGhostS_0 n) :=
  ⟨by intro vs es x h; dsimp only [s_laws_markGhostS_0] at h; split at h; (· injection h with h; subst h; exact ⟨rfl, rfl⟩); (· cases h), fun _ _ => rfl, fun m x k => by kernel_rfl⟩
theorem r_laws_markGhostS_ok (n : Nat) : RwOk Go.Proofs.Try.prog tyK (r_laws_markGhostS n) :=
  ent_ok (fa := a_laws_markGhostS) (ls := [s_laws_markGhostS_0 n]) (cs := [c_laws_markGhostS_0]) (n := n) (es := []) mixedOk tbOk ents_nil Go.Proofs.Try.func75 (by kernel_rfl) (by kernel_rfl) (by kernel_rfl) (LSsOk.cons _ _ (l := s_laws_markGhostS_0 n) (by kernel_rfl) (s_laws_markGhostS_0_ok n) (LSsOk.nil _ _)) (fun x => by kernel_rfl)
/-! loop.example/g00185/laws.markTurnS -/
noncomputable def a_laws_markTurnS : FnA := ⟨Go.Proofs.Try.f39, ⟨[], [], []⟩, 1⟩
def l_laws_markTurnS_0 {α : Type} (n : Nat) : Nat → List Turn → Int → Int → (Int → List Turn → Option α) → Option α
  | 0, _, _, _, _ => none
  | m0 + 1, v1, v2, v3, k0_0 =>
    cond (decide (v3 < ((v1).length : Int)))
     (cond ((decide (0 ≤ v3)) && (decide (v3 < ((v1).length : Int))))
       (cond (decide ((Int.toNat v3) < (v1).length))
         (let e4 := (List.set v1 (Int.toNat v3) (⟨v2, (List.getD v1 (Int.toNat v3) (Kd.dflt .turn)).Context, (List.getD v1 (Int.toNat v3) (Kd.dflt .turn)).Executor⟩ : Turn))
          cond ((decide (0 ≤ v3)) && (decide (v3 < ((e4).length : Int))))
           (cond (decide ((Int.toNat v3) < (e4).length))
             (let e5 := (List.set e4 (Int.toNat v3) (⟨(List.getD e4 (Int.toNat v3) (Kd.dflt .turn)).Cpu, (w64 (v2 + 1)), (List.getD e4 (Int.toNat v3) (Kd.dflt .turn)).Executor⟩ : Turn))
              cond ((decide (0 ≤ v3)) && (decide (v3 < ((e5).length : Int))))
               (cond (decide ((Int.toNat v3) < (e5).length))
                 (let e6 := (List.set e5 (Int.toNat v3) (⟨(List.getD e5 (Int.toNat v3) (Kd.dflt .turn)).Cpu, (List.getD e5 (Int.toNat v3) (Kd.dflt .turn)).Context, (w64 ((w64 (v2 + 1)) + 1))⟩ : Turn))
                  l_laws_markTurnS_0 n m0 e6 (w64 ((w64 ((w64 (v2 + 1)) + 1)) + 1)) (w64 (v3 + 1)) k0_0)
                 (none))
               (none))
             (none))
           (none))
         (none))
       (none))
     (k0_0 v2 v1)
def f_laws_markTurnS (n : Nat) (a0 : List Turn) (a1 : Int) : Option (Int × List Turn × Unit) :=
  l_laws_markTurnS_0 n n a0 a1 0
   (fun w7 w8 =>
    some (w7, w8, ()))
def r_laws_markTurnS (n : Nat) : Rw := ⟨39, (.pair (.own .turn) (.pair (.v (.int)) .one)), (.pair .int (.pair (.own .turn) .one)), fun x => f_laws_markTurnS n x.1 x.2.1⟩
def s_laws_markTurnS_0 (n : Nat) : LS where
  la := ⟨2, [0, 1, 5], [], [], [1], [0]⟩
  nt := 34
  kt := [0, 1, 5]
  hs := [.k]
  X := List Turn × Int × Int
  abs := fun vs es => match vs, es with | [.bor 0, .int y1, .int y2], [.root .turn y0 .ok] => some (y0, y1, y2) | _, _ => none
  tms := fun x => [.bor 0, .int x.2.1, .int x.2.2]
  ets := fun x => [.root .turn x.1 .ok]
  run := fun m x k => l_laws_markTurnS_0 n m x.1 x.2.1 x.2.2 (fun w0 w1 => k (.exit 0) ⟨layT [1] [.int w0] 0 34, layH [.k] [.root .turn w1 .ok]⟩)
noncomputable def c_laws_markTurnS_0 : Code := (Go.Proofs.Try.f39.body.bind (subLoop 2)).getD .skip
theorem s_laws_markTurnS_0_ok (n : Nat) : LSok Tb tyK (orc []) n a_laws_markTurnS.ann [s_laws_markTurnS_0 n] c_laws_markTurnS_0 (s_laws_markTurnS_0 n) :=
  ⟨by intro vs es x h; dsimp only [s_laws_markTurnS_0] at h; split at h; (· injection h with h; subst h; exact ⟨rfl, rfl⟩); (· cases h), fun _ _ => rfl, fun m x k => by kernel_rfl⟩
theorem r_laws_markTurnS_ok (n : Nat) : RwOk Go.Proofs.Try.prog tyK (r_laws_markTurnS n) :=
  ent_ok (fa := a_laws_markTurnS) (ls := [s_laws_markTurnS_0 n]) (cs := [c_laws_markTurnS_0]) (n := n) (es := []) mixedOk tbOk ents_nil Go.Proofs.Try.func39 (by kernel_rfl) (by kernel_rfl) (by kernel_rfl) (LSsOk.cons _ _ (l := s_laws_markTurnS_0 n) (by kernel_rfl) (s_laws_markTurnS_0_ok n) (LSsOk.nil _ _)) (fun x => by kernel_rfl)
/-! loop.example/g00185/laws.markSys -/
noncomputable def a_laws_markSys : FnA := ⟨Go.Proofs.Try.f35, ⟨[(0, [(0, .slot 5 .int)]), (1, [(3, .call [.mv, .ro] .int [.own .task] [])]), (2, [(3, .call [.mv, .ro] .int [.own .lock] [])]), (3, [(3, .call [.mv, .ro] .int [.own .ghost] [])]), (4, [(3, .call [.mv, .ro] .int [.own .int] [])]), (5, [(3, .call [.mv, .ro] .int [.own .turn] [])])], [], []⟩, 6⟩
def f_laws_markSys (n : Nat) (a0 : Sys) (a1 : Int) : Option (Int × (Unit × Unit × List Task × List Lock × List Ghost × List Int × Unit × Unit × List Turn × Unit) × Unit) :=
  (f_laws_markTaskS n a0.Tasks a1).bind fun r1 =>
  (f_laws_markLockS n a0.Locks r1.1).bind fun r2 =>
  (f_laws_markGhostS n a0.Ghosts r2.1).bind fun r3 =>
  (f_laws_markIntS n a0.Floors r3.1).bind fun r4 =>
  (f_laws_markTurnS n a0.Trace r4.1).bind fun r5 =>
  some (r5.1, ((), (), r1.2.1, r2.2.1, r3.2.1, r4.2.1, (), (), r5.2.1, ()), ())
def r_laws_markSys (n : Nat) : Rw := ⟨35, (.pair (.agg (.pair (.v (.int)) (.pair (.v (.int)) (.pair (.own .task) (.pair (.own .lock) (.pair (.own .ghost) (.pair (.own .int) (.pair (.v (.int)) (.pair (.v (.int)) (.pair (.own .turn) .one)))))))))) (.pair (.v (.int)) .one)), (.pair .int (.pair (.agg (.pair .junk (.pair .junk (.pair (.own .task) (.pair (.own .lock) (.pair (.own .ghost) (.pair (.own .int) (.pair .junk (.pair .junk (.pair (.own .turn) .one)))))))))) .one)), fun x => f_laws_markSys n (⟨x.1.1, x.1.2.1, x.1.2.2.1, x.1.2.2.2.1, x.1.2.2.2.2.1, x.1.2.2.2.2.2.1, x.1.2.2.2.2.2.2.1, x.1.2.2.2.2.2.2.2.1, x.1.2.2.2.2.2.2.2.2.1⟩ : Sys) x.2.1⟩
theorem r_laws_markSys_ok (n : Nat) : RwOk Go.Proofs.Try.prog tyK (r_laws_markSys n) :=
  ent_ok (fa := a_laws_markSys) (ls := []) (cs := []) (n := n) (es := [(r_laws_markTaskS n), (r_laws_markLockS n), (r_laws_markGhostS n), (r_laws_markIntS n), (r_laws_markTurnS n)]) mixedOk tbOk (ents_cons (r_laws_markTaskS_ok n) (ents_cons (r_laws_markLockS_ok n) (ents_cons (r_laws_markGhostS_ok n) (ents_cons (r_laws_markIntS_ok n) (ents_cons (r_laws_markTurnS_ok n) ents_nil))))) Go.Proofs.Try.func35 (by kernel_rfl) (by kernel_rfl) (by kernel_rfl) (LSsOk.nil _ _) (fun x => by kernel_rfl)
/-! loop.example/g00185/impl.SysNew -/
noncomputable def a_impl_SysNew_1 : FnA := ⟨Go.Proofs.Try.f34, ⟨[(0, [(0, .slot 0 .int)]), (1, [(1, .call [.ro, .ro, .ro] .bool [] [])]), (3, [(1, .slot 1 .lock), (3, .slot 2 .int)])], [(3, [([], []), ([1], [1]), ([], []), ([2], [2]), ([1, 2], []), ([0, 1, 2], [0]), ([], [])])], []⟩, 3⟩
def f_impl_SysNew_1 (a0 : Int) : Option ((SysT × Bool × Unit) × Unit) :=
  (f_impl_in a0 1 4).bind fun r1 =>
  cond (!r1.1)
   (some (((upSys (⟨0, 0, [], [], [], [], 0, 0, []⟩ : Sys)), false, ()), ()))
   (cond (((decide (a0 = a0)) && (decide (0 ≤ a0))) && (decide (a0 ≤ (lim : Int))))
     (some (((upSys (⟨0, a0, [], (List.replicate (Int.toNat 5) (Kd.dflt .lock)), [], (List.replicate (Int.toNat a0) (Kd.dflt .int)), 0, 0, []⟩ : Sys)), true, ()), ()))
     (none))
def r_impl_SysNew_1 : Rw := ⟨34, (.pair (.v (.int)) .one), (.pair (.tup (.pair (.agg (.pair .int (.pair .int (.pair (.own .task) (.pair (.own .lock) (.pair (.own .ghost) (.pair (.own .int) (.pair .int (.pair .int (.pair (.own .turn) .one)))))))))) (.pair .bool .one))) .one), fun x => f_impl_SysNew_1 x.1⟩
theorem r_impl_SysNew_1_ok : RwOk Go.Proofs.Try.prog tyK (r_impl_SysNew_1) :=
  ent_ok (fa := a_impl_SysNew_1) (ls := []) (cs := []) (n := 0) (es := [r_impl_in]) mixedOk tbOk (ents_cons (r_impl_in_ok) ents_nil) Go.Proofs.Try.func34 (by kernel_rfl) (by kernel_rfl) (by kernel_rfl) (LSsOk.nil _ _) (fun x => by kernel_rfl)
end Go.Proofs.Ytoedeimpfbebpaa.VR
