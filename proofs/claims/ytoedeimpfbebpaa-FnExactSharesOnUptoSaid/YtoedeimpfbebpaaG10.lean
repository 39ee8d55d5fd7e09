/- Functions, printed by program (wip/gen/emit.py). -/
import Derived.Test.YtoedeimpfbebpaaG09
set_option linter.unusedVariables false
set_option maxRecDepth 100000
namespace Go.Proofs.Ytoedeimpfbebpaa.VR
open Go
/-! loop.example/g00185/spec.l9Ghosts -/
noncomputable def a_spec_l9Ghosts : FnA := ⟨Go.Proofs.Try.f98, ⟨[(0, [(0, .slot 0 .int)]), (4, [(5, .slot 1 .int)]), (5, [(5, .call [.ro, .ro, .ro] .bool [] []), (10, .call [.ro] .bool [] []), (16, .call [.ro, .ro, .ro] .bool [] [])])], [], []⟩, 2⟩
def l_spec_l9Ghosts_0 {α : Type} (n : Nat) : Nat → Sys → Int → (Option α) → (Option α) → Option α
  | 0, _, _, _, _ => none
  | m0 + 1, v1, v2, k0_0, k0_1 =>
    cond (decide (v2 < ((v1.Ghosts).length : Int)))
     (cond ((decide (0 ≤ v2)) && (decide (v2 < ((v1.Ghosts).length : Int))))
       ((f_spec_l1In ((List.getD v1.Ghosts (Int.toNat v2) (Kd.dflt .ghost)).Cpu) 0 (w64 (v1.Cpus - 1))).bind fun r3 =>
        cond (!r3.1)
         (k0_0)
         ((f_spec_ShareOk ((List.getD v1.Ghosts (Int.toNat v2) (Kd.dflt .ghost)).S)).bind fun r4 =>
          cond (!r4.1)
           (k0_0)
           ((f_spec_l1In ((List.getD v1.Ghosts (Int.toNat v2) (Kd.dflt .ghost)).Until) 0 100040).bind fun r5 =>
            cond (!r5.1)
             (k0_0)
             (l_spec_l9Ghosts_0 n m0 v1 (w64 (v2 + 1)) k0_0 k0_1))))
       (none))
     (k0_1)
def f_spec_l9Ghosts (n : Nat) (a0 : Sys) : Option (Bool × Unit) :=
  l_spec_l9Ghosts_0 n n a0 0
   (some (false, ()))
   (some ((decide (((a0.Ghosts).length : Int) ≤ 12)), ()))
def r_spec_l9Ghosts (n : Nat) : Rw := ⟨98, (.pair (.v (.agg (.pair .int (.pair .int (.pair (.ro .task) (.pair (.ro .lock) (.pair (.ro .ghost) (.pair (.ro .int) (.pair .int (.pair .int (.pair (.ro .turn) .one))))))))))) .one), (.pair .bool .one), fun x => f_spec_l9Ghosts n (⟨x.1.1, x.1.2.1, x.1.2.2.1.2, x.1.2.2.2.1.2, x.1.2.2.2.2.1.2, x.1.2.2.2.2.2.1.2, x.1.2.2.2.2.2.2.1, x.1.2.2.2.2.2.2.2.1, x.1.2.2.2.2.2.2.2.2.1.2⟩ : Sys)⟩
def s_spec_l9Ghosts_0 (n : Nat) : LS where
  la := ⟨2, [1, 3], [], [1], [1, 2], [0]⟩
  nt := 40
  kt := [1, 3]
  hs := [.k, .fresh]
  X := Int × Int × Bool × List Task × Bool × List Lock × Bool × List Ghost × Bool × List Int × Int × Int × Bool × List Turn × Int
  abs := fun vs es => match vs, es with | [.ptr 0 0, .int y14], [.box [.int y0, .int y1, .ro y2 .task y3, .ro y4 .lock y5, .ro y6 .ghost y7, .ro y8 .int y9, .int y10, .int y11, .ro y12 .turn y13]] => some (y0, y1, y2, y3, y4, y5, y6, y7, y8, y9, y10, y11, y12, y13, y14) | _, _ => none
  tms := fun x => [.ptr 0 0, .int x.2.2.2.2.2.2.2.2.2.2.2.2.2.2]
  ets := fun x => [.box [.int x.1, .int x.2.1, .ro x.2.2.1 .task x.2.2.2.1, .ro x.2.2.2.2.1 .lock x.2.2.2.2.2.1, .ro x.2.2.2.2.2.2.1 .ghost x.2.2.2.2.2.2.2.1, .ro x.2.2.2.2.2.2.2.2.1 .int x.2.2.2.2.2.2.2.2.2.1, .int x.2.2.2.2.2.2.2.2.2.2.1, .int x.2.2.2.2.2.2.2.2.2.2.2.1, .ro x.2.2.2.2.2.2.2.2.2.2.2.2.1 .turn x.2.2.2.2.2.2.2.2.2.2.2.2.2.1]]
  run := fun m x k => l_spec_l9Ghosts_0 n m (⟨x.1, x.2.1, x.2.2.2.1, x.2.2.2.2.2.1, x.2.2.2.2.2.2.2.1, x.2.2.2.2.2.2.2.2.2.1, x.2.2.2.2.2.2.2.2.2.2.1, x.2.2.2.2.2.2.2.2.2.2.2.1, x.2.2.2.2.2.2.2.2.2.2.2.2.2.1⟩ : Sys) x.2.2.2.2.2.2.2.2.2.2.2.2.2.2 (k .ret ⟨layT [1, 2] [.ptr 0 0, .bool false] 0 40, layH [.k, .dead] [.box [.int (⟨x.1, x.2.1, x.2.2.2.1, x.2.2.2.2.2.1, x.2.2.2.2.2.2.2.1, x.2.2.2.2.2.2.2.2.2.1, x.2.2.2.2.2.2.2.2.2.2.1, x.2.2.2.2.2.2.2.2.2.2.2.1, x.2.2.2.2.2.2.2.2.2.2.2.2.2.1⟩ : Sys).Now, .int (⟨x.1, x.2.1, x.2.2.2.1, x.2.2.2.2.2.1, x.2.2.2.2.2.2.2.1, x.2.2.2.2.2.2.2.2.2.1, x.2.2.2.2.2.2.2.2.2.2.1, x.2.2.2.2.2.2.2.2.2.2.2.1, x.2.2.2.2.2.2.2.2.2.2.2.2.2.1⟩ : Sys).Cpus, .ro x.2.2.1 .task (⟨x.1, x.2.1, x.2.2.2.1, x.2.2.2.2.2.1, x.2.2.2.2.2.2.2.1, x.2.2.2.2.2.2.2.2.2.1, x.2.2.2.2.2.2.2.2.2.2.1, x.2.2.2.2.2.2.2.2.2.2.2.1, x.2.2.2.2.2.2.2.2.2.2.2.2.2.1⟩ : Sys).Tasks, .ro x.2.2.2.2.1 .lock (⟨x.1, x.2.1, x.2.2.2.1, x.2.2.2.2.2.1, x.2.2.2.2.2.2.2.1, x.2.2.2.2.2.2.2.2.2.1, x.2.2.2.2.2.2.2.2.2.2.1, x.2.2.2.2.2.2.2.2.2.2.2.1, x.2.2.2.2.2.2.2.2.2.2.2.2.2.1⟩ : Sys).Locks, .ro x.2.2.2.2.2.2.1 .ghost (⟨x.1, x.2.1, x.2.2.2.1, x.2.2.2.2.2.1, x.2.2.2.2.2.2.2.1, x.2.2.2.2.2.2.2.2.2.1, x.2.2.2.2.2.2.2.2.2.2.1, x.2.2.2.2.2.2.2.2.2.2.2.1, x.2.2.2.2.2.2.2.2.2.2.2.2.2.1⟩ : Sys).Ghosts, .ro x.2.2.2.2.2.2.2.2.1 .int (⟨x.1, x.2.1, x.2.2.2.1, x.2.2.2.2.2.1, x.2.2.2.2.2.2.2.1, x.2.2.2.2.2.2.2.2.2.1, x.2.2.2.2.2.2.2.2.2.2.1, x.2.2.2.2.2.2.2.2.2.2.2.1, x.2.2.2.2.2.2.2.2.2.2.2.2.2.1⟩ : Sys).Floors, .int (⟨x.1, x.2.1, x.2.2.2.1, x.2.2.2.2.2.1, x.2.2.2.2.2.2.2.1, x.2.2.2.2.2.2.2.2.2.1, x.2.2.2.2.2.2.2.2.2.2.1, x.2.2.2.2.2.2.2.2.2.2.2.1, x.2.2.2.2.2.2.2.2.2.2.2.2.2.1⟩ : Sys).Seq, .int (⟨x.1, x.2.1, x.2.2.2.1, x.2.2.2.2.2.1, x.2.2.2.2.2.2.2.1, x.2.2.2.2.2.2.2.2.2.1, x.2.2.2.2.2.2.2.2.2.2.1, x.2.2.2.2.2.2.2.2.2.2.2.1, x.2.2.2.2.2.2.2.2.2.2.2.2.2.1⟩ : Sys).Missed, .ro x.2.2.2.2.2.2.2.2.2.2.2.2.1 .turn (⟨x.1, x.2.1, x.2.2.2.1, x.2.2.2.2.2.1, x.2.2.2.2.2.2.2.1, x.2.2.2.2.2.2.2.2.2.1, x.2.2.2.2.2.2.2.2.2.2.1, x.2.2.2.2.2.2.2.2.2.2.2.1, x.2.2.2.2.2.2.2.2.2.2.2.2.2.1⟩ : Sys).Trace]]⟩) (k (.exit 0) ⟨layT [1] [.ptr 0 0] 0 40, layH [.k, .dead] [.box [.int (⟨x.1, x.2.1, x.2.2.2.1, x.2.2.2.2.2.1, x.2.2.2.2.2.2.2.1, x.2.2.2.2.2.2.2.2.2.1, x.2.2.2.2.2.2.2.2.2.2.1, x.2.2.2.2.2.2.2.2.2.2.2.1, x.2.2.2.2.2.2.2.2.2.2.2.2.2.1⟩ : Sys).Now, .int (⟨x.1, x.2.1, x.2.2.2.1, x.2.2.2.2.2.1, x.2.2.2.2.2.2.2.1, x.2.2.2.2.2.2.2.2.2.1, x.2.2.2.2.2.2.2.2.2.2.1, x.2.2.2.2.2.2.2.2.2.2.2.1, x.2.2.2.2.2.2.2.2.2.2.2.2.2.1⟩ : Sys).Cpus, .ro x.2.2.1 .task (⟨x.1, x.2.1, x.2.2.2.1, x.2.2.2.2.2.1, x.2.2.2.2.2.2.2.1, x.2.2.2.2.2.2.2.2.2.1, x.2.2.2.2.2.2.2.2.2.2.1, x.2.2.2.2.2.2.2.2.2.2.2.1, x.2.2.2.2.2.2.2.2.2.2.2.2.2.1⟩ : Sys).Tasks, .ro x.2.2.2.2.1 .lock (⟨x.1, x.2.1, x.2.2.2.1, x.2.2.2.2.2.1, x.2.2.2.2.2.2.2.1, x.2.2.2.2.2.2.2.2.2.1, x.2.2.2.2.2.2.2.2.2.2.1, x.2.2.2.2.2.2.2.2.2.2.2.1, x.2.2.2.2.2.2.2.2.2.2.2.2.2.1⟩ : Sys).Locks, .ro x.2.2.2.2.2.2.1 .ghost (⟨x.1, x.2.1, x.2.2.2.1, x.2.2.2.2.2.1, x.2.2.2.2.2.2.2.1, x.2.2.2.2.2.2.2.2.2.1, x.2.2.2.2.2.2.2.2.2.2.1, x.2.2.2.2.2.2.2.2.2.2.2.1, x.2.2.2.2.2.2.2.2.2.2.2.2.2.1⟩ : Sys).Ghosts, .ro x.2.2.2.2.2.2.2.2.1 .int (⟨x.1, x.2.1, x.2.2.2.1, x.2.2.2.2.2.1, x.2.2.2.2.2.2.2.1, x.2.2.2.2.2.2.2.2.2.1, x.2.2.2.2.2.2.2.2.2.2.1, x.2.2.2.2.2.2.2.2.2.2.2.1, x.2.2.2.2.2.2.2.2.2.2.2.2.2.1⟩ : Sys).Floors, .int (⟨x.1, x.2.1, x.2.2.2.1, x.2.2.2.2.2.1, x.2.2.2.2.2.2.2.1, x.2.2.2.2.2.2.2.2.2.1, x.2.2.2.2.2.2.2.2.2.2.1, x.2.2.2.2.2.2.2.2.2.2.2.1, x.2.2.2.2.2.2.2.2.2.2.2.2.2.1⟩ : Sys).Seq, .int (⟨x.1, x.2.1, x.2.2.2.1, x.2.2.2.2.2.1, x.2.2.2.2.2.2.2.1, x.2.2.2.2.2.2.2.2.2.1, x.2.2.2.2.2.2.2.2.2.2.1, x.2.2.2.2.2.2.2.2.2.2.2.1, x.2.2.2.2.2.2.2.2.2.2.2.2.2.1⟩ : Sys).Missed, .ro x.2.2.2.2.2.2.2.2.2.2.2.2.1 .turn (⟨x.1, x.2.1, x.2.2.2.1, x.2.2.2.2.2.1, x.2.2.2.2.2.2.2.1, x.2.2.2.2.2.2.2.2.2.1, x.2.2.2.2.2.2.2.2.2.2.1, x.2.2.2.2.2.2.2.2.2.2.2.1, x.2.2.2.2.2.2.2.2.2.2.2.2.2.1⟩ : Sys).Trace]]⟩)
noncomputable def c_spec_l9Ghosts_0 : Code := (Go.Proofs.Try.f98.body.bind (subLoop 2)).getD .skip
theorem s_spec_l9Ghosts_0_ok (n : Nat) : LSok Tb tyK (orc [r_spec_l1In, r_spec_ShareOk]) n a_spec_l9Ghosts.ann [s_spec_l9Ghosts_0 n] c_spec_l9Ghosts_0 (s_spec_l9Ghosts_0 n) :=
  ⟨by intro vs es x h; dsimp only [s_spec_l9Ghosts_0] at h; split at h; (· injection h with h; subst h; exact ⟨rfl, rfl⟩); (· cases h), fun _ _ => rfl, fun m x k => by kernel_rfl⟩
theorem r_spec_l9Ghosts_ok (n : Nat) : RwOk Go.Proofs.Try.prog tyK (r_spec_l9Ghosts n) :=
  ent_ok (fa := a_spec_l9Ghosts) (ls := [s_spec_l9Ghosts_0 n]) (cs := [c_spec_l9Ghosts_0]) (n := n) (es := [r_spec_l1In, r_spec_ShareOk]) mixedOk tbOk (ents_cons (r_spec_l1In_ok) (ents_cons (r_spec_ShareOk_ok) ents_nil)) Go.Proofs.Try.func98 (by kernel_rfl) (by kernel_rfl) (by kernel_rfl) (LSsOk.cons _ _ (l := s_spec_l9Ghosts_0 n) (by kernel_rfl) (s_spec_l9Ghosts_0_ok n) (LSsOk.nil _ _)) (fun x => by kernel_rfl)
/-! loop.example/g00185/spec.l1Gcd -/
noncomputable def a_spec_l1Gcd : FnA := ⟨Go.Proofs.Try.f152, ⟨[], [(2, [([], []), ([], []), ([], []), ([], []), ([], []), ([], [])])], []⟩, 0⟩
def l_spec_l1Gcd_0 {α : Type} (n : Nat) : Nat → Int → Int → (Int → Option α) → Option α
  | 0, _, _, _ => none
  | m0 + 1, v1, v2, k0_0 =>
    cond (decide (0 < v2))
     (cond (decide (v2 = 0))
       (none)
       (l_spec_l1Gcd_0 n m0 v2 (Int.tmod v1 v2) k0_0))
     (k0_0 v1)
def f_spec_l1Gcd (n : Nat) (a0 : Int) (a1 : Int) : Option (Int × Unit) :=
  l_spec_l1Gcd_0 n n a0 a1
   (fun w3 =>
    some (w3, ()))
def r_spec_l1Gcd (n : Nat) : Rw := ⟨152, (.pair (.v (.int)) (.pair (.v (.int)) .one)), (.pair .int .one), fun x => f_spec_l1Gcd n x.1 x.2.1⟩
def s_spec_l1Gcd_0 (n : Nat) : LS where
  la := ⟨1, [0, 1], [], [], [0], []⟩
  nt := 12
  kt := [0, 1]
  hs := []
  X := Int × Int
  abs := fun vs es => match vs, es with | [.int y0, .int y1], [] => some (y0, y1) | _, _ => none
  tms := fun x => [.int x.1, .int x.2]
  ets := fun x => []
  run := fun m x k => l_spec_l1Gcd_0 n m x.1 x.2 (fun w0 => k (.exit 0) ⟨layT [0] [.int w0] 0 12, layH [] []⟩)
noncomputable def c_spec_l1Gcd_0 : Code := (Go.Proofs.Try.f152.body.bind (subLoop 1)).getD .skip
theorem s_spec_l1Gcd_0_ok (n : Nat) : LSok Tb tyK (orc []) n a_spec_l1Gcd.ann [s_spec_l1Gcd_0 n] c_spec_l1Gcd_0 (s_spec_l1Gcd_0 n) :=
  ⟨by intro vs es x h; dsimp only [s_spec_l1Gcd_0] at h; split at h; (· injection h with h; subst h; exact ⟨rfl, rfl⟩); (· cases h), fun _ _ => rfl, fun m x k => by kernel_rfl⟩
theorem r_spec_l1Gcd_ok (n : Nat) : RwOk Go.Proofs.Try.prog tyK (r_spec_l1Gcd n) :=
  ent_ok (fa := a_spec_l1Gcd) (ls := [s_spec_l1Gcd_0 n]) (cs := [c_spec_l1Gcd_0]) (n := n) (es := []) mixedOk tbOk ents_nil Go.Proofs.Try.func152 (by kernel_rfl) (by kernel_rfl) (by kernel_rfl) (LSsOk.cons _ _ (l := s_spec_l1Gcd_0 n) (by kernel_rfl) (s_spec_l1Gcd_0_ok n) (LSsOk.nil _ _)) (fun x => by kernel_rfl)
/-! loop.example/g00185/spec.SumOf -/
noncomputable def a_spec_SumOf : FnA := ⟨Go.Proofs.Try.f128, ⟨[(7, [(4, .call [.ro] .bool [] [])]), (11, [(2, .call [.ro, .ro] .int [] [])])], [(9, [([], []), ([], []), ([], []), ([], []), ([], []), ([], []), ([], []), ([], []), ([], []), ([], []), ([], []), ([], []), ([], []), ([], []), ([], []), ([], [])])], []⟩, 0⟩
def l_spec_SumOf_0 {α : Type} (n : Nat) : Nat → List Share → Int → Int → Int → (Int → Int → Option α) → (Int → Int → Option α) → Option α
  | 0, _, _, _, _, _, _ => none
  | m0 + 1, v1, v2, v3, v4, k0_0, k0_1 =>
    cond (decide (v4 < ((v1).length : Int)))
     (cond ((decide (0 ≤ v4)) && (decide (v4 < ((v1).length : Int))))
       ((f_spec_ShareOk (List.getD v1 (Int.toNat v4) (Kd.dflt .share))).bind fun r5 =>
        cond (!r5.1)
         (k0_0 v2 v3)
         (cond ((decide (0 ≤ v4)) && (decide (v4 < ((v1).length : Int))))
           (let e6 := (w64 (v2 * (List.getD v1 (Int.toNat v4) (Kd.dflt .share)).P))
            cond ((decide (0 ≤ v4)) && (decide (v4 < ((v1).length : Int))))
             (let e7 := (w64 ((List.getD v1 (Int.toNat v4) (Kd.dflt .share)).Q * v3))
              cond ((decide (0 ≤ v4)) && (decide (v4 < ((v1).length : Int))))
               (let e8 := (w64 (v3 * (List.getD v1 (Int.toNat v4) (Kd.dflt .share)).P))
                (f_spec_l1Gcd n (w64 (e6 + e7)) e8).bind fun r9 =>
                cond (decide (r9.1 = 0))
                 (none)
                 (cond (decide (r9.1 = 0))
                   (none)
                   (l_spec_SumOf_0 n m0 v1 (w64 (Int.tdiv (w64 (e6 + e7)) r9.1)) (w64 (Int.tdiv e8 r9.1)) (w64 (v4 + 1)) k0_0 k0_1)))
               (none))
             (none))
           (none)))
       (none))
     (k0_1 v2 v3)
def f_spec_SumOf (n : Nat) (a0 : List Share) : Option ((Int × Int × Bool × Unit) × Unit) :=
  cond (decide (7 < ((a0).length : Int)))
   (some ((0, 0, false, ()), ()))
   (l_spec_SumOf_0 n n a0 0 1 0
     (fun w10 w11 =>
      some ((0, 0, false, ()), ()))
     (fun w12 w13 =>
      some ((w12, w13, true, ()), ())))
def r_spec_SumOf (n : Nat) : Rw := ⟨128, (.pair (.v (.ro .share)) .one), (.pair (.tup (.pair .int (.pair .int (.pair .bool .one)))) .one), fun x => f_spec_SumOf n x.1.2⟩
def s_spec_SumOf_0 (n : Nat) : LS where
  la := ⟨5, [0, 5, 6, 7], [], [], [2, 3, 4, 5, 6], []⟩
  nt := 57
  kt := [0, 5, 6, 7]
  hs := []
  X := Bool × List Share × Int × Int × Int
  abs := fun vs es => match vs, es with | [.ro y0 .share y1, .int y2, .int y3, .int y4], [] => some (y0, y1, y2, y3, y4) | _, _ => none
  tms := fun x => [.ro x.1 .share x.2.1, .int x.2.2.1, .int x.2.2.2.1, .int x.2.2.2.2]
  ets := fun x => []
  run := fun m x k => l_spec_SumOf_0 n m x.2.1 x.2.2.1 x.2.2.2.1 x.2.2.2.2 (fun w0 w1 => k .ret ⟨layT [2, 3, 4, 5, 6] [.int 0, .int 0, .bool false, .int w0, .int w1] 0 57, layH [] []⟩) (fun w0 w1 => k (.exit 0) ⟨layT [5, 6] [.int w0, .int w1] 0 57, layH [] []⟩)
noncomputable def c_spec_SumOf_0 : Code := (Go.Proofs.Try.f128.body.bind (subLoop 5)).getD .skip
theorem s_spec_SumOf_0_ok (n : Nat) : LSok Tb tyK (orc [r_spec_ShareOk, (r_spec_l1Gcd n)]) n a_spec_SumOf.ann [s_spec_SumOf_0 n] c_spec_SumOf_0 (s_spec_SumOf_0 n) :=
  ⟨by intro vs es x h; dsimp only [s_spec_SumOf_0] at h; split at h; (· injection h with h; subst h; exact ⟨rfl, rfl⟩); (· cases h), fun _ _ => rfl, fun m x k => by kernel_rfl⟩
theorem r_spec_SumOf_ok (n : Nat) : RwOk Go.Proofs.Try.prog tyK (r_spec_SumOf n) :=
  ent_ok (fa := a_spec_SumOf) (ls := [s_spec_SumOf_0 n]) (cs := [c_spec_SumOf_0]) (n := n) (es := [r_spec_ShareOk, (r_spec_l1Gcd n)]) mixedOk tbOk (ents_cons (r_spec_ShareOk_ok) (ents_cons (r_spec_l1Gcd_ok n) ents_nil)) Go.Proofs.Try.func128 (by kernel_rfl) (by kernel_rfl) (by kernel_rfl) (LSsOk.cons _ _ (l := s_spec_SumOf_0 n) (by kernel_rfl) (s_spec_SumOf_0_ok n) (LSsOk.nil _ _)) (fun x => by kernel_rfl)
/-! loop.example/g00185/spec.Fits -/
noncomputable def a_spec_Fits : FnA := ⟨Go.Proofs.Try.f99, ⟨[(1, [(1, .call [.ro] (.tup (.pair .int (.pair .int (.pair .bool .one)))) [] [])])], [], []⟩, 0⟩
def f_spec_Fits (n : Nat) (a0 : List Share) : Option (Bool × Unit) :=
  (f_spec_SumOf n a0).bind fun r1 =>
  cond r1.1.2.2.1
   (some ((decide (r1.1.1 ≤ r1.1.2.1)), ()))
   (some (false, ()))
def r_spec_Fits (n : Nat) : Rw := ⟨99, (.pair (.v (.ro .share)) .one), (.pair .bool .one), fun x => f_spec_Fits n x.1.2⟩
theorem r_spec_Fits_ok (n : Nat) : RwOk Go.Proofs.Try.prog tyK (r_spec_Fits n) :=
  ent_ok (fa := a_spec_Fits) (ls := []) (cs := []) (n := n) (es := [(r_spec_SumOf n)]) mixedOk tbOk (ents_cons (r_spec_SumOf_ok n) ents_nil) Go.Proofs.Try.func99 (by kernel_rfl) (by kernel_rfl) (by kernel_rfl) (LSsOk.nil _ _) (fun x => by kernel_rfl)
/-! loop.example/g00185/spec.SysOk -/
noncomputable def a_spec_SysOk : FnA := ⟨Go.Proofs.Try.f54, ⟨[(0, [(0, .slot 0 .int)]), (1, [(2, .call [.ro, .ro, .ro] .bool [] []), (7, .call [.ro, .ro, .ro] .bool [] []), (13, .call [.ro] .bool [] []), (18, .call [.ro] .bool [] []), (23, .call [.ro] .bool [] []), (37, .call [.ro, .ro, .ro] .bool [] []), (43, .call [.ro, .ro, .ro] .bool [] [])]), (11, [(5, .call [.ro, .ro, .ro] .bool [] []), (10, .call [.ro, .ro] (.own .share) [] [none]), (11, .call [.ro] .bool [] [])])], [(6, [([0], []), ([0], []), ([], []), ([], []), ([], []), ([], []), ([0], []), ([0], []), ([], [])])], []⟩, 1⟩
def l_spec_SysOk_0 {α : Type} (n : Nat) : Nat → Sys → Int → (Option α) → (Option α) → Option α
  | 0, _, _, _, _ => none
  | m0 + 1, v8, v9, k0_0, k0_1 =>
    cond (decide (v9 < ((v8.Tasks).length : Int)))
     (cond ((decide (0 ≤ v9)) && (decide (v9 < ((v8.Tasks).length : Int))))
       (let e10 := (decide (v8.Cpus ≤ (List.getD v8.Tasks (Int.toNat v9) (Kd.dflt .task)).Cpu))
        cond e10
         (k0_0)
         (l_spec_SysOk_0 n m0 v8 (w64 (v9 + 1)) k0_0 k0_1))
       (none))
     (k0_1)
def l_spec_SysOk_1 {α : Type} (n : Nat) : Nat → Sys → Int → (Option α) → (Option α) → Option α
  | 0, _, _, _, _ => none
  | m1 + 1, v11, v12, k1_0, k1_1 =>
    cond (decide (v12 < v11.Cpus))
     (cond ((decide (0 ≤ v12)) && (decide (v12 < ((v11.Floors).length : Int))))
       ((f_spec_l1In (List.getD v11.Floors (Int.toNat v12) (Kd.dflt .int)) 0 100000000).bind fun r13 =>
        cond (!r13.1)
         (k1_0)
         ((f_spec_l9Shares n v11 v12).bind fun r14 =>
          (f_spec_Fits n r14.1).bind fun r15 =>
          cond (!r15.1)
           (k1_0)
           (l_spec_SysOk_1 n m1 v11 (w64 (v12 + 1)) k1_0 k1_1)))
       (none))
     (k1_1)
def f_spec_SysOk (n : Nat) (a0 : Sys) : Option (Bool × Unit) :=
  (f_spec_l1In a0.Now 0 100000).bind fun r1 =>
  cond (!r1.1)
   (some (false, ()))
   ((f_spec_l1In a0.Cpus 1 4).bind fun r2 =>
    cond (!r2.1)
     (some (false, ()))
     ((f_spec_TasksOk n a0.Tasks).bind fun r3 =>
      cond (!r3.1)
       (some (false, ()))
       ((f_spec_l9Locks n a0).bind fun r4 =>
        cond (!r4.1)
         (some (false, ()))
         ((f_spec_l9Ghosts n a0).bind fun r5 =>
          cond (!r5.1)
           (some (false, ()))
           (cond (!(decide (((a0.Floors).length : Int) = a0.Cpus)))
             (some (false, ()))
             ((f_spec_l1In a0.Seq 0 1000000).bind fun r6 =>
              cond (!r6.1)
               (some (false, ()))
               ((f_spec_l1In a0.Missed 0 100000).bind fun r7 =>
                cond (!r7.1)
                 (some (false, ()))
                 (cond (decide (400 < ((a0.Trace).length : Int)))
                   (some (false, ()))
                   (l_spec_SysOk_0 n n a0 0
                     (some (false, ()))
                     (l_spec_SysOk_1 n n a0 0
                       (some (false, ()))
                       (some (true, ()))))))))))))
def r_spec_SysOk (n : Nat) : Rw := ⟨54, (.pair (.v (.agg (.pair .int (.pair .int (.pair (.ro .task) (.pair (.ro .lock) (.pair (.ro .ghost) (.pair (.ro .int) (.pair .int (.pair .int (.pair (.ro .turn) .one))))))))))) .one), (.pair .bool .one), fun x => f_spec_SysOk n (⟨x.1.1, x.1.2.1, x.1.2.2.1.2, x.1.2.2.2.1.2, x.1.2.2.2.2.1.2, x.1.2.2.2.2.2.1.2, x.1.2.2.2.2.2.2.1, x.1.2.2.2.2.2.2.2.1, x.1.2.2.2.2.2.2.2.2.1.2⟩ : Sys)⟩
def s_spec_SysOk_0 (n : Nat) : LS where
  la := ⟨4, [1, 3], [], [], [1, 2], [0]⟩
  nt := 93
  kt := [1, 3]
  hs := [.k]
  X := Int × Int × Bool × List Task × Bool × List Lock × Bool × List Ghost × Bool × List Int × Int × Int × Bool × List Turn × Int
  abs := fun vs es => match vs, es with | [.ptr 0 0, .int y14], [.box [.int y0, .int y1, .ro y2 .task y3, .ro y4 .lock y5, .ro y6 .ghost y7, .ro y8 .int y9, .int y10, .int y11, .ro y12 .turn y13]] => some (y0, y1, y2, y3, y4, y5, y6, y7, y8, y9, y10, y11, y12, y13, y14) | _, _ => none
  tms := fun x => [.ptr 0 0, .int x.2.2.2.2.2.2.2.2.2.2.2.2.2.2]
  ets := fun x => [.box [.int x.1, .int x.2.1, .ro x.2.2.1 .task x.2.2.2.1, .ro x.2.2.2.2.1 .lock x.2.2.2.2.2.1, .ro x.2.2.2.2.2.2.1 .ghost x.2.2.2.2.2.2.2.1, .ro x.2.2.2.2.2.2.2.2.1 .int x.2.2.2.2.2.2.2.2.2.1, .int x.2.2.2.2.2.2.2.2.2.2.1, .int x.2.2.2.2.2.2.2.2.2.2.2.1, .ro x.2.2.2.2.2.2.2.2.2.2.2.2.1 .turn x.2.2.2.2.2.2.2.2.2.2.2.2.2.1]]
  run := fun m x k => l_spec_SysOk_0 n m (⟨x.1, x.2.1, x.2.2.2.1, x.2.2.2.2.2.1, x.2.2.2.2.2.2.2.1, x.2.2.2.2.2.2.2.2.2.1, x.2.2.2.2.2.2.2.2.2.2.1, x.2.2.2.2.2.2.2.2.2.2.2.1, x.2.2.2.2.2.2.2.2.2.2.2.2.2.1⟩ : Sys) x.2.2.2.2.2.2.2.2.2.2.2.2.2.2 (k .ret ⟨layT [1, 2] [.ptr 0 0, .bool false] 0 93, layH [.k] [.box [.int (⟨x.1, x.2.1, x.2.2.2.1, x.2.2.2.2.2.1, x.2.2.2.2.2.2.2.1, x.2.2.2.2.2.2.2.2.2.1, x.2.2.2.2.2.2.2.2.2.2.1, x.2.2.2.2.2.2.2.2.2.2.2.1, x.2.2.2.2.2.2.2.2.2.2.2.2.2.1⟩ : Sys).Now, .int (⟨x.1, x.2.1, x.2.2.2.1, x.2.2.2.2.2.1, x.2.2.2.2.2.2.2.1, x.2.2.2.2.2.2.2.2.2.1, x.2.2.2.2.2.2.2.2.2.2.1, x.2.2.2.2.2.2.2.2.2.2.2.1, x.2.2.2.2.2.2.2.2.2.2.2.2.2.1⟩ : Sys).Cpus, .ro x.2.2.1 .task (⟨x.1, x.2.1, x.2.2.2.1, x.2.2.2.2.2.1, x.2.2.2.2.2.2.2.1, x.2.2.2.2.2.2.2.2.2.1, x.2.2.2.2.2.2.2.2.2.2.1, x.2.2.2.2.2.2.2.2.2.2.2.1, x.2.2.2.2.2.2.2.2.2.2.2.2.2.1⟩ : Sys).Tasks, .ro x.2.2.2.2.1 .lock (⟨x.1, x.2.1, x.2.2.2.1, x.2.2.2.2.2.1, x.2.2.2.2.2.2.2.1, x.2.2.2.2.2.2.2.2.2.1, x.2.2.2.2.2.2.2.2.2.2.1, x.2.2.2.2.2.2.2.2.2.2.2.1, x.2.2.2.2.2.2.2.2.2.2.2.2.2.1⟩ : Sys).Locks, .ro x.2.2.2.2.2.2.1 .ghost (⟨x.1, x.2.1, x.2.2.2.1, x.2.2.2.2.2.1, x.2.2.2.2.2.2.2.1, x.2.2.2.2.2.2.2.2.2.1, x.2.2.2.2.2.2.2.2.2.2.1, x.2.2.2.2.2.2.2.2.2.2.2.1, x.2.2.2.2.2.2.2.2.2.2.2.2.2.1⟩ : Sys).Ghosts, .ro x.2.2.2.2.2.2.2.2.1 .int (⟨x.1, x.2.1, x.2.2.2.1, x.2.2.2.2.2.1, x.2.2.2.2.2.2.2.1, x.2.2.2.2.2.2.2.2.2.1, x.2.2.2.2.2.2.2.2.2.2.1, x.2.2.2.2.2.2.2.2.2.2.2.1, x.2.2.2.2.2.2.2.2.2.2.2.2.2.1⟩ : Sys).Floors, .int (⟨x.1, x.2.1, x.2.2.2.1, x.2.2.2.2.2.1, x.2.2.2.2.2.2.2.1, x.2.2.2.2.2.2.2.2.2.1, x.2.2.2.2.2.2.2.2.2.2.1, x.2.2.2.2.2.2.2.2.2.2.2.1, x.2.2.2.2.2.2.2.2.2.2.2.2.2.1⟩ : Sys).Seq, .int (⟨x.1, x.2.1, x.2.2.2.1, x.2.2.2.2.2.1, x.2.2.2.2.2.2.2.1, x.2.2.2.2.2.2.2.2.2.1, x.2.2.2.2.2.2.2.2.2.2.1, x.2.2.2.2.2.2.2.2.2.2.2.1, x.2.2.2.2.2.2.2.2.2.2.2.2.2.1⟩ : Sys).Missed, .ro x.2.2.2.2.2.2.2.2.2.2.2.2.1 .turn (⟨x.1, x.2.1, x.2.2.2.1, x.2.2.2.2.2.1, x.2.2.2.2.2.2.2.1, x.2.2.2.2.2.2.2.2.2.1, x.2.2.2.2.2.2.2.2.2.2.1, x.2.2.2.2.2.2.2.2.2.2.2.1, x.2.2.2.2.2.2.2.2.2.2.2.2.2.1⟩ : Sys).Trace]]⟩) (k (.exit 0) ⟨layT [1] [.ptr 0 0] 0 93, layH [.k] [.box [.int (⟨x.1, x.2.1, x.2.2.2.1, x.2.2.2.2.2.1, x.2.2.2.2.2.2.2.1, x.2.2.2.2.2.2.2.2.2.1, x.2.2.2.2.2.2.2.2.2.2.1, x.2.2.2.2.2.2.2.2.2.2.2.1, x.2.2.2.2.2.2.2.2.2.2.2.2.2.1⟩ : Sys).Now, .int (⟨x.1, x.2.1, x.2.2.2.1, x.2.2.2.2.2.1, x.2.2.2.2.2.2.2.1, x.2.2.2.2.2.2.2.2.2.1, x.2.2.2.2.2.2.2.2.2.2.1, x.2.2.2.2.2.2.2.2.2.2.2.1, x.2.2.2.2.2.2.2.2.2.2.2.2.2.1⟩ : Sys).Cpus, .ro x.2.2.1 .task (⟨x.1, x.2.1, x.2.2.2.1, x.2.2.2.2.2.1, x.2.2.2.2.2.2.2.1, x.2.2.2.2.2.2.2.2.2.1, x.2.2.2.2.2.2.2.2.2.2.1, x.2.2.2.2.2.2.2.2.2.2.2.1, x.2.2.2.2.2.2.2.2.2.2.2.2.2.1⟩ : Sys).Tasks, .ro x.2.2.2.2.1 .lock (⟨x.1, x.2.1, x.2.2.2.1, x.2.2.2.2.2.1, x.2.2.2.2.2.2.2.1, x.2.2.2.2.2.2.2.2.2.1, x.2.2.2.2.2.2.2.2.2.2.1, x.2.2.2.2.2.2.2.2.2.2.2.1, x.2.2.2.2.2.2.2.2.2.2.2.2.2.1⟩ : Sys).Locks, .ro x.2.2.2.2.2.2.1 .ghost (⟨x.1, x.2.1, x.2.2.2.1, x.2.2.2.2.2.1, x.2.2.2.2.2.2.2.1, x.2.2.2.2.2.2.2.2.2.1, x.2.2.2.2.2.2.2.2.2.2.1, x.2.2.2.2.2.2.2.2.2.2.2.1, x.2.2.2.2.2.2.2.2.2.2.2.2.2.1⟩ : Sys).Ghosts, .ro x.2.2.2.2.2.2.2.2.1 .int (⟨x.1, x.2.1, x.2.2.2.1, x.2.2.2.2.2.1, x.2.2.2.2.2.2.2.1, x.2.2.2.2.2.2.2.2.2.1, x.2.2.2.2.2.2.2.2.2.2.1, x.2.2.2.2.2.2.2.2.2.2.2.1, x.2.2.2.2.2.2.2.2.2.2.2.2.2.1⟩ : Sys).Floors, .int (⟨x.1, x.2.1, x.2.2.2.1, x.2.2.2.2.2.1, x.2.2.2.2.2.2.2.1, x.2.2.2.2.2.2.2.2.2.1, x.2.2.2.2.2.2.2.2.2.2.1, x.2.2.2.2.2.2.2.2.2.2.2.1, x.2.2.2.2.2.2.2.2.2.2.2.2.2.1⟩ : Sys).Seq, .int (⟨x.1, x.2.1, x.2.2.2.1, x.2.2.2.2.2.1, x.2.2.2.2.2.2.2.1, x.2.2.2.2.2.2.2.2.2.1, x.2.2.2.2.2.2.2.2.2.2.1, x.2.2.2.2.2.2.2.2.2.2.2.1, x.2.2.2.2.2.2.2.2.2.2.2.2.2.1⟩ : Sys).Missed, .ro x.2.2.2.2.2.2.2.2.2.2.2.2.1 .turn (⟨x.1, x.2.1, x.2.2.2.1, x.2.2.2.2.2.1, x.2.2.2.2.2.2.2.1, x.2.2.2.2.2.2.2.2.2.1, x.2.2.2.2.2.2.2.2.2.2.1, x.2.2.2.2.2.2.2.2.2.2.2.1, x.2.2.2.2.2.2.2.2.2.2.2.2.2.1⟩ : Sys).Trace]]⟩)
def s_spec_SysOk_1 (n : Nat) : LS where
  la := ⟨9, [1, 4], [], [], [2], []⟩
  nt := 93
  kt := [1, 4]
  hs := [.k]
  X := Int × Int × Bool × List Task × Bool × List Lock × Bool × List Ghost × Bool × List Int × Int × Int × Bool × List Turn × Int
  abs := fun vs es => match vs, es with | [.ptr 0 0, .int y14], [.box [.int y0, .int y1, .ro y2 .task y3, .ro y4 .lock y5, .ro y6 .ghost y7, .ro y8 .int y9, .int y10, .int y11, .ro y12 .turn y13]] => some (y0, y1, y2, y3, y4, y5, y6, y7, y8, y9, y10, y11, y12, y13, y14) | _, _ => none
  tms := fun x => [.ptr 0 0, .int x.2.2.2.2.2.2.2.2.2.2.2.2.2.2]
  ets := fun x => [.box [.int x.1, .int x.2.1, .ro x.2.2.1 .task x.2.2.2.1, .ro x.2.2.2.2.1 .lock x.2.2.2.2.2.1, .ro x.2.2.2.2.2.2.1 .ghost x.2.2.2.2.2.2.2.1, .ro x.2.2.2.2.2.2.2.2.1 .int x.2.2.2.2.2.2.2.2.2.1, .int x.2.2.2.2.2.2.2.2.2.2.1, .int x.2.2.2.2.2.2.2.2.2.2.2.1, .ro x.2.2.2.2.2.2.2.2.2.2.2.2.1 .turn x.2.2.2.2.2.2.2.2.2.2.2.2.2.1]]
  run := fun m x k => l_spec_SysOk_1 n m (⟨x.1, x.2.1, x.2.2.2.1, x.2.2.2.2.2.1, x.2.2.2.2.2.2.2.1, x.2.2.2.2.2.2.2.2.2.1, x.2.2.2.2.2.2.2.2.2.2.1, x.2.2.2.2.2.2.2.2.2.2.2.1, x.2.2.2.2.2.2.2.2.2.2.2.2.2.1⟩ : Sys) x.2.2.2.2.2.2.2.2.2.2.2.2.2.2 (k .ret ⟨layT [2] [.bool false] 0 93, layH [.dead] []⟩) (k (.exit 2) ⟨layT [] [] 0 93, layH [.dead] []⟩)
noncomputable def c_spec_SysOk_0 : Code := (Go.Proofs.Try.f54.body.bind (subLoop 4)).getD .skip
noncomputable def c_spec_SysOk_1 : Code := (Go.Proofs.Try.f54.body.bind (subLoop 9)).getD .skip
theorem s_spec_SysOk_0_ok (n : Nat) : LSok Tb tyK (orc [r_spec_l1In, (r_spec_TasksOk n), (r_spec_l9Locks n), (r_spec_l9Ghosts n), (r_spec_l9Shares n), (r_spec_Fits n)]) n a_spec_SysOk.ann [s_spec_SysOk_0 n, s_spec_SysOk_1 n] c_spec_SysOk_0 (s_spec_SysOk_0 n) :=
  ⟨by intro vs es x h; dsimp only [s_spec_SysOk_0] at h; split at h; (· injection h with h; subst h; exact ⟨rfl, rfl⟩); (· cases h), fun _ _ => rfl, fun m x k => by kernel_rfl⟩
theorem s_spec_SysOk_1_ok (n : Nat) : LSok Tb tyK (orc [r_spec_l1In, (r_spec_TasksOk n), (r_spec_l9Locks n), (r_spec_l9Ghosts n), (r_spec_l9Shares n), (r_spec_Fits n)]) n a_spec_SysOk.ann [s_spec_SysOk_0 n, s_spec_SysOk_1 n] c_spec_SysOk_1 (s_spec_SysOk_1 n) :=
  ⟨by intro vs es x h; dsimp only [s_spec_SysOk_1] at h; split at h; (· injection h with h; subst h; exact ⟨rfl, rfl⟩); (· cases h), fun _ _ => rfl, fun m x k => by kernel_rfl⟩
theorem r_spec_SysOk_ok (n : Nat) : RwOk Go.Proofs.Try.prog tyK (r_spec_SysOk n) :=
  ent_ok (fa := a_spec_SysOk) (ls := [s_spec_SysOk_0 n, s_spec_SysOk_1 n]) (cs := [c_spec_SysOk_0, c_spec_SysOk_1]) (n := n) (es := [r_spec_l1In, (r_spec_TasksOk n), (r_spec_l9Locks n), (r_spec_l9Ghosts n), (r_spec_l9Shares n), (r_spec_Fits n)]) mixedOk tbOk (ents_cons (r_spec_l1In_ok) (ents_cons (r_spec_TasksOk_ok n) (ents_cons (r_spec_l9Locks_ok n) (ents_cons (r_spec_l9Ghosts_ok n) (ents_cons (r_spec_l9Shares_ok n) (ents_cons (r_spec_Fits_ok n) ents_nil)))))) Go.Proofs.Try.func54 (by kernel_rfl) (by kernel_rfl) (by kernel_rfl) (LSsOk.cons _ _ (l := s_spec_SysOk_0 n) (by kernel_rfl) (s_spec_SysOk_0_ok n) (LSsOk.cons _ _ (l := s_spec_SysOk_1 n) (by kernel_rfl) (s_spec_SysOk_1_ok n) (LSsOk.nil _ _))) (fun x => by kernel_rfl)
/-! loop.example/g00185/impl.isTime -/
noncomputable def a_impl_isTime : FnA := ⟨Go.Proofs.Try.f100, ⟨[(1, [(1, .call [.ro, .ro, .ro] .bool [] [])])], [], []⟩, 0⟩
def f_impl_isTime (a0 : Int) : Option (Bool × Unit) :=
  (f_impl_in a0 0 100000).bind fun r1 =>
  some (r1.1, ())
def r_impl_isTime : Rw := ⟨100, (.pair (.v (.int)) .one), (.pair .bool .one), fun x => f_impl_isTime x.1⟩
theorem r_impl_isTime_ok : RwOk Go.Proofs.Try.prog tyK (r_impl_isTime) :=
  ent_ok (fa := a_impl_isTime) (ls := []) (cs := []) (n := 0) (es := [r_impl_in]) mixedOk tbOk (ents_cons (r_impl_in_ok) ents_nil) Go.Proofs.Try.func100 (by kernel_rfl) (by kernel_rfl) (by kernel_rfl) (LSsOk.nil _ _) (fun x => by kernel_rfl)
/-! loop.example/g00185/impl.SysOk$1 -/
noncomputable def a_impl_SysOk_1 : FnA := ⟨Go.Proofs.Try.f103, ⟨[(0, [(0, .slot 0 .int)])], [], []⟩, 1⟩
def f_impl_SysOk_1 (a0 : Task) (a1 : Sys) : Option (Bool × Unit) :=
  some ((decide (a1.Cpus ≤ a0.Cpu)), ())
def r_impl_SysOk_1 : Rw := ⟨103, (.pair (.v (.agg (.pair .int (.pair .int (.pair .int (.pair .int (.pair .bool (.pair .int (.pair .int (.pair .int (.pair .int (.pair .int (.pair .int (.pair .int (.pair .int (.pair .int .one)))))))))))))))) (.pair (.v (.rp (.pair .int (.pair .int (.pair (.ro .task) (.pair (.ro .lock) (.pair (.ro .ghost) (.pair (.ro .int) (.pair .int (.pair .int (.pair (.ro .turn) .one))))))))) 0)) .one)), (.pair .bool .one), fun x => f_impl_SysOk_1 (⟨x.1.1, x.1.2.1, x.1.2.2.1, x.1.2.2.2.1, x.1.2.2.2.2.1, x.1.2.2.2.2.2.1, x.1.2.2.2.2.2.2.1, x.1.2.2.2.2.2.2.2.1, x.1.2.2.2.2.2.2.2.2.1, x.1.2.2.2.2.2.2.2.2.2.1, x.1.2.2.2.2.2.2.2.2.2.2.1, x.1.2.2.2.2.2.2.2.2.2.2.2.1, x.1.2.2.2.2.2.2.2.2.2.2.2.2.1, x.1.2.2.2.2.2.2.2.2.2.2.2.2.2.1⟩ : Task) (⟨x.2.1.1, x.2.1.2.1, x.2.1.2.2.1.2, x.2.1.2.2.2.1.2, x.2.1.2.2.2.2.1.2, x.2.1.2.2.2.2.2.1.2, x.2.1.2.2.2.2.2.2.1, x.2.1.2.2.2.2.2.2.2.1, x.2.1.2.2.2.2.2.2.2.2.1.2⟩ : Sys)⟩
theorem r_impl_SysOk_1_ok : RwOk Go.Proofs.Try.prog tyK (r_impl_SysOk_1) :=
  ent_ok (fa := a_impl_SysOk_1) (ls := []) (cs := []) (n := 0) (es := []) mixedOk tbOk ents_nil Go.Proofs.Try.func103 (by kernel_rfl) (by kernel_rfl) (by kernel_rfl) (LSsOk.nil _ _) (fun x => by kernel_rfl)
/-! slices.IndexFunc[[]loop.example/g00185/impl.Task,loop.example/g00185/impl.Task] -/
noncomputable def a_slices_IndexFunc_Task_SysOk_1 : FnA := ⟨Go.Proofs.Try.f117, ⟨[(4, [(5, .call [.ro] .bool [] [])])], [], []⟩, 0⟩
def l_slices_IndexFunc_Task_SysOk_1_0 {α : Type} (n : Nat) : Nat → List Task → Sys → Int → Int → (Int → Option α) → (Option α) → Option α
  | 0, _, _, _, _, _, _ => none
  | m0 + 1, v1, v2, v3, v4, k0_0, k0_1 =>
    cond (decide (v4 < v3))
     (cond ((decide (0 ≤ v4)) && (decide (v4 < ((v1).length : Int))))
       ((f_impl_SysOk_1 (List.getD v1 (Int.toNat v4) (Kd.dflt .task)) v2).bind fun r5 =>
        cond r5.1
         (k0_0 v4)
         (l_slices_IndexFunc_Task_SysOk_1_0 n m0 v1 v2 v3 (w64 (v4 + 1)) k0_0 k0_1))
       (none))
     (k0_1)
def f_slices_IndexFunc_Task_SysOk_1 (n : Nat) (a0 : List Task) (a1_0 : Sys) : Option (Int × Unit) :=
  l_slices_IndexFunc_Task_SysOk_1_0 n n a0 a1_0 ((a0).length : Int) 0
   (fun w6 =>
    some (w6, ()))
   (some ((-1), ()))
def r_slices_IndexFunc_Task_SysOk_1 (n : Nat) : Rw := ⟨117, (.pair (.v (.ro .task)) (.pair (.v (.clo 103 (.pair (.rp (.pair .int (.pair .int (.pair (.ro .task) (.pair (.ro .lock) (.pair (.ro .ghost) (.pair (.ro .int) (.pair .int (.pair .int (.pair (.ro .turn) .one))))))))) 0) .one))) .one)), (.pair .int .one), fun x => f_slices_IndexFunc_Task_SysOk_1 n x.1.2 (⟨x.2.1.1.1, x.2.1.1.2.1, x.2.1.1.2.2.1.2, x.2.1.1.2.2.2.1.2, x.2.1.1.2.2.2.2.1.2, x.2.1.1.2.2.2.2.2.1.2, x.2.1.1.2.2.2.2.2.2.1, x.2.1.1.2.2.2.2.2.2.2.1, x.2.1.1.2.2.2.2.2.2.2.2.1.2⟩ : Sys)⟩
def s_slices_IndexFunc_Task_SysOk_1_0 (n : Nat) : LS where
  la := ⟨2, [0, 1, 7, 8], [], [], [4], []⟩
  nt := 19
  kt := [0, 1, 7, 8]
  hs := []
  X := Bool × List Task × Int × Int × Bool × List Task × Bool × List Lock × Bool × List Ghost × Bool × List Int × Int × Int × Bool × List Turn × Int × Int
  abs := fun vs es => match vs, es with | [.ro y0 .task y1, .clo 103 [.rp [.int y2, .int y3, .ro y4 .task y5, .ro y6 .lock y7, .ro y8 .ghost y9, .ro y10 .int y11, .int y12, .int y13, .ro y14 .turn y15] 0], .int y16, .int y17], [] => some (y0, y1, y2, y3, y4, y5, y6, y7, y8, y9, y10, y11, y12, y13, y14, y15, y16, y17) | _, _ => none
  tms := fun x => [.ro x.1 .task x.2.1, .clo 103 [.rp [.int x.2.2.1, .int x.2.2.2.1, .ro x.2.2.2.2.1 .task x.2.2.2.2.2.1, .ro x.2.2.2.2.2.2.1 .lock x.2.2.2.2.2.2.2.1, .ro x.2.2.2.2.2.2.2.2.1 .ghost x.2.2.2.2.2.2.2.2.2.1, .ro x.2.2.2.2.2.2.2.2.2.2.1 .int x.2.2.2.2.2.2.2.2.2.2.2.1, .int x.2.2.2.2.2.2.2.2.2.2.2.2.1, .int x.2.2.2.2.2.2.2.2.2.2.2.2.2.1, .ro x.2.2.2.2.2.2.2.2.2.2.2.2.2.2.1 .turn x.2.2.2.2.2.2.2.2.2.2.2.2.2.2.2.1] 0], .int x.2.2.2.2.2.2.2.2.2.2.2.2.2.2.2.2.1, .int x.2.2.2.2.2.2.2.2.2.2.2.2.2.2.2.2.2]
  ets := fun x => []
  run := fun m x k => l_slices_IndexFunc_Task_SysOk_1_0 n m x.2.1 (⟨x.2.2.1, x.2.2.2.1, x.2.2.2.2.2.1, x.2.2.2.2.2.2.2.1, x.2.2.2.2.2.2.2.2.2.1, x.2.2.2.2.2.2.2.2.2.2.2.1, x.2.2.2.2.2.2.2.2.2.2.2.2.1, x.2.2.2.2.2.2.2.2.2.2.2.2.2.1, x.2.2.2.2.2.2.2.2.2.2.2.2.2.2.2.1⟩ : Sys) x.2.2.2.2.2.2.2.2.2.2.2.2.2.2.2.2.1 x.2.2.2.2.2.2.2.2.2.2.2.2.2.2.2.2.2 (fun w0 => k .ret ⟨layT [4] [.int w0] 0 19, layH [] []⟩) (k (.exit 0) ⟨layT [] [] 0 19, layH [] []⟩)
noncomputable def c_slices_IndexFunc_Task_SysOk_1_0 : Code := (Go.Proofs.Try.f117.body.bind (subLoop 2)).getD .skip
theorem s_slices_IndexFunc_Task_SysOk_1_0_ok (n : Nat) : LSok Tb tyK (orc [r_impl_SysOk_1]) n a_slices_IndexFunc_Task_SysOk_1.ann [s_slices_IndexFunc_Task_SysOk_1_0 n] c_slices_IndexFunc_Task_SysOk_1_0 (s_slices_IndexFunc_Task_SysOk_1_0 n) :=
  ⟨by intro vs es x h; dsimp only [s_slices_IndexFunc_Task_SysOk_1_0] at h; split at h; (· injection h with h; subst h; exact ⟨rfl, rfl⟩); (· cases h), fun _ _ => rfl, fun m x k => by kernel_rfl⟩
theorem r_slices_IndexFunc_Task_SysOk_1_ok (n : Nat) : RwOk Go.Proofs.Try.prog tyK (r_slices_IndexFunc_Task_SysOk_1 n) :=
  ent_ok (fa := a_slices_IndexFunc_Task_SysOk_1) (ls := [s_slices_IndexFunc_Task_SysOk_1_0 n]) (cs := [c_slices_IndexFunc_Task_SysOk_1_0]) (n := n) (es := [r_impl_SysOk_1]) mixedOk tbOk (ents_cons (r_impl_SysOk_1_ok) ents_nil) Go.Proofs.Try.func117 (by kernel_rfl) (by kernel_rfl) (by kernel_rfl) (LSsOk.cons _ _ (l := s_slices_IndexFunc_Task_SysOk_1_0 n) (by kernel_rfl) (s_slices_IndexFunc_Task_SysOk_1_0_ok n) (LSsOk.nil _ _)) (fun x => by kernel_rfl)
/-! slices.ContainsFunc[[]loop.example/g00185/impl.Task,loop.example/g00185/impl.Task] -/
noncomputable def a_slices_ContainsFunc_Task_SysOk_1 : FnA := ⟨Go.Proofs.Try.f102, ⟨[(1, [(2, .call [.ro, .ro] .int [] [])])], [], []⟩, 0⟩
def f_slices_ContainsFunc_Task_SysOk_1 (n : Nat) (a0 : List Task) (a1_0 : Sys) : Option (Bool × Unit) :=
  (f_slices_IndexFunc_Task_SysOk_1 n a0 a1_0).bind fun r1 =>
  some ((decide (0 ≤ r1.1)), ())
def r_slices_ContainsFunc_Task_SysOk_1 (n : Nat) : Rw := ⟨102, (.pair (.v (.ro .task)) (.pair (.v (.clo 103 (.pair (.rp (.pair .int (.pair .int (.pair (.ro .task) (.pair (.ro .lock) (.pair (.ro .ghost) (.pair (.ro .int) (.pair .int (.pair .int (.pair (.ro .turn) .one))))))))) 0) .one))) .one)), (.pair .bool .one), fun x => f_slices_ContainsFunc_Task_SysOk_1 n x.1.2 (⟨x.2.1.1.1, x.2.1.1.2.1, x.2.1.1.2.2.1.2, x.2.1.1.2.2.2.1.2, x.2.1.1.2.2.2.2.1.2, x.2.1.1.2.2.2.2.2.1.2, x.2.1.1.2.2.2.2.2.2.1, x.2.1.1.2.2.2.2.2.2.2.1, x.2.1.1.2.2.2.2.2.2.2.2.1.2⟩ : Sys)⟩
theorem r_slices_ContainsFunc_Task_SysOk_1_ok (n : Nat) : RwOk Go.Proofs.Try.prog tyK (r_slices_ContainsFunc_Task_SysOk_1 n) :=
  ent_ok (fa := a_slices_ContainsFunc_Task_SysOk_1) (ls := []) (cs := []) (n := n) (es := [(r_slices_IndexFunc_Task_SysOk_1 n)]) mixedOk tbOk (ents_cons (r_slices_IndexFunc_Task_SysOk_1_ok n) ents_nil) Go.Proofs.Try.func102 (by kernel_rfl) (by kernel_rfl) (by kernel_rfl) (LSsOk.nil _ _) (fun x => by kernel_rfl)
/-! loop.example/g00185/impl.lockOn -/
noncomputable def a_impl_lockOn : FnA := ⟨Go.Proofs.Try.f107, ⟨[(0, [(0, .slot 0 .int)]), (2, [(2, .slot 1 .int), (5, .slot 2 .int)]), (6, [(2, .call [.ro, .ro] .int [] [])])], [], []⟩, 3⟩
def l_impl_lockOn_0 {α : Type} (n : Nat) : Nat → List Task → Int → List Int → Int → Int → (Option α) → (Option α) → Option α
  | 0, _, _, _, _, _, _, _ => none
  | m0 + 1, v1, v2, v3, v4, v5, k0_0, k0_1 =>
    cond (decide (v5 < v4))
     (cond ((decide (0 ≤ v5)) && (decide (v5 < ((v3).length : Int))))
       (cond (decide ((List.getD v3 (Int.toNat v5) (Kd.dflt .int)) = 0))
         (l_impl_lockOn_0 n m0 v1 v2 v3 v4 (w64 (v5 + 1)) k0_0 k0_1)
         ((f_impl_TaskAt n v1 (List.getD v3 (Int.toNat v5) (Kd.dflt .int))).bind fun r6 =>
          cond (decide (r6.1 < 0))
           (k0_0)
           (cond (decide (0 ≤ v2))
             (cond ((decide (0 ≤ r6.1)) && (decide (r6.1 < ((v1).length : Int))))
               (let e7 := (!(decide ((List.getD v1 (Int.toNat r6.1) (Kd.dflt .task)).Cpu = v2)))
                cond e7
                 (k0_0)
                 (cond ((decide (0 ≤ r6.1)) && (decide (r6.1 < ((v1).length : Int))))
                   (l_impl_lockOn_0 n m0 v1 ((List.getD v1 (Int.toNat r6.1) (Kd.dflt .task)).Cpu) v3 v4 (w64 (v5 + 1)) k0_0 k0_1)
                   (none)))
               (none))
             (cond ((decide (0 ≤ r6.1)) && (decide (r6.1 < ((v1).length : Int))))
               (l_impl_lockOn_0 n m0 v1 ((List.getD v1 (Int.toNat r6.1) (Kd.dflt .task)).Cpu) v3 v4 (w64 (v5 + 1)) k0_0 k0_1)
               (none)))))
       (none))
     (k0_1)
def f_impl_lockOn (n : Nat) (a0 : List Task) (a1 : Lock) : Option (Bool × Unit) :=
  cond (decide ((([a1.Owner] : List Int)).length + (a1.Waits).length ≤ lim))
   (l_impl_lockOn_0 n n a0 (-1) (([a1.Owner] : List Int) ++ a1.Waits) (((([a1.Owner] : List Int) ++ a1.Waits)).length : Int) 0
     (some (false, ()))
     (some (true, ())))
   (none)
def r_impl_lockOn (n : Nat) : Rw := ⟨107, (.pair (.v (.ro .task)) (.pair (.v (.agg (.pair .int (.pair (.ro .int) .one)))) .one)), (.pair .bool .one), fun x => f_impl_lockOn n x.1.2 (⟨x.2.1.1, x.2.1.2.1.2⟩ : Lock)⟩
def s_impl_lockOn_0 (n : Nat) : LS where
  la := ⟨3, [0, 5, 14, 15, 16], [], [], [4], []⟩
  nt := 46
  kt := [0, 5, 14, 15, 16]
  hs := [.dead, .dead, .k]
  X := Bool × List Task × Int × List Int × Int × Int
  abs := fun vs es => match vs, es with | [.ro y0 .task y1, .int y2, .bor 2, .int y4, .int y5], [.root .int y3 .ok] => some (y0, y1, y2, y3, y4, y5) | _, _ => none
  tms := fun x => [.ro x.1 .task x.2.1, .int x.2.2.1, .bor 2, .int x.2.2.2.2.1, .int x.2.2.2.2.2]
  ets := fun x => [.root .int x.2.2.2.1 .ok]
  run := fun m x k => l_impl_lockOn_0 n m x.2.1 x.2.2.1 x.2.2.2.1 x.2.2.2.2.1 x.2.2.2.2.2 (k .ret ⟨layT [4] [.bool false] 0 46, layH [.dead, .dead, .dead] []⟩) (k (.exit 0) ⟨layT [] [] 0 46, layH [.dead, .dead, .dead] []⟩)
noncomputable def c_impl_lockOn_0 : Code := (Go.Proofs.Try.f107.body.bind (subLoop 3)).getD .skip
theorem s_impl_lockOn_0_ok (n : Nat) : LSok Tb tyK (orc [(r_impl_TaskAt n)]) n a_impl_lockOn.ann [s_impl_lockOn_0 n] c_impl_lockOn_0 (s_impl_lockOn_0 n) :=
  ⟨by intro vs es x h; dsimp only [s_impl_lockOn_0] at h; split at h; (· injection h with h; subst h; exact ⟨rfl, rfl⟩); (· cases h), fun _ _ => rfl, fun m x k => by kernel_rfl⟩
theorem r_impl_lockOn_ok (n : Nat) : RwOk Go.Proofs.Try.prog tyK (r_impl_lockOn n) :=
  ent_ok (fa := a_impl_lockOn) (ls := [s_impl_lockOn_0 n]) (cs := [c_impl_lockOn_0]) (n := n) (es := [(r_impl_TaskAt n)]) mixedOk tbOk (ents_cons (r_impl_TaskAt_ok n) ents_nil) Go.Proofs.Try.func107 (by kernel_rfl) (by kernel_rfl) (by kernel_rfl) (LSsOk.cons _ _ (l := s_impl_lockOn_0 n) (by kernel_rfl) (s_impl_lockOn_0_ok n) (LSsOk.nil _ _)) (fun x => by kernel_rfl)
/-! loop.example/g00185/impl.SysOk$2 -/
noncomputable def a_impl_SysOk_2 : FnA := ⟨Go.Proofs.Try.f106, ⟨[(0, [(0, .slot 0 .int)]), (1, [(3, .call [.ro, .ro] .bool [] [])])], [], []⟩, 1⟩
def f_impl_SysOk_2 (n : Nat) (a0 : Lock) (a1 : Sys) : Option (Bool × Unit) :=
  (f_impl_lockOn n a1.Tasks a0).bind fun r1 =>
  some ((!r1.1), ())
def r_impl_SysOk_2 (n : Nat) : Rw := ⟨106, (.pair (.v (.agg (.pair .int (.pair (.ro .int) .one)))) (.pair (.v (.rp (.pair .int (.pair .int (.pair (.ro .task) (.pair (.ro .lock) (.pair (.ro .ghost) (.pair (.ro .int) (.pair .int (.pair .int (.pair (.ro .turn) .one))))))))) 0)) .one)), (.pair .bool .one), fun x => f_impl_SysOk_2 n (⟨x.1.1, x.1.2.1.2⟩ : Lock) (⟨x.2.1.1, x.2.1.2.1, x.2.1.2.2.1.2, x.2.1.2.2.2.1.2, x.2.1.2.2.2.2.1.2, x.2.1.2.2.2.2.2.1.2, x.2.1.2.2.2.2.2.2.1, x.2.1.2.2.2.2.2.2.2.1, x.2.1.2.2.2.2.2.2.2.2.1.2⟩ : Sys)⟩
theorem r_impl_SysOk_2_ok (n : Nat) : RwOk Go.Proofs.Try.prog tyK (r_impl_SysOk_2 n) :=
  ent_ok (fa := a_impl_SysOk_2) (ls := []) (cs := []) (n := n) (es := [(r_impl_lockOn n)]) mixedOk tbOk (ents_cons (r_impl_lockOn_ok n) ents_nil) Go.Proofs.Try.func106 (by kernel_rfl) (by kernel_rfl) (by kernel_rfl) (LSsOk.nil _ _) (fun x => by kernel_rfl)
end Go.Proofs.Ytoedeimpfbebpaa.VR
