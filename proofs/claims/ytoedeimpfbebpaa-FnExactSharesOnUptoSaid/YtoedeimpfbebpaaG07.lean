/- Functions, printed by program (wip/gen/emit.py). -/
import Derived.Test.YtoedeimpfbebpaaG06
set_option linter.unusedVariables false
set_option maxRecDepth 100000
namespace Go.Proofs.Ytoedeimpfbebpaa.VR
open Go
/-! loop.example/g00185/spec.LocksOk -/
noncomputable def a_spec_LocksOk : FnA := ⟨Go.Proofs.Try.f87, ⟨[(6, [(5, .call [.ro, .ro, .ro] .bool [] [])]), (12, [(2, .call [.ro, .ro] (.tup (.pair (.own .int) (.pair .bool .one))) [] [none])]), (13, [(1, .call [.ro, .ro, .ro] .bool [] []), (6, .call [.ro, .ro] .int [] [])])], [], []⟩, 0⟩
def l_spec_LocksOk_1 {α : Type} (n : Nat) : Nat → List Lock → Int → Int → (Option α) → (Option α) → Option α
  | 0, _, _, _, _, _ => none
  | m1 + 1, v6, v7, v8, k1_0, k1_1 =>
    cond ((decide (0 ≤ v7)) && (decide (v7 < ((v6).length : Int))))
     (let e9 := (((List.getD v6 (Int.toNat v7) (Kd.dflt .lock)).Waits).length : Int)
      cond (decide (v8 < e9))
       (cond ((decide (0 ≤ v7)) && (decide (v7 < ((v6).length : Int))))
         (cond ((decide (0 ≤ v8)) && (decide (v8 < (((List.getD v6 (Int.toNat v7) (Kd.dflt .lock)).Waits).length : Int))))
           (let e10 := (List.getD (List.getD v6 (Int.toNat v7) (Kd.dflt .lock)).Waits (Int.toNat v8) (Kd.dflt .int))
            (f_spec_l7Chain n v6 e10).bind fun r11 =>
            (f_spec_l1In e10 1 1000).bind fun r12 =>
            cond (!r12.1)
             (k1_0)
             ((f_spec_l7Waits n v6 e10).bind fun r13 =>
              cond (!(decide (r13.1 = 1)))
               (k1_0)
               (cond (!r11.1.2.1)
                 (k1_0)
                 (l_spec_LocksOk_1 n m1 v6 v7 (w64 (v8 + 1)) k1_0 k1_1))))
           (none))
         (none))
       (k1_1))
     (none)
def l_spec_LocksOk_0 {α : Type} (n : Nat) : Nat → List Lock → Int → (Option α) → (Option α) → Option α
  | 0, _, _, _, _ => none
  | m0 + 1, v1, v2, k0_0, k0_1 =>
    cond (decide (v2 < ((v1).length : Int)))
     (cond ((decide (0 ≤ v2)) && (decide (v2 < ((v1).length : Int))))
       ((f_spec_l1In ((List.getD v1 (Int.toNat v2) (Kd.dflt .lock)).Owner) 0 1000).bind fun r3 =>
        cond (!r3.1)
         (k0_0)
         (cond ((decide (0 ≤ v2)) && (decide (v2 < ((v1).length : Int))))
           (let e4 := (decide ((List.getD v1 (Int.toNat v2) (Kd.dflt .lock)).Owner = 0))
            cond e4
             (cond ((decide (0 ≤ v2)) && (decide (v2 < ((v1).length : Int))))
               (let e5 := (((List.getD v1 (Int.toNat v2) (Kd.dflt .lock)).Waits).length : Int)
                cond (decide (0 < e5))
                 (k0_0)
                 (l_spec_LocksOk_1 n n v1 v2 0
                   (k0_0)
                   (l_spec_LocksOk_0 n m0 v1 (w64 (v2 + 1)) k0_0 k0_1)))
               (none))
             (l_spec_LocksOk_1 n n v1 v2 0
               (k0_0)
               (l_spec_LocksOk_0 n m0 v1 (w64 (v2 + 1)) k0_0 k0_1)))
           (none)))
       (none))
     (k0_1)
def f_spec_LocksOk (n : Nat) (a0 : List Lock) : Option (Bool × Unit) :=
  cond (decide (5 < ((a0).length : Int)))
   (some (false, ()))
   (l_spec_LocksOk_0 n n a0 0
     (some (false, ()))
     (some (true, ())))
def r_spec_LocksOk (n : Nat) : Rw := ⟨87, (.pair (.v (.ro .lock)) .one), (.pair .bool .one), fun x => f_spec_LocksOk n x.1.2⟩
def s_spec_LocksOk_0 (n : Nat) : LS where
  la := ⟨4, [0, 3], [], [], [2], []⟩
  nt := 78
  kt := [0, 3]
  hs := []
  X := Bool × List Lock × Int
  abs := fun vs es => match vs, es with | [.ro y0 .lock y1, .int y2], [] => some (y0, y1, y2) | _, _ => none
  tms := fun x => [.ro x.1 .lock x.2.1, .int x.2.2]
  ets := fun x => []
  run := fun m x k => l_spec_LocksOk_0 n m x.2.1 x.2.2 (k .ret ⟨layT [2] [.bool false] 0 78, layH [] []⟩) (k (.exit 0) ⟨layT [] [] 0 78, layH [] []⟩)
def s_spec_LocksOk_1 (n : Nat) : LS where
  la := ⟨9, [0, 3, 4], [], [], [0, 2, 3], []⟩
  nt := 78
  kt := [0, 3, 4]
  hs := []
  X := Bool × List Lock × Int × Int
  abs := fun vs es => match vs, es with | [.ro y0 .lock y1, .int y2, .int y3], [] => some (y0, y1, y2, y3) | _, _ => none
  tms := fun x => [.ro x.1 .lock x.2.1, .int x.2.2.1, .int x.2.2.2]
  ets := fun x => []
  run := fun m x k => l_spec_LocksOk_1 n m x.2.1 x.2.2.1 x.2.2.2 (k .ret ⟨layT [0, 2, 3] [.ro x.1 .lock x.2.1, .bool false, .int x.2.2.1] 0 78, layH [] []⟩) (k (.exit 2) ⟨layT [0, 3] [.ro x.1 .lock x.2.1, .int x.2.2.1] 0 78, layH [] []⟩)
noncomputable def c_spec_LocksOk_0 : Code := (Go.Proofs.Try.f87.body.bind (subLoop 4)).getD .skip
noncomputable def c_spec_LocksOk_1 : Code := (Go.Proofs.Try.f87.body.bind (subLoop 9)).getD .skip
theorem s_spec_LocksOk_0_ok (n : Nat) : LSok Tb tyK (orc [r_spec_l1In, (r_spec_l7Chain n), (r_spec_l7Waits n)]) n a_spec_LocksOk.ann [s_spec_LocksOk_0 n, s_spec_LocksOk_1 n] c_spec_LocksOk_0 (s_spec_LocksOk_0 n) :=
  ⟨by intro vs es x h; dsimp only [s_spec_LocksOk_0] at h; split at h; (· injection h with h; subst h; exact ⟨rfl, rfl⟩); (· cases h), fun _ _ => rfl, fun m x k => by kernel_rfl⟩
theorem s_spec_LocksOk_1_ok (n : Nat) : LSok Tb tyK (orc [r_spec_l1In, (r_spec_l7Chain n), (r_spec_l7Waits n)]) n a_spec_LocksOk.ann [s_spec_LocksOk_0 n, s_spec_LocksOk_1 n] c_spec_LocksOk_1 (s_spec_LocksOk_1 n) :=
  ⟨by intro vs es x h; dsimp only [s_spec_LocksOk_1] at h; split at h; (· injection h with h; subst h; exact ⟨rfl, rfl⟩); (· cases h), fun _ _ => rfl, fun m x k => by kernel_rfl⟩
theorem r_spec_LocksOk_ok (n : Nat) : RwOk Go.Proofs.Try.prog tyK (r_spec_LocksOk n) :=
  ent_ok (fa := a_spec_LocksOk) (ls := [s_spec_LocksOk_0 n, s_spec_LocksOk_1 n]) (cs := [c_spec_LocksOk_0, c_spec_LocksOk_1]) (n := n) (es := [r_spec_l1In, (r_spec_l7Chain n), (r_spec_l7Waits n)]) mixedOk tbOk (ents_cons (r_spec_l1In_ok) (ents_cons (r_spec_l7Chain_ok n) (ents_cons (r_spec_l7Waits_ok n) ents_nil))) Go.Proofs.Try.func87 (by kernel_rfl) (by kernel_rfl) (by kernel_rfl) (LSsOk.cons _ _ (l := s_spec_LocksOk_0 n) (by kernel_rfl) (s_spec_LocksOk_0_ok n) (LSsOk.cons _ _ (l := s_spec_LocksOk_1 n) (by kernel_rfl) (s_spec_LocksOk_1_ok n) (LSsOk.nil _ _))) (fun x => by kernel_rfl)
/-! loop.example/g00185/spec.l8Executor -/
noncomputable def a_spec_l8Executor : FnA := ⟨Go.Proofs.Try.f89, ⟨[(1, [(2, .call [.ro, .ro] (.tup (.pair (.own .int) (.pair .bool .one))) [] [none])]), (5, [(5, .call [.ro, .ro] .int [] [])])], [], []⟩, 0⟩
def l_spec_l8Executor_0 {α : Type} (n : Nat) : Nat → List Task → List Int → Int → (Option α) → (Option α) → Option α
  | 0, _, _, _, _, _ => none
  | m0 + 1, v2, v3, v4, k0_0, k0_1 =>
    cond (decide (v4 < ((v3).length : Int)))
     (cond ((decide (0 ≤ v4)) && (decide (v4 < ((v3).length : Int))))
       ((f_spec_TaskAt n v2 (List.getD v3 (Int.toNat v4) (Kd.dflt .int))).bind fun r5 =>
        cond (decide (r5.1 < 0))
         (k0_0)
         (l_spec_l8Executor_0 n m0 v2 v3 (w64 (v4 + 1)) k0_0 k0_1))
       (none))
     (k0_1)
def f_spec_l8Executor (n : Nat) (a0 : List Task) (a1 : List Lock) (a2 : Int) : Option (Int × Unit) :=
  (f_spec_l7Chain n a1 a2).bind fun r1 =>
  l_spec_l8Executor_0 n n a0 r1.1.1 0
   (some (0, ()))
   (cond ((decide (0 ≤ (w64 (((r1.1.1).length : Int) - 1)))) && (decide ((w64 (((r1.1.1).length : Int) - 1)) < ((r1.1.1).length : Int))))
     (let e6 := (List.getD r1.1.1 (Int.toNat (w64 (((r1.1.1).length : Int) - 1))) (Kd.dflt .int))
      some (e6, ()))
     (none))
def r_spec_l8Executor (n : Nat) : Rw := ⟨89, (.pair (.v (.ro .task)) (.pair (.v (.ro .lock)) (.pair (.v (.int)) .one))), (.pair .int .one), fun x => f_spec_l8Executor n x.1.2 x.2.1.2 x.2.2.1⟩
def s_spec_l8Executor_0 (n : Nat) : LS where
  la := ⟨3, [0, 7, 9], [], [], [6, 7], []⟩
  nt := 35
  kt := [0, 7, 9]
  hs := []
  X := Bool × List Task × List Int × Int
  abs := fun vs es => match vs, es with | [.ro y0 .task y1, .ro true .int y2, .int y3], [] => some (y0, y1, y2, y3) | _, _ => none
  tms := fun x => [.ro x.1 .task x.2.1, .ro true .int x.2.2.1, .int x.2.2.2]
  ets := fun x => []
  run := fun m x k => l_spec_l8Executor_0 n m x.2.1 x.2.2.1 x.2.2.2 (k .ret ⟨layT [6, 7] [.int 0, .ro true .int x.2.2.1] 0 35, layH [] []⟩) (k (.exit 0) ⟨layT [7] [.ro true .int x.2.2.1] 0 35, layH [] []⟩)
noncomputable def c_spec_l8Executor_0 : Code := (Go.Proofs.Try.f89.body.bind (subLoop 3)).getD .skip
theorem s_spec_l8Executor_0_ok (n : Nat) : LSok Tb tyK (orc [(r_spec_l7Chain n), (r_spec_TaskAt n)]) n a_spec_l8Executor.ann [s_spec_l8Executor_0 n] c_spec_l8Executor_0 (s_spec_l8Executor_0 n) :=
  ⟨by intro vs es x h; dsimp only [s_spec_l8Executor_0] at h; split at h; (· injection h with h; subst h; exact ⟨rfl, rfl⟩); (· cases h), fun _ _ => rfl, fun m x k => by kernel_rfl⟩
theorem r_spec_l8Executor_ok (n : Nat) : RwOk Go.Proofs.Try.prog tyK (r_spec_l8Executor n) :=
  ent_ok (fa := a_spec_l8Executor) (ls := [s_spec_l8Executor_0 n]) (cs := [c_spec_l8Executor_0]) (n := n) (es := [(r_spec_l7Chain n), (r_spec_TaskAt n)]) mixedOk tbOk (ents_cons (r_spec_l7Chain_ok n) (ents_cons (r_spec_TaskAt_ok n) ents_nil)) Go.Proofs.Try.func89 (by kernel_rfl) (by kernel_rfl) (by kernel_rfl) (LSsOk.cons _ _ (l := s_spec_l8Executor_0 n) (by kernel_rfl) (s_spec_l8Executor_0_ok n) (LSsOk.nil _ _)) (fun x => by kernel_rfl)
/-! loop.example/g00185/spec.l8Able -/
noncomputable def a_spec_l8Able : FnA := ⟨Go.Proofs.Try.f144, ⟨[(1, [(3, .call [.ro, .ro, .ro] .int [] [])]), (2, [(6, .call [.ro, .ro] .int [] []), (16, .call [.ro, .ro] .int [] [])])], [], []⟩, 0⟩
def f_spec_l8Able (n : Nat) (a0 : List Task) (a1 : List Lock) (a2 : Int) : Option (Bool × Unit) :=
  (f_spec_l8Executor n a0 a1 a2).bind fun r1 =>
  cond (!(decide (r1.1 = 0)))
   ((f_spec_TaskAt n a0 a2).bind fun r2 =>
    cond ((decide (0 ≤ r2.1)) && (decide (r2.1 < ((a0).length : Int))))
     (let e3 := (decide ((List.getD a0 (Int.toNat r2.1) (Kd.dflt .task)).State = 1))
      cond e3
       ((f_spec_TaskAt n a0 r1.1).bind fun r4 =>
        cond ((decide (0 ≤ r4.1)) && (decide (r4.1 < ((a0).length : Int))))
         (let e5 := (decide ((List.getD a0 (Int.toNat r4.1) (Kd.dflt .task)).State = 1))
          some (e5, ()))
         (none))
       (some (false, ())))
     (none))
   (some (false, ()))
def r_spec_l8Able (n : Nat) : Rw := ⟨144, (.pair (.v (.ro .task)) (.pair (.v (.ro .lock)) (.pair (.v (.int)) .one))), (.pair .bool .one), fun x => f_spec_l8Able n x.1.2 x.2.1.2 x.2.2.1⟩
theorem r_spec_l8Able_ok (n : Nat) : RwOk Go.Proofs.Try.prog tyK (r_spec_l8Able n) :=
  ent_ok (fa := a_spec_l8Able) (ls := []) (cs := []) (n := n) (es := [(r_spec_l8Executor n), (r_spec_TaskAt n)]) mixedOk tbOk (ents_cons (r_spec_l8Executor_ok n) (ents_cons (r_spec_TaskAt_ok n) ents_nil)) Go.Proofs.Try.func144 (by kernel_rfl) (by kernel_rfl) (by kernel_rfl) (LSsOk.nil _ _) (fun x => by kernel_rfl)
/-! loop.example/g00185/spec.l8Can -/
noncomputable def a_spec_l8Can : FnA := ⟨Go.Proofs.Try.f122, ⟨[(1, [(3, .call [.ro, .ro, .ro] .bool [] [])]), (3, [(3, .call [.ro, .ro] .int [] []), (6, .slot 0 .int)])], [], []⟩, 1⟩
def f_spec_l8Can (n : Nat) (a0 : List Task) (a1 : List Lock) (a2 : Int) : Option (Bool × Unit) :=
  (f_spec_l8Able n a0 a1 a2).bind fun r1 =>
  cond (!r1.1)
   (some (false, ()))
   ((f_spec_TaskAt n a0 a2).bind fun r2 =>
    cond ((decide (0 ≤ r2.1)) && (decide (r2.1 < ((a0).length : Int))))
     (let e3 := (!(decide ((List.getD a0 (Int.toNat r2.1) (Kd.dflt .task)).Class = 1)))
      cond e3
       (some (true, ()))
       (let e4 := (decide (0 < (List.getD a0 (Int.toNat r2.1) (Kd.dflt .task)).Left))
        some (e4, ())))
     (none))
def r_spec_l8Can (n : Nat) : Rw := ⟨122, (.pair (.v (.ro .task)) (.pair (.v (.ro .lock)) (.pair (.v (.int)) .one))), (.pair .bool .one), fun x => f_spec_l8Can n x.1.2 x.2.1.2 x.2.2.1⟩
theorem r_spec_l8Can_ok (n : Nat) : RwOk Go.Proofs.Try.prog tyK (r_spec_l8Can n) :=
  ent_ok (fa := a_spec_l8Can) (ls := []) (cs := []) (n := n) (es := [(r_spec_l8Able n), (r_spec_TaskAt n)]) mixedOk tbOk (ents_cons (r_spec_l8Able_ok n) (ents_cons (r_spec_TaskAt_ok n) ents_nil)) Go.Proofs.Try.func122 (by kernel_rfl) (by kernel_rfl) (by kernel_rfl) (LSsOk.nil _ _) (fun x => by kernel_rfl)
/-! loop.example/g00185/spec.l4Due -/
noncomputable def a_spec_l4Due : FnA := ⟨Go.Proofs.Try.f160, ⟨[(0, [(0, .slot 0 .int)]), (1, [(1, .call [.ro] .bool [] [])])], [], []⟩, 1⟩
def f_spec_l4Due (a0 : Task) : Option (Bool × Unit) :=
  (f_spec_TaskOk a0).bind fun r1 =>
  cond r1.1
   (some ((decide (a0.Class = 1)), ()))
   (some (false, ()))
def r_spec_l4Due : Rw := ⟨160, (.pair (.v (.agg (.pair .int (.pair .int (.pair .int (.pair .int (.pair .bool (.pair .int (.pair .int (.pair .int (.pair .int (.pair .int (.pair .int (.pair .int (.pair .int (.pair .int .one)))))))))))))))) .one), (.pair .bool .one), fun x => f_spec_l4Due (⟨x.1.1, x.1.2.1, x.1.2.2.1, x.1.2.2.2.1, x.1.2.2.2.2.1, x.1.2.2.2.2.2.1, x.1.2.2.2.2.2.2.1, x.1.2.2.2.2.2.2.2.1, x.1.2.2.2.2.2.2.2.2.1, x.1.2.2.2.2.2.2.2.2.2.1, x.1.2.2.2.2.2.2.2.2.2.2.1, x.1.2.2.2.2.2.2.2.2.2.2.2.1, x.1.2.2.2.2.2.2.2.2.2.2.2.2.1, x.1.2.2.2.2.2.2.2.2.2.2.2.2.2.1⟩ : Task)⟩
theorem r_spec_l4Due_ok : RwOk Go.Proofs.Try.prog tyK (r_spec_l4Due) :=
  ent_ok (fa := a_spec_l4Due) (ls := []) (cs := []) (n := 0) (es := [r_spec_TaskOk]) mixedOk tbOk (ents_cons (r_spec_TaskOk_ok) ents_nil) Go.Proofs.Try.func160 (by kernel_rfl) (by kernel_rfl) (by kernel_rfl) (LSsOk.nil _ _) (fun x => by kernel_rfl)
/-! loop.example/g00185/spec.DueBefore -/
noncomputable def a_spec_DueBefore : FnA := ⟨Go.Proofs.Try.f145, ⟨[(0, [(0, .slot 0 .int), (1, .slot 1 .int)]), (1, [(1, .call [.ro] .bool [] []), (5, .call [.ro] .bool [] [])])], [], []⟩, 2⟩
def f_spec_DueBefore (a0 : Task) (a1 : Task) : Option (Bool × Unit) :=
  (f_spec_l4Due a0).bind fun r1 =>
  cond (!r1.1)
   (some (false, ()))
   ((f_spec_l4Due a1).bind fun r2 =>
    cond (!r2.1)
     (some (false, ()))
     (cond (decide (a0.Due < a1.Due))
       (some (true, ()))
       (cond (decide (a0.Due = a1.Due))
         (some ((decide (a0.No < a1.No)), ()))
         (some (false, ())))))
def r_spec_DueBefore : Rw := ⟨145, (.pair (.v (.agg (.pair .int (.pair .int (.pair .int (.pair .int (.pair .bool (.pair .int (.pair .int (.pair .int (.pair .int (.pair .int (.pair .int (.pair .int (.pair .int (.pair .int .one)))))))))))))))) (.pair (.v (.agg (.pair .int (.pair .int (.pair .int (.pair .int (.pair .bool (.pair .int (.pair .int (.pair .int (.pair .int (.pair .int (.pair .int (.pair .int (.pair .int (.pair .int .one)))))))))))))))) .one)), (.pair .bool .one), fun x => f_spec_DueBefore (⟨x.1.1, x.1.2.1, x.1.2.2.1, x.1.2.2.2.1, x.1.2.2.2.2.1, x.1.2.2.2.2.2.1, x.1.2.2.2.2.2.2.1, x.1.2.2.2.2.2.2.2.1, x.1.2.2.2.2.2.2.2.2.1, x.1.2.2.2.2.2.2.2.2.2.1, x.1.2.2.2.2.2.2.2.2.2.2.1, x.1.2.2.2.2.2.2.2.2.2.2.2.1, x.1.2.2.2.2.2.2.2.2.2.2.2.2.1, x.1.2.2.2.2.2.2.2.2.2.2.2.2.2.1⟩ : Task) (⟨x.2.1.1, x.2.1.2.1, x.2.1.2.2.1, x.2.1.2.2.2.1, x.2.1.2.2.2.2.1, x.2.1.2.2.2.2.2.1, x.2.1.2.2.2.2.2.2.1, x.2.1.2.2.2.2.2.2.2.1, x.2.1.2.2.2.2.2.2.2.2.1, x.2.1.2.2.2.2.2.2.2.2.2.1, x.2.1.2.2.2.2.2.2.2.2.2.2.1, x.2.1.2.2.2.2.2.2.2.2.2.2.2.1, x.2.1.2.2.2.2.2.2.2.2.2.2.2.2.1, x.2.1.2.2.2.2.2.2.2.2.2.2.2.2.2.1⟩ : Task)⟩
theorem r_spec_DueBefore_ok : RwOk Go.Proofs.Try.prog tyK (r_spec_DueBefore) :=
  ent_ok (fa := a_spec_DueBefore) (ls := []) (cs := []) (n := 0) (es := [r_spec_l4Due]) mixedOk tbOk (ents_cons (r_spec_l4Due_ok) ents_nil) Go.Proofs.Try.func145 (by kernel_rfl) (by kernel_rfl) (by kernel_rfl) (LSsOk.nil _ _) (fun x => by kernel_rfl)
/-! loop.example/g00185/spec.l5Fixed -/
noncomputable def a_spec_l5Fixed : FnA := ⟨Go.Proofs.Try.f161, ⟨[(0, [(0, .slot 0 .int)]), (1, [(1, .call [.ro] .bool [] [])])], [], []⟩, 1⟩
def f_spec_l5Fixed (a0 : Task) : Option (Bool × Unit) :=
  (f_spec_TaskOk a0).bind fun r1 =>
  cond r1.1
   (some ((decide (a0.Class = 2)), ()))
   (some (false, ()))
def r_spec_l5Fixed : Rw := ⟨161, (.pair (.v (.agg (.pair .int (.pair .int (.pair .int (.pair .int (.pair .bool (.pair .int (.pair .int (.pair .int (.pair .int (.pair .int (.pair .int (.pair .int (.pair .int (.pair .int .one)))))))))))))))) .one), (.pair .bool .one), fun x => f_spec_l5Fixed (⟨x.1.1, x.1.2.1, x.1.2.2.1, x.1.2.2.2.1, x.1.2.2.2.2.1, x.1.2.2.2.2.2.1, x.1.2.2.2.2.2.2.1, x.1.2.2.2.2.2.2.2.1, x.1.2.2.2.2.2.2.2.2.1, x.1.2.2.2.2.2.2.2.2.2.1, x.1.2.2.2.2.2.2.2.2.2.2.1, x.1.2.2.2.2.2.2.2.2.2.2.2.1, x.1.2.2.2.2.2.2.2.2.2.2.2.2.1, x.1.2.2.2.2.2.2.2.2.2.2.2.2.2.1⟩ : Task)⟩
theorem r_spec_l5Fixed_ok : RwOk Go.Proofs.Try.prog tyK (r_spec_l5Fixed) :=
  ent_ok (fa := a_spec_l5Fixed) (ls := []) (cs := []) (n := 0) (es := [r_spec_TaskOk]) mixedOk tbOk (ents_cons (r_spec_TaskOk_ok) ents_nil) Go.Proofs.Try.func161 (by kernel_rfl) (by kernel_rfl) (by kernel_rfl) (LSsOk.nil _ _) (fun x => by kernel_rfl)
/-! loop.example/g00185/spec.FixedBefore -/
noncomputable def a_spec_FixedBefore : FnA := ⟨Go.Proofs.Try.f146, ⟨[(0, [(0, .slot 0 .int), (1, .slot 1 .int)]), (1, [(1, .call [.ro] .bool [] []), (5, .call [.ro] .bool [] [])])], [], []⟩, 2⟩
def f_spec_FixedBefore (a0 : Task) (a1 : Task) : Option (Bool × Unit) :=
  (f_spec_l5Fixed a0).bind fun r1 =>
  cond (!r1.1)
   (some (false, ()))
   ((f_spec_l5Fixed a1).bind fun r2 =>
    cond (!r2.1)
     (some (false, ()))
     (cond (!(decide (a0.Prio = a1.Prio)))
       (some ((decide (a1.Prio < a0.Prio)), ()))
       (cond (!(decide (a0.Seq = a1.Seq)))
         (some ((decide (a0.Seq < a1.Seq)), ()))
         (some ((decide (a0.No < a1.No)), ())))))
def r_spec_FixedBefore : Rw := ⟨146, (.pair (.v (.agg (.pair .int (.pair .int (.pair .int (.pair .int (.pair .bool (.pair .int (.pair .int (.pair .int (.pair .int (.pair .int (.pair .int (.pair .int (.pair .int (.pair .int .one)))))))))))))))) (.pair (.v (.agg (.pair .int (.pair .int (.pair .int (.pair .int (.pair .bool (.pair .int (.pair .int (.pair .int (.pair .int (.pair .int (.pair .int (.pair .int (.pair .int (.pair .int .one)))))))))))))))) .one)), (.pair .bool .one), fun x => f_spec_FixedBefore (⟨x.1.1, x.1.2.1, x.1.2.2.1, x.1.2.2.2.1, x.1.2.2.2.2.1, x.1.2.2.2.2.2.1, x.1.2.2.2.2.2.2.1, x.1.2.2.2.2.2.2.2.1, x.1.2.2.2.2.2.2.2.2.1, x.1.2.2.2.2.2.2.2.2.2.1, x.1.2.2.2.2.2.2.2.2.2.2.1, x.1.2.2.2.2.2.2.2.2.2.2.2.1, x.1.2.2.2.2.2.2.2.2.2.2.2.2.1, x.1.2.2.2.2.2.2.2.2.2.2.2.2.2.1⟩ : Task) (⟨x.2.1.1, x.2.1.2.1, x.2.1.2.2.1, x.2.1.2.2.2.1, x.2.1.2.2.2.2.1, x.2.1.2.2.2.2.2.1, x.2.1.2.2.2.2.2.2.1, x.2.1.2.2.2.2.2.2.2.1, x.2.1.2.2.2.2.2.2.2.2.1, x.2.1.2.2.2.2.2.2.2.2.2.1, x.2.1.2.2.2.2.2.2.2.2.2.2.1, x.2.1.2.2.2.2.2.2.2.2.2.2.2.1, x.2.1.2.2.2.2.2.2.2.2.2.2.2.2.1, x.2.1.2.2.2.2.2.2.2.2.2.2.2.2.2.1⟩ : Task)⟩
theorem r_spec_FixedBefore_ok : RwOk Go.Proofs.Try.prog tyK (r_spec_FixedBefore) :=
  ent_ok (fa := a_spec_FixedBefore) (ls := []) (cs := []) (n := 0) (es := [r_spec_l5Fixed]) mixedOk tbOk (ents_cons (r_spec_l5Fixed_ok) ents_nil) Go.Proofs.Try.func146 (by kernel_rfl) (by kernel_rfl) (by kernel_rfl) (LSsOk.nil _ _) (fun x => by kernel_rfl)
/-! loop.example/g00185/spec.l6Fair -/
noncomputable def a_spec_l6Fair : FnA := ⟨Go.Proofs.Try.f162, ⟨[(0, [(0, .slot 0 .int)]), (1, [(1, .call [.ro] .bool [] [])])], [], []⟩, 1⟩
def f_spec_l6Fair (a0 : Task) : Option (Bool × Unit) :=
  (f_spec_TaskOk a0).bind fun r1 =>
  cond r1.1
   (some ((decide (a0.Class = 3)), ()))
   (some (false, ()))
def r_spec_l6Fair : Rw := ⟨162, (.pair (.v (.agg (.pair .int (.pair .int (.pair .int (.pair .int (.pair .bool (.pair .int (.pair .int (.pair .int (.pair .int (.pair .int (.pair .int (.pair .int (.pair .int (.pair .int .one)))))))))))))))) .one), (.pair .bool .one), fun x => f_spec_l6Fair (⟨x.1.1, x.1.2.1, x.1.2.2.1, x.1.2.2.2.1, x.1.2.2.2.2.1, x.1.2.2.2.2.2.1, x.1.2.2.2.2.2.2.1, x.1.2.2.2.2.2.2.2.1, x.1.2.2.2.2.2.2.2.2.1, x.1.2.2.2.2.2.2.2.2.2.1, x.1.2.2.2.2.2.2.2.2.2.2.1, x.1.2.2.2.2.2.2.2.2.2.2.2.1, x.1.2.2.2.2.2.2.2.2.2.2.2.2.1, x.1.2.2.2.2.2.2.2.2.2.2.2.2.2.1⟩ : Task)⟩
theorem r_spec_l6Fair_ok : RwOk Go.Proofs.Try.prog tyK (r_spec_l6Fair) :=
  ent_ok (fa := a_spec_l6Fair) (ls := []) (cs := []) (n := 0) (es := [r_spec_TaskOk]) mixedOk tbOk (ents_cons (r_spec_TaskOk_ok) ents_nil) Go.Proofs.Try.func162 (by kernel_rfl) (by kernel_rfl) (by kernel_rfl) (LSsOk.nil _ _) (fun x => by kernel_rfl)
/-! loop.example/g00185/spec.FairBefore -/
noncomputable def a_spec_FairBefore : FnA := ⟨Go.Proofs.Try.f147, ⟨[(0, [(0, .slot 0 .int), (1, .slot 1 .int)]), (1, [(1, .call [.ro] .bool [] []), (5, .call [.ro] .bool [] [])])], [], []⟩, 2⟩
def f_spec_FairBefore (a0 : Task) (a1 : Task) : Option (Bool × Unit) :=
  (f_spec_l6Fair a0).bind fun r1 =>
  cond (!r1.1)
   (some (false, ()))
   ((f_spec_l6Fair a1).bind fun r2 =>
    cond (!r2.1)
     (some (false, ()))
     (cond (decide (a0.V < a1.V))
       (some (true, ()))
       (cond (decide (a0.V = a1.V))
         (some ((decide (a0.No < a1.No)), ()))
         (some (false, ())))))
def r_spec_FairBefore : Rw := ⟨147, (.pair (.v (.agg (.pair .int (.pair .int (.pair .int (.pair .int (.pair .bool (.pair .int (.pair .int (.pair .int (.pair .int (.pair .int (.pair .int (.pair .int (.pair .int (.pair .int .one)))))))))))))))) (.pair (.v (.agg (.pair .int (.pair .int (.pair .int (.pair .int (.pair .bool (.pair .int (.pair .int (.pair .int (.pair .int (.pair .int (.pair .int (.pair .int (.pair .int (.pair .int .one)))))))))))))))) .one)), (.pair .bool .one), fun x => f_spec_FairBefore (⟨x.1.1, x.1.2.1, x.1.2.2.1, x.1.2.2.2.1, x.1.2.2.2.2.1, x.1.2.2.2.2.2.1, x.1.2.2.2.2.2.2.1, x.1.2.2.2.2.2.2.2.1, x.1.2.2.2.2.2.2.2.2.1, x.1.2.2.2.2.2.2.2.2.2.1, x.1.2.2.2.2.2.2.2.2.2.2.1, x.1.2.2.2.2.2.2.2.2.2.2.2.1, x.1.2.2.2.2.2.2.2.2.2.2.2.2.1, x.1.2.2.2.2.2.2.2.2.2.2.2.2.2.1⟩ : Task) (⟨x.2.1.1, x.2.1.2.1, x.2.1.2.2.1, x.2.1.2.2.2.1, x.2.1.2.2.2.2.1, x.2.1.2.2.2.2.2.1, x.2.1.2.2.2.2.2.2.1, x.2.1.2.2.2.2.2.2.2.1, x.2.1.2.2.2.2.2.2.2.2.1, x.2.1.2.2.2.2.2.2.2.2.2.1, x.2.1.2.2.2.2.2.2.2.2.2.2.1, x.2.1.2.2.2.2.2.2.2.2.2.2.2.1, x.2.1.2.2.2.2.2.2.2.2.2.2.2.2.1, x.2.1.2.2.2.2.2.2.2.2.2.2.2.2.2.1⟩ : Task)⟩
theorem r_spec_FairBefore_ok : RwOk Go.Proofs.Try.prog tyK (r_spec_FairBefore) :=
  ent_ok (fa := a_spec_FairBefore) (ls := []) (cs := []) (n := 0) (es := [r_spec_l6Fair]) mixedOk tbOk (ents_cons (r_spec_l6Fair_ok) ents_nil) Go.Proofs.Try.func147 (by kernel_rfl) (by kernel_rfl) (by kernel_rfl) (LSsOk.nil _ _) (fun x => by kernel_rfl)
/-! loop.example/g00185/spec.Before -/
noncomputable def a_spec_Before : FnA := ⟨Go.Proofs.Try.f123, ⟨[(0, [(0, .slot 0 .int), (1, .slot 1 .int)]), (1, [(1, .call [.ro] .bool [] []), (5, .call [.ro] .bool [] [])]), (5, [(2, .call [.ro, .ro] .bool [] []), (6, .call [.ro, .ro] .bool [] []), (11, .call [.ro, .ro] .bool [] [])])], [], []⟩, 2⟩
def f_spec_Before (a0 : Task) (a1 : Task) : Option (Bool × Unit) :=
  (f_spec_TaskOk a0).bind fun r1 =>
  cond (!r1.1)
   (some (false, ()))
   ((f_spec_TaskOk a1).bind fun r2 =>
    cond (!r2.1)
     (some (false, ()))
     (cond (!(decide (a0.Class = a1.Class)))
       (some ((decide (a0.Class < a1.Class)), ()))
       ((f_spec_DueBefore a0 a1).bind fun r3 =>
        cond r3.1
         (some (true, ()))
         ((f_spec_FixedBefore a0 a1).bind fun r4 =>
          cond r4.1
           (some (true, ()))
           ((f_spec_FairBefore a0 a1).bind fun r5 =>
            some (r5.1, ()))))))
def r_spec_Before : Rw := ⟨123, (.pair (.v (.agg (.pair .int (.pair .int (.pair .int (.pair .int (.pair .bool (.pair .int (.pair .int (.pair .int (.pair .int (.pair .int (.pair .int (.pair .int (.pair .int (.pair .int .one)))))))))))))))) (.pair (.v (.agg (.pair .int (.pair .int (.pair .int (.pair .int (.pair .bool (.pair .int (.pair .int (.pair .int (.pair .int (.pair .int (.pair .int (.pair .int (.pair .int (.pair .int .one)))))))))))))))) .one)), (.pair .bool .one), fun x => f_spec_Before (⟨x.1.1, x.1.2.1, x.1.2.2.1, x.1.2.2.2.1, x.1.2.2.2.2.1, x.1.2.2.2.2.2.1, x.1.2.2.2.2.2.2.1, x.1.2.2.2.2.2.2.2.1, x.1.2.2.2.2.2.2.2.2.1, x.1.2.2.2.2.2.2.2.2.2.1, x.1.2.2.2.2.2.2.2.2.2.2.1, x.1.2.2.2.2.2.2.2.2.2.2.2.1, x.1.2.2.2.2.2.2.2.2.2.2.2.2.1, x.1.2.2.2.2.2.2.2.2.2.2.2.2.2.1⟩ : Task) (⟨x.2.1.1, x.2.1.2.1, x.2.1.2.2.1, x.2.1.2.2.2.1, x.2.1.2.2.2.2.1, x.2.1.2.2.2.2.2.1, x.2.1.2.2.2.2.2.2.1, x.2.1.2.2.2.2.2.2.2.1, x.2.1.2.2.2.2.2.2.2.2.1, x.2.1.2.2.2.2.2.2.2.2.2.1, x.2.1.2.2.2.2.2.2.2.2.2.2.1, x.2.1.2.2.2.2.2.2.2.2.2.2.2.1, x.2.1.2.2.2.2.2.2.2.2.2.2.2.2.1, x.2.1.2.2.2.2.2.2.2.2.2.2.2.2.2.1⟩ : Task)⟩
theorem r_spec_Before_ok : RwOk Go.Proofs.Try.prog tyK (r_spec_Before) :=
  ent_ok (fa := a_spec_Before) (ls := []) (cs := []) (n := 0) (es := [r_spec_TaskOk, r_spec_DueBefore, r_spec_FixedBefore, r_spec_FairBefore]) mixedOk tbOk (ents_cons (r_spec_TaskOk_ok) (ents_cons (r_spec_DueBefore_ok) (ents_cons (r_spec_FixedBefore_ok) (ents_cons (r_spec_FairBefore_ok) ents_nil)))) Go.Proofs.Try.func123 (by kernel_rfl) (by kernel_rfl) (by kernel_rfl) (LSsOk.nil _ _) (fun x => by kernel_rfl)
/-! loop.example/g00185/spec.l8Pick -/
noncomputable def a_spec_l8Pick : FnA := ⟨Go.Proofs.Try.f88, ⟨[(5, [(15, .call [.ro, .ro, .ro] .bool [] []), (29, .call [.ro, .ro] .bool [] [])])], [(5, [([], []), ([], []), ([], []), ([], []), ([], []), ([], []), ([], []), ([], []), ([], []), ([], []), ([], []), ([], []), ([], []), ([], []), ([], []), ([], []), ([], []), ([], []), ([], []), ([], []), ([], []), ([], []), ([], []), ([], []), ([], []), ([], []), ([], []), ([], []), ([], []), ([], []), ([], []), ([], [])])], []⟩, 0⟩
def l_spec_l8Pick_0 {α : Type} (n : Nat) : Nat → List Task → List Lock → Int → Int → Int → (Int → Option α) → Option α
  | 0, _, _, _, _, _, _ => none
  | m0 + 1, v1, v2, v3, v4, v5, k0_0 =>
    cond (decide (v5 < ((v1).length : Int)))
     (cond ((decide (0 ≤ v5)) && (decide (v5 < ((v1).length : Int))))
       (let e6 := (decide ((List.getD v1 (Int.toNat v5) (Kd.dflt .task)).Cpu = v3))
        cond e6
         (cond ((decide (0 ≤ v5)) && (decide (v5 < ((v1).length : Int))))
           ((f_spec_l8Can n v1 v2 ((List.getD v1 (Int.toNat v5) (Kd.dflt .task)).No)).bind fun r7 =>
            cond r7.1
             (cond (decide (v4 < 0))
               (l_spec_l8Pick_0 n m0 v1 v2 v3 v5 (w64 (v5 + 1)) k0_0)
               (cond ((decide (0 ≤ v5)) && (decide (v5 < ((v1).length : Int))))
                 (cond ((decide (0 ≤ v4)) && (decide (v4 < ((v1).length : Int))))
                   ((f_spec_Before (List.getD v1 (Int.toNat v5) (Kd.dflt .task)) (List.getD v1 (Int.toNat v4) (Kd.dflt .task))).bind fun r8 =>
                    cond r8.1
                     (l_spec_l8Pick_0 n m0 v1 v2 v3 v5 (w64 (v5 + 1)) k0_0)
                     (l_spec_l8Pick_0 n m0 v1 v2 v3 v4 (w64 (v5 + 1)) k0_0))
                   (none))
                 (none)))
             (l_spec_l8Pick_0 n m0 v1 v2 v3 v4 (w64 (v5 + 1)) k0_0))
           (none))
         (l_spec_l8Pick_0 n m0 v1 v2 v3 v4 (w64 (v5 + 1)) k0_0))
       (none))
     (k0_0 v4)
def f_spec_l8Pick (n : Nat) (a0 : List Task) (a1 : List Lock) (a2 : Int) : Option (Int × Unit) :=
  l_spec_l8Pick_0 n n a0 a1 a2 (-1) 0
   (fun w9 =>
    some (w9, ()))
def r_spec_l8Pick (n : Nat) : Rw := ⟨88, (.pair (.v (.ro .task)) (.pair (.v (.ro .lock)) (.pair (.v (.int)) .one))), (.pair .int .one), fun x => f_spec_l8Pick n x.1.2 x.2.1.2 x.2.2.1⟩
def s_spec_l8Pick_0 (n : Nat) : LS where
  la := ⟨3, [0, 1, 2, 7, 8], [], [], [7], []⟩
  nt := 49
  kt := [0, 1, 2, 7, 8]
  hs := []
  X := Bool × List Task × Bool × List Lock × Int × Int × Int
  abs := fun vs es => match vs, es with | [.ro y0 .task y1, .ro y2 .lock y3, .int y4, .int y5, .int y6], [] => some (y0, y1, y2, y3, y4, y5, y6) | _, _ => none
  tms := fun x => [.ro x.1 .task x.2.1, .ro x.2.2.1 .lock x.2.2.2.1, .int x.2.2.2.2.1, .int x.2.2.2.2.2.1, .int x.2.2.2.2.2.2]
  ets := fun x => []
  run := fun m x k => l_spec_l8Pick_0 n m x.2.1 x.2.2.2.1 x.2.2.2.2.1 x.2.2.2.2.2.1 x.2.2.2.2.2.2 (fun w0 => k (.exit 0) ⟨layT [7] [.int w0] 0 49, layH [] []⟩)
noncomputable def c_spec_l8Pick_0 : Code := (Go.Proofs.Try.f88.body.bind (subLoop 3)).getD .skip
theorem s_spec_l8Pick_0_ok (n : Nat) : LSok Tb tyK (orc [(r_spec_l8Can n), r_spec_Before]) n a_spec_l8Pick.ann [s_spec_l8Pick_0 n] c_spec_l8Pick_0 (s_spec_l8Pick_0 n) :=
  ⟨by intro vs es x h; dsimp only [s_spec_l8Pick_0] at h; split at h; (· injection h with h; subst h; exact ⟨rfl, rfl⟩); (· cases h), fun _ _ => rfl, fun m x k => by kernel_rfl⟩
theorem r_spec_l8Pick_ok (n : Nat) : RwOk Go.Proofs.Try.prog tyK (r_spec_l8Pick n) :=
  ent_ok (fa := a_spec_l8Pick) (ls := [s_spec_l8Pick_0 n]) (cs := [c_spec_l8Pick_0]) (n := n) (es := [(r_spec_l8Can n), r_spec_Before]) mixedOk tbOk (ents_cons (r_spec_l8Can_ok n) (ents_cons (r_spec_Before_ok) ents_nil)) Go.Proofs.Try.func88 (by kernel_rfl) (by kernel_rfl) (by kernel_rfl) (LSsOk.cons _ _ (l := s_spec_l8Pick_0 n) (by kernel_rfl) (s_spec_l8Pick_0_ok n) (LSsOk.nil _ _)) (fun x => by kernel_rfl)
/-! loop.example/g00185/spec.Pick -/
noncomputable def a_spec_Pick : FnA := ⟨Go.Proofs.Try.f48, ⟨[(1, [(1, .call [.ro] .bool [] []), (5, .call [.ro] .bool [] [])]), (3, [(3, .call [.ro, .ro, .ro] .int [] [])]), (6, [(12, .call [.ro, .ro, .ro] .int [] [])])], [(6, [([], []), ([], []), ([], []), ([], []), ([], []), ([], []), ([], []), ([], []), ([], []), ([], []), ([], []), ([], []), ([], []), ([], []), ([], [])])], []⟩, 0⟩
def f_spec_Pick (n : Nat) (a0 : List Task) (a1 : List Lock) (a2 : Int) : Option ((Int × Int × Unit) × Unit) :=
  (f_spec_TasksOk n a0).bind fun r1 =>
  cond (!r1.1)
   (some ((0, 0, ()), ()))
   ((f_spec_LocksOk n a1).bind fun r2 =>
    cond (!r2.1)
     (some ((0, 0, ()), ()))
     ((f_spec_l8Pick n a0 a1 a2).bind fun r3 =>
      cond (decide (r3.1 < 0))
       (some ((0, 0, ()), ()))
       (cond ((decide (0 ≤ r3.1)) && (decide (r3.1 < ((a0).length : Int))))
         (cond ((decide (0 ≤ r3.1)) && (decide (r3.1 < ((a0).length : Int))))
           ((f_spec_l8Executor n a0 a1 ((List.getD a0 (Int.toNat r3.1) (Kd.dflt .task)).No)).bind fun r4 =>
            some (((List.getD a0 (Int.toNat r3.1) (Kd.dflt .task)).No, r4.1, ()), ()))
           (none))
         (none))))
def r_spec_Pick (n : Nat) : Rw := ⟨48, (.pair (.v (.ro .task)) (.pair (.v (.ro .lock)) (.pair (.v (.int)) .one))), (.pair (.tup (.pair .int (.pair .int .one))) .one), fun x => f_spec_Pick n x.1.2 x.2.1.2 x.2.2.1⟩
theorem r_spec_Pick_ok (n : Nat) : RwOk Go.Proofs.Try.prog tyK (r_spec_Pick n) :=
  ent_ok (fa := a_spec_Pick) (ls := []) (cs := []) (n := n) (es := [(r_spec_TasksOk n), (r_spec_LocksOk n), (r_spec_l8Pick n), (r_spec_l8Executor n)]) mixedOk tbOk (ents_cons (r_spec_TasksOk_ok n) (ents_cons (r_spec_LocksOk_ok n) (ents_cons (r_spec_l8Pick_ok n) (ents_cons (r_spec_l8Executor_ok n) ents_nil)))) Go.Proofs.Try.func48 (by kernel_rfl) (by kernel_rfl) (by kernel_rfl) (LSsOk.nil _ _) (fun x => by kernel_rfl)
/-! loop.example/g00185/impl.isNo -/
noncomputable def a_impl_isNo : FnA := ⟨Go.Proofs.Try.f130, ⟨[(1, [(1, .call [.ro, .ro, .ro] .bool [] [])])], [], []⟩, 0⟩
def f_impl_isNo (a0 : Int) : Option (Bool × Unit) :=
  (f_impl_in a0 1 1000).bind fun r1 =>
  some (r1.1, ())
def r_impl_isNo : Rw := ⟨130, (.pair (.v (.int)) .one), (.pair .bool .one), fun x => f_impl_isNo x.1⟩
theorem r_impl_isNo_ok : RwOk Go.Proofs.Try.prog tyK (r_impl_isNo) :=
  ent_ok (fa := a_impl_isNo) (ls := []) (cs := []) (n := 0) (es := [r_impl_in]) mixedOk tbOk (ents_cons (r_impl_in_ok) ents_nil) Go.Proofs.Try.func130 (by kernel_rfl) (by kernel_rfl) (by kernel_rfl) (LSsOk.nil _ _) (fun x => by kernel_rfl)
/-! loop.example/g00185/impl.ShareOk -/
noncomputable def a_impl_ShareOk : FnA := ⟨Go.Proofs.Try.f135, ⟨[(0, [(0, .slot 0 .int)]), (1, [(2, .call [.ro, .ro, .ro] .bool [] []), (8, .call [.ro, .ro, .ro] .bool [] [])])], [], []⟩, 1⟩
def f_impl_ShareOk (a0 : Share) : Option (Bool × Unit) :=
  (f_impl_in a0.P 1 40).bind fun r1 =>
  cond r1.1
   ((f_impl_in a0.Q 1 a0.P).bind fun r2 =>
    some (r2.1, ()))
   (some (false, ()))
def r_impl_ShareOk : Rw := ⟨135, (.pair (.v (.agg (.pair .int (.pair .int .one)))) .one), (.pair .bool .one), fun x => f_impl_ShareOk (⟨x.1.1, x.1.2.1⟩ : Share)⟩
theorem r_impl_ShareOk_ok : RwOk Go.Proofs.Try.prog tyK (r_impl_ShareOk) :=
  ent_ok (fa := a_impl_ShareOk) (ls := []) (cs := []) (n := 0) (es := [r_impl_in]) mixedOk tbOk (ents_cons (r_impl_in_ok) ents_nil) Go.Proofs.Try.func135 (by kernel_rfl) (by kernel_rfl) (by kernel_rfl) (LSsOk.nil _ _) (fun x => by kernel_rfl)
/-! loop.example/g00185/impl.isUntil -/
noncomputable def a_impl_isUntil : FnA := ⟨Go.Proofs.Try.f136, ⟨[(1, [(1, .call [.ro, .ro, .ro] .bool [] [])])], [], []⟩, 0⟩
def f_impl_isUntil (a0 : Int) : Option (Bool × Unit) :=
  (f_impl_in a0 0 100040).bind fun r1 =>
  some (r1.1, ())
def r_impl_isUntil : Rw := ⟨136, (.pair (.v (.int)) .one), (.pair .bool .one), fun x => f_impl_isUntil x.1⟩
theorem r_impl_isUntil_ok : RwOk Go.Proofs.Try.prog tyK (r_impl_isUntil) :=
  ent_ok (fa := a_impl_isUntil) (ls := []) (cs := []) (n := 0) (es := [r_impl_in]) mixedOk tbOk (ents_cons (r_impl_in_ok) ents_nil) Go.Proofs.Try.func136 (by kernel_rfl) (by kernel_rfl) (by kernel_rfl) (LSsOk.nil _ _) (fun x => by kernel_rfl)
/-! loop.example/g00185/impl.isSeq -/
noncomputable def a_impl_isSeq : FnA := ⟨Go.Proofs.Try.f114, ⟨[(1, [(1, .call [.ro, .ro, .ro] .bool [] [])])], [], []⟩, 0⟩
def f_impl_isSeq (a0 : Int) : Option (Bool × Unit) :=
  (f_impl_in a0 0 1000000).bind fun r1 =>
  some (r1.1, ())
def r_impl_isSeq : Rw := ⟨114, (.pair (.v (.int)) .one), (.pair .bool .one), fun x => f_impl_isSeq x.1⟩
theorem r_impl_isSeq_ok : RwOk Go.Proofs.Try.prog tyK (r_impl_isSeq) :=
  ent_ok (fa := a_impl_isSeq) (ls := []) (cs := []) (n := 0) (es := [r_impl_in]) mixedOk tbOk (ents_cons (r_impl_in_ok) ents_nil) Go.Proofs.Try.func114 (by kernel_rfl) (by kernel_rfl) (by kernel_rfl) (LSsOk.nil _ _) (fun x => by kernel_rfl)
/-! loop.example/g00185/impl.NiceOk -/
noncomputable def a_impl_NiceOk : FnA := ⟨Go.Proofs.Try.f153, ⟨[(1, [(1, .call [.ro, .ro, .ro] .bool [] [])])], [], []⟩, 0⟩
def f_impl_NiceOk (a0 : Int) : Option (Bool × Unit) :=
  (f_impl_in a0 (-4) 4).bind fun r1 =>
  some (r1.1, ())
def r_impl_NiceOk : Rw := ⟨153, (.pair (.v (.int)) .one), (.pair .bool .one), fun x => f_impl_NiceOk x.1⟩
theorem r_impl_NiceOk_ok : RwOk Go.Proofs.Try.prog tyK (r_impl_NiceOk) :=
  ent_ok (fa := a_impl_NiceOk) (ls := []) (cs := []) (n := 0) (es := [r_impl_in]) mixedOk tbOk (ents_cons (r_impl_in_ok) ents_nil) Go.Proofs.Try.func153 (by kernel_rfl) (by kernel_rfl) (by kernel_rfl) (LSsOk.nil _ _) (fun x => by kernel_rfl)
end Go.Proofs.Ytoedeimpfbebpaa.VR
