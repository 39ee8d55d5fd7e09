/- Functions, printed by program (wip/gen/emit.py). -/
import Derived.Test.YtjgkeaiibdodfaaGreatG06
set_option linter.unusedVariables false
set_option maxRecDepth 100000
namespace Go.Proofs.YtjgkeaiibdodfaaGreat.VR
open Go
/-! loop.example/g00185/impl.JudgeBest$1 -/
noncomputable def a_impl_JudgeBest_1 : FnA := ⟨Go.Proofs.Tryz.f46, ⟨[(0, [(0, .slot 0 .int)]), (1, [(6, .call [.ro, .ro] .bool [] [])])], [(1, [([0], []), ([], []), ([], []), ([], []), ([], []), ([], []), ([], []), ([], [])])], []⟩, 1⟩
def f_impl_JudgeBest_1 (a0 : Task) (a1 : Sys) (a2_0 : Int) : Option (Bool × Unit) :=
  cond ((decide (0 ≤ a2_0)) && (decide (a2_0 < ((a1.Tasks).length : Int))))
   ((f_impl_Before a0 (List.getD a1.Tasks (Int.toNat a2_0) (Kd.dflt .task))).bind fun r1 =>
    some (r1.1, ()))
   (none)
def r_impl_JudgeBest_1 : Rw := ⟨46, (.pair (.v (.agg (.pair .int (.pair .int (.pair .int (.pair .int (.pair .bool (.pair .int (.pair .int (.pair .int (.pair .int (.pair .int (.pair .int (.pair .int (.pair .int (.pair .int .one)))))))))))))))) (.pair (.v (.rp (.pair .int (.pair .int (.pair (.ro .task) (.pair (.ro .lock) (.pair (.ro .ghost) (.pair (.ro .int) (.pair .int (.pair .int (.pair (.ro .turn) .one))))))))) 0)) (.pair (.v (.rp (.pair .int .one) 0)) .one))), (.pair .bool .one), fun x => f_impl_JudgeBest_1 (⟨x.1.1, x.1.2.1, x.1.2.2.1, x.1.2.2.2.1, x.1.2.2.2.2.1, x.1.2.2.2.2.2.1, x.1.2.2.2.2.2.2.1, x.1.2.2.2.2.2.2.2.1, x.1.2.2.2.2.2.2.2.2.1, x.1.2.2.2.2.2.2.2.2.2.1, x.1.2.2.2.2.2.2.2.2.2.2.1, x.1.2.2.2.2.2.2.2.2.2.2.2.1, x.1.2.2.2.2.2.2.2.2.2.2.2.2.1, x.1.2.2.2.2.2.2.2.2.2.2.2.2.2.1⟩ : Task) (⟨x.2.1.1, x.2.1.2.1, x.2.1.2.2.1.2, x.2.1.2.2.2.1.2, x.2.1.2.2.2.2.1.2, x.2.1.2.2.2.2.2.1.2, x.2.1.2.2.2.2.2.2.1, x.2.1.2.2.2.2.2.2.2.1, x.2.1.2.2.2.2.2.2.2.2.1.2⟩ : Sys) x.2.2.1.1⟩
theorem r_impl_JudgeBest_1_ok : RwOk Go.Proofs.Tryz.prog tyK (r_impl_JudgeBest_1) :=
  ent_ok (fa := a_impl_JudgeBest_1) (ls := []) (cs := []) (n := 0) (es := [r_impl_Before]) mixedOk tbOk (ents_cons (r_impl_Before_ok) ents_nil) Go.Proofs.Tryz.func46 (by kernel_rfl) (by kernel_rfl) (by kernel_rfl) (LSsOk.nil _ _) (fun x => by kernel_rfl)
/-! slices.IndexFunc[[]loop.example/g00185/impl.Task,loop.example/g00185/impl.Task] -/
noncomputable def a_slices_IndexFunc_Task_JudgeBest_1 : FnA := ⟨Go.Proofs.Tryz.f103, ⟨[(4, [(5, .call [.ro] .bool [] [])])], [], []⟩, 0⟩
def l_slices_IndexFunc_Task_JudgeBest_1_0 {α : Type} (n : Nat) : Nat → List Task → Sys → Int → Int → Int → (Int → Option α) → (Option α) → Option α
  | 0, _, _, _, _, _, _, _ => none
  | m0 + 1, v1, v2, v3, v4, v5, k0_0, k0_1 =>
    cond (decide (v5 < v4))
     (cond ((decide (0 ≤ v5)) && (decide (v5 < ((v1).length : Int))))
       ((f_impl_JudgeBest_1 (List.getD v1 (Int.toNat v5) (Kd.dflt .task)) v2 v3).bind fun r6 =>
        cond r6.1
         (k0_0 v5)
         (l_slices_IndexFunc_Task_JudgeBest_1_0 n m0 v1 v2 v3 v4 (w64 (v5 + 1)) k0_0 k0_1))
       (none))
     (k0_1)
def f_slices_IndexFunc_Task_JudgeBest_1 (n : Nat) (a0 : List Task) (a1_0 : Sys) (a1_1_0 : Int) : Option (Int × Unit) :=
  l_slices_IndexFunc_Task_JudgeBest_1_0 n n a0 a1_0 a1_1_0 ((a0).length : Int) 0
   (fun w7 =>
    some (w7, ()))
   (some ((-1), ()))
def r_slices_IndexFunc_Task_JudgeBest_1 (n : Nat) : Rw := ⟨103, (.pair (.v (.ro .task)) (.pair (.v (.clo 46 (.pair (.rp (.pair .int (.pair .int (.pair (.ro .task) (.pair (.ro .lock) (.pair (.ro .ghost) (.pair (.ro .int) (.pair .int (.pair .int (.pair (.ro .turn) .one))))))))) 0) (.pair (.rp (.pair .int .one) 0) .one)))) .one)), (.pair .int .one), fun x => f_slices_IndexFunc_Task_JudgeBest_1 n x.1.2 (⟨x.2.1.1.1, x.2.1.1.2.1, x.2.1.1.2.2.1.2, x.2.1.1.2.2.2.1.2, x.2.1.1.2.2.2.2.1.2, x.2.1.1.2.2.2.2.2.1.2, x.2.1.1.2.2.2.2.2.2.1, x.2.1.1.2.2.2.2.2.2.2.1, x.2.1.1.2.2.2.2.2.2.2.2.1.2⟩ : Sys) x.2.1.2.1.1⟩
def s_slices_IndexFunc_Task_JudgeBest_1_0 (n : Nat) : LS where
  la := ⟨2, [0, 1, 7, 8], [], [], [4], []⟩
  nt := 19
  kt := [0, 1, 7, 8]
  hs := []
  X := Bool × List Task × Int × Int × Bool × List Task × Bool × List Lock × Bool × List Ghost × Bool × List Int × Int × Int × Bool × List Turn × Int × Int × Int
  abs := fun vs es => match vs, es with | [.ro y0 .task y1, .clo 46 [.rp [.int y2, .int y3, .ro y4 .task y5, .ro y6 .lock y7, .ro y8 .ghost y9, .ro y10 .int y11, .int y12, .int y13, .ro y14 .turn y15] 0, .rp [.int y16] 0], .int y17, .int y18], [] => some (y0, y1, y2, y3, y4, y5, y6, y7, y8, y9, y10, y11, y12, y13, y14, y15, y16, y17, y18) | _, _ => none
  tms := fun x => [.ro x.1 .task x.2.1, .clo 46 [.rp [.int x.2.2.1, .int x.2.2.2.1, .ro x.2.2.2.2.1 .task x.2.2.2.2.2.1, .ro x.2.2.2.2.2.2.1 .lock x.2.2.2.2.2.2.2.1, .ro x.2.2.2.2.2.2.2.2.1 .ghost x.2.2.2.2.2.2.2.2.2.1, .ro x.2.2.2.2.2.2.2.2.2.2.1 .int x.2.2.2.2.2.2.2.2.2.2.2.1, .int x.2.2.2.2.2.2.2.2.2.2.2.2.1, .int x.2.2.2.2.2.2.2.2.2.2.2.2.2.1, .ro x.2.2.2.2.2.2.2.2.2.2.2.2.2.2.1 .turn x.2.2.2.2.2.2.2.2.2.2.2.2.2.2.2.1] 0, .rp [.int x.2.2.2.2.2.2.2.2.2.2.2.2.2.2.2.2.1] 0], .int x.2.2.2.2.2.2.2.2.2.2.2.2.2.2.2.2.2.1, .int x.2.2.2.2.2.2.2.2.2.2.2.2.2.2.2.2.2.2]
  ets := fun x => []
  run := fun m x k => l_slices_IndexFunc_Task_JudgeBest_1_0 n m x.2.1 (⟨x.2.2.1, x.2.2.2.1, x.2.2.2.2.2.1, x.2.2.2.2.2.2.2.1, x.2.2.2.2.2.2.2.2.2.1, x.2.2.2.2.2.2.2.2.2.2.2.1, x.2.2.2.2.2.2.2.2.2.2.2.2.1, x.2.2.2.2.2.2.2.2.2.2.2.2.2.1, x.2.2.2.2.2.2.2.2.2.2.2.2.2.2.2.1⟩ : Sys) x.2.2.2.2.2.2.2.2.2.2.2.2.2.2.2.2.1 x.2.2.2.2.2.2.2.2.2.2.2.2.2.2.2.2.2.1 x.2.2.2.2.2.2.2.2.2.2.2.2.2.2.2.2.2.2 (fun w0 => k .ret ⟨layT [4] [.int w0] 0 19, layH [] []⟩) (k (.exit 0) ⟨layT [] [] 0 19, layH [] []⟩)
noncomputable def c_slices_IndexFunc_Task_JudgeBest_1_0 : Code := (Go.Proofs.Tryz.f103.body.bind (subLoop 2)).getD .skip
theorem s_slices_IndexFunc_Task_JudgeBest_1_0_ok (n : Nat) : LSok Tb tyK (orc [r_impl_JudgeBest_1]) n a_slices_IndexFunc_Task_JudgeBest_1.ann [s_slices_IndexFunc_Task_JudgeBest_1_0 n] c_slices_IndexFunc_Task_JudgeBest_1_0 (s_slices_IndexFunc_Task_JudgeBest_1_0 n) :=
  ⟨by intro vs es x h; dsimp only [s_slices_IndexFunc_Task_JudgeBest_1_0] at h; split at h; (· injection h with h; subst h; exact ⟨rfl, rfl⟩); (· cases h), fun _ _ => rfl, fun m x k => by kernel_rfl⟩
theorem r_slices_IndexFunc_Task_JudgeBest_1_ok (n : Nat) : RwOk Go.Proofs.Tryz.prog tyK (r_slices_IndexFunc_Task_JudgeBest_1 n) :=
  ent_ok (fa := a_slices_IndexFunc_Task_JudgeBest_1) (ls := [s_slices_IndexFunc_Task_JudgeBest_1_0 n]) (cs := [c_slices_IndexFunc_Task_JudgeBest_1_0]) (n := n) (es := [r_impl_JudgeBest_1]) mixedOk tbOk (ents_cons (r_impl_JudgeBest_1_ok) ents_nil) Go.Proofs.Tryz.func103 (by kernel_rfl) (by kernel_rfl) (by kernel_rfl) (LSsOk.cons _ _ (l := s_slices_IndexFunc_Task_JudgeBest_1_0 n) (by kernel_rfl) (s_slices_IndexFunc_Task_JudgeBest_1_0_ok n) (LSsOk.nil _ _)) (fun x => by kernel_rfl)
/-! slices.ContainsFunc[[]loop.example/g00185/impl.Task,loop.example/g00185/impl.Task] -/
noncomputable def a_slices_ContainsFunc_Task_JudgeBest_1 : FnA := ⟨Go.Proofs.Tryz.f45, ⟨[(1, [(2, .call [.ro, .ro] .int [] [])])], [], []⟩, 0⟩
def f_slices_ContainsFunc_Task_JudgeBest_1 (n : Nat) (a0 : List Task) (a1_0 : Sys) (a1_1_0 : Int) : Option (Bool × Unit) :=
  (f_slices_IndexFunc_Task_JudgeBest_1 n a0 a1_0 a1_1_0).bind fun r1 =>
  some ((decide (0 ≤ r1.1)), ())
def r_slices_ContainsFunc_Task_JudgeBest_1 (n : Nat) : Rw := ⟨45, (.pair (.v (.ro .task)) (.pair (.v (.clo 46 (.pair (.rp (.pair .int (.pair .int (.pair (.ro .task) (.pair (.ro .lock) (.pair (.ro .ghost) (.pair (.ro .int) (.pair .int (.pair .int (.pair (.ro .turn) .one))))))))) 0) (.pair (.rp (.pair .int .one) 0) .one)))) .one)), (.pair .bool .one), fun x => f_slices_ContainsFunc_Task_JudgeBest_1 n x.1.2 (⟨x.2.1.1.1, x.2.1.1.2.1, x.2.1.1.2.2.1.2, x.2.1.1.2.2.2.1.2, x.2.1.1.2.2.2.2.1.2, x.2.1.1.2.2.2.2.2.1.2, x.2.1.1.2.2.2.2.2.2.1, x.2.1.1.2.2.2.2.2.2.2.1, x.2.1.1.2.2.2.2.2.2.2.2.1.2⟩ : Sys) x.2.1.2.1.1⟩
theorem r_slices_ContainsFunc_Task_JudgeBest_1_ok (n : Nat) : RwOk Go.Proofs.Tryz.prog tyK (r_slices_ContainsFunc_Task_JudgeBest_1 n) :=
  ent_ok (fa := a_slices_ContainsFunc_Task_JudgeBest_1) (ls := []) (cs := []) (n := n) (es := [(r_slices_IndexFunc_Task_JudgeBest_1 n)]) mixedOk tbOk (ents_cons (r_slices_IndexFunc_Task_JudgeBest_1_ok n) ents_nil) Go.Proofs.Tryz.func45 (by kernel_rfl) (by kernel_rfl) (by kernel_rfl) (LSsOk.nil _ _) (fun x => by kernel_rfl)
/-! loop.example/g00185/impl.JudgeBest -/
noncomputable def a_impl_JudgeBest : FnA := ⟨Go.Proofs.Tryz.f13, ⟨[(0, [(0, .slot 0 .int)]), (1, [(1, .call [.ro] .bool [] [])]), (6, [(5, .call [.ro, .ro, .ro] (.own .task) [] [none])]), (7, [(5, .call [.ro, .ro, .ro] (.tup (.pair .int (.pair .int .one))) [] [])]), (10, [(3, .call [.ro, .ro] .int [] []), (4, .slot 1 .int)]), (11, [(5, .call [.ro, .ro] .bool [] [])])], [], []⟩, 2⟩
def l_impl_JudgeBest_0 {α : Type} (n : Nat) : Nat → Sys → Int → Int → (Option α) → (Option α) → Option α
  | 0, _, _, _, _, _ => none
  | m0 + 1, v2, v3, v4, k0_0, k0_1 =>
    cond (decide (v4 < v3))
     ((f_impl_turners n v2.Tasks v2.Locks v4).bind fun r5 =>
      (f_impl_Pick n v2.Tasks v2.Locks v4).bind fun r6 =>
      cond (decide (r6.1.1 = 0))
       (cond (decide (0 < ((r5.1).length : Int)))
         (k0_0)
         ((f_impl_TaskAt n v2.Tasks r6.1.1).bind fun r7 =>
          cond (decide (0 ≤ r7.1))
           ((f_slices_ContainsFunc_Task_JudgeBest_1 n r5.1 v2 r7.1).bind fun r8 =>
            cond r8.1
             (k0_0)
             (l_impl_JudgeBest_0 n m0 v2 v3 (w64 (v4 + 1)) k0_0 k0_1))
           (l_impl_JudgeBest_0 n m0 v2 v3 (w64 (v4 + 1)) k0_0 k0_1)))
       ((f_impl_TaskAt n v2.Tasks r6.1.1).bind fun r9 =>
        cond (decide (0 ≤ r9.1))
         ((f_slices_ContainsFunc_Task_JudgeBest_1 n r5.1 v2 r9.1).bind fun r10 =>
          cond r10.1
           (k0_0)
           (l_impl_JudgeBest_0 n m0 v2 v3 (w64 (v4 + 1)) k0_0 k0_1))
         (l_impl_JudgeBest_0 n m0 v2 v3 (w64 (v4 + 1)) k0_0 k0_1)))
     (k0_1)
def f_impl_JudgeBest (n : Nat) (a0 : Sys) : Option (Bool × Unit) :=
  (f_impl_SysOk n a0).bind fun r1 =>
  cond (!r1.1)
   (some (false, ()))
   (l_impl_JudgeBest_0 n n a0 a0.Cpus 0
     (some (false, ()))
     (some (true, ())))
def r_impl_JudgeBest (n : Nat) : Rw := ⟨13, (.pair (.v (.agg (.pair .int (.pair .int (.pair (.ro .task) (.pair (.ro .lock) (.pair (.ro .ghost) (.pair (.ro .int) (.pair .int (.pair .int (.pair (.ro .turn) .one))))))))))) .one), (.pair .bool .one), fun x => f_impl_JudgeBest n (⟨x.1.1, x.1.2.1, x.1.2.2.1.2, x.1.2.2.2.1.2, x.1.2.2.2.2.1.2, x.1.2.2.2.2.2.1.2, x.1.2.2.2.2.2.2.1, x.1.2.2.2.2.2.2.2.1, x.1.2.2.2.2.2.2.2.2.1.2⟩ : Sys)⟩
def s_impl_JudgeBest_0 (n : Nat) : LS where
  la := ⟨4, [1, 12, 13], [], [1], [2], []⟩
  nt := 50
  kt := [1, 12, 13]
  hs := [.k, .fresh]
  X := Int × Int × Bool × List Task × Bool × List Lock × Bool × List Ghost × Bool × List Int × Int × Int × Bool × List Turn × Int × Int
  abs := fun vs es => match vs, es with | [.ptr 0 0, .int y14, .int y15], [.box [.int y0, .int y1, .ro y2 .task y3, .ro y4 .lock y5, .ro y6 .ghost y7, .ro y8 .int y9, .int y10, .int y11, .ro y12 .turn y13]] => some (y0, y1, y2, y3, y4, y5, y6, y7, y8, y9, y10, y11, y12, y13, y14, y15) | _, _ => none
  tms := fun x => [.ptr 0 0, .int x.2.2.2.2.2.2.2.2.2.2.2.2.2.2.1, .int x.2.2.2.2.2.2.2.2.2.2.2.2.2.2.2]
  ets := fun x => [.box [.int x.1, .int x.2.1, .ro x.2.2.1 .task x.2.2.2.1, .ro x.2.2.2.2.1 .lock x.2.2.2.2.2.1, .ro x.2.2.2.2.2.2.1 .ghost x.2.2.2.2.2.2.2.1, .ro x.2.2.2.2.2.2.2.2.1 .int x.2.2.2.2.2.2.2.2.2.1, .int x.2.2.2.2.2.2.2.2.2.2.1, .int x.2.2.2.2.2.2.2.2.2.2.2.1, .ro x.2.2.2.2.2.2.2.2.2.2.2.2.1 .turn x.2.2.2.2.2.2.2.2.2.2.2.2.2.1]]
  run := fun m x k => l_impl_JudgeBest_0 n m (⟨x.1, x.2.1, x.2.2.2.1, x.2.2.2.2.2.1, x.2.2.2.2.2.2.2.1, x.2.2.2.2.2.2.2.2.2.1, x.2.2.2.2.2.2.2.2.2.2.1, x.2.2.2.2.2.2.2.2.2.2.2.1, x.2.2.2.2.2.2.2.2.2.2.2.2.2.1⟩ : Sys) x.2.2.2.2.2.2.2.2.2.2.2.2.2.2.1 x.2.2.2.2.2.2.2.2.2.2.2.2.2.2.2 (k .ret ⟨layT [2] [.bool false] 0 50, layH [.dead, .dead] []⟩) (k (.exit 0) ⟨layT [] [] 0 50, layH [.dead, .dead] []⟩)
noncomputable def c_impl_JudgeBest_0 : Code := (Go.Proofs.Tryz.f13.body.bind (subLoop 4)).getD .skip
theorem s_impl_JudgeBest_0_ok (n : Nat) : LSok Tb tyK (orc [(r_impl_SysOk n), (r_impl_turners n), (r_impl_Pick n), (r_impl_TaskAt n), (r_slices_ContainsFunc_Task_JudgeBest_1 n)]) n a_impl_JudgeBest.ann [s_impl_JudgeBest_0 n] c_impl_JudgeBest_0 (s_impl_JudgeBest_0 n) :=
  ⟨by intro vs es x h; dsimp only [s_impl_JudgeBest_0] at h; split at h; (· injection h with h; subst h; exact ⟨rfl, rfl⟩); (· cases h), fun _ _ => rfl, fun m x k => by kernel_rfl⟩
theorem r_impl_JudgeBest_ok (n : Nat) : RwOk Go.Proofs.Tryz.prog tyK (r_impl_JudgeBest n) :=
  ent_ok (fa := a_impl_JudgeBest) (ls := [s_impl_JudgeBest_0 n]) (cs := [c_impl_JudgeBest_0]) (n := n) (es := [(r_impl_SysOk n), (r_impl_turners n), (r_impl_Pick n), (r_impl_TaskAt n), (r_slices_ContainsFunc_Task_JudgeBest_1 n)]) mixedOk tbOk (ents_cons (r_impl_SysOk_ok n) (ents_cons (r_impl_turners_ok n) (ents_cons (r_impl_Pick_ok n) (ents_cons (r_impl_TaskAt_ok n) (ents_cons (r_slices_ContainsFunc_Task_JudgeBest_1_ok n) ents_nil))))) Go.Proofs.Tryz.func13 (by kernel_rfl) (by kernel_rfl) (by kernel_rfl) (LSsOk.cons _ _ (l := s_impl_JudgeBest_0 n) (by kernel_rfl) (s_impl_JudgeBest_0_ok n) (LSsOk.nil _ _)) (fun x => by kernel_rfl)
/-! loop.example/g00185/laws.eqTask -/
noncomputable def a_laws_eqTask : FnA := ⟨Go.Proofs.Tryz.f90, ⟨[(0, [(0, .slot 0 .int), (1, .slot 1 .int)])], [], []⟩, 2⟩
def f_laws_eqTask (a0 : Task) (a1 : Task) : Option (Bool × Unit) :=
  cond (!(decide (a0.No = a1.No)))
   (some (false, ()))
   (cond (!(decide (a0.Class = a1.Class)))
     (some (false, ()))
     (cond (!(decide (a0.Cpu = a1.Cpu)))
       (some (false, ()))
       (cond (!(decide (a0.State = a1.State)))
         (some (false, ()))
         (cond (!(a0.Idle == a1.Idle))
           (some (false, ()))
           (cond (!(decide (a0.Q = a1.Q)))
             (some (false, ()))
             (cond (!(decide (a0.P = a1.P)))
               (some (false, ()))
               (cond (!(decide (a0.Left = a1.Left)))
                 (some (false, ()))
                 (cond (!(decide (a0.Due = a1.Due)))
                   (some (false, ()))
                   (cond (!(decide (a0.Prio = a1.Prio)))
                     (some (false, ()))
                     (cond (!(decide (a0.Round = a1.Round)))
                       (some (false, ()))
                       (cond (!(decide (a0.Seq = a1.Seq)))
                         (some (false, ()))
                         (cond (!(decide (a0.Nice = a1.Nice)))
                           (some (false, ()))
                           (cond (!(decide (a0.V = a1.V)))
                             (some (false, ()))
                             (some (true, ())))))))))))))))
def r_laws_eqTask : Rw := ⟨90, (.pair (.v (.agg (.pair .int (.pair .int (.pair .int (.pair .int (.pair .bool (.pair .int (.pair .int (.pair .int (.pair .int (.pair .int (.pair .int (.pair .int (.pair .int (.pair .int .one)))))))))))))))) (.pair (.v (.agg (.pair .int (.pair .int (.pair .int (.pair .int (.pair .bool (.pair .int (.pair .int (.pair .int (.pair .int (.pair .int (.pair .int (.pair .int (.pair .int (.pair .int .one)))))))))))))))) .one)), (.pair .bool .one), fun x => f_laws_eqTask (⟨x.1.1, x.1.2.1, x.1.2.2.1, x.1.2.2.2.1, x.1.2.2.2.2.1, x.1.2.2.2.2.2.1, x.1.2.2.2.2.2.2.1, x.1.2.2.2.2.2.2.2.1, x.1.2.2.2.2.2.2.2.2.1, x.1.2.2.2.2.2.2.2.2.2.1, x.1.2.2.2.2.2.2.2.2.2.2.1, x.1.2.2.2.2.2.2.2.2.2.2.2.1, x.1.2.2.2.2.2.2.2.2.2.2.2.2.1, x.1.2.2.2.2.2.2.2.2.2.2.2.2.2.1⟩ : Task) (⟨x.2.1.1, x.2.1.2.1, x.2.1.2.2.1, x.2.1.2.2.2.1, x.2.1.2.2.2.2.1, x.2.1.2.2.2.2.2.1, x.2.1.2.2.2.2.2.2.1, x.2.1.2.2.2.2.2.2.2.1, x.2.1.2.2.2.2.2.2.2.2.1, x.2.1.2.2.2.2.2.2.2.2.2.1, x.2.1.2.2.2.2.2.2.2.2.2.2.1, x.2.1.2.2.2.2.2.2.2.2.2.2.2.1, x.2.1.2.2.2.2.2.2.2.2.2.2.2.2.1, x.2.1.2.2.2.2.2.2.2.2.2.2.2.2.2.1⟩ : Task)⟩
theorem r_laws_eqTask_ok : RwOk Go.Proofs.Tryz.prog tyK (r_laws_eqTask) :=
  ent_ok (fa := a_laws_eqTask) (ls := []) (cs := []) (n := 0) (es := []) mixedOk tbOk ents_nil Go.Proofs.Tryz.func90 (by kernel_rfl) (by kernel_rfl) (by kernel_rfl) (LSsOk.nil _ _) (fun x => by kernel_rfl)
/-! loop.example/g00185/laws.eqTaskS -/
noncomputable def a_laws_eqTaskS : FnA := ⟨Go.Proofs.Tryz.f34, ⟨[(6, [(8, .call [.ro, .ro] .bool [] [])])], [(6, [([], []), ([], []), ([], []), ([], []), ([], []), ([], []), ([], []), ([], []), ([], []), ([], [])])], []⟩, 0⟩
def l_laws_eqTaskS_0 {α : Type} (n : Nat) : Nat → List Task → List Task → Int → (Option α) → (Option α) → Option α
  | 0, _, _, _, _, _ => none
  | m0 + 1, v1, v2, v3, k0_0, k0_1 =>
    cond (decide (v3 < ((v1).length : Int)))
     (cond ((decide (0 ≤ v3)) && (decide (v3 < ((v1).length : Int))))
       (cond ((decide (0 ≤ v3)) && (decide (v3 < ((v2).length : Int))))
         ((f_laws_eqTask (List.getD v1 (Int.toNat v3) (Kd.dflt .task)) (List.getD v2 (Int.toNat v3) (Kd.dflt .task))).bind fun r4 =>
          cond (!r4.1)
           (k0_0)
           (l_laws_eqTaskS_0 n m0 v1 v2 (w64 (v3 + 1)) k0_0 k0_1))
         (none))
       (none))
     (k0_1)
def f_laws_eqTaskS (n : Nat) (a0 : List Task) (a1 : List Task) : Option (Bool × Unit) :=
  cond (!(decide (((a0).length : Int) = ((a1).length : Int))))
   (some (false, ()))
   (l_laws_eqTaskS_0 n n a0 a1 0
     (some (false, ()))
     (some (true, ())))
def r_laws_eqTaskS (n : Nat) : Rw := ⟨34, (.pair (.v (.ro .task)) (.pair (.v (.ro .task)) .one)), (.pair .bool .one), fun x => f_laws_eqTaskS n x.1.2 x.2.1.2⟩
def s_laws_eqTaskS_0 (n : Nat) : LS where
  la := ⟨4, [0, 1, 5], [], [], [4], []⟩
  nt := 27
  kt := [0, 1, 5]
  hs := []
  X := Bool × List Task × Bool × List Task × Int
  abs := fun vs es => match vs, es with | [.ro y0 .task y1, .ro y2 .task y3, .int y4], [] => some (y0, y1, y2, y3, y4) | _, _ => none
  tms := fun x => [.ro x.1 .task x.2.1, .ro x.2.2.1 .task x.2.2.2.1, .int x.2.2.2.2]
  ets := fun x => []
  run := fun m x k => l_laws_eqTaskS_0 n m x.2.1 x.2.2.2.1 x.2.2.2.2 (k .ret ⟨layT [4] [.bool false] 0 27, layH [] []⟩) (k (.exit 0) ⟨layT [] [] 0 27, layH [] []⟩)
noncomputable def c_laws_eqTaskS_0 : Code := (Go.Proofs.Tryz.f34.body.bind (subLoop 4)).getD .skip
theorem s_laws_eqTaskS_0_ok (n : Nat) : LSok Tb tyK (orc [r_laws_eqTask]) n a_laws_eqTaskS.ann [s_laws_eqTaskS_0 n] c_laws_eqTaskS_0 (s_laws_eqTaskS_0 n) :=
  ⟨by intro vs es x h; dsimp only [s_laws_eqTaskS_0] at h; split at h; (· injection h with h; subst h; exact ⟨rfl, rfl⟩); (· cases h), fun _ _ => rfl, fun m x k => by kernel_rfl⟩
theorem r_laws_eqTaskS_ok (n : Nat) : RwOk Go.Proofs.Tryz.prog tyK (r_laws_eqTaskS n) :=
  ent_ok (fa := a_laws_eqTaskS) (ls := [s_laws_eqTaskS_0 n]) (cs := [c_laws_eqTaskS_0]) (n := n) (es := [r_laws_eqTask]) mixedOk tbOk (ents_cons (r_laws_eqTask_ok) ents_nil) Go.Proofs.Tryz.func34 (by kernel_rfl) (by kernel_rfl) (by kernel_rfl) (LSsOk.cons _ _ (l := s_laws_eqTaskS_0 n) (by kernel_rfl) (s_laws_eqTaskS_0_ok n) (LSsOk.nil _ _)) (fun x => by kernel_rfl)
/-! loop.example/g00185/laws.eqIntS -/
noncomputable def a_laws_eqIntS : FnA := ⟨Go.Proofs.Tryz.f37, ⟨[], [(6, [([], []), ([], []), ([], []), ([], []), ([], []), ([], []), ([], []), ([], []), ([], [])])], []⟩, 0⟩
def l_laws_eqIntS_0 {α : Type} (n : Nat) : Nat → List Int → List Int → Int → (Option α) → (Option α) → Option α
  | 0, _, _, _, _, _ => none
  | m0 + 1, v1, v2, v3, k0_0, k0_1 =>
    cond (decide (v3 < ((v1).length : Int)))
     (cond ((decide (0 ≤ v3)) && (decide (v3 < ((v1).length : Int))))
       (cond ((decide (0 ≤ v3)) && (decide (v3 < ((v2).length : Int))))
         (let e4 := (!(decide ((List.getD v1 (Int.toNat v3) (Kd.dflt .int)) = (List.getD v2 (Int.toNat v3) (Kd.dflt .int)))))
          cond e4
           (k0_0)
           (l_laws_eqIntS_0 n m0 v1 v2 (w64 (v3 + 1)) k0_0 k0_1))
         (none))
       (none))
     (k0_1)
def f_laws_eqIntS (n : Nat) (a0 : List Int) (a1 : List Int) : Option (Bool × Unit) :=
  cond (!(decide (((a0).length : Int) = ((a1).length : Int))))
   (some (false, ()))
   (l_laws_eqIntS_0 n n a0 a1 0
     (some (false, ()))
     (some (true, ())))
def r_laws_eqIntS (n : Nat) : Rw := ⟨37, (.pair (.v (.ro .int)) (.pair (.v (.ro .int)) .one)), (.pair .bool .one), fun x => f_laws_eqIntS n x.1.2 x.2.1.2⟩
def s_laws_eqIntS_0 (n : Nat) : LS where
  la := ⟨4, [0, 1, 5], [], [], [4], []⟩
  nt := 26
  kt := [0, 1, 5]
  hs := []
  X := Bool × List Int × Bool × List Int × Int
  abs := fun vs es => match vs, es with | [.ro y0 .int y1, .ro y2 .int y3, .int y4], [] => some (y0, y1, y2, y3, y4) | _, _ => none
  tms := fun x => [.ro x.1 .int x.2.1, .ro x.2.2.1 .int x.2.2.2.1, .int x.2.2.2.2]
  ets := fun x => []
  run := fun m x k => l_laws_eqIntS_0 n m x.2.1 x.2.2.2.1 x.2.2.2.2 (k .ret ⟨layT [4] [.bool false] 0 26, layH [] []⟩) (k (.exit 0) ⟨layT [] [] 0 26, layH [] []⟩)
noncomputable def c_laws_eqIntS_0 : Code := (Go.Proofs.Tryz.f37.body.bind (subLoop 4)).getD .skip
theorem s_laws_eqIntS_0_ok (n : Nat) : LSok Tb tyK (orc []) n a_laws_eqIntS.ann [s_laws_eqIntS_0 n] c_laws_eqIntS_0 (s_laws_eqIntS_0 n) :=
  ⟨by intro vs es x h; dsimp only [s_laws_eqIntS_0] at h; split at h; (· injection h with h; subst h; exact ⟨rfl, rfl⟩); (· cases h), fun _ _ => rfl, fun m x k => by kernel_rfl⟩
theorem r_laws_eqIntS_ok (n : Nat) : RwOk Go.Proofs.Tryz.prog tyK (r_laws_eqIntS n) :=
  ent_ok (fa := a_laws_eqIntS) (ls := [s_laws_eqIntS_0 n]) (cs := [c_laws_eqIntS_0]) (n := n) (es := []) mixedOk tbOk ents_nil Go.Proofs.Tryz.func37 (by kernel_rfl) (by kernel_rfl) (by kernel_rfl) (LSsOk.cons _ _ (l := s_laws_eqIntS_0 n) (by kernel_rfl) (s_laws_eqIntS_0_ok n) (LSsOk.nil _ _)) (fun x => by kernel_rfl)
/-! loop.example/g00185/laws.eqLock -/
noncomputable def a_laws_eqLock : FnA := ⟨Go.Proofs.Tryz.f91, ⟨[(0, [(0, .slot 0 .int), (1, .slot 1 .int)]), (3, [(4, .call [.ro, .ro] .bool [] [])])], [], []⟩, 2⟩
def f_laws_eqLock (n : Nat) (a0 : Lock) (a1 : Lock) : Option (Bool × Unit) :=
  cond (!(decide (a0.Owner = a1.Owner)))
   (some (false, ()))
   ((f_laws_eqIntS n a0.Waits a1.Waits).bind fun r1 =>
    cond (!r1.1)
     (some (false, ()))
     (some (true, ())))
def r_laws_eqLock (n : Nat) : Rw := ⟨91, (.pair (.v (.agg (.pair .int (.pair (.ro .int) .one)))) (.pair (.v (.agg (.pair .int (.pair (.ro .int) .one)))) .one)), (.pair .bool .one), fun x => f_laws_eqLock n (⟨x.1.1, x.1.2.1.2⟩ : Lock) (⟨x.2.1.1, x.2.1.2.1.2⟩ : Lock)⟩
theorem r_laws_eqLock_ok (n : Nat) : RwOk Go.Proofs.Tryz.prog tyK (r_laws_eqLock n) :=
  ent_ok (fa := a_laws_eqLock) (ls := []) (cs := []) (n := n) (es := [(r_laws_eqIntS n)]) mixedOk tbOk (ents_cons (r_laws_eqIntS_ok n) ents_nil) Go.Proofs.Tryz.func91 (by kernel_rfl) (by kernel_rfl) (by kernel_rfl) (LSsOk.nil _ _) (fun x => by kernel_rfl)
/-! loop.example/g00185/laws.eqLockS -/
noncomputable def a_laws_eqLockS : FnA := ⟨Go.Proofs.Tryz.f35, ⟨[(6, [(8, .call [.ro, .ro] .bool [] [])])], [(6, [([], []), ([], []), ([], []), ([], []), ([], []), ([], []), ([], []), ([], []), ([], []), ([], [])])], []⟩, 0⟩
def l_laws_eqLockS_0 {α : Type} (n : Nat) : Nat → List Lock → List Lock → Int → (Option α) → (Option α) → Option α
  | 0, _, _, _, _, _ => none
  | m0 + 1, v1, v2, v3, k0_0, k0_1 =>
    cond (decide (v3 < ((v1).length : Int)))
     (cond ((decide (0 ≤ v3)) && (decide (v3 < ((v1).length : Int))))
       (cond ((decide (0 ≤ v3)) && (decide (v3 < ((v2).length : Int))))
         ((f_laws_eqLock n (List.getD v1 (Int.toNat v3) (Kd.dflt .lock)) (List.getD v2 (Int.toNat v3) (Kd.dflt .lock))).bind fun r4 =>
          cond (!r4.1)
           (k0_0)
           (l_laws_eqLockS_0 n m0 v1 v2 (w64 (v3 + 1)) k0_0 k0_1))
         (none))
       (none))
     (k0_1)
def f_laws_eqLockS (n : Nat) (a0 : List Lock) (a1 : List Lock) : Option (Bool × Unit) :=
  cond (!(decide (((a0).length : Int) = ((a1).length : Int))))
   (some (false, ()))
   (l_laws_eqLockS_0 n n a0 a1 0
     (some (false, ()))
     (some (true, ())))
def r_laws_eqLockS (n : Nat) : Rw := ⟨35, (.pair (.v (.ro .lock)) (.pair (.v (.ro .lock)) .one)), (.pair .bool .one), fun x => f_laws_eqLockS n x.1.2 x.2.1.2⟩
def s_laws_eqLockS_0 (n : Nat) : LS where
  la := ⟨4, [0, 1, 5], [], [], [4], []⟩
  nt := 27
  kt := [0, 1, 5]
  hs := []
  X := Bool × List Lock × Bool × List Lock × Int
  abs := fun vs es => match vs, es with | [.ro y0 .lock y1, .ro y2 .lock y3, .int y4], [] => some (y0, y1, y2, y3, y4) | _, _ => none
  tms := fun x => [.ro x.1 .lock x.2.1, .ro x.2.2.1 .lock x.2.2.2.1, .int x.2.2.2.2]
  ets := fun x => []
  run := fun m x k => l_laws_eqLockS_0 n m x.2.1 x.2.2.2.1 x.2.2.2.2 (k .ret ⟨layT [4] [.bool false] 0 27, layH [] []⟩) (k (.exit 0) ⟨layT [] [] 0 27, layH [] []⟩)
noncomputable def c_laws_eqLockS_0 : Code := (Go.Proofs.Tryz.f35.body.bind (subLoop 4)).getD .skip
theorem s_laws_eqLockS_0_ok (n : Nat) : LSok Tb tyK (orc [(r_laws_eqLock n)]) n a_laws_eqLockS.ann [s_laws_eqLockS_0 n] c_laws_eqLockS_0 (s_laws_eqLockS_0 n) :=
  ⟨by intro vs es x h; dsimp only [s_laws_eqLockS_0] at h; split at h; (· injection h with h; subst h; exact ⟨rfl, rfl⟩); (· cases h), fun _ _ => rfl, fun m x k => by kernel_rfl⟩
theorem r_laws_eqLockS_ok (n : Nat) : RwOk Go.Proofs.Tryz.prog tyK (r_laws_eqLockS n) :=
  ent_ok (fa := a_laws_eqLockS) (ls := [s_laws_eqLockS_0 n]) (cs := [c_laws_eqLockS_0]) (n := n) (es := [(r_laws_eqLock n)]) mixedOk tbOk (ents_cons (r_laws_eqLock_ok n) ents_nil) Go.Proofs.Tryz.func35 (by kernel_rfl) (by kernel_rfl) (by kernel_rfl) (LSsOk.cons _ _ (l := s_laws_eqLockS_0 n) (by kernel_rfl) (s_laws_eqLockS_0_ok n) (LSsOk.nil _ _)) (fun x => by kernel_rfl)
/-! loop.example/g00185/laws.eqShare -/
noncomputable def a_laws_eqShare : FnA := ⟨Go.Proofs.Tryz.f125, ⟨[(0, [(0, .slot 0 .int), (1, .slot 1 .int)])], [], []⟩, 2⟩
def f_laws_eqShare (a0 : Share) (a1 : Share) : Option (Bool × Unit) :=
  cond (!(decide (a0.Q = a1.Q)))
   (some (false, ()))
   (cond (!(decide (a0.P = a1.P)))
     (some (false, ()))
     (some (true, ())))
def r_laws_eqShare : Rw := ⟨125, (.pair (.v (.agg (.pair .int (.pair .int .one)))) (.pair (.v (.agg (.pair .int (.pair .int .one)))) .one)), (.pair .bool .one), fun x => f_laws_eqShare (⟨x.1.1, x.1.2.1⟩ : Share) (⟨x.2.1.1, x.2.1.2.1⟩ : Share)⟩
theorem r_laws_eqShare_ok : RwOk Go.Proofs.Tryz.prog tyK (r_laws_eqShare) :=
  ent_ok (fa := a_laws_eqShare) (ls := []) (cs := []) (n := 0) (es := []) mixedOk tbOk ents_nil Go.Proofs.Tryz.func125 (by kernel_rfl) (by kernel_rfl) (by kernel_rfl) (LSsOk.nil _ _) (fun x => by kernel_rfl)
/-! loop.example/g00185/laws.eqGhost -/
noncomputable def a_laws_eqGhost : FnA := ⟨Go.Proofs.Tryz.f92, ⟨[(0, [(0, .slot 0 .int), (1, .slot 1 .int)]), (3, [(4, .call [.ro, .ro] .bool [] [])])], [], []⟩, 2⟩
def f_laws_eqGhost (a0 : Ghost) (a1 : Ghost) : Option (Bool × Unit) :=
  cond (!(decide (a0.Cpu = a1.Cpu)))
   (some (false, ()))
   ((f_laws_eqShare a0.S a1.S).bind fun r1 =>
    cond (!r1.1)
     (some (false, ()))
     (cond (!(decide (a0.Until = a1.Until)))
       (some (false, ()))
       (some (true, ()))))
def r_laws_eqGhost : Rw := ⟨92, (.pair (.v (.agg (.pair .int (.pair .int (.pair .int (.pair .int .one)))))) (.pair (.v (.agg (.pair .int (.pair .int (.pair .int (.pair .int .one)))))) .one)), (.pair .bool .one), fun x => f_laws_eqGhost (⟨x.1.1, ⟨x.1.2.1, x.1.2.2.1⟩, x.1.2.2.2.1⟩ : Ghost) (⟨x.2.1.1, ⟨x.2.1.2.1, x.2.1.2.2.1⟩, x.2.1.2.2.2.1⟩ : Ghost)⟩
theorem r_laws_eqGhost_ok : RwOk Go.Proofs.Tryz.prog tyK (r_laws_eqGhost) :=
  ent_ok (fa := a_laws_eqGhost) (ls := []) (cs := []) (n := 0) (es := [r_laws_eqShare]) mixedOk tbOk (ents_cons (r_laws_eqShare_ok) ents_nil) Go.Proofs.Tryz.func92 (by kernel_rfl) (by kernel_rfl) (by kernel_rfl) (LSsOk.nil _ _) (fun x => by kernel_rfl)
/-! loop.example/g00185/laws.eqGhostS -/
noncomputable def a_laws_eqGhostS : FnA := ⟨Go.Proofs.Tryz.f36, ⟨[(6, [(8, .call [.ro, .ro] .bool [] [])])], [(6, [([], []), ([], []), ([], []), ([], []), ([], []), ([], []), ([], []), ([], []), ([], []), ([], [])])], []⟩, 0⟩
def l_laws_eqGhostS_0 {α : Type} (n : Nat) : Nat → List Ghost → List Ghost → Int → (Option α) → (Option α) → Option α
  | 0, _, _, _, _, _ => none
  | m0 + 1, v1, v2, v3, k0_0, k0_1 =>
    cond (decide (v3 < ((v1).length : Int)))
     (cond ((decide (0 ≤ v3)) && (decide (v3 < ((v1).length : Int))))
       (cond ((decide (0 ≤ v3)) && (decide (v3 < ((v2).length : Int))))
         ((f_laws_eqGhost (List.getD v1 (Int.toNat v3) (Kd.dflt .ghost)) (List.getD v2 (Int.toNat v3) (Kd.dflt .ghost))).bind fun r4 =>
          cond (!r4.1)
           (k0_0)
           (l_laws_eqGhostS_0 n m0 v1 v2 (w64 (v3 + 1)) k0_0 k0_1))
         (none))
       (none))
     (k0_1)
def f_laws_eqGhostS (n : Nat) (a0 : List Ghost) (a1 : List Ghost) : Option (Bool × Unit) :=
  cond (!(decide (((a0).length : Int) = ((a1).length : Int))))
   (some (false, ()))
   (l_laws_eqGhostS_0 n n a0 a1 0
     (some (false, ()))
     (some (true, ())))
def r_laws_eqGhostS (n : Nat) : Rw := ⟨36, (.pair (.v (.ro .ghost)) (.pair (.v (.ro .ghost)) .one)), (.pair .bool .one), fun x => f_laws_eqGhostS n x.1.2 x.2.1.2⟩
def s_laws_eqGhostS_0 (n : Nat) : LS where
  la := ⟨4, [0, 1, 5], [], [], [4], []⟩
  nt := 27
  kt := [0, 1, 5]
  hs := []
  X := Bool × List Ghost × Bool × List Ghost × Int
  abs := fun vs es => match vs, es with | [.ro y0 .ghost y1, .ro y2 .ghost y3, .int y4], [] => some (y0, y1, y2, y3, y4) | _, _ => none
  tms := fun x => [.ro x.1 .ghost x.2.1, .ro x.2.2.1 .ghost x.2.2.2.1, .int x.2.2.2.2]
  ets := fun x => []
  run := fun m x k => l_laws_eqGhostS_0 n m x.2.1 x.2.2.2.1 x.2.2.2.2 (k .ret ⟨layT [4] [.bool false] 0 27, layH [] []⟩) (k (.exit 0) ⟨layT [] [] 0 27, layH [] []⟩)
noncomputable def c_laws_eqGhostS_0 : Code := (Go.Proofs.Tryz.f36.body.bind (subLoop 4)).getD .skip
theorem s_laws_eqGhostS_0_ok (n : Nat) : LSok Tb tyK (orc [r_laws_eqGhost]) n a_laws_eqGhostS.ann [s_laws_eqGhostS_0 n] c_laws_eqGhostS_0 (s_laws_eqGhostS_0 n) :=
  ⟨by intro vs es x h; dsimp only [s_laws_eqGhostS_0] at h; split at h; (· injection h with h; subst h; exact ⟨rfl, rfl⟩); (· cases h), fun _ _ => rfl, fun m x k => by kernel_rfl⟩
theorem r_laws_eqGhostS_ok (n : Nat) : RwOk Go.Proofs.Tryz.prog tyK (r_laws_eqGhostS n) :=
  ent_ok (fa := a_laws_eqGhostS) (ls := [s_laws_eqGhostS_0 n]) (cs := [c_laws_eqGhostS_0]) (n := n) (es := [r_laws_eqGhost]) mixedOk tbOk (ents_cons (r_laws_eqGhost_ok) ents_nil) Go.Proofs.Tryz.func36 (by kernel_rfl) (by kernel_rfl) (by kernel_rfl) (LSsOk.cons _ _ (l := s_laws_eqGhostS_0 n) (by kernel_rfl) (s_laws_eqGhostS_0_ok n) (LSsOk.nil _ _)) (fun x => by kernel_rfl)
/-! loop.example/g00185/laws.eqTurn -/
noncomputable def a_laws_eqTurn : FnA := ⟨Go.Proofs.Tryz.f93, ⟨[(0, [(0, .slot 0 .int), (1, .slot 1 .int)])], [], []⟩, 2⟩
def f_laws_eqTurn (a0 : Turn) (a1 : Turn) : Option (Bool × Unit) :=
  cond (!(decide (a0.Cpu = a1.Cpu)))
   (some (false, ()))
   (cond (!(decide (a0.Context = a1.Context)))
     (some (false, ()))
     (cond (!(decide (a0.Executor = a1.Executor)))
       (some (false, ()))
       (some (true, ()))))
def r_laws_eqTurn : Rw := ⟨93, (.pair (.v (.agg (.pair .int (.pair .int (.pair .int .one))))) (.pair (.v (.agg (.pair .int (.pair .int (.pair .int .one))))) .one)), (.pair .bool .one), fun x => f_laws_eqTurn (⟨x.1.1, x.1.2.1, x.1.2.2.1⟩ : Turn) (⟨x.2.1.1, x.2.1.2.1, x.2.1.2.2.1⟩ : Turn)⟩
theorem r_laws_eqTurn_ok : RwOk Go.Proofs.Tryz.prog tyK (r_laws_eqTurn) :=
  ent_ok (fa := a_laws_eqTurn) (ls := []) (cs := []) (n := 0) (es := []) mixedOk tbOk ents_nil Go.Proofs.Tryz.func93 (by kernel_rfl) (by kernel_rfl) (by kernel_rfl) (LSsOk.nil _ _) (fun x => by kernel_rfl)
/-! loop.example/g00185/laws.eqTurnS -/
noncomputable def a_laws_eqTurnS : FnA := ⟨Go.Proofs.Tryz.f38, ⟨[(6, [(8, .call [.ro, .ro] .bool [] [])])], [(6, [([], []), ([], []), ([], []), ([], []), ([], []), ([], []), ([], []), ([], []), ([], []), ([], [])])], []⟩, 0⟩
def l_laws_eqTurnS_0 {α : Type} (n : Nat) : Nat → List Turn → List Turn → Int → (Option α) → (Option α) → Option α
  | 0, _, _, _, _, _ => none
  | m0 + 1, v1, v2, v3, k0_0, k0_1 =>
    cond (decide (v3 < ((v1).length : Int)))
     (cond ((decide (0 ≤ v3)) && (decide (v3 < ((v1).length : Int))))
       (cond ((decide (0 ≤ v3)) && (decide (v3 < ((v2).length : Int))))
         ((f_laws_eqTurn (List.getD v1 (Int.toNat v3) (Kd.dflt .turn)) (List.getD v2 (Int.toNat v3) (Kd.dflt .turn))).bind fun r4 =>
          cond (!r4.1)
           (k0_0)
           (l_laws_eqTurnS_0 n m0 v1 v2 (w64 (v3 + 1)) k0_0 k0_1))
         (none))
       (none))
     (k0_1)
def f_laws_eqTurnS (n : Nat) (a0 : List Turn) (a1 : List Turn) : Option (Bool × Unit) :=
  cond (!(decide (((a0).length : Int) = ((a1).length : Int))))
   (some (false, ()))
   (l_laws_eqTurnS_0 n n a0 a1 0
     (some (false, ()))
     (some (true, ())))
def r_laws_eqTurnS (n : Nat) : Rw := ⟨38, (.pair (.v (.ro .turn)) (.pair (.v (.ro .turn)) .one)), (.pair .bool .one), fun x => f_laws_eqTurnS n x.1.2 x.2.1.2⟩
def s_laws_eqTurnS_0 (n : Nat) : LS where
  la := ⟨4, [0, 1, 5], [], [], [4], []⟩
  nt := 27
  kt := [0, 1, 5]
  hs := []
  X := Bool × List Turn × Bool × List Turn × Int
  abs := fun vs es => match vs, es with | [.ro y0 .turn y1, .ro y2 .turn y3, .int y4], [] => some (y0, y1, y2, y3, y4) | _, _ => none
  tms := fun x => [.ro x.1 .turn x.2.1, .ro x.2.2.1 .turn x.2.2.2.1, .int x.2.2.2.2]
  ets := fun x => []
  run := fun m x k => l_laws_eqTurnS_0 n m x.2.1 x.2.2.2.1 x.2.2.2.2 (k .ret ⟨layT [4] [.bool false] 0 27, layH [] []⟩) (k (.exit 0) ⟨layT [] [] 0 27, layH [] []⟩)
noncomputable def c_laws_eqTurnS_0 : Code := (Go.Proofs.Tryz.f38.body.bind (subLoop 4)).getD .skip
theorem s_laws_eqTurnS_0_ok (n : Nat) : LSok Tb tyK (orc [r_laws_eqTurn]) n a_laws_eqTurnS.ann [s_laws_eqTurnS_0 n] c_laws_eqTurnS_0 (s_laws_eqTurnS_0 n) :=
  ⟨by intro vs es x h; dsimp only [s_laws_eqTurnS_0] at h; split at h; (· injection h with h; subst h; exact ⟨rfl, rfl⟩); (· cases h), fun _ _ => rfl, fun m x k => by kernel_rfl⟩
theorem r_laws_eqTurnS_ok (n : Nat) : RwOk Go.Proofs.Tryz.prog tyK (r_laws_eqTurnS n) :=
  ent_ok (fa := a_laws_eqTurnS) (ls := [s_laws_eqTurnS_0 n]) (cs := [c_laws_eqTurnS_0]) (n := n) (es := [r_laws_eqTurn]) mixedOk tbOk (ents_cons (r_laws_eqTurn_ok) ents_nil) Go.Proofs.Tryz.func38 (by kernel_rfl) (by kernel_rfl) (by kernel_rfl) (LSsOk.cons _ _ (l := s_laws_eqTurnS_0 n) (by kernel_rfl) (s_laws_eqTurnS_0_ok n) (LSsOk.nil _ _)) (fun x => by kernel_rfl)
/-! loop.example/g00185/laws.eqSys -/
noncomputable def a_laws_eqSys : FnA := ⟨Go.Proofs.Tryz.f11, ⟨[(0, [(0, .slot 0 .int), (1, .slot 1 .int)]), (5, [(4, .call [.ro, .ro] .bool [] [])]), (7, [(4, .call [.ro, .ro] .bool [] [])]), (9, [(4, .call [.ro, .ro] .bool [] [])]), (11, [(4, .call [.ro, .ro] .bool [] [])]), (17, [(4, .call [.ro, .ro] .bool [] [])])], [], []⟩, 2⟩
def f_laws_eqSys (n : Nat) (a0 : Sys) (a1 : Sys) : Option (Bool × Unit) :=
  cond (!(decide (a0.Now = a1.Now)))
   (some (false, ()))
   (cond (!(decide (a0.Cpus = a1.Cpus)))
     (some (false, ()))
     ((f_laws_eqTaskS n a0.Tasks a1.Tasks).bind fun r1 =>
      cond (!r1.1)
       (some (false, ()))
       ((f_laws_eqLockS n a0.Locks a1.Locks).bind fun r2 =>
        cond (!r2.1)
         (some (false, ()))
         ((f_laws_eqGhostS n a0.Ghosts a1.Ghosts).bind fun r3 =>
          cond (!r3.1)
           (some (false, ()))
           ((f_laws_eqIntS n a0.Floors a1.Floors).bind fun r4 =>
            cond (!r4.1)
             (some (false, ()))
             (cond (!(decide (a0.Seq = a1.Seq)))
               (some (false, ()))
               (cond (!(decide (a0.Missed = a1.Missed)))
                 (some (false, ()))
                 ((f_laws_eqTurnS n a0.Trace a1.Trace).bind fun r5 =>
                  cond (!r5.1)
                   (some (false, ()))
                   (some (true, ()))))))))))
def r_laws_eqSys (n : Nat) : Rw := ⟨11, (.pair (.v (.agg (.pair .int (.pair .int (.pair (.ro .task) (.pair (.ro .lock) (.pair (.ro .ghost) (.pair (.ro .int) (.pair .int (.pair .int (.pair (.ro .turn) .one))))))))))) (.pair (.v (.agg (.pair .int (.pair .int (.pair (.ro .task) (.pair (.ro .lock) (.pair (.ro .ghost) (.pair (.ro .int) (.pair .int (.pair .int (.pair (.ro .turn) .one))))))))))) .one)), (.pair .bool .one), fun x => f_laws_eqSys n (⟨x.1.1, x.1.2.1, x.1.2.2.1.2, x.1.2.2.2.1.2, x.1.2.2.2.2.1.2, x.1.2.2.2.2.2.1.2, x.1.2.2.2.2.2.2.1, x.1.2.2.2.2.2.2.2.1, x.1.2.2.2.2.2.2.2.2.1.2⟩ : Sys) (⟨x.2.1.1, x.2.1.2.1, x.2.1.2.2.1.2, x.2.1.2.2.2.1.2, x.2.1.2.2.2.2.1.2, x.2.1.2.2.2.2.2.1.2, x.2.1.2.2.2.2.2.2.1, x.2.1.2.2.2.2.2.2.2.1, x.2.1.2.2.2.2.2.2.2.2.1.2⟩ : Sys)⟩
theorem r_laws_eqSys_ok (n : Nat) : RwOk Go.Proofs.Tryz.prog tyK (r_laws_eqSys n) :=
  ent_ok (fa := a_laws_eqSys) (ls := []) (cs := []) (n := n) (es := [(r_laws_eqTaskS n), (r_laws_eqLockS n), (r_laws_eqGhostS n), (r_laws_eqIntS n), (r_laws_eqTurnS n)]) mixedOk tbOk (ents_cons (r_laws_eqTaskS_ok n) (ents_cons (r_laws_eqLockS_ok n) (ents_cons (r_laws_eqGhostS_ok n) (ents_cons (r_laws_eqIntS_ok n) (ents_cons (r_laws_eqTurnS_ok n) ents_nil))))) Go.Proofs.Tryz.func11 (by kernel_rfl) (by kernel_rfl) (by kernel_rfl) (LSsOk.nil _ _) (fun x => by kernel_rfl)
/-! loop.example/g00185/laws.FnExactJudgeBest -/
noncomputable def a_laws_FnExactJudgeBest : FnA := ⟨Go.Proofs.Tryz.f4, ⟨[(0, [(0, .slot 0 .int)]), (2, [(2, .call [.ro, .ro] .int [] [])]), (5, [(1, .call [.ro] (.agg (.pair .int (.pair .int (.pair (.ro .task) (.pair (.ro .lock) (.pair (.ro .ghost) (.pair (.ro .int) (.pair .int (.pair .int (.pair (.ro .turn) .one)))))))))) [] []), (2, .call [.ro] .bool [] [])]), (6, [(1, .call [.ro] (.agg (.pair .int (.pair .int (.pair (.ro .task) (.pair (.ro .lock) (.pair (.ro .ghost) (.pair (.ro .int) (.pair .int (.pair .int (.pair (.ro .turn) .one)))))))))) [] []), (2, .slot 1 .int)]), (7, [(1, .call [.ro] .bool [] [])]), (10, [(2, .call [.ro] (.agg (.pair .int (.pair .int (.pair (.ro .task) (.pair (.ro .lock) (.pair (.ro .ghost) (.pair (.ro .int) (.pair .int (.pair .int (.pair (.ro .turn) .one)))))))))) [] []), (3, .call [.ro, .ro] .bool [] [])])], [(10, [([1], []), ([0], []), ([], []), ([], []), ([], [])])], []⟩, 2⟩
def f_laws_FnExactJudgeBest (n : Nat) (a0 : Sys) : Option (Bool × Unit) :=
  (f_laws_szSys n a0 1048576).bind fun r1 =>
  cond (decide (r1.1 < 0))
   (some (true, ()))
   ((f_laws_toSys n a0).bind fun r2 =>
    (f_spec_JudgeBest n (dnSys r2.1)).bind fun r3 =>
    (f_laws_toSys n a0).bind fun r4 =>
    (f_impl_JudgeBest n (dnSys r4.1)).bind fun r5 =>
    cond (!(r5.1 == r3.1))
     (some (false, ()))
     ((f_laws_toSys n a0).bind fun r6 =>
      (f_laws_eqSys n (dnSys r4.1) (dnSys r6.1)).bind fun r7 =>
      cond (!r7.1)
       (some (false, ()))
       (some (true, ()))))
def r_laws_FnExactJudgeBest (n : Nat) : Rw := ⟨4, (.pair (.v (.agg (.pair .int (.pair .int (.pair (.ro .task) (.pair (.ro .lock) (.pair (.ro .ghost) (.pair (.ro .int) (.pair .int (.pair .int (.pair (.ro .turn) .one))))))))))) .one), (.pair .bool .one), fun x => f_laws_FnExactJudgeBest n (⟨x.1.1, x.1.2.1, x.1.2.2.1.2, x.1.2.2.2.1.2, x.1.2.2.2.2.1.2, x.1.2.2.2.2.2.1.2, x.1.2.2.2.2.2.2.1, x.1.2.2.2.2.2.2.2.1, x.1.2.2.2.2.2.2.2.2.1.2⟩ : Sys)⟩
theorem r_laws_FnExactJudgeBest_ok (n : Nat) : RwOk Go.Proofs.Tryz.prog tyK (r_laws_FnExactJudgeBest n) :=
  ent_ok (fa := a_laws_FnExactJudgeBest) (ls := []) (cs := []) (n := n) (es := [(r_laws_szSys n), (r_laws_toSys n), (r_spec_JudgeBest n), (r_impl_JudgeBest n), (r_laws_eqSys n)]) mixedOk tbOk (ents_cons (r_laws_szSys_ok n) (ents_cons (r_laws_toSys_ok n) (ents_cons (r_spec_JudgeBest_ok n) (ents_cons (r_impl_JudgeBest_ok n) (ents_cons (r_laws_eqSys_ok n) ents_nil))))) Go.Proofs.Tryz.func4 (by kernel_rfl) (by kernel_rfl) (by kernel_rfl) (LSsOk.nil _ _) (fun x => by kernel_rfl)
end Go.Proofs.YtjgkeaiibdodfaaGreat.VR
