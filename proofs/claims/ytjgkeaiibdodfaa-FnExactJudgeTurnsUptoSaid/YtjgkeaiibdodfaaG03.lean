/- Functions, printed by program (wip/gen/emit.py). -/
import Derived.Test.YtjgkeaiibdodfaaG02
set_option linter.unusedVariables false
set_option maxRecDepth 100000
namespace Go.Proofs.Ytjgkeaiibdodfaa.VR
open Go
/-! loop.example/g00185/impl.isUntil -/
noncomputable def a_impl_isUntil : FnA := ⟨Go.Proofs.Try.f141, ⟨[(1, [(1, .call [.ro, .ro, .ro] .bool [] [])])], [], []⟩, 0⟩
def f_impl_isUntil (a0 : Int) : Option (Bool × Unit) :=
  (f_impl_in a0 0 100040).bind fun r1 =>
  some (r1.1, ())
def r_impl_isUntil : Rw := ⟨141, (.pair (.v (.int)) .one), (.pair .bool .one), fun x => f_impl_isUntil x.1⟩
theorem r_impl_isUntil_ok : RwOk Go.Proofs.Try.prog tyK (r_impl_isUntil) :=
  ent_ok (fa := a_impl_isUntil) (ls := []) (cs := []) (n := 0) (es := [r_impl_in]) mixedOk tbOk (ents_cons (r_impl_in_ok) ents_nil) Go.Proofs.Try.func141 (by kernel_rfl) (by kernel_rfl) (by kernel_rfl) (LSsOk.nil _ _) (fun x => by kernel_rfl)
/-! loop.example/g00185/impl.isSeq -/
noncomputable def a_impl_isSeq : FnA := ⟨Go.Proofs.Try.f83, ⟨[(1, [(1, .call [.ro, .ro, .ro] .bool [] [])])], [], []⟩, 0⟩
def f_impl_isSeq (a0 : Int) : Option (Bool × Unit) :=
  (f_impl_in a0 0 1000000).bind fun r1 =>
  some (r1.1, ())
def r_impl_isSeq : Rw := ⟨83, (.pair (.v (.int)) .one), (.pair .bool .one), fun x => f_impl_isSeq x.1⟩
theorem r_impl_isSeq_ok : RwOk Go.Proofs.Try.prog tyK (r_impl_isSeq) :=
  ent_ok (fa := a_impl_isSeq) (ls := []) (cs := []) (n := 0) (es := [r_impl_in]) mixedOk tbOk (ents_cons (r_impl_in_ok) ents_nil) Go.Proofs.Try.func83 (by kernel_rfl) (by kernel_rfl) (by kernel_rfl) (LSsOk.nil _ _) (fun x => by kernel_rfl)
/-! loop.example/g00185/impl.NiceOk -/
noncomputable def a_impl_NiceOk : FnA := ⟨Go.Proofs.Try.f157, ⟨[(1, [(1, .call [.ro, .ro, .ro] .bool [] [])])], [], []⟩, 0⟩
def f_impl_NiceOk (a0 : Int) : Option (Bool × Unit) :=
  (f_impl_in a0 (-4) 4).bind fun r1 =>
  some (r1.1, ())
def r_impl_NiceOk : Rw := ⟨157, (.pair (.v (.int)) .one), (.pair .bool .one), fun x => f_impl_NiceOk x.1⟩
theorem r_impl_NiceOk_ok : RwOk Go.Proofs.Try.prog tyK (r_impl_NiceOk) :=
  ent_ok (fa := a_impl_NiceOk) (ls := []) (cs := []) (n := 0) (es := [r_impl_in]) mixedOk tbOk (ents_cons (r_impl_in_ok) ents_nil) Go.Proofs.Try.func157 (by kernel_rfl) (by kernel_rfl) (by kernel_rfl) (LSsOk.nil _ _) (fun x => by kernel_rfl)
/-! loop.example/g00185/impl.TaskOk -/
noncomputable def a_impl_TaskOk : FnA := ⟨Go.Proofs.Try.f96, ⟨[(0, [(0, .slot 0 .int)]), (1, [(2, .call [.ro] .bool [] []), (7, .call [.ro, .ro, .ro] .bool [] [])]), (3, [(11, .slot 1 .int)]), (8, [(5, .call [.ro] .bool [] []), (11, .call [.ro, .ro, .ro] .bool [] []), (16, .call [.ro] .bool [] [])]), (11, [(2, .call [.ro, .ro, .ro] .bool [] []), (6, .call [.ro, .ro, .ro] .bool [] []), (16, .call [.ro, .ro, .ro] .bool [] []), (21, .call [.ro] .bool [] [])]), (14, [(2, .call [.ro] .bool [] []), (6, .call [.ro, .ro, .ro] .bool [] [])])], [(7, [([0], []), ([0], []), ([0], []), ([0], []), ([0], []), ([0], []), ([0], []), ([0], []), ([1], []), ([1], [1]), ([1], []), ([1], [1]), ([1], []), ([1], [1]), ([1], []), ([1], [1])]), (10, [([0], []), ([0], []), ([0], []), ([0], []), ([0], []), ([0], []), ([0], []), ([0], []), ([1], []), ([1], [1]), ([1], []), ([1], [1]), ([1], []), ([1], [1]), ([1], []), ([1], [1])]), (13, [([0], []), ([0], []), ([0], []), ([0], []), ([1], []), ([1], [1]), ([1], []), ([1], [1])])], []⟩, 2⟩
def f_impl_TaskOk (a0 : Task) : Option (Bool × Unit) :=
  (f_impl_isNo a0.No).bind fun r1 =>
  cond (!r1.1)
   (some (false, ()))
   ((f_impl_in a0.Cpu 0 3).bind fun r2 =>
    cond (!r2.1)
     (some (false, ()))
     (cond (!(decide (a0.State = 1)))
       (cond (!(decide (a0.State = 2)))
         (some (false, ()))
         (cond (decide (a0.Class = 1))
           ((f_impl_ShareOk (⟨a0.Q, a0.P⟩ : Share)).bind fun r3 =>
            cond r3.1
             ((f_impl_in a0.Left 0 a0.Q).bind fun r4 =>
              cond r4.1
               ((f_impl_isUntil a0.Due).bind fun r5 =>
                cond r5.1
                 (let e6 := ((decide (a0.No = a0.No)) && ((decide (a0.Class = a0.Class)) && ((decide (a0.Cpu = a0.Cpu)) && ((decide (a0.State = a0.State)) && ((a0.Idle == a0.Idle) && ((decide (a0.Q = a0.Q)) && ((decide (a0.P = a0.P)) && ((decide (a0.Left = a0.Left)) && ((decide (a0.Due = a0.Due)) && ((decide (a0.Prio = 0)) && ((decide (a0.Round = 0)) && ((decide (a0.Seq = 0)) && ((decide (a0.Nice = 0)) && ((decide (a0.V = 0)) && true))))))))))))))
                  some (e6, ()))
                 (some (false, ())))
               (some (false, ())))
             (some (false, ())))
           (cond (decide (a0.Class = 2))
             ((f_impl_in a0.Prio 1 20).bind fun r7 =>
              cond r7.1
               ((f_impl_in a0.Round 0 10).bind fun r8 =>
                cond r8.1
                 ((f_impl_in a0.Left (if a0.Round < 1 then a0.Round else 1) a0.Round).bind fun r9 =>
                  cond r9.1
                   ((f_impl_isSeq a0.Seq).bind fun r10 =>
                    cond r10.1
                     (let e11 := ((decide (a0.No = a0.No)) && ((decide (a0.Class = a0.Class)) && ((decide (a0.Cpu = a0.Cpu)) && ((decide (a0.State = a0.State)) && ((a0.Idle == a0.Idle) && ((decide (a0.Q = 0)) && ((decide (a0.P = 0)) && ((decide (a0.Left = a0.Left)) && ((decide (a0.Due = 0)) && ((decide (a0.Prio = a0.Prio)) && ((decide (a0.Round = a0.Round)) && ((decide (a0.Seq = a0.Seq)) && ((decide (a0.Nice = 0)) && ((decide (a0.V = 0)) && true))))))))))))))
                      some (e11, ()))
                     (some (false, ())))
                   (some (false, ())))
                 (some (false, ())))
               (some (false, ())))
             (cond (decide (a0.Class = 3))
               ((f_impl_NiceOk a0.Nice).bind fun r12 =>
                cond r12.1
                 ((f_impl_in a0.V 0 100000000).bind fun r13 =>
                  cond r13.1
                   (let e14 := ((decide (a0.No = a0.No)) && ((decide (a0.Class = a0.Class)) && ((decide (a0.Cpu = a0.Cpu)) && ((decide (a0.State = a0.State)) && ((a0.Idle == a0.Idle) && ((decide (a0.Q = 0)) && ((decide (a0.P = 0)) && ((decide (a0.Left = 0)) && ((decide (a0.Due = 0)) && ((decide (a0.Prio = 0)) && ((decide (a0.Round = 0)) && ((decide (a0.Seq = 0)) && ((decide (a0.Nice = a0.Nice)) && ((decide (a0.V = a0.V)) && true))))))))))))))
                    some (e14, ()))
                   (some (false, ())))
                 (some (false, ())))
               (some (false, ()))))))
       (cond (decide (a0.Class = 1))
         ((f_impl_ShareOk (⟨a0.Q, a0.P⟩ : Share)).bind fun r15 =>
          cond r15.1
           ((f_impl_in a0.Left 0 a0.Q).bind fun r16 =>
            cond r16.1
             ((f_impl_isUntil a0.Due).bind fun r17 =>
              cond r17.1
               (let e18 := ((decide (a0.No = a0.No)) && ((decide (a0.Class = a0.Class)) && ((decide (a0.Cpu = a0.Cpu)) && ((decide (a0.State = a0.State)) && ((a0.Idle == a0.Idle) && ((decide (a0.Q = a0.Q)) && ((decide (a0.P = a0.P)) && ((decide (a0.Left = a0.Left)) && ((decide (a0.Due = a0.Due)) && ((decide (a0.Prio = 0)) && ((decide (a0.Round = 0)) && ((decide (a0.Seq = 0)) && ((decide (a0.Nice = 0)) && ((decide (a0.V = 0)) && true))))))))))))))
                some (e18, ()))
               (some (false, ())))
             (some (false, ())))
           (some (false, ())))
         (cond (decide (a0.Class = 2))
           ((f_impl_in a0.Prio 1 20).bind fun r19 =>
            cond r19.1
             ((f_impl_in a0.Round 0 10).bind fun r20 =>
              cond r20.1
               ((f_impl_in a0.Left (if a0.Round < 1 then a0.Round else 1) a0.Round).bind fun r21 =>
                cond r21.1
                 ((f_impl_isSeq a0.Seq).bind fun r22 =>
                  cond r22.1
                   (let e23 := ((decide (a0.No = a0.No)) && ((decide (a0.Class = a0.Class)) && ((decide (a0.Cpu = a0.Cpu)) && ((decide (a0.State = a0.State)) && ((a0.Idle == a0.Idle) && ((decide (a0.Q = 0)) && ((decide (a0.P = 0)) && ((decide (a0.Left = a0.Left)) && ((decide (a0.Due = 0)) && ((decide (a0.Prio = a0.Prio)) && ((decide (a0.Round = a0.Round)) && ((decide (a0.Seq = a0.Seq)) && ((decide (a0.Nice = 0)) && ((decide (a0.V = 0)) && true))))))))))))))
                    some (e23, ()))
                   (some (false, ())))
                 (some (false, ())))
               (some (false, ())))
             (some (false, ())))
           (cond (decide (a0.Class = 3))
             ((f_impl_NiceOk a0.Nice).bind fun r24 =>
              cond r24.1
               ((f_impl_in a0.V 0 100000000).bind fun r25 =>
                cond r25.1
                 (let e26 := ((decide (a0.No = a0.No)) && ((decide (a0.Class = a0.Class)) && ((decide (a0.Cpu = a0.Cpu)) && ((decide (a0.State = a0.State)) && ((a0.Idle == a0.Idle) && ((decide (a0.Q = 0)) && ((decide (a0.P = 0)) && ((decide (a0.Left = 0)) && ((decide (a0.Due = 0)) && ((decide (a0.Prio = 0)) && ((decide (a0.Round = 0)) && ((decide (a0.Seq = 0)) && ((decide (a0.Nice = a0.Nice)) && ((decide (a0.V = a0.V)) && true))))))))))))))
                  some (e26, ()))
                 (some (false, ())))
               (some (false, ())))
             (some (false, ())))))))
def r_impl_TaskOk : Rw := ⟨96, (.pair (.v (.agg (.pair .int (.pair .int (.pair .int (.pair .int (.pair .bool (.pair .int (.pair .int (.pair .int (.pair .int (.pair .int (.pair .int (.pair .int (.pair .int (.pair .int .one)))))))))))))))) .one), (.pair .bool .one), fun x => f_impl_TaskOk (⟨x.1.1, x.1.2.1, x.1.2.2.1, x.1.2.2.2.1, x.1.2.2.2.2.1, x.1.2.2.2.2.2.1, x.1.2.2.2.2.2.2.1, x.1.2.2.2.2.2.2.2.1, x.1.2.2.2.2.2.2.2.2.1, x.1.2.2.2.2.2.2.2.2.2.1, x.1.2.2.2.2.2.2.2.2.2.2.1, x.1.2.2.2.2.2.2.2.2.2.2.2.1, x.1.2.2.2.2.2.2.2.2.2.2.2.2.1, x.1.2.2.2.2.2.2.2.2.2.2.2.2.2.1⟩ : Task)⟩
theorem r_impl_TaskOk_ok : RwOk Go.Proofs.Try.prog tyK (r_impl_TaskOk) :=
  ent_ok (fa := a_impl_TaskOk) (ls := []) (cs := []) (n := 0) (es := [r_impl_isNo, r_impl_in, r_impl_ShareOk, r_impl_isUntil, r_impl_isSeq, r_impl_NiceOk]) mixedOk tbOk (ents_cons (r_impl_isNo_ok) (ents_cons (r_impl_in_ok) (ents_cons (r_impl_ShareOk_ok) (ents_cons (r_impl_isUntil_ok) (ents_cons (r_impl_isSeq_ok) (ents_cons (r_impl_NiceOk_ok) ents_nil)))))) Go.Proofs.Try.func96 (by kernel_rfl) (by kernel_rfl) (by kernel_rfl) (LSsOk.nil _ _) (fun x => by kernel_rfl)
/-! loop.example/g00185/impl.TasksOk -/
noncomputable def a_impl_TasksOk : FnA := ⟨Go.Proofs.Try.f70, ⟨[(3, [(3, .slot 0 .int)]), (4, [(1, .call [.ro] .bool [] [])])], [(4, [([0], []), ([], []), ([], []), ([], []), ([], []), ([], []), ([], []), ([], []), ([], []), ([], []), ([], []), ([], []), ([], []), ([0], []), ([0], []), ([], []), ([], []), ([], [])])], []⟩, 1⟩
def l_impl_TasksOk_0 {α : Type} (n : Nat) : Nat → List Task → List Task → Int → Int → (Option α) → (Option α) → Option α
  | 0, _, _, _, _, _, _ => none
  | m0 + 1, v1, v2, v3, v4, k0_0, k0_1 =>
    cond (decide (v4 < v3))
     (cond ((decide (0 ≤ v4)) && (decide (v4 < ((v2).length : Int))))
       ((f_impl_TaskOk (List.getD v2 (Int.toNat v4) (Kd.dflt .task))).bind fun r5 =>
        cond (!r5.1)
         (k0_0)
         (cond (decide (0 < v4))
           (cond ((decide (0 ≤ (w64 (v4 - 1)))) && (decide ((w64 (v4 - 1)) < ((v1).length : Int))))
             (let e6 := (decide ((List.getD v2 (Int.toNat v4) (Kd.dflt .task)).No ≤ (List.getD v1 (Int.toNat (w64 (v4 - 1))) (Kd.dflt .task)).No))
              cond e6
               (k0_0)
               (l_impl_TasksOk_0 n m0 v1 v2 v3 (w64 (v4 + 1)) k0_0 k0_1))
             (none))
           (l_impl_TasksOk_0 n m0 v1 v2 v3 (w64 (v4 + 1)) k0_0 k0_1)))
       (none))
     (k0_1)
def f_impl_TasksOk (n : Nat) (a0 : List Task) : Option (Bool × Unit) :=
  l_impl_TasksOk_0 n n a0 a0 ((a0).length : Int) 0
   (some (false, ()))
   (some ((decide (((a0).length : Int) ≤ 12)), ()))
def r_impl_TasksOk (n : Nat) : Rw := ⟨70, (.pair (.v (.ro .task)) .one), (.pair .bool .one), fun x => f_impl_TasksOk n x.1.2⟩
def s_impl_TasksOk_0 (n : Nat) : LS where
  la := ⟨2, [0, 5, 6, 7], [], [0], [0, 2], []⟩
  nt := 34
  kt := [0, 5, 6, 7]
  hs := [.fresh]
  X := Bool × List Task × Bool × List Task × Int × Int
  abs := fun vs es => match vs, es with | [.ro y0 .task y1, .ro y2 .task y3, .int y4, .int y5], [] => some (y0, y1, y2, y3, y4, y5) | _, _ => none
  tms := fun x => [.ro x.1 .task x.2.1, .ro x.2.2.1 .task x.2.2.2.1, .int x.2.2.2.2.1, .int x.2.2.2.2.2]
  ets := fun x => []
  run := fun m x k => l_impl_TasksOk_0 n m x.2.1 x.2.2.2.1 x.2.2.2.2.1 x.2.2.2.2.2 (k .ret ⟨layT [0, 2] [.ro x.1 .task x.2.1, .bool false] 0 34, layH [.dead] []⟩) (k (.exit 0) ⟨layT [0] [.ro x.1 .task x.2.1] 0 34, layH [.dead] []⟩)
noncomputable def c_impl_TasksOk_0 : Code := (Go.Proofs.Try.f70.body.bind (subLoop 2)).getD .skip
theorem s_impl_TasksOk_0_ok (n : Nat) : LSok Tb tyK (orc [r_impl_TaskOk]) n a_impl_TasksOk.ann [s_impl_TasksOk_0 n] c_impl_TasksOk_0 (s_impl_TasksOk_0 n) :=
  ⟨by intro vs es x h; dsimp only [s_impl_TasksOk_0] at h; split at h; (· injection h with h; subst h; exact ⟨rfl, rfl⟩); (· cases h), fun _ _ => rfl, fun m x k => by kernel_rfl⟩
theorem r_impl_TasksOk_ok (n : Nat) : RwOk Go.Proofs.Try.prog tyK (r_impl_TasksOk n) :=
  ent_ok (fa := a_impl_TasksOk) (ls := [s_impl_TasksOk_0 n]) (cs := [c_impl_TasksOk_0]) (n := n) (es := [r_impl_TaskOk]) mixedOk tbOk (ents_cons (r_impl_TaskOk_ok) ents_nil) Go.Proofs.Try.func70 (by kernel_rfl) (by kernel_rfl) (by kernel_rfl) (LSsOk.cons _ _ (l := s_impl_TasksOk_0 n) (by kernel_rfl) (s_impl_TasksOk_0_ok n) (LSsOk.nil _ _)) (fun x => by kernel_rfl)
/-! loop.example/g00185/impl.SysOk$1 -/
noncomputable def a_impl_SysOk_1 : FnA := ⟨Go.Proofs.Try.f71, ⟨[(0, [(0, .slot 0 .int)])], [], []⟩, 1⟩
def f_impl_SysOk_1 (a0 : Task) (a1 : Sys) : Option (Bool × Unit) :=
  some ((decide (a1.Cpus ≤ a0.Cpu)), ())
def r_impl_SysOk_1 : Rw := ⟨71, (.pair (.v (.agg (.pair .int (.pair .int (.pair .int (.pair .int (.pair .bool (.pair .int (.pair .int (.pair .int (.pair .int (.pair .int (.pair .int (.pair .int (.pair .int (.pair .int .one)))))))))))))))) (.pair (.v (.rp (.pair .int (.pair .int (.pair (.ro .task) (.pair (.ro .lock) (.pair (.ro .ghost) (.pair (.ro .int) (.pair .int (.pair .int (.pair (.ro .turn) .one))))))))) 0)) .one)), (.pair .bool .one), fun x => f_impl_SysOk_1 (⟨x.1.1, x.1.2.1, x.1.2.2.1, x.1.2.2.2.1, x.1.2.2.2.2.1, x.1.2.2.2.2.2.1, x.1.2.2.2.2.2.2.1, x.1.2.2.2.2.2.2.2.1, x.1.2.2.2.2.2.2.2.2.1, x.1.2.2.2.2.2.2.2.2.2.1, x.1.2.2.2.2.2.2.2.2.2.2.1, x.1.2.2.2.2.2.2.2.2.2.2.2.1, x.1.2.2.2.2.2.2.2.2.2.2.2.2.1, x.1.2.2.2.2.2.2.2.2.2.2.2.2.2.1⟩ : Task) (⟨x.2.1.1, x.2.1.2.1, x.2.1.2.2.1.2, x.2.1.2.2.2.1.2, x.2.1.2.2.2.2.1.2, x.2.1.2.2.2.2.2.1.2, x.2.1.2.2.2.2.2.2.1, x.2.1.2.2.2.2.2.2.2.1, x.2.1.2.2.2.2.2.2.2.2.1.2⟩ : Sys)⟩
theorem r_impl_SysOk_1_ok : RwOk Go.Proofs.Try.prog tyK (r_impl_SysOk_1) :=
  ent_ok (fa := a_impl_SysOk_1) (ls := []) (cs := []) (n := 0) (es := []) mixedOk tbOk ents_nil Go.Proofs.Try.func71 (by kernel_rfl) (by kernel_rfl) (by kernel_rfl) (LSsOk.nil _ _) (fun x => by kernel_rfl)
/-! slices.IndexFunc[[]loop.example/g00185/impl.Task,loop.example/g00185/impl.Task] -/
noncomputable def a_slices_IndexFunc_Task_SysOk_1 : FnA := ⟨Go.Proofs.Try.f92, ⟨[(4, [(5, .call [.ro] .bool [] [])])], [], []⟩, 0⟩
def l_slices_IndexFunc_Task_SysOk_1_0 {α : Type} (n : Nat) : Nat → List Task → Sys → Int → Int → (Int → Option α) → (Option α) → Option α
  | 0, _, _, _, _, _, _ => none
  | m0 + 1, v1, v2, v3, v4, k0_0, k0_1 =>
    cond (decide (v4 < v3))
     (cond ((decide (0 ≤ v4)) && (decide (v4 < ((v1).length : Int))))
       ((f_impl_SysOk_1 (List.getD v1 (Int.toNat v4) (Kd.dflt .task)) v2).bind fun r5 =>
        cond r5.1
         (k0_0 v4)
         (l_slices_IndexFunc_Task_SysOk_1_0 n m0 v1 v2 v3 (w64 (v4 + 1)) k0_0 k0_1))
       (none))
     (k0_1)
def f_slices_IndexFunc_Task_SysOk_1 (n : Nat) (a0 : List Task) (a1_0 : Sys) : Option (Int × Unit) :=
  l_slices_IndexFunc_Task_SysOk_1_0 n n a0 a1_0 ((a0).length : Int) 0
   (fun w6 =>
    some (w6, ()))
   (some ((-1), ()))
def r_slices_IndexFunc_Task_SysOk_1 (n : Nat) : Rw := ⟨92, (.pair (.v (.ro .task)) (.pair (.v (.clo 71 (.pair (.rp (.pair .int (.pair .int (.pair (.ro .task) (.pair (.ro .lock) (.pair (.ro .ghost) (.pair (.ro .int) (.pair .int (.pair .int (.pair (.ro .turn) .one))))))))) 0) .one))) .one)), (.pair .int .one), fun x => f_slices_IndexFunc_Task_SysOk_1 n x.1.2 (⟨x.2.1.1.1, x.2.1.1.2.1, x.2.1.1.2.2.1.2, x.2.1.1.2.2.2.1.2, x.2.1.1.2.2.2.2.1.2, x.2.1.1.2.2.2.2.2.1.2, x.2.1.1.2.2.2.2.2.2.1, x.2.1.1.2.2.2.2.2.2.2.1, x.2.1.1.2.2.2.2.2.2.2.2.1.2⟩ : Sys)⟩
def s_slices_IndexFunc_Task_SysOk_1_0 (n : Nat) : LS where
  la := ⟨2, [0, 1, 7, 8], [], [], [4], []⟩
  nt := 19
  kt := [0, 1, 7, 8]
  hs := []
  X := Bool × List Task × Int × Int × Bool × List Task × Bool × List Lock × Bool × List Ghost × Bool × List Int × Int × Int × Bool × List Turn × Int × Int
  abs := fun vs es => match vs, es with | [.ro y0 .task y1, .clo 71 [.rp [.int y2, .int y3, .ro y4 .task y5, .ro y6 .lock y7, .ro y8 .ghost y9, .ro y10 .int y11, .int y12, .int y13, .ro y14 .turn y15] 0], .int y16, .int y17], [] => some (y0, y1, y2, y3, y4, y5, y6, y7, y8, y9, y10, y11, y12, y13, y14, y15, y16, y17) | _, _ => none
  tms := fun x => [.ro x.1 .task x.2.1, .clo 71 [.rp [.int x.2.2.1, .int x.2.2.2.1, .ro x.2.2.2.2.1 .task x.2.2.2.2.2.1, .ro x.2.2.2.2.2.2.1 .lock x.2.2.2.2.2.2.2.1, .ro x.2.2.2.2.2.2.2.2.1 .ghost x.2.2.2.2.2.2.2.2.2.1, .ro x.2.2.2.2.2.2.2.2.2.2.1 .int x.2.2.2.2.2.2.2.2.2.2.2.1, .int x.2.2.2.2.2.2.2.2.2.2.2.2.1, .int x.2.2.2.2.2.2.2.2.2.2.2.2.2.1, .ro x.2.2.2.2.2.2.2.2.2.2.2.2.2.2.1 .turn x.2.2.2.2.2.2.2.2.2.2.2.2.2.2.2.1] 0], .int x.2.2.2.2.2.2.2.2.2.2.2.2.2.2.2.2.1, .int x.2.2.2.2.2.2.2.2.2.2.2.2.2.2.2.2.2]
  ets := fun x => []
  run := fun m x k => l_slices_IndexFunc_Task_SysOk_1_0 n m x.2.1 (⟨x.2.2.1, x.2.2.2.1, x.2.2.2.2.2.1, x.2.2.2.2.2.2.2.1, x.2.2.2.2.2.2.2.2.2.1, x.2.2.2.2.2.2.2.2.2.2.2.1, x.2.2.2.2.2.2.2.2.2.2.2.2.1, x.2.2.2.2.2.2.2.2.2.2.2.2.2.1, x.2.2.2.2.2.2.2.2.2.2.2.2.2.2.2.1⟩ : Sys) x.2.2.2.2.2.2.2.2.2.2.2.2.2.2.2.2.1 x.2.2.2.2.2.2.2.2.2.2.2.2.2.2.2.2.2 (fun w0 => k .ret ⟨layT [4] [.int w0] 0 19, layH [] []⟩) (k (.exit 0) ⟨layT [] [] 0 19, layH [] []⟩)
noncomputable def c_slices_IndexFunc_Task_SysOk_1_0 : Code := (Go.Proofs.Try.f92.body.bind (subLoop 2)).getD .skip
theorem s_slices_IndexFunc_Task_SysOk_1_0_ok (n : Nat) : LSok Tb tyK (orc [r_impl_SysOk_1]) n a_slices_IndexFunc_Task_SysOk_1.ann [s_slices_IndexFunc_Task_SysOk_1_0 n] c_slices_IndexFunc_Task_SysOk_1_0 (s_slices_IndexFunc_Task_SysOk_1_0 n) :=
  ⟨by intro vs es x h; dsimp only [s_slices_IndexFunc_Task_SysOk_1_0] at h; split at h; (· injection h with h; subst h; exact ⟨rfl, rfl⟩); (· cases h), fun _ _ => rfl, fun m x k => by kernel_rfl⟩
theorem r_slices_IndexFunc_Task_SysOk_1_ok (n : Nat) : RwOk Go.Proofs.Try.prog tyK (r_slices_IndexFunc_Task_SysOk_1 n) :=
  ent_ok (fa := a_slices_IndexFunc_Task_SysOk_1) (ls := [s_slices_IndexFunc_Task_SysOk_1_0 n]) (cs := [c_slices_IndexFunc_Task_SysOk_1_0]) (n := n) (es := [r_impl_SysOk_1]) mixedOk tbOk (ents_cons (r_impl_SysOk_1_ok) ents_nil) Go.Proofs.Try.func92 (by kernel_rfl) (by kernel_rfl) (by kernel_rfl) (LSsOk.cons _ _ (l := s_slices_IndexFunc_Task_SysOk_1_0 n) (by kernel_rfl) (s_slices_IndexFunc_Task_SysOk_1_0_ok n) (LSsOk.nil _ _)) (fun x => by kernel_rfl)
/-! slices.ContainsFunc[[]loop.example/g00185/impl.Task,loop.example/g00185/impl.Task] -/
noncomputable def a_slices_ContainsFunc_Task_SysOk_1 : FnA := ⟨Go.Proofs.Try.f58, ⟨[(1, [(2, .call [.ro, .ro] .int [] [])])], [], []⟩, 0⟩
def f_slices_ContainsFunc_Task_SysOk_1 (n : Nat) (a0 : List Task) (a1_0 : Sys) : Option (Bool × Unit) :=
  (f_slices_IndexFunc_Task_SysOk_1 n a0 a1_0).bind fun r1 =>
  some ((decide (0 ≤ r1.1)), ())
def r_slices_ContainsFunc_Task_SysOk_1 (n : Nat) : Rw := ⟨58, (.pair (.v (.ro .task)) (.pair (.v (.clo 71 (.pair (.rp (.pair .int (.pair .int (.pair (.ro .task) (.pair (.ro .lock) (.pair (.ro .ghost) (.pair (.ro .int) (.pair .int (.pair .int (.pair (.ro .turn) .one))))))))) 0) .one))) .one)), (.pair .bool .one), fun x => f_slices_ContainsFunc_Task_SysOk_1 n x.1.2 (⟨x.2.1.1.1, x.2.1.1.2.1, x.2.1.1.2.2.1.2, x.2.1.1.2.2.2.1.2, x.2.1.1.2.2.2.2.1.2, x.2.1.1.2.2.2.2.2.1.2, x.2.1.1.2.2.2.2.2.2.1, x.2.1.1.2.2.2.2.2.2.2.1, x.2.1.1.2.2.2.2.2.2.2.2.1.2⟩ : Sys)⟩
theorem r_slices_ContainsFunc_Task_SysOk_1_ok (n : Nat) : RwOk Go.Proofs.Try.prog tyK (r_slices_ContainsFunc_Task_SysOk_1 n) :=
  ent_ok (fa := a_slices_ContainsFunc_Task_SysOk_1) (ls := []) (cs := []) (n := n) (es := [(r_slices_IndexFunc_Task_SysOk_1 n)]) mixedOk tbOk (ents_cons (r_slices_IndexFunc_Task_SysOk_1_ok n) ents_nil) Go.Proofs.Try.func58 (by kernel_rfl) (by kernel_rfl) (by kernel_rfl) (LSsOk.nil _ _) (fun x => by kernel_rfl)
/-! slices.Index[[]int,int] -/
noncomputable def a_slices_Index_int : FnA := ⟨Go.Proofs.Try.f168, ⟨[], [], []⟩, 0⟩
def l_slices_Index_int_0 {α : Type} (n : Nat) : Nat → List Int → Int → Int → Int → (Int → Option α) → (Option α) → Option α
  | 0, _, _, _, _, _, _ => none
  | m0 + 1, v1, v2, v3, v4, k0_0, k0_1 =>
    cond (decide (v4 < v3))
     (cond ((decide (0 ≤ v4)) && (decide (v4 < ((v1).length : Int))))
       (cond (decide (v2 = (List.getD v1 (Int.toNat v4) (Kd.dflt .int))))
         (k0_0 v4)
         (l_slices_Index_int_0 n m0 v1 v2 v3 (w64 (v4 + 1)) k0_0 k0_1))
       (none))
     (k0_1)
def f_slices_Index_int (n : Nat) (a0 : List Int) (a1 : Int) : Option (Int × Unit) :=
  l_slices_Index_int_0 n n a0 a1 ((a0).length : Int) 0
   (fun w5 =>
    some (w5, ()))
   (some ((-1), ()))
def r_slices_Index_int (n : Nat) : Rw := ⟨168, (.pair (.v (.ro .int)) (.pair (.v (.int)) .one)), (.pair .int .one), fun x => f_slices_Index_int n x.1.2 x.2.1⟩
def s_slices_Index_int_0 (n : Nat) : LS where
  la := ⟨2, [0, 1, 7, 8], [], [], [4], []⟩
  nt := 19
  kt := [0, 1, 7, 8]
  hs := []
  X := Bool × List Int × Int × Int × Int
  abs := fun vs es => match vs, es with | [.ro y0 .int y1, .int y2, .int y3, .int y4], [] => some (y0, y1, y2, y3, y4) | _, _ => none
  tms := fun x => [.ro x.1 .int x.2.1, .int x.2.2.1, .int x.2.2.2.1, .int x.2.2.2.2]
  ets := fun x => []
  run := fun m x k => l_slices_Index_int_0 n m x.2.1 x.2.2.1 x.2.2.2.1 x.2.2.2.2 (fun w0 => k .ret ⟨layT [4] [.int w0] 0 19, layH [] []⟩) (k (.exit 0) ⟨layT [] [] 0 19, layH [] []⟩)
noncomputable def c_slices_Index_int_0 : Code := (Go.Proofs.Try.f168.body.bind (subLoop 2)).getD .skip
theorem s_slices_Index_int_0_ok (n : Nat) : LSok Tb tyK (orc []) n a_slices_Index_int.ann [s_slices_Index_int_0 n] c_slices_Index_int_0 (s_slices_Index_int_0 n) :=
  ⟨by intro vs es x h; dsimp only [s_slices_Index_int_0] at h; split at h; (· injection h with h; subst h; exact ⟨rfl, rfl⟩); (· cases h), fun _ _ => rfl, fun m x k => by kernel_rfl⟩
theorem r_slices_Index_int_ok (n : Nat) : RwOk Go.Proofs.Try.prog tyK (r_slices_Index_int n) :=
  ent_ok (fa := a_slices_Index_int) (ls := [s_slices_Index_int_0 n]) (cs := [c_slices_Index_int_0]) (n := n) (es := []) mixedOk tbOk ents_nil Go.Proofs.Try.func168 (by kernel_rfl) (by kernel_rfl) (by kernel_rfl) (LSsOk.cons _ _ (l := s_slices_Index_int_0 n) (by kernel_rfl) (s_slices_Index_int_0_ok n) (LSsOk.nil _ _)) (fun x => by kernel_rfl)
/-! slices.Contains[[]int,int] -/
noncomputable def a_slices_Contains_int : FnA := ⟨Go.Proofs.Try.f136, ⟨[(1, [(2, .call [.ro, .ro] .int [] [])])], [], []⟩, 0⟩
def f_slices_Contains_int (n : Nat) (a0 : List Int) (a1 : Int) : Option (Bool × Unit) :=
  (f_slices_Index_int n a0 a1).bind fun r1 =>
  some ((decide (0 ≤ r1.1)), ())
def r_slices_Contains_int (n : Nat) : Rw := ⟨136, (.pair (.v (.ro .int)) (.pair (.v (.int)) .one)), (.pair .bool .one), fun x => f_slices_Contains_int n x.1.2 x.2.1⟩
theorem r_slices_Contains_int_ok (n : Nat) : RwOk Go.Proofs.Try.prog tyK (r_slices_Contains_int n) :=
  ent_ok (fa := a_slices_Contains_int) (ls := []) (cs := []) (n := n) (es := [(r_slices_Index_int n)]) mixedOk tbOk (ents_cons (r_slices_Index_int_ok n) ents_nil) Go.Proofs.Try.func136 (by kernel_rfl) (by kernel_rfl) (by kernel_rfl) (LSsOk.nil _ _) (fun x => by kernel_rfl)
/-! loop.example/g00185/impl.WaitAt$1 -/
noncomputable def a_impl_WaitAt_1 : FnA := ⟨Go.Proofs.Try.f190, ⟨[(0, [(0, .slot 0 .int)]), (1, [(3, .call [.ro, .ro] .bool [] [])])], [], []⟩, 1⟩
def f_impl_WaitAt_1 (n : Nat) (a0 : Lock) (a1_0 : Int) : Option (Bool × Unit) :=
  (f_slices_Contains_int n a0.Waits a1_0).bind fun r1 =>
  some (r1.1, ())
def r_impl_WaitAt_1 (n : Nat) : Rw := ⟨190, (.pair (.v (.agg (.pair .int (.pair (.ro .int) .one)))) (.pair (.v (.rp (.pair .int .one) 0)) .one)), (.pair .bool .one), fun x => f_impl_WaitAt_1 n (⟨x.1.1, x.1.2.1.2⟩ : Lock) x.2.1.1⟩
theorem r_impl_WaitAt_1_ok (n : Nat) : RwOk Go.Proofs.Try.prog tyK (r_impl_WaitAt_1 n) :=
  ent_ok (fa := a_impl_WaitAt_1) (ls := []) (cs := []) (n := n) (es := [(r_slices_Contains_int n)]) mixedOk tbOk (ents_cons (r_slices_Contains_int_ok n) ents_nil) Go.Proofs.Try.func190 (by kernel_rfl) (by kernel_rfl) (by kernel_rfl) (LSsOk.nil _ _) (fun x => by kernel_rfl)
/-! slices.IndexFunc[[]loop.example/g00185/impl.Lock,loop.example/g00185/impl.Lock] -/
noncomputable def a_slices_IndexFunc_Lock_WaitAt_1 : FnA := ⟨Go.Proofs.Try.f138, ⟨[(4, [(5, .call [.ro] .bool [] [])])], [], []⟩, 0⟩
def l_slices_IndexFunc_Lock_WaitAt_1_0 {α : Type} (n : Nat) : Nat → List Lock → Int → Int → Int → (Int → Option α) → (Option α) → Option α
  | 0, _, _, _, _, _, _ => none
  | m0 + 1, v1, v2, v3, v4, k0_0, k0_1 =>
    cond (decide (v4 < v3))
     (cond ((decide (0 ≤ v4)) && (decide (v4 < ((v1).length : Int))))
       ((f_impl_WaitAt_1 n (List.getD v1 (Int.toNat v4) (Kd.dflt .lock)) v2).bind fun r5 =>
        cond r5.1
         (k0_0 v4)
         (l_slices_IndexFunc_Lock_WaitAt_1_0 n m0 v1 v2 v3 (w64 (v4 + 1)) k0_0 k0_1))
       (none))
     (k0_1)
def f_slices_IndexFunc_Lock_WaitAt_1 (n : Nat) (a0 : List Lock) (a1_0_0 : Int) : Option (Int × Unit) :=
  l_slices_IndexFunc_Lock_WaitAt_1_0 n n a0 a1_0_0 ((a0).length : Int) 0
   (fun w6 =>
    some (w6, ()))
   (some ((-1), ()))
def r_slices_IndexFunc_Lock_WaitAt_1 (n : Nat) : Rw := ⟨138, (.pair (.v (.ro .lock)) (.pair (.v (.clo 190 (.pair (.rp (.pair .int .one) 0) .one))) .one)), (.pair .int .one), fun x => f_slices_IndexFunc_Lock_WaitAt_1 n x.1.2 x.2.1.1.1⟩
def s_slices_IndexFunc_Lock_WaitAt_1_0 (n : Nat) : LS where
  la := ⟨2, [0, 1, 7, 8], [], [], [4], []⟩
  nt := 19
  kt := [0, 1, 7, 8]
  hs := []
  X := Bool × List Lock × Int × Int × Int
  abs := fun vs es => match vs, es with | [.ro y0 .lock y1, .clo 190 [.rp [.int y2] 0], .int y3, .int y4], [] => some (y0, y1, y2, y3, y4) | _, _ => none
  tms := fun x => [.ro x.1 .lock x.2.1, .clo 190 [.rp [.int x.2.2.1] 0], .int x.2.2.2.1, .int x.2.2.2.2]
  ets := fun x => []
  run := fun m x k => l_slices_IndexFunc_Lock_WaitAt_1_0 n m x.2.1 x.2.2.1 x.2.2.2.1 x.2.2.2.2 (fun w0 => k .ret ⟨layT [4] [.int w0] 0 19, layH [] []⟩) (k (.exit 0) ⟨layT [] [] 0 19, layH [] []⟩)
noncomputable def c_slices_IndexFunc_Lock_WaitAt_1_0 : Code := (Go.Proofs.Try.f138.body.bind (subLoop 2)).getD .skip
theorem s_slices_IndexFunc_Lock_WaitAt_1_0_ok (n : Nat) : LSok Tb tyK (orc [(r_impl_WaitAt_1 n)]) n a_slices_IndexFunc_Lock_WaitAt_1.ann [s_slices_IndexFunc_Lock_WaitAt_1_0 n] c_slices_IndexFunc_Lock_WaitAt_1_0 (s_slices_IndexFunc_Lock_WaitAt_1_0 n) :=
  ⟨by intro vs es x h; dsimp only [s_slices_IndexFunc_Lock_WaitAt_1_0] at h; split at h; (· injection h with h; subst h; exact ⟨rfl, rfl⟩); (· cases h), fun _ _ => rfl, fun m x k => by kernel_rfl⟩
theorem r_slices_IndexFunc_Lock_WaitAt_1_ok (n : Nat) : RwOk Go.Proofs.Try.prog tyK (r_slices_IndexFunc_Lock_WaitAt_1 n) :=
  ent_ok (fa := a_slices_IndexFunc_Lock_WaitAt_1) (ls := [s_slices_IndexFunc_Lock_WaitAt_1_0 n]) (cs := [c_slices_IndexFunc_Lock_WaitAt_1_0]) (n := n) (es := [(r_impl_WaitAt_1 n)]) mixedOk tbOk (ents_cons (r_impl_WaitAt_1_ok n) ents_nil) Go.Proofs.Try.func138 (by kernel_rfl) (by kernel_rfl) (by kernel_rfl) (LSsOk.cons _ _ (l := s_slices_IndexFunc_Lock_WaitAt_1_0 n) (by kernel_rfl) (s_slices_IndexFunc_Lock_WaitAt_1_0_ok n) (LSsOk.nil _ _)) (fun x => by kernel_rfl)
/-! loop.example/g00185/impl.WaitAt -/
noncomputable def a_impl_WaitAt : FnA := ⟨Go.Proofs.Try.f169, ⟨[(0, [(0, .slot 0 .int)]), (1, [(2, .call [.ro, .ro] .int [] [])])], [], []⟩, 1⟩
def f_impl_WaitAt (n : Nat) (a0 : List Lock) (a1 : Int) : Option (Int × Unit) :=
  (f_slices_IndexFunc_Lock_WaitAt_1 n a0 a1).bind fun r1 =>
  some (r1.1, ())
def r_impl_WaitAt (n : Nat) : Rw := ⟨169, (.pair (.v (.ro .lock)) (.pair (.v (.int)) .one)), (.pair .int .one), fun x => f_impl_WaitAt n x.1.2 x.2.1⟩
theorem r_impl_WaitAt_ok (n : Nat) : RwOk Go.Proofs.Try.prog tyK (r_impl_WaitAt n) :=
  ent_ok (fa := a_impl_WaitAt) (ls := []) (cs := []) (n := n) (es := [(r_slices_IndexFunc_Lock_WaitAt_1 n)]) mixedOk tbOk (ents_cons (r_slices_IndexFunc_Lock_WaitAt_1_ok n) ents_nil) Go.Proofs.Try.func169 (by kernel_rfl) (by kernel_rfl) (by kernel_rfl) (LSsOk.nil _ _) (fun x => by kernel_rfl)
/-! loop.example/g00185/impl.chain -/
noncomputable def a_impl_chain : FnA := ⟨Go.Proofs.Try.f137, ⟨[(1, [(1, .slot 0 .int)]), (2, [(2, .call [.ro, .ro] .int [] [])]), (6, [(2, .call [.ro, .ro] .bool [] [])]), (8, [(2, .slot 2 .int), (3, .slot 3 .int)])], [], []⟩, 4⟩
def l_impl_chain_0 {α : Type} (n : Nat) : Nat → List Lock → Int → List Int → (List Int → Option α) → (List Int → Option α) → Option α
  | 0, _, _, _, _, _ => none
  | m0 + 1, v1, v2, v3, k0_0, k0_1 =>
    (f_impl_WaitAt n v1 v2).bind fun r4 =>
    cond (decide (r4.1 < 0))
     (k0_0 v3)
     (cond ((decide (0 ≤ r4.1)) && (decide (r4.1 < ((v1).length : Int))))
       ((f_slices_Contains_int n v3 ((List.getD v1 (Int.toNat r4.1) (Kd.dflt .lock)).Owner)).bind fun r5 =>
        cond r5.1
         (k0_1 v3)
         (let e6 := ([(List.getD v1 (Int.toNat r4.1) (Kd.dflt .lock)).Owner] : List Int)
          cond (decide ((v3).length + (e6).length ≤ lim))
           (l_impl_chain_0 n m0 v1 ((List.getD v1 (Int.toNat r4.1) (Kd.dflt .lock)).Owner) (v3 ++ e6) k0_0 k0_1)
           (none)))
       (none))
def f_impl_chain (n : Nat) (a0 : List Lock) (a1 : Int) : Option ((List Int × Bool × Unit) × Unit) :=
  l_impl_chain_0 n n a0 a1 ([a1] : List Int)
   (fun w7 =>
    some ((w7, true, ()), ()))
   (fun w8 =>
    some (([], false, ()), ()))
def r_impl_chain (n : Nat) : Rw := ⟨137, (.pair (.v (.ro .lock)) (.pair (.v (.int)) .one)), (.pair (.tup (.pair (.own .int) (.pair .bool .one))) .one), fun x => f_impl_chain n x.1.2 x.2.1⟩
def s_impl_chain_0 (n : Nat) : LS where
  la := ⟨2, [0, 1, 6], [(.t 6, 1, .int)], [2, 3], [4, 5], [1, 2, 3]⟩
  nt := 28
  kt := [0, 1, 6]
  hs := [.dead, .k, .fresh, .fresh]
  X := Bool × List Lock × Int × List Int
  abs := fun vs es => match vs, es with | [.ro y0 .lock y1, .int y2, .bor 1], [.root .int y3 .ok] => some (y0, y1, y2, y3) | _, _ => none
  tms := fun x => [.ro x.1 .lock x.2.1, .int x.2.2.1, .bor 1]
  ets := fun x => [.root .int x.2.2.2 .ok]
  run := fun m x k => l_impl_chain_0 n m x.2.1 x.2.2.1 x.2.2.2 (fun w0 => k .ret ⟨layT [4, 5] [.bor 1, .bool true] 0 28, layH [.dead, .k, .fresh, .fresh] [.root .int w0 .ok]⟩) (fun w0 => k .ret ⟨layT [4, 5] [.nil, .bool false] 0 28, layH [.dead, .k, .fresh, .fresh] [.root .int w0 .ok]⟩)
noncomputable def c_impl_chain_0 : Code := (Go.Proofs.Try.f137.body.bind (subLoop 2)).getD .skip
theorem s_impl_chain_0_ok (n : Nat) : LSok Tb tyK (orc [(r_impl_WaitAt n), (r_slices_Contains_int n)]) n a_impl_chain.ann [s_impl_chain_0 n] c_impl_chain_0 (s_impl_chain_0 n) :=
  ⟨by intro vs es x h; dsimp only [s_impl_chain_0] at h; split at h; (· injection h with h; subst h; exact ⟨rfl, rfl⟩); (· cases h), fun _ _ => rfl, fun m x k => by kernel_rfl⟩
theorem r_impl_chain_ok (n : Nat) : RwOk Go.Proofs.Try.prog tyK (r_impl_chain n) :=
  ent_ok (fa := a_impl_chain) (ls := [s_impl_chain_0 n]) (cs := [c_impl_chain_0]) (n := n) (es := [(r_impl_WaitAt n), (r_slices_Contains_int n)]) mixedOk tbOk (ents_cons (r_impl_WaitAt_ok n) (ents_cons (r_slices_Contains_int_ok n) ents_nil)) Go.Proofs.Try.func137 (by kernel_rfl) (by kernel_rfl) (by kernel_rfl) (LSsOk.cons _ _ (l := s_impl_chain_0 n) (by kernel_rfl) (s_impl_chain_0_ok n) (LSsOk.nil _ _)) (fun x => by kernel_rfl)
end Go.Proofs.Ytjgkeaiibdodfaa.VR
