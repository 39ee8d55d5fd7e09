/- Functions, printed by program (wip/gen/emit.py). -/
import Derived.Test.YtoedeimpfbebpaaG07
set_option linter.unusedVariables false
set_option maxRecDepth 100000
namespace Go.Proofs.Ytoedeimpfbebpaa.VR
open Go
/-! loop.example/g00185/impl.TaskOk -/
noncomputable def a_impl_TaskOk : FnA := ⟨Go.Proofs.Try.f129, ⟨[(0, [(0, .slot 0 .int)]), (1, [(2, .call [.ro] .bool [] []), (7, .call [.ro, .ro, .ro] .bool [] [])]), (3, [(11, .slot 1 .int)]), (8, [(5, .call [.ro] .bool [] []), (11, .call [.ro, .ro, .ro] .bool [] []), (16, .call [.ro] .bool [] [])]), (11, [(2, .call [.ro, .ro, .ro] .bool [] []), (6, .call [.ro, .ro, .ro] .bool [] []), (16, .call [.ro, .ro, .ro] .bool [] []), (21, .call [.ro] .bool [] [])]), (14, [(2, .call [.ro] .bool [] []), (6, .call [.ro, .ro, .ro] .bool [] [])])], [(7, [([0], []), ([0], []), ([0], []), ([0], []), ([0], []), ([0], []), ([0], []), ([0], []), ([1], []), ([1], [1]), ([1], []), ([1], [1]), ([1], []), ([1], [1]), ([1], []), ([1], [1])]), (10, [([0], []), ([0], []), ([0], []), ([0], []), ([0], []), ([0], []), ([0], []), ([0], []), ([1], []), ([1], [1]), ([1], []), ([1], [1]), ([1], []), ([1], [1]), ([1], []), ([1], [1])]), (13, [([0], []), ([0], []), ([0], []), ([0], []), ([1], []), ([1], [1]), ([1], []), ([1], [1])])], []⟩, 2⟩
def f_impl_TaskOk (a0 : Task) : Option (Bool × Unit) :=
  (f_impl_isNo a0.No).bind fun r1 =>
  cond (!r1.1)
   (some (false, ()))
   ((f_impl_in a0.Cpu 0 3).bind fun r2 =>
    cond (!r2.1)
     (some (false, ()))
     (cond (!(decide (a0.State = 1)))
       (cond (!(decide (a0.State = 2)))
         (some (false, ()))
         (cond (decide (a0.Class = 1))
           ((f_impl_ShareOk (⟨a0.Q, a0.P⟩ : Share)).bind fun r3 =>
            cond r3.1
             ((f_impl_in a0.Left 0 a0.Q).bind fun r4 =>
              cond r4.1
               ((f_impl_isUntil a0.Due).bind fun r5 =>
                cond r5.1
                 (let e6 := ((decide (a0.No = a0.No)) && ((decide (a0.Class = a0.Class)) && ((decide (a0.Cpu = a0.Cpu)) && ((decide (a0.State = a0.State)) && ((a0.Idle == a0.Idle) && ((decide (a0.Q = a0.Q)) && ((decide (a0.P = a0.P)) && ((decide (a0.Left = a0.Left)) && ((decide (a0.Due = a0.Due)) && ((decide (a0.Prio = 0)) && ((decide (a0.Round = 0)) && ((decide (a0.Seq = 0)) && ((decide (a0.Nice = 0)) && ((decide (a0.V = 0)) && true))))))))))))))
                  some (e6, ()))
                 (some (false, ())))
               (some (false, ())))
             (some (false, ())))
           (cond (decide (a0.Class = 2))
             ((f_impl_in a0.Prio 1 20).bind fun r7 =>
              cond r7.1
               ((f_impl_in a0.Round 0 10).bind fun r8 =>
                cond r8.1
                 ((f_impl_in a0.Left (if a0.Round < 1 then a0.Round else 1) a0.Round).bind fun r9 =>
                  cond r9.1
                   ((f_impl_isSeq a0.Seq).bind fun r10 =>
                    cond r10.1
                     (let e11 := ((decide (a0.No = a0.No)) && ((decide (a0.Class = a0.Class)) && ((decide (a0.Cpu = a0.Cpu)) && ((decide (a0.State = a0.State)) && ((a0.Idle == a0.Idle) && ((decide (a0.Q = 0)) && ((decide (a0.P = 0)) && ((decide (a0.Left = a0.Left)) && ((decide (a0.Due = 0)) && ((decide (a0.Prio = a0.Prio)) && ((decide (a0.Round = a0.Round)) && ((decide (a0.Seq = a0.Seq)) && ((decide (a0.Nice = 0)) && ((decide (a0.V = 0)) && true))))))))))))))
                      some (e11, ()))
                     (some (false, ())))
                   (some (false, ())))
                 (some (false, ())))
               (some (false, ())))
             (cond (decide (a0.Class = 3))
               ((f_impl_NiceOk a0.Nice).bind fun r12 =>
                cond r12.1
                 ((f_impl_in a0.V 0 100000000).bind fun r13 =>
                  cond r13.1
                   (let e14 := ((decide (a0.No = a0.No)) && ((decide (a0.Class = a0.Class)) && ((decide (a0.Cpu = a0.Cpu)) && ((decide (a0.State = a0.State)) && ((a0.Idle == a0.Idle) && ((decide (a0.Q = 0)) && ((decide (a0.P = 0)) && ((decide (a0.Left = 0)) && ((decide (a0.Due = 0)) && ((decide (a0.Prio = 0)) && ((decide (a0.Round = 0)) && ((decide (a0.Seq = 0)) && ((decide (a0.Nice = a0.Nice)) && ((decide (a0.V = a0.V)) && true))))))))))))))
                    some (e14, ()))
                   (some (false, ())))
                 (some (false, ())))
               (some (false, ()))))))
       (cond (decide (a0.Class = 1))
         ((f_impl_ShareOk (⟨a0.Q, a0.P⟩ : Share)).bind fun r15 =>
          cond r15.1
           ((f_impl_in a0.Left 0 a0.Q).bind fun r16 =>
            cond r16.1
             ((f_impl_isUntil a0.Due).bind fun r17 =>
              cond r17.1
               (let e18 := ((decide (a0.No = a0.No)) && ((decide (a0.Class = a0.Class)) && ((decide (a0.Cpu = a0.Cpu)) && ((decide (a0.State = a0.State)) && ((a0.Idle == a0.Idle) && ((decide (a0.Q = a0.Q)) && ((decide (a0.P = a0.P)) && ((decide (a0.Left = a0.Left)) && ((decide (a0.Due = a0.Due)) && ((decide (a0.Prio = 0)) && ((decide (a0.Round = 0)) && ((decide (a0.Seq = 0)) && ((decide (a0.Nice = 0)) && ((decide (a0.V = 0)) && true))))))))))))))
                some (e18, ()))
               (some (false, ())))
             (some (false, ())))
           (some (false, ())))
         (cond (decide (a0.Class = 2))
           ((f_impl_in a0.Prio 1 20).bind fun r19 =>
            cond r19.1
             ((f_impl_in a0.Round 0 10).bind fun r20 =>
              cond r20.1
               ((f_impl_in a0.Left (if a0.Round < 1 then a0.Round else 1) a0.Round).bind fun r21 =>
                cond r21.1
                 ((f_impl_isSeq a0.Seq).bind fun r22 =>
                  cond r22.1
                   (let e23 := ((decide (a0.No = a0.No)) && ((decide (a0.Class = a0.Class)) && ((decide (a0.Cpu = a0.Cpu)) && ((decide (a0.State = a0.State)) && ((a0.Idle == a0.Idle) && ((decide (a0.Q = 0)) && ((decide (a0.P = 0)) && ((decide (a0.Left = a0.Left)) && ((decide (a0.Due = 0)) && ((decide (a0.Prio = a0.Prio)) && ((decide (a0.Round = a0.Round)) && ((decide (a0.Seq = a0.Seq)) && ((decide (a0.Nice = 0)) && ((decide (a0.V = 0)) && true))))))))))))))
                    some (e23, ()))
                   (some (false, ())))
                 (some (false, ())))
               (some (false, ())))
             (some (false, ())))
           (cond (decide (a0.Class = 3))
             ((f_impl_NiceOk a0.Nice).bind fun r24 =>
              cond r24.1
               ((f_impl_in a0.V 0 100000000).bind fun r25 =>
                cond r25.1
                 (let e26 := ((decide (a0.No = a0.No)) && ((decide (a0.Class = a0.Class)) && ((decide (a0.Cpu = a0.Cpu)) && ((decide (a0.State = a0.State)) && ((a0.Idle == a0.Idle) && ((decide (a0.Q = 0)) && ((decide (a0.P = 0)) && ((decide (a0.Left = 0)) && ((decide (a0.Due = 0)) && ((decide (a0.Prio = 0)) && ((decide (a0.Round = 0)) && ((decide (a0.Seq = 0)) && ((decide (a0.Nice = a0.Nice)) && ((decide (a0.V = a0.V)) && true))))))))))))))
                  some (e26, ()))
                 (some (false, ())))
               (some (false, ())))
             (some (false, ())))))))
def r_impl_TaskOk : Rw := ⟨129, (.pair (.v (.agg (.pair .int (.pair .int (.pair .int (.pair .int (.pair .bool (.pair .int (.pair .int (.pair .int (.pair .int (.pair .int (.pair .int (.pair .int (.pair .int (.pair .int .one)))))))))))))))) .one), (.pair .bool .one), fun x => f_impl_TaskOk (⟨x.1.1, x.1.2.1, x.1.2.2.1, x.1.2.2.2.1, x.1.2.2.2.2.1, x.1.2.2.2.2.2.1, x.1.2.2.2.2.2.2.1, x.1.2.2.2.2.2.2.2.1, x.1.2.2.2.2.2.2.2.2.1, x.1.2.2.2.2.2.2.2.2.2.1, x.1.2.2.2.2.2.2.2.2.2.2.1, x.1.2.2.2.2.2.2.2.2.2.2.2.1, x.1.2.2.2.2.2.2.2.2.2.2.2.2.1, x.1.2.2.2.2.2.2.2.2.2.2.2.2.2.1⟩ : Task)⟩
theorem r_impl_TaskOk_ok : RwOk Go.Proofs.Try.prog tyK (r_impl_TaskOk) :=
  ent_ok (fa := a_impl_TaskOk) (ls := []) (cs := []) (n := 0) (es := [r_impl_isNo, r_impl_in, r_impl_ShareOk, r_impl_isUntil, r_impl_isSeq, r_impl_NiceOk]) mixedOk tbOk (ents_cons (r_impl_isNo_ok) (ents_cons (r_impl_in_ok) (ents_cons (r_impl_ShareOk_ok) (ents_cons (r_impl_isUntil_ok) (ents_cons (r_impl_isSeq_ok) (ents_cons (r_impl_NiceOk_ok) ents_nil)))))) Go.Proofs.Try.func129 (by kernel_rfl) (by kernel_rfl) (by kernel_rfl) (LSsOk.nil _ _) (fun x => by kernel_rfl)
/-! loop.example/g00185/impl.TasksOk -/
noncomputable def a_impl_TasksOk : FnA := ⟨Go.Proofs.Try.f101, ⟨[(3, [(3, .slot 0 .int)]), (4, [(1, .call [.ro] .bool [] [])])], [(4, [([0], []), ([], []), ([], []), ([], []), ([], []), ([], []), ([], []), ([], []), ([], []), ([], []), ([], []), ([], []), ([], []), ([0], []), ([0], []), ([], []), ([], []), ([], [])])], []⟩, 1⟩
def l_impl_TasksOk_0 {α : Type} (n : Nat) : Nat → List Task → List Task → Int → Int → (Option α) → (Option α) → Option α
  | 0, _, _, _, _, _, _ => none
  | m0 + 1, v1, v2, v3, v4, k0_0, k0_1 =>
    cond (decide (v4 < v3))
     (cond ((decide (0 ≤ v4)) && (decide (v4 < ((v2).length : Int))))
       ((f_impl_TaskOk (List.getD v2 (Int.toNat v4) (Kd.dflt .task))).bind fun r5 =>
        cond (!r5.1)
         (k0_0)
         (cond (decide (0 < v4))
           (cond ((decide (0 ≤ (w64 (v4 - 1)))) && (decide ((w64 (v4 - 1)) < ((v1).length : Int))))
             (let e6 := (decide ((List.getD v2 (Int.toNat v4) (Kd.dflt .task)).No ≤ (List.getD v1 (Int.toNat (w64 (v4 - 1))) (Kd.dflt .task)).No))
              cond e6
               (k0_0)
               (l_impl_TasksOk_0 n m0 v1 v2 v3 (w64 (v4 + 1)) k0_0 k0_1))
             (none))
           (l_impl_TasksOk_0 n m0 v1 v2 v3 (w64 (v4 + 1)) k0_0 k0_1)))
       (none))
     (k0_1)
def f_impl_TasksOk (n : Nat) (a0 : List Task) : Option (Bool × Unit) :=
  l_impl_TasksOk_0 n n a0 a0 ((a0).length : Int) 0
   (some (false, ()))
   (some ((decide (((a0).length : Int) ≤ 12)), ()))
def r_impl_TasksOk (n : Nat) : Rw := ⟨101, (.pair (.v (.ro .task)) .one), (.pair .bool .one), fun x => f_impl_TasksOk n x.1.2⟩
def s_impl_TasksOk_0 (n : Nat) : LS where
  la := ⟨2, [0, 5, 6, 7], [], [0], [0, 2], []⟩
  nt := 34
  kt := [0, 5, 6, 7]
  hs := [.fresh]
  X := Bool × List Task × Bool × List Task × Int × Int
  abs := fun vs es => match vs, es with | [.ro y0 .task y1, .ro y2 .task y3, .int y4, .int y5], [] => some (y0, y1, y2, y3, y4, y5) | _, _ => none
  tms := fun x => [.ro x.1 .task x.2.1, .ro x.2.2.1 .task x.2.2.2.1, .int x.2.2.2.2.1, .int x.2.2.2.2.2]
  ets := fun x => []
  run := fun m x k => l_impl_TasksOk_0 n m x.2.1 x.2.2.2.1 x.2.2.2.2.1 x.2.2.2.2.2 (k .ret ⟨layT [0, 2] [.ro x.1 .task x.2.1, .bool false] 0 34, layH [.dead] []⟩) (k (.exit 0) ⟨layT [0] [.ro x.1 .task x.2.1] 0 34, layH [.dead] []⟩)
noncomputable def c_impl_TasksOk_0 : Code := (Go.Proofs.Try.f101.body.bind (subLoop 2)).getD .skip
theorem s_impl_TasksOk_0_ok (n : Nat) : LSok Tb tyK (orc [r_impl_TaskOk]) n a_impl_TasksOk.ann [s_impl_TasksOk_0 n] c_impl_TasksOk_0 (s_impl_TasksOk_0 n) :=
  ⟨by intro vs es x h; dsimp only [s_impl_TasksOk_0] at h; split at h; (· injection h with h; subst h; exact ⟨rfl, rfl⟩); (· cases h), fun _ _ => rfl, fun m x k => by kernel_rfl⟩
theorem r_impl_TasksOk_ok (n : Nat) : RwOk Go.Proofs.Try.prog tyK (r_impl_TasksOk n) :=
  ent_ok (fa := a_impl_TasksOk) (ls := [s_impl_TasksOk_0 n]) (cs := [c_impl_TasksOk_0]) (n := n) (es := [r_impl_TaskOk]) mixedOk tbOk (ents_cons (r_impl_TaskOk_ok) ents_nil) Go.Proofs.Try.func101 (by kernel_rfl) (by kernel_rfl) (by kernel_rfl) (LSsOk.cons _ _ (l := s_impl_TasksOk_0 n) (by kernel_rfl) (s_impl_TasksOk_0_ok n) (LSsOk.nil _ _)) (fun x => by kernel_rfl)
/-! slices.Index[[]int,int] -/
noncomputable def a_slices_Index_int : FnA := ⟨Go.Proofs.Try.f154, ⟨[], [], []⟩, 0⟩
def l_slices_Index_int_0 {α : Type} (n : Nat) : Nat → List Int → Int → Int → Int → (Int → Option α) → (Option α) → Option α
  | 0, _, _, _, _, _, _ => none
  | m0 + 1, v1, v2, v3, v4, k0_0, k0_1 =>
    cond (decide (v4 < v3))
     (cond ((decide (0 ≤ v4)) && (decide (v4 < ((v1).length : Int))))
       (cond (decide (v2 = (List.getD v1 (Int.toNat v4) (Kd.dflt .int))))
         (k0_0 v4)
         (l_slices_Index_int_0 n m0 v1 v2 v3 (w64 (v4 + 1)) k0_0 k0_1))
       (none))
     (k0_1)
def f_slices_Index_int (n : Nat) (a0 : List Int) (a1 : Int) : Option (Int × Unit) :=
  l_slices_Index_int_0 n n a0 a1 ((a0).length : Int) 0
   (fun w5 =>
    some (w5, ()))
   (some ((-1), ()))
def r_slices_Index_int (n : Nat) : Rw := ⟨154, (.pair (.v (.ro .int)) (.pair (.v (.int)) .one)), (.pair .int .one), fun x => f_slices_Index_int n x.1.2 x.2.1⟩
def s_slices_Index_int_0 (n : Nat) : LS where
  la := ⟨2, [0, 1, 7, 8], [], [], [4], []⟩
  nt := 19
  kt := [0, 1, 7, 8]
  hs := []
  X := Bool × List Int × Int × Int × Int
  abs := fun vs es => match vs, es with | [.ro y0 .int y1, .int y2, .int y3, .int y4], [] => some (y0, y1, y2, y3, y4) | _, _ => none
  tms := fun x => [.ro x.1 .int x.2.1, .int x.2.2.1, .int x.2.2.2.1, .int x.2.2.2.2]
  ets := fun x => []
  run := fun m x k => l_slices_Index_int_0 n m x.2.1 x.2.2.1 x.2.2.2.1 x.2.2.2.2 (fun w0 => k .ret ⟨layT [4] [.int w0] 0 19, layH [] []⟩) (k (.exit 0) ⟨layT [] [] 0 19, layH [] []⟩)
noncomputable def c_slices_Index_int_0 : Code := (Go.Proofs.Try.f154.body.bind (subLoop 2)).getD .skip
theorem s_slices_Index_int_0_ok (n : Nat) : LSok Tb tyK (orc []) n a_slices_Index_int.ann [s_slices_Index_int_0 n] c_slices_Index_int_0 (s_slices_Index_int_0 n) :=
  ⟨by intro vs es x h; dsimp only [s_slices_Index_int_0] at h; split at h; (· injection h with h; subst h; exact ⟨rfl, rfl⟩); (· cases h), fun _ _ => rfl, fun m x k => by kernel_rfl⟩
theorem r_slices_Index_int_ok (n : Nat) : RwOk Go.Proofs.Try.prog tyK (r_slices_Index_int n) :=
  ent_ok (fa := a_slices_Index_int) (ls := [s_slices_Index_int_0 n]) (cs := [c_slices_Index_int_0]) (n := n) (es := []) mixedOk tbOk ents_nil Go.Proofs.Try.func154 (by kernel_rfl) (by kernel_rfl) (by kernel_rfl) (LSsOk.cons _ _ (l := s_slices_Index_int_0 n) (by kernel_rfl) (s_slices_Index_int_0_ok n) (LSsOk.nil _ _)) (fun x => by kernel_rfl)
/-! slices.Contains[[]int,int] -/
noncomputable def a_slices_Contains_int : FnA := ⟨Go.Proofs.Try.f131, ⟨[(1, [(2, .call [.ro, .ro] .int [] [])])], [], []⟩, 0⟩
def f_slices_Contains_int (n : Nat) (a0 : List Int) (a1 : Int) : Option (Bool × Unit) :=
  (f_slices_Index_int n a0 a1).bind fun r1 =>
  some ((decide (0 ≤ r1.1)), ())
def r_slices_Contains_int (n : Nat) : Rw := ⟨131, (.pair (.v (.ro .int)) (.pair (.v (.int)) .one)), (.pair .bool .one), fun x => f_slices_Contains_int n x.1.2 x.2.1⟩
theorem r_slices_Contains_int_ok (n : Nat) : RwOk Go.Proofs.Try.prog tyK (r_slices_Contains_int n) :=
  ent_ok (fa := a_slices_Contains_int) (ls := []) (cs := []) (n := n) (es := [(r_slices_Index_int n)]) mixedOk tbOk (ents_cons (r_slices_Index_int_ok n) ents_nil) Go.Proofs.Try.func131 (by kernel_rfl) (by kernel_rfl) (by kernel_rfl) (LSsOk.nil _ _) (fun x => by kernel_rfl)
/-! loop.example/g00185/impl.WaitAt$1 -/
noncomputable def a_impl_WaitAt_1 : FnA := ⟨Go.Proofs.Try.f166, ⟨[(0, [(0, .slot 0 .int)]), (1, [(3, .call [.ro, .ro] .bool [] [])])], [], []⟩, 1⟩
def f_impl_WaitAt_1 (n : Nat) (a0 : Lock) (a1_0 : Int) : Option (Bool × Unit) :=
  (f_slices_Contains_int n a0.Waits a1_0).bind fun r1 =>
  some (r1.1, ())
def r_impl_WaitAt_1 (n : Nat) : Rw := ⟨166, (.pair (.v (.agg (.pair .int (.pair (.ro .int) .one)))) (.pair (.v (.rp (.pair .int .one) 0)) .one)), (.pair .bool .one), fun x => f_impl_WaitAt_1 n (⟨x.1.1, x.1.2.1.2⟩ : Lock) x.2.1.1⟩
theorem r_impl_WaitAt_1_ok (n : Nat) : RwOk Go.Proofs.Try.prog tyK (r_impl_WaitAt_1 n) :=
  ent_ok (fa := a_impl_WaitAt_1) (ls := []) (cs := []) (n := n) (es := [(r_slices_Contains_int n)]) mixedOk tbOk (ents_cons (r_slices_Contains_int_ok n) ents_nil) Go.Proofs.Try.func166 (by kernel_rfl) (by kernel_rfl) (by kernel_rfl) (LSsOk.nil _ _) (fun x => by kernel_rfl)
/-! slices.IndexFunc[[]loop.example/g00185/impl.Lock,loop.example/g00185/impl.Lock] -/
noncomputable def a_slices_IndexFunc_Lock_WaitAt_1 : FnA := ⟨Go.Proofs.Try.f133, ⟨[(4, [(5, .call [.ro] .bool [] [])])], [], []⟩, 0⟩
def l_slices_IndexFunc_Lock_WaitAt_1_0 {α : Type} (n : Nat) : Nat → List Lock → Int → Int → Int → (Int → Option α) → (Option α) → Option α
  | 0, _, _, _, _, _, _ => none
  | m0 + 1, v1, v2, v3, v4, k0_0, k0_1 =>
    cond (decide (v4 < v3))
     (cond ((decide (0 ≤ v4)) && (decide (v4 < ((v1).length : Int))))
       ((f_impl_WaitAt_1 n (List.getD v1 (Int.toNat v4) (Kd.dflt .lock)) v2).bind fun r5 =>
        cond r5.1
         (k0_0 v4)
         (l_slices_IndexFunc_Lock_WaitAt_1_0 n m0 v1 v2 v3 (w64 (v4 + 1)) k0_0 k0_1))
       (none))
     (k0_1)
def f_slices_IndexFunc_Lock_WaitAt_1 (n : Nat) (a0 : List Lock) (a1_0_0 : Int) : Option (Int × Unit) :=
  l_slices_IndexFunc_Lock_WaitAt_1_0 n n a0 a1_0_0 ((a0).length : Int) 0
   (fun w6 =>
    some (w6, ()))
   (some ((-1), ()))
def r_slices_IndexFunc_Lock_WaitAt_1 (n : Nat) : Rw := ⟨133, (.pair (.v (.ro .lock)) (.pair (.v (.clo 166 (.pair (.rp (.pair .int .one) 0) .one))) .one)), (.pair .int .one), fun x => f_slices_IndexFunc_Lock_WaitAt_1 n x.1.2 x.2.1.1.1⟩
def s_slices_IndexFunc_Lock_WaitAt_1_0 (n : Nat) : LS where
  la := ⟨2, [0, 1, 7, 8], [], [], [4], []⟩
  nt := 19
  kt := [0, 1, 7, 8]
  hs := []
  X := Bool × List Lock × Int × Int × Int
  abs := fun vs es => match vs, es with | [.ro y0 .lock y1, .clo 166 [.rp [.int y2] 0], .int y3, .int y4], [] => some (y0, y1, y2, y3, y4) | _, _ => none
  tms := fun x => [.ro x.1 .lock x.2.1, .clo 166 [.rp [.int x.2.2.1] 0], .int x.2.2.2.1, .int x.2.2.2.2]
  ets := fun x => []
  run := fun m x k => l_slices_IndexFunc_Lock_WaitAt_1_0 n m x.2.1 x.2.2.1 x.2.2.2.1 x.2.2.2.2 (fun w0 => k .ret ⟨layT [4] [.int w0] 0 19, layH [] []⟩) (k (.exit 0) ⟨layT [] [] 0 19, layH [] []⟩)
noncomputable def c_slices_IndexFunc_Lock_WaitAt_1_0 : Code := (Go.Proofs.Try.f133.body.bind (subLoop 2)).getD .skip
theorem s_slices_IndexFunc_Lock_WaitAt_1_0_ok (n : Nat) : LSok Tb tyK (orc [(r_impl_WaitAt_1 n)]) n a_slices_IndexFunc_Lock_WaitAt_1.ann [s_slices_IndexFunc_Lock_WaitAt_1_0 n] c_slices_IndexFunc_Lock_WaitAt_1_0 (s_slices_IndexFunc_Lock_WaitAt_1_0 n) :=
  ⟨by intro vs es x h; dsimp only [s_slices_IndexFunc_Lock_WaitAt_1_0] at h; split at h; (· injection h with h; subst h; exact ⟨rfl, rfl⟩); (· cases h), fun _ _ => rfl, fun m x k => by kernel_rfl⟩
theorem r_slices_IndexFunc_Lock_WaitAt_1_ok (n : Nat) : RwOk Go.Proofs.Try.prog tyK (r_slices_IndexFunc_Lock_WaitAt_1 n) :=
  ent_ok (fa := a_slices_IndexFunc_Lock_WaitAt_1) (ls := [s_slices_IndexFunc_Lock_WaitAt_1_0 n]) (cs := [c_slices_IndexFunc_Lock_WaitAt_1_0]) (n := n) (es := [(r_impl_WaitAt_1 n)]) mixedOk tbOk (ents_cons (r_impl_WaitAt_1_ok n) ents_nil) Go.Proofs.Try.func133 (by kernel_rfl) (by kernel_rfl) (by kernel_rfl) (LSsOk.cons _ _ (l := s_slices_IndexFunc_Lock_WaitAt_1_0 n) (by kernel_rfl) (s_slices_IndexFunc_Lock_WaitAt_1_0_ok n) (LSsOk.nil _ _)) (fun x => by kernel_rfl)
/-! loop.example/g00185/impl.WaitAt -/
noncomputable def a_impl_WaitAt : FnA := ⟨Go.Proofs.Try.f155, ⟨[(0, [(0, .slot 0 .int)]), (1, [(2, .call [.ro, .ro] .int [] [])])], [], []⟩, 1⟩
def f_impl_WaitAt (n : Nat) (a0 : List Lock) (a1 : Int) : Option (Int × Unit) :=
  (f_slices_IndexFunc_Lock_WaitAt_1 n a0 a1).bind fun r1 =>
  some (r1.1, ())
def r_impl_WaitAt (n : Nat) : Rw := ⟨155, (.pair (.v (.ro .lock)) (.pair (.v (.int)) .one)), (.pair .int .one), fun x => f_impl_WaitAt n x.1.2 x.2.1⟩
theorem r_impl_WaitAt_ok (n : Nat) : RwOk Go.Proofs.Try.prog tyK (r_impl_WaitAt n) :=
  ent_ok (fa := a_impl_WaitAt) (ls := []) (cs := []) (n := n) (es := [(r_slices_IndexFunc_Lock_WaitAt_1 n)]) mixedOk tbOk (ents_cons (r_slices_IndexFunc_Lock_WaitAt_1_ok n) ents_nil) Go.Proofs.Try.func155 (by kernel_rfl) (by kernel_rfl) (by kernel_rfl) (LSsOk.nil _ _) (fun x => by kernel_rfl)
/-! loop.example/g00185/impl.chain -/
noncomputable def a_impl_chain : FnA := ⟨Go.Proofs.Try.f132, ⟨[(1, [(1, .slot 0 .int)]), (2, [(2, .call [.ro, .ro] .int [] [])]), (6, [(2, .call [.ro, .ro] .bool [] [])]), (8, [(2, .slot 2 .int), (3, .slot 3 .int)])], [], []⟩, 4⟩
def l_impl_chain_0 {α : Type} (n : Nat) : Nat → List Lock → Int → List Int → (List Int → Option α) → (List Int → Option α) → Option α
  | 0, _, _, _, _, _ => none
  | m0 + 1, v1, v2, v3, k0_0, k0_1 =>
    (f_impl_WaitAt n v1 v2).bind fun r4 =>
    cond (decide (r4.1 < 0))
     (k0_0 v3)
     (cond ((decide (0 ≤ r4.1)) && (decide (r4.1 < ((v1).length : Int))))
       ((f_slices_Contains_int n v3 ((List.getD v1 (Int.toNat r4.1) (Kd.dflt .lock)).Owner)).bind fun r5 =>
        cond r5.1
         (k0_1 v3)
         (let e6 := ([(List.getD v1 (Int.toNat r4.1) (Kd.dflt .lock)).Owner] : List Int)
          cond (decide ((v3).length + (e6).length ≤ lim))
           (l_impl_chain_0 n m0 v1 ((List.getD v1 (Int.toNat r4.1) (Kd.dflt .lock)).Owner) (v3 ++ e6) k0_0 k0_1)
           (none)))
       (none))
def f_impl_chain (n : Nat) (a0 : List Lock) (a1 : Int) : Option ((List Int × Bool × Unit) × Unit) :=
  l_impl_chain_0 n n a0 a1 ([a1] : List Int)
   (fun w7 =>
    some ((w7, true, ()), ()))
   (fun w8 =>
    some (([], false, ()), ()))
def r_impl_chain (n : Nat) : Rw := ⟨132, (.pair (.v (.ro .lock)) (.pair (.v (.int)) .one)), (.pair (.tup (.pair (.own .int) (.pair .bool .one))) .one), fun x => f_impl_chain n x.1.2 x.2.1⟩
def s_impl_chain_0 (n : Nat) : LS where
  la := ⟨2, [0, 1, 6], [(.t 6, 1, .int)], [2, 3], [4, 5], [1, 2, 3]⟩
  nt := 28
  kt := [0, 1, 6]
  hs := [.dead, .k, .fresh, .fresh]
  X := Bool × List Lock × Int × List Int
  abs := fun vs es => match vs, es with | [.ro y0 .lock y1, .int y2, .bor 1], [.root .int y3 .ok] => some (y0, y1, y2, y3) | _, _ => none
  tms := fun x => [.ro x.1 .lock x.2.1, .int x.2.2.1, .bor 1]
  ets := fun x => [.root .int x.2.2.2 .ok]
  run := fun m x k => l_impl_chain_0 n m x.2.1 x.2.2.1 x.2.2.2 (fun w0 => k .ret ⟨layT [4, 5] [.bor 1, .bool true] 0 28, layH [.dead, .k, .fresh, .fresh] [.root .int w0 .ok]⟩) (fun w0 => k .ret ⟨layT [4, 5] [.nil, .bool false] 0 28, layH [.dead, .k, .fresh, .fresh] [.root .int w0 .ok]⟩)
noncomputable def c_impl_chain_0 : Code := (Go.Proofs.Try.f132.body.bind (subLoop 2)).getD .skip
theorem s_impl_chain_0_ok (n : Nat) : LSok Tb tyK (orc [(r_impl_WaitAt n), (r_slices_Contains_int n)]) n a_impl_chain.ann [s_impl_chain_0 n] c_impl_chain_0 (s_impl_chain_0 n) :=
  ⟨by intro vs es x h; dsimp only [s_impl_chain_0] at h; split at h; (· injection h with h; subst h; exact ⟨rfl, rfl⟩); (· cases h), fun _ _ => rfl, fun m x k => by kernel_rfl⟩
theorem r_impl_chain_ok (n : Nat) : RwOk Go.Proofs.Try.prog tyK (r_impl_chain n) :=
  ent_ok (fa := a_impl_chain) (ls := [s_impl_chain_0 n]) (cs := [c_impl_chain_0]) (n := n) (es := [(r_impl_WaitAt n), (r_slices_Contains_int n)]) mixedOk tbOk (ents_cons (r_impl_WaitAt_ok n) (ents_cons (r_slices_Contains_int_ok n) ents_nil)) Go.Proofs.Try.func132 (by kernel_rfl) (by kernel_rfl) (by kernel_rfl) (LSsOk.cons _ _ (l := s_impl_chain_0 n) (by kernel_rfl) (s_impl_chain_0_ok n) (LSsOk.nil _ _)) (fun x => by kernel_rfl)
/-! loop.example/g00185/impl.LocksOk -/
noncomputable def a_impl_LocksOk : FnA := ⟨Go.Proofs.Try.f104, ⟨[(1, [(0, .slot 0 .int)]), (4, [(2, .slot 2 .int)]), (5, [(2, .call [.ro, .ro, .ro] .bool [] [])]), (10, [(1, .call [.ro] .bool [] []), (6, .call [.ro, .ro] .bool [] [])]), (12, [(2, .slot 4 .int), (3, .slot 5 .int)]), (18, [(2, .call [.ro, .ro] (.tup (.pair (.own .int) (.pair .bool .one))) [] [none])])], [], []⟩, 6⟩
def l_impl_LocksOk_1 {α : Type} (n : Nat) : Nat → List Lock → List Int → List Lock → Int → Int → List Int → Int → Int → (List Int → Option α) → (List Int → Option α) → Option α
  | 0, _, _, _, _, _, _, _, _, _, _ => none
  | m1 + 1, v10, v11, v12, v13, v14, v15, v16, v17, k1_0, k1_1 =>
    cond (decide (v17 < v16))
     (cond ((decide (0 ≤ v17)) && (decide (v17 < ((v15).length : Int))))
       ((f_impl_isNo (List.getD v15 (Int.toNat v17) (Kd.dflt .int))).bind fun r18 =>
        cond (!r18.1)
         (k1_0 v11)
         ((f_slices_Contains_int n v11 (List.getD v15 (Int.toNat v17) (Kd.dflt .int))).bind fun r19 =>
          cond r19.1
           (k1_0 v11)
           (let e20 := ([(List.getD v15 (Int.toNat v17) (Kd.dflt .int))] : List Int)
            cond (decide ((v11).length + (e20).length ≤ lim))
             (l_impl_LocksOk_1 n m1 v10 (v11 ++ e20) v12 v13 v14 v15 v16 (w64 (v17 + 1)) k1_0 k1_1)
             (none))))
       (none))
     (k1_1 v11)
def l_impl_LocksOk_0 {α : Type} (n : Nat) : Nat → List Lock → List Int → List Lock → Int → Int → (List Int → Option α) → (List Int → Option α) → (List Int → Option α) → Option α
  | 0, _, _, _, _, _, _, _, _ => none
  | m0 + 1, v1, v2, v3, v4, v5, k0_0, k0_1, k0_2 =>
    cond (decide (v5 < v4))
     (cond ((decide (0 ≤ v5)) && (decide (v5 < ((v3).length : Int))))
       ((f_impl_in ((List.getD v3 (Int.toNat v5) (Kd.dflt .lock)).Owner) 0 1000).bind fun r6 =>
        cond (!r6.1)
         (k0_0 v2)
         (let e7 := (decide ((List.getD v3 (Int.toNat v5) (Kd.dflt .lock)).Owner = 0))
          cond e7
           (let e8 := (((List.getD v3 (Int.toNat v5) (Kd.dflt .lock)).Waits).length : Int)
            cond (decide (0 < e8))
             (k0_0 v2)
             (let e9 := (((List.getD v3 (Int.toNat v5) (Kd.dflt .lock)).Waits).length : Int)
              l_impl_LocksOk_1 n n v1 v2 v3 v4 v5 ((List.getD v3 (Int.toNat v5) (Kd.dflt .lock)).Waits) e9 0
               (fun w21 =>
                k0_1 w21)
               (fun w22 =>
                l_impl_LocksOk_0 n m0 v1 w22 v3 v4 (w64 (v5 + 1)) k0_0 k0_1 k0_2)))
           (let e23 := (((List.getD v3 (Int.toNat v5) (Kd.dflt .lock)).Waits).length : Int)
            l_impl_LocksOk_1 n n v1 v2 v3 v4 v5 ((List.getD v3 (Int.toNat v5) (Kd.dflt .lock)).Waits) e23 0
             (fun w24 =>
              k0_1 w24)
             (fun w25 =>
              l_impl_LocksOk_0 n m0 v1 w25 v3 v4 (w64 (v5 + 1)) k0_0 k0_1 k0_2))))
       (none))
     (k0_2 v2)
def l_impl_LocksOk_2 {α : Type} (n : Nat) : Nat → List Lock → List Int → Int → Int → (Option α) → (Option α) → Option α
  | 0, _, _, _, _, _, _ => none
  | m2 + 1, v29, v30, v31, v32, k2_0, k2_1 =>
    cond (decide (v32 < v31))
     (cond ((decide (0 ≤ v32)) && (decide (v32 < ((v30).length : Int))))
       ((f_impl_chain n v29 (List.getD v30 (Int.toNat v32) (Kd.dflt .int))).bind fun r33 =>
        cond (!r33.1.2.1)
         (k2_0)
         (l_impl_LocksOk_2 n m2 v29 v30 v31 (w64 (v32 + 1)) k2_0 k2_1))
       (none))
     (k2_1)
def f_impl_LocksOk (n : Nat) (a0 : List Lock) : Option (Bool × Unit) :=
  l_impl_LocksOk_0 n n a0 ([] : List Int) a0 ((a0).length : Int) 0
   (fun w26 =>
    some (false, ()))
   (fun w27 =>
    some (false, ()))
   (fun w28 =>
    l_impl_LocksOk_2 n n a0 w28 ((w28).length : Int) 0
     (some (false, ()))
     (some ((decide (((a0).length : Int) ≤ 5)), ())))
def r_impl_LocksOk (n : Nat) : Rw := ⟨104, (.pair (.v (.ro .lock)) .one), (.pair .bool .one), fun x => f_impl_LocksOk n x.1.2⟩
def s_impl_LocksOk_0 (n : Nat) : LS where
  la := ⟨3, [0, 3, 13, 14, 15], [(.t 3, 1, .int)], [2, 3, 4, 5], [0, 2, 3], [1, 3, 4, 5]⟩
  nt := 73
  kt := [0, 3, 13, 14, 15]
  hs := [.dead, .k, .fresh, .fresh, .fresh, .fresh]
  X := Bool × List Lock × List Int × Bool × List Lock × Int × Int
  abs := fun vs es => match vs, es with | [.ro y0 .lock y1, .bor 1, .ro y3 .lock y4, .int y5, .int y6], [.root .int y2 .ok] => some (y0, y1, y2, y3, y4, y5, y6) | _, _ => none
  tms := fun x => [.ro x.1 .lock x.2.1, .bor 1, .ro x.2.2.2.1 .lock x.2.2.2.2.1, .int x.2.2.2.2.2.1, .int x.2.2.2.2.2.2]
  ets := fun x => [.root .int x.2.2.1 .ok]
  run := fun m x k => l_impl_LocksOk_0 n m x.2.1 x.2.2.1 x.2.2.2.2.1 x.2.2.2.2.2.1 x.2.2.2.2.2.2 (fun w0 => k .ret ⟨layT [0, 2, 3] [.ro x.1 .lock x.2.1, .bool false, .bor 1] 0 73, layH [.dead, .k, .dead, .k, .fresh, .fresh] [.root .int w0 .ok, .fresh]⟩) (fun w0 => k .ret ⟨layT [0, 2, 3] [.ro x.1 .lock x.2.1, .bool false, .bor 3] 0 73, layH [.dead, .k, .dead, .k, .fresh, .fresh] [.dead, .root .int w0 .ok]⟩) (fun w0 => k (.exit 0) ⟨layT [0, 3] [.ro x.1 .lock x.2.1, .bor 1] 0 73, layH [.dead, .k, .dead, .k, .fresh, .fresh] [.root .int w0 .ok, .fresh]⟩)
def s_impl_LocksOk_1 (n : Nat) : LS where
  la := ⟨8, [0, 3, 13, 14, 15, 35, 36, 37], [(.t 3, 3, .int)], [4, 5], [0, 2, 3, 13, 14, 15], [3, 4, 5]⟩
  nt := 73
  kt := [0, 3, 13, 14, 15, 35, 36, 37]
  hs := [.dead, .dead, .dead, .k, .fresh, .fresh]
  X := Bool × List Lock × List Int × Bool × List Lock × Int × Int × Bool × List Int × Int × Int
  abs := fun vs es => match vs, es with | [.ro y0 .lock y1, .bor 3, .ro y3 .lock y4, .int y5, .int y6, .ro y7 .int y8, .int y9, .int y10], [.root .int y2 .ok] => some (y0, y1, y2, y3, y4, y5, y6, y7, y8, y9, y10) | _, _ => none
  tms := fun x => [.ro x.1 .lock x.2.1, .bor 3, .ro x.2.2.2.1 .lock x.2.2.2.2.1, .int x.2.2.2.2.2.1, .int x.2.2.2.2.2.2.1, .ro x.2.2.2.2.2.2.2.1 .int x.2.2.2.2.2.2.2.2.1, .int x.2.2.2.2.2.2.2.2.2.1, .int x.2.2.2.2.2.2.2.2.2.2]
  ets := fun x => [.root .int x.2.2.1 .ok]
  run := fun m x k => l_impl_LocksOk_1 n m x.2.1 x.2.2.1 x.2.2.2.2.1 x.2.2.2.2.2.1 x.2.2.2.2.2.2.1 x.2.2.2.2.2.2.2.2.1 x.2.2.2.2.2.2.2.2.2.1 x.2.2.2.2.2.2.2.2.2.2 (fun w0 => k .ret ⟨layT [0, 2, 3, 13, 14, 15] [.ro x.1 .lock x.2.1, .bool false, .bor 3, .ro x.2.2.2.1 .lock x.2.2.2.2.1, .int x.2.2.2.2.2.1, .int x.2.2.2.2.2.2.1] 0 73, layH [.dead, .dead, .dead, .k, .fresh, .fresh] [.root .int w0 .ok]⟩) (fun w0 => k (.exit 2) ⟨layT [0, 3, 13, 14, 15] [.ro x.1 .lock x.2.1, .bor 3, .ro x.2.2.2.1 .lock x.2.2.2.2.1, .int x.2.2.2.2.2.1, .int x.2.2.2.2.2.2.1] 0 73, layH [.dead, .dead, .dead, .k, .fresh, .fresh] [.root .int w0 .ok]⟩)
def s_impl_LocksOk_2 (n : Nat) : LS where
  la := ⟨16, [0, 55, 56, 57], [], [], [0, 2], [3, 4, 5]⟩
  nt := 73
  kt := [0, 55, 56, 57]
  hs := [.dead, .k, .dead, .fresh, .fresh, .fresh]
  X := Bool × List Lock × List Int × Int × Int
  abs := fun vs es => match vs, es with | [.ro y0 .lock y1, .bor 1, .int y3, .int y4], [.root .int y2 .ok] => some (y0, y1, y2, y3, y4) | _, _ => none
  tms := fun x => [.ro x.1 .lock x.2.1, .bor 1, .int x.2.2.2.1, .int x.2.2.2.2]
  ets := fun x => [.root .int x.2.2.1 .ok]
  run := fun m x k => l_impl_LocksOk_2 n m x.2.1 x.2.2.1 x.2.2.2.1 x.2.2.2.2 (k .ret ⟨layT [0, 2] [.ro x.1 .lock x.2.1, .bool false] 0 73, layH [.dead, .dead, .dead, .fresh, .fresh, .fresh] []⟩) (k (.exit 4) ⟨layT [0] [.ro x.1 .lock x.2.1] 0 73, layH [.dead, .dead, .dead, .fresh, .fresh, .fresh] []⟩)
noncomputable def c_impl_LocksOk_0 : Code := (Go.Proofs.Try.f104.body.bind (subLoop 3)).getD .skip
noncomputable def c_impl_LocksOk_1 : Code := (Go.Proofs.Try.f104.body.bind (subLoop 8)).getD .skip
noncomputable def c_impl_LocksOk_2 : Code := (Go.Proofs.Try.f104.body.bind (subLoop 16)).getD .skip
theorem s_impl_LocksOk_0_ok (n : Nat) : LSok Tb tyK (orc [r_impl_in, r_impl_isNo, (r_slices_Contains_int n), (r_impl_chain n)]) n a_impl_LocksOk.ann [s_impl_LocksOk_0 n, s_impl_LocksOk_1 n, s_impl_LocksOk_2 n] c_impl_LocksOk_0 (s_impl_LocksOk_0 n) :=
  ⟨by intro vs es x h; dsimp only [s_impl_LocksOk_0] at h; split at h; (· injection h with h; subst h; exact ⟨rfl, rfl⟩); (· cases h), fun _ _ => rfl, fun m x k => by kernel_rfl⟩
theorem s_impl_LocksOk_1_ok (n : Nat) : LSok Tb tyK (orc [r_impl_in, r_impl_isNo, (r_slices_Contains_int n), (r_impl_chain n)]) n a_impl_LocksOk.ann [s_impl_LocksOk_0 n, s_impl_LocksOk_1 n, s_impl_LocksOk_2 n] c_impl_LocksOk_1 (s_impl_LocksOk_1 n) :=
  ⟨by intro vs es x h; dsimp only [s_impl_LocksOk_1] at h; split at h; (· injection h with h; subst h; exact ⟨rfl, rfl⟩); (· cases h), fun _ _ => rfl, fun m x k => by kernel_rfl⟩
theorem s_impl_LocksOk_2_ok (n : Nat) : LSok Tb tyK (orc [r_impl_in, r_impl_isNo, (r_slices_Contains_int n), (r_impl_chain n)]) n a_impl_LocksOk.ann [s_impl_LocksOk_0 n, s_impl_LocksOk_1 n, s_impl_LocksOk_2 n] c_impl_LocksOk_2 (s_impl_LocksOk_2 n) :=
  ⟨by intro vs es x h; dsimp only [s_impl_LocksOk_2] at h; split at h; (· injection h with h; subst h; exact ⟨rfl, rfl⟩); (· cases h), fun _ _ => rfl, fun m x k => by kernel_rfl⟩
theorem r_impl_LocksOk_ok (n : Nat) : RwOk Go.Proofs.Try.prog tyK (r_impl_LocksOk n) :=
  ent_ok (fa := a_impl_LocksOk) (ls := [s_impl_LocksOk_0 n, s_impl_LocksOk_1 n, s_impl_LocksOk_2 n]) (cs := [c_impl_LocksOk_0, c_impl_LocksOk_1, c_impl_LocksOk_2]) (n := n) (es := [r_impl_in, r_impl_isNo, (r_slices_Contains_int n), (r_impl_chain n)]) mixedOk tbOk (ents_cons (r_impl_in_ok) (ents_cons (r_impl_isNo_ok) (ents_cons (r_slices_Contains_int_ok n) (ents_cons (r_impl_chain_ok n) ents_nil)))) Go.Proofs.Try.func104 (by kernel_rfl) (by kernel_rfl) (by kernel_rfl) (LSsOk.cons _ _ (l := s_impl_LocksOk_0 n) (by kernel_rfl) (s_impl_LocksOk_0_ok n) (LSsOk.cons _ _ (l := s_impl_LocksOk_1 n) (by kernel_rfl) (s_impl_LocksOk_1_ok n) (LSsOk.cons _ _ (l := s_impl_LocksOk_2 n) (by kernel_rfl) (s_impl_LocksOk_2_ok n) (LSsOk.nil _ _)))) (fun x => by kernel_rfl)
/-! loop.example/g00185/impl.executor -/
noncomputable def a_impl_executor : FnA := ⟨Go.Proofs.Try.f126, ⟨[(1, [(2, .call [.ro, .ro] (.tup (.pair (.own .int) (.pair .bool .one))) [] [none])]), (5, [(2, .call [.ro, .ro] .int [] [])])], [], []⟩, 0⟩
def l_impl_executor_0 {α : Type} (n : Nat) : Nat → List Task → List Int → List Int → Int → Int → (Option α) → (Option α) → Option α
  | 0, _, _, _, _, _, _, _ => none
  | m0 + 1, v2, v3, v4, v5, v6, k0_0, k0_1 =>
    cond (decide (v6 < v5))
     (cond ((decide (0 ≤ v6)) && (decide (v6 < ((v4).length : Int))))
       ((f_impl_TaskAt n v2 (List.getD v4 (Int.toNat v6) (Kd.dflt .int))).bind fun r7 =>
        cond (decide (r7.1 < 0))
         (k0_0)
         (l_impl_executor_0 n m0 v2 v3 v4 v5 (w64 (v6 + 1)) k0_0 k0_1))
       (none))
     (k0_1)
def f_impl_executor (n : Nat) (a0 : List Task) (a1 : List Lock) (a2 : Int) : Option (Int × Unit) :=
  (f_impl_chain n a1 a2).bind fun r1 =>
  l_impl_executor_0 n n a0 r1.1.1 r1.1.1 ((r1.1.1).length : Int) 0
   (some (0, ()))
   (cond ((decide (0 ≤ (w64 (((r1.1.1).length : Int) - 1)))) && (decide ((w64 (((r1.1.1).length : Int) - 1)) < ((r1.1.1).length : Int))))
     (let e8 := (List.getD r1.1.1 (Int.toNat (w64 (((r1.1.1).length : Int) - 1))) (Kd.dflt .int))
      some (e8, ()))
     (none))
def r_impl_executor (n : Nat) : Rw := ⟨126, (.pair (.v (.ro .task)) (.pair (.v (.ro .lock)) (.pair (.v (.int)) .one))), (.pair .int .one), fun x => f_impl_executor n x.1.2 x.2.1.2 x.2.2.1⟩
def s_impl_executor_0 (n : Nat) : LS where
  la := ⟨3, [0, 7, 17, 18, 19], [], [], [6, 7], []⟩
  nt := 34
  kt := [0, 7, 17, 18, 19]
  hs := []
  X := Bool × List Task × List Int × List Int × Int × Int
  abs := fun vs es => match vs, es with | [.ro y0 .task y1, .ro true .int y2, .ro true .int y3, .int y4, .int y5], [] => some (y0, y1, y2, y3, y4, y5) | _, _ => none
  tms := fun x => [.ro x.1 .task x.2.1, .ro true .int x.2.2.1, .ro true .int x.2.2.2.1, .int x.2.2.2.2.1, .int x.2.2.2.2.2]
  ets := fun x => []
  run := fun m x k => l_impl_executor_0 n m x.2.1 x.2.2.1 x.2.2.2.1 x.2.2.2.2.1 x.2.2.2.2.2 (k .ret ⟨layT [6, 7] [.int 0, .ro true .int x.2.2.1] 0 34, layH [] []⟩) (k (.exit 0) ⟨layT [7] [.ro true .int x.2.2.1] 0 34, layH [] []⟩)
noncomputable def c_impl_executor_0 : Code := (Go.Proofs.Try.f126.body.bind (subLoop 3)).getD .skip
theorem s_impl_executor_0_ok (n : Nat) : LSok Tb tyK (orc [(r_impl_chain n), (r_impl_TaskAt n)]) n a_impl_executor.ann [s_impl_executor_0 n] c_impl_executor_0 (s_impl_executor_0 n) :=
  ⟨by intro vs es x h; dsimp only [s_impl_executor_0] at h; split at h; (· injection h with h; subst h; exact ⟨rfl, rfl⟩); (· cases h), fun _ _ => rfl, fun m x k => by kernel_rfl⟩
theorem r_impl_executor_ok (n : Nat) : RwOk Go.Proofs.Try.prog tyK (r_impl_executor n) :=
  ent_ok (fa := a_impl_executor) (ls := [s_impl_executor_0 n]) (cs := [c_impl_executor_0]) (n := n) (es := [(r_impl_chain n), (r_impl_TaskAt n)]) mixedOk tbOk (ents_cons (r_impl_chain_ok n) (ents_cons (r_impl_TaskAt_ok n) ents_nil)) Go.Proofs.Try.func126 (by kernel_rfl) (by kernel_rfl) (by kernel_rfl) (LSsOk.cons _ _ (l := s_impl_executor_0 n) (by kernel_rfl) (s_impl_executor_0_ok n) (LSsOk.nil _ _)) (fun x => by kernel_rfl)
/-! loop.example/g00185/impl.Executor -/
noncomputable def a_impl_Executor : FnA := ⟨Go.Proofs.Try.f94, ⟨[(1, [(1, .call [.ro] .bool [] []), (5, .call [.ro] .bool [] [])]), (3, [(3, .call [.ro, .ro, .ro] .int [] [])])], [], []⟩, 0⟩
def f_impl_Executor (n : Nat) (a0 : List Task) (a1 : List Lock) (a2 : Int) : Option (Int × Unit) :=
  (f_impl_TasksOk n a0).bind fun r1 =>
  cond (!r1.1)
   (some (0, ()))
   ((f_impl_LocksOk n a1).bind fun r2 =>
    cond (!r2.1)
     (some (0, ()))
     ((f_impl_executor n a0 a1 a2).bind fun r3 =>
      some (r3.1, ())))
def r_impl_Executor (n : Nat) : Rw := ⟨94, (.pair (.v (.ro .task)) (.pair (.v (.ro .lock)) (.pair (.v (.int)) .one))), (.pair .int .one), fun x => f_impl_Executor n x.1.2 x.2.1.2 x.2.2.1⟩
theorem r_impl_Executor_ok (n : Nat) : RwOk Go.Proofs.Try.prog tyK (r_impl_Executor n) :=
  ent_ok (fa := a_impl_Executor) (ls := []) (cs := []) (n := n) (es := [(r_impl_TasksOk n), (r_impl_LocksOk n), (r_impl_executor n)]) mixedOk tbOk (ents_cons (r_impl_TasksOk_ok n) (ents_cons (r_impl_LocksOk_ok n) (ents_cons (r_impl_executor_ok n) ents_nil))) Go.Proofs.Try.func94 (by kernel_rfl) (by kernel_rfl) (by kernel_rfl) (LSsOk.nil _ _) (fun x => by kernel_rfl)
/-! loop.example/g00185/impl.Able -/
noncomputable def a_impl_Able : FnA := ⟨Go.Proofs.Try.f151, ⟨[(1, [(3, .call [.ro, .ro, .ro] .int [] [])]), (2, [(6, .call [.ro, .ro] .int [] []), (16, .call [.ro, .ro] .int [] [])])], [], []⟩, 0⟩
def f_impl_Able (n : Nat) (a0 : List Task) (a1 : List Lock) (a2 : Int) : Option (Bool × Unit) :=
  (f_impl_Executor n a0 a1 a2).bind fun r1 =>
  cond (!(decide (r1.1 = 0)))
   ((f_impl_TaskAt n a0 a2).bind fun r2 =>
    cond ((decide (0 ≤ r2.1)) && (decide (r2.1 < ((a0).length : Int))))
     (let e3 := (decide ((List.getD a0 (Int.toNat r2.1) (Kd.dflt .task)).State = 1))
      cond e3
       ((f_impl_TaskAt n a0 r1.1).bind fun r4 =>
        cond ((decide (0 ≤ r4.1)) && (decide (r4.1 < ((a0).length : Int))))
         (let e5 := (decide ((List.getD a0 (Int.toNat r4.1) (Kd.dflt .task)).State = 1))
          some (e5, ()))
         (none))
       (some (false, ())))
     (none))
   (some (false, ()))
def r_impl_Able (n : Nat) : Rw := ⟨151, (.pair (.v (.ro .task)) (.pair (.v (.ro .lock)) (.pair (.v (.int)) .one))), (.pair .bool .one), fun x => f_impl_Able n x.1.2 x.2.1.2 x.2.2.1⟩
theorem r_impl_Able_ok (n : Nat) : RwOk Go.Proofs.Try.prog tyK (r_impl_Able n) :=
  ent_ok (fa := a_impl_Able) (ls := []) (cs := []) (n := n) (es := [(r_impl_Executor n), (r_impl_TaskAt n)]) mixedOk tbOk (ents_cons (r_impl_Executor_ok n) (ents_cons (r_impl_TaskAt_ok n) ents_nil)) Go.Proofs.Try.func151 (by kernel_rfl) (by kernel_rfl) (by kernel_rfl) (LSsOk.nil _ _) (fun x => by kernel_rfl)
/-! loop.example/g00185/impl.CanTurn -/
noncomputable def a_impl_CanTurn : FnA := ⟨Go.Proofs.Try.f125, ⟨[(1, [(3, .call [.ro, .ro, .ro] .bool [] [])]), (3, [(3, .call [.ro, .ro] .int [] []), (6, .slot 0 .int)])], [], []⟩, 1⟩
def f_impl_CanTurn (n : Nat) (a0 : List Task) (a1 : List Lock) (a2 : Int) : Option (Bool × Unit) :=
  (f_impl_Able n a0 a1 a2).bind fun r1 =>
  cond (!r1.1)
   (some (false, ()))
   ((f_impl_TaskAt n a0 a2).bind fun r2 =>
    cond ((decide (0 ≤ r2.1)) && (decide (r2.1 < ((a0).length : Int))))
     (let e3 := (!(decide ((List.getD a0 (Int.toNat r2.1) (Kd.dflt .task)).Class = 1)))
      cond e3
       (some (true, ()))
       (let e4 := (decide (0 < (List.getD a0 (Int.toNat r2.1) (Kd.dflt .task)).Left))
        some (e4, ())))
     (none))
def r_impl_CanTurn (n : Nat) : Rw := ⟨125, (.pair (.v (.ro .task)) (.pair (.v (.ro .lock)) (.pair (.v (.int)) .one))), (.pair .bool .one), fun x => f_impl_CanTurn n x.1.2 x.2.1.2 x.2.2.1⟩
theorem r_impl_CanTurn_ok (n : Nat) : RwOk Go.Proofs.Try.prog tyK (r_impl_CanTurn n) :=
  ent_ok (fa := a_impl_CanTurn) (ls := []) (cs := []) (n := n) (es := [(r_impl_Able n), (r_impl_TaskAt n)]) mixedOk tbOk (ents_cons (r_impl_Able_ok n) (ents_cons (r_impl_TaskAt_ok n) ents_nil)) Go.Proofs.Try.func125 (by kernel_rfl) (by kernel_rfl) (by kernel_rfl) (LSsOk.nil _ _) (fun x => by kernel_rfl)
end Go.Proofs.Ytoedeimpfbebpaa.VR
