/- Functions, printed by program (wip/gen/emit.py). -/
import Derived.Test.YtjgkeaiibdodfaaGreatG03
set_option linter.unusedVariables false
set_option maxRecDepth 100000
namespace Go.Proofs.YtjgkeaiibdodfaaGreat.VR
open Go
/-! loop.example/g00185/impl.SysOk$1 -/
noncomputable def a_impl_SysOk_1 : FnA := ⟨Go.Proofs.Tryz.f73, ⟨[(0, [(0, .slot 0 .int)])], [], []⟩, 1⟩
def f_impl_SysOk_1 (a0 : Task) (a1 : Sys) : Option (Bool × Unit) :=
  some ((decide (a1.Cpus ≤ a0.Cpu)), ())
def r_impl_SysOk_1 : Rw := ⟨73, (.pair (.v (.agg (.pair .int (.pair .int (.pair .int (.pair .int (.pair .bool (.pair .int (.pair .int (.pair .int (.pair .int (.pair .int (.pair .int (.pair .int (.pair .int (.pair .int .one)))))))))))))))) (.pair (.v (.rp (.pair .int (.pair .int (.pair (.ro .task) (.pair (.ro .lock) (.pair (.ro .ghost) (.pair (.ro .int) (.pair .int (.pair .int (.pair (.ro .turn) .one))))))))) 0)) .one)), (.pair .bool .one), fun x => f_impl_SysOk_1 (⟨x.1.1, x.1.2.1, x.1.2.2.1, x.1.2.2.2.1, x.1.2.2.2.2.1, x.1.2.2.2.2.2.1, x.1.2.2.2.2.2.2.1, x.1.2.2.2.2.2.2.2.1, x.1.2.2.2.2.2.2.2.2.1, x.1.2.2.2.2.2.2.2.2.2.1, x.1.2.2.2.2.2.2.2.2.2.2.1, x.1.2.2.2.2.2.2.2.2.2.2.2.1, x.1.2.2.2.2.2.2.2.2.2.2.2.2.1, x.1.2.2.2.2.2.2.2.2.2.2.2.2.2.1⟩ : Task) (⟨x.2.1.1, x.2.1.2.1, x.2.1.2.2.1.2, x.2.1.2.2.2.1.2, x.2.1.2.2.2.2.1.2, x.2.1.2.2.2.2.2.1.2, x.2.1.2.2.2.2.2.2.1, x.2.1.2.2.2.2.2.2.2.1, x.2.1.2.2.2.2.2.2.2.2.1.2⟩ : Sys)⟩
theorem r_impl_SysOk_1_ok : RwOk Go.Proofs.Tryz.prog tyK (r_impl_SysOk_1) :=
  ent_ok (fa := a_impl_SysOk_1) (ls := []) (cs := []) (n := 0) (es := []) mixedOk tbOk ents_nil Go.Proofs.Tryz.func73 (by kernel_rfl) (by kernel_rfl) (by kernel_rfl) (LSsOk.nil _ _) (fun x => by kernel_rfl)
/-! slices.IndexFunc[[]loop.example/g00185/impl.Task,loop.example/g00185/impl.Task] -/
noncomputable def a_slices_IndexFunc_Task_SysOk_1 : FnA := ⟨Go.Proofs.Tryz.f103, ⟨[(4, [(5, .call [.ro] .bool [] [])])], [], []⟩, 0⟩
def l_slices_IndexFunc_Task_SysOk_1_0 {α : Type} (n : Nat) : Nat → List Task → Sys → Int → Int → (Int → Option α) → (Option α) → Option α
  | 0, _, _, _, _, _, _ => none
  | m0 + 1, v1, v2, v3, v4, k0_0, k0_1 =>
    cond (decide (v4 < v3))
     (cond ((decide (0 ≤ v4)) && (decide (v4 < ((v1).length : Int))))
       ((f_impl_SysOk_1 (List.getD v1 (Int.toNat v4) (Kd.dflt .task)) v2).bind fun r5 =>
        cond r5.1
         (k0_0 v4)
         (l_slices_IndexFunc_Task_SysOk_1_0 n m0 v1 v2 v3 (w64 (v4 + 1)) k0_0 k0_1))
       (none))
     (k0_1)
def f_slices_IndexFunc_Task_SysOk_1 (n : Nat) (a0 : List Task) (a1_0 : Sys) : Option (Int × Unit) :=
  l_slices_IndexFunc_Task_SysOk_1_0 n n a0 a1_0 ((a0).length : Int) 0
   (fun w6 =>
    some (w6, ()))
   (some ((-1), ()))
def r_slices_IndexFunc_Task_SysOk_1 (n : Nat) : Rw := ⟨103, (.pair (.v (.ro .task)) (.pair (.v (.clo 73 (.pair (.rp (.pair .int (.pair .int (.pair (.ro .task) (.pair (.ro .lock) (.pair (.ro .ghost) (.pair (.ro .int) (.pair .int (.pair .int (.pair (.ro .turn) .one))))))))) 0) .one))) .one)), (.pair .int .one), fun x => f_slices_IndexFunc_Task_SysOk_1 n x.1.2 (⟨x.2.1.1.1, x.2.1.1.2.1, x.2.1.1.2.2.1.2, x.2.1.1.2.2.2.1.2, x.2.1.1.2.2.2.2.1.2, x.2.1.1.2.2.2.2.2.1.2, x.2.1.1.2.2.2.2.2.2.1, x.2.1.1.2.2.2.2.2.2.2.1, x.2.1.1.2.2.2.2.2.2.2.2.1.2⟩ : Sys)⟩
def s_slices_IndexFunc_Task_SysOk_1_0 (n : Nat) : LS where
  la := ⟨2, [0, 1, 7, 8], [], [], [4], []⟩
  nt := 19
  kt := [0, 1, 7, 8]
  hs := []
  X := Bool × List Task × Int × Int × Bool × List Task × Bool × List Lock × Bool × List Ghost × Bool × List Int × Int × Int × Bool × List Turn × Int × Int
  abs := fun vs es => match vs, es with | [.ro y0 .task y1, .clo 73 [.rp [.int y2, .int y3, .ro y4 .task y5, .ro y6 .lock y7, .ro y8 .ghost y9, .ro y10 .int y11, .int y12, .int y13, .ro y14 .turn y15] 0], .int y16, .int y17], [] => some (y0, y1, y2, y3, y4, y5, y6, y7, y8, y9, y10, y11, y12, y13, y14, y15, y16, y17) | _, _ => none
  tms := fun x => [.ro x.1 .task x.2.1, .clo 73 [.rp [.int x.2.2.1, .int x.2.2.2.1, .ro x.2.2.2.2.1 .task x.2.2.2.2.2.1, .ro x.2.2.2.2.2.2.1 .lock x.2.2.2.2.2.2.2.1, .ro x.2.2.2.2.2.2.2.2.1 .ghost x.2.2.2.2.2.2.2.2.2.1, .ro x.2.2.2.2.2.2.2.2.2.2.1 .int x.2.2.2.2.2.2.2.2.2.2.2.1, .int x.2.2.2.2.2.2.2.2.2.2.2.2.1, .int x.2.2.2.2.2.2.2.2.2.2.2.2.2.1, .ro x.2.2.2.2.2.2.2.2.2.2.2.2.2.2.1 .turn x.2.2.2.2.2.2.2.2.2.2.2.2.2.2.2.1] 0], .int x.2.2.2.2.2.2.2.2.2.2.2.2.2.2.2.2.1, .int x.2.2.2.2.2.2.2.2.2.2.2.2.2.2.2.2.2]
  ets := fun x => []
  run := fun m x k => l_slices_IndexFunc_Task_SysOk_1_0 n m x.2.1 (⟨x.2.2.1, x.2.2.2.1, x.2.2.2.2.2.1, x.2.2.2.2.2.2.2.1, x.2.2.2.2.2.2.2.2.2.1, x.2.2.2.2.2.2.2.2.2.2.2.1, x.2.2.2.2.2.2.2.2.2.2.2.2.1, x.2.2.2.2.2.2.2.2.2.2.2.2.2.1, x.2.2.2.2.2.2.2.2.2.2.2.2.2.2.2.1⟩ : Sys) x.2.2.2.2.2.2.2.2.2.2.2.2.2.2.2.2.1 x.2.2.2.2.2.2.2.2.2.2.2.2.2.2.2.2.2 (fun w0 => k .ret ⟨layT [4] [.int w0] 0 19, layH [] []⟩) (k (.exit 0) ⟨layT [] [] 0 19, layH [] []⟩)
noncomputable def c_slices_IndexFunc_Task_SysOk_1_0 : Code := (Go.Proofs.Tryz.f103.body.bind (subLoop 2)).getD .skip
theorem s_slices_IndexFunc_Task_SysOk_1_0_ok (n : Nat) : LSok Tb tyK (orc [r_impl_SysOk_1]) n a_slices_IndexFunc_Task_SysOk_1.ann [s_slices_IndexFunc_Task_SysOk_1_0 n] c_slices_IndexFunc_Task_SysOk_1_0 (s_slices_IndexFunc_Task_SysOk_1_0 n) :=
  ⟨by intro vs es x h; dsimp only [s_slices_IndexFunc_Task_SysOk_1_0] at h; split at h; (· injection h with h; subst h; exact ⟨rfl, rfl⟩); (· cases h), fun _ _ => rfl, fun m x k => by kernel_rfl⟩
theorem r_slices_IndexFunc_Task_SysOk_1_ok (n : Nat) : RwOk Go.Proofs.Tryz.prog tyK (r_slices_IndexFunc_Task_SysOk_1 n) :=
  ent_ok (fa := a_slices_IndexFunc_Task_SysOk_1) (ls := [s_slices_IndexFunc_Task_SysOk_1_0 n]) (cs := [c_slices_IndexFunc_Task_SysOk_1_0]) (n := n) (es := [r_impl_SysOk_1]) mixedOk tbOk (ents_cons (r_impl_SysOk_1_ok) ents_nil) Go.Proofs.Tryz.func103 (by kernel_rfl) (by kernel_rfl) (by kernel_rfl) (LSsOk.cons _ _ (l := s_slices_IndexFunc_Task_SysOk_1_0 n) (by kernel_rfl) (s_slices_IndexFunc_Task_SysOk_1_0_ok n) (LSsOk.nil _ _)) (fun x => by kernel_rfl)
/-! slices.ContainsFunc[[]loop.example/g00185/impl.Task,loop.example/g00185/impl.Task] -/
noncomputable def a_slices_ContainsFunc_Task_SysOk_1 : FnA := ⟨Go.Proofs.Tryz.f45, ⟨[(1, [(2, .call [.ro, .ro] .int [] [])])], [], []⟩, 0⟩
def f_slices_ContainsFunc_Task_SysOk_1 (n : Nat) (a0 : List Task) (a1_0 : Sys) : Option (Bool × Unit) :=
  (f_slices_IndexFunc_Task_SysOk_1 n a0 a1_0).bind fun r1 =>
  some ((decide (0 ≤ r1.1)), ())
def r_slices_ContainsFunc_Task_SysOk_1 (n : Nat) : Rw := ⟨45, (.pair (.v (.ro .task)) (.pair (.v (.clo 73 (.pair (.rp (.pair .int (.pair .int (.pair (.ro .task) (.pair (.ro .lock) (.pair (.ro .ghost) (.pair (.ro .int) (.pair .int (.pair .int (.pair (.ro .turn) .one))))))))) 0) .one))) .one)), (.pair .bool .one), fun x => f_slices_ContainsFunc_Task_SysOk_1 n x.1.2 (⟨x.2.1.1.1, x.2.1.1.2.1, x.2.1.1.2.2.1.2, x.2.1.1.2.2.2.1.2, x.2.1.1.2.2.2.2.1.2, x.2.1.1.2.2.2.2.2.1.2, x.2.1.1.2.2.2.2.2.2.1, x.2.1.1.2.2.2.2.2.2.2.1, x.2.1.1.2.2.2.2.2.2.2.2.1.2⟩ : Sys)⟩
theorem r_slices_ContainsFunc_Task_SysOk_1_ok (n : Nat) : RwOk Go.Proofs.Tryz.prog tyK (r_slices_ContainsFunc_Task_SysOk_1 n) :=
  ent_ok (fa := a_slices_ContainsFunc_Task_SysOk_1) (ls := []) (cs := []) (n := n) (es := [(r_slices_IndexFunc_Task_SysOk_1 n)]) mixedOk tbOk (ents_cons (r_slices_IndexFunc_Task_SysOk_1_ok n) ents_nil) Go.Proofs.Tryz.func45 (by kernel_rfl) (by kernel_rfl) (by kernel_rfl) (LSsOk.nil _ _) (fun x => by kernel_rfl)
/-! slices.Index[[]int,int] -/
noncomputable def a_slices_Index_int : FnA := ⟨Go.Proofs.Tryz.f111, ⟨[], [], []⟩, 0⟩
def l_slices_Index_int_0 {α : Type} (n : Nat) : Nat → List Int → Int → Int → Int → (Int → Option α) → (Option α) → Option α
  | 0, _, _, _, _, _, _ => none
  | m0 + 1, v1, v2, v3, v4, k0_0, k0_1 =>
    cond (decide (v4 < v3))
     (cond ((decide (0 ≤ v4)) && (decide (v4 < ((v1).length : Int))))
       (cond (decide (v2 = (List.getD v1 (Int.toNat v4) (Kd.dflt .int))))
         (k0_0 v4)
         (l_slices_Index_int_0 n m0 v1 v2 v3 (w64 (v4 + 1)) k0_0 k0_1))
       (none))
     (k0_1)
def f_slices_Index_int (n : Nat) (a0 : List Int) (a1 : Int) : Option (Int × Unit) :=
  l_slices_Index_int_0 n n a0 a1 ((a0).length : Int) 0
   (fun w5 =>
    some (w5, ()))
   (some ((-1), ()))
def r_slices_Index_int (n : Nat) : Rw := ⟨111, (.pair (.v (.ro .int)) (.pair (.v (.int)) .one)), (.pair .int .one), fun x => f_slices_Index_int n x.1.2 x.2.1⟩
def s_slices_Index_int_0 (n : Nat) : LS where
  la := ⟨2, [0, 1, 7, 8], [], [], [4], []⟩
  nt := 19
  kt := [0, 1, 7, 8]
  hs := []
  X := Bool × List Int × Int × Int × Int
  abs := fun vs es => match vs, es with | [.ro y0 .int y1, .int y2, .int y3, .int y4], [] => some (y0, y1, y2, y3, y4) | _, _ => none
  tms := fun x => [.ro x.1 .int x.2.1, .int x.2.2.1, .int x.2.2.2.1, .int x.2.2.2.2]
  ets := fun x => []
  run := fun m x k => l_slices_Index_int_0 n m x.2.1 x.2.2.1 x.2.2.2.1 x.2.2.2.2 (fun w0 => k .ret ⟨layT [4] [.int w0] 0 19, layH [] []⟩) (k (.exit 0) ⟨layT [] [] 0 19, layH [] []⟩)
noncomputable def c_slices_Index_int_0 : Code := (Go.Proofs.Tryz.f111.body.bind (subLoop 2)).getD .skip
theorem s_slices_Index_int_0_ok (n : Nat) : LSok Tb tyK (orc []) n a_slices_Index_int.ann [s_slices_Index_int_0 n] c_slices_Index_int_0 (s_slices_Index_int_0 n) :=
  ⟨by intro vs es x h; dsimp only [s_slices_Index_int_0] at h; split at h; (· injection h with h; subst h; exact ⟨rfl, rfl⟩); (· cases h), fun _ _ => rfl, fun m x k => by kernel_rfl⟩
theorem r_slices_Index_int_ok (n : Nat) : RwOk Go.Proofs.Tryz.prog tyK (r_slices_Index_int n) :=
  ent_ok (fa := a_slices_Index_int) (ls := [s_slices_Index_int_0 n]) (cs := [c_slices_Index_int_0]) (n := n) (es := []) mixedOk tbOk ents_nil Go.Proofs.Tryz.func111 (by kernel_rfl) (by kernel_rfl) (by kernel_rfl) (LSsOk.cons _ _ (l := s_slices_Index_int_0 n) (by kernel_rfl) (s_slices_Index_int_0_ok n) (LSsOk.nil _ _)) (fun x => by kernel_rfl)
/-! slices.Contains[[]int,int] -/
noncomputable def a_slices_Contains_int : FnA := ⟨Go.Proofs.Tryz.f50, ⟨[(1, [(2, .call [.ro, .ro] .int [] [])])], [], []⟩, 0⟩
def f_slices_Contains_int (n : Nat) (a0 : List Int) (a1 : Int) : Option (Bool × Unit) :=
  (f_slices_Index_int n a0 a1).bind fun r1 =>
  some ((decide (0 ≤ r1.1)), ())
def r_slices_Contains_int (n : Nat) : Rw := ⟨50, (.pair (.v (.ro .int)) (.pair (.v (.int)) .one)), (.pair .bool .one), fun x => f_slices_Contains_int n x.1.2 x.2.1⟩
theorem r_slices_Contains_int_ok (n : Nat) : RwOk Go.Proofs.Tryz.prog tyK (r_slices_Contains_int n) :=
  ent_ok (fa := a_slices_Contains_int) (ls := []) (cs := []) (n := n) (es := [(r_slices_Index_int n)]) mixedOk tbOk (ents_cons (r_slices_Index_int_ok n) ents_nil) Go.Proofs.Tryz.func50 (by kernel_rfl) (by kernel_rfl) (by kernel_rfl) (LSsOk.nil _ _) (fun x => by kernel_rfl)
/-! loop.example/g00185/impl.WaitAt$1 -/
noncomputable def a_impl_WaitAt_1 : FnA := ⟨Go.Proofs.Tryz.f144, ⟨[(0, [(0, .slot 0 .int)]), (1, [(3, .call [.ro, .ro] .bool [] [])])], [], []⟩, 1⟩
def f_impl_WaitAt_1 (n : Nat) (a0 : Lock) (a1_0 : Int) : Option (Bool × Unit) :=
  (f_slices_Contains_int n a0.Waits a1_0).bind fun r1 =>
  some (r1.1, ())
def r_impl_WaitAt_1 (n : Nat) : Rw := ⟨144, (.pair (.v (.agg (.pair .int (.pair (.ro .int) .one)))) (.pair (.v (.rp (.pair .int .one) 0)) .one)), (.pair .bool .one), fun x => f_impl_WaitAt_1 n (⟨x.1.1, x.1.2.1.2⟩ : Lock) x.2.1.1⟩
theorem r_impl_WaitAt_1_ok (n : Nat) : RwOk Go.Proofs.Tryz.prog tyK (r_impl_WaitAt_1 n) :=
  ent_ok (fa := a_impl_WaitAt_1) (ls := []) (cs := []) (n := n) (es := [(r_slices_Contains_int n)]) mixedOk tbOk (ents_cons (r_slices_Contains_int_ok n) ents_nil) Go.Proofs.Tryz.func144 (by kernel_rfl) (by kernel_rfl) (by kernel_rfl) (LSsOk.nil _ _) (fun x => by kernel_rfl)
/-! slices.IndexFunc[[]loop.example/g00185/impl.Lock,loop.example/g00185/impl.Lock] -/
noncomputable def a_slices_IndexFunc_Lock_WaitAt_1 : FnA := ⟨Go.Proofs.Tryz.f118, ⟨[(4, [(5, .call [.ro] .bool [] [])])], [], []⟩, 0⟩
def l_slices_IndexFunc_Lock_WaitAt_1_0 {α : Type} (n : Nat) : Nat → List Lock → Int → Int → Int → (Int → Option α) → (Option α) → Option α
  | 0, _, _, _, _, _, _ => none
  | m0 + 1, v1, v2, v3, v4, k0_0, k0_1 =>
    cond (decide (v4 < v3))
     (cond ((decide (0 ≤ v4)) && (decide (v4 < ((v1).length : Int))))
       ((f_impl_WaitAt_1 n (List.getD v1 (Int.toNat v4) (Kd.dflt .lock)) v2).bind fun r5 =>
        cond r5.1
         (k0_0 v4)
         (l_slices_IndexFunc_Lock_WaitAt_1_0 n m0 v1 v2 v3 (w64 (v4 + 1)) k0_0 k0_1))
       (none))
     (k0_1)
def f_slices_IndexFunc_Lock_WaitAt_1 (n : Nat) (a0 : List Lock) (a1_0_0 : Int) : Option (Int × Unit) :=
  l_slices_IndexFunc_Lock_WaitAt_1_0 n n a0 a1_0_0 ((a0).length : Int) 0
   (fun w6 =>
    some (w6, ()))
   (some ((-1), ()))
def r_slices_IndexFunc_Lock_WaitAt_1 (n : Nat) : Rw := ⟨118, (.pair (.v (.ro .lock)) (.pair (.v (.clo 144 (.pair (.rp (.pair .int .one) 0) .one))) .one)), (.pair .int .one), fun x => f_slices_IndexFunc_Lock_WaitAt_1 n x.1.2 x.2.1.1.1⟩
def s_slices_IndexFunc_Lock_WaitAt_1_0 (n : Nat) : LS where
  la := ⟨2, [0, 1, 7, 8], [], [], [4], []⟩
  nt := 19
  kt := [0, 1, 7, 8]
  hs := []
  X := Bool × List Lock × Int × Int × Int
  abs := fun vs es => match vs, es with | [.ro y0 .lock y1, .clo 144 [.rp [.int y2] 0], .int y3, .int y4], [] => some (y0, y1, y2, y3, y4) | _, _ => none
  tms := fun x => [.ro x.1 .lock x.2.1, .clo 144 [.rp [.int x.2.2.1] 0], .int x.2.2.2.1, .int x.2.2.2.2]
  ets := fun x => []
  run := fun m x k => l_slices_IndexFunc_Lock_WaitAt_1_0 n m x.2.1 x.2.2.1 x.2.2.2.1 x.2.2.2.2 (fun w0 => k .ret ⟨layT [4] [.int w0] 0 19, layH [] []⟩) (k (.exit 0) ⟨layT [] [] 0 19, layH [] []⟩)
noncomputable def c_slices_IndexFunc_Lock_WaitAt_1_0 : Code := (Go.Proofs.Tryz.f118.body.bind (subLoop 2)).getD .skip
theorem s_slices_IndexFunc_Lock_WaitAt_1_0_ok (n : Nat) : LSok Tb tyK (orc [(r_impl_WaitAt_1 n)]) n a_slices_IndexFunc_Lock_WaitAt_1.ann [s_slices_IndexFunc_Lock_WaitAt_1_0 n] c_slices_IndexFunc_Lock_WaitAt_1_0 (s_slices_IndexFunc_Lock_WaitAt_1_0 n) :=
  ⟨by intro vs es x h; dsimp only [s_slices_IndexFunc_Lock_WaitAt_1_0] at h; split at h; (· injection h with h; subst h; exact ⟨rfl, rfl⟩); (· cases h), fun _ _ => rfl, fun m x k => by kernel_rfl⟩
theorem r_slices_IndexFunc_Lock_WaitAt_1_ok (n : Nat) : RwOk Go.Proofs.Tryz.prog tyK (r_slices_IndexFunc_Lock_WaitAt_1 n) :=
  ent_ok (fa := a_slices_IndexFunc_Lock_WaitAt_1) (ls := [s_slices_IndexFunc_Lock_WaitAt_1_0 n]) (cs := [c_slices_IndexFunc_Lock_WaitAt_1_0]) (n := n) (es := [(r_impl_WaitAt_1 n)]) mixedOk tbOk (ents_cons (r_impl_WaitAt_1_ok n) ents_nil) Go.Proofs.Tryz.func118 (by kernel_rfl) (by kernel_rfl) (by kernel_rfl) (LSsOk.cons _ _ (l := s_slices_IndexFunc_Lock_WaitAt_1_0 n) (by kernel_rfl) (s_slices_IndexFunc_Lock_WaitAt_1_0_ok n) (LSsOk.nil _ _)) (fun x => by kernel_rfl)
/-! loop.example/g00185/impl.WaitAt -/
noncomputable def a_impl_WaitAt : FnA := ⟨Go.Proofs.Tryz.f139, ⟨[(0, [(0, .slot 0 .int)]), (1, [(2, .call [.ro, .ro] .int [] [])])], [], []⟩, 1⟩
def f_impl_WaitAt (n : Nat) (a0 : List Lock) (a1 : Int) : Option (Int × Unit) :=
  (f_slices_IndexFunc_Lock_WaitAt_1 n a0 a1).bind fun r1 =>
  some (r1.1, ())
def r_impl_WaitAt (n : Nat) : Rw := ⟨139, (.pair (.v (.ro .lock)) (.pair (.v (.int)) .one)), (.pair .int .one), fun x => f_impl_WaitAt n x.1.2 x.2.1⟩
theorem r_impl_WaitAt_ok (n : Nat) : RwOk Go.Proofs.Tryz.prog tyK (r_impl_WaitAt n) :=
  ent_ok (fa := a_impl_WaitAt) (ls := []) (cs := []) (n := n) (es := [(r_slices_IndexFunc_Lock_WaitAt_1 n)]) mixedOk tbOk (ents_cons (r_slices_IndexFunc_Lock_WaitAt_1_ok n) ents_nil) Go.Proofs.Tryz.func139 (by kernel_rfl) (by kernel_rfl) (by kernel_rfl) (LSsOk.nil _ _) (fun x => by kernel_rfl)
/-! loop.example/g00185/impl.chain -/
noncomputable def a_impl_chain : FnA := ⟨Go.Proofs.Tryz.f117, ⟨[(1, [(1, .slot 0 .int)]), (2, [(2, .call [.ro, .ro] .int [] [])]), (6, [(2, .call [.ro, .ro] .bool [] [])]), (8, [(2, .slot 2 .int), (3, .slot 3 .int)])], [], []⟩, 4⟩
def l_impl_chain_0 {α : Type} (n : Nat) : Nat → List Lock → Int → List Int → (List Int → Option α) → (List Int → Option α) → Option α
  | 0, _, _, _, _, _ => none
  | m0 + 1, v1, v2, v3, k0_0, k0_1 =>
    (f_impl_WaitAt n v1 v2).bind fun r4 =>
    cond (decide (r4.1 < 0))
     (k0_0 v3)
     (cond ((decide (0 ≤ r4.1)) && (decide (r4.1 < ((v1).length : Int))))
       ((f_slices_Contains_int n v3 ((List.getD v1 (Int.toNat r4.1) (Kd.dflt .lock)).Owner)).bind fun r5 =>
        cond r5.1
         (k0_1 v3)
         (let e6 := ([(List.getD v1 (Int.toNat r4.1) (Kd.dflt .lock)).Owner] : List Int)
          cond (decide ((v3).length + (e6).length ≤ lim))
           (l_impl_chain_0 n m0 v1 ((List.getD v1 (Int.toNat r4.1) (Kd.dflt .lock)).Owner) (v3 ++ e6) k0_0 k0_1)
           (none)))
       (none))
def f_impl_chain (n : Nat) (a0 : List Lock) (a1 : Int) : Option ((List Int × Bool × Unit) × Unit) :=
  l_impl_chain_0 n n a0 a1 ([a1] : List Int)
   (fun w7 =>
    some ((w7, true, ()), ()))
   (fun w8 =>
    some (([], false, ()), ()))
def r_impl_chain (n : Nat) : Rw := ⟨117, (.pair (.v (.ro .lock)) (.pair (.v (.int)) .one)), (.pair (.tup (.pair (.own .int) (.pair .bool .one))) .one), fun x => f_impl_chain n x.1.2 x.2.1⟩
def s_impl_chain_0 (n : Nat) : LS where
  la := ⟨2, [0, 1, 6], [(.t 6, 1, .int)], [2, 3], [4, 5], [1, 2, 3]⟩
  nt := 28
  kt := [0, 1, 6]
  hs := [.dead, .k, .fresh, .fresh]
  X := Bool × List Lock × Int × List Int
  abs := fun vs es => match vs, es with | [.ro y0 .lock y1, .int y2, .bor 1], [.root .int y3 .ok] => some (y0, y1, y2, y3) | _, _ => none
  tms := fun x => [.ro x.1 .lock x.2.1, .int x.2.2.1, .bor 1]
  ets := fun x => [.root .int x.2.2.2 .ok]
  run := fun m x k => l_impl_chain_0 n m x.2.1 x.2.2.1 x.2.2.2 (fun w0 => k .ret ⟨layT [4, 5] [.bor 1, .bool true] 0 28, layH [.dead, .k, .fresh, .fresh] [.root .int w0 .ok]⟩) (fun w0 => k .ret ⟨layT [4, 5] [.nil, .bool false] 0 28, layH [.dead, .k, .fresh, .fresh] [.root .int w0 .ok]⟩)
noncomputable def c_impl_chain_0 : Code := (Go.Proofs.Tryz.f117.body.bind (subLoop 2)).getD .skip
theorem s_impl_chain_0_ok (n : Nat) : LSok Tb tyK (orc [(r_impl_WaitAt n), (r_slices_Contains_int n)]) n a_impl_chain.ann [s_impl_chain_0 n] c_impl_chain_0 (s_impl_chain_0 n) :=
  ⟨by intro vs es x h; dsimp only [s_impl_chain_0] at h; split at h; (· injection h with h; subst h; exact ⟨rfl, rfl⟩); (· cases h), fun _ _ => rfl, fun m x k => by kernel_rfl⟩
theorem r_impl_chain_ok (n : Nat) : RwOk Go.Proofs.Tryz.prog tyK (r_impl_chain n) :=
  ent_ok (fa := a_impl_chain) (ls := [s_impl_chain_0 n]) (cs := [c_impl_chain_0]) (n := n) (es := [(r_impl_WaitAt n), (r_slices_Contains_int n)]) mixedOk tbOk (ents_cons (r_impl_WaitAt_ok n) (ents_cons (r_slices_Contains_int_ok n) ents_nil)) Go.Proofs.Tryz.func117 (by kernel_rfl) (by kernel_rfl) (by kernel_rfl) (LSsOk.cons _ _ (l := s_impl_chain_0 n) (by kernel_rfl) (s_impl_chain_0_ok n) (LSsOk.nil _ _)) (fun x => by kernel_rfl)
/-! loop.example/g00185/impl.LocksOk -/
noncomputable def a_impl_LocksOk : FnA := ⟨Go.Proofs.Tryz.f74, ⟨[(1, [(0, .slot 0 .int)]), (4, [(2, .slot 2 .int)]), (5, [(2, .call [.ro, .ro, .ro] .bool [] [])]), (10, [(1, .call [.ro] .bool [] []), (6, .call [.ro, .ro] .bool [] [])]), (12, [(2, .slot 4 .int), (3, .slot 5 .int)]), (18, [(2, .call [.ro, .ro] (.tup (.pair (.own .int) (.pair .bool .one))) [] [none])])], [], []⟩, 6⟩
def l_impl_LocksOk_1 {α : Type} (n : Nat) : Nat → List Lock → List Int → List Lock → Int → Int → List Int → Int → Int → (List Int → Option α) → (List Int → Option α) → Option α
  | 0, _, _, _, _, _, _, _, _, _, _ => none
  | m1 + 1, v10, v11, v12, v13, v14, v15, v16, v17, k1_0, k1_1 =>
    cond (decide (v17 < v16))
     (cond ((decide (0 ≤ v17)) && (decide (v17 < ((v15).length : Int))))
       ((f_impl_isNo (List.getD v15 (Int.toNat v17) (Kd.dflt .int))).bind fun r18 =>
        cond (!r18.1)
         (k1_0 v11)
         ((f_slices_Contains_int n v11 (List.getD v15 (Int.toNat v17) (Kd.dflt .int))).bind fun r19 =>
          cond r19.1
           (k1_0 v11)
           (let e20 := ([(List.getD v15 (Int.toNat v17) (Kd.dflt .int))] : List Int)
            cond (decide ((v11).length + (e20).length ≤ lim))
             (l_impl_LocksOk_1 n m1 v10 (v11 ++ e20) v12 v13 v14 v15 v16 (w64 (v17 + 1)) k1_0 k1_1)
             (none))))
       (none))
     (k1_1 v11)
def l_impl_LocksOk_0 {α : Type} (n : Nat) : Nat → List Lock → List Int → List Lock → Int → Int → (List Int → Option α) → (List Int → Option α) → (List Int → Option α) → Option α
  | 0, _, _, _, _, _, _, _, _ => none
  | m0 + 1, v1, v2, v3, v4, v5, k0_0, k0_1, k0_2 =>
    cond (decide (v5 < v4))
     (cond ((decide (0 ≤ v5)) && (decide (v5 < ((v3).length : Int))))
       ((f_impl_in ((List.getD v3 (Int.toNat v5) (Kd.dflt .lock)).Owner) 0 1000).bind fun r6 =>
        cond (!r6.1)
         (k0_0 v2)
         (let e7 := (decide ((List.getD v3 (Int.toNat v5) (Kd.dflt .lock)).Owner = 0))
          cond e7
           (let e8 := (((List.getD v3 (Int.toNat v5) (Kd.dflt .lock)).Waits).length : Int)
            cond (decide (0 < e8))
             (k0_0 v2)
             (let e9 := (((List.getD v3 (Int.toNat v5) (Kd.dflt .lock)).Waits).length : Int)
              l_impl_LocksOk_1 n n v1 v2 v3 v4 v5 ((List.getD v3 (Int.toNat v5) (Kd.dflt .lock)).Waits) e9 0
               (fun w21 =>
                k0_1 w21)
               (fun w22 =>
                l_impl_LocksOk_0 n m0 v1 w22 v3 v4 (w64 (v5 + 1)) k0_0 k0_1 k0_2)))
           (let e23 := (((List.getD v3 (Int.toNat v5) (Kd.dflt .lock)).Waits).length : Int)
            l_impl_LocksOk_1 n n v1 v2 v3 v4 v5 ((List.getD v3 (Int.toNat v5) (Kd.dflt .lock)).Waits) e23 0
             (fun w24 =>
              k0_1 w24)
             (fun w25 =>
              l_impl_LocksOk_0 n m0 v1 w25 v3 v4 (w64 (v5 + 1)) k0_0 k0_1 k0_2))))
       (none))
     (k0_2 v2)
def l_impl_LocksOk_2 {α : Type} (n : Nat) : Nat → List Lock → List Int → Int → Int → (Option α) → (Option α) → Option α
  | 0, _, _, _, _, _, _ => none
  | m2 + 1, v29, v30, v31, v32, k2_0, k2_1 =>
    cond (decide (v32 < v31))
     (cond ((decide (0 ≤ v32)) && (decide (v32 < ((v30).length : Int))))
       ((f_impl_chain n v29 (List.getD v30 (Int.toNat v32) (Kd.dflt .int))).bind fun r33 =>
        cond (!r33.1.2.1)
         (k2_0)
         (l_impl_LocksOk_2 n m2 v29 v30 v31 (w64 (v32 + 1)) k2_0 k2_1))
       (none))
     (k2_1)
def f_impl_LocksOk (n : Nat) (a0 : List Lock) : Option (Bool × Unit) :=
  l_impl_LocksOk_0 n n a0 ([] : List Int) a0 ((a0).length : Int) 0
   (fun w26 =>
    some (false, ()))
   (fun w27 =>
    some (false, ()))
   (fun w28 =>
    l_impl_LocksOk_2 n n a0 w28 ((w28).length : Int) 0
     (some (false, ()))
     (some ((decide (((a0).length : Int) ≤ 5)), ())))
def r_impl_LocksOk (n : Nat) : Rw := ⟨74, (.pair (.v (.ro .lock)) .one), (.pair .bool .one), fun x => f_impl_LocksOk n x.1.2⟩
def s_impl_LocksOk_0 (n : Nat) : LS where
  la := ⟨3, [0, 3, 13, 14, 15], [(.t 3, 1, .int)], [2, 3, 4, 5], [0, 2, 3], [1, 3, 4, 5]⟩
  nt := 73
  kt := [0, 3, 13, 14, 15]
  hs := [.dead, .k, .fresh, .fresh, .fresh, .fresh]
  X := Bool × List Lock × List Int × Bool × List Lock × Int × Int
  abs := fun vs es => match vs, es with | [.ro y0 .lock y1, .bor 1, .ro y3 .lock y4, .int y5, .int y6], [.root .int y2 .ok] => some (y0, y1, y2, y3, y4, y5, y6) | _, _ => none
  tms := fun x => [.ro x.1 .lock x.2.1, .bor 1, .ro x.2.2.2.1 .lock x.2.2.2.2.1, .int x.2.2.2.2.2.1, .int x.2.2.2.2.2.2]
  ets := fun x => [.root .int x.2.2.1 .ok]
  run := fun m x k => l_impl_LocksOk_0 n m x.2.1 x.2.2.1 x.2.2.2.2.1 x.2.2.2.2.2.1 x.2.2.2.2.2.2 (fun w0 => k .ret ⟨layT [0, 2, 3] [.ro x.1 .lock x.2.1, .bool false, .bor 1] 0 73, layH [.dead, .k, .dead, .k, .fresh, .fresh] [.root .int w0 .ok, .fresh]⟩) (fun w0 => k .ret ⟨layT [0, 2, 3] [.ro x.1 .lock x.2.1, .bool false, .bor 3] 0 73, layH [.dead, .k, .dead, .k, .fresh, .fresh] [.dead, .root .int w0 .ok]⟩) (fun w0 => k (.exit 0) ⟨layT [0, 3] [.ro x.1 .lock x.2.1, .bor 1] 0 73, layH [.dead, .k, .dead, .k, .fresh, .fresh] [.root .int w0 .ok, .fresh]⟩)
def s_impl_LocksOk_1 (n : Nat) : LS where
  la := ⟨8, [0, 3, 13, 14, 15, 35, 36, 37], [(.t 3, 3, .int)], [4, 5], [0, 2, 3, 13, 14, 15], [3, 4, 5]⟩
  nt := 73
  kt := [0, 3, 13, 14, 15, 35, 36, 37]
  hs := [.dead, .dead, .dead, .k, .fresh, .fresh]
  X := Bool × List Lock × List Int × Bool × List Lock × Int × Int × Bool × List Int × Int × Int
  abs := fun vs es => match vs, es with | [.ro y0 .lock y1, .bor 3, .ro y3 .lock y4, .int y5, .int y6, .ro y7 .int y8, .int y9, .int y10], [.root .int y2 .ok] => some (y0, y1, y2, y3, y4, y5, y6, y7, y8, y9, y10) | _, _ => none
  tms := fun x => [.ro x.1 .lock x.2.1, .bor 3, .ro x.2.2.2.1 .lock x.2.2.2.2.1, .int x.2.2.2.2.2.1, .int x.2.2.2.2.2.2.1, .ro x.2.2.2.2.2.2.2.1 .int x.2.2.2.2.2.2.2.2.1, .int x.2.2.2.2.2.2.2.2.2.1, .int x.2.2.2.2.2.2.2.2.2.2]
  ets := fun x => [.root .int x.2.2.1 .ok]
  run := fun m x k => l_impl_LocksOk_1 n m x.2.1 x.2.2.1 x.2.2.2.2.1 x.2.2.2.2.2.1 x.2.2.2.2.2.2.1 x.2.2.2.2.2.2.2.2.1 x.2.2.2.2.2.2.2.2.2.1 x.2.2.2.2.2.2.2.2.2.2 (fun w0 => k .ret ⟨layT [0, 2, 3, 13, 14, 15] [.ro x.1 .lock x.2.1, .bool false, .bor 3, .ro x.2.2.2.1 .lock x.2.2.2.2.1, .int x.2.2.2.2.2.1, .int x.2.2.2.2.2.2.1] 0 73, layH [.dead, .dead, .dead, .k, .fresh, .fresh] [.root .int w0 .ok]⟩) (fun w0 => k (.exit 2) ⟨layT [0, 3, 13, 14, 15] [.ro x.1 .lock x.2.1, .bor 3, .ro x.2.2.2.1 .lock x.2.2.2.2.1, .int x.2.2.2.2.2.1, .int x.2.2.2.2.2.2.1] 0 73, layH [.dead, .dead, .dead, .k, .fresh, .fresh] [.root .int w0 .ok]⟩)
def s_impl_LocksOk_2 (n : Nat) : LS where
  la := ⟨16, [0, 55, 56, 57], [], [], [0, 2], [3, 4, 5]⟩
  nt := 73
  kt := [0, 55, 56, 57]
  hs := [.dead, .k, .dead, .fresh, .fresh, .fresh]
  X := Bool × List Lock × List Int × Int × Int
  abs := fun vs es => match vs, es with | [.ro y0 .lock y1, .bor 1, .int y3, .int y4], [.root .int y2 .ok] => some (y0, y1, y2, y3, y4) | _, _ => none
  tms := fun x => [.ro x.1 .lock x.2.1, .bor 1, .int x.2.2.2.1, .int x.2.2.2.2]
  ets := fun x => [.root .int x.2.2.1 .ok]
  run := fun m x k => l_impl_LocksOk_2 n m x.2.1 x.2.2.1 x.2.2.2.1 x.2.2.2.2 (k .ret ⟨layT [0, 2] [.ro x.1 .lock x.2.1, .bool false] 0 73, layH [.dead, .dead, .dead, .fresh, .fresh, .fresh] []⟩) (k (.exit 4) ⟨layT [0] [.ro x.1 .lock x.2.1] 0 73, layH [.dead, .dead, .dead, .fresh, .fresh, .fresh] []⟩)
noncomputable def c_impl_LocksOk_0 : Code := (Go.Proofs.Tryz.f74.body.bind (subLoop 3)).getD .skip
noncomputable def c_impl_LocksOk_1 : Code := (Go.Proofs.Tryz.f74.body.bind (subLoop 8)).getD .skip
noncomputable def c_impl_LocksOk_2 : Code := (Go.Proofs.Tryz.f74.body.bind (subLoop 16)).getD .skip
theorem s_impl_LocksOk_0_ok (n : Nat) : LSok Tb tyK (orc [r_impl_in, r_impl_isNo, (r_slices_Contains_int n), (r_impl_chain n)]) n a_impl_LocksOk.ann [s_impl_LocksOk_0 n, s_impl_LocksOk_1 n, s_impl_LocksOk_2 n] c_impl_LocksOk_0 (s_impl_LocksOk_0 n) :=
  ⟨by intro vs es x h; dsimp only [s_impl_LocksOk_0] at h; split at h; (· injection h with h; subst h; exact ⟨rfl, rfl⟩); (· cases h), fun _ _ => rfl, fun m x k => by kernel_rfl⟩
theorem s_impl_LocksOk_1_ok (n : Nat) : LSok Tb tyK (orc [r_impl_in, r_impl_isNo, (r_slices_Contains_int n), (r_impl_chain n)]) n a_impl_LocksOk.ann [s_impl_LocksOk_0 n, s_impl_LocksOk_1 n, s_impl_LocksOk_2 n] c_impl_LocksOk_1 (s_impl_LocksOk_1 n) :=
  ⟨by intro vs es x h; dsimp only [s_impl_LocksOk_1] at h; split at h; (· injection h with h; subst h; exact ⟨rfl, rfl⟩); (· cases h), fun _ _ => rfl, fun m x k => by kernel_rfl⟩
theorem s_impl_LocksOk_2_ok (n : Nat) : LSok Tb tyK (orc [r_impl_in, r_impl_isNo, (r_slices_Contains_int n), (r_impl_chain n)]) n a_impl_LocksOk.ann [s_impl_LocksOk_0 n, s_impl_LocksOk_1 n, s_impl_LocksOk_2 n] c_impl_LocksOk_2 (s_impl_LocksOk_2 n) :=
  ⟨by intro vs es x h; dsimp only [s_impl_LocksOk_2] at h; split at h; (· injection h with h; subst h; exact ⟨rfl, rfl⟩); (· cases h), fun _ _ => rfl, fun m x k => by kernel_rfl⟩
theorem r_impl_LocksOk_ok (n : Nat) : RwOk Go.Proofs.Tryz.prog tyK (r_impl_LocksOk n) :=
  ent_ok (fa := a_impl_LocksOk) (ls := [s_impl_LocksOk_0 n, s_impl_LocksOk_1 n, s_impl_LocksOk_2 n]) (cs := [c_impl_LocksOk_0, c_impl_LocksOk_1, c_impl_LocksOk_2]) (n := n) (es := [r_impl_in, r_impl_isNo, (r_slices_Contains_int n), (r_impl_chain n)]) mixedOk tbOk (ents_cons (r_impl_in_ok) (ents_cons (r_impl_isNo_ok) (ents_cons (r_slices_Contains_int_ok n) (ents_cons (r_impl_chain_ok n) ents_nil)))) Go.Proofs.Tryz.func74 (by kernel_rfl) (by kernel_rfl) (by kernel_rfl) (LSsOk.cons _ _ (l := s_impl_LocksOk_0 n) (by kernel_rfl) (s_impl_LocksOk_0_ok n) (LSsOk.cons _ _ (l := s_impl_LocksOk_1 n) (by kernel_rfl) (s_impl_LocksOk_1_ok n) (LSsOk.cons _ _ (l := s_impl_LocksOk_2 n) (by kernel_rfl) (s_impl_LocksOk_2_ok n) (LSsOk.nil _ _)))) (fun x => by kernel_rfl)
/-! loop.example/g00185/impl.TaskAt$1 -/
noncomputable def a_impl_TaskAt_1 : FnA := ⟨Go.Proofs.Tryz.f104, ⟨[(0, [(0, .slot 0 .int)])], [], []⟩, 1⟩
def f_impl_TaskAt_1 (a0 : Task) (a1_0 : Int) : Option (Bool × Unit) :=
  some ((decide (a0.No = a1_0)), ())
def r_impl_TaskAt_1 : Rw := ⟨104, (.pair (.v (.agg (.pair .int (.pair .int (.pair .int (.pair .int (.pair .bool (.pair .int (.pair .int (.pair .int (.pair .int (.pair .int (.pair .int (.pair .int (.pair .int (.pair .int .one)))))))))))))))) (.pair (.v (.rp (.pair .int .one) 0)) .one)), (.pair .bool .one), fun x => f_impl_TaskAt_1 (⟨x.1.1, x.1.2.1, x.1.2.2.1, x.1.2.2.2.1, x.1.2.2.2.2.1, x.1.2.2.2.2.2.1, x.1.2.2.2.2.2.2.1, x.1.2.2.2.2.2.2.2.1, x.1.2.2.2.2.2.2.2.2.1, x.1.2.2.2.2.2.2.2.2.2.1, x.1.2.2.2.2.2.2.2.2.2.2.1, x.1.2.2.2.2.2.2.2.2.2.2.2.1, x.1.2.2.2.2.2.2.2.2.2.2.2.2.1, x.1.2.2.2.2.2.2.2.2.2.2.2.2.2.1⟩ : Task) x.2.1.1⟩
theorem r_impl_TaskAt_1_ok : RwOk Go.Proofs.Tryz.prog tyK (r_impl_TaskAt_1) :=
  ent_ok (fa := a_impl_TaskAt_1) (ls := []) (cs := []) (n := 0) (es := []) mixedOk tbOk ents_nil Go.Proofs.Tryz.func104 (by kernel_rfl) (by kernel_rfl) (by kernel_rfl) (LSsOk.nil _ _) (fun x => by kernel_rfl)
/-! slices.IndexFunc[[]loop.example/g00185/impl.Task,loop.example/g00185/impl.Task] -/
noncomputable def a_slices_IndexFunc_Task_TaskAt_1 : FnA := ⟨Go.Proofs.Tryz.f103, ⟨[(4, [(5, .call [.ro] .bool [] [])])], [], []⟩, 0⟩
def l_slices_IndexFunc_Task_TaskAt_1_0 {α : Type} (n : Nat) : Nat → List Task → Int → Int → Int → (Int → Option α) → (Option α) → Option α
  | 0, _, _, _, _, _, _ => none
  | m0 + 1, v1, v2, v3, v4, k0_0, k0_1 =>
    cond (decide (v4 < v3))
     (cond ((decide (0 ≤ v4)) && (decide (v4 < ((v1).length : Int))))
       ((f_impl_TaskAt_1 (List.getD v1 (Int.toNat v4) (Kd.dflt .task)) v2).bind fun r5 =>
        cond r5.1
         (k0_0 v4)
         (l_slices_IndexFunc_Task_TaskAt_1_0 n m0 v1 v2 v3 (w64 (v4 + 1)) k0_0 k0_1))
       (none))
     (k0_1)
def f_slices_IndexFunc_Task_TaskAt_1 (n : Nat) (a0 : List Task) (a1_0_0 : Int) : Option (Int × Unit) :=
  l_slices_IndexFunc_Task_TaskAt_1_0 n n a0 a1_0_0 ((a0).length : Int) 0
   (fun w6 =>
    some (w6, ()))
   (some ((-1), ()))
def r_slices_IndexFunc_Task_TaskAt_1 (n : Nat) : Rw := ⟨103, (.pair (.v (.ro .task)) (.pair (.v (.clo 104 (.pair (.rp (.pair .int .one) 0) .one))) .one)), (.pair .int .one), fun x => f_slices_IndexFunc_Task_TaskAt_1 n x.1.2 x.2.1.1.1⟩
def s_slices_IndexFunc_Task_TaskAt_1_0 (n : Nat) : LS where
  la := ⟨2, [0, 1, 7, 8], [], [], [4], []⟩
  nt := 19
  kt := [0, 1, 7, 8]
  hs := []
  X := Bool × List Task × Int × Int × Int
  abs := fun vs es => match vs, es with | [.ro y0 .task y1, .clo 104 [.rp [.int y2] 0], .int y3, .int y4], [] => some (y0, y1, y2, y3, y4) | _, _ => none
  tms := fun x => [.ro x.1 .task x.2.1, .clo 104 [.rp [.int x.2.2.1] 0], .int x.2.2.2.1, .int x.2.2.2.2]
  ets := fun x => []
  run := fun m x k => l_slices_IndexFunc_Task_TaskAt_1_0 n m x.2.1 x.2.2.1 x.2.2.2.1 x.2.2.2.2 (fun w0 => k .ret ⟨layT [4] [.int w0] 0 19, layH [] []⟩) (k (.exit 0) ⟨layT [] [] 0 19, layH [] []⟩)
noncomputable def c_slices_IndexFunc_Task_TaskAt_1_0 : Code := (Go.Proofs.Tryz.f103.body.bind (subLoop 2)).getD .skip
theorem s_slices_IndexFunc_Task_TaskAt_1_0_ok (n : Nat) : LSok Tb tyK (orc [r_impl_TaskAt_1]) n a_slices_IndexFunc_Task_TaskAt_1.ann [s_slices_IndexFunc_Task_TaskAt_1_0 n] c_slices_IndexFunc_Task_TaskAt_1_0 (s_slices_IndexFunc_Task_TaskAt_1_0 n) :=
  ⟨by intro vs es x h; dsimp only [s_slices_IndexFunc_Task_TaskAt_1_0] at h; split at h; (· injection h with h; subst h; exact ⟨rfl, rfl⟩); (· cases h), fun _ _ => rfl, fun m x k => by kernel_rfl⟩
theorem r_slices_IndexFunc_Task_TaskAt_1_ok (n : Nat) : RwOk Go.Proofs.Tryz.prog tyK (r_slices_IndexFunc_Task_TaskAt_1 n) :=
  ent_ok (fa := a_slices_IndexFunc_Task_TaskAt_1) (ls := [s_slices_IndexFunc_Task_TaskAt_1_0 n]) (cs := [c_slices_IndexFunc_Task_TaskAt_1_0]) (n := n) (es := [r_impl_TaskAt_1]) mixedOk tbOk (ents_cons (r_impl_TaskAt_1_ok) ents_nil) Go.Proofs.Tryz.func103 (by kernel_rfl) (by kernel_rfl) (by kernel_rfl) (LSsOk.cons _ _ (l := s_slices_IndexFunc_Task_TaskAt_1_0 n) (by kernel_rfl) (s_slices_IndexFunc_Task_TaskAt_1_0_ok n) (LSsOk.nil _ _)) (fun x => by kernel_rfl)
/-! loop.example/g00185/impl.TaskAt -/
noncomputable def a_impl_TaskAt : FnA := ⟨Go.Proofs.Tryz.f44, ⟨[(0, [(0, .slot 0 .int)]), (1, [(2, .call [.ro, .ro] .int [] [])])], [], []⟩, 1⟩
def f_impl_TaskAt (n : Nat) (a0 : List Task) (a1 : Int) : Option (Int × Unit) :=
  (f_slices_IndexFunc_Task_TaskAt_1 n a0 a1).bind fun r1 =>
  some (r1.1, ())
def r_impl_TaskAt (n : Nat) : Rw := ⟨44, (.pair (.v (.ro .task)) (.pair (.v (.int)) .one)), (.pair .int .one), fun x => f_impl_TaskAt n x.1.2 x.2.1⟩
theorem r_impl_TaskAt_ok (n : Nat) : RwOk Go.Proofs.Tryz.prog tyK (r_impl_TaskAt n) :=
  ent_ok (fa := a_impl_TaskAt) (ls := []) (cs := []) (n := n) (es := [(r_slices_IndexFunc_Task_TaskAt_1 n)]) mixedOk tbOk (ents_cons (r_slices_IndexFunc_Task_TaskAt_1_ok n) ents_nil) Go.Proofs.Tryz.func44 (by kernel_rfl) (by kernel_rfl) (by kernel_rfl) (LSsOk.nil _ _) (fun x => by kernel_rfl)
/-! loop.example/g00185/impl.lockOn -/
noncomputable def a_impl_lockOn : FnA := ⟨Go.Proofs.Tryz.f77, ⟨[(0, [(0, .slot 0 .int)]), (2, [(2, .slot 1 .int), (5, .slot 2 .int)]), (6, [(2, .call [.ro, .ro] .int [] [])])], [], []⟩, 3⟩
def l_impl_lockOn_0 {α : Type} (n : Nat) : Nat → List Task → Int → List Int → Int → Int → (Option α) → (Option α) → Option α
  | 0, _, _, _, _, _, _, _ => none
  | m0 + 1, v1, v2, v3, v4, v5, k0_0, k0_1 =>
    cond (decide (v5 < v4))
     (cond ((decide (0 ≤ v5)) && (decide (v5 < ((v3).length : Int))))
       (cond (decide ((List.getD v3 (Int.toNat v5) (Kd.dflt .int)) = 0))
         (l_impl_lockOn_0 n m0 v1 v2 v3 v4 (w64 (v5 + 1)) k0_0 k0_1)
         ((f_impl_TaskAt n v1 (List.getD v3 (Int.toNat v5) (Kd.dflt .int))).bind fun r6 =>
          cond (decide (r6.1 < 0))
           (k0_0)
           (cond (decide (0 ≤ v2))
             (cond ((decide (0 ≤ r6.1)) && (decide (r6.1 < ((v1).length : Int))))
               (let e7 := (!(decide ((List.getD v1 (Int.toNat r6.1) (Kd.dflt .task)).Cpu = v2)))
                cond e7
                 (k0_0)
                 (cond ((decide (0 ≤ r6.1)) && (decide (r6.1 < ((v1).length : Int))))
                   (l_impl_lockOn_0 n m0 v1 ((List.getD v1 (Int.toNat r6.1) (Kd.dflt .task)).Cpu) v3 v4 (w64 (v5 + 1)) k0_0 k0_1)
                   (none)))
               (none))
             (cond ((decide (0 ≤ r6.1)) && (decide (r6.1 < ((v1).length : Int))))
               (l_impl_lockOn_0 n m0 v1 ((List.getD v1 (Int.toNat r6.1) (Kd.dflt .task)).Cpu) v3 v4 (w64 (v5 + 1)) k0_0 k0_1)
               (none)))))
       (none))
     (k0_1)
def f_impl_lockOn (n : Nat) (a0 : List Task) (a1 : Lock) : Option (Bool × Unit) :=
  cond (decide ((([a1.Owner] : List Int)).length + (a1.Waits).length ≤ lim))
   (l_impl_lockOn_0 n n a0 (-1) (([a1.Owner] : List Int) ++ a1.Waits) (((([a1.Owner] : List Int) ++ a1.Waits)).length : Int) 0
     (some (false, ()))
     (some (true, ())))
   (none)
def r_impl_lockOn (n : Nat) : Rw := ⟨77, (.pair (.v (.ro .task)) (.pair (.v (.agg (.pair .int (.pair (.ro .int) .one)))) .one)), (.pair .bool .one), fun x => f_impl_lockOn n x.1.2 (⟨x.2.1.1, x.2.1.2.1.2⟩ : Lock)⟩
def s_impl_lockOn_0 (n : Nat) : LS where
  la := ⟨3, [0, 5, 14, 15, 16], [], [], [4], []⟩
  nt := 46
  kt := [0, 5, 14, 15, 16]
  hs := [.dead, .dead, .k]
  X := Bool × List Task × Int × List Int × Int × Int
  abs := fun vs es => match vs, es with | [.ro y0 .task y1, .int y2, .bor 2, .int y4, .int y5], [.root .int y3 .ok] => some (y0, y1, y2, y3, y4, y5) | _, _ => none
  tms := fun x => [.ro x.1 .task x.2.1, .int x.2.2.1, .bor 2, .int x.2.2.2.2.1, .int x.2.2.2.2.2]
  ets := fun x => [.root .int x.2.2.2.1 .ok]
  run := fun m x k => l_impl_lockOn_0 n m x.2.1 x.2.2.1 x.2.2.2.1 x.2.2.2.2.1 x.2.2.2.2.2 (k .ret ⟨layT [4] [.bool false] 0 46, layH [.dead, .dead, .dead] []⟩) (k (.exit 0) ⟨layT [] [] 0 46, layH [.dead, .dead, .dead] []⟩)
noncomputable def c_impl_lockOn_0 : Code := (Go.Proofs.Tryz.f77.body.bind (subLoop 3)).getD .skip
theorem s_impl_lockOn_0_ok (n : Nat) : LSok Tb tyK (orc [(r_impl_TaskAt n)]) n a_impl_lockOn.ann [s_impl_lockOn_0 n] c_impl_lockOn_0 (s_impl_lockOn_0 n) :=
  ⟨by intro vs es x h; dsimp only [s_impl_lockOn_0] at h; split at h; (· injection h with h; subst h; exact ⟨rfl, rfl⟩); (· cases h), fun _ _ => rfl, fun m x k => by kernel_rfl⟩
theorem r_impl_lockOn_ok (n : Nat) : RwOk Go.Proofs.Tryz.prog tyK (r_impl_lockOn n) :=
  ent_ok (fa := a_impl_lockOn) (ls := [s_impl_lockOn_0 n]) (cs := [c_impl_lockOn_0]) (n := n) (es := [(r_impl_TaskAt n)]) mixedOk tbOk (ents_cons (r_impl_TaskAt_ok n) ents_nil) Go.Proofs.Tryz.func77 (by kernel_rfl) (by kernel_rfl) (by kernel_rfl) (LSsOk.cons _ _ (l := s_impl_lockOn_0 n) (by kernel_rfl) (s_impl_lockOn_0_ok n) (LSsOk.nil _ _)) (fun x => by kernel_rfl)
/-! loop.example/g00185/impl.SysOk$2 -/
noncomputable def a_impl_SysOk_2 : FnA := ⟨Go.Proofs.Tryz.f76, ⟨[(0, [(0, .slot 0 .int)]), (1, [(3, .call [.ro, .ro] .bool [] [])])], [], []⟩, 1⟩
def f_impl_SysOk_2 (n : Nat) (a0 : Lock) (a1 : Sys) : Option (Bool × Unit) :=
  (f_impl_lockOn n a1.Tasks a0).bind fun r1 =>
  some ((!r1.1), ())
def r_impl_SysOk_2 (n : Nat) : Rw := ⟨76, (.pair (.v (.agg (.pair .int (.pair (.ro .int) .one)))) (.pair (.v (.rp (.pair .int (.pair .int (.pair (.ro .task) (.pair (.ro .lock) (.pair (.ro .ghost) (.pair (.ro .int) (.pair .int (.pair .int (.pair (.ro .turn) .one))))))))) 0)) .one)), (.pair .bool .one), fun x => f_impl_SysOk_2 n (⟨x.1.1, x.1.2.1.2⟩ : Lock) (⟨x.2.1.1, x.2.1.2.1, x.2.1.2.2.1.2, x.2.1.2.2.2.1.2, x.2.1.2.2.2.2.1.2, x.2.1.2.2.2.2.2.1.2, x.2.1.2.2.2.2.2.2.1, x.2.1.2.2.2.2.2.2.2.1, x.2.1.2.2.2.2.2.2.2.2.1.2⟩ : Sys)⟩
theorem r_impl_SysOk_2_ok (n : Nat) : RwOk Go.Proofs.Tryz.prog tyK (r_impl_SysOk_2 n) :=
  ent_ok (fa := a_impl_SysOk_2) (ls := []) (cs := []) (n := n) (es := [(r_impl_lockOn n)]) mixedOk tbOk (ents_cons (r_impl_lockOn_ok n) ents_nil) Go.Proofs.Tryz.func76 (by kernel_rfl) (by kernel_rfl) (by kernel_rfl) (LSsOk.nil _ _) (fun x => by kernel_rfl)
end Go.Proofs.YtjgkeaiibdodfaaGreat.VR
