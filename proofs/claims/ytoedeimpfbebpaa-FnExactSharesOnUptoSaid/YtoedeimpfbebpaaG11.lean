/- Functions, printed by program (wip/gen/emit.py). -/
import Derived.Test.YtoedeimpfbebpaaG10
set_option linter.unusedVariables false
set_option maxRecDepth 100000
namespace Go.Proofs.Ytoedeimpfbebpaa.VR
open Go
/-! slices.IndexFunc[[]loop.example/g00185/impl.Lock,loop.example/g00185/impl.Lock] -/
noncomputable def a_slices_IndexFunc_Lock_SysOk_2 : FnA := ⟨Go.Proofs.Try.f133, ⟨[(4, [(5, .call [.ro] .bool [] [])])], [], []⟩, 0⟩
def l_slices_IndexFunc_Lock_SysOk_2_0 {α : Type} (n : Nat) : Nat → List Lock → Sys → Int → Int → (Int → Option α) → (Option α) → Option α
  | 0, _, _, _, _, _, _ => none
  | m0 + 1, v1, v2, v3, v4, k0_0, k0_1 =>
    cond (decide (v4 < v3))
     (cond ((decide (0 ≤ v4)) && (decide (v4 < ((v1).length : Int))))
       ((f_impl_SysOk_2 n (List.getD v1 (Int.toNat v4) (Kd.dflt .lock)) v2).bind fun r5 =>
        cond r5.1
         (k0_0 v4)
         (l_slices_IndexFunc_Lock_SysOk_2_0 n m0 v1 v2 v3 (w64 (v4 + 1)) k0_0 k0_1))
       (none))
     (k0_1)
def f_slices_IndexFunc_Lock_SysOk_2 (n : Nat) (a0 : List Lock) (a1_0 : Sys) : Option (Int × Unit) :=
  l_slices_IndexFunc_Lock_SysOk_2_0 n n a0 a1_0 ((a0).length : Int) 0
   (fun w6 =>
    some (w6, ()))
   (some ((-1), ()))
def r_slices_IndexFunc_Lock_SysOk_2 (n : Nat) : Rw := ⟨133, (.pair (.v (.ro .lock)) (.pair (.v (.clo 106 (.pair (.rp (.pair .int (.pair .int (.pair (.ro .task) (.pair (.ro .lock) (.pair (.ro .ghost) (.pair (.ro .int) (.pair .int (.pair .int (.pair (.ro .turn) .one))))))))) 0) .one))) .one)), (.pair .int .one), fun x => f_slices_IndexFunc_Lock_SysOk_2 n x.1.2 (⟨x.2.1.1.1, x.2.1.1.2.1, x.2.1.1.2.2.1.2, x.2.1.1.2.2.2.1.2, x.2.1.1.2.2.2.2.1.2, x.2.1.1.2.2.2.2.2.1.2, x.2.1.1.2.2.2.2.2.2.1, x.2.1.1.2.2.2.2.2.2.2.1, x.2.1.1.2.2.2.2.2.2.2.2.1.2⟩ : Sys)⟩
def s_slices_IndexFunc_Lock_SysOk_2_0 (n : Nat) : LS where
  la := ⟨2, [0, 1, 7, 8], [], [], [4], []⟩
  nt := 19
  kt := [0, 1, 7, 8]
  hs := []
  X := Bool × List Lock × Int × Int × Bool × List Task × Bool × List Lock × Bool × List Ghost × Bool × List Int × Int × Int × Bool × List Turn × Int × Int
  abs := fun vs es => match vs, es with | [.ro y0 .lock y1, .clo 106 [.rp [.int y2, .int y3, .ro y4 .task y5, .ro y6 .lock y7, .ro y8 .ghost y9, .ro y10 .int y11, .int y12, .int y13, .ro y14 .turn y15] 0], .int y16, .int y17], [] => some (y0, y1, y2, y3, y4, y5, y6, y7, y8, y9, y10, y11, y12, y13, y14, y15, y16, y17) | _, _ => none
  tms := fun x => [.ro x.1 .lock x.2.1, .clo 106 [.rp [.int x.2.2.1, .int x.2.2.2.1, .ro x.2.2.2.2.1 .task x.2.2.2.2.2.1, .ro x.2.2.2.2.2.2.1 .lock x.2.2.2.2.2.2.2.1, .ro x.2.2.2.2.2.2.2.2.1 .ghost x.2.2.2.2.2.2.2.2.2.1, .ro x.2.2.2.2.2.2.2.2.2.2.1 .int x.2.2.2.2.2.2.2.2.2.2.2.1, .int x.2.2.2.2.2.2.2.2.2.2.2.2.1, .int x.2.2.2.2.2.2.2.2.2.2.2.2.2.1, .ro x.2.2.2.2.2.2.2.2.2.2.2.2.2.2.1 .turn x.2.2.2.2.2.2.2.2.2.2.2.2.2.2.2.1] 0], .int x.2.2.2.2.2.2.2.2.2.2.2.2.2.2.2.2.1, .int x.2.2.2.2.2.2.2.2.2.2.2.2.2.2.2.2.2]
  ets := fun x => []
  run := fun m x k => l_slices_IndexFunc_Lock_SysOk_2_0 n m x.2.1 (⟨x.2.2.1, x.2.2.2.1, x.2.2.2.2.2.1, x.2.2.2.2.2.2.2.1, x.2.2.2.2.2.2.2.2.2.1, x.2.2.2.2.2.2.2.2.2.2.2.1, x.2.2.2.2.2.2.2.2.2.2.2.2.1, x.2.2.2.2.2.2.2.2.2.2.2.2.2.1, x.2.2.2.2.2.2.2.2.2.2.2.2.2.2.2.1⟩ : Sys) x.2.2.2.2.2.2.2.2.2.2.2.2.2.2.2.2.1 x.2.2.2.2.2.2.2.2.2.2.2.2.2.2.2.2.2 (fun w0 => k .ret ⟨layT [4] [.int w0] 0 19, layH [] []⟩) (k (.exit 0) ⟨layT [] [] 0 19, layH [] []⟩)
noncomputable def c_slices_IndexFunc_Lock_SysOk_2_0 : Code := (Go.Proofs.Try.f133.body.bind (subLoop 2)).getD .skip
theorem s_slices_IndexFunc_Lock_SysOk_2_0_ok (n : Nat) : LSok Tb tyK (orc [(r_impl_SysOk_2 n)]) n a_slices_IndexFunc_Lock_SysOk_2.ann [s_slices_IndexFunc_Lock_SysOk_2_0 n] c_slices_IndexFunc_Lock_SysOk_2_0 (s_slices_IndexFunc_Lock_SysOk_2_0 n) :=
  ⟨by intro vs es x h; dsimp only [s_slices_IndexFunc_Lock_SysOk_2_0] at h; split at h; (· injection h with h; subst h; exact ⟨rfl, rfl⟩); (· cases h), fun _ _ => rfl, fun m x k => by kernel_rfl⟩
theorem r_slices_IndexFunc_Lock_SysOk_2_ok (n : Nat) : RwOk Go.Proofs.Try.prog tyK (r_slices_IndexFunc_Lock_SysOk_2 n) :=
  ent_ok (fa := a_slices_IndexFunc_Lock_SysOk_2) (ls := [s_slices_IndexFunc_Lock_SysOk_2_0 n]) (cs := [c_slices_IndexFunc_Lock_SysOk_2_0]) (n := n) (es := [(r_impl_SysOk_2 n)]) mixedOk tbOk (ents_cons (r_impl_SysOk_2_ok n) ents_nil) Go.Proofs.Try.func133 (by kernel_rfl) (by kernel_rfl) (by kernel_rfl) (LSsOk.cons _ _ (l := s_slices_IndexFunc_Lock_SysOk_2_0 n) (by kernel_rfl) (s_slices_IndexFunc_Lock_SysOk_2_0_ok n) (LSsOk.nil _ _)) (fun x => by kernel_rfl)
/-! slices.ContainsFunc[[]loop.example/g00185/impl.Lock,loop.example/g00185/impl.Lock] -/
noncomputable def a_slices_ContainsFunc_Lock_SysOk_2 : FnA := ⟨Go.Proofs.Try.f105, ⟨[(1, [(2, .call [.ro, .ro] .int [] [])])], [], []⟩, 0⟩
def f_slices_ContainsFunc_Lock_SysOk_2 (n : Nat) (a0 : List Lock) (a1_0 : Sys) : Option (Bool × Unit) :=
  (f_slices_IndexFunc_Lock_SysOk_2 n a0 a1_0).bind fun r1 =>
  some ((decide (0 ≤ r1.1)), ())
def r_slices_ContainsFunc_Lock_SysOk_2 (n : Nat) : Rw := ⟨105, (.pair (.v (.ro .lock)) (.pair (.v (.clo 106 (.pair (.rp (.pair .int (.pair .int (.pair (.ro .task) (.pair (.ro .lock) (.pair (.ro .ghost) (.pair (.ro .int) (.pair .int (.pair .int (.pair (.ro .turn) .one))))))))) 0) .one))) .one)), (.pair .bool .one), fun x => f_slices_ContainsFunc_Lock_SysOk_2 n x.1.2 (⟨x.2.1.1.1, x.2.1.1.2.1, x.2.1.1.2.2.1.2, x.2.1.1.2.2.2.1.2, x.2.1.1.2.2.2.2.1.2, x.2.1.1.2.2.2.2.2.1.2, x.2.1.1.2.2.2.2.2.2.1, x.2.1.1.2.2.2.2.2.2.2.1, x.2.1.1.2.2.2.2.2.2.2.2.1.2⟩ : Sys)⟩
theorem r_slices_ContainsFunc_Lock_SysOk_2_ok (n : Nat) : RwOk Go.Proofs.Try.prog tyK (r_slices_ContainsFunc_Lock_SysOk_2 n) :=
  ent_ok (fa := a_slices_ContainsFunc_Lock_SysOk_2) (ls := []) (cs := []) (n := n) (es := [(r_slices_IndexFunc_Lock_SysOk_2 n)]) mixedOk tbOk (ents_cons (r_slices_IndexFunc_Lock_SysOk_2_ok n) ents_nil) Go.Proofs.Try.func105 (by kernel_rfl) (by kernel_rfl) (by kernel_rfl) (LSsOk.nil _ _) (fun x => by kernel_rfl)
/-! loop.example/g00185/impl.ghostOk -/
noncomputable def a_impl_ghostOk : FnA := ⟨Go.Proofs.Try.f110, ⟨[(0, [(0, .slot 0 .int)]), (1, [(4, .call [.ro, .ro, .ro] .bool [] []), (8, .call [.ro] .bool [] []), (13, .call [.ro] .bool [] [])])], [], []⟩, 1⟩
def f_impl_ghostOk (a0 : Ghost) (a1 : Int) : Option (Bool × Unit) :=
  (f_impl_in a0.Cpu 0 (w64 (a1 - 1))).bind fun r1 =>
  cond r1.1
   ((f_impl_ShareOk a0.S).bind fun r2 =>
    cond r2.1
     ((f_impl_isUntil a0.Until).bind fun r3 =>
      some (r3.1, ()))
     (some (false, ())))
   (some (false, ()))
def r_impl_ghostOk : Rw := ⟨110, (.pair (.v (.agg (.pair .int (.pair .int (.pair .int (.pair .int .one)))))) (.pair (.v (.int)) .one)), (.pair .bool .one), fun x => f_impl_ghostOk (⟨x.1.1, ⟨x.1.2.1, x.1.2.2.1⟩, x.1.2.2.2.1⟩ : Ghost) x.2.1⟩
theorem r_impl_ghostOk_ok : RwOk Go.Proofs.Try.prog tyK (r_impl_ghostOk) :=
  ent_ok (fa := a_impl_ghostOk) (ls := []) (cs := []) (n := 0) (es := [r_impl_in, r_impl_ShareOk, r_impl_isUntil]) mixedOk tbOk (ents_cons (r_impl_in_ok) (ents_cons (r_impl_ShareOk_ok) (ents_cons (r_impl_isUntil_ok) ents_nil))) Go.Proofs.Try.func110 (by kernel_rfl) (by kernel_rfl) (by kernel_rfl) (LSsOk.nil _ _) (fun x => by kernel_rfl)
/-! loop.example/g00185/impl.SysOk$3 -/
noncomputable def a_impl_SysOk_3 : FnA := ⟨Go.Proofs.Try.f109, ⟨[(0, [(0, .slot 0 .int)]), (1, [(3, .call [.ro, .ro] .bool [] [])])], [], []⟩, 1⟩
def f_impl_SysOk_3 (a0 : Ghost) (a1 : Sys) : Option (Bool × Unit) :=
  (f_impl_ghostOk a0 a1.Cpus).bind fun r1 =>
  some ((!r1.1), ())
def r_impl_SysOk_3 : Rw := ⟨109, (.pair (.v (.agg (.pair .int (.pair .int (.pair .int (.pair .int .one)))))) (.pair (.v (.rp (.pair .int (.pair .int (.pair (.ro .task) (.pair (.ro .lock) (.pair (.ro .ghost) (.pair (.ro .int) (.pair .int (.pair .int (.pair (.ro .turn) .one))))))))) 0)) .one)), (.pair .bool .one), fun x => f_impl_SysOk_3 (⟨x.1.1, ⟨x.1.2.1, x.1.2.2.1⟩, x.1.2.2.2.1⟩ : Ghost) (⟨x.2.1.1, x.2.1.2.1, x.2.1.2.2.1.2, x.2.1.2.2.2.1.2, x.2.1.2.2.2.2.1.2, x.2.1.2.2.2.2.2.1.2, x.2.1.2.2.2.2.2.2.1, x.2.1.2.2.2.2.2.2.2.1, x.2.1.2.2.2.2.2.2.2.2.1.2⟩ : Sys)⟩
theorem r_impl_SysOk_3_ok : RwOk Go.Proofs.Try.prog tyK (r_impl_SysOk_3) :=
  ent_ok (fa := a_impl_SysOk_3) (ls := []) (cs := []) (n := 0) (es := [r_impl_ghostOk]) mixedOk tbOk (ents_cons (r_impl_ghostOk_ok) ents_nil) Go.Proofs.Try.func109 (by kernel_rfl) (by kernel_rfl) (by kernel_rfl) (LSsOk.nil _ _) (fun x => by kernel_rfl)
/-! slices.IndexFunc[[]loop.example/g00185/impl.Ghost,loop.example/g00185/impl.Ghost] -/
noncomputable def a_slices_IndexFunc_Ghost_SysOk_3 : FnA := ⟨Go.Proofs.Try.f134, ⟨[(4, [(5, .call [.ro] .bool [] [])])], [], []⟩, 0⟩
def l_slices_IndexFunc_Ghost_SysOk_3_0 {α : Type} (n : Nat) : Nat → List Ghost → Sys → Int → Int → (Int → Option α) → (Option α) → Option α
  | 0, _, _, _, _, _, _ => none
  | m0 + 1, v1, v2, v3, v4, k0_0, k0_1 =>
    cond (decide (v4 < v3))
     (cond ((decide (0 ≤ v4)) && (decide (v4 < ((v1).length : Int))))
       ((f_impl_SysOk_3 (List.getD v1 (Int.toNat v4) (Kd.dflt .ghost)) v2).bind fun r5 =>
        cond r5.1
         (k0_0 v4)
         (l_slices_IndexFunc_Ghost_SysOk_3_0 n m0 v1 v2 v3 (w64 (v4 + 1)) k0_0 k0_1))
       (none))
     (k0_1)
def f_slices_IndexFunc_Ghost_SysOk_3 (n : Nat) (a0 : List Ghost) (a1_0 : Sys) : Option (Int × Unit) :=
  l_slices_IndexFunc_Ghost_SysOk_3_0 n n a0 a1_0 ((a0).length : Int) 0
   (fun w6 =>
    some (w6, ()))
   (some ((-1), ()))
def r_slices_IndexFunc_Ghost_SysOk_3 (n : Nat) : Rw := ⟨134, (.pair (.v (.ro .ghost)) (.pair (.v (.clo 109 (.pair (.rp (.pair .int (.pair .int (.pair (.ro .task) (.pair (.ro .lock) (.pair (.ro .ghost) (.pair (.ro .int) (.pair .int (.pair .int (.pair (.ro .turn) .one))))))))) 0) .one))) .one)), (.pair .int .one), fun x => f_slices_IndexFunc_Ghost_SysOk_3 n x.1.2 (⟨x.2.1.1.1, x.2.1.1.2.1, x.2.1.1.2.2.1.2, x.2.1.1.2.2.2.1.2, x.2.1.1.2.2.2.2.1.2, x.2.1.1.2.2.2.2.2.1.2, x.2.1.1.2.2.2.2.2.2.1, x.2.1.1.2.2.2.2.2.2.2.1, x.2.1.1.2.2.2.2.2.2.2.2.1.2⟩ : Sys)⟩
def s_slices_IndexFunc_Ghost_SysOk_3_0 (n : Nat) : LS where
  la := ⟨2, [0, 1, 7, 8], [], [], [4], []⟩
  nt := 19
  kt := [0, 1, 7, 8]
  hs := []
  X := Bool × List Ghost × Int × Int × Bool × List Task × Bool × List Lock × Bool × List Ghost × Bool × List Int × Int × Int × Bool × List Turn × Int × Int
  abs := fun vs es => match vs, es with | [.ro y0 .ghost y1, .clo 109 [.rp [.int y2, .int y3, .ro y4 .task y5, .ro y6 .lock y7, .ro y8 .ghost y9, .ro y10 .int y11, .int y12, .int y13, .ro y14 .turn y15] 0], .int y16, .int y17], [] => some (y0, y1, y2, y3, y4, y5, y6, y7, y8, y9, y10, y11, y12, y13, y14, y15, y16, y17) | _, _ => none
  tms := fun x => [.ro x.1 .ghost x.2.1, .clo 109 [.rp [.int x.2.2.1, .int x.2.2.2.1, .ro x.2.2.2.2.1 .task x.2.2.2.2.2.1, .ro x.2.2.2.2.2.2.1 .lock x.2.2.2.2.2.2.2.1, .ro x.2.2.2.2.2.2.2.2.1 .ghost x.2.2.2.2.2.2.2.2.2.1, .ro x.2.2.2.2.2.2.2.2.2.2.1 .int x.2.2.2.2.2.2.2.2.2.2.2.1, .int x.2.2.2.2.2.2.2.2.2.2.2.2.1, .int x.2.2.2.2.2.2.2.2.2.2.2.2.2.1, .ro x.2.2.2.2.2.2.2.2.2.2.2.2.2.2.1 .turn x.2.2.2.2.2.2.2.2.2.2.2.2.2.2.2.1] 0], .int x.2.2.2.2.2.2.2.2.2.2.2.2.2.2.2.2.1, .int x.2.2.2.2.2.2.2.2.2.2.2.2.2.2.2.2.2]
  ets := fun x => []
  run := fun m x k => l_slices_IndexFunc_Ghost_SysOk_3_0 n m x.2.1 (⟨x.2.2.1, x.2.2.2.1, x.2.2.2.2.2.1, x.2.2.2.2.2.2.2.1, x.2.2.2.2.2.2.2.2.2.1, x.2.2.2.2.2.2.2.2.2.2.2.1, x.2.2.2.2.2.2.2.2.2.2.2.2.1, x.2.2.2.2.2.2.2.2.2.2.2.2.2.1, x.2.2.2.2.2.2.2.2.2.2.2.2.2.2.2.1⟩ : Sys) x.2.2.2.2.2.2.2.2.2.2.2.2.2.2.2.2.1 x.2.2.2.2.2.2.2.2.2.2.2.2.2.2.2.2.2 (fun w0 => k .ret ⟨layT [4] [.int w0] 0 19, layH [] []⟩) (k (.exit 0) ⟨layT [] [] 0 19, layH [] []⟩)
noncomputable def c_slices_IndexFunc_Ghost_SysOk_3_0 : Code := (Go.Proofs.Try.f134.body.bind (subLoop 2)).getD .skip
theorem s_slices_IndexFunc_Ghost_SysOk_3_0_ok (n : Nat) : LSok Tb tyK (orc [r_impl_SysOk_3]) n a_slices_IndexFunc_Ghost_SysOk_3.ann [s_slices_IndexFunc_Ghost_SysOk_3_0 n] c_slices_IndexFunc_Ghost_SysOk_3_0 (s_slices_IndexFunc_Ghost_SysOk_3_0 n) :=
  ⟨by intro vs es x h; dsimp only [s_slices_IndexFunc_Ghost_SysOk_3_0] at h; split at h; (· injection h with h; subst h; exact ⟨rfl, rfl⟩); (· cases h), fun _ _ => rfl, fun m x k => by kernel_rfl⟩
theorem r_slices_IndexFunc_Ghost_SysOk_3_ok (n : Nat) : RwOk Go.Proofs.Try.prog tyK (r_slices_IndexFunc_Ghost_SysOk_3 n) :=
  ent_ok (fa := a_slices_IndexFunc_Ghost_SysOk_3) (ls := [s_slices_IndexFunc_Ghost_SysOk_3_0 n]) (cs := [c_slices_IndexFunc_Ghost_SysOk_3_0]) (n := n) (es := [r_impl_SysOk_3]) mixedOk tbOk (ents_cons (r_impl_SysOk_3_ok) ents_nil) Go.Proofs.Try.func134 (by kernel_rfl) (by kernel_rfl) (by kernel_rfl) (LSsOk.cons _ _ (l := s_slices_IndexFunc_Ghost_SysOk_3_0 n) (by kernel_rfl) (s_slices_IndexFunc_Ghost_SysOk_3_0_ok n) (LSsOk.nil _ _)) (fun x => by kernel_rfl)
/-! slices.ContainsFunc[[]loop.example/g00185/impl.Ghost,loop.example/g00185/impl.Ghost] -/
noncomputable def a_slices_ContainsFunc_Ghost_SysOk_3 : FnA := ⟨Go.Proofs.Try.f108, ⟨[(1, [(2, .call [.ro, .ro] .int [] [])])], [], []⟩, 0⟩
def f_slices_ContainsFunc_Ghost_SysOk_3 (n : Nat) (a0 : List Ghost) (a1_0 : Sys) : Option (Bool × Unit) :=
  (f_slices_IndexFunc_Ghost_SysOk_3 n a0 a1_0).bind fun r1 =>
  some ((decide (0 ≤ r1.1)), ())
def r_slices_ContainsFunc_Ghost_SysOk_3 (n : Nat) : Rw := ⟨108, (.pair (.v (.ro .ghost)) (.pair (.v (.clo 109 (.pair (.rp (.pair .int (.pair .int (.pair (.ro .task) (.pair (.ro .lock) (.pair (.ro .ghost) (.pair (.ro .int) (.pair .int (.pair .int (.pair (.ro .turn) .one))))))))) 0) .one))) .one)), (.pair .bool .one), fun x => f_slices_ContainsFunc_Ghost_SysOk_3 n x.1.2 (⟨x.2.1.1.1, x.2.1.1.2.1, x.2.1.1.2.2.1.2, x.2.1.1.2.2.2.1.2, x.2.1.1.2.2.2.2.1.2, x.2.1.1.2.2.2.2.2.1.2, x.2.1.1.2.2.2.2.2.2.1, x.2.1.1.2.2.2.2.2.2.2.1, x.2.1.1.2.2.2.2.2.2.2.2.1.2⟩ : Sys)⟩
theorem r_slices_ContainsFunc_Ghost_SysOk_3_ok (n : Nat) : RwOk Go.Proofs.Try.prog tyK (r_slices_ContainsFunc_Ghost_SysOk_3 n) :=
  ent_ok (fa := a_slices_ContainsFunc_Ghost_SysOk_3) (ls := []) (cs := []) (n := n) (es := [(r_slices_IndexFunc_Ghost_SysOk_3 n)]) mixedOk tbOk (ents_cons (r_slices_IndexFunc_Ghost_SysOk_3_ok n) ents_nil) Go.Proofs.Try.func108 (by kernel_rfl) (by kernel_rfl) (by kernel_rfl) (LSsOk.nil _ _) (fun x => by kernel_rfl)
/-! loop.example/g00185/impl.SumOf$1 -/
noncomputable def a_impl_SumOf_1 : FnA := ⟨Go.Proofs.Try.f157, ⟨[(0, [(0, .slot 0 .int)]), (1, [(1, .call [.ro] .bool [] [])])], [], []⟩, 1⟩
def f_impl_SumOf_1 (a0 : Share) : Option (Bool × Unit) :=
  (f_impl_ShareOk a0).bind fun r1 =>
  some ((!r1.1), ())
def r_impl_SumOf_1 : Rw := ⟨157, (.pair (.v (.agg (.pair .int (.pair .int .one)))) .one), (.pair .bool .one), fun x => f_impl_SumOf_1 (⟨x.1.1, x.1.2.1⟩ : Share)⟩
theorem r_impl_SumOf_1_ok : RwOk Go.Proofs.Try.prog tyK (r_impl_SumOf_1) :=
  ent_ok (fa := a_impl_SumOf_1) (ls := []) (cs := []) (n := 0) (es := [r_impl_ShareOk]) mixedOk tbOk (ents_cons (r_impl_ShareOk_ok) ents_nil) Go.Proofs.Try.func157 (by kernel_rfl) (by kernel_rfl) (by kernel_rfl) (LSsOk.nil _ _) (fun x => by kernel_rfl)
/-! slices.IndexFunc[[]loop.example/g00185/impl.Share,loop.example/g00185/impl.Share] -/
noncomputable def a_slices_IndexFunc_Share_SumOf_1 : FnA := ⟨Go.Proofs.Try.f167, ⟨[(4, [(5, .call [.ro] .bool [] [])])], [], []⟩, 0⟩
def l_slices_IndexFunc_Share_SumOf_1_0 {α : Type} (n : Nat) : Nat → List Share → Int → Int → (Int → Option α) → (Option α) → Option α
  | 0, _, _, _, _, _ => none
  | m0 + 1, v1, v2, v3, k0_0, k0_1 =>
    cond (decide (v3 < v2))
     (cond ((decide (0 ≤ v3)) && (decide (v3 < ((v1).length : Int))))
       ((f_impl_SumOf_1 (List.getD v1 (Int.toNat v3) (Kd.dflt .share))).bind fun r4 =>
        cond r4.1
         (k0_0 v3)
         (l_slices_IndexFunc_Share_SumOf_1_0 n m0 v1 v2 (w64 (v3 + 1)) k0_0 k0_1))
       (none))
     (k0_1)
def f_slices_IndexFunc_Share_SumOf_1 (n : Nat) (a0 : List Share) : Option (Int × Unit) :=
  l_slices_IndexFunc_Share_SumOf_1_0 n n a0 ((a0).length : Int) 0
   (fun w5 =>
    some (w5, ()))
   (some ((-1), ()))
def r_slices_IndexFunc_Share_SumOf_1 (n : Nat) : Rw := ⟨167, (.pair (.v (.ro .share)) (.pair (.v (.clo 157 .one)) .one)), (.pair .int .one), fun x => f_slices_IndexFunc_Share_SumOf_1 n x.1.2⟩
def s_slices_IndexFunc_Share_SumOf_1_0 (n : Nat) : LS where
  la := ⟨2, [0, 1, 7, 8], [], [], [4], []⟩
  nt := 19
  kt := [0, 1, 7, 8]
  hs := []
  X := Bool × List Share × Int × Int
  abs := fun vs es => match vs, es with | [.ro y0 .share y1, .clo 157 [], .int y2, .int y3], [] => some (y0, y1, y2, y3) | _, _ => none
  tms := fun x => [.ro x.1 .share x.2.1, .clo 157 [], .int x.2.2.1, .int x.2.2.2]
  ets := fun x => []
  run := fun m x k => l_slices_IndexFunc_Share_SumOf_1_0 n m x.2.1 x.2.2.1 x.2.2.2 (fun w0 => k .ret ⟨layT [4] [.int w0] 0 19, layH [] []⟩) (k (.exit 0) ⟨layT [] [] 0 19, layH [] []⟩)
noncomputable def c_slices_IndexFunc_Share_SumOf_1_0 : Code := (Go.Proofs.Try.f167.body.bind (subLoop 2)).getD .skip
theorem s_slices_IndexFunc_Share_SumOf_1_0_ok (n : Nat) : LSok Tb tyK (orc [r_impl_SumOf_1]) n a_slices_IndexFunc_Share_SumOf_1.ann [s_slices_IndexFunc_Share_SumOf_1_0 n] c_slices_IndexFunc_Share_SumOf_1_0 (s_slices_IndexFunc_Share_SumOf_1_0 n) :=
  ⟨by intro vs es x h; dsimp only [s_slices_IndexFunc_Share_SumOf_1_0] at h; split at h; (· injection h with h; subst h; exact ⟨rfl, rfl⟩); (· cases h), fun _ _ => rfl, fun m x k => by kernel_rfl⟩
theorem r_slices_IndexFunc_Share_SumOf_1_ok (n : Nat) : RwOk Go.Proofs.Try.prog tyK (r_slices_IndexFunc_Share_SumOf_1 n) :=
  ent_ok (fa := a_slices_IndexFunc_Share_SumOf_1) (ls := [s_slices_IndexFunc_Share_SumOf_1_0 n]) (cs := [c_slices_IndexFunc_Share_SumOf_1_0]) (n := n) (es := [r_impl_SumOf_1]) mixedOk tbOk (ents_cons (r_impl_SumOf_1_ok) ents_nil) Go.Proofs.Try.func167 (by kernel_rfl) (by kernel_rfl) (by kernel_rfl) (LSsOk.cons _ _ (l := s_slices_IndexFunc_Share_SumOf_1_0 n) (by kernel_rfl) (s_slices_IndexFunc_Share_SumOf_1_0_ok n) (LSsOk.nil _ _)) (fun x => by kernel_rfl)
/-! slices.ContainsFunc[[]loop.example/g00185/impl.Share,loop.example/g00185/impl.Share] -/
noncomputable def a_slices_ContainsFunc_Share_SumOf_1 : FnA := ⟨Go.Proofs.Try.f156, ⟨[(1, [(2, .call [.ro, .ro] .int [] [])])], [], []⟩, 0⟩
def f_slices_ContainsFunc_Share_SumOf_1 (n : Nat) (a0 : List Share) : Option (Bool × Unit) :=
  (f_slices_IndexFunc_Share_SumOf_1 n a0).bind fun r1 =>
  some ((decide (0 ≤ r1.1)), ())
def r_slices_ContainsFunc_Share_SumOf_1 (n : Nat) : Rw := ⟨156, (.pair (.v (.ro .share)) (.pair (.v (.clo 157 .one)) .one)), (.pair .bool .one), fun x => f_slices_ContainsFunc_Share_SumOf_1 n x.1.2⟩
theorem r_slices_ContainsFunc_Share_SumOf_1_ok (n : Nat) : RwOk Go.Proofs.Try.prog tyK (r_slices_ContainsFunc_Share_SumOf_1 n) :=
  ent_ok (fa := a_slices_ContainsFunc_Share_SumOf_1) (ls := []) (cs := []) (n := n) (es := [(r_slices_IndexFunc_Share_SumOf_1 n)]) mixedOk tbOk (ents_cons (r_slices_IndexFunc_Share_SumOf_1_ok n) ents_nil) Go.Proofs.Try.func156 (by kernel_rfl) (by kernel_rfl) (by kernel_rfl) (LSsOk.nil _ _) (fun x => by kernel_rfl)
/-! loop.example/g00185/impl.gcd -/
noncomputable def a_impl_gcd : FnA := ⟨Go.Proofs.Try.f158, ⟨[], [(2, [([], []), ([], []), ([], []), ([], []), ([], []), ([], [])])], []⟩, 0⟩
def l_impl_gcd_0 {α : Type} (n : Nat) : Nat → Int → Int → (Int → Option α) → Option α
  | 0, _, _, _ => none
  | m0 + 1, v1, v2, k0_0 =>
    cond (!(decide (v2 = 0)))
     (cond (decide (v2 = 0))
       (none)
       (l_impl_gcd_0 n m0 v2 (Int.tmod v1 v2) k0_0))
     (k0_0 v1)
def f_impl_gcd (n : Nat) (a0 : Int) (a1 : Int) : Option (Int × Unit) :=
  l_impl_gcd_0 n n a0 a1
   (fun w3 =>
    some ((if (w64 (0 - w3)) > w3 then (w64 (0 - w3)) else w3), ()))
def r_impl_gcd (n : Nat) : Rw := ⟨158, (.pair (.v (.int)) (.pair (.v (.int)) .one)), (.pair .int .one), fun x => f_impl_gcd n x.1 x.2.1⟩
def s_impl_gcd_0 (n : Nat) : LS where
  la := ⟨1, [0, 1], [], [], [0], []⟩
  nt := 15
  kt := [0, 1]
  hs := []
  X := Int × Int
  abs := fun vs es => match vs, es with | [.int y0, .int y1], [] => some (y0, y1) | _, _ => none
  tms := fun x => [.int x.1, .int x.2]
  ets := fun x => []
  run := fun m x k => l_impl_gcd_0 n m x.1 x.2 (fun w0 => k (.exit 0) ⟨layT [0] [.int w0] 0 15, layH [] []⟩)
noncomputable def c_impl_gcd_0 : Code := (Go.Proofs.Try.f158.body.bind (subLoop 1)).getD .skip
theorem s_impl_gcd_0_ok (n : Nat) : LSok Tb tyK (orc []) n a_impl_gcd.ann [s_impl_gcd_0 n] c_impl_gcd_0 (s_impl_gcd_0 n) :=
  ⟨by intro vs es x h; dsimp only [s_impl_gcd_0] at h; split at h; (· injection h with h; subst h; exact ⟨rfl, rfl⟩); (· cases h), fun _ _ => rfl, fun m x k => by kernel_rfl⟩
theorem r_impl_gcd_ok (n : Nat) : RwOk Go.Proofs.Try.prog tyK (r_impl_gcd n) :=
  ent_ok (fa := a_impl_gcd) (ls := [s_impl_gcd_0 n]) (cs := [c_impl_gcd_0]) (n := n) (es := []) mixedOk tbOk ents_nil Go.Proofs.Try.func158 (by kernel_rfl) (by kernel_rfl) (by kernel_rfl) (LSsOk.cons _ _ (l := s_impl_gcd_0 n) (by kernel_rfl) (s_impl_gcd_0_ok n) (LSsOk.nil _ _)) (fun x => by kernel_rfl)
/-! loop.example/g00185/impl.SumOf -/
noncomputable def a_impl_SumOf : FnA := ⟨Go.Proofs.Try.f137, ⟨[(1, [(5, .call [.ro, .ro] .bool [] [])]), (6, [(2, .slot 0 .int)]), (8, [(2, .call [.ro, .ro] .int [] [])])], [(7, [([], []), ([0], []), ([0], []), ([], []), ([0], []), ([0], []), ([], []), ([], []), ([], []), ([], []), ([0], []), ([0], []), ([], []), ([], []), ([], [])]), (9, [([], []), ([], []), ([], []), ([], []), ([], []), ([], []), ([], []), ([], [])])], []⟩, 1⟩
def l_impl_SumOf_0 {α : Type} (n : Nat) : Nat → Int → Int → List Share → Int → Int → (Int → Int → Option α) → Option α
  | 0, _, _, _, _, _, _ => none
  | m0 + 1, v2, v3, v4, v5, v6, k0_0 =>
    cond (decide (v6 < v5))
     (cond ((decide (0 ≤ v6)) && (decide (v6 < ((v4).length : Int))))
       (let e7 := (w64 (v2 * (List.getD v4 (Int.toNat v6) (Kd.dflt .share)).P))
        let e8 := (w64 ((List.getD v4 (Int.toNat v6) (Kd.dflt .share)).Q * v3))
        let e9 := (w64 (v3 * (List.getD v4 (Int.toNat v6) (Kd.dflt .share)).P))
        (f_impl_gcd n (w64 (e7 + e8)) e9).bind fun r10 =>
        cond (decide (r10.1 = 0))
         (none)
         (cond (decide (r10.1 = 0))
           (none)
           (l_impl_SumOf_0 n m0 (w64 (Int.tdiv (w64 (e7 + e8)) r10.1)) (w64 (Int.tdiv e9 r10.1)) v4 v5 (w64 (v6 + 1)) k0_0)))
       (none))
     (k0_0 v2 v3)
def f_impl_SumOf (n : Nat) (a0 : List Share) : Option ((Int × Int × Bool × Unit) × Unit) :=
  cond (decide (7 < ((a0).length : Int)))
   (some ((0, 0, false, ()), ()))
   ((f_slices_ContainsFunc_Share_SumOf_1 n a0).bind fun r1 =>
    cond r1.1
     (some ((0, 0, false, ()), ()))
     (l_impl_SumOf_0 n n 0 1 a0 ((a0).length : Int) 0
       (fun w11 w12 =>
        some ((w11, w12, true, ()), ()))))
def r_impl_SumOf (n : Nat) : Rw := ⟨137, (.pair (.v (.ro .share)) .one), (.pair (.tup (.pair .int (.pair .int (.pair .bool .one)))) .one), fun x => f_impl_SumOf n x.1.2⟩
def s_impl_SumOf_0 (n : Nat) : LS where
  la := ⟨5, [5, 6, 17, 18, 19], [], [0], [5, 6], [0]⟩
  nt := 48
  kt := [5, 6, 17, 18, 19]
  hs := [.fresh]
  X := Int × Int × Bool × List Share × Int × Int
  abs := fun vs es => match vs, es with | [.int y0, .int y1, .ro y2 .share y3, .int y4, .int y5], [] => some (y0, y1, y2, y3, y4, y5) | _, _ => none
  tms := fun x => [.int x.1, .int x.2.1, .ro x.2.2.1 .share x.2.2.2.1, .int x.2.2.2.2.1, .int x.2.2.2.2.2]
  ets := fun x => []
  run := fun m x k => l_impl_SumOf_0 n m x.1 x.2.1 x.2.2.2.1 x.2.2.2.2.1 x.2.2.2.2.2 (fun w0 w1 => k (.exit 0) ⟨layT [5, 6] [.int w0, .int w1] 0 48, layH [.fresh] []⟩)
noncomputable def c_impl_SumOf_0 : Code := (Go.Proofs.Try.f137.body.bind (subLoop 5)).getD .skip
theorem s_impl_SumOf_0_ok (n : Nat) : LSok Tb tyK (orc [(r_slices_ContainsFunc_Share_SumOf_1 n), (r_impl_gcd n)]) n a_impl_SumOf.ann [s_impl_SumOf_0 n] c_impl_SumOf_0 (s_impl_SumOf_0 n) :=
  ⟨by intro vs es x h; dsimp only [s_impl_SumOf_0] at h; split at h; (· injection h with h; subst h; exact ⟨rfl, rfl⟩); (· cases h), fun _ _ => rfl, fun m x k => by kernel_rfl⟩
theorem r_impl_SumOf_ok (n : Nat) : RwOk Go.Proofs.Try.prog tyK (r_impl_SumOf n) :=
  ent_ok (fa := a_impl_SumOf) (ls := [s_impl_SumOf_0 n]) (cs := [c_impl_SumOf_0]) (n := n) (es := [(r_slices_ContainsFunc_Share_SumOf_1 n), (r_impl_gcd n)]) mixedOk tbOk (ents_cons (r_slices_ContainsFunc_Share_SumOf_1_ok n) (ents_cons (r_impl_gcd_ok n) ents_nil)) Go.Proofs.Try.func137 (by kernel_rfl) (by kernel_rfl) (by kernel_rfl) (LSsOk.cons _ _ (l := s_impl_SumOf_0 n) (by kernel_rfl) (s_impl_SumOf_0_ok n) (LSsOk.nil _ _)) (fun x => by kernel_rfl)
/-! loop.example/g00185/impl.Fits -/
noncomputable def a_impl_Fits : FnA := ⟨Go.Proofs.Try.f111, ⟨[(1, [(1, .call [.ro] (.tup (.pair .int (.pair .int (.pair .bool .one)))) [] [])])], [], []⟩, 0⟩
def f_impl_Fits (n : Nat) (a0 : List Share) : Option (Bool × Unit) :=
  (f_impl_SumOf n a0).bind fun r1 =>
  cond r1.1.2.2.1
   (some ((decide (r1.1.1 ≤ r1.1.2.1)), ()))
   (some (false, ()))
def r_impl_Fits (n : Nat) : Rw := ⟨111, (.pair (.v (.ro .share)) .one), (.pair .bool .one), fun x => f_impl_Fits n x.1.2⟩
theorem r_impl_Fits_ok (n : Nat) : RwOk Go.Proofs.Try.prog tyK (r_impl_Fits n) :=
  ent_ok (fa := a_impl_Fits) (ls := []) (cs := []) (n := n) (es := [(r_impl_SumOf n)]) mixedOk tbOk (ents_cons (r_impl_SumOf_ok n) ents_nil) Go.Proofs.Try.func111 (by kernel_rfl) (by kernel_rfl) (by kernel_rfl) (LSsOk.nil _ _) (fun x => by kernel_rfl)
/-! loop.example/g00185/impl.SysOk$4 -/
noncomputable def a_impl_SysOk_4 : FnA := ⟨Go.Proofs.Try.f113, ⟨[(1, [(1, .call [.ro, .ro, .ro] .bool [] [])])], [], []⟩, 0⟩
def f_impl_SysOk_4 (a0 : Int) : Option (Bool × Unit) :=
  (f_impl_in a0 0 100000000).bind fun r1 =>
  some ((!r1.1), ())
def r_impl_SysOk_4 : Rw := ⟨113, (.pair (.v (.int)) .one), (.pair .bool .one), fun x => f_impl_SysOk_4 x.1⟩
theorem r_impl_SysOk_4_ok : RwOk Go.Proofs.Try.prog tyK (r_impl_SysOk_4) :=
  ent_ok (fa := a_impl_SysOk_4) (ls := []) (cs := []) (n := 0) (es := [r_impl_in]) mixedOk tbOk (ents_cons (r_impl_in_ok) ents_nil) Go.Proofs.Try.func113 (by kernel_rfl) (by kernel_rfl) (by kernel_rfl) (LSsOk.nil _ _) (fun x => by kernel_rfl)
/-! slices.IndexFunc[[]int,int] -/
noncomputable def a_slices_IndexFunc_int_SysOk_4 : FnA := ⟨Go.Proofs.Try.f138, ⟨[(4, [(5, .call [.ro] .bool [] [])])], [], []⟩, 0⟩
def l_slices_IndexFunc_int_SysOk_4_0 {α : Type} (n : Nat) : Nat → List Int → Int → Int → (Int → Option α) → (Option α) → Option α
  | 0, _, _, _, _, _ => none
  | m0 + 1, v1, v2, v3, k0_0, k0_1 =>
    cond (decide (v3 < v2))
     (cond ((decide (0 ≤ v3)) && (decide (v3 < ((v1).length : Int))))
       ((f_impl_SysOk_4 (List.getD v1 (Int.toNat v3) (Kd.dflt .int))).bind fun r4 =>
        cond r4.1
         (k0_0 v3)
         (l_slices_IndexFunc_int_SysOk_4_0 n m0 v1 v2 (w64 (v3 + 1)) k0_0 k0_1))
       (none))
     (k0_1)
def f_slices_IndexFunc_int_SysOk_4 (n : Nat) (a0 : List Int) : Option (Int × Unit) :=
  l_slices_IndexFunc_int_SysOk_4_0 n n a0 ((a0).length : Int) 0
   (fun w5 =>
    some (w5, ()))
   (some ((-1), ()))
def r_slices_IndexFunc_int_SysOk_4 (n : Nat) : Rw := ⟨138, (.pair (.v (.ro .int)) (.pair (.v (.clo 113 .one)) .one)), (.pair .int .one), fun x => f_slices_IndexFunc_int_SysOk_4 n x.1.2⟩
def s_slices_IndexFunc_int_SysOk_4_0 (n : Nat) : LS where
  la := ⟨2, [0, 1, 7, 8], [], [], [4], []⟩
  nt := 19
  kt := [0, 1, 7, 8]
  hs := []
  X := Bool × List Int × Int × Int
  abs := fun vs es => match vs, es with | [.ro y0 .int y1, .clo 113 [], .int y2, .int y3], [] => some (y0, y1, y2, y3) | _, _ => none
  tms := fun x => [.ro x.1 .int x.2.1, .clo 113 [], .int x.2.2.1, .int x.2.2.2]
  ets := fun x => []
  run := fun m x k => l_slices_IndexFunc_int_SysOk_4_0 n m x.2.1 x.2.2.1 x.2.2.2 (fun w0 => k .ret ⟨layT [4] [.int w0] 0 19, layH [] []⟩) (k (.exit 0) ⟨layT [] [] 0 19, layH [] []⟩)
noncomputable def c_slices_IndexFunc_int_SysOk_4_0 : Code := (Go.Proofs.Try.f138.body.bind (subLoop 2)).getD .skip
theorem s_slices_IndexFunc_int_SysOk_4_0_ok (n : Nat) : LSok Tb tyK (orc [r_impl_SysOk_4]) n a_slices_IndexFunc_int_SysOk_4.ann [s_slices_IndexFunc_int_SysOk_4_0 n] c_slices_IndexFunc_int_SysOk_4_0 (s_slices_IndexFunc_int_SysOk_4_0 n) :=
  ⟨by intro vs es x h; dsimp only [s_slices_IndexFunc_int_SysOk_4_0] at h; split at h; (· injection h with h; subst h; exact ⟨rfl, rfl⟩); (· cases h), fun _ _ => rfl, fun m x k => by kernel_rfl⟩
theorem r_slices_IndexFunc_int_SysOk_4_ok (n : Nat) : RwOk Go.Proofs.Try.prog tyK (r_slices_IndexFunc_int_SysOk_4 n) :=
  ent_ok (fa := a_slices_IndexFunc_int_SysOk_4) (ls := [s_slices_IndexFunc_int_SysOk_4_0 n]) (cs := [c_slices_IndexFunc_int_SysOk_4_0]) (n := n) (es := [r_impl_SysOk_4]) mixedOk tbOk (ents_cons (r_impl_SysOk_4_ok) ents_nil) Go.Proofs.Try.func138 (by kernel_rfl) (by kernel_rfl) (by kernel_rfl) (LSsOk.cons _ _ (l := s_slices_IndexFunc_int_SysOk_4_0 n) (by kernel_rfl) (s_slices_IndexFunc_int_SysOk_4_0_ok n) (LSsOk.nil _ _)) (fun x => by kernel_rfl)
/-! slices.ContainsFunc[[]int,int] -/
noncomputable def a_slices_ContainsFunc_int_SysOk_4 : FnA := ⟨Go.Proofs.Try.f112, ⟨[(1, [(2, .call [.ro, .ro] .int [] [])])], [], []⟩, 0⟩
def f_slices_ContainsFunc_int_SysOk_4 (n : Nat) (a0 : List Int) : Option (Bool × Unit) :=
  (f_slices_IndexFunc_int_SysOk_4 n a0).bind fun r1 =>
  some ((decide (0 ≤ r1.1)), ())
def r_slices_ContainsFunc_int_SysOk_4 (n : Nat) : Rw := ⟨112, (.pair (.v (.ro .int)) (.pair (.v (.clo 113 .one)) .one)), (.pair .bool .one), fun x => f_slices_ContainsFunc_int_SysOk_4 n x.1.2⟩
theorem r_slices_ContainsFunc_int_SysOk_4_ok (n : Nat) : RwOk Go.Proofs.Try.prog tyK (r_slices_ContainsFunc_int_SysOk_4 n) :=
  ent_ok (fa := a_slices_ContainsFunc_int_SysOk_4) (ls := []) (cs := []) (n := n) (es := [(r_slices_IndexFunc_int_SysOk_4 n)]) mixedOk tbOk (ents_cons (r_slices_IndexFunc_int_SysOk_4_ok n) ents_nil) Go.Proofs.Try.func112 (by kernel_rfl) (by kernel_rfl) (by kernel_rfl) (LSsOk.nil _ _) (fun x => by kernel_rfl)
/-! loop.example/g00185/impl.SysOk -/
noncomputable def a_impl_SysOk : FnA := ⟨Go.Proofs.Try.f55, ⟨[(0, [(0, .slot 0 .int)]), (1, [(2, .call [.ro] .bool [] []), (7, .call [.ro, .ro, .ro] .bool [] []), (13, .call [.ro] .bool [] []), (20, .call [.ro, .ro] .bool [] [])]), (3, [(7, .call [.ro] .bool [] []), (14, .call [.ro, .ro] .bool [] [])]), (5, [(8, .call [.ro, .ro] .bool [] [])]), (10, [(2, .call [.ro, .ro] (.own .share) [] [none]), (3, .call [.ro] .bool [] [])]), (13, [(9, .call [.ro, .ro] .bool [] []), (15, .call [.ro] .bool [] []), (20, .call [.ro] .bool [] [])])], [], []⟩, 1⟩
def l_impl_SysOk_0 {α : Type} (n : Nat) : Nat → Sys → Int → Int → (Option α) → (Option α) → Option α
  | 0, _, _, _, _, _ => none
  | m0 + 1, v8, v9, v10, k0_0, k0_1 =>
    cond (decide (v10 < v9))
     ((f_impl_SharesOn n v8 v10).bind fun r11 =>
      (f_impl_Fits n r11.1).bind fun r12 =>
      cond (!r12.1)
       (k0_0)
       (l_impl_SysOk_0 n m0 v8 v9 (w64 (v10 + 1)) k0_0 k0_1))
     (k0_1)
def f_impl_SysOk (n : Nat) (a0 : Sys) : Option (Bool × Unit) :=
  (f_impl_isTime a0.Now).bind fun r1 =>
  cond (!r1.1)
   (some (false, ()))
   ((f_impl_in a0.Cpus 1 4).bind fun r2 =>
    cond (!r2.1)
     (some (false, ()))
     ((f_impl_TasksOk n a0.Tasks).bind fun r3 =>
      cond (!r3.1)
       (some (false, ()))
       ((f_slices_ContainsFunc_Task_SysOk_1 n a0.Tasks a0).bind fun r4 =>
        cond r4.1
         (some (false, ()))
         (cond (!(decide (((a0.Locks).length : Int) = 5)))
           (some (false, ()))
           ((f_impl_LocksOk n a0.Locks).bind fun r5 =>
            cond (!r5.1)
             (some (false, ()))
             ((f_slices_ContainsFunc_Lock_SysOk_2 n a0.Locks a0).bind fun r6 =>
              cond r6.1
               (some (false, ()))
               (cond (decide (12 < ((a0.Ghosts).length : Int)))
                 (some (false, ()))
                 ((f_slices_ContainsFunc_Ghost_SysOk_3 n a0.Ghosts a0).bind fun r7 =>
                  cond r7.1
                   (some (false, ()))
                   (l_impl_SysOk_0 n n a0 a0.Cpus 0
                     (some (false, ()))
                     (cond (decide (((a0.Floors).length : Int) = a0.Cpus))
                       ((f_slices_ContainsFunc_int_SysOk_4 n a0.Floors).bind fun r13 =>
                        cond (!r13.1)
                         ((f_impl_isSeq a0.Seq).bind fun r14 =>
                          cond r14.1
                           ((f_impl_isTime a0.Missed).bind fun r15 =>
                            cond r15.1
                             (some ((decide (((a0.Trace).length : Int) ≤ 400)), ()))
                             (some (false, ())))
                           (some (false, ())))
                         (some (false, ())))
                       (some (false, ()))))))))))))
def r_impl_SysOk (n : Nat) : Rw := ⟨55, (.pair (.v (.agg (.pair .int (.pair .int (.pair (.ro .task) (.pair (.ro .lock) (.pair (.ro .ghost) (.pair (.ro .int) (.pair .int (.pair .int (.pair (.ro .turn) .one))))))))))) .one), (.pair .bool .one), fun x => f_impl_SysOk n (⟨x.1.1, x.1.2.1, x.1.2.2.1.2, x.1.2.2.2.1.2, x.1.2.2.2.2.1.2, x.1.2.2.2.2.2.1.2, x.1.2.2.2.2.2.2.1, x.1.2.2.2.2.2.2.2.1, x.1.2.2.2.2.2.2.2.2.1.2⟩ : Sys)⟩
def s_impl_SysOk_0 (n : Nat) : LS where
  la := ⟨8, [1, 53, 54], [], [], [1, 2], [0]⟩
  nt := 91
  kt := [1, 53, 54]
  hs := [.k]
  X := Int × Int × Bool × List Task × Bool × List Lock × Bool × List Ghost × Bool × List Int × Int × Int × Bool × List Turn × Int × Int
  abs := fun vs es => match vs, es with | [.ptr 0 0, .int y14, .int y15], [.box [.int y0, .int y1, .ro y2 .task y3, .ro y4 .lock y5, .ro y6 .ghost y7, .ro y8 .int y9, .int y10, .int y11, .ro y12 .turn y13]] => some (y0, y1, y2, y3, y4, y5, y6, y7, y8, y9, y10, y11, y12, y13, y14, y15) | _, _ => none
  tms := fun x => [.ptr 0 0, .int x.2.2.2.2.2.2.2.2.2.2.2.2.2.2.1, .int x.2.2.2.2.2.2.2.2.2.2.2.2.2.2.2]
  ets := fun x => [.box [.int x.1, .int x.2.1, .ro x.2.2.1 .task x.2.2.2.1, .ro x.2.2.2.2.1 .lock x.2.2.2.2.2.1, .ro x.2.2.2.2.2.2.1 .ghost x.2.2.2.2.2.2.2.1, .ro x.2.2.2.2.2.2.2.2.1 .int x.2.2.2.2.2.2.2.2.2.1, .int x.2.2.2.2.2.2.2.2.2.2.1, .int x.2.2.2.2.2.2.2.2.2.2.2.1, .ro x.2.2.2.2.2.2.2.2.2.2.2.2.1 .turn x.2.2.2.2.2.2.2.2.2.2.2.2.2.1]]
  run := fun m x k => l_impl_SysOk_0 n m (⟨x.1, x.2.1, x.2.2.2.1, x.2.2.2.2.2.1, x.2.2.2.2.2.2.2.1, x.2.2.2.2.2.2.2.2.2.1, x.2.2.2.2.2.2.2.2.2.2.1, x.2.2.2.2.2.2.2.2.2.2.2.1, x.2.2.2.2.2.2.2.2.2.2.2.2.2.1⟩ : Sys) x.2.2.2.2.2.2.2.2.2.2.2.2.2.2.1 x.2.2.2.2.2.2.2.2.2.2.2.2.2.2.2 (k .ret ⟨layT [1, 2] [.ptr 0 0, .bool false] 0 91, layH [.k] [.box [.int (⟨x.1, x.2.1, x.2.2.2.1, x.2.2.2.2.2.1, x.2.2.2.2.2.2.2.1, x.2.2.2.2.2.2.2.2.2.1, x.2.2.2.2.2.2.2.2.2.2.1, x.2.2.2.2.2.2.2.2.2.2.2.1, x.2.2.2.2.2.2.2.2.2.2.2.2.2.1⟩ : Sys).Now, .int (⟨x.1, x.2.1, x.2.2.2.1, x.2.2.2.2.2.1, x.2.2.2.2.2.2.2.1, x.2.2.2.2.2.2.2.2.2.1, x.2.2.2.2.2.2.2.2.2.2.1, x.2.2.2.2.2.2.2.2.2.2.2.1, x.2.2.2.2.2.2.2.2.2.2.2.2.2.1⟩ : Sys).Cpus, .ro x.2.2.1 .task (⟨x.1, x.2.1, x.2.2.2.1, x.2.2.2.2.2.1, x.2.2.2.2.2.2.2.1, x.2.2.2.2.2.2.2.2.2.1, x.2.2.2.2.2.2.2.2.2.2.1, x.2.2.2.2.2.2.2.2.2.2.2.1, x.2.2.2.2.2.2.2.2.2.2.2.2.2.1⟩ : Sys).Tasks, .ro x.2.2.2.2.1 .lock (⟨x.1, x.2.1, x.2.2.2.1, x.2.2.2.2.2.1, x.2.2.2.2.2.2.2.1, x.2.2.2.2.2.2.2.2.2.1, x.2.2.2.2.2.2.2.2.2.2.1, x.2.2.2.2.2.2.2.2.2.2.2.1, x.2.2.2.2.2.2.2.2.2.2.2.2.2.1⟩ : Sys).Locks, .ro x.2.2.2.2.2.2.1 .ghost (⟨x.1, x.2.1, x.2.2.2.1, x.2.2.2.2.2.1, x.2.2.2.2.2.2.2.1, x.2.2.2.2.2.2.2.2.2.1, x.2.2.2.2.2.2.2.2.2.2.1, x.2.2.2.2.2.2.2.2.2.2.2.1, x.2.2.2.2.2.2.2.2.2.2.2.2.2.1⟩ : Sys).Ghosts, .ro x.2.2.2.2.2.2.2.2.1 .int (⟨x.1, x.2.1, x.2.2.2.1, x.2.2.2.2.2.1, x.2.2.2.2.2.2.2.1, x.2.2.2.2.2.2.2.2.2.1, x.2.2.2.2.2.2.2.2.2.2.1, x.2.2.2.2.2.2.2.2.2.2.2.1, x.2.2.2.2.2.2.2.2.2.2.2.2.2.1⟩ : Sys).Floors, .int (⟨x.1, x.2.1, x.2.2.2.1, x.2.2.2.2.2.1, x.2.2.2.2.2.2.2.1, x.2.2.2.2.2.2.2.2.2.1, x.2.2.2.2.2.2.2.2.2.2.1, x.2.2.2.2.2.2.2.2.2.2.2.1, x.2.2.2.2.2.2.2.2.2.2.2.2.2.1⟩ : Sys).Seq, .int (⟨x.1, x.2.1, x.2.2.2.1, x.2.2.2.2.2.1, x.2.2.2.2.2.2.2.1, x.2.2.2.2.2.2.2.2.2.1, x.2.2.2.2.2.2.2.2.2.2.1, x.2.2.2.2.2.2.2.2.2.2.2.1, x.2.2.2.2.2.2.2.2.2.2.2.2.2.1⟩ : Sys).Missed, .ro x.2.2.2.2.2.2.2.2.2.2.2.2.1 .turn (⟨x.1, x.2.1, x.2.2.2.1, x.2.2.2.2.2.1, x.2.2.2.2.2.2.2.1, x.2.2.2.2.2.2.2.2.2.1, x.2.2.2.2.2.2.2.2.2.2.1, x.2.2.2.2.2.2.2.2.2.2.2.1, x.2.2.2.2.2.2.2.2.2.2.2.2.2.1⟩ : Sys).Trace]]⟩) (k (.exit 0) ⟨layT [1] [.ptr 0 0] 0 91, layH [.k] [.box [.int (⟨x.1, x.2.1, x.2.2.2.1, x.2.2.2.2.2.1, x.2.2.2.2.2.2.2.1, x.2.2.2.2.2.2.2.2.2.1, x.2.2.2.2.2.2.2.2.2.2.1, x.2.2.2.2.2.2.2.2.2.2.2.1, x.2.2.2.2.2.2.2.2.2.2.2.2.2.1⟩ : Sys).Now, .int (⟨x.1, x.2.1, x.2.2.2.1, x.2.2.2.2.2.1, x.2.2.2.2.2.2.2.1, x.2.2.2.2.2.2.2.2.2.1, x.2.2.2.2.2.2.2.2.2.2.1, x.2.2.2.2.2.2.2.2.2.2.2.1, x.2.2.2.2.2.2.2.2.2.2.2.2.2.1⟩ : Sys).Cpus, .ro x.2.2.1 .task (⟨x.1, x.2.1, x.2.2.2.1, x.2.2.2.2.2.1, x.2.2.2.2.2.2.2.1, x.2.2.2.2.2.2.2.2.2.1, x.2.2.2.2.2.2.2.2.2.2.1, x.2.2.2.2.2.2.2.2.2.2.2.1, x.2.2.2.2.2.2.2.2.2.2.2.2.2.1⟩ : Sys).Tasks, .ro x.2.2.2.2.1 .lock (⟨x.1, x.2.1, x.2.2.2.1, x.2.2.2.2.2.1, x.2.2.2.2.2.2.2.1, x.2.2.2.2.2.2.2.2.2.1, x.2.2.2.2.2.2.2.2.2.2.1, x.2.2.2.2.2.2.2.2.2.2.2.1, x.2.2.2.2.2.2.2.2.2.2.2.2.2.1⟩ : Sys).Locks, .ro x.2.2.2.2.2.2.1 .ghost (⟨x.1, x.2.1, x.2.2.2.1, x.2.2.2.2.2.1, x.2.2.2.2.2.2.2.1, x.2.2.2.2.2.2.2.2.2.1, x.2.2.2.2.2.2.2.2.2.2.1, x.2.2.2.2.2.2.2.2.2.2.2.1, x.2.2.2.2.2.2.2.2.2.2.2.2.2.1⟩ : Sys).Ghosts, .ro x.2.2.2.2.2.2.2.2.1 .int (⟨x.1, x.2.1, x.2.2.2.1, x.2.2.2.2.2.1, x.2.2.2.2.2.2.2.1, x.2.2.2.2.2.2.2.2.2.1, x.2.2.2.2.2.2.2.2.2.2.1, x.2.2.2.2.2.2.2.2.2.2.2.1, x.2.2.2.2.2.2.2.2.2.2.2.2.2.1⟩ : Sys).Floors, .int (⟨x.1, x.2.1, x.2.2.2.1, x.2.2.2.2.2.1, x.2.2.2.2.2.2.2.1, x.2.2.2.2.2.2.2.2.2.1, x.2.2.2.2.2.2.2.2.2.2.1, x.2.2.2.2.2.2.2.2.2.2.2.1, x.2.2.2.2.2.2.2.2.2.2.2.2.2.1⟩ : Sys).Seq, .int (⟨x.1, x.2.1, x.2.2.2.1, x.2.2.2.2.2.1, x.2.2.2.2.2.2.2.1, x.2.2.2.2.2.2.2.2.2.1, x.2.2.2.2.2.2.2.2.2.2.1, x.2.2.2.2.2.2.2.2.2.2.2.1, x.2.2.2.2.2.2.2.2.2.2.2.2.2.1⟩ : Sys).Missed, .ro x.2.2.2.2.2.2.2.2.2.2.2.2.1 .turn (⟨x.1, x.2.1, x.2.2.2.1, x.2.2.2.2.2.1, x.2.2.2.2.2.2.2.1, x.2.2.2.2.2.2.2.2.2.1, x.2.2.2.2.2.2.2.2.2.2.1, x.2.2.2.2.2.2.2.2.2.2.2.1, x.2.2.2.2.2.2.2.2.2.2.2.2.2.1⟩ : Sys).Trace]]⟩)
noncomputable def c_impl_SysOk_0 : Code := (Go.Proofs.Try.f55.body.bind (subLoop 8)).getD .skip
theorem s_impl_SysOk_0_ok (n : Nat) : LSok Tb tyK (orc [r_impl_isTime, r_impl_in, (r_impl_TasksOk n), (r_slices_ContainsFunc_Task_SysOk_1 n), (r_impl_LocksOk n), (r_slices_ContainsFunc_Lock_SysOk_2 n), (r_slices_ContainsFunc_Ghost_SysOk_3 n), (r_impl_SharesOn n), (r_impl_Fits n), (r_slices_ContainsFunc_int_SysOk_4 n), r_impl_isSeq]) n a_impl_SysOk.ann [s_impl_SysOk_0 n] c_impl_SysOk_0 (s_impl_SysOk_0 n) :=
  ⟨by intro vs es x h; dsimp only [s_impl_SysOk_0] at h; split at h; (· injection h with h; subst h; exact ⟨rfl, rfl⟩); (· cases h), fun _ _ => rfl, fun m x k => by kernel_rfl⟩
theorem r_impl_SysOk_ok (n : Nat) : RwOk Go.Proofs.Try.prog tyK (r_impl_SysOk n) :=
  ent_ok (fa := a_impl_SysOk) (ls := [s_impl_SysOk_0 n]) (cs := [c_impl_SysOk_0]) (n := n) (es := [r_impl_isTime, r_impl_in, (r_impl_TasksOk n), (r_slices_ContainsFunc_Task_SysOk_1 n), (r_impl_LocksOk n), (r_slices_ContainsFunc_Lock_SysOk_2 n), (r_slices_ContainsFunc_Ghost_SysOk_3 n), (r_impl_SharesOn n), (r_impl_Fits n), (r_slices_ContainsFunc_int_SysOk_4 n), r_impl_isSeq]) mixedOk tbOk (ents_cons (r_impl_isTime_ok) (ents_cons (r_impl_in_ok) (ents_cons (r_impl_TasksOk_ok n) (ents_cons (r_slices_ContainsFunc_Task_SysOk_1_ok n) (ents_cons (r_impl_LocksOk_ok n) (ents_cons (r_slices_ContainsFunc_Lock_SysOk_2_ok n) (ents_cons (r_slices_ContainsFunc_Ghost_SysOk_3_ok n) (ents_cons (r_impl_SharesOn_ok n) (ents_cons (r_impl_Fits_ok n) (ents_cons (r_slices_ContainsFunc_int_SysOk_4_ok n) (ents_cons (r_impl_isSeq_ok) ents_nil))))))))))) Go.Proofs.Try.func55 (by kernel_rfl) (by kernel_rfl) (by kernel_rfl) (LSsOk.cons _ _ (l := s_impl_SysOk_0 n) (by kernel_rfl) (s_impl_SysOk_0_ok n) (LSsOk.nil _ _)) (fun x => by kernel_rfl)
end Go.Proofs.Ytoedeimpfbebpaa.VR
