/- Functions, printed by program (wip/gen/emit.py). -/
import Derived.Test.YtjgkeaiibdodfaaGreatG07
set_option linter.unusedVariables false
set_option maxRecDepth 100000
namespace Go.Proofs.YtjgkeaiibdodfaaGreat.VR
open Go
/-! loop.example/g00185/spec.Pick -/
noncomputable def a_spec_Pick : FnA := ⟨Go.Proofs.Tryz.f48, ⟨[(1, [(1, .call [.ro] .bool [] []), (5, .call [.ro] .bool [] [])]), (3, [(3, .call [.ro, .ro, .ro] .int [] [])]), (6, [(12, .call [.ro, .ro, .ro] .int [] [])])], [(6, [([], []), ([], []), ([], []), ([], []), ([], []), ([], []), ([], []), ([], []), ([], []), ([], []), ([], []), ([], []), ([], []), ([], []), ([], [])])], []⟩, 0⟩
def f_spec_Pick (n : Nat) (a0 : List Task) (a1 : List Lock) (a2 : Int) : Option ((Int × Int × Unit) × Unit) :=
  (f_spec_TasksOk n a0).bind fun r1 =>
  cond (!r1.1)
   (some ((0, 0, ()), ()))
   ((f_spec_LocksOk n a1).bind fun r2 =>
    cond (!r2.1)
     (some ((0, 0, ()), ()))
     ((f_spec_l8Pick n a0 a1 a2).bind fun r3 =>
      cond (decide (r3.1 < 0))
       (some ((0, 0, ()), ()))
       (cond ((decide (0 ≤ r3.1)) && (decide (r3.1 < ((a0).length : Int))))
         (cond ((decide (0 ≤ r3.1)) && (decide (r3.1 < ((a0).length : Int))))
           ((f_spec_l8Executor n a0 a1 ((List.getD a0 (Int.toNat r3.1) (Kd.dflt .task)).No)).bind fun r4 =>
            some (((List.getD a0 (Int.toNat r3.1) (Kd.dflt .task)).No, r4.1, ()), ()))
           (none))
         (none))))
def r_spec_Pick (n : Nat) : Rw := ⟨48, (.pair (.v (.ro .task)) (.pair (.v (.ro .lock)) (.pair (.v (.int)) .one))), (.pair (.tup (.pair .int (.pair .int .one))) .one), fun x => f_spec_Pick n x.1.2 x.2.1.2 x.2.2.1⟩
theorem r_spec_Pick_ok (n : Nat) : RwOk Go.Proofs.Tryz.prog tyK (r_spec_Pick n) :=
  ent_ok (fa := a_spec_Pick) (ls := []) (cs := []) (n := n) (es := [(r_spec_TasksOk n), (r_spec_LocksOk n), (r_spec_l8Pick n), (r_spec_l8Executor n)]) mixedOk tbOk (ents_cons (r_spec_TasksOk_ok n) (ents_cons (r_spec_LocksOk_ok n) (ents_cons (r_spec_l8Pick_ok n) (ents_cons (r_spec_l8Executor_ok n) ents_nil)))) Go.Proofs.Tryz.func48 (by kernel_rfl) (by kernel_rfl) (by kernel_rfl) (LSsOk.nil _ _) (fun x => by kernel_rfl)
/-! loop.example/g00185/spec.JudgeAlone -/
noncomputable def a_spec_JudgeAlone : FnA := ⟨Go.Proofs.Tryz.f14, ⟨[(0, [(0, .slot 0 .int)]), (1, [(1, .call [.ro] .bool [] [])]), (3, [(0, .slot 1 .int)]), (7, [(5, .call [.ro, .ro, .ro] (.tup (.pair .int (.pair .int .one))) [] [])]), (8, [(5, .call [.ro, .ro] .bool [] [])]), (10, [(2, .slot 3 .int), (3, .slot 4 .int)])], [], []⟩, 5⟩
def l_spec_JudgeAlone_0 {α : Type} (n : Nat) : Nat → Sys → List Int → Int → (Option α) → (Option α) → Option α
  | 0, _, _, _, _, _ => none
  | m0 + 1, v2, v3, v4, k0_0, k0_1 =>
    cond (decide (v4 < v2.Cpus))
     ((f_spec_Pick n v2.Tasks v2.Locks v4).bind fun r5 =>
      cond (decide (0 < r5.1.2.1))
       ((f_spec_l7Has n v3 r5.1.2.1).bind fun r6 =>
        cond r6.1
         (k0_0)
         (cond (decide ((v3).length + (([r5.1.2.1] : List Int)).length ≤ lim))
           (l_spec_JudgeAlone_0 n m0 v2 (v3 ++ ([r5.1.2.1] : List Int)) (w64 (v4 + 1)) k0_0 k0_1)
           (none)))
       (cond (decide ((v3).length + (([r5.1.2.1] : List Int)).length ≤ lim))
         (l_spec_JudgeAlone_0 n m0 v2 (v3 ++ ([r5.1.2.1] : List Int)) (w64 (v4 + 1)) k0_0 k0_1)
         (none)))
     (k0_1)
def f_spec_JudgeAlone (n : Nat) (a0 : Sys) : Option (Bool × Unit) :=
  (f_spec_SysOk n a0).bind fun r1 =>
  cond (!r1.1)
   (some (false, ()))
   (l_spec_JudgeAlone_0 n n a0 ([] : List Int) 0
     (some (false, ()))
     (some (true, ())))
def r_spec_JudgeAlone (n : Nat) : Rw := ⟨14, (.pair (.v (.agg (.pair .int (.pair .int (.pair (.ro .task) (.pair (.ro .lock) (.pair (.ro .ghost) (.pair (.ro .int) (.pair .int (.pair .int (.pair (.ro .turn) .one))))))))))) .one), (.pair .bool .one), fun x => f_spec_JudgeAlone n (⟨x.1.1, x.1.2.1, x.1.2.2.1.2, x.1.2.2.2.1.2, x.1.2.2.2.2.1.2, x.1.2.2.2.2.2.1.2, x.1.2.2.2.2.2.2.1, x.1.2.2.2.2.2.2.2.1, x.1.2.2.2.2.2.2.2.2.1.2⟩ : Sys)⟩
def s_spec_JudgeAlone_0 (n : Nat) : LS where
  la := ⟨5, [1, 3, 4], [(.t 3, 2, .int)], [3, 4], [2], [3, 4]⟩
  nt := 37
  kt := [1, 3, 4]
  hs := [.k, .dead, .k, .fresh, .fresh]
  X := Int × Int × Bool × List Task × Bool × List Lock × Bool × List Ghost × Bool × List Int × Int × Int × Bool × List Turn × List Int × Int
  abs := fun vs es => match vs, es with | [.ptr 0 0, .bor 2, .int y15], [.box [.int y0, .int y1, .ro y2 .task y3, .ro y4 .lock y5, .ro y6 .ghost y7, .ro y8 .int y9, .int y10, .int y11, .ro y12 .turn y13], .root .int y14 .ok] => some (y0, y1, y2, y3, y4, y5, y6, y7, y8, y9, y10, y11, y12, y13, y14, y15) | _, _ => none
  tms := fun x => [.ptr 0 0, .bor 2, .int x.2.2.2.2.2.2.2.2.2.2.2.2.2.2.2]
  ets := fun x => [.box [.int x.1, .int x.2.1, .ro x.2.2.1 .task x.2.2.2.1, .ro x.2.2.2.2.1 .lock x.2.2.2.2.2.1, .ro x.2.2.2.2.2.2.1 .ghost x.2.2.2.2.2.2.2.1, .ro x.2.2.2.2.2.2.2.2.1 .int x.2.2.2.2.2.2.2.2.2.1, .int x.2.2.2.2.2.2.2.2.2.2.1, .int x.2.2.2.2.2.2.2.2.2.2.2.1, .ro x.2.2.2.2.2.2.2.2.2.2.2.2.1 .turn x.2.2.2.2.2.2.2.2.2.2.2.2.2.1], .root .int x.2.2.2.2.2.2.2.2.2.2.2.2.2.2.1 .ok]
  run := fun m x k => l_spec_JudgeAlone_0 n m (⟨x.1, x.2.1, x.2.2.2.1, x.2.2.2.2.2.1, x.2.2.2.2.2.2.2.1, x.2.2.2.2.2.2.2.2.2.1, x.2.2.2.2.2.2.2.2.2.2.1, x.2.2.2.2.2.2.2.2.2.2.2.1, x.2.2.2.2.2.2.2.2.2.2.2.2.2.1⟩ : Sys) x.2.2.2.2.2.2.2.2.2.2.2.2.2.2.1 x.2.2.2.2.2.2.2.2.2.2.2.2.2.2.2 (k .ret ⟨layT [2] [.bool false] 0 37, layH [.dead, .dead, .dead, .fresh, .fresh] []⟩) (k (.exit 0) ⟨layT [] [] 0 37, layH [.dead, .dead, .dead, .fresh, .fresh] []⟩)
noncomputable def c_spec_JudgeAlone_0 : Code := (Go.Proofs.Tryz.f14.body.bind (subLoop 5)).getD .skip
theorem s_spec_JudgeAlone_0_ok (n : Nat) : LSok Tb tyK (orc [(r_spec_SysOk n), (r_spec_Pick n), (r_spec_l7Has n)]) n a_spec_JudgeAlone.ann [s_spec_JudgeAlone_0 n] c_spec_JudgeAlone_0 (s_spec_JudgeAlone_0 n) :=
  ⟨by intro vs es x h; dsimp only [s_spec_JudgeAlone_0] at h; split at h; (· injection h with h; subst h; exact ⟨rfl, rfl⟩); (· cases h), fun _ _ => rfl, fun m x k => by kernel_rfl⟩
theorem r_spec_JudgeAlone_ok (n : Nat) : RwOk Go.Proofs.Tryz.prog tyK (r_spec_JudgeAlone n) :=
  ent_ok (fa := a_spec_JudgeAlone) (ls := [s_spec_JudgeAlone_0 n]) (cs := [c_spec_JudgeAlone_0]) (n := n) (es := [(r_spec_SysOk n), (r_spec_Pick n), (r_spec_l7Has n)]) mixedOk tbOk (ents_cons (r_spec_SysOk_ok n) (ents_cons (r_spec_Pick_ok n) (ents_cons (r_spec_l7Has_ok n) ents_nil))) Go.Proofs.Tryz.func14 (by kernel_rfl) (by kernel_rfl) (by kernel_rfl) (LSsOk.cons _ _ (l := s_spec_JudgeAlone_0 n) (by kernel_rfl) (s_spec_JudgeAlone_0_ok n) (LSsOk.nil _ _)) (fun x => by kernel_rfl)
/-! loop.example/g00185/impl.JudgeAlone -/
noncomputable def a_impl_JudgeAlone : FnA := ⟨Go.Proofs.Tryz.f15, ⟨[(0, [(0, .slot 0 .int)]), (1, [(1, .call [.ro] .bool [] [])]), (3, [(0, .slot 1 .int)]), (7, [(5, .call [.ro, .ro, .ro] (.tup (.pair .int (.pair .int .one))) [] [])]), (8, [(5, .call [.ro, .ro] .bool [] [])]), (10, [(2, .slot 3 .int), (3, .slot 4 .int)])], [], []⟩, 5⟩
def l_impl_JudgeAlone_0 {α : Type} (n : Nat) : Nat → Sys → List Int → Int → Int → (Option α) → (Option α) → Option α
  | 0, _, _, _, _, _, _ => none
  | m0 + 1, v2, v3, v4, v5, k0_0, k0_1 =>
    cond (decide (v5 < v4))
     ((f_impl_Pick n v2.Tasks v2.Locks v5).bind fun r6 =>
      cond (!(decide (r6.1.2.1 = 0)))
       ((f_slices_Contains_int n v3 r6.1.2.1).bind fun r7 =>
        cond r7.1
         (k0_0)
         (cond (decide ((v3).length + (([r6.1.2.1] : List Int)).length ≤ lim))
           (l_impl_JudgeAlone_0 n m0 v2 (v3 ++ ([r6.1.2.1] : List Int)) v4 (w64 (v5 + 1)) k0_0 k0_1)
           (none)))
       (cond (decide ((v3).length + (([r6.1.2.1] : List Int)).length ≤ lim))
         (l_impl_JudgeAlone_0 n m0 v2 (v3 ++ ([r6.1.2.1] : List Int)) v4 (w64 (v5 + 1)) k0_0 k0_1)
         (none)))
     (k0_1)
def f_impl_JudgeAlone (n : Nat) (a0 : Sys) : Option (Bool × Unit) :=
  (f_impl_SysOk n a0).bind fun r1 =>
  cond (!r1.1)
   (some (false, ()))
   (l_impl_JudgeAlone_0 n n a0 ([] : List Int) a0.Cpus 0
     (some (false, ()))
     (some (true, ())))
def r_impl_JudgeAlone (n : Nat) : Rw := ⟨15, (.pair (.v (.agg (.pair .int (.pair .int (.pair (.ro .task) (.pair (.ro .lock) (.pair (.ro .ghost) (.pair (.ro .int) (.pair .int (.pair .int (.pair (.ro .turn) .one))))))))))) .one), (.pair .bool .one), fun x => f_impl_JudgeAlone n (⟨x.1.1, x.1.2.1, x.1.2.2.1.2, x.1.2.2.2.1.2, x.1.2.2.2.2.1.2, x.1.2.2.2.2.2.1.2, x.1.2.2.2.2.2.2.1, x.1.2.2.2.2.2.2.2.1, x.1.2.2.2.2.2.2.2.2.1.2⟩ : Sys)⟩
def s_impl_JudgeAlone_0 (n : Nat) : LS where
  la := ⟨5, [1, 3, 12, 13], [(.t 3, 2, .int)], [3, 4], [2], [3, 4]⟩
  nt := 37
  kt := [1, 3, 12, 13]
  hs := [.k, .dead, .k, .fresh, .fresh]
  X := Int × Int × Bool × List Task × Bool × List Lock × Bool × List Ghost × Bool × List Int × Int × Int × Bool × List Turn × List Int × Int × Int
  abs := fun vs es => match vs, es with | [.ptr 0 0, .bor 2, .int y15, .int y16], [.box [.int y0, .int y1, .ro y2 .task y3, .ro y4 .lock y5, .ro y6 .ghost y7, .ro y8 .int y9, .int y10, .int y11, .ro y12 .turn y13], .root .int y14 .ok] => some (y0, y1, y2, y3, y4, y5, y6, y7, y8, y9, y10, y11, y12, y13, y14, y15, y16) | _, _ => none
  tms := fun x => [.ptr 0 0, .bor 2, .int x.2.2.2.2.2.2.2.2.2.2.2.2.2.2.2.1, .int x.2.2.2.2.2.2.2.2.2.2.2.2.2.2.2.2]
  ets := fun x => [.box [.int x.1, .int x.2.1, .ro x.2.2.1 .task x.2.2.2.1, .ro x.2.2.2.2.1 .lock x.2.2.2.2.2.1, .ro x.2.2.2.2.2.2.1 .ghost x.2.2.2.2.2.2.2.1, .ro x.2.2.2.2.2.2.2.2.1 .int x.2.2.2.2.2.2.2.2.2.1, .int x.2.2.2.2.2.2.2.2.2.2.1, .int x.2.2.2.2.2.2.2.2.2.2.2.1, .ro x.2.2.2.2.2.2.2.2.2.2.2.2.1 .turn x.2.2.2.2.2.2.2.2.2.2.2.2.2.1], .root .int x.2.2.2.2.2.2.2.2.2.2.2.2.2.2.1 .ok]
  run := fun m x k => l_impl_JudgeAlone_0 n m (⟨x.1, x.2.1, x.2.2.2.1, x.2.2.2.2.2.1, x.2.2.2.2.2.2.2.1, x.2.2.2.2.2.2.2.2.2.1, x.2.2.2.2.2.2.2.2.2.2.1, x.2.2.2.2.2.2.2.2.2.2.2.1, x.2.2.2.2.2.2.2.2.2.2.2.2.2.1⟩ : Sys) x.2.2.2.2.2.2.2.2.2.2.2.2.2.2.1 x.2.2.2.2.2.2.2.2.2.2.2.2.2.2.2.1 x.2.2.2.2.2.2.2.2.2.2.2.2.2.2.2.2 (k .ret ⟨layT [2] [.bool false] 0 37, layH [.dead, .dead, .dead, .fresh, .fresh] []⟩) (k (.exit 0) ⟨layT [] [] 0 37, layH [.dead, .dead, .dead, .fresh, .fresh] []⟩)
noncomputable def c_impl_JudgeAlone_0 : Code := (Go.Proofs.Tryz.f15.body.bind (subLoop 5)).getD .skip
theorem s_impl_JudgeAlone_0_ok (n : Nat) : LSok Tb tyK (orc [(r_impl_SysOk n), (r_impl_Pick n), (r_slices_Contains_int n)]) n a_impl_JudgeAlone.ann [s_impl_JudgeAlone_0 n] c_impl_JudgeAlone_0 (s_impl_JudgeAlone_0 n) :=
  ⟨by intro vs es x h; dsimp only [s_impl_JudgeAlone_0] at h; split at h; (· injection h with h; subst h; exact ⟨rfl, rfl⟩); (· cases h), fun _ _ => rfl, fun m x k => by kernel_rfl⟩
theorem r_impl_JudgeAlone_ok (n : Nat) : RwOk Go.Proofs.Tryz.prog tyK (r_impl_JudgeAlone n) :=
  ent_ok (fa := a_impl_JudgeAlone) (ls := [s_impl_JudgeAlone_0 n]) (cs := [c_impl_JudgeAlone_0]) (n := n) (es := [(r_impl_SysOk n), (r_impl_Pick n), (r_slices_Contains_int n)]) mixedOk tbOk (ents_cons (r_impl_SysOk_ok n) (ents_cons (r_impl_Pick_ok n) (ents_cons (r_slices_Contains_int_ok n) ents_nil))) Go.Proofs.Tryz.func15 (by kernel_rfl) (by kernel_rfl) (by kernel_rfl) (LSsOk.cons _ _ (l := s_impl_JudgeAlone_0 n) (by kernel_rfl) (s_impl_JudgeAlone_0_ok n) (LSsOk.nil _ _)) (fun x => by kernel_rfl)
/-! loop.example/g00185/laws.FnExactJudgeAlone -/
noncomputable def a_laws_FnExactJudgeAlone : FnA := ⟨Go.Proofs.Tryz.f5, ⟨[(0, [(0, .slot 0 .int)]), (2, [(2, .call [.ro, .ro] .int [] [])]), (5, [(1, .call [.ro] (.agg (.pair .int (.pair .int (.pair (.ro .task) (.pair (.ro .lock) (.pair (.ro .ghost) (.pair (.ro .int) (.pair .int (.pair .int (.pair (.ro .turn) .one)))))))))) [] []), (2, .call [.ro] .bool [] [])]), (6, [(1, .call [.ro] (.agg (.pair .int (.pair .int (.pair (.ro .task) (.pair (.ro .lock) (.pair (.ro .ghost) (.pair (.ro .int) (.pair .int (.pair .int (.pair (.ro .turn) .one)))))))))) [] []), (2, .slot 1 .int)]), (7, [(1, .call [.ro] .bool [] [])]), (10, [(2, .call [.ro] (.agg (.pair .int (.pair .int (.pair (.ro .task) (.pair (.ro .lock) (.pair (.ro .ghost) (.pair (.ro .int) (.pair .int (.pair .int (.pair (.ro .turn) .one)))))))))) [] []), (3, .call [.ro, .ro] .bool [] [])])], [(10, [([1], []), ([0], []), ([], []), ([], []), ([], [])])], []⟩, 2⟩
def f_laws_FnExactJudgeAlone (n : Nat) (a0 : Sys) : Option (Bool × Unit) :=
  (f_laws_szSys n a0 1048576).bind fun r1 =>
  cond (decide (r1.1 < 0))
   (some (true, ()))
   ((f_laws_toSys n a0).bind fun r2 =>
    (f_spec_JudgeAlone n (dnSys r2.1)).bind fun r3 =>
    (f_laws_toSys n a0).bind fun r4 =>
    (f_impl_JudgeAlone n (dnSys r4.1)).bind fun r5 =>
    cond (!(r5.1 == r3.1))
     (some (false, ()))
     ((f_laws_toSys n a0).bind fun r6 =>
      (f_laws_eqSys n (dnSys r4.1) (dnSys r6.1)).bind fun r7 =>
      cond (!r7.1)
       (some (false, ()))
       (some (true, ()))))
def r_laws_FnExactJudgeAlone (n : Nat) : Rw := ⟨5, (.pair (.v (.agg (.pair .int (.pair .int (.pair (.ro .task) (.pair (.ro .lock) (.pair (.ro .ghost) (.pair (.ro .int) (.pair .int (.pair .int (.pair (.ro .turn) .one))))))))))) .one), (.pair .bool .one), fun x => f_laws_FnExactJudgeAlone n (⟨x.1.1, x.1.2.1, x.1.2.2.1.2, x.1.2.2.2.1.2, x.1.2.2.2.2.1.2, x.1.2.2.2.2.2.1.2, x.1.2.2.2.2.2.2.1, x.1.2.2.2.2.2.2.2.1, x.1.2.2.2.2.2.2.2.2.1.2⟩ : Sys)⟩
theorem r_laws_FnExactJudgeAlone_ok (n : Nat) : RwOk Go.Proofs.Tryz.prog tyK (r_laws_FnExactJudgeAlone n) :=
  ent_ok (fa := a_laws_FnExactJudgeAlone) (ls := []) (cs := []) (n := n) (es := [(r_laws_szSys n), (r_laws_toSys n), (r_spec_JudgeAlone n), (r_impl_JudgeAlone n), (r_laws_eqSys n)]) mixedOk tbOk (ents_cons (r_laws_szSys_ok n) (ents_cons (r_laws_toSys_ok n) (ents_cons (r_spec_JudgeAlone_ok n) (ents_cons (r_impl_JudgeAlone_ok n) (ents_cons (r_laws_eqSys_ok n) ents_nil))))) Go.Proofs.Tryz.func5 (by kernel_rfl) (by kernel_rfl) (by kernel_rfl) (LSsOk.nil _ _) (fun x => by kernel_rfl)
/-! loop.example/g00185/spec.JudgeTurns -/
noncomputable def a_spec_JudgeTurns : FnA := ⟨Go.Proofs.Tryz.f51, ⟨[(0, [(0, .slot 0 .int)]), (1, [(1, .call [.ro] .bool [] [])]), (6, [(5, .slot 1 .int)])], [(7, [([1], []), ([1], []), ([], []), ([0], []), ([0], []), ([], []), ([], []), ([], []), ([1], []), ([1], []), ([], []), ([1], []), ([1], []), ([], []), ([], []), ([], [])])], []⟩, 2⟩
def l_spec_JudgeTurns_0 {α : Type} (n : Nat) : Nat → Sys → Int → (Option α) → (Option α) → Option α
  | 0, _, _, _, _ => none
  | m0 + 1, v3, v4, k0_0, k0_1 =>
    cond (decide (v4 < ((v3.Trace).length : Int)))
     (cond ((decide (0 ≤ v4)) && (decide (v4 < ((v3.Trace).length : Int))))
       (cond (decide (v3.Cpus = 0))
         (none)
         (let e5 := (!(decide ((List.getD v3.Trace (Int.toNat v4) (Kd.dflt .turn)).Cpu = (Int.tmod v4 v3.Cpus))))
          cond e5
           (k0_0)
           (let e6 := (decide ((List.getD v3.Trace (Int.toNat v4) (Kd.dflt .turn)).Context = 0))
            let e7 := (decide ((List.getD v3.Trace (Int.toNat v4) (Kd.dflt .turn)).Executor = 0))
            cond (!(e6 == e7))
             (k0_0)
             (l_spec_JudgeTurns_0 n m0 v3 (w64 (v4 + 1)) k0_0 k0_1))))
       (none))
     (k0_1)
def f_spec_JudgeTurns (n : Nat) (a0 : Sys) : Option (Bool × Unit) :=
  (f_spec_SysOk n a0).bind fun r1 =>
  cond (!r1.1)
   (some (false, ()))
   (cond (decide (a0.Cpus = 0))
     (none)
     (let e2 := (!(decide ((Int.tmod ((a0.Trace).length : Int) a0.Cpus) = 0)))
      cond e2
       (some (false, ()))
       (l_spec_JudgeTurns_0 n n a0 0
         (some (false, ()))
         (some (true, ())))))
def r_spec_JudgeTurns (n : Nat) : Rw := ⟨51, (.pair (.v (.agg (.pair .int (.pair .int (.pair (.ro .task) (.pair (.ro .lock) (.pair (.ro .ghost) (.pair (.ro .int) (.pair .int (.pair .int (.pair (.ro .turn) .one))))))))))) .one), (.pair .bool .one), fun x => f_spec_JudgeTurns n (⟨x.1.1, x.1.2.1, x.1.2.2.1.2, x.1.2.2.2.1.2, x.1.2.2.2.2.1.2, x.1.2.2.2.2.2.1.2, x.1.2.2.2.2.2.2.1, x.1.2.2.2.2.2.2.2.1, x.1.2.2.2.2.2.2.2.2.1.2⟩ : Sys)⟩
def s_spec_JudgeTurns_0 (n : Nat) : LS where
  la := ⟨4, [1, 3], [], [1], [2], []⟩
  nt := 45
  kt := [1, 3]
  hs := [.k, .fresh]
  X := Int × Int × Bool × List Task × Bool × List Lock × Bool × List Ghost × Bool × List Int × Int × Int × Bool × List Turn × Int
  abs := fun vs es => match vs, es with | [.ptr 0 0, .int y14], [.box [.int y0, .int y1, .ro y2 .task y3, .ro y4 .lock y5, .ro y6 .ghost y7, .ro y8 .int y9, .int y10, .int y11, .ro y12 .turn y13]] => some (y0, y1, y2, y3, y4, y5, y6, y7, y8, y9, y10, y11, y12, y13, y14) | _, _ => none
  tms := fun x => [.ptr 0 0, .int x.2.2.2.2.2.2.2.2.2.2.2.2.2.2]
  ets := fun x => [.box [.int x.1, .int x.2.1, .ro x.2.2.1 .task x.2.2.2.1, .ro x.2.2.2.2.1 .lock x.2.2.2.2.2.1, .ro x.2.2.2.2.2.2.1 .ghost x.2.2.2.2.2.2.2.1, .ro x.2.2.2.2.2.2.2.2.1 .int x.2.2.2.2.2.2.2.2.2.1, .int x.2.2.2.2.2.2.2.2.2.2.1, .int x.2.2.2.2.2.2.2.2.2.2.2.1, .ro x.2.2.2.2.2.2.2.2.2.2.2.2.1 .turn x.2.2.2.2.2.2.2.2.2.2.2.2.2.1]]
  run := fun m x k => l_spec_JudgeTurns_0 n m (⟨x.1, x.2.1, x.2.2.2.1, x.2.2.2.2.2.1, x.2.2.2.2.2.2.2.1, x.2.2.2.2.2.2.2.2.2.1, x.2.2.2.2.2.2.2.2.2.2.1, x.2.2.2.2.2.2.2.2.2.2.2.1, x.2.2.2.2.2.2.2.2.2.2.2.2.2.1⟩ : Sys) x.2.2.2.2.2.2.2.2.2.2.2.2.2.2 (k .ret ⟨layT [2] [.bool false] 0 45, layH [.dead, .dead] []⟩) (k (.exit 0) ⟨layT [] [] 0 45, layH [.dead, .dead] []⟩)
noncomputable def c_spec_JudgeTurns_0 : Code := (Go.Proofs.Tryz.f51.body.bind (subLoop 4)).getD .skip
theorem s_spec_JudgeTurns_0_ok (n : Nat) : LSok Tb tyK (orc [(r_spec_SysOk n)]) n a_spec_JudgeTurns.ann [s_spec_JudgeTurns_0 n] c_spec_JudgeTurns_0 (s_spec_JudgeTurns_0 n) :=
  ⟨by intro vs es x h; dsimp only [s_spec_JudgeTurns_0] at h; split at h; (· injection h with h; subst h; exact ⟨rfl, rfl⟩); (· cases h), fun _ _ => rfl, fun m x k => by kernel_rfl⟩
theorem r_spec_JudgeTurns_ok (n : Nat) : RwOk Go.Proofs.Tryz.prog tyK (r_spec_JudgeTurns n) :=
  ent_ok (fa := a_spec_JudgeTurns) (ls := [s_spec_JudgeTurns_0 n]) (cs := [c_spec_JudgeTurns_0]) (n := n) (es := [(r_spec_SysOk n)]) mixedOk tbOk (ents_cons (r_spec_SysOk_ok n) ents_nil) Go.Proofs.Tryz.func51 (by kernel_rfl) (by kernel_rfl) (by kernel_rfl) (LSsOk.cons _ _ (l := s_spec_JudgeTurns_0 n) (by kernel_rfl) (s_spec_JudgeTurns_0_ok n) (LSsOk.nil _ _)) (fun x => by kernel_rfl)
/-! loop.example/g00185/spec.JudgeDue -/
noncomputable def a_spec_JudgeDue : FnA := ⟨Go.Proofs.Tryz.f52, ⟨[(0, [(0, .slot 0 .int)]), (1, [(1, .call [.ro] .bool [] [])])], [], []⟩, 1⟩
def f_spec_JudgeDue (n : Nat) (a0 : Sys) : Option (Bool × Unit) :=
  (f_spec_SysOk n a0).bind fun r1 =>
  cond r1.1
   (some ((decide (a0.Missed = 0)), ()))
   (some (false, ()))
def r_spec_JudgeDue (n : Nat) : Rw := ⟨52, (.pair (.v (.agg (.pair .int (.pair .int (.pair (.ro .task) (.pair (.ro .lock) (.pair (.ro .ghost) (.pair (.ro .int) (.pair .int (.pair .int (.pair (.ro .turn) .one))))))))))) .one), (.pair .bool .one), fun x => f_spec_JudgeDue n (⟨x.1.1, x.1.2.1, x.1.2.2.1.2, x.1.2.2.2.1.2, x.1.2.2.2.2.1.2, x.1.2.2.2.2.2.1.2, x.1.2.2.2.2.2.2.1, x.1.2.2.2.2.2.2.2.1, x.1.2.2.2.2.2.2.2.2.1.2⟩ : Sys)⟩
theorem r_spec_JudgeDue_ok (n : Nat) : RwOk Go.Proofs.Tryz.prog tyK (r_spec_JudgeDue n) :=
  ent_ok (fa := a_spec_JudgeDue) (ls := []) (cs := []) (n := n) (es := [(r_spec_SysOk n)]) mixedOk tbOk (ents_cons (r_spec_SysOk_ok n) ents_nil) Go.Proofs.Tryz.func52 (by kernel_rfl) (by kernel_rfl) (by kernel_rfl) (LSsOk.nil _ _) (fun x => by kernel_rfl)
/-! loop.example/g00185/spec.JudgeFair -/
noncomputable def a_spec_JudgeFair : FnA := ⟨Go.Proofs.Tryz.f53, ⟨[(0, [(0, .slot 0 .int)]), (1, [(1, .call [.ro] .bool [] [])]), (6, [(5, .slot 1 .int)]), (7, [(18, .call [.ro, .ro, .ro] .bool [] [])])], [(7, [([1], []), ([1], []), ([], []), ([], []), ([1], []), ([1], []), ([], []), ([], []), ([], []), ([1], []), ([1], []), ([0], []), ([0], []), ([1], []), ([1], []), ([], []), ([], []), ([], []), ([], []), ([], []), ([], [])])], []⟩, 2⟩
def l_spec_JudgeFair_0 {α : Type} (n : Nat) : Nat → Sys → Int → (Option α) → (Option α) → Option α
  | 0, _, _, _, _ => none
  | m0 + 1, v2, v3, k0_0, k0_1 =>
    cond (decide (v3 < ((v2.Tasks).length : Int)))
     (cond ((decide (0 ≤ v3)) && (decide (v3 < ((v2.Tasks).length : Int))))
       (let e4 := (decide ((List.getD v2.Tasks (Int.toNat v3) (Kd.dflt .task)).Class = 3))
        cond e4
         (cond (!(List.getD v2.Tasks (Int.toNat v3) (Kd.dflt .task)).Idle)
           (cond ((decide (0 ≤ (List.getD v2.Tasks (Int.toNat v3) (Kd.dflt .task)).Cpu)) && (decide ((List.getD v2.Tasks (Int.toNat v3) (Kd.dflt .task)).Cpu < ((v2.Floors).length : Int))))
             (let e5 := (List.getD v2.Floors (Int.toNat (List.getD v2.Tasks (Int.toNat v3) (Kd.dflt .task)).Cpu) (Kd.dflt .int))
              let e6 := (w64 ((List.getD v2.Tasks (Int.toNat v3) (Kd.dflt .task)).V - e5))
              (f_spec_l1In e6 0 48).bind fun r7 =>
              cond (!r7.1)
               (k0_0)
               (l_spec_JudgeFair_0 n m0 v2 (w64 (v3 + 1)) k0_0 k0_1))
             (none))
           (l_spec_JudgeFair_0 n m0 v2 (w64 (v3 + 1)) k0_0 k0_1))
         (l_spec_JudgeFair_0 n m0 v2 (w64 (v3 + 1)) k0_0 k0_1))
       (none))
     (k0_1)
def f_spec_JudgeFair (n : Nat) (a0 : Sys) : Option (Bool × Unit) :=
  (f_spec_SysOk n a0).bind fun r1 =>
  cond (!r1.1)
   (some (false, ()))
   (l_spec_JudgeFair_0 n n a0 0
     (some (false, ()))
     (some (true, ())))
def r_spec_JudgeFair (n : Nat) : Rw := ⟨53, (.pair (.v (.agg (.pair .int (.pair .int (.pair (.ro .task) (.pair (.ro .lock) (.pair (.ro .ghost) (.pair (.ro .int) (.pair .int (.pair .int (.pair (.ro .turn) .one))))))))))) .one), (.pair .bool .one), fun x => f_spec_JudgeFair n (⟨x.1.1, x.1.2.1, x.1.2.2.1.2, x.1.2.2.2.1.2, x.1.2.2.2.2.1.2, x.1.2.2.2.2.2.1.2, x.1.2.2.2.2.2.2.1, x.1.2.2.2.2.2.2.2.1, x.1.2.2.2.2.2.2.2.2.1.2⟩ : Sys)⟩
def s_spec_JudgeFair_0 (n : Nat) : LS where
  la := ⟨4, [1, 3], [], [1], [2], []⟩
  nt := 41
  kt := [1, 3]
  hs := [.k, .fresh]
  X := Int × Int × Bool × List Task × Bool × List Lock × Bool × List Ghost × Bool × List Int × Int × Int × Bool × List Turn × Int
  abs := fun vs es => match vs, es with | [.ptr 0 0, .int y14], [.box [.int y0, .int y1, .ro y2 .task y3, .ro y4 .lock y5, .ro y6 .ghost y7, .ro y8 .int y9, .int y10, .int y11, .ro y12 .turn y13]] => some (y0, y1, y2, y3, y4, y5, y6, y7, y8, y9, y10, y11, y12, y13, y14) | _, _ => none
  tms := fun x => [.ptr 0 0, .int x.2.2.2.2.2.2.2.2.2.2.2.2.2.2]
  ets := fun x => [.box [.int x.1, .int x.2.1, .ro x.2.2.1 .task x.2.2.2.1, .ro x.2.2.2.2.1 .lock x.2.2.2.2.2.1, .ro x.2.2.2.2.2.2.1 .ghost x.2.2.2.2.2.2.2.1, .ro x.2.2.2.2.2.2.2.2.1 .int x.2.2.2.2.2.2.2.2.2.1, .int x.2.2.2.2.2.2.2.2.2.2.1, .int x.2.2.2.2.2.2.2.2.2.2.2.1, .ro x.2.2.2.2.2.2.2.2.2.2.2.2.1 .turn x.2.2.2.2.2.2.2.2.2.2.2.2.2.1]]
  run := fun m x k => l_spec_JudgeFair_0 n m (⟨x.1, x.2.1, x.2.2.2.1, x.2.2.2.2.2.1, x.2.2.2.2.2.2.2.1, x.2.2.2.2.2.2.2.2.2.1, x.2.2.2.2.2.2.2.2.2.2.1, x.2.2.2.2.2.2.2.2.2.2.2.1, x.2.2.2.2.2.2.2.2.2.2.2.2.2.1⟩ : Sys) x.2.2.2.2.2.2.2.2.2.2.2.2.2.2 (k .ret ⟨layT [2] [.bool false] 0 41, layH [.dead, .dead] []⟩) (k (.exit 0) ⟨layT [] [] 0 41, layH [.dead, .dead] []⟩)
noncomputable def c_spec_JudgeFair_0 : Code := (Go.Proofs.Tryz.f53.body.bind (subLoop 4)).getD .skip
theorem s_spec_JudgeFair_0_ok (n : Nat) : LSok Tb tyK (orc [(r_spec_SysOk n), r_spec_l1In]) n a_spec_JudgeFair.ann [s_spec_JudgeFair_0 n] c_spec_JudgeFair_0 (s_spec_JudgeFair_0 n) :=
  ⟨by intro vs es x h; dsimp only [s_spec_JudgeFair_0] at h; split at h; (· injection h with h; subst h; exact ⟨rfl, rfl⟩); (· cases h), fun _ _ => rfl, fun m x k => by kernel_rfl⟩
theorem r_spec_JudgeFair_ok (n : Nat) : RwOk Go.Proofs.Tryz.prog tyK (r_spec_JudgeFair n) :=
  ent_ok (fa := a_spec_JudgeFair) (ls := [s_spec_JudgeFair_0 n]) (cs := [c_spec_JudgeFair_0]) (n := n) (es := [(r_spec_SysOk n), r_spec_l1In]) mixedOk tbOk (ents_cons (r_spec_SysOk_ok n) (ents_cons (r_spec_l1In_ok) ents_nil)) Go.Proofs.Tryz.func53 (by kernel_rfl) (by kernel_rfl) (by kernel_rfl) (LSsOk.cons _ _ (l := s_spec_JudgeFair_0 n) (by kernel_rfl) (s_spec_JudgeFair_0_ok n) (LSsOk.nil _ _)) (fun x => by kernel_rfl)
/-! loop.example/g00185/spec.JudgeAll -/
noncomputable def a_spec_JudgeAll : FnA := ⟨Go.Proofs.Tryz.f16, ⟨[(0, [(0, .slot 0 .int)]), (1, [(1, .call [.ro] .bool [] []), (4, .call [.ro] .bool [] []), (8, .call [.ro] .bool [] []), (12, .call [.ro] .bool [] []), (16, .call [.ro] .bool [] [])])], [], []⟩, 1⟩
def f_spec_JudgeAll (n : Nat) (a0 : Sys) : Option (Bool × Unit) :=
  (f_spec_JudgeTurns n a0).bind fun r1 =>
  cond r1.1
   ((f_spec_JudgeDue n a0).bind fun r2 =>
    cond r2.1
     ((f_spec_JudgeFair n a0).bind fun r3 =>
      cond r3.1
       ((f_spec_JudgeBest n a0).bind fun r4 =>
        cond r4.1
         ((f_spec_JudgeAlone n a0).bind fun r5 =>
          some (r5.1, ()))
         (some (false, ())))
       (some (false, ())))
     (some (false, ())))
   (some (false, ()))
def r_spec_JudgeAll (n : Nat) : Rw := ⟨16, (.pair (.v (.agg (.pair .int (.pair .int (.pair (.ro .task) (.pair (.ro .lock) (.pair (.ro .ghost) (.pair (.ro .int) (.pair .int (.pair .int (.pair (.ro .turn) .one))))))))))) .one), (.pair .bool .one), fun x => f_spec_JudgeAll n (⟨x.1.1, x.1.2.1, x.1.2.2.1.2, x.1.2.2.2.1.2, x.1.2.2.2.2.1.2, x.1.2.2.2.2.2.1.2, x.1.2.2.2.2.2.2.1, x.1.2.2.2.2.2.2.2.1, x.1.2.2.2.2.2.2.2.2.1.2⟩ : Sys)⟩
theorem r_spec_JudgeAll_ok (n : Nat) : RwOk Go.Proofs.Tryz.prog tyK (r_spec_JudgeAll n) :=
  ent_ok (fa := a_spec_JudgeAll) (ls := []) (cs := []) (n := n) (es := [(r_spec_JudgeTurns n), (r_spec_JudgeDue n), (r_spec_JudgeFair n), (r_spec_JudgeBest n), (r_spec_JudgeAlone n)]) mixedOk tbOk (ents_cons (r_spec_JudgeTurns_ok n) (ents_cons (r_spec_JudgeDue_ok n) (ents_cons (r_spec_JudgeFair_ok n) (ents_cons (r_spec_JudgeBest_ok n) (ents_cons (r_spec_JudgeAlone_ok n) ents_nil))))) Go.Proofs.Tryz.func16 (by kernel_rfl) (by kernel_rfl) (by kernel_rfl) (LSsOk.nil _ _) (fun x => by kernel_rfl)
/-! loop.example/g00185/impl.JudgeTurns -/
noncomputable def a_impl_JudgeTurns : FnA := ⟨Go.Proofs.Tryz.f54, ⟨[(0, [(0, .slot 0 .int)]), (1, [(1, .call [.ro] .bool [] [])]), (5, [(3, .slot 1 .int)])], [(6, [([1], []), ([1], []), ([], []), ([0], []), ([0], []), ([], []), ([], []), ([], []), ([1], []), ([1], []), ([], []), ([1], []), ([1], []), ([], []), ([], []), ([], [])])], []⟩, 2⟩
def l_impl_JudgeTurns_0 {α : Type} (n : Nat) : Nat → Sys → List Turn → Int → Int → (Option α) → (Option α) → Option α
  | 0, _, _, _, _, _, _ => none
  | m0 + 1, v3, v4, v5, v6, k0_0, k0_1 =>
    cond (decide (v6 < v5))
     (cond ((decide (0 ≤ v6)) && (decide (v6 < ((v4).length : Int))))
       (cond (decide (v3.Cpus = 0))
         (none)
         (let e7 := (!(decide ((List.getD v4 (Int.toNat v6) (Kd.dflt .turn)).Cpu = (Int.tmod v6 v3.Cpus))))
          cond e7
           (k0_0)
           (let e8 := (decide ((List.getD v4 (Int.toNat v6) (Kd.dflt .turn)).Executor = 0))
            let e9 := (decide ((List.getD v4 (Int.toNat v6) (Kd.dflt .turn)).Context = 0))
            cond (!(e8 == e9))
             (k0_0)
             (l_impl_JudgeTurns_0 n m0 v3 v4 v5 (w64 (v6 + 1)) k0_0 k0_1))))
       (none))
     (k0_1)
def f_impl_JudgeTurns (n : Nat) (a0 : Sys) : Option (Bool × Unit) :=
  (f_impl_SysOk n a0).bind fun r1 =>
  cond (!r1.1)
   (some (false, ()))
   (cond (decide (a0.Cpus = 0))
     (none)
     (let e2 := (!(decide ((Int.tmod ((a0.Trace).length : Int) a0.Cpus) = 0)))
      cond e2
       (some (false, ()))
       (l_impl_JudgeTurns_0 n n a0 a0.Trace ((a0.Trace).length : Int) 0
         (some (false, ()))
         (some (true, ())))))
def r_impl_JudgeTurns (n : Nat) : Rw := ⟨54, (.pair (.v (.agg (.pair .int (.pair .int (.pair (.ro .task) (.pair (.ro .lock) (.pair (.ro .ghost) (.pair (.ro .int) (.pair .int (.pair .int (.pair (.ro .turn) .one))))))))))) .one), (.pair .bool .one), fun x => f_impl_JudgeTurns n (⟨x.1.1, x.1.2.1, x.1.2.2.1.2, x.1.2.2.2.1.2, x.1.2.2.2.2.1.2, x.1.2.2.2.2.2.1.2, x.1.2.2.2.2.2.2.1, x.1.2.2.2.2.2.2.2.1, x.1.2.2.2.2.2.2.2.2.1.2⟩ : Sys)⟩
def s_impl_JudgeTurns_0 (n : Nat) : LS where
  la := ⟨4, [1, 18, 19, 20], [], [1], [2], []⟩
  nt := 42
  kt := [1, 18, 19, 20]
  hs := [.k, .fresh]
  X := Int × Int × Bool × List Task × Bool × List Lock × Bool × List Ghost × Bool × List Int × Int × Int × Bool × List Turn × Bool × List Turn × Int × Int
  abs := fun vs es => match vs, es with | [.ptr 0 0, .ro y14 .turn y15, .int y16, .int y17], [.box [.int y0, .int y1, .ro y2 .task y3, .ro y4 .lock y5, .ro y6 .ghost y7, .ro y8 .int y9, .int y10, .int y11, .ro y12 .turn y13]] => some (y0, y1, y2, y3, y4, y5, y6, y7, y8, y9, y10, y11, y12, y13, y14, y15, y16, y17) | _, _ => none
  tms := fun x => [.ptr 0 0, .ro x.2.2.2.2.2.2.2.2.2.2.2.2.2.2.1 .turn x.2.2.2.2.2.2.2.2.2.2.2.2.2.2.2.1, .int x.2.2.2.2.2.2.2.2.2.2.2.2.2.2.2.2.1, .int x.2.2.2.2.2.2.2.2.2.2.2.2.2.2.2.2.2]
  ets := fun x => [.box [.int x.1, .int x.2.1, .ro x.2.2.1 .task x.2.2.2.1, .ro x.2.2.2.2.1 .lock x.2.2.2.2.2.1, .ro x.2.2.2.2.2.2.1 .ghost x.2.2.2.2.2.2.2.1, .ro x.2.2.2.2.2.2.2.2.1 .int x.2.2.2.2.2.2.2.2.2.1, .int x.2.2.2.2.2.2.2.2.2.2.1, .int x.2.2.2.2.2.2.2.2.2.2.2.1, .ro x.2.2.2.2.2.2.2.2.2.2.2.2.1 .turn x.2.2.2.2.2.2.2.2.2.2.2.2.2.1]]
  run := fun m x k => l_impl_JudgeTurns_0 n m (⟨x.1, x.2.1, x.2.2.2.1, x.2.2.2.2.2.1, x.2.2.2.2.2.2.2.1, x.2.2.2.2.2.2.2.2.2.1, x.2.2.2.2.2.2.2.2.2.2.1, x.2.2.2.2.2.2.2.2.2.2.2.1, x.2.2.2.2.2.2.2.2.2.2.2.2.2.1⟩ : Sys) x.2.2.2.2.2.2.2.2.2.2.2.2.2.2.2.1 x.2.2.2.2.2.2.2.2.2.2.2.2.2.2.2.2.1 x.2.2.2.2.2.2.2.2.2.2.2.2.2.2.2.2.2 (k .ret ⟨layT [2] [.bool false] 0 42, layH [.dead, .dead] []⟩) (k (.exit 0) ⟨layT [] [] 0 42, layH [.dead, .dead] []⟩)
noncomputable def c_impl_JudgeTurns_0 : Code := (Go.Proofs.Tryz.f54.body.bind (subLoop 4)).getD .skip
theorem s_impl_JudgeTurns_0_ok (n : Nat) : LSok Tb tyK (orc [(r_impl_SysOk n)]) n a_impl_JudgeTurns.ann [s_impl_JudgeTurns_0 n] c_impl_JudgeTurns_0 (s_impl_JudgeTurns_0 n) :=
  ⟨by intro vs es x h; dsimp only [s_impl_JudgeTurns_0] at h; split at h; (· injection h with h; subst h; exact ⟨rfl, rfl⟩); (· cases h), fun _ _ => rfl, fun m x k => by kernel_rfl⟩
theorem r_impl_JudgeTurns_ok (n : Nat) : RwOk Go.Proofs.Tryz.prog tyK (r_impl_JudgeTurns n) :=
  ent_ok (fa := a_impl_JudgeTurns) (ls := [s_impl_JudgeTurns_0 n]) (cs := [c_impl_JudgeTurns_0]) (n := n) (es := [(r_impl_SysOk n)]) mixedOk tbOk (ents_cons (r_impl_SysOk_ok n) ents_nil) Go.Proofs.Tryz.func54 (by kernel_rfl) (by kernel_rfl) (by kernel_rfl) (LSsOk.cons _ _ (l := s_impl_JudgeTurns_0 n) (by kernel_rfl) (s_impl_JudgeTurns_0_ok n) (LSsOk.nil _ _)) (fun x => by kernel_rfl)
/-! loop.example/g00185/impl.JudgeDue -/
noncomputable def a_impl_JudgeDue : FnA := ⟨Go.Proofs.Tryz.f55, ⟨[(0, [(0, .slot 0 .int)]), (1, [(1, .call [.ro] .bool [] [])])], [], []⟩, 1⟩
def f_impl_JudgeDue (n : Nat) (a0 : Sys) : Option (Bool × Unit) :=
  (f_impl_SysOk n a0).bind fun r1 =>
  cond r1.1
   (some ((decide (a0.Missed = 0)), ()))
   (some (false, ()))
def r_impl_JudgeDue (n : Nat) : Rw := ⟨55, (.pair (.v (.agg (.pair .int (.pair .int (.pair (.ro .task) (.pair (.ro .lock) (.pair (.ro .ghost) (.pair (.ro .int) (.pair .int (.pair .int (.pair (.ro .turn) .one))))))))))) .one), (.pair .bool .one), fun x => f_impl_JudgeDue n (⟨x.1.1, x.1.2.1, x.1.2.2.1.2, x.1.2.2.2.1.2, x.1.2.2.2.2.1.2, x.1.2.2.2.2.2.1.2, x.1.2.2.2.2.2.2.1, x.1.2.2.2.2.2.2.2.1, x.1.2.2.2.2.2.2.2.2.1.2⟩ : Sys)⟩
theorem r_impl_JudgeDue_ok (n : Nat) : RwOk Go.Proofs.Tryz.prog tyK (r_impl_JudgeDue n) :=
  ent_ok (fa := a_impl_JudgeDue) (ls := []) (cs := []) (n := n) (es := [(r_impl_SysOk n)]) mixedOk tbOk (ents_cons (r_impl_SysOk_ok n) ents_nil) Go.Proofs.Tryz.func55 (by kernel_rfl) (by kernel_rfl) (by kernel_rfl) (LSsOk.nil _ _) (fun x => by kernel_rfl)
/-! loop.example/g00185/impl.JudgeFair$1 -/
noncomputable def a_impl_JudgeFair_1 : FnA := ⟨Go.Proofs.Tryz.f112, ⟨[(0, [(0, .slot 0 .int)]), (1, [(24, .call [.ro, .ro, .ro] .bool [] [])])], [(1, [([0], []), ([0], []), ([], []), ([], []), ([0], []), ([0], []), ([], []), ([], []), ([], []), ([0], []), ([0], []), ([], []), ([], []), ([0], []), ([0], []), ([], []), ([], []), ([], []), ([], []), ([0], []), ([0], []), ([], []), ([], []), ([], []), ([], []), ([], []), ([], []), ([], [])])], []⟩, 1⟩
def f_impl_JudgeFair_1 (a0 : Task) (a1 : Sys) : Option (Bool × Unit) :=
  cond (decide (a0.Class = 3))
   (cond (!a0.Idle)
     (cond ((decide (0 ≤ a0.Cpu)) && (decide (a0.Cpu < ((a1.Floors).length : Int))))
       (cond ((decide (0 ≤ a0.Cpu)) && (decide (a0.Cpu < ((a1.Floors).length : Int))))
         (let e1 := (w64 ((List.getD a1.Floors (Int.toNat a0.Cpu) (Kd.dflt .int)) + 48))
          (f_impl_in a0.V (List.getD a1.Floors (Int.toNat a0.Cpu) (Kd.dflt .int)) e1).bind fun r2 =>
          some ((!r2.1), ()))
         (none))
       (none))
     (some (false, ())))
   (some (false, ()))
def r_impl_JudgeFair_1 : Rw := ⟨112, (.pair (.v (.agg (.pair .int (.pair .int (.pair .int (.pair .int (.pair .bool (.pair .int (.pair .int (.pair .int (.pair .int (.pair .int (.pair .int (.pair .int (.pair .int (.pair .int .one)))))))))))))))) (.pair (.v (.rp (.pair .int (.pair .int (.pair (.ro .task) (.pair (.ro .lock) (.pair (.ro .ghost) (.pair (.ro .int) (.pair .int (.pair .int (.pair (.ro .turn) .one))))))))) 0)) .one)), (.pair .bool .one), fun x => f_impl_JudgeFair_1 (⟨x.1.1, x.1.2.1, x.1.2.2.1, x.1.2.2.2.1, x.1.2.2.2.2.1, x.1.2.2.2.2.2.1, x.1.2.2.2.2.2.2.1, x.1.2.2.2.2.2.2.2.1, x.1.2.2.2.2.2.2.2.2.1, x.1.2.2.2.2.2.2.2.2.2.1, x.1.2.2.2.2.2.2.2.2.2.2.1, x.1.2.2.2.2.2.2.2.2.2.2.2.1, x.1.2.2.2.2.2.2.2.2.2.2.2.2.1, x.1.2.2.2.2.2.2.2.2.2.2.2.2.2.1⟩ : Task) (⟨x.2.1.1, x.2.1.2.1, x.2.1.2.2.1.2, x.2.1.2.2.2.1.2, x.2.1.2.2.2.2.1.2, x.2.1.2.2.2.2.2.1.2, x.2.1.2.2.2.2.2.2.1, x.2.1.2.2.2.2.2.2.2.1, x.2.1.2.2.2.2.2.2.2.2.1.2⟩ : Sys)⟩
theorem r_impl_JudgeFair_1_ok : RwOk Go.Proofs.Tryz.prog tyK (r_impl_JudgeFair_1) :=
  ent_ok (fa := a_impl_JudgeFair_1) (ls := []) (cs := []) (n := 0) (es := [r_impl_in]) mixedOk tbOk (ents_cons (r_impl_in_ok) ents_nil) Go.Proofs.Tryz.func112 (by kernel_rfl) (by kernel_rfl) (by kernel_rfl) (LSsOk.nil _ _) (fun x => by kernel_rfl)
/-! slices.IndexFunc[[]loop.example/g00185/impl.Task,loop.example/g00185/impl.Task] -/
noncomputable def a_slices_IndexFunc_Task_JudgeFair_1 : FnA := ⟨Go.Proofs.Tryz.f103, ⟨[(4, [(5, .call [.ro] .bool [] [])])], [], []⟩, 0⟩
def l_slices_IndexFunc_Task_JudgeFair_1_0 {α : Type} (n : Nat) : Nat → List Task → Sys → Int → Int → (Int → Option α) → (Option α) → Option α
  | 0, _, _, _, _, _, _ => none
  | m0 + 1, v1, v2, v3, v4, k0_0, k0_1 =>
    cond (decide (v4 < v3))
     (cond ((decide (0 ≤ v4)) && (decide (v4 < ((v1).length : Int))))
       ((f_impl_JudgeFair_1 (List.getD v1 (Int.toNat v4) (Kd.dflt .task)) v2).bind fun r5 =>
        cond r5.1
         (k0_0 v4)
         (l_slices_IndexFunc_Task_JudgeFair_1_0 n m0 v1 v2 v3 (w64 (v4 + 1)) k0_0 k0_1))
       (none))
     (k0_1)
def f_slices_IndexFunc_Task_JudgeFair_1 (n : Nat) (a0 : List Task) (a1_0 : Sys) : Option (Int × Unit) :=
  l_slices_IndexFunc_Task_JudgeFair_1_0 n n a0 a1_0 ((a0).length : Int) 0
   (fun w6 =>
    some (w6, ()))
   (some ((-1), ()))
def r_slices_IndexFunc_Task_JudgeFair_1 (n : Nat) : Rw := ⟨103, (.pair (.v (.ro .task)) (.pair (.v (.clo 112 (.pair (.rp (.pair .int (.pair .int (.pair (.ro .task) (.pair (.ro .lock) (.pair (.ro .ghost) (.pair (.ro .int) (.pair .int (.pair .int (.pair (.ro .turn) .one))))))))) 0) .one))) .one)), (.pair .int .one), fun x => f_slices_IndexFunc_Task_JudgeFair_1 n x.1.2 (⟨x.2.1.1.1, x.2.1.1.2.1, x.2.1.1.2.2.1.2, x.2.1.1.2.2.2.1.2, x.2.1.1.2.2.2.2.1.2, x.2.1.1.2.2.2.2.2.1.2, x.2.1.1.2.2.2.2.2.2.1, x.2.1.1.2.2.2.2.2.2.2.1, x.2.1.1.2.2.2.2.2.2.2.2.1.2⟩ : Sys)⟩
def s_slices_IndexFunc_Task_JudgeFair_1_0 (n : Nat) : LS where
  la := ⟨2, [0, 1, 7, 8], [], [], [4], []⟩
  nt := 19
  kt := [0, 1, 7, 8]
  hs := []
  X := Bool × List Task × Int × Int × Bool × List Task × Bool × List Lock × Bool × List Ghost × Bool × List Int × Int × Int × Bool × List Turn × Int × Int
  abs := fun vs es => match vs, es with | [.ro y0 .task y1, .clo 112 [.rp [.int y2, .int y3, .ro y4 .task y5, .ro y6 .lock y7, .ro y8 .ghost y9, .ro y10 .int y11, .int y12, .int y13, .ro y14 .turn y15] 0], .int y16, .int y17], [] => some (y0, y1, y2, y3, y4, y5, y6, y7, y8, y9, y10, y11, y12, y13, y14, y15, y16, y17) | _, _ => none
  tms := fun x => [.ro x.1 .task x.2.1, .clo 112 [.rp [.int x.2.2.1, .int x.2.2.2.1, .ro x.2.2.2.2.1 .task x.2.2.2.2.2.1, .ro x.2.2.2.2.2.2.1 .lock x.2.2.2.2.2.2.2.1, .ro x.2.2.2.2.2.2.2.2.1 .ghost x.2.2.2.2.2.2.2.2.2.1, .ro x.2.2.2.2.2.2.2.2.2.2.1 .int x.2.2.2.2.2.2.2.2.2.2.2.1, .int x.2.2.2.2.2.2.2.2.2.2.2.2.1, .int x.2.2.2.2.2.2.2.2.2.2.2.2.2.1, .ro x.2.2.2.2.2.2.2.2.2.2.2.2.2.2.1 .turn x.2.2.2.2.2.2.2.2.2.2.2.2.2.2.2.1] 0], .int x.2.2.2.2.2.2.2.2.2.2.2.2.2.2.2.2.1, .int x.2.2.2.2.2.2.2.2.2.2.2.2.2.2.2.2.2]
  ets := fun x => []
  run := fun m x k => l_slices_IndexFunc_Task_JudgeFair_1_0 n m x.2.1 (⟨x.2.2.1, x.2.2.2.1, x.2.2.2.2.2.1, x.2.2.2.2.2.2.2.1, x.2.2.2.2.2.2.2.2.2.1, x.2.2.2.2.2.2.2.2.2.2.2.1, x.2.2.2.2.2.2.2.2.2.2.2.2.1, x.2.2.2.2.2.2.2.2.2.2.2.2.2.1, x.2.2.2.2.2.2.2.2.2.2.2.2.2.2.2.1⟩ : Sys) x.2.2.2.2.2.2.2.2.2.2.2.2.2.2.2.2.1 x.2.2.2.2.2.2.2.2.2.2.2.2.2.2.2.2.2 (fun w0 => k .ret ⟨layT [4] [.int w0] 0 19, layH [] []⟩) (k (.exit 0) ⟨layT [] [] 0 19, layH [] []⟩)
noncomputable def c_slices_IndexFunc_Task_JudgeFair_1_0 : Code := (Go.Proofs.Tryz.f103.body.bind (subLoop 2)).getD .skip
theorem s_slices_IndexFunc_Task_JudgeFair_1_0_ok (n : Nat) : LSok Tb tyK (orc [r_impl_JudgeFair_1]) n a_slices_IndexFunc_Task_JudgeFair_1.ann [s_slices_IndexFunc_Task_JudgeFair_1_0 n] c_slices_IndexFunc_Task_JudgeFair_1_0 (s_slices_IndexFunc_Task_JudgeFair_1_0 n) :=
  ⟨by intro vs es x h; dsimp only [s_slices_IndexFunc_Task_JudgeFair_1_0] at h; split at h; (· injection h with h; subst h; exact ⟨rfl, rfl⟩); (· cases h), fun _ _ => rfl, fun m x k => by kernel_rfl⟩
theorem r_slices_IndexFunc_Task_JudgeFair_1_ok (n : Nat) : RwOk Go.Proofs.Tryz.prog tyK (r_slices_IndexFunc_Task_JudgeFair_1 n) :=
  ent_ok (fa := a_slices_IndexFunc_Task_JudgeFair_1) (ls := [s_slices_IndexFunc_Task_JudgeFair_1_0 n]) (cs := [c_slices_IndexFunc_Task_JudgeFair_1_0]) (n := n) (es := [r_impl_JudgeFair_1]) mixedOk tbOk (ents_cons (r_impl_JudgeFair_1_ok) ents_nil) Go.Proofs.Tryz.func103 (by kernel_rfl) (by kernel_rfl) (by kernel_rfl) (LSsOk.cons _ _ (l := s_slices_IndexFunc_Task_JudgeFair_1_0 n) (by kernel_rfl) (s_slices_IndexFunc_Task_JudgeFair_1_0_ok n) (LSsOk.nil _ _)) (fun x => by kernel_rfl)
/-! slices.ContainsFunc[[]loop.example/g00185/impl.Task,loop.example/g00185/impl.Task] -/
noncomputable def a_slices_ContainsFunc_Task_JudgeFair_1 : FnA := ⟨Go.Proofs.Tryz.f45, ⟨[(1, [(2, .call [.ro, .ro] .int [] [])])], [], []⟩, 0⟩
def f_slices_ContainsFunc_Task_JudgeFair_1 (n : Nat) (a0 : List Task) (a1_0 : Sys) : Option (Bool × Unit) :=
  (f_slices_IndexFunc_Task_JudgeFair_1 n a0 a1_0).bind fun r1 =>
  some ((decide (0 ≤ r1.1)), ())
def r_slices_ContainsFunc_Task_JudgeFair_1 (n : Nat) : Rw := ⟨45, (.pair (.v (.ro .task)) (.pair (.v (.clo 112 (.pair (.rp (.pair .int (.pair .int (.pair (.ro .task) (.pair (.ro .lock) (.pair (.ro .ghost) (.pair (.ro .int) (.pair .int (.pair .int (.pair (.ro .turn) .one))))))))) 0) .one))) .one)), (.pair .bool .one), fun x => f_slices_ContainsFunc_Task_JudgeFair_1 n x.1.2 (⟨x.2.1.1.1, x.2.1.1.2.1, x.2.1.1.2.2.1.2, x.2.1.1.2.2.2.1.2, x.2.1.1.2.2.2.2.1.2, x.2.1.1.2.2.2.2.2.1.2, x.2.1.1.2.2.2.2.2.2.1, x.2.1.1.2.2.2.2.2.2.2.1, x.2.1.1.2.2.2.2.2.2.2.2.1.2⟩ : Sys)⟩
theorem r_slices_ContainsFunc_Task_JudgeFair_1_ok (n : Nat) : RwOk Go.Proofs.Tryz.prog tyK (r_slices_ContainsFunc_Task_JudgeFair_1 n) :=
  ent_ok (fa := a_slices_ContainsFunc_Task_JudgeFair_1) (ls := []) (cs := []) (n := n) (es := [(r_slices_IndexFunc_Task_JudgeFair_1 n)]) mixedOk tbOk (ents_cons (r_slices_IndexFunc_Task_JudgeFair_1_ok n) ents_nil) Go.Proofs.Tryz.func45 (by kernel_rfl) (by kernel_rfl) (by kernel_rfl) (LSsOk.nil _ _) (fun x => by kernel_rfl)
end Go.Proofs.YtjgkeaiibdodfaaGreat.VR
