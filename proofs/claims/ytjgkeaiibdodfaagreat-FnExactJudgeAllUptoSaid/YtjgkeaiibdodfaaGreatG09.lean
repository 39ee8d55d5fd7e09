/- Functions, printed by program (wip/gen/emit.py). -/
import Derived.Test.YtjgkeaiibdodfaaGreatG08
set_option linter.unusedVariables false
set_option maxRecDepth 100000
namespace Go.Proofs.YtjgkeaiibdodfaaGreat.VR
open Go
/-! loop.example/g00185/impl.JudgeFair -/
noncomputable def a_impl_JudgeFair : FnA := ⟨Go.Proofs.Tryz.f56, ⟨[(0, [(0, .slot 0 .int)]), (1, [(1, .call [.ro] .bool [] []), (6, .call [.ro, .ro] .bool [] [])])], [], []⟩, 1⟩
def f_impl_JudgeFair (n : Nat) (a0 : Sys) : Option (Bool × Unit) :=
  (f_impl_SysOk n a0).bind fun r1 =>
  cond r1.1
   ((f_slices_ContainsFunc_Task_JudgeFair_1 n a0.Tasks a0).bind fun r2 =>
    some ((!r2.1), ()))
   (some (false, ()))
def r_impl_JudgeFair (n : Nat) : Rw := ⟨56, (.pair (.v (.agg (.pair .int (.pair .int (.pair (.ro .task) (.pair (.ro .lock) (.pair (.ro .ghost) (.pair (.ro .int) (.pair .int (.pair .int (.pair (.ro .turn) .one))))))))))) .one), (.pair .bool .one), fun x => f_impl_JudgeFair n (⟨x.1.1, x.1.2.1, x.1.2.2.1.2, x.1.2.2.2.1.2, x.1.2.2.2.2.1.2, x.1.2.2.2.2.2.1.2, x.1.2.2.2.2.2.2.1, x.1.2.2.2.2.2.2.2.1, x.1.2.2.2.2.2.2.2.2.1.2⟩ : Sys)⟩
theorem r_impl_JudgeFair_ok (n : Nat) : RwOk Go.Proofs.Tryz.prog tyK (r_impl_JudgeFair n) :=
  ent_ok (fa := a_impl_JudgeFair) (ls := []) (cs := []) (n := n) (es := [(r_impl_SysOk n), (r_slices_ContainsFunc_Task_JudgeFair_1 n)]) mixedOk tbOk (ents_cons (r_impl_SysOk_ok n) (ents_cons (r_slices_ContainsFunc_Task_JudgeFair_1_ok n) ents_nil)) Go.Proofs.Tryz.func56 (by kernel_rfl) (by kernel_rfl) (by kernel_rfl) (LSsOk.nil _ _) (fun x => by kernel_rfl)
/-! loop.example/g00185/impl.JudgeAll -/
noncomputable def a_impl_JudgeAll : FnA := ⟨Go.Proofs.Tryz.f17, ⟨[(0, [(0, .slot 0 .int)]), (1, [(1, .call [.ro] .bool [] []), (4, .call [.ro] .bool [] []), (8, .call [.ro] .bool [] []), (12, .call [.ro] .bool [] []), (16, .call [.ro] .bool [] [])])], [], []⟩, 1⟩
def f_impl_JudgeAll (n : Nat) (a0 : Sys) : Option (Bool × Unit) :=
  (f_impl_JudgeTurns n a0).bind fun r1 =>
  cond r1.1
   ((f_impl_JudgeDue n a0).bind fun r2 =>
    cond r2.1
     ((f_impl_JudgeFair n a0).bind fun r3 =>
      cond r3.1
       ((f_impl_JudgeBest n a0).bind fun r4 =>
        cond r4.1
         ((f_impl_JudgeAlone n a0).bind fun r5 =>
          some (r5.1, ()))
         (some (false, ())))
       (some (false, ())))
     (some (false, ())))
   (some (false, ()))
def r_impl_JudgeAll (n : Nat) : Rw := ⟨17, (.pair (.v (.agg (.pair .int (.pair .int (.pair (.ro .task) (.pair (.ro .lock) (.pair (.ro .ghost) (.pair (.ro .int) (.pair .int (.pair .int (.pair (.ro .turn) .one))))))))))) .one), (.pair .bool .one), fun x => f_impl_JudgeAll n (⟨x.1.1, x.1.2.1, x.1.2.2.1.2, x.1.2.2.2.1.2, x.1.2.2.2.2.1.2, x.1.2.2.2.2.2.1.2, x.1.2.2.2.2.2.2.1, x.1.2.2.2.2.2.2.2.1, x.1.2.2.2.2.2.2.2.2.1.2⟩ : Sys)⟩
theorem r_impl_JudgeAll_ok (n : Nat) : RwOk Go.Proofs.Tryz.prog tyK (r_impl_JudgeAll n) :=
  ent_ok (fa := a_impl_JudgeAll) (ls := []) (cs := []) (n := n) (es := [(r_impl_JudgeTurns n), (r_impl_JudgeDue n), (r_impl_JudgeFair n), (r_impl_JudgeBest n), (r_impl_JudgeAlone n)]) mixedOk tbOk (ents_cons (r_impl_JudgeTurns_ok n) (ents_cons (r_impl_JudgeDue_ok n) (ents_cons (r_impl_JudgeFair_ok n) (ents_cons (r_impl_JudgeBest_ok n) (ents_cons (r_impl_JudgeAlone_ok n) ents_nil))))) Go.Proofs.Tryz.func17 (by kernel_rfl) (by kernel_rfl) (by kernel_rfl) (LSsOk.nil _ _) (fun x => by kernel_rfl)
/-! loop.example/g00185/laws.FnExactJudgeAll -/
noncomputable def a_laws_FnExactJudgeAll : FnA := ⟨Go.Proofs.Tryz.f6, ⟨[(0, [(0, .slot 0 .int)]), (2, [(2, .call [.ro, .ro] .int [] [])]), (5, [(1, .call [.ro] (.agg (.pair .int (.pair .int (.pair (.ro .task) (.pair (.ro .lock) (.pair (.ro .ghost) (.pair (.ro .int) (.pair .int (.pair .int (.pair (.ro .turn) .one)))))))))) [] []), (2, .call [.ro] .bool [] [])]), (6, [(1, .call [.ro] (.agg (.pair .int (.pair .int (.pair (.ro .task) (.pair (.ro .lock) (.pair (.ro .ghost) (.pair (.ro .int) (.pair .int (.pair .int (.pair (.ro .turn) .one)))))))))) [] []), (2, .slot 1 .int)]), (7, [(1, .call [.ro] .bool [] [])]), (10, [(2, .call [.ro] (.agg (.pair .int (.pair .int (.pair (.ro .task) (.pair (.ro .lock) (.pair (.ro .ghost) (.pair (.ro .int) (.pair .int (.pair .int (.pair (.ro .turn) .one)))))))))) [] []), (3, .call [.ro, .ro] .bool [] [])])], [(10, [([1], []), ([0], []), ([], []), ([], []), ([], [])])], []⟩, 2⟩
def f_laws_FnExactJudgeAll (n : Nat) (a0 : Sys) : Option (Bool × Unit) :=
  (f_laws_szSys n a0 1048576).bind fun r1 =>
  cond (decide (r1.1 < 0))
   (some (true, ()))
   ((f_laws_toSys n a0).bind fun r2 =>
    (f_spec_JudgeAll n (dnSys r2.1)).bind fun r3 =>
    (f_laws_toSys n a0).bind fun r4 =>
    (f_impl_JudgeAll n (dnSys r4.1)).bind fun r5 =>
    cond (!(r5.1 == r3.1))
     (some (false, ()))
     ((f_laws_toSys n a0).bind fun r6 =>
      (f_laws_eqSys n (dnSys r4.1) (dnSys r6.1)).bind fun r7 =>
      cond (!r7.1)
       (some (false, ()))
       (some (true, ()))))
def r_laws_FnExactJudgeAll (n : Nat) : Rw := ⟨6, (.pair (.v (.agg (.pair .int (.pair .int (.pair (.ro .task) (.pair (.ro .lock) (.pair (.ro .ghost) (.pair (.ro .int) (.pair .int (.pair .int (.pair (.ro .turn) .one))))))))))) .one), (.pair .bool .one), fun x => f_laws_FnExactJudgeAll n (⟨x.1.1, x.1.2.1, x.1.2.2.1.2, x.1.2.2.2.1.2, x.1.2.2.2.2.1.2, x.1.2.2.2.2.2.1.2, x.1.2.2.2.2.2.2.1, x.1.2.2.2.2.2.2.2.1, x.1.2.2.2.2.2.2.2.2.1.2⟩ : Sys)⟩
theorem r_laws_FnExactJudgeAll_ok (n : Nat) : RwOk Go.Proofs.Tryz.prog tyK (r_laws_FnExactJudgeAll n) :=
  ent_ok (fa := a_laws_FnExactJudgeAll) (ls := []) (cs := []) (n := n) (es := [(r_laws_szSys n), (r_laws_toSys n), (r_spec_JudgeAll n), (r_impl_JudgeAll n), (r_laws_eqSys n)]) mixedOk tbOk (ents_cons (r_laws_szSys_ok n) (ents_cons (r_laws_toSys_ok n) (ents_cons (r_spec_JudgeAll_ok n) (ents_cons (r_impl_JudgeAll_ok n) (ents_cons (r_laws_eqSys_ok n) ents_nil))))) Go.Proofs.Tryz.func6 (by kernel_rfl) (by kernel_rfl) (by kernel_rfl) (LSsOk.nil _ _) (fun x => by kernel_rfl)
end Go.Proofs.YtjgkeaiibdodfaaGreat.VR
