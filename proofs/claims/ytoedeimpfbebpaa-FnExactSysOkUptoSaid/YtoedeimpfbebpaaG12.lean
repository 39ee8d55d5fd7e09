/- Functions, printed by program (wip/gen/emit.py). -/
import Derived.Test.YtoedeimpfbebpaaG11
set_option linter.unusedVariables false
set_option maxRecDepth 100000
namespace Go.Proofs.Ytoedeimpfbebpaa.VR
open Go
/-! loop.example/g00185/laws.FnExactSysOk -/
noncomputable def a_laws_FnExactSysOk : FnA := ⟨Go.Proofs.Try.f13, ⟨[(0, [(0, .slot 0 .int)]), (2, [(2, .call [.ro, .ro] .int [] [])]), (5, [(1, .call [.ro] (.agg (.pair .int (.pair .int (.pair (.ro .task) (.pair (.ro .lock) (.pair (.ro .ghost) (.pair (.ro .int) (.pair .int (.pair .int (.pair (.ro .turn) .one)))))))))) [] []), (2, .call [.ro] .bool [] [])]), (6, [(1, .call [.ro] (.agg (.pair .int (.pair .int (.pair (.ro .task) (.pair (.ro .lock) (.pair (.ro .ghost) (.pair (.ro .int) (.pair .int (.pair .int (.pair (.ro .turn) .one)))))))))) [] []), (2, .slot 1 .int)]), (7, [(1, .call [.ro] .bool [] [])]), (10, [(2, .call [.ro] (.agg (.pair .int (.pair .int (.pair (.ro .task) (.pair (.ro .lock) (.pair (.ro .ghost) (.pair (.ro .int) (.pair .int (.pair .int (.pair (.ro .turn) .one)))))))))) [] []), (3, .call [.ro, .ro] .bool [] [])])], [(10, [([1], []), ([0], []), ([], []), ([], []), ([], [])])], []⟩, 2⟩
def f_laws_FnExactSysOk (n : Nat) (a0 : Sys) : Option (Bool × Unit) :=
  (f_laws_szSys n a0 1048576).bind fun r1 =>
  cond (decide (r1.1 < 0))
   (some (true, ()))
   ((f_laws_toSys n a0).bind fun r2 =>
    (f_spec_SysOk n (dnSys r2.1)).bind fun r3 =>
    (f_laws_toSys n a0).bind fun r4 =>
    (f_impl_SysOk n (dnSys r4.1)).bind fun r5 =>
    cond (!(r5.1 == r3.1))
     (some (false, ()))
     ((f_laws_toSys n a0).bind fun r6 =>
      (f_laws_eqSys n (dnSys r4.1) (dnSys r6.1)).bind fun r7 =>
      cond (!r7.1)
       (some (false, ()))
       (some (true, ()))))
def r_laws_FnExactSysOk (n : Nat) : Rw := ⟨13, (.pair (.v (.agg (.pair .int (.pair .int (.pair (.ro .task) (.pair (.ro .lock) (.pair (.ro .ghost) (.pair (.ro .int) (.pair .int (.pair .int (.pair (.ro .turn) .one))))))))))) .one), (.pair .bool .one), fun x => f_laws_FnExactSysOk n (⟨x.1.1, x.1.2.1, x.1.2.2.1.2, x.1.2.2.2.1.2, x.1.2.2.2.2.1.2, x.1.2.2.2.2.2.1.2, x.1.2.2.2.2.2.2.1, x.1.2.2.2.2.2.2.2.1, x.1.2.2.2.2.2.2.2.2.1.2⟩ : Sys)⟩
theorem r_laws_FnExactSysOk_ok (n : Nat) : RwOk Go.Proofs.Try.prog tyK (r_laws_FnExactSysOk n) :=
  ent_ok (fa := a_laws_FnExactSysOk) (ls := []) (cs := []) (n := n) (es := [(r_laws_szSys n), (r_laws_toSys n), (r_spec_SysOk n), (r_impl_SysOk n), (r_laws_eqSys n)]) mixedOk tbOk (ents_cons (r_laws_szSys_ok n) (ents_cons (r_laws_toSys_ok n) (ents_cons (r_spec_SysOk_ok n) (ents_cons (r_impl_SysOk_ok n) (ents_cons (r_laws_eqSys_ok n) ents_nil))))) Go.Proofs.Try.func13 (by kernel_rfl) (by kernel_rfl) (by kernel_rfl) (LSsOk.nil _ _) (fun x => by kernel_rfl)
end Go.Proofs.Ytoedeimpfbebpaa.VR
