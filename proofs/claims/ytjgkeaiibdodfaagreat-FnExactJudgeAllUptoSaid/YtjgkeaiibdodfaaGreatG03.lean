/- Functions, printed by program (wip/gen/emit.py). -/
import Derived.Test.YtjgkeaiibdodfaaGreatG02
set_option linter.unusedVariables false
set_option maxRecDepth 100000
namespace Go.Proofs.YtjgkeaiibdodfaaGreat.VR
open Go
/-! loop.example/g00185/spec.l8Can -/
noncomputable def a_spec_l8Can : FnA := ⟨Go.Proofs.Tryz.f40, ⟨[(1, [(3, .call [.ro, .ro, .ro] .bool [] [])]), (3, [(3, .call [.ro, .ro] .int [] []), (6, .slot 0 .int)])], [], []⟩, 1⟩
def f_spec_l8Can (n : Nat) (a0 : List Task) (a1 : List Lock) (a2 : Int) : Option (Bool × Unit) :=
  (f_spec_l8Able n a0 a1 a2).bind fun r1 =>
  cond (!r1.1)
   (some (false, ()))
   ((f_spec_TaskAt n a0 a2).bind fun r2 =>
    cond ((decide (0 ≤ r2.1)) && (decide (r2.1 < ((a0).length : Int))))
     (let e3 := (!(decide ((List.getD a0 (Int.toNat r2.1) (Kd.dflt .task)).Class = 1)))
      cond e3
       (some (true, ()))
       (let e4 := (decide (0 < (List.getD a0 (Int.toNat r2.1) (Kd.dflt .task)).Left))
        some (e4, ())))
     (none))
def r_spec_l8Can (n : Nat) : Rw := ⟨40, (.pair (.v (.ro .task)) (.pair (.v (.ro .lock)) (.pair (.v (.int)) .one))), (.pair .bool .one), fun x => f_spec_l8Can n x.1.2 x.2.1.2 x.2.2.1⟩
theorem r_spec_l8Can_ok (n : Nat) : RwOk Go.Proofs.Tryz.prog tyK (r_spec_l8Can n) :=
  ent_ok (fa := a_spec_l8Can) (ls := []) (cs := []) (n := n) (es := [(r_spec_l8Able n), (r_spec_TaskAt n)]) mixedOk tbOk (ents_cons (r_spec_l8Able_ok n) (ents_cons (r_spec_TaskAt_ok n) ents_nil)) Go.Proofs.Tryz.func40 (by kernel_rfl) (by kernel_rfl) (by kernel_rfl) (LSsOk.nil _ _) (fun x => by kernel_rfl)
/-! loop.example/g00185/spec.l4Due -/
noncomputable def a_spec_l4Due : FnA := ⟨Go.Proofs.Tryz.f129, ⟨[(0, [(0, .slot 0 .int)]), (1, [(1, .call [.ro] .bool [] [])])], [], []⟩, 1⟩
def f_spec_l4Due (a0 : Task) : Option (Bool × Unit) :=
  (f_spec_TaskOk a0).bind fun r1 =>
  cond r1.1
   (some ((decide (a0.Class = 1)), ()))
   (some (false, ()))
def r_spec_l4Due : Rw := ⟨129, (.pair (.v (.agg (.pair .int (.pair .int (.pair .int (.pair .int (.pair .bool (.pair .int (.pair .int (.pair .int (.pair .int (.pair .int (.pair .int (.pair .int (.pair .int (.pair .int .one)))))))))))))))) .one), (.pair .bool .one), fun x => f_spec_l4Due (⟨x.1.1, x.1.2.1, x.1.2.2.1, x.1.2.2.2.1, x.1.2.2.2.2.1, x.1.2.2.2.2.2.1, x.1.2.2.2.2.2.2.1, x.1.2.2.2.2.2.2.2.1, x.1.2.2.2.2.2.2.2.2.1, x.1.2.2.2.2.2.2.2.2.2.1, x.1.2.2.2.2.2.2.2.2.2.2.1, x.1.2.2.2.2.2.2.2.2.2.2.2.1, x.1.2.2.2.2.2.2.2.2.2.2.2.2.1, x.1.2.2.2.2.2.2.2.2.2.2.2.2.2.1⟩ : Task)⟩
theorem r_spec_l4Due_ok : RwOk Go.Proofs.Tryz.prog tyK (r_spec_l4Due) :=
  ent_ok (fa := a_spec_l4Due) (ls := []) (cs := []) (n := 0) (es := [r_spec_TaskOk]) mixedOk tbOk (ents_cons (r_spec_TaskOk_ok) ents_nil) Go.Proofs.Tryz.func129 (by kernel_rfl) (by kernel_rfl) (by kernel_rfl) (LSsOk.nil _ _) (fun x => by kernel_rfl)
/-! loop.example/g00185/spec.DueBefore -/
noncomputable def a_spec_DueBefore : FnA := ⟨Go.Proofs.Tryz.f97, ⟨[(0, [(0, .slot 0 .int), (1, .slot 1 .int)]), (1, [(1, .call [.ro] .bool [] []), (5, .call [.ro] .bool [] [])])], [], []⟩, 2⟩
def f_spec_DueBefore (a0 : Task) (a1 : Task) : Option (Bool × Unit) :=
  (f_spec_l4Due a0).bind fun r1 =>
  cond (!r1.1)
   (some (false, ()))
   ((f_spec_l4Due a1).bind fun r2 =>
    cond (!r2.1)
     (some (false, ()))
     (cond (decide (a0.Due < a1.Due))
       (some (true, ()))
       (cond (decide (a0.Due = a1.Due))
         (some ((decide (a0.No < a1.No)), ()))
         (some (false, ())))))
def r_spec_DueBefore : Rw := ⟨97, (.pair (.v (.agg (.pair .int (.pair .int (.pair .int (.pair .int (.pair .bool (.pair .int (.pair .int (.pair .int (.pair .int (.pair .int (.pair .int (.pair .int (.pair .int (.pair .int .one)))))))))))))))) (.pair (.v (.agg (.pair .int (.pair .int (.pair .int (.pair .int (.pair .bool (.pair .int (.pair .int (.pair .int (.pair .int (.pair .int (.pair .int (.pair .int (.pair .int (.pair .int .one)))))))))))))))) .one)), (.pair .bool .one), fun x => f_spec_DueBefore (⟨x.1.1, x.1.2.1, x.1.2.2.1, x.1.2.2.2.1, x.1.2.2.2.2.1, x.1.2.2.2.2.2.1, x.1.2.2.2.2.2.2.1, x.1.2.2.2.2.2.2.2.1, x.1.2.2.2.2.2.2.2.2.1, x.1.2.2.2.2.2.2.2.2.2.1, x.1.2.2.2.2.2.2.2.2.2.2.1, x.1.2.2.2.2.2.2.2.2.2.2.2.1, x.1.2.2.2.2.2.2.2.2.2.2.2.2.1, x.1.2.2.2.2.2.2.2.2.2.2.2.2.2.1⟩ : Task) (⟨x.2.1.1, x.2.1.2.1, x.2.1.2.2.1, x.2.1.2.2.2.1, x.2.1.2.2.2.2.1, x.2.1.2.2.2.2.2.1, x.2.1.2.2.2.2.2.2.1, x.2.1.2.2.2.2.2.2.2.1, x.2.1.2.2.2.2.2.2.2.2.1, x.2.1.2.2.2.2.2.2.2.2.2.1, x.2.1.2.2.2.2.2.2.2.2.2.2.1, x.2.1.2.2.2.2.2.2.2.2.2.2.2.1, x.2.1.2.2.2.2.2.2.2.2.2.2.2.2.1, x.2.1.2.2.2.2.2.2.2.2.2.2.2.2.2.1⟩ : Task)⟩
theorem r_spec_DueBefore_ok : RwOk Go.Proofs.Tryz.prog tyK (r_spec_DueBefore) :=
  ent_ok (fa := a_spec_DueBefore) (ls := []) (cs := []) (n := 0) (es := [r_spec_l4Due]) mixedOk tbOk (ents_cons (r_spec_l4Due_ok) ents_nil) Go.Proofs.Tryz.func97 (by kernel_rfl) (by kernel_rfl) (by kernel_rfl) (LSsOk.nil _ _) (fun x => by kernel_rfl)
/-! loop.example/g00185/spec.l5Fixed -/
noncomputable def a_spec_l5Fixed : FnA := ⟨Go.Proofs.Tryz.f130, ⟨[(0, [(0, .slot 0 .int)]), (1, [(1, .call [.ro] .bool [] [])])], [], []⟩, 1⟩
def f_spec_l5Fixed (a0 : Task) : Option (Bool × Unit) :=
  (f_spec_TaskOk a0).bind fun r1 =>
  cond r1.1
   (some ((decide (a0.Class = 2)), ()))
   (some (false, ()))
def r_spec_l5Fixed : Rw := ⟨130, (.pair (.v (.agg (.pair .int (.pair .int (.pair .int (.pair .int (.pair .bool (.pair .int (.pair .int (.pair .int (.pair .int (.pair .int (.pair .int (.pair .int (.pair .int (.pair .int .one)))))))))))))))) .one), (.pair .bool .one), fun x => f_spec_l5Fixed (⟨x.1.1, x.1.2.1, x.1.2.2.1, x.1.2.2.2.1, x.1.2.2.2.2.1, x.1.2.2.2.2.2.1, x.1.2.2.2.2.2.2.1, x.1.2.2.2.2.2.2.2.1, x.1.2.2.2.2.2.2.2.2.1, x.1.2.2.2.2.2.2.2.2.2.1, x.1.2.2.2.2.2.2.2.2.2.2.1, x.1.2.2.2.2.2.2.2.2.2.2.2.1, x.1.2.2.2.2.2.2.2.2.2.2.2.2.1, x.1.2.2.2.2.2.2.2.2.2.2.2.2.2.1⟩ : Task)⟩
theorem r_spec_l5Fixed_ok : RwOk Go.Proofs.Tryz.prog tyK (r_spec_l5Fixed) :=
  ent_ok (fa := a_spec_l5Fixed) (ls := []) (cs := []) (n := 0) (es := [r_spec_TaskOk]) mixedOk tbOk (ents_cons (r_spec_TaskOk_ok) ents_nil) Go.Proofs.Tryz.func130 (by kernel_rfl) (by kernel_rfl) (by kernel_rfl) (LSsOk.nil _ _) (fun x => by kernel_rfl)
/-! loop.example/g00185/spec.FixedBefore -/
noncomputable def a_spec_FixedBefore : FnA := ⟨Go.Proofs.Tryz.f98, ⟨[(0, [(0, .slot 0 .int), (1, .slot 1 .int)]), (1, [(1, .call [.ro] .bool [] []), (5, .call [.ro] .bool [] [])])], [], []⟩, 2⟩
def f_spec_FixedBefore (a0 : Task) (a1 : Task) : Option (Bool × Unit) :=
  (f_spec_l5Fixed a0).bind fun r1 =>
  cond (!r1.1)
   (some (false, ()))
   ((f_spec_l5Fixed a1).bind fun r2 =>
    cond (!r2.1)
     (some (false, ()))
     (cond (!(decide (a0.Prio = a1.Prio)))
       (some ((decide (a1.Prio < a0.Prio)), ()))
       (cond (!(decide (a0.Seq = a1.Seq)))
         (some ((decide (a0.Seq < a1.Seq)), ()))
         (some ((decide (a0.No < a1.No)), ())))))
def r_spec_FixedBefore : Rw := ⟨98, (.pair (.v (.agg (.pair .int (.pair .int (.pair .int (.pair .int (.pair .bool (.pair .int (.pair .int (.pair .int (.pair .int (.pair .int (.pair .int (.pair .int (.pair .int (.pair .int .one)))))))))))))))) (.pair (.v (.agg (.pair .int (.pair .int (.pair .int (.pair .int (.pair .bool (.pair .int (.pair .int (.pair .int (.pair .int (.pair .int (.pair .int (.pair .int (.pair .int (.pair .int .one)))))))))))))))) .one)), (.pair .bool .one), fun x => f_spec_FixedBefore (⟨x.1.1, x.1.2.1, x.1.2.2.1, x.1.2.2.2.1, x.1.2.2.2.2.1, x.1.2.2.2.2.2.1, x.1.2.2.2.2.2.2.1, x.1.2.2.2.2.2.2.2.1, x.1.2.2.2.2.2.2.2.2.1, x.1.2.2.2.2.2.2.2.2.2.1, x.1.2.2.2.2.2.2.2.2.2.2.1, x.1.2.2.2.2.2.2.2.2.2.2.2.1, x.1.2.2.2.2.2.2.2.2.2.2.2.2.1, x.1.2.2.2.2.2.2.2.2.2.2.2.2.2.1⟩ : Task) (⟨x.2.1.1, x.2.1.2.1, x.2.1.2.2.1, x.2.1.2.2.2.1, x.2.1.2.2.2.2.1, x.2.1.2.2.2.2.2.1, x.2.1.2.2.2.2.2.2.1, x.2.1.2.2.2.2.2.2.2.1, x.2.1.2.2.2.2.2.2.2.2.1, x.2.1.2.2.2.2.2.2.2.2.2.1, x.2.1.2.2.2.2.2.2.2.2.2.2.1, x.2.1.2.2.2.2.2.2.2.2.2.2.2.1, x.2.1.2.2.2.2.2.2.2.2.2.2.2.2.1, x.2.1.2.2.2.2.2.2.2.2.2.2.2.2.2.1⟩ : Task)⟩
theorem r_spec_FixedBefore_ok : RwOk Go.Proofs.Tryz.prog tyK (r_spec_FixedBefore) :=
  ent_ok (fa := a_spec_FixedBefore) (ls := []) (cs := []) (n := 0) (es := [r_spec_l5Fixed]) mixedOk tbOk (ents_cons (r_spec_l5Fixed_ok) ents_nil) Go.Proofs.Tryz.func98 (by kernel_rfl) (by kernel_rfl) (by kernel_rfl) (LSsOk.nil _ _) (fun x => by kernel_rfl)
/-! loop.example/g00185/spec.l6Fair -/
noncomputable def a_spec_l6Fair : FnA := ⟨Go.Proofs.Tryz.f64, ⟨[(0, [(0, .slot 0 .int)]), (1, [(1, .call [.ro] .bool [] [])])], [], []⟩, 1⟩
def f_spec_l6Fair (a0 : Task) : Option (Bool × Unit) :=
  (f_spec_TaskOk a0).bind fun r1 =>
  cond r1.1
   (some ((decide (a0.Class = 3)), ()))
   (some (false, ()))
def r_spec_l6Fair : Rw := ⟨64, (.pair (.v (.agg (.pair .int (.pair .int (.pair .int (.pair .int (.pair .bool (.pair .int (.pair .int (.pair .int (.pair .int (.pair .int (.pair .int (.pair .int (.pair .int (.pair .int .one)))))))))))))))) .one), (.pair .bool .one), fun x => f_spec_l6Fair (⟨x.1.1, x.1.2.1, x.1.2.2.1, x.1.2.2.2.1, x.1.2.2.2.2.1, x.1.2.2.2.2.2.1, x.1.2.2.2.2.2.2.1, x.1.2.2.2.2.2.2.2.1, x.1.2.2.2.2.2.2.2.2.1, x.1.2.2.2.2.2.2.2.2.2.1, x.1.2.2.2.2.2.2.2.2.2.2.1, x.1.2.2.2.2.2.2.2.2.2.2.2.1, x.1.2.2.2.2.2.2.2.2.2.2.2.2.1, x.1.2.2.2.2.2.2.2.2.2.2.2.2.2.1⟩ : Task)⟩
theorem r_spec_l6Fair_ok : RwOk Go.Proofs.Tryz.prog tyK (r_spec_l6Fair) :=
  ent_ok (fa := a_spec_l6Fair) (ls := []) (cs := []) (n := 0) (es := [r_spec_TaskOk]) mixedOk tbOk (ents_cons (r_spec_TaskOk_ok) ents_nil) Go.Proofs.Tryz.func64 (by kernel_rfl) (by kernel_rfl) (by kernel_rfl) (LSsOk.nil _ _) (fun x => by kernel_rfl)
/-! loop.example/g00185/spec.FairBefore -/
noncomputable def a_spec_FairBefore : FnA := ⟨Go.Proofs.Tryz.f99, ⟨[(0, [(0, .slot 0 .int), (1, .slot 1 .int)]), (1, [(1, .call [.ro] .bool [] []), (5, .call [.ro] .bool [] [])])], [], []⟩, 2⟩
def f_spec_FairBefore (a0 : Task) (a1 : Task) : Option (Bool × Unit) :=
  (f_spec_l6Fair a0).bind fun r1 =>
  cond (!r1.1)
   (some (false, ()))
   ((f_spec_l6Fair a1).bind fun r2 =>
    cond (!r2.1)
     (some (false, ()))
     (cond (decide (a0.V < a1.V))
       (some (true, ()))
       (cond (decide (a0.V = a1.V))
         (some ((decide (a0.No < a1.No)), ()))
         (some (false, ())))))
def r_spec_FairBefore : Rw := ⟨99, (.pair (.v (.agg (.pair .int (.pair .int (.pair .int (.pair .int (.pair .bool (.pair .int (.pair .int (.pair .int (.pair .int (.pair .int (.pair .int (.pair .int (.pair .int (.pair .int .one)))))))))))))))) (.pair (.v (.agg (.pair .int (.pair .int (.pair .int (.pair .int (.pair .bool (.pair .int (.pair .int (.pair .int (.pair .int (.pair .int (.pair .int (.pair .int (.pair .int (.pair .int .one)))))))))))))))) .one)), (.pair .bool .one), fun x => f_spec_FairBefore (⟨x.1.1, x.1.2.1, x.1.2.2.1, x.1.2.2.2.1, x.1.2.2.2.2.1, x.1.2.2.2.2.2.1, x.1.2.2.2.2.2.2.1, x.1.2.2.2.2.2.2.2.1, x.1.2.2.2.2.2.2.2.2.1, x.1.2.2.2.2.2.2.2.2.2.1, x.1.2.2.2.2.2.2.2.2.2.2.1, x.1.2.2.2.2.2.2.2.2.2.2.2.1, x.1.2.2.2.2.2.2.2.2.2.2.2.2.1, x.1.2.2.2.2.2.2.2.2.2.2.2.2.2.1⟩ : Task) (⟨x.2.1.1, x.2.1.2.1, x.2.1.2.2.1, x.2.1.2.2.2.1, x.2.1.2.2.2.2.1, x.2.1.2.2.2.2.2.1, x.2.1.2.2.2.2.2.2.1, x.2.1.2.2.2.2.2.2.2.1, x.2.1.2.2.2.2.2.2.2.2.1, x.2.1.2.2.2.2.2.2.2.2.2.1, x.2.1.2.2.2.2.2.2.2.2.2.2.1, x.2.1.2.2.2.2.2.2.2.2.2.2.2.1, x.2.1.2.2.2.2.2.2.2.2.2.2.2.2.1, x.2.1.2.2.2.2.2.2.2.2.2.2.2.2.2.1⟩ : Task)⟩
theorem r_spec_FairBefore_ok : RwOk Go.Proofs.Tryz.prog tyK (r_spec_FairBefore) :=
  ent_ok (fa := a_spec_FairBefore) (ls := []) (cs := []) (n := 0) (es := [r_spec_l6Fair]) mixedOk tbOk (ents_cons (r_spec_l6Fair_ok) ents_nil) Go.Proofs.Tryz.func99 (by kernel_rfl) (by kernel_rfl) (by kernel_rfl) (LSsOk.nil _ _) (fun x => by kernel_rfl)
/-! loop.example/g00185/spec.Before -/
noncomputable def a_spec_Before : FnA := ⟨Go.Proofs.Tryz.f41, ⟨[(0, [(0, .slot 0 .int), (1, .slot 1 .int)]), (1, [(1, .call [.ro] .bool [] []), (5, .call [.ro] .bool [] [])]), (5, [(2, .call [.ro, .ro] .bool [] []), (6, .call [.ro, .ro] .bool [] []), (11, .call [.ro, .ro] .bool [] [])])], [], []⟩, 2⟩
def f_spec_Before (a0 : Task) (a1 : Task) : Option (Bool × Unit) :=
  (f_spec_TaskOk a0).bind fun r1 =>
  cond (!r1.1)
   (some (false, ()))
   ((f_spec_TaskOk a1).bind fun r2 =>
    cond (!r2.1)
     (some (false, ()))
     (cond (!(decide (a0.Class = a1.Class)))
       (some ((decide (a0.Class < a1.Class)), ()))
       ((f_spec_DueBefore a0 a1).bind fun r3 =>
        cond r3.1
         (some (true, ()))
         ((f_spec_FixedBefore a0 a1).bind fun r4 =>
          cond r4.1
           (some (true, ()))
           ((f_spec_FairBefore a0 a1).bind fun r5 =>
            some (r5.1, ()))))))
def r_spec_Before : Rw := ⟨41, (.pair (.v (.agg (.pair .int (.pair .int (.pair .int (.pair .int (.pair .bool (.pair .int (.pair .int (.pair .int (.pair .int (.pair .int (.pair .int (.pair .int (.pair .int (.pair .int .one)))))))))))))))) (.pair (.v (.agg (.pair .int (.pair .int (.pair .int (.pair .int (.pair .bool (.pair .int (.pair .int (.pair .int (.pair .int (.pair .int (.pair .int (.pair .int (.pair .int (.pair .int .one)))))))))))))))) .one)), (.pair .bool .one), fun x => f_spec_Before (⟨x.1.1, x.1.2.1, x.1.2.2.1, x.1.2.2.2.1, x.1.2.2.2.2.1, x.1.2.2.2.2.2.1, x.1.2.2.2.2.2.2.1, x.1.2.2.2.2.2.2.2.1, x.1.2.2.2.2.2.2.2.2.1, x.1.2.2.2.2.2.2.2.2.2.1, x.1.2.2.2.2.2.2.2.2.2.2.1, x.1.2.2.2.2.2.2.2.2.2.2.2.1, x.1.2.2.2.2.2.2.2.2.2.2.2.2.1, x.1.2.2.2.2.2.2.2.2.2.2.2.2.2.1⟩ : Task) (⟨x.2.1.1, x.2.1.2.1, x.2.1.2.2.1, x.2.1.2.2.2.1, x.2.1.2.2.2.2.1, x.2.1.2.2.2.2.2.1, x.2.1.2.2.2.2.2.2.1, x.2.1.2.2.2.2.2.2.2.1, x.2.1.2.2.2.2.2.2.2.2.1, x.2.1.2.2.2.2.2.2.2.2.2.1, x.2.1.2.2.2.2.2.2.2.2.2.2.1, x.2.1.2.2.2.2.2.2.2.2.2.2.2.1, x.2.1.2.2.2.2.2.2.2.2.2.2.2.2.1, x.2.1.2.2.2.2.2.2.2.2.2.2.2.2.2.1⟩ : Task)⟩
theorem r_spec_Before_ok : RwOk Go.Proofs.Tryz.prog tyK (r_spec_Before) :=
  ent_ok (fa := a_spec_Before) (ls := []) (cs := []) (n := 0) (es := [r_spec_TaskOk, r_spec_DueBefore, r_spec_FixedBefore, r_spec_FairBefore]) mixedOk tbOk (ents_cons (r_spec_TaskOk_ok) (ents_cons (r_spec_DueBefore_ok) (ents_cons (r_spec_FixedBefore_ok) (ents_cons (r_spec_FairBefore_ok) ents_nil)))) Go.Proofs.Tryz.func41 (by kernel_rfl) (by kernel_rfl) (by kernel_rfl) (LSsOk.nil _ _) (fun x => by kernel_rfl)
/-! loop.example/g00185/spec.l8Pick -/
noncomputable def a_spec_l8Pick : FnA := ⟨Go.Proofs.Tryz.f39, ⟨[(5, [(15, .call [.ro, .ro, .ro] .bool [] []), (29, .call [.ro, .ro] .bool [] [])])], [(5, [([], []), ([], []), ([], []), ([], []), ([], []), ([], []), ([], []), ([], []), ([], []), ([], []), ([], []), ([], []), ([], []), ([], []), ([], []), ([], []), ([], []), ([], []), ([], []), ([], []), ([], []), ([], []), ([], []), ([], []), ([], []), ([], []), ([], []), ([], []), ([], []), ([], []), ([], []), ([], [])])], []⟩, 0⟩
def l_spec_l8Pick_0 {α : Type} (n : Nat) : Nat → List Task → List Lock → Int → Int → Int → (Int → Option α) → Option α
  | 0, _, _, _, _, _, _ => none
  | m0 + 1, v1, v2, v3, v4, v5, k0_0 =>
    cond (decide (v5 < ((v1).length : Int)))
     (cond ((decide (0 ≤ v5)) && (decide (v5 < ((v1).length : Int))))
       (let e6 := (decide ((List.getD v1 (Int.toNat v5) (Kd.dflt .task)).Cpu = v3))
        cond e6
         (cond ((decide (0 ≤ v5)) && (decide (v5 < ((v1).length : Int))))
           ((f_spec_l8Can n v1 v2 ((List.getD v1 (Int.toNat v5) (Kd.dflt .task)).No)).bind fun r7 =>
            cond r7.1
             (cond (decide (v4 < 0))
               (l_spec_l8Pick_0 n m0 v1 v2 v3 v5 (w64 (v5 + 1)) k0_0)
               (cond ((decide (0 ≤ v5)) && (decide (v5 < ((v1).length : Int))))
                 (cond ((decide (0 ≤ v4)) && (decide (v4 < ((v1).length : Int))))
                   ((f_spec_Before (List.getD v1 (Int.toNat v5) (Kd.dflt .task)) (List.getD v1 (Int.toNat v4) (Kd.dflt .task))).bind fun r8 =>
                    cond r8.1
                     (l_spec_l8Pick_0 n m0 v1 v2 v3 v5 (w64 (v5 + 1)) k0_0)
                     (l_spec_l8Pick_0 n m0 v1 v2 v3 v4 (w64 (v5 + 1)) k0_0))
                   (none))
                 (none)))
             (l_spec_l8Pick_0 n m0 v1 v2 v3 v4 (w64 (v5 + 1)) k0_0))
           (none))
         (l_spec_l8Pick_0 n m0 v1 v2 v3 v4 (w64 (v5 + 1)) k0_0))
       (none))
     (k0_0 v4)
def f_spec_l8Pick (n : Nat) (a0 : List Task) (a1 : List Lock) (a2 : Int) : Option (Int × Unit) :=
  l_spec_l8Pick_0 n n a0 a1 a2 (-1) 0
   (fun w9 =>
    some (w9, ()))
def r_spec_l8Pick (n : Nat) : Rw := ⟨39, (.pair (.v (.ro .task)) (.pair (.v (.ro .lock)) (.pair (.v (.int)) .one))), (.pair .int .one), fun x => f_spec_l8Pick n x.1.2 x.2.1.2 x.2.2.1⟩
def s_spec_l8Pick_0 (n : Nat) : LS where
  la := ⟨3, [0, 1, 2, 7, 8], [], [], [7], []⟩
  nt := 49
  kt := [0, 1, 2, 7, 8]
  hs := []
  X := Bool × List Task × Bool × List Lock × Int × Int × Int
  abs := fun vs es => match vs, es with | [.ro y0 .task y1, .ro y2 .lock y3, .int y4, .int y5, .int y6], [] => some (y0, y1, y2, y3, y4, y5, y6) | _, _ => none
  tms := fun x => [.ro x.1 .task x.2.1, .ro x.2.2.1 .lock x.2.2.2.1, .int x.2.2.2.2.1, .int x.2.2.2.2.2.1, .int x.2.2.2.2.2.2]
  ets := fun x => []
  run := fun m x k => l_spec_l8Pick_0 n m x.2.1 x.2.2.2.1 x.2.2.2.2.1 x.2.2.2.2.2.1 x.2.2.2.2.2.2 (fun w0 => k (.exit 0) ⟨layT [7] [.int w0] 0 49, layH [] []⟩)
noncomputable def c_spec_l8Pick_0 : Code := (Go.Proofs.Tryz.f39.body.bind (subLoop 3)).getD .skip
theorem s_spec_l8Pick_0_ok (n : Nat) : LSok Tb tyK (orc [(r_spec_l8Can n), r_spec_Before]) n a_spec_l8Pick.ann [s_spec_l8Pick_0 n] c_spec_l8Pick_0 (s_spec_l8Pick_0 n) :=
  ⟨by intro vs es x h; dsimp only [s_spec_l8Pick_0] at h; split at h; (· injection h with h; subst h; exact ⟨rfl, rfl⟩); (· cases h), fun _ _ => rfl, fun m x k => by kernel_rfl⟩
theorem r_spec_l8Pick_ok (n : Nat) : RwOk Go.Proofs.Tryz.prog tyK (r_spec_l8Pick n) :=
  ent_ok (fa := a_spec_l8Pick) (ls := [s_spec_l8Pick_0 n]) (cs := [c_spec_l8Pick_0]) (n := n) (es := [(r_spec_l8Can n), r_spec_Before]) mixedOk tbOk (ents_cons (r_spec_l8Can_ok n) (ents_cons (r_spec_Before_ok) ents_nil)) Go.Proofs.Tryz.func39 (by kernel_rfl) (by kernel_rfl) (by kernel_rfl) (LSsOk.cons _ _ (l := s_spec_l8Pick_0 n) (by kernel_rfl) (s_spec_l8Pick_0_ok n) (LSsOk.nil _ _)) (fun x => by kernel_rfl)
/-! loop.example/g00185/spec.JudgeBest -/
noncomputable def a_spec_JudgeBest : FnA := ⟨Go.Proofs.Tryz.f12, ⟨[(0, [(0, .slot 0 .int)]), (1, [(1, .call [.ro] .bool [] [])]), (6, [(5, .slot 1 .int)]), (7, [(6, .call [.ro, .ro, .ro] .int [] [])]), (8, [(6, .call [.ro, .ro, .ro] .bool [] []), (17, .call [.ro, .ro] .bool [] [])])], [(8, [([0], []), ([0], []), ([0], []), ([0], []), ([1], []), ([1], []), ([], []), ([], []), ([], []), ([], []), ([], []), ([1], []), ([0], []), ([0], []), ([], []), ([], []), ([], []), ([], []), ([], []), ([], [])])], []⟩, 2⟩
def l_spec_JudgeBest_0 {α : Type} (n : Nat) : Nat → Sys → Int → (Option α) → (Option α) → Option α
  | 0, _, _, _, _ => none
  | m0 + 1, v2, v3, k0_0, k0_1 =>
    cond (decide (v3 < ((v2.Tasks).length : Int)))
     (cond ((decide (0 ≤ v3)) && (decide (v3 < ((v2.Tasks).length : Int))))
       ((f_spec_l8Pick n v2.Tasks v2.Locks ((List.getD v2.Tasks (Int.toNat v3) (Kd.dflt .task)).Cpu)).bind fun r4 =>
        (f_spec_l8Can n v2.Tasks v2.Locks ((List.getD v2.Tasks (Int.toNat v3) (Kd.dflt .task)).No)).bind fun r5 =>
        cond r5.1
         (cond (decide (r4.1 < 0))
           (k0_0)
           (cond ((decide (0 ≤ r4.1)) && (decide (r4.1 < ((v2.Tasks).length : Int))))
             ((f_spec_Before (List.getD v2.Tasks (Int.toNat v3) (Kd.dflt .task)) (List.getD v2.Tasks (Int.toNat r4.1) (Kd.dflt .task))).bind fun r6 =>
              cond r6.1
               (k0_0)
               (l_spec_JudgeBest_0 n m0 v2 (w64 (v3 + 1)) k0_0 k0_1))
             (none)))
         (l_spec_JudgeBest_0 n m0 v2 (w64 (v3 + 1)) k0_0 k0_1))
       (none))
     (k0_1)
def f_spec_JudgeBest (n : Nat) (a0 : Sys) : Option (Bool × Unit) :=
  (f_spec_SysOk n a0).bind fun r1 =>
  cond (!r1.1)
   (some (false, ()))
   (l_spec_JudgeBest_0 n n a0 0
     (some (false, ()))
     (some (true, ())))
def r_spec_JudgeBest (n : Nat) : Rw := ⟨12, (.pair (.v (.agg (.pair .int (.pair .int (.pair (.ro .task) (.pair (.ro .lock) (.pair (.ro .ghost) (.pair (.ro .int) (.pair .int (.pair .int (.pair (.ro .turn) .one))))))))))) .one), (.pair .bool .one), fun x => f_spec_JudgeBest n (⟨x.1.1, x.1.2.1, x.1.2.2.1.2, x.1.2.2.2.1.2, x.1.2.2.2.2.1.2, x.1.2.2.2.2.2.1.2, x.1.2.2.2.2.2.2.1, x.1.2.2.2.2.2.2.2.1, x.1.2.2.2.2.2.2.2.2.1.2⟩ : Sys)⟩
def s_spec_JudgeBest_0 (n : Nat) : LS where
  la := ⟨4, [1, 3], [], [1], [2], []⟩
  nt := 48
  kt := [1, 3]
  hs := [.k, .fresh]
  X := Int × Int × Bool × List Task × Bool × List Lock × Bool × List Ghost × Bool × List Int × Int × Int × Bool × List Turn × Int
  abs := fun vs es => match vs, es with | [.ptr 0 0, .int y14], [.box [.int y0, .int y1, .ro y2 .task y3, .ro y4 .lock y5, .ro y6 .ghost y7, .ro y8 .int y9, .int y10, .int y11, .ro y12 .turn y13]] => some (y0, y1, y2, y3, y4, y5, y6, y7, y8, y9, y10, y11, y12, y13, y14) | _, _ => none
  tms := fun x => [.ptr 0 0, .int x.2.2.2.2.2.2.2.2.2.2.2.2.2.2]
  ets := fun x => [.box [.int x.1, .int x.2.1, .ro x.2.2.1 .task x.2.2.2.1, .ro x.2.2.2.2.1 .lock x.2.2.2.2.2.1, .ro x.2.2.2.2.2.2.1 .ghost x.2.2.2.2.2.2.2.1, .ro x.2.2.2.2.2.2.2.2.1 .int x.2.2.2.2.2.2.2.2.2.1, .int x.2.2.2.2.2.2.2.2.2.2.1, .int x.2.2.2.2.2.2.2.2.2.2.2.1, .ro x.2.2.2.2.2.2.2.2.2.2.2.2.1 .turn x.2.2.2.2.2.2.2.2.2.2.2.2.2.1]]
  run := fun m x k => l_spec_JudgeBest_0 n m (⟨x.1, x.2.1, x.2.2.2.1, x.2.2.2.2.2.1, x.2.2.2.2.2.2.2.1, x.2.2.2.2.2.2.2.2.2.1, x.2.2.2.2.2.2.2.2.2.2.1, x.2.2.2.2.2.2.2.2.2.2.2.1, x.2.2.2.2.2.2.2.2.2.2.2.2.2.1⟩ : Sys) x.2.2.2.2.2.2.2.2.2.2.2.2.2.2 (k .ret ⟨layT [2] [.bool false] 0 48, layH [.dead, .dead] []⟩) (k (.exit 0) ⟨layT [] [] 0 48, layH [.dead, .dead] []⟩)
noncomputable def c_spec_JudgeBest_0 : Code := (Go.Proofs.Tryz.f12.body.bind (subLoop 4)).getD .skip
theorem s_spec_JudgeBest_0_ok (n : Nat) : LSok Tb tyK (orc [(r_spec_SysOk n), (r_spec_l8Pick n), (r_spec_l8Can n), r_spec_Before]) n a_spec_JudgeBest.ann [s_spec_JudgeBest_0 n] c_spec_JudgeBest_0 (s_spec_JudgeBest_0 n) :=
  ⟨by intro vs es x h; dsimp only [s_spec_JudgeBest_0] at h; split at h; (· injection h with h; subst h; exact ⟨rfl, rfl⟩); (· cases h), fun _ _ => rfl, fun m x k => by kernel_rfl⟩
theorem r_spec_JudgeBest_ok (n : Nat) : RwOk Go.Proofs.Tryz.prog tyK (r_spec_JudgeBest n) :=
  ent_ok (fa := a_spec_JudgeBest) (ls := [s_spec_JudgeBest_0 n]) (cs := [c_spec_JudgeBest_0]) (n := n) (es := [(r_spec_SysOk n), (r_spec_l8Pick n), (r_spec_l8Can n), r_spec_Before]) mixedOk tbOk (ents_cons (r_spec_SysOk_ok n) (ents_cons (r_spec_l8Pick_ok n) (ents_cons (r_spec_l8Can_ok n) (ents_cons (r_spec_Before_ok) ents_nil)))) Go.Proofs.Tryz.func12 (by kernel_rfl) (by kernel_rfl) (by kernel_rfl) (LSsOk.cons _ _ (l := s_spec_JudgeBest_0 n) (by kernel_rfl) (s_spec_JudgeBest_0_ok n) (LSsOk.nil _ _)) (fun x => by kernel_rfl)
/-! loop.example/g00185/impl.in -/
noncomputable def a_impl_in : FnA := ⟨Go.Proofs.Tryz.f71, ⟨[], [], []⟩, 0⟩
def f_impl_in (a0 : Int) (a1 : Int) (a2 : Int) : Option (Bool × Unit) :=
  cond (decide (a1 ≤ a0))
   (some ((decide (a0 ≤ a2)), ()))
   (some (false, ()))
def r_impl_in : Rw := ⟨71, (.pair (.v (.int)) (.pair (.v (.int)) (.pair (.v (.int)) .one))), (.pair .bool .one), fun x => f_impl_in x.1 x.2.1 x.2.2.1⟩
theorem r_impl_in_ok : RwOk Go.Proofs.Tryz.prog tyK (r_impl_in) :=
  ent_ok (fa := a_impl_in) (ls := []) (cs := []) (n := 0) (es := []) mixedOk tbOk ents_nil Go.Proofs.Tryz.func71 (by kernel_rfl) (by kernel_rfl) (by kernel_rfl) (LSsOk.nil _ _) (fun x => by kernel_rfl)
/-! loop.example/g00185/impl.isTime -/
noncomputable def a_impl_isTime : FnA := ⟨Go.Proofs.Tryz.f70, ⟨[(1, [(1, .call [.ro, .ro, .ro] .bool [] [])])], [], []⟩, 0⟩
def f_impl_isTime (a0 : Int) : Option (Bool × Unit) :=
  (f_impl_in a0 0 100000).bind fun r1 =>
  some (r1.1, ())
def r_impl_isTime : Rw := ⟨70, (.pair (.v (.int)) .one), (.pair .bool .one), fun x => f_impl_isTime x.1⟩
theorem r_impl_isTime_ok : RwOk Go.Proofs.Tryz.prog tyK (r_impl_isTime) :=
  ent_ok (fa := a_impl_isTime) (ls := []) (cs := []) (n := 0) (es := [r_impl_in]) mixedOk tbOk (ents_cons (r_impl_in_ok) ents_nil) Go.Proofs.Tryz.func70 (by kernel_rfl) (by kernel_rfl) (by kernel_rfl) (LSsOk.nil _ _) (fun x => by kernel_rfl)
/-! loop.example/g00185/impl.isNo -/
noncomputable def a_impl_isNo : FnA := ⟨Go.Proofs.Tryz.f116, ⟨[(1, [(1, .call [.ro, .ro, .ro] .bool [] [])])], [], []⟩, 0⟩
def f_impl_isNo (a0 : Int) : Option (Bool × Unit) :=
  (f_impl_in a0 1 1000).bind fun r1 =>
  some (r1.1, ())
def r_impl_isNo : Rw := ⟨116, (.pair (.v (.int)) .one), (.pair .bool .one), fun x => f_impl_isNo x.1⟩
theorem r_impl_isNo_ok : RwOk Go.Proofs.Tryz.prog tyK (r_impl_isNo) :=
  ent_ok (fa := a_impl_isNo) (ls := []) (cs := []) (n := 0) (es := [r_impl_in]) mixedOk tbOk (ents_cons (r_impl_in_ok) ents_nil) Go.Proofs.Tryz.func116 (by kernel_rfl) (by kernel_rfl) (by kernel_rfl) (LSsOk.nil _ _) (fun x => by kernel_rfl)
/-! loop.example/g00185/impl.ShareOk -/
noncomputable def a_impl_ShareOk : FnA := ⟨Go.Proofs.Tryz.f120, ⟨[(0, [(0, .slot 0 .int)]), (1, [(2, .call [.ro, .ro, .ro] .bool [] []), (8, .call [.ro, .ro, .ro] .bool [] [])])], [], []⟩, 1⟩
def f_impl_ShareOk (a0 : Share) : Option (Bool × Unit) :=
  (f_impl_in a0.P 1 40).bind fun r1 =>
  cond r1.1
   ((f_impl_in a0.Q 1 a0.P).bind fun r2 =>
    some (r2.1, ()))
   (some (false, ()))
def r_impl_ShareOk : Rw := ⟨120, (.pair (.v (.agg (.pair .int (.pair .int .one)))) .one), (.pair .bool .one), fun x => f_impl_ShareOk (⟨x.1.1, x.1.2.1⟩ : Share)⟩
theorem r_impl_ShareOk_ok : RwOk Go.Proofs.Tryz.prog tyK (r_impl_ShareOk) :=
  ent_ok (fa := a_impl_ShareOk) (ls := []) (cs := []) (n := 0) (es := [r_impl_in]) mixedOk tbOk (ents_cons (r_impl_in_ok) ents_nil) Go.Proofs.Tryz.func120 (by kernel_rfl) (by kernel_rfl) (by kernel_rfl) (LSsOk.nil _ _) (fun x => by kernel_rfl)
/-! loop.example/g00185/impl.isUntil -/
noncomputable def a_impl_isUntil : FnA := ⟨Go.Proofs.Tryz.f121, ⟨[(1, [(1, .call [.ro, .ro, .ro] .bool [] [])])], [], []⟩, 0⟩
def f_impl_isUntil (a0 : Int) : Option (Bool × Unit) :=
  (f_impl_in a0 0 100040).bind fun r1 =>
  some (r1.1, ())
def r_impl_isUntil : Rw := ⟨121, (.pair (.v (.int)) .one), (.pair .bool .one), fun x => f_impl_isUntil x.1⟩
theorem r_impl_isUntil_ok : RwOk Go.Proofs.Tryz.prog tyK (r_impl_isUntil) :=
  ent_ok (fa := a_impl_isUntil) (ls := []) (cs := []) (n := 0) (es := [r_impl_in]) mixedOk tbOk (ents_cons (r_impl_in_ok) ents_nil) Go.Proofs.Tryz.func121 (by kernel_rfl) (by kernel_rfl) (by kernel_rfl) (LSsOk.nil _ _) (fun x => by kernel_rfl)
/-! loop.example/g00185/impl.isSeq -/
noncomputable def a_impl_isSeq : FnA := ⟨Go.Proofs.Tryz.f85, ⟨[(1, [(1, .call [.ro, .ro, .ro] .bool [] [])])], [], []⟩, 0⟩
def f_impl_isSeq (a0 : Int) : Option (Bool × Unit) :=
  (f_impl_in a0 0 1000000).bind fun r1 =>
  some (r1.1, ())
def r_impl_isSeq : Rw := ⟨85, (.pair (.v (.int)) .one), (.pair .bool .one), fun x => f_impl_isSeq x.1⟩
theorem r_impl_isSeq_ok : RwOk Go.Proofs.Tryz.prog tyK (r_impl_isSeq) :=
  ent_ok (fa := a_impl_isSeq) (ls := []) (cs := []) (n := 0) (es := [r_impl_in]) mixedOk tbOk (ents_cons (r_impl_in_ok) ents_nil) Go.Proofs.Tryz.func85 (by kernel_rfl) (by kernel_rfl) (by kernel_rfl) (LSsOk.nil _ _) (fun x => by kernel_rfl)
/-! loop.example/g00185/impl.NiceOk -/
noncomputable def a_impl_NiceOk : FnA := ⟨Go.Proofs.Tryz.f133, ⟨[(1, [(1, .call [.ro, .ro, .ro] .bool [] [])])], [], []⟩, 0⟩
def f_impl_NiceOk (a0 : Int) : Option (Bool × Unit) :=
  (f_impl_in a0 (-4) 4).bind fun r1 =>
  some (r1.1, ())
def r_impl_NiceOk : Rw := ⟨133, (.pair (.v (.int)) .one), (.pair .bool .one), fun x => f_impl_NiceOk x.1⟩
theorem r_impl_NiceOk_ok : RwOk Go.Proofs.Tryz.prog tyK (r_impl_NiceOk) :=
  ent_ok (fa := a_impl_NiceOk) (ls := []) (cs := []) (n := 0) (es := [r_impl_in]) mixedOk tbOk (ents_cons (r_impl_in_ok) ents_nil) Go.Proofs.Tryz.func133 (by kernel_rfl) (by kernel_rfl) (by kernel_rfl) (LSsOk.nil _ _) (fun x => by kernel_rfl)
/-! loop.example/g00185/impl.TaskOk -/
noncomputable def a_impl_TaskOk : FnA := ⟨Go.Proofs.Tryz.f105, ⟨[(0, [(0, .slot 0 .int)]), (1, [(2, .call [.ro] .bool [] []), (7, .call [.ro, .ro, .ro] .bool [] [])]), (3, [(11, .slot 1 .int)]), (8, [(5, .call [.ro] .bool [] []), (11, .call [.ro, .ro, .ro] .bool [] []), (16, .call [.ro] .bool [] [])]), (11, [(2, .call [.ro, .ro, .ro] .bool [] []), (6, .call [.ro, .ro, .ro] .bool [] []), (16, .call [.ro, .ro, .ro] .bool [] []), (21, .call [.ro] .bool [] [])]), (14, [(2, .call [.ro] .bool [] []), (6, .call [.ro, .ro, .ro] .bool [] [])])], [(7, [([0], []), ([0], []), ([0], []), ([0], []), ([0], []), ([0], []), ([0], []), ([0], []), ([1], []), ([1], [1]), ([1], []), ([1], [1]), ([1], []), ([1], [1]), ([1], []), ([1], [1])]), (10, [([0], []), ([0], []), ([0], []), ([0], []), ([0], []), ([0], []), ([0], []), ([0], []), ([1], []), ([1], [1]), ([1], []), ([1], [1]), ([1], []), ([1], [1]), ([1], []), ([1], [1])]), (13, [([0], []), ([0], []), ([0], []), ([0], []), ([1], []), ([1], [1]), ([1], []), ([1], [1])])], []⟩, 2⟩
def f_impl_TaskOk (a0 : Task) : Option (Bool × Unit) :=
  (f_impl_isNo a0.No).bind fun r1 =>
  cond (!r1.1)
   (some (false, ()))
   ((f_impl_in a0.Cpu 0 3).bind fun r2 =>
    cond (!r2.1)
     (some (false, ()))
     (cond (!(decide (a0.State = 1)))
       (cond (!(decide (a0.State = 2)))
         (some (false, ()))
         (cond (decide (a0.Class = 1))
           ((f_impl_ShareOk (⟨a0.Q, a0.P⟩ : Share)).bind fun r3 =>
            cond r3.1
             ((f_impl_in a0.Left 0 a0.Q).bind fun r4 =>
              cond r4.1
               ((f_impl_isUntil a0.Due).bind fun r5 =>
                cond r5.1
                 (let e6 := ((decide (a0.No = a0.No)) && ((decide (a0.Class = a0.Class)) && ((decide (a0.Cpu = a0.Cpu)) && ((decide (a0.State = a0.State)) && ((a0.Idle == a0.Idle) && ((decide (a0.Q = a0.Q)) && ((decide (a0.P = a0.P)) && ((decide (a0.Left = a0.Left)) && ((decide (a0.Due = a0.Due)) && ((decide (a0.Prio = 0)) && ((decide (a0.Round = 0)) && ((decide (a0.Seq = 0)) && ((decide (a0.Nice = 0)) && ((decide (a0.V = 0)) && true))))))))))))))
                  some (e6, ()))
                 (some (false, ())))
               (some (false, ())))
             (some (false, ())))
           (cond (decide (a0.Class = 2))
             ((f_impl_in a0.Prio 1 20).bind fun r7 =>
              cond r7.1
               ((f_impl_in a0.Round 0 10).bind fun r8 =>
                cond r8.1
                 ((f_impl_in a0.Left (if a0.Round < 1 then a0.Round else 1) a0.Round).bind fun r9 =>
                  cond r9.1
                   ((f_impl_isSeq a0.Seq).bind fun r10 =>
                    cond r10.1
                     (let e11 := ((decide (a0.No = a0.No)) && ((decide (a0.Class = a0.Class)) && ((decide (a0.Cpu = a0.Cpu)) && ((decide (a0.State = a0.State)) && ((a0.Idle == a0.Idle) && ((decide (a0.Q = 0)) && ((decide (a0.P = 0)) && ((decide (a0.Left = a0.Left)) && ((decide (a0.Due = 0)) && ((decide (a0.Prio = a0.Prio)) && ((decide (a0.Round = a0.Round)) && ((decide (a0.Seq = a0.Seq)) && ((decide (a0.Nice = 0)) && ((decide (a0.V = 0)) && true))))))))))))))
                      some (e11, ()))
                     (some (false, ())))
                   (some (false, ())))
                 (some (false, ())))
               (some (false, ())))
             (cond (decide (a0.Class = 3))
               ((f_impl_NiceOk a0.Nice).bind fun r12 =>
                cond r12.1
                 ((f_impl_in a0.V 0 100000000).bind fun r13 =>
                  cond r13.1
                   (let e14 := ((decide (a0.No = a0.No)) && ((decide (a0.Class = a0.Class)) && ((decide (a0.Cpu = a0.Cpu)) && ((decide (a0.State = a0.State)) && ((a0.Idle == a0.Idle) && ((decide (a0.Q = 0)) && ((decide (a0.P = 0)) && ((decide (a0.Left = 0)) && ((decide (a0.Due = 0)) && ((decide (a0.Prio = 0)) && ((decide (a0.Round = 0)) && ((decide (a0.Seq = 0)) && ((decide (a0.Nice = a0.Nice)) && ((decide (a0.V = a0.V)) && true))))))))))))))
                    some (e14, ()))
                   (some (false, ())))
                 (some (false, ())))
               (some (false, ()))))))
       (cond (decide (a0.Class = 1))
         ((f_impl_ShareOk (⟨a0.Q, a0.P⟩ : Share)).bind fun r15 =>
          cond r15.1
           ((f_impl_in a0.Left 0 a0.Q).bind fun r16 =>
            cond r16.1
             ((f_impl_isUntil a0.Due).bind fun r17 =>
              cond r17.1
               (let e18 := ((decide (a0.No = a0.No)) && ((decide (a0.Class = a0.Class)) && ((decide (a0.Cpu = a0.Cpu)) && ((decide (a0.State = a0.State)) && ((a0.Idle == a0.Idle) && ((decide (a0.Q = a0.Q)) && ((decide (a0.P = a0.P)) && ((decide (a0.Left = a0.Left)) && ((decide (a0.Due = a0.Due)) && ((decide (a0.Prio = 0)) && ((decide (a0.Round = 0)) && ((decide (a0.Seq = 0)) && ((decide (a0.Nice = 0)) && ((decide (a0.V = 0)) && true))))))))))))))
                some (e18, ()))
               (some (false, ())))
             (some (false, ())))
           (some (false, ())))
         (cond (decide (a0.Class = 2))
           ((f_impl_in a0.Prio 1 20).bind fun r19 =>
            cond r19.1
             ((f_impl_in a0.Round 0 10).bind fun r20 =>
              cond r20.1
               ((f_impl_in a0.Left (if a0.Round < 1 then a0.Round else 1) a0.Round).bind fun r21 =>
                cond r21.1
                 ((f_impl_isSeq a0.Seq).bind fun r22 =>
                  cond r22.1
                   (let e23 := ((decide (a0.No = a0.No)) && ((decide (a0.Class = a0.Class)) && ((decide (a0.Cpu = a0.Cpu)) && ((decide (a0.State = a0.State)) && ((a0.Idle == a0.Idle) && ((decide (a0.Q = 0)) && ((decide (a0.P = 0)) && ((decide (a0.Left = a0.Left)) && ((decide (a0.Due = 0)) && ((decide (a0.Prio = a0.Prio)) && ((decide (a0.Round = a0.Round)) && ((decide (a0.Seq = a0.Seq)) && ((decide (a0.Nice = 0)) && ((decide (a0.V = 0)) && true))))))))))))))
                    some (e23, ()))
                   (some (false, ())))
                 (some (false, ())))
               (some (false, ())))
             (some (false, ())))
           (cond (decide (a0.Class = 3))
             ((f_impl_NiceOk a0.Nice).bind fun r24 =>
              cond r24.1
               ((f_impl_in a0.V 0 100000000).bind fun r25 =>
                cond r25.1
                 (let e26 := ((decide (a0.No = a0.No)) && ((decide (a0.Class = a0.Class)) && ((decide (a0.Cpu = a0.Cpu)) && ((decide (a0.State = a0.State)) && ((a0.Idle == a0.Idle) && ((decide (a0.Q = 0)) && ((decide (a0.P = 0)) && ((decide (a0.Left = 0)) && ((decide (a0.Due = 0)) && ((decide (a0.Prio = 0)) && ((decide (a0.Round = 0)) && ((decide (a0.Seq = 0)) && ((decide (a0.Nice = a0.Nice)) && ((decide (a0.V = a0.V)) && true))))))))))))))
                  some (e26, ()))
                 (some (false, ())))
               (some (false, ())))
             (some (false, ())))))))
def r_impl_TaskOk : Rw := ⟨105, (.pair (.v (.agg (.pair .int (.pair .int (.pair .int (.pair .int (.pair .bool (.pair .int (.pair .int (.pair .int (.pair .int (.pair .int (.pair .int (.pair .int (.pair .int (.pair .int .one)))))))))))))))) .one), (.pair .bool .one), fun x => f_impl_TaskOk (⟨x.1.1, x.1.2.1, x.1.2.2.1, x.1.2.2.2.1, x.1.2.2.2.2.1, x.1.2.2.2.2.2.1, x.1.2.2.2.2.2.2.1, x.1.2.2.2.2.2.2.2.1, x.1.2.2.2.2.2.2.2.2.1, x.1.2.2.2.2.2.2.2.2.2.1, x.1.2.2.2.2.2.2.2.2.2.2.1, x.1.2.2.2.2.2.2.2.2.2.2.2.1, x.1.2.2.2.2.2.2.2.2.2.2.2.2.1, x.1.2.2.2.2.2.2.2.2.2.2.2.2.2.1⟩ : Task)⟩
theorem r_impl_TaskOk_ok : RwOk Go.Proofs.Tryz.prog tyK (r_impl_TaskOk) :=
  ent_ok (fa := a_impl_TaskOk) (ls := []) (cs := []) (n := 0) (es := [r_impl_isNo, r_impl_in, r_impl_ShareOk, r_impl_isUntil, r_impl_isSeq, r_impl_NiceOk]) mixedOk tbOk (ents_cons (r_impl_isNo_ok) (ents_cons (r_impl_in_ok) (ents_cons (r_impl_ShareOk_ok) (ents_cons (r_impl_isUntil_ok) (ents_cons (r_impl_isSeq_ok) (ents_cons (r_impl_NiceOk_ok) ents_nil)))))) Go.Proofs.Tryz.func105 (by kernel_rfl) (by kernel_rfl) (by kernel_rfl) (LSsOk.nil _ _) (fun x => by kernel_rfl)
/-! loop.example/g00185/impl.TasksOk -/
noncomputable def a_impl_TasksOk : FnA := ⟨Go.Proofs.Tryz.f72, ⟨[(3, [(3, .slot 0 .int)]), (4, [(1, .call [.ro] .bool [] [])])], [(4, [([0], []), ([], []), ([], []), ([], []), ([], []), ([], []), ([], []), ([], []), ([], []), ([], []), ([], []), ([], []), ([], []), ([0], []), ([0], []), ([], []), ([], []), ([], [])])], []⟩, 1⟩
def l_impl_TasksOk_0 {α : Type} (n : Nat) : Nat → List Task → List Task → Int → Int → (Option α) → (Option α) → Option α
  | 0, _, _, _, _, _, _ => none
  | m0 + 1, v1, v2, v3, v4, k0_0, k0_1 =>
    cond (decide (v4 < v3))
     (cond ((decide (0 ≤ v4)) && (decide (v4 < ((v2).length : Int))))
       ((f_impl_TaskOk (List.getD v2 (Int.toNat v4) (Kd.dflt .task))).bind fun r5 =>
        cond (!r5.1)
         (k0_0)
         (cond (decide (0 < v4))
           (cond ((decide (0 ≤ (w64 (v4 - 1)))) && (decide ((w64 (v4 - 1)) < ((v1).length : Int))))
             (let e6 := (decide ((List.getD v2 (Int.toNat v4) (Kd.dflt .task)).No ≤ (List.getD v1 (Int.toNat (w64 (v4 - 1))) (Kd.dflt .task)).No))
              cond e6
               (k0_0)
               (l_impl_TasksOk_0 n m0 v1 v2 v3 (w64 (v4 + 1)) k0_0 k0_1))
             (none))
           (l_impl_TasksOk_0 n m0 v1 v2 v3 (w64 (v4 + 1)) k0_0 k0_1)))
       (none))
     (k0_1)
def f_impl_TasksOk (n : Nat) (a0 : List Task) : Option (Bool × Unit) :=
  l_impl_TasksOk_0 n n a0 a0 ((a0).length : Int) 0
   (some (false, ()))
   (some ((decide (((a0).length : Int) ≤ 12)), ()))
def r_impl_TasksOk (n : Nat) : Rw := ⟨72, (.pair (.v (.ro .task)) .one), (.pair .bool .one), fun x => f_impl_TasksOk n x.1.2⟩
def s_impl_TasksOk_0 (n : Nat) : LS where
  la := ⟨2, [0, 5, 6, 7], [], [0], [0, 2], []⟩
  nt := 34
  kt := [0, 5, 6, 7]
  hs := [.fresh]
  X := Bool × List Task × Bool × List Task × Int × Int
  abs := fun vs es => match vs, es with | [.ro y0 .task y1, .ro y2 .task y3, .int y4, .int y5], [] => some (y0, y1, y2, y3, y4, y5) | _, _ => none
  tms := fun x => [.ro x.1 .task x.2.1, .ro x.2.2.1 .task x.2.2.2.1, .int x.2.2.2.2.1, .int x.2.2.2.2.2]
  ets := fun x => []
  run := fun m x k => l_impl_TasksOk_0 n m x.2.1 x.2.2.2.1 x.2.2.2.2.1 x.2.2.2.2.2 (k .ret ⟨layT [0, 2] [.ro x.1 .task x.2.1, .bool false] 0 34, layH [.dead] []⟩) (k (.exit 0) ⟨layT [0] [.ro x.1 .task x.2.1] 0 34, layH [.dead] []⟩)
noncomputable def c_impl_TasksOk_0 : Code := (Go.Proofs.Tryz.f72.body.bind (subLoop 2)).getD .skip
theorem s_impl_TasksOk_0_ok (n : Nat) : LSok Tb tyK (orc [r_impl_TaskOk]) n a_impl_TasksOk.ann [s_impl_TasksOk_0 n] c_impl_TasksOk_0 (s_impl_TasksOk_0 n) :=
  ⟨by intro vs es x h; dsimp only [s_impl_TasksOk_0] at h; split at h; (· injection h with h; subst h; exact ⟨rfl, rfl⟩); (· cases h), fun _ _ => rfl, fun m x k => by kernel_rfl⟩
theorem r_impl_TasksOk_ok (n : Nat) : RwOk Go.Proofs.Tryz.prog tyK (r_impl_TasksOk n) :=
  ent_ok (fa := a_impl_TasksOk) (ls := [s_impl_TasksOk_0 n]) (cs := [c_impl_TasksOk_0]) (n := n) (es := [r_impl_TaskOk]) mixedOk tbOk (ents_cons (r_impl_TaskOk_ok) ents_nil) Go.Proofs.Tryz.func72 (by kernel_rfl) (by kernel_rfl) (by kernel_rfl) (LSsOk.cons _ _ (l := s_impl_TasksOk_0 n) (by kernel_rfl) (s_impl_TasksOk_0_ok n) (LSsOk.nil _ _)) (fun x => by kernel_rfl)
end Go.Proofs.YtjgkeaiibdodfaaGreat.VR
