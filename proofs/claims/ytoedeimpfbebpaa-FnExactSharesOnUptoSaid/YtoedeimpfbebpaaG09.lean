/- Functions, printed by program (wip/gen/emit.py). -/
import Derived.Test.YtoedeimpfbebpaaG08
set_option linter.unusedVariables false
set_option maxRecDepth 100000
namespace Go.Proofs.Ytoedeimpfbebpaa.VR
open Go
/-! loop.example/g00185/impl.turners -/
noncomputable def a_impl_turners : FnA := ⟨Go.Proofs.Try.f93, ⟨[(1, [(0, .slot 0 .task)]), (4, [(2, .slot 2 .int)]), (5, [(9, .call [.ro, .ro, .ro] .bool [] [])]), (6, [(2, .slot 3 .task), (3, .slot 4 .task)])], [], []⟩, 5⟩
def l_impl_turners_0 {α : Type} (n : Nat) : Nat → List Task → List Lock → Int → List Task → List Task → Int → Int → (List Task → Option α) → Option α
  | 0, _, _, _, _, _, _, _, _ => none
  | m0 + 1, v1, v2, v3, v4, v5, v6, v7, k0_0 =>
    cond (decide (v7 < v6))
     (cond ((decide (0 ≤ v7)) && (decide (v7 < ((v5).length : Int))))
       (let e8 := (decide ((List.getD v5 (Int.toNat v7) (Kd.dflt .task)).Cpu = v3))
        cond e8
         ((f_impl_CanTurn n v1 v2 ((List.getD v5 (Int.toNat v7) (Kd.dflt .task)).No)).bind fun r9 =>
          cond r9.1
           (let e10 := ([(List.getD v5 (Int.toNat v7) (Kd.dflt .task))] : List Task)
            cond (decide ((v4).length + (e10).length ≤ lim))
             (l_impl_turners_0 n m0 v1 v2 v3 (v4 ++ e10) v5 v6 (w64 (v7 + 1)) k0_0)
             (none))
           (l_impl_turners_0 n m0 v1 v2 v3 v4 v5 v6 (w64 (v7 + 1)) k0_0))
         (l_impl_turners_0 n m0 v1 v2 v3 v4 v5 v6 (w64 (v7 + 1)) k0_0))
       (none))
     (k0_0 v4)
def f_impl_turners (n : Nat) (a0 : List Task) (a1 : List Lock) (a2 : Int) : Option (List Task × Unit) :=
  l_impl_turners_0 n n a0 a1 a2 ([] : List Task) a0 ((a0).length : Int) 0
   (fun w11 =>
    some (w11, ()))
def r_impl_turners (n : Nat) : Rw := ⟨93, (.pair (.v (.ro .task)) (.pair (.v (.ro .lock)) (.pair (.v (.int)) .one))), (.pair (.own .task) .one), fun x => f_impl_turners n x.1.2 x.2.1.2 x.2.2.1⟩
def s_impl_turners_0 (n : Nat) : LS where
  la := ⟨3, [0, 1, 2, 7, 11, 12, 13], [(.t 7, 1, .task)], [2, 3, 4], [7], [1, 2, 3, 4]⟩
  nt := 34
  kt := [0, 1, 2, 7, 11, 12, 13]
  hs := [.dead, .k, .fresh, .fresh, .fresh]
  X := Bool × List Task × Bool × List Lock × Int × List Task × Bool × List Task × Int × Int
  abs := fun vs es => match vs, es with | [.ro y0 .task y1, .ro y2 .lock y3, .int y4, .bor 1, .ro y6 .task y7, .int y8, .int y9], [.root .task y5 .ok] => some (y0, y1, y2, y3, y4, y5, y6, y7, y8, y9) | _, _ => none
  tms := fun x => [.ro x.1 .task x.2.1, .ro x.2.2.1 .lock x.2.2.2.1, .int x.2.2.2.2.1, .bor 1, .ro x.2.2.2.2.2.2.1 .task x.2.2.2.2.2.2.2.1, .int x.2.2.2.2.2.2.2.2.1, .int x.2.2.2.2.2.2.2.2.2]
  ets := fun x => [.root .task x.2.2.2.2.2.1 .ok]
  run := fun m x k => l_impl_turners_0 n m x.2.1 x.2.2.2.1 x.2.2.2.2.1 x.2.2.2.2.2.1 x.2.2.2.2.2.2.2.1 x.2.2.2.2.2.2.2.2.1 x.2.2.2.2.2.2.2.2.2 (fun w0 => k (.exit 0) ⟨layT [7] [.bor 1] 0 34, layH [.dead, .k, .fresh, .fresh, .fresh] [.root .task w0 .ok]⟩)
noncomputable def c_impl_turners_0 : Code := (Go.Proofs.Try.f93.body.bind (subLoop 3)).getD .skip
theorem s_impl_turners_0_ok (n : Nat) : LSok Tb tyK (orc [(r_impl_CanTurn n)]) n a_impl_turners.ann [s_impl_turners_0 n] c_impl_turners_0 (s_impl_turners_0 n) :=
  ⟨by intro vs es x h; dsimp only [s_impl_turners_0] at h; split at h; (· injection h with h; subst h; exact ⟨rfl, rfl⟩); (· cases h), fun _ _ => rfl, fun m x k => by kernel_rfl⟩
theorem r_impl_turners_ok (n : Nat) : RwOk Go.Proofs.Try.prog tyK (r_impl_turners n) :=
  ent_ok (fa := a_impl_turners) (ls := [s_impl_turners_0 n]) (cs := [c_impl_turners_0]) (n := n) (es := [(r_impl_CanTurn n)]) mixedOk tbOk (ents_cons (r_impl_CanTurn_ok n) ents_nil) Go.Proofs.Try.func93 (by kernel_rfl) (by kernel_rfl) (by kernel_rfl) (LSsOk.cons _ _ (l := s_impl_turners_0 n) (by kernel_rfl) (s_impl_turners_0_ok n) (LSsOk.nil _ _)) (fun x => by kernel_rfl)
/-! loop.example/g00185/impl.isDue -/
noncomputable def a_impl_isDue : FnA := ⟨Go.Proofs.Try.f163, ⟨[(0, [(0, .slot 0 .int)]), (1, [(5, .call [.ro] .bool [] [])])], [], []⟩, 1⟩
def f_impl_isDue (a0 : Task) : Option (Bool × Unit) :=
  cond (decide (a0.Class = 1))
   ((f_impl_TaskOk a0).bind fun r1 =>
    some (r1.1, ()))
   (some (false, ()))
def r_impl_isDue : Rw := ⟨163, (.pair (.v (.agg (.pair .int (.pair .int (.pair .int (.pair .int (.pair .bool (.pair .int (.pair .int (.pair .int (.pair .int (.pair .int (.pair .int (.pair .int (.pair .int (.pair .int .one)))))))))))))))) .one), (.pair .bool .one), fun x => f_impl_isDue (⟨x.1.1, x.1.2.1, x.1.2.2.1, x.1.2.2.2.1, x.1.2.2.2.2.1, x.1.2.2.2.2.2.1, x.1.2.2.2.2.2.2.1, x.1.2.2.2.2.2.2.2.1, x.1.2.2.2.2.2.2.2.2.1, x.1.2.2.2.2.2.2.2.2.2.1, x.1.2.2.2.2.2.2.2.2.2.2.1, x.1.2.2.2.2.2.2.2.2.2.2.2.1, x.1.2.2.2.2.2.2.2.2.2.2.2.2.1, x.1.2.2.2.2.2.2.2.2.2.2.2.2.2.1⟩ : Task)⟩
theorem r_impl_isDue_ok : RwOk Go.Proofs.Try.prog tyK (r_impl_isDue) :=
  ent_ok (fa := a_impl_isDue) (ls := []) (cs := []) (n := 0) (es := [r_impl_TaskOk]) mixedOk tbOk (ents_cons (r_impl_TaskOk_ok) ents_nil) Go.Proofs.Try.func163 (by kernel_rfl) (by kernel_rfl) (by kernel_rfl) (LSsOk.nil _ _) (fun x => by kernel_rfl)
/-! loop.example/g00185/impl.DueBefore -/
noncomputable def a_impl_DueBefore : FnA := ⟨Go.Proofs.Try.f148, ⟨[(0, [(0, .slot 0 .int), (1, .slot 1 .int)]), (1, [(1, .call [.ro] .bool [] []), (4, .call [.ro] .bool [] [])])], [], []⟩, 2⟩
def f_impl_DueBefore (a0 : Task) (a1 : Task) : Option (Bool × Unit) :=
  (f_impl_isDue a0).bind fun r1 =>
  cond r1.1
   ((f_impl_isDue a1).bind fun r2 =>
    cond r2.1
     (cond (decide (a0.Due < a1.Due))
       (some (true, ()))
       (cond (decide (a0.Due = a1.Due))
         (some ((decide (a0.No < a1.No)), ()))
         (some (false, ()))))
     (some (false, ())))
   (some (false, ()))
def r_impl_DueBefore : Rw := ⟨148, (.pair (.v (.agg (.pair .int (.pair .int (.pair .int (.pair .int (.pair .bool (.pair .int (.pair .int (.pair .int (.pair .int (.pair .int (.pair .int (.pair .int (.pair .int (.pair .int .one)))))))))))))))) (.pair (.v (.agg (.pair .int (.pair .int (.pair .int (.pair .int (.pair .bool (.pair .int (.pair .int (.pair .int (.pair .int (.pair .int (.pair .int (.pair .int (.pair .int (.pair .int .one)))))))))))))))) .one)), (.pair .bool .one), fun x => f_impl_DueBefore (⟨x.1.1, x.1.2.1, x.1.2.2.1, x.1.2.2.2.1, x.1.2.2.2.2.1, x.1.2.2.2.2.2.1, x.1.2.2.2.2.2.2.1, x.1.2.2.2.2.2.2.2.1, x.1.2.2.2.2.2.2.2.2.1, x.1.2.2.2.2.2.2.2.2.2.1, x.1.2.2.2.2.2.2.2.2.2.2.1, x.1.2.2.2.2.2.2.2.2.2.2.2.1, x.1.2.2.2.2.2.2.2.2.2.2.2.2.1, x.1.2.2.2.2.2.2.2.2.2.2.2.2.2.1⟩ : Task) (⟨x.2.1.1, x.2.1.2.1, x.2.1.2.2.1, x.2.1.2.2.2.1, x.2.1.2.2.2.2.1, x.2.1.2.2.2.2.2.1, x.2.1.2.2.2.2.2.2.1, x.2.1.2.2.2.2.2.2.2.1, x.2.1.2.2.2.2.2.2.2.2.1, x.2.1.2.2.2.2.2.2.2.2.2.1, x.2.1.2.2.2.2.2.2.2.2.2.2.1, x.2.1.2.2.2.2.2.2.2.2.2.2.2.1, x.2.1.2.2.2.2.2.2.2.2.2.2.2.2.1, x.2.1.2.2.2.2.2.2.2.2.2.2.2.2.2.1⟩ : Task)⟩
theorem r_impl_DueBefore_ok : RwOk Go.Proofs.Try.prog tyK (r_impl_DueBefore) :=
  ent_ok (fa := a_impl_DueBefore) (ls := []) (cs := []) (n := 0) (es := [r_impl_isDue]) mixedOk tbOk (ents_cons (r_impl_isDue_ok) ents_nil) Go.Proofs.Try.func148 (by kernel_rfl) (by kernel_rfl) (by kernel_rfl) (LSsOk.nil _ _) (fun x => by kernel_rfl)
/-! loop.example/g00185/impl.isFixed -/
noncomputable def a_impl_isFixed : FnA := ⟨Go.Proofs.Try.f164, ⟨[(0, [(0, .slot 0 .int)]), (1, [(5, .call [.ro] .bool [] [])])], [], []⟩, 1⟩
def f_impl_isFixed (a0 : Task) : Option (Bool × Unit) :=
  cond (decide (a0.Class = 2))
   ((f_impl_TaskOk a0).bind fun r1 =>
    some (r1.1, ()))
   (some (false, ()))
def r_impl_isFixed : Rw := ⟨164, (.pair (.v (.agg (.pair .int (.pair .int (.pair .int (.pair .int (.pair .bool (.pair .int (.pair .int (.pair .int (.pair .int (.pair .int (.pair .int (.pair .int (.pair .int (.pair .int .one)))))))))))))))) .one), (.pair .bool .one), fun x => f_impl_isFixed (⟨x.1.1, x.1.2.1, x.1.2.2.1, x.1.2.2.2.1, x.1.2.2.2.2.1, x.1.2.2.2.2.2.1, x.1.2.2.2.2.2.2.1, x.1.2.2.2.2.2.2.2.1, x.1.2.2.2.2.2.2.2.2.1, x.1.2.2.2.2.2.2.2.2.2.1, x.1.2.2.2.2.2.2.2.2.2.2.1, x.1.2.2.2.2.2.2.2.2.2.2.2.1, x.1.2.2.2.2.2.2.2.2.2.2.2.2.1, x.1.2.2.2.2.2.2.2.2.2.2.2.2.2.1⟩ : Task)⟩
theorem r_impl_isFixed_ok : RwOk Go.Proofs.Try.prog tyK (r_impl_isFixed) :=
  ent_ok (fa := a_impl_isFixed) (ls := []) (cs := []) (n := 0) (es := [r_impl_TaskOk]) mixedOk tbOk (ents_cons (r_impl_TaskOk_ok) ents_nil) Go.Proofs.Try.func164 (by kernel_rfl) (by kernel_rfl) (by kernel_rfl) (LSsOk.nil _ _) (fun x => by kernel_rfl)
/-! loop.example/g00185/impl.FixedBefore -/
noncomputable def a_impl_FixedBefore : FnA := ⟨Go.Proofs.Try.f149, ⟨[(0, [(0, .slot 0 .int), (1, .slot 1 .int)]), (1, [(1, .call [.ro] .bool [] []), (5, .call [.ro] .bool [] [])])], [], []⟩, 2⟩
def f_impl_FixedBefore (a0 : Task) (a1 : Task) : Option (Bool × Unit) :=
  (f_impl_isFixed a0).bind fun r1 =>
  cond (!r1.1)
   (some (false, ()))
   ((f_impl_isFixed a1).bind fun r2 =>
    cond (!r2.1)
     (some (false, ()))
     (cond (!(decide (a0.Prio = a1.Prio)))
       (some ((decide (a1.Prio < a0.Prio)), ()))
       (cond (!(decide (a0.Seq = a1.Seq)))
         (some ((decide (a0.Seq < a1.Seq)), ()))
         (some ((decide (a0.No < a1.No)), ())))))
def r_impl_FixedBefore : Rw := ⟨149, (.pair (.v (.agg (.pair .int (.pair .int (.pair .int (.pair .int (.pair .bool (.pair .int (.pair .int (.pair .int (.pair .int (.pair .int (.pair .int (.pair .int (.pair .int (.pair .int .one)))))))))))))))) (.pair (.v (.agg (.pair .int (.pair .int (.pair .int (.pair .int (.pair .bool (.pair .int (.pair .int (.pair .int (.pair .int (.pair .int (.pair .int (.pair .int (.pair .int (.pair .int .one)))))))))))))))) .one)), (.pair .bool .one), fun x => f_impl_FixedBefore (⟨x.1.1, x.1.2.1, x.1.2.2.1, x.1.2.2.2.1, x.1.2.2.2.2.1, x.1.2.2.2.2.2.1, x.1.2.2.2.2.2.2.1, x.1.2.2.2.2.2.2.2.1, x.1.2.2.2.2.2.2.2.2.1, x.1.2.2.2.2.2.2.2.2.2.1, x.1.2.2.2.2.2.2.2.2.2.2.1, x.1.2.2.2.2.2.2.2.2.2.2.2.1, x.1.2.2.2.2.2.2.2.2.2.2.2.2.1, x.1.2.2.2.2.2.2.2.2.2.2.2.2.2.1⟩ : Task) (⟨x.2.1.1, x.2.1.2.1, x.2.1.2.2.1, x.2.1.2.2.2.1, x.2.1.2.2.2.2.1, x.2.1.2.2.2.2.2.1, x.2.1.2.2.2.2.2.2.1, x.2.1.2.2.2.2.2.2.2.1, x.2.1.2.2.2.2.2.2.2.2.1, x.2.1.2.2.2.2.2.2.2.2.2.1, x.2.1.2.2.2.2.2.2.2.2.2.2.1, x.2.1.2.2.2.2.2.2.2.2.2.2.2.1, x.2.1.2.2.2.2.2.2.2.2.2.2.2.2.1, x.2.1.2.2.2.2.2.2.2.2.2.2.2.2.2.1⟩ : Task)⟩
theorem r_impl_FixedBefore_ok : RwOk Go.Proofs.Try.prog tyK (r_impl_FixedBefore) :=
  ent_ok (fa := a_impl_FixedBefore) (ls := []) (cs := []) (n := 0) (es := [r_impl_isFixed]) mixedOk tbOk (ents_cons (r_impl_isFixed_ok) ents_nil) Go.Proofs.Try.func149 (by kernel_rfl) (by kernel_rfl) (by kernel_rfl) (LSsOk.nil _ _) (fun x => by kernel_rfl)
/-! loop.example/g00185/impl.isFair -/
noncomputable def a_impl_isFair : FnA := ⟨Go.Proofs.Try.f165, ⟨[(0, [(0, .slot 0 .int)]), (1, [(5, .call [.ro] .bool [] [])])], [], []⟩, 1⟩
def f_impl_isFair (a0 : Task) : Option (Bool × Unit) :=
  cond (decide (a0.Class = 3))
   ((f_impl_TaskOk a0).bind fun r1 =>
    some (r1.1, ()))
   (some (false, ()))
def r_impl_isFair : Rw := ⟨165, (.pair (.v (.agg (.pair .int (.pair .int (.pair .int (.pair .int (.pair .bool (.pair .int (.pair .int (.pair .int (.pair .int (.pair .int (.pair .int (.pair .int (.pair .int (.pair .int .one)))))))))))))))) .one), (.pair .bool .one), fun x => f_impl_isFair (⟨x.1.1, x.1.2.1, x.1.2.2.1, x.1.2.2.2.1, x.1.2.2.2.2.1, x.1.2.2.2.2.2.1, x.1.2.2.2.2.2.2.1, x.1.2.2.2.2.2.2.2.1, x.1.2.2.2.2.2.2.2.2.1, x.1.2.2.2.2.2.2.2.2.2.1, x.1.2.2.2.2.2.2.2.2.2.2.1, x.1.2.2.2.2.2.2.2.2.2.2.2.1, x.1.2.2.2.2.2.2.2.2.2.2.2.2.1, x.1.2.2.2.2.2.2.2.2.2.2.2.2.2.1⟩ : Task)⟩
theorem r_impl_isFair_ok : RwOk Go.Proofs.Try.prog tyK (r_impl_isFair) :=
  ent_ok (fa := a_impl_isFair) (ls := []) (cs := []) (n := 0) (es := [r_impl_TaskOk]) mixedOk tbOk (ents_cons (r_impl_TaskOk_ok) ents_nil) Go.Proofs.Try.func165 (by kernel_rfl) (by kernel_rfl) (by kernel_rfl) (LSsOk.nil _ _) (fun x => by kernel_rfl)
/-! loop.example/g00185/impl.FairBefore -/
noncomputable def a_impl_FairBefore : FnA := ⟨Go.Proofs.Try.f150, ⟨[(0, [(0, .slot 0 .int), (1, .slot 1 .int)]), (1, [(1, .call [.ro] .bool [] []), (4, .call [.ro] .bool [] [])])], [], []⟩, 2⟩
def f_impl_FairBefore (a0 : Task) (a1 : Task) : Option (Bool × Unit) :=
  (f_impl_isFair a0).bind fun r1 =>
  cond r1.1
   ((f_impl_isFair a1).bind fun r2 =>
    cond r2.1
     (cond (decide (a0.V < a1.V))
       (some (true, ()))
       (cond (decide (a0.V = a1.V))
         (some ((decide (a0.No < a1.No)), ()))
         (some (false, ()))))
     (some (false, ())))
   (some (false, ()))
def r_impl_FairBefore : Rw := ⟨150, (.pair (.v (.agg (.pair .int (.pair .int (.pair .int (.pair .int (.pair .bool (.pair .int (.pair .int (.pair .int (.pair .int (.pair .int (.pair .int (.pair .int (.pair .int (.pair .int .one)))))))))))))))) (.pair (.v (.agg (.pair .int (.pair .int (.pair .int (.pair .int (.pair .bool (.pair .int (.pair .int (.pair .int (.pair .int (.pair .int (.pair .int (.pair .int (.pair .int (.pair .int .one)))))))))))))))) .one)), (.pair .bool .one), fun x => f_impl_FairBefore (⟨x.1.1, x.1.2.1, x.1.2.2.1, x.1.2.2.2.1, x.1.2.2.2.2.1, x.1.2.2.2.2.2.1, x.1.2.2.2.2.2.2.1, x.1.2.2.2.2.2.2.2.1, x.1.2.2.2.2.2.2.2.2.1, x.1.2.2.2.2.2.2.2.2.2.1, x.1.2.2.2.2.2.2.2.2.2.2.1, x.1.2.2.2.2.2.2.2.2.2.2.2.1, x.1.2.2.2.2.2.2.2.2.2.2.2.2.1, x.1.2.2.2.2.2.2.2.2.2.2.2.2.2.1⟩ : Task) (⟨x.2.1.1, x.2.1.2.1, x.2.1.2.2.1, x.2.1.2.2.2.1, x.2.1.2.2.2.2.1, x.2.1.2.2.2.2.2.1, x.2.1.2.2.2.2.2.2.1, x.2.1.2.2.2.2.2.2.2.1, x.2.1.2.2.2.2.2.2.2.2.1, x.2.1.2.2.2.2.2.2.2.2.2.1, x.2.1.2.2.2.2.2.2.2.2.2.2.1, x.2.1.2.2.2.2.2.2.2.2.2.2.2.1, x.2.1.2.2.2.2.2.2.2.2.2.2.2.2.1, x.2.1.2.2.2.2.2.2.2.2.2.2.2.2.2.1⟩ : Task)⟩
theorem r_impl_FairBefore_ok : RwOk Go.Proofs.Try.prog tyK (r_impl_FairBefore) :=
  ent_ok (fa := a_impl_FairBefore) (ls := []) (cs := []) (n := 0) (es := [r_impl_isFair]) mixedOk tbOk (ents_cons (r_impl_isFair_ok) ents_nil) Go.Proofs.Try.func150 (by kernel_rfl) (by kernel_rfl) (by kernel_rfl) (LSsOk.nil _ _) (fun x => by kernel_rfl)
/-! loop.example/g00185/impl.Before -/
noncomputable def a_impl_Before : FnA := ⟨Go.Proofs.Try.f124, ⟨[(0, [(0, .slot 0 .int), (1, .slot 1 .int)]), (1, [(1, .call [.ro] .bool [] []), (5, .call [.ro] .bool [] [])]), (3, [(8, .call [.ro, .ro] .bool [] []), (13, .call [.ro, .ro] .bool [] []), (18, .call [.ro, .ro] .bool [] [])])], [], []⟩, 2⟩
def f_impl_Before (a0 : Task) (a1 : Task) : Option (Bool × Unit) :=
  (f_impl_TaskOk a0).bind fun r1 =>
  cond (!r1.1)
   (some (false, ()))
   ((f_impl_TaskOk a1).bind fun r2 =>
    cond (!r2.1)
     (some (false, ()))
     (cond (decide (a0.Class < a1.Class))
       (some (true, ()))
       ((f_impl_DueBefore a0 a1).bind fun r3 =>
        cond r3.1
         (some (true, ()))
         ((f_impl_FixedBefore a0 a1).bind fun r4 =>
          cond r4.1
           (some (true, ()))
           ((f_impl_FairBefore a0 a1).bind fun r5 =>
            some (r5.1, ()))))))
def r_impl_Before : Rw := ⟨124, (.pair (.v (.agg (.pair .int (.pair .int (.pair .int (.pair .int (.pair .bool (.pair .int (.pair .int (.pair .int (.pair .int (.pair .int (.pair .int (.pair .int (.pair .int (.pair .int .one)))))))))))))))) (.pair (.v (.agg (.pair .int (.pair .int (.pair .int (.pair .int (.pair .bool (.pair .int (.pair .int (.pair .int (.pair .int (.pair .int (.pair .int (.pair .int (.pair .int (.pair .int .one)))))))))))))))) .one)), (.pair .bool .one), fun x => f_impl_Before (⟨x.1.1, x.1.2.1, x.1.2.2.1, x.1.2.2.2.1, x.1.2.2.2.2.1, x.1.2.2.2.2.2.1, x.1.2.2.2.2.2.2.1, x.1.2.2.2.2.2.2.2.1, x.1.2.2.2.2.2.2.2.2.1, x.1.2.2.2.2.2.2.2.2.2.1, x.1.2.2.2.2.2.2.2.2.2.2.1, x.1.2.2.2.2.2.2.2.2.2.2.2.1, x.1.2.2.2.2.2.2.2.2.2.2.2.2.1, x.1.2.2.2.2.2.2.2.2.2.2.2.2.2.1⟩ : Task) (⟨x.2.1.1, x.2.1.2.1, x.2.1.2.2.1, x.2.1.2.2.2.1, x.2.1.2.2.2.2.1, x.2.1.2.2.2.2.2.1, x.2.1.2.2.2.2.2.2.1, x.2.1.2.2.2.2.2.2.2.1, x.2.1.2.2.2.2.2.2.2.2.1, x.2.1.2.2.2.2.2.2.2.2.2.1, x.2.1.2.2.2.2.2.2.2.2.2.2.1, x.2.1.2.2.2.2.2.2.2.2.2.2.2.1, x.2.1.2.2.2.2.2.2.2.2.2.2.2.2.1, x.2.1.2.2.2.2.2.2.2.2.2.2.2.2.2.1⟩ : Task)⟩
theorem r_impl_Before_ok : RwOk Go.Proofs.Try.prog tyK (r_impl_Before) :=
  ent_ok (fa := a_impl_Before) (ls := []) (cs := []) (n := 0) (es := [r_impl_TaskOk, r_impl_DueBefore, r_impl_FixedBefore, r_impl_FairBefore]) mixedOk tbOk (ents_cons (r_impl_TaskOk_ok) (ents_cons (r_impl_DueBefore_ok) (ents_cons (r_impl_FixedBefore_ok) (ents_cons (r_impl_FairBefore_ok) ents_nil)))) Go.Proofs.Try.func124 (by kernel_rfl) (by kernel_rfl) (by kernel_rfl) (LSsOk.nil _ _) (fun x => by kernel_rfl)
/-! loop.example/g00185/impl.first -/
noncomputable def a_impl_first : FnA := ⟨Go.Proofs.Try.f92, ⟨[(1, [(1, .slot 0 .int)]), (4, [(2, .slot 1 .int)]), (5, [(6, .call [.ro, .ro] .bool [] [])])], [], []⟩, 2⟩
def l_impl_first_0 {α : Type} (n : Nat) : Nat → Task → List Task → Int → Int → (Task → Option α) → Option α
  | 0, _, _, _, _, _ => none
  | m0 + 1, v1, v2, v3, v4, k0_0 =>
    cond (decide (v4 < v3))
     (cond ((decide (0 ≤ v4)) && (decide (v4 < ((v2).length : Int))))
       (cond (decide (v1.No = 0))
         (l_impl_first_0 n m0 (List.getD v2 (Int.toNat v4) (Kd.dflt .task)) v2 v3 (w64 (v4 + 1)) k0_0)
         ((f_impl_Before (List.getD v2 (Int.toNat v4) (Kd.dflt .task)) v1).bind fun r5 =>
          cond r5.1
           (l_impl_first_0 n m0 (List.getD v2 (Int.toNat v4) (Kd.dflt .task)) v2 v3 (w64 (v4 + 1)) k0_0)
           (l_impl_first_0 n m0 v1 v2 v3 (w64 (v4 + 1)) k0_0)))
       (none))
     (k0_0 v1)
def f_impl_first (n : Nat) (a0 : List Task) : Option (Int × Unit) :=
  l_impl_first_0 n n (⟨0, 0, 0, 0, false, 0, 0, 0, 0, 0, 0, 0, 0, 0⟩ : Task) a0 ((a0).length : Int) 0
   (fun w6 =>
    some (w6.No, ()))
def r_impl_first (n : Nat) : Rw := ⟨92, (.pair (.v (.ro .task)) .one), (.pair .int .one), fun x => f_impl_first n x.1.2⟩
def s_impl_first_0 (n : Nat) : LS where
  la := ⟨3, [3, 7, 8, 9], [], [1], [3], [0, 1]⟩
  nt := 25
  kt := [3, 7, 8, 9]
  hs := [.k, .fresh]
  X := Int × Int × Int × Int × Bool × Int × Int × Int × Int × Int × Int × Int × Int × Int × Bool × List Task × Int × Int
  abs := fun vs es => match vs, es with | [.ptr 0 0, .ro y14 .task y15, .int y16, .int y17], [.box [.int y0, .int y1, .int y2, .int y3, .bool y4, .int y5, .int y6, .int y7, .int y8, .int y9, .int y10, .int y11, .int y12, .int y13]] => some (y0, y1, y2, y3, y4, y5, y6, y7, y8, y9, y10, y11, y12, y13, y14, y15, y16, y17) | _, _ => none
  tms := fun x => [.ptr 0 0, .ro x.2.2.2.2.2.2.2.2.2.2.2.2.2.2.1 .task x.2.2.2.2.2.2.2.2.2.2.2.2.2.2.2.1, .int x.2.2.2.2.2.2.2.2.2.2.2.2.2.2.2.2.1, .int x.2.2.2.2.2.2.2.2.2.2.2.2.2.2.2.2.2]
  ets := fun x => [.box [.int x.1, .int x.2.1, .int x.2.2.1, .int x.2.2.2.1, .bool x.2.2.2.2.1, .int x.2.2.2.2.2.1, .int x.2.2.2.2.2.2.1, .int x.2.2.2.2.2.2.2.1, .int x.2.2.2.2.2.2.2.2.1, .int x.2.2.2.2.2.2.2.2.2.1, .int x.2.2.2.2.2.2.2.2.2.2.1, .int x.2.2.2.2.2.2.2.2.2.2.2.1, .int x.2.2.2.2.2.2.2.2.2.2.2.2.1, .int x.2.2.2.2.2.2.2.2.2.2.2.2.2.1]]
  run := fun m x k => l_impl_first_0 n m (⟨x.1, x.2.1, x.2.2.1, x.2.2.2.1, x.2.2.2.2.1, x.2.2.2.2.2.1, x.2.2.2.2.2.2.1, x.2.2.2.2.2.2.2.1, x.2.2.2.2.2.2.2.2.1, x.2.2.2.2.2.2.2.2.2.1, x.2.2.2.2.2.2.2.2.2.2.1, x.2.2.2.2.2.2.2.2.2.2.2.1, x.2.2.2.2.2.2.2.2.2.2.2.2.1, x.2.2.2.2.2.2.2.2.2.2.2.2.2.1⟩ : Task) x.2.2.2.2.2.2.2.2.2.2.2.2.2.2.2.1 x.2.2.2.2.2.2.2.2.2.2.2.2.2.2.2.2.1 x.2.2.2.2.2.2.2.2.2.2.2.2.2.2.2.2.2 (fun w0 => k (.exit 0) ⟨layT [3] [.ptr 0 0] 0 25, layH [.k, .fresh] [.box [.int w0.No, .int w0.Class, .int w0.Cpu, .int w0.State, .bool w0.Idle, .int w0.Q, .int w0.P, .int w0.Left, .int w0.Due, .int w0.Prio, .int w0.Round, .int w0.Seq, .int w0.Nice, .int w0.V]]⟩)
noncomputable def c_impl_first_0 : Code := (Go.Proofs.Try.f92.body.bind (subLoop 3)).getD .skip
theorem s_impl_first_0_ok (n : Nat) : LSok Tb tyK (orc [r_impl_Before]) n a_impl_first.ann [s_impl_first_0 n] c_impl_first_0 (s_impl_first_0 n) :=
  ⟨by intro vs es x h; dsimp only [s_impl_first_0] at h; split at h; (· injection h with h; subst h; exact ⟨rfl, rfl⟩); (· cases h), fun _ _ => rfl, fun m x k => by kernel_rfl⟩
theorem r_impl_first_ok (n : Nat) : RwOk Go.Proofs.Try.prog tyK (r_impl_first n) :=
  ent_ok (fa := a_impl_first) (ls := [s_impl_first_0 n]) (cs := [c_impl_first_0]) (n := n) (es := [r_impl_Before]) mixedOk tbOk (ents_cons (r_impl_Before_ok) ents_nil) Go.Proofs.Try.func92 (by kernel_rfl) (by kernel_rfl) (by kernel_rfl) (LSsOk.cons _ _ (l := s_impl_first_0 n) (by kernel_rfl) (s_impl_first_0_ok n) (LSsOk.nil _ _)) (fun x => by kernel_rfl)
/-! loop.example/g00185/impl.Pick -/
noncomputable def a_impl_Pick : FnA := ⟨Go.Proofs.Try.f51, ⟨[(1, [(3, .call [.ro, .ro, .ro] (.own .task) [] [none]), (4, .call [.ro] .int [] [])]), (4, [(4, .call [.ro, .ro, .ro] .int [] [])])], [], []⟩, 0⟩
def f_impl_Pick (n : Nat) (a0 : List Task) (a1 : List Lock) (a2 : Int) : Option ((Int × Int × Unit) × Unit) :=
  (f_impl_turners n a0 a1 a2).bind fun r1 =>
  (f_impl_first n r1.1).bind fun r2 =>
  cond (decide (r2.1 = 0))
   (some ((0, 0, ()), ()))
   ((f_impl_Executor n a0 a1 r2.1).bind fun r3 =>
    some ((r2.1, r3.1, ()), ()))
def r_impl_Pick (n : Nat) : Rw := ⟨51, (.pair (.v (.ro .task)) (.pair (.v (.ro .lock)) (.pair (.v (.int)) .one))), (.pair (.tup (.pair .int (.pair .int .one))) .one), fun x => f_impl_Pick n x.1.2 x.2.1.2 x.2.2.1⟩
theorem r_impl_Pick_ok (n : Nat) : RwOk Go.Proofs.Try.prog tyK (r_impl_Pick n) :=
  ent_ok (fa := a_impl_Pick) (ls := []) (cs := []) (n := n) (es := [(r_impl_turners n), (r_impl_first n), (r_impl_Executor n)]) mixedOk tbOk (ents_cons (r_impl_turners_ok n) (ents_cons (r_impl_first_ok n) (ents_cons (r_impl_Executor_ok n) ents_nil))) Go.Proofs.Try.func51 (by kernel_rfl) (by kernel_rfl) (by kernel_rfl) (LSsOk.nil _ _) (fun x => by kernel_rfl)
/-! loop.example/g00185/laws.FnExactPick -/
noncomputable def a_laws_FnExactPick : FnA := ⟨Go.Proofs.Try.f12, ⟨[(2, [(2, .call [.ro, .ro] .int [] [])]), (5, [(2, .call [.ro, .ro] .int [] [])]), (8, [(1, .call [.ro] (.own .task) [] [none]), (3, .call [.ro] (.own .lock) [] [none]), (5, .call [.ro, .ro, .ro] (.tup (.pair .int (.pair .int .one))) [] [])]), (9, [(1, .call [.ro] (.own .task) [] [none])]), (10, [(1, .call [.ro] (.own .lock) [] [none])]), (11, [(3, .call [.ro, .ro, .ro] (.tup (.pair .int (.pair .int .one))) [] [])]), (14, [(2, .call [.ro] (.own .task) [] [none]), (3, .call [.ro, .ro] .bool [] [])]), (16, [(2, .call [.ro] (.own .lock) [] [none]), (3, .call [.ro, .ro] .bool [] [])])], [], []⟩, 0⟩
def f_laws_FnExactPick (n : Nat) (a0 : List Task) (a1 : List Lock) (a2 : Int) : Option (Bool × Unit) :=
  (f_laws_szTaskS a0 1048576).bind fun r1 =>
  cond (decide (r1.1 < 0))
   (some (true, ()))
   ((f_laws_szLockS n a1 r1.1).bind fun r2 =>
    cond (decide (r2.1 < 0))
     (some (true, ()))
     ((f_laws_toTaskS n a0).bind fun r3 =>
      (f_laws_toLockS n a1).bind fun r4 =>
      (f_spec_Pick n r3.1 r4.1 a2).bind fun r5 =>
      (f_laws_toTaskS n a0).bind fun r6 =>
      (f_laws_toLockS n a1).bind fun r7 =>
      (f_impl_Pick n r6.1 r7.1 a2).bind fun r8 =>
      cond (!(decide (r8.1.1 = r5.1.1)))
       (some (false, ()))
       (cond (!(decide (r8.1.2.1 = r5.1.2.1)))
         (some (false, ()))
         ((f_laws_toTaskS n a0).bind fun r9 =>
          (f_laws_eqTaskS n r6.1 r9.1).bind fun r10 =>
          cond (!r10.1)
           (some (false, ()))
           ((f_laws_toLockS n a1).bind fun r11 =>
            (f_laws_eqLockS n r7.1 r11.1).bind fun r12 =>
            cond (!r12.1)
             (some (false, ()))
             (some (true, ())))))))
def r_laws_FnExactPick (n : Nat) : Rw := ⟨12, (.pair (.v (.ro .task)) (.pair (.v (.ro .lock)) (.pair (.v (.int)) .one))), (.pair .bool .one), fun x => f_laws_FnExactPick n x.1.2 x.2.1.2 x.2.2.1⟩
theorem r_laws_FnExactPick_ok (n : Nat) : RwOk Go.Proofs.Try.prog tyK (r_laws_FnExactPick n) :=
  ent_ok (fa := a_laws_FnExactPick) (ls := []) (cs := []) (n := n) (es := [r_laws_szTaskS, (r_laws_szLockS n), (r_laws_toTaskS n), (r_laws_toLockS n), (r_spec_Pick n), (r_impl_Pick n), (r_laws_eqTaskS n), (r_laws_eqLockS n)]) mixedOk tbOk (ents_cons (r_laws_szTaskS_ok) (ents_cons (r_laws_szLockS_ok n) (ents_cons (r_laws_toTaskS_ok n) (ents_cons (r_laws_toLockS_ok n) (ents_cons (r_spec_Pick_ok n) (ents_cons (r_impl_Pick_ok n) (ents_cons (r_laws_eqTaskS_ok n) (ents_cons (r_laws_eqLockS_ok n) ents_nil)))))))) Go.Proofs.Try.func12 (by kernel_rfl) (by kernel_rfl) (by kernel_rfl) (LSsOk.nil _ _) (fun x => by kernel_rfl)
/-! loop.example/g00185/spec.l9Locks -/
noncomputable def a_spec_l9Locks : FnA := ⟨Go.Proofs.Try.f97, ⟨[(0, [(0, .slot 0 .int)]), (1, [(7, .call [.ro] .bool [] [])]), (6, [(5, .slot 1 .int)]), (8, [(4, .call [.ro, .ro] .int [] [])]), (14, [(7, .call [.ro, .ro] .int [] [])])], [(14, [([0], []), ([0], []), ([1], []), ([1], []), ([], []), ([], []), ([], []), ([], []), ([], [])]), (15, [([], []), ([], []), ([], []), ([0], []), ([0], []), ([], []), ([], []), ([], []), ([], []), ([0], []), ([0], []), ([], []), ([], []), ([], []), ([], []), ([], []), ([], [])])], []⟩, 2⟩
def l_spec_l9Locks_1 {α : Type} (n : Nat) : Nat → Sys → Int → Lock → Int → Int → (Option α) → (Option α) → Option α
  | 0, _, _, _, _, _, _, _ => none
  | m1 + 1, v6, v7, v8, v9, v10, k1_0, k1_1 =>
    cond (decide (v10 < ((v8.Waits).length : Int)))
     (cond ((decide (0 ≤ v10)) && (decide (v10 < ((v8.Waits).length : Int))))
       ((f_spec_TaskAt n v6.Tasks (List.getD v8.Waits (Int.toNat v10) (Kd.dflt .int))).bind fun r11 =>
        cond (decide (r11.1 < 0))
         (k1_0)
         (cond ((decide (0 ≤ r11.1)) && (decide (r11.1 < ((v6.Tasks).length : Int))))
           (cond ((decide (0 ≤ v9)) && (decide (v9 < ((v6.Tasks).length : Int))))
             (let e12 := (!(decide ((List.getD v6.Tasks (Int.toNat r11.1) (Kd.dflt .task)).Cpu = (List.getD v6.Tasks (Int.toNat v9) (Kd.dflt .task)).Cpu)))
              cond e12
               (k1_0)
               (l_spec_l9Locks_1 n m1 v6 v7 v8 v9 (w64 (v10 + 1)) k1_0 k1_1))
             (none))
           (none)))
       (none))
     (k1_1)
def l_spec_l9Locks_0 {α : Type} (n : Nat) : Nat → Sys → Int → (Option α) → (Option α) → Option α
  | 0, _, _, _, _ => none
  | m0 + 1, v2, v3, k0_0, k0_1 =>
    cond (decide (v3 < ((v2.Locks).length : Int)))
     (cond ((decide (0 ≤ v3)) && (decide (v3 < ((v2.Locks).length : Int))))
       (let e4 := (decide ((List.getD v2.Locks (Int.toNat v3) (Kd.dflt .lock)).Owner = 0))
        cond e4
         (l_spec_l9Locks_0 n m0 v2 (w64 (v3 + 1)) k0_0 k0_1)
         ((f_spec_TaskAt n v2.Tasks ((List.getD v2.Locks (Int.toNat v3) (Kd.dflt .lock)).Owner)).bind fun r5 =>
          cond (decide (r5.1 < 0))
           (k0_0)
           (l_spec_l9Locks_1 n n v2 v3 (List.getD v2.Locks (Int.toNat v3) (Kd.dflt .lock)) r5.1 0
             (k0_0)
             (l_spec_l9Locks_0 n m0 v2 (w64 (v3 + 1)) k0_0 k0_1))))
       (none))
     (k0_1)
def f_spec_l9Locks (n : Nat) (a0 : Sys) : Option (Bool × Unit) :=
  cond (!(decide (((a0.Locks).length : Int) = 5)))
   (some (false, ()))
   ((f_spec_LocksOk n a0.Locks).bind fun r1 =>
    cond (!r1.1)
     (some (false, ()))
     (l_spec_l9Locks_0 n n a0 0
       (some (false, ()))
       (some (true, ()))))
def r_spec_l9Locks (n : Nat) : Rw := ⟨97, (.pair (.v (.agg (.pair .int (.pair .int (.pair (.ro .task) (.pair (.ro .lock) (.pair (.ro .ghost) (.pair (.ro .int) (.pair .int (.pair .int (.pair (.ro .turn) .one))))))))))) .one), (.pair .bool .one), fun x => f_spec_l9Locks n (⟨x.1.1, x.1.2.1, x.1.2.2.1.2, x.1.2.2.2.1.2, x.1.2.2.2.2.1.2, x.1.2.2.2.2.2.1.2, x.1.2.2.2.2.2.2.1, x.1.2.2.2.2.2.2.2.1, x.1.2.2.2.2.2.2.2.2.1.2⟩ : Sys)⟩
def s_spec_l9Locks_0 (n : Nat) : LS where
  la := ⟨4, [1, 3], [], [1], [2], []⟩
  nt := 72
  kt := [1, 3]
  hs := [.k, .fresh]
  X := Int × Int × Bool × List Task × Bool × List Lock × Bool × List Ghost × Bool × List Int × Int × Int × Bool × List Turn × Int
  abs := fun vs es => match vs, es with | [.ptr 0 0, .int y14], [.box [.int y0, .int y1, .ro y2 .task y3, .ro y4 .lock y5, .ro y6 .ghost y7, .ro y8 .int y9, .int y10, .int y11, .ro y12 .turn y13]] => some (y0, y1, y2, y3, y4, y5, y6, y7, y8, y9, y10, y11, y12, y13, y14) | _, _ => none
  tms := fun x => [.ptr 0 0, .int x.2.2.2.2.2.2.2.2.2.2.2.2.2.2]
  ets := fun x => [.box [.int x.1, .int x.2.1, .ro x.2.2.1 .task x.2.2.2.1, .ro x.2.2.2.2.1 .lock x.2.2.2.2.2.1, .ro x.2.2.2.2.2.2.1 .ghost x.2.2.2.2.2.2.2.1, .ro x.2.2.2.2.2.2.2.2.1 .int x.2.2.2.2.2.2.2.2.2.1, .int x.2.2.2.2.2.2.2.2.2.2.1, .int x.2.2.2.2.2.2.2.2.2.2.2.1, .ro x.2.2.2.2.2.2.2.2.2.2.2.2.1 .turn x.2.2.2.2.2.2.2.2.2.2.2.2.2.1]]
  run := fun m x k => l_spec_l9Locks_0 n m (⟨x.1, x.2.1, x.2.2.2.1, x.2.2.2.2.2.1, x.2.2.2.2.2.2.2.1, x.2.2.2.2.2.2.2.2.2.1, x.2.2.2.2.2.2.2.2.2.2.1, x.2.2.2.2.2.2.2.2.2.2.2.1, x.2.2.2.2.2.2.2.2.2.2.2.2.2.1⟩ : Sys) x.2.2.2.2.2.2.2.2.2.2.2.2.2.2 (k .ret ⟨layT [2] [.bool false] 0 72, layH [.dead, .dead] []⟩) (k (.exit 0) ⟨layT [] [] 0 72, layH [.dead, .dead] []⟩)
def s_spec_l9Locks_1 (n : Nat) : LS where
  la := ⟨12, [1, 3, 4, 5, 6], [], [], [1, 2, 3], [0]⟩
  nt := 72
  kt := [1, 3, 4, 5, 6]
  hs := [.k, .k]
  X := Int × Int × Bool × List Task × Bool × List Lock × Bool × List Ghost × Bool × List Int × Int × Int × Bool × List Turn × Int × Int × Bool × List Int × Int × Int
  abs := fun vs es => match vs, es with | [.ptr 0 0, .int y14, .ptr 1 0, .int y18, .int y19], [.box [.int y0, .int y1, .ro y2 .task y3, .ro y4 .lock y5, .ro y6 .ghost y7, .ro y8 .int y9, .int y10, .int y11, .ro y12 .turn y13], .box [.int y15, .ro y16 .int y17]] => some (y0, y1, y2, y3, y4, y5, y6, y7, y8, y9, y10, y11, y12, y13, y14, y15, y16, y17, y18, y19) | _, _ => none
  tms := fun x => [.ptr 0 0, .int x.2.2.2.2.2.2.2.2.2.2.2.2.2.2.1, .ptr 1 0, .int x.2.2.2.2.2.2.2.2.2.2.2.2.2.2.2.2.2.2.1, .int x.2.2.2.2.2.2.2.2.2.2.2.2.2.2.2.2.2.2.2]
  ets := fun x => [.box [.int x.1, .int x.2.1, .ro x.2.2.1 .task x.2.2.2.1, .ro x.2.2.2.2.1 .lock x.2.2.2.2.2.1, .ro x.2.2.2.2.2.2.1 .ghost x.2.2.2.2.2.2.2.1, .ro x.2.2.2.2.2.2.2.2.1 .int x.2.2.2.2.2.2.2.2.2.1, .int x.2.2.2.2.2.2.2.2.2.2.1, .int x.2.2.2.2.2.2.2.2.2.2.2.1, .ro x.2.2.2.2.2.2.2.2.2.2.2.2.1 .turn x.2.2.2.2.2.2.2.2.2.2.2.2.2.1], .box [.int x.2.2.2.2.2.2.2.2.2.2.2.2.2.2.2.1, .ro x.2.2.2.2.2.2.2.2.2.2.2.2.2.2.2.2.1 .int x.2.2.2.2.2.2.2.2.2.2.2.2.2.2.2.2.2.1]]
  run := fun m x k => l_spec_l9Locks_1 n m (⟨x.1, x.2.1, x.2.2.2.1, x.2.2.2.2.2.1, x.2.2.2.2.2.2.2.1, x.2.2.2.2.2.2.2.2.2.1, x.2.2.2.2.2.2.2.2.2.2.1, x.2.2.2.2.2.2.2.2.2.2.2.1, x.2.2.2.2.2.2.2.2.2.2.2.2.2.1⟩ : Sys) x.2.2.2.2.2.2.2.2.2.2.2.2.2.2.1 (⟨x.2.2.2.2.2.2.2.2.2.2.2.2.2.2.2.1, x.2.2.2.2.2.2.2.2.2.2.2.2.2.2.2.2.2.1⟩ : Lock) x.2.2.2.2.2.2.2.2.2.2.2.2.2.2.2.2.2.2.1 x.2.2.2.2.2.2.2.2.2.2.2.2.2.2.2.2.2.2.2 (k .ret ⟨layT [1, 2, 3] [.ptr 0 0, .bool false, .int x.2.2.2.2.2.2.2.2.2.2.2.2.2.2.1] 0 72, layH [.k, .dead] [.box [.int (⟨x.1, x.2.1, x.2.2.2.1, x.2.2.2.2.2.1, x.2.2.2.2.2.2.2.1, x.2.2.2.2.2.2.2.2.2.1, x.2.2.2.2.2.2.2.2.2.2.1, x.2.2.2.2.2.2.2.2.2.2.2.1, x.2.2.2.2.2.2.2.2.2.2.2.2.2.1⟩ : Sys).Now, .int (⟨x.1, x.2.1, x.2.2.2.1, x.2.2.2.2.2.1, x.2.2.2.2.2.2.2.1, x.2.2.2.2.2.2.2.2.2.1, x.2.2.2.2.2.2.2.2.2.2.1, x.2.2.2.2.2.2.2.2.2.2.2.1, x.2.2.2.2.2.2.2.2.2.2.2.2.2.1⟩ : Sys).Cpus, .ro x.2.2.1 .task (⟨x.1, x.2.1, x.2.2.2.1, x.2.2.2.2.2.1, x.2.2.2.2.2.2.2.1, x.2.2.2.2.2.2.2.2.2.1, x.2.2.2.2.2.2.2.2.2.2.1, x.2.2.2.2.2.2.2.2.2.2.2.1, x.2.2.2.2.2.2.2.2.2.2.2.2.2.1⟩ : Sys).Tasks, .ro x.2.2.2.2.1 .lock (⟨x.1, x.2.1, x.2.2.2.1, x.2.2.2.2.2.1, x.2.2.2.2.2.2.2.1, x.2.2.2.2.2.2.2.2.2.1, x.2.2.2.2.2.2.2.2.2.2.1, x.2.2.2.2.2.2.2.2.2.2.2.1, x.2.2.2.2.2.2.2.2.2.2.2.2.2.1⟩ : Sys).Locks, .ro x.2.2.2.2.2.2.1 .ghost (⟨x.1, x.2.1, x.2.2.2.1, x.2.2.2.2.2.1, x.2.2.2.2.2.2.2.1, x.2.2.2.2.2.2.2.2.2.1, x.2.2.2.2.2.2.2.2.2.2.1, x.2.2.2.2.2.2.2.2.2.2.2.1, x.2.2.2.2.2.2.2.2.2.2.2.2.2.1⟩ : Sys).Ghosts, .ro x.2.2.2.2.2.2.2.2.1 .int (⟨x.1, x.2.1, x.2.2.2.1, x.2.2.2.2.2.1, x.2.2.2.2.2.2.2.1, x.2.2.2.2.2.2.2.2.2.1, x.2.2.2.2.2.2.2.2.2.2.1, x.2.2.2.2.2.2.2.2.2.2.2.1, x.2.2.2.2.2.2.2.2.2.2.2.2.2.1⟩ : Sys).Floors, .int (⟨x.1, x.2.1, x.2.2.2.1, x.2.2.2.2.2.1, x.2.2.2.2.2.2.2.1, x.2.2.2.2.2.2.2.2.2.1, x.2.2.2.2.2.2.2.2.2.2.1, x.2.2.2.2.2.2.2.2.2.2.2.1, x.2.2.2.2.2.2.2.2.2.2.2.2.2.1⟩ : Sys).Seq, .int (⟨x.1, x.2.1, x.2.2.2.1, x.2.2.2.2.2.1, x.2.2.2.2.2.2.2.1, x.2.2.2.2.2.2.2.2.2.1, x.2.2.2.2.2.2.2.2.2.2.1, x.2.2.2.2.2.2.2.2.2.2.2.1, x.2.2.2.2.2.2.2.2.2.2.2.2.2.1⟩ : Sys).Missed, .ro x.2.2.2.2.2.2.2.2.2.2.2.2.1 .turn (⟨x.1, x.2.1, x.2.2.2.1, x.2.2.2.2.2.1, x.2.2.2.2.2.2.2.1, x.2.2.2.2.2.2.2.2.2.1, x.2.2.2.2.2.2.2.2.2.2.1, x.2.2.2.2.2.2.2.2.2.2.2.1, x.2.2.2.2.2.2.2.2.2.2.2.2.2.1⟩ : Sys).Trace]]⟩) (k (.exit 2) ⟨layT [1, 3] [.ptr 0 0, .int x.2.2.2.2.2.2.2.2.2.2.2.2.2.2.1] 0 72, layH [.k, .dead] [.box [.int (⟨x.1, x.2.1, x.2.2.2.1, x.2.2.2.2.2.1, x.2.2.2.2.2.2.2.1, x.2.2.2.2.2.2.2.2.2.1, x.2.2.2.2.2.2.2.2.2.2.1, x.2.2.2.2.2.2.2.2.2.2.2.1, x.2.2.2.2.2.2.2.2.2.2.2.2.2.1⟩ : Sys).Now, .int (⟨x.1, x.2.1, x.2.2.2.1, x.2.2.2.2.2.1, x.2.2.2.2.2.2.2.1, x.2.2.2.2.2.2.2.2.2.1, x.2.2.2.2.2.2.2.2.2.2.1, x.2.2.2.2.2.2.2.2.2.2.2.1, x.2.2.2.2.2.2.2.2.2.2.2.2.2.1⟩ : Sys).Cpus, .ro x.2.2.1 .task (⟨x.1, x.2.1, x.2.2.2.1, x.2.2.2.2.2.1, x.2.2.2.2.2.2.2.1, x.2.2.2.2.2.2.2.2.2.1, x.2.2.2.2.2.2.2.2.2.2.1, x.2.2.2.2.2.2.2.2.2.2.2.1, x.2.2.2.2.2.2.2.2.2.2.2.2.2.1⟩ : Sys).Tasks, .ro x.2.2.2.2.1 .lock (⟨x.1, x.2.1, x.2.2.2.1, x.2.2.2.2.2.1, x.2.2.2.2.2.2.2.1, x.2.2.2.2.2.2.2.2.2.1, x.2.2.2.2.2.2.2.2.2.2.1, x.2.2.2.2.2.2.2.2.2.2.2.1, x.2.2.2.2.2.2.2.2.2.2.2.2.2.1⟩ : Sys).Locks, .ro x.2.2.2.2.2.2.1 .ghost (⟨x.1, x.2.1, x.2.2.2.1, x.2.2.2.2.2.1, x.2.2.2.2.2.2.2.1, x.2.2.2.2.2.2.2.2.2.1, x.2.2.2.2.2.2.2.2.2.2.1, x.2.2.2.2.2.2.2.2.2.2.2.1, x.2.2.2.2.2.2.2.2.2.2.2.2.2.1⟩ : Sys).Ghosts, .ro x.2.2.2.2.2.2.2.2.1 .int (⟨x.1, x.2.1, x.2.2.2.1, x.2.2.2.2.2.1, x.2.2.2.2.2.2.2.1, x.2.2.2.2.2.2.2.2.2.1, x.2.2.2.2.2.2.2.2.2.2.1, x.2.2.2.2.2.2.2.2.2.2.2.1, x.2.2.2.2.2.2.2.2.2.2.2.2.2.1⟩ : Sys).Floors, .int (⟨x.1, x.2.1, x.2.2.2.1, x.2.2.2.2.2.1, x.2.2.2.2.2.2.2.1, x.2.2.2.2.2.2.2.2.2.1, x.2.2.2.2.2.2.2.2.2.2.1, x.2.2.2.2.2.2.2.2.2.2.2.1, x.2.2.2.2.2.2.2.2.2.2.2.2.2.1⟩ : Sys).Seq, .int (⟨x.1, x.2.1, x.2.2.2.1, x.2.2.2.2.2.1, x.2.2.2.2.2.2.2.1, x.2.2.2.2.2.2.2.2.2.1, x.2.2.2.2.2.2.2.2.2.2.1, x.2.2.2.2.2.2.2.2.2.2.2.1, x.2.2.2.2.2.2.2.2.2.2.2.2.2.1⟩ : Sys).Missed, .ro x.2.2.2.2.2.2.2.2.2.2.2.2.1 .turn (⟨x.1, x.2.1, x.2.2.2.1, x.2.2.2.2.2.1, x.2.2.2.2.2.2.2.1, x.2.2.2.2.2.2.2.2.2.1, x.2.2.2.2.2.2.2.2.2.2.1, x.2.2.2.2.2.2.2.2.2.2.2.1, x.2.2.2.2.2.2.2.2.2.2.2.2.2.1⟩ : Sys).Trace]]⟩)
noncomputable def c_spec_l9Locks_0 : Code := (Go.Proofs.Try.f97.body.bind (subLoop 4)).getD .skip
noncomputable def c_spec_l9Locks_1 : Code := (Go.Proofs.Try.f97.body.bind (subLoop 12)).getD .skip
theorem s_spec_l9Locks_0_ok (n : Nat) : LSok Tb tyK (orc [(r_spec_LocksOk n), (r_spec_TaskAt n)]) n a_spec_l9Locks.ann [s_spec_l9Locks_0 n, s_spec_l9Locks_1 n] c_spec_l9Locks_0 (s_spec_l9Locks_0 n) :=
  ⟨by intro vs es x h; dsimp only [s_spec_l9Locks_0] at h; split at h; (· injection h with h; subst h; exact ⟨rfl, rfl⟩); (· cases h), fun _ _ => rfl, fun m x k => by kernel_rfl⟩
theorem s_spec_l9Locks_1_ok (n : Nat) : LSok Tb tyK (orc [(r_spec_LocksOk n), (r_spec_TaskAt n)]) n a_spec_l9Locks.ann [s_spec_l9Locks_0 n, s_spec_l9Locks_1 n] c_spec_l9Locks_1 (s_spec_l9Locks_1 n) :=
  ⟨by intro vs es x h; dsimp only [s_spec_l9Locks_1] at h; split at h; (· injection h with h; subst h; exact ⟨rfl, rfl⟩); (· cases h), fun _ _ => rfl, fun m x k => by kernel_rfl⟩
theorem r_spec_l9Locks_ok (n : Nat) : RwOk Go.Proofs.Try.prog tyK (r_spec_l9Locks n) :=
  ent_ok (fa := a_spec_l9Locks) (ls := [s_spec_l9Locks_0 n, s_spec_l9Locks_1 n]) (cs := [c_spec_l9Locks_0, c_spec_l9Locks_1]) (n := n) (es := [(r_spec_LocksOk n), (r_spec_TaskAt n)]) mixedOk tbOk (ents_cons (r_spec_LocksOk_ok n) (ents_cons (r_spec_TaskAt_ok n) ents_nil)) Go.Proofs.Try.func97 (by kernel_rfl) (by kernel_rfl) (by kernel_rfl) (LSsOk.cons _ _ (l := s_spec_l9Locks_0 n) (by kernel_rfl) (s_spec_l9Locks_0_ok n) (LSsOk.cons _ _ (l := s_spec_l9Locks_1 n) (by kernel_rfl) (s_spec_l9Locks_1_ok n) (LSsOk.nil _ _))) (fun x => by kernel_rfl)
end Go.Proofs.Ytoedeimpfbebpaa.VR
