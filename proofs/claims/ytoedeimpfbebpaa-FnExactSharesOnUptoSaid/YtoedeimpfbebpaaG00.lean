/- Functions, printed by program (wip/gen/emit.py). -/
import Derived.Test.YtoedeimpfbebpaaTa
set_option linter.unusedVariables false
set_option maxRecDepth 100000
namespace Go.Proofs.Ytoedeimpfbebpaa.VR
open Go
/-! loop.example/g00185/laws.toCall -/
noncomputable def a_laws_toCall : FnA := ⟨Go.Proofs.Try.f15, ⟨[(0, [(0, .slot 0 .int), (1, .slot 1 .int)]), (1, [(0, .slot 2 .int)])], [], []⟩, 3⟩
def f_laws_toCall (a0 : Call) : Option (CallT × Unit) :=
  some ((upCall a0), ())
def r_laws_toCall : Rw := ⟨15, (.pair (.v (.agg (.pair .int (.pair .int (.pair .int (.pair .int (.pair .int .one))))))) .one), (.pair (.agg (.pair .int (.pair .int (.pair .int (.pair .int (.pair .int .one)))))) .one), fun x => f_laws_toCall (⟨x.1.1, x.1.2.1, x.1.2.2.1, x.1.2.2.2.1, x.1.2.2.2.2.1⟩ : Call)⟩
theorem r_laws_toCall_ok : RwOk Go.Proofs.Try.prog tyK (r_laws_toCall) :=
  ent_ok (fa := a_laws_toCall) (ls := []) (cs := []) (n := 0) (es := []) mixedOk tbOk ents_nil Go.Proofs.Try.func15 (by kernel_rfl) (by kernel_rfl) (by kernel_rfl) (LSsOk.nil _ _) (fun x => by kernel_rfl)
/-! loop.example/g00185/spec.l1In -/
noncomputable def a_spec_l1In : FnA := ⟨Go.Proofs.Try.f56, ⟨[], [], []⟩, 0⟩
def f_spec_l1In (a0 : Int) (a1 : Int) (a2 : Int) : Option (Bool × Unit) :=
  cond (decide (a1 ≤ a0))
   (some ((decide (a0 ≤ a2)), ()))
   (some (false, ()))
def r_spec_l1In : Rw := ⟨56, (.pair (.v (.int)) (.pair (.v (.int)) (.pair (.v (.int)) .one))), (.pair .bool .one), fun x => f_spec_l1In x.1 x.2.1 x.2.2.1⟩
theorem r_spec_l1In_ok : RwOk Go.Proofs.Try.prog tyK (r_spec_l1In) :=
  ent_ok (fa := a_spec_l1In) (ls := []) (cs := []) (n := 0) (es := []) mixedOk tbOk ents_nil Go.Proofs.Try.func56 (by kernel_rfl) (by kernel_rfl) (by kernel_rfl) (LSsOk.nil _ _) (fun x => by kernel_rfl)
/-! loop.example/g00185/spec.l11Clean -/
noncomputable def a_spec_l11Clean : FnA := ⟨Go.Proofs.Try.f57, ⟨[(0, [(0, .slot 0 .int), (1, .slot 1 .int)])], [], []⟩, 2⟩
def f_spec_l11Clean (a0 : Call) : Option (CallT × Unit) :=
  cond (decide (a0.Kind = 1))
   (some ((upCall a0), ()))
   (cond (decide (a0.Kind = 2))
     (some ((upCall a0), ()))
     (cond (decide (a0.Kind = 3))
       (some ((upCall (⟨a0.Kind, a0.No, a0.Cpu, a0.A, 0⟩ : Call)), ()))
       (cond (decide (a0.Kind = 4))
         (some ((upCall (⟨a0.Kind, a0.No, 0, 0, 0⟩ : Call)), ()))
         (cond (decide (a0.Kind = 5))
           (some ((upCall (⟨a0.Kind, a0.No, 0, 0, 0⟩ : Call)), ()))
           (cond (decide (a0.Kind = 6))
             (some ((upCall (⟨a0.Kind, a0.No, 0, 0, 0⟩ : Call)), ()))
             (cond (decide (a0.Kind = 7))
               (some ((upCall (⟨a0.Kind, a0.No, 0, a0.A, 0⟩ : Call)), ()))
               (cond (decide (a0.Kind = 8))
                 (some ((upCall (⟨a0.Kind, a0.No, 0, a0.A, 0⟩ : Call)), ()))
                 (cond (decide (a0.Kind = 9))
                   (some ((upCall (⟨a0.Kind, a0.No, 0, a0.A, 0⟩ : Call)), ()))
                   (cond (decide (a0.Kind = 10))
                     (some ((upCall (⟨a0.Kind, a0.No, a0.Cpu, 0, 0⟩ : Call)), ()))
                     (cond (decide (a0.Kind = 11))
                       (some ((upCall (⟨a0.Kind, 0, 0, a0.A, 0⟩ : Call)), ()))
                       (some ((upCall a0), ()))))))))))))
def r_spec_l11Clean : Rw := ⟨57, (.pair (.v (.agg (.pair .int (.pair .int (.pair .int (.pair .int (.pair .int .one))))))) .one), (.pair (.agg (.pair .int (.pair .int (.pair .int (.pair .int (.pair .int .one)))))) .one), fun x => f_spec_l11Clean (⟨x.1.1, x.1.2.1, x.1.2.2.1, x.1.2.2.2.1, x.1.2.2.2.2.1⟩ : Call)⟩
theorem r_spec_l11Clean_ok : RwOk Go.Proofs.Try.prog tyK (r_spec_l11Clean) :=
  ent_ok (fa := a_spec_l11Clean) (ls := []) (cs := []) (n := 0) (es := []) mixedOk tbOk ents_nil Go.Proofs.Try.func57 (by kernel_rfl) (by kernel_rfl) (by kernel_rfl) (LSsOk.nil _ _) (fun x => by kernel_rfl)
/-! loop.example/g00185/spec.CallOk -/
noncomputable def a_spec_CallOk : FnA := ⟨Go.Proofs.Try.f14, ⟨[(0, [(0, .slot 0 .int)]), (1, [(2, .call [.ro, .ro, .ro] .bool [] []), (6, .call [.ro] (.agg (.pair .int (.pair .int (.pair .int (.pair .int (.pair .int .one)))))) [] [])])], [(1, [([0], []), ([0], []), ([], []), ([], []), ([0], []), ([0], []), ([], []), ([], []), ([], []), ([], [])])], []⟩, 1⟩
def f_spec_CallOk (a0 : Call) : Option (Bool × Unit) :=
  (f_spec_l1In a0.Kind 1 11).bind fun r1 =>
  cond r1.1
   ((f_spec_l11Clean a0).bind fun r2 =>
    let e3 := ((decide (a0.Kind = (dnCall r2.1).Kind)) && ((decide (a0.No = (dnCall r2.1).No)) && ((decide (a0.Cpu = (dnCall r2.1).Cpu)) && ((decide (a0.A = (dnCall r2.1).A)) && ((decide (a0.B = (dnCall r2.1).B)) && true)))))
    some (e3, ()))
   (some (false, ()))
def r_spec_CallOk : Rw := ⟨14, (.pair (.v (.agg (.pair .int (.pair .int (.pair .int (.pair .int (.pair .int .one))))))) .one), (.pair .bool .one), fun x => f_spec_CallOk (⟨x.1.1, x.1.2.1, x.1.2.2.1, x.1.2.2.2.1, x.1.2.2.2.2.1⟩ : Call)⟩
theorem r_spec_CallOk_ok : RwOk Go.Proofs.Try.prog tyK (r_spec_CallOk) :=
  ent_ok (fa := a_spec_CallOk) (ls := []) (cs := []) (n := 0) (es := [r_spec_l1In, r_spec_l11Clean]) mixedOk tbOk (ents_cons (r_spec_l1In_ok) (ents_cons (r_spec_l11Clean_ok) ents_nil)) Go.Proofs.Try.func14 (by kernel_rfl) (by kernel_rfl) (by kernel_rfl) (LSsOk.nil _ _) (fun x => by kernel_rfl)
/-! loop.example/g00185/impl.CallOk -/
noncomputable def a_impl_CallOk : FnA := ⟨Go.Proofs.Try.f16, ⟨[(0, [(0, .slot 0 .int)]), (1, [(5, .slot 1 .int)])], [(8, [([0], []), ([0], []), ([0], []), ([0], []), ([1], []), ([1], [1]), ([1], []), ([1], [1])])], []⟩, 2⟩
def f_impl_CallOk (a0 : Call) : Option (Bool × Unit) :=
  cond (decide (a0.Kind = 1))
   (let e1 := ((decide (a0.Kind = a0.Kind)) && ((decide (a0.No = a0.No)) && ((decide (a0.Cpu = a0.Cpu)) && ((decide (a0.A = a0.A)) && ((decide (a0.B = a0.B)) && true)))))
    some (e1, ()))
   (cond (decide (a0.Kind = 2))
     (let e2 := ((decide (a0.Kind = a0.Kind)) && ((decide (a0.No = a0.No)) && ((decide (a0.Cpu = a0.Cpu)) && ((decide (a0.A = a0.A)) && ((decide (a0.B = a0.B)) && true)))))
      some (e2, ()))
     (cond (decide (a0.Kind = 3))
       (let e3 := ((decide (a0.Kind = a0.Kind)) && ((decide (a0.No = a0.No)) && ((decide (a0.Cpu = a0.Cpu)) && ((decide (a0.A = a0.A)) && ((decide (a0.B = 0)) && true)))))
        some (e3, ()))
       (cond (decide (a0.Kind = 4))
         (let e4 := ((decide (a0.Kind = a0.Kind)) && ((decide (a0.No = a0.No)) && ((decide (a0.Cpu = 0)) && ((decide (a0.A = 0)) && ((decide (a0.B = 0)) && true)))))
          some (e4, ()))
         (cond (decide (a0.Kind = 5))
           (let e5 := ((decide (a0.Kind = a0.Kind)) && ((decide (a0.No = a0.No)) && ((decide (a0.Cpu = 0)) && ((decide (a0.A = 0)) && ((decide (a0.B = 0)) && true)))))
            some (e5, ()))
           (cond (decide (a0.Kind = 6))
             (let e6 := ((decide (a0.Kind = a0.Kind)) && ((decide (a0.No = a0.No)) && ((decide (a0.Cpu = 0)) && ((decide (a0.A = 0)) && ((decide (a0.B = 0)) && true)))))
              some (e6, ()))
             (cond (decide (a0.Kind = 7))
               (let e7 := ((decide (a0.Kind = a0.Kind)) && ((decide (a0.No = a0.No)) && ((decide (a0.Cpu = 0)) && ((decide (a0.A = a0.A)) && ((decide (a0.B = 0)) && true)))))
                some (e7, ()))
               (cond (decide (a0.Kind = 8))
                 (let e8 := ((decide (a0.Kind = a0.Kind)) && ((decide (a0.No = a0.No)) && ((decide (a0.Cpu = 0)) && ((decide (a0.A = a0.A)) && ((decide (a0.B = 0)) && true)))))
                  some (e8, ()))
                 (cond (decide (a0.Kind = 9))
                   (let e9 := ((decide (a0.Kind = a0.Kind)) && ((decide (a0.No = a0.No)) && ((decide (a0.Cpu = 0)) && ((decide (a0.A = a0.A)) && ((decide (a0.B = 0)) && true)))))
                    some (e9, ()))
                   (cond (decide (a0.Kind = 10))
                     (let e10 := ((decide (a0.Kind = a0.Kind)) && ((decide (a0.No = a0.No)) && ((decide (a0.Cpu = a0.Cpu)) && ((decide (a0.A = 0)) && ((decide (a0.B = 0)) && true)))))
                      some (e10, ()))
                     (cond (decide (a0.Kind = 11))
                       (let e11 := ((decide (a0.Kind = a0.Kind)) && ((decide (a0.No = 0)) && ((decide (a0.Cpu = 0)) && ((decide (a0.A = a0.A)) && ((decide (a0.B = 0)) && true)))))
                        some (e11, ()))
                       (some (false, ()))))))))))))
def r_impl_CallOk : Rw := ⟨16, (.pair (.v (.agg (.pair .int (.pair .int (.pair .int (.pair .int (.pair .int .one))))))) .one), (.pair .bool .one), fun x => f_impl_CallOk (⟨x.1.1, x.1.2.1, x.1.2.2.1, x.1.2.2.2.1, x.1.2.2.2.2.1⟩ : Call)⟩
theorem r_impl_CallOk_ok : RwOk Go.Proofs.Try.prog tyK (r_impl_CallOk) :=
  ent_ok (fa := a_impl_CallOk) (ls := []) (cs := []) (n := 0) (es := []) mixedOk tbOk ents_nil Go.Proofs.Try.func16 (by kernel_rfl) (by kernel_rfl) (by kernel_rfl) (LSsOk.nil _ _) (fun x => by kernel_rfl)
/-! loop.example/g00185/laws.FnExactCallOk -/
noncomputable def a_laws_FnExactCallOk : FnA := ⟨Go.Proofs.Try.f3, ⟨[(0, [(0, .slot 0 .int)]), (1, [(1, .call [.ro] (.agg (.pair .int (.pair .int (.pair .int (.pair .int (.pair .int .one)))))) [] []), (2, .call [.ro] .bool [] [])]), (2, [(1, .call [.ro] (.agg (.pair .int (.pair .int (.pair .int (.pair .int (.pair .int .one)))))) [] []), (2, .call [.ro] .bool [] [])])], [], []⟩, 1⟩
def f_laws_FnExactCallOk (a0 : Call) : Option (Bool × Unit) :=
  (f_laws_toCall a0).bind fun r1 =>
  (f_spec_CallOk (dnCall r1.1)).bind fun r2 =>
  (f_laws_toCall a0).bind fun r3 =>
  (f_impl_CallOk (dnCall r3.1)).bind fun r4 =>
  cond (!(r4.1 == r2.1))
   (some (false, ()))
   (some (true, ()))
def r_laws_FnExactCallOk : Rw := ⟨3, (.pair (.v (.agg (.pair .int (.pair .int (.pair .int (.pair .int (.pair .int .one))))))) .one), (.pair .bool .one), fun x => f_laws_FnExactCallOk (⟨x.1.1, x.1.2.1, x.1.2.2.1, x.1.2.2.2.1, x.1.2.2.2.2.1⟩ : Call)⟩
theorem r_laws_FnExactCallOk_ok : RwOk Go.Proofs.Try.prog tyK (r_laws_FnExactCallOk) :=
  ent_ok (fa := a_laws_FnExactCallOk) (ls := []) (cs := []) (n := 0) (es := [r_laws_toCall, r_spec_CallOk, r_impl_CallOk]) mixedOk tbOk (ents_cons (r_laws_toCall_ok) (ents_cons (r_spec_CallOk_ok) (ents_cons (r_impl_CallOk_ok) ents_nil))) Go.Proofs.Try.func3 (by kernel_rfl) (by kernel_rfl) (by kernel_rfl) (LSsOk.nil _ _) (fun x => by kernel_rfl)
/-! loop.example/g00185/laws.szTurnS -/
noncomputable def a_laws_szTurnS : FnA := ⟨Go.Proofs.Try.f17, ⟨[], [], []⟩, 0⟩
def f_laws_szTurnS (a0 : List Turn) (a1 : Int) : Option (Int × Unit) :=
  cond (decide ((w64 (a1 - ((a0).length : Int))) < 0))
   (some ((-1), ()))
   (some ((w64 (a1 - ((a0).length : Int))), ()))
def r_laws_szTurnS : Rw := ⟨17, (.pair (.v (.ro .turn)) (.pair (.v (.int)) .one)), (.pair .int .one), fun x => f_laws_szTurnS x.1.2 x.2.1⟩
theorem r_laws_szTurnS_ok : RwOk Go.Proofs.Try.prog tyK (r_laws_szTurnS) :=
  ent_ok (fa := a_laws_szTurnS) (ls := []) (cs := []) (n := 0) (es := []) mixedOk tbOk ents_nil Go.Proofs.Try.func17 (by kernel_rfl) (by kernel_rfl) (by kernel_rfl) (LSsOk.nil _ _) (fun x => by kernel_rfl)
/-! loop.example/g00185/laws.toTurn -/
noncomputable def a_laws_toTurn : FnA := ⟨Go.Proofs.Try.f58, ⟨[(0, [(0, .slot 0 .int), (1, .slot 1 .int)]), (1, [(0, .slot 2 .int)])], [], []⟩, 3⟩
def f_laws_toTurn (a0 : Turn) : Option (TurnT × Unit) :=
  some ((upTurn a0), ())
def r_laws_toTurn : Rw := ⟨58, (.pair (.v (.agg (.pair .int (.pair .int (.pair .int .one))))) .one), (.pair (.agg (.pair .int (.pair .int (.pair .int .one)))) .one), fun x => f_laws_toTurn (⟨x.1.1, x.1.2.1, x.1.2.2.1⟩ : Turn)⟩
theorem r_laws_toTurn_ok : RwOk Go.Proofs.Try.prog tyK (r_laws_toTurn) :=
  ent_ok (fa := a_laws_toTurn) (ls := []) (cs := []) (n := 0) (es := []) mixedOk tbOk ents_nil Go.Proofs.Try.func58 (by kernel_rfl) (by kernel_rfl) (by kernel_rfl) (LSsOk.nil _ _) (fun x => by kernel_rfl)
/-! loop.example/g00185/laws.toTurnS -/
noncomputable def a_laws_toTurnS : FnA := ⟨Go.Proofs.Try.f19, ⟨[(1, [(2, .slot 0 .turn)]), (5, [(6, .call [.ro] (.agg (.pair .int (.pair .int (.pair .int .one)))) [] [])])], [], []⟩, 1⟩
def l_laws_toTurnS_0 {α : Type} (n : Nat) : Nat → List Turn → List Turn → Int → (List Turn → Option α) → Option α
  | 0, _, _, _, _ => none
  | m0 + 1, v1, v2, v3, k0_0 =>
    cond (decide (v3 < ((v1).length : Int)))
     (cond ((decide (0 ≤ v3)) && (decide (v3 < ((v1).length : Int))))
       ((f_laws_toTurn (List.getD v1 (Int.toNat v3) (Kd.dflt .turn))).bind fun r4 =>
        cond ((decide (0 ≤ v3)) && (decide (v3 < ((v2).length : Int))))
         (cond (decide ((Int.toNat v3) < (v2).length))
           (l_laws_toTurnS_0 n m0 v1 (List.set v2 (Int.toNat v3) (dnTurn r4.1)) (w64 (v3 + 1)) k0_0)
           (none))
         (none))
       (none))
     (k0_0 v2)
def f_laws_toTurnS (n : Nat) (a0 : List Turn) : Option (List Turn × Unit) :=
  cond (((decide (((a0).length : Int) = ((a0).length : Int))) && (decide (0 ≤ ((a0).length : Int)))) && (decide (((a0).length : Int) ≤ (lim : Int))))
   (l_laws_toTurnS_0 n n a0 (List.replicate (Int.toNat ((a0).length : Int)) (Kd.dflt .turn)) 0
     (fun w5 =>
      some (w5, ())))
   (none)
def r_laws_toTurnS (n : Nat) : Rw := ⟨19, (.pair (.v (.ro .turn)) .one), (.pair (.own .turn) .one), fun x => f_laws_toTurnS n x.1.2⟩
def s_laws_toTurnS_0 (n : Nat) : LS where
  la := ⟨3, [0, 3, 4], [], [], [3], [0]⟩
  nt := 23
  kt := [0, 3, 4]
  hs := [.k]
  X := Bool × List Turn × List Turn × Int
  abs := fun vs es => match vs, es with | [.ro y0 .turn y1, .bor 0, .int y3], [.root .turn y2 .ok] => some (y0, y1, y2, y3) | _, _ => none
  tms := fun x => [.ro x.1 .turn x.2.1, .bor 0, .int x.2.2.2]
  ets := fun x => [.root .turn x.2.2.1 .ok]
  run := fun m x k => l_laws_toTurnS_0 n m x.2.1 x.2.2.1 x.2.2.2 (fun w0 => k (.exit 0) ⟨layT [3] [.bor 0] 0 23, layH [.k] [.root .turn w0 .ok]⟩)
noncomputable def c_laws_toTurnS_0 : Code := (Go.Proofs.Try.f19.body.bind (subLoop 3)).getD .skip
theorem s_laws_toTurnS_0_ok (n : Nat) : LSok Tb tyK (orc [r_laws_toTurn]) n a_laws_toTurnS.ann [s_laws_toTurnS_0 n] c_laws_toTurnS_0 (s_laws_toTurnS_0 n) :=
  ⟨by intro vs es x h; dsimp only [s_laws_toTurnS_0] at h; split at h; (· injection h with h; subst h; exact ⟨rfl, rfl⟩); (· cases h), fun _ _ => rfl, fun m x k => by kernel_rfl⟩
theorem r_laws_toTurnS_ok (n : Nat) : RwOk Go.Proofs.Try.prog tyK (r_laws_toTurnS n) :=
  ent_ok (fa := a_laws_toTurnS) (ls := [s_laws_toTurnS_0 n]) (cs := [c_laws_toTurnS_0]) (n := n) (es := [r_laws_toTurn]) mixedOk tbOk (ents_cons (r_laws_toTurn_ok) ents_nil) Go.Proofs.Try.func19 (by kernel_rfl) (by kernel_rfl) (by kernel_rfl) (LSsOk.cons _ _ (l := s_laws_toTurnS_0 n) (by kernel_rfl) (s_laws_toTurnS_0_ok n) (LSsOk.nil _ _)) (fun x => by kernel_rfl)
/-! loop.example/g00185/spec.IdleOn -/
noncomputable def a_spec_IdleOn : FnA := ⟨Go.Proofs.Try.f18, ⟨[], [], []⟩, 0⟩
def l_spec_IdleOn_0 {α : Type} (n : Nat) : Nat → List Turn → Int → Int → Int → (Int → Option α) → Option α
  | 0, _, _, _, _, _ => none
  | m0 + 1, v1, v2, v3, v4, k0_0 =>
    cond (decide (v4 < ((v1).length : Int)))
     (cond ((decide (0 ≤ v4)) && (decide (v4 < ((v1).length : Int))))
       (let e5 := (decide ((List.getD v1 (Int.toNat v4) (Kd.dflt .turn)).Cpu = v2))
        cond e5
         (cond ((decide (0 ≤ v4)) && (decide (v4 < ((v1).length : Int))))
           (let e6 := (decide ((List.getD v1 (Int.toNat v4) (Kd.dflt .turn)).Context = 0))
            cond e6
             (l_spec_IdleOn_0 n m0 v1 v2 (w64 (v3 + 1)) (w64 (v4 + 1)) k0_0)
             (l_spec_IdleOn_0 n m0 v1 v2 v3 (w64 (v4 + 1)) k0_0))
           (none))
         (l_spec_IdleOn_0 n m0 v1 v2 v3 (w64 (v4 + 1)) k0_0))
       (none))
     (k0_0 v3)
def f_spec_IdleOn (n : Nat) (a0 : List Turn) (a1 : Int) : Option (Int × Unit) :=
  l_spec_IdleOn_0 n n a0 a1 0 0
   (fun w7 =>
    some (w7, ()))
def r_spec_IdleOn (n : Nat) : Rw := ⟨18, (.pair (.v (.ro .turn)) (.pair (.v (.int)) .one)), (.pair .int .one), fun x => f_spec_IdleOn n x.1.2 x.2.1⟩
def s_spec_IdleOn_0 (n : Nat) : LS where
  la := ⟨3, [0, 1, 5, 6], [], [], [5], []⟩
  nt := 31
  kt := [0, 1, 5, 6]
  hs := []
  X := Bool × List Turn × Int × Int × Int
  abs := fun vs es => match vs, es with | [.ro y0 .turn y1, .int y2, .int y3, .int y4], [] => some (y0, y1, y2, y3, y4) | _, _ => none
  tms := fun x => [.ro x.1 .turn x.2.1, .int x.2.2.1, .int x.2.2.2.1, .int x.2.2.2.2]
  ets := fun x => []
  run := fun m x k => l_spec_IdleOn_0 n m x.2.1 x.2.2.1 x.2.2.2.1 x.2.2.2.2 (fun w0 => k (.exit 0) ⟨layT [5] [.int w0] 0 31, layH [] []⟩)
noncomputable def c_spec_IdleOn_0 : Code := (Go.Proofs.Try.f18.body.bind (subLoop 3)).getD .skip
theorem s_spec_IdleOn_0_ok (n : Nat) : LSok Tb tyK (orc []) n a_spec_IdleOn.ann [s_spec_IdleOn_0 n] c_spec_IdleOn_0 (s_spec_IdleOn_0 n) :=
  ⟨by intro vs es x h; dsimp only [s_spec_IdleOn_0] at h; split at h; (· injection h with h; subst h; exact ⟨rfl, rfl⟩); (· cases h), fun _ _ => rfl, fun m x k => by kernel_rfl⟩
theorem r_spec_IdleOn_ok (n : Nat) : RwOk Go.Proofs.Try.prog tyK (r_spec_IdleOn n) :=
  ent_ok (fa := a_spec_IdleOn) (ls := [s_spec_IdleOn_0 n]) (cs := [c_spec_IdleOn_0]) (n := n) (es := []) mixedOk tbOk ents_nil Go.Proofs.Try.func18 (by kernel_rfl) (by kernel_rfl) (by kernel_rfl) (LSsOk.cons _ _ (l := s_spec_IdleOn_0 n) (by kernel_rfl) (s_spec_IdleOn_0_ok n) (LSsOk.nil _ _)) (fun x => by kernel_rfl)
/-! loop.example/g00185/impl.IdleOn$1 -/
noncomputable def a_impl_IdleOn_1 : FnA := ⟨Go.Proofs.Try.f60, ⟨[(0, [(0, .slot 0 .int)])], [], []⟩, 1⟩
def f_impl_IdleOn_1 (a0 : Turn) (a1_0 : Int) : Option (Bool × Unit) :=
  cond (decide (a0.Cpu = a1_0))
   (some ((decide (a0.Context = 0)), ()))
   (some (false, ()))
def r_impl_IdleOn_1 : Rw := ⟨60, (.pair (.v (.agg (.pair .int (.pair .int (.pair .int .one))))) (.pair (.v (.rp (.pair .int .one) 0)) .one)), (.pair .bool .one), fun x => f_impl_IdleOn_1 (⟨x.1.1, x.1.2.1, x.1.2.2.1⟩ : Turn) x.2.1.1⟩
theorem r_impl_IdleOn_1_ok : RwOk Go.Proofs.Try.prog tyK (r_impl_IdleOn_1) :=
  ent_ok (fa := a_impl_IdleOn_1) (ls := []) (cs := []) (n := 0) (es := []) mixedOk tbOk ents_nil Go.Proofs.Try.func60 (by kernel_rfl) (by kernel_rfl) (by kernel_rfl) (LSsOk.nil _ _) (fun x => by kernel_rfl)
/-! loop.example/g00185/impl.turnsOf -/
noncomputable def a_impl_turnsOf_IdleOn_1 : FnA := ⟨Go.Proofs.Try.f59, ⟨[(4, [(2, .slot 0 .int)]), (5, [(2, .call [.ro] .bool [] [])])], [], []⟩, 1⟩
def l_impl_turnsOf_IdleOn_1_0 {α : Type} (n : Nat) : Nat → Int → Int → List Turn → Int → Int → (Int → Option α) → Option α
  | 0, _, _, _, _, _, _ => none
  | m0 + 1, v1, v2, v3, v4, v5, k0_0 =>
    cond (decide (v5 < v4))
     (cond ((decide (0 ≤ v5)) && (decide (v5 < ((v3).length : Int))))
       ((f_impl_IdleOn_1 (List.getD v3 (Int.toNat v5) (Kd.dflt .turn)) v1).bind fun r6 =>
        cond r6.1
         (l_impl_turnsOf_IdleOn_1_0 n m0 v1 (w64 (v2 + 1)) v3 v4 (w64 (v5 + 1)) k0_0)
         (l_impl_turnsOf_IdleOn_1_0 n m0 v1 v2 v3 v4 (w64 (v5 + 1)) k0_0))
       (none))
     (k0_0 v2)
def f_impl_turnsOf_IdleOn_1 (n : Nat) (a0 : List Turn) (a1_0_0 : Int) : Option (Int × Unit) :=
  l_impl_turnsOf_IdleOn_1_0 n n a1_0_0 0 a0 ((a0).length : Int) 0
   (fun w7 =>
    some (w7, ()))
def r_impl_turnsOf_IdleOn_1 (n : Nat) : Rw := ⟨59, (.pair (.v (.ro .turn)) (.pair (.v (.clo 60 (.pair (.rp (.pair .int .one) 0) .one))) .one)), (.pair .int .one), fun x => f_impl_turnsOf_IdleOn_1 n x.1.2 x.2.1.1.1⟩
def s_impl_turnsOf_IdleOn_1_0 (n : Nat) : LS where
  la := ⟨3, [1, 5, 8, 9, 10], [], [0], [5], [0]⟩
  nt := 21
  kt := [1, 5, 8, 9, 10]
  hs := [.fresh]
  X := Int × Int × Bool × List Turn × Int × Int
  abs := fun vs es => match vs, es with | [.clo 60 [.rp [.int y0] 0], .int y1, .ro y2 .turn y3, .int y4, .int y5], [] => some (y0, y1, y2, y3, y4, y5) | _, _ => none
  tms := fun x => [.clo 60 [.rp [.int x.1] 0], .int x.2.1, .ro x.2.2.1 .turn x.2.2.2.1, .int x.2.2.2.2.1, .int x.2.2.2.2.2]
  ets := fun x => []
  run := fun m x k => l_impl_turnsOf_IdleOn_1_0 n m x.1 x.2.1 x.2.2.2.1 x.2.2.2.2.1 x.2.2.2.2.2 (fun w0 => k (.exit 0) ⟨layT [5] [.int w0] 0 21, layH [.fresh] []⟩)
noncomputable def c_impl_turnsOf_IdleOn_1_0 : Code := (Go.Proofs.Try.f59.body.bind (subLoop 3)).getD .skip
theorem s_impl_turnsOf_IdleOn_1_0_ok (n : Nat) : LSok Tb tyK (orc [r_impl_IdleOn_1]) n a_impl_turnsOf_IdleOn_1.ann [s_impl_turnsOf_IdleOn_1_0 n] c_impl_turnsOf_IdleOn_1_0 (s_impl_turnsOf_IdleOn_1_0 n) :=
  ⟨by intro vs es x h; dsimp only [s_impl_turnsOf_IdleOn_1_0] at h; split at h; (· injection h with h; subst h; exact ⟨rfl, rfl⟩); (· cases h), fun _ _ => rfl, fun m x k => by kernel_rfl⟩
theorem r_impl_turnsOf_IdleOn_1_ok (n : Nat) : RwOk Go.Proofs.Try.prog tyK (r_impl_turnsOf_IdleOn_1 n) :=
  ent_ok (fa := a_impl_turnsOf_IdleOn_1) (ls := [s_impl_turnsOf_IdleOn_1_0 n]) (cs := [c_impl_turnsOf_IdleOn_1_0]) (n := n) (es := [r_impl_IdleOn_1]) mixedOk tbOk (ents_cons (r_impl_IdleOn_1_ok) ents_nil) Go.Proofs.Try.func59 (by kernel_rfl) (by kernel_rfl) (by kernel_rfl) (LSsOk.cons _ _ (l := s_impl_turnsOf_IdleOn_1_0 n) (by kernel_rfl) (s_impl_turnsOf_IdleOn_1_0_ok n) (LSsOk.nil _ _)) (fun x => by kernel_rfl)
/-! loop.example/g00185/impl.IdleOn -/
noncomputable def a_impl_IdleOn : FnA := ⟨Go.Proofs.Try.f20, ⟨[(0, [(0, .slot 0 .int)]), (1, [(2, .call [.ro, .ro] .int [] [])])], [], []⟩, 1⟩
def f_impl_IdleOn (n : Nat) (a0 : List Turn) (a1 : Int) : Option (Int × Unit) :=
  (f_impl_turnsOf_IdleOn_1 n a0 a1).bind fun r1 =>
  some (r1.1, ())
def r_impl_IdleOn (n : Nat) : Rw := ⟨20, (.pair (.v (.ro .turn)) (.pair (.v (.int)) .one)), (.pair .int .one), fun x => f_impl_IdleOn n x.1.2 x.2.1⟩
theorem r_impl_IdleOn_ok (n : Nat) : RwOk Go.Proofs.Try.prog tyK (r_impl_IdleOn n) :=
  ent_ok (fa := a_impl_IdleOn) (ls := []) (cs := []) (n := n) (es := [(r_impl_turnsOf_IdleOn_1 n)]) mixedOk tbOk (ents_cons (r_impl_turnsOf_IdleOn_1_ok n) ents_nil) Go.Proofs.Try.func20 (by kernel_rfl) (by kernel_rfl) (by kernel_rfl) (LSsOk.nil _ _) (fun x => by kernel_rfl)
/-! loop.example/g00185/laws.eqTurn -/
noncomputable def a_laws_eqTurn : FnA := ⟨Go.Proofs.Try.f61, ⟨[(0, [(0, .slot 0 .int), (1, .slot 1 .int)])], [], []⟩, 2⟩
def f_laws_eqTurn (a0 : Turn) (a1 : Turn) : Option (Bool × Unit) :=
  cond (!(decide (a0.Cpu = a1.Cpu)))
   (some (false, ()))
   (cond (!(decide (a0.Context = a1.Context)))
     (some (false, ()))
     (cond (!(decide (a0.Executor = a1.Executor)))
       (some (false, ()))
       (some (true, ()))))
def r_laws_eqTurn : Rw := ⟨61, (.pair (.v (.agg (.pair .int (.pair .int (.pair .int .one))))) (.pair (.v (.agg (.pair .int (.pair .int (.pair .int .one))))) .one)), (.pair .bool .one), fun x => f_laws_eqTurn (⟨x.1.1, x.1.2.1, x.1.2.2.1⟩ : Turn) (⟨x.2.1.1, x.2.1.2.1, x.2.1.2.2.1⟩ : Turn)⟩
theorem r_laws_eqTurn_ok : RwOk Go.Proofs.Try.prog tyK (r_laws_eqTurn) :=
  ent_ok (fa := a_laws_eqTurn) (ls := []) (cs := []) (n := 0) (es := []) mixedOk tbOk ents_nil Go.Proofs.Try.func61 (by kernel_rfl) (by kernel_rfl) (by kernel_rfl) (LSsOk.nil _ _) (fun x => by kernel_rfl)
/-! loop.example/g00185/laws.eqTurnS -/
noncomputable def a_laws_eqTurnS : FnA := ⟨Go.Proofs.Try.f21, ⟨[(6, [(8, .call [.ro, .ro] .bool [] [])])], [(6, [([], []), ([], []), ([], []), ([], []), ([], []), ([], []), ([], []), ([], []), ([], []), ([], [])])], []⟩, 0⟩
def l_laws_eqTurnS_0 {α : Type} (n : Nat) : Nat → List Turn → List Turn → Int → (Option α) → (Option α) → Option α
  | 0, _, _, _, _, _ => none
  | m0 + 1, v1, v2, v3, k0_0, k0_1 =>
    cond (decide (v3 < ((v1).length : Int)))
     (cond ((decide (0 ≤ v3)) && (decide (v3 < ((v1).length : Int))))
       (cond ((decide (0 ≤ v3)) && (decide (v3 < ((v2).length : Int))))
         ((f_laws_eqTurn (List.getD v1 (Int.toNat v3) (Kd.dflt .turn)) (List.getD v2 (Int.toNat v3) (Kd.dflt .turn))).bind fun r4 =>
          cond (!r4.1)
           (k0_0)
           (l_laws_eqTurnS_0 n m0 v1 v2 (w64 (v3 + 1)) k0_0 k0_1))
         (none))
       (none))
     (k0_1)
def f_laws_eqTurnS (n : Nat) (a0 : List Turn) (a1 : List Turn) : Option (Bool × Unit) :=
  cond (!(decide (((a0).length : Int) = ((a1).length : Int))))
   (some (false, ()))
   (l_laws_eqTurnS_0 n n a0 a1 0
     (some (false, ()))
     (some (true, ())))
def r_laws_eqTurnS (n : Nat) : Rw := ⟨21, (.pair (.v (.ro .turn)) (.pair (.v (.ro .turn)) .one)), (.pair .bool .one), fun x => f_laws_eqTurnS n x.1.2 x.2.1.2⟩
def s_laws_eqTurnS_0 (n : Nat) : LS where
  la := ⟨4, [0, 1, 5], [], [], [4], []⟩
  nt := 27
  kt := [0, 1, 5]
  hs := []
  X := Bool × List Turn × Bool × List Turn × Int
  abs := fun vs es => match vs, es with | [.ro y0 .turn y1, .ro y2 .turn y3, .int y4], [] => some (y0, y1, y2, y3, y4) | _, _ => none
  tms := fun x => [.ro x.1 .turn x.2.1, .ro x.2.2.1 .turn x.2.2.2.1, .int x.2.2.2.2]
  ets := fun x => []
  run := fun m x k => l_laws_eqTurnS_0 n m x.2.1 x.2.2.2.1 x.2.2.2.2 (k .ret ⟨layT [4] [.bool false] 0 27, layH [] []⟩) (k (.exit 0) ⟨layT [] [] 0 27, layH [] []⟩)
noncomputable def c_laws_eqTurnS_0 : Code := (Go.Proofs.Try.f21.body.bind (subLoop 4)).getD .skip
theorem s_laws_eqTurnS_0_ok (n : Nat) : LSok Tb tyK (orc [r_laws_eqTurn]) n a_laws_eqTurnS.ann [s_laws_eqTurnS_0 n] c_laws_eqTurnS_0 (s_laws_eqTurnS_0 n) :=
  ⟨by intro vs es x h; dsimp only [s_laws_eqTurnS_0] at h; split at h; (· injection h with h; subst h; exact ⟨rfl, rfl⟩); (· cases h), fun _ _ => rfl, fun m x k => by kernel_rfl⟩
theorem r_laws_eqTurnS_ok (n : Nat) : RwOk Go.Proofs.Try.prog tyK (r_laws_eqTurnS n) :=
  ent_ok (fa := a_laws_eqTurnS) (ls := [s_laws_eqTurnS_0 n]) (cs := [c_laws_eqTurnS_0]) (n := n) (es := [r_laws_eqTurn]) mixedOk tbOk (ents_cons (r_laws_eqTurn_ok) ents_nil) Go.Proofs.Try.func21 (by kernel_rfl) (by kernel_rfl) (by kernel_rfl) (LSsOk.cons _ _ (l := s_laws_eqTurnS_0 n) (by kernel_rfl) (s_laws_eqTurnS_0_ok n) (LSsOk.nil _ _)) (fun x => by kernel_rfl)
/-! loop.example/g00185/laws.FnExactIdleOn -/
noncomputable def a_laws_FnExactIdleOn : FnA := ⟨Go.Proofs.Try.f4, ⟨[(2, [(2, .call [.ro, .ro] .int [] [])]), (5, [(1, .call [.ro] (.own .turn) [] [none]), (3, .call [.ro, .ro] .int [] [])]), (6, [(1, .call [.ro] (.own .turn) [] [none])]), (7, [(2, .call [.ro, .ro] .int [] [])]), (10, [(2, .call [.ro] (.own .turn) [] [none]), (3, .call [.ro, .ro] .bool [] [])])], [], []⟩, 0⟩
def f_laws_FnExactIdleOn (n : Nat) (a0 : List Turn) (a1 : Int) : Option (Bool × Unit) :=
  (f_laws_szTurnS a0 1048576).bind fun r1 =>
  cond (decide (r1.1 < 0))
   (some (true, ()))
   ((f_laws_toTurnS n a0).bind fun r2 =>
    (f_spec_IdleOn n r2.1 a1).bind fun r3 =>
    (f_laws_toTurnS n a0).bind fun r4 =>
    (f_impl_IdleOn n r4.1 a1).bind fun r5 =>
    cond (!(decide (r5.1 = r3.1)))
     (some (false, ()))
     ((f_laws_toTurnS n a0).bind fun r6 =>
      (f_laws_eqTurnS n r4.1 r6.1).bind fun r7 =>
      cond (!r7.1)
       (some (false, ()))
       (some (true, ()))))
def r_laws_FnExactIdleOn (n : Nat) : Rw := ⟨4, (.pair (.v (.ro .turn)) (.pair (.v (.int)) .one)), (.pair .bool .one), fun x => f_laws_FnExactIdleOn n x.1.2 x.2.1⟩
theorem r_laws_FnExactIdleOn_ok (n : Nat) : RwOk Go.Proofs.Try.prog tyK (r_laws_FnExactIdleOn n) :=
  ent_ok (fa := a_laws_FnExactIdleOn) (ls := []) (cs := []) (n := n) (es := [r_laws_szTurnS, (r_laws_toTurnS n), (r_spec_IdleOn n), (r_impl_IdleOn n), (r_laws_eqTurnS n)]) mixedOk tbOk (ents_cons (r_laws_szTurnS_ok) (ents_cons (r_laws_toTurnS_ok n) (ents_cons (r_spec_IdleOn_ok n) (ents_cons (r_impl_IdleOn_ok n) (ents_cons (r_laws_eqTurnS_ok n) ents_nil))))) Go.Proofs.Try.func4 (by kernel_rfl) (by kernel_rfl) (by kernel_rfl) (LSsOk.nil _ _) (fun x => by kernel_rfl)
/-! loop.example/g00185/spec.TookBy -/
noncomputable def a_spec_TookBy : FnA := ⟨Go.Proofs.Try.f22, ⟨[], [], []⟩, 0⟩
def l_spec_TookBy_0 {α : Type} (n : Nat) : Nat → List Turn → Int → Int → Int → (Int → Option α) → Option α
  | 0, _, _, _, _, _ => none
  | m0 + 1, v1, v2, v3, v4, k0_0 =>
    cond (decide (v4 < ((v1).length : Int)))
     (cond (decide (0 < v2))
       (cond ((decide (0 ≤ v4)) && (decide (v4 < ((v1).length : Int))))
         (let e5 := (decide ((List.getD v1 (Int.toNat v4) (Kd.dflt .turn)).Executor = v2))
          cond e5
           (l_spec_TookBy_0 n m0 v1 v2 (w64 (v3 + 1)) (w64 (v4 + 1)) k0_0)
           (l_spec_TookBy_0 n m0 v1 v2 v3 (w64 (v4 + 1)) k0_0))
         (none))
       (l_spec_TookBy_0 n m0 v1 v2 v3 (w64 (v4 + 1)) k0_0))
     (k0_0 v3)
def f_spec_TookBy (n : Nat) (a0 : List Turn) (a1 : Int) : Option (Int × Unit) :=
  l_spec_TookBy_0 n n a0 a1 0 0
   (fun w6 =>
    some (w6, ()))
def r_spec_TookBy (n : Nat) : Rw := ⟨22, (.pair (.v (.ro .turn)) (.pair (.v (.int)) .one)), (.pair .int .one), fun x => f_spec_TookBy n x.1.2 x.2.1⟩
def s_spec_TookBy_0 (n : Nat) : LS where
  la := ⟨3, [0, 1, 5, 6], [], [], [5], []⟩
  nt := 27
  kt := [0, 1, 5, 6]
  hs := []
  X := Bool × List Turn × Int × Int × Int
  abs := fun vs es => match vs, es with | [.ro y0 .turn y1, .int y2, .int y3, .int y4], [] => some (y0, y1, y2, y3, y4) | _, _ => none
  tms := fun x => [.ro x.1 .turn x.2.1, .int x.2.2.1, .int x.2.2.2.1, .int x.2.2.2.2]
  ets := fun x => []
  run := fun m x k => l_spec_TookBy_0 n m x.2.1 x.2.2.1 x.2.2.2.1 x.2.2.2.2 (fun w0 => k (.exit 0) ⟨layT [5] [.int w0] 0 27, layH [] []⟩)
noncomputable def c_spec_TookBy_0 : Code := (Go.Proofs.Try.f22.body.bind (subLoop 3)).getD .skip
theorem s_spec_TookBy_0_ok (n : Nat) : LSok Tb tyK (orc []) n a_spec_TookBy.ann [s_spec_TookBy_0 n] c_spec_TookBy_0 (s_spec_TookBy_0 n) :=
  ⟨by intro vs es x h; dsimp only [s_spec_TookBy_0] at h; split at h; (· injection h with h; subst h; exact ⟨rfl, rfl⟩); (· cases h), fun _ _ => rfl, fun m x k => by kernel_rfl⟩
theorem r_spec_TookBy_ok (n : Nat) : RwOk Go.Proofs.Try.prog tyK (r_spec_TookBy n) :=
  ent_ok (fa := a_spec_TookBy) (ls := [s_spec_TookBy_0 n]) (cs := [c_spec_TookBy_0]) (n := n) (es := []) mixedOk tbOk ents_nil Go.Proofs.Try.func22 (by kernel_rfl) (by kernel_rfl) (by kernel_rfl) (LSsOk.cons _ _ (l := s_spec_TookBy_0 n) (by kernel_rfl) (s_spec_TookBy_0_ok n) (LSsOk.nil _ _)) (fun x => by kernel_rfl)
/-! loop.example/g00185/impl.TookBy$1 -/
noncomputable def a_impl_TookBy_1 : FnA := ⟨Go.Proofs.Try.f62, ⟨[(0, [(0, .slot 0 .int)])], [], []⟩, 1⟩
def f_impl_TookBy_1 (a0 : Turn) (a1_0 : Int) : Option (Bool × Unit) :=
  some ((decide (a0.Executor = a1_0)), ())
def r_impl_TookBy_1 : Rw := ⟨62, (.pair (.v (.agg (.pair .int (.pair .int (.pair .int .one))))) (.pair (.v (.rp (.pair .int .one) 0)) .one)), (.pair .bool .one), fun x => f_impl_TookBy_1 (⟨x.1.1, x.1.2.1, x.1.2.2.1⟩ : Turn) x.2.1.1⟩
theorem r_impl_TookBy_1_ok : RwOk Go.Proofs.Try.prog tyK (r_impl_TookBy_1) :=
  ent_ok (fa := a_impl_TookBy_1) (ls := []) (cs := []) (n := 0) (es := []) mixedOk tbOk ents_nil Go.Proofs.Try.func62 (by kernel_rfl) (by kernel_rfl) (by kernel_rfl) (LSsOk.nil _ _) (fun x => by kernel_rfl)
/-! loop.example/g00185/impl.turnsOf -/
noncomputable def a_impl_turnsOf_TookBy_1 : FnA := ⟨Go.Proofs.Try.f59, ⟨[(4, [(2, .slot 0 .int)]), (5, [(2, .call [.ro] .bool [] [])])], [], []⟩, 1⟩
def l_impl_turnsOf_TookBy_1_0 {α : Type} (n : Nat) : Nat → Int → Int → List Turn → Int → Int → (Int → Option α) → Option α
  | 0, _, _, _, _, _, _ => none
  | m0 + 1, v1, v2, v3, v4, v5, k0_0 =>
    cond (decide (v5 < v4))
     (cond ((decide (0 ≤ v5)) && (decide (v5 < ((v3).length : Int))))
       ((f_impl_TookBy_1 (List.getD v3 (Int.toNat v5) (Kd.dflt .turn)) v1).bind fun r6 =>
        cond r6.1
         (l_impl_turnsOf_TookBy_1_0 n m0 v1 (w64 (v2 + 1)) v3 v4 (w64 (v5 + 1)) k0_0)
         (l_impl_turnsOf_TookBy_1_0 n m0 v1 v2 v3 v4 (w64 (v5 + 1)) k0_0))
       (none))
     (k0_0 v2)
def f_impl_turnsOf_TookBy_1 (n : Nat) (a0 : List Turn) (a1_0_0 : Int) : Option (Int × Unit) :=
  l_impl_turnsOf_TookBy_1_0 n n a1_0_0 0 a0 ((a0).length : Int) 0
   (fun w7 =>
    some (w7, ()))
def r_impl_turnsOf_TookBy_1 (n : Nat) : Rw := ⟨59, (.pair (.v (.ro .turn)) (.pair (.v (.clo 62 (.pair (.rp (.pair .int .one) 0) .one))) .one)), (.pair .int .one), fun x => f_impl_turnsOf_TookBy_1 n x.1.2 x.2.1.1.1⟩
def s_impl_turnsOf_TookBy_1_0 (n : Nat) : LS where
  la := ⟨3, [1, 5, 8, 9, 10], [], [0], [5], [0]⟩
  nt := 21
  kt := [1, 5, 8, 9, 10]
  hs := [.fresh]
  X := Int × Int × Bool × List Turn × Int × Int
  abs := fun vs es => match vs, es with | [.clo 62 [.rp [.int y0] 0], .int y1, .ro y2 .turn y3, .int y4, .int y5], [] => some (y0, y1, y2, y3, y4, y5) | _, _ => none
  tms := fun x => [.clo 62 [.rp [.int x.1] 0], .int x.2.1, .ro x.2.2.1 .turn x.2.2.2.1, .int x.2.2.2.2.1, .int x.2.2.2.2.2]
  ets := fun x => []
  run := fun m x k => l_impl_turnsOf_TookBy_1_0 n m x.1 x.2.1 x.2.2.2.1 x.2.2.2.2.1 x.2.2.2.2.2 (fun w0 => k (.exit 0) ⟨layT [5] [.int w0] 0 21, layH [.fresh] []⟩)
noncomputable def c_impl_turnsOf_TookBy_1_0 : Code := (Go.Proofs.Try.f59.body.bind (subLoop 3)).getD .skip
theorem s_impl_turnsOf_TookBy_1_0_ok (n : Nat) : LSok Tb tyK (orc [r_impl_TookBy_1]) n a_impl_turnsOf_TookBy_1.ann [s_impl_turnsOf_TookBy_1_0 n] c_impl_turnsOf_TookBy_1_0 (s_impl_turnsOf_TookBy_1_0 n) :=
  ⟨by intro vs es x h; dsimp only [s_impl_turnsOf_TookBy_1_0] at h; split at h; (· injection h with h; subst h; exact ⟨rfl, rfl⟩); (· cases h), fun _ _ => rfl, fun m x k => by kernel_rfl⟩
theorem r_impl_turnsOf_TookBy_1_ok (n : Nat) : RwOk Go.Proofs.Try.prog tyK (r_impl_turnsOf_TookBy_1 n) :=
  ent_ok (fa := a_impl_turnsOf_TookBy_1) (ls := [s_impl_turnsOf_TookBy_1_0 n]) (cs := [c_impl_turnsOf_TookBy_1_0]) (n := n) (es := [r_impl_TookBy_1]) mixedOk tbOk (ents_cons (r_impl_TookBy_1_ok) ents_nil) Go.Proofs.Try.func59 (by kernel_rfl) (by kernel_rfl) (by kernel_rfl) (LSsOk.cons _ _ (l := s_impl_turnsOf_TookBy_1_0 n) (by kernel_rfl) (s_impl_turnsOf_TookBy_1_0_ok n) (LSsOk.nil _ _)) (fun x => by kernel_rfl)
/-! loop.example/g00185/impl.TookBy -/
noncomputable def a_impl_TookBy : FnA := ⟨Go.Proofs.Try.f23, ⟨[(0, [(0, .slot 0 .int)]), (3, [(2, .call [.ro, .ro] .int [] [])])], [], []⟩, 1⟩
def f_impl_TookBy (n : Nat) (a0 : List Turn) (a1 : Int) : Option (Int × Unit) :=
  cond (decide (a1 < 1))
   (some (0, ()))
   ((f_impl_turnsOf_TookBy_1 n a0 a1).bind fun r1 =>
    some (r1.1, ()))
def r_impl_TookBy (n : Nat) : Rw := ⟨23, (.pair (.v (.ro .turn)) (.pair (.v (.int)) .one)), (.pair .int .one), fun x => f_impl_TookBy n x.1.2 x.2.1⟩
theorem r_impl_TookBy_ok (n : Nat) : RwOk Go.Proofs.Try.prog tyK (r_impl_TookBy n) :=
  ent_ok (fa := a_impl_TookBy) (ls := []) (cs := []) (n := n) (es := [(r_impl_turnsOf_TookBy_1 n)]) mixedOk tbOk (ents_cons (r_impl_turnsOf_TookBy_1_ok n) ents_nil) Go.Proofs.Try.func23 (by kernel_rfl) (by kernel_rfl) (by kernel_rfl) (LSsOk.nil _ _) (fun x => by kernel_rfl)
/-! loop.example/g00185/laws.FnExactTookBy -/
noncomputable def a_laws_FnExactTookBy : FnA := ⟨Go.Proofs.Try.f5, ⟨[(2, [(2, .call [.ro, .ro] .int [] [])]), (5, [(1, .call [.ro] (.own .turn) [] [none]), (3, .call [.ro, .ro] .int [] [])]), (6, [(1, .call [.ro] (.own .turn) [] [none])]), (7, [(2, .call [.ro, .ro] .int [] [])]), (10, [(2, .call [.ro] (.own .turn) [] [none]), (3, .call [.ro, .ro] .bool [] [])])], [], []⟩, 0⟩
def f_laws_FnExactTookBy (n : Nat) (a0 : List Turn) (a1 : Int) : Option (Bool × Unit) :=
  (f_laws_szTurnS a0 1048576).bind fun r1 =>
  cond (decide (r1.1 < 0))
   (some (true, ()))
   ((f_laws_toTurnS n a0).bind fun r2 =>
    (f_spec_TookBy n r2.1 a1).bind fun r3 =>
    (f_laws_toTurnS n a0).bind fun r4 =>
    (f_impl_TookBy n r4.1 a1).bind fun r5 =>
    cond (!(decide (r5.1 = r3.1)))
     (some (false, ()))
     ((f_laws_toTurnS n a0).bind fun r6 =>
      (f_laws_eqTurnS n r4.1 r6.1).bind fun r7 =>
      cond (!r7.1)
       (some (false, ()))
       (some (true, ()))))
def r_laws_FnExactTookBy (n : Nat) : Rw := ⟨5, (.pair (.v (.ro .turn)) (.pair (.v (.int)) .one)), (.pair .bool .one), fun x => f_laws_FnExactTookBy n x.1.2 x.2.1⟩
theorem r_laws_FnExactTookBy_ok (n : Nat) : RwOk Go.Proofs.Try.prog tyK (r_laws_FnExactTookBy n) :=
  ent_ok (fa := a_laws_FnExactTookBy) (ls := []) (cs := []) (n := n) (es := [r_laws_szTurnS, (r_laws_toTurnS n), (r_spec_TookBy n), (r_impl_TookBy n), (r_laws_eqTurnS n)]) mixedOk tbOk (ents_cons (r_laws_szTurnS_ok) (ents_cons (r_laws_toTurnS_ok n) (ents_cons (r_spec_TookBy_ok n) (ents_cons (r_impl_TookBy_ok n) (ents_cons (r_laws_eqTurnS_ok n) ents_nil))))) Go.Proofs.Try.func5 (by kernel_rfl) (by kernel_rfl) (by kernel_rfl) (LSsOk.nil _ _) (fun x => by kernel_rfl)
/-! loop.example/g00185/spec.UsedBy -/
noncomputable def a_spec_UsedBy : FnA := ⟨Go.Proofs.Try.f24, ⟨[], [], []⟩, 0⟩
def l_spec_UsedBy_0 {α : Type} (n : Nat) : Nat → List Turn → Int → Int → Int → (Int → Option α) → Option α
  | 0, _, _, _, _, _ => none
  | m0 + 1, v1, v2, v3, v4, k0_0 =>
    cond (decide (v4 < ((v1).length : Int)))
     (cond (decide (0 < v2))
       (cond ((decide (0 ≤ v4)) && (decide (v4 < ((v1).length : Int))))
         (let e5 := (decide ((List.getD v1 (Int.toNat v4) (Kd.dflt .turn)).Context = v2))
          cond e5
           (l_spec_UsedBy_0 n m0 v1 v2 (w64 (v3 + 1)) (w64 (v4 + 1)) k0_0)
           (l_spec_UsedBy_0 n m0 v1 v2 v3 (w64 (v4 + 1)) k0_0))
         (none))
       (l_spec_UsedBy_0 n m0 v1 v2 v3 (w64 (v4 + 1)) k0_0))
     (k0_0 v3)
def f_spec_UsedBy (n : Nat) (a0 : List Turn) (a1 : Int) : Option (Int × Unit) :=
  l_spec_UsedBy_0 n n a0 a1 0 0
   (fun w6 =>
    some (w6, ()))
def r_spec_UsedBy (n : Nat) : Rw := ⟨24, (.pair (.v (.ro .turn)) (.pair (.v (.int)) .one)), (.pair .int .one), fun x => f_spec_UsedBy n x.1.2 x.2.1⟩
def s_spec_UsedBy_0 (n : Nat) : LS where
  la := ⟨3, [0, 1, 5, 6], [], [], [5], []⟩
  nt := 27
  kt := [0, 1, 5, 6]
  hs := []
  X := Bool × List Turn × Int × Int × Int
  abs := fun vs es => match vs, es with | [.ro y0 .turn y1, .int y2, .int y3, .int y4], [] => some (y0, y1, y2, y3, y4) | _, _ => none
  tms := fun x => [.ro x.1 .turn x.2.1, .int x.2.2.1, .int x.2.2.2.1, .int x.2.2.2.2]
  ets := fun x => []
  run := fun m x k => l_spec_UsedBy_0 n m x.2.1 x.2.2.1 x.2.2.2.1 x.2.2.2.2 (fun w0 => k (.exit 0) ⟨layT [5] [.int w0] 0 27, layH [] []⟩)
noncomputable def c_spec_UsedBy_0 : Code := (Go.Proofs.Try.f24.body.bind (subLoop 3)).getD .skip
theorem s_spec_UsedBy_0_ok (n : Nat) : LSok Tb tyK (orc []) n a_spec_UsedBy.ann [s_spec_UsedBy_0 n] c_spec_UsedBy_0 (s_spec_UsedBy_0 n) :=
  ⟨by intro vs es x h; dsimp only [s_spec_UsedBy_0] at h; split at h; (· injection h with h; subst h; exact ⟨rfl, rfl⟩); (· cases h), fun _ _ => rfl, fun m x k => by kernel_rfl⟩
theorem r_spec_UsedBy_ok (n : Nat) : RwOk Go.Proofs.Try.prog tyK (r_spec_UsedBy n) :=
  ent_ok (fa := a_spec_UsedBy) (ls := [s_spec_UsedBy_0 n]) (cs := [c_spec_UsedBy_0]) (n := n) (es := []) mixedOk tbOk ents_nil Go.Proofs.Try.func24 (by kernel_rfl) (by kernel_rfl) (by kernel_rfl) (LSsOk.cons _ _ (l := s_spec_UsedBy_0 n) (by kernel_rfl) (s_spec_UsedBy_0_ok n) (LSsOk.nil _ _)) (fun x => by kernel_rfl)
/-! loop.example/g00185/impl.UsedBy$1 -/
noncomputable def a_impl_UsedBy_1 : FnA := ⟨Go.Proofs.Try.f63, ⟨[(0, [(0, .slot 0 .int)])], [], []⟩, 1⟩
def f_impl_UsedBy_1 (a0 : Turn) (a1_0 : Int) : Option (Bool × Unit) :=
  some ((decide (a0.Context = a1_0)), ())
def r_impl_UsedBy_1 : Rw := ⟨63, (.pair (.v (.agg (.pair .int (.pair .int (.pair .int .one))))) (.pair (.v (.rp (.pair .int .one) 0)) .one)), (.pair .bool .one), fun x => f_impl_UsedBy_1 (⟨x.1.1, x.1.2.1, x.1.2.2.1⟩ : Turn) x.2.1.1⟩
theorem r_impl_UsedBy_1_ok : RwOk Go.Proofs.Try.prog tyK (r_impl_UsedBy_1) :=
  ent_ok (fa := a_impl_UsedBy_1) (ls := []) (cs := []) (n := 0) (es := []) mixedOk tbOk ents_nil Go.Proofs.Try.func63 (by kernel_rfl) (by kernel_rfl) (by kernel_rfl) (LSsOk.nil _ _) (fun x => by kernel_rfl)
end Go.Proofs.Ytoedeimpfbebpaa.VR
