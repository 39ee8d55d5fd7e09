/- Functions, printed by program (wip/gen/emit.py). -/
import Derived.Test.YtoedeimpfbebpaaG04
set_option linter.unusedVariables false
set_option maxRecDepth 100000
namespace Go.Proofs.Ytoedeimpfbebpaa.VR
open Go
/-! loop.example/g00185/laws.FnExactLastTurns -/
noncomputable def a_laws_FnExactLastTurns : FnA := ⟨Go.Proofs.Try.f10, ⟨[(0, [(0, .slot 0 .int)]), (2, [(2, .call [.ro, .ro] .int [] [])]), (5, [(1, .call [.ro] (.agg (.pair .int (.pair .int (.pair (.ro .task) (.pair (.ro .lock) (.pair (.ro .ghost) (.pair (.ro .int) (.pair .int (.pair .int (.pair (.ro .turn) .one)))))))))) [] []), (2, .call [.ro] (.own .turn) [] [none])]), (6, [(1, .call [.ro] (.agg (.pair .int (.pair .int (.pair (.own .task) (.pair (.own .lock) (.pair (.own .ghost) (.pair (.own .int) (.pair .int (.pair .int (.pair (.own .turn) .one)))))))))) [] [some 1, some 2, some 3, some 4, some 5]), (2, .slot 6 .int)]), (7, [(1, .call [.ro] (.own .turn) [] [some 7])]), (8, [(2, .call [.ro, .ro] .bool [] [])]), (10, [(2, .call [.ro] (.agg (.pair .int (.pair .int (.pair (.ro .task) (.pair (.ro .lock) (.pair (.ro .ghost) (.pair (.ro .int) (.pair .int (.pair .int (.pair (.ro .turn) .one)))))))))) [] []), (3, .call [.ro, .ro] .bool [] [])]), (13, [(2, .call [.mv, .ro] .int [.agg (.pair .junk (.pair .junk (.pair (.own .task) (.pair (.own .lock) (.pair (.own .ghost) (.pair (.own .int) (.pair .junk (.pair .junk (.pair (.own .turn) .one)))))))))] [])]), (14, [(5, .call [.ro, .ro] .bool [] [])]), (17, [(2, .call [.mv, .ro] .int [.own .turn] [])]), (19, [(2, .call [.ro, .ro] .int [] [])]), (24, [(1, .call [.ro] (.agg (.pair .int (.pair .int (.pair (.ro .task) (.pair (.ro .lock) (.pair (.ro .ghost) (.pair (.ro .int) (.pair .int (.pair .int (.pair (.ro .turn) .one)))))))))) [] []), (2, .call [.ro] (.ro .turn) [] [])]), (25, [(2, .call [.ro, .ro] .bool [] [])]), (28, [(2, .call [.ro, .ro] .int [] [])])], [(10, [([1, 2, 3, 4, 5, 6], []), ([0], []), ([], []), ([1, 2, 3, 4, 5], []), ([], [])])], []⟩, 8⟩
def f_laws_FnExactLastTurns (n : Nat) (a0 : Sys) : Option (Bool × Unit) :=
  (f_laws_szSys n a0 1048576).bind fun r1 =>
  cond (decide (r1.1 < 0))
   (some (true, ()))
   ((f_laws_toSys n a0).bind fun r2 =>
    (f_spec_LastTurns (dnSys r2.1)).bind fun r3 =>
    (f_laws_toSys_1 n a0).bind fun r4 =>
    (f_impl_LastTurns_1 (dnSys r4.1)).bind fun r5 =>
    (f_laws_eqTurnS n r5.1 r3.1).bind fun r6 =>
    cond (!r6.1)
     (some (false, ()))
     ((f_laws_toSys n a0).bind fun r7 =>
      (f_laws_eqSys n (dnSys r4.1) (dnSys r7.1)).bind fun r8 =>
      cond (!r8.1)
       (some (false, ()))
       ((f_laws_markSys n (dnSys r4.1) 1).bind fun r9 =>
        cond (decide (r9.1 < 0))
         (some (false, ()))
         ((f_laws_eqTurnS n r5.1 r3.1).bind fun r10 =>
          cond (!r10.1)
           (some (false, ()))
           ((f_laws_markTurnS n r5.1 1).bind fun r11 =>
            (f_laws_heldTurnS n r11.2.1 1).bind fun r12 =>
            cond (decide (r12.1 < 0))
             (some (false, ()))
             (cond (!(decide (r12.1 = r11.1)))
               (some (false, ()))
               ((f_laws_toSys n a0).bind fun r13 =>
                (f_impl_LastTurns (dnSys r13.1)).bind fun r14 =>
                (f_laws_eqTurnS n r14.1 r3.1).bind fun r15 =>
                cond (!r15.1)
                 (some (false, ()))
                 ((f_laws_heldTurnS n r11.2.1 1).bind fun r16 =>
                  cond (decide (r16.1 < 0))
                   (some (false, ()))
                   (cond (!(decide (r16.1 = r11.1)))
                     (some (false, ()))
                     (some (true, ())))))))))))
def r_laws_FnExactLastTurns (n : Nat) : Rw := ⟨10, (.pair (.v (.agg (.pair .int (.pair .int (.pair (.ro .task) (.pair (.ro .lock) (.pair (.ro .ghost) (.pair (.ro .int) (.pair .int (.pair .int (.pair (.ro .turn) .one))))))))))) .one), (.pair .bool .one), fun x => f_laws_FnExactLastTurns n (⟨x.1.1, x.1.2.1, x.1.2.2.1.2, x.1.2.2.2.1.2, x.1.2.2.2.2.1.2, x.1.2.2.2.2.2.1.2, x.1.2.2.2.2.2.2.1, x.1.2.2.2.2.2.2.2.1, x.1.2.2.2.2.2.2.2.2.1.2⟩ : Sys)⟩
theorem r_laws_FnExactLastTurns_ok (n : Nat) : RwOk Go.Proofs.Try.prog tyK (r_laws_FnExactLastTurns n) :=
  ent_ok (fa := a_laws_FnExactLastTurns) (ls := []) (cs := []) (n := n) (es := [(r_laws_szSys n), (r_laws_toSys n), r_spec_LastTurns, (r_laws_toSys_1 n), r_impl_LastTurns_1, (r_laws_eqTurnS n), (r_laws_eqSys n), (r_laws_markSys n), (r_laws_markTurnS n), (r_laws_heldTurnS n), r_impl_LastTurns]) mixedOk tbOk (ents_cons (r_laws_szSys_ok n) (ents_cons (r_laws_toSys_ok n) (ents_cons (r_spec_LastTurns_ok) (ents_cons (r_laws_toSys_1_ok n) (ents_cons (r_impl_LastTurns_1_ok) (ents_cons (r_laws_eqTurnS_ok n) (ents_cons (r_laws_eqSys_ok n) (ents_cons (r_laws_markSys_ok n) (ents_cons (r_laws_markTurnS_ok n) (ents_cons (r_laws_heldTurnS_ok n) (ents_cons (r_impl_LastTurns_ok) ents_nil))))))))))) Go.Proofs.Try.func10 (by kernel_rfl) (by kernel_rfl) (by kernel_rfl) (LSsOk.nil _ _) (fun x => by kernel_rfl)
/-! loop.example/g00185/spec.l9Shares -/
noncomputable def a_spec_l9Shares : FnA := ⟨Go.Proofs.Try.f83, ⟨[(0, [(0, .slot 0 .int)]), (1, [(0, .slot 1 .share)]), (5, [(5, .slot 3 .int)]), (7, [(6, .slot 4 .share), (7, .slot 5 .share)]), (12, [(7, .slot 7 .share), (8, .slot 8 .share)])], [], []⟩, 9⟩
def l_spec_l9Shares_0 {α : Type} (n : Nat) : Nat → Int → Sys → List Share → Int → (List Share → Option α) → Option α
  | 0, _, _, _, _, _ => none
  | m0 + 1, v1, v2, v3, v4, k0_0 =>
    cond (decide (v4 < ((v2.Tasks).length : Int)))
     (cond ((decide (0 ≤ v4)) && (decide (v4 < ((v2.Tasks).length : Int))))
       (let e5 := (decide ((List.getD v2.Tasks (Int.toNat v4) (Kd.dflt .task)).Cpu = v1))
        cond e5
         (let e6 := (decide ((List.getD v2.Tasks (Int.toNat v4) (Kd.dflt .task)).Class = 1))
          cond e6
           (let e7 := ([(⟨(List.getD v2.Tasks (Int.toNat v4) (Kd.dflt .task)).Q, (List.getD v2.Tasks (Int.toNat v4) (Kd.dflt .task)).P⟩ : Share)] : List Share)
            cond (decide ((v3).length + (e7).length ≤ lim))
             (l_spec_l9Shares_0 n m0 v1 v2 (v3 ++ e7) (w64 (v4 + 1)) k0_0)
             (none))
           (l_spec_l9Shares_0 n m0 v1 v2 v3 (w64 (v4 + 1)) k0_0))
         (l_spec_l9Shares_0 n m0 v1 v2 v3 (w64 (v4 + 1)) k0_0))
       (none))
     (k0_0 v3)
def l_spec_l9Shares_1 {α : Type} (n : Nat) : Nat → Int → Sys → List Share → Int → (List Share → Option α) → Option α
  | 0, _, _, _, _, _ => none
  | m1 + 1, v9, v10, v11, v12, k1_0 =>
    cond (decide (v12 < ((v10.Ghosts).length : Int)))
     (cond ((decide (0 ≤ v12)) && (decide (v12 < ((v10.Ghosts).length : Int))))
       (let e13 := (decide ((List.getD v10.Ghosts (Int.toNat v12) (Kd.dflt .ghost)).Cpu = v9))
        cond e13
         (cond ((decide (0 ≤ v12)) && (decide (v12 < ((v10.Ghosts).length : Int))))
           (let e14 := ([(List.getD v10.Ghosts (Int.toNat v12) (Kd.dflt .ghost)).S] : List Share)
            cond (decide ((v11).length + (e14).length ≤ lim))
             (l_spec_l9Shares_1 n m1 v9 v10 (v11 ++ e14) (w64 (v12 + 1)) k1_0)
             (none))
           (none))
         (l_spec_l9Shares_1 n m1 v9 v10 v11 (w64 (v12 + 1)) k1_0))
       (none))
     (k1_0 v11)
def f_spec_l9Shares (n : Nat) (a0 : Sys) (a1 : Int) : Option (List Share × Unit) :=
  l_spec_l9Shares_0 n n a1 a0 ([] : List Share) 0
   (fun w8 =>
    l_spec_l9Shares_1 n n a1 a0 w8 0
     (fun w15 =>
      some (w15, ())))
def r_spec_l9Shares (n : Nat) : Rw := ⟨83, (.pair (.v (.agg (.pair .int (.pair .int (.pair (.ro .task) (.pair (.ro .lock) (.pair (.ro .ghost) (.pair (.ro .int) (.pair .int (.pair .int (.pair (.ro .turn) .one))))))))))) (.pair (.v (.int)) .one)), (.pair (.own .share) .one), fun x => f_spec_l9Shares n (⟨x.1.1, x.1.2.1, x.1.2.2.1.2, x.1.2.2.2.1.2, x.1.2.2.2.2.1.2, x.1.2.2.2.2.2.1.2, x.1.2.2.2.2.2.2.1, x.1.2.2.2.2.2.2.2.1, x.1.2.2.2.2.2.2.2.2.1.2⟩ : Sys) x.2.1⟩
def s_spec_l9Shares_0 (n : Nat) : LS where
  la := ⟨3, [1, 2, 5, 6], [(.t 5, 2, .share)], [3, 4, 5], [1, 2, 5], [0, 2, 3, 4, 5, 6, 7, 8]⟩
  nt := 64
  kt := [1, 2, 5, 6]
  hs := [.k, .dead, .k, .fresh, .fresh, .fresh, .fresh, .fresh, .fresh]
  X := Int × Int × Int × Bool × List Task × Bool × List Lock × Bool × List Ghost × Bool × List Int × Int × Int × Bool × List Turn × List Share × Int
  abs := fun vs es => match vs, es with | [.int y0, .ptr 0 0, .bor 2, .int y16], [.box [.int y1, .int y2, .ro y3 .task y4, .ro y5 .lock y6, .ro y7 .ghost y8, .ro y9 .int y10, .int y11, .int y12, .ro y13 .turn y14], .root .share y15 .ok] => some (y0, y1, y2, y3, y4, y5, y6, y7, y8, y9, y10, y11, y12, y13, y14, y15, y16) | _, _ => none
  tms := fun x => [.int x.1, .ptr 0 0, .bor 2, .int x.2.2.2.2.2.2.2.2.2.2.2.2.2.2.2.2]
  ets := fun x => [.box [.int x.2.1, .int x.2.2.1, .ro x.2.2.2.1 .task x.2.2.2.2.1, .ro x.2.2.2.2.2.1 .lock x.2.2.2.2.2.2.1, .ro x.2.2.2.2.2.2.2.1 .ghost x.2.2.2.2.2.2.2.2.1, .ro x.2.2.2.2.2.2.2.2.2.1 .int x.2.2.2.2.2.2.2.2.2.2.1, .int x.2.2.2.2.2.2.2.2.2.2.2.1, .int x.2.2.2.2.2.2.2.2.2.2.2.2.1, .ro x.2.2.2.2.2.2.2.2.2.2.2.2.2.1 .turn x.2.2.2.2.2.2.2.2.2.2.2.2.2.2.1], .root .share x.2.2.2.2.2.2.2.2.2.2.2.2.2.2.2.1 .ok]
  run := fun m x k => l_spec_l9Shares_0 n m x.1 (⟨x.2.1, x.2.2.1, x.2.2.2.2.1, x.2.2.2.2.2.2.1, x.2.2.2.2.2.2.2.2.1, x.2.2.2.2.2.2.2.2.2.2.1, x.2.2.2.2.2.2.2.2.2.2.2.1, x.2.2.2.2.2.2.2.2.2.2.2.2.1, x.2.2.2.2.2.2.2.2.2.2.2.2.2.2.1⟩ : Sys) x.2.2.2.2.2.2.2.2.2.2.2.2.2.2.2.1 x.2.2.2.2.2.2.2.2.2.2.2.2.2.2.2.2 (fun w0 => k (.exit 0) ⟨layT [1, 2, 5] [.int x.1, .ptr 0 0, .bor 2] 0 64, layH [.k, .dead, .k, .fresh, .fresh, .fresh, .fresh, .fresh, .fresh] [.box [.int (⟨x.2.1, x.2.2.1, x.2.2.2.2.1, x.2.2.2.2.2.2.1, x.2.2.2.2.2.2.2.2.1, x.2.2.2.2.2.2.2.2.2.2.1, x.2.2.2.2.2.2.2.2.2.2.2.1, x.2.2.2.2.2.2.2.2.2.2.2.2.1, x.2.2.2.2.2.2.2.2.2.2.2.2.2.2.1⟩ : Sys).Now, .int (⟨x.2.1, x.2.2.1, x.2.2.2.2.1, x.2.2.2.2.2.2.1, x.2.2.2.2.2.2.2.2.1, x.2.2.2.2.2.2.2.2.2.2.1, x.2.2.2.2.2.2.2.2.2.2.2.1, x.2.2.2.2.2.2.2.2.2.2.2.2.1, x.2.2.2.2.2.2.2.2.2.2.2.2.2.2.1⟩ : Sys).Cpus, .ro x.2.2.2.1 .task (⟨x.2.1, x.2.2.1, x.2.2.2.2.1, x.2.2.2.2.2.2.1, x.2.2.2.2.2.2.2.2.1, x.2.2.2.2.2.2.2.2.2.2.1, x.2.2.2.2.2.2.2.2.2.2.2.1, x.2.2.2.2.2.2.2.2.2.2.2.2.1, x.2.2.2.2.2.2.2.2.2.2.2.2.2.2.1⟩ : Sys).Tasks, .ro x.2.2.2.2.2.1 .lock (⟨x.2.1, x.2.2.1, x.2.2.2.2.1, x.2.2.2.2.2.2.1, x.2.2.2.2.2.2.2.2.1, x.2.2.2.2.2.2.2.2.2.2.1, x.2.2.2.2.2.2.2.2.2.2.2.1, x.2.2.2.2.2.2.2.2.2.2.2.2.1, x.2.2.2.2.2.2.2.2.2.2.2.2.2.2.1⟩ : Sys).Locks, .ro x.2.2.2.2.2.2.2.1 .ghost (⟨x.2.1, x.2.2.1, x.2.2.2.2.1, x.2.2.2.2.2.2.1, x.2.2.2.2.2.2.2.2.1, x.2.2.2.2.2.2.2.2.2.2.1, x.2.2.2.2.2.2.2.2.2.2.2.1, x.2.2.2.2.2.2.2.2.2.2.2.2.1, x.2.2.2.2.2.2.2.2.2.2.2.2.2.2.1⟩ : Sys).Ghosts, .ro x.2.2.2.2.2.2.2.2.2.1 .int (⟨x.2.1, x.2.2.1, x.2.2.2.2.1, x.2.2.2.2.2.2.1, x.2.2.2.2.2.2.2.2.1, x.2.2.2.2.2.2.2.2.2.2.1, x.2.2.2.2.2.2.2.2.2.2.2.1, x.2.2.2.2.2.2.2.2.2.2.2.2.1, x.2.2.2.2.2.2.2.2.2.2.2.2.2.2.1⟩ : Sys).Floors, .int (⟨x.2.1, x.2.2.1, x.2.2.2.2.1, x.2.2.2.2.2.2.1, x.2.2.2.2.2.2.2.2.1, x.2.2.2.2.2.2.2.2.2.2.1, x.2.2.2.2.2.2.2.2.2.2.2.1, x.2.2.2.2.2.2.2.2.2.2.2.2.1, x.2.2.2.2.2.2.2.2.2.2.2.2.2.2.1⟩ : Sys).Seq, .int (⟨x.2.1, x.2.2.1, x.2.2.2.2.1, x.2.2.2.2.2.2.1, x.2.2.2.2.2.2.2.2.1, x.2.2.2.2.2.2.2.2.2.2.1, x.2.2.2.2.2.2.2.2.2.2.2.1, x.2.2.2.2.2.2.2.2.2.2.2.2.1, x.2.2.2.2.2.2.2.2.2.2.2.2.2.2.1⟩ : Sys).Missed, .ro x.2.2.2.2.2.2.2.2.2.2.2.2.2.1 .turn (⟨x.2.1, x.2.2.1, x.2.2.2.2.1, x.2.2.2.2.2.2.1, x.2.2.2.2.2.2.2.2.1, x.2.2.2.2.2.2.2.2.2.2.1, x.2.2.2.2.2.2.2.2.2.2.2.1, x.2.2.2.2.2.2.2.2.2.2.2.2.1, x.2.2.2.2.2.2.2.2.2.2.2.2.2.2.1⟩ : Sys).Trace], .root .share w0 .ok]⟩)
def s_spec_l9Shares_1 (n : Nat) : LS where
  la := ⟨9, [1, 2, 5, 8], [(.t 5, 6, .share)], [7, 8], [5], [3, 4, 5, 6, 7, 8]⟩
  nt := 64
  kt := [1, 2, 5, 8]
  hs := [.k, .dead, .dead, .fresh, .fresh, .fresh, .k, .fresh, .fresh]
  X := Int × Int × Int × Bool × List Task × Bool × List Lock × Bool × List Ghost × Bool × List Int × Int × Int × Bool × List Turn × List Share × Int
  abs := fun vs es => match vs, es with | [.int y0, .ptr 0 0, .bor 6, .int y16], [.box [.int y1, .int y2, .ro y3 .task y4, .ro y5 .lock y6, .ro y7 .ghost y8, .ro y9 .int y10, .int y11, .int y12, .ro y13 .turn y14], .root .share y15 .ok] => some (y0, y1, y2, y3, y4, y5, y6, y7, y8, y9, y10, y11, y12, y13, y14, y15, y16) | _, _ => none
  tms := fun x => [.int x.1, .ptr 0 0, .bor 6, .int x.2.2.2.2.2.2.2.2.2.2.2.2.2.2.2.2]
  ets := fun x => [.box [.int x.2.1, .int x.2.2.1, .ro x.2.2.2.1 .task x.2.2.2.2.1, .ro x.2.2.2.2.2.1 .lock x.2.2.2.2.2.2.1, .ro x.2.2.2.2.2.2.2.1 .ghost x.2.2.2.2.2.2.2.2.1, .ro x.2.2.2.2.2.2.2.2.2.1 .int x.2.2.2.2.2.2.2.2.2.2.1, .int x.2.2.2.2.2.2.2.2.2.2.2.1, .int x.2.2.2.2.2.2.2.2.2.2.2.2.1, .ro x.2.2.2.2.2.2.2.2.2.2.2.2.2.1 .turn x.2.2.2.2.2.2.2.2.2.2.2.2.2.2.1], .root .share x.2.2.2.2.2.2.2.2.2.2.2.2.2.2.2.1 .ok]
  run := fun m x k => l_spec_l9Shares_1 n m x.1 (⟨x.2.1, x.2.2.1, x.2.2.2.2.1, x.2.2.2.2.2.2.1, x.2.2.2.2.2.2.2.2.1, x.2.2.2.2.2.2.2.2.2.2.1, x.2.2.2.2.2.2.2.2.2.2.2.1, x.2.2.2.2.2.2.2.2.2.2.2.2.1, x.2.2.2.2.2.2.2.2.2.2.2.2.2.2.1⟩ : Sys) x.2.2.2.2.2.2.2.2.2.2.2.2.2.2.2.1 x.2.2.2.2.2.2.2.2.2.2.2.2.2.2.2.2 (fun w0 => k (.exit 2) ⟨layT [5] [.bor 6] 0 64, layH [.dead, .dead, .dead, .fresh, .fresh, .fresh, .k, .fresh, .fresh] [.root .share w0 .ok]⟩)
noncomputable def c_spec_l9Shares_0 : Code := (Go.Proofs.Try.f83.body.bind (subLoop 3)).getD .skip
noncomputable def c_spec_l9Shares_1 : Code := (Go.Proofs.Try.f83.body.bind (subLoop 9)).getD .skip
theorem s_spec_l9Shares_0_ok (n : Nat) : LSok Tb tyK (orc []) n a_spec_l9Shares.ann [s_spec_l9Shares_0 n, s_spec_l9Shares_1 n] c_spec_l9Shares_0 (s_spec_l9Shares_0 n) :=
  ⟨by intro vs es x h; dsimp only [s_spec_l9Shares_0] at h; split at h; (· injection h with h; subst h; exact ⟨rfl, rfl⟩); (· cases h), fun _ _ => rfl, fun m x k => by kernel_rfl⟩
theorem s_spec_l9Shares_1_ok (n : Nat) : LSok Tb tyK (orc []) n a_spec_l9Shares.ann [s_spec_l9Shares_0 n, s_spec_l9Shares_1 n] c_spec_l9Shares_1 (s_spec_l9Shares_1 n) :=
  ⟨by intro vs es x h; dsimp only [s_spec_l9Shares_1] at h; split at h; (· injection h with h; subst h; exact ⟨rfl, rfl⟩); (· cases h), fun _ _ => rfl, fun m x k => by kernel_rfl⟩
theorem r_spec_l9Shares_ok (n : Nat) : RwOk Go.Proofs.Try.prog tyK (r_spec_l9Shares n) :=
  ent_ok (fa := a_spec_l9Shares) (ls := [s_spec_l9Shares_0 n, s_spec_l9Shares_1 n]) (cs := [c_spec_l9Shares_0, c_spec_l9Shares_1]) (n := n) (es := []) mixedOk tbOk ents_nil Go.Proofs.Try.func83 (by kernel_rfl) (by kernel_rfl) (by kernel_rfl) (LSsOk.cons _ _ (l := s_spec_l9Shares_0 n) (by kernel_rfl) (s_spec_l9Shares_0_ok n) (LSsOk.cons _ _ (l := s_spec_l9Shares_1 n) (by kernel_rfl) (s_spec_l9Shares_1_ok n) (LSsOk.nil _ _))) (fun x => by kernel_rfl)
/-! loop.example/g00185/spec.SharesOn -/
noncomputable def a_spec_SharesOn : FnA := ⟨Go.Proofs.Try.f41, ⟨[(0, [(0, .slot 0 .int)]), (1, [(2, .call [.ro, .ro] (.own .share) [] [none])])], [], []⟩, 1⟩
def f_spec_SharesOn (n : Nat) (a0 : Sys) (a1 : Int) : Option (List Share × Unit) :=
  (f_spec_l9Shares n a0 a1).bind fun r1 =>
  some (r1.1, ())
def r_spec_SharesOn (n : Nat) : Rw := ⟨41, (.pair (.v (.agg (.pair .int (.pair .int (.pair (.ro .task) (.pair (.ro .lock) (.pair (.ro .ghost) (.pair (.ro .int) (.pair .int (.pair .int (.pair (.ro .turn) .one))))))))))) (.pair (.v (.int)) .one)), (.pair (.ro .share) .one), fun x => f_spec_SharesOn n (⟨x.1.1, x.1.2.1, x.1.2.2.1.2, x.1.2.2.2.1.2, x.1.2.2.2.2.1.2, x.1.2.2.2.2.2.1.2, x.1.2.2.2.2.2.2.1, x.1.2.2.2.2.2.2.2.1, x.1.2.2.2.2.2.2.2.2.1.2⟩ : Sys) x.2.1⟩
theorem r_spec_SharesOn_ok (n : Nat) : RwOk Go.Proofs.Try.prog tyK (r_spec_SharesOn n) :=
  ent_ok (fa := a_spec_SharesOn) (ls := []) (cs := []) (n := n) (es := [(r_spec_l9Shares n)]) mixedOk tbOk (ents_cons (r_spec_l9Shares_ok n) ents_nil) Go.Proofs.Try.func41 (by kernel_rfl) (by kernel_rfl) (by kernel_rfl) (LSsOk.nil _ _) (fun x => by kernel_rfl)
/-! loop.example/g00185/impl.SharesOn -/
noncomputable def a_impl_SharesOn : FnA := ⟨Go.Proofs.Try.f42, ⟨[(0, [(0, .slot 0 .int)]), (1, [(0, .slot 1 .share)]), (4, [(2, .slot 3 .int)]), (6, [(6, .slot 4 .share), (7, .slot 5 .share)]), (10, [(2, .slot 7 .int)]), (12, [(3, .slot 8 .share), (4, .slot 9 .share)])], [], []⟩, 10⟩
def l_impl_SharesOn_0 {α : Type} (n : Nat) : Nat → Int → Sys → List Share → List Task → Int → Int → (List Share → Option α) → Option α
  | 0, _, _, _, _, _, _, _ => none
  | m0 + 1, v1, v2, v3, v4, v5, v6, k0_0 =>
    cond (decide (v6 < v5))
     (cond ((decide (0 ≤ v6)) && (decide (v6 < ((v4).length : Int))))
       (let e7 := (decide ((List.getD v4 (Int.toNat v6) (Kd.dflt .task)).Class = 1))
        cond e7
         (let e8 := (decide ((List.getD v4 (Int.toNat v6) (Kd.dflt .task)).Cpu = v1))
          cond e8
           (let e9 := ([(⟨(List.getD v4 (Int.toNat v6) (Kd.dflt .task)).Q, (List.getD v4 (Int.toNat v6) (Kd.dflt .task)).P⟩ : Share)] : List Share)
            cond (decide ((v3).length + (e9).length ≤ lim))
             (l_impl_SharesOn_0 n m0 v1 v2 (v3 ++ e9) v4 v5 (w64 (v6 + 1)) k0_0)
             (none))
           (l_impl_SharesOn_0 n m0 v1 v2 v3 v4 v5 (w64 (v6 + 1)) k0_0))
         (l_impl_SharesOn_0 n m0 v1 v2 v3 v4 v5 (w64 (v6 + 1)) k0_0))
       (none))
     (k0_0 v3)
def l_impl_SharesOn_1 {α : Type} (n : Nat) : Nat → Int → List Share → List Ghost → Int → Int → (List Share → Option α) → Option α
  | 0, _, _, _, _, _, _ => none
  | m1 + 1, v11, v12, v13, v14, v15, k1_0 =>
    cond (decide (v15 < v14))
     (cond ((decide (0 ≤ v15)) && (decide (v15 < ((v13).length : Int))))
       (let e16 := (decide ((List.getD v13 (Int.toNat v15) (Kd.dflt .ghost)).Cpu = v11))
        cond e16
         (let e17 := ([(List.getD v13 (Int.toNat v15) (Kd.dflt .ghost)).S] : List Share)
          cond (decide ((v12).length + (e17).length ≤ lim))
           (l_impl_SharesOn_1 n m1 v11 (v12 ++ e17) v13 v14 (w64 (v15 + 1)) k1_0)
           (none))
         (l_impl_SharesOn_1 n m1 v11 v12 v13 v14 (w64 (v15 + 1)) k1_0))
       (none))
     (k1_0 v12)
def f_impl_SharesOn (n : Nat) (a0 : Sys) (a1 : Int) : Option (List Share × Unit) :=
  l_impl_SharesOn_0 n n a1 a0 ([] : List Share) a0.Tasks ((a0.Tasks).length : Int) 0
   (fun w10 =>
    l_impl_SharesOn_1 n n a1 w10 a0.Ghosts ((a0.Ghosts).length : Int) 0
     (fun w18 =>
      some (w18, ())))
def r_impl_SharesOn (n : Nat) : Rw := ⟨42, (.pair (.v (.agg (.pair .int (.pair .int (.pair (.ro .task) (.pair (.ro .lock) (.pair (.ro .ghost) (.pair (.ro .int) (.pair .int (.pair .int (.pair (.ro .turn) .one))))))))))) (.pair (.v (.int)) .one)), (.pair (.own .share) .one), fun x => f_impl_SharesOn n (⟨x.1.1, x.1.2.1, x.1.2.2.1.2, x.1.2.2.2.1.2, x.1.2.2.2.2.1.2, x.1.2.2.2.2.2.1.2, x.1.2.2.2.2.2.2.1, x.1.2.2.2.2.2.2.2.1, x.1.2.2.2.2.2.2.2.2.1.2⟩ : Sys) x.2.1⟩
def s_impl_SharesOn_0 (n : Nat) : LS where
  la := ⟨3, [1, 2, 5, 12, 13, 14], [(.t 5, 2, .share)], [3, 4, 5], [1, 2, 5], [0, 2, 3, 4, 5, 6, 7, 8, 9]⟩
  nt := 54
  kt := [1, 2, 5, 12, 13, 14]
  hs := [.k, .dead, .k, .fresh, .fresh, .fresh, .fresh, .fresh, .fresh, .fresh]
  X := Int × Int × Int × Bool × List Task × Bool × List Lock × Bool × List Ghost × Bool × List Int × Int × Int × Bool × List Turn × List Share × Bool × List Task × Int × Int
  abs := fun vs es => match vs, es with | [.int y0, .ptr 0 0, .bor 2, .ro y16 .task y17, .int y18, .int y19], [.box [.int y1, .int y2, .ro y3 .task y4, .ro y5 .lock y6, .ro y7 .ghost y8, .ro y9 .int y10, .int y11, .int y12, .ro y13 .turn y14], .root .share y15 .ok] => some (y0, y1, y2, y3, y4, y5, y6, y7, y8, y9, y10, y11, y12, y13, y14, y15, y16, y17, y18, y19) | _, _ => none
  tms := fun x => [.int x.1, .ptr 0 0, .bor 2, .ro x.2.2.2.2.2.2.2.2.2.2.2.2.2.2.2.2.1 .task x.2.2.2.2.2.2.2.2.2.2.2.2.2.2.2.2.2.1, .int x.2.2.2.2.2.2.2.2.2.2.2.2.2.2.2.2.2.2.1, .int x.2.2.2.2.2.2.2.2.2.2.2.2.2.2.2.2.2.2.2]
  ets := fun x => [.box [.int x.2.1, .int x.2.2.1, .ro x.2.2.2.1 .task x.2.2.2.2.1, .ro x.2.2.2.2.2.1 .lock x.2.2.2.2.2.2.1, .ro x.2.2.2.2.2.2.2.1 .ghost x.2.2.2.2.2.2.2.2.1, .ro x.2.2.2.2.2.2.2.2.2.1 .int x.2.2.2.2.2.2.2.2.2.2.1, .int x.2.2.2.2.2.2.2.2.2.2.2.1, .int x.2.2.2.2.2.2.2.2.2.2.2.2.1, .ro x.2.2.2.2.2.2.2.2.2.2.2.2.2.1 .turn x.2.2.2.2.2.2.2.2.2.2.2.2.2.2.1], .root .share x.2.2.2.2.2.2.2.2.2.2.2.2.2.2.2.1 .ok]
  run := fun m x k => l_impl_SharesOn_0 n m x.1 (⟨x.2.1, x.2.2.1, x.2.2.2.2.1, x.2.2.2.2.2.2.1, x.2.2.2.2.2.2.2.2.1, x.2.2.2.2.2.2.2.2.2.2.1, x.2.2.2.2.2.2.2.2.2.2.2.1, x.2.2.2.2.2.2.2.2.2.2.2.2.1, x.2.2.2.2.2.2.2.2.2.2.2.2.2.2.1⟩ : Sys) x.2.2.2.2.2.2.2.2.2.2.2.2.2.2.2.1 x.2.2.2.2.2.2.2.2.2.2.2.2.2.2.2.2.2.1 x.2.2.2.2.2.2.2.2.2.2.2.2.2.2.2.2.2.2.1 x.2.2.2.2.2.2.2.2.2.2.2.2.2.2.2.2.2.2.2 (fun w0 => k (.exit 0) ⟨layT [1, 2, 5] [.int x.1, .ptr 0 0, .bor 2] 0 54, layH [.k, .dead, .k, .fresh, .fresh, .fresh, .fresh, .fresh, .fresh, .fresh] [.box [.int (⟨x.2.1, x.2.2.1, x.2.2.2.2.1, x.2.2.2.2.2.2.1, x.2.2.2.2.2.2.2.2.1, x.2.2.2.2.2.2.2.2.2.2.1, x.2.2.2.2.2.2.2.2.2.2.2.1, x.2.2.2.2.2.2.2.2.2.2.2.2.1, x.2.2.2.2.2.2.2.2.2.2.2.2.2.2.1⟩ : Sys).Now, .int (⟨x.2.1, x.2.2.1, x.2.2.2.2.1, x.2.2.2.2.2.2.1, x.2.2.2.2.2.2.2.2.1, x.2.2.2.2.2.2.2.2.2.2.1, x.2.2.2.2.2.2.2.2.2.2.2.1, x.2.2.2.2.2.2.2.2.2.2.2.2.1, x.2.2.2.2.2.2.2.2.2.2.2.2.2.2.1⟩ : Sys).Cpus, .ro x.2.2.2.1 .task (⟨x.2.1, x.2.2.1, x.2.2.2.2.1, x.2.2.2.2.2.2.1, x.2.2.2.2.2.2.2.2.1, x.2.2.2.2.2.2.2.2.2.2.1, x.2.2.2.2.2.2.2.2.2.2.2.1, x.2.2.2.2.2.2.2.2.2.2.2.2.1, x.2.2.2.2.2.2.2.2.2.2.2.2.2.2.1⟩ : Sys).Tasks, .ro x.2.2.2.2.2.1 .lock (⟨x.2.1, x.2.2.1, x.2.2.2.2.1, x.2.2.2.2.2.2.1, x.2.2.2.2.2.2.2.2.1, x.2.2.2.2.2.2.2.2.2.2.1, x.2.2.2.2.2.2.2.2.2.2.2.1, x.2.2.2.2.2.2.2.2.2.2.2.2.1, x.2.2.2.2.2.2.2.2.2.2.2.2.2.2.1⟩ : Sys).Locks, .ro x.2.2.2.2.2.2.2.1 .ghost (⟨x.2.1, x.2.2.1, x.2.2.2.2.1, x.2.2.2.2.2.2.1, x.2.2.2.2.2.2.2.2.1, x.2.2.2.2.2.2.2.2.2.2.1, x.2.2.2.2.2.2.2.2.2.2.2.1, x.2.2.2.2.2.2.2.2.2.2.2.2.1, x.2.2.2.2.2.2.2.2.2.2.2.2.2.2.1⟩ : Sys).Ghosts, .ro x.2.2.2.2.2.2.2.2.2.1 .int (⟨x.2.1, x.2.2.1, x.2.2.2.2.1, x.2.2.2.2.2.2.1, x.2.2.2.2.2.2.2.2.1, x.2.2.2.2.2.2.2.2.2.2.1, x.2.2.2.2.2.2.2.2.2.2.2.1, x.2.2.2.2.2.2.2.2.2.2.2.2.1, x.2.2.2.2.2.2.2.2.2.2.2.2.2.2.1⟩ : Sys).Floors, .int (⟨x.2.1, x.2.2.1, x.2.2.2.2.1, x.2.2.2.2.2.2.1, x.2.2.2.2.2.2.2.2.1, x.2.2.2.2.2.2.2.2.2.2.1, x.2.2.2.2.2.2.2.2.2.2.2.1, x.2.2.2.2.2.2.2.2.2.2.2.2.1, x.2.2.2.2.2.2.2.2.2.2.2.2.2.2.1⟩ : Sys).Seq, .int (⟨x.2.1, x.2.2.1, x.2.2.2.2.1, x.2.2.2.2.2.2.1, x.2.2.2.2.2.2.2.2.1, x.2.2.2.2.2.2.2.2.2.2.1, x.2.2.2.2.2.2.2.2.2.2.2.1, x.2.2.2.2.2.2.2.2.2.2.2.2.1, x.2.2.2.2.2.2.2.2.2.2.2.2.2.2.1⟩ : Sys).Missed, .ro x.2.2.2.2.2.2.2.2.2.2.2.2.2.1 .turn (⟨x.2.1, x.2.2.1, x.2.2.2.2.1, x.2.2.2.2.2.2.1, x.2.2.2.2.2.2.2.2.1, x.2.2.2.2.2.2.2.2.2.2.1, x.2.2.2.2.2.2.2.2.2.2.2.1, x.2.2.2.2.2.2.2.2.2.2.2.2.1, x.2.2.2.2.2.2.2.2.2.2.2.2.2.2.1⟩ : Sys).Trace], .root .share w0 .ok]⟩)
def s_impl_SharesOn_1 (n : Nat) : LS where
  la := ⟨9, [1, 5, 37, 38, 39], [(.t 5, 6, .share)], [7, 8, 9], [5], [3, 4, 5, 6, 7, 8, 9]⟩
  nt := 54
  kt := [1, 5, 37, 38, 39]
  hs := [.dead, .dead, .dead, .fresh, .fresh, .fresh, .k, .fresh, .fresh, .fresh]
  X := Int × List Share × Bool × List Ghost × Int × Int
  abs := fun vs es => match vs, es with | [.int y0, .bor 6, .ro y2 .ghost y3, .int y4, .int y5], [.root .share y1 .ok] => some (y0, y1, y2, y3, y4, y5) | _, _ => none
  tms := fun x => [.int x.1, .bor 6, .ro x.2.2.1 .ghost x.2.2.2.1, .int x.2.2.2.2.1, .int x.2.2.2.2.2]
  ets := fun x => [.root .share x.2.1 .ok]
  run := fun m x k => l_impl_SharesOn_1 n m x.1 x.2.1 x.2.2.2.1 x.2.2.2.2.1 x.2.2.2.2.2 (fun w0 => k (.exit 2) ⟨layT [5] [.bor 6] 0 54, layH [.dead, .dead, .dead, .fresh, .fresh, .fresh, .k, .fresh, .fresh, .fresh] [.root .share w0 .ok]⟩)
noncomputable def c_impl_SharesOn_0 : Code := (Go.Proofs.Try.f42.body.bind (subLoop 3)).getD .skip
noncomputable def c_impl_SharesOn_1 : Code := (Go.Proofs.Try.f42.body.bind (subLoop 9)).getD .skip
theorem s_impl_SharesOn_0_ok (n : Nat) : LSok Tb tyK (orc []) n a_impl_SharesOn.ann [s_impl_SharesOn_0 n, s_impl_SharesOn_1 n] c_impl_SharesOn_0 (s_impl_SharesOn_0 n) :=
  ⟨by intro vs es x h; dsimp only [s_impl_SharesOn_0] at h; split at h; (· injection h with h; subst h; exact ⟨rfl, rfl⟩); (· cases h), fun _ _ => rfl, fun m x k => by kernel_rfl⟩
theorem s_impl_SharesOn_1_ok (n : Nat) : LSok Tb tyK (orc []) n a_impl_SharesOn.ann [s_impl_SharesOn_0 n, s_impl_SharesOn_1 n] c_impl_SharesOn_1 (s_impl_SharesOn_1 n) :=
  ⟨by intro vs es x h; dsimp only [s_impl_SharesOn_1] at h; split at h; (· injection h with h; subst h; exact ⟨rfl, rfl⟩); (· cases h), fun _ _ => rfl, fun m x k => by kernel_rfl⟩
theorem r_impl_SharesOn_ok (n : Nat) : RwOk Go.Proofs.Try.prog tyK (r_impl_SharesOn n) :=
  ent_ok (fa := a_impl_SharesOn) (ls := [s_impl_SharesOn_0 n, s_impl_SharesOn_1 n]) (cs := [c_impl_SharesOn_0, c_impl_SharesOn_1]) (n := n) (es := []) mixedOk tbOk ents_nil Go.Proofs.Try.func42 (by kernel_rfl) (by kernel_rfl) (by kernel_rfl) (LSsOk.cons _ _ (l := s_impl_SharesOn_0 n) (by kernel_rfl) (s_impl_SharesOn_0_ok n) (LSsOk.cons _ _ (l := s_impl_SharesOn_1 n) (by kernel_rfl) (s_impl_SharesOn_1_ok n) (LSsOk.nil _ _))) (fun x => by kernel_rfl)
/-! loop.example/g00185/laws.eqShareS -/
noncomputable def a_laws_eqShareS : FnA := ⟨Go.Proofs.Try.f43, ⟨[(6, [(8, .call [.ro, .ro] .bool [] [])])], [(6, [([], []), ([], []), ([], []), ([], []), ([], []), ([], []), ([], []), ([], []), ([], []), ([], [])])], []⟩, 0⟩
def l_laws_eqShareS_0 {α : Type} (n : Nat) : Nat → List Share → List Share → Int → (Option α) → (Option α) → Option α
  | 0, _, _, _, _, _ => none
  | m0 + 1, v1, v2, v3, k0_0, k0_1 =>
    cond (decide (v3 < ((v1).length : Int)))
     (cond ((decide (0 ≤ v3)) && (decide (v3 < ((v1).length : Int))))
       (cond ((decide (0 ≤ v3)) && (decide (v3 < ((v2).length : Int))))
         ((f_laws_eqShare (List.getD v1 (Int.toNat v3) (Kd.dflt .share)) (List.getD v2 (Int.toNat v3) (Kd.dflt .share))).bind fun r4 =>
          cond (!r4.1)
           (k0_0)
           (l_laws_eqShareS_0 n m0 v1 v2 (w64 (v3 + 1)) k0_0 k0_1))
         (none))
       (none))
     (k0_1)
def f_laws_eqShareS (n : Nat) (a0 : List Share) (a1 : List Share) : Option (Bool × Unit) :=
  cond (!(decide (((a0).length : Int) = ((a1).length : Int))))
   (some (false, ()))
   (l_laws_eqShareS_0 n n a0 a1 0
     (some (false, ()))
     (some (true, ())))
def r_laws_eqShareS (n : Nat) : Rw := ⟨43, (.pair (.v (.ro .share)) (.pair (.v (.ro .share)) .one)), (.pair .bool .one), fun x => f_laws_eqShareS n x.1.2 x.2.1.2⟩
def s_laws_eqShareS_0 (n : Nat) : LS where
  la := ⟨4, [0, 1, 5], [], [], [4], []⟩
  nt := 27
  kt := [0, 1, 5]
  hs := []
  X := Bool × List Share × Bool × List Share × Int
  abs := fun vs es => match vs, es with | [.ro y0 .share y1, .ro y2 .share y3, .int y4], [] => some (y0, y1, y2, y3, y4) | _, _ => none
  tms := fun x => [.ro x.1 .share x.2.1, .ro x.2.2.1 .share x.2.2.2.1, .int x.2.2.2.2]
  ets := fun x => []
  run := fun m x k => l_laws_eqShareS_0 n m x.2.1 x.2.2.2.1 x.2.2.2.2 (k .ret ⟨layT [4] [.bool false] 0 27, layH [] []⟩) (k (.exit 0) ⟨layT [] [] 0 27, layH [] []⟩)
noncomputable def c_laws_eqShareS_0 : Code := (Go.Proofs.Try.f43.body.bind (subLoop 4)).getD .skip
theorem s_laws_eqShareS_0_ok (n : Nat) : LSok Tb tyK (orc [r_laws_eqShare]) n a_laws_eqShareS.ann [s_laws_eqShareS_0 n] c_laws_eqShareS_0 (s_laws_eqShareS_0 n) :=
  ⟨by intro vs es x h; dsimp only [s_laws_eqShareS_0] at h; split at h; (· injection h with h; subst h; exact ⟨rfl, rfl⟩); (· cases h), fun _ _ => rfl, fun m x k => by kernel_rfl⟩
theorem r_laws_eqShareS_ok (n : Nat) : RwOk Go.Proofs.Try.prog tyK (r_laws_eqShareS n) :=
  ent_ok (fa := a_laws_eqShareS) (ls := [s_laws_eqShareS_0 n]) (cs := [c_laws_eqShareS_0]) (n := n) (es := [r_laws_eqShare]) mixedOk tbOk (ents_cons (r_laws_eqShare_ok) ents_nil) Go.Proofs.Try.func43 (by kernel_rfl) (by kernel_rfl) (by kernel_rfl) (LSsOk.cons _ _ (l := s_laws_eqShareS_0 n) (by kernel_rfl) (s_laws_eqShareS_0_ok n) (LSsOk.nil _ _)) (fun x => by kernel_rfl)
/-! loop.example/g00185/laws.markShareS -/
noncomputable def a_laws_markShareS : FnA := ⟨Go.Proofs.Try.f44, ⟨[], [], []⟩, 1⟩
def l_laws_markShareS_0 {α : Type} (n : Nat) : Nat → List Share → Int → Int → (Int → List Share → Option α) → Option α
  | 0, _, _, _, _ => none
  | m0 + 1, v1, v2, v3, k0_0 =>
    cond (decide (v3 < ((v1).length : Int)))
     (cond ((decide (0 ≤ v3)) && (decide (v3 < ((v1).length : Int))))
       (cond (decide ((Int.toNat v3) < (v1).length))
         (let e4 := (List.set v1 (Int.toNat v3) (⟨v2, (List.getD v1 (Int.toNat v3) (Kd.dflt .share)).P⟩ : Share))
          cond ((decide (0 ≤ v3)) && (decide (v3 < ((e4).length : Int))))
           (cond (decide ((Int.toNat v3) < (e4).length))
             (let e5 := (List.set e4 (Int.toNat v3) (⟨(List.getD e4 (Int.toNat v3) (Kd.dflt .share)).Q, (w64 (v2 + 1))⟩ : Share))
              l_laws_markShareS_0 n m0 e5 (w64 ((w64 (v2 + 1)) + 1)) (w64 (v3 + 1)) k0_0)
             (none))
           (none))
         (none))
       (none))
     (k0_0 v2 v1)
def f_laws_markShareS (n : Nat) (a0 : List Share) (a1 : Int) : Option (Int × List Share × Unit) :=
  l_laws_markShareS_0 n n a0 a1 0
   (fun w6 w7 =>
    some (w6, w7, ()))
def r_laws_markShareS (n : Nat) : Rw := ⟨44, (.pair (.own .share) (.pair (.v (.int)) .one)), (.pair .int (.pair (.own .share) .one)), fun x => f_laws_markShareS n x.1 x.2.1⟩
def s_laws_markShareS_0 (n : Nat) : LS where
  la := ⟨2, [0, 1, 5], [], [], [1], [0]⟩
  nt := 27
  kt := [0, 1, 5]
  hs := [.k]
  X := List Share × Int × Int
  abs := fun vs es => match vs, es with | [.bor 0, .int y1, .int y2], [.root .share y0 .ok] => some (y0, y1, y2) | _, _ => none
  tms := fun x => [.bor 0, .int x.2.1, .int x.2.2]
  ets := fun x => [.root .share x.1 .ok]
  run := fun m x k => l_laws_markShareS_0 n m x.1 x.2.1 x.2.2 (fun w0 w1 => k (.exit 0) ⟨layT [1] [.int w0] 0 27, layH [.k] [.root .share w1 .ok]⟩)
noncomputable def c_laws_markShareS_0 : Code := (Go.Proofs.Try.f44.body.bind (subLoop 2)).getD .skip
theorem s_laws_markShareS_0_ok (n : Nat) : LSok Tb tyK (orc []) n a_laws_markShareS.ann [s_laws_markShareS_0 n] c_laws_markShareS_0 (s_laws_markShareS_0 n) :=
  ⟨by intro vs es x h; dsimp only [s_laws_markShareS_0] at h; split at h; (· injection h with h; subst h; exact ⟨rfl, rfl⟩); (· cases h), fun _ _ => rfl, fun m x k => by kernel_rfl⟩
theorem r_laws_markShareS_ok (n : Nat) : RwOk Go.Proofs.Try.prog tyK (r_laws_markShareS n) :=
  ent_ok (fa := a_laws_markShareS) (ls := [s_laws_markShareS_0 n]) (cs := [c_laws_markShareS_0]) (n := n) (es := []) mixedOk tbOk ents_nil Go.Proofs.Try.func44 (by kernel_rfl) (by kernel_rfl) (by kernel_rfl) (LSsOk.cons _ _ (l := s_laws_markShareS_0 n) (by kernel_rfl) (s_laws_markShareS_0_ok n) (LSsOk.nil _ _)) (fun x => by kernel_rfl)
/-! loop.example/g00185/impl.SharesOn -/
noncomputable def a_impl_SharesOn_1 : FnA := ⟨Go.Proofs.Try.f42, ⟨[(0, [(0, .slot 0 .int)]), (1, [(0, .slot 1 .share)]), (4, [(2, .slot 3 .int)]), (6, [(6, .slot 4 .share), (7, .slot 5 .share)]), (10, [(2, .slot 7 .int)]), (12, [(3, .slot 8 .share), (4, .slot 9 .share)])], [], []⟩, 10⟩
def l_impl_SharesOn_1_0 {α : Type} (n : Nat) : Nat → Int → Sys → List Share → List Task → Int → Int → (List Share → Option α) → Option α
  | 0, _, _, _, _, _, _, _ => none
  | m0 + 1, v1, v2, v3, v4, v5, v6, k0_0 =>
    cond (decide (v6 < v5))
     (cond ((decide (0 ≤ v6)) && (decide (v6 < ((v4).length : Int))))
       (let e7 := (decide ((List.getD v4 (Int.toNat v6) (Kd.dflt .task)).Class = 1))
        cond e7
         (let e8 := (decide ((List.getD v4 (Int.toNat v6) (Kd.dflt .task)).Cpu = v1))
          cond e8
           (let e9 := ([(⟨(List.getD v4 (Int.toNat v6) (Kd.dflt .task)).Q, (List.getD v4 (Int.toNat v6) (Kd.dflt .task)).P⟩ : Share)] : List Share)
            cond (decide ((v3).length + (e9).length ≤ lim))
             (l_impl_SharesOn_1_0 n m0 v1 v2 (v3 ++ e9) v4 v5 (w64 (v6 + 1)) k0_0)
             (none))
           (l_impl_SharesOn_1_0 n m0 v1 v2 v3 v4 v5 (w64 (v6 + 1)) k0_0))
         (l_impl_SharesOn_1_0 n m0 v1 v2 v3 v4 v5 (w64 (v6 + 1)) k0_0))
       (none))
     (k0_0 v3)
def l_impl_SharesOn_1_1 {α : Type} (n : Nat) : Nat → Int → List Share → List Ghost → Int → Int → (List Share → Option α) → Option α
  | 0, _, _, _, _, _, _ => none
  | m1 + 1, v11, v12, v13, v14, v15, k1_0 =>
    cond (decide (v15 < v14))
     (cond ((decide (0 ≤ v15)) && (decide (v15 < ((v13).length : Int))))
       (let e16 := (decide ((List.getD v13 (Int.toNat v15) (Kd.dflt .ghost)).Cpu = v11))
        cond e16
         (let e17 := ([(List.getD v13 (Int.toNat v15) (Kd.dflt .ghost)).S] : List Share)
          cond (decide ((v12).length + (e17).length ≤ lim))
           (l_impl_SharesOn_1_1 n m1 v11 (v12 ++ e17) v13 v14 (w64 (v15 + 1)) k1_0)
           (none))
         (l_impl_SharesOn_1_1 n m1 v11 v12 v13 v14 (w64 (v15 + 1)) k1_0))
       (none))
     (k1_0 v12)
def f_impl_SharesOn_1 (n : Nat) (a0 : Sys) (a1 : Int) : Option (List Share × Unit) :=
  l_impl_SharesOn_1_0 n n a1 a0 ([] : List Share) a0.Tasks ((a0.Tasks).length : Int) 0
   (fun w10 =>
    l_impl_SharesOn_1_1 n n a1 w10 a0.Ghosts ((a0.Ghosts).length : Int) 0
     (fun w18 =>
      some (w18, ())))
def r_impl_SharesOn_1 (n : Nat) : Rw := ⟨42, (.pair (.v (.agg (.pair .int (.pair .int (.pair (.ro .task) (.pair (.ro .lock) (.pair (.ro .ghost) (.pair (.ro .int) (.pair .int (.pair .int (.pair (.ro .turn) .one))))))))))) (.pair (.v (.int)) .one)), (.pair (.own .share) .one), fun x => f_impl_SharesOn_1 n (⟨x.1.1, x.1.2.1, x.1.2.2.1.2, x.1.2.2.2.1.2, x.1.2.2.2.2.1.2, x.1.2.2.2.2.2.1.2, x.1.2.2.2.2.2.2.1, x.1.2.2.2.2.2.2.2.1, x.1.2.2.2.2.2.2.2.2.1.2⟩ : Sys) x.2.1⟩
def s_impl_SharesOn_1_0 (n : Nat) : LS where
  la := ⟨3, [1, 2, 5, 12, 13, 14], [(.t 5, 2, .share)], [3, 4, 5], [1, 2, 5], [0, 2, 3, 4, 5, 6, 7, 8, 9]⟩
  nt := 54
  kt := [1, 2, 5, 12, 13, 14]
  hs := [.k, .dead, .k, .fresh, .fresh, .fresh, .fresh, .fresh, .fresh, .fresh]
  X := Int × Int × Int × Bool × List Task × Bool × List Lock × Bool × List Ghost × Bool × List Int × Int × Int × Bool × List Turn × List Share × Bool × List Task × Int × Int
  abs := fun vs es => match vs, es with | [.int y0, .ptr 0 0, .bor 2, .ro y16 .task y17, .int y18, .int y19], [.box [.int y1, .int y2, .ro y3 .task y4, .ro y5 .lock y6, .ro y7 .ghost y8, .ro y9 .int y10, .int y11, .int y12, .ro y13 .turn y14], .root .share y15 .ok] => some (y0, y1, y2, y3, y4, y5, y6, y7, y8, y9, y10, y11, y12, y13, y14, y15, y16, y17, y18, y19) | _, _ => none
  tms := fun x => [.int x.1, .ptr 0 0, .bor 2, .ro x.2.2.2.2.2.2.2.2.2.2.2.2.2.2.2.2.1 .task x.2.2.2.2.2.2.2.2.2.2.2.2.2.2.2.2.2.1, .int x.2.2.2.2.2.2.2.2.2.2.2.2.2.2.2.2.2.2.1, .int x.2.2.2.2.2.2.2.2.2.2.2.2.2.2.2.2.2.2.2]
  ets := fun x => [.box [.int x.2.1, .int x.2.2.1, .ro x.2.2.2.1 .task x.2.2.2.2.1, .ro x.2.2.2.2.2.1 .lock x.2.2.2.2.2.2.1, .ro x.2.2.2.2.2.2.2.1 .ghost x.2.2.2.2.2.2.2.2.1, .ro x.2.2.2.2.2.2.2.2.2.1 .int x.2.2.2.2.2.2.2.2.2.2.1, .int x.2.2.2.2.2.2.2.2.2.2.2.1, .int x.2.2.2.2.2.2.2.2.2.2.2.2.1, .ro x.2.2.2.2.2.2.2.2.2.2.2.2.2.1 .turn x.2.2.2.2.2.2.2.2.2.2.2.2.2.2.1], .root .share x.2.2.2.2.2.2.2.2.2.2.2.2.2.2.2.1 .ok]
  run := fun m x k => l_impl_SharesOn_1_0 n m x.1 (⟨x.2.1, x.2.2.1, x.2.2.2.2.1, x.2.2.2.2.2.2.1, x.2.2.2.2.2.2.2.2.1, x.2.2.2.2.2.2.2.2.2.2.1, x.2.2.2.2.2.2.2.2.2.2.2.1, x.2.2.2.2.2.2.2.2.2.2.2.2.1, x.2.2.2.2.2.2.2.2.2.2.2.2.2.2.1⟩ : Sys) x.2.2.2.2.2.2.2.2.2.2.2.2.2.2.2.1 x.2.2.2.2.2.2.2.2.2.2.2.2.2.2.2.2.2.1 x.2.2.2.2.2.2.2.2.2.2.2.2.2.2.2.2.2.2.1 x.2.2.2.2.2.2.2.2.2.2.2.2.2.2.2.2.2.2.2 (fun w0 => k (.exit 0) ⟨layT [1, 2, 5] [.int x.1, .ptr 0 0, .bor 2] 0 54, layH [.k, .dead, .k, .fresh, .fresh, .fresh, .fresh, .fresh, .fresh, .fresh] [.box [.int (⟨x.2.1, x.2.2.1, x.2.2.2.2.1, x.2.2.2.2.2.2.1, x.2.2.2.2.2.2.2.2.1, x.2.2.2.2.2.2.2.2.2.2.1, x.2.2.2.2.2.2.2.2.2.2.2.1, x.2.2.2.2.2.2.2.2.2.2.2.2.1, x.2.2.2.2.2.2.2.2.2.2.2.2.2.2.1⟩ : Sys).Now, .int (⟨x.2.1, x.2.2.1, x.2.2.2.2.1, x.2.2.2.2.2.2.1, x.2.2.2.2.2.2.2.2.1, x.2.2.2.2.2.2.2.2.2.2.1, x.2.2.2.2.2.2.2.2.2.2.2.1, x.2.2.2.2.2.2.2.2.2.2.2.2.1, x.2.2.2.2.2.2.2.2.2.2.2.2.2.2.1⟩ : Sys).Cpus, .ro x.2.2.2.1 .task (⟨x.2.1, x.2.2.1, x.2.2.2.2.1, x.2.2.2.2.2.2.1, x.2.2.2.2.2.2.2.2.1, x.2.2.2.2.2.2.2.2.2.2.1, x.2.2.2.2.2.2.2.2.2.2.2.1, x.2.2.2.2.2.2.2.2.2.2.2.2.1, x.2.2.2.2.2.2.2.2.2.2.2.2.2.2.1⟩ : Sys).Tasks, .ro x.2.2.2.2.2.1 .lock (⟨x.2.1, x.2.2.1, x.2.2.2.2.1, x.2.2.2.2.2.2.1, x.2.2.2.2.2.2.2.2.1, x.2.2.2.2.2.2.2.2.2.2.1, x.2.2.2.2.2.2.2.2.2.2.2.1, x.2.2.2.2.2.2.2.2.2.2.2.2.1, x.2.2.2.2.2.2.2.2.2.2.2.2.2.2.1⟩ : Sys).Locks, .ro x.2.2.2.2.2.2.2.1 .ghost (⟨x.2.1, x.2.2.1, x.2.2.2.2.1, x.2.2.2.2.2.2.1, x.2.2.2.2.2.2.2.2.1, x.2.2.2.2.2.2.2.2.2.2.1, x.2.2.2.2.2.2.2.2.2.2.2.1, x.2.2.2.2.2.2.2.2.2.2.2.2.1, x.2.2.2.2.2.2.2.2.2.2.2.2.2.2.1⟩ : Sys).Ghosts, .ro x.2.2.2.2.2.2.2.2.2.1 .int (⟨x.2.1, x.2.2.1, x.2.2.2.2.1, x.2.2.2.2.2.2.1, x.2.2.2.2.2.2.2.2.1, x.2.2.2.2.2.2.2.2.2.2.1, x.2.2.2.2.2.2.2.2.2.2.2.1, x.2.2.2.2.2.2.2.2.2.2.2.2.1, x.2.2.2.2.2.2.2.2.2.2.2.2.2.2.1⟩ : Sys).Floors, .int (⟨x.2.1, x.2.2.1, x.2.2.2.2.1, x.2.2.2.2.2.2.1, x.2.2.2.2.2.2.2.2.1, x.2.2.2.2.2.2.2.2.2.2.1, x.2.2.2.2.2.2.2.2.2.2.2.1, x.2.2.2.2.2.2.2.2.2.2.2.2.1, x.2.2.2.2.2.2.2.2.2.2.2.2.2.2.1⟩ : Sys).Seq, .int (⟨x.2.1, x.2.2.1, x.2.2.2.2.1, x.2.2.2.2.2.2.1, x.2.2.2.2.2.2.2.2.1, x.2.2.2.2.2.2.2.2.2.2.1, x.2.2.2.2.2.2.2.2.2.2.2.1, x.2.2.2.2.2.2.2.2.2.2.2.2.1, x.2.2.2.2.2.2.2.2.2.2.2.2.2.2.1⟩ : Sys).Missed, .ro x.2.2.2.2.2.2.2.2.2.2.2.2.2.1 .turn (⟨x.2.1, x.2.2.1, x.2.2.2.2.1, x.2.2.2.2.2.2.1, x.2.2.2.2.2.2.2.2.1, x.2.2.2.2.2.2.2.2.2.2.1, x.2.2.2.2.2.2.2.2.2.2.2.1, x.2.2.2.2.2.2.2.2.2.2.2.2.1, x.2.2.2.2.2.2.2.2.2.2.2.2.2.2.1⟩ : Sys).Trace], .root .share w0 .ok]⟩)
def s_impl_SharesOn_1_1 (n : Nat) : LS where
  la := ⟨9, [1, 5, 37, 38, 39], [(.t 5, 6, .share)], [7, 8, 9], [5], [3, 4, 5, 6, 7, 8, 9]⟩
  nt := 54
  kt := [1, 5, 37, 38, 39]
  hs := [.dead, .dead, .dead, .fresh, .fresh, .fresh, .k, .fresh, .fresh, .fresh]
  X := Int × List Share × Bool × List Ghost × Int × Int
  abs := fun vs es => match vs, es with | [.int y0, .bor 6, .ro y2 .ghost y3, .int y4, .int y5], [.root .share y1 .ok] => some (y0, y1, y2, y3, y4, y5) | _, _ => none
  tms := fun x => [.int x.1, .bor 6, .ro x.2.2.1 .ghost x.2.2.2.1, .int x.2.2.2.2.1, .int x.2.2.2.2.2]
  ets := fun x => [.root .share x.2.1 .ok]
  run := fun m x k => l_impl_SharesOn_1_1 n m x.1 x.2.1 x.2.2.2.1 x.2.2.2.2.1 x.2.2.2.2.2 (fun w0 => k (.exit 2) ⟨layT [5] [.bor 6] 0 54, layH [.dead, .dead, .dead, .fresh, .fresh, .fresh, .k, .fresh, .fresh, .fresh] [.root .share w0 .ok]⟩)
noncomputable def c_impl_SharesOn_1_0 : Code := (Go.Proofs.Try.f42.body.bind (subLoop 3)).getD .skip
noncomputable def c_impl_SharesOn_1_1 : Code := (Go.Proofs.Try.f42.body.bind (subLoop 9)).getD .skip
theorem s_impl_SharesOn_1_0_ok (n : Nat) : LSok Tb tyK (orc []) n a_impl_SharesOn_1.ann [s_impl_SharesOn_1_0 n, s_impl_SharesOn_1_1 n] c_impl_SharesOn_1_0 (s_impl_SharesOn_1_0 n) :=
  ⟨by intro vs es x h; dsimp only [s_impl_SharesOn_1_0] at h; split at h; (· injection h with h; subst h; exact ⟨rfl, rfl⟩); (· cases h), fun _ _ => rfl, fun m x k => by kernel_rfl⟩
theorem s_impl_SharesOn_1_1_ok (n : Nat) : LSok Tb tyK (orc []) n a_impl_SharesOn_1.ann [s_impl_SharesOn_1_0 n, s_impl_SharesOn_1_1 n] c_impl_SharesOn_1_1 (s_impl_SharesOn_1_1 n) :=
  ⟨by intro vs es x h; dsimp only [s_impl_SharesOn_1_1] at h; split at h; (· injection h with h; subst h; exact ⟨rfl, rfl⟩); (· cases h), fun _ _ => rfl, fun m x k => by kernel_rfl⟩
theorem r_impl_SharesOn_1_ok (n : Nat) : RwOk Go.Proofs.Try.prog tyK (r_impl_SharesOn_1 n) :=
  ent_ok (fa := a_impl_SharesOn_1) (ls := [s_impl_SharesOn_1_0 n, s_impl_SharesOn_1_1 n]) (cs := [c_impl_SharesOn_1_0, c_impl_SharesOn_1_1]) (n := n) (es := []) mixedOk tbOk ents_nil Go.Proofs.Try.func42 (by kernel_rfl) (by kernel_rfl) (by kernel_rfl) (LSsOk.cons _ _ (l := s_impl_SharesOn_1_0 n) (by kernel_rfl) (s_impl_SharesOn_1_0_ok n) (LSsOk.cons _ _ (l := s_impl_SharesOn_1_1 n) (by kernel_rfl) (s_impl_SharesOn_1_1_ok n) (LSsOk.nil _ _))) (fun x => by kernel_rfl)
end Go.Proofs.Ytoedeimpfbebpaa.VR
