/- Functions, printed by program (wip/gen/emit.py). -/
import Derived.Test.YtoedeimpfbebpaaG05
set_option linter.unusedVariables false
set_option maxRecDepth 100000
namespace Go.Proofs.Ytoedeimpfbebpaa.VR
open Go
/-! loop.example/g00185/laws.heldShareS -/
noncomputable def a_laws_heldShareS : FnA := ⟨Go.Proofs.Try.f45, ⟨[], [], []⟩, 0⟩
def l_laws_heldShareS_0 {α : Type} (n : Nat) : Nat → List Share → Int → Int → (Int → Option α) → (Int → Option α) → Option α
  | 0, _, _, _, _, _ => none
  | m0 + 1, v1, v2, v3, k0_0, k0_1 =>
    cond (decide (v3 < ((v1).length : Int)))
     (cond ((decide (0 ≤ v3)) && (decide (v3 < ((v1).length : Int))))
       (let e4 := (!(decide ((List.getD v1 (Int.toNat v3) (Kd.dflt .share)).Q = v2)))
        cond e4
         (k0_0 v2)
         (cond ((decide (0 ≤ v3)) && (decide (v3 < ((v1).length : Int))))
           (let e5 := (!(decide ((List.getD v1 (Int.toNat v3) (Kd.dflt .share)).P = (w64 (v2 + 1)))))
            cond e5
             (k0_0 (w64 (v2 + 1)))
             (l_laws_heldShareS_0 n m0 v1 (w64 ((w64 (v2 + 1)) + 1)) (w64 (v3 + 1)) k0_0 k0_1))
           (none)))
       (none))
     (k0_1 v2)
def f_laws_heldShareS (n : Nat) (a0 : List Share) (a1 : Int) : Option (Int × Unit) :=
  l_laws_heldShareS_0 n n a0 a1 0
   (fun w6 =>
    some ((-1), ()))
   (fun w7 =>
    some (w7, ()))
def r_laws_heldShareS (n : Nat) : Rw := ⟨45, (.pair (.v (.ro .share)) (.pair (.v (.int)) .one)), (.pair .int .one), fun x => f_laws_heldShareS n x.1.2 x.2.1⟩
def s_laws_heldShareS_0 (n : Nat) : LS where
  la := ⟨2, [0, 1, 5], [], [], [1, 4], []⟩
  nt := 31
  kt := [0, 1, 5]
  hs := []
  X := Bool × List Share × Int × Int
  abs := fun vs es => match vs, es with | [.ro y0 .share y1, .int y2, .int y3], [] => some (y0, y1, y2, y3) | _, _ => none
  tms := fun x => [.ro x.1 .share x.2.1, .int x.2.2.1, .int x.2.2.2]
  ets := fun x => []
  run := fun m x k => l_laws_heldShareS_0 n m x.2.1 x.2.2.1 x.2.2.2 (fun w0 => k .ret ⟨layT [1, 4] [.int w0, .int (-1)] 0 31, layH [] []⟩) (fun w0 => k (.exit 0) ⟨layT [1] [.int w0] 0 31, layH [] []⟩)
noncomputable def c_laws_heldShareS_0 : Code := (Go.Proofs.Try.f45.body.bind (subLoop 2)).getD .skip
theorem s_laws_heldShareS_0_ok (n : Nat) : LSok Tb tyK (orc []) n a_laws_heldShareS.ann [s_laws_heldShareS_0 n] c_laws_heldShareS_0 (s_laws_heldShareS_0 n) :=
  ⟨by intro vs es x h; dsimp only [s_laws_heldShareS_0] at h; split at h; (· injection h with h; subst h; exact ⟨rfl, rfl⟩); (· cases h), fun _ _ => rfl, fun m x k => by kernel_rfl⟩
theorem r_laws_heldShareS_ok (n : Nat) : RwOk Go.Proofs.Try.prog tyK (r_laws_heldShareS n) :=
  ent_ok (fa := a_laws_heldShareS) (ls := [s_laws_heldShareS_0 n]) (cs := [c_laws_heldShareS_0]) (n := n) (es := []) mixedOk tbOk ents_nil Go.Proofs.Try.func45 (by kernel_rfl) (by kernel_rfl) (by kernel_rfl) (LSsOk.cons _ _ (l := s_laws_heldShareS_0 n) (by kernel_rfl) (s_laws_heldShareS_0_ok n) (LSsOk.nil _ _)) (fun x => by kernel_rfl)
/-! loop.example/g00185/laws.FnExactSharesOn -/
noncomputable def a_laws_FnExactSharesOn : FnA := ⟨Go.Proofs.Try.f11, ⟨[(0, [(0, .slot 0 .int)]), (2, [(2, .call [.ro, .ro] .int [] [])]), (5, [(1, .call [.ro] (.agg (.pair .int (.pair .int (.pair (.ro .task) (.pair (.ro .lock) (.pair (.ro .ghost) (.pair (.ro .int) (.pair .int (.pair .int (.pair (.ro .turn) .one)))))))))) [] []), (3, .call [.ro, .ro] (.ro .share) [] [])]), (6, [(1, .call [.ro] (.agg (.pair .int (.pair .int (.pair (.own .task) (.pair (.own .lock) (.pair (.own .ghost) (.pair (.own .int) (.pair .int (.pair .int (.pair (.own .turn) .one)))))))))) [] [some 1, some 2, some 3, some 4, some 5]), (2, .slot 6 .int)]), (7, [(2, .call [.ro, .ro] (.own .share) [] [some 7])]), (8, [(2, .call [.ro, .ro] .bool [] [])]), (10, [(2, .call [.ro] (.agg (.pair .int (.pair .int (.pair (.ro .task) (.pair (.ro .lock) (.pair (.ro .ghost) (.pair (.ro .int) (.pair .int (.pair .int (.pair (.ro .turn) .one)))))))))) [] []), (3, .call [.ro, .ro] .bool [] [])]), (13, [(2, .call [.mv, .ro] .int [.agg (.pair .junk (.pair .junk (.pair (.own .task) (.pair (.own .lock) (.pair (.own .ghost) (.pair (.own .int) (.pair .junk (.pair .junk (.pair (.own .turn) .one)))))))))] [])]), (14, [(5, .call [.ro, .ro] .bool [] [])]), (17, [(2, .call [.mv, .ro] .int [.own .share] [])]), (19, [(2, .call [.ro, .ro] .int [] [])]), (24, [(1, .call [.ro] (.agg (.pair .int (.pair .int (.pair (.ro .task) (.pair (.ro .lock) (.pair (.ro .ghost) (.pair (.ro .int) (.pair .int (.pair .int (.pair (.ro .turn) .one)))))))))) [] []), (3, .call [.ro, .ro] (.own .share) [] [none])]), (25, [(2, .call [.ro, .ro] .bool [] [])]), (28, [(2, .call [.ro, .ro] .int [] [])])], [(10, [([1, 2, 3, 4, 5, 6], []), ([0], []), ([], []), ([1, 2, 3, 4, 5], []), ([], [])])], []⟩, 8⟩
def f_laws_FnExactSharesOn (n : Nat) (a0 : Sys) (a1 : Int) : Option (Bool × Unit) :=
  (f_laws_szSys n a0 1048576).bind fun r1 =>
  cond (decide (r1.1 < 0))
   (some (true, ()))
   ((f_laws_toSys n a0).bind fun r2 =>
    (f_spec_SharesOn n (dnSys r2.1) a1).bind fun r3 =>
    (f_laws_toSys_1 n a0).bind fun r4 =>
    (f_impl_SharesOn_1 n (dnSys r4.1) a1).bind fun r5 =>
    (f_laws_eqShareS n r5.1 r3.1).bind fun r6 =>
    cond (!r6.1)
     (some (false, ()))
     ((f_laws_toSys n a0).bind fun r7 =>
      (f_laws_eqSys n (dnSys r4.1) (dnSys r7.1)).bind fun r8 =>
      cond (!r8.1)
       (some (false, ()))
       ((f_laws_markSys n (dnSys r4.1) 1).bind fun r9 =>
        cond (decide (r9.1 < 0))
         (some (false, ()))
         ((f_laws_eqShareS n r5.1 r3.1).bind fun r10 =>
          cond (!r10.1)
           (some (false, ()))
           ((f_laws_markShareS n r5.1 1).bind fun r11 =>
            (f_laws_heldShareS n r11.2.1 1).bind fun r12 =>
            cond (decide (r12.1 < 0))
             (some (false, ()))
             (cond (!(decide (r12.1 = r11.1)))
               (some (false, ()))
               ((f_laws_toSys n a0).bind fun r13 =>
                (f_impl_SharesOn n (dnSys r13.1) a1).bind fun r14 =>
                (f_laws_eqShareS n r14.1 r3.1).bind fun r15 =>
                cond (!r15.1)
                 (some (false, ()))
                 ((f_laws_heldShareS n r11.2.1 1).bind fun r16 =>
                  cond (decide (r16.1 < 0))
                   (some (false, ()))
                   (cond (!(decide (r16.1 = r11.1)))
                     (some (false, ()))
                     (some (true, ())))))))))))
def r_laws_FnExactSharesOn (n : Nat) : Rw := ⟨11, (.pair (.v (.agg (.pair .int (.pair .int (.pair (.ro .task) (.pair (.ro .lock) (.pair (.ro .ghost) (.pair (.ro .int) (.pair .int (.pair .int (.pair (.ro .turn) .one))))))))))) (.pair (.v (.int)) .one)), (.pair .bool .one), fun x => f_laws_FnExactSharesOn n (⟨x.1.1, x.1.2.1, x.1.2.2.1.2, x.1.2.2.2.1.2, x.1.2.2.2.2.1.2, x.1.2.2.2.2.2.1.2, x.1.2.2.2.2.2.2.1, x.1.2.2.2.2.2.2.2.1, x.1.2.2.2.2.2.2.2.2.1.2⟩ : Sys) x.2.1⟩
theorem r_laws_FnExactSharesOn_ok (n : Nat) : RwOk Go.Proofs.Try.prog tyK (r_laws_FnExactSharesOn n) :=
  ent_ok (fa := a_laws_FnExactSharesOn) (ls := []) (cs := []) (n := n) (es := [(r_laws_szSys n), (r_laws_toSys n), (r_spec_SharesOn n), (r_laws_toSys_1 n), (r_impl_SharesOn_1 n), (r_laws_eqShareS n), (r_laws_eqSys n), (r_laws_markSys n), (r_laws_markShareS n), (r_laws_heldShareS n), (r_impl_SharesOn n)]) mixedOk tbOk (ents_cons (r_laws_szSys_ok n) (ents_cons (r_laws_toSys_ok n) (ents_cons (r_spec_SharesOn_ok n) (ents_cons (r_laws_toSys_1_ok n) (ents_cons (r_impl_SharesOn_1_ok n) (ents_cons (r_laws_eqShareS_ok n) (ents_cons (r_laws_eqSys_ok n) (ents_cons (r_laws_markSys_ok n) (ents_cons (r_laws_markShareS_ok n) (ents_cons (r_laws_heldShareS_ok n) (ents_cons (r_impl_SharesOn_ok n) ents_nil))))))))))) Go.Proofs.Try.func11 (by kernel_rfl) (by kernel_rfl) (by kernel_rfl) (LSsOk.nil _ _) (fun x => by kernel_rfl)
/-! loop.example/g00185/spec.l3Clean -/
noncomputable def a_spec_l3Clean : FnA := ⟨Go.Proofs.Try.f140, ⟨[(0, [(0, .slot 0 .int)])], [], []⟩, 1⟩
def f_spec_l3Clean (a0 : Task) : Option (Bool × Unit) :=
  cond (decide (a0.Q = 0))
   (cond (decide (a0.P = 0))
     (cond (decide (a0.Prio = 0))
       (cond (decide (a0.Round = 0))
         (cond (decide (a0.Nice = 0))
           (cond (decide (a0.Class = 1))
             (cond (decide (a0.Seq = 0))
               (some ((decide (a0.V = 0)), ()))
               (some (false, ())))
             (cond (decide (a0.Class = 2))
               (cond (decide (a0.Due = 0))
                 (some ((decide (a0.V = 0)), ()))
                 (some (false, ())))
               (cond (decide (a0.Due = 0))
                 (cond (decide (a0.Seq = 0))
                   (some ((decide (a0.Left = 0)), ()))
                   (some (false, ())))
                 (some (false, ())))))
           (cond (decide (a0.Class = 1))
             (cond (decide (a0.Seq = 0))
               (some (false, ()))
               (some (false, ())))
             (cond (decide (a0.Class = 2))
               (cond (decide (a0.Due = 0))
                 (some (false, ()))
                 (some (false, ())))
               (cond (decide (a0.Due = 0))
                 (cond (decide (a0.Seq = 0))
                   (some ((decide (a0.Left = 0)), ()))
                   (some (false, ())))
                 (some (false, ()))))))
         (cond (decide (a0.Nice = 0))
           (cond (decide (a0.Class = 1))
             (some (false, ()))
             (cond (decide (a0.Class = 2))
               (cond (decide (a0.Due = 0))
                 (some ((decide (a0.V = 0)), ()))
                 (some (false, ())))
               (cond (decide (a0.Due = 0))
                 (some (false, ()))
                 (some (false, ())))))
           (cond (decide (a0.Class = 1))
             (some (false, ()))
             (cond (decide (a0.Class = 2))
               (cond (decide (a0.Due = 0))
                 (some (false, ()))
                 (some (false, ())))
               (cond (decide (a0.Due = 0))
                 (some (false, ()))
                 (some (false, ())))))))
       (cond (decide (a0.Nice = 0))
         (cond (decide (a0.Class = 1))
           (some (false, ()))
           (cond (decide (a0.Class = 2))
             (cond (decide (a0.Due = 0))
               (some ((decide (a0.V = 0)), ()))
               (some (false, ())))
             (cond (decide (a0.Due = 0))
               (some (false, ()))
               (some (false, ())))))
         (cond (decide (a0.Class = 1))
           (some (false, ()))
           (cond (decide (a0.Class = 2))
             (cond (decide (a0.Due = 0))
               (some (false, ()))
               (some (false, ())))
             (cond (decide (a0.Due = 0))
               (some (false, ()))
               (some (false, ())))))))
     (cond (decide (a0.Prio = 0))
       (cond (decide (a0.Round = 0))
         (cond (decide (a0.Nice = 0))
           (cond (decide (a0.Class = 1))
             (cond (decide (a0.Seq = 0))
               (some ((decide (a0.V = 0)), ()))
               (some (false, ())))
             (cond (decide (a0.Class = 2))
               (some (false, ()))
               (some (false, ()))))
           (cond (decide (a0.Class = 1))
             (cond (decide (a0.Seq = 0))
               (some (false, ()))
               (some (false, ())))
             (cond (decide (a0.Class = 2))
               (some (false, ()))
               (some (false, ())))))
         (cond (decide (a0.Nice = 0))
           (cond (decide (a0.Class = 1))
             (some (false, ()))
             (cond (decide (a0.Class = 2))
               (some (false, ()))
               (some (false, ()))))
           (cond (decide (a0.Class = 1))
             (some (false, ()))
             (cond (decide (a0.Class = 2))
               (some (false, ()))
               (some (false, ()))))))
       (cond (decide (a0.Nice = 0))
         (cond (decide (a0.Class = 1))
           (some (false, ()))
           (cond (decide (a0.Class = 2))
             (some (false, ()))
             (some (false, ()))))
         (cond (decide (a0.Class = 1))
           (some (false, ()))
           (cond (decide (a0.Class = 2))
             (some (false, ()))
             (some (false, ())))))))
   (cond (decide (a0.Prio = 0))
     (cond (decide (a0.Round = 0))
       (cond (decide (a0.Nice = 0))
         (cond (decide (a0.Class = 1))
           (cond (decide (a0.Seq = 0))
             (some ((decide (a0.V = 0)), ()))
             (some (false, ())))
           (cond (decide (a0.Class = 2))
             (some (false, ()))
             (some (false, ()))))
         (cond (decide (a0.Class = 1))
           (cond (decide (a0.Seq = 0))
             (some (false, ()))
             (some (false, ())))
           (cond (decide (a0.Class = 2))
             (some (false, ()))
             (some (false, ())))))
       (cond (decide (a0.Nice = 0))
         (cond (decide (a0.Class = 1))
           (some (false, ()))
           (cond (decide (a0.Class = 2))
             (some (false, ()))
             (some (false, ()))))
         (cond (decide (a0.Class = 1))
           (some (false, ()))
           (cond (decide (a0.Class = 2))
             (some (false, ()))
             (some (false, ()))))))
     (cond (decide (a0.Nice = 0))
       (cond (decide (a0.Class = 1))
         (some (false, ()))
         (cond (decide (a0.Class = 2))
           (some (false, ()))
           (some (false, ()))))
       (cond (decide (a0.Class = 1))
         (some (false, ()))
         (cond (decide (a0.Class = 2))
           (some (false, ()))
           (some (false, ()))))))
def r_spec_l3Clean : Rw := ⟨140, (.pair (.v (.agg (.pair .int (.pair .int (.pair .int (.pair .int (.pair .bool (.pair .int (.pair .int (.pair .int (.pair .int (.pair .int (.pair .int (.pair .int (.pair .int (.pair .int .one)))))))))))))))) .one), (.pair .bool .one), fun x => f_spec_l3Clean (⟨x.1.1, x.1.2.1, x.1.2.2.1, x.1.2.2.2.1, x.1.2.2.2.2.1, x.1.2.2.2.2.2.1, x.1.2.2.2.2.2.2.1, x.1.2.2.2.2.2.2.2.1, x.1.2.2.2.2.2.2.2.2.1, x.1.2.2.2.2.2.2.2.2.2.1, x.1.2.2.2.2.2.2.2.2.2.2.1, x.1.2.2.2.2.2.2.2.2.2.2.2.1, x.1.2.2.2.2.2.2.2.2.2.2.2.2.1, x.1.2.2.2.2.2.2.2.2.2.2.2.2.2.1⟩ : Task)⟩
theorem r_spec_l3Clean_ok : RwOk Go.Proofs.Try.prog tyK (r_spec_l3Clean) :=
  ent_ok (fa := a_spec_l3Clean) (ls := []) (cs := []) (n := 0) (es := []) mixedOk tbOk ents_nil Go.Proofs.Try.func140 (by kernel_rfl) (by kernel_rfl) (by kernel_rfl) (LSsOk.nil _ _) (fun x => by kernel_rfl)
/-! loop.example/g00185/spec.ShareOk -/
noncomputable def a_spec_ShareOk : FnA := ⟨Go.Proofs.Try.f127, ⟨[(0, [(0, .slot 0 .int)]), (1, [(2, .call [.ro, .ro, .ro] .bool [] []), (8, .call [.ro, .ro, .ro] .bool [] [])])], [], []⟩, 1⟩
def f_spec_ShareOk (a0 : Share) : Option (Bool × Unit) :=
  (f_spec_l1In a0.P 1 40).bind fun r1 =>
  cond r1.1
   ((f_spec_l1In a0.Q 1 a0.P).bind fun r2 =>
    some (r2.1, ()))
   (some (false, ()))
def r_spec_ShareOk : Rw := ⟨127, (.pair (.v (.agg (.pair .int (.pair .int .one)))) .one), (.pair .bool .one), fun x => f_spec_ShareOk (⟨x.1.1, x.1.2.1⟩ : Share)⟩
theorem r_spec_ShareOk_ok : RwOk Go.Proofs.Try.prog tyK (r_spec_ShareOk) :=
  ent_ok (fa := a_spec_ShareOk) (ls := []) (cs := []) (n := 0) (es := [r_spec_l1In]) mixedOk tbOk (ents_cons (r_spec_l1In_ok) ents_nil) Go.Proofs.Try.func127 (by kernel_rfl) (by kernel_rfl) (by kernel_rfl) (LSsOk.nil _ _) (fun x => by kernel_rfl)
/-! loop.example/g00185/spec.l1Min -/
noncomputable def a_spec_l1Min : FnA := ⟨Go.Proofs.Try.f141, ⟨[], [], []⟩, 0⟩
def f_spec_l1Min (a0 : Int) (a1 : Int) : Option (Int × Unit) :=
  cond (decide (a0 < a1))
   (some (a0, ()))
   (some (a1, ()))
def r_spec_l1Min : Rw := ⟨141, (.pair (.v (.int)) (.pair (.v (.int)) .one)), (.pair .int .one), fun x => f_spec_l1Min x.1 x.2.1⟩
theorem r_spec_l1Min_ok : RwOk Go.Proofs.Try.prog tyK (r_spec_l1Min) :=
  ent_ok (fa := a_spec_l1Min) (ls := []) (cs := []) (n := 0) (es := []) mixedOk tbOk ents_nil Go.Proofs.Try.func141 (by kernel_rfl) (by kernel_rfl) (by kernel_rfl) (LSsOk.nil _ _) (fun x => by kernel_rfl)
/-! loop.example/g00185/spec.NiceOk -/
noncomputable def a_spec_NiceOk : FnA := ⟨Go.Proofs.Try.f142, ⟨[(1, [(1, .call [.ro, .ro, .ro] .bool [] [])])], [], []⟩, 0⟩
def f_spec_NiceOk (a0 : Int) : Option (Bool × Unit) :=
  (f_spec_l1In a0 (-4) 4).bind fun r1 =>
  some (r1.1, ())
def r_spec_NiceOk : Rw := ⟨142, (.pair (.v (.int)) .one), (.pair .bool .one), fun x => f_spec_NiceOk x.1⟩
theorem r_spec_NiceOk_ok : RwOk Go.Proofs.Try.prog tyK (r_spec_NiceOk) :=
  ent_ok (fa := a_spec_NiceOk) (ls := []) (cs := []) (n := 0) (es := [r_spec_l1In]) mixedOk tbOk (ents_cons (r_spec_l1In_ok) ents_nil) Go.Proofs.Try.func142 (by kernel_rfl) (by kernel_rfl) (by kernel_rfl) (LSsOk.nil _ _) (fun x => by kernel_rfl)
/-! loop.example/g00185/spec.TaskOk -/
noncomputable def a_spec_TaskOk : FnA := ⟨Go.Proofs.Try.f119, ⟨[(0, [(0, .slot 0 .int)]), (1, [(2, .call [.ro, .ro, .ro] .bool [] []), (7, .call [.ro, .ro, .ro] .bool [] []), (13, .call [.ro, .ro, .ro] .bool [] []), (19, .call [.ro, .ro, .ro] .bool [] []), (24, .call [.ro] .bool [] [])]), (5, [(5, .call [.ro] .bool [] []), (11, .call [.ro, .ro, .ro] .bool [] []), (16, .call [.ro, .ro, .ro] .bool [] [])]), (7, [(2, .call [.ro, .ro, .ro] .bool [] []), (6, .call [.ro, .ro, .ro] .bool [] []), (13, .call [.ro, .ro] .int [] []), (16, .call [.ro, .ro, .ro] .bool [] []), (21, .call [.ro, .ro, .ro] .bool [] [])]), (8, [(2, .call [.ro] .bool [] []), (6, .call [.ro, .ro, .ro] .bool [] [])])], [(7, [([0], []), ([0], []), ([], []), ([], []), ([0], []), ([0], []), ([], []), ([], []), ([], []), ([0], []), ([0], []), ([0], []), ([0], []), ([], []), ([0], []), ([0], []), ([], []), ([], []), ([], []), ([0], []), ([0], []), ([], []), ([], []), ([], [])])], []⟩, 1⟩
def f_spec_TaskOk (a0 : Task) : Option (Bool × Unit) :=
  (f_spec_l1In a0.No 1 1000).bind fun r1 =>
  cond (!r1.1)
   (some (false, ()))
   ((f_spec_l1In a0.Class 1 3).bind fun r2 =>
    cond (!r2.1)
     (some (false, ()))
     ((f_spec_l1In a0.Cpu 0 3).bind fun r3 =>
      cond (!r3.1)
       (some (false, ()))
       ((f_spec_l1In a0.State 1 2).bind fun r4 =>
        cond (!r4.1)
         (some (false, ()))
         ((f_spec_l3Clean a0).bind fun r5 =>
          cond (!r5.1)
           (some (false, ()))
           (cond (decide (a0.Class = 1))
             ((f_spec_ShareOk (⟨a0.Q, a0.P⟩ : Share)).bind fun r6 =>
              cond r6.1
               ((f_spec_l1In a0.Left 0 a0.Q).bind fun r7 =>
                cond r7.1
                 ((f_spec_l1In a0.Due 0 100040).bind fun r8 =>
                  some (r8.1, ()))
                 (some (false, ())))
               (some (false, ())))
             (cond (decide (a0.Class = 2))
               ((f_spec_l1In a0.Prio 1 20).bind fun r9 =>
                cond r9.1
                 ((f_spec_l1In a0.Round 0 10).bind fun r10 =>
                  cond r10.1
                   ((f_spec_l1Min a0.Round 1).bind fun r11 =>
                    (f_spec_l1In a0.Left r11.1 a0.Round).bind fun r12 =>
                    cond r12.1
                     ((f_spec_l1In a0.Seq 0 1000000).bind fun r13 =>
                      some (r13.1, ()))
                     (some (false, ())))
                   (some (false, ())))
                 (some (false, ())))
               ((f_spec_NiceOk a0.Nice).bind fun r14 =>
                cond r14.1
                 ((f_spec_l1In a0.V 0 100000000).bind fun r15 =>
                  some (r15.1, ()))
                 (some (false, ())))))))))
def r_spec_TaskOk : Rw := ⟨119, (.pair (.v (.agg (.pair .int (.pair .int (.pair .int (.pair .int (.pair .bool (.pair .int (.pair .int (.pair .int (.pair .int (.pair .int (.pair .int (.pair .int (.pair .int (.pair .int .one)))))))))))))))) .one), (.pair .bool .one), fun x => f_spec_TaskOk (⟨x.1.1, x.1.2.1, x.1.2.2.1, x.1.2.2.2.1, x.1.2.2.2.2.1, x.1.2.2.2.2.2.1, x.1.2.2.2.2.2.2.1, x.1.2.2.2.2.2.2.2.1, x.1.2.2.2.2.2.2.2.2.1, x.1.2.2.2.2.2.2.2.2.2.1, x.1.2.2.2.2.2.2.2.2.2.2.1, x.1.2.2.2.2.2.2.2.2.2.2.2.1, x.1.2.2.2.2.2.2.2.2.2.2.2.2.1, x.1.2.2.2.2.2.2.2.2.2.2.2.2.2.1⟩ : Task)⟩
theorem r_spec_TaskOk_ok : RwOk Go.Proofs.Try.prog tyK (r_spec_TaskOk) :=
  ent_ok (fa := a_spec_TaskOk) (ls := []) (cs := []) (n := 0) (es := [r_spec_l1In, r_spec_l3Clean, r_spec_ShareOk, r_spec_l1Min, r_spec_NiceOk]) mixedOk tbOk (ents_cons (r_spec_l1In_ok) (ents_cons (r_spec_l3Clean_ok) (ents_cons (r_spec_ShareOk_ok) (ents_cons (r_spec_l1Min_ok) (ents_cons (r_spec_NiceOk_ok) ents_nil))))) Go.Proofs.Try.func119 (by kernel_rfl) (by kernel_rfl) (by kernel_rfl) (LSsOk.nil _ _) (fun x => by kernel_rfl)
/-! loop.example/g00185/spec.TasksOk -/
noncomputable def a_spec_TasksOk : FnA := ⟨Go.Proofs.Try.f86, ⟨[(4, [(4, .call [.ro] .bool [] [])])], [(4, [([], []), ([], []), ([], []), ([], []), ([], []), ([], []), ([], []), ([], []), ([], []), ([], []), ([], []), ([], []), ([], []), ([], []), ([], []), ([], []), ([], []), ([], []), ([], []), ([], []), ([], []), ([], []), ([], []), ([], [])])], []⟩, 0⟩
def l_spec_TasksOk_0 {α : Type} (n : Nat) : Nat → List Task → Int → (Option α) → (Option α) → Option α
  | 0, _, _, _, _ => none
  | m0 + 1, v1, v2, k0_0, k0_1 =>
    cond (decide (v2 < ((v1).length : Int)))
     (cond ((decide (0 ≤ v2)) && (decide (v2 < ((v1).length : Int))))
       ((f_spec_TaskOk (List.getD v1 (Int.toNat v2) (Kd.dflt .task))).bind fun r3 =>
        cond (!r3.1)
         (k0_0)
         (cond (decide (0 < v2))
           (cond ((decide (0 ≤ (w64 (v2 - 1)))) && (decide ((w64 (v2 - 1)) < ((v1).length : Int))))
             (cond ((decide (0 ≤ v2)) && (decide (v2 < ((v1).length : Int))))
               (let e4 := (decide ((List.getD v1 (Int.toNat v2) (Kd.dflt .task)).No ≤ (List.getD v1 (Int.toNat (w64 (v2 - 1))) (Kd.dflt .task)).No))
                cond e4
                 (k0_0)
                 (l_spec_TasksOk_0 n m0 v1 (w64 (v2 + 1)) k0_0 k0_1))
               (none))
             (none))
           (l_spec_TasksOk_0 n m0 v1 (w64 (v2 + 1)) k0_0 k0_1)))
       (none))
     (k0_1)
def f_spec_TasksOk (n : Nat) (a0 : List Task) : Option (Bool × Unit) :=
  l_spec_TasksOk_0 n n a0 0
   (some (false, ()))
   (some ((decide (((a0).length : Int) ≤ 12)), ()))
def r_spec_TasksOk (n : Nat) : Rw := ⟨86, (.pair (.v (.ro .task)) .one), (.pair .bool .one), fun x => f_spec_TasksOk n x.1.2⟩
def s_spec_TasksOk_0 (n : Nat) : LS where
  la := ⟨2, [0, 3], [], [], [0, 2], []⟩
  nt := 37
  kt := [0, 3]
  hs := []
  X := Bool × List Task × Int
  abs := fun vs es => match vs, es with | [.ro y0 .task y1, .int y2], [] => some (y0, y1, y2) | _, _ => none
  tms := fun x => [.ro x.1 .task x.2.1, .int x.2.2]
  ets := fun x => []
  run := fun m x k => l_spec_TasksOk_0 n m x.2.1 x.2.2 (k .ret ⟨layT [0, 2] [.ro x.1 .task x.2.1, .bool false] 0 37, layH [] []⟩) (k (.exit 0) ⟨layT [0] [.ro x.1 .task x.2.1] 0 37, layH [] []⟩)
noncomputable def c_spec_TasksOk_0 : Code := (Go.Proofs.Try.f86.body.bind (subLoop 2)).getD .skip
theorem s_spec_TasksOk_0_ok (n : Nat) : LSok Tb tyK (orc [r_spec_TaskOk]) n a_spec_TasksOk.ann [s_spec_TasksOk_0 n] c_spec_TasksOk_0 (s_spec_TasksOk_0 n) :=
  ⟨by intro vs es x h; dsimp only [s_spec_TasksOk_0] at h; split at h; (· injection h with h; subst h; exact ⟨rfl, rfl⟩); (· cases h), fun _ _ => rfl, fun m x k => by kernel_rfl⟩
theorem r_spec_TasksOk_ok (n : Nat) : RwOk Go.Proofs.Try.prog tyK (r_spec_TasksOk n) :=
  ent_ok (fa := a_spec_TasksOk) (ls := [s_spec_TasksOk_0 n]) (cs := [c_spec_TasksOk_0]) (n := n) (es := [r_spec_TaskOk]) mixedOk tbOk (ents_cons (r_spec_TaskOk_ok) ents_nil) Go.Proofs.Try.func86 (by kernel_rfl) (by kernel_rfl) (by kernel_rfl) (LSsOk.cons _ _ (l := s_spec_TasksOk_0 n) (by kernel_rfl) (s_spec_TasksOk_0_ok n) (LSsOk.nil _ _)) (fun x => by kernel_rfl)
/-! loop.example/g00185/spec.l7Has -/
noncomputable def a_spec_l7Has : FnA := ⟨Go.Proofs.Try.f159, ⟨[], [], []⟩, 0⟩
def l_spec_l7Has_0 {α : Type} (n : Nat) : Nat → List Int → Int → Int → (Option α) → (Option α) → Option α
  | 0, _, _, _, _, _ => none
  | m0 + 1, v1, v2, v3, k0_0, k0_1 =>
    cond (decide (v3 < ((v1).length : Int)))
     (cond ((decide (0 ≤ v3)) && (decide (v3 < ((v1).length : Int))))
       (cond (decide ((List.getD v1 (Int.toNat v3) (Kd.dflt .int)) = v2))
         (k0_0)
         (l_spec_l7Has_0 n m0 v1 v2 (w64 (v3 + 1)) k0_0 k0_1))
       (none))
     (k0_1)
def f_spec_l7Has (n : Nat) (a0 : List Int) (a1 : Int) : Option (Bool × Unit) :=
  l_spec_l7Has_0 n n a0 a1 0
   (some (true, ()))
   (some (false, ()))
def r_spec_l7Has (n : Nat) : Rw := ⟨159, (.pair (.v (.ro .int)) (.pair (.v (.int)) .one)), (.pair .bool .one), fun x => f_spec_l7Has n x.1.2 x.2.1⟩
def s_spec_l7Has_0 (n : Nat) : LS where
  la := ⟨2, [0, 1, 5], [], [], [4], []⟩
  nt := 18
  kt := [0, 1, 5]
  hs := []
  X := Bool × List Int × Int × Int
  abs := fun vs es => match vs, es with | [.ro y0 .int y1, .int y2, .int y3], [] => some (y0, y1, y2, y3) | _, _ => none
  tms := fun x => [.ro x.1 .int x.2.1, .int x.2.2.1, .int x.2.2.2]
  ets := fun x => []
  run := fun m x k => l_spec_l7Has_0 n m x.2.1 x.2.2.1 x.2.2.2 (k .ret ⟨layT [4] [.bool true] 0 18, layH [] []⟩) (k (.exit 0) ⟨layT [] [] 0 18, layH [] []⟩)
noncomputable def c_spec_l7Has_0 : Code := (Go.Proofs.Try.f159.body.bind (subLoop 2)).getD .skip
theorem s_spec_l7Has_0_ok (n : Nat) : LSok Tb tyK (orc []) n a_spec_l7Has.ann [s_spec_l7Has_0 n] c_spec_l7Has_0 (s_spec_l7Has_0 n) :=
  ⟨by intro vs es x h; dsimp only [s_spec_l7Has_0] at h; split at h; (· injection h with h; subst h; exact ⟨rfl, rfl⟩); (· cases h), fun _ _ => rfl, fun m x k => by kernel_rfl⟩
theorem r_spec_l7Has_ok (n : Nat) : RwOk Go.Proofs.Try.prog tyK (r_spec_l7Has n) :=
  ent_ok (fa := a_spec_l7Has) (ls := [s_spec_l7Has_0 n]) (cs := [c_spec_l7Has_0]) (n := n) (es := []) mixedOk tbOk ents_nil Go.Proofs.Try.func159 (by kernel_rfl) (by kernel_rfl) (by kernel_rfl) (LSsOk.cons _ _ (l := s_spec_l7Has_0 n) (by kernel_rfl) (s_spec_l7Has_0_ok n) (LSsOk.nil _ _)) (fun x => by kernel_rfl)
/-! loop.example/g00185/spec.WaitAt -/
noncomputable def a_spec_WaitAt : FnA := ⟨Go.Proofs.Try.f143, ⟨[(4, [(6, .call [.ro, .ro] .bool [] [])])], [], []⟩, 0⟩
def l_spec_WaitAt_0 {α : Type} (n : Nat) : Nat → List Lock → Int → Int → (Int → Option α) → (Option α) → Option α
  | 0, _, _, _, _, _ => none
  | m0 + 1, v1, v2, v3, k0_0, k0_1 =>
    cond (decide (v3 < ((v1).length : Int)))
     (cond ((decide (0 ≤ v3)) && (decide (v3 < ((v1).length : Int))))
       ((f_spec_l7Has n ((List.getD v1 (Int.toNat v3) (Kd.dflt .lock)).Waits) v2).bind fun r4 =>
        cond r4.1
         (k0_0 v3)
         (l_spec_WaitAt_0 n m0 v1 v2 (w64 (v3 + 1)) k0_0 k0_1))
       (none))
     (k0_1)
def f_spec_WaitAt (n : Nat) (a0 : List Lock) (a1 : Int) : Option (Int × Unit) :=
  l_spec_WaitAt_0 n n a0 a1 0
   (fun w5 =>
    some (w5, ()))
   (some ((-1), ()))
def r_spec_WaitAt (n : Nat) : Rw := ⟨143, (.pair (.v (.ro .lock)) (.pair (.v (.int)) .one)), (.pair .int .one), fun x => f_spec_WaitAt n x.1.2 x.2.1⟩
def s_spec_WaitAt_0 (n : Nat) : LS where
  la := ⟨2, [0, 1, 5], [], [], [4], []⟩
  nt := 20
  kt := [0, 1, 5]
  hs := []
  X := Bool × List Lock × Int × Int
  abs := fun vs es => match vs, es with | [.ro y0 .lock y1, .int y2, .int y3], [] => some (y0, y1, y2, y3) | _, _ => none
  tms := fun x => [.ro x.1 .lock x.2.1, .int x.2.2.1, .int x.2.2.2]
  ets := fun x => []
  run := fun m x k => l_spec_WaitAt_0 n m x.2.1 x.2.2.1 x.2.2.2 (fun w0 => k .ret ⟨layT [4] [.int w0] 0 20, layH [] []⟩) (k (.exit 0) ⟨layT [] [] 0 20, layH [] []⟩)
noncomputable def c_spec_WaitAt_0 : Code := (Go.Proofs.Try.f143.body.bind (subLoop 2)).getD .skip
theorem s_spec_WaitAt_0_ok (n : Nat) : LSok Tb tyK (orc [(r_spec_l7Has n)]) n a_spec_WaitAt.ann [s_spec_WaitAt_0 n] c_spec_WaitAt_0 (s_spec_WaitAt_0 n) :=
  ⟨by intro vs es x h; dsimp only [s_spec_WaitAt_0] at h; split at h; (· injection h with h; subst h; exact ⟨rfl, rfl⟩); (· cases h), fun _ _ => rfl, fun m x k => by kernel_rfl⟩
theorem r_spec_WaitAt_ok (n : Nat) : RwOk Go.Proofs.Try.prog tyK (r_spec_WaitAt n) :=
  ent_ok (fa := a_spec_WaitAt) (ls := [s_spec_WaitAt_0 n]) (cs := [c_spec_WaitAt_0]) (n := n) (es := [(r_spec_l7Has n)]) mixedOk tbOk (ents_cons (r_spec_l7Has_ok n) ents_nil) Go.Proofs.Try.func143 (by kernel_rfl) (by kernel_rfl) (by kernel_rfl) (LSsOk.cons _ _ (l := s_spec_WaitAt_0 n) (by kernel_rfl) (s_spec_WaitAt_0_ok n) (LSsOk.nil _ _)) (fun x => by kernel_rfl)
/-! loop.example/g00185/spec.l7Chain -/
noncomputable def a_spec_l7Chain : FnA := ⟨Go.Proofs.Try.f120, ⟨[(1, [(1, .slot 0 .int)]), (5, [(2, .call [.ro, .ro] .int [] [])]), (9, [(2, .slot 2 .int), (3, .slot 3 .int)])], [], []⟩, 4⟩
def l_spec_l7Chain_0 {α : Type} (n : Nat) : Nat → List Lock → Int → List Int → Int → (List Int → Option α) → (List Int → Option α) → Option α
  | 0, _, _, _, _, _, _ => none
  | m0 + 1, v1, v2, v3, v4, k0_0, k0_1 =>
    cond (decide (v4 ≤ ((v1).length : Int)))
     ((f_spec_WaitAt n v1 v2).bind fun r5 =>
      cond (decide (r5.1 < 0))
       (k0_0 v3)
       (cond ((decide (0 ≤ r5.1)) && (decide (r5.1 < ((v1).length : Int))))
         (let e6 := ([(List.getD v1 (Int.toNat r5.1) (Kd.dflt .lock)).Owner] : List Int)
          cond (decide ((v3).length + (e6).length ≤ lim))
           (l_spec_l7Chain_0 n m0 v1 ((List.getD v1 (Int.toNat r5.1) (Kd.dflt .lock)).Owner) (v3 ++ e6) (w64 (v4 + 1)) k0_0 k0_1)
           (none))
         (none)))
     (k0_1 v3)
def f_spec_l7Chain (n : Nat) (a0 : List Lock) (a1 : Int) : Option ((List Int × Bool × Unit) × Unit) :=
  l_spec_l7Chain_0 n n a0 a1 ([a1] : List Int) 0
   (fun w7 =>
    some ((w7, true, ()), ()))
   (fun w8 =>
    some ((w8, false, ()), ()))
def r_spec_l7Chain (n : Nat) : Rw := ⟨120, (.pair (.v (.ro .lock)) (.pair (.v (.int)) .one)), (.pair (.tup (.pair (.own .int) (.pair .bool .one))) .one), fun x => f_spec_l7Chain n x.1.2 x.2.1⟩
def s_spec_l7Chain_0 (n : Nat) : LS where
  la := ⟨3, [0, 1, 6, 7], [(.t 6, 1, .int)], [2, 3], [4, 5, 6], [1, 2, 3]⟩
  nt := 33
  kt := [0, 1, 6, 7]
  hs := [.dead, .k, .fresh, .fresh]
  X := Bool × List Lock × Int × List Int × Int
  abs := fun vs es => match vs, es with | [.ro y0 .lock y1, .int y2, .bor 1, .int y4], [.root .int y3 .ok] => some (y0, y1, y2, y3, y4) | _, _ => none
  tms := fun x => [.ro x.1 .lock x.2.1, .int x.2.2.1, .bor 1, .int x.2.2.2.2]
  ets := fun x => [.root .int x.2.2.2.1 .ok]
  run := fun m x k => l_spec_l7Chain_0 n m x.2.1 x.2.2.1 x.2.2.2.1 x.2.2.2.2 (fun w0 => k .ret ⟨layT [4, 5, 6] [.bor 1, .bool true, .bor 1] 0 33, layH [.dead, .k, .fresh, .fresh] [.root .int w0 .ok]⟩) (fun w0 => k (.exit 0) ⟨layT [6] [.bor 1] 0 33, layH [.dead, .k, .fresh, .fresh] [.root .int w0 .ok]⟩)
noncomputable def c_spec_l7Chain_0 : Code := (Go.Proofs.Try.f120.body.bind (subLoop 3)).getD .skip
theorem s_spec_l7Chain_0_ok (n : Nat) : LSok Tb tyK (orc [(r_spec_WaitAt n)]) n a_spec_l7Chain.ann [s_spec_l7Chain_0 n] c_spec_l7Chain_0 (s_spec_l7Chain_0 n) :=
  ⟨by intro vs es x h; dsimp only [s_spec_l7Chain_0] at h; split at h; (· injection h with h; subst h; exact ⟨rfl, rfl⟩); (· cases h), fun _ _ => rfl, fun m x k => by kernel_rfl⟩
theorem r_spec_l7Chain_ok (n : Nat) : RwOk Go.Proofs.Try.prog tyK (r_spec_l7Chain n) :=
  ent_ok (fa := a_spec_l7Chain) (ls := [s_spec_l7Chain_0 n]) (cs := [c_spec_l7Chain_0]) (n := n) (es := [(r_spec_WaitAt n)]) mixedOk tbOk (ents_cons (r_spec_WaitAt_ok n) ents_nil) Go.Proofs.Try.func120 (by kernel_rfl) (by kernel_rfl) (by kernel_rfl) (LSsOk.cons _ _ (l := s_spec_l7Chain_0 n) (by kernel_rfl) (s_spec_l7Chain_0_ok n) (LSsOk.nil _ _)) (fun x => by kernel_rfl)
/-! loop.example/g00185/spec.l7Waits -/
noncomputable def a_spec_l7Waits : FnA := ⟨Go.Proofs.Try.f121, ⟨[], [], []⟩, 0⟩
def l_spec_l7Waits_1 {α : Type} (n : Nat) : Nat → List Lock → Int → Int → Int → Int → (Int → Option α) → Option α
  | 0, _, _, _, _, _, _ => none
  | m1 + 1, v5, v6, v7, v8, v9, k1_0 =>
    cond ((decide (0 ≤ v8)) && (decide (v8 < ((v5).length : Int))))
     (let e10 := (((List.getD v5 (Int.toNat v8) (Kd.dflt .lock)).Waits).length : Int)
      cond (decide (v9 < e10))
       (cond ((decide (0 ≤ v8)) && (decide (v8 < ((v5).length : Int))))
         (cond ((decide (0 ≤ v9)) && (decide (v9 < (((List.getD v5 (Int.toNat v8) (Kd.dflt .lock)).Waits).length : Int))))
           (let e11 := (List.getD (List.getD v5 (Int.toNat v8) (Kd.dflt .lock)).Waits (Int.toNat v9) (Kd.dflt .int))
            cond (decide (e11 = v6))
             (l_spec_l7Waits_1 n m1 v5 v6 (w64 (v7 + 1)) v8 (w64 (v9 + 1)) k1_0)
             (l_spec_l7Waits_1 n m1 v5 v6 v7 v8 (w64 (v9 + 1)) k1_0))
           (none))
         (none))
       (k1_0 v7))
     (none)
def l_spec_l7Waits_0 {α : Type} (n : Nat) : Nat → List Lock → Int → Int → Int → (Int → Option α) → Option α
  | 0, _, _, _, _, _ => none
  | m0 + 1, v1, v2, v3, v4, k0_0 =>
    cond (decide (v4 < ((v1).length : Int)))
     (l_spec_l7Waits_1 n n v1 v2 v3 v4 0
       (fun w12 =>
        l_spec_l7Waits_0 n m0 v1 v2 w12 (w64 (v4 + 1)) k0_0))
     (k0_0 v3)
def f_spec_l7Waits (n : Nat) (a0 : List Lock) (a1 : Int) : Option (Int × Unit) :=
  l_spec_l7Waits_0 n n a0 a1 0 0
   (fun w13 =>
    some (w13, ()))
def r_spec_l7Waits (n : Nat) : Rw := ⟨121, (.pair (.v (.ro .lock)) (.pair (.v (.int)) .one)), (.pair .int .one), fun x => f_spec_l7Waits n x.1.2 x.2.1⟩
def s_spec_l7Waits_0 (n : Nat) : LS where
  la := ⟨3, [0, 1, 5, 6], [], [], [5], []⟩
  nt := 37
  kt := [0, 1, 5, 6]
  hs := []
  X := Bool × List Lock × Int × Int × Int
  abs := fun vs es => match vs, es with | [.ro y0 .lock y1, .int y2, .int y3, .int y4], [] => some (y0, y1, y2, y3, y4) | _, _ => none
  tms := fun x => [.ro x.1 .lock x.2.1, .int x.2.2.1, .int x.2.2.2.1, .int x.2.2.2.2]
  ets := fun x => []
  run := fun m x k => l_spec_l7Waits_0 n m x.2.1 x.2.2.1 x.2.2.2.1 x.2.2.2.2 (fun w0 => k (.exit 0) ⟨layT [5] [.int w0] 0 37, layH [] []⟩)
def s_spec_l7Waits_1 (n : Nat) : LS where
  la := ⟨6, [0, 1, 5, 6, 7], [], [], [0, 1, 5, 6], []⟩
  nt := 37
  kt := [0, 1, 5, 6, 7]
  hs := []
  X := Bool × List Lock × Int × Int × Int × Int
  abs := fun vs es => match vs, es with | [.ro y0 .lock y1, .int y2, .int y3, .int y4, .int y5], [] => some (y0, y1, y2, y3, y4, y5) | _, _ => none
  tms := fun x => [.ro x.1 .lock x.2.1, .int x.2.2.1, .int x.2.2.2.1, .int x.2.2.2.2.1, .int x.2.2.2.2.2]
  ets := fun x => []
  run := fun m x k => l_spec_l7Waits_1 n m x.2.1 x.2.2.1 x.2.2.2.1 x.2.2.2.2.1 x.2.2.2.2.2 (fun w0 => k (.exit 2) ⟨layT [0, 1, 5, 6] [.ro x.1 .lock x.2.1, .int x.2.2.1, .int w0, .int x.2.2.2.2.1] 0 37, layH [] []⟩)
noncomputable def c_spec_l7Waits_0 : Code := (Go.Proofs.Try.f121.body.bind (subLoop 3)).getD .skip
noncomputable def c_spec_l7Waits_1 : Code := (Go.Proofs.Try.f121.body.bind (subLoop 6)).getD .skip
theorem s_spec_l7Waits_0_ok (n : Nat) : LSok Tb tyK (orc []) n a_spec_l7Waits.ann [s_spec_l7Waits_0 n, s_spec_l7Waits_1 n] c_spec_l7Waits_0 (s_spec_l7Waits_0 n) :=
  ⟨by intro vs es x h; dsimp only [s_spec_l7Waits_0] at h; split at h; (· injection h with h; subst h; exact ⟨rfl, rfl⟩); (· cases h), fun _ _ => rfl, fun m x k => by kernel_rfl⟩
theorem s_spec_l7Waits_1_ok (n : Nat) : LSok Tb tyK (orc []) n a_spec_l7Waits.ann [s_spec_l7Waits_0 n, s_spec_l7Waits_1 n] c_spec_l7Waits_1 (s_spec_l7Waits_1 n) :=
  ⟨by intro vs es x h; dsimp only [s_spec_l7Waits_1] at h; split at h; (· injection h with h; subst h; exact ⟨rfl, rfl⟩); (· cases h), fun _ _ => rfl, fun m x k => by kernel_rfl⟩
theorem r_spec_l7Waits_ok (n : Nat) : RwOk Go.Proofs.Try.prog tyK (r_spec_l7Waits n) :=
  ent_ok (fa := a_spec_l7Waits) (ls := [s_spec_l7Waits_0 n, s_spec_l7Waits_1 n]) (cs := [c_spec_l7Waits_0, c_spec_l7Waits_1]) (n := n) (es := []) mixedOk tbOk ents_nil Go.Proofs.Try.func121 (by kernel_rfl) (by kernel_rfl) (by kernel_rfl) (LSsOk.cons _ _ (l := s_spec_l7Waits_0 n) (by kernel_rfl) (s_spec_l7Waits_0_ok n) (LSsOk.cons _ _ (l := s_spec_l7Waits_1 n) (by kernel_rfl) (s_spec_l7Waits_1_ok n) (LSsOk.nil _ _))) (fun x => by kernel_rfl)
end Go.Proofs.Ytoedeimpfbebpaa.VR
