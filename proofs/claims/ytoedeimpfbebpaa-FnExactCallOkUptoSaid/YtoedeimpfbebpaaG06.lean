/- Functions, printed by program (wip/gen/emit.py). -/
import Derived.Test.YtoedeimpfbebpaaG05
set_option linter.unusedVariables false
set_option maxRecDepth 100000
namespace Go.Proofs.Ytoedeimpfbebpaa.VR
open Go
/-! loop.example/g00185/impl.Before -/
noncomputable def a_impl_Before : FnA := ⟨Go.Proofs.Try.f124, ⟨[(0, [(0, .slot 0 .int), (1, .slot 1 .int)]), (1, [(1, .call [.ro] .bool [] []), (5, .call [.ro] .bool [] [])]), (3, [(8, .call [.ro, .ro] .bool [] []), (13, .call [.ro, .ro] .bool [] []), (18, .call [.ro, .ro] .bool [] [])])], [], []⟩, 2⟩
def f_impl_Before (a0 : Task) (a1 : Task) : Option (Bool × Unit) :=
  (f_impl_TaskOk a0).bind fun r1 =>
  cond (!r1.1)
   (some (false, ()))
   ((f_impl_TaskOk a1).bind fun r2 =>
    cond (!r2.1)
     (some (false, ()))
     (cond (decide (a0.Class < a1.Class))
       (some (true, ()))
       ((f_impl_DueBefore a0 a1).bind fun r3 =>
        cond r3.1
         (some (true, ()))
         ((f_impl_FixedBefore a0 a1).bind fun r4 =>
          cond r4.1
           (some (true, ()))
           ((f_impl_FairBefore a0 a1).bind fun r5 =>
            some (r5.1, ()))))))
def r_impl_Before : Rw := ⟨124, (.pair (.v (.agg (.pair .int (.pair .int (.pair .int (.pair .int (.pair .bool (.pair .int (.pair .int (.pair .int (.pair .int (.pair .int (.pair .int (.pair .int (.pair .int (.pair .int .one)))))))))))))))) (.pair (.v (.agg (.pair .int (.pair .int (.pair .int (.pair .int (.pair .bool (.pair .int (.pair .int (.pair .int (.pair .int (.pair .int (.pair .int (.pair .int (.pair .int (.pair .int .one)))))))))))))))) .one)), (.pair .bool .one), fun x => f_impl_Before (⟨x.1.1, x.1.2.1, x.1.2.2.1, x.1.2.2.2.1, x.1.2.2.2.2.1, x.1.2.2.2.2.2.1, x.1.2.2.2.2.2.2.1, x.1.2.2.2.2.2.2.2.1, x.1.2.2.2.2.2.2.2.2.1, x.1.2.2.2.2.2.2.2.2.2.1, x.1.2.2.2.2.2.2.2.2.2.2.1, x.1.2.2.2.2.2.2.2.2.2.2.2.1, x.1.2.2.2.2.2.2.2.2.2.2.2.2.1, x.1.2.2.2.2.2.2.2.2.2.2.2.2.2.1⟩ : Task) (⟨x.2.1.1, x.2.1.2.1, x.2.1.2.2.1, x.2.1.2.2.2.1, x.2.1.2.2.2.2.1, x.2.1.2.2.2.2.2.1, x.2.1.2.2.2.2.2.2.1, x.2.1.2.2.2.2.2.2.2.1, x.2.1.2.2.2.2.2.2.2.2.1, x.2.1.2.2.2.2.2.2.2.2.2.1, x.2.1.2.2.2.2.2.2.2.2.2.2.1, x.2.1.2.2.2.2.2.2.2.2.2.2.2.1, x.2.1.2.2.2.2.2.2.2.2.2.2.2.2.1, x.2.1.2.2.2.2.2.2.2.2.2.2.2.2.2.1⟩ : Task)⟩
theorem r_impl_Before_ok : RwOk Go.Proofs.Try.prog tyK (r_impl_Before) :=
  ent_ok (fa := a_impl_Before) (ls := []) (cs := []) (n := 0) (es := [r_impl_TaskOk, r_impl_DueBefore, r_impl_FixedBefore, r_impl_FairBefore]) mixedOk tbOk (ents_cons (r_impl_TaskOk_ok) (ents_cons (r_impl_DueBefore_ok) (ents_cons (r_impl_FixedBefore_ok) (ents_cons (r_impl_FairBefore_ok) ents_nil)))) Go.Proofs.Try.func124 (by kernel_rfl) (by kernel_rfl) (by kernel_rfl) (LSsOk.nil _ _) (fun x => by kernel_rfl)
/-! loop.example/g00185/impl.first -/
noncomputable def a_impl_first : FnA := ⟨Go.Proofs.Try.f92, ⟨[(1, [(1, .slot 0 .int)]), (4, [(2, .slot 1 .int)]), (5, [(6, .call [.ro, .ro] .bool [] [])])], [], []⟩, 2⟩
def l_impl_first_0 {α : Type} (n : Nat) : Nat → Task → List Task → Int → Int → (Int → Int → Int → Int → Bool → Int → Int → Int → Int → Int → Int → Int → Int → Int → Option α) → Option α
  | 0, _, _, _, _, _ => none
  | m0 + 1, v1, v2, v3, v4, k0_0 =>
    cond (decide (v4 < v3))
     (cond ((decide (0 ≤ v4)) && (decide (v4 < ((v2).length : Int))))
       (cond (decide (v1.No = 0))
         (l_impl_first_0 n m0 (List.getD v2 (Int.toNat v4) (Kd.dflt .task)) v2 v3 (w64 (v4 + 1)) k0_0)
         ((f_impl_Before (List.getD v2 (Int.toNat v4) (Kd.dflt .task)) v1).bind fun r5 =>
          cond r5.1
           (l_impl_first_0 n m0 (List.getD v2 (Int.toNat v4) (Kd.dflt .task)) v2 v3 (w64 (v4 + 1)) k0_0)
           (l_impl_first_0 n m0 v1 v2 v3 (w64 (v4 + 1)) k0_0)))
       (none))
     (k0_0 v1.No v1.Class v1.Cpu v1.State v1.Idle v1.Q v1.P v1.Left v1.Due v1.Prio v1.Round v1.Seq v1.Nice v1.V)
def f_impl_first (n : Nat) (a0 : List Task) : Option (Int × Unit) :=
  l_impl_first_0 n n (⟨0, 0, 0, 0, false, 0, 0, 0, 0, 0, 0, 0, 0, 0⟩ : Task) a0 ((a0).length : Int) 0
   (fun w6 w7 w8 w9 w10 w11 w12 w13 w14 w15 w16 w17 w18 w19 =>
    some (w6, ()))
def r_impl_first (n : Nat) : Rw := ⟨92, (.pair (.v (.ro .task)) .one), (.pair .int .one), fun x => f_impl_first n x.1.2⟩
def s_impl_first_0 (n : Nat) : LS where
  la := ⟨3, [3, 7, 8, 9], [], [1], [3], [0, 1]⟩
  nt := 25
  kt := [3, 7, 8, 9]
  hs := [.k, .fresh]
  X := Int × Int × Int × Int × Bool × Int × Int × Int × Int × Int × Int × Int × Int × Int × Bool × List Task × Int × Int
  abs := fun vs es => match vs, es with | [.ptr 0 0, .ro y14 .task y15, .int y16, .int y17], [.box [.int y0, .int y1, .int y2, .int y3, .bool y4, .int y5, .int y6, .int y7, .int y8, .int y9, .int y10, .int y11, .int y12, .int y13]] => some (y0, y1, y2, y3, y4, y5, y6, y7, y8, y9, y10, y11, y12, y13, y14, y15, y16, y17) | _, _ => none
  tms := fun x => [.ptr 0 0, .ro x.2.2.2.2.2.2.2.2.2.2.2.2.2.2.1 .task x.2.2.2.2.2.2.2.2.2.2.2.2.2.2.2.1, .int x.2.2.2.2.2.2.2.2.2.2.2.2.2.2.2.2.1, .int x.2.2.2.2.2.2.2.2.2.2.2.2.2.2.2.2.2]
  ets := fun x => [.box [.int x.1, .int x.2.1, .int x.2.2.1, .int x.2.2.2.1, .bool x.2.2.2.2.1, .int x.2.2.2.2.2.1, .int x.2.2.2.2.2.2.1, .int x.2.2.2.2.2.2.2.1, .int x.2.2.2.2.2.2.2.2.1, .int x.2.2.2.2.2.2.2.2.2.1, .int x.2.2.2.2.2.2.2.2.2.2.1, .int x.2.2.2.2.2.2.2.2.2.2.2.1, .int x.2.2.2.2.2.2.2.2.2.2.2.2.1, .int x.2.2.2.2.2.2.2.2.2.2.2.2.2.1]]
  run := fun m x k => l_impl_first_0 n m (⟨x.1, x.2.1, x.2.2.1, x.2.2.2.1, x.2.2.2.2.1, x.2.2.2.2.2.1, x.2.2.2.2.2.2.1, x.2.2.2.2.2.2.2.1, x.2.2.2.2.2.2.2.2.1, x.2.2.2.2.2.2.2.2.2.1, x.2.2.2.2.2.2.2.2.2.2.1, x.2.2.2.2.2.2.2.2.2.2.2.1, x.2.2.2.2.2.2.2.2.2.2.2.2.1, x.2.2.2.2.2.2.2.2.2.2.2.2.2.1⟩ : Task) x.2.2.2.2.2.2.2.2.2.2.2.2.2.2.2.1 x.2.2.2.2.2.2.2.2.2.2.2.2.2.2.2.2.1 x.2.2.2.2.2.2.2.2.2.2.2.2.2.2.2.2.2 (fun w0 w1 w2 w3 w4 w5 w6 w7 w8 w9 w10 w11 w12 w13 => k (.exit 0) ⟨layT [3] [.ptr 0 0] 0 25, layH [.k, .fresh] [.box [.int w0, .int w1, .int w2, .int w3, .bool w4, .int w5, .int w6, .int w7, .int w8, .int w9, .int w10, .int w11, .int w12, .int w13]]⟩)
noncomputable def c_impl_first_0 : Code := (Go.Proofs.Try.f92.body.bind (subLoop 3)).getD .skip
theorem s_impl_first_0_ok (n : Nat) : LSok Tb tyK (orc [r_impl_Before]) n a_impl_first.ann [s_impl_first_0 n] c_impl_first_0 (s_impl_first_0 n) :=
  ⟨by intro vs es x h; dsimp only [s_impl_first_0] at h; split at h; (· injection h with h; subst h; exact ⟨rfl, rfl⟩); (· cases h), fun _ _ => rfl, fun m x k => by kernel_rfl⟩
theorem r_impl_first_ok (n : Nat) : RwOk Go.Proofs.Try.prog tyK (r_impl_first n) :=
  ent_ok (fa := a_impl_first) (ls := [s_impl_first_0 n]) (cs := [c_impl_first_0]) (n := n) (es := [r_impl_Before]) mixedOk tbOk (ents_cons (r_impl_Before_ok) ents_nil) Go.Proofs.Try.func92 (by kernel_rfl) (by kernel_rfl) (by kernel_rfl) (LSsOk.cons _ _ (l := s_impl_first_0 n) (by kernel_rfl) (s_impl_first_0_ok n) (LSsOk.nil _ _)) (fun x => by kernel_rfl)
/-! loop.example/g00185/impl.Pick -/
noncomputable def a_impl_Pick : FnA := ⟨Go.Proofs.Try.f51, ⟨[(1, [(3, .call [.ro, .ro, .ro] (.own .task) [] [none]), (4, .call [.ro] .int [] [])]), (4, [(4, .call [.ro, .ro, .ro] .int [] [])])], [], []⟩, 0⟩
def f_impl_Pick (n : Nat) (a0 : List Task) (a1 : List Lock) (a2 : Int) : Option ((Int × Int × Unit) × Unit) :=
  (f_impl_turners n a0 a1 a2).bind fun r1 =>
  (f_impl_first n r1.1).bind fun r2 =>
  cond (decide (r2.1 = 0))
   (some ((0, 0, ()), ()))
   ((f_impl_Executor n a0 a1 r2.1).bind fun r3 =>
    some ((r2.1, r3.1, ()), ()))
def r_impl_Pick (n : Nat) : Rw := ⟨51, (.pair (.v (.ro .task)) (.pair (.v (.ro .lock)) (.pair (.v (.int)) .one))), (.pair (.tup (.pair .int (.pair .int .one))) .one), fun x => f_impl_Pick n x.1.2 x.2.1.2 x.2.2.1⟩
theorem r_impl_Pick_ok (n : Nat) : RwOk Go.Proofs.Try.prog tyK (r_impl_Pick n) :=
  ent_ok (fa := a_impl_Pick) (ls := []) (cs := []) (n := n) (es := [(r_impl_turners n), (r_impl_first n), (r_impl_Executor n)]) mixedOk tbOk (ents_cons (r_impl_turners_ok n) (ents_cons (r_impl_first_ok n) (ents_cons (r_impl_Executor_ok n) ents_nil))) Go.Proofs.Try.func51 (by kernel_rfl) (by kernel_rfl) (by kernel_rfl) (LSsOk.nil _ _) (fun x => by kernel_rfl)
/-! loop.example/g00185/laws.FnExactPick -/
noncomputable def a_laws_FnExactPick : FnA := ⟨Go.Proofs.Try.f12, ⟨[(2, [(2, .call [.ro, .ro] .int [] [])]), (5, [(2, .call [.ro, .ro] .int [] [])]), (8, [(1, .call [.ro] (.own .task) [] [none]), (3, .call [.ro] (.own .lock) [] [none]), (5, .call [.ro, .ro, .ro] (.tup (.pair .int (.pair .int .one))) [] [])]), (9, [(1, .call [.ro] (.own .task) [] [none])]), (10, [(1, .call [.ro] (.own .lock) [] [none])]), (11, [(3, .call [.ro, .ro, .ro] (.tup (.pair .int (.pair .int .one))) [] [])]), (14, [(2, .call [.ro] (.own .task) [] [none]), (3, .call [.ro, .ro] .bool [] [])]), (16, [(2, .call [.ro] (.own .lock) [] [none]), (3, .call [.ro, .ro] .bool [] [])])], [], []⟩, 0⟩
def f_laws_FnExactPick (n : Nat) (a0 : List Task) (a1 : List Lock) (a2 : Int) : Option (Bool × Unit) :=
  (f_laws_szTaskS a0 1048576).bind fun r1 =>
  cond (decide (r1.1 < 0))
   (some (true, ()))
   ((f_laws_szLockS n a1 r1.1).bind fun r2 =>
    cond (decide (r2.1 < 0))
     (some (true, ()))
     ((f_laws_toTaskS n a0).bind fun r3 =>
      (f_laws_toLockS n a1).bind fun r4 =>
      (f_spec_Pick n r3.1 r4.1 a2).bind fun r5 =>
      (f_laws_toTaskS n a0).bind fun r6 =>
      (f_laws_toLockS n a1).bind fun r7 =>
      (f_impl_Pick n r6.1 r7.1 a2).bind fun r8 =>
      cond (!(decide (r8.1.1 = r5.1.1)))
       (some (false, ()))
       (cond (!(decide (r8.1.2.1 = r5.1.2.1)))
         (some (false, ()))
         ((f_laws_toTaskS n a0).bind fun r9 =>
          (f_laws_eqTaskS n r6.1 r9.1).bind fun r10 =>
          cond (!r10.1)
           (some (false, ()))
           ((f_laws_toLockS n a1).bind fun r11 =>
            (f_laws_eqLockS n r7.1 r11.1).bind fun r12 =>
            cond (!r12.1)
             (some (false, ()))
             (some (true, ())))))))
def r_laws_FnExactPick (n : Nat) : Rw := ⟨12, (.pair (.v (.ro .task)) (.pair (.v (.ro .lock)) (.pair (.v (.int)) .one))), (.pair .bool .one), fun x => f_laws_FnExactPick n x.1.2 x.2.1.2 x.2.2.1⟩
theorem r_laws_FnExactPick_ok (n : Nat) : RwOk Go.Proofs.Try.prog tyK (r_laws_FnExactPick n) :=
  ent_ok (fa := a_laws_FnExactPick) (ls := []) (cs := []) (n := n) (es := [r_laws_szTaskS, (r_laws_szLockS n), (r_laws_toTaskS n), (r_laws_toLockS n), (r_spec_Pick n), (r_impl_Pick n), (r_laws_eqTaskS n), (r_laws_eqLockS n)]) mixedOk tbOk (ents_cons (r_laws_szTaskS_ok) (ents_cons (r_laws_szLockS_ok n) (ents_cons (r_laws_toTaskS_ok n) (ents_cons (r_laws_toLockS_ok n) (ents_cons (r_spec_Pick_ok n) (ents_cons (r_impl_Pick_ok n) (ents_cons (r_laws_eqTaskS_ok n) (ents_cons (r_laws_eqLockS_ok n) ents_nil)))))))) Go.Proofs.Try.func12 (by kernel_rfl) (by kernel_rfl) (by kernel_rfl) (LSsOk.nil _ _) (fun x => by kernel_rfl)
/-! loop.example/g00185/spec.l9Locks -/
noncomputable def a_spec_l9Locks : FnA := ⟨Go.Proofs.Try.f97, ⟨[(0, [(0, .slot 0 .int)]), (1, [(7, .call [.ro] .bool [] [])]), (6, [(5, .slot 1 .int)]), (8, [(4, .call [.ro, .ro] .int [] [])]), (14, [(7, .call [.ro, .ro] .int [] [])])], [(14, [([0], []), ([0], []), ([1], []), ([1], []), ([], []), ([], []), ([], []), ([], []), ([], [])]), (15, [([], []), ([], []), ([], []), ([0], []), ([0], []), ([], []), ([], []), ([], []), ([], []), ([0], []), ([0], []), ([], []), ([], []), ([], []), ([], []), ([], []), ([], [])])], []⟩, 2⟩
def l_spec_l9Locks_1 {α : Type} (n : Nat) : Nat → Sys → Int → Lock → Int → Int → (Option α) → (Option α) → Option α
  | 0, _, _, _, _, _, _, _ => none
  | m1 + 1, v6, v7, v8, v9, v10, k1_0, k1_1 =>
    cond (decide (v10 < ((v8.Waits).length : Int)))
     (cond ((decide (0 ≤ v10)) && (decide (v10 < ((v8.Waits).length : Int))))
       ((f_spec_TaskAt n v6.Tasks (List.getD v8.Waits (Int.toNat v10) (Kd.dflt .int))).bind fun r11 =>
        cond (decide (r11.1 < 0))
         (k1_0)
         (cond ((decide (0 ≤ r11.1)) && (decide (r11.1 < ((v6.Tasks).length : Int))))
           (cond ((decide (0 ≤ v9)) && (decide (v9 < ((v6.Tasks).length : Int))))
             (let e12 := (!(decide ((List.getD v6.Tasks (Int.toNat r11.1) (Kd.dflt .task)).Cpu = (List.getD v6.Tasks (Int.toNat v9) (Kd.dflt .task)).Cpu)))
              cond e12
               (k1_0)
               (l_spec_l9Locks_1 n m1 v6 v7 v8 v9 (w64 (v10 + 1)) k1_0 k1_1))
             (none))
           (none)))
       (none))
     (k1_1)
def l_spec_l9Locks_0 {α : Type} (n : Nat) : Nat → Sys → Int → (Option α) → (Option α) → Option α
  | 0, _, _, _, _ => none
  | m0 + 1, v2, v3, k0_0, k0_1 =>
    cond (decide (v3 < ((v2.Locks).length : Int)))
     (cond ((decide (0 ≤ v3)) && (decide (v3 < ((v2.Locks).length : Int))))
       (let e4 := (decide ((List.getD v2.Locks (Int.toNat v3) (Kd.dflt .lock)).Owner = 0))
        cond e4
         (l_spec_l9Locks_0 n m0 v2 (w64 (v3 + 1)) k0_0 k0_1)
         ((f_spec_TaskAt n v2.Tasks ((List.getD v2.Locks (Int.toNat v3) (Kd.dflt .lock)).Owner)).bind fun r5 =>
          cond (decide (r5.1 < 0))
           (k0_0)
           (l_spec_l9Locks_1 n n v2 v3 (List.getD v2.Locks (Int.toNat v3) (Kd.dflt .lock)) r5.1 0
             (k0_0)
             (l_spec_l9Locks_0 n m0 v2 (w64 (v3 + 1)) k0_0 k0_1))))
       (none))
     (k0_1)
def f_spec_l9Locks (n : Nat) (a0 : Sys) : Option (Bool × Unit) :=
  cond (!(decide (((a0.Locks).length : Int) = 5)))
   (some (false, ()))
   ((f_spec_LocksOk n a0.Locks).bind fun r1 =>
    cond (!r1.1)
     (some (false, ()))
     (l_spec_l9Locks_0 n n a0 0
       (some (false, ()))
       (some (true, ()))))
def r_spec_l9Locks (n : Nat) : Rw := ⟨97, (.pair (.v (.agg (.pair .int (.pair .int (.pair (.ro .task) (.pair (.ro .lock) (.pair (.ro .ghost) (.pair (.ro .int) (.pair .int (.pair .int (.pair (.ro .turn) .one))))))))))) .one), (.pair .bool .one), fun x => f_spec_l9Locks n (⟨x.1.1, x.1.2.1, x.1.2.2.1.2, x.1.2.2.2.1.2, x.1.2.2.2.2.1.2, x.1.2.2.2.2.2.1.2, x.1.2.2.2.2.2.2.1, x.1.2.2.2.2.2.2.2.1, x.1.2.2.2.2.2.2.2.2.1.2⟩ : Sys)⟩
def s_spec_l9Locks_0 (n : Nat) : LS where
  la := ⟨4, [1, 3], [], [1], [2], []⟩
  nt := 72
  kt := [1, 3]
  hs := [.k, .fresh]
  X := Int × Int × Bool × List Task × Bool × List Lock × Bool × List Ghost × Bool × List Int × Int × Int × Bool × List Turn × Int
  abs := fun vs es => match vs, es with | [.ptr 0 0, .int y14], [.box [.int y0, .int y1, .ro y2 .task y3, .ro y4 .lock y5, .ro y6 .ghost y7, .ro y8 .int y9, .int y10, .int y11, .ro y12 .turn y13]] => some (y0, y1, y2, y3, y4, y5, y6, y7, y8, y9, y10, y11, y12, y13, y14) | _, _ => none
  tms := fun x => [.ptr 0 0, .int x.2.2.2.2.2.2.2.2.2.2.2.2.2.2]
  ets := fun x => [.box [.int x.1, .int x.2.1, .ro x.2.2.1 .task x.2.2.2.1, .ro x.2.2.2.2.1 .lock x.2.2.2.2.2.1, .ro x.2.2.2.2.2.2.1 .ghost x.2.2.2.2.2.2.2.1, .ro x.2.2.2.2.2.2.2.2.1 .int x.2.2.2.2.2.2.2.2.2.1, .int x.2.2.2.2.2.2.2.2.2.2.1, .int x.2.2.2.2.2.2.2.2.2.2.2.1, .ro x.2.2.2.2.2.2.2.2.2.2.2.2.1 .turn x.2.2.2.2.2.2.2.2.2.2.2.2.2.1]]
  run := fun m x k => l_spec_l9Locks_0 n m (⟨x.1, x.2.1, x.2.2.2.1, x.2.2.2.2.2.1, x.2.2.2.2.2.2.2.1, x.2.2.2.2.2.2.2.2.2.1, x.2.2.2.2.2.2.2.2.2.2.1, x.2.2.2.2.2.2.2.2.2.2.2.1, x.2.2.2.2.2.2.2.2.2.2.2.2.2.1⟩ : Sys) x.2.2.2.2.2.2.2.2.2.2.2.2.2.2 (k .ret ⟨layT [2] [.bool false] 0 72, layH [.dead, .dead] []⟩) (k (.exit 0) ⟨layT [] [] 0 72, layH [.dead, .dead] []⟩)
def s_spec_l9Locks_1 (n : Nat) : LS where
  la := ⟨12, [1, 3, 4, 5, 6], [], [], [1, 2, 3], [0]⟩
  nt := 72
  kt := [1, 3, 4, 5, 6]
  hs := [.k, .k]
  X := Int × Int × Bool × List Task × Bool × List Lock × Bool × List Ghost × Bool × List Int × Int × Int × Bool × List Turn × Int × Int × Bool × List Int × Int × Int
  abs := fun vs es => match vs, es with | [.ptr 0 0, .int y14, .ptr 1 0, .int y18, .int y19], [.box [.int y0, .int y1, .ro y2 .task y3, .ro y4 .lock y5, .ro y6 .ghost y7, .ro y8 .int y9, .int y10, .int y11, .ro y12 .turn y13], .box [.int y15, .ro y16 .int y17]] => some (y0, y1, y2, y3, y4, y5, y6, y7, y8, y9, y10, y11, y12, y13, y14, y15, y16, y17, y18, y19) | _, _ => none
  tms := fun x => [.ptr 0 0, .int x.2.2.2.2.2.2.2.2.2.2.2.2.2.2.1, .ptr 1 0, .int x.2.2.2.2.2.2.2.2.2.2.2.2.2.2.2.2.2.2.1, .int x.2.2.2.2.2.2.2.2.2.2.2.2.2.2.2.2.2.2.2]
  ets := fun x => [.box [.int x.1, .int x.2.1, .ro x.2.2.1 .task x.2.2.2.1, .ro x.2.2.2.2.1 .lock x.2.2.2.2.2.1, .ro x.2.2.2.2.2.2.1 .ghost x.2.2.2.2.2.2.2.1, .ro x.2.2.2.2.2.2.2.2.1 .int x.2.2.2.2.2.2.2.2.2.1, .int x.2.2.2.2.2.2.2.2.2.2.1, .int x.2.2.2.2.2.2.2.2.2.2.2.1, .ro x.2.2.2.2.2.2.2.2.2.2.2.2.1 .turn x.2.2.2.2.2.2.2.2.2.2.2.2.2.1], .box [.int x.2.2.2.2.2.2.2.2.2.2.2.2.2.2.2.1, .ro x.2.2.2.2.2.2.2.2.2.2.2.2.2.2.2.2.1 .int x.2.2.2.2.2.2.2.2.2.2.2.2.2.2.2.2.2.1]]
  run := fun m x k => l_spec_l9Locks_1 n m (⟨x.1, x.2.1, x.2.2.2.1, x.2.2.2.2.2.1, x.2.2.2.2.2.2.2.1, x.2.2.2.2.2.2.2.2.2.1, x.2.2.2.2.2.2.2.2.2.2.1, x.2.2.2.2.2.2.2.2.2.2.2.1, x.2.2.2.2.2.2.2.2.2.2.2.2.2.1⟩ : Sys) x.2.2.2.2.2.2.2.2.2.2.2.2.2.2.1 (⟨x.2.2.2.2.2.2.2.2.2.2.2.2.2.2.2.1, x.2.2.2.2.2.2.2.2.2.2.2.2.2.2.2.2.2.1⟩ : Lock) x.2.2.2.2.2.2.2.2.2.2.2.2.2.2.2.2.2.2.1 x.2.2.2.2.2.2.2.2.2.2.2.2.2.2.2.2.2.2.2 (k .ret ⟨layT [1, 2, 3] [.ptr 0 0, .bool false, .int x.2.2.2.2.2.2.2.2.2.2.2.2.2.2.1] 0 72, layH [.k, .dead] [.box [.int x.1, .int x.2.1, .ro x.2.2.1 .task x.2.2.2.1, .ro x.2.2.2.2.1 .lock x.2.2.2.2.2.1, .ro x.2.2.2.2.2.2.1 .ghost x.2.2.2.2.2.2.2.1, .ro x.2.2.2.2.2.2.2.2.1 .int x.2.2.2.2.2.2.2.2.2.1, .int x.2.2.2.2.2.2.2.2.2.2.1, .int x.2.2.2.2.2.2.2.2.2.2.2.1, .ro x.2.2.2.2.2.2.2.2.2.2.2.2.1 .turn x.2.2.2.2.2.2.2.2.2.2.2.2.2.1]]⟩) (k (.exit 2) ⟨layT [1, 3] [.ptr 0 0, .int x.2.2.2.2.2.2.2.2.2.2.2.2.2.2.1] 0 72, layH [.k, .dead] [.box [.int x.1, .int x.2.1, .ro x.2.2.1 .task x.2.2.2.1, .ro x.2.2.2.2.1 .lock x.2.2.2.2.2.1, .ro x.2.2.2.2.2.2.1 .ghost x.2.2.2.2.2.2.2.1, .ro x.2.2.2.2.2.2.2.2.1 .int x.2.2.2.2.2.2.2.2.2.1, .int x.2.2.2.2.2.2.2.2.2.2.1, .int x.2.2.2.2.2.2.2.2.2.2.2.1, .ro x.2.2.2.2.2.2.2.2.2.2.2.2.1 .turn x.2.2.2.2.2.2.2.2.2.2.2.2.2.1]]⟩)
noncomputable def c_spec_l9Locks_0 : Code := (Go.Proofs.Try.f97.body.bind (subLoop 4)).getD .skip
noncomputable def c_spec_l9Locks_1 : Code := (Go.Proofs.Try.f97.body.bind (subLoop 12)).getD .skip
theorem s_spec_l9Locks_0_ok (n : Nat) : LSok Tb tyK (orc [(r_spec_LocksOk n), (r_spec_TaskAt n)]) n a_spec_l9Locks.ann [s_spec_l9Locks_0 n, s_spec_l9Locks_1 n] c_spec_l9Locks_0 (s_spec_l9Locks_0 n) :=
  ⟨by intro vs es x h; dsimp only [s_spec_l9Locks_0] at h; split at h; (· injection h with h; subst h; exact ⟨rfl, rfl⟩); (· cases h), fun _ _ => rfl, fun m x k => by kernel_rfl⟩
theorem s_spec_l9Locks_1_ok (n : Nat) : LSok Tb tyK (orc [(r_spec_LocksOk n), (r_spec_TaskAt n)]) n a_spec_l9Locks.ann [s_spec_l9Locks_0 n, s_spec_l9Locks_1 n] c_spec_l9Locks_1 (s_spec_l9Locks_1 n) :=
  ⟨by intro vs es x h; dsimp only [s_spec_l9Locks_1] at h; split at h; (· injection h with h; subst h; exact ⟨rfl, rfl⟩); (· cases h), fun _ _ => rfl, fun m x k => by kernel_rfl⟩
theorem r_spec_l9Locks_ok (n : Nat) : RwOk Go.Proofs.Try.prog tyK (r_spec_l9Locks n) :=
  ent_ok (fa := a_spec_l9Locks) (ls := [s_spec_l9Locks_0 n, s_spec_l9Locks_1 n]) (cs := [c_spec_l9Locks_0, c_spec_l9Locks_1]) (n := n) (es := [(r_spec_LocksOk n), (r_spec_TaskAt n)]) mixedOk tbOk (ents_cons (r_spec_LocksOk_ok n) (ents_cons (r_spec_TaskAt_ok n) ents_nil)) Go.Proofs.Try.func97 (by kernel_rfl) (by kernel_rfl) (by kernel_rfl) (LSsOk.cons _ _ (l := s_spec_l9Locks_0 n) (by kernel_rfl) (s_spec_l9Locks_0_ok n) (LSsOk.cons _ _ (l := s_spec_l9Locks_1 n) (by kernel_rfl) (s_spec_l9Locks_1_ok n) (LSsOk.nil _ _))) (fun x => by kernel_rfl)
/-! loop.example/g00185/spec.l9Ghosts -/
noncomputable def a_spec_l9Ghosts : FnA := ⟨Go.Proofs.Try.f98, ⟨[(0, [(0, .slot 0 .int)]), (4, [(5, .slot 1 .int)]), (5, [(5, .call [.ro, .ro, .ro] .bool [] []), (10, .call [.ro] .bool [] []), (16, .call [.ro, .ro, .ro] .bool [] [])])], [], []⟩, 2⟩
def l_spec_l9Ghosts_0 {α : Type} (n : Nat) : Nat → Sys → Int → (Option α) → (Option α) → Option α
  | 0, _, _, _, _ => none
  | m0 + 1, v1, v2, k0_0, k0_1 =>
    cond (decide (v2 < ((v1.Ghosts).length : Int)))
     (cond ((decide (0 ≤ v2)) && (decide (v2 < ((v1.Ghosts).length : Int))))
       ((f_spec_l1In ((List.getD v1.Ghosts (Int.toNat v2) (Kd.dflt .ghost)).Cpu) 0 (w64 (v1.Cpus - 1))).bind fun r3 =>
        cond (!r3.1)
         (k0_0)
         ((f_spec_ShareOk ((List.getD v1.Ghosts (Int.toNat v2) (Kd.dflt .ghost)).S)).bind fun r4 =>
          cond (!r4.1)
           (k0_0)
           ((f_spec_l1In ((List.getD v1.Ghosts (Int.toNat v2) (Kd.dflt .ghost)).Until) 0 100040).bind fun r5 =>
            cond (!r5.1)
             (k0_0)
             (l_spec_l9Ghosts_0 n m0 v1 (w64 (v2 + 1)) k0_0 k0_1))))
       (none))
     (k0_1)
def f_spec_l9Ghosts (n : Nat) (a0 : Sys) : Option (Bool × Unit) :=
  l_spec_l9Ghosts_0 n n a0 0
   (some (false, ()))
   (some ((decide (((a0.Ghosts).length : Int) ≤ 12)), ()))
def r_spec_l9Ghosts (n : Nat) : Rw := ⟨98, (.pair (.v (.agg (.pair .int (.pair .int (.pair (.ro .task) (.pair (.ro .lock) (.pair (.ro .ghost) (.pair (.ro .int) (.pair .int (.pair .int (.pair (.ro .turn) .one))))))))))) .one), (.pair .bool .one), fun x => f_spec_l9Ghosts n (⟨x.1.1, x.1.2.1, x.1.2.2.1.2, x.1.2.2.2.1.2, x.1.2.2.2.2.1.2, x.1.2.2.2.2.2.1.2, x.1.2.2.2.2.2.2.1, x.1.2.2.2.2.2.2.2.1, x.1.2.2.2.2.2.2.2.2.1.2⟩ : Sys)⟩
def s_spec_l9Ghosts_0 (n : Nat) : LS where
  la := ⟨2, [1, 3], [], [1], [1, 2], [0]⟩
  nt := 40
  kt := [1, 3]
  hs := [.k, .fresh]
  X := Int × Int × Bool × List Task × Bool × List Lock × Bool × List Ghost × Bool × List Int × Int × Int × Bool × List Turn × Int
  abs := fun vs es => match vs, es with | [.ptr 0 0, .int y14], [.box [.int y0, .int y1, .ro y2 .task y3, .ro y4 .lock y5, .ro y6 .ghost y7, .ro y8 .int y9, .int y10, .int y11, .ro y12 .turn y13]] => some (y0, y1, y2, y3, y4, y5, y6, y7, y8, y9, y10, y11, y12, y13, y14) | _, _ => none
  tms := fun x => [.ptr 0 0, .int x.2.2.2.2.2.2.2.2.2.2.2.2.2.2]
  ets := fun x => [.box [.int x.1, .int x.2.1, .ro x.2.2.1 .task x.2.2.2.1, .ro x.2.2.2.2.1 .lock x.2.2.2.2.2.1, .ro x.2.2.2.2.2.2.1 .ghost x.2.2.2.2.2.2.2.1, .ro x.2.2.2.2.2.2.2.2.1 .int x.2.2.2.2.2.2.2.2.2.1, .int x.2.2.2.2.2.2.2.2.2.2.1, .int x.2.2.2.2.2.2.2.2.2.2.2.1, .ro x.2.2.2.2.2.2.2.2.2.2.2.2.1 .turn x.2.2.2.2.2.2.2.2.2.2.2.2.2.1]]
  run := fun m x k => l_spec_l9Ghosts_0 n m (⟨x.1, x.2.1, x.2.2.2.1, x.2.2.2.2.2.1, x.2.2.2.2.2.2.2.1, x.2.2.2.2.2.2.2.2.2.1, x.2.2.2.2.2.2.2.2.2.2.1, x.2.2.2.2.2.2.2.2.2.2.2.1, x.2.2.2.2.2.2.2.2.2.2.2.2.2.1⟩ : Sys) x.2.2.2.2.2.2.2.2.2.2.2.2.2.2 (k .ret ⟨layT [1, 2] [.ptr 0 0, .bool false] 0 40, layH [.k, .dead] [.box [.int x.1, .int x.2.1, .ro x.2.2.1 .task x.2.2.2.1, .ro x.2.2.2.2.1 .lock x.2.2.2.2.2.1, .ro x.2.2.2.2.2.2.1 .ghost x.2.2.2.2.2.2.2.1, .ro x.2.2.2.2.2.2.2.2.1 .int x.2.2.2.2.2.2.2.2.2.1, .int x.2.2.2.2.2.2.2.2.2.2.1, .int x.2.2.2.2.2.2.2.2.2.2.2.1, .ro x.2.2.2.2.2.2.2.2.2.2.2.2.1 .turn x.2.2.2.2.2.2.2.2.2.2.2.2.2.1]]⟩) (k (.exit 0) ⟨layT [1] [.ptr 0 0] 0 40, layH [.k, .dead] [.box [.int x.1, .int x.2.1, .ro x.2.2.1 .task x.2.2.2.1, .ro x.2.2.2.2.1 .lock x.2.2.2.2.2.1, .ro x.2.2.2.2.2.2.1 .ghost x.2.2.2.2.2.2.2.1, .ro x.2.2.2.2.2.2.2.2.1 .int x.2.2.2.2.2.2.2.2.2.1, .int x.2.2.2.2.2.2.2.2.2.2.1, .int x.2.2.2.2.2.2.2.2.2.2.2.1, .ro x.2.2.2.2.2.2.2.2.2.2.2.2.1 .turn x.2.2.2.2.2.2.2.2.2.2.2.2.2.1]]⟩)
noncomputable def c_spec_l9Ghosts_0 : Code := (Go.Proofs.Try.f98.body.bind (subLoop 2)).getD .skip
theorem s_spec_l9Ghosts_0_ok (n : Nat) : LSok Tb tyK (orc [r_spec_l1In, r_spec_ShareOk]) n a_spec_l9Ghosts.ann [s_spec_l9Ghosts_0 n] c_spec_l9Ghosts_0 (s_spec_l9Ghosts_0 n) :=
  ⟨by intro vs es x h; dsimp only [s_spec_l9Ghosts_0] at h; split at h; (· injection h with h; subst h; exact ⟨rfl, rfl⟩); (· cases h), fun _ _ => rfl, fun m x k => by kernel_rfl⟩
theorem r_spec_l9Ghosts_ok (n : Nat) : RwOk Go.Proofs.Try.prog tyK (r_spec_l9Ghosts n) :=
  ent_ok (fa := a_spec_l9Ghosts) (ls := [s_spec_l9Ghosts_0 n]) (cs := [c_spec_l9Ghosts_0]) (n := n) (es := [r_spec_l1In, r_spec_ShareOk]) mixedOk tbOk (ents_cons (r_spec_l1In_ok) (ents_cons (r_spec_ShareOk_ok) ents_nil)) Go.Proofs.Try.func98 (by kernel_rfl) (by kernel_rfl) (by kernel_rfl) (LSsOk.cons _ _ (l := s_spec_l9Ghosts_0 n) (by kernel_rfl) (s_spec_l9Ghosts_0_ok n) (LSsOk.nil _ _)) (fun x => by kernel_rfl)
/-! loop.example/g00185/spec.l9Shares -/
noncomputable def a_spec_l9Shares : FnA := ⟨Go.Proofs.Try.f83, ⟨[(0, [(0, .slot 0 .int)]), (1, [(0, .slot 1 .share)]), (5, [(5, .slot 3 .int)]), (7, [(6, .slot 4 .share), (7, .slot 5 .share)]), (12, [(7, .slot 7 .share), (8, .slot 8 .share)])], [], []⟩, 9⟩
def l_spec_l9Shares_0 {α : Type} (n : Nat) : Nat → Int → Sys → List Share → Int → (List Share → Option α) → Option α
  | 0, _, _, _, _, _ => none
  | m0 + 1, v1, v2, v3, v4, k0_0 =>
    cond (decide (v4 < ((v2.Tasks).length : Int)))
     (cond ((decide (0 ≤ v4)) && (decide (v4 < ((v2.Tasks).length : Int))))
       (let e5 := (decide ((List.getD v2.Tasks (Int.toNat v4) (Kd.dflt .task)).Cpu = v1))
        cond e5
         (let e6 := (decide ((List.getD v2.Tasks (Int.toNat v4) (Kd.dflt .task)).Class = 1))
          cond e6
           (let e7 := ([(⟨(List.getD v2.Tasks (Int.toNat v4) (Kd.dflt .task)).Q, (List.getD v2.Tasks (Int.toNat v4) (Kd.dflt .task)).P⟩ : Share)] : List Share)
            cond (decide ((v3).length + (e7).length ≤ lim))
             (l_spec_l9Shares_0 n m0 v1 v2 (v3 ++ e7) (w64 (v4 + 1)) k0_0)
             (none))
           (l_spec_l9Shares_0 n m0 v1 v2 v3 (w64 (v4 + 1)) k0_0))
         (l_spec_l9Shares_0 n m0 v1 v2 v3 (w64 (v4 + 1)) k0_0))
       (none))
     (k0_0 v3)
def l_spec_l9Shares_1 {α : Type} (n : Nat) : Nat → Int → Sys → List Share → Int → (List Share → Option α) → Option α
  | 0, _, _, _, _, _ => none
  | m1 + 1, v9, v10, v11, v12, k1_0 =>
    cond (decide (v12 < ((v10.Ghosts).length : Int)))
     (cond ((decide (0 ≤ v12)) && (decide (v12 < ((v10.Ghosts).length : Int))))
       (let e13 := (decide ((List.getD v10.Ghosts (Int.toNat v12) (Kd.dflt .ghost)).Cpu = v9))
        cond e13
         (cond ((decide (0 ≤ v12)) && (decide (v12 < ((v10.Ghosts).length : Int))))
           (let e14 := ([(List.getD v10.Ghosts (Int.toNat v12) (Kd.dflt .ghost)).S] : List Share)
            cond (decide ((v11).length + (e14).length ≤ lim))
             (l_spec_l9Shares_1 n m1 v9 v10 (v11 ++ e14) (w64 (v12 + 1)) k1_0)
             (none))
           (none))
         (l_spec_l9Shares_1 n m1 v9 v10 v11 (w64 (v12 + 1)) k1_0))
       (none))
     (k1_0 v11)
def f_spec_l9Shares (n : Nat) (a0 : Sys) (a1 : Int) : Option (List Share × Unit) :=
  l_spec_l9Shares_0 n n a1 a0 ([] : List Share) 0
   (fun w8 =>
    l_spec_l9Shares_1 n n a1 a0 w8 0
     (fun w15 =>
      some (w15, ())))
def r_spec_l9Shares (n : Nat) : Rw := ⟨83, (.pair (.v (.agg (.pair .int (.pair .int (.pair (.ro .task) (.pair (.ro .lock) (.pair (.ro .ghost) (.pair (.ro .int) (.pair .int (.pair .int (.pair (.ro .turn) .one))))))))))) (.pair (.v (.int)) .one)), (.pair (.own .share) .one), fun x => f_spec_l9Shares n (⟨x.1.1, x.1.2.1, x.1.2.2.1.2, x.1.2.2.2.1.2, x.1.2.2.2.2.1.2, x.1.2.2.2.2.2.1.2, x.1.2.2.2.2.2.2.1, x.1.2.2.2.2.2.2.2.1, x.1.2.2.2.2.2.2.2.2.1.2⟩ : Sys) x.2.1⟩
def s_spec_l9Shares_0 (n : Nat) : LS where
  la := ⟨3, [1, 2, 5, 6], [(.t 5, 2, .share)], [3, 4, 5], [1, 2, 5], [0, 2, 3, 4, 5, 6, 7, 8]⟩
  nt := 64
  kt := [1, 2, 5, 6]
  hs := [.k, .dead, .k, .fresh, .fresh, .fresh, .fresh, .fresh, .fresh]
  X := Int × Int × Int × Bool × List Task × Bool × List Lock × Bool × List Ghost × Bool × List Int × Int × Int × Bool × List Turn × List Share × Int
  abs := fun vs es => match vs, es with | [.int y0, .ptr 0 0, .bor 2, .int y16], [.box [.int y1, .int y2, .ro y3 .task y4, .ro y5 .lock y6, .ro y7 .ghost y8, .ro y9 .int y10, .int y11, .int y12, .ro y13 .turn y14], .root .share y15 .ok] => some (y0, y1, y2, y3, y4, y5, y6, y7, y8, y9, y10, y11, y12, y13, y14, y15, y16) | _, _ => none
  tms := fun x => [.int x.1, .ptr 0 0, .bor 2, .int x.2.2.2.2.2.2.2.2.2.2.2.2.2.2.2.2]
  ets := fun x => [.box [.int x.2.1, .int x.2.2.1, .ro x.2.2.2.1 .task x.2.2.2.2.1, .ro x.2.2.2.2.2.1 .lock x.2.2.2.2.2.2.1, .ro x.2.2.2.2.2.2.2.1 .ghost x.2.2.2.2.2.2.2.2.1, .ro x.2.2.2.2.2.2.2.2.2.1 .int x.2.2.2.2.2.2.2.2.2.2.1, .int x.2.2.2.2.2.2.2.2.2.2.2.1, .int x.2.2.2.2.2.2.2.2.2.2.2.2.1, .ro x.2.2.2.2.2.2.2.2.2.2.2.2.2.1 .turn x.2.2.2.2.2.2.2.2.2.2.2.2.2.2.1], .root .share x.2.2.2.2.2.2.2.2.2.2.2.2.2.2.2.1 .ok]
  run := fun m x k => l_spec_l9Shares_0 n m x.1 (⟨x.2.1, x.2.2.1, x.2.2.2.2.1, x.2.2.2.2.2.2.1, x.2.2.2.2.2.2.2.2.1, x.2.2.2.2.2.2.2.2.2.2.1, x.2.2.2.2.2.2.2.2.2.2.2.1, x.2.2.2.2.2.2.2.2.2.2.2.2.1, x.2.2.2.2.2.2.2.2.2.2.2.2.2.2.1⟩ : Sys) x.2.2.2.2.2.2.2.2.2.2.2.2.2.2.2.1 x.2.2.2.2.2.2.2.2.2.2.2.2.2.2.2.2 (fun w0 => k (.exit 0) ⟨layT [1, 2, 5] [.int x.1, .ptr 0 0, .bor 2] 0 64, layH [.k, .dead, .k, .fresh, .fresh, .fresh, .fresh, .fresh, .fresh] [.box [.int x.2.1, .int x.2.2.1, .ro x.2.2.2.1 .task x.2.2.2.2.1, .ro x.2.2.2.2.2.1 .lock x.2.2.2.2.2.2.1, .ro x.2.2.2.2.2.2.2.1 .ghost x.2.2.2.2.2.2.2.2.1, .ro x.2.2.2.2.2.2.2.2.2.1 .int x.2.2.2.2.2.2.2.2.2.2.1, .int x.2.2.2.2.2.2.2.2.2.2.2.1, .int x.2.2.2.2.2.2.2.2.2.2.2.2.1, .ro x.2.2.2.2.2.2.2.2.2.2.2.2.2.1 .turn x.2.2.2.2.2.2.2.2.2.2.2.2.2.2.1], .root .share w0 .ok]⟩)
def s_spec_l9Shares_1 (n : Nat) : LS where
  la := ⟨9, [1, 2, 5, 8], [(.t 5, 6, .share)], [7, 8], [5], [3, 4, 5, 6, 7, 8]⟩
  nt := 64
  kt := [1, 2, 5, 8]
  hs := [.k, .dead, .dead, .fresh, .fresh, .fresh, .k, .fresh, .fresh]
  X := Int × Int × Int × Bool × List Task × Bool × List Lock × Bool × List Ghost × Bool × List Int × Int × Int × Bool × List Turn × List Share × Int
  abs := fun vs es => match vs, es with | [.int y0, .ptr 0 0, .bor 6, .int y16], [.box [.int y1, .int y2, .ro y3 .task y4, .ro y5 .lock y6, .ro y7 .ghost y8, .ro y9 .int y10, .int y11, .int y12, .ro y13 .turn y14], .root .share y15 .ok] => some (y0, y1, y2, y3, y4, y5, y6, y7, y8, y9, y10, y11, y12, y13, y14, y15, y16) | _, _ => none
  tms := fun x => [.int x.1, .ptr 0 0, .bor 6, .int x.2.2.2.2.2.2.2.2.2.2.2.2.2.2.2.2]
  ets := fun x => [.box [.int x.2.1, .int x.2.2.1, .ro x.2.2.2.1 .task x.2.2.2.2.1, .ro x.2.2.2.2.2.1 .lock x.2.2.2.2.2.2.1, .ro x.2.2.2.2.2.2.2.1 .ghost x.2.2.2.2.2.2.2.2.1, .ro x.2.2.2.2.2.2.2.2.2.1 .int x.2.2.2.2.2.2.2.2.2.2.1, .int x.2.2.2.2.2.2.2.2.2.2.2.1, .int x.2.2.2.2.2.2.2.2.2.2.2.2.1, .ro x.2.2.2.2.2.2.2.2.2.2.2.2.2.1 .turn x.2.2.2.2.2.2.2.2.2.2.2.2.2.2.1], .root .share x.2.2.2.2.2.2.2.2.2.2.2.2.2.2.2.1 .ok]
  run := fun m x k => l_spec_l9Shares_1 n m x.1 (⟨x.2.1, x.2.2.1, x.2.2.2.2.1, x.2.2.2.2.2.2.1, x.2.2.2.2.2.2.2.2.1, x.2.2.2.2.2.2.2.2.2.2.1, x.2.2.2.2.2.2.2.2.2.2.2.1, x.2.2.2.2.2.2.2.2.2.2.2.2.1, x.2.2.2.2.2.2.2.2.2.2.2.2.2.2.1⟩ : Sys) x.2.2.2.2.2.2.2.2.2.2.2.2.2.2.2.1 x.2.2.2.2.2.2.2.2.2.2.2.2.2.2.2.2 (fun w0 => k (.exit 2) ⟨layT [5] [.bor 6] 0 64, layH [.dead, .dead, .dead, .fresh, .fresh, .fresh, .k, .fresh, .fresh] [.root .share w0 .ok]⟩)
noncomputable def c_spec_l9Shares_0 : Code := (Go.Proofs.Try.f83.body.bind (subLoop 3)).getD .skip
noncomputable def c_spec_l9Shares_1 : Code := (Go.Proofs.Try.f83.body.bind (subLoop 9)).getD .skip
theorem s_spec_l9Shares_0_ok (n : Nat) : LSok Tb tyK (orc []) n a_spec_l9Shares.ann [s_spec_l9Shares_0 n, s_spec_l9Shares_1 n] c_spec_l9Shares_0 (s_spec_l9Shares_0 n) :=
  ⟨by intro vs es x h; dsimp only [s_spec_l9Shares_0] at h; split at h; (· injection h with h; subst h; exact ⟨rfl, rfl⟩); (· cases h), fun _ _ => rfl, fun m x k => by kernel_rfl⟩
theorem s_spec_l9Shares_1_ok (n : Nat) : LSok Tb tyK (orc []) n a_spec_l9Shares.ann [s_spec_l9Shares_0 n, s_spec_l9Shares_1 n] c_spec_l9Shares_1 (s_spec_l9Shares_1 n) :=
  ⟨by intro vs es x h; dsimp only [s_spec_l9Shares_1] at h; split at h; (· injection h with h; subst h; exact ⟨rfl, rfl⟩); (· cases h), fun _ _ => rfl, fun m x k => by kernel_rfl⟩
theorem r_spec_l9Shares_ok (n : Nat) : RwOk Go.Proofs.Try.prog tyK (r_spec_l9Shares n) :=
  ent_ok (fa := a_spec_l9Shares) (ls := [s_spec_l9Shares_0 n, s_spec_l9Shares_1 n]) (cs := [c_spec_l9Shares_0, c_spec_l9Shares_1]) (n := n) (es := []) mixedOk tbOk ents_nil Go.Proofs.Try.func83 (by kernel_rfl) (by kernel_rfl) (by kernel_rfl) (LSsOk.cons _ _ (l := s_spec_l9Shares_0 n) (by kernel_rfl) (s_spec_l9Shares_0_ok n) (LSsOk.cons _ _ (l := s_spec_l9Shares_1 n) (by kernel_rfl) (s_spec_l9Shares_1_ok n) (LSsOk.nil _ _))) (fun x => by kernel_rfl)
/-! loop.example/g00185/spec.l1Gcd -/
noncomputable def a_spec_l1Gcd : FnA := ⟨Go.Proofs.Try.f152, ⟨[], [(2, [([], []), ([], []), ([], []), ([], []), ([], []), ([], [])])], []⟩, 0⟩
def l_spec_l1Gcd_0 {α : Type} (n : Nat) : Nat → Int → Int → (Int → Option α) → Option α
  | 0, _, _, _ => none
  | m0 + 1, v1, v2, k0_0 =>
    cond (decide (0 < v2))
     (cond (decide (v2 = 0))
       (none)
       (l_spec_l1Gcd_0 n m0 v2 (Int.tmod v1 v2) k0_0))
     (k0_0 v1)
def f_spec_l1Gcd (n : Nat) (a0 : Int) (a1 : Int) : Option (Int × Unit) :=
  l_spec_l1Gcd_0 n n a0 a1
   (fun w3 =>
    some (w3, ()))
def r_spec_l1Gcd (n : Nat) : Rw := ⟨152, (.pair (.v (.int)) (.pair (.v (.int)) .one)), (.pair .int .one), fun x => f_spec_l1Gcd n x.1 x.2.1⟩
def s_spec_l1Gcd_0 (n : Nat) : LS where
  la := ⟨1, [0, 1], [], [], [0], []⟩
  nt := 12
  kt := [0, 1]
  hs := []
  X := Int × Int
  abs := fun vs es => match vs, es with | [.int y0, .int y1], [] => some (y0, y1) | _, _ => none
  tms := fun x => [.int x.1, .int x.2]
  ets := fun x => []
  run := fun m x k => l_spec_l1Gcd_0 n m x.1 x.2 (fun w0 => k (.exit 0) ⟨layT [0] [.int w0] 0 12, layH [] []⟩)
noncomputable def c_spec_l1Gcd_0 : Code := (Go.Proofs.Try.f152.body.bind (subLoop 1)).getD .skip
theorem s_spec_l1Gcd_0_ok (n : Nat) : LSok Tb tyK (orc []) n a_spec_l1Gcd.ann [s_spec_l1Gcd_0 n] c_spec_l1Gcd_0 (s_spec_l1Gcd_0 n) :=
  ⟨by intro vs es x h; dsimp only [s_spec_l1Gcd_0] at h; split at h; (· injection h with h; subst h; exact ⟨rfl, rfl⟩); (· cases h), fun _ _ => rfl, fun m x k => by kernel_rfl⟩
theorem r_spec_l1Gcd_ok (n : Nat) : RwOk Go.Proofs.Try.prog tyK (r_spec_l1Gcd n) :=
  ent_ok (fa := a_spec_l1Gcd) (ls := [s_spec_l1Gcd_0 n]) (cs := [c_spec_l1Gcd_0]) (n := n) (es := []) mixedOk tbOk ents_nil Go.Proofs.Try.func152 (by kernel_rfl) (by kernel_rfl) (by kernel_rfl) (LSsOk.cons _ _ (l := s_spec_l1Gcd_0 n) (by kernel_rfl) (s_spec_l1Gcd_0_ok n) (LSsOk.nil _ _)) (fun x => by kernel_rfl)
/-! loop.example/g00185/spec.SumOf -/
noncomputable def a_spec_SumOf : FnA := ⟨Go.Proofs.Try.f128, ⟨[(7, [(4, .call [.ro] .bool [] [])]), (11, [(2, .call [.ro, .ro] .int [] [])])], [(9, [([], []), ([], []), ([], []), ([], []), ([], []), ([], []), ([], []), ([], []), ([], []), ([], []), ([], []), ([], []), ([], []), ([], []), ([], []), ([], [])])], []⟩, 0⟩
def l_spec_SumOf_0 {α : Type} (n : Nat) : Nat → List Share → Int → Int → Int → (Int → Int → Option α) → (Int → Int → Option α) → Option α
  | 0, _, _, _, _, _, _ => none
  | m0 + 1, v1, v2, v3, v4, k0_0, k0_1 =>
    cond (decide (v4 < ((v1).length : Int)))
     (cond ((decide (0 ≤ v4)) && (decide (v4 < ((v1).length : Int))))
       ((f_spec_ShareOk (List.getD v1 (Int.toNat v4) (Kd.dflt .share))).bind fun r5 =>
        cond (!r5.1)
         (k0_0 v2 v3)
         (cond ((decide (0 ≤ v4)) && (decide (v4 < ((v1).length : Int))))
           (let e6 := (w64 (v2 * (List.getD v1 (Int.toNat v4) (Kd.dflt .share)).P))
            cond ((decide (0 ≤ v4)) && (decide (v4 < ((v1).length : Int))))
             (let e7 := (w64 ((List.getD v1 (Int.toNat v4) (Kd.dflt .share)).Q * v3))
              cond ((decide (0 ≤ v4)) && (decide (v4 < ((v1).length : Int))))
               (let e8 := (w64 (v3 * (List.getD v1 (Int.toNat v4) (Kd.dflt .share)).P))
                (f_spec_l1Gcd n (w64 (e6 + e7)) e8).bind fun r9 =>
                cond (decide (r9.1 = 0))
                 (none)
                 (cond (decide (r9.1 = 0))
                   (none)
                   (l_spec_SumOf_0 n m0 v1 (w64 (Int.tdiv (w64 (e6 + e7)) r9.1)) (w64 (Int.tdiv e8 r9.1)) (w64 (v4 + 1)) k0_0 k0_1)))
               (none))
             (none))
           (none)))
       (none))
     (k0_1 v2 v3)
def f_spec_SumOf (n : Nat) (a0 : List Share) : Option ((Int × Int × Bool × Unit) × Unit) :=
  cond (decide (7 < ((a0).length : Int)))
   (some ((0, 0, false, ()), ()))
   (l_spec_SumOf_0 n n a0 0 1 0
     (fun w10 w11 =>
      some ((0, 0, false, ()), ()))
     (fun w12 w13 =>
      some ((w12, w13, true, ()), ())))
def r_spec_SumOf (n : Nat) : Rw := ⟨128, (.pair (.v (.ro .share)) .one), (.pair (.tup (.pair .int (.pair .int (.pair .bool .one)))) .one), fun x => f_spec_SumOf n x.1.2⟩
def s_spec_SumOf_0 (n : Nat) : LS where
  la := ⟨5, [0, 5, 6, 7], [], [], [2, 3, 4, 5, 6], []⟩
  nt := 57
  kt := [0, 5, 6, 7]
  hs := []
  X := Bool × List Share × Int × Int × Int
  abs := fun vs es => match vs, es with | [.ro y0 .share y1, .int y2, .int y3, .int y4], [] => some (y0, y1, y2, y3, y4) | _, _ => none
  tms := fun x => [.ro x.1 .share x.2.1, .int x.2.2.1, .int x.2.2.2.1, .int x.2.2.2.2]
  ets := fun x => []
  run := fun m x k => l_spec_SumOf_0 n m x.2.1 x.2.2.1 x.2.2.2.1 x.2.2.2.2 (fun w0 w1 => k .ret ⟨layT [2, 3, 4, 5, 6] [.int 0, .int 0, .bool false, .int w0, .int w1] 0 57, layH [] []⟩) (fun w0 w1 => k (.exit 0) ⟨layT [5, 6] [.int w0, .int w1] 0 57, layH [] []⟩)
noncomputable def c_spec_SumOf_0 : Code := (Go.Proofs.Try.f128.body.bind (subLoop 5)).getD .skip
theorem s_spec_SumOf_0_ok (n : Nat) : LSok Tb tyK (orc [r_spec_ShareOk, (r_spec_l1Gcd n)]) n a_spec_SumOf.ann [s_spec_SumOf_0 n] c_spec_SumOf_0 (s_spec_SumOf_0 n) :=
  ⟨by intro vs es x h; dsimp only [s_spec_SumOf_0] at h; split at h; (· injection h with h; subst h; exact ⟨rfl, rfl⟩); (· cases h), fun _ _ => rfl, fun m x k => by kernel_rfl⟩
theorem r_spec_SumOf_ok (n : Nat) : RwOk Go.Proofs.Try.prog tyK (r_spec_SumOf n) :=
  ent_ok (fa := a_spec_SumOf) (ls := [s_spec_SumOf_0 n]) (cs := [c_spec_SumOf_0]) (n := n) (es := [r_spec_ShareOk, (r_spec_l1Gcd n)]) mixedOk tbOk (ents_cons (r_spec_ShareOk_ok) (ents_cons (r_spec_l1Gcd_ok n) ents_nil)) Go.Proofs.Try.func128 (by kernel_rfl) (by kernel_rfl) (by kernel_rfl) (LSsOk.cons _ _ (l := s_spec_SumOf_0 n) (by kernel_rfl) (s_spec_SumOf_0_ok n) (LSsOk.nil _ _)) (fun x => by kernel_rfl)
/-! loop.example/g00185/spec.Fits -/
noncomputable def a_spec_Fits : FnA := ⟨Go.Proofs.Try.f99, ⟨[(1, [(1, .call [.ro] (.tup (.pair .int (.pair .int (.pair .bool .one)))) [] [])])], [], []⟩, 0⟩
def f_spec_Fits (n : Nat) (a0 : List Share) : Option (Bool × Unit) :=
  (f_spec_SumOf n a0).bind fun r1 =>
  cond r1.1.2.2.1
   (some ((decide (r1.1.1 ≤ r1.1.2.1)), ()))
   (some (false, ()))
def r_spec_Fits (n : Nat) : Rw := ⟨99, (.pair (.v (.ro .share)) .one), (.pair .bool .one), fun x => f_spec_Fits n x.1.2⟩
theorem r_spec_Fits_ok (n : Nat) : RwOk Go.Proofs.Try.prog tyK (r_spec_Fits n) :=
  ent_ok (fa := a_spec_Fits) (ls := []) (cs := []) (n := n) (es := [(r_spec_SumOf n)]) mixedOk tbOk (ents_cons (r_spec_SumOf_ok n) ents_nil) Go.Proofs.Try.func99 (by kernel_rfl) (by kernel_rfl) (by kernel_rfl) (LSsOk.nil _ _) (fun x => by kernel_rfl)
end Go.Proofs.Ytoedeimpfbebpaa.VR
