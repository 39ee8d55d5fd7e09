/- Functions, printed by program (wip/gen/emit.py). -/
import Derived.Test.YtjgkeaiibdodfaaGreatG00
set_option linter.unusedVariables false
set_option maxRecDepth 100000
namespace Go.Proofs.YtjgkeaiibdodfaaGreat.VR
open Go
/-! loop.example/g00185/spec.TaskOk -/
noncomputable def a_spec_TaskOk : FnA := ⟨Go.Proofs.Tryz.f96, ⟨[(0, [(0, .slot 0 .int)]), (1, [(2, .call [.ro, .ro, .ro] .bool [] []), (7, .call [.ro, .ro, .ro] .bool [] []), (13, .call [.ro, .ro, .ro] .bool [] []), (19, .call [.ro, .ro, .ro] .bool [] []), (24, .call [.ro] .bool [] [])]), (5, [(5, .call [.ro] .bool [] []), (11, .call [.ro, .ro, .ro] .bool [] []), (16, .call [.ro, .ro, .ro] .bool [] [])]), (7, [(2, .call [.ro, .ro, .ro] .bool [] []), (6, .call [.ro, .ro, .ro] .bool [] []), (13, .call [.ro, .ro] .int [] []), (16, .call [.ro, .ro, .ro] .bool [] []), (21, .call [.ro, .ro, .ro] .bool [] [])]), (8, [(2, .call [.ro] .bool [] []), (6, .call [.ro, .ro, .ro] .bool [] [])])], [(7, [([0], []), ([0], []), ([], []), ([], []), ([0], []), ([0], []), ([], []), ([], []), ([], []), ([0], []), ([0], []), ([0], []), ([0], []), ([], []), ([0], []), ([0], []), ([], []), ([], []), ([], []), ([0], []), ([0], []), ([], []), ([], []), ([], [])])], []⟩, 1⟩
def f_spec_TaskOk (a0 : Task) : Option (Bool × Unit) :=
  (f_spec_l1In a0.No 1 1000).bind fun r1 =>
  cond (!r1.1)
   (some (false, ()))
   ((f_spec_l1In a0.Class 1 3).bind fun r2 =>
    cond (!r2.1)
     (some (false, ()))
     ((f_spec_l1In a0.Cpu 0 3).bind fun r3 =>
      cond (!r3.1)
       (some (false, ()))
       ((f_spec_l1In a0.State 1 2).bind fun r4 =>
        cond (!r4.1)
         (some (false, ()))
         ((f_spec_l3Clean a0).bind fun r5 =>
          cond (!r5.1)
           (some (false, ()))
           (cond (decide (a0.Class = 1))
             ((f_spec_ShareOk (⟨a0.Q, a0.P⟩ : Share)).bind fun r6 =>
              cond r6.1
               ((f_spec_l1In a0.Left 0 a0.Q).bind fun r7 =>
                cond r7.1
                 ((f_spec_l1In a0.Due 0 100040).bind fun r8 =>
                  some (r8.1, ()))
                 (some (false, ())))
               (some (false, ())))
             (cond (decide (a0.Class = 2))
               ((f_spec_l1In a0.Prio 1 20).bind fun r9 =>
                cond r9.1
                 ((f_spec_l1In a0.Round 0 10).bind fun r10 =>
                  cond r10.1
                   ((f_spec_l1Min a0.Round 1).bind fun r11 =>
                    (f_spec_l1In a0.Left r11.1 a0.Round).bind fun r12 =>
                    cond r12.1
                     ((f_spec_l1In a0.Seq 0 1000000).bind fun r13 =>
                      some (r13.1, ()))
                     (some (false, ())))
                   (some (false, ())))
                 (some (false, ())))
               ((f_spec_NiceOk a0.Nice).bind fun r14 =>
                cond r14.1
                 ((f_spec_l1In a0.V 0 100000000).bind fun r15 =>
                  some (r15.1, ()))
                 (some (false, ())))))))))
def r_spec_TaskOk : Rw := ⟨96, (.pair (.v (.agg (.pair .int (.pair .int (.pair .int (.pair .int (.pair .bool (.pair .int (.pair .int (.pair .int (.pair .int (.pair .int (.pair .int (.pair .int (.pair .int (.pair .int .one)))))))))))))))) .one), (.pair .bool .one), fun x => f_spec_TaskOk (⟨x.1.1, x.1.2.1, x.1.2.2.1, x.1.2.2.2.1, x.1.2.2.2.2.1, x.1.2.2.2.2.2.1, x.1.2.2.2.2.2.2.1, x.1.2.2.2.2.2.2.2.1, x.1.2.2.2.2.2.2.2.2.1, x.1.2.2.2.2.2.2.2.2.2.1, x.1.2.2.2.2.2.2.2.2.2.2.1, x.1.2.2.2.2.2.2.2.2.2.2.2.1, x.1.2.2.2.2.2.2.2.2.2.2.2.2.1, x.1.2.2.2.2.2.2.2.2.2.2.2.2.2.1⟩ : Task)⟩
theorem r_spec_TaskOk_ok : RwOk Go.Proofs.Tryz.prog tyK (r_spec_TaskOk) :=
  ent_ok (fa := a_spec_TaskOk) (ls := []) (cs := []) (n := 0) (es := [r_spec_l1In, r_spec_l3Clean, r_spec_ShareOk, r_spec_l1Min, r_spec_NiceOk]) mixedOk tbOk (ents_cons (r_spec_l1In_ok) (ents_cons (r_spec_l3Clean_ok) (ents_cons (r_spec_ShareOk_ok) (ents_cons (r_spec_l1Min_ok) (ents_cons (r_spec_NiceOk_ok) ents_nil))))) Go.Proofs.Tryz.func96 (by kernel_rfl) (by kernel_rfl) (by kernel_rfl) (LSsOk.nil _ _) (fun x => by kernel_rfl)
/-! loop.example/g00185/spec.TasksOk -/
noncomputable def a_spec_TasksOk : FnA := ⟨Go.Proofs.Tryz.f59, ⟨[(4, [(4, .call [.ro] .bool [] [])])], [(4, [([], []), ([], []), ([], []), ([], []), ([], []), ([], []), ([], []), ([], []), ([], []), ([], []), ([], []), ([], []), ([], []), ([], []), ([], []), ([], []), ([], []), ([], []), ([], []), ([], []), ([], []), ([], []), ([], []), ([], [])])], []⟩, 0⟩
def l_spec_TasksOk_0 {α : Type} (n : Nat) : Nat → List Task → Int → (Option α) → (Option α) → Option α
  | 0, _, _, _, _ => none
  | m0 + 1, v1, v2, k0_0, k0_1 =>
    cond (decide (v2 < ((v1).length : Int)))
     (cond ((decide (0 ≤ v2)) && (decide (v2 < ((v1).length : Int))))
       ((f_spec_TaskOk (List.getD v1 (Int.toNat v2) (Kd.dflt .task))).bind fun r3 =>
        cond (!r3.1)
         (k0_0)
         (cond (decide (0 < v2))
           (cond ((decide (0 ≤ (w64 (v2 - 1)))) && (decide ((w64 (v2 - 1)) < ((v1).length : Int))))
             (cond ((decide (0 ≤ v2)) && (decide (v2 < ((v1).length : Int))))
               (let e4 := (decide ((List.getD v1 (Int.toNat v2) (Kd.dflt .task)).No ≤ (List.getD v1 (Int.toNat (w64 (v2 - 1))) (Kd.dflt .task)).No))
                cond e4
                 (k0_0)
                 (l_spec_TasksOk_0 n m0 v1 (w64 (v2 + 1)) k0_0 k0_1))
               (none))
             (none))
           (l_spec_TasksOk_0 n m0 v1 (w64 (v2 + 1)) k0_0 k0_1)))
       (none))
     (k0_1)
def f_spec_TasksOk (n : Nat) (a0 : List Task) : Option (Bool × Unit) :=
  l_spec_TasksOk_0 n n a0 0
   (some (false, ()))
   (some ((decide (((a0).length : Int) ≤ 12)), ()))
def r_spec_TasksOk (n : Nat) : Rw := ⟨59, (.pair (.v (.ro .task)) .one), (.pair .bool .one), fun x => f_spec_TasksOk n x.1.2⟩
def s_spec_TasksOk_0 (n : Nat) : LS where
  la := ⟨2, [0, 3], [], [], [0, 2], []⟩
  nt := 37
  kt := [0, 3]
  hs := []
  X := Bool × List Task × Int
  abs := fun vs es => match vs, es with | [.ro y0 .task y1, .int y2], [] => some (y0, y1, y2) | _, _ => none
  tms := fun x => [.ro x.1 .task x.2.1, .int x.2.2]
  ets := fun x => []
  run := fun m x k => l_spec_TasksOk_0 n m x.2.1 x.2.2 (k .ret ⟨layT [0, 2] [.ro x.1 .task x.2.1, .bool false] 0 37, layH [] []⟩) (k (.exit 0) ⟨layT [0] [.ro x.1 .task x.2.1] 0 37, layH [] []⟩)
noncomputable def c_spec_TasksOk_0 : Code := (Go.Proofs.Tryz.f59.body.bind (subLoop 2)).getD .skip
theorem s_spec_TasksOk_0_ok (n : Nat) : LSok Tb tyK (orc [r_spec_TaskOk]) n a_spec_TasksOk.ann [s_spec_TasksOk_0 n] c_spec_TasksOk_0 (s_spec_TasksOk_0 n) :=
  ⟨by intro vs es x h; dsimp only [s_spec_TasksOk_0] at h; split at h; (· injection h with h; subst h; exact ⟨rfl, rfl⟩); (· cases h), fun _ _ => rfl, fun m x k => by kernel_rfl⟩
theorem r_spec_TasksOk_ok (n : Nat) : RwOk Go.Proofs.Tryz.prog tyK (r_spec_TasksOk n) :=
  ent_ok (fa := a_spec_TasksOk) (ls := [s_spec_TasksOk_0 n]) (cs := [c_spec_TasksOk_0]) (n := n) (es := [r_spec_TaskOk]) mixedOk tbOk (ents_cons (r_spec_TaskOk_ok) ents_nil) Go.Proofs.Tryz.func59 (by kernel_rfl) (by kernel_rfl) (by kernel_rfl) (LSsOk.cons _ _ (l := s_spec_TasksOk_0 n) (by kernel_rfl) (s_spec_TasksOk_0_ok n) (LSsOk.nil _ _)) (fun x => by kernel_rfl)
/-! loop.example/g00185/spec.l7Has -/
noncomputable def a_spec_l7Has : FnA := ⟨Go.Proofs.Tryz.f49, ⟨[], [], []⟩, 0⟩
def l_spec_l7Has_0 {α : Type} (n : Nat) : Nat → List Int → Int → Int → (Option α) → (Option α) → Option α
  | 0, _, _, _, _, _ => none
  | m0 + 1, v1, v2, v3, k0_0, k0_1 =>
    cond (decide (v3 < ((v1).length : Int)))
     (cond ((decide (0 ≤ v3)) && (decide (v3 < ((v1).length : Int))))
       (cond (decide ((List.getD v1 (Int.toNat v3) (Kd.dflt .int)) = v2))
         (k0_0)
         (l_spec_l7Has_0 n m0 v1 v2 (w64 (v3 + 1)) k0_0 k0_1))
       (none))
     (k0_1)
def f_spec_l7Has (n : Nat) (a0 : List Int) (a1 : Int) : Option (Bool × Unit) :=
  l_spec_l7Has_0 n n a0 a1 0
   (some (true, ()))
   (some (false, ()))
def r_spec_l7Has (n : Nat) : Rw := ⟨49, (.pair (.v (.ro .int)) (.pair (.v (.int)) .one)), (.pair .bool .one), fun x => f_spec_l7Has n x.1.2 x.2.1⟩
def s_spec_l7Has_0 (n : Nat) : LS where
  la := ⟨2, [0, 1, 5], [], [], [4], []⟩
  nt := 18
  kt := [0, 1, 5]
  hs := []
  X := Bool × List Int × Int × Int
  abs := fun vs es => match vs, es with | [.ro y0 .int y1, .int y2, .int y3], [] => some (y0, y1, y2, y3) | _, _ => none
  tms := fun x => [.ro x.1 .int x.2.1, .int x.2.2.1, .int x.2.2.2]
  ets := fun x => []
  run := fun m x k => l_spec_l7Has_0 n m x.2.1 x.2.2.1 x.2.2.2 (k .ret ⟨layT [4] [.bool true] 0 18, layH [] []⟩) (k (.exit 0) ⟨layT [] [] 0 18, layH [] []⟩)
noncomputable def c_spec_l7Has_0 : Code := (Go.Proofs.Tryz.f49.body.bind (subLoop 2)).getD .skip
theorem s_spec_l7Has_0_ok (n : Nat) : LSok Tb tyK (orc []) n a_spec_l7Has.ann [s_spec_l7Has_0 n] c_spec_l7Has_0 (s_spec_l7Has_0 n) :=
  ⟨by intro vs es x h; dsimp only [s_spec_l7Has_0] at h; split at h; (· injection h with h; subst h; exact ⟨rfl, rfl⟩); (· cases h), fun _ _ => rfl, fun m x k => by kernel_rfl⟩
theorem r_spec_l7Has_ok (n : Nat) : RwOk Go.Proofs.Tryz.prog tyK (r_spec_l7Has n) :=
  ent_ok (fa := a_spec_l7Has) (ls := [s_spec_l7Has_0 n]) (cs := [c_spec_l7Has_0]) (n := n) (es := []) mixedOk tbOk ents_nil Go.Proofs.Tryz.func49 (by kernel_rfl) (by kernel_rfl) (by kernel_rfl) (LSsOk.cons _ _ (l := s_spec_l7Has_0 n) (by kernel_rfl) (s_spec_l7Has_0_ok n) (LSsOk.nil _ _)) (fun x => by kernel_rfl)
/-! loop.example/g00185/spec.WaitAt -/
noncomputable def a_spec_WaitAt : FnA := ⟨Go.Proofs.Tryz.f143, ⟨[(4, [(6, .call [.ro, .ro] .bool [] [])])], [], []⟩, 0⟩
def l_spec_WaitAt_0 {α : Type} (n : Nat) : Nat → List Lock → Int → Int → (Int → Option α) → (Option α) → Option α
  | 0, _, _, _, _, _ => none
  | m0 + 1, v1, v2, v3, k0_0, k0_1 =>
    cond (decide (v3 < ((v1).length : Int)))
     (cond ((decide (0 ≤ v3)) && (decide (v3 < ((v1).length : Int))))
       ((f_spec_l7Has n ((List.getD v1 (Int.toNat v3) (Kd.dflt .lock)).Waits) v2).bind fun r4 =>
        cond r4.1
         (k0_0 v3)
         (l_spec_WaitAt_0 n m0 v1 v2 (w64 (v3 + 1)) k0_0 k0_1))
       (none))
     (k0_1)
def f_spec_WaitAt (n : Nat) (a0 : List Lock) (a1 : Int) : Option (Int × Unit) :=
  l_spec_WaitAt_0 n n a0 a1 0
   (fun w5 =>
    some (w5, ()))
   (some ((-1), ()))
def r_spec_WaitAt (n : Nat) : Rw := ⟨143, (.pair (.v (.ro .lock)) (.pair (.v (.int)) .one)), (.pair .int .one), fun x => f_spec_WaitAt n x.1.2 x.2.1⟩
def s_spec_WaitAt_0 (n : Nat) : LS where
  la := ⟨2, [0, 1, 5], [], [], [4], []⟩
  nt := 20
  kt := [0, 1, 5]
  hs := []
  X := Bool × List Lock × Int × Int
  abs := fun vs es => match vs, es with | [.ro y0 .lock y1, .int y2, .int y3], [] => some (y0, y1, y2, y3) | _, _ => none
  tms := fun x => [.ro x.1 .lock x.2.1, .int x.2.2.1, .int x.2.2.2]
  ets := fun x => []
  run := fun m x k => l_spec_WaitAt_0 n m x.2.1 x.2.2.1 x.2.2.2 (fun w0 => k .ret ⟨layT [4] [.int w0] 0 20, layH [] []⟩) (k (.exit 0) ⟨layT [] [] 0 20, layH [] []⟩)
noncomputable def c_spec_WaitAt_0 : Code := (Go.Proofs.Tryz.f143.body.bind (subLoop 2)).getD .skip
theorem s_spec_WaitAt_0_ok (n : Nat) : LSok Tb tyK (orc [(r_spec_l7Has n)]) n a_spec_WaitAt.ann [s_spec_WaitAt_0 n] c_spec_WaitAt_0 (s_spec_WaitAt_0 n) :=
  ⟨by intro vs es x h; dsimp only [s_spec_WaitAt_0] at h; split at h; (· injection h with h; subst h; exact ⟨rfl, rfl⟩); (· cases h), fun _ _ => rfl, fun m x k => by kernel_rfl⟩
theorem r_spec_WaitAt_ok (n : Nat) : RwOk Go.Proofs.Tryz.prog tyK (r_spec_WaitAt n) :=
  ent_ok (fa := a_spec_WaitAt) (ls := [s_spec_WaitAt_0 n]) (cs := [c_spec_WaitAt_0]) (n := n) (es := [(r_spec_l7Has n)]) mixedOk tbOk (ents_cons (r_spec_l7Has_ok n) ents_nil) Go.Proofs.Tryz.func143 (by kernel_rfl) (by kernel_rfl) (by kernel_rfl) (LSsOk.cons _ _ (l := s_spec_WaitAt_0 n) (by kernel_rfl) (s_spec_WaitAt_0_ok n) (LSsOk.nil _ _)) (fun x => by kernel_rfl)
/-! loop.example/g00185/spec.l7Chain -/
noncomputable def a_spec_l7Chain : FnA := ⟨Go.Proofs.Tryz.f136, ⟨[(1, [(1, .slot 0 .int)]), (5, [(2, .call [.ro, .ro] .int [] [])]), (9, [(2, .slot 2 .int), (3, .slot 3 .int)])], [], []⟩, 4⟩
def l_spec_l7Chain_0 {α : Type} (n : Nat) : Nat → List Lock → Int → List Int → Int → (List Int → Option α) → (List Int → Option α) → Option α
  | 0, _, _, _, _, _, _ => none
  | m0 + 1, v1, v2, v3, v4, k0_0, k0_1 =>
    cond (decide (v4 ≤ ((v1).length : Int)))
     ((f_spec_WaitAt n v1 v2).bind fun r5 =>
      cond (decide (r5.1 < 0))
       (k0_0 v3)
       (cond ((decide (0 ≤ r5.1)) && (decide (r5.1 < ((v1).length : Int))))
         (let e6 := ([(List.getD v1 (Int.toNat r5.1) (Kd.dflt .lock)).Owner] : List Int)
          cond (decide ((v3).length + (e6).length ≤ lim))
           (l_spec_l7Chain_0 n m0 v1 ((List.getD v1 (Int.toNat r5.1) (Kd.dflt .lock)).Owner) (v3 ++ e6) (w64 (v4 + 1)) k0_0 k0_1)
           (none))
         (none)))
     (k0_1 v3)
def f_spec_l7Chain (n : Nat) (a0 : List Lock) (a1 : Int) : Option ((List Int × Bool × Unit) × Unit) :=
  l_spec_l7Chain_0 n n a0 a1 ([a1] : List Int) 0
   (fun w7 =>
    some ((w7, true, ()), ()))
   (fun w8 =>
    some ((w8, false, ()), ()))
def r_spec_l7Chain (n : Nat) : Rw := ⟨136, (.pair (.v (.ro .lock)) (.pair (.v (.int)) .one)), (.pair (.tup (.pair (.own .int) (.pair .bool .one))) .one), fun x => f_spec_l7Chain n x.1.2 x.2.1⟩
def s_spec_l7Chain_0 (n : Nat) : LS where
  la := ⟨3, [0, 1, 6, 7], [(.t 6, 1, .int)], [2, 3], [4, 5, 6], [1, 2, 3]⟩
  nt := 33
  kt := [0, 1, 6, 7]
  hs := [.dead, .k, .fresh, .fresh]
  X := Bool × List Lock × Int × List Int × Int
  abs := fun vs es => match vs, es with | [.ro y0 .lock y1, .int y2, .bor 1, .int y4], [.root .int y3 .ok] => some (y0, y1, y2, y3, y4) | _, _ => none
  tms := fun x => [.ro x.1 .lock x.2.1, .int x.2.2.1, .bor 1, .int x.2.2.2.2]
  ets := fun x => [.root .int x.2.2.2.1 .ok]
  run := fun m x k => l_spec_l7Chain_0 n m x.2.1 x.2.2.1 x.2.2.2.1 x.2.2.2.2 (fun w0 => k .ret ⟨layT [4, 5, 6] [.bor 1, .bool true, .bor 1] 0 33, layH [.dead, .k, .fresh, .fresh] [.root .int w0 .ok]⟩) (fun w0 => k (.exit 0) ⟨layT [6] [.bor 1] 0 33, layH [.dead, .k, .fresh, .fresh] [.root .int w0 .ok]⟩)
noncomputable def c_spec_l7Chain_0 : Code := (Go.Proofs.Tryz.f136.body.bind (subLoop 3)).getD .skip
theorem s_spec_l7Chain_0_ok (n : Nat) : LSok Tb tyK (orc [(r_spec_WaitAt n)]) n a_spec_l7Chain.ann [s_spec_l7Chain_0 n] c_spec_l7Chain_0 (s_spec_l7Chain_0 n) :=
  ⟨by intro vs es x h; dsimp only [s_spec_l7Chain_0] at h; split at h; (· injection h with h; subst h; exact ⟨rfl, rfl⟩); (· cases h), fun _ _ => rfl, fun m x k => by kernel_rfl⟩
theorem r_spec_l7Chain_ok (n : Nat) : RwOk Go.Proofs.Tryz.prog tyK (r_spec_l7Chain n) :=
  ent_ok (fa := a_spec_l7Chain) (ls := [s_spec_l7Chain_0 n]) (cs := [c_spec_l7Chain_0]) (n := n) (es := [(r_spec_WaitAt n)]) mixedOk tbOk (ents_cons (r_spec_WaitAt_ok n) ents_nil) Go.Proofs.Tryz.func136 (by kernel_rfl) (by kernel_rfl) (by kernel_rfl) (LSsOk.cons _ _ (l := s_spec_l7Chain_0 n) (by kernel_rfl) (s_spec_l7Chain_0_ok n) (LSsOk.nil _ _)) (fun x => by kernel_rfl)
/-! loop.example/g00185/spec.l7Waits -/
noncomputable def a_spec_l7Waits : FnA := ⟨Go.Proofs.Tryz.f137, ⟨[], [], []⟩, 0⟩
def l_spec_l7Waits_1 {α : Type} (n : Nat) : Nat → List Lock → Int → Int → Int → Int → (Int → Option α) → Option α
  | 0, _, _, _, _, _, _ => none
  | m1 + 1, v5, v6, v7, v8, v9, k1_0 =>
    cond ((decide (0 ≤ v8)) && (decide (v8 < ((v5).length : Int))))
     (let e10 := (((List.getD v5 (Int.toNat v8) (Kd.dflt .lock)).Waits).length : Int)
      cond (decide (v9 < e10))
       (cond ((decide (0 ≤ v8)) && (decide (v8 < ((v5).length : Int))))
         (cond ((decide (0 ≤ v9)) && (decide (v9 < (((List.getD v5 (Int.toNat v8) (Kd.dflt .lock)).Waits).length : Int))))
           (let e11 := (List.getD (List.getD v5 (Int.toNat v8) (Kd.dflt .lock)).Waits (Int.toNat v9) (Kd.dflt .int))
            cond (decide (e11 = v6))
             (l_spec_l7Waits_1 n m1 v5 v6 (w64 (v7 + 1)) v8 (w64 (v9 + 1)) k1_0)
             (l_spec_l7Waits_1 n m1 v5 v6 v7 v8 (w64 (v9 + 1)) k1_0))
           (none))
         (none))
       (k1_0 v7))
     (none)
def l_spec_l7Waits_0 {α : Type} (n : Nat) : Nat → List Lock → Int → Int → Int → (Int → Option α) → Option α
  | 0, _, _, _, _, _ => none
  | m0 + 1, v1, v2, v3, v4, k0_0 =>
    cond (decide (v4 < ((v1).length : Int)))
     (l_spec_l7Waits_1 n n v1 v2 v3 v4 0
       (fun w12 =>
        l_spec_l7Waits_0 n m0 v1 v2 w12 (w64 (v4 + 1)) k0_0))
     (k0_0 v3)
def f_spec_l7Waits (n : Nat) (a0 : List Lock) (a1 : Int) : Option (Int × Unit) :=
  l_spec_l7Waits_0 n n a0 a1 0 0
   (fun w13 =>
    some (w13, ()))
def r_spec_l7Waits (n : Nat) : Rw := ⟨137, (.pair (.v (.ro .lock)) (.pair (.v (.int)) .one)), (.pair .int .one), fun x => f_spec_l7Waits n x.1.2 x.2.1⟩
def s_spec_l7Waits_0 (n : Nat) : LS where
  la := ⟨3, [0, 1, 5, 6], [], [], [5], []⟩
  nt := 37
  kt := [0, 1, 5, 6]
  hs := []
  X := Bool × List Lock × Int × Int × Int
  abs := fun vs es => match vs, es with | [.ro y0 .lock y1, .int y2, .int y3, .int y4], [] => some (y0, y1, y2, y3, y4) | _, _ => none
  tms := fun x => [.ro x.1 .lock x.2.1, .int x.2.2.1, .int x.2.2.2.1, .int x.2.2.2.2]
  ets := fun x => []
  run := fun m x k => l_spec_l7Waits_0 n m x.2.1 x.2.2.1 x.2.2.2.1 x.2.2.2.2 (fun w0 => k (.exit 0) ⟨layT [5] [.int w0] 0 37, layH [] []⟩)
def s_spec_l7Waits_1 (n : Nat) : LS where
  la := ⟨6, [0, 1, 5, 6, 7], [], [], [0, 1, 5, 6], []⟩
  nt := 37
  kt := [0, 1, 5, 6, 7]
  hs := []
  X := Bool × List Lock × Int × Int × Int × Int
  abs := fun vs es => match vs, es with | [.ro y0 .lock y1, .int y2, .int y3, .int y4, .int y5], [] => some (y0, y1, y2, y3, y4, y5) | _, _ => none
  tms := fun x => [.ro x.1 .lock x.2.1, .int x.2.2.1, .int x.2.2.2.1, .int x.2.2.2.2.1, .int x.2.2.2.2.2]
  ets := fun x => []
  run := fun m x k => l_spec_l7Waits_1 n m x.2.1 x.2.2.1 x.2.2.2.1 x.2.2.2.2.1 x.2.2.2.2.2 (fun w0 => k (.exit 2) ⟨layT [0, 1, 5, 6] [.ro x.1 .lock x.2.1, .int x.2.2.1, .int w0, .int x.2.2.2.2.1] 0 37, layH [] []⟩)
noncomputable def c_spec_l7Waits_0 : Code := (Go.Proofs.Tryz.f137.body.bind (subLoop 3)).getD .skip
noncomputable def c_spec_l7Waits_1 : Code := (Go.Proofs.Tryz.f137.body.bind (subLoop 6)).getD .skip
theorem s_spec_l7Waits_0_ok (n : Nat) : LSok Tb tyK (orc []) n a_spec_l7Waits.ann [s_spec_l7Waits_0 n, s_spec_l7Waits_1 n] c_spec_l7Waits_0 (s_spec_l7Waits_0 n) :=
  ⟨by intro vs es x h; dsimp only [s_spec_l7Waits_0] at h; split at h; (· injection h with h; subst h; exact ⟨rfl, rfl⟩); (· cases h), fun _ _ => rfl, fun m x k => by kernel_rfl⟩
theorem s_spec_l7Waits_1_ok (n : Nat) : LSok Tb tyK (orc []) n a_spec_l7Waits.ann [s_spec_l7Waits_0 n, s_spec_l7Waits_1 n] c_spec_l7Waits_1 (s_spec_l7Waits_1 n) :=
  ⟨by intro vs es x h; dsimp only [s_spec_l7Waits_1] at h; split at h; (· injection h with h; subst h; exact ⟨rfl, rfl⟩); (· cases h), fun _ _ => rfl, fun m x k => by kernel_rfl⟩
theorem r_spec_l7Waits_ok (n : Nat) : RwOk Go.Proofs.Tryz.prog tyK (r_spec_l7Waits n) :=
  ent_ok (fa := a_spec_l7Waits) (ls := [s_spec_l7Waits_0 n, s_spec_l7Waits_1 n]) (cs := [c_spec_l7Waits_0, c_spec_l7Waits_1]) (n := n) (es := []) mixedOk tbOk ents_nil Go.Proofs.Tryz.func137 (by kernel_rfl) (by kernel_rfl) (by kernel_rfl) (LSsOk.cons _ _ (l := s_spec_l7Waits_0 n) (by kernel_rfl) (s_spec_l7Waits_0_ok n) (LSsOk.cons _ _ (l := s_spec_l7Waits_1 n) (by kernel_rfl) (s_spec_l7Waits_1_ok n) (LSsOk.nil _ _))) (fun x => by kernel_rfl)
/-! loop.example/g00185/spec.LocksOk -/
noncomputable def a_spec_LocksOk : FnA := ⟨Go.Proofs.Tryz.f109, ⟨[(6, [(5, .call [.ro, .ro, .ro] .bool [] [])]), (12, [(2, .call [.ro, .ro] (.tup (.pair (.own .int) (.pair .bool .one))) [] [none])]), (13, [(1, .call [.ro, .ro, .ro] .bool [] []), (6, .call [.ro, .ro] .int [] [])])], [], []⟩, 0⟩
def l_spec_LocksOk_1 {α : Type} (n : Nat) : Nat → List Lock → Int → Int → (Option α) → (Option α) → Option α
  | 0, _, _, _, _, _ => none
  | m1 + 1, v6, v7, v8, k1_0, k1_1 =>
    cond ((decide (0 ≤ v7)) && (decide (v7 < ((v6).length : Int))))
     (let e9 := (((List.getD v6 (Int.toNat v7) (Kd.dflt .lock)).Waits).length : Int)
      cond (decide (v8 < e9))
       (cond ((decide (0 ≤ v7)) && (decide (v7 < ((v6).length : Int))))
         (cond ((decide (0 ≤ v8)) && (decide (v8 < (((List.getD v6 (Int.toNat v7) (Kd.dflt .lock)).Waits).length : Int))))
           (let e10 := (List.getD (List.getD v6 (Int.toNat v7) (Kd.dflt .lock)).Waits (Int.toNat v8) (Kd.dflt .int))
            (f_spec_l7Chain n v6 e10).bind fun r11 =>
            (f_spec_l1In e10 1 1000).bind fun r12 =>
            cond (!r12.1)
             (k1_0)
             ((f_spec_l7Waits n v6 e10).bind fun r13 =>
              cond (!(decide (r13.1 = 1)))
               (k1_0)
               (cond (!r11.1.2.1)
                 (k1_0)
                 (l_spec_LocksOk_1 n m1 v6 v7 (w64 (v8 + 1)) k1_0 k1_1))))
           (none))
         (none))
       (k1_1))
     (none)
def l_spec_LocksOk_0 {α : Type} (n : Nat) : Nat → List Lock → Int → (Option α) → (Option α) → Option α
  | 0, _, _, _, _ => none
  | m0 + 1, v1, v2, k0_0, k0_1 =>
    cond (decide (v2 < ((v1).length : Int)))
     (cond ((decide (0 ≤ v2)) && (decide (v2 < ((v1).length : Int))))
       ((f_spec_l1In ((List.getD v1 (Int.toNat v2) (Kd.dflt .lock)).Owner) 0 1000).bind fun r3 =>
        cond (!r3.1)
         (k0_0)
         (cond ((decide (0 ≤ v2)) && (decide (v2 < ((v1).length : Int))))
           (let e4 := (decide ((List.getD v1 (Int.toNat v2) (Kd.dflt .lock)).Owner = 0))
            cond e4
             (cond ((decide (0 ≤ v2)) && (decide (v2 < ((v1).length : Int))))
               (let e5 := (((List.getD v1 (Int.toNat v2) (Kd.dflt .lock)).Waits).length : Int)
                cond (decide (0 < e5))
                 (k0_0)
                 (l_spec_LocksOk_1 n n v1 v2 0
                   (k0_0)
                   (l_spec_LocksOk_0 n m0 v1 (w64 (v2 + 1)) k0_0 k0_1)))
               (none))
             (l_spec_LocksOk_1 n n v1 v2 0
               (k0_0)
               (l_spec_LocksOk_0 n m0 v1 (w64 (v2 + 1)) k0_0 k0_1)))
           (none)))
       (none))
     (k0_1)
def f_spec_LocksOk (n : Nat) (a0 : List Lock) : Option (Bool × Unit) :=
  cond (decide (5 < ((a0).length : Int)))
   (some (false, ()))
   (l_spec_LocksOk_0 n n a0 0
     (some (false, ()))
     (some (true, ())))
def r_spec_LocksOk (n : Nat) : Rw := ⟨109, (.pair (.v (.ro .lock)) .one), (.pair .bool .one), fun x => f_spec_LocksOk n x.1.2⟩
def s_spec_LocksOk_0 (n : Nat) : LS where
  la := ⟨4, [0, 3], [], [], [2], []⟩
  nt := 78
  kt := [0, 3]
  hs := []
  X := Bool × List Lock × Int
  abs := fun vs es => match vs, es with | [.ro y0 .lock y1, .int y2], [] => some (y0, y1, y2) | _, _ => none
  tms := fun x => [.ro x.1 .lock x.2.1, .int x.2.2]
  ets := fun x => []
  run := fun m x k => l_spec_LocksOk_0 n m x.2.1 x.2.2 (k .ret ⟨layT [2] [.bool false] 0 78, layH [] []⟩) (k (.exit 0) ⟨layT [] [] 0 78, layH [] []⟩)
def s_spec_LocksOk_1 (n : Nat) : LS where
  la := ⟨9, [0, 3, 4], [], [], [0, 2, 3], []⟩
  nt := 78
  kt := [0, 3, 4]
  hs := []
  X := Bool × List Lock × Int × Int
  abs := fun vs es => match vs, es with | [.ro y0 .lock y1, .int y2, .int y3], [] => some (y0, y1, y2, y3) | _, _ => none
  tms := fun x => [.ro x.1 .lock x.2.1, .int x.2.2.1, .int x.2.2.2]
  ets := fun x => []
  run := fun m x k => l_spec_LocksOk_1 n m x.2.1 x.2.2.1 x.2.2.2 (k .ret ⟨layT [0, 2, 3] [.ro x.1 .lock x.2.1, .bool false, .int x.2.2.1] 0 78, layH [] []⟩) (k (.exit 2) ⟨layT [0, 3] [.ro x.1 .lock x.2.1, .int x.2.2.1] 0 78, layH [] []⟩)
noncomputable def c_spec_LocksOk_0 : Code := (Go.Proofs.Tryz.f109.body.bind (subLoop 4)).getD .skip
noncomputable def c_spec_LocksOk_1 : Code := (Go.Proofs.Tryz.f109.body.bind (subLoop 9)).getD .skip
theorem s_spec_LocksOk_0_ok (n : Nat) : LSok Tb tyK (orc [r_spec_l1In, (r_spec_l7Chain n), (r_spec_l7Waits n)]) n a_spec_LocksOk.ann [s_spec_LocksOk_0 n, s_spec_LocksOk_1 n] c_spec_LocksOk_0 (s_spec_LocksOk_0 n) :=
  ⟨by intro vs es x h; dsimp only [s_spec_LocksOk_0] at h; split at h; (· injection h with h; subst h; exact ⟨rfl, rfl⟩); (· cases h), fun _ _ => rfl, fun m x k => by kernel_rfl⟩
theorem s_spec_LocksOk_1_ok (n : Nat) : LSok Tb tyK (orc [r_spec_l1In, (r_spec_l7Chain n), (r_spec_l7Waits n)]) n a_spec_LocksOk.ann [s_spec_LocksOk_0 n, s_spec_LocksOk_1 n] c_spec_LocksOk_1 (s_spec_LocksOk_1 n) :=
  ⟨by intro vs es x h; dsimp only [s_spec_LocksOk_1] at h; split at h; (· injection h with h; subst h; exact ⟨rfl, rfl⟩); (· cases h), fun _ _ => rfl, fun m x k => by kernel_rfl⟩
theorem r_spec_LocksOk_ok (n : Nat) : RwOk Go.Proofs.Tryz.prog tyK (r_spec_LocksOk n) :=
  ent_ok (fa := a_spec_LocksOk) (ls := [s_spec_LocksOk_0 n, s_spec_LocksOk_1 n]) (cs := [c_spec_LocksOk_0, c_spec_LocksOk_1]) (n := n) (es := [r_spec_l1In, (r_spec_l7Chain n), (r_spec_l7Waits n)]) mixedOk tbOk (ents_cons (r_spec_l1In_ok) (ents_cons (r_spec_l7Chain_ok n) (ents_cons (r_spec_l7Waits_ok n) ents_nil))) Go.Proofs.Tryz.func109 (by kernel_rfl) (by kernel_rfl) (by kernel_rfl) (LSsOk.cons _ _ (l := s_spec_LocksOk_0 n) (by kernel_rfl) (s_spec_LocksOk_0_ok n) (LSsOk.cons _ _ (l := s_spec_LocksOk_1 n) (by kernel_rfl) (s_spec_LocksOk_1_ok n) (LSsOk.nil _ _))) (fun x => by kernel_rfl)
/-! loop.example/g00185/spec.TaskAt -/
noncomputable def a_spec_TaskAt : FnA := ⟨Go.Proofs.Tryz.f95, ⟨[], [], []⟩, 0⟩
def l_spec_TaskAt_0 {α : Type} (n : Nat) : Nat → List Task → Int → Int → (Int → Option α) → (Option α) → Option α
  | 0, _, _, _, _, _ => none
  | m0 + 1, v1, v2, v3, k0_0, k0_1 =>
    cond (decide (v3 < ((v1).length : Int)))
     (cond ((decide (0 ≤ v3)) && (decide (v3 < ((v1).length : Int))))
       (let e4 := (decide ((List.getD v1 (Int.toNat v3) (Kd.dflt .task)).No = v2))
        cond e4
         (k0_0 v3)
         (l_spec_TaskAt_0 n m0 v1 v2 (w64 (v3 + 1)) k0_0 k0_1))
       (none))
     (k0_1)
def f_spec_TaskAt (n : Nat) (a0 : List Task) (a1 : Int) : Option (Int × Unit) :=
  l_spec_TaskAt_0 n n a0 a1 0
   (fun w5 =>
    some (w5, ()))
   (some ((-1), ()))
def r_spec_TaskAt (n : Nat) : Rw := ⟨95, (.pair (.v (.ro .task)) (.pair (.v (.int)) .one)), (.pair .int .one), fun x => f_spec_TaskAt n x.1.2 x.2.1⟩
def s_spec_TaskAt_0 (n : Nat) : LS where
  la := ⟨2, [0, 1, 5], [], [], [4], []⟩
  nt := 20
  kt := [0, 1, 5]
  hs := []
  X := Bool × List Task × Int × Int
  abs := fun vs es => match vs, es with | [.ro y0 .task y1, .int y2, .int y3], [] => some (y0, y1, y2, y3) | _, _ => none
  tms := fun x => [.ro x.1 .task x.2.1, .int x.2.2.1, .int x.2.2.2]
  ets := fun x => []
  run := fun m x k => l_spec_TaskAt_0 n m x.2.1 x.2.2.1 x.2.2.2 (fun w0 => k .ret ⟨layT [4] [.int w0] 0 20, layH [] []⟩) (k (.exit 0) ⟨layT [] [] 0 20, layH [] []⟩)
noncomputable def c_spec_TaskAt_0 : Code := (Go.Proofs.Tryz.f95.body.bind (subLoop 2)).getD .skip
theorem s_spec_TaskAt_0_ok (n : Nat) : LSok Tb tyK (orc []) n a_spec_TaskAt.ann [s_spec_TaskAt_0 n] c_spec_TaskAt_0 (s_spec_TaskAt_0 n) :=
  ⟨by intro vs es x h; dsimp only [s_spec_TaskAt_0] at h; split at h; (· injection h with h; subst h; exact ⟨rfl, rfl⟩); (· cases h), fun _ _ => rfl, fun m x k => by kernel_rfl⟩
theorem r_spec_TaskAt_ok (n : Nat) : RwOk Go.Proofs.Tryz.prog tyK (r_spec_TaskAt n) :=
  ent_ok (fa := a_spec_TaskAt) (ls := [s_spec_TaskAt_0 n]) (cs := [c_spec_TaskAt_0]) (n := n) (es := []) mixedOk tbOk ents_nil Go.Proofs.Tryz.func95 (by kernel_rfl) (by kernel_rfl) (by kernel_rfl) (LSsOk.cons _ _ (l := s_spec_TaskAt_0 n) (by kernel_rfl) (s_spec_TaskAt_0_ok n) (LSsOk.nil _ _)) (fun x => by kernel_rfl)
/-! loop.example/g00185/spec.l9Locks -/
noncomputable def a_spec_l9Locks : FnA := ⟨Go.Proofs.Tryz.f60, ⟨[(0, [(0, .slot 0 .int)]), (1, [(7, .call [.ro] .bool [] [])]), (6, [(5, .slot 1 .int)]), (8, [(4, .call [.ro, .ro] .int [] [])]), (14, [(7, .call [.ro, .ro] .int [] [])])], [(14, [([0], []), ([0], []), ([1], []), ([1], []), ([], []), ([], []), ([], []), ([], []), ([], [])]), (15, [([], []), ([], []), ([], []), ([0], []), ([0], []), ([], []), ([], []), ([], []), ([], []), ([0], []), ([0], []), ([], []), ([], []), ([], []), ([], []), ([], []), ([], [])])], []⟩, 2⟩
def l_spec_l9Locks_1 {α : Type} (n : Nat) : Nat → Sys → Int → Lock → Int → Int → (Option α) → (Option α) → Option α
  | 0, _, _, _, _, _, _, _ => none
  | m1 + 1, v6, v7, v8, v9, v10, k1_0, k1_1 =>
    cond (decide (v10 < ((v8.Waits).length : Int)))
     (cond ((decide (0 ≤ v10)) && (decide (v10 < ((v8.Waits).length : Int))))
       ((f_spec_TaskAt n v6.Tasks (List.getD v8.Waits (Int.toNat v10) (Kd.dflt .int))).bind fun r11 =>
        cond (decide (r11.1 < 0))
         (k1_0)
         (cond ((decide (0 ≤ r11.1)) && (decide (r11.1 < ((v6.Tasks).length : Int))))
           (cond ((decide (0 ≤ v9)) && (decide (v9 < ((v6.Tasks).length : Int))))
             (let e12 := (!(decide ((List.getD v6.Tasks (Int.toNat r11.1) (Kd.dflt .task)).Cpu = (List.getD v6.Tasks (Int.toNat v9) (Kd.dflt .task)).Cpu)))
              cond e12
               (k1_0)
               (l_spec_l9Locks_1 n m1 v6 v7 v8 v9 (w64 (v10 + 1)) k1_0 k1_1))
             (none))
           (none)))
       (none))
     (k1_1)
def l_spec_l9Locks_0 {α : Type} (n : Nat) : Nat → Sys → Int → (Option α) → (Option α) → Option α
  | 0, _, _, _, _ => none
  | m0 + 1, v2, v3, k0_0, k0_1 =>
    cond (decide (v3 < ((v2.Locks).length : Int)))
     (cond ((decide (0 ≤ v3)) && (decide (v3 < ((v2.Locks).length : Int))))
       (let e4 := (decide ((List.getD v2.Locks (Int.toNat v3) (Kd.dflt .lock)).Owner = 0))
        cond e4
         (l_spec_l9Locks_0 n m0 v2 (w64 (v3 + 1)) k0_0 k0_1)
         ((f_spec_TaskAt n v2.Tasks ((List.getD v2.Locks (Int.toNat v3) (Kd.dflt .lock)).Owner)).bind fun r5 =>
          cond (decide (r5.1 < 0))
           (k0_0)
           (l_spec_l9Locks_1 n n v2 v3 (List.getD v2.Locks (Int.toNat v3) (Kd.dflt .lock)) r5.1 0
             (k0_0)
             (l_spec_l9Locks_0 n m0 v2 (w64 (v3 + 1)) k0_0 k0_1))))
       (none))
     (k0_1)
def f_spec_l9Locks (n : Nat) (a0 : Sys) : Option (Bool × Unit) :=
  cond (!(decide (((a0.Locks).length : Int) = 5)))
   (some (false, ()))
   ((f_spec_LocksOk n a0.Locks).bind fun r1 =>
    cond (!r1.1)
     (some (false, ()))
     (l_spec_l9Locks_0 n n a0 0
       (some (false, ()))
       (some (true, ()))))
def r_spec_l9Locks (n : Nat) : Rw := ⟨60, (.pair (.v (.agg (.pair .int (.pair .int (.pair (.ro .task) (.pair (.ro .lock) (.pair (.ro .ghost) (.pair (.ro .int) (.pair .int (.pair .int (.pair (.ro .turn) .one))))))))))) .one), (.pair .bool .one), fun x => f_spec_l9Locks n (⟨x.1.1, x.1.2.1, x.1.2.2.1.2, x.1.2.2.2.1.2, x.1.2.2.2.2.1.2, x.1.2.2.2.2.2.1.2, x.1.2.2.2.2.2.2.1, x.1.2.2.2.2.2.2.2.1, x.1.2.2.2.2.2.2.2.2.1.2⟩ : Sys)⟩
def s_spec_l9Locks_0 (n : Nat) : LS where
  la := ⟨4, [1, 3], [], [1], [2], []⟩
  nt := 72
  kt := [1, 3]
  hs := [.k, .fresh]
  X := Int × Int × Bool × List Task × Bool × List Lock × Bool × List Ghost × Bool × List Int × Int × Int × Bool × List Turn × Int
  abs := fun vs es => match vs, es with | [.ptr 0 0, .int y14], [.box [.int y0, .int y1, .ro y2 .task y3, .ro y4 .lock y5, .ro y6 .ghost y7, .ro y8 .int y9, .int y10, .int y11, .ro y12 .turn y13]] => some (y0, y1, y2, y3, y4, y5, y6, y7, y8, y9, y10, y11, y12, y13, y14) | _, _ => none
  tms := fun x => [.ptr 0 0, .int x.2.2.2.2.2.2.2.2.2.2.2.2.2.2]
  ets := fun x => [.box [.int x.1, .int x.2.1, .ro x.2.2.1 .task x.2.2.2.1, .ro x.2.2.2.2.1 .lock x.2.2.2.2.2.1, .ro x.2.2.2.2.2.2.1 .ghost x.2.2.2.2.2.2.2.1, .ro x.2.2.2.2.2.2.2.2.1 .int x.2.2.2.2.2.2.2.2.2.1, .int x.2.2.2.2.2.2.2.2.2.2.1, .int x.2.2.2.2.2.2.2.2.2.2.2.1, .ro x.2.2.2.2.2.2.2.2.2.2.2.2.1 .turn x.2.2.2.2.2.2.2.2.2.2.2.2.2.1]]
  run := fun m x k => l_spec_l9Locks_0 n m (⟨x.1, x.2.1, x.2.2.2.1, x.2.2.2.2.2.1, x.2.2.2.2.2.2.2.1, x.2.2.2.2.2.2.2.2.2.1, x.2.2.2.2.2.2.2.2.2.2.1, x.2.2.2.2.2.2.2.2.2.2.2.1, x.2.2.2.2.2.2.2.2.2.2.2.2.2.1⟩ : Sys) x.2.2.2.2.2.2.2.2.2.2.2.2.2.2 (k .ret ⟨layT [2] [.bool false] 0 72, layH [.dead, .dead] []⟩) (k (.exit 0) ⟨layT [] [] 0 72, layH [.dead, .dead] []⟩)
def s_spec_l9Locks_1 (n : Nat) : LS where
  la := ⟨12, [1, 3, 4, 5, 6], [], [], [1, 2, 3], [0]⟩
  nt := 72
  kt := [1, 3, 4, 5, 6]
  hs := [.k, .k]
  X := Int × Int × Bool × List Task × Bool × List Lock × Bool × List Ghost × Bool × List Int × Int × Int × Bool × List Turn × Int × Int × Bool × List Int × Int × Int
  abs := fun vs es => match vs, es with | [.ptr 0 0, .int y14, .ptr 1 0, .int y18, .int y19], [.box [.int y0, .int y1, .ro y2 .task y3, .ro y4 .lock y5, .ro y6 .ghost y7, .ro y8 .int y9, .int y10, .int y11, .ro y12 .turn y13], .box [.int y15, .ro y16 .int y17]] => some (y0, y1, y2, y3, y4, y5, y6, y7, y8, y9, y10, y11, y12, y13, y14, y15, y16, y17, y18, y19) | _, _ => none
  tms := fun x => [.ptr 0 0, .int x.2.2.2.2.2.2.2.2.2.2.2.2.2.2.1, .ptr 1 0, .int x.2.2.2.2.2.2.2.2.2.2.2.2.2.2.2.2.2.2.1, .int x.2.2.2.2.2.2.2.2.2.2.2.2.2.2.2.2.2.2.2]
  ets := fun x => [.box [.int x.1, .int x.2.1, .ro x.2.2.1 .task x.2.2.2.1, .ro x.2.2.2.2.1 .lock x.2.2.2.2.2.1, .ro x.2.2.2.2.2.2.1 .ghost x.2.2.2.2.2.2.2.1, .ro x.2.2.2.2.2.2.2.2.1 .int x.2.2.2.2.2.2.2.2.2.1, .int x.2.2.2.2.2.2.2.2.2.2.1, .int x.2.2.2.2.2.2.2.2.2.2.2.1, .ro x.2.2.2.2.2.2.2.2.2.2.2.2.1 .turn x.2.2.2.2.2.2.2.2.2.2.2.2.2.1], .box [.int x.2.2.2.2.2.2.2.2.2.2.2.2.2.2.2.1, .ro x.2.2.2.2.2.2.2.2.2.2.2.2.2.2.2.2.1 .int x.2.2.2.2.2.2.2.2.2.2.2.2.2.2.2.2.2.1]]
  run := fun m x k => l_spec_l9Locks_1 n m (⟨x.1, x.2.1, x.2.2.2.1, x.2.2.2.2.2.1, x.2.2.2.2.2.2.2.1, x.2.2.2.2.2.2.2.2.2.1, x.2.2.2.2.2.2.2.2.2.2.1, x.2.2.2.2.2.2.2.2.2.2.2.1, x.2.2.2.2.2.2.2.2.2.2.2.2.2.1⟩ : Sys) x.2.2.2.2.2.2.2.2.2.2.2.2.2.2.1 (⟨x.2.2.2.2.2.2.2.2.2.2.2.2.2.2.2.1, x.2.2.2.2.2.2.2.2.2.2.2.2.2.2.2.2.2.1⟩ : Lock) x.2.2.2.2.2.2.2.2.2.2.2.2.2.2.2.2.2.2.1 x.2.2.2.2.2.2.2.2.2.2.2.2.2.2.2.2.2.2.2 (k .ret ⟨layT [1, 2, 3] [.ptr 0 0, .bool false, .int x.2.2.2.2.2.2.2.2.2.2.2.2.2.2.1] 0 72, layH [.k, .dead] [.box [.int (⟨x.1, x.2.1, x.2.2.2.1, x.2.2.2.2.2.1, x.2.2.2.2.2.2.2.1, x.2.2.2.2.2.2.2.2.2.1, x.2.2.2.2.2.2.2.2.2.2.1, x.2.2.2.2.2.2.2.2.2.2.2.1, x.2.2.2.2.2.2.2.2.2.2.2.2.2.1⟩ : Sys).Now, .int (⟨x.1, x.2.1, x.2.2.2.1, x.2.2.2.2.2.1, x.2.2.2.2.2.2.2.1, x.2.2.2.2.2.2.2.2.2.1, x.2.2.2.2.2.2.2.2.2.2.1, x.2.2.2.2.2.2.2.2.2.2.2.1, x.2.2.2.2.2.2.2.2.2.2.2.2.2.1⟩ : Sys).Cpus, .ro x.2.2.1 .task (⟨x.1, x.2.1, x.2.2.2.1, x.2.2.2.2.2.1, x.2.2.2.2.2.2.2.1, x.2.2.2.2.2.2.2.2.2.1, x.2.2.2.2.2.2.2.2.2.2.1, x.2.2.2.2.2.2.2.2.2.2.2.1, x.2.2.2.2.2.2.2.2.2.2.2.2.2.1⟩ : Sys).Tasks, .ro x.2.2.2.2.1 .lock (⟨x.1, x.2.1, x.2.2.2.1, x.2.2.2.2.2.1, x.2.2.2.2.2.2.2.1, x.2.2.2.2.2.2.2.2.2.1, x.2.2.2.2.2.2.2.2.2.2.1, x.2.2.2.2.2.2.2.2.2.2.2.1, x.2.2.2.2.2.2.2.2.2.2.2.2.2.1⟩ : Sys).Locks, .ro x.2.2.2.2.2.2.1 .ghost (⟨x.1, x.2.1, x.2.2.2.1, x.2.2.2.2.2.1, x.2.2.2.2.2.2.2.1, x.2.2.2.2.2.2.2.2.2.1, x.2.2.2.2.2.2.2.2.2.2.1, x.2.2.2.2.2.2.2.2.2.2.2.1, x.2.2.2.2.2.2.2.2.2.2.2.2.2.1⟩ : Sys).Ghosts, .ro x.2.2.2.2.2.2.2.2.1 .int (⟨x.1, x.2.1, x.2.2.2.1, x.2.2.2.2.2.1, x.2.2.2.2.2.2.2.1, x.2.2.2.2.2.2.2.2.2.1, x.2.2.2.2.2.2.2.2.2.2.1, x.2.2.2.2.2.2.2.2.2.2.2.1, x.2.2.2.2.2.2.2.2.2.2.2.2.2.1⟩ : Sys).Floors, .int (⟨x.1, x.2.1, x.2.2.2.1, x.2.2.2.2.2.1, x.2.2.2.2.2.2.2.1, x.2.2.2.2.2.2.2.2.2.1, x.2.2.2.2.2.2.2.2.2.2.1, x.2.2.2.2.2.2.2.2.2.2.2.1, x.2.2.2.2.2.2.2.2.2.2.2.2.2.1⟩ : Sys).Seq, .int (⟨x.1, x.2.1, x.2.2.2.1, x.2.2.2.2.2.1, x.2.2.2.2.2.2.2.1, x.2.2.2.2.2.2.2.2.2.1, x.2.2.2.2.2.2.2.2.2.2.1, x.2.2.2.2.2.2.2.2.2.2.2.1, x.2.2.2.2.2.2.2.2.2.2.2.2.2.1⟩ : Sys).Missed, .ro x.2.2.2.2.2.2.2.2.2.2.2.2.1 .turn (⟨x.1, x.2.1, x.2.2.2.1, x.2.2.2.2.2.1, x.2.2.2.2.2.2.2.1, x.2.2.2.2.2.2.2.2.2.1, x.2.2.2.2.2.2.2.2.2.2.1, x.2.2.2.2.2.2.2.2.2.2.2.1, x.2.2.2.2.2.2.2.2.2.2.2.2.2.1⟩ : Sys).Trace]]⟩) (k (.exit 2) ⟨layT [1, 3] [.ptr 0 0, .int x.2.2.2.2.2.2.2.2.2.2.2.2.2.2.1] 0 72, layH [.k, .dead] [.box [.int (⟨x.1, x.2.1, x.2.2.2.1, x.2.2.2.2.2.1, x.2.2.2.2.2.2.2.1, x.2.2.2.2.2.2.2.2.2.1, x.2.2.2.2.2.2.2.2.2.2.1, x.2.2.2.2.2.2.2.2.2.2.2.1, x.2.2.2.2.2.2.2.2.2.2.2.2.2.1⟩ : Sys).Now, .int (⟨x.1, x.2.1, x.2.2.2.1, x.2.2.2.2.2.1, x.2.2.2.2.2.2.2.1, x.2.2.2.2.2.2.2.2.2.1, x.2.2.2.2.2.2.2.2.2.2.1, x.2.2.2.2.2.2.2.2.2.2.2.1, x.2.2.2.2.2.2.2.2.2.2.2.2.2.1⟩ : Sys).Cpus, .ro x.2.2.1 .task (⟨x.1, x.2.1, x.2.2.2.1, x.2.2.2.2.2.1, x.2.2.2.2.2.2.2.1, x.2.2.2.2.2.2.2.2.2.1, x.2.2.2.2.2.2.2.2.2.2.1, x.2.2.2.2.2.2.2.2.2.2.2.1, x.2.2.2.2.2.2.2.2.2.2.2.2.2.1⟩ : Sys).Tasks, .ro x.2.2.2.2.1 .lock (⟨x.1, x.2.1, x.2.2.2.1, x.2.2.2.2.2.1, x.2.2.2.2.2.2.2.1, x.2.2.2.2.2.2.2.2.2.1, x.2.2.2.2.2.2.2.2.2.2.1, x.2.2.2.2.2.2.2.2.2.2.2.1, x.2.2.2.2.2.2.2.2.2.2.2.2.2.1⟩ : Sys).Locks, .ro x.2.2.2.2.2.2.1 .ghost (⟨x.1, x.2.1, x.2.2.2.1, x.2.2.2.2.2.1, x.2.2.2.2.2.2.2.1, x.2.2.2.2.2.2.2.2.2.1, x.2.2.2.2.2.2.2.2.2.2.1, x.2.2.2.2.2.2.2.2.2.2.2.1, x.2.2.2.2.2.2.2.2.2.2.2.2.2.1⟩ : Sys).Ghosts, .ro x.2.2.2.2.2.2.2.2.1 .int (⟨x.1, x.2.1, x.2.2.2.1, x.2.2.2.2.2.1, x.2.2.2.2.2.2.2.1, x.2.2.2.2.2.2.2.2.2.1, x.2.2.2.2.2.2.2.2.2.2.1, x.2.2.2.2.2.2.2.2.2.2.2.1, x.2.2.2.2.2.2.2.2.2.2.2.2.2.1⟩ : Sys).Floors, .int (⟨x.1, x.2.1, x.2.2.2.1, x.2.2.2.2.2.1, x.2.2.2.2.2.2.2.1, x.2.2.2.2.2.2.2.2.2.1, x.2.2.2.2.2.2.2.2.2.2.1, x.2.2.2.2.2.2.2.2.2.2.2.1, x.2.2.2.2.2.2.2.2.2.2.2.2.2.1⟩ : Sys).Seq, .int (⟨x.1, x.2.1, x.2.2.2.1, x.2.2.2.2.2.1, x.2.2.2.2.2.2.2.1, x.2.2.2.2.2.2.2.2.2.1, x.2.2.2.2.2.2.2.2.2.2.1, x.2.2.2.2.2.2.2.2.2.2.2.1, x.2.2.2.2.2.2.2.2.2.2.2.2.2.1⟩ : Sys).Missed, .ro x.2.2.2.2.2.2.2.2.2.2.2.2.1 .turn (⟨x.1, x.2.1, x.2.2.2.1, x.2.2.2.2.2.1, x.2.2.2.2.2.2.2.1, x.2.2.2.2.2.2.2.2.2.1, x.2.2.2.2.2.2.2.2.2.2.1, x.2.2.2.2.2.2.2.2.2.2.2.1, x.2.2.2.2.2.2.2.2.2.2.2.2.2.1⟩ : Sys).Trace]]⟩)
noncomputable def c_spec_l9Locks_0 : Code := (Go.Proofs.Tryz.f60.body.bind (subLoop 4)).getD .skip
noncomputable def c_spec_l9Locks_1 : Code := (Go.Proofs.Tryz.f60.body.bind (subLoop 12)).getD .skip
theorem s_spec_l9Locks_0_ok (n : Nat) : LSok Tb tyK (orc [(r_spec_LocksOk n), (r_spec_TaskAt n)]) n a_spec_l9Locks.ann [s_spec_l9Locks_0 n, s_spec_l9Locks_1 n] c_spec_l9Locks_0 (s_spec_l9Locks_0 n) :=
  ⟨by intro vs es x h; dsimp only [s_spec_l9Locks_0] at h; split at h; (· injection h with h; subst h; exact ⟨rfl, rfl⟩); (· cases h), fun _ _ => rfl, fun m x k => by kernel_rfl⟩
theorem s_spec_l9Locks_1_ok (n : Nat) : LSok Tb tyK (orc [(r_spec_LocksOk n), (r_spec_TaskAt n)]) n a_spec_l9Locks.ann [s_spec_l9Locks_0 n, s_spec_l9Locks_1 n] c_spec_l9Locks_1 (s_spec_l9Locks_1 n) :=
  ⟨by intro vs es x h; dsimp only [s_spec_l9Locks_1] at h; split at h; (· injection h with h; subst h; exact ⟨rfl, rfl⟩); (· cases h), fun _ _ => rfl, fun m x k => by kernel_rfl⟩
theorem r_spec_l9Locks_ok (n : Nat) : RwOk Go.Proofs.Tryz.prog tyK (r_spec_l9Locks n) :=
  ent_ok (fa := a_spec_l9Locks) (ls := [s_spec_l9Locks_0 n, s_spec_l9Locks_1 n]) (cs := [c_spec_l9Locks_0, c_spec_l9Locks_1]) (n := n) (es := [(r_spec_LocksOk n), (r_spec_TaskAt n)]) mixedOk tbOk (ents_cons (r_spec_LocksOk_ok n) (ents_cons (r_spec_TaskAt_ok n) ents_nil)) Go.Proofs.Tryz.func60 (by kernel_rfl) (by kernel_rfl) (by kernel_rfl) (LSsOk.cons _ _ (l := s_spec_l9Locks_0 n) (by kernel_rfl) (s_spec_l9Locks_0_ok n) (LSsOk.cons _ _ (l := s_spec_l9Locks_1 n) (by kernel_rfl) (s_spec_l9Locks_1_ok n) (LSsOk.nil _ _))) (fun x => by kernel_rfl)
end Go.Proofs.YtjgkeaiibdodfaaGreat.VR
