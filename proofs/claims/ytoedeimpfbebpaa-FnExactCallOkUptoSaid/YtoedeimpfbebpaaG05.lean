/- Functions, printed by program (wip/gen/emit.py). -/
import Derived.Test.YtoedeimpfbebpaaG04
set_option linter.unusedVariables false
set_option maxRecDepth 100000
namespace Go.Proofs.Ytoedeimpfbebpaa.VR
open Go
/-! slices.IndexFunc[[]loop.example/g00185/impl.Lock,loop.example/g00185/impl.Lock] -/
noncomputable def a_slices_IndexFunc_Lock_WaitAt_1 : FnA := ⟨Go.Proofs.Try.f133, ⟨[(4, [(5, .call [.ro] .bool [] [])])], [], []⟩, 0⟩
def l_slices_IndexFunc_Lock_WaitAt_1_0 {α : Type} (n : Nat) : Nat → List Lock → Int → Int → Int → (Int → Option α) → (Option α) → Option α
  | 0, _, _, _, _, _, _ => none
  | m0 + 1, v1, v2, v3, v4, k0_0, k0_1 =>
    cond (decide (v4 < v3))
     (cond ((decide (0 ≤ v4)) && (decide (v4 < ((v1).length : Int))))
       ((f_impl_WaitAt_1 n (List.getD v1 (Int.toNat v4) (Kd.dflt .lock)) v2).bind fun r5 =>
        cond r5.1
         (k0_0 v4)
         (l_slices_IndexFunc_Lock_WaitAt_1_0 n m0 v1 v2 v3 (w64 (v4 + 1)) k0_0 k0_1))
       (none))
     (k0_1)
def f_slices_IndexFunc_Lock_WaitAt_1 (n : Nat) (a0 : List Lock) (a1_0_0 : Int) : Option (Int × Unit) :=
  l_slices_IndexFunc_Lock_WaitAt_1_0 n n a0 a1_0_0 ((a0).length : Int) 0
   (fun w6 =>
    some (w6, ()))
   (some ((-1), ()))
def r_slices_IndexFunc_Lock_WaitAt_1 (n : Nat) : Rw := ⟨133, (.pair (.v (.ro .lock)) (.pair (.v (.clo 166 (.pair (.rp (.pair .int .one) 0) .one))) .one)), (.pair .int .one), fun x => f_slices_IndexFunc_Lock_WaitAt_1 n x.1.2 x.2.1.1.1⟩
def s_slices_IndexFunc_Lock_WaitAt_1_0 (n : Nat) : LS where
  la := ⟨2, [0, 1, 7, 8], [], [], [4], []⟩
  nt := 19
  kt := [0, 1, 7, 8]
  hs := []
  X := Bool × List Lock × Int × Int × Int
  abs := fun vs es => match vs, es with | [.ro y0 .lock y1, .clo 166 [.rp [.int y2] 0], .int y3, .int y4], [] => some (y0, y1, y2, y3, y4) | _, _ => none
  tms := fun x => [.ro x.1 .lock x.2.1, .clo 166 [.rp [.int x.2.2.1] 0], .int x.2.2.2.1, .int x.2.2.2.2]
  ets := fun x => []
  run := fun m x k => l_slices_IndexFunc_Lock_WaitAt_1_0 n m x.2.1 x.2.2.1 x.2.2.2.1 x.2.2.2.2 (fun w0 => k .ret ⟨layT [4] [.int w0] 0 19, layH [] []⟩) (k (.exit 0) ⟨layT [] [] 0 19, layH [] []⟩)
noncomputable def c_slices_IndexFunc_Lock_WaitAt_1_0 : Code := (Go.Proofs.Try.f133.body.bind (subLoop 2)).getD .skip
theorem s_slices_IndexFunc_Lock_WaitAt_1_0_ok (n : Nat) : LSok Tb tyK (orc [(r_impl_WaitAt_1 n)]) n a_slices_IndexFunc_Lock_WaitAt_1.ann [s_slices_IndexFunc_Lock_WaitAt_1_0 n] c_slices_IndexFunc_Lock_WaitAt_1_0 (s_slices_IndexFunc_Lock_WaitAt_1_0 n) :=
  ⟨by intro vs es x h; dsimp only [s_slices_IndexFunc_Lock_WaitAt_1_0] at h; split at h; (· injection h with h; subst h; exact ⟨rfl, rfl⟩); (· cases h), fun _ _ => rfl, fun m x k => by kernel_rfl⟩
theorem r_slices_IndexFunc_Lock_WaitAt_1_ok (n : Nat) : RwOk Go.Proofs.Try.prog tyK (r_slices_IndexFunc_Lock_WaitAt_1 n) :=
  ent_ok (fa := a_slices_IndexFunc_Lock_WaitAt_1) (ls := [s_slices_IndexFunc_Lock_WaitAt_1_0 n]) (cs := [c_slices_IndexFunc_Lock_WaitAt_1_0]) (n := n) (es := [(r_impl_WaitAt_1 n)]) mixedOk tbOk (ents_cons (r_impl_WaitAt_1_ok n) ents_nil) Go.Proofs.Try.func133 (by kernel_rfl) (by kernel_rfl) (by kernel_rfl) (LSsOk.cons _ _ (l := s_slices_IndexFunc_Lock_WaitAt_1_0 n) (by kernel_rfl) (s_slices_IndexFunc_Lock_WaitAt_1_0_ok n) (LSsOk.nil _ _)) (fun x => by kernel_rfl)
/-! loop.example/g00185/impl.WaitAt -/
noncomputable def a_impl_WaitAt : FnA := ⟨Go.Proofs.Try.f155, ⟨[(0, [(0, .slot 0 .int)]), (1, [(2, .call [.ro, .ro] .int [] [])])], [], []⟩, 1⟩
def f_impl_WaitAt (n : Nat) (a0 : List Lock) (a1 : Int) : Option (Int × Unit) :=
  (f_slices_IndexFunc_Lock_WaitAt_1 n a0 a1).bind fun r1 =>
  some (r1.1, ())
def r_impl_WaitAt (n : Nat) : Rw := ⟨155, (.pair (.v (.ro .lock)) (.pair (.v (.int)) .one)), (.pair .int .one), fun x => f_impl_WaitAt n x.1.2 x.2.1⟩
theorem r_impl_WaitAt_ok (n : Nat) : RwOk Go.Proofs.Try.prog tyK (r_impl_WaitAt n) :=
  ent_ok (fa := a_impl_WaitAt) (ls := []) (cs := []) (n := n) (es := [(r_slices_IndexFunc_Lock_WaitAt_1 n)]) mixedOk tbOk (ents_cons (r_slices_IndexFunc_Lock_WaitAt_1_ok n) ents_nil) Go.Proofs.Try.func155 (by kernel_rfl) (by kernel_rfl) (by kernel_rfl) (LSsOk.nil _ _) (fun x => by kernel_rfl)
/-! loop.example/g00185/impl.chain -/
noncomputable def a_impl_chain : FnA := ⟨Go.Proofs.Try.f132, ⟨[(1, [(1, .slot 0 .int)]), (2, [(2, .call [.ro, .ro] .int [] [])]), (6, [(2, .call [.ro, .ro] .bool [] [])]), (8, [(2, .slot 2 .int), (3, .slot 3 .int)])], [], []⟩, 4⟩
def l_impl_chain_0 {α : Type} (n : Nat) : Nat → List Lock → Int → List Int → (List Int → Option α) → (List Int → Option α) → Option α
  | 0, _, _, _, _, _ => none
  | m0 + 1, v1, v2, v3, k0_0, k0_1 =>
    (f_impl_WaitAt n v1 v2).bind fun r4 =>
    cond (decide (r4.1 < 0))
     (k0_0 v3)
     (cond ((decide (0 ≤ r4.1)) && (decide (r4.1 < ((v1).length : Int))))
       ((f_slices_Contains_int n v3 ((List.getD v1 (Int.toNat r4.1) (Kd.dflt .lock)).Owner)).bind fun r5 =>
        cond r5.1
         (k0_1 v3)
         (let e6 := ([(List.getD v1 (Int.toNat r4.1) (Kd.dflt .lock)).Owner] : List Int)
          cond (decide ((v3).length + (e6).length ≤ lim))
           (l_impl_chain_0 n m0 v1 ((List.getD v1 (Int.toNat r4.1) (Kd.dflt .lock)).Owner) (v3 ++ e6) k0_0 k0_1)
           (none)))
       (none))
def f_impl_chain (n : Nat) (a0 : List Lock) (a1 : Int) : Option ((List Int × Bool × Unit) × Unit) :=
  l_impl_chain_0 n n a0 a1 ([a1] : List Int)
   (fun w7 =>
    some ((w7, true, ()), ()))
   (fun w8 =>
    some (([], false, ()), ()))
def r_impl_chain (n : Nat) : Rw := ⟨132, (.pair (.v (.ro .lock)) (.pair (.v (.int)) .one)), (.pair (.tup (.pair (.own .int) (.pair .bool .one))) .one), fun x => f_impl_chain n x.1.2 x.2.1⟩
def s_impl_chain_0 (n : Nat) : LS where
  la := ⟨2, [0, 1, 6], [(.t 6, 1, .int)], [2, 3], [4, 5], [1, 2, 3]⟩
  nt := 28
  kt := [0, 1, 6]
  hs := [.dead, .k, .fresh, .fresh]
  X := Bool × List Lock × Int × List Int
  abs := fun vs es => match vs, es with | [.ro y0 .lock y1, .int y2, .bor 1], [.root .int y3 .ok] => some (y0, y1, y2, y3) | _, _ => none
  tms := fun x => [.ro x.1 .lock x.2.1, .int x.2.2.1, .bor 1]
  ets := fun x => [.root .int x.2.2.2 .ok]
  run := fun m x k => l_impl_chain_0 n m x.2.1 x.2.2.1 x.2.2.2 (fun w0 => k .ret ⟨layT [4, 5] [.bor 1, .bool true] 0 28, layH [.dead, .k, .fresh, .fresh] [.root .int w0 .ok]⟩) (fun w0 => k .ret ⟨layT [4, 5] [.nil, .bool false] 0 28, layH [.dead, .k, .fresh, .fresh] [.root .int w0 .ok]⟩)
noncomputable def c_impl_chain_0 : Code := (Go.Proofs.Try.f132.body.bind (subLoop 2)).getD .skip
theorem s_impl_chain_0_ok (n : Nat) : LSok Tb tyK (orc [(r_impl_WaitAt n), (r_slices_Contains_int n)]) n a_impl_chain.ann [s_impl_chain_0 n] c_impl_chain_0 (s_impl_chain_0 n) :=
  ⟨by intro vs es x h; dsimp only [s_impl_chain_0] at h; split at h; (· injection h with h; subst h; exact ⟨rfl, rfl⟩); (· cases h), fun _ _ => rfl, fun m x k => by kernel_rfl⟩
theorem r_impl_chain_ok (n : Nat) : RwOk Go.Proofs.Try.prog tyK (r_impl_chain n) :=
  ent_ok (fa := a_impl_chain) (ls := [s_impl_chain_0 n]) (cs := [c_impl_chain_0]) (n := n) (es := [(r_impl_WaitAt n), (r_slices_Contains_int n)]) mixedOk tbOk (ents_cons (r_impl_WaitAt_ok n) (ents_cons (r_slices_Contains_int_ok n) ents_nil)) Go.Proofs.Try.func132 (by kernel_rfl) (by kernel_rfl) (by kernel_rfl) (LSsOk.cons _ _ (l := s_impl_chain_0 n) (by kernel_rfl) (s_impl_chain_0_ok n) (LSsOk.nil _ _)) (fun x => by kernel_rfl)
/-! loop.example/g00185/impl.LocksOk -/
noncomputable def a_impl_LocksOk : FnA := ⟨Go.Proofs.Try.f104, ⟨[(1, [(0, .slot 0 .int)]), (4, [(2, .slot 2 .int)]), (5, [(2, .call [.ro, .ro, .ro] .bool [] [])]), (10, [(1, .call [.ro] .bool [] []), (6, .call [.ro, .ro] .bool [] [])]), (12, [(2, .slot 4 .int), (3, .slot 5 .int)]), (18, [(2, .call [.ro, .ro] (.tup (.pair (.own .int) (.pair .bool .one))) [] [none])])], [], []⟩, 6⟩
def l_impl_LocksOk_1 {α : Type} (n : Nat) : Nat → List Lock → List Int → List Lock → Int → Int → List Int → Int → Int → (List Int → Option α) → (List Int → Option α) → Option α
  | 0, _, _, _, _, _, _, _, _, _, _ => none
  | m1 + 1, v10, v11, v12, v13, v14, v15, v16, v17, k1_0, k1_1 =>
    cond (decide (v17 < v16))
     (cond ((decide (0 ≤ v17)) && (decide (v17 < ((v15).length : Int))))
       ((f_impl_isNo (List.getD v15 (Int.toNat v17) (Kd.dflt .int))).bind fun r18 =>
        cond (!r18.1)
         (k1_0 v11)
         ((f_slices_Contains_int n v11 (List.getD v15 (Int.toNat v17) (Kd.dflt .int))).bind fun r19 =>
          cond r19.1
           (k1_0 v11)
           (let e20 := ([(List.getD v15 (Int.toNat v17) (Kd.dflt .int))] : List Int)
            cond (decide ((v11).length + (e20).length ≤ lim))
             (l_impl_LocksOk_1 n m1 v10 (v11 ++ e20) v12 v13 v14 v15 v16 (w64 (v17 + 1)) k1_0 k1_1)
             (none))))
       (none))
     (k1_1 v11)
def l_impl_LocksOk_0 {α : Type} (n : Nat) : Nat → List Lock → List Int → List Lock → Int → Int → (List Int → Option α) → (List Int → Option α) → (List Int → Option α) → Option α
  | 0, _, _, _, _, _, _, _, _ => none
  | m0 + 1, v1, v2, v3, v4, v5, k0_0, k0_1, k0_2 =>
    cond (decide (v5 < v4))
     (cond ((decide (0 ≤ v5)) && (decide (v5 < ((v3).length : Int))))
       ((f_impl_in ((List.getD v3 (Int.toNat v5) (Kd.dflt .lock)).Owner) 0 1000).bind fun r6 =>
        cond (!r6.1)
         (k0_0 v2)
         (let e7 := (decide ((List.getD v3 (Int.toNat v5) (Kd.dflt .lock)).Owner = 0))
          cond e7
           (let e8 := (((List.getD v3 (Int.toNat v5) (Kd.dflt .lock)).Waits).length : Int)
            cond (decide (0 < e8))
             (k0_0 v2)
             (let e9 := (((List.getD v3 (Int.toNat v5) (Kd.dflt .lock)).Waits).length : Int)
              l_impl_LocksOk_1 n n v1 v2 v3 v4 v5 ((List.getD v3 (Int.toNat v5) (Kd.dflt .lock)).Waits) e9 0
               (fun w21 =>
                k0_1 w21)
               (fun w22 =>
                l_impl_LocksOk_0 n m0 v1 w22 v3 v4 (w64 (v5 + 1)) k0_0 k0_1 k0_2)))
           (let e23 := (((List.getD v3 (Int.toNat v5) (Kd.dflt .lock)).Waits).length : Int)
            l_impl_LocksOk_1 n n v1 v2 v3 v4 v5 ((List.getD v3 (Int.toNat v5) (Kd.dflt .lock)).Waits) e23 0
             (fun w24 =>
              k0_1 w24)
             (fun w25 =>
              l_impl_LocksOk_0 n m0 v1 w25 v3 v4 (w64 (v5 + 1)) k0_0 k0_1 k0_2))))
       (none))
     (k0_2 v2)
def l_impl_LocksOk_2 {α : Type} (n : Nat) : Nat → List Lock → List Int → Int → Int → (Option α) → (Option α) → Option α
  | 0, _, _, _, _, _, _ => none
  | m2 + 1, v29, v30, v31, v32, k2_0, k2_1 =>
    cond (decide (v32 < v31))
     (cond ((decide (0 ≤ v32)) && (decide (v32 < ((v30).length : Int))))
       ((f_impl_chain n v29 (List.getD v30 (Int.toNat v32) (Kd.dflt .int))).bind fun r33 =>
        cond (!r33.1.2.1)
         (k2_0)
         (l_impl_LocksOk_2 n m2 v29 v30 v31 (w64 (v32 + 1)) k2_0 k2_1))
       (none))
     (k2_1)
def f_impl_LocksOk (n : Nat) (a0 : List Lock) : Option (Bool × Unit) :=
  l_impl_LocksOk_0 n n a0 ([] : List Int) a0 ((a0).length : Int) 0
   (fun w26 =>
    some (false, ()))
   (fun w27 =>
    some (false, ()))
   (fun w28 =>
    l_impl_LocksOk_2 n n a0 w28 ((w28).length : Int) 0
     (some (false, ()))
     (some ((decide (((a0).length : Int) ≤ 5)), ())))
def r_impl_LocksOk (n : Nat) : Rw := ⟨104, (.pair (.v (.ro .lock)) .one), (.pair .bool .one), fun x => f_impl_LocksOk n x.1.2⟩
def s_impl_LocksOk_0 (n : Nat) : LS where
  la := ⟨3, [0, 3, 13, 14, 15], [(.t 3, 1, .int)], [2, 3, 4, 5], [0, 2, 3], [1, 3, 4, 5]⟩
  nt := 73
  kt := [0, 3, 13, 14, 15]
  hs := [.dead, .k, .fresh, .fresh, .fresh, .fresh]
  X := Bool × List Lock × List Int × Bool × List Lock × Int × Int
  abs := fun vs es => match vs, es with | [.ro y0 .lock y1, .bor 1, .ro y3 .lock y4, .int y5, .int y6], [.root .int y2 .ok] => some (y0, y1, y2, y3, y4, y5, y6) | _, _ => none
  tms := fun x => [.ro x.1 .lock x.2.1, .bor 1, .ro x.2.2.2.1 .lock x.2.2.2.2.1, .int x.2.2.2.2.2.1, .int x.2.2.2.2.2.2]
  ets := fun x => [.root .int x.2.2.1 .ok]
  run := fun m x k => l_impl_LocksOk_0 n m x.2.1 x.2.2.1 x.2.2.2.2.1 x.2.2.2.2.2.1 x.2.2.2.2.2.2 (fun w0 => k .ret ⟨layT [0, 2, 3] [.ro x.1 .lock x.2.1, .bool false, .bor 1] 0 73, layH [.dead, .k, .dead, .k, .fresh, .fresh] [.root .int w0 .ok, .fresh]⟩) (fun w0 => k .ret ⟨layT [0, 2, 3] [.ro x.1 .lock x.2.1, .bool false, .bor 3] 0 73, layH [.dead, .k, .dead, .k, .fresh, .fresh] [.dead, .root .int w0 .ok]⟩) (fun w0 => k (.exit 0) ⟨layT [0, 3] [.ro x.1 .lock x.2.1, .bor 1] 0 73, layH [.dead, .k, .dead, .k, .fresh, .fresh] [.root .int w0 .ok, .fresh]⟩)
def s_impl_LocksOk_1 (n : Nat) : LS where
  la := ⟨8, [0, 3, 13, 14, 15, 35, 36, 37], [(.t 3, 3, .int)], [4, 5], [0, 2, 3, 13, 14, 15], [3, 4, 5]⟩
  nt := 73
  kt := [0, 3, 13, 14, 15, 35, 36, 37]
  hs := [.dead, .dead, .dead, .k, .fresh, .fresh]
  X := Bool × List Lock × List Int × Bool × List Lock × Int × Int × Bool × List Int × Int × Int
  abs := fun vs es => match vs, es with | [.ro y0 .lock y1, .bor 3, .ro y3 .lock y4, .int y5, .int y6, .ro y7 .int y8, .int y9, .int y10], [.root .int y2 .ok] => some (y0, y1, y2, y3, y4, y5, y6, y7, y8, y9, y10) | _, _ => none
  tms := fun x => [.ro x.1 .lock x.2.1, .bor 3, .ro x.2.2.2.1 .lock x.2.2.2.2.1, .int x.2.2.2.2.2.1, .int x.2.2.2.2.2.2.1, .ro x.2.2.2.2.2.2.2.1 .int x.2.2.2.2.2.2.2.2.1, .int x.2.2.2.2.2.2.2.2.2.1, .int x.2.2.2.2.2.2.2.2.2.2]
  ets := fun x => [.root .int x.2.2.1 .ok]
  run := fun m x k => l_impl_LocksOk_1 n m x.2.1 x.2.2.1 x.2.2.2.2.1 x.2.2.2.2.2.1 x.2.2.2.2.2.2.1 x.2.2.2.2.2.2.2.2.1 x.2.2.2.2.2.2.2.2.2.1 x.2.2.2.2.2.2.2.2.2.2 (fun w0 => k .ret ⟨layT [0, 2, 3, 13, 14, 15] [.ro x.1 .lock x.2.1, .bool false, .bor 3, .ro x.2.2.2.1 .lock x.2.2.2.2.1, .int x.2.2.2.2.2.1, .int x.2.2.2.2.2.2.1] 0 73, layH [.dead, .dead, .dead, .k, .fresh, .fresh] [.root .int w0 .ok]⟩) (fun w0 => k (.exit 2) ⟨layT [0, 3, 13, 14, 15] [.ro x.1 .lock x.2.1, .bor 3, .ro x.2.2.2.1 .lock x.2.2.2.2.1, .int x.2.2.2.2.2.1, .int x.2.2.2.2.2.2.1] 0 73, layH [.dead, .dead, .dead, .k, .fresh, .fresh] [.root .int w0 .ok]⟩)
def s_impl_LocksOk_2 (n : Nat) : LS where
  la := ⟨16, [0, 55, 56, 57], [], [], [0, 2], [3, 4, 5]⟩
  nt := 73
  kt := [0, 55, 56, 57]
  hs := [.dead, .k, .dead, .fresh, .fresh, .fresh]
  X := Bool × List Lock × List Int × Int × Int
  abs := fun vs es => match vs, es with | [.ro y0 .lock y1, .bor 1, .int y3, .int y4], [.root .int y2 .ok] => some (y0, y1, y2, y3, y4) | _, _ => none
  tms := fun x => [.ro x.1 .lock x.2.1, .bor 1, .int x.2.2.2.1, .int x.2.2.2.2]
  ets := fun x => [.root .int x.2.2.1 .ok]
  run := fun m x k => l_impl_LocksOk_2 n m x.2.1 x.2.2.1 x.2.2.2.1 x.2.2.2.2 (k .ret ⟨layT [0, 2] [.ro x.1 .lock x.2.1, .bool false] 0 73, layH [.dead, .dead, .dead, .fresh, .fresh, .fresh] []⟩) (k (.exit 4) ⟨layT [0] [.ro x.1 .lock x.2.1] 0 73, layH [.dead, .dead, .dead, .fresh, .fresh, .fresh] []⟩)
noncomputable def c_impl_LocksOk_0 : Code := (Go.Proofs.Try.f104.body.bind (subLoop 3)).getD .skip
noncomputable def c_impl_LocksOk_1 : Code := (Go.Proofs.Try.f104.body.bind (subLoop 8)).getD .skip
noncomputable def c_impl_LocksOk_2 : Code := (Go.Proofs.Try.f104.body.bind (subLoop 16)).getD .skip
theorem s_impl_LocksOk_0_ok (n : Nat) : LSok Tb tyK (orc [r_impl_in, r_impl_isNo, (r_slices_Contains_int n), (r_impl_chain n)]) n a_impl_LocksOk.ann [s_impl_LocksOk_0 n, s_impl_LocksOk_1 n, s_impl_LocksOk_2 n] c_impl_LocksOk_0 (s_impl_LocksOk_0 n) :=
  ⟨by intro vs es x h; dsimp only [s_impl_LocksOk_0] at h; split at h; (· injection h with h; subst h; exact ⟨rfl, rfl⟩); (· cases h), fun _ _ => rfl, fun m x k => by kernel_rfl⟩
theorem s_impl_LocksOk_1_ok (n : Nat) : LSok Tb tyK (orc [r_impl_in, r_impl_isNo, (r_slices_Contains_int n), (r_impl_chain n)]) n a_impl_LocksOk.ann [s_impl_LocksOk_0 n, s_impl_LocksOk_1 n, s_impl_LocksOk_2 n] c_impl_LocksOk_1 (s_impl_LocksOk_1 n) :=
  ⟨by intro vs es x h; dsimp only [s_impl_LocksOk_1] at h; split at h; (· injection h with h; subst h; exact ⟨rfl, rfl⟩); (· cases h), fun _ _ => rfl, fun m x k => by kernel_rfl⟩
theorem s_impl_LocksOk_2_ok (n : Nat) : LSok Tb tyK (orc [r_impl_in, r_impl_isNo, (r_slices_Contains_int n), (r_impl_chain n)]) n a_impl_LocksOk.ann [s_impl_LocksOk_0 n, s_impl_LocksOk_1 n, s_impl_LocksOk_2 n] c_impl_LocksOk_2 (s_impl_LocksOk_2 n) :=
  ⟨by intro vs es x h; dsimp only [s_impl_LocksOk_2] at h; split at h; (· injection h with h; subst h; exact ⟨rfl, rfl⟩); (· cases h), fun _ _ => rfl, fun m x k => by kernel_rfl⟩
theorem r_impl_LocksOk_ok (n : Nat) : RwOk Go.Proofs.Try.prog tyK (r_impl_LocksOk n) :=
  ent_ok (fa := a_impl_LocksOk) (ls := [s_impl_LocksOk_0 n, s_impl_LocksOk_1 n, s_impl_LocksOk_2 n]) (cs := [c_impl_LocksOk_0, c_impl_LocksOk_1, c_impl_LocksOk_2]) (n := n) (es := [r_impl_in, r_impl_isNo, (r_slices_Contains_int n), (r_impl_chain n)]) mixedOk tbOk (ents_cons (r_impl_in_ok) (ents_cons (r_impl_isNo_ok) (ents_cons (r_slices_Contains_int_ok n) (ents_cons (r_impl_chain_ok n) ents_nil)))) Go.Proofs.Try.func104 (by kernel_rfl) (by kernel_rfl) (by kernel_rfl) (LSsOk.cons _ _ (l := s_impl_LocksOk_0 n) (by kernel_rfl) (s_impl_LocksOk_0_ok n) (LSsOk.cons _ _ (l := s_impl_LocksOk_1 n) (by kernel_rfl) (s_impl_LocksOk_1_ok n) (LSsOk.cons _ _ (l := s_impl_LocksOk_2 n) (by kernel_rfl) (s_impl_LocksOk_2_ok n) (LSsOk.nil _ _)))) (fun x => by kernel_rfl)
/-! loop.example/g00185/impl.executor -/
noncomputable def a_impl_executor : FnA := ⟨Go.Proofs.Try.f126, ⟨[(1, [(2, .call [.ro, .ro] (.tup (.pair (.own .int) (.pair .bool .one))) [] [none])]), (5, [(2, .call [.ro, .ro] .int [] [])])], [], []⟩, 0⟩
def l_impl_executor_0 {α : Type} (n : Nat) : Nat → List Task → List Int → List Int → Int → Int → (Option α) → (Option α) → Option α
  | 0, _, _, _, _, _, _, _ => none
  | m0 + 1, v2, v3, v4, v5, v6, k0_0, k0_1 =>
    cond (decide (v6 < v5))
     (cond ((decide (0 ≤ v6)) && (decide (v6 < ((v4).length : Int))))
       ((f_impl_TaskAt n v2 (List.getD v4 (Int.toNat v6) (Kd.dflt .int))).bind fun r7 =>
        cond (decide (r7.1 < 0))
         (k0_0)
         (l_impl_executor_0 n m0 v2 v3 v4 v5 (w64 (v6 + 1)) k0_0 k0_1))
       (none))
     (k0_1)
def f_impl_executor (n : Nat) (a0 : List Task) (a1 : List Lock) (a2 : Int) : Option (Int × Unit) :=
  (f_impl_chain n a1 a2).bind fun r1 =>
  l_impl_executor_0 n n a0 r1.1.1 r1.1.1 ((r1.1.1).length : Int) 0
   (some (0, ()))
   (cond ((decide (0 ≤ (w64 (((r1.1.1).length : Int) - 1)))) && (decide ((w64 (((r1.1.1).length : Int) - 1)) < ((r1.1.1).length : Int))))
     (let e8 := (List.getD r1.1.1 (Int.toNat (w64 (((r1.1.1).length : Int) - 1))) (Kd.dflt .int))
      some (e8, ()))
     (none))
def r_impl_executor (n : Nat) : Rw := ⟨126, (.pair (.v (.ro .task)) (.pair (.v (.ro .lock)) (.pair (.v (.int)) .one))), (.pair .int .one), fun x => f_impl_executor n x.1.2 x.2.1.2 x.2.2.1⟩
def s_impl_executor_0 (n : Nat) : LS where
  la := ⟨3, [0, 7, 17, 18, 19], [], [], [6, 7], []⟩
  nt := 34
  kt := [0, 7, 17, 18, 19]
  hs := []
  X := Bool × List Task × List Int × List Int × Int × Int
  abs := fun vs es => match vs, es with | [.ro y0 .task y1, .ro true .int y2, .ro true .int y3, .int y4, .int y5], [] => some (y0, y1, y2, y3, y4, y5) | _, _ => none
  tms := fun x => [.ro x.1 .task x.2.1, .ro true .int x.2.2.1, .ro true .int x.2.2.2.1, .int x.2.2.2.2.1, .int x.2.2.2.2.2]
  ets := fun x => []
  run := fun m x k => l_impl_executor_0 n m x.2.1 x.2.2.1 x.2.2.2.1 x.2.2.2.2.1 x.2.2.2.2.2 (k .ret ⟨layT [6, 7] [.int 0, .ro true .int x.2.2.1] 0 34, layH [] []⟩) (k (.exit 0) ⟨layT [7] [.ro true .int x.2.2.1] 0 34, layH [] []⟩)
noncomputable def c_impl_executor_0 : Code := (Go.Proofs.Try.f126.body.bind (subLoop 3)).getD .skip
theorem s_impl_executor_0_ok (n : Nat) : LSok Tb tyK (orc [(r_impl_chain n), (r_impl_TaskAt n)]) n a_impl_executor.ann [s_impl_executor_0 n] c_impl_executor_0 (s_impl_executor_0 n) :=
  ⟨by intro vs es x h; dsimp only [s_impl_executor_0] at h; split at h; (· injection h with h; subst h; exact ⟨rfl, rfl⟩); (· cases h), fun _ _ => rfl, fun m x k => by kernel_rfl⟩
theorem r_impl_executor_ok (n : Nat) : RwOk Go.Proofs.Try.prog tyK (r_impl_executor n) :=
  ent_ok (fa := a_impl_executor) (ls := [s_impl_executor_0 n]) (cs := [c_impl_executor_0]) (n := n) (es := [(r_impl_chain n), (r_impl_TaskAt n)]) mixedOk tbOk (ents_cons (r_impl_chain_ok n) (ents_cons (r_impl_TaskAt_ok n) ents_nil)) Go.Proofs.Try.func126 (by kernel_rfl) (by kernel_rfl) (by kernel_rfl) (LSsOk.cons _ _ (l := s_impl_executor_0 n) (by kernel_rfl) (s_impl_executor_0_ok n) (LSsOk.nil _ _)) (fun x => by kernel_rfl)
/-! loop.example/g00185/impl.Executor -/
noncomputable def a_impl_Executor : FnA := ⟨Go.Proofs.Try.f94, ⟨[(1, [(1, .call [.ro] .bool [] []), (5, .call [.ro] .bool [] [])]), (3, [(3, .call [.ro, .ro, .ro] .int [] [])])], [], []⟩, 0⟩
def f_impl_Executor (n : Nat) (a0 : List Task) (a1 : List Lock) (a2 : Int) : Option (Int × Unit) :=
  (f_impl_TasksOk n a0).bind fun r1 =>
  cond (!r1.1)
   (some (0, ()))
   ((f_impl_LocksOk n a1).bind fun r2 =>
    cond (!r2.1)
     (some (0, ()))
     ((f_impl_executor n a0 a1 a2).bind fun r3 =>
      some (r3.1, ())))
def r_impl_Executor (n : Nat) : Rw := ⟨94, (.pair (.v (.ro .task)) (.pair (.v (.ro .lock)) (.pair (.v (.int)) .one))), (.pair .int .one), fun x => f_impl_Executor n x.1.2 x.2.1.2 x.2.2.1⟩
theorem r_impl_Executor_ok (n : Nat) : RwOk Go.Proofs.Try.prog tyK (r_impl_Executor n) :=
  ent_ok (fa := a_impl_Executor) (ls := []) (cs := []) (n := n) (es := [(r_impl_TasksOk n), (r_impl_LocksOk n), (r_impl_executor n)]) mixedOk tbOk (ents_cons (r_impl_TasksOk_ok n) (ents_cons (r_impl_LocksOk_ok n) (ents_cons (r_impl_executor_ok n) ents_nil))) Go.Proofs.Try.func94 (by kernel_rfl) (by kernel_rfl) (by kernel_rfl) (LSsOk.nil _ _) (fun x => by kernel_rfl)
/-! loop.example/g00185/impl.Able -/
noncomputable def a_impl_Able : FnA := ⟨Go.Proofs.Try.f151, ⟨[(1, [(3, .call [.ro, .ro, .ro] .int [] [])]), (2, [(6, .call [.ro, .ro] .int [] []), (16, .call [.ro, .ro] .int [] [])])], [], []⟩, 0⟩
def f_impl_Able (n : Nat) (a0 : List Task) (a1 : List Lock) (a2 : Int) : Option (Bool × Unit) :=
  (f_impl_Executor n a0 a1 a2).bind fun r1 =>
  cond (!(decide (r1.1 = 0)))
   ((f_impl_TaskAt n a0 a2).bind fun r2 =>
    cond ((decide (0 ≤ r2.1)) && (decide (r2.1 < ((a0).length : Int))))
     (let e3 := (decide ((List.getD a0 (Int.toNat r2.1) (Kd.dflt .task)).State = 1))
      cond e3
       ((f_impl_TaskAt n a0 r1.1).bind fun r4 =>
        cond ((decide (0 ≤ r4.1)) && (decide (r4.1 < ((a0).length : Int))))
         (let e5 := (decide ((List.getD a0 (Int.toNat r4.1) (Kd.dflt .task)).State = 1))
          some (e5, ()))
         (none))
       (some (false, ())))
     (none))
   (some (false, ()))
def r_impl_Able (n : Nat) : Rw := ⟨151, (.pair (.v (.ro .task)) (.pair (.v (.ro .lock)) (.pair (.v (.int)) .one))), (.pair .bool .one), fun x => f_impl_Able n x.1.2 x.2.1.2 x.2.2.1⟩
theorem r_impl_Able_ok (n : Nat) : RwOk Go.Proofs.Try.prog tyK (r_impl_Able n) :=
  ent_ok (fa := a_impl_Able) (ls := []) (cs := []) (n := n) (es := [(r_impl_Executor n), (r_impl_TaskAt n)]) mixedOk tbOk (ents_cons (r_impl_Executor_ok n) (ents_cons (r_impl_TaskAt_ok n) ents_nil)) Go.Proofs.Try.func151 (by kernel_rfl) (by kernel_rfl) (by kernel_rfl) (LSsOk.nil _ _) (fun x => by kernel_rfl)
/-! loop.example/g00185/impl.CanTurn -/
noncomputable def a_impl_CanTurn : FnA := ⟨Go.Proofs.Try.f125, ⟨[(1, [(3, .call [.ro, .ro, .ro] .bool [] [])]), (3, [(3, .call [.ro, .ro] .int [] []), (6, .slot 0 .int)])], [], []⟩, 1⟩
def f_impl_CanTurn (n : Nat) (a0 : List Task) (a1 : List Lock) (a2 : Int) : Option (Bool × Unit) :=
  (f_impl_Able n a0 a1 a2).bind fun r1 =>
  cond (!r1.1)
   (some (false, ()))
   ((f_impl_TaskAt n a0 a2).bind fun r2 =>
    cond ((decide (0 ≤ r2.1)) && (decide (r2.1 < ((a0).length : Int))))
     (let e3 := (!(decide ((List.getD a0 (Int.toNat r2.1) (Kd.dflt .task)).Class = 1)))
      cond e3
       (some (true, ()))
       (let e4 := (decide (0 < (List.getD a0 (Int.toNat r2.1) (Kd.dflt .task)).Left))
        some (e4, ())))
     (none))
def r_impl_CanTurn (n : Nat) : Rw := ⟨125, (.pair (.v (.ro .task)) (.pair (.v (.ro .lock)) (.pair (.v (.int)) .one))), (.pair .bool .one), fun x => f_impl_CanTurn n x.1.2 x.2.1.2 x.2.2.1⟩
theorem r_impl_CanTurn_ok (n : Nat) : RwOk Go.Proofs.Try.prog tyK (r_impl_CanTurn n) :=
  ent_ok (fa := a_impl_CanTurn) (ls := []) (cs := []) (n := n) (es := [(r_impl_Able n), (r_impl_TaskAt n)]) mixedOk tbOk (ents_cons (r_impl_Able_ok n) (ents_cons (r_impl_TaskAt_ok n) ents_nil)) Go.Proofs.Try.func125 (by kernel_rfl) (by kernel_rfl) (by kernel_rfl) (LSsOk.nil _ _) (fun x => by kernel_rfl)
/-! loop.example/g00185/impl.turners -/
noncomputable def a_impl_turners : FnA := ⟨Go.Proofs.Try.f93, ⟨[(1, [(0, .slot 0 .task)]), (4, [(2, .slot 2 .int)]), (5, [(9, .call [.ro, .ro, .ro] .bool [] [])]), (6, [(2, .slot 3 .task), (3, .slot 4 .task)])], [], []⟩, 5⟩
def l_impl_turners_0 {α : Type} (n : Nat) : Nat → List Task → List Lock → Int → List Task → List Task → Int → Int → (List Task → Option α) → Option α
  | 0, _, _, _, _, _, _, _, _ => none
  | m0 + 1, v1, v2, v3, v4, v5, v6, v7, k0_0 =>
    cond (decide (v7 < v6))
     (cond ((decide (0 ≤ v7)) && (decide (v7 < ((v5).length : Int))))
       (let e8 := (decide ((List.getD v5 (Int.toNat v7) (Kd.dflt .task)).Cpu = v3))
        cond e8
         ((f_impl_CanTurn n v1 v2 ((List.getD v5 (Int.toNat v7) (Kd.dflt .task)).No)).bind fun r9 =>
          cond r9.1
           (let e10 := ([(List.getD v5 (Int.toNat v7) (Kd.dflt .task))] : List Task)
            cond (decide ((v4).length + (e10).length ≤ lim))
             (l_impl_turners_0 n m0 v1 v2 v3 (v4 ++ e10) v5 v6 (w64 (v7 + 1)) k0_0)
             (none))
           (l_impl_turners_0 n m0 v1 v2 v3 v4 v5 v6 (w64 (v7 + 1)) k0_0))
         (l_impl_turners_0 n m0 v1 v2 v3 v4 v5 v6 (w64 (v7 + 1)) k0_0))
       (none))
     (k0_0 v4)
def f_impl_turners (n : Nat) (a0 : List Task) (a1 : List Lock) (a2 : Int) : Option (List Task × Unit) :=
  l_impl_turners_0 n n a0 a1 a2 ([] : List Task) a0 ((a0).length : Int) 0
   (fun w11 =>
    some (w11, ()))
def r_impl_turners (n : Nat) : Rw := ⟨93, (.pair (.v (.ro .task)) (.pair (.v (.ro .lock)) (.pair (.v (.int)) .one))), (.pair (.own .task) .one), fun x => f_impl_turners n x.1.2 x.2.1.2 x.2.2.1⟩
def s_impl_turners_0 (n : Nat) : LS where
  la := ⟨3, [0, 1, 2, 7, 11, 12, 13], [(.t 7, 1, .task)], [2, 3, 4], [7], [1, 2, 3, 4]⟩
  nt := 34
  kt := [0, 1, 2, 7, 11, 12, 13]
  hs := [.dead, .k, .fresh, .fresh, .fresh]
  X := Bool × List Task × Bool × List Lock × Int × List Task × Bool × List Task × Int × Int
  abs := fun vs es => match vs, es with | [.ro y0 .task y1, .ro y2 .lock y3, .int y4, .bor 1, .ro y6 .task y7, .int y8, .int y9], [.root .task y5 .ok] => some (y0, y1, y2, y3, y4, y5, y6, y7, y8, y9) | _, _ => none
  tms := fun x => [.ro x.1 .task x.2.1, .ro x.2.2.1 .lock x.2.2.2.1, .int x.2.2.2.2.1, .bor 1, .ro x.2.2.2.2.2.2.1 .task x.2.2.2.2.2.2.2.1, .int x.2.2.2.2.2.2.2.2.1, .int x.2.2.2.2.2.2.2.2.2]
  ets := fun x => [.root .task x.2.2.2.2.2.1 .ok]
  run := fun m x k => l_impl_turners_0 n m x.2.1 x.2.2.2.1 x.2.2.2.2.1 x.2.2.2.2.2.1 x.2.2.2.2.2.2.2.1 x.2.2.2.2.2.2.2.2.1 x.2.2.2.2.2.2.2.2.2 (fun w0 => k (.exit 0) ⟨layT [7] [.bor 1] 0 34, layH [.dead, .k, .fresh, .fresh, .fresh] [.root .task w0 .ok]⟩)
noncomputable def c_impl_turners_0 : Code := (Go.Proofs.Try.f93.body.bind (subLoop 3)).getD .skip
theorem s_impl_turners_0_ok (n : Nat) : LSok Tb tyK (orc [(r_impl_CanTurn n)]) n a_impl_turners.ann [s_impl_turners_0 n] c_impl_turners_0 (s_impl_turners_0 n) :=
  ⟨by intro vs es x h; dsimp only [s_impl_turners_0] at h; split at h; (· injection h with h; subst h; exact ⟨rfl, rfl⟩); (· cases h), fun _ _ => rfl, fun m x k => by kernel_rfl⟩
theorem r_impl_turners_ok (n : Nat) : RwOk Go.Proofs.Try.prog tyK (r_impl_turners n) :=
  ent_ok (fa := a_impl_turners) (ls := [s_impl_turners_0 n]) (cs := [c_impl_turners_0]) (n := n) (es := [(r_impl_CanTurn n)]) mixedOk tbOk (ents_cons (r_impl_CanTurn_ok n) ents_nil) Go.Proofs.Try.func93 (by kernel_rfl) (by kernel_rfl) (by kernel_rfl) (LSsOk.cons _ _ (l := s_impl_turners_0 n) (by kernel_rfl) (s_impl_turners_0_ok n) (LSsOk.nil _ _)) (fun x => by kernel_rfl)
/-! loop.example/g00185/impl.isDue -/
noncomputable def a_impl_isDue : FnA := ⟨Go.Proofs.Try.f163, ⟨[(0, [(0, .slot 0 .int)]), (1, [(5, .call [.ro] .bool [] [])])], [], []⟩, 1⟩
def f_impl_isDue (a0 : Task) : Option (Bool × Unit) :=
  cond (decide (a0.Class = 1))
   ((f_impl_TaskOk a0).bind fun r1 =>
    some (r1.1, ()))
   (some (false, ()))
def r_impl_isDue : Rw := ⟨163, (.pair (.v (.agg (.pair .int (.pair .int (.pair .int (.pair .int (.pair .bool (.pair .int (.pair .int (.pair .int (.pair .int (.pair .int (.pair .int (.pair .int (.pair .int (.pair .int .one)))))))))))))))) .one), (.pair .bool .one), fun x => f_impl_isDue (⟨x.1.1, x.1.2.1, x.1.2.2.1, x.1.2.2.2.1, x.1.2.2.2.2.1, x.1.2.2.2.2.2.1, x.1.2.2.2.2.2.2.1, x.1.2.2.2.2.2.2.2.1, x.1.2.2.2.2.2.2.2.2.1, x.1.2.2.2.2.2.2.2.2.2.1, x.1.2.2.2.2.2.2.2.2.2.2.1, x.1.2.2.2.2.2.2.2.2.2.2.2.1, x.1.2.2.2.2.2.2.2.2.2.2.2.2.1, x.1.2.2.2.2.2.2.2.2.2.2.2.2.2.1⟩ : Task)⟩
theorem r_impl_isDue_ok : RwOk Go.Proofs.Try.prog tyK (r_impl_isDue) :=
  ent_ok (fa := a_impl_isDue) (ls := []) (cs := []) (n := 0) (es := [r_impl_TaskOk]) mixedOk tbOk (ents_cons (r_impl_TaskOk_ok) ents_nil) Go.Proofs.Try.func163 (by kernel_rfl) (by kernel_rfl) (by kernel_rfl) (LSsOk.nil _ _) (fun x => by kernel_rfl)
/-! loop.example/g00185/impl.DueBefore -/
noncomputable def a_impl_DueBefore : FnA := ⟨Go.Proofs.Try.f148, ⟨[(0, [(0, .slot 0 .int), (1, .slot 1 .int)]), (1, [(1, .call [.ro] .bool [] []), (4, .call [.ro] .bool [] [])])], [], []⟩, 2⟩
def f_impl_DueBefore (a0 : Task) (a1 : Task) : Option (Bool × Unit) :=
  (f_impl_isDue a0).bind fun r1 =>
  cond r1.1
   ((f_impl_isDue a1).bind fun r2 =>
    cond r2.1
     (cond (decide (a0.Due < a1.Due))
       (some (true, ()))
       (cond (decide (a0.Due = a1.Due))
         (some ((decide (a0.No < a1.No)), ()))
         (some (false, ()))))
     (some (false, ())))
   (some (false, ()))
def r_impl_DueBefore : Rw := ⟨148, (.pair (.v (.agg (.pair .int (.pair .int (.pair .int (.pair .int (.pair .bool (.pair .int (.pair .int (.pair .int (.pair .int (.pair .int (.pair .int (.pair .int (.pair .int (.pair .int .one)))))))))))))))) (.pair (.v (.agg (.pair .int (.pair .int (.pair .int (.pair .int (.pair .bool (.pair .int (.pair .int (.pair .int (.pair .int (.pair .int (.pair .int (.pair .int (.pair .int (.pair .int .one)))))))))))))))) .one)), (.pair .bool .one), fun x => f_impl_DueBefore (⟨x.1.1, x.1.2.1, x.1.2.2.1, x.1.2.2.2.1, x.1.2.2.2.2.1, x.1.2.2.2.2.2.1, x.1.2.2.2.2.2.2.1, x.1.2.2.2.2.2.2.2.1, x.1.2.2.2.2.2.2.2.2.1, x.1.2.2.2.2.2.2.2.2.2.1, x.1.2.2.2.2.2.2.2.2.2.2.1, x.1.2.2.2.2.2.2.2.2.2.2.2.1, x.1.2.2.2.2.2.2.2.2.2.2.2.2.1, x.1.2.2.2.2.2.2.2.2.2.2.2.2.2.1⟩ : Task) (⟨x.2.1.1, x.2.1.2.1, x.2.1.2.2.1, x.2.1.2.2.2.1, x.2.1.2.2.2.2.1, x.2.1.2.2.2.2.2.1, x.2.1.2.2.2.2.2.2.1, x.2.1.2.2.2.2.2.2.2.1, x.2.1.2.2.2.2.2.2.2.2.1, x.2.1.2.2.2.2.2.2.2.2.2.1, x.2.1.2.2.2.2.2.2.2.2.2.2.1, x.2.1.2.2.2.2.2.2.2.2.2.2.2.1, x.2.1.2.2.2.2.2.2.2.2.2.2.2.2.1, x.2.1.2.2.2.2.2.2.2.2.2.2.2.2.2.1⟩ : Task)⟩
theorem r_impl_DueBefore_ok : RwOk Go.Proofs.Try.prog tyK (r_impl_DueBefore) :=
  ent_ok (fa := a_impl_DueBefore) (ls := []) (cs := []) (n := 0) (es := [r_impl_isDue]) mixedOk tbOk (ents_cons (r_impl_isDue_ok) ents_nil) Go.Proofs.Try.func148 (by kernel_rfl) (by kernel_rfl) (by kernel_rfl) (LSsOk.nil _ _) (fun x => by kernel_rfl)
/-! loop.example/g00185/impl.isFixed -/
noncomputable def a_impl_isFixed : FnA := ⟨Go.Proofs.Try.f164, ⟨[(0, [(0, .slot 0 .int)]), (1, [(5, .call [.ro] .bool [] [])])], [], []⟩, 1⟩
def f_impl_isFixed (a0 : Task) : Option (Bool × Unit) :=
  cond (decide (a0.Class = 2))
   ((f_impl_TaskOk a0).bind fun r1 =>
    some (r1.1, ()))
   (some (false, ()))
def r_impl_isFixed : Rw := ⟨164, (.pair (.v (.agg (.pair .int (.pair .int (.pair .int (.pair .int (.pair .bool (.pair .int (.pair .int (.pair .int (.pair .int (.pair .int (.pair .int (.pair .int (.pair .int (.pair .int .one)))))))))))))))) .one), (.pair .bool .one), fun x => f_impl_isFixed (⟨x.1.1, x.1.2.1, x.1.2.2.1, x.1.2.2.2.1, x.1.2.2.2.2.1, x.1.2.2.2.2.2.1, x.1.2.2.2.2.2.2.1, x.1.2.2.2.2.2.2.2.1, x.1.2.2.2.2.2.2.2.2.1, x.1.2.2.2.2.2.2.2.2.2.1, x.1.2.2.2.2.2.2.2.2.2.2.1, x.1.2.2.2.2.2.2.2.2.2.2.2.1, x.1.2.2.2.2.2.2.2.2.2.2.2.2.1, x.1.2.2.2.2.2.2.2.2.2.2.2.2.2.1⟩ : Task)⟩
theorem r_impl_isFixed_ok : RwOk Go.Proofs.Try.prog tyK (r_impl_isFixed) :=
  ent_ok (fa := a_impl_isFixed) (ls := []) (cs := []) (n := 0) (es := [r_impl_TaskOk]) mixedOk tbOk (ents_cons (r_impl_TaskOk_ok) ents_nil) Go.Proofs.Try.func164 (by kernel_rfl) (by kernel_rfl) (by kernel_rfl) (LSsOk.nil _ _) (fun x => by kernel_rfl)
/-! loop.example/g00185/impl.FixedBefore -/
noncomputable def a_impl_FixedBefore : FnA := ⟨Go.Proofs.Try.f149, ⟨[(0, [(0, .slot 0 .int), (1, .slot 1 .int)]), (1, [(1, .call [.ro] .bool [] []), (5, .call [.ro] .bool [] [])])], [], []⟩, 2⟩
def f_impl_FixedBefore (a0 : Task) (a1 : Task) : Option (Bool × Unit) :=
  (f_impl_isFixed a0).bind fun r1 =>
  cond (!r1.1)
   (some (false, ()))
   ((f_impl_isFixed a1).bind fun r2 =>
    cond (!r2.1)
     (some (false, ()))
     (cond (!(decide (a0.Prio = a1.Prio)))
       (some ((decide (a1.Prio < a0.Prio)), ()))
       (cond (!(decide (a0.Seq = a1.Seq)))
         (some ((decide (a0.Seq < a1.Seq)), ()))
         (some ((decide (a0.No < a1.No)), ())))))
def r_impl_FixedBefore : Rw := ⟨149, (.pair (.v (.agg (.pair .int (.pair .int (.pair .int (.pair .int (.pair .bool (.pair .int (.pair .int (.pair .int (.pair .int (.pair .int (.pair .int (.pair .int (.pair .int (.pair .int .one)))))))))))))))) (.pair (.v (.agg (.pair .int (.pair .int (.pair .int (.pair .int (.pair .bool (.pair .int (.pair .int (.pair .int (.pair .int (.pair .int (.pair .int (.pair .int (.pair .int (.pair .int .one)))))))))))))))) .one)), (.pair .bool .one), fun x => f_impl_FixedBefore (⟨x.1.1, x.1.2.1, x.1.2.2.1, x.1.2.2.2.1, x.1.2.2.2.2.1, x.1.2.2.2.2.2.1, x.1.2.2.2.2.2.2.1, x.1.2.2.2.2.2.2.2.1, x.1.2.2.2.2.2.2.2.2.1, x.1.2.2.2.2.2.2.2.2.2.1, x.1.2.2.2.2.2.2.2.2.2.2.1, x.1.2.2.2.2.2.2.2.2.2.2.2.1, x.1.2.2.2.2.2.2.2.2.2.2.2.2.1, x.1.2.2.2.2.2.2.2.2.2.2.2.2.2.1⟩ : Task) (⟨x.2.1.1, x.2.1.2.1, x.2.1.2.2.1, x.2.1.2.2.2.1, x.2.1.2.2.2.2.1, x.2.1.2.2.2.2.2.1, x.2.1.2.2.2.2.2.2.1, x.2.1.2.2.2.2.2.2.2.1, x.2.1.2.2.2.2.2.2.2.2.1, x.2.1.2.2.2.2.2.2.2.2.2.1, x.2.1.2.2.2.2.2.2.2.2.2.2.1, x.2.1.2.2.2.2.2.2.2.2.2.2.2.1, x.2.1.2.2.2.2.2.2.2.2.2.2.2.2.1, x.2.1.2.2.2.2.2.2.2.2.2.2.2.2.2.1⟩ : Task)⟩
theorem r_impl_FixedBefore_ok : RwOk Go.Proofs.Try.prog tyK (r_impl_FixedBefore) :=
  ent_ok (fa := a_impl_FixedBefore) (ls := []) (cs := []) (n := 0) (es := [r_impl_isFixed]) mixedOk tbOk (ents_cons (r_impl_isFixed_ok) ents_nil) Go.Proofs.Try.func149 (by kernel_rfl) (by kernel_rfl) (by kernel_rfl) (LSsOk.nil _ _) (fun x => by kernel_rfl)
/-! loop.example/g00185/impl.isFair -/
noncomputable def a_impl_isFair : FnA := ⟨Go.Proofs.Try.f165, ⟨[(0, [(0, .slot 0 .int)]), (1, [(5, .call [.ro] .bool [] [])])], [], []⟩, 1⟩
def f_impl_isFair (a0 : Task) : Option (Bool × Unit) :=
  cond (decide (a0.Class = 3))
   ((f_impl_TaskOk a0).bind fun r1 =>
    some (r1.1, ()))
   (some (false, ()))
def r_impl_isFair : Rw := ⟨165, (.pair (.v (.agg (.pair .int (.pair .int (.pair .int (.pair .int (.pair .bool (.pair .int (.pair .int (.pair .int (.pair .int (.pair .int (.pair .int (.pair .int (.pair .int (.pair .int .one)))))))))))))))) .one), (.pair .bool .one), fun x => f_impl_isFair (⟨x.1.1, x.1.2.1, x.1.2.2.1, x.1.2.2.2.1, x.1.2.2.2.2.1, x.1.2.2.2.2.2.1, x.1.2.2.2.2.2.2.1, x.1.2.2.2.2.2.2.2.1, x.1.2.2.2.2.2.2.2.2.1, x.1.2.2.2.2.2.2.2.2.2.1, x.1.2.2.2.2.2.2.2.2.2.2.1, x.1.2.2.2.2.2.2.2.2.2.2.2.1, x.1.2.2.2.2.2.2.2.2.2.2.2.2.1, x.1.2.2.2.2.2.2.2.2.2.2.2.2.2.1⟩ : Task)⟩
theorem r_impl_isFair_ok : RwOk Go.Proofs.Try.prog tyK (r_impl_isFair) :=
  ent_ok (fa := a_impl_isFair) (ls := []) (cs := []) (n := 0) (es := [r_impl_TaskOk]) mixedOk tbOk (ents_cons (r_impl_TaskOk_ok) ents_nil) Go.Proofs.Try.func165 (by kernel_rfl) (by kernel_rfl) (by kernel_rfl) (LSsOk.nil _ _) (fun x => by kernel_rfl)
/-! loop.example/g00185/impl.FairBefore -/
noncomputable def a_impl_FairBefore : FnA := ⟨Go.Proofs.Try.f150, ⟨[(0, [(0, .slot 0 .int), (1, .slot 1 .int)]), (1, [(1, .call [.ro] .bool [] []), (4, .call [.ro] .bool [] [])])], [], []⟩, 2⟩
def f_impl_FairBefore (a0 : Task) (a1 : Task) : Option (Bool × Unit) :=
  (f_impl_isFair a0).bind fun r1 =>
  cond r1.1
   ((f_impl_isFair a1).bind fun r2 =>
    cond r2.1
     (cond (decide (a0.V < a1.V))
       (some (true, ()))
       (cond (decide (a0.V = a1.V))
         (some ((decide (a0.No < a1.No)), ()))
         (some (false, ()))))
     (some (false, ())))
   (some (false, ()))
def r_impl_FairBefore : Rw := ⟨150, (.pair (.v (.agg (.pair .int (.pair .int (.pair .int (.pair .int (.pair .bool (.pair .int (.pair .int (.pair .int (.pair .int (.pair .int (.pair .int (.pair .int (.pair .int (.pair .int .one)))))))))))))))) (.pair (.v (.agg (.pair .int (.pair .int (.pair .int (.pair .int (.pair .bool (.pair .int (.pair .int (.pair .int (.pair .int (.pair .int (.pair .int (.pair .int (.pair .int (.pair .int .one)))))))))))))))) .one)), (.pair .bool .one), fun x => f_impl_FairBefore (⟨x.1.1, x.1.2.1, x.1.2.2.1, x.1.2.2.2.1, x.1.2.2.2.2.1, x.1.2.2.2.2.2.1, x.1.2.2.2.2.2.2.1, x.1.2.2.2.2.2.2.2.1, x.1.2.2.2.2.2.2.2.2.1, x.1.2.2.2.2.2.2.2.2.2.1, x.1.2.2.2.2.2.2.2.2.2.2.1, x.1.2.2.2.2.2.2.2.2.2.2.2.1, x.1.2.2.2.2.2.2.2.2.2.2.2.2.1, x.1.2.2.2.2.2.2.2.2.2.2.2.2.2.1⟩ : Task) (⟨x.2.1.1, x.2.1.2.1, x.2.1.2.2.1, x.2.1.2.2.2.1, x.2.1.2.2.2.2.1, x.2.1.2.2.2.2.2.1, x.2.1.2.2.2.2.2.2.1, x.2.1.2.2.2.2.2.2.2.1, x.2.1.2.2.2.2.2.2.2.2.1, x.2.1.2.2.2.2.2.2.2.2.2.1, x.2.1.2.2.2.2.2.2.2.2.2.2.1, x.2.1.2.2.2.2.2.2.2.2.2.2.2.1, x.2.1.2.2.2.2.2.2.2.2.2.2.2.2.1, x.2.1.2.2.2.2.2.2.2.2.2.2.2.2.2.1⟩ : Task)⟩
theorem r_impl_FairBefore_ok : RwOk Go.Proofs.Try.prog tyK (r_impl_FairBefore) :=
  ent_ok (fa := a_impl_FairBefore) (ls := []) (cs := []) (n := 0) (es := [r_impl_isFair]) mixedOk tbOk (ents_cons (r_impl_isFair_ok) ents_nil) Go.Proofs.Try.func150 (by kernel_rfl) (by kernel_rfl) (by kernel_rfl) (LSsOk.nil _ _) (fun x => by kernel_rfl)
end Go.Proofs.Ytoedeimpfbebpaa.VR
