/- Calls: what is right. -/
import Derived.Test.YtoedeimpfbebpaaNa
import Derived.Test.YtoedeimpfbebpaaG00
set_option linter.unusedVariables false
set_option linter.unusedSimpArgs false
namespace Go.Proofs.Ytoedeimpfbebpaa.VR
open Go
def callOkB (c : Call) : Bool :=
  if c.Kind = 1 ∨ c.Kind = 2 then true
  else if c.Kind = 3 then decide (c.B = 0)
  else if c.Kind = 4 ∨ c.Kind = 5 ∨ c.Kind = 6 then decide (c.Cpu = 0 ∧ c.A = 0 ∧ c.B = 0)
  else if c.Kind = 7 ∨ c.Kind = 8 ∨ c.Kind = 9 then decide (c.Cpu = 0 ∧ c.B = 0)
  else if c.Kind = 10 then decide (c.A = 0 ∧ c.B = 0)
  else if c.Kind = 11 then decide (c.No = 0 ∧ c.Cpu = 0 ∧ c.B = 0)
  else false
theorem impl_CallOk_eq (c : Call) : f_impl_CallOk c = some (callOkB c, ()) := by
  obtain ⟨K, N, C, A, B⟩ := c
  simp only [f_impl_CallOk, callOkB, cond_dec]
  by_cases h1 : K = 1; · subst h1; simp
  by_cases h2 : K = 2; · subst h2; simp
  by_cases h3 : K = 3; · subst h3; simp
  by_cases h4 : K = 4; · subst h4; simp
  by_cases h5 : K = 5; · subst h5; simp
  by_cases h6 : K = 6; · subst h6; simp
  by_cases h7 : K = 7; · subst h7; simp
  by_cases h8 : K = 8; · subst h8; simp
  by_cases h9 : K = 9; · subst h9; simp
  by_cases h10 : K = 10; · subst h10; simp
  by_cases h11 : K = 11; · subst h11; simp
  simp [h1, h2, h3, h4, h5, h6, h7, h8, h9, h10, h11]
theorem spec_l11Clean_eq (c : Call) : f_spec_l11Clean c = some (upCall (
  if c.Kind = 1 ∨ c.Kind = 2 then c
  else if c.Kind = 3 then ⟨c.Kind, c.No, c.Cpu, c.A, 0⟩
  else if c.Kind = 4 ∨ c.Kind = 5 ∨ c.Kind = 6 then ⟨c.Kind, c.No, 0, 0, 0⟩
  else if c.Kind = 7 ∨ c.Kind = 8 ∨ c.Kind = 9 then ⟨c.Kind, c.No, 0, c.A, 0⟩
  else if c.Kind = 10 then ⟨c.Kind, c.No, c.Cpu, 0, 0⟩
  else if c.Kind = 11 then ⟨c.Kind, 0, 0, c.A, 0⟩ else c), ()) := by
  obtain ⟨K, N, C, A, B⟩ := c
  by_cases h1 : K = 1; · subst h1; kernel_rfl
  by_cases h2 : K = 2; · subst h2; kernel_rfl
  by_cases h3 : K = 3; · subst h3; kernel_rfl
  by_cases h4 : K = 4; · subst h4; kernel_rfl
  by_cases h5 : K = 5; · subst h5; kernel_rfl
  by_cases h6 : K = 6; · subst h6; kernel_rfl
  by_cases h7 : K = 7; · subst h7; kernel_rfl
  by_cases h8 : K = 8; · subst h8; kernel_rfl
  by_cases h9 : K = 9; · subst h9; kernel_rfl
  by_cases h10 : K = 10; · subst h10; kernel_rfl
  by_cases h11 : K = 11; · subst h11; kernel_rfl
  simp only [f_spec_l11Clean, cond_dec]
  simp only [if_neg h1, if_neg h2, if_neg h3, if_neg h4, if_neg h5, if_neg h6, if_neg h7, if_neg h8, if_neg h9, if_neg h10, if_neg h11]
  simp only [h1, h2, h3, h4, h5, h6, h7, h8, h9, h10, h11, or_self, if_false]

theorem spec_CallOk_eq (c : Call) : f_spec_CallOk c = some (callOkB c, ()) := by
  simp only [f_spec_CallOk, spec_l11Clean_eq, f_spec_l1In, Option.bind_some, cond_dec]
  obtain ⟨K, N, C, A, B⟩ := c
  dsimp only
  by_cases h : 1 ≤ K
  · rw [if_pos h]
    dsimp only [Option.bind_some, dnCall_up]
    rw [cond_dec]
    unfold callOkB
    dsimp only
    repeat' split
    all_goals first | (exfalso; omega) | (refine congrArg (fun b => some (b, ())) ?_; apply eq_of_iff; simp <;> omega)
  · rw [if_neg h]
    unfold callOkB
    dsimp only [Option.bind_some]
    repeat' split
    all_goals first | (exfalso; omega) | rfl
theorem laws_toCall_eq (c : Call) : f_laws_toCall c = some (upCall c, ()) := rfl
theorem law_FnExactCallOk (c : Call) : f_laws_FnExactCallOk c = some (true, ()) := by
  simp only [f_laws_FnExactCallOk, laws_toCall_eq, Option.bind_some, spec_CallOk_eq, impl_CallOk_eq, dnCall_up]
  exact law_end rfl
end Go.Proofs.Ytoedeimpfbebpaa.VR
