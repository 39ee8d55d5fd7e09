/- Small laws for the printed functions. -/
import Derived.Test.YtoedeimpfbebpaaK5
import Derived.IntWalk
set_option linter.unusedVariables false
namespace Go.Proofs.Ytoedeimpfbebpaa.VR
open Go
theorem callOk_bool {P : Program} {tyK : Kd → TypeId} {f : FuncId} {bs : List A} {b : Bool} (h : CallOk P tyK f bs (.pair .bool .one) (b, ())) : CallOk P tyK f bs .bool b := by
  intro Rc w us hh hv
  refine (h Rc w us hh hv).mono ?_
  rintro e w' ⟨v, rfl, Rc', Hf, vf, h1, h2, h3, h4, rest, Hf', ht⟩
  refine ⟨v, rfl, Rc', Hf, vf, h1, h2, h3, h4, ?_⟩
  simp only [take] at ht
  obtain ⟨⟨r1, r2, r3⟩, e1, ht⟩ := Option.bind_eq_some_iff.1 ht
  obtain ⟨⟨q1, q2, q3⟩, e2, ht⟩ := Option.bind_eq_some_iff.1 ht
  simp only [Option.some.injEq, Prod.mk.injEq] at ht
  obtain ⟨⟨rfl, _⟩, _⟩ := ht
  exact ⟨r2, r3, e1⟩
theorem cond_dec {p : Prop} [Decidable p] {α : Type} (x y : α) : cond (decide p) x y = if p then x else y := by by_cases h : p <;> simp [h]
theorem law_end {x y : Bool} (h : x = y) : cond (!(x == y)) (some (false, ())) (some (true, ())) = some (true, ()) := by subst h; simp
theorem eq_of_iff {x y : Bool} (h : x = true ↔ y = true) : x = y := Bool.eq_iff_iff.2 h
theorem w64_id {n : Int} (h1 : -9223372036854775808 ≤ n) (h2 : n ≤ 9223372036854775807) : w64 n = n := by
  exact IntWalk.i64_in _ ⟨h1, h2⟩
end Go.Proofs.Ytoedeimpfbebpaa.VR
