/- The law of JudgeAll. -/
import Derived.Test.YtjgkeaiibdodfaaGreatNq
import Derived.Test.YtjgkeaiibdodfaaGreatG09
set_option linter.unusedVariables false
set_option linter.unusedSimpArgs false
namespace Go.Proofs.YtjgkeaiibdodfaaGreat.VR
open Go
theorem law_FnExactJudgeAll (s : Sys) (ha : i64ok s.Now) (hb : i64ok s.Cpus) (h1 : wfL .task s.Tasks) (h2 : wfL .lock s.Locks) (h3 : wfL .ghost s.Ghosts) (h4 : wfL .int s.Floors) (hc : i64ok s.Seq) (hd : i64ok s.Missed) (h5 : wfL .turn s.Trace) : ∃ n, f_laws_FnExactJudgeAll n s = some (true, ()) := by
  have hsn : SN (GN + big + big + 4) := by unfold SN; omega
  have hlt : big < GN + big + big + 4 := by omega
  refine ⟨GN + big + big + 4, ?_⟩
  obtain ⟨r, e, hr⟩ := szSys_cases (s := s) ⟨ha, hb, h1, h2, h3, h4, hc, hd, h5⟩ hlt
  simp only [f_laws_FnExactJudgeAll, e, Option.bind_some]
  rcases hr with hr | ⟨hr, hs⟩
  · rw [decide_eq_true hr, cond_true]
  · rw [decide_eq_false hr, cond_false]
    simp only [laws_toSys_eq hs.small hlt big_le, Option.bind_some, dnSys_up, spec_JudgeAll_eq hs hsn, impl_JudgeAll_eq hs hsn, beq_self_eq_true, laws_eqSys_eq hs.small hlt big_le, decide_true, Bool.not_true, cond_false]
end Go.Proofs.YtjgkeaiibdodfaaGreat.VR
