/- laws.FnExactSysNew returns true for every input whose bulk is at most 1048576, and leaves its arguments as they were. -/
import Derived.Test.YtoedeimpfbebpaaK6
import Derived.Test.YtoedeimpfbebpaaLw
import Derived.Test.YtoedeimpfbebpaaG04
set_option linter.unusedVariables false
namespace Go.Proofs.Ytoedeimpfbebpaa.fnExactSysNew
open Go Go.Proofs.Ytoedeimpfbebpaa.VR Go.ChangeShapes Go.WideShapes Go.ChangeAt Go.RowKit
def pds : List Pd := [⟨false, [.int]⟩]
theorem pds_ok : PdsOk Go.Proofs.Try.prog Tb Go.Proofs.Try.f9.params.toList pds := by
  rw [Go.Proofs.Try.params9]
  exact .cons ⟨⟨60, by kernel_rfl⟩, ⟨_, Go.Proofs.Try.underlying3, .inr ⟨rfl, rfl⟩⟩, by kernel_rfl, of_decide_eq_true (by kernel_rfl)⟩ (.nil)
theorem main (vss : List (List V)) (h : ArgsOk pds vss) : CallOk Go.Proofs.Try.prog tyK 9 ((argV pds vss).map .v) .bool true := by
  match vss, h with
  | [vs0], h =>
    obtain ⟨h0, _⟩ := h
    obtain ⟨vx0_0, rx0_0, rfl, hx0_0, tx0_0⟩ := fdvs_cons h0
    obtain rfl := fdvs_nil tx0_0
    obtain ⟨x0_0, rfl, wx0_0⟩ := FdV.int_inv hx0_0
    obtain ⟨n, hn⟩ : ∃ n, f_laws_FnExactSysNew n x0_0 = some (true, ()) := by first | exact law_FnExactSysNew x0_0 wx0_0 | exact law_FnExactSysNew x0_0
    exact callOk_bool ((r_laws_FnExactSysNew_ok n).call (x0_0, ()) (true, ()) hn)
theorem own : ownKnob Go.Proofs.Try.prog.godebug = none := by kernel_rfl
set_option maxRecDepth 100000 in
theorem lifted (os : Os) (started : os.Started) (H : Type) (enc : TypeId × Value → H) (F : Stop.Interp) :
    ReturnsInHanded {} Go.Proofs.Try.checked os 9 .any ((Rows.OpenSpec.upto Rows.fnExactSysNewSpec).pre6 enc Go.Proofs.Try.prog Go.Proofs.Try.f9 Rows.fnExactSysNewUptoRow.domain false) (((Rows.OpenSpec.upto Rows.fnExactSysNewSpec).at F).post enc Go.Proofs.Try.prog Go.Proofs.Try.f9 false true false false) := by
  refine returnsInHanded_of_cond (C := Go.Proofs.Try.checked) (s := Rows.OpenSpec.upto Rows.fnExactSysNewSpec) (k := Rows.uptoSmall) rfl own started (by kernel_rfl) Go.Proofs.Try.func9
    (OpenSpec.witness (enc := enc) (C := Go.Proofs.Try.checked) (s := Rows.OpenSpec.upto Rows.fnExactSysNewSpec) (k := Rows.uptoSmall) rfl false ⟨#[], #[.int .i64 0], []⟩ 8 (by kernel_rfl) (by kernel_rfl) (by kernel_rfl)
      (x := ([.lit (.int .i64 0)], [], [])) (by kernel_rfl) rfl (by kernel_rfl)) ?_
  intro W base args ds gs before hval hW _ hk _
  refine law_contract (tyK := tyK) tbOk (by kernel_rfl) (fn := Go.Proofs.Try.f9) (pds := pds) pds_ok (tb := 4) (by kernel_rfl) Go.Proofs.Try.underlying4 rfl (fun ds hl => ?_) main hval hW hk
  rw [Go.Proofs.Try.params9] at hl
  match ds, hl with
  | [d0], _ => rfl
theorem over : Rows.fnExactSysNewUptoRow.holds Try.pinned (Rows.OpenSpec.upto Rows.fnExactSysNewSpec) :=
  OpenClaim.holds_of_cond 9 Go.Proofs.Try.f9 rfl rfl rfl rfl rfl rfl rfl ⟨rfl, rfl, rfl, rfl, rfl⟩ rfl rfl rfl rfl rfl (by kernel_rfl) Go.Proofs.Try.func9 (by kernel_rfl)
    (of_decide_eq_true (by kernel_rfl)) (by unfold Func.isWrapper; first | (rw [if_pos (by decide +kernel)]; kernel_rfl) | (rw [if_neg (by decide +kernel)]; exact ⟨rfl, rfl⟩))
    (fun os started H enc _ F => lifted os started H enc F)
theorem proved : Rows.FnExactSysNewUptoSaid := over
#print axioms proved
end Go.Proofs.Ytoedeimpfbebpaa.fnExactSysNew
