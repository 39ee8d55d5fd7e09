/- laws.FnExactPick returns true for every input whose bulk is at most 1048576, and leaves its arguments as they were. -/
import Derived.Test.YtoedeimpfbebpaaK6
import Derived.Test.YtoedeimpfbebpaaNm
import Derived.Test.YtoedeimpfbebpaaG09
set_option linter.unusedVariables false
namespace Go.Proofs.Ytoedeimpfbebpaa.fnExactPick
open Go Go.Proofs.Ytoedeimpfbebpaa.VR Go.ChangeShapes Go.WideShapes Go.ChangeAt Go.RowKit
def pds : List Pd := [⟨false, [.sl .task]⟩, ⟨false, [.sl .lock]⟩, ⟨false, [.int]⟩]
theorem pds_ok : PdsOk Go.Proofs.Try.prog Tb Go.Proofs.Try.f12.params.toList pds := by
  rw [Go.Proofs.Try.params12]
  exact .cons ⟨⟨60, by kernel_rfl⟩, ⟨_, Go.Proofs.Try.underlying35, .inr ⟨rfl, rfl⟩⟩, by kernel_rfl, of_decide_eq_true (by kernel_rfl)⟩ (.cons ⟨⟨60, by kernel_rfl⟩, ⟨_, Go.Proofs.Try.underlying36, .inr ⟨rfl, rfl⟩⟩, by kernel_rfl, of_decide_eq_true (by kernel_rfl)⟩ (.cons ⟨⟨60, by kernel_rfl⟩, ⟨_, Go.Proofs.Try.underlying3, .inr ⟨rfl, rfl⟩⟩, by kernel_rfl, of_decide_eq_true (by kernel_rfl)⟩ (.nil)))
theorem main (vss : List (List V)) (h : ArgsOk pds vss) : CallOk Go.Proofs.Try.prog tyK 12 ((argV pds vss).map .v) .bool true := by
  match vss, h with
  | [vs0, vs1, vs2], h =>
    obtain ⟨h0, h1, h2, _⟩ := h
    obtain ⟨vx0_0, rx0_0, rfl, hx0_0, tx0_0⟩ := fdvs_cons h0
    obtain rfl := fdvs_nil tx0_0
    obtain ⟨x0_0, rfl, wx0_0⟩ := FdV.sl_inv hx0_0
    obtain ⟨vx1_0, rx1_0, rfl, hx1_0, tx1_0⟩ := fdvs_cons h1
    obtain rfl := fdvs_nil tx1_0
    obtain ⟨x1_0, rfl, wx1_0⟩ := FdV.sl_inv hx1_0
    obtain ⟨vx2_0, rx2_0, rfl, hx2_0, tx2_0⟩ := fdvs_cons h2
    obtain rfl := fdvs_nil tx2_0
    obtain ⟨x2_0, rfl, wx2_0⟩ := FdV.int_inv hx2_0
    obtain ⟨n, hn⟩ : ∃ n, f_laws_FnExactPick n x0_0 x1_0 x2_0 = some (true, ()) := by first | exact law_FnExactPick x0_0 x1_0 x2_0 wx0_0 wx1_0 wx2_0 | exact law_FnExactPick x0_0 x1_0 x2_0
    exact callOk_bool ((r_laws_FnExactPick_ok n).call ((true, x0_0), (true, x1_0), x2_0, ()) (true, ()) hn)
theorem own : ownKnob Go.Proofs.Try.prog.godebug = none := by kernel_rfl
set_option maxRecDepth 100000 in
theorem lifted (os : Os) (started : os.Started) (H : Type) (enc : TypeId × Value → H) (F : Stop.Interp) :
    ReturnsInHanded {} Go.Proofs.Try.checked os 12 .any ((Rows.OpenSpec.upto Rows.fnExactPickSpec).pre6 enc Go.Proofs.Try.prog Go.Proofs.Try.f12 Rows.fnExactPickUptoRow.domain false) (((Rows.OpenSpec.upto Rows.fnExactPickSpec).at F).post enc Go.Proofs.Try.prog Go.Proofs.Try.f12 false true false false) := by
  refine returnsInHanded_of_cond (C := Go.Proofs.Try.checked) (s := Rows.OpenSpec.upto Rows.fnExactPickSpec) (k := Rows.uptoSmall) rfl own started (by kernel_rfl) Go.Proofs.Try.func12
    (OpenSpec.witness (enc := enc) (C := Go.Proofs.Try.checked) (s := Rows.OpenSpec.upto Rows.fnExactPickSpec) (k := Rows.uptoSmall) rfl false ⟨#[], #[.slice none 0 0, .slice none 0 0, .int .i64 0], []⟩ 8 (by kernel_rfl) (by kernel_rfl) (by kernel_rfl)
      (x := ([.nil, .nil, .lit (.int .i64 0)], [], [])) (by kernel_rfl) rfl (by kernel_rfl)) ?_
  intro W base args ds gs before hval hW _ hk _
  refine law_contract (tyK := tyK) tbOk (by kernel_rfl) (fn := Go.Proofs.Try.f12) (pds := pds) pds_ok (tb := 4) (by kernel_rfl) Go.Proofs.Try.underlying4 rfl (fun ds hl => ?_) main hval hW hk
  rw [Go.Proofs.Try.params12] at hl
  match ds, hl with
  | [d0, d1, d2], _ => rfl
theorem over : Rows.fnExactPickUptoRow.holds Try.pinned (Rows.OpenSpec.upto Rows.fnExactPickSpec) :=
  OpenClaim.holds_of_cond 12 Go.Proofs.Try.f12 rfl rfl rfl rfl rfl rfl rfl ⟨rfl, rfl, rfl, rfl, rfl⟩ rfl rfl rfl rfl rfl (by kernel_rfl) Go.Proofs.Try.func12 (by kernel_rfl)
    (of_decide_eq_true (by kernel_rfl)) (by unfold Func.isWrapper; first | (rw [if_pos (by decide +kernel)]; kernel_rfl) | (rw [if_neg (by decide +kernel)]; exact ⟨rfl, rfl⟩))
    (fun os started H enc _ F => lifted os started H enc F)
theorem proved : Rows.FnExactPickUptoSaid := over
#print axioms proved
end Go.Proofs.Ytoedeimpfbebpaa.fnExactPick
