/- laws.FnCounted returns true for every input whose bulk is at most 1048576, and leaves its arguments as they were. -/
import Derived.Test.YthoholbeacojfaaGreatA14
import Derived.Test.YthoholbeacojfaaGreatB10
set_option linter.unusedVariables false
set_option linter.unusedSimpArgs false
set_option linter.unusedSectionVars false
set_option linter.unusedVariables false
namespace Go.Proofs.YthoholbeacojfaaGreat.fnCounted
open Go Go.Proofs.YthoholbeacojfaaGreat.VR Go.ChangeShapes Go.WideShapes Go.ChangeAt Go.RowKit
def pds : List Pd := [⟨false, [.sl .u8]⟩]
theorem pds_ok : PdsOk Go.Proofs.Tryz.prog Tb Go.Proofs.Tryz.f5.params.toList pds := by
  rw [Go.Proofs.Tryz.params5]
  exact .cons ⟨⟨60, by kernel_rfl⟩, ⟨_, Go.Proofs.Tryz.underlying22, .inr ⟨rfl, rfl⟩⟩, by kernel_rfl, of_decide_eq_true (by kernel_rfl)⟩ (.nil)
theorem main (vss : List (List V)) (h : De pds vss) : CK Go.Proofs.Tryz.prog tyK 5 ((Dg pds vss).map .v) .bool true := by
  match vss, h with
  | [vs0], h =>
    obtain ⟨h0, _⟩ := h
    obtain ⟨vx0_0, rx0_0, rfl, hx0_0, tx0_0⟩ := A4 h0
    obtain rfl := CW tx0_0
    obtain ⟨x0_0, rfl, wx0_0⟩ := FdV.sl_inv hx0_0
    obtain ⟨n, hn⟩ : ∃ n, NQ n x0_0 = some (true, ()) := by first | exact VS x0_0 wx0_0 | exact VS x0_0
    exact Ek ((jo n).call (x0_0, ()) (true, ()) hn)
theorem own : ownKnob Go.Proofs.Tryz.prog.godebug = none := by kernel_rfl
set_option maxRecDepth 100000 in
theorem lifted (os : Os) (started : os.Started) (H : Type) (enc : TypeId × Value → H) (F : Stop.Interp) :
    ReturnsInHanded {} Go.Proofs.Tryz.checked os 5 .any ((Rows.OpenSpec.upto Rows.fnCountedSpec).pre6 enc Go.Proofs.Tryz.prog Go.Proofs.Tryz.f5 Rows.fnCountedUptoRow.domain false) (((Rows.OpenSpec.upto Rows.fnCountedSpec).at F).post enc Go.Proofs.Tryz.prog Go.Proofs.Tryz.f5 false true false false) := by
  refine returnsInHanded_of_cond (C := Go.Proofs.Tryz.checked) (s := Rows.OpenSpec.upto Rows.fnCountedSpec) (k := Rows.uptoSmall) rfl own started (by kernel_rfl) Go.Proofs.Tryz.func5
    (OpenSpec.witness (enc := enc) (C := Go.Proofs.Tryz.checked) (s := Rows.OpenSpec.upto Rows.fnCountedSpec) (k := Rows.uptoSmall) rfl false ⟨#[], #[.slice none 0 0], []⟩ 8 (by kernel_rfl) (by kernel_rfl) (by kernel_rfl)
      (x := ([.nil], [], [])) (by kernel_rfl) rfl (by kernel_rfl)) ?_
  intro W base args ds gs before hval hW _ hk _
  refine FF (tyK := tyK) Cv (by kernel_rfl) (fn := Go.Proofs.Tryz.f5) (pds := pds) pds_ok (tb := 4) (by kernel_rfl) Go.Proofs.Tryz.underlying4 rfl (fun ds hl => ?_) main hval hW hk
  rw [Go.Proofs.Tryz.params5] at hl
  match ds, hl with
  | [d0], _ => rfl
theorem over : Rows.fnCountedUptoRow.holds Tryz.pinned (Rows.OpenSpec.upto Rows.fnCountedSpec) :=
  OpenClaim.holds_of_cond 5 Go.Proofs.Tryz.f5 rfl rfl rfl rfl rfl rfl rfl ⟨rfl, rfl, rfl, rfl, rfl⟩ rfl rfl rfl rfl rfl (by kernel_rfl) Go.Proofs.Tryz.func5 (by kernel_rfl)
    (of_decide_eq_true (by kernel_rfl)) (by unfold Func.isWrapper; first | (rw [if_pos (by decide +kernel)]; kernel_rfl) | (rw [if_neg (by decide +kernel)]; exact ⟨rfl, rfl⟩))
    (fun os started H enc _ F => lifted os started H enc F)
theorem proved : Rows.FnCountedUptoSaid := over
#print axioms proved
end Go.Proofs.YthoholbeacojfaaGreat.fnCounted
