/- laws.FnExactSysRun returns true for every input whose bulk is at most 1048576, and leaves its arguments as they were. -/
import Derived.Test.YtbbgaleennfklaaGreatA17
set_option linter.unusedVariables false
namespace Go.Proofs.YtbbgaleennfklaaGreat.fnExactSysRun
open Go Go.Proofs.YtbbgaleennfklaaGreat.VR Go.ChangeShapes Go.WideShapes Go.ChangeAt Go.RowKit
def pds : List Pd := [⟨true, [.int, .int, .sl .task, .sl .lock, .sl .ghost, .sl .int, .int, .int, .sl .turn]⟩, ⟨false, [.sl .call]⟩]
theorem pds_ok : PdsOk Go.Proofs.Tryz.prog Tb Go.Proofs.Tryz.f6.params.toList pds := by
  rw [Go.Proofs.Tryz.params6]
  exact .cons ⟨⟨60, by kernel_rfl⟩, ⟨_, Go.Proofs.Tryz.underlying28, .inl ⟨rfl, _, rfl⟩⟩, by kernel_rfl, of_decide_eq_true (by kernel_rfl)⟩ (.cons ⟨⟨60, by kernel_rfl⟩, ⟨_, Go.Proofs.Tryz.underlying50, .inr ⟨rfl, rfl⟩⟩, by kernel_rfl, of_decide_eq_true (by kernel_rfl)⟩ (.nil))
theorem main (vss : List (List V)) (h : F6 pds vss) : CL Go.Proofs.Tryz.prog tyK 6 ((F9 pds vss).map .v) .bool true := by
  match vss, h with
  | [vs0, vs1], h =>
    obtain ⟨h0, h1, _⟩ := h
    obtain ⟨vx0_0, rx0_0, rfl, hx0_0, tx0_0⟩ := AW h0
    obtain ⟨vx0_1, rx0_1, rfl, hx0_1, tx0_1⟩ := AW tx0_0
    obtain ⟨vx0_2, rx0_2, rfl, hx0_2, tx0_2⟩ := AW tx0_1
    obtain ⟨vx0_3, rx0_3, rfl, hx0_3, tx0_3⟩ := AW tx0_2
    obtain ⟨vx0_4, rx0_4, rfl, hx0_4, tx0_4⟩ := AW tx0_3
    obtain ⟨vx0_5, rx0_5, rfl, hx0_5, tx0_5⟩ := AW tx0_4
    obtain ⟨vx0_6, rx0_6, rfl, hx0_6, tx0_6⟩ := AW tx0_5
    obtain ⟨vx0_7, rx0_7, rfl, hx0_7, tx0_7⟩ := AW tx0_6
    obtain ⟨vx0_8, rx0_8, rfl, hx0_8, tx0_8⟩ := AW tx0_7
    obtain rfl := CA tx0_8
    obtain ⟨x0_0, rfl, wx0_0⟩ := FdV.int_inv hx0_0
    obtain ⟨x0_1, rfl, wx0_1⟩ := FdV.int_inv hx0_1
    obtain ⟨x0_2, rfl, wx0_2⟩ := FdV.sl_inv hx0_2
    obtain ⟨x0_3, rfl, wx0_3⟩ := FdV.sl_inv hx0_3
    obtain ⟨x0_4, rfl, wx0_4⟩ := FdV.sl_inv hx0_4
    obtain ⟨x0_5, rfl, wx0_5⟩ := FdV.sl_inv hx0_5
    obtain ⟨x0_6, rfl, wx0_6⟩ := FdV.int_inv hx0_6
    obtain ⟨x0_7, rfl, wx0_7⟩ := FdV.int_inv hx0_7
    obtain ⟨x0_8, rfl, wx0_8⟩ := FdV.sl_inv hx0_8
    obtain ⟨vx1_0, rx1_0, rfl, hx1_0, tx1_0⟩ := AW h1
    obtain rfl := CA tx1_0
    obtain ⟨x1_0, rfl, wx1_0⟩ := FdV.sl_inv hx1_0
    obtain ⟨n, hn⟩ : ∃ n, Lf n ⟨x0_0, x0_1, x0_2, x0_3, x0_4, x0_5, x0_6, x0_7, x0_8⟩ x1_0 = some (true, ()) := by first | exact SY ⟨x0_0, x0_1, x0_2, x0_3, x0_4, x0_5, x0_6, x0_7, x0_8⟩ x1_0 wx0_0 wx0_1 wx0_2 wx0_3 wx0_4 wx0_5 wx0_6 wx0_7 wx0_8 wx1_0 | exact SY ⟨x0_0, x0_1, x0_2, x0_3, x0_4, x0_5, x0_6, x0_7, x0_8⟩ x1_0
    exact Ko ((dH n).call ((x0_0, x0_1, (true, x0_2), (true, x0_3), (true, x0_4), (true, x0_5), x0_6, x0_7, (true, x0_8), ()), (true, x1_0), ()) (true, ()) hn)
theorem own : ownKnob Go.Proofs.Tryz.prog.godebug = none := by kernel_rfl
set_option maxRecDepth 100000 in
theorem lifted (os : Os) (started : os.Started) (H : Type) (enc : TypeId × Value → H) (F : Stop.Interp) :
    ReturnsInHanded {} Go.Proofs.Tryz.checked os 6 .any ((Rows.OpenSpec.upto Rows.fnExactSysRunSpec).pre6 enc Go.Proofs.Tryz.prog Go.Proofs.Tryz.f6 Rows.fnExactSysRunUptoRow.domain false) (((Rows.OpenSpec.upto Rows.fnExactSysRunSpec).at F).post enc Go.Proofs.Tryz.prog Go.Proofs.Tryz.f6 false true false false) := by
  refine returnsInHanded_of_cond (C := Go.Proofs.Tryz.checked) (s := Rows.OpenSpec.upto Rows.fnExactSysRunSpec) (k := Rows.uptoSmall) rfl own started (by kernel_rfl) Go.Proofs.Tryz.func6
    (OpenSpec.witness (enc := enc) (C := Go.Proofs.Tryz.checked) (s := Rows.OpenSpec.upto Rows.fnExactSysRunSpec) (k := Rows.uptoSmall) rfl false ⟨#[], #[.agg #[.int .i64 0, .int .i64 0, .slice none 0 0, .slice none 0 0, .slice none 0 0, .slice none 0 0, .int .i64 0, .int .i64 0, .slice none 0 0], .slice none 0 0], []⟩ 8 (by kernel_rfl) (by kernel_rfl) (by kernel_rfl)
      (x := ([.agg [.lit (.int .i64 0), .lit (.int .i64 0), .nil, .nil, .nil, .nil, .lit (.int .i64 0), .lit (.int .i64 0), .nil], .nil], [], [])) (by kernel_rfl) rfl (by kernel_rfl)) ?_
  intro W base args ds gs before hval hW _ hk _
  refine Mz (tyK := tyK) DK (by kernel_rfl) (fn := Go.Proofs.Tryz.f6) (pds := pds) pds_ok (tb := 4) (by kernel_rfl) Go.Proofs.Tryz.underlying4 rfl (fun ds hl => ?_) main hval hW hk
  rw [Go.Proofs.Tryz.params6] at hl
  match ds, hl with
  | [d0, d1], _ => rfl
theorem over : Rows.fnExactSysRunUptoRow.holds Tryz.pinned (Rows.OpenSpec.upto Rows.fnExactSysRunSpec) :=
  OpenClaim.holds_of_cond 6 Go.Proofs.Tryz.f6 rfl rfl rfl rfl rfl rfl rfl ⟨rfl, rfl, rfl, rfl, rfl⟩ rfl rfl rfl rfl rfl (by kernel_rfl) Go.Proofs.Tryz.func6 (by kernel_rfl)
    (of_decide_eq_true (by kernel_rfl)) (by unfold Func.isWrapper; first | (rw [if_pos (by decide +kernel)]; kernel_rfl) | (rw [if_neg (by decide +kernel)]; exact ⟨rfl, rfl⟩))
    (fun os started H enc _ F => lifted os started H enc F)
theorem proved : Rows.FnExactSysRunUptoSaid := over
#print axioms proved
end Go.Proofs.YtbbgaleennfklaaGreat.fnExactSysRun
