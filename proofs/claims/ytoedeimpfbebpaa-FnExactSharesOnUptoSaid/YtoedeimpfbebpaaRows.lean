/-
  No cell of these rows narrows 'for every input' (looked for: loops, veiled, ifaces, maps, wideKeys, modest, calm, conditions, laid).
  DERIVED. THE GIVEN ROWS OF THIS SEAT. 11 by the template 'for every input the law returns true; each argument reads behind the call as it read before'; 0 by the template 'total and deterministic' (their statements: YtoedeimpfbebpaaTotals.lean).
  GIVEN WITH THE SEED: the statements are not yours to turn. If you find one false, say at which input.
  Laid BY PROGRAM, IN A SANDBOX (cutbox-rows.mjs): the forced cells as the released guide's own fill.sh prints them over the translation 3296a7cca8f42b12… (all of the seat's roots in one cut). By AI agents, Wed Nov 11 2026. No macro, syntax, notation, axiom, sorry.
-/
import Derived.Test.YtoedeimpfbebpaaChecked
import GoSem.Claim
import GoSem.ClaimJoined
import GoSem.ClaimMapViews
import Derived.JoinedTies
import Derived.KernelRfl
namespace Go.Proofs.Ytoedeimpfbebpaa
/- THE CELL 'sum', in the pinned program and in every row, IS THE sha256 OF THE DUMP (.gsa) THAT YtoedeimpfbebpaaProg.lean LOADS. Nothing in Lean hashes anything: it is a label: what it is worth is what the hold of that sum in a sandbox is worth. -/
noncomputable def Try.pinned : Pinned := { name := "ytoedeimpfbebpaa", sum := "3296a7cca8f42b12d907eefd580b3173f2dff6f1923baf39a415855a85525815", checked := Try.checked }
namespace Rows
def none {H : Type} : Left H := { results := [], args := [] }

/-- 'laws.FnExactCallOk': WHATEVER THE INPUT: true; the input reads as it did. -/
def fnExactCallOkSpec : ChangeSpec := { name := "fnExactCallOk", fn := fun _ => fun
  | [d] => { results := [.lit (.bool true)], args := [d] }
  | _ => none }
def fnExactCallOkRow : OpenClaim := { program := "ytoedeimpfbebpaa", sum := "3296a7cca8f42b12d907eefd580b3173f2dff6f1923baf39a415855a85525815", func := "loop.example/g00185/laws.FnExactCallOk", spec := "fnExactCallOk", apart := false }
def FnExactCallOkSaid : Prop := fnExactCallOkRow.holds Try.pinned (OpenSpec.ofChange fnExactCallOkSpec)

/-- ITS FALSE NEIGHBOUR: 'it returns false'. Refute it at one input. -/
def fnExactCallOkWrong : ChangeSpec := { name := "fnExactCallOk", fn := fun _ => fun
  | [d] => { results := [.lit (.bool false)], args := [d] }
  | _ => none }
def FnExactCallOkWrongFalsely : Prop := fnExactCallOkRow.holds Try.pinned (OpenSpec.ofChange fnExactCallOkWrong)

/-- 'laws.FnExactIdleOn': WHATEVER THE INPUT: true; the input reads as it did. -/
def fnExactIdleOnSpec : ChangeSpec := { name := "fnExactIdleOn", fn := fun _ => fun
  | [d1, d2] => { results := [.lit (.bool true)], args := [d1, d2] }
  | _ => none }
def fnExactIdleOnRow : OpenClaim := { program := "ytoedeimpfbebpaa", sum := "3296a7cca8f42b12d907eefd580b3173f2dff6f1923baf39a415855a85525815", func := "loop.example/g00185/laws.FnExactIdleOn", spec := "fnExactIdleOn", unfollowed := true, recurses := true, apart := false }
def FnExactIdleOnSaid : Prop := fnExactIdleOnRow.holds Try.pinned (OpenSpec.ofChange fnExactIdleOnSpec)

/-- ITS FALSE NEIGHBOUR: 'it returns false'. Refute it at one input. -/
def fnExactIdleOnWrong : ChangeSpec := { name := "fnExactIdleOn", fn := fun _ => fun
  | [d1, d2] => { results := [.lit (.bool false)], args := [d1, d2] }
  | _ => none }
def FnExactIdleOnWrongFalsely : Prop := fnExactIdleOnRow.holds Try.pinned (OpenSpec.ofChange fnExactIdleOnWrong)

/-- 'laws.FnExactTookBy': WHATEVER THE INPUT: true; the input reads as it did. -/
def fnExactTookBySpec : ChangeSpec := { name := "fnExactTookBy", fn := fun _ => fun
  | [d1, d2] => { results := [.lit (.bool true)], args := [d1, d2] }
  | _ => none }
def fnExactTookByRow : OpenClaim := { program := "ytoedeimpfbebpaa", sum := "3296a7cca8f42b12d907eefd580b3173f2dff6f1923baf39a415855a85525815", func := "loop.example/g00185/laws.FnExactTookBy", spec := "fnExactTookBy", unfollowed := true, recurses := true, apart := false }
def FnExactTookBySaid : Prop := fnExactTookByRow.holds Try.pinned (OpenSpec.ofChange fnExactTookBySpec)

/-- ITS FALSE NEIGHBOUR: 'it returns false'. Refute it at one input. -/
def fnExactTookByWrong : ChangeSpec := { name := "fnExactTookBy", fn := fun _ => fun
  | [d1, d2] => { results := [.lit (.bool false)], args := [d1, d2] }
  | _ => none }
def FnExactTookByWrongFalsely : Prop := fnExactTookByRow.holds Try.pinned (OpenSpec.ofChange fnExactTookByWrong)

/-- 'laws.FnExactUsedBy': WHATEVER THE INPUT: true; the input reads as it did. -/
def fnExactUsedBySpec : ChangeSpec := { name := "fnExactUsedBy", fn := fun _ => fun
  | [d1, d2] => { results := [.lit (.bool true)], args := [d1, d2] }
  | _ => none }
def fnExactUsedByRow : OpenClaim := { program := "ytoedeimpfbebpaa", sum := "3296a7cca8f42b12d907eefd580b3173f2dff6f1923baf39a415855a85525815", func := "loop.example/g00185/laws.FnExactUsedBy", spec := "fnExactUsedBy", unfollowed := true, recurses := true, apart := false }
def FnExactUsedBySaid : Prop := fnExactUsedByRow.holds Try.pinned (OpenSpec.ofChange fnExactUsedBySpec)

/-- ITS FALSE NEIGHBOUR: 'it returns false'. Refute it at one input. -/
def fnExactUsedByWrong : ChangeSpec := { name := "fnExactUsedBy", fn := fun _ => fun
  | [d1, d2] => { results := [.lit (.bool false)], args := [d1, d2] }
  | _ => none }
def FnExactUsedByWrongFalsely : Prop := fnExactUsedByRow.holds Try.pinned (OpenSpec.ofChange fnExactUsedByWrong)

/-- 'laws.FnExactFloorOn': WHATEVER THE INPUT: true; the input reads as it did. -/
def fnExactFloorOnSpec : ChangeSpec := { name := "fnExactFloorOn", fn := fun _ => fun
  | [d1, d2] => { results := [.lit (.bool true)], args := [d1, d2] }
  | _ => none }
def fnExactFloorOnRow : OpenClaim := { program := "ytoedeimpfbebpaa", sum := "3296a7cca8f42b12d907eefd580b3173f2dff6f1923baf39a415855a85525815", func := "loop.example/g00185/laws.FnExactFloorOn", spec := "fnExactFloorOn", apart := false }
def FnExactFloorOnSaid : Prop := fnExactFloorOnRow.holds Try.pinned (OpenSpec.ofChange fnExactFloorOnSpec)

/-- ITS FALSE NEIGHBOUR: 'it returns false'. Refute it at one input. -/
def fnExactFloorOnWrong : ChangeSpec := { name := "fnExactFloorOn", fn := fun _ => fun
  | [d1, d2] => { results := [.lit (.bool false)], args := [d1, d2] }
  | _ => none }
def FnExactFloorOnWrongFalsely : Prop := fnExactFloorOnRow.holds Try.pinned (OpenSpec.ofChange fnExactFloorOnWrong)

/-- 'laws.FnExactSameCpu': WHATEVER THE INPUT: true; the input reads as it did. -/
def fnExactSameCpuSpec : ChangeSpec := { name := "fnExactSameCpu", fn := fun _ => fun
  | [d1, d2, d3] => { results := [.lit (.bool true)], args := [d1, d2, d3] }
  | _ => none }
def fnExactSameCpuRow : OpenClaim := { program := "ytoedeimpfbebpaa", sum := "3296a7cca8f42b12d907eefd580b3173f2dff6f1923baf39a415855a85525815", func := "loop.example/g00185/laws.FnExactSameCpu", spec := "fnExactSameCpu", unfollowed := true, recurses := true, apart := false }
def FnExactSameCpuSaid : Prop := fnExactSameCpuRow.holds Try.pinned (OpenSpec.ofChange fnExactSameCpuSpec)

/-- ITS FALSE NEIGHBOUR: 'it returns false'. Refute it at one input. -/
def fnExactSameCpuWrong : ChangeSpec := { name := "fnExactSameCpu", fn := fun _ => fun
  | [d1, d2, d3] => { results := [.lit (.bool false)], args := [d1, d2, d3] }
  | _ => none }
def FnExactSameCpuWrongFalsely : Prop := fnExactSameCpuRow.holds Try.pinned (OpenSpec.ofChange fnExactSameCpuWrong)

/-- 'laws.FnExactSysNew': WHATEVER THE INPUT: true; the input reads as it did. -/
def fnExactSysNewSpec : ChangeSpec := { name := "fnExactSysNew", fn := fun _ => fun
  | [d] => { results := [.lit (.bool true)], args := [d] }
  | _ => none }
def fnExactSysNewRow : OpenClaim := { program := "ytoedeimpfbebpaa", sum := "3296a7cca8f42b12d907eefd580b3173f2dff6f1923baf39a415855a85525815", func := "loop.example/g00185/laws.FnExactSysNew", spec := "fnExactSysNew", apart := false }
def FnExactSysNewSaid : Prop := fnExactSysNewRow.holds Try.pinned (OpenSpec.ofChange fnExactSysNewSpec)

/-- ITS FALSE NEIGHBOUR: 'it returns false'. Refute it at one input. -/
def fnExactSysNewWrong : ChangeSpec := { name := "fnExactSysNew", fn := fun _ => fun
  | [d] => { results := [.lit (.bool false)], args := [d] }
  | _ => none }
def FnExactSysNewWrongFalsely : Prop := fnExactSysNewRow.holds Try.pinned (OpenSpec.ofChange fnExactSysNewWrong)

/-- 'laws.FnExactLastTurns': WHATEVER THE INPUT: true; the input reads as it did. -/
def fnExactLastTurnsSpec : ChangeSpec := { name := "fnExactLastTurns", fn := fun _ => fun
  | [d] => { results := [.lit (.bool true)], args := [d] }
  | _ => none }
def fnExactLastTurnsRow : OpenClaim := { program := "ytoedeimpfbebpaa", sum := "3296a7cca8f42b12d907eefd580b3173f2dff6f1923baf39a415855a85525815", func := "loop.example/g00185/laws.FnExactLastTurns", spec := "fnExactLastTurns", apart := false }
def FnExactLastTurnsSaid : Prop := fnExactLastTurnsRow.holds Try.pinned (OpenSpec.ofChange fnExactLastTurnsSpec)

/-- ITS FALSE NEIGHBOUR: 'it returns false'. Refute it at one input. -/
def fnExactLastTurnsWrong : ChangeSpec := { name := "fnExactLastTurns", fn := fun _ => fun
  | [d] => { results := [.lit (.bool false)], args := [d] }
  | _ => none }
def FnExactLastTurnsWrongFalsely : Prop := fnExactLastTurnsRow.holds Try.pinned (OpenSpec.ofChange fnExactLastTurnsWrong)

/-- 'laws.FnExactSharesOn': WHATEVER THE INPUT: true; the input reads as it did. -/
def fnExactSharesOnSpec : ChangeSpec := { name := "fnExactSharesOn", fn := fun _ => fun
  | [d1, d2] => { results := [.lit (.bool true)], args := [d1, d2] }
  | _ => none }
def fnExactSharesOnRow : OpenClaim := { program := "ytoedeimpfbebpaa", sum := "3296a7cca8f42b12d907eefd580b3173f2dff6f1923baf39a415855a85525815", func := "loop.example/g00185/laws.FnExactSharesOn", spec := "fnExactSharesOn", apart := false }
def FnExactSharesOnSaid : Prop := fnExactSharesOnRow.holds Try.pinned (OpenSpec.ofChange fnExactSharesOnSpec)

/-- ITS FALSE NEIGHBOUR: 'it returns false'. Refute it at one input. -/
def fnExactSharesOnWrong : ChangeSpec := { name := "fnExactSharesOn", fn := fun _ => fun
  | [d1, d2] => { results := [.lit (.bool false)], args := [d1, d2] }
  | _ => none }
def FnExactSharesOnWrongFalsely : Prop := fnExactSharesOnRow.holds Try.pinned (OpenSpec.ofChange fnExactSharesOnWrong)

/-- 'laws.FnExactPick': WHATEVER THE INPUT: true; the input reads as it did. -/
def fnExactPickSpec : ChangeSpec := { name := "fnExactPick", fn := fun _ => fun
  | [d1, d2, d3] => { results := [.lit (.bool true)], args := [d1, d2, d3] }
  | _ => none }
def fnExactPickRow : OpenClaim := { program := "ytoedeimpfbebpaa", sum := "3296a7cca8f42b12d907eefd580b3173f2dff6f1923baf39a415855a85525815", func := "loop.example/g00185/laws.FnExactPick", spec := "fnExactPick", unfollowed := true, recurses := true, apart := false }
def FnExactPickSaid : Prop := fnExactPickRow.holds Try.pinned (OpenSpec.ofChange fnExactPickSpec)

/-- ITS FALSE NEIGHBOUR: 'it returns false'. Refute it at one input. -/
def fnExactPickWrong : ChangeSpec := { name := "fnExactPick", fn := fun _ => fun
  | [d1, d2, d3] => { results := [.lit (.bool false)], args := [d1, d2, d3] }
  | _ => none }
def FnExactPickWrongFalsely : Prop := fnExactPickRow.holds Try.pinned (OpenSpec.ofChange fnExactPickWrong)

/-- 'laws.FnExactSysOk': WHATEVER THE INPUT: true; the input reads as it did. -/
def fnExactSysOkSpec : ChangeSpec := { name := "fnExactSysOk", fn := fun _ => fun
  | [d] => { results := [.lit (.bool true)], args := [d] }
  | _ => none }
def fnExactSysOkRow : OpenClaim := { program := "ytoedeimpfbebpaa", sum := "3296a7cca8f42b12d907eefd580b3173f2dff6f1923baf39a415855a85525815", func := "loop.example/g00185/laws.FnExactSysOk", spec := "fnExactSysOk", unfollowed := true, recurses := true, apart := false }
def FnExactSysOkSaid : Prop := fnExactSysOkRow.holds Try.pinned (OpenSpec.ofChange fnExactSysOkSpec)

/-- ITS FALSE NEIGHBOUR: 'it returns false'. Refute it at one input. -/
def fnExactSysOkWrong : ChangeSpec := { name := "fnExactSysOk", fn := fun _ => fun
  | [d] => { results := [.lit (.bool false)], args := [d] }
  | _ => none }
def FnExactSysOkWrongFalsely : Prop := fnExactSysOkRow.holds Try.pinned (OpenSpec.ofChange fnExactSysOkWrong)

/- THE SECOND FORM. 'bulk': how many values and letters a reading holds, each counted each time it is reached (what is shared counts as often as it is met; a slice's spare places count too). A statement '..UptoSaid' is the law's where the arguments, and the package variables that the reading takes, are together of bulk at most 1048576: NARROWER than '..Said'. Prove '..Said' where nothing that the law and all that it calls make is longer than what came in: it says more and counts as full. Else prove '..UptoSaid'. A law counts once. -/
mutual
def uptoBulk {H : Type} : DataW H → Nat
  | .lit (.string bytes) => bytes.length + 1
  | .lit _ => 1
  | .nil => 1
  | .ptr d => uptoBulk d + 1
  | .slice elems spare => uptoBulkAll elems + uptoBulkAll spare + 1
  | .agg parts => uptoBulkAll parts + 1
  | .iface _ d => uptoBulk d + 1
  | .map entries => uptoBulkEntries entries + 1
  | .held _ => 1
def uptoBulkAll {H : Type} : List (DataW H) → Nat
  | [] => 0
  | d :: r => uptoBulk d + uptoBulkAll r
def uptoBulkEntries {H : Type} : List (Lit × DataW H) → Nat
  | [] => 0
  | x :: r => uptoBulkEntry x + uptoBulkEntries r
def uptoBulkEntry {H : Type} : Lit × DataW H → Nat
  | (.string bytes, d) => bytes.length + uptoBulk d + 1
  | (_, d) => uptoBulk d + 1
 end
def uptoSmall : (H : Type) → List (DataW H) → Bool := fun _ ds => decide (uptoBulkAll ds ≤ 1048576)
def OpenSpec.upto (s : _root_.Go.ChangeSpec) : _root_.Go.OpenSpec := { _root_.Go.OpenSpec.ofChange s with cond := some uptoSmall }

/-- 'laws.FnExactCallOk', WHERE WHAT IT READS IS OF BULK AT MOST 1048576: true; the input reads as it did. -/
def fnExactCallOkUptoRow : OpenClaim := { program := "ytoedeimpfbebpaa", sum := "3296a7cca8f42b12d907eefd580b3173f2dff6f1923baf39a415855a85525815", func := "loop.example/g00185/laws.FnExactCallOk", spec := "fnExactCallOk", apart := false, narrowed := true }
def FnExactCallOkUptoSaid : Prop := fnExactCallOkUptoRow.holds Try.pinned (OpenSpec.upto fnExactCallOkSpec)

/-- 'laws.FnExactIdleOn', WHERE WHAT IT READS IS OF BULK AT MOST 1048576: true; the input reads as it did. -/
def fnExactIdleOnUptoRow : OpenClaim := { program := "ytoedeimpfbebpaa", sum := "3296a7cca8f42b12d907eefd580b3173f2dff6f1923baf39a415855a85525815", func := "loop.example/g00185/laws.FnExactIdleOn", spec := "fnExactIdleOn", unfollowed := true, recurses := true, apart := false, narrowed := true }
def FnExactIdleOnUptoSaid : Prop := fnExactIdleOnUptoRow.holds Try.pinned (OpenSpec.upto fnExactIdleOnSpec)

/-- 'laws.FnExactTookBy', WHERE WHAT IT READS IS OF BULK AT MOST 1048576: true; the input reads as it did. -/
def fnExactTookByUptoRow : OpenClaim := { program := "ytoedeimpfbebpaa", sum := "3296a7cca8f42b12d907eefd580b3173f2dff6f1923baf39a415855a85525815", func := "loop.example/g00185/laws.FnExactTookBy", spec := "fnExactTookBy", unfollowed := true, recurses := true, apart := false, narrowed := true }
def FnExactTookByUptoSaid : Prop := fnExactTookByUptoRow.holds Try.pinned (OpenSpec.upto fnExactTookBySpec)

/-- 'laws.FnExactUsedBy', WHERE WHAT IT READS IS OF BULK AT MOST 1048576: true; the input reads as it did. -/
def fnExactUsedByUptoRow : OpenClaim := { program := "ytoedeimpfbebpaa", sum := "3296a7cca8f42b12d907eefd580b3173f2dff6f1923baf39a415855a85525815", func := "loop.example/g00185/laws.FnExactUsedBy", spec := "fnExactUsedBy", unfollowed := true, recurses := true, apart := false, narrowed := true }
def FnExactUsedByUptoSaid : Prop := fnExactUsedByUptoRow.holds Try.pinned (OpenSpec.upto fnExactUsedBySpec)

/-- 'laws.FnExactFloorOn', WHERE WHAT IT READS IS OF BULK AT MOST 1048576: true; the input reads as it did. -/
def fnExactFloorOnUptoRow : OpenClaim := { program := "ytoedeimpfbebpaa", sum := "3296a7cca8f42b12d907eefd580b3173f2dff6f1923baf39a415855a85525815", func := "loop.example/g00185/laws.FnExactFloorOn", spec := "fnExactFloorOn", apart := false, narrowed := true }
def FnExactFloorOnUptoSaid : Prop := fnExactFloorOnUptoRow.holds Try.pinned (OpenSpec.upto fnExactFloorOnSpec)

/-- 'laws.FnExactSameCpu', WHERE WHAT IT READS IS OF BULK AT MOST 1048576: true; the input reads as it did. -/
def fnExactSameCpuUptoRow : OpenClaim := { program := "ytoedeimpfbebpaa", sum := "3296a7cca8f42b12d907eefd580b3173f2dff6f1923baf39a415855a85525815", func := "loop.example/g00185/laws.FnExactSameCpu", spec := "fnExactSameCpu", unfollowed := true, recurses := true, apart := false, narrowed := true }
def FnExactSameCpuUptoSaid : Prop := fnExactSameCpuUptoRow.holds Try.pinned (OpenSpec.upto fnExactSameCpuSpec)

/-- 'laws.FnExactSysNew', WHERE WHAT IT READS IS OF BULK AT MOST 1048576: true; the input reads as it did. -/
def fnExactSysNewUptoRow : OpenClaim := { program := "ytoedeimpfbebpaa", sum := "3296a7cca8f42b12d907eefd580b3173f2dff6f1923baf39a415855a85525815", func := "loop.example/g00185/laws.FnExactSysNew", spec := "fnExactSysNew", apart := false, narrowed := true }
def FnExactSysNewUptoSaid : Prop := fnExactSysNewUptoRow.holds Try.pinned (OpenSpec.upto fnExactSysNewSpec)

/-- 'laws.FnExactLastTurns', WHERE WHAT IT READS IS OF BULK AT MOST 1048576: true; the input reads as it did. -/
def fnExactLastTurnsUptoRow : OpenClaim := { program := "ytoedeimpfbebpaa", sum := "3296a7cca8f42b12d907eefd580b3173f2dff6f1923baf39a415855a85525815", func := "loop.example/g00185/laws.FnExactLastTurns", spec := "fnExactLastTurns", apart := false, narrowed := true }
def FnExactLastTurnsUptoSaid : Prop := fnExactLastTurnsUptoRow.holds Try.pinned (OpenSpec.upto fnExactLastTurnsSpec)

/-- 'laws.FnExactSharesOn', WHERE WHAT IT READS IS OF BULK AT MOST 1048576: true; the input reads as it did. -/
def fnExactSharesOnUptoRow : OpenClaim := { program := "ytoedeimpfbebpaa", sum := "3296a7cca8f42b12d907eefd580b3173f2dff6f1923baf39a415855a85525815", func := "loop.example/g00185/laws.FnExactSharesOn", spec := "fnExactSharesOn", apart := false, narrowed := true }
def FnExactSharesOnUptoSaid : Prop := fnExactSharesOnUptoRow.holds Try.pinned (OpenSpec.upto fnExactSharesOnSpec)

/-- 'laws.FnExactPick', WHERE WHAT IT READS IS OF BULK AT MOST 1048576: true; the input reads as it did. -/
def fnExactPickUptoRow : OpenClaim := { program := "ytoedeimpfbebpaa", sum := "3296a7cca8f42b12d907eefd580b3173f2dff6f1923baf39a415855a85525815", func := "loop.example/g00185/laws.FnExactPick", spec := "fnExactPick", unfollowed := true, recurses := true, apart := false, narrowed := true }
def FnExactPickUptoSaid : Prop := fnExactPickUptoRow.holds Try.pinned (OpenSpec.upto fnExactPickSpec)

/-- 'laws.FnExactSysOk', WHERE WHAT IT READS IS OF BULK AT MOST 1048576: true; the input reads as it did. -/
def fnExactSysOkUptoRow : OpenClaim := { program := "ytoedeimpfbebpaa", sum := "3296a7cca8f42b12d907eefd580b3173f2dff6f1923baf39a415855a85525815", func := "loop.example/g00185/laws.FnExactSysOk", spec := "fnExactSysOk", unfollowed := true, recurses := true, apart := false, narrowed := true }
def FnExactSysOkUptoSaid : Prop := fnExactSysOkUptoRow.holds Try.pinned (OpenSpec.upto fnExactSysOkSpec)

end Rows
end Go.Proofs.Ytoedeimpfbebpaa
