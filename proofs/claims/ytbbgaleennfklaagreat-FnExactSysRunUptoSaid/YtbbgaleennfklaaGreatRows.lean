/-
  No cell of these rows narrows 'for every input' (looked for: loops, veiled, ifaces, maps, wideKeys, modest, calm, conditions, laid).
  DERIVED. THE GIVEN ROWS OF THIS SEAT. 4 by the template 'for every input the law returns true; each argument reads behind the call as it read before'; 0 by the template 'total and deterministic' (their statements: YtbbgaleennfklaaGreatTotals.lean).
  GIVEN WITH THE SEED: the statements are not yours to turn. If you find one false, say at which input.
  Laid BY PROGRAM, IN A SANDBOX (cutbox-rows.mjs): the forced cells as the released guide's own fill.sh prints them over the translation 7e4600284f080345… (all of the seat's roots in one cut). By AI agents, Wed Nov 11 2026. No macro, syntax, notation, axiom, sorry.
-/
import Derived.Test.YtbbgaleennfklaaGreatChecked
import GoSem.Claim
import GoSem.ClaimJoined
import GoSem.ClaimMapViews
import Derived.JoinedTies
import Derived.KernelRfl
namespace Go.Proofs.YtbbgaleennfklaaGreat
/- THE CELL 'sum', in the pinned program and in every row, IS THE sha256 OF THE DUMP (.gsa) THAT YtbbgaleennfklaaGreatProg.lean LOADS. Nothing in Lean hashes anything: it is a label: what it is worth is what the hold of that sum in a sandbox is worth. -/
noncomputable def Tryz.pinned : Pinned := { name := "ytbbgaleennfklaagreat", sum := "7e4600284f08034573aec041fb56fb6a109d800b7929668eb07ebece1f7a53e1", checked := Tryz.checked }
namespace Rows
def none {H : Type} : Left H := { results := [], args := [] }

/-- 'laws.FnExactSpreadOn': WHATEVER THE INPUT: true; the input reads as it did. -/
def fnExactSpreadOnSpec : ChangeSpec := { name := "fnExactSpreadOn", fn := fun _ => fun
  | [d1, d2] => { results := [.lit (.bool true)], args := [d1, d2] }
  | _ => none }
def fnExactSpreadOnRow : OpenClaim := { program := "ytbbgaleennfklaagreat", sum := "7e4600284f08034573aec041fb56fb6a109d800b7929668eb07ebece1f7a53e1", func := "loop.example/g00185/laws.FnExactSpreadOn", spec := "fnExactSpreadOn", unfollowed := true, recurses := true, apart := false }
def FnExactSpreadOnSaid : Prop := fnExactSpreadOnRow.holds Tryz.pinned (OpenSpec.ofChange fnExactSpreadOnSpec)

/-- ITS FALSE NEIGHBOUR: 'it returns false'. Refute it at one input. -/
def fnExactSpreadOnWrong : ChangeSpec := { name := "fnExactSpreadOn", fn := fun _ => fun
  | [d1, d2] => { results := [.lit (.bool false)], args := [d1, d2] }
  | _ => none }
def FnExactSpreadOnWrongFalsely : Prop := fnExactSpreadOnRow.holds Tryz.pinned (OpenSpec.ofChange fnExactSpreadOnWrong)

/-- 'laws.FnExactSysTick': WHATEVER THE INPUT: true; the input reads as it did. -/
def fnExactSysTickSpec : ChangeSpec := { name := "fnExactSysTick", fn := fun _ => fun
  | [d] => { results := [.lit (.bool true)], args := [d] }
  | _ => none }
def fnExactSysTickRow : OpenClaim := { program := "ytbbgaleennfklaagreat", sum := "7e4600284f08034573aec041fb56fb6a109d800b7929668eb07ebece1f7a53e1", func := "loop.example/g00185/laws.FnExactSysTick", spec := "fnExactSysTick", unfollowed := true, recurses := true, apart := false }
def FnExactSysTickSaid : Prop := fnExactSysTickRow.holds Tryz.pinned (OpenSpec.ofChange fnExactSysTickSpec)

/-- ITS FALSE NEIGHBOUR: 'it returns false'. Refute it at one input. -/
def fnExactSysTickWrong : ChangeSpec := { name := "fnExactSysTick", fn := fun _ => fun
  | [d] => { results := [.lit (.bool false)], args := [d] }
  | _ => none }
def FnExactSysTickWrongFalsely : Prop := fnExactSysTickRow.holds Tryz.pinned (OpenSpec.ofChange fnExactSysTickWrong)

/-- 'laws.FnExactSysCall': WHATEVER THE INPUT: true; the input reads as it did. -/
def fnExactSysCallSpec : ChangeSpec := { name := "fnExactSysCall", fn := fun _ => fun
  | [d1, d2] => { results := [.lit (.bool true)], args := [d1, d2] }
  | _ => none }
def fnExactSysCallRow : OpenClaim := { program := "ytbbgaleennfklaagreat", sum := "7e4600284f08034573aec041fb56fb6a109d800b7929668eb07ebece1f7a53e1", func := "loop.example/g00185/laws.FnExactSysCall", spec := "fnExactSysCall", inPlace := ["slices.overlaps[loop.example/g00185/impl.Task]"], unfollowed := true, recurses := true, apart := false }
def FnExactSysCallSaid : Prop := fnExactSysCallRow.holds Tryz.pinned (OpenSpec.ofChange fnExactSysCallSpec)

/-- ITS FALSE NEIGHBOUR: 'it returns false'. Refute it at one input. -/
def fnExactSysCallWrong : ChangeSpec := { name := "fnExactSysCall", fn := fun _ => fun
  | [d1, d2] => { results := [.lit (.bool false)], args := [d1, d2] }
  | _ => none }
def FnExactSysCallWrongFalsely : Prop := fnExactSysCallRow.holds Tryz.pinned (OpenSpec.ofChange fnExactSysCallWrong)

/-- 'laws.FnExactSysRun': WHATEVER THE INPUT: true; the input reads as it did. -/
def fnExactSysRunSpec : ChangeSpec := { name := "fnExactSysRun", fn := fun _ => fun
  | [d1, d2] => { results := [.lit (.bool true)], args := [d1, d2] }
  | _ => none }
def fnExactSysRunRow : OpenClaim := { program := "ytbbgaleennfklaagreat", sum := "7e4600284f08034573aec041fb56fb6a109d800b7929668eb07ebece1f7a53e1", func := "loop.example/g00185/laws.FnExactSysRun", spec := "fnExactSysRun", inPlace := ["slices.overlaps[loop.example/g00185/impl.Task]"], unfollowed := true, recurses := true, apart := false }
def FnExactSysRunSaid : Prop := fnExactSysRunRow.holds Tryz.pinned (OpenSpec.ofChange fnExactSysRunSpec)

/-- ITS FALSE NEIGHBOUR: 'it returns false'. Refute it at one input. -/
def fnExactSysRunWrong : ChangeSpec := { name := "fnExactSysRun", fn := fun _ => fun
  | [d1, d2] => { results := [.lit (.bool false)], args := [d1, d2] }
  | _ => none }
def FnExactSysRunWrongFalsely : Prop := fnExactSysRunRow.holds Tryz.pinned (OpenSpec.ofChange fnExactSysRunWrong)

/- THE SECOND FORM. 'bulk': how many values and letters a reading holds, each counted each time it is reached (what is shared counts as often as it is met; a slice's spare places count too). A statement '..UptoSaid' is the law's where the arguments, and the package variables that the reading takes, are together of bulk at most 1048576: NARROWER than '..Said'. Prove '..Said' where nothing that the law and all that it calls make is longer than what came in: it says more and counts as full. Else prove '..UptoSaid'. A law counts once. -/
mutual
def uptoBulk {H : Type} : DataW H → Nat
  | .lit (.string bytes) => bytes.length + 1
  | .lit _ => 1
  | .nil => 1
  | .ptr d => uptoBulk d + 1
  | .slice elems spare => uptoBulkAll elems + uptoBulkAll spare + 1
  | .agg parts => uptoBulkAll parts + 1
  | .iface _ d => uptoBulk d + 1
  | .map entries => uptoBulkEntries entries + 1
  | .held _ => 1
def uptoBulkAll {H : Type} : List (DataW H) → Nat
  | [] => 0
  | d :: r => uptoBulk d + uptoBulkAll r
def uptoBulkEntries {H : Type} : List (Lit × DataW H) → Nat
  | [] => 0
  | x :: r => uptoBulkEntry x + uptoBulkEntries r
def uptoBulkEntry {H : Type} : Lit × DataW H → Nat
  | (.string bytes, d) => bytes.length + uptoBulk d + 1
  | (_, d) => uptoBulk d + 1
 end
def uptoSmall : (H : Type) → List (DataW H) → Bool := fun _ ds => decide (uptoBulkAll ds ≤ 1048576)
def OpenSpec.upto (s : _root_.Go.ChangeSpec) : _root_.Go.OpenSpec := { _root_.Go.OpenSpec.ofChange s with cond := some uptoSmall }

/-- 'laws.FnExactSpreadOn', WHERE WHAT IT READS IS OF BULK AT MOST 1048576: true; the input reads as it did. -/
def fnExactSpreadOnUptoRow : OpenClaim := { program := "ytbbgaleennfklaagreat", sum := "7e4600284f08034573aec041fb56fb6a109d800b7929668eb07ebece1f7a53e1", func := "loop.example/g00185/laws.FnExactSpreadOn", spec := "fnExactSpreadOn", unfollowed := true, recurses := true, apart := false, narrowed := true }
def FnExactSpreadOnUptoSaid : Prop := fnExactSpreadOnUptoRow.holds Tryz.pinned (OpenSpec.upto fnExactSpreadOnSpec)

/-- 'laws.FnExactSysTick', WHERE WHAT IT READS IS OF BULK AT MOST 1048576: true; the input reads as it did. -/
def fnExactSysTickUptoRow : OpenClaim := { program := "ytbbgaleennfklaagreat", sum := "7e4600284f08034573aec041fb56fb6a109d800b7929668eb07ebece1f7a53e1", func := "loop.example/g00185/laws.FnExactSysTick", spec := "fnExactSysTick", unfollowed := true, recurses := true, apart := false, narrowed := true }
def FnExactSysTickUptoSaid : Prop := fnExactSysTickUptoRow.holds Tryz.pinned (OpenSpec.upto fnExactSysTickSpec)

/-- 'laws.FnExactSysCall', WHERE WHAT IT READS IS OF BULK AT MOST 1048576: true; the input reads as it did. -/
def fnExactSysCallUptoRow : OpenClaim := { program := "ytbbgaleennfklaagreat", sum := "7e4600284f08034573aec041fb56fb6a109d800b7929668eb07ebece1f7a53e1", func := "loop.example/g00185/laws.FnExactSysCall", spec := "fnExactSysCall", inPlace := ["slices.overlaps[loop.example/g00185/impl.Task]"], unfollowed := true, recurses := true, apart := false, narrowed := true }
def FnExactSysCallUptoSaid : Prop := fnExactSysCallUptoRow.holds Tryz.pinned (OpenSpec.upto fnExactSysCallSpec)

/-- 'laws.FnExactSysRun', WHERE WHAT IT READS IS OF BULK AT MOST 1048576: true; the input reads as it did. -/
def fnExactSysRunUptoRow : OpenClaim := { program := "ytbbgaleennfklaagreat", sum := "7e4600284f08034573aec041fb56fb6a109d800b7929668eb07ebece1f7a53e1", func := "loop.example/g00185/laws.FnExactSysRun", spec := "fnExactSysRun", inPlace := ["slices.overlaps[loop.example/g00185/impl.Task]"], unfollowed := true, recurses := true, apart := false, narrowed := true }
def FnExactSysRunUptoSaid : Prop := fnExactSysRunUptoRow.holds Tryz.pinned (OpenSpec.upto fnExactSysRunSpec)

end Rows
end Go.Proofs.YtbbgaleennfklaaGreat
