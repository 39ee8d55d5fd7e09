/-
  No cell of these rows narrows 'for every input' (looked for: loops, veiled, ifaces, maps, wideKeys, modest, calm, conditions, laid).
  DERIVED. THE GIVEN ROWS OF THIS SEAT. 7 by the template 'for every input the law returns true; each argument reads behind the call as it read before'; 0 by the template 'total and deterministic' (their statements: YtjgkeaiibdodfaaTotals.lean).
  GIVEN WITH THE SEED: the statements are not yours to turn. If you find one false, say at which input.
  Laid BY PROGRAM, IN A SANDBOX (cutbox-rows.mjs): the forced cells as the released guide's own fill.sh prints them over the translation 1624a6c4164a5aec… (all of the seat's roots in one cut). By AI agents, Wed Nov 11 2026. No macro, syntax, notation, axiom, sorry.
-/
import Derived.Test.YtjgkeaiibdodfaaChecked
import GoSem.Claim
import GoSem.ClaimJoined
import GoSem.ClaimMapViews
import Derived.JoinedTies
import Derived.KernelRfl
namespace Go.Proofs.Ytjgkeaiibdodfaa
/- THE CELL 'sum', in the pinned program and in every row, IS THE sha256 OF THE DUMP (.gsa) THAT YtjgkeaiibdodfaaProg.lean LOADS. Nothing in Lean hashes anything: it is a label: what it is worth is what the hold of that sum in a sandbox is worth. -/
noncomputable def Try.pinned : Pinned := { name := "ytjgkeaiibdodfaa", sum := "1624a6c4164a5aec8aefb9e9b42ce85701556a41b7cdc4867c7f9ec1d377a7e6", checked := Try.checked }
namespace Rows
def none {H : Type} : Left H := { results := [], args := [] }

/-- 'laws.FnExactJudgeDue': WHATEVER THE INPUT: true; the input reads as it did. -/
def fnExactJudgeDueSpec : ChangeSpec := { name := "fnExactJudgeDue", fn := fun _ => fun
  | [d] => { results := [.lit (.bool true)], args := [d] }
  | _ => none }
def fnExactJudgeDueRow : OpenClaim := { program := "ytjgkeaiibdodfaa", sum := "1624a6c4164a5aec8aefb9e9b42ce85701556a41b7cdc4867c7f9ec1d377a7e6", func := "loop.example/g00185/laws.FnExactJudgeDue", spec := "fnExactJudgeDue", unfollowed := true, recurses := true, apart := false }
def FnExactJudgeDueSaid : Prop := fnExactJudgeDueRow.holds Try.pinned (OpenSpec.ofChange fnExactJudgeDueSpec)

/-- ITS FALSE NEIGHBOUR: 'it returns false'. Refute it at one input. -/
def fnExactJudgeDueWrong : ChangeSpec := { name := "fnExactJudgeDue", fn := fun _ => fun
  | [d] => { results := [.lit (.bool false)], args := [d] }
  | _ => none }
def FnExactJudgeDueWrongFalsely : Prop := fnExactJudgeDueRow.holds Try.pinned (OpenSpec.ofChange fnExactJudgeDueWrong)

/-- 'laws.FnExactShortOf': WHATEVER THE INPUT: true; the input reads as it did. -/
def fnExactShortOfSpec : ChangeSpec := { name := "fnExactShortOf", fn := fun _ => fun
  | [d1, d2] => { results := [.lit (.bool true)], args := [d1, d2] }
  | _ => none }
def fnExactShortOfRow : OpenClaim := { program := "ytjgkeaiibdodfaa", sum := "1624a6c4164a5aec8aefb9e9b42ce85701556a41b7cdc4867c7f9ec1d377a7e6", func := "loop.example/g00185/laws.FnExactShortOf", spec := "fnExactShortOf", unfollowed := true, recurses := true, apart := false }
def FnExactShortOfSaid : Prop := fnExactShortOfRow.holds Try.pinned (OpenSpec.ofChange fnExactShortOfSpec)

/-- ITS FALSE NEIGHBOUR: 'it returns false'. Refute it at one input. -/
def fnExactShortOfWrong : ChangeSpec := { name := "fnExactShortOf", fn := fun _ => fun
  | [d1, d2] => { results := [.lit (.bool false)], args := [d1, d2] }
  | _ => none }
def FnExactShortOfWrongFalsely : Prop := fnExactShortOfRow.holds Try.pinned (OpenSpec.ofChange fnExactShortOfWrong)

/-- 'laws.FnExactJudgeFair': WHATEVER THE INPUT: true; the input reads as it did. -/
def fnExactJudgeFairSpec : ChangeSpec := { name := "fnExactJudgeFair", fn := fun _ => fun
  | [d] => { results := [.lit (.bool true)], args := [d] }
  | _ => none }
def fnExactJudgeFairRow : OpenClaim := { program := "ytjgkeaiibdodfaa", sum := "1624a6c4164a5aec8aefb9e9b42ce85701556a41b7cdc4867c7f9ec1d377a7e6", func := "loop.example/g00185/laws.FnExactJudgeFair", spec := "fnExactJudgeFair", unfollowed := true, recurses := true, apart := false }
def FnExactJudgeFairSaid : Prop := fnExactJudgeFairRow.holds Try.pinned (OpenSpec.ofChange fnExactJudgeFairSpec)

/-- ITS FALSE NEIGHBOUR: 'it returns false'. Refute it at one input. -/
def fnExactJudgeFairWrong : ChangeSpec := { name := "fnExactJudgeFair", fn := fun _ => fun
  | [d] => { results := [.lit (.bool false)], args := [d] }
  | _ => none }
def FnExactJudgeFairWrongFalsely : Prop := fnExactJudgeFairRow.holds Try.pinned (OpenSpec.ofChange fnExactJudgeFairWrong)

/-- 'laws.FnExactJudgeTurns': WHATEVER THE INPUT: true; the input reads as it did. -/
def fnExactJudgeTurnsSpec : ChangeSpec := { name := "fnExactJudgeTurns", fn := fun _ => fun
  | [d] => { results := [.lit (.bool true)], args := [d] }
  | _ => none }
def fnExactJudgeTurnsRow : OpenClaim := { program := "ytjgkeaiibdodfaa", sum := "1624a6c4164a5aec8aefb9e9b42ce85701556a41b7cdc4867c7f9ec1d377a7e6", func := "loop.example/g00185/laws.FnExactJudgeTurns", spec := "fnExactJudgeTurns", unfollowed := true, recurses := true, apart := false }
def FnExactJudgeTurnsSaid : Prop := fnExactJudgeTurnsRow.holds Try.pinned (OpenSpec.ofChange fnExactJudgeTurnsSpec)

/-- ITS FALSE NEIGHBOUR: 'it returns false'. Refute it at one input. -/
def fnExactJudgeTurnsWrong : ChangeSpec := { name := "fnExactJudgeTurns", fn := fun _ => fun
  | [d] => { results := [.lit (.bool false)], args := [d] }
  | _ => none }
def FnExactJudgeTurnsWrongFalsely : Prop := fnExactJudgeTurnsRow.holds Try.pinned (OpenSpec.ofChange fnExactJudgeTurnsWrong)

/-- 'laws.FnNew': WHATEVER THE INPUT: true; the input reads as it did. -/
def fnNewSpec : ChangeSpec := { name := "fnNew", fn := fun _ => fun
  | [d] => { results := [.lit (.bool true)], args := [d] }
  | _ => none }
def fnNewRow : OpenClaim := { program := "ytjgkeaiibdodfaa", sum := "1624a6c4164a5aec8aefb9e9b42ce85701556a41b7cdc4867c7f9ec1d377a7e6", func := "loop.example/g00185/laws.FnNew", spec := "fnNew", unfollowed := true, recurses := true, apart := false }
def FnNewSaid : Prop := fnNewRow.holds Try.pinned (OpenSpec.ofChange fnNewSpec)

/-- ITS FALSE NEIGHBOUR: 'it returns false'. Refute it at one input. -/
def fnNewWrong : ChangeSpec := { name := "fnNew", fn := fun _ => fun
  | [d] => { results := [.lit (.bool false)], args := [d] }
  | _ => none }
def FnNewWrongFalsely : Prop := fnNewRow.holds Try.pinned (OpenSpec.ofChange fnNewWrong)

/-- 'laws.FnPicked': WHATEVER THE INPUT: true; the input reads as it did. -/
def fnPickedSpec : ChangeSpec := { name := "fnPicked", fn := fun _ => fun
  | [d] => { results := [.lit (.bool true)], args := [d] }
  | _ => none }
def fnPickedRow : OpenClaim := { program := "ytjgkeaiibdodfaa", sum := "1624a6c4164a5aec8aefb9e9b42ce85701556a41b7cdc4867c7f9ec1d377a7e6", func := "loop.example/g00185/laws.FnPicked", spec := "fnPicked", unfollowed := true, recurses := true, apart := false }
def FnPickedSaid : Prop := fnPickedRow.holds Try.pinned (OpenSpec.ofChange fnPickedSpec)

/-- ITS FALSE NEIGHBOUR: 'it returns false'. Refute it at one input. -/
def fnPickedWrong : ChangeSpec := { name := "fnPicked", fn := fun _ => fun
  | [d] => { results := [.lit (.bool false)], args := [d] }
  | _ => none }
def FnPickedWrongFalsely : Prop := fnPickedRow.holds Try.pinned (OpenSpec.ofChange fnPickedWrong)

/-- 'laws.FnIdle': WHATEVER THE INPUT: true; the input reads as it did. -/
def fnIdleSpec : ChangeSpec := { name := "fnIdle", fn := fun _ => fun
  | [d] => { results := [.lit (.bool true)], args := [d] }
  | _ => none }
def fnIdleRow : OpenClaim := { program := "ytjgkeaiibdodfaa", sum := "1624a6c4164a5aec8aefb9e9b42ce85701556a41b7cdc4867c7f9ec1d377a7e6", func := "loop.example/g00185/laws.FnIdle", spec := "fnIdle", unfollowed := true, recurses := true, apart := false }
def FnIdleSaid : Prop := fnIdleRow.holds Try.pinned (OpenSpec.ofChange fnIdleSpec)

/-- ITS FALSE NEIGHBOUR: 'it returns false'. Refute it at one input. -/
def fnIdleWrong : ChangeSpec := { name := "fnIdle", fn := fun _ => fun
  | [d] => { results := [.lit (.bool false)], args := [d] }
  | _ => none }
def FnIdleWrongFalsely : Prop := fnIdleRow.holds Try.pinned (OpenSpec.ofChange fnIdleWrong)

/- THE SECOND FORM. 'bulk': how many values and letters a reading holds, each counted each time it is reached (what is shared counts as often as it is met; a slice's spare places count too). A statement '..UptoSaid' is the law's where the arguments, and the package variables that the reading takes, are together of bulk at most 1048576: NARROWER than '..Said'. Prove '..Said' where nothing that the law and all that it calls make is longer than what came in: it says more and counts as full. Else prove '..UptoSaid'. A law counts once. -/
mutual
def uptoBulk {H : Type} : DataW H → Nat
  | .lit (.string bytes) => bytes.length + 1
  | .lit _ => 1
  | .nil => 1
  | .ptr d => uptoBulk d + 1
  | .slice elems spare => uptoBulkAll elems + uptoBulkAll spare + 1
  | .agg parts => uptoBulkAll parts + 1
  | .iface _ d => uptoBulk d + 1
  | .map entries => uptoBulkEntries entries + 1
  | .held _ => 1
def uptoBulkAll {H : Type} : List (DataW H) → Nat
  | [] => 0
  | d :: r => uptoBulk d + uptoBulkAll r
def uptoBulkEntries {H : Type} : List (Lit × DataW H) → Nat
  | [] => 0
  | x :: r => uptoBulkEntry x + uptoBulkEntries r
def uptoBulkEntry {H : Type} : Lit × DataW H → Nat
  | (.string bytes, d) => bytes.length + uptoBulk d + 1
  | (_, d) => uptoBulk d + 1
 end
def uptoSmall : (H : Type) → List (DataW H) → Bool := fun _ ds => decide (uptoBulkAll ds ≤ 1048576)
def OpenSpec.upto (s : _root_.Go.ChangeSpec) : _root_.Go.OpenSpec := { _root_.Go.OpenSpec.ofChange s with cond := some uptoSmall }

/-- 'laws.FnExactJudgeDue', WHERE WHAT IT READS IS OF BULK AT MOST 1048576: true; the input reads as it did. -/
def fnExactJudgeDueUptoRow : OpenClaim := { program := "ytjgkeaiibdodfaa", sum := "1624a6c4164a5aec8aefb9e9b42ce85701556a41b7cdc4867c7f9ec1d377a7e6", func := "loop.example/g00185/laws.FnExactJudgeDue", spec := "fnExactJudgeDue", unfollowed := true, recurses := true, apart := false, narrowed := true }
def FnExactJudgeDueUptoSaid : Prop := fnExactJudgeDueUptoRow.holds Try.pinned (OpenSpec.upto fnExactJudgeDueSpec)

/-- 'laws.FnExactShortOf', WHERE WHAT IT READS IS OF BULK AT MOST 1048576: true; the input reads as it did. -/
def fnExactShortOfUptoRow : OpenClaim := { program := "ytjgkeaiibdodfaa", sum := "1624a6c4164a5aec8aefb9e9b42ce85701556a41b7cdc4867c7f9ec1d377a7e6", func := "loop.example/g00185/laws.FnExactShortOf", spec := "fnExactShortOf", unfollowed := true, recurses := true, apart := false, narrowed := true }
def FnExactShortOfUptoSaid : Prop := fnExactShortOfUptoRow.holds Try.pinned (OpenSpec.upto fnExactShortOfSpec)

/-- 'laws.FnExactJudgeFair', WHERE WHAT IT READS IS OF BULK AT MOST 1048576: true; the input reads as it did. -/
def fnExactJudgeFairUptoRow : OpenClaim := { program := "ytjgkeaiibdodfaa", sum := "1624a6c4164a5aec8aefb9e9b42ce85701556a41b7cdc4867c7f9ec1d377a7e6", func := "loop.example/g00185/laws.FnExactJudgeFair", spec := "fnExactJudgeFair", unfollowed := true, recurses := true, apart := false, narrowed := true }
def FnExactJudgeFairUptoSaid : Prop := fnExactJudgeFairUptoRow.holds Try.pinned (OpenSpec.upto fnExactJudgeFairSpec)

/-- 'laws.FnExactJudgeTurns', WHERE WHAT IT READS IS OF BULK AT MOST 1048576: true; the input reads as it did. -/
def fnExactJudgeTurnsUptoRow : OpenClaim := { program := "ytjgkeaiibdodfaa", sum := "1624a6c4164a5aec8aefb9e9b42ce85701556a41b7cdc4867c7f9ec1d377a7e6", func := "loop.example/g00185/laws.FnExactJudgeTurns", spec := "fnExactJudgeTurns", unfollowed := true, recurses := true, apart := false, narrowed := true }
def FnExactJudgeTurnsUptoSaid : Prop := fnExactJudgeTurnsUptoRow.holds Try.pinned (OpenSpec.upto fnExactJudgeTurnsSpec)

/-- 'laws.FnNew', WHERE WHAT IT READS IS OF BULK AT MOST 1048576: true; the input reads as it did. -/
def fnNewUptoRow : OpenClaim := { program := "ytjgkeaiibdodfaa", sum := "1624a6c4164a5aec8aefb9e9b42ce85701556a41b7cdc4867c7f9ec1d377a7e6", func := "loop.example/g00185/laws.FnNew", spec := "fnNew", unfollowed := true, recurses := true, apart := false, narrowed := true }
def FnNewUptoSaid : Prop := fnNewUptoRow.holds Try.pinned (OpenSpec.upto fnNewSpec)

/-- 'laws.FnPicked', WHERE WHAT IT READS IS OF BULK AT MOST 1048576: true; the input reads as it did. -/
def fnPickedUptoRow : OpenClaim := { program := "ytjgkeaiibdodfaa", sum := "1624a6c4164a5aec8aefb9e9b42ce85701556a41b7cdc4867c7f9ec1d377a7e6", func := "loop.example/g00185/laws.FnPicked", spec := "fnPicked", unfollowed := true, recurses := true, apart := false, narrowed := true }
def FnPickedUptoSaid : Prop := fnPickedUptoRow.holds Try.pinned (OpenSpec.upto fnPickedSpec)

/-- 'laws.FnIdle', WHERE WHAT IT READS IS OF BULK AT MOST 1048576: true; the input reads as it did. -/
def fnIdleUptoRow : OpenClaim := { program := "ytjgkeaiibdodfaa", sum := "1624a6c4164a5aec8aefb9e9b42ce85701556a41b7cdc4867c7f9ec1d377a7e6", func := "loop.example/g00185/laws.FnIdle", spec := "fnIdle", unfollowed := true, recurses := true, apart := false, narrowed := true }
def FnIdleUptoSaid : Prop := fnIdleUptoRow.holds Try.pinned (OpenSpec.upto fnIdleSpec)

end Rows
end Go.Proofs.Ytjgkeaiibdodfaa
