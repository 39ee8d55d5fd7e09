/-
  No cell of these rows narrows 'for every input' (looked for: loops, veiled, ifaces, maps, wideKeys, modest, calm, conditions, laid).
  DERIVED. THE GIVEN ROWS OF THIS SEAT. 4 by the template 'for every input the law returns true; each argument reads behind the call as it read before'; 0 by the template 'total and deterministic' (their statements: YtjgkeaiibdodfaaGreatTotals.lean).
  GIVEN WITH THE SEED: the statements are not yours to turn. If you find one false, say at which input.
  Laid BY PROGRAM, IN A SANDBOX (cutbox-rows.mjs): the forced cells as the released guide's own fill.sh prints them over the translation dfd3c8145392adce… (all of the seat's roots in one cut). By AI agents, Wed Nov 11 2026. No macro, syntax, notation, axiom, sorry.
-/
import Derived.Test.YtjgkeaiibdodfaaGreatChecked
import GoSem.Claim
import GoSem.ClaimJoined
import GoSem.ClaimMapViews
import Derived.JoinedTies
import Derived.KernelRfl
namespace Go.Proofs.YtjgkeaiibdodfaaGreat
/- THE CELL 'sum', in the pinned program and in every row, IS THE sha256 OF THE DUMP (.gsa) THAT YtjgkeaiibdodfaaGreatProg.lean LOADS. Nothing in Lean hashes anything: it is a label: what it is worth is what the hold of that sum in a sandbox is worth. -/
noncomputable def Tryz.pinned : Pinned := { name := "ytjgkeaiibdodfaagreat", sum := "dfd3c8145392adce0ba53417e6e793c424a619dd28efc0c5d4de0035ebc5f0bc", checked := Tryz.checked }
namespace Rows
def none {H : Type} : Left H := { results := [], args := [] }

/-- 'laws.FnExactSpreadOn': WHATEVER THE INPUT: true; the input reads as it did. -/
def fnExactSpreadOnSpec : ChangeSpec := { name := "fnExactSpreadOn", fn := fun _ => fun
  | [d1, d2] => { results := [.lit (.bool true)], args := [d1, d2] }
  | _ => none }
def fnExactSpreadOnRow : OpenClaim := { program := "ytjgkeaiibdodfaagreat", sum := "dfd3c8145392adce0ba53417e6e793c424a619dd28efc0c5d4de0035ebc5f0bc", func := "loop.example/g00185/laws.FnExactSpreadOn", spec := "fnExactSpreadOn", unfollowed := true, recurses := true, apart := false }
def FnExactSpreadOnSaid : Prop := fnExactSpreadOnRow.holds Tryz.pinned (OpenSpec.ofChange fnExactSpreadOnSpec)

/-- ITS FALSE NEIGHBOUR: 'it returns false'. Refute it at one input. -/
def fnExactSpreadOnWrong : ChangeSpec := { name := "fnExactSpreadOn", fn := fun _ => fun
  | [d1, d2] => { results := [.lit (.bool false)], args := [d1, d2] }
  | _ => none }
def FnExactSpreadOnWrongFalsely : Prop := fnExactSpreadOnRow.holds Tryz.pinned (OpenSpec.ofChange fnExactSpreadOnWrong)

/-- 'laws.FnExactJudgeBest': WHATEVER THE INPUT: true; the input reads as it did. -/
def fnExactJudgeBestSpec : ChangeSpec := { name := "fnExactJudgeBest", fn := fun _ => fun
  | [d] => { results := [.lit (.bool true)], args := [d] }
  | _ => none }
def fnExactJudgeBestRow : OpenClaim := { program := "ytjgkeaiibdodfaagreat", sum := "dfd3c8145392adce0ba53417e6e793c424a619dd28efc0c5d4de0035ebc5f0bc", func := "loop.example/g00185/laws.FnExactJudgeBest", spec := "fnExactJudgeBest", unfollowed := true, recurses := true, apart := false }
def FnExactJudgeBestSaid : Prop := fnExactJudgeBestRow.holds Tryz.pinned (OpenSpec.ofChange fnExactJudgeBestSpec)

/-- ITS FALSE NEIGHBOUR: 'it returns false'. Refute it at one input. -/
def fnExactJudgeBestWrong : ChangeSpec := { name := "fnExactJudgeBest", fn := fun _ => fun
  | [d] => { results := [.lit (.bool false)], args := [d] }
  | _ => none }
def FnExactJudgeBestWrongFalsely : Prop := fnExactJudgeBestRow.holds Tryz.pinned (OpenSpec.ofChange fnExactJudgeBestWrong)

/-- 'laws.FnExactJudgeAlone': WHATEVER THE INPUT: true; the input reads as it did. -/
def fnExactJudgeAloneSpec : ChangeSpec := { name := "fnExactJudgeAlone", fn := fun _ => fun
  | [d] => { results := [.lit (.bool true)], args := [d] }
  | _ => none }
def fnExactJudgeAloneRow : OpenClaim := { program := "ytjgkeaiibdodfaagreat", sum := "dfd3c8145392adce0ba53417e6e793c424a619dd28efc0c5d4de0035ebc5f0bc", func := "loop.example/g00185/laws.FnExactJudgeAlone", spec := "fnExactJudgeAlone", unfollowed := true, recurses := true, apart := false }
def FnExactJudgeAloneSaid : Prop := fnExactJudgeAloneRow.holds Tryz.pinned (OpenSpec.ofChange fnExactJudgeAloneSpec)

/-- ITS FALSE NEIGHBOUR: 'it returns false'. Refute it at one input. -/
def fnExactJudgeAloneWrong : ChangeSpec := { name := "fnExactJudgeAlone", fn := fun _ => fun
  | [d] => { results := [.lit (.bool false)], args := [d] }
  | _ => none }
def FnExactJudgeAloneWrongFalsely : Prop := fnExactJudgeAloneRow.holds Tryz.pinned (OpenSpec.ofChange fnExactJudgeAloneWrong)

/-- 'laws.FnExactJudgeAll': WHATEVER THE INPUT: true; the input reads as it did. -/
def fnExactJudgeAllSpec : ChangeSpec := { name := "fnExactJudgeAll", fn := fun _ => fun
  | [d] => { results := [.lit (.bool true)], args := [d] }
  | _ => none }
def fnExactJudgeAllRow : OpenClaim := { program := "ytjgkeaiibdodfaagreat", sum := "dfd3c8145392adce0ba53417e6e793c424a619dd28efc0c5d4de0035ebc5f0bc", func := "loop.example/g00185/laws.FnExactJudgeAll", spec := "fnExactJudgeAll", unfollowed := true, recurses := true, apart := false }
def FnExactJudgeAllSaid : Prop := fnExactJudgeAllRow.holds Tryz.pinned (OpenSpec.ofChange fnExactJudgeAllSpec)

/-- ITS FALSE NEIGHBOUR: 'it returns false'. Refute it at one input. -/
def fnExactJudgeAllWrong : ChangeSpec := { name := "fnExactJudgeAll", fn := fun _ => fun
  | [d] => { results := [.lit (.bool false)], args := [d] }
  | _ => none }
def FnExactJudgeAllWrongFalsely : Prop := fnExactJudgeAllRow.holds Tryz.pinned (OpenSpec.ofChange fnExactJudgeAllWrong)

/- THE SECOND FORM. 'bulk': how many values and letters a reading holds, each counted each time it is reached (what is shared counts as often as it is met; a slice's spare places count too). A statement '..UptoSaid' is the law's where the arguments, and the package variables that the reading takes, are together of bulk at most 1048576: NARROWER than '..Said'. Prove '..Said' where nothing that the law and all that it calls make is longer than what came in: it says more and counts as full. Else prove '..UptoSaid'. A law counts once. -/
mutual
def uptoBulk {H : Type} : DataW H → Nat
  | .lit (.string bytes) => bytes.length + 1
  | .lit _ => 1
  | .nil => 1
  | .ptr d => uptoBulk d + 1
  | .slice elems spare => uptoBulkAll elems + uptoBulkAll spare + 1
  | .agg parts => uptoBulkAll parts + 1
  | .iface _ d => uptoBulk d + 1
  | .map entries => uptoBulkEntries entries + 1
  | .held _ => 1
def uptoBulkAll {H : Type} : List (DataW H) → Nat
  | [] => 0
  | d :: r => uptoBulk d + uptoBulkAll r
def uptoBulkEntries {H : Type} : List (Lit × DataW H) → Nat
  | [] => 0
  | x :: r => uptoBulkEntry x + uptoBulkEntries r
def uptoBulkEntry {H : Type} : Lit × DataW H → Nat
  | (.string bytes, d) => bytes.length + uptoBulk d + 1
  | (_, d) => uptoBulk d + 1
 end
def uptoSmall : (H : Type) → List (DataW H) → Bool := fun _ ds => decide (uptoBulkAll ds ≤ 1048576)
def OpenSpec.upto (s : _root_.Go.ChangeSpec) : _root_.Go.OpenSpec := { _root_.Go.OpenSpec.ofChange s with cond := some uptoSmall }

/-- 'laws.FnExactSpreadOn', WHERE WHAT IT READS IS OF BULK AT MOST 1048576: true; the input reads as it did. -/
def fnExactSpreadOnUptoRow : OpenClaim := { program := "ytjgkeaiibdodfaagreat", sum := "dfd3c8145392adce0ba53417e6e793c424a619dd28efc0c5d4de0035ebc5f0bc", func := "loop.example/g00185/laws.FnExactSpreadOn", spec := "fnExactSpreadOn", unfollowed := true, recurses := true, apart := false, narrowed := true }
def FnExactSpreadOnUptoSaid : Prop := fnExactSpreadOnUptoRow.holds Tryz.pinned (OpenSpec.upto fnExactSpreadOnSpec)

/-- 'laws.FnExactJudgeBest', WHERE WHAT IT READS IS OF BULK AT MOST 1048576: true; the input reads as it did. -/
def fnExactJudgeBestUptoRow : OpenClaim := { program := "ytjgkeaiibdodfaagreat", sum := "dfd3c8145392adce0ba53417e6e793c424a619dd28efc0c5d4de0035ebc5f0bc", func := "loop.example/g00185/laws.FnExactJudgeBest", spec := "fnExactJudgeBest", unfollowed := true, recurses := true, apart := false, narrowed := true }
def FnExactJudgeBestUptoSaid : Prop := fnExactJudgeBestUptoRow.holds Tryz.pinned (OpenSpec.upto fnExactJudgeBestSpec)

/-- 'laws.FnExactJudgeAlone', WHERE WHAT IT READS IS OF BULK AT MOST 1048576: true; the input reads as it did. -/
def fnExactJudgeAloneUptoRow : OpenClaim := { program := "ytjgkeaiibdodfaagreat", sum := "dfd3c8145392adce0ba53417e6e793c424a619dd28efc0c5d4de0035ebc5f0bc", func := "loop.example/g00185/laws.FnExactJudgeAlone", spec := "fnExactJudgeAlone", unfollowed := true, recurses := true, apart := false, narrowed := true }
def FnExactJudgeAloneUptoSaid : Prop := fnExactJudgeAloneUptoRow.holds Tryz.pinned (OpenSpec.upto fnExactJudgeAloneSpec)

/-- 'laws.FnExactJudgeAll', WHERE WHAT IT READS IS OF BULK AT MOST 1048576: true; the input reads as it did. -/
def fnExactJudgeAllUptoRow : OpenClaim := { program := "ytjgkeaiibdodfaagreat", sum := "dfd3c8145392adce0ba53417e6e793c424a619dd28efc0c5d4de0035ebc5f0bc", func := "loop.example/g00185/laws.FnExactJudgeAll", spec := "fnExactJudgeAll", unfollowed := true, recurses := true, apart := false, narrowed := true }
def FnExactJudgeAllUptoSaid : Prop := fnExactJudgeAllUptoRow.holds Tryz.pinned (OpenSpec.upto fnExactJudgeAllSpec)

end Rows
end Go.Proofs.YtjgkeaiibdodfaaGreat
