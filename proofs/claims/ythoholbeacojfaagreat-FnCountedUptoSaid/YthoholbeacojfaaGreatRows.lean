/-
  No cell of these rows narrows 'for every input' (looked for: loops, veiled, ifaces, maps, wideKeys, modest, calm, conditions, laid).
  DERIVED. THE GIVEN ROWS OF THIS SEAT. 11 by the template 'for every input the law returns true; each argument reads behind the call as it read before'; 0 by the template 'total and deterministic' (their statements: YthoholbeacojfaaGreatTotals.lean).
  GIVEN WITH THE SEED: the statements are not yours to turn. If you find one false, say at which input.
  Laid BY PROGRAM, IN A SANDBOX (cutbox-rows.mjs): the forced cells as the released guide's own fill.sh prints them over the translation 9111467544a2f317… (all of the seat's roots in one cut). By AI agents, Wed Nov 11 2026. No macro, syntax, notation, axiom, sorry.
-/
import Derived.Test.YthoholbeacojfaaGreatChecked
import GoSem.Claim
import GoSem.ClaimJoined
import GoSem.ClaimMapViews
import Derived.JoinedTies
import Derived.KernelRfl
namespace Go.Proofs.YthoholbeacojfaaGreat
/- THE CELL 'sum', in the pinned program and in every row, IS THE sha256 OF THE DUMP (.gsa) THAT YthoholbeacojfaaGreatProg.lean LOADS. Nothing in Lean hashes anything: it is a label: what it is worth is what the hold of that sum in a sandbox is worth. -/
noncomputable def Tryz.pinned : Pinned := { name := "ythoholbeacojfaagreat", sum := "9111467544a2f317e74867f7bb80a346fa4d9f68ddf3ccd662bc530efd1ec459", checked := Tryz.checked }
namespace Rows
def none {H : Type} : Left H := { results := [], args := [] }

/-- 'laws.FnGhosts': WHATEVER THE INPUT: true; the input reads as it did. -/
def fnGhostsSpec : ChangeSpec := { name := "fnGhosts", fn := fun _ => fun
  | [d] => { results := [.lit (.bool true)], args := [d] }
  | _ => none }
def fnGhostsRow : OpenClaim := { program := "ythoholbeacojfaagreat", sum := "9111467544a2f317e74867f7bb80a346fa4d9f68ddf3ccd662bc530efd1ec459", func := "loop.example/g00185/laws.FnGhosts", spec := "fnGhosts", inPlace := ["slices.overlaps[loop.example/g00185/impl.Task]"], unfollowed := true, recurses := true, apart := false }
def FnGhostsSaid : Prop := fnGhostsRow.holds Tryz.pinned (OpenSpec.ofChange fnGhostsSpec)

/-- ITS FALSE NEIGHBOUR: 'it returns false'. Refute it at one input. -/
def fnGhostsWrong : ChangeSpec := { name := "fnGhosts", fn := fun _ => fun
  | [d] => { results := [.lit (.bool false)], args := [d] }
  | _ => none }
def FnGhostsWrongFalsely : Prop := fnGhostsRow.holds Tryz.pinned (OpenSpec.ofChange fnGhostsWrong)

/-- 'laws.FnLent': WHATEVER THE INPUT: true; the input reads as it did. -/
def fnLentSpec : ChangeSpec := { name := "fnLent", fn := fun _ => fun
  | [d] => { results := [.lit (.bool true)], args := [d] }
  | _ => none }
def fnLentRow : OpenClaim := { program := "ythoholbeacojfaagreat", sum := "9111467544a2f317e74867f7bb80a346fa4d9f68ddf3ccd662bc530efd1ec459", func := "loop.example/g00185/laws.FnLent", spec := "fnLent", inPlace := ["slices.overlaps[loop.example/g00185/impl.Task]"], unfollowed := true, recurses := true, apart := false }
def FnLentSaid : Prop := fnLentRow.holds Tryz.pinned (OpenSpec.ofChange fnLentSpec)

/-- ITS FALSE NEIGHBOUR: 'it returns false'. Refute it at one input. -/
def fnLentWrong : ChangeSpec := { name := "fnLent", fn := fun _ => fun
  | [d] => { results := [.lit (.bool false)], args := [d] }
  | _ => none }
def FnLentWrongFalsely : Prop := fnLentRow.holds Tryz.pinned (OpenSpec.ofChange fnLentWrong)

/-- 'laws.FnCounted': WHATEVER THE INPUT: true; the input reads as it did. -/
def fnCountedSpec : ChangeSpec := { name := "fnCounted", fn := fun _ => fun
  | [d] => { results := [.lit (.bool true)], args := [d] }
  | _ => none }
def fnCountedRow : OpenClaim := { program := "ythoholbeacojfaagreat", sum := "9111467544a2f317e74867f7bb80a346fa4d9f68ddf3ccd662bc530efd1ec459", func := "loop.example/g00185/laws.FnCounted", spec := "fnCounted", unfollowed := true, recurses := true, apart := false }
def FnCountedSaid : Prop := fnCountedRow.holds Tryz.pinned (OpenSpec.ofChange fnCountedSpec)

/-- ITS FALSE NEIGHBOUR: 'it returns false'. Refute it at one input. -/
def fnCountedWrong : ChangeSpec := { name := "fnCounted", fn := fun _ => fun
  | [d] => { results := [.lit (.bool false)], args := [d] }
  | _ => none }
def FnCountedWrongFalsely : Prop := fnCountedRow.holds Tryz.pinned (OpenSpec.ofChange fnCountedWrong)

/-- 'laws.FnShort': WHATEVER THE INPUT: true; the input reads as it did. -/
def fnShortSpec : ChangeSpec := { name := "fnShort", fn := fun _ => fun
  | [d] => { results := [.lit (.bool true)], args := [d] }
  | _ => none }
def fnShortRow : OpenClaim := { program := "ythoholbeacojfaagreat", sum := "9111467544a2f317e74867f7bb80a346fa4d9f68ddf3ccd662bc530efd1ec459", func := "loop.example/g00185/laws.FnShort", spec := "fnShort", unfollowed := true, recurses := true, apart := false }
def FnShortSaid : Prop := fnShortRow.holds Tryz.pinned (OpenSpec.ofChange fnShortSpec)

/-- ITS FALSE NEIGHBOUR: 'it returns false'. Refute it at one input. -/
def fnShortWrong : ChangeSpec := { name := "fnShort", fn := fun _ => fun
  | [d] => { results := [.lit (.bool false)], args := [d] }
  | _ => none }
def FnShortWrongFalsely : Prop := fnShortRow.holds Tryz.pinned (OpenSpec.ofChange fnShortWrong)

/-- 'laws.FnJudges': WHATEVER THE INPUT: true; the input reads as it did. -/
def fnJudgesSpec : ChangeSpec := { name := "fnJudges", fn := fun _ => fun
  | [d] => { results := [.lit (.bool true)], args := [d] }
  | _ => none }
def fnJudgesRow : OpenClaim := { program := "ythoholbeacojfaagreat", sum := "9111467544a2f317e74867f7bb80a346fa4d9f68ddf3ccd662bc530efd1ec459", func := "loop.example/g00185/laws.FnJudges", spec := "fnJudges", unfollowed := true, recurses := true, apart := false }
def FnJudgesSaid : Prop := fnJudgesRow.holds Tryz.pinned (OpenSpec.ofChange fnJudgesSpec)

/-- ITS FALSE NEIGHBOUR: 'it returns false'. Refute it at one input. -/
def fnJudgesWrong : ChangeSpec := { name := "fnJudges", fn := fun _ => fun
  | [d] => { results := [.lit (.bool false)], args := [d] }
  | _ => none }
def FnJudgesWrongFalsely : Prop := fnJudgesRow.holds Tryz.pinned (OpenSpec.ofChange fnJudgesWrong)

/-- 'laws.FnLast': WHATEVER THE INPUT: true; the input reads as it did. -/
def fnLastSpec : ChangeSpec := { name := "fnLast", fn := fun _ => fun
  | [d] => { results := [.lit (.bool true)], args := [d] }
  | _ => none }
def fnLastRow : OpenClaim := { program := "ythoholbeacojfaagreat", sum := "9111467544a2f317e74867f7bb80a346fa4d9f68ddf3ccd662bc530efd1ec459", func := "loop.example/g00185/laws.FnLast", spec := "fnLast", unfollowed := true, recurses := true, apart := false }
def FnLastSaid : Prop := fnLastRow.holds Tryz.pinned (OpenSpec.ofChange fnLastSpec)

/-- ITS FALSE NEIGHBOUR: 'it returns false'. Refute it at one input. -/
def fnLastWrong : ChangeSpec := { name := "fnLast", fn := fun _ => fun
  | [d] => { results := [.lit (.bool false)], args := [d] }
  | _ => none }
def FnLastWrongFalsely : Prop := fnLastRow.holds Tryz.pinned (OpenSpec.ofChange fnLastWrong)

/-- 'laws.FnTick': WHATEVER THE INPUT: true; the input reads as it did. -/
def fnTickSpec : ChangeSpec := { name := "fnTick", fn := fun _ => fun
  | [d] => { results := [.lit (.bool true)], args := [d] }
  | _ => none }
def fnTickRow : OpenClaim := { program := "ythoholbeacojfaagreat", sum := "9111467544a2f317e74867f7bb80a346fa4d9f68ddf3ccd662bc530efd1ec459", func := "loop.example/g00185/laws.FnTick", spec := "fnTick", unfollowed := true, recurses := true, apart := false }
def FnTickSaid : Prop := fnTickRow.holds Tryz.pinned (OpenSpec.ofChange fnTickSpec)

/-- ITS FALSE NEIGHBOUR: 'it returns false'. Refute it at one input. -/
def fnTickWrong : ChangeSpec := { name := "fnTick", fn := fun _ => fun
  | [d] => { results := [.lit (.bool false)], args := [d] }
  | _ => none }
def FnTickWrongFalsely : Prop := fnTickRow.holds Tryz.pinned (OpenSpec.ofChange fnTickWrong)

/-- 'laws.FnTicks': WHATEVER THE INPUT: true; the input reads as it did. -/
def fnTicksSpec : ChangeSpec := { name := "fnTicks", fn := fun _ => fun
  | [d] => { results := [.lit (.bool true)], args := [d] }
  | _ => none }
def fnTicksRow : OpenClaim := { program := "ythoholbeacojfaagreat", sum := "9111467544a2f317e74867f7bb80a346fa4d9f68ddf3ccd662bc530efd1ec459", func := "loop.example/g00185/laws.FnTicks", spec := "fnTicks", unfollowed := true, recurses := true, apart := false }
def FnTicksSaid : Prop := fnTicksRow.holds Tryz.pinned (OpenSpec.ofChange fnTicksSpec)

/-- ITS FALSE NEIGHBOUR: 'it returns false'. Refute it at one input. -/
def fnTicksWrong : ChangeSpec := { name := "fnTicks", fn := fun _ => fun
  | [d] => { results := [.lit (.bool false)], args := [d] }
  | _ => none }
def FnTicksWrongFalsely : Prop := fnTicksRow.holds Tryz.pinned (OpenSpec.ofChange fnTicksWrong)

/-- 'laws.FnMade': WHATEVER THE INPUT: true; the input reads as it did. -/
def fnMadeSpec : ChangeSpec := { name := "fnMade", fn := fun _ => fun
  | [d] => { results := [.lit (.bool true)], args := [d] }
  | _ => none }
def fnMadeRow : OpenClaim := { program := "ythoholbeacojfaagreat", sum := "9111467544a2f317e74867f7bb80a346fa4d9f68ddf3ccd662bc530efd1ec459", func := "loop.example/g00185/laws.FnMade", spec := "fnMade", inPlace := ["slices.overlaps[loop.example/g00185/impl.Task]"], unfollowed := true, recurses := true, apart := false }
def FnMadeSaid : Prop := fnMadeRow.holds Tryz.pinned (OpenSpec.ofChange fnMadeSpec)

/-- ITS FALSE NEIGHBOUR: 'it returns false'. Refute it at one input. -/
def fnMadeWrong : ChangeSpec := { name := "fnMade", fn := fun _ => fun
  | [d] => { results := [.lit (.bool false)], args := [d] }
  | _ => none }
def FnMadeWrongFalsely : Prop := fnMadeRow.holds Tryz.pinned (OpenSpec.ofChange fnMadeWrong)

/-- 'laws.FnSlept': WHATEVER THE INPUT: true; the input reads as it did. -/
def fnSleptSpec : ChangeSpec := { name := "fnSlept", fn := fun _ => fun
  | [d] => { results := [.lit (.bool true)], args := [d] }
  | _ => none }
def fnSleptRow : OpenClaim := { program := "ythoholbeacojfaagreat", sum := "9111467544a2f317e74867f7bb80a346fa4d9f68ddf3ccd662bc530efd1ec459", func := "loop.example/g00185/laws.FnSlept", spec := "fnSlept", inPlace := ["slices.overlaps[loop.example/g00185/impl.Task]"], unfollowed := true, recurses := true, apart := false }
def FnSleptSaid : Prop := fnSleptRow.holds Tryz.pinned (OpenSpec.ofChange fnSleptSpec)

/-- ITS FALSE NEIGHBOUR: 'it returns false'. Refute it at one input. -/
def fnSleptWrong : ChangeSpec := { name := "fnSlept", fn := fun _ => fun
  | [d] => { results := [.lit (.bool false)], args := [d] }
  | _ => none }
def FnSleptWrongFalsely : Prop := fnSleptRow.holds Tryz.pinned (OpenSpec.ofChange fnSleptWrong)

/-- 'laws.FnCall': WHATEVER THE INPUT: true; the input reads as it did. -/
def fnCallSpec : ChangeSpec := { name := "fnCall", fn := fun _ => fun
  | [d] => { results := [.lit (.bool true)], args := [d] }
  | _ => none }
def fnCallRow : OpenClaim := { program := "ythoholbeacojfaagreat", sum := "9111467544a2f317e74867f7bb80a346fa4d9f68ddf3ccd662bc530efd1ec459", func := "loop.example/g00185/laws.FnCall", spec := "fnCall", inPlace := ["slices.overlaps[loop.example/g00185/impl.Task]"], unfollowed := true, recurses := true, apart := false }
def FnCallSaid : Prop := fnCallRow.holds Tryz.pinned (OpenSpec.ofChange fnCallSpec)

/-- ITS FALSE NEIGHBOUR: 'it returns false'. Refute it at one input. -/
def fnCallWrong : ChangeSpec := { name := "fnCall", fn := fun _ => fun
  | [d] => { results := [.lit (.bool false)], args := [d] }
  | _ => none }
def FnCallWrongFalsely : Prop := fnCallRow.holds Tryz.pinned (OpenSpec.ofChange fnCallWrong)

/- THE SECOND FORM. 'bulk': how many values and letters a reading holds, each counted each time it is reached (what is shared counts as often as it is met; a slice's spare places count too). A statement '..UptoSaid' is the law's where the arguments, and the package variables that the reading takes, are together of bulk at most 1048576: NARROWER than '..Said'. Prove '..Said' where nothing that the law and all that it calls make is longer than what came in: it says more and counts as full. Else prove '..UptoSaid'. A law counts once. -/
mutual
def uptoBulk {H : Type} : DataW H → Nat
  | .lit (.string bytes) => bytes.length + 1
  | .lit _ => 1
  | .nil => 1
  | .ptr d => uptoBulk d + 1
  | .slice elems spare => uptoBulkAll elems + uptoBulkAll spare + 1
  | .agg parts => uptoBulkAll parts + 1
  | .iface _ d => uptoBulk d + 1
  | .map entries => uptoBulkEntries entries + 1
  | .held _ => 1
def uptoBulkAll {H : Type} : List (DataW H) → Nat
  | [] => 0
  | d :: r => uptoBulk d + uptoBulkAll r
def uptoBulkEntries {H : Type} : List (Lit × DataW H) → Nat
  | [] => 0
  | x :: r => uptoBulkEntry x + uptoBulkEntries r
def uptoBulkEntry {H : Type} : Lit × DataW H → Nat
  | (.string bytes, d) => bytes.length + uptoBulk d + 1
  | (_, d) => uptoBulk d + 1
 end
def uptoSmall : (H : Type) → List (DataW H) → Bool := fun _ ds => decide (uptoBulkAll ds ≤ 1048576)
def OpenSpec.upto (s : _root_.Go.ChangeSpec) : _root_.Go.OpenSpec := { _root_.Go.OpenSpec.ofChange s with cond := some uptoSmall }

/-- 'laws.FnGhosts', WHERE WHAT IT READS IS OF BULK AT MOST 1048576: true; the input reads as it did. -/
def fnGhostsUptoRow : OpenClaim := { program := "ythoholbeacojfaagreat", sum := "9111467544a2f317e74867f7bb80a346fa4d9f68ddf3ccd662bc530efd1ec459", func := "loop.example/g00185/laws.FnGhosts", spec := "fnGhosts", inPlace := ["slices.overlaps[loop.example/g00185/impl.Task]"], unfollowed := true, recurses := true, apart := false, narrowed := true }
def FnGhostsUptoSaid : Prop := fnGhostsUptoRow.holds Tryz.pinned (OpenSpec.upto fnGhostsSpec)

/-- 'laws.FnLent', WHERE WHAT IT READS IS OF BULK AT MOST 1048576: true; the input reads as it did. -/
def fnLentUptoRow : OpenClaim := { program := "ythoholbeacojfaagreat", sum := "9111467544a2f317e74867f7bb80a346fa4d9f68ddf3ccd662bc530efd1ec459", func := "loop.example/g00185/laws.FnLent", spec := "fnLent", inPlace := ["slices.overlaps[loop.example/g00185/impl.Task]"], unfollowed := true, recurses := true, apart := false, narrowed := true }
def FnLentUptoSaid : Prop := fnLentUptoRow.holds Tryz.pinned (OpenSpec.upto fnLentSpec)

/-- 'laws.FnCounted', WHERE WHAT IT READS IS OF BULK AT MOST 1048576: true; the input reads as it did. -/
def fnCountedUptoRow : OpenClaim := { program := "ythoholbeacojfaagreat", sum := "9111467544a2f317e74867f7bb80a346fa4d9f68ddf3ccd662bc530efd1ec459", func := "loop.example/g00185/laws.FnCounted", spec := "fnCounted", unfollowed := true, recurses := true, apart := false, narrowed := true }
def FnCountedUptoSaid : Prop := fnCountedUptoRow.holds Tryz.pinned (OpenSpec.upto fnCountedSpec)

/-- 'laws.FnShort', WHERE WHAT IT READS IS OF BULK AT MOST 1048576: true; the input reads as it did. -/
def fnShortUptoRow : OpenClaim := { program := "ythoholbeacojfaagreat", sum := "9111467544a2f317e74867f7bb80a346fa4d9f68ddf3ccd662bc530efd1ec459", func := "loop.example/g00185/laws.FnShort", spec := "fnShort", unfollowed := true, recurses := true, apart := false, narrowed := true }
def FnShortUptoSaid : Prop := fnShortUptoRow.holds Tryz.pinned (OpenSpec.upto fnShortSpec)

/-- 'laws.FnJudges', WHERE WHAT IT READS IS OF BULK AT MOST 1048576: true; the input reads as it did. -/
def fnJudgesUptoRow : OpenClaim := { program := "ythoholbeacojfaagreat", sum := "9111467544a2f317e74867f7bb80a346fa4d9f68ddf3ccd662bc530efd1ec459", func := "loop.example/g00185/laws.FnJudges", spec := "fnJudges", unfollowed := true, recurses := true, apart := false, narrowed := true }
def FnJudgesUptoSaid : Prop := fnJudgesUptoRow.holds Tryz.pinned (OpenSpec.upto fnJudgesSpec)

/-- 'laws.FnLast', WHERE WHAT IT READS IS OF BULK AT MOST 1048576: true; the input reads as it did. -/
def fnLastUptoRow : OpenClaim := { program := "ythoholbeacojfaagreat", sum := "9111467544a2f317e74867f7bb80a346fa4d9f68ddf3ccd662bc530efd1ec459", func := "loop.example/g00185/laws.FnLast", spec := "fnLast", unfollowed := true, recurses := true, apart := false, narrowed := true }
def FnLastUptoSaid : Prop := fnLastUptoRow.holds Tryz.pinned (OpenSpec.upto fnLastSpec)

/-- 'laws.FnTick', WHERE WHAT IT READS IS OF BULK AT MOST 1048576: true; the input reads as it did. -/
def fnTickUptoRow : OpenClaim := { program := "ythoholbeacojfaagreat", sum := "9111467544a2f317e74867f7bb80a346fa4d9f68ddf3ccd662bc530efd1ec459", func := "loop.example/g00185/laws.FnTick", spec := "fnTick", unfollowed := true, recurses := true, apart := false, narrowed := true }
def FnTickUptoSaid : Prop := fnTickUptoRow.holds Tryz.pinned (OpenSpec.upto fnTickSpec)

/-- 'laws.FnTicks', WHERE WHAT IT READS IS OF BULK AT MOST 1048576: true; the input reads as it did. -/
def fnTicksUptoRow : OpenClaim := { program := "ythoholbeacojfaagreat", sum := "9111467544a2f317e74867f7bb80a346fa4d9f68ddf3ccd662bc530efd1ec459", func := "loop.example/g00185/laws.FnTicks", spec := "fnTicks", unfollowed := true, recurses := true, apart := false, narrowed := true }
def FnTicksUptoSaid : Prop := fnTicksUptoRow.holds Tryz.pinned (OpenSpec.upto fnTicksSpec)

/-- 'laws.FnMade', WHERE WHAT IT READS IS OF BULK AT MOST 1048576: true; the input reads as it did. -/
def fnMadeUptoRow : OpenClaim := { program := "ythoholbeacojfaagreat", sum := "9111467544a2f317e74867f7bb80a346fa4d9f68ddf3ccd662bc530efd1ec459", func := "loop.example/g00185/laws.FnMade", spec := "fnMade", inPlace := ["slices.overlaps[loop.example/g00185/impl.Task]"], unfollowed := true, recurses := true, apart := false, narrowed := true }
def FnMadeUptoSaid : Prop := fnMadeUptoRow.holds Tryz.pinned (OpenSpec.upto fnMadeSpec)

/-- 'laws.FnSlept', WHERE WHAT IT READS IS OF BULK AT MOST 1048576: true; the input reads as it did. -/
def fnSleptUptoRow : OpenClaim := { program := "ythoholbeacojfaagreat", sum := "9111467544a2f317e74867f7bb80a346fa4d9f68ddf3ccd662bc530efd1ec459", func := "loop.example/g00185/laws.FnSlept", spec := "fnSlept", inPlace := ["slices.overlaps[loop.example/g00185/impl.Task]"], unfollowed := true, recurses := true, apart := false, narrowed := true }
def FnSleptUptoSaid : Prop := fnSleptUptoRow.holds Tryz.pinned (OpenSpec.upto fnSleptSpec)

/-- 'laws.FnCall', WHERE WHAT IT READS IS OF BULK AT MOST 1048576: true; the input reads as it did. -/
def fnCallUptoRow : OpenClaim := { program := "ythoholbeacojfaagreat", sum := "9111467544a2f317e74867f7bb80a346fa4d9f68ddf3ccd662bc530efd1ec459", func := "loop.example/g00185/laws.FnCall", spec := "fnCall", inPlace := ["slices.overlaps[loop.example/g00185/impl.Task]"], unfollowed := true, recurses := true, apart := false, narrowed := true }
def FnCallUptoSaid : Prop := fnCallUptoRow.holds Tryz.pinned (OpenSpec.upto fnCallSpec)

end Rows
end Go.Proofs.YthoholbeacojfaaGreat
