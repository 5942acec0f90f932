/-
  No cell of these rows narrows 'for every input' (looked for: loops, veiled, ifaces, maps, wideKeys, modest, calm, conditions, laid).
  DERIVED. THE GIVEN ROWS OF THIS SEAT. 12 by the template 'for every input the law returns true; each argument reads behind the call as it read before'; 0 by the template 'total and deterministic' (their statements: YtodfnelilhjoeaaTotals.lean).
  GIVEN WITH THE SEED: the statements are not yours to turn. If you find one false, say at which input.
  Laid BY PROGRAM, IN A SANDBOX (cutbox-rows.mjs): the forced cells as the released guide's own fill.sh prints them over the translation 04755a875d413583… (all of the seat's roots in one cut). By AI agents, Wed Nov 11 2026. No macro, syntax, notation, axiom, sorry.
-/
import Derived.Test.YtodfnelilhjoeaaChecked
import GoSem.Claim
import GoSem.ClaimJoined
import GoSem.ClaimMapViews
import Derived.JoinedTies
import Derived.KernelRfl
namespace Go.Proofs.Ytodfnelilhjoeaa
/- THE CELL 'sum', in the pinned program and in every row, IS THE sha256 OF THE DUMP (.gsa) THAT YtodfnelilhjoeaaProg.lean LOADS. Nothing in Lean hashes anything: it is a label: what it is worth is what the hold of that sum in a sandbox is worth. -/
noncomputable def Try.pinned : Pinned := { name := "ytodfnelilhjoeaa", sum := "04755a875d413583ecd93d9b2d8660c0fd3467a906b7d790da4fd0a96666d87b", checked := Try.checked }
namespace Rows
def none {H : Type} : Left H := { results := [], args := [] }

/-- 'laws.FnExactChoiceOk': WHATEVER THE INPUT: true; the input reads as it did. -/
def fnExactChoiceOkSpec : ChangeSpec := { name := "fnExactChoiceOk", fn := fun _ => fun
  | [d1, d2] => { results := [.lit (.bool true)], args := [d1, d2] }
  | _ => none }
def fnExactChoiceOkRow : OpenClaim := { program := "ytodfnelilhjoeaa", sum := "04755a875d413583ecd93d9b2d8660c0fd3467a906b7d790da4fd0a96666d87b", func := "loop.example/g00827/laws.FnExactChoiceOk", spec := "fnExactChoiceOk", unfollowed := true, recurses := true, apart := false }
def FnExactChoiceOkSaid : Prop := fnExactChoiceOkRow.holds Try.pinned (OpenSpec.ofChange fnExactChoiceOkSpec)

/-- ITS FALSE NEIGHBOUR: 'it returns false'. Refute it at one input. -/
def fnExactChoiceOkWrong : ChangeSpec := { name := "fnExactChoiceOk", fn := fun _ => fun
  | [d1, d2] => { results := [.lit (.bool false)], args := [d1, d2] }
  | _ => none }
def FnExactChoiceOkWrongFalsely : Prop := fnExactChoiceOkRow.holds Try.pinned (OpenSpec.ofChange fnExactChoiceOkWrong)

/-- 'laws.FnExactChosenNodes': WHATEVER THE INPUT: true; the input reads as it did. -/
def fnExactChosenNodesSpec : ChangeSpec := { name := "fnExactChosenNodes", fn := fun _ => fun
  | [d] => { results := [.lit (.bool true)], args := [d] }
  | _ => none }
def fnExactChosenNodesRow : OpenClaim := { program := "ytodfnelilhjoeaa", sum := "04755a875d413583ecd93d9b2d8660c0fd3467a906b7d790da4fd0a96666d87b", func := "loop.example/g00827/laws.FnExactChosenNodes", spec := "fnExactChosenNodes", unfollowed := true, recurses := true, apart := false }
def FnExactChosenNodesSaid : Prop := fnExactChosenNodesRow.holds Try.pinned (OpenSpec.ofChange fnExactChosenNodesSpec)

/-- ITS FALSE NEIGHBOUR: 'it returns false'. Refute it at one input. -/
def fnExactChosenNodesWrong : ChangeSpec := { name := "fnExactChosenNodes", fn := fun _ => fun
  | [d] => { results := [.lit (.bool false)], args := [d] }
  | _ => none }
def FnExactChosenNodesWrongFalsely : Prop := fnExactChosenNodesRow.holds Try.pinned (OpenSpec.ofChange fnExactChosenNodesWrong)

/-- 'laws.FnExactFreeTies': WHATEVER THE INPUT: true; the input reads as it did. -/
def fnExactFreeTiesSpec : ChangeSpec := { name := "fnExactFreeTies", fn := fun _ => fun
  | [d] => { results := [.lit (.bool true)], args := [d] }
  | _ => none }
def fnExactFreeTiesRow : OpenClaim := { program := "ytodfnelilhjoeaa", sum := "04755a875d413583ecd93d9b2d8660c0fd3467a906b7d790da4fd0a96666d87b", func := "loop.example/g00827/laws.FnExactFreeTies", spec := "fnExactFreeTies", unfollowed := true, recurses := true, apart := false }
def FnExactFreeTiesSaid : Prop := fnExactFreeTiesRow.holds Try.pinned (OpenSpec.ofChange fnExactFreeTiesSpec)

/-- ITS FALSE NEIGHBOUR: 'it returns false'. Refute it at one input. -/
def fnExactFreeTiesWrong : ChangeSpec := { name := "fnExactFreeTies", fn := fun _ => fun
  | [d] => { results := [.lit (.bool false)], args := [d] }
  | _ => none }
def FnExactFreeTiesWrongFalsely : Prop := fnExactFreeTiesRow.holds Try.pinned (OpenSpec.ofChange fnExactFreeTiesWrong)

/-- 'laws.FnBases': WHATEVER THE INPUT: true; the input reads as it did. -/
def fnBasesSpec : ChangeSpec := { name := "fnBases", fn := fun _ => fun
  | [d] => { results := [.lit (.bool true)], args := [d] }
  | _ => none }
def fnBasesRow : OpenClaim := { program := "ytodfnelilhjoeaa", sum := "04755a875d413583ecd93d9b2d8660c0fd3467a906b7d790da4fd0a96666d87b", func := "loop.example/g00827/laws.FnBases", spec := "fnBases", unfollowed := true, recurses := true, apart := false }
def FnBasesSaid : Prop := fnBasesRow.holds Try.pinned (OpenSpec.ofChange fnBasesSpec)

/-- ITS FALSE NEIGHBOUR: 'it returns false'. Refute it at one input. -/
def fnBasesWrong : ChangeSpec := { name := "fnBases", fn := fun _ => fun
  | [d] => { results := [.lit (.bool false)], args := [d] }
  | _ => none }
def FnBasesWrongFalsely : Prop := fnBasesRow.holds Try.pinned (OpenSpec.ofChange fnBasesWrong)

/-- 'laws.FnExactNodeState': WHATEVER THE INPUT: true; the input reads as it did. -/
def fnExactNodeStateSpec : ChangeSpec := { name := "fnExactNodeState", fn := fun _ => fun
  | [d1, d2, d3] => { results := [.lit (.bool true)], args := [d1, d2, d3] }
  | _ => none }
def fnExactNodeStateRow : OpenClaim := { program := "ytodfnelilhjoeaa", sum := "04755a875d413583ecd93d9b2d8660c0fd3467a906b7d790da4fd0a96666d87b", func := "loop.example/g00827/laws.FnExactNodeState", spec := "fnExactNodeState", unfollowed := true, recurses := true, apart := false }
def FnExactNodeStateSaid : Prop := fnExactNodeStateRow.holds Try.pinned (OpenSpec.ofChange fnExactNodeStateSpec)

/-- ITS FALSE NEIGHBOUR: 'it returns false'. Refute it at one input. -/
def fnExactNodeStateWrong : ChangeSpec := { name := "fnExactNodeState", fn := fun _ => fun
  | [d1, d2, d3] => { results := [.lit (.bool false)], args := [d1, d2, d3] }
  | _ => none }
def FnExactNodeStateWrongFalsely : Prop := fnExactNodeStateRow.holds Try.pinned (OpenSpec.ofChange fnExactNodeStateWrong)

/-- 'laws.FnExactHappensIn': WHATEVER THE INPUT: true; the input reads as it did. -/
def fnExactHappensInSpec : ChangeSpec := { name := "fnExactHappensIn", fn := fun _ => fun
  | [d1, d2, d3] => { results := [.lit (.bool true)], args := [d1, d2, d3] }
  | _ => none }
def fnExactHappensInRow : OpenClaim := { program := "ytodfnelilhjoeaa", sum := "04755a875d413583ecd93d9b2d8660c0fd3467a906b7d790da4fd0a96666d87b", func := "loop.example/g00827/laws.FnExactHappensIn", spec := "fnExactHappensIn", unfollowed := true, recurses := true, apart := false }
def FnExactHappensInSaid : Prop := fnExactHappensInRow.holds Try.pinned (OpenSpec.ofChange fnExactHappensInSpec)

/-- ITS FALSE NEIGHBOUR: 'it returns false'. Refute it at one input. -/
def fnExactHappensInWrong : ChangeSpec := { name := "fnExactHappensIn", fn := fun _ => fun
  | [d1, d2, d3] => { results := [.lit (.bool false)], args := [d1, d2, d3] }
  | _ => none }
def FnExactHappensInWrongFalsely : Prop := fnExactHappensInRow.holds Try.pinned (OpenSpec.ofChange fnExactHappensInWrong)

/-- 'laws.FnExactStartState': WHATEVER THE INPUT: true; the input reads as it did. -/
def fnExactStartStateSpec : ChangeSpec := { name := "fnExactStartState", fn := fun _ => fun
  | [d] => { results := [.lit (.bool true)], args := [d] }
  | _ => none }
def fnExactStartStateRow : OpenClaim := { program := "ytodfnelilhjoeaa", sum := "04755a875d413583ecd93d9b2d8660c0fd3467a906b7d790da4fd0a96666d87b", func := "loop.example/g00827/laws.FnExactStartState", spec := "fnExactStartState", unfollowed := true, recurses := true, apart := false }
def FnExactStartStateSaid : Prop := fnExactStartStateRow.holds Try.pinned (OpenSpec.ofChange fnExactStartStateSpec)

/-- ITS FALSE NEIGHBOUR: 'it returns false'. Refute it at one input. -/
def fnExactStartStateWrong : ChangeSpec := { name := "fnExactStartState", fn := fun _ => fun
  | [d] => { results := [.lit (.bool false)], args := [d] }
  | _ => none }
def FnExactStartStateWrongFalsely : Prop := fnExactStartStateRow.holds Try.pinned (OpenSpec.ofChange fnExactStartStateWrong)

/-- 'laws.FnExactIsBroken': WHATEVER THE INPUT: true; the input reads as it did. -/
def fnExactIsBrokenSpec : ChangeSpec := { name := "fnExactIsBroken", fn := fun _ => fun
  | [d1, d2] => { results := [.lit (.bool true)], args := [d1, d2] }
  | _ => none }
def fnExactIsBrokenRow : OpenClaim := { program := "ytodfnelilhjoeaa", sum := "04755a875d413583ecd93d9b2d8660c0fd3467a906b7d790da4fd0a96666d87b", func := "loop.example/g00827/laws.FnExactIsBroken", spec := "fnExactIsBroken", unfollowed := true, recurses := true, apart := false }
def FnExactIsBrokenSaid : Prop := fnExactIsBrokenRow.holds Try.pinned (OpenSpec.ofChange fnExactIsBrokenSpec)

/-- ITS FALSE NEIGHBOUR: 'it returns false'. Refute it at one input. -/
def fnExactIsBrokenWrong : ChangeSpec := { name := "fnExactIsBroken", fn := fun _ => fun
  | [d1, d2] => { results := [.lit (.bool false)], args := [d1, d2] }
  | _ => none }
def FnExactIsBrokenWrongFalsely : Prop := fnExactIsBrokenRow.holds Try.pinned (OpenSpec.ofChange fnExactIsBrokenWrong)

/-- 'laws.FnExactActiveTies': WHATEVER THE INPUT: true; the input reads as it did. -/
def fnExactActiveTiesSpec : ChangeSpec := { name := "fnExactActiveTies", fn := fun _ => fun
  | [d1, d2] => { results := [.lit (.bool true)], args := [d1, d2] }
  | _ => none }
def fnExactActiveTiesRow : OpenClaim := { program := "ytodfnelilhjoeaa", sum := "04755a875d413583ecd93d9b2d8660c0fd3467a906b7d790da4fd0a96666d87b", func := "loop.example/g00827/laws.FnExactActiveTies", spec := "fnExactActiveTies", unfollowed := true, recurses := true, apart := false }
def FnExactActiveTiesSaid : Prop := fnExactActiveTiesRow.holds Try.pinned (OpenSpec.ofChange fnExactActiveTiesSpec)

/-- ITS FALSE NEIGHBOUR: 'it returns false'. Refute it at one input. -/
def fnExactActiveTiesWrong : ChangeSpec := { name := "fnExactActiveTies", fn := fun _ => fun
  | [d1, d2] => { results := [.lit (.bool false)], args := [d1, d2] }
  | _ => none }
def FnExactActiveTiesWrongFalsely : Prop := fnExactActiveTiesRow.holds Try.pinned (OpenSpec.ofChange fnExactActiveTiesWrong)

/-- 'laws.FnExactChoiceAt': WHATEVER THE INPUT: true; the input reads as it did. -/
def fnExactChoiceAtSpec : ChangeSpec := { name := "fnExactChoiceAt", fn := fun _ => fun
  | [d1, d2] => { results := [.lit (.bool true)], args := [d1, d2] }
  | _ => none }
def fnExactChoiceAtRow : OpenClaim := { program := "ytodfnelilhjoeaa", sum := "04755a875d413583ecd93d9b2d8660c0fd3467a906b7d790da4fd0a96666d87b", func := "loop.example/g00827/laws.FnExactChoiceAt", spec := "fnExactChoiceAt", unfollowed := true, recurses := true, apart := false }
def FnExactChoiceAtSaid : Prop := fnExactChoiceAtRow.holds Try.pinned (OpenSpec.ofChange fnExactChoiceAtSpec)

/-- ITS FALSE NEIGHBOUR: 'it returns false'. Refute it at one input. -/
def fnExactChoiceAtWrong : ChangeSpec := { name := "fnExactChoiceAt", fn := fun _ => fun
  | [d1, d2] => { results := [.lit (.bool false)], args := [d1, d2] }
  | _ => none }
def FnExactChoiceAtWrongFalsely : Prop := fnExactChoiceAtRow.holds Try.pinned (OpenSpec.ofChange fnExactChoiceAtWrong)

/-- 'laws.FnExactTimesFor': WHATEVER THE INPUT: true; the input reads as it did. -/
def fnExactTimesForSpec : ChangeSpec := { name := "fnExactTimesFor", fn := fun _ => fun
  | [d1, d2, d3] => { results := [.lit (.bool true)], args := [d1, d2, d3] }
  | _ => none }
def fnExactTimesForRow : OpenClaim := { program := "ytodfnelilhjoeaa", sum := "04755a875d413583ecd93d9b2d8660c0fd3467a906b7d790da4fd0a96666d87b", func := "loop.example/g00827/laws.FnExactTimesFor", spec := "fnExactTimesFor", unfollowed := true, recurses := true, apart := false }
def FnExactTimesForSaid : Prop := fnExactTimesForRow.holds Try.pinned (OpenSpec.ofChange fnExactTimesForSpec)

/-- ITS FALSE NEIGHBOUR: 'it returns false'. Refute it at one input. -/
def fnExactTimesForWrong : ChangeSpec := { name := "fnExactTimesFor", fn := fun _ => fun
  | [d1, d2, d3] => { results := [.lit (.bool false)], args := [d1, d2, d3] }
  | _ => none }
def FnExactTimesForWrongFalsely : Prop := fnExactTimesForRow.holds Try.pinned (OpenSpec.ofChange fnExactTimesForWrong)

/-- 'laws.FnExactStrongNetwork': WHATEVER THE INPUT: true; the input reads as it did. -/
def fnExactStrongNetworkSpec : ChangeSpec := { name := "fnExactStrongNetwork", fn := fun _ => fun
  | [d] => { results := [.lit (.bool true)], args := [d] }
  | _ => none }
def fnExactStrongNetworkRow : OpenClaim := { program := "ytodfnelilhjoeaa", sum := "04755a875d413583ecd93d9b2d8660c0fd3467a906b7d790da4fd0a96666d87b", func := "loop.example/g00827/laws.FnExactStrongNetwork", spec := "fnExactStrongNetwork", unfollowed := true, recurses := true, apart := false }
def FnExactStrongNetworkSaid : Prop := fnExactStrongNetworkRow.holds Try.pinned (OpenSpec.ofChange fnExactStrongNetworkSpec)

/-- ITS FALSE NEIGHBOUR: 'it returns false'. Refute it at one input. -/
def fnExactStrongNetworkWrong : ChangeSpec := { name := "fnExactStrongNetwork", fn := fun _ => fun
  | [d] => { results := [.lit (.bool false)], args := [d] }
  | _ => none }
def FnExactStrongNetworkWrongFalsely : Prop := fnExactStrongNetworkRow.holds Try.pinned (OpenSpec.ofChange fnExactStrongNetworkWrong)

/- THE SECOND FORM. 'bulk': how many values and letters a reading holds, each counted each time it is reached (what is shared counts as often as it is met; a slice's spare places count too). A statement '..UptoSaid' is the law's where the arguments, and the package variables that the reading takes, are together of bulk at most 1048576: NARROWER than '..Said'. Prove '..Said' where nothing that the law and all that it calls make is longer than what came in: it says more and counts as full. Else prove '..UptoSaid'. A law counts once. -/
mutual
def uptoBulk {H : Type} : DataW H → Nat
  | .lit (.string bytes) => bytes.length + 1
  | .lit _ => 1
  | .nil => 1
  | .ptr d => uptoBulk d + 1
  | .slice elems spare => uptoBulkAll elems + uptoBulkAll spare + 1
  | .agg parts => uptoBulkAll parts + 1
  | .iface _ d => uptoBulk d + 1
  | .map entries => uptoBulkEntries entries + 1
  | .held _ => 1
def uptoBulkAll {H : Type} : List (DataW H) → Nat
  | [] => 0
  | d :: r => uptoBulk d + uptoBulkAll r
def uptoBulkEntries {H : Type} : List (Lit × DataW H) → Nat
  | [] => 0
  | x :: r => uptoBulkEntry x + uptoBulkEntries r
def uptoBulkEntry {H : Type} : Lit × DataW H → Nat
  | (.string bytes, d) => bytes.length + uptoBulk d + 1
  | (_, d) => uptoBulk d + 1
 end
def uptoSmall : (H : Type) → List (DataW H) → Bool := fun _ ds => decide (uptoBulkAll ds ≤ 1048576)
def OpenSpec.upto (s : _root_.Go.ChangeSpec) : _root_.Go.OpenSpec := { _root_.Go.OpenSpec.ofChange s with cond := some uptoSmall }

/-- 'laws.FnExactChoiceOk', WHERE WHAT IT READS IS OF BULK AT MOST 1048576: true; the input reads as it did. -/
def fnExactChoiceOkUptoRow : OpenClaim := { program := "ytodfnelilhjoeaa", sum := "04755a875d413583ecd93d9b2d8660c0fd3467a906b7d790da4fd0a96666d87b", func := "loop.example/g00827/laws.FnExactChoiceOk", spec := "fnExactChoiceOk", unfollowed := true, recurses := true, apart := false, narrowed := true }
def FnExactChoiceOkUptoSaid : Prop := fnExactChoiceOkUptoRow.holds Try.pinned (OpenSpec.upto fnExactChoiceOkSpec)

/-- 'laws.FnExactChosenNodes', WHERE WHAT IT READS IS OF BULK AT MOST 1048576: true; the input reads as it did. -/
def fnExactChosenNodesUptoRow : OpenClaim := { program := "ytodfnelilhjoeaa", sum := "04755a875d413583ecd93d9b2d8660c0fd3467a906b7d790da4fd0a96666d87b", func := "loop.example/g00827/laws.FnExactChosenNodes", spec := "fnExactChosenNodes", unfollowed := true, recurses := true, apart := false, narrowed := true }
def FnExactChosenNodesUptoSaid : Prop := fnExactChosenNodesUptoRow.holds Try.pinned (OpenSpec.upto fnExactChosenNodesSpec)

/-- 'laws.FnExactFreeTies', WHERE WHAT IT READS IS OF BULK AT MOST 1048576: true; the input reads as it did. -/
def fnExactFreeTiesUptoRow : OpenClaim := { program := "ytodfnelilhjoeaa", sum := "04755a875d413583ecd93d9b2d8660c0fd3467a906b7d790da4fd0a96666d87b", func := "loop.example/g00827/laws.FnExactFreeTies", spec := "fnExactFreeTies", unfollowed := true, recurses := true, apart := false, narrowed := true }
def FnExactFreeTiesUptoSaid : Prop := fnExactFreeTiesUptoRow.holds Try.pinned (OpenSpec.upto fnExactFreeTiesSpec)

/-- 'laws.FnBases', WHERE WHAT IT READS IS OF BULK AT MOST 1048576: true; the input reads as it did. -/
def fnBasesUptoRow : OpenClaim := { program := "ytodfnelilhjoeaa", sum := "04755a875d413583ecd93d9b2d8660c0fd3467a906b7d790da4fd0a96666d87b", func := "loop.example/g00827/laws.FnBases", spec := "fnBases", unfollowed := true, recurses := true, apart := false, narrowed := true }
def FnBasesUptoSaid : Prop := fnBasesUptoRow.holds Try.pinned (OpenSpec.upto fnBasesSpec)

/-- 'laws.FnExactNodeState', WHERE WHAT IT READS IS OF BULK AT MOST 1048576: true; the input reads as it did. -/
def fnExactNodeStateUptoRow : OpenClaim := { program := "ytodfnelilhjoeaa", sum := "04755a875d413583ecd93d9b2d8660c0fd3467a906b7d790da4fd0a96666d87b", func := "loop.example/g00827/laws.FnExactNodeState", spec := "fnExactNodeState", unfollowed := true, recurses := true, apart := false, narrowed := true }
def FnExactNodeStateUptoSaid : Prop := fnExactNodeStateUptoRow.holds Try.pinned (OpenSpec.upto fnExactNodeStateSpec)

/-- 'laws.FnExactHappensIn', WHERE WHAT IT READS IS OF BULK AT MOST 1048576: true; the input reads as it did. -/
def fnExactHappensInUptoRow : OpenClaim := { program := "ytodfnelilhjoeaa", sum := "04755a875d413583ecd93d9b2d8660c0fd3467a906b7d790da4fd0a96666d87b", func := "loop.example/g00827/laws.FnExactHappensIn", spec := "fnExactHappensIn", unfollowed := true, recurses := true, apart := false, narrowed := true }
def FnExactHappensInUptoSaid : Prop := fnExactHappensInUptoRow.holds Try.pinned (OpenSpec.upto fnExactHappensInSpec)

/-- 'laws.FnExactStartState', WHERE WHAT IT READS IS OF BULK AT MOST 1048576: true; the input reads as it did. -/
def fnExactStartStateUptoRow : OpenClaim := { program := "ytodfnelilhjoeaa", sum := "04755a875d413583ecd93d9b2d8660c0fd3467a906b7d790da4fd0a96666d87b", func := "loop.example/g00827/laws.FnExactStartState", spec := "fnExactStartState", unfollowed := true, recurses := true, apart := false, narrowed := true }
def FnExactStartStateUptoSaid : Prop := fnExactStartStateUptoRow.holds Try.pinned (OpenSpec.upto fnExactStartStateSpec)

/-- 'laws.FnExactIsBroken', WHERE WHAT IT READS IS OF BULK AT MOST 1048576: true; the input reads as it did. -/
def fnExactIsBrokenUptoRow : OpenClaim := { program := "ytodfnelilhjoeaa", sum := "04755a875d413583ecd93d9b2d8660c0fd3467a906b7d790da4fd0a96666d87b", func := "loop.example/g00827/laws.FnExactIsBroken", spec := "fnExactIsBroken", unfollowed := true, recurses := true, apart := false, narrowed := true }
def FnExactIsBrokenUptoSaid : Prop := fnExactIsBrokenUptoRow.holds Try.pinned (OpenSpec.upto fnExactIsBrokenSpec)

/-- 'laws.FnExactActiveTies', WHERE WHAT IT READS IS OF BULK AT MOST 1048576: true; the input reads as it did. -/
def fnExactActiveTiesUptoRow : OpenClaim := { program := "ytodfnelilhjoeaa", sum := "04755a875d413583ecd93d9b2d8660c0fd3467a906b7d790da4fd0a96666d87b", func := "loop.example/g00827/laws.FnExactActiveTies", spec := "fnExactActiveTies", unfollowed := true, recurses := true, apart := false, narrowed := true }
def FnExactActiveTiesUptoSaid : Prop := fnExactActiveTiesUptoRow.holds Try.pinned (OpenSpec.upto fnExactActiveTiesSpec)

/-- 'laws.FnExactChoiceAt', WHERE WHAT IT READS IS OF BULK AT MOST 1048576: true; the input reads as it did. -/
def fnExactChoiceAtUptoRow : OpenClaim := { program := "ytodfnelilhjoeaa", sum := "04755a875d413583ecd93d9b2d8660c0fd3467a906b7d790da4fd0a96666d87b", func := "loop.example/g00827/laws.FnExactChoiceAt", spec := "fnExactChoiceAt", unfollowed := true, recurses := true, apart := false, narrowed := true }
def FnExactChoiceAtUptoSaid : Prop := fnExactChoiceAtUptoRow.holds Try.pinned (OpenSpec.upto fnExactChoiceAtSpec)

/-- 'laws.FnExactTimesFor', WHERE WHAT IT READS IS OF BULK AT MOST 1048576: true; the input reads as it did. -/
def fnExactTimesForUptoRow : OpenClaim := { program := "ytodfnelilhjoeaa", sum := "04755a875d413583ecd93d9b2d8660c0fd3467a906b7d790da4fd0a96666d87b", func := "loop.example/g00827/laws.FnExactTimesFor", spec := "fnExactTimesFor", unfollowed := true, recurses := true, apart := false, narrowed := true }
def FnExactTimesForUptoSaid : Prop := fnExactTimesForUptoRow.holds Try.pinned (OpenSpec.upto fnExactTimesForSpec)

/-- 'laws.FnExactStrongNetwork', WHERE WHAT IT READS IS OF BULK AT MOST 1048576: true; the input reads as it did. -/
def fnExactStrongNetworkUptoRow : OpenClaim := { program := "ytodfnelilhjoeaa", sum := "04755a875d413583ecd93d9b2d8660c0fd3467a906b7d790da4fd0a96666d87b", func := "loop.example/g00827/laws.FnExactStrongNetwork", spec := "fnExactStrongNetwork", unfollowed := true, recurses := true, apart := false, narrowed := true }
def FnExactStrongNetworkUptoSaid : Prop := fnExactStrongNetworkUptoRow.holds Try.pinned (OpenSpec.upto fnExactStrongNetworkSpec)

end Rows
end Go.Proofs.Ytodfnelilhjoeaa
