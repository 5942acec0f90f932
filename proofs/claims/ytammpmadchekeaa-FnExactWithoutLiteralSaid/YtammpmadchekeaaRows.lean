/-
  No cell of these rows narrows 'for every input' (looked for: loops, veiled, ifaces, maps, wideKeys, modest, calm, conditions, laid).
  DERIVED. THE GIVEN ROWS OF THIS SEAT. 11 by the template 'for every input the law returns true; each argument reads behind the call as it read before'; 0 by the template 'total and deterministic' (their statements: YtammpmadchekeaaTotals.lean).
  GIVEN WITH THE SEED: the statements are not yours to turn. If you find one false, say at which input.
  Laid BY PROGRAM, IN A SANDBOX (cutbox-rows.mjs): the forced cells as the released guide's own fill.sh prints them over the translation 3fc45fcdb2e6c24c… (all of the seat's roots in one cut). By AI agents, Wed Nov 11 2026. No macro, syntax, notation, axiom, sorry.
-/
import Derived.Test.YtammpmadchekeaaChecked
import GoSem.Claim
import GoSem.ClaimJoined
import GoSem.ClaimMapViews
import Derived.JoinedTies
import Derived.KernelRfl
namespace Go.Proofs.Ytammpmadchekeaa
/- THE CELL 'sum', in the pinned program and in every row, IS THE sha256 OF THE DUMP (.gsa) THAT YtammpmadchekeaaProg.lean LOADS. Nothing in Lean hashes anything: it is a label: what it is worth is what the hold of that sum in a sandbox is worth. -/
noncomputable def Try.pinned : Pinned := { name := "ytammpmadchekeaa", sum := "3fc45fcdb2e6c24cb2204301b0fd77fe06961df4d40383759581aec4600b34a4", checked := Try.checked }
namespace Rows
def none {H : Type} : Left H := { results := [], args := [] }

/-- 'laws.FnExactCountValues': WHATEVER THE INPUT: true; the input reads as it did. -/
def fnExactCountValuesSpec : ChangeSpec := { name := "fnExactCountValues", fn := fun _ => fun
  | [d] => { results := [.lit (.bool true)], args := [d] }
  | _ => none }
def fnExactCountValuesRow : OpenClaim := { program := "ytammpmadchekeaa", sum := "3fc45fcdb2e6c24cb2204301b0fd77fe06961df4d40383759581aec4600b34a4", func := "loop.example/g00827/laws.FnExactCountValues", spec := "fnExactCountValues", apart := false }
def FnExactCountValuesSaid : Prop := fnExactCountValuesRow.holds Try.pinned (OpenSpec.ofChange fnExactCountValuesSpec)

/-- ITS FALSE NEIGHBOUR: 'it returns false'. Refute it at one input. -/
def fnExactCountValuesWrong : ChangeSpec := { name := "fnExactCountValues", fn := fun _ => fun
  | [d] => { results := [.lit (.bool false)], args := [d] }
  | _ => none }
def FnExactCountValuesWrongFalsely : Prop := fnExactCountValuesRow.holds Try.pinned (OpenSpec.ofChange fnExactCountValuesWrong)

/-- 'laws.FnExactValuesOk': WHATEVER THE INPUT: true; the input reads as it did. -/
def fnExactValuesOkSpec : ChangeSpec := { name := "fnExactValuesOk", fn := fun _ => fun
  | [d] => { results := [.lit (.bool true)], args := [d] }
  | _ => none }
def fnExactValuesOkRow : OpenClaim := { program := "ytammpmadchekeaa", sum := "3fc45fcdb2e6c24cb2204301b0fd77fe06961df4d40383759581aec4600b34a4", func := "loop.example/g00827/laws.FnExactValuesOk", spec := "fnExactValuesOk", unfollowed := true, recurses := true, apart := false }
def FnExactValuesOkSaid : Prop := fnExactValuesOkRow.holds Try.pinned (OpenSpec.ofChange fnExactValuesOkSpec)

/-- ITS FALSE NEIGHBOUR: 'it returns false'. Refute it at one input. -/
def fnExactValuesOkWrong : ChangeSpec := { name := "fnExactValuesOk", fn := fun _ => fun
  | [d] => { results := [.lit (.bool false)], args := [d] }
  | _ => none }
def FnExactValuesOkWrongFalsely : Prop := fnExactValuesOkRow.holds Try.pinned (OpenSpec.ofChange fnExactValuesOkWrong)

/-- 'laws.FnExactLabelOk': WHATEVER THE INPUT: true; the input reads as it did. -/
def fnExactLabelOkSpec : ChangeSpec := { name := "fnExactLabelOk", fn := fun _ => fun
  | [d] => { results := [.lit (.bool true)], args := [d] }
  | _ => none }
def fnExactLabelOkRow : OpenClaim := { program := "ytammpmadchekeaa", sum := "3fc45fcdb2e6c24cb2204301b0fd77fe06961df4d40383759581aec4600b34a4", func := "loop.example/g00827/laws.FnExactLabelOk", spec := "fnExactLabelOk", apart := false }
def FnExactLabelOkSaid : Prop := fnExactLabelOkRow.holds Try.pinned (OpenSpec.ofChange fnExactLabelOkSpec)

/-- ITS FALSE NEIGHBOUR: 'it returns false'. Refute it at one input. -/
def fnExactLabelOkWrong : ChangeSpec := { name := "fnExactLabelOk", fn := fun _ => fun
  | [d] => { results := [.lit (.bool false)], args := [d] }
  | _ => none }
def FnExactLabelOkWrongFalsely : Prop := fnExactLabelOkRow.holds Try.pinned (OpenSpec.ofChange fnExactLabelOkWrong)

/-- 'laws.FnExactWithoutLiteral': WHATEVER THE INPUT: true; the input reads as it did. -/
def fnExactWithoutLiteralSpec : ChangeSpec := { name := "fnExactWithoutLiteral", fn := fun _ => fun
  | [d1, d2] => { results := [.lit (.bool true)], args := [d1, d2] }
  | _ => none }
def fnExactWithoutLiteralRow : OpenClaim := { program := "ytammpmadchekeaa", sum := "3fc45fcdb2e6c24cb2204301b0fd77fe06961df4d40383759581aec4600b34a4", func := "loop.example/g00827/laws.FnExactWithoutLiteral", spec := "fnExactWithoutLiteral", unfollowed := true, recurses := true, apart := false }
def FnExactWithoutLiteralSaid : Prop := fnExactWithoutLiteralRow.holds Try.pinned (OpenSpec.ofChange fnExactWithoutLiteralSpec)

/-- ITS FALSE NEIGHBOUR: 'it returns false'. Refute it at one input. -/
def fnExactWithoutLiteralWrong : ChangeSpec := { name := "fnExactWithoutLiteral", fn := fun _ => fun
  | [d1, d2] => { results := [.lit (.bool false)], args := [d1, d2] }
  | _ => none }
def FnExactWithoutLiteralWrongFalsely : Prop := fnExactWithoutLiteralRow.holds Try.pinned (OpenSpec.ofChange fnExactWithoutLiteralWrong)

/-- 'laws.FnExactSameStates': WHATEVER THE INPUT: true; the input reads as it did. -/
def fnExactSameStatesSpec : ChangeSpec := { name := "fnExactSameStates", fn := fun _ => fun
  | [d1, d2] => { results := [.lit (.bool true)], args := [d1, d2] }
  | _ => none }
def fnExactSameStatesRow : OpenClaim := { program := "ytammpmadchekeaa", sum := "3fc45fcdb2e6c24cb2204301b0fd77fe06961df4d40383759581aec4600b34a4", func := "loop.example/g00827/laws.FnExactSameStates", spec := "fnExactSameStates", apart := false }
def FnExactSameStatesSaid : Prop := fnExactSameStatesRow.holds Try.pinned (OpenSpec.ofChange fnExactSameStatesSpec)

/-- ITS FALSE NEIGHBOUR: 'it returns false'. Refute it at one input. -/
def fnExactSameStatesWrong : ChangeSpec := { name := "fnExactSameStates", fn := fun _ => fun
  | [d1, d2] => { results := [.lit (.bool false)], args := [d1, d2] }
  | _ => none }
def FnExactSameStatesWrongFalsely : Prop := fnExactSameStatesRow.holds Try.pinned (OpenSpec.ofChange fnExactSameStatesWrong)

/-- 'laws.FnExactImpliesLabel': WHATEVER THE INPUT: true; the input reads as it did. -/
def fnExactImpliesLabelSpec : ChangeSpec := { name := "fnExactImpliesLabel", fn := fun _ => fun
  | [d1, d2] => { results := [.lit (.bool true)], args := [d1, d2] }
  | _ => none }
def fnExactImpliesLabelRow : OpenClaim := { program := "ytammpmadchekeaa", sum := "3fc45fcdb2e6c24cb2204301b0fd77fe06961df4d40383759581aec4600b34a4", func := "loop.example/g00827/laws.FnExactImpliesLabel", spec := "fnExactImpliesLabel", unfollowed := true, recurses := true, apart := false }
def FnExactImpliesLabelSaid : Prop := fnExactImpliesLabelRow.holds Try.pinned (OpenSpec.ofChange fnExactImpliesLabelSpec)

/-- ITS FALSE NEIGHBOUR: 'it returns false'. Refute it at one input. -/
def fnExactImpliesLabelWrong : ChangeSpec := { name := "fnExactImpliesLabel", fn := fun _ => fun
  | [d1, d2] => { results := [.lit (.bool false)], args := [d1, d2] }
  | _ => none }
def FnExactImpliesLabelWrongFalsely : Prop := fnExactImpliesLabelRow.holds Try.pinned (OpenSpec.ofChange fnExactImpliesLabelWrong)

/-- 'laws.FnExactLabelState': WHATEVER THE INPUT: true; the input reads as it did. -/
def fnExactLabelStateSpec : ChangeSpec := { name := "fnExactLabelState", fn := fun _ => fun
  | [d1, d2] => { results := [.lit (.bool true)], args := [d1, d2] }
  | _ => none }
def fnExactLabelStateRow : OpenClaim := { program := "ytammpmadchekeaa", sum := "3fc45fcdb2e6c24cb2204301b0fd77fe06961df4d40383759581aec4600b34a4", func := "loop.example/g00827/laws.FnExactLabelState", spec := "fnExactLabelState", unfollowed := true, recurses := true, apart := false }
def FnExactLabelStateSaid : Prop := fnExactLabelStateRow.holds Try.pinned (OpenSpec.ofChange fnExactLabelStateSpec)

/-- ITS FALSE NEIGHBOUR: 'it returns false'. Refute it at one input. -/
def fnExactLabelStateWrong : ChangeSpec := { name := "fnExactLabelState", fn := fun _ => fun
  | [d1, d2] => { results := [.lit (.bool false)], args := [d1, d2] }
  | _ => none }
def FnExactLabelStateWrongFalsely : Prop := fnExactLabelStateRow.holds Try.pinned (OpenSpec.ofChange fnExactLabelStateWrong)

/-- 'laws.FnExactNodeOk': WHATEVER THE INPUT: true; the input reads as it did. -/
def fnExactNodeOkSpec : ChangeSpec := { name := "fnExactNodeOk", fn := fun _ => fun
  | [d] => { results := [.lit (.bool true)], args := [d] }
  | _ => none }
def fnExactNodeOkRow : OpenClaim := { program := "ytammpmadchekeaa", sum := "3fc45fcdb2e6c24cb2204301b0fd77fe06961df4d40383759581aec4600b34a4", func := "loop.example/g00827/laws.FnExactNodeOk", spec := "fnExactNodeOk", apart := false }
def FnExactNodeOkSaid : Prop := fnExactNodeOkRow.holds Try.pinned (OpenSpec.ofChange fnExactNodeOkSpec)

/-- ITS FALSE NEIGHBOUR: 'it returns false'. Refute it at one input. -/
def fnExactNodeOkWrong : ChangeSpec := { name := "fnExactNodeOk", fn := fun _ => fun
  | [d] => { results := [.lit (.bool false)], args := [d] }
  | _ => none }
def FnExactNodeOkWrongFalsely : Prop := fnExactNodeOkRow.holds Try.pinned (OpenSpec.ofChange fnExactNodeOkWrong)

/-- 'laws.FnExactNodeNamed': WHATEVER THE INPUT: true; the input reads as it did. -/
def fnExactNodeNamedSpec : ChangeSpec := { name := "fnExactNodeNamed", fn := fun _ => fun
  | [d1, d2] => { results := [.lit (.bool true)], args := [d1, d2] }
  | _ => none }
def fnExactNodeNamedRow : OpenClaim := { program := "ytammpmadchekeaa", sum := "3fc45fcdb2e6c24cb2204301b0fd77fe06961df4d40383759581aec4600b34a4", func := "loop.example/g00827/laws.FnExactNodeNamed", spec := "fnExactNodeNamed", unfollowed := true, recurses := true, apart := false }
def FnExactNodeNamedSaid : Prop := fnExactNodeNamedRow.holds Try.pinned (OpenSpec.ofChange fnExactNodeNamedSpec)

/-- ITS FALSE NEIGHBOUR: 'it returns false'. Refute it at one input. -/
def fnExactNodeNamedWrong : ChangeSpec := { name := "fnExactNodeNamed", fn := fun _ => fun
  | [d1, d2] => { results := [.lit (.bool false)], args := [d1, d2] }
  | _ => none }
def FnExactNodeNamedWrongFalsely : Prop := fnExactNodeNamedRow.holds Try.pinned (OpenSpec.ofChange fnExactNodeNamedWrong)

/-- 'laws.FnExactSameShows': WHATEVER THE INPUT: true; the input reads as it did. -/
def fnExactSameShowsSpec : ChangeSpec := { name := "fnExactSameShows", fn := fun _ => fun
  | [d1, d2] => { results := [.lit (.bool true)], args := [d1, d2] }
  | _ => none }
def fnExactSameShowsRow : OpenClaim := { program := "ytammpmadchekeaa", sum := "3fc45fcdb2e6c24cb2204301b0fd77fe06961df4d40383759581aec4600b34a4", func := "loop.example/g00827/laws.FnExactSameShows", spec := "fnExactSameShows", unfollowed := true, recurses := true, apart := false }
def FnExactSameShowsSaid : Prop := fnExactSameShowsRow.holds Try.pinned (OpenSpec.ofChange fnExactSameShowsSpec)

/-- ITS FALSE NEIGHBOUR: 'it returns false'. Refute it at one input. -/
def fnExactSameShowsWrong : ChangeSpec := { name := "fnExactSameShows", fn := fun _ => fun
  | [d1, d2] => { results := [.lit (.bool false)], args := [d1, d2] }
  | _ => none }
def FnExactSameShowsWrongFalsely : Prop := fnExactSameShowsRow.holds Try.pinned (OpenSpec.ofChange fnExactSameShowsWrong)

/-- 'laws.FnExactJoinLabels': WHATEVER THE INPUT: true; the input reads as it did. -/
def fnExactJoinLabelsSpec : ChangeSpec := { name := "fnExactJoinLabels", fn := fun _ => fun
  | [d1, d2] => { results := [.lit (.bool true)], args := [d1, d2] }
  | _ => none }
def fnExactJoinLabelsRow : OpenClaim := { program := "ytammpmadchekeaa", sum := "3fc45fcdb2e6c24cb2204301b0fd77fe06961df4d40383759581aec4600b34a4", func := "loop.example/g00827/laws.FnExactJoinLabels", spec := "fnExactJoinLabels", unfollowed := true, recurses := true, apart := false }
def FnExactJoinLabelsSaid : Prop := fnExactJoinLabelsRow.holds Try.pinned (OpenSpec.ofChange fnExactJoinLabelsSpec)

/-- ITS FALSE NEIGHBOUR: 'it returns false'. Refute it at one input. -/
def fnExactJoinLabelsWrong : ChangeSpec := { name := "fnExactJoinLabels", fn := fun _ => fun
  | [d1, d2] => { results := [.lit (.bool false)], args := [d1, d2] }
  | _ => none }
def FnExactJoinLabelsWrongFalsely : Prop := fnExactJoinLabelsRow.holds Try.pinned (OpenSpec.ofChange fnExactJoinLabelsWrong)

/- THE SECOND FORM. 'bulk': how many values and letters a reading holds, each counted each time it is reached (what is shared counts as often as it is met; a slice's spare places count too). A statement '..UptoSaid' is the law's where the arguments, and the package variables that the reading takes, are together of bulk at most 1048576: NARROWER than '..Said'. Prove '..Said' where nothing that the law and all that it calls make is longer than what came in: it says more and counts as full. Else prove '..UptoSaid'. A law counts once. -/
mutual
def uptoBulk {H : Type} : DataW H → Nat
  | .lit (.string bytes) => bytes.length + 1
  | .lit _ => 1
  | .nil => 1
  | .ptr d => uptoBulk d + 1
  | .slice elems spare => uptoBulkAll elems + uptoBulkAll spare + 1
  | .agg parts => uptoBulkAll parts + 1
  | .iface _ d => uptoBulk d + 1
  | .map entries => uptoBulkEntries entries + 1
  | .held _ => 1
def uptoBulkAll {H : Type} : List (DataW H) → Nat
  | [] => 0
  | d :: r => uptoBulk d + uptoBulkAll r
def uptoBulkEntries {H : Type} : List (Lit × DataW H) → Nat
  | [] => 0
  | x :: r => uptoBulkEntry x + uptoBulkEntries r
def uptoBulkEntry {H : Type} : Lit × DataW H → Nat
  | (.string bytes, d) => bytes.length + uptoBulk d + 1
  | (_, d) => uptoBulk d + 1
 end
def uptoSmall : (H : Type) → List (DataW H) → Bool := fun _ ds => decide (uptoBulkAll ds ≤ 1048576)
def OpenSpec.upto (s : _root_.Go.ChangeSpec) : _root_.Go.OpenSpec := { _root_.Go.OpenSpec.ofChange s with cond := some uptoSmall }

/-- 'laws.FnExactCountValues', WHERE WHAT IT READS IS OF BULK AT MOST 1048576: true; the input reads as it did. -/
def fnExactCountValuesUptoRow : OpenClaim := { program := "ytammpmadchekeaa", sum := "3fc45fcdb2e6c24cb2204301b0fd77fe06961df4d40383759581aec4600b34a4", func := "loop.example/g00827/laws.FnExactCountValues", spec := "fnExactCountValues", apart := false, narrowed := true }
def FnExactCountValuesUptoSaid : Prop := fnExactCountValuesUptoRow.holds Try.pinned (OpenSpec.upto fnExactCountValuesSpec)

/-- 'laws.FnExactValuesOk', WHERE WHAT IT READS IS OF BULK AT MOST 1048576: true; the input reads as it did. -/
def fnExactValuesOkUptoRow : OpenClaim := { program := "ytammpmadchekeaa", sum := "3fc45fcdb2e6c24cb2204301b0fd77fe06961df4d40383759581aec4600b34a4", func := "loop.example/g00827/laws.FnExactValuesOk", spec := "fnExactValuesOk", unfollowed := true, recurses := true, apart := false, narrowed := true }
def FnExactValuesOkUptoSaid : Prop := fnExactValuesOkUptoRow.holds Try.pinned (OpenSpec.upto fnExactValuesOkSpec)

/-- 'laws.FnExactLabelOk', WHERE WHAT IT READS IS OF BULK AT MOST 1048576: true; the input reads as it did. -/
def fnExactLabelOkUptoRow : OpenClaim := { program := "ytammpmadchekeaa", sum := "3fc45fcdb2e6c24cb2204301b0fd77fe06961df4d40383759581aec4600b34a4", func := "loop.example/g00827/laws.FnExactLabelOk", spec := "fnExactLabelOk", apart := false, narrowed := true }
def FnExactLabelOkUptoSaid : Prop := fnExactLabelOkUptoRow.holds Try.pinned (OpenSpec.upto fnExactLabelOkSpec)

/-- 'laws.FnExactWithoutLiteral', WHERE WHAT IT READS IS OF BULK AT MOST 1048576: true; the input reads as it did. -/
def fnExactWithoutLiteralUptoRow : OpenClaim := { program := "ytammpmadchekeaa", sum := "3fc45fcdb2e6c24cb2204301b0fd77fe06961df4d40383759581aec4600b34a4", func := "loop.example/g00827/laws.FnExactWithoutLiteral", spec := "fnExactWithoutLiteral", unfollowed := true, recurses := true, apart := false, narrowed := true }
def FnExactWithoutLiteralUptoSaid : Prop := fnExactWithoutLiteralUptoRow.holds Try.pinned (OpenSpec.upto fnExactWithoutLiteralSpec)

/-- 'laws.FnExactSameStates', WHERE WHAT IT READS IS OF BULK AT MOST 1048576: true; the input reads as it did. -/
def fnExactSameStatesUptoRow : OpenClaim := { program := "ytammpmadchekeaa", sum := "3fc45fcdb2e6c24cb2204301b0fd77fe06961df4d40383759581aec4600b34a4", func := "loop.example/g00827/laws.FnExactSameStates", spec := "fnExactSameStates", apart := false, narrowed := true }
def FnExactSameStatesUptoSaid : Prop := fnExactSameStatesUptoRow.holds Try.pinned (OpenSpec.upto fnExactSameStatesSpec)

/-- 'laws.FnExactImpliesLabel', WHERE WHAT IT READS IS OF BULK AT MOST 1048576: true; the input reads as it did. -/
def fnExactImpliesLabelUptoRow : OpenClaim := { program := "ytammpmadchekeaa", sum := "3fc45fcdb2e6c24cb2204301b0fd77fe06961df4d40383759581aec4600b34a4", func := "loop.example/g00827/laws.FnExactImpliesLabel", spec := "fnExactImpliesLabel", unfollowed := true, recurses := true, apart := false, narrowed := true }
def FnExactImpliesLabelUptoSaid : Prop := fnExactImpliesLabelUptoRow.holds Try.pinned (OpenSpec.upto fnExactImpliesLabelSpec)

/-- 'laws.FnExactLabelState', WHERE WHAT IT READS IS OF BULK AT MOST 1048576: true; the input reads as it did. -/
def fnExactLabelStateUptoRow : OpenClaim := { program := "ytammpmadchekeaa", sum := "3fc45fcdb2e6c24cb2204301b0fd77fe06961df4d40383759581aec4600b34a4", func := "loop.example/g00827/laws.FnExactLabelState", spec := "fnExactLabelState", unfollowed := true, recurses := true, apart := false, narrowed := true }
def FnExactLabelStateUptoSaid : Prop := fnExactLabelStateUptoRow.holds Try.pinned (OpenSpec.upto fnExactLabelStateSpec)

/-- 'laws.FnExactNodeOk', WHERE WHAT IT READS IS OF BULK AT MOST 1048576: true; the input reads as it did. -/
def fnExactNodeOkUptoRow : OpenClaim := { program := "ytammpmadchekeaa", sum := "3fc45fcdb2e6c24cb2204301b0fd77fe06961df4d40383759581aec4600b34a4", func := "loop.example/g00827/laws.FnExactNodeOk", spec := "fnExactNodeOk", apart := false, narrowed := true }
def FnExactNodeOkUptoSaid : Prop := fnExactNodeOkUptoRow.holds Try.pinned (OpenSpec.upto fnExactNodeOkSpec)

/-- 'laws.FnExactNodeNamed', WHERE WHAT IT READS IS OF BULK AT MOST 1048576: true; the input reads as it did. -/
def fnExactNodeNamedUptoRow : OpenClaim := { program := "ytammpmadchekeaa", sum := "3fc45fcdb2e6c24cb2204301b0fd77fe06961df4d40383759581aec4600b34a4", func := "loop.example/g00827/laws.FnExactNodeNamed", spec := "fnExactNodeNamed", unfollowed := true, recurses := true, apart := false, narrowed := true }
def FnExactNodeNamedUptoSaid : Prop := fnExactNodeNamedUptoRow.holds Try.pinned (OpenSpec.upto fnExactNodeNamedSpec)

/-- 'laws.FnExactSameShows', WHERE WHAT IT READS IS OF BULK AT MOST 1048576: true; the input reads as it did. -/
def fnExactSameShowsUptoRow : OpenClaim := { program := "ytammpmadchekeaa", sum := "3fc45fcdb2e6c24cb2204301b0fd77fe06961df4d40383759581aec4600b34a4", func := "loop.example/g00827/laws.FnExactSameShows", spec := "fnExactSameShows", unfollowed := true, recurses := true, apart := false, narrowed := true }
def FnExactSameShowsUptoSaid : Prop := fnExactSameShowsUptoRow.holds Try.pinned (OpenSpec.upto fnExactSameShowsSpec)

/-- 'laws.FnExactJoinLabels', WHERE WHAT IT READS IS OF BULK AT MOST 1048576: true; the input reads as it did. -/
def fnExactJoinLabelsUptoRow : OpenClaim := { program := "ytammpmadchekeaa", sum := "3fc45fcdb2e6c24cb2204301b0fd77fe06961df4d40383759581aec4600b34a4", func := "loop.example/g00827/laws.FnExactJoinLabels", spec := "fnExactJoinLabels", unfollowed := true, recurses := true, apart := false, narrowed := true }
def FnExactJoinLabelsUptoSaid : Prop := fnExactJoinLabelsUptoRow.holds Try.pinned (OpenSpec.upto fnExactJoinLabelsSpec)

end Rows
end Go.Proofs.Ytammpmadchekeaa
