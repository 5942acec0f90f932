/-
  No cell of these rows narrows 'for every input' (looked for: loops, veiled, ifaces, maps, wideKeys, modest, calm, conditions, laid).
  DERIVED. THE GIVEN ROWS OF THIS SEAT. 12 by the template 'for every input the law returns true; each argument reads behind the call as it read before'; 0 by the template 'total and deterministic' (their statements: YtpoffpdaadhkgaaTotals.lean).
  GIVEN WITH THE SEED: the statements are not yours to turn. If you find one false, say at which input.
  Laid BY PROGRAM, IN A SANDBOX (cutbox-rows.mjs): the forced cells as the released guide's own fill.sh prints them over the translation d53d7da5f73fb74d… (all of the seat's roots in one cut). By AI agents, Wed Nov 11 2026. No macro, syntax, notation, axiom, sorry.
-/
import Derived.Test.YtpoffpdaadhkgaaChecked
import GoSem.Claim
import GoSem.ClaimJoined
import GoSem.ClaimMapViews
import Derived.JoinedTies
import Derived.KernelRfl
namespace Go.Proofs.Ytpoffpdaadhkgaa
/- THE CELL 'sum', in the pinned program and in every row, IS THE sha256 OF THE DUMP (.gsa) THAT YtpoffpdaadhkgaaProg.lean LOADS. Nothing in Lean hashes anything: it is a label: what it is worth is what the hold of that sum in a sandbox is worth. -/
noncomputable def Try.pinned : Pinned := { name := "ytpoffpdaadhkgaa", sum := "d53d7da5f73fb74d689ac9ff8f6a3a4c9072a7a32bcb08fe362631f08cc4ebf1", checked := Try.checked }
namespace Rows
def none {H : Type} : Left H := { results := [], args := [] }

/-- 'laws.FnWindows': WHATEVER THE INPUT: true; the input reads as it did. -/
def fnWindowsSpec : ChangeSpec := { name := "fnWindows", fn := fun _ => fun
  | [d] => { results := [.lit (.bool true)], args := [d] }
  | _ => none }
def fnWindowsRow : OpenClaim := { program := "ytpoffpdaadhkgaa", sum := "d53d7da5f73fb74d689ac9ff8f6a3a4c9072a7a32bcb08fe362631f08cc4ebf1", func := "loop.example/g00827/laws.FnWindows", spec := "fnWindows", unfollowed := true, recurses := true, apart := false }
def FnWindowsSaid : Prop := fnWindowsRow.holds Try.pinned (OpenSpec.ofChange fnWindowsSpec)

/-- ITS FALSE NEIGHBOUR: 'it returns false'. Refute it at one input. -/
def fnWindowsWrong : ChangeSpec := { name := "fnWindows", fn := fun _ => fun
  | [d] => { results := [.lit (.bool false)], args := [d] }
  | _ => none }
def FnWindowsWrongFalsely : Prop := fnWindowsRow.holds Try.pinned (OpenSpec.ofChange fnWindowsWrong)

/-- 'laws.FnCompleted': WHATEVER THE INPUT: true; the input reads as it did. -/
def fnCompletedSpec : ChangeSpec := { name := "fnCompleted", fn := fun _ => fun
  | [d] => { results := [.lit (.bool true)], args := [d] }
  | _ => none }
def fnCompletedRow : OpenClaim := { program := "ytpoffpdaadhkgaa", sum := "d53d7da5f73fb74d689ac9ff8f6a3a4c9072a7a32bcb08fe362631f08cc4ebf1", func := "loop.example/g00827/laws.FnCompleted", spec := "fnCompleted", unfollowed := true, recurses := true, apart := false }
def FnCompletedSaid : Prop := fnCompletedRow.holds Try.pinned (OpenSpec.ofChange fnCompletedSpec)

/-- ITS FALSE NEIGHBOUR: 'it returns false'. Refute it at one input. -/
def fnCompletedWrong : ChangeSpec := { name := "fnCompleted", fn := fun _ => fun
  | [d] => { results := [.lit (.bool false)], args := [d] }
  | _ => none }
def FnCompletedWrongFalsely : Prop := fnCompletedRow.holds Try.pinned (OpenSpec.ofChange fnCompletedWrong)

/-- 'laws.FnExactCanExtend': WHATEVER THE INPUT: true; the input reads as it did. -/
def fnExactCanExtendSpec : ChangeSpec := { name := "fnExactCanExtend", fn := fun _ => fun
  | [d1, d2] => { results := [.lit (.bool true)], args := [d1, d2] }
  | _ => none }
def fnExactCanExtendRow : OpenClaim := { program := "ytpoffpdaadhkgaa", sum := "d53d7da5f73fb74d689ac9ff8f6a3a4c9072a7a32bcb08fe362631f08cc4ebf1", func := "loop.example/g00827/laws.FnExactCanExtend", spec := "fnExactCanExtend", unfollowed := true, recurses := true, apart := false }
def FnExactCanExtendSaid : Prop := fnExactCanExtendRow.holds Try.pinned (OpenSpec.ofChange fnExactCanExtendSpec)

/-- ITS FALSE NEIGHBOUR: 'it returns false'. Refute it at one input. -/
def fnExactCanExtendWrong : ChangeSpec := { name := "fnExactCanExtend", fn := fun _ => fun
  | [d1, d2] => { results := [.lit (.bool false)], args := [d1, d2] }
  | _ => none }
def FnExactCanExtendWrongFalsely : Prop := fnExactCanExtendRow.holds Try.pinned (OpenSpec.ofChange fnExactCanExtendWrong)

/-- 'laws.FnExactNextTimes': WHATEVER THE INPUT: true; the input reads as it did. -/
def fnExactNextTimesSpec : ChangeSpec := { name := "fnExactNextTimes", fn := fun _ => fun
  | [d1, d2, d3] => { results := [.lit (.bool true)], args := [d1, d2, d3] }
  | _ => none }
def fnExactNextTimesRow : OpenClaim := { program := "ytpoffpdaadhkgaa", sum := "d53d7da5f73fb74d689ac9ff8f6a3a4c9072a7a32bcb08fe362631f08cc4ebf1", func := "loop.example/g00827/laws.FnExactNextTimes", spec := "fnExactNextTimes", unfollowed := true, recurses := true, apart := false }
def FnExactNextTimesSaid : Prop := fnExactNextTimesRow.holds Try.pinned (OpenSpec.ofChange fnExactNextTimesSpec)

/-- ITS FALSE NEIGHBOUR: 'it returns false'. Refute it at one input. -/
def fnExactNextTimesWrong : ChangeSpec := { name := "fnExactNextTimes", fn := fun _ => fun
  | [d1, d2, d3] => { results := [.lit (.bool false)], args := [d1, d2, d3] }
  | _ => none }
def FnExactNextTimesWrongFalsely : Prop := fnExactNextTimesRow.holds Try.pinned (OpenSpec.ofChange fnExactNextTimesWrong)

/-- 'laws.FnExactCompleteTimes': WHATEVER THE INPUT: true; the input reads as it did. -/
def fnExactCompleteTimesSpec : ChangeSpec := { name := "fnExactCompleteTimes", fn := fun _ => fun
  | [d1, d2] => { results := [.lit (.bool true)], args := [d1, d2] }
  | _ => none }
def fnExactCompleteTimesRow : OpenClaim := { program := "ytpoffpdaadhkgaa", sum := "d53d7da5f73fb74d689ac9ff8f6a3a4c9072a7a32bcb08fe362631f08cc4ebf1", func := "loop.example/g00827/laws.FnExactCompleteTimes", spec := "fnExactCompleteTimes", unfollowed := true, recurses := true, apart := false }
def FnExactCompleteTimesSaid : Prop := fnExactCompleteTimesRow.holds Try.pinned (OpenSpec.ofChange fnExactCompleteTimesSpec)

/-- ITS FALSE NEIGHBOUR: 'it returns false'. Refute it at one input. -/
def fnExactCompleteTimesWrong : ChangeSpec := { name := "fnExactCompleteTimes", fn := fun _ => fun
  | [d1, d2] => { results := [.lit (.bool false)], args := [d1, d2] }
  | _ => none }
def FnExactCompleteTimesWrongFalsely : Prop := fnExactCompleteTimesRow.holds Try.pinned (OpenSpec.ofChange fnExactCompleteTimesWrong)

/-- 'laws.FnExactShowOk': WHATEVER THE INPUT: true; the input reads as it did. -/
def fnExactShowOkSpec : ChangeSpec := { name := "fnExactShowOk", fn := fun _ => fun
  | [d] => { results := [.lit (.bool true)], args := [d] }
  | _ => none }
def fnExactShowOkRow : OpenClaim := { program := "ytpoffpdaadhkgaa", sum := "d53d7da5f73fb74d689ac9ff8f6a3a4c9072a7a32bcb08fe362631f08cc4ebf1", func := "loop.example/g00827/laws.FnExactShowOk", spec := "fnExactShowOk", unfollowed := true, recurses := true, apart := false }
def FnExactShowOkSaid : Prop := fnExactShowOkRow.holds Try.pinned (OpenSpec.ofChange fnExactShowOkSpec)

/-- ITS FALSE NEIGHBOUR: 'it returns false'. Refute it at one input. -/
def fnExactShowOkWrong : ChangeSpec := { name := "fnExactShowOk", fn := fun _ => fun
  | [d] => { results := [.lit (.bool false)], args := [d] }
  | _ => none }
def FnExactShowOkWrongFalsely : Prop := fnExactShowOkRow.holds Try.pinned (OpenSpec.ofChange fnExactShowOkWrong)

/-- 'laws.FnExactWatcherOf': WHATEVER THE INPUT: true; the input reads as it did. -/
def fnExactWatcherOfSpec : ChangeSpec := { name := "fnExactWatcherOf", fn := fun _ => fun
  | [d1, d2] => { results := [.lit (.bool true)], args := [d1, d2] }
  | _ => none }
def fnExactWatcherOfRow : OpenClaim := { program := "ytpoffpdaadhkgaa", sum := "d53d7da5f73fb74d689ac9ff8f6a3a4c9072a7a32bcb08fe362631f08cc4ebf1", func := "loop.example/g00827/laws.FnExactWatcherOf", spec := "fnExactWatcherOf", unfollowed := true, recurses := true, apart := false }
def FnExactWatcherOfSaid : Prop := fnExactWatcherOfRow.holds Try.pinned (OpenSpec.ofChange fnExactWatcherOfSpec)

/-- ITS FALSE NEIGHBOUR: 'it returns false'. Refute it at one input. -/
def fnExactWatcherOfWrong : ChangeSpec := { name := "fnExactWatcherOf", fn := fun _ => fun
  | [d1, d2] => { results := [.lit (.bool false)], args := [d1, d2] }
  | _ => none }
def FnExactWatcherOfWrongFalsely : Prop := fnExactWatcherOfRow.holds Try.pinned (OpenSpec.ofChange fnExactWatcherOfWrong)

/-- 'laws.FnExactFreeTie': WHATEVER THE INPUT: true; the input reads as it did. -/
def fnExactFreeTieSpec : ChangeSpec := { name := "fnExactFreeTie", fn := fun _ => fun
  | [d1, d2] => { results := [.lit (.bool true)], args := [d1, d2] }
  | _ => none }
def fnExactFreeTieRow : OpenClaim := { program := "ytpoffpdaadhkgaa", sum := "d53d7da5f73fb74d689ac9ff8f6a3a4c9072a7a32bcb08fe362631f08cc4ebf1", func := "loop.example/g00827/laws.FnExactFreeTie", spec := "fnExactFreeTie", unfollowed := true, recurses := true, apart := false }
def FnExactFreeTieSaid : Prop := fnExactFreeTieRow.holds Try.pinned (OpenSpec.ofChange fnExactFreeTieSpec)

/-- ITS FALSE NEIGHBOUR: 'it returns false'. Refute it at one input. -/
def fnExactFreeTieWrong : ChangeSpec := { name := "fnExactFreeTie", fn := fun _ => fun
  | [d1, d2] => { results := [.lit (.bool false)], args := [d1, d2] }
  | _ => none }
def FnExactFreeTieWrongFalsely : Prop := fnExactFreeTieRow.holds Try.pinned (OpenSpec.ofChange fnExactFreeTieWrong)

/-- 'laws.FnExactIsFree': WHATEVER THE INPUT: true; the input reads as it did. -/
def fnExactIsFreeSpec : ChangeSpec := { name := "fnExactIsFree", fn := fun _ => fun
  | [d1, d2] => { results := [.lit (.bool true)], args := [d1, d2] }
  | _ => none }
def fnExactIsFreeRow : OpenClaim := { program := "ytpoffpdaadhkgaa", sum := "d53d7da5f73fb74d689ac9ff8f6a3a4c9072a7a32bcb08fe362631f08cc4ebf1", func := "loop.example/g00827/laws.FnExactIsFree", spec := "fnExactIsFree", unfollowed := true, recurses := true, apart := false }
def FnExactIsFreeSaid : Prop := fnExactIsFreeRow.holds Try.pinned (OpenSpec.ofChange fnExactIsFreeSpec)

/-- ITS FALSE NEIGHBOUR: 'it returns false'. Refute it at one input. -/
def fnExactIsFreeWrong : ChangeSpec := { name := "fnExactIsFree", fn := fun _ => fun
  | [d1, d2] => { results := [.lit (.bool false)], args := [d1, d2] }
  | _ => none }
def FnExactIsFreeWrongFalsely : Prop := fnExactIsFreeRow.holds Try.pinned (OpenSpec.ofChange fnExactIsFreeWrong)

/-- 'laws.FnExactCountChoices': WHATEVER THE INPUT: true; the input reads as it did. -/
def fnExactCountChoicesSpec : ChangeSpec := { name := "fnExactCountChoices", fn := fun _ => fun
  | [d] => { results := [.lit (.bool true)], args := [d] }
  | _ => none }
def fnExactCountChoicesRow : OpenClaim := { program := "ytpoffpdaadhkgaa", sum := "d53d7da5f73fb74d689ac9ff8f6a3a4c9072a7a32bcb08fe362631f08cc4ebf1", func := "loop.example/g00827/laws.FnExactCountChoices", spec := "fnExactCountChoices", unfollowed := true, recurses := true, apart := false }
def FnExactCountChoicesSaid : Prop := fnExactCountChoicesRow.holds Try.pinned (OpenSpec.ofChange fnExactCountChoicesSpec)

/-- ITS FALSE NEIGHBOUR: 'it returns false'. Refute it at one input. -/
def fnExactCountChoicesWrong : ChangeSpec := { name := "fnExactCountChoices", fn := fun _ => fun
  | [d] => { results := [.lit (.bool false)], args := [d] }
  | _ => none }
def FnExactCountChoicesWrongFalsely : Prop := fnExactCountChoicesRow.holds Try.pinned (OpenSpec.ofChange fnExactCountChoicesWrong)

/-- 'laws.FnExactBaseOf': WHATEVER THE INPUT: true; the input reads as it did. -/
def fnExactBaseOfSpec : ChangeSpec := { name := "fnExactBaseOf", fn := fun _ => fun
  | [d1, d2] => { results := [.lit (.bool true)], args := [d1, d2] }
  | _ => none }
def fnExactBaseOfRow : OpenClaim := { program := "ytpoffpdaadhkgaa", sum := "d53d7da5f73fb74d689ac9ff8f6a3a4c9072a7a32bcb08fe362631f08cc4ebf1", func := "loop.example/g00827/laws.FnExactBaseOf", spec := "fnExactBaseOf", unfollowed := true, recurses := true, apart := false }
def FnExactBaseOfSaid : Prop := fnExactBaseOfRow.holds Try.pinned (OpenSpec.ofChange fnExactBaseOfSpec)

/-- ITS FALSE NEIGHBOUR: 'it returns false'. Refute it at one input. -/
def fnExactBaseOfWrong : ChangeSpec := { name := "fnExactBaseOf", fn := fun _ => fun
  | [d1, d2] => { results := [.lit (.bool false)], args := [d1, d2] }
  | _ => none }
def FnExactBaseOfWrongFalsely : Prop := fnExactBaseOfRow.holds Try.pinned (OpenSpec.ofChange fnExactBaseOfWrong)

/-- 'laws.FnExactStateOk': WHATEVER THE INPUT: true; the input reads as it did. -/
def fnExactStateOkSpec : ChangeSpec := { name := "fnExactStateOk", fn := fun _ => fun
  | [d1, d2] => { results := [.lit (.bool true)], args := [d1, d2] }
  | _ => none }
def fnExactStateOkRow : OpenClaim := { program := "ytpoffpdaadhkgaa", sum := "d53d7da5f73fb74d689ac9ff8f6a3a4c9072a7a32bcb08fe362631f08cc4ebf1", func := "loop.example/g00827/laws.FnExactStateOk", spec := "fnExactStateOk", unfollowed := true, recurses := true, apart := false }
def FnExactStateOkSaid : Prop := fnExactStateOkRow.holds Try.pinned (OpenSpec.ofChange fnExactStateOkSpec)

/-- ITS FALSE NEIGHBOUR: 'it returns false'. Refute it at one input. -/
def fnExactStateOkWrong : ChangeSpec := { name := "fnExactStateOk", fn := fun _ => fun
  | [d1, d2] => { results := [.lit (.bool false)], args := [d1, d2] }
  | _ => none }
def FnExactStateOkWrongFalsely : Prop := fnExactStateOkRow.holds Try.pinned (OpenSpec.ofChange fnExactStateOkWrong)

/- THE SECOND FORM. 'bulk': how many values and letters a reading holds, each counted each time it is reached (what is shared counts as often as it is met; a slice's spare places count too). A statement '..UptoSaid' is the law's where the arguments, and the package variables that the reading takes, are together of bulk at most 1048576: NARROWER than '..Said'. Prove '..Said' where nothing that the law and all that it calls make is longer than what came in: it says more and counts as full. Else prove '..UptoSaid'. A law counts once. -/
mutual
def uptoBulk {H : Type} : DataW H → Nat
  | .lit (.string bytes) => bytes.length + 1
  | .lit _ => 1
  | .nil => 1
  | .ptr d => uptoBulk d + 1
  | .slice elems spare => uptoBulkAll elems + uptoBulkAll spare + 1
  | .agg parts => uptoBulkAll parts + 1
  | .iface _ d => uptoBulk d + 1
  | .map entries => uptoBulkEntries entries + 1
  | .held _ => 1
def uptoBulkAll {H : Type} : List (DataW H) → Nat
  | [] => 0
  | d :: r => uptoBulk d + uptoBulkAll r
def uptoBulkEntries {H : Type} : List (Lit × DataW H) → Nat
  | [] => 0
  | x :: r => uptoBulkEntry x + uptoBulkEntries r
def uptoBulkEntry {H : Type} : Lit × DataW H → Nat
  | (.string bytes, d) => bytes.length + uptoBulk d + 1
  | (_, d) => uptoBulk d + 1
 end
def uptoSmall : (H : Type) → List (DataW H) → Bool := fun _ ds => decide (uptoBulkAll ds ≤ 1048576)
def OpenSpec.upto (s : _root_.Go.ChangeSpec) : _root_.Go.OpenSpec := { _root_.Go.OpenSpec.ofChange s with cond := some uptoSmall }

/-- 'laws.FnWindows', WHERE WHAT IT READS IS OF BULK AT MOST 1048576: true; the input reads as it did. -/
def fnWindowsUptoRow : OpenClaim := { program := "ytpoffpdaadhkgaa", sum := "d53d7da5f73fb74d689ac9ff8f6a3a4c9072a7a32bcb08fe362631f08cc4ebf1", func := "loop.example/g00827/laws.FnWindows", spec := "fnWindows", unfollowed := true, recurses := true, apart := false, narrowed := true }
def FnWindowsUptoSaid : Prop := fnWindowsUptoRow.holds Try.pinned (OpenSpec.upto fnWindowsSpec)

/-- 'laws.FnCompleted', WHERE WHAT IT READS IS OF BULK AT MOST 1048576: true; the input reads as it did. -/
def fnCompletedUptoRow : OpenClaim := { program := "ytpoffpdaadhkgaa", sum := "d53d7da5f73fb74d689ac9ff8f6a3a4c9072a7a32bcb08fe362631f08cc4ebf1", func := "loop.example/g00827/laws.FnCompleted", spec := "fnCompleted", unfollowed := true, recurses := true, apart := false, narrowed := true }
def FnCompletedUptoSaid : Prop := fnCompletedUptoRow.holds Try.pinned (OpenSpec.upto fnCompletedSpec)

/-- 'laws.FnExactCanExtend', WHERE WHAT IT READS IS OF BULK AT MOST 1048576: true; the input reads as it did. -/
def fnExactCanExtendUptoRow : OpenClaim := { program := "ytpoffpdaadhkgaa", sum := "d53d7da5f73fb74d689ac9ff8f6a3a4c9072a7a32bcb08fe362631f08cc4ebf1", func := "loop.example/g00827/laws.FnExactCanExtend", spec := "fnExactCanExtend", unfollowed := true, recurses := true, apart := false, narrowed := true }
def FnExactCanExtendUptoSaid : Prop := fnExactCanExtendUptoRow.holds Try.pinned (OpenSpec.upto fnExactCanExtendSpec)

/-- 'laws.FnExactNextTimes', WHERE WHAT IT READS IS OF BULK AT MOST 1048576: true; the input reads as it did. -/
def fnExactNextTimesUptoRow : OpenClaim := { program := "ytpoffpdaadhkgaa", sum := "d53d7da5f73fb74d689ac9ff8f6a3a4c9072a7a32bcb08fe362631f08cc4ebf1", func := "loop.example/g00827/laws.FnExactNextTimes", spec := "fnExactNextTimes", unfollowed := true, recurses := true, apart := false, narrowed := true }
def FnExactNextTimesUptoSaid : Prop := fnExactNextTimesUptoRow.holds Try.pinned (OpenSpec.upto fnExactNextTimesSpec)

/-- 'laws.FnExactCompleteTimes', WHERE WHAT IT READS IS OF BULK AT MOST 1048576: true; the input reads as it did. -/
def fnExactCompleteTimesUptoRow : OpenClaim := { program := "ytpoffpdaadhkgaa", sum := "d53d7da5f73fb74d689ac9ff8f6a3a4c9072a7a32bcb08fe362631f08cc4ebf1", func := "loop.example/g00827/laws.FnExactCompleteTimes", spec := "fnExactCompleteTimes", unfollowed := true, recurses := true, apart := false, narrowed := true }
def FnExactCompleteTimesUptoSaid : Prop := fnExactCompleteTimesUptoRow.holds Try.pinned (OpenSpec.upto fnExactCompleteTimesSpec)

/-- 'laws.FnExactShowOk', WHERE WHAT IT READS IS OF BULK AT MOST 1048576: true; the input reads as it did. -/
def fnExactShowOkUptoRow : OpenClaim := { program := "ytpoffpdaadhkgaa", sum := "d53d7da5f73fb74d689ac9ff8f6a3a4c9072a7a32bcb08fe362631f08cc4ebf1", func := "loop.example/g00827/laws.FnExactShowOk", spec := "fnExactShowOk", unfollowed := true, recurses := true, apart := false, narrowed := true }
def FnExactShowOkUptoSaid : Prop := fnExactShowOkUptoRow.holds Try.pinned (OpenSpec.upto fnExactShowOkSpec)

/-- 'laws.FnExactWatcherOf', WHERE WHAT IT READS IS OF BULK AT MOST 1048576: true; the input reads as it did. -/
def fnExactWatcherOfUptoRow : OpenClaim := { program := "ytpoffpdaadhkgaa", sum := "d53d7da5f73fb74d689ac9ff8f6a3a4c9072a7a32bcb08fe362631f08cc4ebf1", func := "loop.example/g00827/laws.FnExactWatcherOf", spec := "fnExactWatcherOf", unfollowed := true, recurses := true, apart := false, narrowed := true }
def FnExactWatcherOfUptoSaid : Prop := fnExactWatcherOfUptoRow.holds Try.pinned (OpenSpec.upto fnExactWatcherOfSpec)

/-- 'laws.FnExactFreeTie', WHERE WHAT IT READS IS OF BULK AT MOST 1048576: true; the input reads as it did. -/
def fnExactFreeTieUptoRow : OpenClaim := { program := "ytpoffpdaadhkgaa", sum := "d53d7da5f73fb74d689ac9ff8f6a3a4c9072a7a32bcb08fe362631f08cc4ebf1", func := "loop.example/g00827/laws.FnExactFreeTie", spec := "fnExactFreeTie", unfollowed := true, recurses := true, apart := false, narrowed := true }
def FnExactFreeTieUptoSaid : Prop := fnExactFreeTieUptoRow.holds Try.pinned (OpenSpec.upto fnExactFreeTieSpec)

/-- 'laws.FnExactIsFree', WHERE WHAT IT READS IS OF BULK AT MOST 1048576: true; the input reads as it did. -/
def fnExactIsFreeUptoRow : OpenClaim := { program := "ytpoffpdaadhkgaa", sum := "d53d7da5f73fb74d689ac9ff8f6a3a4c9072a7a32bcb08fe362631f08cc4ebf1", func := "loop.example/g00827/laws.FnExactIsFree", spec := "fnExactIsFree", unfollowed := true, recurses := true, apart := false, narrowed := true }
def FnExactIsFreeUptoSaid : Prop := fnExactIsFreeUptoRow.holds Try.pinned (OpenSpec.upto fnExactIsFreeSpec)

/-- 'laws.FnExactCountChoices', WHERE WHAT IT READS IS OF BULK AT MOST 1048576: true; the input reads as it did. -/
def fnExactCountChoicesUptoRow : OpenClaim := { program := "ytpoffpdaadhkgaa", sum := "d53d7da5f73fb74d689ac9ff8f6a3a4c9072a7a32bcb08fe362631f08cc4ebf1", func := "loop.example/g00827/laws.FnExactCountChoices", spec := "fnExactCountChoices", unfollowed := true, recurses := true, apart := false, narrowed := true }
def FnExactCountChoicesUptoSaid : Prop := fnExactCountChoicesUptoRow.holds Try.pinned (OpenSpec.upto fnExactCountChoicesSpec)

/-- 'laws.FnExactBaseOf', WHERE WHAT IT READS IS OF BULK AT MOST 1048576: true; the input reads as it did. -/
def fnExactBaseOfUptoRow : OpenClaim := { program := "ytpoffpdaadhkgaa", sum := "d53d7da5f73fb74d689ac9ff8f6a3a4c9072a7a32bcb08fe362631f08cc4ebf1", func := "loop.example/g00827/laws.FnExactBaseOf", spec := "fnExactBaseOf", unfollowed := true, recurses := true, apart := false, narrowed := true }
def FnExactBaseOfUptoSaid : Prop := fnExactBaseOfUptoRow.holds Try.pinned (OpenSpec.upto fnExactBaseOfSpec)

/-- 'laws.FnExactStateOk', WHERE WHAT IT READS IS OF BULK AT MOST 1048576: true; the input reads as it did. -/
def fnExactStateOkUptoRow : OpenClaim := { program := "ytpoffpdaadhkgaa", sum := "d53d7da5f73fb74d689ac9ff8f6a3a4c9072a7a32bcb08fe362631f08cc4ebf1", func := "loop.example/g00827/laws.FnExactStateOk", spec := "fnExactStateOk", unfollowed := true, recurses := true, apart := false, narrowed := true }
def FnExactStateOkUptoSaid : Prop := fnExactStateOkUptoRow.holds Try.pinned (OpenSpec.upto fnExactStateOkSpec)

end Rows
end Go.Proofs.Ytpoffpdaadhkgaa
