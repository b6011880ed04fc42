/-
  No cell of these rows narrows 'for every input' (looked for: loops, veiled, ifaces, maps, wideKeys, modest, calm, conditions, laid).
  DERIVED. THE GIVEN ROWS OF THIS SEAT. 12 by the template 'for every input the law returns true; each argument reads behind the call as it read before'; 0 by the template 'total and deterministic' (their statements: YtgcoplikbfdkoaaTotals.lean).
  GIVEN WITH THE SEED: the statements are not yours to turn. If you find one false, say at which input.
  Laid BY PROGRAM, IN A SANDBOX (cutbox-rows.mjs): the forced cells as the released guide's own fill.sh prints them over the translation b0abc460ca30b8ee… (all of the seat's roots in one cut). By AI agents, Wed Nov 11 2026. No macro, syntax, notation, axiom, sorry.
-/
import Derived.Test.YtgcoplikbfdkoaaChecked
import GoSem.Claim
import GoSem.ClaimJoined
import GoSem.ClaimMapViews
import Derived.JoinedTies
import Derived.KernelRfl
namespace Go.Proofs.Ytgcoplikbfdkoaa
/- THE CELL 'sum', in the pinned program and in every row, IS THE sha256 OF THE DUMP (.gsa) THAT YtgcoplikbfdkoaaProg.lean LOADS. Nothing in Lean hashes anything: it is a label: what it is worth is what the hold of that sum in a sandbox is worth. -/
noncomputable def Try.pinned : Pinned := { name := "ytgcoplikbfdkoaa", sum := "b0abc460ca30b8eece7a491fd7c26e0e68de4b1c5d414f0bfd41c896fb69eee0", checked := Try.checked }
namespace Rows
def none {H : Type} : Left H := { results := [], args := [] }

/-- 'laws.FnExactLabelWithin': WHATEVER THE INPUT: true; the input reads as it did. -/
def fnExactLabelWithinSpec : ChangeSpec := { name := "fnExactLabelWithin", fn := fun _ => fun
  | [d1, d2] => { results := [.lit (.bool true)], args := [d1, d2] }
  | _ => none }
def fnExactLabelWithinRow : OpenClaim := { program := "ytgcoplikbfdkoaa", sum := "b0abc460ca30b8eece7a491fd7c26e0e68de4b1c5d414f0bfd41c896fb69eee0", func := "loop.example/g03001/laws.FnExactLabelWithin", spec := "fnExactLabelWithin", apart := false }
def FnExactLabelWithinSaid : Prop := fnExactLabelWithinRow.holds Try.pinned (OpenSpec.ofChange fnExactLabelWithinSpec)

/-- ITS FALSE NEIGHBOUR: 'it returns false'. Refute it at one input. -/
def fnExactLabelWithinWrong : ChangeSpec := { name := "fnExactLabelWithin", fn := fun _ => fun
  | [d1, d2] => { results := [.lit (.bool false)], args := [d1, d2] }
  | _ => none }
def FnExactLabelWithinWrongFalsely : Prop := fnExactLabelWithinRow.holds Try.pinned (OpenSpec.ofChange fnExactLabelWithinWrong)

/-- 'laws.FnExactIsRule': WHATEVER THE INPUT: true; the input reads as it did. -/
def fnExactIsRuleSpec : ChangeSpec := { name := "fnExactIsRule", fn := fun _ => fun
  | [d] => { results := [.lit (.bool true)], args := [d] }
  | _ => none }
def fnExactIsRuleRow : OpenClaim := { program := "ytgcoplikbfdkoaa", sum := "b0abc460ca30b8eece7a491fd7c26e0e68de4b1c5d414f0bfd41c896fb69eee0", func := "loop.example/g03001/laws.FnExactIsRule", spec := "fnExactIsRule", apart := false }
def FnExactIsRuleSaid : Prop := fnExactIsRuleRow.holds Try.pinned (OpenSpec.ofChange fnExactIsRuleSpec)

/-- ITS FALSE NEIGHBOUR: 'it returns false'. Refute it at one input. -/
def fnExactIsRuleWrong : ChangeSpec := { name := "fnExactIsRule", fn := fun _ => fun
  | [d] => { results := [.lit (.bool false)], args := [d] }
  | _ => none }
def FnExactIsRuleWrongFalsely : Prop := fnExactIsRuleRow.holds Try.pinned (OpenSpec.ofChange fnExactIsRuleWrong)

/-- 'laws.FnExactCovers': WHATEVER THE INPUT: true; the input reads as it did. -/
def fnExactCoversSpec : ChangeSpec := { name := "fnExactCovers", fn := fun _ => fun
  | [d1, d2, d3, d4, d5, d6] => { results := [.lit (.bool true)], args := [d1, d2, d3, d4, d5, d6] }
  | _ => none }
def fnExactCoversRow : OpenClaim := { program := "ytgcoplikbfdkoaa", sum := "b0abc460ca30b8eece7a491fd7c26e0e68de4b1c5d414f0bfd41c896fb69eee0", func := "loop.example/g03001/laws.FnExactCovers", spec := "fnExactCovers", apart := false }
def FnExactCoversSaid : Prop := fnExactCoversRow.holds Try.pinned (OpenSpec.ofChange fnExactCoversSpec)

/-- ITS FALSE NEIGHBOUR: 'it returns false'. Refute it at one input. -/
def fnExactCoversWrong : ChangeSpec := { name := "fnExactCovers", fn := fun _ => fun
  | [d1, d2, d3, d4, d5, d6] => { results := [.lit (.bool false)], args := [d1, d2, d3, d4, d5, d6] }
  | _ => none }
def FnExactCoversWrongFalsely : Prop := fnExactCoversRow.holds Try.pinned (OpenSpec.ofChange fnExactCoversWrong)

/-- 'laws.FnExactJoinLabels': WHATEVER THE INPUT: true; the input reads as it did. -/
def fnExactJoinLabelsSpec : ChangeSpec := { name := "fnExactJoinLabels", fn := fun _ => fun
  | [d1, d2] => { results := [.lit (.bool true)], args := [d1, d2] }
  | _ => none }
def fnExactJoinLabelsRow : OpenClaim := { program := "ytgcoplikbfdkoaa", sum := "b0abc460ca30b8eece7a491fd7c26e0e68de4b1c5d414f0bfd41c896fb69eee0", func := "loop.example/g03001/laws.FnExactJoinLabels", spec := "fnExactJoinLabels", apart := false }
def FnExactJoinLabelsSaid : Prop := fnExactJoinLabelsRow.holds Try.pinned (OpenSpec.ofChange fnExactJoinLabelsSpec)

/-- ITS FALSE NEIGHBOUR: 'it returns false'. Refute it at one input. -/
def fnExactJoinLabelsWrong : ChangeSpec := { name := "fnExactJoinLabels", fn := fun _ => fun
  | [d1, d2] => { results := [.lit (.bool false)], args := [d1, d2] }
  | _ => none }
def FnExactJoinLabelsWrongFalsely : Prop := fnExactJoinLabelsRow.holds Try.pinned (OpenSpec.ofChange fnExactJoinLabelsWrong)

/-- 'laws.FnExactLabelOf': WHATEVER THE INPUT: true; the input reads as it did. -/
def fnExactLabelOfSpec : ChangeSpec := { name := "fnExactLabelOf", fn := fun _ => fun
  | [d] => { results := [.lit (.bool true)], args := [d] }
  | _ => none }
def fnExactLabelOfRow : OpenClaim := { program := "ytgcoplikbfdkoaa", sum := "b0abc460ca30b8eece7a491fd7c26e0e68de4b1c5d414f0bfd41c896fb69eee0", func := "loop.example/g03001/laws.FnExactLabelOf", spec := "fnExactLabelOf", apart := false }
def FnExactLabelOfSaid : Prop := fnExactLabelOfRow.holds Try.pinned (OpenSpec.ofChange fnExactLabelOfSpec)

/-- ITS FALSE NEIGHBOUR: 'it returns false'. Refute it at one input. -/
def fnExactLabelOfWrong : ChangeSpec := { name := "fnExactLabelOf", fn := fun _ => fun
  | [d] => { results := [.lit (.bool false)], args := [d] }
  | _ => none }
def FnExactLabelOfWrongFalsely : Prop := fnExactLabelOfRow.holds Try.pinned (OpenSpec.ofChange fnExactLabelOfWrong)

/-- 'laws.FnExactOwnersIn': WHATEVER THE INPUT: true; the input reads as it did. -/
def fnExactOwnersInSpec : ChangeSpec := { name := "fnExactOwnersIn", fn := fun _ => fun
  | [d] => { results := [.lit (.bool true)], args := [d] }
  | _ => none }
def fnExactOwnersInRow : OpenClaim := { program := "ytgcoplikbfdkoaa", sum := "b0abc460ca30b8eece7a491fd7c26e0e68de4b1c5d414f0bfd41c896fb69eee0", func := "loop.example/g03001/laws.FnExactOwnersIn", spec := "fnExactOwnersIn", apart := false }
def FnExactOwnersInSaid : Prop := fnExactOwnersInRow.holds Try.pinned (OpenSpec.ofChange fnExactOwnersInSpec)

/-- ITS FALSE NEIGHBOUR: 'it returns false'. Refute it at one input. -/
def fnExactOwnersInWrong : ChangeSpec := { name := "fnExactOwnersIn", fn := fun _ => fun
  | [d] => { results := [.lit (.bool false)], args := [d] }
  | _ => none }
def FnExactOwnersInWrongFalsely : Prop := fnExactOwnersInRow.holds Try.pinned (OpenSpec.ofChange fnExactOwnersInWrong)

/-- 'laws.FnExactApplies': WHATEVER THE INPUT: true; the input reads as it did. -/
def fnExactAppliesSpec : ChangeSpec := { name := "fnExactApplies", fn := fun _ => fun
  | [d1, d2] => { results := [.lit (.bool true)], args := [d1, d2] }
  | _ => none }
def fnExactAppliesRow : OpenClaim := { program := "ytgcoplikbfdkoaa", sum := "b0abc460ca30b8eece7a491fd7c26e0e68de4b1c5d414f0bfd41c896fb69eee0", func := "loop.example/g03001/laws.FnExactApplies", spec := "fnExactApplies", apart := false }
def FnExactAppliesSaid : Prop := fnExactAppliesRow.holds Try.pinned (OpenSpec.ofChange fnExactAppliesSpec)

/-- ITS FALSE NEIGHBOUR: 'it returns false'. Refute it at one input. -/
def fnExactAppliesWrong : ChangeSpec := { name := "fnExactApplies", fn := fun _ => fun
  | [d1, d2] => { results := [.lit (.bool false)], args := [d1, d2] }
  | _ => none }
def FnExactAppliesWrongFalsely : Prop := fnExactAppliesRow.holds Try.pinned (OpenSpec.ofChange fnExactAppliesWrong)

/-- 'laws.FnExactIsBefore': WHATEVER THE INPUT: true; the input reads as it did. -/
def fnExactIsBeforeSpec : ChangeSpec := { name := "fnExactIsBefore", fn := fun _ => fun
  | [d1, d2] => { results := [.lit (.bool true)], args := [d1, d2] }
  | _ => none }
def fnExactIsBeforeRow : OpenClaim := { program := "ytgcoplikbfdkoaa", sum := "b0abc460ca30b8eece7a491fd7c26e0e68de4b1c5d414f0bfd41c896fb69eee0", func := "loop.example/g03001/laws.FnExactIsBefore", spec := "fnExactIsBefore", apart := false }
def FnExactIsBeforeSaid : Prop := fnExactIsBeforeRow.holds Try.pinned (OpenSpec.ofChange fnExactIsBeforeSpec)

/-- ITS FALSE NEIGHBOUR: 'it returns false'. Refute it at one input. -/
def fnExactIsBeforeWrong : ChangeSpec := { name := "fnExactIsBefore", fn := fun _ => fun
  | [d1, d2] => { results := [.lit (.bool false)], args := [d1, d2] }
  | _ => none }
def FnExactIsBeforeWrongFalsely : Prop := fnExactIsBeforeRow.holds Try.pinned (OpenSpec.ofChange fnExactIsBeforeWrong)

/-- 'laws.FnExactNarrowTime': WHATEVER THE INPUT: true; the input reads as it did. -/
def fnExactNarrowTimeSpec : ChangeSpec := { name := "fnExactNarrowTime", fn := fun _ => fun
  | [d1, d2, d3] => { results := [.lit (.bool true)], args := [d1, d2, d3] }
  | _ => none }
def fnExactNarrowTimeRow : OpenClaim := { program := "ytgcoplikbfdkoaa", sum := "b0abc460ca30b8eece7a491fd7c26e0e68de4b1c5d414f0bfd41c896fb69eee0", func := "loop.example/g03001/laws.FnExactNarrowTime", spec := "fnExactNarrowTime", apart := false }
def FnExactNarrowTimeSaid : Prop := fnExactNarrowTimeRow.holds Try.pinned (OpenSpec.ofChange fnExactNarrowTimeSpec)

/-- ITS FALSE NEIGHBOUR: 'it returns false'. Refute it at one input. -/
def fnExactNarrowTimeWrong : ChangeSpec := { name := "fnExactNarrowTime", fn := fun _ => fun
  | [d1, d2, d3] => { results := [.lit (.bool false)], args := [d1, d2, d3] }
  | _ => none }
def FnExactNarrowTimeWrongFalsely : Prop := fnExactNarrowTimeRow.holds Try.pinned (OpenSpec.ofChange fnExactNarrowTimeWrong)

/-- 'laws.FnExactNarrowGrant': WHATEVER THE INPUT: true; the input reads as it did. -/
def fnExactNarrowGrantSpec : ChangeSpec := { name := "fnExactNarrowGrant", fn := fun _ => fun
  | [d1, d2] => { results := [.lit (.bool true)], args := [d1, d2] }
  | _ => none }
def fnExactNarrowGrantRow : OpenClaim := { program := "ytgcoplikbfdkoaa", sum := "b0abc460ca30b8eece7a491fd7c26e0e68de4b1c5d414f0bfd41c896fb69eee0", func := "loop.example/g03001/laws.FnExactNarrowGrant", spec := "fnExactNarrowGrant", apart := false }
def FnExactNarrowGrantSaid : Prop := fnExactNarrowGrantRow.holds Try.pinned (OpenSpec.ofChange fnExactNarrowGrantSpec)

/-- ITS FALSE NEIGHBOUR: 'it returns false'. Refute it at one input. -/
def fnExactNarrowGrantWrong : ChangeSpec := { name := "fnExactNarrowGrant", fn := fun _ => fun
  | [d1, d2] => { results := [.lit (.bool false)], args := [d1, d2] }
  | _ => none }
def FnExactNarrowGrantWrongFalsely : Prop := fnExactNarrowGrantRow.holds Try.pinned (OpenSpec.ofChange fnExactNarrowGrantWrong)

/-- 'laws.FnExactLendGrants': WHATEVER THE INPUT: true; the input reads as it did. -/
def fnExactLendGrantsSpec : ChangeSpec := { name := "fnExactLendGrants", fn := fun _ => fun
  | [d1, d2, d3] => { results := [.lit (.bool true)], args := [d1, d2, d3] }
  | _ => none }
def fnExactLendGrantsRow : OpenClaim := { program := "ytgcoplikbfdkoaa", sum := "b0abc460ca30b8eece7a491fd7c26e0e68de4b1c5d414f0bfd41c896fb69eee0", func := "loop.example/g03001/laws.FnExactLendGrants", spec := "fnExactLendGrants", apart := false }
def FnExactLendGrantsSaid : Prop := fnExactLendGrantsRow.holds Try.pinned (OpenSpec.ofChange fnExactLendGrantsSpec)

/-- ITS FALSE NEIGHBOUR: 'it returns false'. Refute it at one input. -/
def fnExactLendGrantsWrong : ChangeSpec := { name := "fnExactLendGrants", fn := fun _ => fun
  | [d1, d2, d3] => { results := [.lit (.bool false)], args := [d1, d2, d3] }
  | _ => none }
def FnExactLendGrantsWrongFalsely : Prop := fnExactLendGrantsRow.holds Try.pinned (OpenSpec.ofChange fnExactLendGrantsWrong)

/-- 'laws.FnExactEqualOutcomes': WHATEVER THE INPUT: true; the input reads as it did. -/
def fnExactEqualOutcomesSpec : ChangeSpec := { name := "fnExactEqualOutcomes", fn := fun _ => fun
  | [d1, d2] => { results := [.lit (.bool true)], args := [d1, d2] }
  | _ => none }
def fnExactEqualOutcomesRow : OpenClaim := { program := "ytgcoplikbfdkoaa", sum := "b0abc460ca30b8eece7a491fd7c26e0e68de4b1c5d414f0bfd41c896fb69eee0", func := "loop.example/g03001/laws.FnExactEqualOutcomes", spec := "fnExactEqualOutcomes", apart := false }
def FnExactEqualOutcomesSaid : Prop := fnExactEqualOutcomesRow.holds Try.pinned (OpenSpec.ofChange fnExactEqualOutcomesSpec)

/-- ITS FALSE NEIGHBOUR: 'it returns false'. Refute it at one input. -/
def fnExactEqualOutcomesWrong : ChangeSpec := { name := "fnExactEqualOutcomes", fn := fun _ => fun
  | [d1, d2] => { results := [.lit (.bool false)], args := [d1, d2] }
  | _ => none }
def FnExactEqualOutcomesWrongFalsely : Prop := fnExactEqualOutcomesRow.holds Try.pinned (OpenSpec.ofChange fnExactEqualOutcomesWrong)

/- THE SECOND FORM. 'bulk': how many values and letters a reading holds, each counted each time it is reached (what is shared counts as often as it is met; a slice's spare places count too). A statement '..UptoSaid' is the law's where the arguments, and the package variables that the reading takes, are together of bulk at most 1048576: NARROWER than '..Said'. Prove '..Said' where nothing that the law and all that it calls make is longer than what came in: it says more and counts as full. Else prove '..UptoSaid'. A law counts once. -/
mutual
def uptoBulk {H : Type} : DataW H → Nat
  | .lit (.string bytes) => bytes.length + 1
  | .lit _ => 1
  | .nil => 1
  | .ptr d => uptoBulk d + 1
  | .slice elems spare => uptoBulkAll elems + uptoBulkAll spare + 1
  | .agg parts => uptoBulkAll parts + 1
  | .iface _ d => uptoBulk d + 1
  | .map entries => uptoBulkEntries entries + 1
  | .held _ => 1
def uptoBulkAll {H : Type} : List (DataW H) → Nat
  | [] => 0
  | d :: r => uptoBulk d + uptoBulkAll r
def uptoBulkEntries {H : Type} : List (Lit × DataW H) → Nat
  | [] => 0
  | x :: r => uptoBulkEntry x + uptoBulkEntries r
def uptoBulkEntry {H : Type} : Lit × DataW H → Nat
  | (.string bytes, d) => bytes.length + uptoBulk d + 1
  | (_, d) => uptoBulk d + 1
 end
def uptoSmall : (H : Type) → List (DataW H) → Bool := fun _ ds => decide (uptoBulkAll ds ≤ 1048576)
def OpenSpec.upto (s : _root_.Go.ChangeSpec) : _root_.Go.OpenSpec := { _root_.Go.OpenSpec.ofChange s with cond := some uptoSmall }

/-- 'laws.FnExactLabelWithin', WHERE WHAT IT READS IS OF BULK AT MOST 1048576: true; the input reads as it did. -/
def fnExactLabelWithinUptoRow : OpenClaim := { program := "ytgcoplikbfdkoaa", sum := "b0abc460ca30b8eece7a491fd7c26e0e68de4b1c5d414f0bfd41c896fb69eee0", func := "loop.example/g03001/laws.FnExactLabelWithin", spec := "fnExactLabelWithin", apart := false, narrowed := true }
def FnExactLabelWithinUptoSaid : Prop := fnExactLabelWithinUptoRow.holds Try.pinned (OpenSpec.upto fnExactLabelWithinSpec)

/-- 'laws.FnExactIsRule', WHERE WHAT IT READS IS OF BULK AT MOST 1048576: true; the input reads as it did. -/
def fnExactIsRuleUptoRow : OpenClaim := { program := "ytgcoplikbfdkoaa", sum := "b0abc460ca30b8eece7a491fd7c26e0e68de4b1c5d414f0bfd41c896fb69eee0", func := "loop.example/g03001/laws.FnExactIsRule", spec := "fnExactIsRule", apart := false, narrowed := true }
def FnExactIsRuleUptoSaid : Prop := fnExactIsRuleUptoRow.holds Try.pinned (OpenSpec.upto fnExactIsRuleSpec)

/-- 'laws.FnExactCovers', WHERE WHAT IT READS IS OF BULK AT MOST 1048576: true; the input reads as it did. -/
def fnExactCoversUptoRow : OpenClaim := { program := "ytgcoplikbfdkoaa", sum := "b0abc460ca30b8eece7a491fd7c26e0e68de4b1c5d414f0bfd41c896fb69eee0", func := "loop.example/g03001/laws.FnExactCovers", spec := "fnExactCovers", apart := false, narrowed := true }
def FnExactCoversUptoSaid : Prop := fnExactCoversUptoRow.holds Try.pinned (OpenSpec.upto fnExactCoversSpec)

/-- 'laws.FnExactJoinLabels', WHERE WHAT IT READS IS OF BULK AT MOST 1048576: true; the input reads as it did. -/
def fnExactJoinLabelsUptoRow : OpenClaim := { program := "ytgcoplikbfdkoaa", sum := "b0abc460ca30b8eece7a491fd7c26e0e68de4b1c5d414f0bfd41c896fb69eee0", func := "loop.example/g03001/laws.FnExactJoinLabels", spec := "fnExactJoinLabels", apart := false, narrowed := true }
def FnExactJoinLabelsUptoSaid : Prop := fnExactJoinLabelsUptoRow.holds Try.pinned (OpenSpec.upto fnExactJoinLabelsSpec)

/-- 'laws.FnExactLabelOf', WHERE WHAT IT READS IS OF BULK AT MOST 1048576: true; the input reads as it did. -/
def fnExactLabelOfUptoRow : OpenClaim := { program := "ytgcoplikbfdkoaa", sum := "b0abc460ca30b8eece7a491fd7c26e0e68de4b1c5d414f0bfd41c896fb69eee0", func := "loop.example/g03001/laws.FnExactLabelOf", spec := "fnExactLabelOf", apart := false, narrowed := true }
def FnExactLabelOfUptoSaid : Prop := fnExactLabelOfUptoRow.holds Try.pinned (OpenSpec.upto fnExactLabelOfSpec)

/-- 'laws.FnExactOwnersIn', WHERE WHAT IT READS IS OF BULK AT MOST 1048576: true; the input reads as it did. -/
def fnExactOwnersInUptoRow : OpenClaim := { program := "ytgcoplikbfdkoaa", sum := "b0abc460ca30b8eece7a491fd7c26e0e68de4b1c5d414f0bfd41c896fb69eee0", func := "loop.example/g03001/laws.FnExactOwnersIn", spec := "fnExactOwnersIn", apart := false, narrowed := true }
def FnExactOwnersInUptoSaid : Prop := fnExactOwnersInUptoRow.holds Try.pinned (OpenSpec.upto fnExactOwnersInSpec)

/-- 'laws.FnExactApplies', WHERE WHAT IT READS IS OF BULK AT MOST 1048576: true; the input reads as it did. -/
def fnExactAppliesUptoRow : OpenClaim := { program := "ytgcoplikbfdkoaa", sum := "b0abc460ca30b8eece7a491fd7c26e0e68de4b1c5d414f0bfd41c896fb69eee0", func := "loop.example/g03001/laws.FnExactApplies", spec := "fnExactApplies", apart := false, narrowed := true }
def FnExactAppliesUptoSaid : Prop := fnExactAppliesUptoRow.holds Try.pinned (OpenSpec.upto fnExactAppliesSpec)

/-- 'laws.FnExactIsBefore', WHERE WHAT IT READS IS OF BULK AT MOST 1048576: true; the input reads as it did. -/
def fnExactIsBeforeUptoRow : OpenClaim := { program := "ytgcoplikbfdkoaa", sum := "b0abc460ca30b8eece7a491fd7c26e0e68de4b1c5d414f0bfd41c896fb69eee0", func := "loop.example/g03001/laws.FnExactIsBefore", spec := "fnExactIsBefore", apart := false, narrowed := true }
def FnExactIsBeforeUptoSaid : Prop := fnExactIsBeforeUptoRow.holds Try.pinned (OpenSpec.upto fnExactIsBeforeSpec)

/-- 'laws.FnExactNarrowTime', WHERE WHAT IT READS IS OF BULK AT MOST 1048576: true; the input reads as it did. -/
def fnExactNarrowTimeUptoRow : OpenClaim := { program := "ytgcoplikbfdkoaa", sum := "b0abc460ca30b8eece7a491fd7c26e0e68de4b1c5d414f0bfd41c896fb69eee0", func := "loop.example/g03001/laws.FnExactNarrowTime", spec := "fnExactNarrowTime", apart := false, narrowed := true }
def FnExactNarrowTimeUptoSaid : Prop := fnExactNarrowTimeUptoRow.holds Try.pinned (OpenSpec.upto fnExactNarrowTimeSpec)

/-- 'laws.FnExactNarrowGrant', WHERE WHAT IT READS IS OF BULK AT MOST 1048576: true; the input reads as it did. -/
def fnExactNarrowGrantUptoRow : OpenClaim := { program := "ytgcoplikbfdkoaa", sum := "b0abc460ca30b8eece7a491fd7c26e0e68de4b1c5d414f0bfd41c896fb69eee0", func := "loop.example/g03001/laws.FnExactNarrowGrant", spec := "fnExactNarrowGrant", apart := false, narrowed := true }
def FnExactNarrowGrantUptoSaid : Prop := fnExactNarrowGrantUptoRow.holds Try.pinned (OpenSpec.upto fnExactNarrowGrantSpec)

/-- 'laws.FnExactLendGrants', WHERE WHAT IT READS IS OF BULK AT MOST 1048576: true; the input reads as it did. -/
def fnExactLendGrantsUptoRow : OpenClaim := { program := "ytgcoplikbfdkoaa", sum := "b0abc460ca30b8eece7a491fd7c26e0e68de4b1c5d414f0bfd41c896fb69eee0", func := "loop.example/g03001/laws.FnExactLendGrants", spec := "fnExactLendGrants", apart := false, narrowed := true }
def FnExactLendGrantsUptoSaid : Prop := fnExactLendGrantsUptoRow.holds Try.pinned (OpenSpec.upto fnExactLendGrantsSpec)

/-- 'laws.FnExactEqualOutcomes', WHERE WHAT IT READS IS OF BULK AT MOST 1048576: true; the input reads as it did. -/
def fnExactEqualOutcomesUptoRow : OpenClaim := { program := "ytgcoplikbfdkoaa", sum := "b0abc460ca30b8eece7a491fd7c26e0e68de4b1c5d414f0bfd41c896fb69eee0", func := "loop.example/g03001/laws.FnExactEqualOutcomes", spec := "fnExactEqualOutcomes", apart := false, narrowed := true }
def FnExactEqualOutcomesUptoSaid : Prop := fnExactEqualOutcomesUptoRow.holds Try.pinned (OpenSpec.upto fnExactEqualOutcomesSpec)

end Rows
end Go.Proofs.Ytgcoplikbfdkoaa
