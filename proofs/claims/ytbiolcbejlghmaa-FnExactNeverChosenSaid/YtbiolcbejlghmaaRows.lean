/-
  No cell of these rows narrows 'for every input' (looked for: loops, veiled, ifaces, maps, wideKeys, modest, calm, conditions, laid).
  DERIVED. THE GIVEN ROWS OF THIS SEAT. 12 by the template 'for every input the law returns true; each argument reads behind the call as it read before'; 0 by the template 'total and deterministic' (their statements: YtbiolcbejlghmaaTotals.lean).
  GIVEN WITH THE SEED: the statements are not yours to turn. If you find one false, say at which input.
  Laid BY PROGRAM, IN A SANDBOX (cutbox-rows.mjs): the forced cells as the released guide's own fill.sh prints them over the translation e4dbc0aaaf731859… (all of the seat's roots in one cut). By AI agents, Wed Nov 11 2026. No macro, syntax, notation, axiom, sorry.
-/
import Derived.Test.YtbiolcbejlghmaaChecked
import GoSem.Claim
import GoSem.ClaimJoined
import GoSem.ClaimMapViews
import Derived.JoinedTies
import Derived.KernelRfl
namespace Go.Proofs.Ytbiolcbejlghmaa
/- THE CELL 'sum', in the pinned program and in every row, IS THE sha256 OF THE DUMP (.gsa) THAT YtbiolcbejlghmaaProg.lean LOADS. Nothing in Lean hashes anything: it is a label: what it is worth is what the hold of that sum in a sandbox is worth. -/
noncomputable def Try.pinned : Pinned := { name := "ytbiolcbejlghmaa", sum := "e4dbc0aaaf73185982c985c25a9a1a59d40501b586d0cfd31f7efdf84cd611ed", checked := Try.checked }
namespace Rows
def none {H : Type} : Left H := { results := [], args := [] }

/-- 'laws.FnExactClashOf': WHATEVER THE INPUT: true; the input reads as it did. -/
def fnExactClashOfSpec : ChangeSpec := { name := "fnExactClashOf", fn := fun _ => fun
  | [d1, d2] => { results := [.lit (.bool true)], args := [d1, d2] }
  | _ => none }
def fnExactClashOfRow : OpenClaim := { program := "ytbiolcbejlghmaa", sum := "e4dbc0aaaf73185982c985c25a9a1a59d40501b586d0cfd31f7efdf84cd611ed", func := "loop.example/g03001/laws.FnExactClashOf", spec := "fnExactClashOf", apart := false }
def FnExactClashOfSaid : Prop := fnExactClashOfRow.holds Try.pinned (OpenSpec.ofChange fnExactClashOfSpec)

/-- ITS FALSE NEIGHBOUR: 'it returns false'. Refute it at one input. -/
def fnExactClashOfWrong : ChangeSpec := { name := "fnExactClashOf", fn := fun _ => fun
  | [d1, d2] => { results := [.lit (.bool false)], args := [d1, d2] }
  | _ => none }
def FnExactClashOfWrongFalsely : Prop := fnExactClashOfRow.holds Try.pinned (OpenSpec.ofChange fnExactClashOfWrong)

/-- 'laws.FnExactEndLending': WHATEVER THE INPUT: true; the input reads as it did. -/
def fnExactEndLendingSpec : ChangeSpec := { name := "fnExactEndLending", fn := fun _ => fun
  | [d1, d2] => { results := [.lit (.bool true)], args := [d1, d2] }
  | _ => none }
def fnExactEndLendingRow : OpenClaim := { program := "ytbiolcbejlghmaa", sum := "e4dbc0aaaf73185982c985c25a9a1a59d40501b586d0cfd31f7efdf84cd611ed", func := "loop.example/g03001/laws.FnExactEndLending", spec := "fnExactEndLending", apart := false }
def FnExactEndLendingSaid : Prop := fnExactEndLendingRow.holds Try.pinned (OpenSpec.ofChange fnExactEndLendingSpec)

/-- ITS FALSE NEIGHBOUR: 'it returns false'. Refute it at one input. -/
def fnExactEndLendingWrong : ChangeSpec := { name := "fnExactEndLending", fn := fun _ => fun
  | [d1, d2] => { results := [.lit (.bool false)], args := [d1, d2] }
  | _ => none }
def FnExactEndLendingWrongFalsely : Prop := fnExactEndLendingRow.holds Try.pinned (OpenSpec.ofChange fnExactEndLendingWrong)

/-- 'laws.FnExactIsShadowed': WHATEVER THE INPUT: true; the input reads as it did. -/
def fnExactIsShadowedSpec : ChangeSpec := { name := "fnExactIsShadowed", fn := fun _ => fun
  | [d1, d2] => { results := [.lit (.bool true)], args := [d1, d2] }
  | _ => none }
def fnExactIsShadowedRow : OpenClaim := { program := "ytbiolcbejlghmaa", sum := "e4dbc0aaaf73185982c985c25a9a1a59d40501b586d0cfd31f7efdf84cd611ed", func := "loop.example/g03001/laws.FnExactIsShadowed", spec := "fnExactIsShadowed", apart := false }
def FnExactIsShadowedSaid : Prop := fnExactIsShadowedRow.holds Try.pinned (OpenSpec.ofChange fnExactIsShadowedSpec)

/-- ITS FALSE NEIGHBOUR: 'it returns false'. Refute it at one input. -/
def fnExactIsShadowedWrong : ChangeSpec := { name := "fnExactIsShadowed", fn := fun _ => fun
  | [d1, d2] => { results := [.lit (.bool false)], args := [d1, d2] }
  | _ => none }
def FnExactIsShadowedWrongFalsely : Prop := fnExactIsShadowedRow.holds Try.pinned (OpenSpec.ofChange fnExactIsShadowedWrong)

/-- 'laws.FnExactClashCount': WHATEVER THE INPUT: true; the input reads as it did. -/
def fnExactClashCountSpec : ChangeSpec := { name := "fnExactClashCount", fn := fun _ => fun
  | [d1, d2] => { results := [.lit (.bool true)], args := [d1, d2] }
  | _ => none }
def fnExactClashCountRow : OpenClaim := { program := "ytbiolcbejlghmaa", sum := "e4dbc0aaaf73185982c985c25a9a1a59d40501b586d0cfd31f7efdf84cd611ed", func := "loop.example/g03001/laws.FnExactClashCount", spec := "fnExactClashCount", apart := false }
def FnExactClashCountSaid : Prop := fnExactClashCountRow.holds Try.pinned (OpenSpec.ofChange fnExactClashCountSpec)

/-- ITS FALSE NEIGHBOUR: 'it returns false'. Refute it at one input. -/
def fnExactClashCountWrong : ChangeSpec := { name := "fnExactClashCount", fn := fun _ => fun
  | [d1, d2] => { results := [.lit (.bool false)], args := [d1, d2] }
  | _ => none }
def FnExactClashCountWrongFalsely : Prop := fnExactClashCountRow.holds Try.pinned (OpenSpec.ofChange fnExactClashCountWrong)

/-- 'laws.FnExactMayDo': WHATEVER THE INPUT: true; the input reads as it did. -/
def fnExactMayDoSpec : ChangeSpec := { name := "fnExactMayDo", fn := fun _ => fun
  | [d1, d2, d3, d4, d5, d6, d7] => { results := [.lit (.bool true)], args := [d1, d2, d3, d4, d5, d6, d7] }
  | _ => none }
def fnExactMayDoRow : OpenClaim := { program := "ytbiolcbejlghmaa", sum := "e4dbc0aaaf73185982c985c25a9a1a59d40501b586d0cfd31f7efdf84cd611ed", func := "loop.example/g03001/laws.FnExactMayDo", spec := "fnExactMayDo", apart := false }
def FnExactMayDoSaid : Prop := fnExactMayDoRow.holds Try.pinned (OpenSpec.ofChange fnExactMayDoSpec)

/-- ITS FALSE NEIGHBOUR: 'it returns false'. Refute it at one input. -/
def fnExactMayDoWrong : ChangeSpec := { name := "fnExactMayDo", fn := fun _ => fun
  | [d1, d2, d3, d4, d5, d6, d7] => { results := [.lit (.bool false)], args := [d1, d2, d3, d4, d5, d6, d7] }
  | _ => none }
def FnExactMayDoWrongFalsely : Prop := fnExactMayDoRow.holds Try.pinned (OpenSpec.ofChange fnExactMayDoWrong)

/-- 'laws.FnExactAppliesTo': WHATEVER THE INPUT: true; the input reads as it did. -/
def fnExactAppliesToSpec : ChangeSpec := { name := "fnExactAppliesTo", fn := fun _ => fun
  | [d1, d2] => { results := [.lit (.bool true)], args := [d1, d2] }
  | _ => none }
def fnExactAppliesToRow : OpenClaim := { program := "ytbiolcbejlghmaa", sum := "e4dbc0aaaf73185982c985c25a9a1a59d40501b586d0cfd31f7efdf84cd611ed", func := "loop.example/g03001/laws.FnExactAppliesTo", spec := "fnExactAppliesTo", apart := false }
def FnExactAppliesToSaid : Prop := fnExactAppliesToRow.holds Try.pinned (OpenSpec.ofChange fnExactAppliesToSpec)

/-- ITS FALSE NEIGHBOUR: 'it returns false'. Refute it at one input. -/
def fnExactAppliesToWrong : ChangeSpec := { name := "fnExactAppliesTo", fn := fun _ => fun
  | [d1, d2] => { results := [.lit (.bool false)], args := [d1, d2] }
  | _ => none }
def FnExactAppliesToWrongFalsely : Prop := fnExactAppliesToRow.holds Try.pinned (OpenSpec.ofChange fnExactAppliesToWrong)

/-- 'laws.FnExactDecideRule': WHATEVER THE INPUT: true; the input reads as it did. -/
def fnExactDecideRuleSpec : ChangeSpec := { name := "fnExactDecideRule", fn := fun _ => fun
  | [d1, d2] => { results := [.lit (.bool true)], args := [d1, d2] }
  | _ => none }
def fnExactDecideRuleRow : OpenClaim := { program := "ytbiolcbejlghmaa", sum := "e4dbc0aaaf73185982c985c25a9a1a59d40501b586d0cfd31f7efdf84cd611ed", func := "loop.example/g03001/laws.FnExactDecideRule", spec := "fnExactDecideRule", apart := false }
def FnExactDecideRuleSaid : Prop := fnExactDecideRuleRow.holds Try.pinned (OpenSpec.ofChange fnExactDecideRuleSpec)

/-- ITS FALSE NEIGHBOUR: 'it returns false'. Refute it at one input. -/
def fnExactDecideRuleWrong : ChangeSpec := { name := "fnExactDecideRule", fn := fun _ => fun
  | [d1, d2] => { results := [.lit (.bool false)], args := [d1, d2] }
  | _ => none }
def FnExactDecideRuleWrongFalsely : Prop := fnExactDecideRuleRow.holds Try.pinned (OpenSpec.ofChange fnExactDecideRuleWrong)

/-- 'laws.FnExactActionFor': WHATEVER THE INPUT: true; the input reads as it did. -/
def fnExactActionForSpec : ChangeSpec := { name := "fnExactActionFor", fn := fun _ => fun
  | [d1, d2] => { results := [.lit (.bool true)], args := [d1, d2] }
  | _ => none }
def fnExactActionForRow : OpenClaim := { program := "ytbiolcbejlghmaa", sum := "e4dbc0aaaf73185982c985c25a9a1a59d40501b586d0cfd31f7efdf84cd611ed", func := "loop.example/g03001/laws.FnExactActionFor", spec := "fnExactActionFor", apart := false }
def FnExactActionForSaid : Prop := fnExactActionForRow.holds Try.pinned (OpenSpec.ofChange fnExactActionForSpec)

/-- ITS FALSE NEIGHBOUR: 'it returns false'. Refute it at one input. -/
def fnExactActionForWrong : ChangeSpec := { name := "fnExactActionFor", fn := fun _ => fun
  | [d1, d2] => { results := [.lit (.bool false)], args := [d1, d2] }
  | _ => none }
def FnExactActionForWrongFalsely : Prop := fnExactActionForRow.holds Try.pinned (OpenSpec.ofChange fnExactActionForWrong)

/-- 'laws.FnExactWhoDecides': WHATEVER THE INPUT: true; the input reads as it did. -/
def fnExactWhoDecidesSpec : ChangeSpec := { name := "fnExactWhoDecides", fn := fun _ => fun
  | [d1, d2] => { results := [.lit (.bool true)], args := [d1, d2] }
  | _ => none }
def fnExactWhoDecidesRow : OpenClaim := { program := "ytbiolcbejlghmaa", sum := "e4dbc0aaaf73185982c985c25a9a1a59d40501b586d0cfd31f7efdf84cd611ed", func := "loop.example/g03001/laws.FnExactWhoDecides", spec := "fnExactWhoDecides", apart := false }
def FnExactWhoDecidesSaid : Prop := fnExactWhoDecidesRow.holds Try.pinned (OpenSpec.ofChange fnExactWhoDecidesSpec)

/-- ITS FALSE NEIGHBOUR: 'it returns false'. Refute it at one input. -/
def fnExactWhoDecidesWrong : ChangeSpec := { name := "fnExactWhoDecides", fn := fun _ => fun
  | [d1, d2] => { results := [.lit (.bool false)], args := [d1, d2] }
  | _ => none }
def FnExactWhoDecidesWrongFalsely : Prop := fnExactWhoDecidesRow.holds Try.pinned (OpenSpec.ofChange fnExactWhoDecidesWrong)

/-- 'laws.FnExactShadowedRules': WHATEVER THE INPUT: true; the input reads as it did. -/
def fnExactShadowedRulesSpec : ChangeSpec := { name := "fnExactShadowedRules", fn := fun _ => fun
  | [d] => { results := [.lit (.bool true)], args := [d] }
  | _ => none }
def fnExactShadowedRulesRow : OpenClaim := { program := "ytbiolcbejlghmaa", sum := "e4dbc0aaaf73185982c985c25a9a1a59d40501b586d0cfd31f7efdf84cd611ed", func := "loop.example/g03001/laws.FnExactShadowedRules", spec := "fnExactShadowedRules", apart := false }
def FnExactShadowedRulesSaid : Prop := fnExactShadowedRulesRow.holds Try.pinned (OpenSpec.ofChange fnExactShadowedRulesSpec)

/-- ITS FALSE NEIGHBOUR: 'it returns false'. Refute it at one input. -/
def fnExactShadowedRulesWrong : ChangeSpec := { name := "fnExactShadowedRules", fn := fun _ => fun
  | [d] => { results := [.lit (.bool false)], args := [d] }
  | _ => none }
def FnExactShadowedRulesWrongFalsely : Prop := fnExactShadowedRulesRow.holds Try.pinned (OpenSpec.ofChange fnExactShadowedRulesWrong)

/-- 'laws.FnExactFastRule': WHATEVER THE INPUT: true; the input reads as it did. -/
def fnExactFastRuleSpec : ChangeSpec := { name := "fnExactFastRule", fn := fun _ => fun
  | [d1, d2] => { results := [.lit (.bool true)], args := [d1, d2] }
  | _ => none }
def fnExactFastRuleRow : OpenClaim := { program := "ytbiolcbejlghmaa", sum := "e4dbc0aaaf73185982c985c25a9a1a59d40501b586d0cfd31f7efdf84cd611ed", func := "loop.example/g03001/laws.FnExactFastRule", spec := "fnExactFastRule", apart := false }
def FnExactFastRuleSaid : Prop := fnExactFastRuleRow.holds Try.pinned (OpenSpec.ofChange fnExactFastRuleSpec)

/-- ITS FALSE NEIGHBOUR: 'it returns false'. Refute it at one input. -/
def fnExactFastRuleWrong : ChangeSpec := { name := "fnExactFastRule", fn := fun _ => fun
  | [d1, d2] => { results := [.lit (.bool false)], args := [d1, d2] }
  | _ => none }
def FnExactFastRuleWrongFalsely : Prop := fnExactFastRuleRow.holds Try.pinned (OpenSpec.ofChange fnExactFastRuleWrong)

/-- 'laws.FnExactNeverChosen': WHATEVER THE INPUT: true; the input reads as it did. -/
def fnExactNeverChosenSpec : ChangeSpec := { name := "fnExactNeverChosen", fn := fun _ => fun
  | [d] => { results := [.lit (.bool true)], args := [d] }
  | _ => none }
def fnExactNeverChosenRow : OpenClaim := { program := "ytbiolcbejlghmaa", sum := "e4dbc0aaaf73185982c985c25a9a1a59d40501b586d0cfd31f7efdf84cd611ed", func := "loop.example/g03001/laws.FnExactNeverChosen", spec := "fnExactNeverChosen", apart := false }
def FnExactNeverChosenSaid : Prop := fnExactNeverChosenRow.holds Try.pinned (OpenSpec.ofChange fnExactNeverChosenSpec)

/-- ITS FALSE NEIGHBOUR: 'it returns false'. Refute it at one input. -/
def fnExactNeverChosenWrong : ChangeSpec := { name := "fnExactNeverChosen", fn := fun _ => fun
  | [d] => { results := [.lit (.bool false)], args := [d] }
  | _ => none }
def FnExactNeverChosenWrongFalsely : Prop := fnExactNeverChosenRow.holds Try.pinned (OpenSpec.ofChange fnExactNeverChosenWrong)

/- THE SECOND FORM. 'bulk': how many values and letters a reading holds, each counted each time it is reached (what is shared counts as often as it is met; a slice's spare places count too). A statement '..UptoSaid' is the law's where the arguments, and the package variables that the reading takes, are together of bulk at most 1048576: NARROWER than '..Said'. Prove '..Said' where nothing that the law and all that it calls make is longer than what came in: it says more and counts as full. Else prove '..UptoSaid'. A law counts once. -/
mutual
def uptoBulk {H : Type} : DataW H → Nat
  | .lit (.string bytes) => bytes.length + 1
  | .lit _ => 1
  | .nil => 1
  | .ptr d => uptoBulk d + 1
  | .slice elems spare => uptoBulkAll elems + uptoBulkAll spare + 1
  | .agg parts => uptoBulkAll parts + 1
  | .iface _ d => uptoBulk d + 1
  | .map entries => uptoBulkEntries entries + 1
  | .held _ => 1
def uptoBulkAll {H : Type} : List (DataW H) → Nat
  | [] => 0
  | d :: r => uptoBulk d + uptoBulkAll r
def uptoBulkEntries {H : Type} : List (Lit × DataW H) → Nat
  | [] => 0
  | x :: r => uptoBulkEntry x + uptoBulkEntries r
def uptoBulkEntry {H : Type} : Lit × DataW H → Nat
  | (.string bytes, d) => bytes.length + uptoBulk d + 1
  | (_, d) => uptoBulk d + 1
 end
def uptoSmall : (H : Type) → List (DataW H) → Bool := fun _ ds => decide (uptoBulkAll ds ≤ 1048576)
def OpenSpec.upto (s : _root_.Go.ChangeSpec) : _root_.Go.OpenSpec := { _root_.Go.OpenSpec.ofChange s with cond := some uptoSmall }

/-- 'laws.FnExactClashOf', WHERE WHAT IT READS IS OF BULK AT MOST 1048576: true; the input reads as it did. -/
def fnExactClashOfUptoRow : OpenClaim := { program := "ytbiolcbejlghmaa", sum := "e4dbc0aaaf73185982c985c25a9a1a59d40501b586d0cfd31f7efdf84cd611ed", func := "loop.example/g03001/laws.FnExactClashOf", spec := "fnExactClashOf", apart := false, narrowed := true }
def FnExactClashOfUptoSaid : Prop := fnExactClashOfUptoRow.holds Try.pinned (OpenSpec.upto fnExactClashOfSpec)

/-- 'laws.FnExactEndLending', WHERE WHAT IT READS IS OF BULK AT MOST 1048576: true; the input reads as it did. -/
def fnExactEndLendingUptoRow : OpenClaim := { program := "ytbiolcbejlghmaa", sum := "e4dbc0aaaf73185982c985c25a9a1a59d40501b586d0cfd31f7efdf84cd611ed", func := "loop.example/g03001/laws.FnExactEndLending", spec := "fnExactEndLending", apart := false, narrowed := true }
def FnExactEndLendingUptoSaid : Prop := fnExactEndLendingUptoRow.holds Try.pinned (OpenSpec.upto fnExactEndLendingSpec)

/-- 'laws.FnExactIsShadowed', WHERE WHAT IT READS IS OF BULK AT MOST 1048576: true; the input reads as it did. -/
def fnExactIsShadowedUptoRow : OpenClaim := { program := "ytbiolcbejlghmaa", sum := "e4dbc0aaaf73185982c985c25a9a1a59d40501b586d0cfd31f7efdf84cd611ed", func := "loop.example/g03001/laws.FnExactIsShadowed", spec := "fnExactIsShadowed", apart := false, narrowed := true }
def FnExactIsShadowedUptoSaid : Prop := fnExactIsShadowedUptoRow.holds Try.pinned (OpenSpec.upto fnExactIsShadowedSpec)

/-- 'laws.FnExactClashCount', WHERE WHAT IT READS IS OF BULK AT MOST 1048576: true; the input reads as it did. -/
def fnExactClashCountUptoRow : OpenClaim := { program := "ytbiolcbejlghmaa", sum := "e4dbc0aaaf73185982c985c25a9a1a59d40501b586d0cfd31f7efdf84cd611ed", func := "loop.example/g03001/laws.FnExactClashCount", spec := "fnExactClashCount", apart := false, narrowed := true }
def FnExactClashCountUptoSaid : Prop := fnExactClashCountUptoRow.holds Try.pinned (OpenSpec.upto fnExactClashCountSpec)

/-- 'laws.FnExactMayDo', WHERE WHAT IT READS IS OF BULK AT MOST 1048576: true; the input reads as it did. -/
def fnExactMayDoUptoRow : OpenClaim := { program := "ytbiolcbejlghmaa", sum := "e4dbc0aaaf73185982c985c25a9a1a59d40501b586d0cfd31f7efdf84cd611ed", func := "loop.example/g03001/laws.FnExactMayDo", spec := "fnExactMayDo", apart := false, narrowed := true }
def FnExactMayDoUptoSaid : Prop := fnExactMayDoUptoRow.holds Try.pinned (OpenSpec.upto fnExactMayDoSpec)

/-- 'laws.FnExactAppliesTo', WHERE WHAT IT READS IS OF BULK AT MOST 1048576: true; the input reads as it did. -/
def fnExactAppliesToUptoRow : OpenClaim := { program := "ytbiolcbejlghmaa", sum := "e4dbc0aaaf73185982c985c25a9a1a59d40501b586d0cfd31f7efdf84cd611ed", func := "loop.example/g03001/laws.FnExactAppliesTo", spec := "fnExactAppliesTo", apart := false, narrowed := true }
def FnExactAppliesToUptoSaid : Prop := fnExactAppliesToUptoRow.holds Try.pinned (OpenSpec.upto fnExactAppliesToSpec)

/-- 'laws.FnExactDecideRule', WHERE WHAT IT READS IS OF BULK AT MOST 1048576: true; the input reads as it did. -/
def fnExactDecideRuleUptoRow : OpenClaim := { program := "ytbiolcbejlghmaa", sum := "e4dbc0aaaf73185982c985c25a9a1a59d40501b586d0cfd31f7efdf84cd611ed", func := "loop.example/g03001/laws.FnExactDecideRule", spec := "fnExactDecideRule", apart := false, narrowed := true }
def FnExactDecideRuleUptoSaid : Prop := fnExactDecideRuleUptoRow.holds Try.pinned (OpenSpec.upto fnExactDecideRuleSpec)

/-- 'laws.FnExactActionFor', WHERE WHAT IT READS IS OF BULK AT MOST 1048576: true; the input reads as it did. -/
def fnExactActionForUptoRow : OpenClaim := { program := "ytbiolcbejlghmaa", sum := "e4dbc0aaaf73185982c985c25a9a1a59d40501b586d0cfd31f7efdf84cd611ed", func := "loop.example/g03001/laws.FnExactActionFor", spec := "fnExactActionFor", apart := false, narrowed := true }
def FnExactActionForUptoSaid : Prop := fnExactActionForUptoRow.holds Try.pinned (OpenSpec.upto fnExactActionForSpec)

/-- 'laws.FnExactWhoDecides', WHERE WHAT IT READS IS OF BULK AT MOST 1048576: true; the input reads as it did. -/
def fnExactWhoDecidesUptoRow : OpenClaim := { program := "ytbiolcbejlghmaa", sum := "e4dbc0aaaf73185982c985c25a9a1a59d40501b586d0cfd31f7efdf84cd611ed", func := "loop.example/g03001/laws.FnExactWhoDecides", spec := "fnExactWhoDecides", apart := false, narrowed := true }
def FnExactWhoDecidesUptoSaid : Prop := fnExactWhoDecidesUptoRow.holds Try.pinned (OpenSpec.upto fnExactWhoDecidesSpec)

/-- 'laws.FnExactShadowedRules', WHERE WHAT IT READS IS OF BULK AT MOST 1048576: true; the input reads as it did. -/
def fnExactShadowedRulesUptoRow : OpenClaim := { program := "ytbiolcbejlghmaa", sum := "e4dbc0aaaf73185982c985c25a9a1a59d40501b586d0cfd31f7efdf84cd611ed", func := "loop.example/g03001/laws.FnExactShadowedRules", spec := "fnExactShadowedRules", apart := false, narrowed := true }
def FnExactShadowedRulesUptoSaid : Prop := fnExactShadowedRulesUptoRow.holds Try.pinned (OpenSpec.upto fnExactShadowedRulesSpec)

/-- 'laws.FnExactFastRule', WHERE WHAT IT READS IS OF BULK AT MOST 1048576: true; the input reads as it did. -/
def fnExactFastRuleUptoRow : OpenClaim := { program := "ytbiolcbejlghmaa", sum := "e4dbc0aaaf73185982c985c25a9a1a59d40501b586d0cfd31f7efdf84cd611ed", func := "loop.example/g03001/laws.FnExactFastRule", spec := "fnExactFastRule", apart := false, narrowed := true }
def FnExactFastRuleUptoSaid : Prop := fnExactFastRuleUptoRow.holds Try.pinned (OpenSpec.upto fnExactFastRuleSpec)

/-- 'laws.FnExactNeverChosen', WHERE WHAT IT READS IS OF BULK AT MOST 1048576: true; the input reads as it did. -/
def fnExactNeverChosenUptoRow : OpenClaim := { program := "ytbiolcbejlghmaa", sum := "e4dbc0aaaf73185982c985c25a9a1a59d40501b586d0cfd31f7efdf84cd611ed", func := "loop.example/g03001/laws.FnExactNeverChosen", spec := "fnExactNeverChosen", apart := false, narrowed := true }
def FnExactNeverChosenUptoSaid : Prop := fnExactNeverChosenUptoRow.holds Try.pinned (OpenSpec.upto fnExactNeverChosenSpec)

end Rows
end Go.Proofs.Ytbiolcbejlghmaa
