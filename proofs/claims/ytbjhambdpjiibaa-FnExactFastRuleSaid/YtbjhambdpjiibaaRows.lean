/-
  No cell of these rows narrows 'for every input' (looked for: loops, veiled, ifaces, maps, wideKeys, modest, calm, conditions, laid).
  DERIVED. THE GIVEN ROWS OF THIS SEAT. 3 by the template 'for every input the law returns true; each argument reads behind the call as it read before'; 0 by the template 'total and deterministic' (their statements: YtbjhambdpjiibaaTotals.lean).
  GIVEN WITH THE SEED: the statements are not yours to turn. If you find one false, say at which input.
  Laid BY PROGRAM, IN A SANDBOX (cutbox-rows.mjs): the forced cells as the released guide's own fill.sh prints them over the translation 6c62db0206ab107f… (all of the seat's roots in one cut). By AI agents, Wed Nov 11 2026. No macro, syntax, notation, axiom, sorry.
-/
import Derived.Test.YtbjhambdpjiibaaChecked
import GoSem.Claim
import GoSem.ClaimJoined
import GoSem.ClaimMapViews
import Derived.JoinedTies
import Derived.KernelRfl
namespace Go.Proofs.Ytbjhambdpjiibaa
/- THE CELL 'sum', in the pinned program and in every row, IS THE sha256 OF THE DUMP (.gsa) THAT YtbjhambdpjiibaaProg.lean LOADS. Nothing in Lean hashes anything: it is a label: what it is worth is what the hold of that sum in a sandbox is worth. -/
noncomputable def Try.pinned : Pinned := { name := "ytbjhambdpjiibaa", sum := "6c62db0206ab107fc68ce216854317362dc4f86bbaf8131c6317024c4075ec2a", checked := Try.checked }
namespace Rows
def none {H : Type} : Left H := { results := [], args := [] }

/-- 'laws.FnExactIsShadowed': WHATEVER THE INPUT: true; the input reads as it did. -/
def fnExactIsShadowedSpec : ChangeSpec := { name := "fnExactIsShadowed", fn := fun _ => fun
  | [d1, d2] => { results := [.lit (.bool true)], args := [d1, d2] }
  | _ => none }
def fnExactIsShadowedRow : OpenClaim := { program := "ytbjhambdpjiibaa", sum := "6c62db0206ab107fc68ce216854317362dc4f86bbaf8131c6317024c4075ec2a", func := "loop.example/g03001/laws.FnExactIsShadowed", spec := "fnExactIsShadowed", apart := false }
def FnExactIsShadowedSaid : Prop := fnExactIsShadowedRow.holds Try.pinned (OpenSpec.ofChange fnExactIsShadowedSpec)

/-- ITS FALSE NEIGHBOUR: 'it returns false'. Refute it at one input. -/
def fnExactIsShadowedWrong : ChangeSpec := { name := "fnExactIsShadowed", fn := fun _ => fun
  | [d1, d2] => { results := [.lit (.bool false)], args := [d1, d2] }
  | _ => none }
def FnExactIsShadowedWrongFalsely : Prop := fnExactIsShadowedRow.holds Try.pinned (OpenSpec.ofChange fnExactIsShadowedWrong)

/-- 'laws.FnExactShadowedRules': WHATEVER THE INPUT: true; the input reads as it did. -/
def fnExactShadowedRulesSpec : ChangeSpec := { name := "fnExactShadowedRules", fn := fun _ => fun
  | [d] => { results := [.lit (.bool true)], args := [d] }
  | _ => none }
def fnExactShadowedRulesRow : OpenClaim := { program := "ytbjhambdpjiibaa", sum := "6c62db0206ab107fc68ce216854317362dc4f86bbaf8131c6317024c4075ec2a", func := "loop.example/g03001/laws.FnExactShadowedRules", spec := "fnExactShadowedRules", apart := false }
def FnExactShadowedRulesSaid : Prop := fnExactShadowedRulesRow.holds Try.pinned (OpenSpec.ofChange fnExactShadowedRulesSpec)

/-- ITS FALSE NEIGHBOUR: 'it returns false'. Refute it at one input. -/
def fnExactShadowedRulesWrong : ChangeSpec := { name := "fnExactShadowedRules", fn := fun _ => fun
  | [d] => { results := [.lit (.bool false)], args := [d] }
  | _ => none }
def FnExactShadowedRulesWrongFalsely : Prop := fnExactShadowedRulesRow.holds Try.pinned (OpenSpec.ofChange fnExactShadowedRulesWrong)

/-- 'laws.FnExactFastRule': WHATEVER THE INPUT: true; the input reads as it did. -/
def fnExactFastRuleSpec : ChangeSpec := { name := "fnExactFastRule", fn := fun _ => fun
  | [d1, d2] => { results := [.lit (.bool true)], args := [d1, d2] }
  | _ => none }
def fnExactFastRuleRow : OpenClaim := { program := "ytbjhambdpjiibaa", sum := "6c62db0206ab107fc68ce216854317362dc4f86bbaf8131c6317024c4075ec2a", func := "loop.example/g03001/laws.FnExactFastRule", spec := "fnExactFastRule", apart := false }
def FnExactFastRuleSaid : Prop := fnExactFastRuleRow.holds Try.pinned (OpenSpec.ofChange fnExactFastRuleSpec)

/-- ITS FALSE NEIGHBOUR: 'it returns false'. Refute it at one input. -/
def fnExactFastRuleWrong : ChangeSpec := { name := "fnExactFastRule", fn := fun _ => fun
  | [d1, d2] => { results := [.lit (.bool false)], args := [d1, d2] }
  | _ => none }
def FnExactFastRuleWrongFalsely : Prop := fnExactFastRuleRow.holds Try.pinned (OpenSpec.ofChange fnExactFastRuleWrong)

/- THE SECOND FORM. 'bulk': how many values and letters a reading holds, each counted each time it is reached (what is shared counts as often as it is met; a slice's spare places count too). A statement '..UptoSaid' is the law's where the arguments, and the package variables that the reading takes, are together of bulk at most 1048576: NARROWER than '..Said'. Prove '..Said' where nothing that the law and all that it calls make is longer than what came in: it says more and counts as full. Else prove '..UptoSaid'. A law counts once. -/
mutual
def uptoBulk {H : Type} : DataW H → Nat
  | .lit (.string bytes) => bytes.length + 1
  | .lit _ => 1
  | .nil => 1
  | .ptr d => uptoBulk d + 1
  | .slice elems spare => uptoBulkAll elems + uptoBulkAll spare + 1
  | .agg parts => uptoBulkAll parts + 1
  | .iface _ d => uptoBulk d + 1
  | .map entries => uptoBulkEntries entries + 1
  | .held _ => 1
def uptoBulkAll {H : Type} : List (DataW H) → Nat
  | [] => 0
  | d :: r => uptoBulk d + uptoBulkAll r
def uptoBulkEntries {H : Type} : List (Lit × DataW H) → Nat
  | [] => 0
  | x :: r => uptoBulkEntry x + uptoBulkEntries r
def uptoBulkEntry {H : Type} : Lit × DataW H → Nat
  | (.string bytes, d) => bytes.length + uptoBulk d + 1
  | (_, d) => uptoBulk d + 1
 end
def uptoSmall : (H : Type) → List (DataW H) → Bool := fun _ ds => decide (uptoBulkAll ds ≤ 1048576)
def OpenSpec.upto (s : _root_.Go.ChangeSpec) : _root_.Go.OpenSpec := { _root_.Go.OpenSpec.ofChange s with cond := some uptoSmall }

/-- 'laws.FnExactIsShadowed', WHERE WHAT IT READS IS OF BULK AT MOST 1048576: true; the input reads as it did. -/
def fnExactIsShadowedUptoRow : OpenClaim := { program := "ytbjhambdpjiibaa", sum := "6c62db0206ab107fc68ce216854317362dc4f86bbaf8131c6317024c4075ec2a", func := "loop.example/g03001/laws.FnExactIsShadowed", spec := "fnExactIsShadowed", apart := false, narrowed := true }
def FnExactIsShadowedUptoSaid : Prop := fnExactIsShadowedUptoRow.holds Try.pinned (OpenSpec.upto fnExactIsShadowedSpec)

/-- 'laws.FnExactShadowedRules', WHERE WHAT IT READS IS OF BULK AT MOST 1048576: true; the input reads as it did. -/
def fnExactShadowedRulesUptoRow : OpenClaim := { program := "ytbjhambdpjiibaa", sum := "6c62db0206ab107fc68ce216854317362dc4f86bbaf8131c6317024c4075ec2a", func := "loop.example/g03001/laws.FnExactShadowedRules", spec := "fnExactShadowedRules", apart := false, narrowed := true }
def FnExactShadowedRulesUptoSaid : Prop := fnExactShadowedRulesUptoRow.holds Try.pinned (OpenSpec.upto fnExactShadowedRulesSpec)

/-- 'laws.FnExactFastRule', WHERE WHAT IT READS IS OF BULK AT MOST 1048576: true; the input reads as it did. -/
def fnExactFastRuleUptoRow : OpenClaim := { program := "ytbjhambdpjiibaa", sum := "6c62db0206ab107fc68ce216854317362dc4f86bbaf8131c6317024c4075ec2a", func := "loop.example/g03001/laws.FnExactFastRule", spec := "fnExactFastRule", apart := false, narrowed := true }
def FnExactFastRuleUptoSaid : Prop := fnExactFastRuleUptoRow.holds Try.pinned (OpenSpec.upto fnExactFastRuleSpec)

end Rows
end Go.Proofs.Ytbjhambdpjiibaa
