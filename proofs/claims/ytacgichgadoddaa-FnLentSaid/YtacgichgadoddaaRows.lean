/-
  No cell of these rows narrows 'for every input' (looked for: loops, veiled, ifaces, maps, wideKeys, modest, calm, conditions, laid).
  DERIVED. THE GIVEN ROWS OF THIS SEAT. 12 by the template 'for every input the law returns true; each argument reads behind the call as it read before'; 0 by the template 'total and deterministic' (their statements: YtacgichgadoddaaTotals.lean).
  GIVEN WITH THE SEED: the statements are not yours to turn. If you find one false, say at which input.
  Laid BY PROGRAM, IN A SANDBOX (cutbox-rows.mjs): the forced cells as the released guide's own fill.sh prints them over the translation dedefa2054eb9af6… (all of the seat's roots in one cut). By AI agents, Wed Nov 11 2026. No macro, syntax, notation, axiom, sorry.
-/
import Derived.Test.YtacgichgadoddaaChecked
import GoSem.Claim
import GoSem.ClaimJoined
import GoSem.ClaimMapViews
import Derived.JoinedTies
import Derived.KernelRfl
namespace Go.Proofs.Ytacgichgadoddaa
/- THE CELL 'sum', in the pinned program and in every row, IS THE sha256 OF THE DUMP (.gsa) THAT YtacgichgadoddaaProg.lean LOADS. Nothing in Lean hashes anything: it is a label: what it is worth is what the hold of that sum in a sandbox is worth. -/
noncomputable def Try.pinned : Pinned := { name := "ytacgichgadoddaa", sum := "dedefa2054eb9af66fd3c692851f09068c71405b9b8375072e3bf39c88a3fa42", checked := Try.checked }
namespace Rows
def none {H : Type} : Left H := { results := [], args := [] }

/-- 'laws.FnExactCanAddRule': WHATEVER THE INPUT: true; the input reads as it did. -/
def fnExactCanAddRuleSpec : ChangeSpec := { name := "fnExactCanAddRule", fn := fun _ => fun
  | [d1, d2] => { results := [.lit (.bool true)], args := [d1, d2] }
  | _ => none }
def fnExactCanAddRuleRow : OpenClaim := { program := "ytacgichgadoddaa", sum := "dedefa2054eb9af66fd3c692851f09068c71405b9b8375072e3bf39c88a3fa42", func := "loop.example/g03001/laws.FnExactCanAddRule", spec := "fnExactCanAddRule", apart := false }
def FnExactCanAddRuleSaid : Prop := fnExactCanAddRuleRow.holds Try.pinned (OpenSpec.ofChange fnExactCanAddRuleSpec)

/-- ITS FALSE NEIGHBOUR: 'it returns false'. Refute it at one input. -/
def fnExactCanAddRuleWrong : ChangeSpec := { name := "fnExactCanAddRule", fn := fun _ => fun
  | [d1, d2] => { results := [.lit (.bool false)], args := [d1, d2] }
  | _ => none }
def FnExactCanAddRuleWrongFalsely : Prop := fnExactCanAddRuleRow.holds Try.pinned (OpenSpec.ofChange fnExactCanAddRuleWrong)

/-- 'laws.FnExactAddGrant': WHATEVER THE INPUT: true; the input reads as it did. -/
def fnExactAddGrantSpec : ChangeSpec := { name := "fnExactAddGrant", fn := fun _ => fun
  | [d1, d2] => { results := [.lit (.bool true)], args := [d1, d2] }
  | _ => none }
def fnExactAddGrantRow : OpenClaim := { program := "ytacgichgadoddaa", sum := "dedefa2054eb9af66fd3c692851f09068c71405b9b8375072e3bf39c88a3fa42", func := "loop.example/g03001/laws.FnExactAddGrant", spec := "fnExactAddGrant", apart := false }
def FnExactAddGrantSaid : Prop := fnExactAddGrantRow.holds Try.pinned (OpenSpec.ofChange fnExactAddGrantSpec)

/-- ITS FALSE NEIGHBOUR: 'it returns false'. Refute it at one input. -/
def fnExactAddGrantWrong : ChangeSpec := { name := "fnExactAddGrant", fn := fun _ => fun
  | [d1, d2] => { results := [.lit (.bool false)], args := [d1, d2] }
  | _ => none }
def FnExactAddGrantWrongFalsely : Prop := fnExactAddGrantRow.holds Try.pinned (OpenSpec.ofChange fnExactAddGrantWrong)

/-- 'laws.FnExactLendTo': WHATEVER THE INPUT: true; the input reads as it did. -/
def fnExactLendToSpec : ChangeSpec := { name := "fnExactLendTo", fn := fun _ => fun
  | [d1, d2, d3, d4] => { results := [.lit (.bool true)], args := [d1, d2, d3, d4] }
  | _ => none }
def fnExactLendToRow : OpenClaim := { program := "ytacgichgadoddaa", sum := "dedefa2054eb9af66fd3c692851f09068c71405b9b8375072e3bf39c88a3fa42", func := "loop.example/g03001/laws.FnExactLendTo", spec := "fnExactLendTo", apart := false }
def FnExactLendToSaid : Prop := fnExactLendToRow.holds Try.pinned (OpenSpec.ofChange fnExactLendToSpec)

/-- ITS FALSE NEIGHBOUR: 'it returns false'. Refute it at one input. -/
def fnExactLendToWrong : ChangeSpec := { name := "fnExactLendTo", fn := fun _ => fun
  | [d1, d2, d3, d4] => { results := [.lit (.bool false)], args := [d1, d2, d3, d4] }
  | _ => none }
def FnExactLendToWrongFalsely : Prop := fnExactLendToRow.holds Try.pinned (OpenSpec.ofChange fnExactLendToWrong)

/-- 'laws.FnExactAddRule': WHATEVER THE INPUT: true; the input reads as it did. -/
def fnExactAddRuleSpec : ChangeSpec := { name := "fnExactAddRule", fn := fun _ => fun
  | [d1, d2] => { results := [.lit (.bool true)], args := [d1, d2] }
  | _ => none }
def fnExactAddRuleRow : OpenClaim := { program := "ytacgichgadoddaa", sum := "dedefa2054eb9af66fd3c692851f09068c71405b9b8375072e3bf39c88a3fa42", func := "loop.example/g03001/laws.FnExactAddRule", spec := "fnExactAddRule", apart := false }
def FnExactAddRuleSaid : Prop := fnExactAddRuleRow.holds Try.pinned (OpenSpec.ofChange fnExactAddRuleSpec)

/-- ITS FALSE NEIGHBOUR: 'it returns false'. Refute it at one input. -/
def fnExactAddRuleWrong : ChangeSpec := { name := "fnExactAddRule", fn := fun _ => fun
  | [d1, d2] => { results := [.lit (.bool false)], args := [d1, d2] }
  | _ => none }
def FnExactAddRuleWrongFalsely : Prop := fnExactAddRuleRow.holds Try.pinned (OpenSpec.ofChange fnExactAddRuleWrong)

/-- 'laws.FnGrants': WHATEVER THE INPUT: true; the input reads as it did. -/
def fnGrantsSpec : ChangeSpec := { name := "fnGrants", fn := fun _ => fun
  | [d] => { results := [.lit (.bool true)], args := [d] }
  | _ => none }
def fnGrantsRow : OpenClaim := { program := "ytacgichgadoddaa", sum := "dedefa2054eb9af66fd3c692851f09068c71405b9b8375072e3bf39c88a3fa42", func := "loop.example/g03001/laws.FnGrants", spec := "fnGrants", apart := false }
def FnGrantsSaid : Prop := fnGrantsRow.holds Try.pinned (OpenSpec.ofChange fnGrantsSpec)

/-- ITS FALSE NEIGHBOUR: 'it returns false'. Refute it at one input. -/
def fnGrantsWrong : ChangeSpec := { name := "fnGrants", fn := fun _ => fun
  | [d] => { results := [.lit (.bool false)], args := [d] }
  | _ => none }
def FnGrantsWrongFalsely : Prop := fnGrantsRow.holds Try.pinned (OpenSpec.ofChange fnGrantsWrong)

/-- 'laws.FnLent': WHATEVER THE INPUT: true; the input reads as it did. -/
def fnLentSpec : ChangeSpec := { name := "fnLent", fn := fun _ => fun
  | [d] => { results := [.lit (.bool true)], args := [d] }
  | _ => none }
def fnLentRow : OpenClaim := { program := "ytacgichgadoddaa", sum := "dedefa2054eb9af66fd3c692851f09068c71405b9b8375072e3bf39c88a3fa42", func := "loop.example/g03001/laws.FnLent", spec := "fnLent", apart := false }
def FnLentSaid : Prop := fnLentRow.holds Try.pinned (OpenSpec.ofChange fnLentSpec)

/-- ITS FALSE NEIGHBOUR: 'it returns false'. Refute it at one input. -/
def fnLentWrong : ChangeSpec := { name := "fnLent", fn := fun _ => fun
  | [d] => { results := [.lit (.bool false)], args := [d] }
  | _ => none }
def FnLentWrongFalsely : Prop := fnLentRow.holds Try.pinned (OpenSpec.ofChange fnLentWrong)

/-- 'laws.FnQuotas': WHATEVER THE INPUT: true; the input reads as it did. -/
def fnQuotasSpec : ChangeSpec := { name := "fnQuotas", fn := fun _ => fun
  | [d] => { results := [.lit (.bool true)], args := [d] }
  | _ => none }
def fnQuotasRow : OpenClaim := { program := "ytacgichgadoddaa", sum := "dedefa2054eb9af66fd3c692851f09068c71405b9b8375072e3bf39c88a3fa42", func := "loop.example/g03001/laws.FnQuotas", spec := "fnQuotas", apart := false }
def FnQuotasSaid : Prop := fnQuotasRow.holds Try.pinned (OpenSpec.ofChange fnQuotasSpec)

/-- ITS FALSE NEIGHBOUR: 'it returns false'. Refute it at one input. -/
def fnQuotasWrong : ChangeSpec := { name := "fnQuotas", fn := fun _ => fun
  | [d] => { results := [.lit (.bool false)], args := [d] }
  | _ => none }
def FnQuotasWrongFalsely : Prop := fnQuotasRow.holds Try.pinned (OpenSpec.ofChange fnQuotasWrong)

/-- 'laws.FnRules': WHATEVER THE INPUT: true; the input reads as it did. -/
def fnRulesSpec : ChangeSpec := { name := "fnRules", fn := fun _ => fun
  | [d] => { results := [.lit (.bool true)], args := [d] }
  | _ => none }
def fnRulesRow : OpenClaim := { program := "ytacgichgadoddaa", sum := "dedefa2054eb9af66fd3c692851f09068c71405b9b8375072e3bf39c88a3fa42", func := "loop.example/g03001/laws.FnRules", spec := "fnRules", apart := false }
def FnRulesSaid : Prop := fnRulesRow.holds Try.pinned (OpenSpec.ofChange fnRulesSpec)

/-- ITS FALSE NEIGHBOUR: 'it returns false'. Refute it at one input. -/
def fnRulesWrong : ChangeSpec := { name := "fnRules", fn := fun _ => fun
  | [d] => { results := [.lit (.bool false)], args := [d] }
  | _ => none }
def FnRulesWrongFalsely : Prop := fnRulesRow.holds Try.pinned (OpenSpec.ofChange fnRulesWrong)

/-- 'laws.FnExactIsSettled': WHATEVER THE INPUT: true; the input reads as it did. -/
def fnExactIsSettledSpec : ChangeSpec := { name := "fnExactIsSettled", fn := fun _ => fun
  | [d1, d2] => { results := [.lit (.bool true)], args := [d1, d2] }
  | _ => none }
def fnExactIsSettledRow : OpenClaim := { program := "ytacgichgadoddaa", sum := "dedefa2054eb9af66fd3c692851f09068c71405b9b8375072e3bf39c88a3fa42", func := "loop.example/g03001/laws.FnExactIsSettled", spec := "fnExactIsSettled", apart := false }
def FnExactIsSettledSaid : Prop := fnExactIsSettledRow.holds Try.pinned (OpenSpec.ofChange fnExactIsSettledSpec)

/-- ITS FALSE NEIGHBOUR: 'it returns false'. Refute it at one input. -/
def fnExactIsSettledWrong : ChangeSpec := { name := "fnExactIsSettled", fn := fun _ => fun
  | [d1, d2] => { results := [.lit (.bool false)], args := [d1, d2] }
  | _ => none }
def FnExactIsSettledWrongFalsely : Prop := fnExactIsSettledRow.holds Try.pinned (OpenSpec.ofChange fnExactIsSettledWrong)

/-- 'laws.FnExactLoopsFrom': WHATEVER THE INPUT: true; the input reads as it did. -/
def fnExactLoopsFromSpec : ChangeSpec := { name := "fnExactLoopsFrom", fn := fun _ => fun
  | [d1, d2] => { results := [.lit (.bool true)], args := [d1, d2] }
  | _ => none }
def fnExactLoopsFromRow : OpenClaim := { program := "ytacgichgadoddaa", sum := "dedefa2054eb9af66fd3c692851f09068c71405b9b8375072e3bf39c88a3fa42", func := "loop.example/g03001/laws.FnExactLoopsFrom", spec := "fnExactLoopsFrom", apart := false }
def FnExactLoopsFromSaid : Prop := fnExactLoopsFromRow.holds Try.pinned (OpenSpec.ofChange fnExactLoopsFromSpec)

/-- ITS FALSE NEIGHBOUR: 'it returns false'. Refute it at one input. -/
def fnExactLoopsFromWrong : ChangeSpec := { name := "fnExactLoopsFrom", fn := fun _ => fun
  | [d1, d2] => { results := [.lit (.bool false)], args := [d1, d2] }
  | _ => none }
def FnExactLoopsFromWrongFalsely : Prop := fnExactLoopsFromRow.holds Try.pinned (OpenSpec.ofChange fnExactLoopsFromWrong)

/-- 'laws.FnExactFollowRequest': WHATEVER THE INPUT: true; the input reads as it did. -/
def fnExactFollowRequestSpec : ChangeSpec := { name := "fnExactFollowRequest", fn := fun _ => fun
  | [d1, d2] => { results := [.lit (.bool true)], args := [d1, d2] }
  | _ => none }
def fnExactFollowRequestRow : OpenClaim := { program := "ytacgichgadoddaa", sum := "dedefa2054eb9af66fd3c692851f09068c71405b9b8375072e3bf39c88a3fa42", func := "loop.example/g03001/laws.FnExactFollowRequest", spec := "fnExactFollowRequest", apart := false }
def FnExactFollowRequestSaid : Prop := fnExactFollowRequestRow.holds Try.pinned (OpenSpec.ofChange fnExactFollowRequestSpec)

/-- ITS FALSE NEIGHBOUR: 'it returns false'. Refute it at one input. -/
def fnExactFollowRequestWrong : ChangeSpec := { name := "fnExactFollowRequest", fn := fun _ => fun
  | [d1, d2] => { results := [.lit (.bool false)], args := [d1, d2] }
  | _ => none }
def FnExactFollowRequestWrongFalsely : Prop := fnExactFollowRequestRow.holds Try.pinned (OpenSpec.ofChange fnExactFollowRequestWrong)

/-- 'laws.FnFollowed': WHATEVER THE INPUT: true; the input reads as it did. -/
def fnFollowedSpec : ChangeSpec := { name := "fnFollowed", fn := fun _ => fun
  | [d] => { results := [.lit (.bool true)], args := [d] }
  | _ => none }
def fnFollowedRow : OpenClaim := { program := "ytacgichgadoddaa", sum := "dedefa2054eb9af66fd3c692851f09068c71405b9b8375072e3bf39c88a3fa42", func := "loop.example/g03001/laws.FnFollowed", spec := "fnFollowed", apart := false }
def FnFollowedSaid : Prop := fnFollowedRow.holds Try.pinned (OpenSpec.ofChange fnFollowedSpec)

/-- ITS FALSE NEIGHBOUR: 'it returns false'. Refute it at one input. -/
def fnFollowedWrong : ChangeSpec := { name := "fnFollowed", fn := fun _ => fun
  | [d] => { results := [.lit (.bool false)], args := [d] }
  | _ => none }
def FnFollowedWrongFalsely : Prop := fnFollowedRow.holds Try.pinned (OpenSpec.ofChange fnFollowedWrong)

/- THE SECOND FORM. 'bulk': how many values and letters a reading holds, each counted each time it is reached (what is shared counts as often as it is met; a slice's spare places count too). A statement '..UptoSaid' is the law's where the arguments, and the package variables that the reading takes, are together of bulk at most 1048576: NARROWER than '..Said'. Prove '..Said' where nothing that the law and all that it calls make is longer than what came in: it says more and counts as full. Else prove '..UptoSaid'. A law counts once. -/
mutual
def uptoBulk {H : Type} : DataW H → Nat
  | .lit (.string bytes) => bytes.length + 1
  | .lit _ => 1
  | .nil => 1
  | .ptr d => uptoBulk d + 1
  | .slice elems spare => uptoBulkAll elems + uptoBulkAll spare + 1
  | .agg parts => uptoBulkAll parts + 1
  | .iface _ d => uptoBulk d + 1
  | .map entries => uptoBulkEntries entries + 1
  | .held _ => 1
def uptoBulkAll {H : Type} : List (DataW H) → Nat
  | [] => 0
  | d :: r => uptoBulk d + uptoBulkAll r
def uptoBulkEntries {H : Type} : List (Lit × DataW H) → Nat
  | [] => 0
  | x :: r => uptoBulkEntry x + uptoBulkEntries r
def uptoBulkEntry {H : Type} : Lit × DataW H → Nat
  | (.string bytes, d) => bytes.length + uptoBulk d + 1
  | (_, d) => uptoBulk d + 1
 end
def uptoSmall : (H : Type) → List (DataW H) → Bool := fun _ ds => decide (uptoBulkAll ds ≤ 1048576)
def OpenSpec.upto (s : _root_.Go.ChangeSpec) : _root_.Go.OpenSpec := { _root_.Go.OpenSpec.ofChange s with cond := some uptoSmall }

/-- 'laws.FnExactCanAddRule', WHERE WHAT IT READS IS OF BULK AT MOST 1048576: true; the input reads as it did. -/
def fnExactCanAddRuleUptoRow : OpenClaim := { program := "ytacgichgadoddaa", sum := "dedefa2054eb9af66fd3c692851f09068c71405b9b8375072e3bf39c88a3fa42", func := "loop.example/g03001/laws.FnExactCanAddRule", spec := "fnExactCanAddRule", apart := false, narrowed := true }
def FnExactCanAddRuleUptoSaid : Prop := fnExactCanAddRuleUptoRow.holds Try.pinned (OpenSpec.upto fnExactCanAddRuleSpec)

/-- 'laws.FnExactAddGrant', WHERE WHAT IT READS IS OF BULK AT MOST 1048576: true; the input reads as it did. -/
def fnExactAddGrantUptoRow : OpenClaim := { program := "ytacgichgadoddaa", sum := "dedefa2054eb9af66fd3c692851f09068c71405b9b8375072e3bf39c88a3fa42", func := "loop.example/g03001/laws.FnExactAddGrant", spec := "fnExactAddGrant", apart := false, narrowed := true }
def FnExactAddGrantUptoSaid : Prop := fnExactAddGrantUptoRow.holds Try.pinned (OpenSpec.upto fnExactAddGrantSpec)

/-- 'laws.FnExactLendTo', WHERE WHAT IT READS IS OF BULK AT MOST 1048576: true; the input reads as it did. -/
def fnExactLendToUptoRow : OpenClaim := { program := "ytacgichgadoddaa", sum := "dedefa2054eb9af66fd3c692851f09068c71405b9b8375072e3bf39c88a3fa42", func := "loop.example/g03001/laws.FnExactLendTo", spec := "fnExactLendTo", apart := false, narrowed := true }
def FnExactLendToUptoSaid : Prop := fnExactLendToUptoRow.holds Try.pinned (OpenSpec.upto fnExactLendToSpec)

/-- 'laws.FnExactAddRule', WHERE WHAT IT READS IS OF BULK AT MOST 1048576: true; the input reads as it did. -/
def fnExactAddRuleUptoRow : OpenClaim := { program := "ytacgichgadoddaa", sum := "dedefa2054eb9af66fd3c692851f09068c71405b9b8375072e3bf39c88a3fa42", func := "loop.example/g03001/laws.FnExactAddRule", spec := "fnExactAddRule", apart := false, narrowed := true }
def FnExactAddRuleUptoSaid : Prop := fnExactAddRuleUptoRow.holds Try.pinned (OpenSpec.upto fnExactAddRuleSpec)

/-- 'laws.FnGrants', WHERE WHAT IT READS IS OF BULK AT MOST 1048576: true; the input reads as it did. -/
def fnGrantsUptoRow : OpenClaim := { program := "ytacgichgadoddaa", sum := "dedefa2054eb9af66fd3c692851f09068c71405b9b8375072e3bf39c88a3fa42", func := "loop.example/g03001/laws.FnGrants", spec := "fnGrants", apart := false, narrowed := true }
def FnGrantsUptoSaid : Prop := fnGrantsUptoRow.holds Try.pinned (OpenSpec.upto fnGrantsSpec)

/-- 'laws.FnLent', WHERE WHAT IT READS IS OF BULK AT MOST 1048576: true; the input reads as it did. -/
def fnLentUptoRow : OpenClaim := { program := "ytacgichgadoddaa", sum := "dedefa2054eb9af66fd3c692851f09068c71405b9b8375072e3bf39c88a3fa42", func := "loop.example/g03001/laws.FnLent", spec := "fnLent", apart := false, narrowed := true }
def FnLentUptoSaid : Prop := fnLentUptoRow.holds Try.pinned (OpenSpec.upto fnLentSpec)

/-- 'laws.FnQuotas', WHERE WHAT IT READS IS OF BULK AT MOST 1048576: true; the input reads as it did. -/
def fnQuotasUptoRow : OpenClaim := { program := "ytacgichgadoddaa", sum := "dedefa2054eb9af66fd3c692851f09068c71405b9b8375072e3bf39c88a3fa42", func := "loop.example/g03001/laws.FnQuotas", spec := "fnQuotas", apart := false, narrowed := true }
def FnQuotasUptoSaid : Prop := fnQuotasUptoRow.holds Try.pinned (OpenSpec.upto fnQuotasSpec)

/-- 'laws.FnRules', WHERE WHAT IT READS IS OF BULK AT MOST 1048576: true; the input reads as it did. -/
def fnRulesUptoRow : OpenClaim := { program := "ytacgichgadoddaa", sum := "dedefa2054eb9af66fd3c692851f09068c71405b9b8375072e3bf39c88a3fa42", func := "loop.example/g03001/laws.FnRules", spec := "fnRules", apart := false, narrowed := true }
def FnRulesUptoSaid : Prop := fnRulesUptoRow.holds Try.pinned (OpenSpec.upto fnRulesSpec)

/-- 'laws.FnExactIsSettled', WHERE WHAT IT READS IS OF BULK AT MOST 1048576: true; the input reads as it did. -/
def fnExactIsSettledUptoRow : OpenClaim := { program := "ytacgichgadoddaa", sum := "dedefa2054eb9af66fd3c692851f09068c71405b9b8375072e3bf39c88a3fa42", func := "loop.example/g03001/laws.FnExactIsSettled", spec := "fnExactIsSettled", apart := false, narrowed := true }
def FnExactIsSettledUptoSaid : Prop := fnExactIsSettledUptoRow.holds Try.pinned (OpenSpec.upto fnExactIsSettledSpec)

/-- 'laws.FnExactLoopsFrom', WHERE WHAT IT READS IS OF BULK AT MOST 1048576: true; the input reads as it did. -/
def fnExactLoopsFromUptoRow : OpenClaim := { program := "ytacgichgadoddaa", sum := "dedefa2054eb9af66fd3c692851f09068c71405b9b8375072e3bf39c88a3fa42", func := "loop.example/g03001/laws.FnExactLoopsFrom", spec := "fnExactLoopsFrom", apart := false, narrowed := true }
def FnExactLoopsFromUptoSaid : Prop := fnExactLoopsFromUptoRow.holds Try.pinned (OpenSpec.upto fnExactLoopsFromSpec)

/-- 'laws.FnExactFollowRequest', WHERE WHAT IT READS IS OF BULK AT MOST 1048576: true; the input reads as it did. -/
def fnExactFollowRequestUptoRow : OpenClaim := { program := "ytacgichgadoddaa", sum := "dedefa2054eb9af66fd3c692851f09068c71405b9b8375072e3bf39c88a3fa42", func := "loop.example/g03001/laws.FnExactFollowRequest", spec := "fnExactFollowRequest", apart := false, narrowed := true }
def FnExactFollowRequestUptoSaid : Prop := fnExactFollowRequestUptoRow.holds Try.pinned (OpenSpec.upto fnExactFollowRequestSpec)

/-- 'laws.FnFollowed', WHERE WHAT IT READS IS OF BULK AT MOST 1048576: true; the input reads as it did. -/
def fnFollowedUptoRow : OpenClaim := { program := "ytacgichgadoddaa", sum := "dedefa2054eb9af66fd3c692851f09068c71405b9b8375072e3bf39c88a3fa42", func := "loop.example/g03001/laws.FnFollowed", spec := "fnFollowed", apart := false, narrowed := true }
def FnFollowedUptoSaid : Prop := fnFollowedUptoRow.holds Try.pinned (OpenSpec.upto fnFollowedSpec)

end Rows
end Go.Proofs.Ytacgichgadoddaa
