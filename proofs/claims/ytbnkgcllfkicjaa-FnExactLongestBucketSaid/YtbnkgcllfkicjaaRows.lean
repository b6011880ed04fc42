/-
  No cell of these rows narrows 'for every input' (looked for: loops, veiled, ifaces, maps, wideKeys, modest, calm, conditions, laid).
  DERIVED. THE GIVEN ROWS OF THIS SEAT. 12 by the template 'for every input the law returns true; each argument reads behind the call as it read before'; 0 by the template 'total and deterministic' (their statements: YtbnkgcllfkicjaaTotals.lean).
  GIVEN WITH THE SEED: the statements are not yours to turn. If you find one false, say at which input.
  Laid BY PROGRAM, IN A SANDBOX (cutbox-rows.mjs): the forced cells as the released guide's own fill.sh prints them over the translation 4882d91f59bc0488… (all of the seat's roots in one cut). By AI agents, Wed Nov 11 2026. No macro, syntax, notation, axiom, sorry.
-/
import Derived.Test.YtbnkgcllfkicjaaChecked
import GoSem.Claim
import GoSem.ClaimJoined
import GoSem.ClaimMapViews
import Derived.JoinedTies
import Derived.KernelRfl
namespace Go.Proofs.Ytbnkgcllfkicjaa
/- THE CELL 'sum', in the pinned program and in every row, IS THE sha256 OF THE DUMP (.gsa) THAT YtbnkgcllfkicjaaProg.lean LOADS. Nothing in Lean hashes anything: it is a label: what it is worth is what the hold of that sum in a sandbox is worth. -/
noncomputable def Try.pinned : Pinned := { name := "ytbnkgcllfkicjaa", sum := "4882d91f59bc0488f9ecdd8dbdc1359e383a719a88991a73d67c6408f88c5e42", checked := Try.checked }
namespace Rows
def none {H : Type} : Left H := { results := [], args := [] }

/-- 'laws.FnExactIsDenied': WHATEVER THE INPUT: true; the input reads as it did. -/
def fnExactIsDeniedSpec : ChangeSpec := { name := "fnExactIsDenied", fn := fun _ => fun
  | [d1, d2, d3, d4] => { results := [.lit (.bool true)], args := [d1, d2, d3, d4] }
  | _ => none }
def fnExactIsDeniedRow : OpenClaim := { program := "ytbnkgcllfkicjaa", sum := "4882d91f59bc0488f9ecdd8dbdc1359e383a719a88991a73d67c6408f88c5e42", func := "loop.example/g03001/laws.FnExactIsDenied", spec := "fnExactIsDenied", apart := false }
def FnExactIsDeniedSaid : Prop := fnExactIsDeniedRow.holds Try.pinned (OpenSpec.ofChange fnExactIsDeniedSpec)

/-- ITS FALSE NEIGHBOUR: 'it returns false'. Refute it at one input. -/
def fnExactIsDeniedWrong : ChangeSpec := { name := "fnExactIsDenied", fn := fun _ => fun
  | [d1, d2, d3, d4] => { results := [.lit (.bool false)], args := [d1, d2, d3, d4] }
  | _ => none }
def FnExactIsDeniedWrongFalsely : Prop := fnExactIsDeniedRow.holds Try.pinned (OpenSpec.ofChange fnExactIsDeniedWrong)

/-- 'laws.FnExactEqualRules': WHATEVER THE INPUT: true; the input reads as it did. -/
def fnExactEqualRulesSpec : ChangeSpec := { name := "fnExactEqualRules", fn := fun _ => fun
  | [d1, d2] => { results := [.lit (.bool true)], args := [d1, d2] }
  | _ => none }
def fnExactEqualRulesRow : OpenClaim := { program := "ytbnkgcllfkicjaa", sum := "4882d91f59bc0488f9ecdd8dbdc1359e383a719a88991a73d67c6408f88c5e42", func := "loop.example/g03001/laws.FnExactEqualRules", spec := "fnExactEqualRules", apart := false }
def FnExactEqualRulesSaid : Prop := fnExactEqualRulesRow.holds Try.pinned (OpenSpec.ofChange fnExactEqualRulesSpec)

/-- ITS FALSE NEIGHBOUR: 'it returns false'. Refute it at one input. -/
def fnExactEqualRulesWrong : ChangeSpec := { name := "fnExactEqualRules", fn := fun _ => fun
  | [d1, d2] => { results := [.lit (.bool false)], args := [d1, d2] }
  | _ => none }
def FnExactEqualRulesWrongFalsely : Prop := fnExactEqualRulesRow.holds Try.pinned (OpenSpec.ofChange fnExactEqualRulesWrong)

/-- 'laws.FnExactIsWithinGrants': WHATEVER THE INPUT: true; the input reads as it did. -/
def fnExactIsWithinGrantsSpec : ChangeSpec := { name := "fnExactIsWithinGrants", fn := fun _ => fun
  | [d1, d2] => { results := [.lit (.bool true)], args := [d1, d2] }
  | _ => none }
def fnExactIsWithinGrantsRow : OpenClaim := { program := "ytbnkgcllfkicjaa", sum := "4882d91f59bc0488f9ecdd8dbdc1359e383a719a88991a73d67c6408f88c5e42", func := "loop.example/g03001/laws.FnExactIsWithinGrants", spec := "fnExactIsWithinGrants", apart := false }
def FnExactIsWithinGrantsSaid : Prop := fnExactIsWithinGrantsRow.holds Try.pinned (OpenSpec.ofChange fnExactIsWithinGrantsSpec)

/-- ITS FALSE NEIGHBOUR: 'it returns false'. Refute it at one input. -/
def fnExactIsWithinGrantsWrong : ChangeSpec := { name := "fnExactIsWithinGrants", fn := fun _ => fun
  | [d1, d2] => { results := [.lit (.bool false)], args := [d1, d2] }
  | _ => none }
def FnExactIsWithinGrantsWrongFalsely : Prop := fnExactIsWithinGrantsRow.holds Try.pinned (OpenSpec.ofChange fnExactIsWithinGrantsWrong)

/-- 'laws.FnExactIsAllowed': WHATEVER THE INPUT: true; the input reads as it did. -/
def fnExactIsAllowedSpec : ChangeSpec := { name := "fnExactIsAllowed", fn := fun _ => fun
  | [d1, d2, d3, d4, d5, d6] => { results := [.lit (.bool true)], args := [d1, d2, d3, d4, d5, d6] }
  | _ => none }
def fnExactIsAllowedRow : OpenClaim := { program := "ytbnkgcllfkicjaa", sum := "4882d91f59bc0488f9ecdd8dbdc1359e383a719a88991a73d67c6408f88c5e42", func := "loop.example/g03001/laws.FnExactIsAllowed", spec := "fnExactIsAllowed", apart := false }
def FnExactIsAllowedSaid : Prop := fnExactIsAllowedRow.holds Try.pinned (OpenSpec.ofChange fnExactIsAllowedSpec)

/-- ITS FALSE NEIGHBOUR: 'it returns false'. Refute it at one input. -/
def fnExactIsAllowedWrong : ChangeSpec := { name := "fnExactIsAllowed", fn := fun _ => fun
  | [d1, d2, d3, d4, d5, d6] => { results := [.lit (.bool false)], args := [d1, d2, d3, d4, d5, d6] }
  | _ => none }
def FnExactIsAllowedWrongFalsely : Prop := fnExactIsAllowedRow.holds Try.pinned (OpenSpec.ofChange fnExactIsAllowedWrong)

/-- 'laws.FnExactRoomFor': WHATEVER THE INPUT: true; the input reads as it did. -/
def fnExactRoomForSpec : ChangeSpec := { name := "fnExactRoomFor", fn := fun _ => fun
  | [d1, d2] => { results := [.lit (.bool true)], args := [d1, d2] }
  | _ => none }
def fnExactRoomForRow : OpenClaim := { program := "ytbnkgcllfkicjaa", sum := "4882d91f59bc0488f9ecdd8dbdc1359e383a719a88991a73d67c6408f88c5e42", func := "loop.example/g03001/laws.FnExactRoomFor", spec := "fnExactRoomFor", apart := false }
def FnExactRoomForSaid : Prop := fnExactRoomForRow.holds Try.pinned (OpenSpec.ofChange fnExactRoomForSpec)

/-- ITS FALSE NEIGHBOUR: 'it returns false'. Refute it at one input. -/
def fnExactRoomForWrong : ChangeSpec := { name := "fnExactRoomFor", fn := fun _ => fun
  | [d1, d2] => { results := [.lit (.bool false)], args := [d1, d2] }
  | _ => none }
def FnExactRoomForWrongFalsely : Prop := fnExactRoomForRow.holds Try.pinned (OpenSpec.ofChange fnExactRoomForWrong)

/-- 'laws.FnExactGrantsOf': WHATEVER THE INPUT: true; the input reads as it did. -/
def fnExactGrantsOfSpec : ChangeSpec := { name := "fnExactGrantsOf", fn := fun _ => fun
  | [d1, d2] => { results := [.lit (.bool true)], args := [d1, d2] }
  | _ => none }
def fnExactGrantsOfRow : OpenClaim := { program := "ytbnkgcllfkicjaa", sum := "4882d91f59bc0488f9ecdd8dbdc1359e383a719a88991a73d67c6408f88c5e42", func := "loop.example/g03001/laws.FnExactGrantsOf", spec := "fnExactGrantsOf", apart := false }
def FnExactGrantsOfSaid : Prop := fnExactGrantsOfRow.holds Try.pinned (OpenSpec.ofChange fnExactGrantsOfSpec)

/-- ITS FALSE NEIGHBOUR: 'it returns false'. Refute it at one input. -/
def fnExactGrantsOfWrong : ChangeSpec := { name := "fnExactGrantsOf", fn := fun _ => fun
  | [d1, d2] => { results := [.lit (.bool false)], args := [d1, d2] }
  | _ => none }
def FnExactGrantsOfWrongFalsely : Prop := fnExactGrantsOfRow.holds Try.pinned (OpenSpec.ofChange fnExactGrantsOfWrong)

/-- 'laws.FnExactIsFair': WHATEVER THE INPUT: true; the input reads as it did. -/
def fnExactIsFairSpec : ChangeSpec := { name := "fnExactIsFair", fn := fun _ => fun
  | [d] => { results := [.lit (.bool true)], args := [d] }
  | _ => none }
def fnExactIsFairRow : OpenClaim := { program := "ytbnkgcllfkicjaa", sum := "4882d91f59bc0488f9ecdd8dbdc1359e383a719a88991a73d67c6408f88c5e42", func := "loop.example/g03001/laws.FnExactIsFair", spec := "fnExactIsFair", apart := false }
def FnExactIsFairSaid : Prop := fnExactIsFairRow.holds Try.pinned (OpenSpec.ofChange fnExactIsFairSpec)

/-- ITS FALSE NEIGHBOUR: 'it returns false'. Refute it at one input. -/
def fnExactIsFairWrong : ChangeSpec := { name := "fnExactIsFair", fn := fun _ => fun
  | [d] => { results := [.lit (.bool false)], args := [d] }
  | _ => none }
def FnExactIsFairWrongFalsely : Prop := fnExactIsFairRow.holds Try.pinned (OpenSpec.ofChange fnExactIsFairWrong)

/-- 'laws.FnExactExpireGrants': WHATEVER THE INPUT: true; the input reads as it did. -/
def fnExactExpireGrantsSpec : ChangeSpec := { name := "fnExactExpireGrants", fn := fun _ => fun
  | [d1, d2] => { results := [.lit (.bool true)], args := [d1, d2] }
  | _ => none }
def fnExactExpireGrantsRow : OpenClaim := { program := "ytbnkgcllfkicjaa", sum := "4882d91f59bc0488f9ecdd8dbdc1359e383a719a88991a73d67c6408f88c5e42", func := "loop.example/g03001/laws.FnExactExpireGrants", spec := "fnExactExpireGrants", apart := false }
def FnExactExpireGrantsSaid : Prop := fnExactExpireGrantsRow.holds Try.pinned (OpenSpec.ofChange fnExactExpireGrantsSpec)

/-- ITS FALSE NEIGHBOUR: 'it returns false'. Refute it at one input. -/
def fnExactExpireGrantsWrong : ChangeSpec := { name := "fnExactExpireGrants", fn := fun _ => fun
  | [d1, d2] => { results := [.lit (.bool false)], args := [d1, d2] }
  | _ => none }
def FnExactExpireGrantsWrongFalsely : Prop := fnExactExpireGrantsRow.holds Try.pinned (OpenSpec.ofChange fnExactExpireGrantsWrong)

/-- 'laws.FnExactCountTable': WHATEVER THE INPUT: true; the input reads as it did. -/
def fnExactCountTableSpec : ChangeSpec := { name := "fnExactCountTable", fn := fun _ => fun
  | [d] => { results := [.lit (.bool true)], args := [d] }
  | _ => none }
def fnExactCountTableRow : OpenClaim := { program := "ytbnkgcllfkicjaa", sum := "4882d91f59bc0488f9ecdd8dbdc1359e383a719a88991a73d67c6408f88c5e42", func := "loop.example/g03001/laws.FnExactCountTable", spec := "fnExactCountTable", apart := false }
def FnExactCountTableSaid : Prop := fnExactCountTableRow.holds Try.pinned (OpenSpec.ofChange fnExactCountTableSpec)

/-- ITS FALSE NEIGHBOUR: 'it returns false'. Refute it at one input. -/
def fnExactCountTableWrong : ChangeSpec := { name := "fnExactCountTable", fn := fun _ => fun
  | [d] => { results := [.lit (.bool false)], args := [d] }
  | _ => none }
def FnExactCountTableWrongFalsely : Prop := fnExactCountTableRow.holds Try.pinned (OpenSpec.ofChange fnExactCountTableWrong)

/-- 'laws.FnExactDropRules': WHATEVER THE INPUT: true; the input reads as it did. -/
def fnExactDropRulesSpec : ChangeSpec := { name := "fnExactDropRules", fn := fun _ => fun
  | [d1, d2] => { results := [.lit (.bool true)], args := [d1, d2] }
  | _ => none }
def fnExactDropRulesRow : OpenClaim := { program := "ytbnkgcllfkicjaa", sum := "4882d91f59bc0488f9ecdd8dbdc1359e383a719a88991a73d67c6408f88c5e42", func := "loop.example/g03001/laws.FnExactDropRules", spec := "fnExactDropRules", apart := false }
def FnExactDropRulesSaid : Prop := fnExactDropRulesRow.holds Try.pinned (OpenSpec.ofChange fnExactDropRulesSpec)

/-- ITS FALSE NEIGHBOUR: 'it returns false'. Refute it at one input. -/
def fnExactDropRulesWrong : ChangeSpec := { name := "fnExactDropRules", fn := fun _ => fun
  | [d1, d2] => { results := [.lit (.bool false)], args := [d1, d2] }
  | _ => none }
def FnExactDropRulesWrongFalsely : Prop := fnExactDropRulesRow.holds Try.pinned (OpenSpec.ofChange fnExactDropRulesWrong)

/-- 'laws.FnExactRulesOf': WHATEVER THE INPUT: true; the input reads as it did. -/
def fnExactRulesOfSpec : ChangeSpec := { name := "fnExactRulesOf", fn := fun _ => fun
  | [d1, d2] => { results := [.lit (.bool true)], args := [d1, d2] }
  | _ => none }
def fnExactRulesOfRow : OpenClaim := { program := "ytbnkgcllfkicjaa", sum := "4882d91f59bc0488f9ecdd8dbdc1359e383a719a88991a73d67c6408f88c5e42", func := "loop.example/g03001/laws.FnExactRulesOf", spec := "fnExactRulesOf", apart := false }
def FnExactRulesOfSaid : Prop := fnExactRulesOfRow.holds Try.pinned (OpenSpec.ofChange fnExactRulesOfSpec)

/-- ITS FALSE NEIGHBOUR: 'it returns false'. Refute it at one input. -/
def fnExactRulesOfWrong : ChangeSpec := { name := "fnExactRulesOf", fn := fun _ => fun
  | [d1, d2] => { results := [.lit (.bool false)], args := [d1, d2] }
  | _ => none }
def FnExactRulesOfWrongFalsely : Prop := fnExactRulesOfRow.holds Try.pinned (OpenSpec.ofChange fnExactRulesOfWrong)

/-- 'laws.FnExactLongestBucket': WHATEVER THE INPUT: true; the input reads as it did. -/
def fnExactLongestBucketSpec : ChangeSpec := { name := "fnExactLongestBucket", fn := fun _ => fun
  | [d] => { results := [.lit (.bool true)], args := [d] }
  | _ => none }
def fnExactLongestBucketRow : OpenClaim := { program := "ytbnkgcllfkicjaa", sum := "4882d91f59bc0488f9ecdd8dbdc1359e383a719a88991a73d67c6408f88c5e42", func := "loop.example/g03001/laws.FnExactLongestBucket", spec := "fnExactLongestBucket", apart := false }
def FnExactLongestBucketSaid : Prop := fnExactLongestBucketRow.holds Try.pinned (OpenSpec.ofChange fnExactLongestBucketSpec)

/-- ITS FALSE NEIGHBOUR: 'it returns false'. Refute it at one input. -/
def fnExactLongestBucketWrong : ChangeSpec := { name := "fnExactLongestBucket", fn := fun _ => fun
  | [d] => { results := [.lit (.bool false)], args := [d] }
  | _ => none }
def FnExactLongestBucketWrongFalsely : Prop := fnExactLongestBucketRow.holds Try.pinned (OpenSpec.ofChange fnExactLongestBucketWrong)

/- THE SECOND FORM. 'bulk': how many values and letters a reading holds, each counted each time it is reached (what is shared counts as often as it is met; a slice's spare places count too). A statement '..UptoSaid' is the law's where the arguments, and the package variables that the reading takes, are together of bulk at most 1048576: NARROWER than '..Said'. Prove '..Said' where nothing that the law and all that it calls make is longer than what came in: it says more and counts as full. Else prove '..UptoSaid'. A law counts once. -/
mutual
def uptoBulk {H : Type} : DataW H → Nat
  | .lit (.string bytes) => bytes.length + 1
  | .lit _ => 1
  | .nil => 1
  | .ptr d => uptoBulk d + 1
  | .slice elems spare => uptoBulkAll elems + uptoBulkAll spare + 1
  | .agg parts => uptoBulkAll parts + 1
  | .iface _ d => uptoBulk d + 1
  | .map entries => uptoBulkEntries entries + 1
  | .held _ => 1
def uptoBulkAll {H : Type} : List (DataW H) → Nat
  | [] => 0
  | d :: r => uptoBulk d + uptoBulkAll r
def uptoBulkEntries {H : Type} : List (Lit × DataW H) → Nat
  | [] => 0
  | x :: r => uptoBulkEntry x + uptoBulkEntries r
def uptoBulkEntry {H : Type} : Lit × DataW H → Nat
  | (.string bytes, d) => bytes.length + uptoBulk d + 1
  | (_, d) => uptoBulk d + 1
 end
def uptoSmall : (H : Type) → List (DataW H) → Bool := fun _ ds => decide (uptoBulkAll ds ≤ 1048576)
def OpenSpec.upto (s : _root_.Go.ChangeSpec) : _root_.Go.OpenSpec := { _root_.Go.OpenSpec.ofChange s with cond := some uptoSmall }

/-- 'laws.FnExactIsDenied', WHERE WHAT IT READS IS OF BULK AT MOST 1048576: true; the input reads as it did. -/
def fnExactIsDeniedUptoRow : OpenClaim := { program := "ytbnkgcllfkicjaa", sum := "4882d91f59bc0488f9ecdd8dbdc1359e383a719a88991a73d67c6408f88c5e42", func := "loop.example/g03001/laws.FnExactIsDenied", spec := "fnExactIsDenied", apart := false, narrowed := true }
def FnExactIsDeniedUptoSaid : Prop := fnExactIsDeniedUptoRow.holds Try.pinned (OpenSpec.upto fnExactIsDeniedSpec)

/-- 'laws.FnExactEqualRules', WHERE WHAT IT READS IS OF BULK AT MOST 1048576: true; the input reads as it did. -/
def fnExactEqualRulesUptoRow : OpenClaim := { program := "ytbnkgcllfkicjaa", sum := "4882d91f59bc0488f9ecdd8dbdc1359e383a719a88991a73d67c6408f88c5e42", func := "loop.example/g03001/laws.FnExactEqualRules", spec := "fnExactEqualRules", apart := false, narrowed := true }
def FnExactEqualRulesUptoSaid : Prop := fnExactEqualRulesUptoRow.holds Try.pinned (OpenSpec.upto fnExactEqualRulesSpec)

/-- 'laws.FnExactIsWithinGrants', WHERE WHAT IT READS IS OF BULK AT MOST 1048576: true; the input reads as it did. -/
def fnExactIsWithinGrantsUptoRow : OpenClaim := { program := "ytbnkgcllfkicjaa", sum := "4882d91f59bc0488f9ecdd8dbdc1359e383a719a88991a73d67c6408f88c5e42", func := "loop.example/g03001/laws.FnExactIsWithinGrants", spec := "fnExactIsWithinGrants", apart := false, narrowed := true }
def FnExactIsWithinGrantsUptoSaid : Prop := fnExactIsWithinGrantsUptoRow.holds Try.pinned (OpenSpec.upto fnExactIsWithinGrantsSpec)

/-- 'laws.FnExactIsAllowed', WHERE WHAT IT READS IS OF BULK AT MOST 1048576: true; the input reads as it did. -/
def fnExactIsAllowedUptoRow : OpenClaim := { program := "ytbnkgcllfkicjaa", sum := "4882d91f59bc0488f9ecdd8dbdc1359e383a719a88991a73d67c6408f88c5e42", func := "loop.example/g03001/laws.FnExactIsAllowed", spec := "fnExactIsAllowed", apart := false, narrowed := true }
def FnExactIsAllowedUptoSaid : Prop := fnExactIsAllowedUptoRow.holds Try.pinned (OpenSpec.upto fnExactIsAllowedSpec)

/-- 'laws.FnExactRoomFor', WHERE WHAT IT READS IS OF BULK AT MOST 1048576: true; the input reads as it did. -/
def fnExactRoomForUptoRow : OpenClaim := { program := "ytbnkgcllfkicjaa", sum := "4882d91f59bc0488f9ecdd8dbdc1359e383a719a88991a73d67c6408f88c5e42", func := "loop.example/g03001/laws.FnExactRoomFor", spec := "fnExactRoomFor", apart := false, narrowed := true }
def FnExactRoomForUptoSaid : Prop := fnExactRoomForUptoRow.holds Try.pinned (OpenSpec.upto fnExactRoomForSpec)

/-- 'laws.FnExactGrantsOf', WHERE WHAT IT READS IS OF BULK AT MOST 1048576: true; the input reads as it did. -/
def fnExactGrantsOfUptoRow : OpenClaim := { program := "ytbnkgcllfkicjaa", sum := "4882d91f59bc0488f9ecdd8dbdc1359e383a719a88991a73d67c6408f88c5e42", func := "loop.example/g03001/laws.FnExactGrantsOf", spec := "fnExactGrantsOf", apart := false, narrowed := true }
def FnExactGrantsOfUptoSaid : Prop := fnExactGrantsOfUptoRow.holds Try.pinned (OpenSpec.upto fnExactGrantsOfSpec)

/-- 'laws.FnExactIsFair', WHERE WHAT IT READS IS OF BULK AT MOST 1048576: true; the input reads as it did. -/
def fnExactIsFairUptoRow : OpenClaim := { program := "ytbnkgcllfkicjaa", sum := "4882d91f59bc0488f9ecdd8dbdc1359e383a719a88991a73d67c6408f88c5e42", func := "loop.example/g03001/laws.FnExactIsFair", spec := "fnExactIsFair", apart := false, narrowed := true }
def FnExactIsFairUptoSaid : Prop := fnExactIsFairUptoRow.holds Try.pinned (OpenSpec.upto fnExactIsFairSpec)

/-- 'laws.FnExactExpireGrants', WHERE WHAT IT READS IS OF BULK AT MOST 1048576: true; the input reads as it did. -/
def fnExactExpireGrantsUptoRow : OpenClaim := { program := "ytbnkgcllfkicjaa", sum := "4882d91f59bc0488f9ecdd8dbdc1359e383a719a88991a73d67c6408f88c5e42", func := "loop.example/g03001/laws.FnExactExpireGrants", spec := "fnExactExpireGrants", apart := false, narrowed := true }
def FnExactExpireGrantsUptoSaid : Prop := fnExactExpireGrantsUptoRow.holds Try.pinned (OpenSpec.upto fnExactExpireGrantsSpec)

/-- 'laws.FnExactCountTable', WHERE WHAT IT READS IS OF BULK AT MOST 1048576: true; the input reads as it did. -/
def fnExactCountTableUptoRow : OpenClaim := { program := "ytbnkgcllfkicjaa", sum := "4882d91f59bc0488f9ecdd8dbdc1359e383a719a88991a73d67c6408f88c5e42", func := "loop.example/g03001/laws.FnExactCountTable", spec := "fnExactCountTable", apart := false, narrowed := true }
def FnExactCountTableUptoSaid : Prop := fnExactCountTableUptoRow.holds Try.pinned (OpenSpec.upto fnExactCountTableSpec)

/-- 'laws.FnExactDropRules', WHERE WHAT IT READS IS OF BULK AT MOST 1048576: true; the input reads as it did. -/
def fnExactDropRulesUptoRow : OpenClaim := { program := "ytbnkgcllfkicjaa", sum := "4882d91f59bc0488f9ecdd8dbdc1359e383a719a88991a73d67c6408f88c5e42", func := "loop.example/g03001/laws.FnExactDropRules", spec := "fnExactDropRules", apart := false, narrowed := true }
def FnExactDropRulesUptoSaid : Prop := fnExactDropRulesUptoRow.holds Try.pinned (OpenSpec.upto fnExactDropRulesSpec)

/-- 'laws.FnExactRulesOf', WHERE WHAT IT READS IS OF BULK AT MOST 1048576: true; the input reads as it did. -/
def fnExactRulesOfUptoRow : OpenClaim := { program := "ytbnkgcllfkicjaa", sum := "4882d91f59bc0488f9ecdd8dbdc1359e383a719a88991a73d67c6408f88c5e42", func := "loop.example/g03001/laws.FnExactRulesOf", spec := "fnExactRulesOf", apart := false, narrowed := true }
def FnExactRulesOfUptoSaid : Prop := fnExactRulesOfUptoRow.holds Try.pinned (OpenSpec.upto fnExactRulesOfSpec)

/-- 'laws.FnExactLongestBucket', WHERE WHAT IT READS IS OF BULK AT MOST 1048576: true; the input reads as it did. -/
def fnExactLongestBucketUptoRow : OpenClaim := { program := "ytbnkgcllfkicjaa", sum := "4882d91f59bc0488f9ecdd8dbdc1359e383a719a88991a73d67c6408f88c5e42", func := "loop.example/g03001/laws.FnExactLongestBucket", spec := "fnExactLongestBucket", apart := false, narrowed := true }
def FnExactLongestBucketUptoSaid : Prop := fnExactLongestBucketUptoRow.holds Try.pinned (OpenSpec.upto fnExactLongestBucketSpec)

end Rows
end Go.Proofs.Ytbnkgcllfkicjaa
