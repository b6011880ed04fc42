/-
  No cell of these rows narrows 'for every input' (looked for: loops, veiled, ifaces, maps, wideKeys, modest, calm, conditions, laid).
  DERIVED. THE GIVEN ROWS OF THIS SEAT. 6 by the template 'for every input the law returns true; each argument reads behind the call as it read before'; 0 by the template 'total and deterministic' (their statements: YtgjbmfmolnjfkaaTotals.lean).
  GIVEN WITH THE SEED: the statements are not yours to turn. If you find one false, say at which input.
  Laid BY PROGRAM, IN A SANDBOX (cutbox-rows.mjs): the forced cells as the released guide's own fill.sh prints them over the translation 45e7db25b5b86560… (all of the seat's roots in one cut). By AI agents, Wed Nov 11 2026. No macro, syntax, notation, axiom, sorry.
-/
import Derived.Test.YtgjbmfmolnjfkaaChecked
import GoSem.Claim
import GoSem.ClaimJoined
import GoSem.ClaimMapViews
import Derived.JoinedTies
import Derived.KernelRfl
namespace Go.Proofs.Ytgjbmfmolnjfkaa
/- THE CELL 'sum', in the pinned program and in every row, IS THE sha256 OF THE DUMP (.gsa) THAT YtgjbmfmolnjfkaaProg.lean LOADS. Nothing in Lean hashes anything: it is a label: what it is worth is what the hold of that sum in a sandbox is worth. -/
noncomputable def Try.pinned : Pinned := { name := "ytgjbmfmolnjfkaa", sum := "45e7db25b5b865606ada13ac678973fcc3ed090de8d2e8247b4341e34c638d7a", checked := Try.checked }
namespace Rows
def none {H : Type} : Left H := { results := [], args := [] }

/-- 'laws.FnExactIsLabel': WHATEVER THE INPUT: true; the input reads as it did. -/
def fnExactIsLabelSpec : ChangeSpec := { name := "fnExactIsLabel", fn := fun _ => fun
  | [d] => { results := [.lit (.bool true)], args := [d] }
  | _ => none }
def fnExactIsLabelRow : OpenClaim := { program := "ytgjbmfmolnjfkaa", sum := "45e7db25b5b865606ada13ac678973fcc3ed090de8d2e8247b4341e34c638d7a", func := "loop.example/g03001/laws.FnExactIsLabel", spec := "fnExactIsLabel", apart := false }
def FnExactIsLabelSaid : Prop := fnExactIsLabelRow.holds Try.pinned (OpenSpec.ofChange fnExactIsLabelSpec)

/-- ITS FALSE NEIGHBOUR: 'it returns false'. Refute it at one input. -/
def fnExactIsLabelWrong : ChangeSpec := { name := "fnExactIsLabel", fn := fun _ => fun
  | [d] => { results := [.lit (.bool false)], args := [d] }
  | _ => none }
def FnExactIsLabelWrongFalsely : Prop := fnExactIsLabelRow.holds Try.pinned (OpenSpec.ofChange fnExactIsLabelWrong)

/-- 'laws.FnExactActionName': WHATEVER THE INPUT: true; the input reads as it did. -/
def fnExactActionNameSpec : ChangeSpec := { name := "fnExactActionName", fn := fun _ => fun
  | [d] => { results := [.lit (.bool true)], args := [d] }
  | _ => none }
def fnExactActionNameRow : OpenClaim := { program := "ytgjbmfmolnjfkaa", sum := "45e7db25b5b865606ada13ac678973fcc3ed090de8d2e8247b4341e34c638d7a", func := "loop.example/g03001/laws.FnExactActionName", spec := "fnExactActionName", apart := false }
def FnExactActionNameSaid : Prop := fnExactActionNameRow.holds Try.pinned (OpenSpec.ofChange fnExactActionNameSpec)

/-- ITS FALSE NEIGHBOUR: 'it returns false'. Refute it at one input. -/
def fnExactActionNameWrong : ChangeSpec := { name := "fnExactActionName", fn := fun _ => fun
  | [d] => { results := [.lit (.bool false)], args := [d] }
  | _ => none }
def FnExactActionNameWrongFalsely : Prop := fnExactActionNameRow.holds Try.pinned (OpenSpec.ofChange fnExactActionNameWrong)

/-- 'laws.FnExactIsRequest': WHATEVER THE INPUT: true; the input reads as it did. -/
def fnExactIsRequestSpec : ChangeSpec := { name := "fnExactIsRequest", fn := fun _ => fun
  | [d] => { results := [.lit (.bool true)], args := [d] }
  | _ => none }
def fnExactIsRequestRow : OpenClaim := { program := "ytgjbmfmolnjfkaa", sum := "45e7db25b5b865606ada13ac678973fcc3ed090de8d2e8247b4341e34c638d7a", func := "loop.example/g03001/laws.FnExactIsRequest", spec := "fnExactIsRequest", apart := false }
def FnExactIsRequestSaid : Prop := fnExactIsRequestRow.holds Try.pinned (OpenSpec.ofChange fnExactIsRequestSpec)

/-- ITS FALSE NEIGHBOUR: 'it returns false'. Refute it at one input. -/
def fnExactIsRequestWrong : ChangeSpec := { name := "fnExactIsRequest", fn := fun _ => fun
  | [d] => { results := [.lit (.bool false)], args := [d] }
  | _ => none }
def FnExactIsRequestWrongFalsely : Prop := fnExactIsRequestRow.holds Try.pinned (OpenSpec.ofChange fnExactIsRequestWrong)

/-- 'laws.FnExactOutcomeName': WHATEVER THE INPUT: true; the input reads as it did. -/
def fnExactOutcomeNameSpec : ChangeSpec := { name := "fnExactOutcomeName", fn := fun _ => fun
  | [d] => { results := [.lit (.bool true)], args := [d] }
  | _ => none }
def fnExactOutcomeNameRow : OpenClaim := { program := "ytgjbmfmolnjfkaa", sum := "45e7db25b5b865606ada13ac678973fcc3ed090de8d2e8247b4341e34c638d7a", func := "loop.example/g03001/laws.FnExactOutcomeName", spec := "fnExactOutcomeName", apart := false }
def FnExactOutcomeNameSaid : Prop := fnExactOutcomeNameRow.holds Try.pinned (OpenSpec.ofChange fnExactOutcomeNameSpec)

/-- ITS FALSE NEIGHBOUR: 'it returns false'. Refute it at one input. -/
def fnExactOutcomeNameWrong : ChangeSpec := { name := "fnExactOutcomeName", fn := fun _ => fun
  | [d] => { results := [.lit (.bool false)], args := [d] }
  | _ => none }
def FnExactOutcomeNameWrongFalsely : Prop := fnExactOutcomeNameRow.holds Try.pinned (OpenSpec.ofChange fnExactOutcomeNameWrong)

/-- 'laws.FnExactIsLimit': WHATEVER THE INPUT: true; the input reads as it did. -/
def fnExactIsLimitSpec : ChangeSpec := { name := "fnExactIsLimit", fn := fun _ => fun
  | [d] => { results := [.lit (.bool true)], args := [d] }
  | _ => none }
def fnExactIsLimitRow : OpenClaim := { program := "ytgjbmfmolnjfkaa", sum := "45e7db25b5b865606ada13ac678973fcc3ed090de8d2e8247b4341e34c638d7a", func := "loop.example/g03001/laws.FnExactIsLimit", spec := "fnExactIsLimit", apart := false }
def FnExactIsLimitSaid : Prop := fnExactIsLimitRow.holds Try.pinned (OpenSpec.ofChange fnExactIsLimitSpec)

/-- ITS FALSE NEIGHBOUR: 'it returns false'. Refute it at one input. -/
def fnExactIsLimitWrong : ChangeSpec := { name := "fnExactIsLimit", fn := fun _ => fun
  | [d] => { results := [.lit (.bool false)], args := [d] }
  | _ => none }
def FnExactIsLimitWrongFalsely : Prop := fnExactIsLimitRow.holds Try.pinned (OpenSpec.ofChange fnExactIsLimitWrong)

/-- 'laws.FnExactIsGrant': WHATEVER THE INPUT: true; the input reads as it did. -/
def fnExactIsGrantSpec : ChangeSpec := { name := "fnExactIsGrant", fn := fun _ => fun
  | [d] => { results := [.lit (.bool true)], args := [d] }
  | _ => none }
def fnExactIsGrantRow : OpenClaim := { program := "ytgjbmfmolnjfkaa", sum := "45e7db25b5b865606ada13ac678973fcc3ed090de8d2e8247b4341e34c638d7a", func := "loop.example/g03001/laws.FnExactIsGrant", spec := "fnExactIsGrant", apart := false }
def FnExactIsGrantSaid : Prop := fnExactIsGrantRow.holds Try.pinned (OpenSpec.ofChange fnExactIsGrantSpec)

/-- ITS FALSE NEIGHBOUR: 'it returns false'. Refute it at one input. -/
def fnExactIsGrantWrong : ChangeSpec := { name := "fnExactIsGrant", fn := fun _ => fun
  | [d] => { results := [.lit (.bool false)], args := [d] }
  | _ => none }
def FnExactIsGrantWrongFalsely : Prop := fnExactIsGrantRow.holds Try.pinned (OpenSpec.ofChange fnExactIsGrantWrong)

/- THE SECOND FORM. 'bulk': how many values and letters a reading holds, each counted each time it is reached (what is shared counts as often as it is met; a slice's spare places count too). A statement '..UptoSaid' is the law's where the arguments, and the package variables that the reading takes, are together of bulk at most 1048576: NARROWER than '..Said'. Prove '..Said' where nothing that the law and all that it calls make is longer than what came in: it says more and counts as full. Else prove '..UptoSaid'. A law counts once. -/
mutual
def uptoBulk {H : Type} : DataW H → Nat
  | .lit (.string bytes) => bytes.length + 1
  | .lit _ => 1
  | .nil => 1
  | .ptr d => uptoBulk d + 1
  | .slice elems spare => uptoBulkAll elems + uptoBulkAll spare + 1
  | .agg parts => uptoBulkAll parts + 1
  | .iface _ d => uptoBulk d + 1
  | .map entries => uptoBulkEntries entries + 1
  | .held _ => 1
def uptoBulkAll {H : Type} : List (DataW H) → Nat
  | [] => 0
  | d :: r => uptoBulk d + uptoBulkAll r
def uptoBulkEntries {H : Type} : List (Lit × DataW H) → Nat
  | [] => 0
  | x :: r => uptoBulkEntry x + uptoBulkEntries r
def uptoBulkEntry {H : Type} : Lit × DataW H → Nat
  | (.string bytes, d) => bytes.length + uptoBulk d + 1
  | (_, d) => uptoBulk d + 1
 end
def uptoSmall : (H : Type) → List (DataW H) → Bool := fun _ ds => decide (uptoBulkAll ds ≤ 1048576)
def OpenSpec.upto (s : _root_.Go.ChangeSpec) : _root_.Go.OpenSpec := { _root_.Go.OpenSpec.ofChange s with cond := some uptoSmall }

/-- 'laws.FnExactIsLabel', WHERE WHAT IT READS IS OF BULK AT MOST 1048576: true; the input reads as it did. -/
def fnExactIsLabelUptoRow : OpenClaim := { program := "ytgjbmfmolnjfkaa", sum := "45e7db25b5b865606ada13ac678973fcc3ed090de8d2e8247b4341e34c638d7a", func := "loop.example/g03001/laws.FnExactIsLabel", spec := "fnExactIsLabel", apart := false, narrowed := true }
def FnExactIsLabelUptoSaid : Prop := fnExactIsLabelUptoRow.holds Try.pinned (OpenSpec.upto fnExactIsLabelSpec)

/-- 'laws.FnExactActionName', WHERE WHAT IT READS IS OF BULK AT MOST 1048576: true; the input reads as it did. -/
def fnExactActionNameUptoRow : OpenClaim := { program := "ytgjbmfmolnjfkaa", sum := "45e7db25b5b865606ada13ac678973fcc3ed090de8d2e8247b4341e34c638d7a", func := "loop.example/g03001/laws.FnExactActionName", spec := "fnExactActionName", apart := false, narrowed := true }
def FnExactActionNameUptoSaid : Prop := fnExactActionNameUptoRow.holds Try.pinned (OpenSpec.upto fnExactActionNameSpec)

/-- 'laws.FnExactIsRequest', WHERE WHAT IT READS IS OF BULK AT MOST 1048576: true; the input reads as it did. -/
def fnExactIsRequestUptoRow : OpenClaim := { program := "ytgjbmfmolnjfkaa", sum := "45e7db25b5b865606ada13ac678973fcc3ed090de8d2e8247b4341e34c638d7a", func := "loop.example/g03001/laws.FnExactIsRequest", spec := "fnExactIsRequest", apart := false, narrowed := true }
def FnExactIsRequestUptoSaid : Prop := fnExactIsRequestUptoRow.holds Try.pinned (OpenSpec.upto fnExactIsRequestSpec)

/-- 'laws.FnExactOutcomeName', WHERE WHAT IT READS IS OF BULK AT MOST 1048576: true; the input reads as it did. -/
def fnExactOutcomeNameUptoRow : OpenClaim := { program := "ytgjbmfmolnjfkaa", sum := "45e7db25b5b865606ada13ac678973fcc3ed090de8d2e8247b4341e34c638d7a", func := "loop.example/g03001/laws.FnExactOutcomeName", spec := "fnExactOutcomeName", apart := false, narrowed := true }
def FnExactOutcomeNameUptoSaid : Prop := fnExactOutcomeNameUptoRow.holds Try.pinned (OpenSpec.upto fnExactOutcomeNameSpec)

/-- 'laws.FnExactIsLimit', WHERE WHAT IT READS IS OF BULK AT MOST 1048576: true; the input reads as it did. -/
def fnExactIsLimitUptoRow : OpenClaim := { program := "ytgjbmfmolnjfkaa", sum := "45e7db25b5b865606ada13ac678973fcc3ed090de8d2e8247b4341e34c638d7a", func := "loop.example/g03001/laws.FnExactIsLimit", spec := "fnExactIsLimit", apart := false, narrowed := true }
def FnExactIsLimitUptoSaid : Prop := fnExactIsLimitUptoRow.holds Try.pinned (OpenSpec.upto fnExactIsLimitSpec)

/-- 'laws.FnExactIsGrant', WHERE WHAT IT READS IS OF BULK AT MOST 1048576: true; the input reads as it did. -/
def fnExactIsGrantUptoRow : OpenClaim := { program := "ytgjbmfmolnjfkaa", sum := "45e7db25b5b865606ada13ac678973fcc3ed090de8d2e8247b4341e34c638d7a", func := "loop.example/g03001/laws.FnExactIsGrant", spec := "fnExactIsGrant", apart := false, narrowed := true }
def FnExactIsGrantUptoSaid : Prop := fnExactIsGrantUptoRow.holds Try.pinned (OpenSpec.upto fnExactIsGrantSpec)

end Rows
end Go.Proofs.Ytgjbmfmolnjfkaa
