-- PRINTED BY print.sh 35421559b90ae4d0a3588c463048766b98c2df88dd9212a6774a882060cdf62d: not written by this session
import Derived.Test.YtgjbmfmolnjfkabProg
import Derived.Below
import Derived.Deep.Draws
import Derived.Deep.AppendLies
import Derived.Maps.AppendAt
import Derived.OwnWalk
import Derived.Laws.BytesArg
import Derived.Laws.MakeOwn
import Derived.Laws.OwnMore
import Derived.Deep.OwnRows
import Derived.Tactics
import Derived.Lib.ConvBytes
import Derived.Laws.Slices
import Derived.WalkKit
import Derived.KernelRfl
import Derived.RowKit3
import Derived.Deep.LoopGhost
import Derived.Deep.QuietTactic
import Derived.BigQuiet
import Derived.WideLaws
import Derived.Deep.DeepCutAuto
import Derived.Deep.CutBlock
import Derived.Deep.RegionHeld3
import Derived.Laws.Rows
import Derived.Lib.AppendStr
import Derived.ArgAppend
import Derived.Laws.IdiomCopy
import Derived.OrdersHeld
import Derived.Laws.BitsLemmas
import Derived.RowKit
import Derived.Test.YtgjbmfmolnjfkabWWords
import Derived.Test.YtgjbmfmolnjfkabWLast
import Derived.Test.YtgjbmfmolnjfkabWTab
import Derived.Test.YtgjbmfmolnjfkabWFour
import Derived.Test.YtgjbmfmolnjfkabWQPut
import Derived.Test.YtgjbmfmolnjfkabWApart
import Derived.Test.YtgjbmfmolnjfkabWArr
import Derived.Test.YtgjbmfmolnjfkabWZeros
import Derived.Test.YtgjbmfmolnjfkabWFoot
import Derived.Test.YtgjbmfmolnjfkabWKept
import Derived.Test.YtgjbmfmolnjfkabWShare
import Derived.Test.YtgjbmfmolnjfkabWN
import Derived.Test.YtgjbmfmolnjfkabWFootNe
import Derived.Test.YtgjbmfmolnjfkabWAt
import Derived.Test.YtgjbmfmolnjfkabWEqStruct
import Derived.Test.YtgjbmfmolnjfkabWRepsOne
import Derived.Test.YtgjbmfmolnjfkabWInv
import Derived.Test.YtgjbmfmolnjfkabWInvWords
import Derived.Test.YtgjbmfmolnjfkabWGuard
import Derived.Test.YtgjbmfmolnjfkabWNEv
import Derived.Test.YtgjbmfmolnjfkabWMore
namespace Go.Proofs.Ytgjbmfmolnjfkab.PFnExactIsLent
open Go.RowKit Go.Proofs.YtgjbmfmolnjfkabW.PrintWords Go.Proofs.YtgjbmfmolnjfkabW.PrintLast Go.Proofs.YtgjbmfmolnjfkabW.PrintMore
attribute [local go_sem] max2_int min2_int max_two min_two max_three min_three max_four min_four   -- for this text's walks alone
set_option linter.unusedVariables false
set_option linter.unusedSimpArgs false



def errW : Option Int → Value
  | none => .nilIface
  | some c => .iface 0 (.int .i64 c)
theorem errW_none : errW none = .nilIface := rfl
theorem errW_some (c : Int) : errW (some c) = .iface 0 (.int .i64 c) := rfl

-- the values' own types

end Go.Proofs.Ytgjbmfmolnjfkab.PFnExactIsLent
