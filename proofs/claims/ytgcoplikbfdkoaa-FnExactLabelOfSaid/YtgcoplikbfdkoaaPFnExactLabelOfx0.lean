-- PRINTED BY print.sh 35421559b90ae4d0a3588c463048766b98c2df88dd9212a6774a882060cdf62d: not written by this session
import Derived.Test.YtgcoplikbfdkoaaProg
import Derived.Below
import Derived.Deep.Draws
import Derived.Deep.AppendLies
import Derived.Maps.AppendAt
import Derived.OwnWalk
import Derived.Laws.BytesArg
import Derived.Laws.MakeOwn
import Derived.Laws.OwnMore
import Derived.Deep.OwnRows
import Derived.Tactics
import Derived.Lib.ConvBytes
import Derived.Laws.Slices
import Derived.WalkKit
import Derived.KernelRfl
import Derived.RowKit3
import Derived.Deep.LoopGhost
import Derived.Deep.QuietTactic
import Derived.BigQuiet
import Derived.WideLaws
import Derived.Deep.DeepCutAuto
import Derived.Deep.CutBlock
import Derived.Deep.RegionHeld3
import Derived.Laws.Rows
import Derived.Lib.AppendStr
import Derived.ArgAppend
import Derived.Laws.IdiomCopy
import Derived.OrdersHeld
import Derived.Laws.BitsLemmas
import Derived.RowKit
import Derived.Test.YtgcoplikbfdkoaaWWords
import Derived.Test.YtgcoplikbfdkoaaWLast
import Derived.Test.YtgcoplikbfdkoaaWTab
import Derived.Test.YtgcoplikbfdkoaaWFour
import Derived.Test.YtgcoplikbfdkoaaWQPut
import Derived.Test.YtgcoplikbfdkoaaWApart
import Derived.Test.YtgcoplikbfdkoaaWArr
import Derived.Test.YtgcoplikbfdkoaaWZeros
import Derived.Test.YtgcoplikbfdkoaaWFoot
import Derived.Test.YtgcoplikbfdkoaaWKept
import Derived.Test.YtgcoplikbfdkoaaWShare
import Derived.Test.YtgcoplikbfdkoaaWN
import Derived.Test.YtgcoplikbfdkoaaWFootNe
import Derived.Test.YtgcoplikbfdkoaaWAt
import Derived.Test.YtgcoplikbfdkoaaWEqStruct
import Derived.Test.YtgcoplikbfdkoaaWRepsOne
import Derived.Test.YtgcoplikbfdkoaaWInv
import Derived.Test.YtgcoplikbfdkoaaWInvWords
import Derived.Test.YtgcoplikbfdkoaaWGuard
import Derived.Test.YtgcoplikbfdkoaaWNEv
import Derived.Test.YtgcoplikbfdkoaaWMore
namespace Go.Proofs.Ytgcoplikbfdkoaa.PFnExactLabelOf
open Go.RowKit Go.Proofs.YtgcoplikbfdkoaaW.PrintWords Go.Proofs.YtgcoplikbfdkoaaW.PrintLast Go.Proofs.YtgcoplikbfdkoaaW.PrintMore
attribute [local go_sem] max2_int min2_int max_two min_two max_three min_three max_four min_four   -- for this text's walks alone
set_option linter.unusedVariables false
set_option linter.unusedSimpArgs false



def errW : Option Int → Value
  | none => .nilIface
  | some c => .iface 0 (.int .i64 c)
theorem errW_none : errW none = .nilIface := rfl
theorem errW_some (c : Int) : errW (some c) = .iface 0 (.int .i64 c) := rfl

theorem info3 : (Try.prog.info? 3).map (fun i => (i.zero, i.size, i.bytes)) = some (some (.int .i64 0), 1, 8) := by kernel_rfl
-- the values' own types

end Go.Proofs.Ytgcoplikbfdkoaa.PFnExactLabelOf
