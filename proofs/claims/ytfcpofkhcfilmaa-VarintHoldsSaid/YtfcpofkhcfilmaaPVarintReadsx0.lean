-- PRINTED BY print.sh 35421559b90ae4d0a3588c463048766b98c2df88dd9212a6774a882060cdf62d: not written by this session
import Derived.Test.YtfcpofkhcfilmaaProg
import Derived.Below
import Derived.Deep.Draws
import Derived.Deep.AppendLies
import Derived.Maps.AppendAt
import Derived.OwnWalk
import Derived.Laws.BytesArg
import Derived.Laws.MakeOwn
import Derived.Laws.OwnMore
import Derived.Deep.OwnRows
import Derived.Tactics
import Derived.Lib.ConvBytes
import Derived.Laws.Slices
import Derived.WalkKit
import Derived.KernelRfl
import Derived.RowKit3
import Derived.Deep.LoopGhost
import Derived.Deep.QuietTactic
import Derived.BigQuiet
import Derived.WideLaws
import Derived.Deep.DeepCutAuto
import Derived.Deep.CutBlock
import Derived.Deep.RegionHeld3
import Derived.Laws.Rows
import Derived.Lib.AppendStr
import Derived.ArgAppend
import Derived.Laws.IdiomCopy
import Derived.OrdersHeld
import Derived.Laws.BitsLemmas
import Derived.RowKit
import Derived.Test.YtfcpofkhcfilmaaWWords
import Derived.Test.YtfcpofkhcfilmaaWLast
import Derived.Test.YtfcpofkhcfilmaaWTab
import Derived.Test.YtfcpofkhcfilmaaWFour
import Derived.Test.YtfcpofkhcfilmaaWQPut
import Derived.Test.YtfcpofkhcfilmaaWApart
import Derived.Test.YtfcpofkhcfilmaaWArr
import Derived.Test.YtfcpofkhcfilmaaWZeros
import Derived.Test.YtfcpofkhcfilmaaWFoot
import Derived.Test.YtfcpofkhcfilmaaWKept
import Derived.Test.YtfcpofkhcfilmaaWShare
import Derived.Test.YtfcpofkhcfilmaaWN
import Derived.Test.YtfcpofkhcfilmaaWFootNe
import Derived.Test.YtfcpofkhcfilmaaWAt
import Derived.Test.YtfcpofkhcfilmaaWEqStruct
import Derived.Test.YtfcpofkhcfilmaaWRepsOne
import Derived.Test.YtfcpofkhcfilmaaWInv
import Derived.Test.YtfcpofkhcfilmaaWInvWords
import Derived.Test.YtfcpofkhcfilmaaWGuard
import Derived.Test.YtfcpofkhcfilmaaWNEv
import Derived.Test.YtfcpofkhcfilmaaWMore
namespace Go.Proofs.Ytfcpofkhcfilmaa.PVarintReads
open Go.RowKit Go.Proofs.YtfcpofkhcfilmaaW.PrintWords Go.Proofs.YtfcpofkhcfilmaaW.PrintLast Go.Proofs.YtfcpofkhcfilmaaW.PrintMore
attribute [local go_sem] max2_int min2_int max_two min_two max_three min_three max_four min_four   -- for this text's walks alone
set_option linter.unusedVariables false
set_option linter.unusedSimpArgs false



def errW : Option Int → Value
  | none => .nilIface
  | some c => .iface 0 (.int .i64 c)
theorem errW_none : errW none = .nilIface := rfl
theorem errW_some (c : Int) : errW (some c) = .iface 0 (.int .i64 c) := rfl

theorem info5 : (Try.prog.info? 5).map (fun i => (i.zero, i.size, i.bytes)) = some (some (.int .u8 0), 1, 1) := by kernel_rfl
-- the values' own types

end Go.Proofs.Ytfcpofkhcfilmaa.PVarintReads
