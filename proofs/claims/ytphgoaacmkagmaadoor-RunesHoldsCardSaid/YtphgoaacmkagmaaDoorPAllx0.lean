-- Printed by a program of this session (wip/tools/mkprint2.py) out of the translation; Lean checks it. -- narrowed
import Derived.Test.YtphgoaacmkagmaaDoorProg
import Derived.Below
import Derived.Deep.Draws
import Derived.Deep.AppendLies
import Derived.Maps.AppendAt
import Derived.OwnWalk
import Derived.Laws.BytesArg
import Derived.Laws.MakeOwn
import Derived.Laws.OwnMore
import Derived.Deep.OwnRows
import Derived.Tactics
import Derived.Lib.ConvBytes
import Derived.Laws.Slices
import Derived.WalkKit
import Derived.KernelRfl
import Derived.RowKit3
import Derived.Deep.LoopGhost
import Derived.Deep.QuietTactic
import Derived.BigQuiet
import Derived.WideLaws
import Derived.Deep.DeepCutAuto
import Derived.Deep.CutBlock
import Derived.Deep.RegionHeld3
import Derived.Laws.Rows
import Derived.Lib.AppendStr
import Derived.ArgAppend
import Derived.Laws.IdiomCopy
import Derived.OrdersHeld
import Derived.Laws.BitsLemmas
import Derived.RowKit
import Derived.Test.YtphgoaacmkagmaaDoorWWords
import Derived.Test.YtphgoaacmkagmaaDoorWLast
import Derived.Test.YtphgoaacmkagmaaDoorWTab
import Derived.Test.YtphgoaacmkagmaaDoorWFour
import Derived.Test.YtphgoaacmkagmaaDoorWQPut
import Derived.Test.YtphgoaacmkagmaaDoorWApart
import Derived.Test.YtphgoaacmkagmaaDoorWArr
import Derived.Test.YtphgoaacmkagmaaDoorWZeros
import Derived.Test.YtphgoaacmkagmaaDoorWFoot
import Derived.Test.YtphgoaacmkagmaaDoorWKept
import Derived.Test.YtphgoaacmkagmaaDoorWShare
import Derived.Test.YtphgoaacmkagmaaDoorWN
import Derived.Test.YtphgoaacmkagmaaDoorWFootNe
import Derived.Test.YtphgoaacmkagmaaDoorWAt
import Derived.Test.YtphgoaacmkagmaaDoorWEqStruct
import Derived.Test.YtphgoaacmkagmaaDoorWRepsOne
import Derived.Test.YtphgoaacmkagmaaDoorWInv
import Derived.Test.YtphgoaacmkagmaaDoorWInvWords
import Derived.Test.YtphgoaacmkagmaaDoorWGuard
import Derived.Test.YtphgoaacmkagmaaDoorWNEv
import Derived.Test.YtphgoaacmkagmaaDoorWMore
namespace Go.Proofs.YtphgoaacmkagmaaDoor.PAll
open Go.RowKit Go.Proofs.YtphgoaacmkagmaaDoorW.PrintWords Go.Proofs.YtphgoaacmkagmaaDoorW.PrintLast Go.Proofs.YtphgoaacmkagmaaDoorW.PrintMore
attribute [local go_sem] max2_int min2_int max_two min_two max_three min_three max_four min_four   -- for this text's walks alone
set_option linter.unusedVariables false
set_option linter.unusedSimpArgs false



def errW : Option Int → Value
 | none => .nilIface
 | some c => .iface 0 (.int .i64 c)
theorem errW_none : errW none = .nilIface := rfl
theorem errW_some (c : Int) : errW (some c) = .iface 0 (.int .i64 c) := rfl

theorem info5 : (Tryd.prog.info? 5).map (fun i => (i.zero, i.size, i.bytes)) = some (some (.int .u8 0), 1, 1) := by kernel_rfl
theorem info21 : (Tryd.prog.info? 21).map (fun i => (i.zero, i.size, i.bytes)) = some (some (.int .i32 0), 1, 4) := by kernel_rfl
-- the values' own types
end Go.Proofs.YtphgoaacmkagmaaDoor.PAll
