-- Printed by a program of this session (wip/tools/mkprint2.py) out of the translation; Lean checks it. -- narrowed
import Derived.Test.YtamggklblaigpaaGreatDoorProg
import Derived.Below
import Derived.Deep.Draws
import Derived.Deep.AppendLies
import Derived.Maps.AppendAt
import Derived.OwnWalk
import Derived.Laws.BytesArg
import Derived.Laws.MakeOwn
import Derived.Laws.OwnMore
import Derived.Deep.OwnRows
import Derived.Tactics
import Derived.Lib.ConvBytes
import Derived.Laws.Slices
import Derived.WalkKit
import Derived.KernelRfl
import Derived.RowKit3
import Derived.Deep.LoopGhost
import Derived.Deep.QuietTactic
import Derived.BigQuiet
import Derived.WideLaws
import Derived.Deep.DeepCutAuto
import Derived.Deep.CutBlock
import Derived.Deep.RegionHeld3
import Derived.Laws.Rows
import Derived.Lib.AppendStr
import Derived.ArgAppend
import Derived.Laws.IdiomCopy
import Derived.OrdersHeld
import Derived.Laws.BitsLemmas
import Derived.RowKit
import Derived.Test.YtamggklblaigpaaGreatDoorWWords
import Derived.Test.YtamggklblaigpaaGreatDoorWLast
import Derived.Test.YtamggklblaigpaaGreatDoorWTab
import Derived.Test.YtamggklblaigpaaGreatDoorWFour
import Derived.Test.YtamggklblaigpaaGreatDoorWQPut
import Derived.Test.YtamggklblaigpaaGreatDoorWApart
import Derived.Test.YtamggklblaigpaaGreatDoorWArr
import Derived.Test.YtamggklblaigpaaGreatDoorWZeros
import Derived.Test.YtamggklblaigpaaGreatDoorWFoot
import Derived.Test.YtamggklblaigpaaGreatDoorWKept
import Derived.Test.YtamggklblaigpaaGreatDoorWShare
import Derived.Test.YtamggklblaigpaaGreatDoorWN
import Derived.Test.YtamggklblaigpaaGreatDoorWFootNe
import Derived.Test.YtamggklblaigpaaGreatDoorWAt
import Derived.Test.YtamggklblaigpaaGreatDoorWEqStruct
import Derived.Test.YtamggklblaigpaaGreatDoorWRepsOne
import Derived.Test.YtamggklblaigpaaGreatDoorWInv
import Derived.Test.YtamggklblaigpaaGreatDoorWInvWords
import Derived.Test.YtamggklblaigpaaGreatDoorWGuard
import Derived.Test.YtamggklblaigpaaGreatDoorWNEv
import Derived.Test.YtamggklblaigpaaGreatDoorWMore
namespace Go.Proofs.YtamggklblaigpaaGreatDoor.PAll
open Go.RowKit Go.Proofs.YtamggklblaigpaaGreatDoorW.PrintWords Go.Proofs.YtamggklblaigpaaGreatDoorW.PrintLast Go.Proofs.YtamggklblaigpaaGreatDoorW.PrintMore
attribute [local go_sem] max2_int min2_int max_two min_two max_three min_three max_four min_four   -- for this text's walks alone
set_option linter.unusedVariables false
set_option linter.unusedSimpArgs false



def errW : Option Int → Value
 | none => .nilIface
 | some c => .iface 0 (.int .i64 c)
theorem errW_none : errW none = .nilIface := rfl
theorem errW_some (c : Int) : errW (some c) = .iface 0 (.int .i64 c) := rfl

-- the values' own types
/-! #### struct type 23 -/
structure S23 where
 f0 : Int
 f1 : Int
/-! #### struct type 25 -/
structure S25 where
 f0 : S23
 f1 : S23
 f2 : Int
 f3 : Int
end Go.Proofs.YtamggklblaigpaaGreatDoor.PAll
