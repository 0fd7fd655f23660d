/- Small facts on worlds, blocks and rows that the walks of this seat share; no program is named here. -/
import Derived.Test.YtphgoaacmkagmaaDoorWWords
import Derived.WalkKit
import Derived.WalkSpells
import Derived.WalkLawsBesides
import Derived.Lib.Hide
import Derived.BigQuiet
import Derived.Deep.QuietTactic
import Derived.Deep.RegionHeld3
import Derived.Deep.AppendLies
import Derived.BigRegion
import Derived.Deep.RegionLaw
namespace Go.Proofs.YtphgoaacmkagmaaDoor.Kit
open Go.RowKit Go.Proofs.YtphgoaacmkagmaaDoorW.PrintWords

end Go.Proofs.YtphgoaacmkagmaaDoor.Kit
