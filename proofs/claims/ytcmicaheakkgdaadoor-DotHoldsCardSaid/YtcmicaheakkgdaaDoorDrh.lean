/- Layer 4: DotHolds' call at read arguments. -/
import Derived.Test.YtcmicaheakkgdaaDoorDr0
import Derived.Test.YtcmicaheakkgdaaDoorDkh
namespace Go.Proofs.YtcmicaheakkgdaaDoor.Dl
open Go Go.RowKit Go.Proofs Go.Proofs.YtcmicaheakkgdaaDoor.Kit Go.Proofs.YtcmicaheakkgdaaDoor.PAll Go.Proofs.YtcmicaheakkgdaaDoorW.PrintWords
set_option linter.unusedSimpArgs false
set_option linter.unusedVariables false

theorem holds_walk (A0 : Option Addr) (c0 : Nat) (l0 : List S23) (A1 : Option Addr) (c1 : Nat) (l1 : List S23) (v2 v3 v4 : Value) (x2 x3 x4 : S23) (W : World) (hG : GOK W) (h0 : k23.C W A0 l0.length l0) (hc0 : l0.length ≤ c0) (h1 : k23.C W A1 l1.length l1) (hc1 : l1.length ≤ c1)
    (h2 : k23.K W x2 v2.cells.toList) (h3 : k23.K W x3 v3.cells.toList) (h4 : k23.K W x4 v4.cells.toList) : Calls Tryd.prog 7 #[.slice A0 l0.length c0, .slice A1 l1.length c1, v2, v3, v4] W (YesP W) := by
  rw [dot_cells h2, dot_cells h3, dot_cells h4]
  exact redpencillaw04_DotHolds.calls 400 A0 c0 l0 A1 c1 l1 _ _ _ _ _ _ W hG h0 hc0 h1 hc1 (DotHolds_f _ _ _ _ _ _ _ _)
end Go.Proofs.YtcmicaheakkgdaaDoor.Dl
