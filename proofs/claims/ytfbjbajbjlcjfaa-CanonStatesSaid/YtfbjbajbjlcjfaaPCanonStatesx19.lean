-- Printed by a program of this session (wip/tools/mkprint2.py) out of the translation; Lean checks it. -- narrowed
import Derived.Test.YtfbjbajbjlcjfaaPCanonStatesx0
import Derived.Test.YtfbjbajbjlcjfaaPCanonStatesx3
import Derived.Test.YtfbjbajbjlcjfaaPCanonStatesx12
import Derived.Test.YtfbjbajbjlcjfaaPCanonStatesx17
import Derived.Test.YtfbjbajbjlcjfaaPCanonStatesx18
namespace Go.Proofs.Ytfbjbajbjlcjfaa.PCanonStates
open Go.RowKit Go.Proofs.YtfbjbajbjlcjfaaW.PrintWords Go.Proofs.YtfbjbajbjlcjfaaW.PrintLast Go.Proofs.YtfbjbajbjlcjfaaW.PrintMore
attribute [local go_sem] max2_int min2_int max_two min_two max_three min_three max_four min_four   -- for this text's walks alone
set_option linter.unusedVariables false
set_option linter.unusedSimpArgs false

/-! ### redpencillaw17_CanonNodes: function 4 -/
end Go.Proofs.Ytfbjbajbjlcjfaa.PCanonStates
