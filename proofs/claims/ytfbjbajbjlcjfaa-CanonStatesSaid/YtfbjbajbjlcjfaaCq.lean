/- Layer 17, plain law: no bytes of a state or of a context begin with those of another one, and killing a node never makes them longer. -/
import Derived.Test.YtfbjbajbjlcjfaaCmb
namespace Go.Proofs.Ytfbjbajbjlcjfaa.Cn
open Go Go.RowKit Go.Proofs Go.Proofs.Ytfbjbajbjlcjfaa.Vn Go.Proofs.Ytfbjbajbjlcjfaa.Kit Go.Proofs.Ytfbjbajbjlcjfaa.PCanonStates Go.Proofs.YtfbjbajbjlcjfaaW.PrintWords
set_option linter.unusedSimpArgs false
set_option linter.unusedVariables false

end Go.Proofs.Ytfbjbajbjlcjfaa.Cn
