/- Layer 17: CanonNodes, as its row calls it. -/
import Derived.Test.YtfbjbajbjlcjfaaCt
import Derived.Test.YtfbjbajbjlcjfaaCz
namespace Go.Proofs.Ytfbjbajbjlcjfaa.Cn
open Go Go.RowKit Go.Proofs Go.Proofs.Ytfbjbajbjlcjfaa.Kit Go.Proofs.Ytfbjbajbjlcjfaa.PCanonStates Go.Proofs.YtfbjbajbjlcjfaaW.PrintWords
theorem canonNodes_walk (v : Value) (x : S38) (W : World) (K : k38.K W x v.cells.toList) : Calls Try.prog 4 #[v] W fun e W' => e = .returned (.bool true) ∧ Below W.heap.size W W' := by
  obtain rfl := agg_of (k38_open K) (by simp)
  exact redpencillaw17_CanonNodes.calls 100 x.f0.f0 x.f0.f1 x.f1.f0 x.f1.f1 x.f2 x.f3 W (canonNodes_f _ _ _ _ _ _)
end Go.Proofs.Ytfbjbajbjlcjfaa.Cn
