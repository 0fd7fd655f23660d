/- Layer 17: CanonContexts, as its row calls it. -/
import Derived.Test.YtfbjbajbjlcjfaaCtb
import Derived.Test.YtfbjbajbjlcjfaaCz
namespace Go.Proofs.Ytfbjbajbjlcjfaa.Cn
open Go Go.RowKit Go.Proofs Go.Proofs.Ytfbjbajbjlcjfaa.Kit Go.Proofs.Ytfbjbajbjlcjfaa.PCanonStates Go.Proofs.YtfbjbajbjlcjfaaW.PrintWords
theorem canonContexts_walk (v : Value) (x : List S36 × List S36) (W : World) (K : (Kd.pair (Kd.slice 36 k36) (Kd.slice 36 k36)).K W x v.cells.toList) : Calls Try.prog 5 #[v] W fun e W' => e = .returned (.bool true) ∧ Below W.heap.size W W' := by
  obtain ⟨A0, c0, A1, c1, rfl, C0, l0, C1, l1⟩ := ctx_open K
  exact redpencillaw17_CanonContexts.calls 300 A0 c0 x.1 A1 c1 x.2 W C0 l0 C1 l1 (canonContexts_f _ _)
end Go.Proofs.Ytfbjbajbjlcjfaa.Cn
