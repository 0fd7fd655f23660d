/- Layer 41, plain law: the examples of the chapter. -/
import Derived.Test.YtbjahfbagbghnaaDoorLp
import Derived.Test.YtbjahfbagbghnaaDoorPAllx7
namespace Go.Proofs.YtbjahfbagbghnaaDoor.Lp
open Go Go.RowKit Go.Proofs Go.Proofs.YtbjahfbagbghnaaDoorW.PrintWords Go.Proofs.YtbjahfbagbghnaaDoorW.PrintMore Go.Proofs.YtbjahfbagbghnaaDoor.Rn Go.Proofs.YtbjahfbagbghnaaDoor.PAll

theorem leO_up {α : Type} {g : Nat → Option α} {r : α} (h : ∀ k, LeO (g k) (g (k + 1))) {K : Nat} (hK : g K = some r) : ∀ k, K ≤ k → g k = some r := by
  intro k hk
  obtain ⟨d, rfl⟩ : ∃ d, k = K + d := ⟨k - K, by omega⟩
  clear hk
  induction d with
  | zero => exact hK
  | succ d ih => exact h _ _ ih
set_option maxRecDepth 100000 in
theorem known_40 : redpencillaw41_known.f 40 = some true := by decide +kernel
theorem known_f (k : Nat) (h : 40 ≤ k) : redpencillaw41_known.f k = some true := leO_up redpencillaw41_known.mono known_40 k h
end Go.Proofs.YtbjahfbagbghnaaDoor.Lp
