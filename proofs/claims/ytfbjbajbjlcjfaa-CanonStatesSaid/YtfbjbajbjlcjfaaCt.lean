/- Layer 17, plain law: what the statements share, and CanonNodes. -/
import Derived.Test.YtfbjbajbjlcjfaaCfb
import Derived.Test.YtfbjbajbjlcjfaaCq
import Derived.Test.YtfbjbajbjlcjfaaCmb
import Derived.Test.YtfbjbajbjlcjfaaPCanonStatesx17
import Derived.Test.YtfbjbajbjlcjfaaPCanonStatesx18
import Derived.Test.YtfbjbajbjlcjfaaPCanonStatesx19
namespace Go.Proofs.Ytfbjbajbjlcjfaa.Cn
open Go Go.RowKit Go.Proofs Go.Proofs.Ytfbjbajbjlcjfaa.PCanonStates Go.Proofs.YtfbjbajbjlcjfaaW.PrintWords
set_option linter.unusedSimpArgs false
set_option linter.unusedVariables false

theorem leO_up {α : Type} {g : Nat → Option α} {r : α} (h : ∀ k, LeO (g k) (g (k + 1))) {K : Nat} (hK : g K = some r) : ∀ k, K ≤ k → g k = some r := by
  intro k hk
  obtain ⟨n, rfl⟩ : ∃ n, k = K + n := ⟨k - K, by omega⟩
  clear hk
  induction n with
  | zero => exact hK
  | succ n ih => exact h (K + n) r ih
theorem known_f {k : Nat} (h : 60 ≤ k) : redpencillaw17_known.f k = some true := leO_up redpencillaw17_known.mono redpencillaw17_known.at_ k h
theorem rbytes_up {xs : List S38} (hl : xs.length ≤ 65536) (h : StoreOk xs) {k : Nat} (hk : 2 * xs.length + 12 ≤ k) : redpencilref17_Bytes.f k xs = some (canonBs xs) := leO_up (redpencilref17_Bytes.mono xs) (rbytes_f xs hl h) k hk
end Go.Proofs.Ytfbjbajbjlcjfaa.Cn
