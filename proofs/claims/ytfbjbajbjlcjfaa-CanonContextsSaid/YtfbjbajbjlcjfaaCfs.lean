/- Layer 17, plain law: what the printed functions of the reference compute on states. -/
import Derived.Test.YtfbjbajbjlcjfaaCf
import Derived.Test.YtfbjbajbjlcjfaaPCanonStatesx3
import Derived.Test.YtfbjbajbjlcjfaaPCanonStatesx4
namespace Go.Proofs.Ytfbjbajbjlcjfaa.Cn
open Go Go.RowKit Go.Proofs.Ytfbjbajbjlcjfaa.Vn Go.Proofs.Ytfbjbajbjlcjfaa.PCanonStates Go.Proofs.YtfbjbajbjlcjfaaW.PrintWords
set_option linter.unusedSimpArgs false
set_option linter.unusedVariables false

theorem rbefore_f (a b : S36) : redpencilref14_Before.f a.f0 a.f1 b.f0 b.f1 = some (decide (before a b)) := by
  unfold redpencilref14_Before.f
  by_cases h1 : a.f1 < b.f1
  · rw [if_pos h1, decide_eq_true (show before a b from .inl h1)]
  · rw [if_neg h1]
    by_cases h2 : a.f1 = b.f1
    · rw [if_pos h2]; congr 1; exact decide_eq_decide.2 (by unfold before; omega)
    · rw [if_neg h2, decide_eq_false (by unfold before; omega)]
end Go.Proofs.Ytfbjbajbjlcjfaa.Cn
