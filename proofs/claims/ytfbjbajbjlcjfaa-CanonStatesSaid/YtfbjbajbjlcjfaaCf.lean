/- Layer 17, plain law: what the printed functions of the reference compute on dots, nodes, states. -/
import Derived.Test.YtfbjbajbjlcjfaaCma
import Derived.Test.YtfbjbajbjlcjfaaPCanonStatesx3
namespace Go.Proofs.Ytfbjbajbjlcjfaa.Cn
open Go Go.RowKit Go.Proofs.Ytfbjbajbjlcjfaa.Vn Go.Proofs.Ytfbjbajbjlcjfaa.PCanonStates Go.Proofs.YtfbjbajbjlcjfaaW.PrintWords
set_option linter.unusedSimpArgs false
set_option linter.unusedVariables false

theorem rdot_f (r c : Int) : redpencilref14_IsDot.f r c = some (decide (okDot r c)) := dot_f r c
theorem rrune_f (r : Int) : redpencilref14_IsRune.f r = some (decide (okRune r)) := by
  unfold redpencilref14_IsRune.f
  by_cases h1 : r ≥ 1
  · rw [if_pos h1]
    by_cases h2 : r ≤ 1114111
    · rw [if_pos h2]
      by_cases h3 : r < 55296
      · rw [if_pos h3, decide_eq_true (by unfold okRune; omega)]
      · rw [if_neg h3]; congr 1; exact decide_eq_decide.2 (by unfold okRune; omega)
    · rw [if_neg h2, decide_eq_false (by unfold okRune; omega)]
  · rw [if_neg h1, decide_eq_false (by unfold okRune; omega)]
theorem rnode_f (x : S38) : redpencilref14_IsNode.f x.f0.f0 x.f0.f1 x.f1.f0 x.f1.f1 x.f2 x.f3 = some (decide (okNode x)) := by
  unfold redpencilref14_IsNode.f
  simp only [rdot_f, rrune_f, Option.bind_some]
  by_cases h1 : okDot x.f0.f0 x.f0.f1
  · rw [decide_eq_true h1, if_pos rfl]
    have e2 : (!(x.f1.f0 == x.f0.f0) || (!(x.f1.f1 == x.f0.f1))) = decide (¬ (x.f1.f0 = x.f0.f0 ∧ x.f1.f1 = x.f0.f1)) := by
      by_cases a : x.f1.f0 = x.f0.f0 <;> by_cases b : x.f1.f1 = x.f0.f1 <;> simp [a, b]
    have e3 : (x.f1.f0 == 0 && (x.f1.f1 == 0)) = decide (x.f1.f0 = 0 ∧ x.f1.f1 = 0) := by
      by_cases a : x.f1.f0 = 0 <;> by_cases b : x.f1.f1 = 0 <;> simp [a, b]
    rw [e2, e3]
    simp only [decide_eq_true_eq]
    by_cases a1 : (x.f1.f0 = 0 ∧ x.f1.f1 = 0)
    · rw [if_pos a1]
      by_cases a2 : ¬ (x.f1.f0 = x.f0.f0 ∧ x.f1.f1 = x.f0.f1)
      · rw [if_pos a2]
        by_cases a3 : x.f2 ≥ 1
        · rw [if_pos a3]
          by_cases a4 : x.f2 ≤ 4611686018427387904
          · rw [if_pos a4]
            by_cases a5 : x.f3 = 0
            · rw [if_pos a5, decide_eq_true (show okNode x from ⟨h1, .inl a1, a2, a3, a4, .inl a5⟩)]
            · rw [if_neg a5]
              congr 1
              exact decide_eq_decide.2 ⟨fun h => ⟨h1, .inl a1, a2, a3, a4, .inr h⟩, fun h => h.2.2.2.2.2.resolve_left a5⟩
          · rw [if_neg a4, decide_eq_false (fun h : okNode x => a4 h.2.2.2.2.1)]
        · rw [if_neg a3, decide_eq_false (fun h : okNode x => a3 h.2.2.2.1)]
      · rw [if_neg a2, decide_eq_false (fun h : okNode x => a2 h.2.2.1)]
    · rw [if_neg a1]
      by_cases a0 : okDot x.f1.f0 x.f1.f1
      · rw [if_pos a0]
        by_cases a2 : ¬ (x.f1.f0 = x.f0.f0 ∧ x.f1.f1 = x.f0.f1)
        · rw [if_pos a2]
          by_cases a3 : x.f2 ≥ 1
          · rw [if_pos a3]
            by_cases a4 : x.f2 ≤ 4611686018427387904
            · rw [if_pos a4]
              by_cases a5 : x.f3 = 0
              · rw [if_pos a5, decide_eq_true (show okNode x from ⟨h1, .inr a0, a2, a3, a4, .inl a5⟩)]
              · rw [if_neg a5]
                congr 1
                exact decide_eq_decide.2 ⟨fun h => ⟨h1, .inr a0, a2, a3, a4, .inr h⟩, fun h => h.2.2.2.2.2.resolve_left a5⟩
            · rw [if_neg a4, decide_eq_false (fun h : okNode x => a4 h.2.2.2.2.1)]
          · rw [if_neg a3, decide_eq_false (fun h : okNode x => a3 h.2.2.2.1)]
        · rw [if_neg a2, decide_eq_false (fun h : okNode x => a2 h.2.2.1)]
      · rw [if_neg a0, decide_eq_false (fun h : okNode x => h.2.1.elim a1 a0)]
  · rw [decide_eq_false h1, if_neg (by simp), decide_eq_false (fun h => h1 h.1)]
end Go.Proofs.Ytfbjbajbjlcjfaa.Cn
