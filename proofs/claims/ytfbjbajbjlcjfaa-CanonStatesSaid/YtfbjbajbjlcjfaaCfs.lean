/- Layer 17, plain law: what the printed functions of the reference compute on states. -/
import Derived.Test.YtfbjbajbjlcjfaaCf
import Derived.Test.YtfbjbajbjlcjfaaPCanonStatesx3
import Derived.Test.YtfbjbajbjlcjfaaPCanonStatesx4
namespace Go.Proofs.Ytfbjbajbjlcjfaa.Cn
open Go Go.RowKit Go.Proofs.Ytfbjbajbjlcjfaa.Vn Go.Proofs.Ytfbjbajbjlcjfaa.PCanonStates Go.Proofs.YtfbjbajbjlcjfaaW.PrintWords
set_option linter.unusedSimpArgs false
set_option linter.unusedVariables false

theorem rbefore_f (a b : S36) : redpencilref14_Before.f a.f0 a.f1 b.f0 b.f1 = some (decide (before a b)) := by
  unfold redpencilref14_Before.f
  by_cases h1 : a.f1 < b.f1
  · rw [if_pos h1, decide_eq_true (show before a b from .inl h1)]
  · rw [if_neg h1]
    by_cases h2 : a.f1 = b.f1
    · rw [if_pos h2]; congr 1; exact decide_eq_decide.2 (by unfold before; omega)
    · rw [if_neg h2, decide_eq_false (by unfold before; omega)]
theorem store_l0 (xs : List S38) (hl : xs.length ≤ 1000000) : ∀ (m i : Nat), m + i = xs.length → (∀ j, j < i → okNode (xs.getD j z38)) → (∀ j, j + 1 < i → before (xs.getD j z38).f0 (xs.getD (j + 1) z38).f0) →
    ∃ b, redpencilref14_Store.l0 (m + 1) xs (i : Int) = some b ∧ (b = true ↔ StoreOk xs)
  | m, i, hm, h1, h2 => by
    unfold redpencilref14_Store.l0
    by_cases h : i < xs.length
    · obtain ⟨m, rfl⟩ : ∃ m', m = m' + 1 := ⟨m - 1, by omega⟩
      have e2 : wrap64 ((i : Int) + 1) = ((i + 1 : Nat) : Int) := by rw [w64 (by omega) (by omega)]; omega
      have r2 : rd_T38 xs (i : Int) = xs.getD i z38 := by unfold rd_T38; rw [Int.toNat_natCast]
      rw [if_pos (by omega), if_pos (by omega), r2, e2, rnode_f]
      simp only [Option.bind_some, decide_eq_true_eq]
      by_cases h3 : okNode (xs.getD i z38)
      · rw [if_pos h3]
        have g1 : ∀ j, j < i + 1 → okNode (xs.getD j z38) := fun j hj => by
          rcases Nat.lt_or_ge j i with q | q
          · exact h1 j q
          · obtain rfl : j = i := by omega
            exact h3
        by_cases h4 : 0 < i
        · have e1 : wrap64 ((i : Int) - 1) = ((i - 1 : Nat) : Int) := by rw [w64 (by omega) (by omega)]; omega
          have r1 : rd_T38 xs ((i - 1 : Nat) : Int) = xs.getD (i - 1) z38 := by unfold rd_T38; rw [Int.toNat_natCast]
          rw [if_pos (by omega), e1, if_pos (by omega), if_pos (by omega), r1, rbefore_f]
          simp only [Option.bind_some, decide_eq_true_eq]
          by_cases h5 : before (xs.getD (i - 1) z38).f0 (xs.getD i z38).f0
          · rw [if_pos h5]
            refine store_l0 xs hl m (i + 1) (by omega) g1 (fun j hj => ?_)
            rcases Nat.lt_or_ge (j + 1) i with q | q
            · exact h2 j q
            · obtain rfl : j = i - 1 := by omega
              rw [show i - 1 + 1 = i by omega]; exact h5
          · rw [if_neg h5]
            refine ⟨false, rfl, ⟨fun q => absurd q (by simp), fun q => ?_⟩⟩
            have := q.2 (i - 1) (by omega)
            rw [show i - 1 + 1 = i by omega] at this
            exact absurd this h5
        · rw [if_neg (by omega)]
          exact store_l0 xs hl m (i + 1) (by omega) g1 (fun j hj => by omega)
      · rw [if_neg h3]
        exact ⟨false, rfl, ⟨fun q => absurd q (by simp), fun q => absurd (q.1 i h) h3⟩⟩
    · rw [if_neg (by omega)]
      exact ⟨true, rfl, ⟨fun _ => ⟨fun j hj => h1 j (by omega), fun j hj => h2 j (by omega)⟩, fun _ => rfl⟩⟩
theorem store_f (xs : List S38) (hl : xs.length ≤ 1000000) : ∃ b, redpencilref14_Store.f (xs.length + 1) xs = some b ∧ (b = true ↔ StoreOk xs) := store_l0 xs hl xs.length 0 rfl (fun j hj => by omega) (fun j hj => by omega)
end Go.Proofs.Ytfbjbajbjlcjfaa.Cn
