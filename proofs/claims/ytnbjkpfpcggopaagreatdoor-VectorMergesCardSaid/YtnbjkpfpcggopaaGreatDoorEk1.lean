/- Version vectors, plain law: VectorMerges answers true. -/
/- Layer 5: the call of VectorMerges at read arguments. -/
import Derived.Test.YtnbjkpfpcggopaaGreatDoorEh
import Derived.Test.YtnbjkpfpcggopaaGreatDoorPAllx6
import Derived.Test.YtnbjkpfpcggopaaGreatDoorEb4
namespace Go.Proofs.YtnbjkpfpcggopaaGreatDoor.Ev
open Go Go.RowKit Go.Proofs Go.Proofs.YtnbjkpfpcggopaaGreatDoorW.PrintWords Go.Proofs.YtnbjkpfpcggopaaGreatDoor.PAll Go.Proofs.YtnbjkpfpcggopaaGreatDoor.Dl Go.Proofs.YtnbjkpfpcggopaaGreatDoor.Dx
set_option linter.unusedSimpArgs false
set_option linter.unusedVariables false

theorem ord_eq {a b : List S25} (ha : VOk a) (hb : VOk b) : ordT a b = (ordV a b, 0) := by
  unfold ordT ordV
  rw [if_pos ⟨ha, hb⟩]
  have w1 := within_merge ha hb
  have w2 := within_merge hb ha
  rw [merge_comm hb ha] at w2
  by_cases h1 : within a b
  · by_cases h2 : within b a
    · rw [if_pos (within_anti ha hb h1 h2), if_pos ⟨h1, h2⟩]
    · have hne : a ≠ b := fun e => h2 (by subst e; exact h1)
      rw [if_neg hne, if_pos (w1.1 h1), if_neg (fun q => h2 q.2), if_pos h1]
  · have hne : a ≠ b := fun e => h1 (by subst e; exact (within_iff ha ha).2 (fun _ => Int.le_refl _))
    have hn : ¬ (within a b ∧ within b a) := fun q => h1 q.1
    by_cases h2 : within b a
    · rw [if_neg hne, if_neg (fun q => h1 (w1.2 q)), if_pos (w2.1 h2), if_neg hn, if_neg h1, if_pos h2]
    · rw [if_neg hne, if_neg (fun q => h1 (w1.2 q)), if_neg (fun q => h2 (w2.2 q)), if_neg hn, if_neg h1, if_neg h2]
theorem mg_l0 (a b : List S25) (ha : a.length ≤ 40) (hb : b.length ≤ 40) (L : Nat) (hL : L ≤ 1000) : ∀ (n i : Nat) (x : List S25), i + n = L → x.length = L → ∀ k, n + 150 ≤ k → redpencillaw05_VectorMerges.l0 k a b a b x (L : Int) (i : Int) = some true
  | 0, i, x, h, hx, k, hk => by
    obtain ⟨k, rfl⟩ : ∃ j, k = j + 1 := ⟨k - 1, by omega⟩
    rw [redpencillaw05_VectorMerges.l0, if_neg (by omega), same_val a a (by omega) k (by omega), decide_eq_true rfl, Option.bind_some, if_pos rfl, same_val b b (by omega) k (by omega), decide_eq_true rfl, Option.bind_some, if_pos rfl]
    exact then_known (by omega)
  | n + 1, i, x, h, hx, k, hk => by
    obtain ⟨k, rfl⟩ : ∃ j, k = j + 1 := ⟨k - 1, by omega⟩
    rw [redpencillaw05_VectorMerges.l0, if_pos (by omega), if_pos (by omega), if_pos (by omega), show ((i : Int) + 1) = ((i + 1 : Nat) : Int) by omega, w64 (i := ((i + 1 : Nat) : Int)) (by omega) (by omega)]
    exact mg_l0 a b ha hb L hL n (i + 1) _ (by omega) (by rw [List.length_set]; exact hx) k (by omega)
theorem mg_j1t (k : Nat) (hk : 150 ≤ k) (a b : List S25) (ha : a.length ≤ 40) (hb : b.length ≤ 40) (h : ¬ (VOk a ∧ VOk b)) : redpencillaw05_VectorMerges.j1 k a b true = some true := by
  obtain ⟨k, rfl⟩ : ∃ j, k = j + 1 := ⟨k - 1, by omega⟩
  rw [redpencillaw05_VectorMerges.j1, if_pos rfl, merged_f k a b [] 2 (by omega) (by omega), decide_eq_true (show mrgV a b = ([], 2) from if_neg h), Option.bind_some, if_pos rfl, orders_f a b 0 2 (by omega), decide_eq_true (show ordT a b = (0, 2) from if_neg h), Option.bind_some, if_pos rfl]
  exact then_known (by omega)
theorem mg_j1f (k : Nat) (hk : 1300 ≤ k) (a b : List S25) (ha : a.length ≤ 40) (hb : b.length ≤ 40) (h1 : VOk a) (h2 : VOk b) : redpencillaw05_VectorMerges.j1 k a b false = some true := by
  obtain ⟨k, rfl⟩ : ∃ j, k = j + 1 := ⟨k - 1, by omega⟩
  obtain ⟨k, rfl⟩ : ∃ j, k = j + 1 := ⟨k - 1, by omega⟩
  have em : vector_Merge.f a b = some (mrgV a b) := if_pos (by omega)
  have e : mrgV a b = (mergeV a b, 0) := if_pos ⟨h1, h2⟩
  have er : redpencilref05_Merge.f a b = some (mergeV a b) := if_pos ⟨by omega, h1, h2⟩
  have hz := len_merge a b
  rw [redpencillaw05_VectorMerges.j1, if_neg (by decide), if_pos (by simp only [List.length_nil]; omega), Option.bind_some, if_pos (by simp only [List.length_nil]; omega), Option.bind_some, List.nil_append, List.nil_append, em, e, Option.bind_some, er, Option.bind_some, gives_f (mergeV a b) (mergeV a b) 0 0 (by omega) (k + 1) (by omega), decide_eq_true rfl, Option.bind_some, if_pos rfl, rorder_f a b (by omega) (by omega) h1.2 h2.2 (k + 1) (by omega), Option.bind_some, orders_f a b _ 0 (by omega), decide_eq_true (ord_eq h1 h2), Option.bind_some]
  show redpencillaw05_VectorMerges.j2 (k + 1) a b a b (mergeV a b) false = _
  rw [redpencillaw05_VectorMerges.j2, if_neg (by decide)]
  exact mg_l0 a b ha hb (mergeV a b).length (by omega) (mergeV a b).length 0 _ (by omega) rfl k (by omega)
theorem mg_j0f (k : Nat) (hk : 1310 ≤ k) (a b : List S25) (ha : a.length ≤ 40) (hb : b.length ≤ 40) : redpencillaw05_VectorMerges.j0 k a b false = some true := by
  obtain ⟨k, rfl⟩ : ∃ j, k = j + 1 := ⟨k - 1, by omega⟩
  rw [redpencillaw05_VectorMerges.j0, if_neg (by decide), rvvalid_f a (by omega) k (by omega), Option.bind_some]
  by_cases h1 : VOk a
  · rw [decide_eq_true h1, if_pos rfl, rvvalid_f b (by omega) k (by omega), Option.bind_some]
    by_cases h2 : VOk b
    · rw [decide_eq_true h2]; exact mg_j1f k (by omega) a b ha hb h1 h2
    · rw [decide_eq_false h2]; exact mg_j1t k (by omega) a b ha hb (fun q => h2 q.2)
  · rw [decide_eq_false h1, if_neg (by decide)]; exact mg_j1t k (by omega) a b ha hb (fun q => h1 q.1)
theorem mg_j0t (k : Nat) (hk : 100 ≤ k) (a b : List S25) : redpencillaw05_VectorMerges.j0 k a b true = some true := by
  obtain ⟨k, rfl⟩ : ∃ j, k = j + 1 := ⟨k - 1, by omega⟩
  rw [redpencillaw05_VectorMerges.j0, if_pos rfl]
  exact then_known (by omega)
theorem Merges_f (a b : List S25) : redpencillaw05_VectorMerges.f 1400 a b = some true := by
  unfold redpencillaw05_VectorMerges.f
  by_cases h : (a.length : Int) > 40
  · rw [if_pos h]; exact mg_j0t _ (by decide) a b
  · rw [if_neg h]
    by_cases h2 : (b.length : Int) > 40
    · rw [decide_eq_true h2]; exact mg_j0t _ (by decide) a b
    · rw [decide_eq_false h2]; exact mg_j0f _ (by decide) a b (by omega) (by omega)
end Go.Proofs.YtnbjkpfpcggopaaGreatDoor.Ev

namespace Go.Proofs.YtnbjkpfpcggopaaGreatDoor.Ev
open Go Go.RowKit Go.Proofs Go.Proofs.YtnbjkpfpcggopaaGreatDoor.Kit Go.Proofs.YtnbjkpfpcggopaaGreatDoor.PAll Go.Proofs.YtnbjkpfpcggopaaGreatDoorW.PrintWords Go.Proofs.YtnbjkpfpcggopaaGreatDoor.Dl
set_option linter.unusedSimpArgs false
set_option linter.unusedVariables false

theorem merges_walk (A0 : Option Addr) (c0 : Nat) (l0 : List S25) (A1 : Option Addr) (c1 : Nat) (l1 : List S25) (W : World) (hG : GOK W) (h0 : k25.C W A0 l0.length l0) (hc0 : l0.length ≤ c0) (h1 : k25.C W A1 l1.length l1) (hc1 : l1.length ≤ c1) : Calls Tryz.prog 5 #[.slice A0 l0.length c0, .slice A1 l1.length c1] W (YesP W) := by
  exact redpencillaw05_VectorMerges.calls 1400 A0 c0 l0 A1 c1 l1 W hG h0 hc0 h1 hc1 (Merges_f _ _)
end Go.Proofs.YtnbjkpfpcggopaaGreatDoor.Ev
