/- Layer 17, plain law: CanonLongs. -/
import Derived.Test.YtfbjbajbjlcjfaaCt
import Derived.Test.YtfbjbajbjlcjfaaPCanonStatesx3
import Derived.Test.YtfbjbajbjlcjfaaPCanonStatesx21
namespace Go.Proofs.Ytfbjbajbjlcjfaa.Cn
open Go Go.RowKit Go.Proofs Go.Proofs.Ytfbjbajbjlcjfaa.PCanonStates Go.Proofs.YtfbjbajbjlcjfaaW.PrintWords
set_option linter.unusedSimpArgs false
set_option linter.unusedVariables false

theorem set_app {α : Type} (A : List α) (z v : α) (m : Nat) : (A ++ List.replicate (m + 1) z).set A.length v = (A ++ [v]) ++ List.replicate m z := by
  rw [List.set_append_right _ _ (Nat.le_refl _), Nat.sub_self, List.replicate_succ, List.set_cons_zero, List.append_assoc]
  rfl
theorem get_app {α : Type} (A : List α) (z v d : α) (m : Nat) : ((A ++ [v]) ++ List.replicate m z).getD A.length d = v := by
  rw [List.append_assoc, List.getD_eq_getElem?_getD, List.getElem?_append_right (Nat.le_refl _), Nat.sub_self]
  rfl
theorem set_app' {α : Type} (A : List α) (z v : α) (m i : Nat) (h : A.length = i) : (A ++ List.replicate (m + 1) z).set i v = (A ++ [v]) ++ List.replicate m z := by
  subst h
  exact set_app A z v m
theorem get_app' {α : Type} (A : List α) (z v d : α) (m i : Nat) (h : A.length = i) : ((A ++ [v]) ++ List.replicate m z).getD i d = v := by
  subst h
  exact get_app A z v d m
theorem len_app {α : Type} (A : List α) (z : α) (m i n : Nat) (h : A.length = i) (hm : m + 1 + i = n) : (A ++ List.replicate (m + 1) z).length = n := by
  rw [List.length_append, List.length_replicate, h]
  omega
theorem mod60 (i : Nat) : wrap64 (1 + Int.tmod (i : Int) 60) = 1 + (i : Int) % 60 := by
  rw [Int.tmod_eq_emod_of_nonneg (by omega), w64 (by omega) (by omega)]
theorem longS_succ (r : Int) (i : Nat) : longS r 0 (i + 1) = longS r 0 i ++ [lnode r i] := by
  unfold longS
  rw [List.range'_1_concat, List.map_append]
  simp
theorem longD_succ (r : Int) (i : Nat) : longD r 0 (i + 1) = longD r 0 i ++ [⟨r, 2 * (i : Int) + 2⟩] := by
  unfold longD
  rw [List.range'_1_concat, List.map_append]
  simp
theorem longs_end (n : Nat) (r : Int) (h1 : 1 ≤ r) (h2 : r ≤ 64) (hn0 : 65534 ≤ n) (hn : n ≤ 65538) (K : Nat) (hK : 60 ≤ K) :
    redpencillaw17_CanonLongs.l0 (K + 1) (n : Int) r (longS r 0 n) (longD r 0 n) (n : Int) = some true := by
  have hS := longS_len r 0 n
  have hD := longD_len r 0 n
  have oS := long_ok r n h1 h2 (by omega)
  have oD := longD_ok r n h1 h2 (by omega)
  rw [redpencillaw17_CanonLongs.l0, if_neg (by omega), siz_f (by omega), Option.bind_some, enc_f (by omega), Option.bind_some, ctx_f (by simp) (by omega), Option.bind_some]
  by_cases h : 65536 < n
  · have z : (((([] : List Int), (5 : Int)).1.length : Nat) : Int) = 0 := rfl
    rw [if_pos (by omega), cenP_long oS (by omega), ccxP_long oD (by rw [hD]; omega), if_pos z, if_pos rfl, if_pos z, if_pos rfl, if_pos z, if_pos rfl]
    exact then_known hK
  · have e1 : wrap64 (5 * (n : Int)) = 5 * n := w64 (by omega) (by omega)
    have e2 : wrap64 (6 + 5 * (n : Int)) = 6 + 5 * n := w64 (by omega) (by omega)
    have e3 : wrap64 (3 * (n : Int)) = 3 * n := w64 (by omega) (by omega)
    have l1 := long_len r n h1 h2 (by omega) (by omega)
    have l2 := long_ctx r n h1 h2 hn0 (by omega)
    rw [if_neg (by omega), cenP_ok oS (by omega), ccxP_ok oD (by simp) (by omega), e1, e2, e3]
    dsimp only
    rw [if_pos (by omega), if_pos rfl, if_pos rfl, if_pos rfl, if_pos rfl, if_pos (by omega)]
    exact then_known hK
theorem longs_l0 (n : Nat) (r : Int) (h1 : 1 ≤ r) (h2 : r ≤ 64) (hn0 : 65534 ≤ n) (hn : n ≤ 65538) (K : Nat) (hK : 60 ≤ K) : ∀ (m i : Nat), m + i = n →
    redpencillaw17_CanonLongs.l0 (m + (K + 1)) (n : Int) r (longS r 0 i ++ List.replicate m z38) (longD r 0 i ++ List.replicate m z36) (i : Int) = some true
  | 0, i, hm => by
    obtain rfl : i = n := by omega
    rw [List.replicate_zero, List.replicate_zero, List.append_nil, List.append_nil, Nat.zero_add]
    exact longs_end i r h1 h2 hn0 hn K hK
  | m + 1, i, hm => by
    have hi : (i : Int) < n := by omega
    have hi0 : (0 : Int) ≤ (i : Int) := by omega
    have e1 : wrap64 (2 * (i : Int)) = 2 * i := w64 (by omega) (by omega)
    have e2 : wrap64 (2 * (i : Int) + 2) = 2 * i + 2 := w64 (by omega) (by omega)
    have e4 := mod60 i
    have e5 : wrap64 ((i : Int) + 1) = ((i + 1 : Nat) : Int) := by rw [w64 (by omega) (by omega)]; omega
    have g1 := set_app' (longD r 0 i) z36 (⟨r, 2 * (i : Int) + 2⟩ : S36) m i (longD_len r 0 i)
    have g2 := set_app' (longS r 0 i) z38 (lnode r i) m i (longS_len r 0 i)
    have g3 := get_app' (longD r 0 i) z36 (⟨r, 2 * (i : Int) + 2⟩ : S36) z36 m i (longD_len r 0 i)
    have ld := len_app (longD r 0 i) z36 m i n (longD_len r 0 i) hm
    have ls := len_app (longS r 0 i) z38 m i n (longS_len r 0 i) hm
    have hd : redpencillaw17_dot.f r (2 * (i : Int) + 2) = some (r, 2 * (i : Int) + 2) := by unfold redpencillaw17_dot.f; rfl
    have hr : rd_T36 ((longD r 0 i ++ [(⟨r, 2 * (i : Int) + 2⟩ : S36)]) ++ List.replicate m z36) (i : Int) = ⟨r, 2 * (i : Int) + 2⟩ := by unfold rd_T36; rw [Int.toNat_natCast]; exact g3
    have IH := longs_l0 n r h1 h2 hn0 hn K hK m (i + 1) (by omega)
    rw [longS_succ, longD_succ, ← g2] at IH
    rw [show m + 1 + (K + 1) = (m + (K + 1)) + 1 by omega, redpencillaw17_CanonLongs.l0, if_pos hi, e1, e2, hd, Option.bind_some, if_pos hi0, if_pos (by rw [ld]; exact hi), Int.toNat_natCast, g1, Option.bind_some, if_pos (by rw [ls]; exact hi), hr, e4, e5]
    exact IH
theorem canonLongs_f (a b : Int) (k : Nat) (hk : 66000 ≤ k) : redpencillaw17_CanonLongs.f k a b = some true := by
  have hj : ∀ k, 61 ≤ k → redpencillaw17_CanonLongs.j0 k a b true = some true := fun k hk => by
    obtain ⟨q, rfl⟩ : ∃ q, k = q + 1 := ⟨k - 1, by omega⟩
    rw [redpencillaw17_CanonLongs.j0, if_pos rfl]
    exact then_known (by omega)
  unfold redpencillaw17_CanonLongs.f
  by_cases h1 : a < 65534
  · rw [if_pos h1]; exact hj k (by omega)
  · rw [if_neg h1]
    by_cases h2 : a > 65538
    · rw [if_pos h2]; exact hj k (by omega)
    · rw [if_neg h2]
      by_cases h3 : b < 1
      · rw [if_pos h3]; exact hj k (by omega)
      · rw [if_neg h3]
        by_cases h4 : b > 64
        · rw [decide_eq_true h4]; exact hj k (by omega)
        · rw [decide_eq_false h4]
          obtain ⟨n, rfl⟩ : ∃ n : Nat, a = n := ⟨a.toNat, by omega⟩
          obtain ⟨K, rfl⟩ : ∃ K, k = (n + (K + 1)) + 1 := ⟨k - n - 2, by omega⟩
          rw [redpencillaw17_CanonLongs.j0, if_neg (by simp), if_pos (by omega), Int.toNat_natCast, if_pos (by omega), if_pos (by omega)]
          exact longs_l0 n b (by omega) (by omega) (by omega) (by omega) K (by omega) n 0 rfl
theorem canonLongs_walk (a b : Int) (W : World) : Calls Try.prog 6 #[.int .i64 a, .int .i64 b] W fun e W' => e = .returned (.bool true) ∧ Below W.heap.size W W' := redpencillaw17_CanonLongs.calls 66000 a b W (canonLongs_f a b 66000 (Nat.le_refl _))
end Go.Proofs.Ytfbjbajbjlcjfaa.Cn
