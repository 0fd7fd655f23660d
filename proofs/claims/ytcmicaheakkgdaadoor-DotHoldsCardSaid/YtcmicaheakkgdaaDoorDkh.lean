/- Layer 4, plain law: DotHolds answers true. -/
import Derived.Test.YtcmicaheakkgdaaDoorDmc
import Derived.Test.YtcmicaheakkgdaaDoorPAllx8
namespace Go.Proofs.YtcmicaheakkgdaaDoor.Dl
open Go Go.RowKit Go.Proofs Go.Proofs.YtcmicaheakkgdaaDoorW.PrintWords Go.Proofs.YtcmicaheakkgdaaDoor.PAll Go.Proofs.YtcmicaheakkgdaaDoor.Dx
set_option linter.unusedSimpArgs false
set_option linter.unusedVariables false

theorem cmp_range (a b : S23) : -1 ≤ cmpD a b ∧ cmpD a b ≤ 1 := by
  unfold cmpD
  split
  · omega
  · split <;> omega
theorem cmp_pos (a b : S23) : 0 < cmpD a b ↔ ltD b a := by
  rw [← cmpD_neg b a, cmpD_symm a b]
  omega
theorem dotP_text (a b : Int) (h : okDot a b ∨ (a = 0 ∧ b = 0)) : dotP (dtP a b) = (a, b, 0) := by
  rcases h with h | ⟨rfl, rfl⟩
  · exact dotP_yes h
  · exact dotP_root
theorem holds_l0 (s m : List S23) (hs : s.length ≤ 60) (hm : m.length ≤ 60) (hd : ∀ x ∈ m, x ∉ s) (a b : Int) : ∀ (n i : Nat), i + n = m.length → ∀ k, n + 100 < k → redpencillaw04_DotHolds.l0 k s m (m.length : Int) (i : Int) a b = some true
  | n, i, h, 0, hk => absurd hk (Nat.not_lt_zero _)
  | 0, i, h, k + 1, hk => by
    rw [redpencillaw04_DotHolds.l0, if_neg (by omega)]
    unfold dot_Text.f
    rw [Option.bind_some, valid_val, Option.bind_some]
    by_cases hv : okDot a b
    · have e : dotT a b = (dtP a b, 0) := if_pos (.inl hv)
      have l20 : (dtP a b).size ≤ 20 := by show (dtL a b).toArray.size ≤ 20; rw [List.size_toArray]; exact dtL_len (.inl hv)
      rw [if_pos (decide_eq_true hv), e]
      show (if ((0 == (0 : Int)) != true) = true then _ else if (0 : Int) = 0 then _ else _) = _
      rw [if_neg (by decide), if_pos rfl, pv _ a b 0 (by omega) (dotP_text a b (.inl hv)), Option.bind_some, if_pos rfl]
      exact then_known (by omega)
    · rw [if_neg (by simp [hv]), root_val, Option.bind_some]
      by_cases h0 : a = 0 ∧ b = 0
      · have e : dotT a b = (dtP a b, 0) := if_pos (.inr h0)
        have l20 : (dtP a b).size ≤ 20 := by show (dtL a b).toArray.size ≤ 20; rw [List.size_toArray]; exact dtL_len (.inr h0)
        rw [decide_eq_true h0, e]
        show (if ((0 == (0 : Int)) != true) = true then _ else if (0 : Int) = 0 then _ else _) = _
        rw [if_neg (by decide), if_pos rfl, pv _ a b 0 (by omega) (dotP_text a b (.inr h0)), Option.bind_some, if_pos rfl]
        exact then_known (by omega)
      · have e : dotT a b = (⟨#[]⟩, 2) := if_neg (fun q => q.elim hv h0)
        rw [decide_eq_false h0, e]
        show (if ((2 == (0 : Int)) != false) = true then _ else if (2 : Int) = 0 then _ else _) = _
        rw [if_neg (by decide), if_neg (by decide)]
        exact then_known (by omega)
  | n + 1, i, h, k + 1, hk => by
    have hi : i < m.length := by omega
    rw [redpencillaw04_DotHolds.l0, if_pos (by omega), if_pos (by omega), if_pos (by omega), rdN, getDN m i hi, dhas_val s m[i] (by omega) k (by omega), decide_eq_false (hd _ (List.getElem_mem hi)), Option.bind_some, if_neg (by decide), wi (by omega)]
    exact holds_l0 s m hs hm hd a b n (i + 1) (by omega) k (by omega)
theorem union_comm (l m : List S23) : unionD l m = unionD m l := srt_eq (srt_set _) (srt_set _) fun z => by rw [mem_union, mem_union]; exact or_comm
theorem minus_union (l m : List S23) : unionD (minusD l m) m = unionD l m := srt_eq (srt_set _) (srt_set _) fun z => by
  rw [mem_union, mem_union, mem_minus]
  by_cases h : z ∈ m <;> simp [h]
theorem minus_set (l m : List S23) : minusD (minusD l m) (setD l) = [] := by
  refine srt_eq (srt_set _) List.Pairwise.nil fun z => ?_
  rw [mem_minus, mem_minus, mem_set]
  simp only [List.not_mem_nil, iff_false]
  exact fun q => q.2 q.1.1
theorem holds_j1 (l m : List S23) (hl : l.length ≤ 60) (hm : m.length ≤ 60) (a b : Int) : ∀ k, 300 ≤ k → redpencillaw04_DotHolds.j1 k l m false a b = some true := by
  intro k hk
  obtain ⟨k, rfl⟩ : ∃ j, k = j + 3 := ⟨k - 3, by omega⟩
  have h1 := set_len l
  have h2 := set_len (l ++ m)
  have h3 := set_len (m ++ l)
  have h4 := set_len (l.filter fun z => decide (z ∉ m))
  have h5 := List.length_filter_le (fun z => decide (z ∉ m)) l
  have h4 : (minusD l m).length ≤ 60 := by unfold minusD; omega
  rw [List.length_append] at h2 h3
  have h2 : (unionD l m).length ≤ 120 := by unfold unionD; omega
  rw [redpencillaw04_DotHolds.j1, if_neg (by decide), show dot_Set.f l = some (setD l) from if_pos (by omega), Option.bind_some, isset_val _ (by omega) _ (by omega), decide_eq_true (srt_set l), Option.bind_some, if_pos rfl]
  rw [show dot_Set.f (setD l) = some (setD l) from (if_pos (by omega)).trans (by rw [set_of_srt (srt_set l)]), Option.bind_some, same_val _ _ (by omega) _ (by omega), decide_eq_true rfl, Option.bind_some, if_pos rfl]
  rw [show dot_Union.f l m = some (unionD l m) from if_pos (by omega), Option.bind_some, show dot_Union.f m l = some (unionD l m) from (if_pos (by omega)).trans (by rw [union_comm]), Option.bind_some, same_val _ _ (by omega) _ (by omega), decide_eq_true rfl, Option.bind_some]
  show redpencillaw04_DotHolds.j2 (k + 2) l m (setD l) false a b = some true
  rw [redpencillaw04_DotHolds.j2, if_neg (by decide), show dot_Minus.f l m = some (minusD l m) from if_pos (by omega), Option.bind_some, show dot_Union.f (minusD l m) m = some (unionD l m) from (if_pos (by omega)).trans (by rw [minus_union]), Option.bind_some, show dot_Union.f l m = some (unionD l m) from if_pos (by omega), Option.bind_some, same_val _ _ (by omega) _ (by omega), decide_eq_true rfl, Option.bind_some, if_pos rfl]
  rw [isset_val _ (by omega) _ (by omega), decide_eq_true (show Srt (minusD l m) from srt_set _), Option.bind_some, if_pos rfl, show dot_Minus.f (minusD l m) (setD l) = some [] from (if_pos (by omega)).trans (by rw [minus_set]), Option.bind_some]
  show redpencillaw04_DotHolds.j3 (k + 1) m (minusD l m) false a b = some true
  rw [redpencillaw04_DotHolds.j3, if_neg (by decide)]
  exact holds_l0 (minusD l m) m h4 hm (fun x hx q => (mem_minus.1 q).2 hx) a b m.length 0 (by omega) k (by omega)
theorem DotHolds_f (l m : List S23) (a b c d e f : Int) : redpencillaw04_DotHolds.f 400 l m a b c d e f = some true := by
  have k0 : redpencillaw04_DotHolds.j0 400 l m true a b c d e f = some true := by
    rw [redpencillaw04_DotHolds.j0, if_pos rfl]; exact then_known (by decide)
  unfold redpencillaw04_DotHolds.f
  by_cases h : (l.length : Int) > 60
  · rw [if_pos h]; exact k0
  · rw [if_neg h]
    by_cases h2 : (m.length : Int) > 60
    · rw [decide_eq_true h2]; exact k0
    · rw [decide_eq_false h2]
      have J := holds_j1 l m (by omega) (by omega) a b 399 (by decide)
      rw [redpencillaw04_DotHolds.j0, if_neg (by decide), cv (by decide) a b c d _ rfl, Option.bind_some, cv (by decide) c d e f _ rfl, Option.bind_some, cv (by decide) a b e f _ rfl, Option.bind_some, cv (by decide) c d a b _ rfl, Option.bind_some]
      generalize hX : (⟨a, b⟩ : S23) = X
      generalize hY : (⟨c, d⟩ : S23) = Y
      generalize hZ : (⟨e, f⟩ : S23) = Z
      have e1 : (a == c && (b == d)) = decide (X = Y) := by rw [← hX, ← hY]; exact eq_dots ⟨a, b⟩ ⟨c, d⟩
      have r1 := cmp_range X Y
      have e2 : ((cmpD X Y == 0) != decide (X = Y)) = false := by
        by_cases q : X = Y
        · rw [(cmpD_zero X Y).2 q, decide_eq_true q]; rfl
        · have := mt (cmpD_zero X Y).1 q
          rw [decide_eq_false q]
          simp [this]
      have e3 : (cmpD Y X != wrap64 (-cmpD X Y)) = false := by
        rw [cmpD_symm X Y, w64 (by omega) (by omega)]
        simp
      have n1 : cmpD X Y < 0 → cmpD Y Z < 0 → ¬ cmpD X Z ≥ 0 := fun p q => by
        have := (cmpD_neg X Z).2 (lt_trans ((cmpD_neg X Y).1 p) ((cmpD_neg Y Z).1 q))
        omega
      have n2 : cmpD X Y > 0 → cmpD Y Z > 0 → ¬ cmpD X Z ≤ 0 := fun p q => by
        have := (cmp_pos X Z).2 (lt_trans ((cmp_pos Y Z).1 q) ((cmp_pos X Y).1 p))
        omega
      rw [e1, e2, e3]
      generalize cmpD X Y = p at *
      generalize cmpD Y Z = q at *
      generalize cmpD X Z = r at *
      repeat' split
      all_goals first | exact J | exact absurd ‹_› (n1 ‹_› ‹_›) | exact absurd ‹_› (n2 ‹_› ‹_›) | exact absurd ‹false = true› (by decide)
end Go.Proofs.YtcmicaheakkgdaaDoor.Dl
