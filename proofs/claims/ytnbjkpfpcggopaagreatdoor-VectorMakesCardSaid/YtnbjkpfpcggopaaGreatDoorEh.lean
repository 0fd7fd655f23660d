/- Version vectors, plain law: what the printed helpers of the statements compute. -/
import Derived.Test.YtnbjkpfpcggopaaGreatDoorEb3
import Derived.Test.YtnbjkpfpcggopaaGreatDoorPAllx3
namespace Go.Proofs.YtnbjkpfpcggopaaGreatDoor.Ev
open Go Go.RowKit Go.Proofs Go.Proofs.YtnbjkpfpcggopaaGreatDoorW.PrintWords Go.Proofs.YtnbjkpfpcggopaaGreatDoor.PAll Go.Proofs.YtnbjkpfpcggopaaGreatDoor.Dl Go.Proofs.YtnbjkpfpcggopaaGreatDoor.Dx
set_option linter.unusedSimpArgs false
set_option linter.unusedVariables false

theorem known60 : redpencillaw05_known.f 60 = some true := redpencillaw05_known.at_
theorem known_f {k : Nat} (hk : 60 ≤ k) : redpencillaw05_known.f k = some true := leO_up redpencillaw05_known.mono known60 k hk
theorem then_known {k : Nat} (hk : 60 ≤ k) : ((redpencillaw05_known.f k).bind fun t => some t) = some true := by rw [known_f hk]; rfl
theorem eq_dots (x y : S25) : ((x.f0 == y.f0) && (x.f1 == y.f1)) = decide (x = y) := by
  by_cases h : x = y
  · subst h; simp
  · rw [decide_eq_false h]
    by_cases q : x.f0 = y.f0
    · have q1 : x.f1 ≠ y.f1 := fun p => h (ext_D q p)
      simp [q1]
    · simp [q]
theorem ne_dots (x y : S25) : ((!(x.f0 == y.f0)) || (!(x.f1 == y.f1))) = decide (x ≠ y) := by
  rw [← Bool.not_and, eq_dots]
  by_cases h : x = y <;> simp [h]
theorem same_l0 (l m : List S25) (hl : l.length ≤ 1000000) (hlm : l.length = m.length) : ∀ (n i : Nat), i + n = l.length → ∀ k, n < k → redpencilref04_Same.l0 k l m (i : Int) = some (decide (l.drop i = m.drop i))
  | n, i, h, 0, hk => absurd hk (Nat.not_lt_zero _)
  | 0, i, h, k + 1, _ => by
    rw [redpencilref04_Same.l0, if_neg (by omega), List.drop_of_length_le (by omega), List.drop_of_length_le (by omega)]
    simp
  | n + 1, i, h, k + 1, hk => by
    have hi : i < l.length := by omega
    have hi2 : i < m.length := by omega
    rw [redpencilref04_Same.l0, if_pos (by omega), if_pos (by omega), if_pos (by omega), rd_at hi, rd_at hi2, ne_dots, show ((i : Int) + 1) = ((i + 1 : Nat) : Int) by omega, w64 (i := ((i + 1 : Nat) : Int)) (by omega) (by omega)]
    rw [List.drop_eq_getElem_cons hi, List.drop_eq_getElem_cons hi2]
    by_cases q : l[i] = m[i]
    · rw [if_neg (by simp [q]), same_l0 l m hl hlm n (i + 1) (by omega) k (by omega)]
      congr 1
      exact decide_eq_decide.2 ⟨fun p => by rw [q, p], fun p => (List.cons.inj p).2⟩
    · rw [if_pos (decide_eq_true q), decide_eq_false (fun p => q (List.cons.inj p).1)]
theorem same_val (l m : List S25) (hl : l.length ≤ 1000000) (k : Nat) (hk : l.length < k) : redpencilref04_Same.f k l m = some (decide (l = m)) := by
  unfold redpencilref04_Same.f
  by_cases h : l.length = m.length
  · rw [if_pos (by omega)]
    exact same_l0 l m hl h l.length 0 (by omega) k hk
  · rw [if_neg (by omega), decide_eq_false (fun q => h (by rw [q]))]
theorem gives_f (l m : List S25) (a b : Int) (hl : l.length ≤ 1000000) (k : Nat) (hk : l.length < k) : redpencillaw05_gives.f k l a m b = some (decide ((l, a) = (m, b))) := by
  unfold redpencillaw05_gives.f
  rw [same_val l m hl k hk, Option.bind_some]
  by_cases h : l = m
  · rw [if_pos (decide_eq_true h)]
    subst h
    by_cases q : a = b <;> simp [q]
  · rw [if_neg (by simpa using h), decide_eq_false (fun q => h (by injection q))]
theorem len_made (l : List S25) : (madeV l).length ≤ l.length := by have := len_merge [] l; simpa [madeV] using this
theorem len_of (l : List S25) : (ofV l).1.length ≤ l.length := by
  unfold ofV
  split
  · exact len_made l
  · exact Nat.zero_le _
theorem len_mrg (a b : List S25) : (mrgV a b).1.length ≤ a.length + b.length := by
  unfold mrgV
  split
  · exact len_merge a b
  · exact Nat.zero_le _
theorem made_f (k : Nat) (l m : List S25) (n : Int) (hl : l.length ≤ 100000) (hk : l.length < k) : redpencillaw05_made.f k l m n = some (decide (ofV l = (m, n))) := by
  unfold redpencillaw05_made.f vector_Of.f
  rw [if_pos hl, Option.bind_some, gives_f _ _ _ _ (by have := len_of l; omega) k (by have := len_of l; omega), Option.bind_some]
theorem raised_f (k : Nat) (l m : List S25) (a b n : Int) (hl : l.length ≤ 10000) (hk : l.length + 1 < k) : redpencillaw05_raised.f k l a b m n = some (decide (mrgV l [⟨a, b⟩] = (m, n))) := by
  have hz := len_mrg l [⟨a, b⟩]
  simp only [List.length_cons, List.length_nil] at hz
  unfold redpencillaw05_raised.f vector_Raise.f
  rw [if_pos (by omega), Option.bind_some, gives_f _ _ _ _ (by omega) k (by omega), Option.bind_some]
theorem merged_f (k : Nat) (l m x : List S25) (n : Int) (hl : l.length + m.length ≤ 100000) (hk : l.length + m.length < k) : redpencillaw05_merged.f k l m x n = some (decide (mrgV l m = (x, n))) := by
  have hz := len_mrg l m
  unfold redpencillaw05_merged.f vector_Merge.f
  rw [if_pos hl, Option.bind_some, gives_f _ _ _ _ (by omega) k (by omega), Option.bind_some]
theorem orders_f (l m : List S25) (a n : Int) (hl : l.length + m.length ≤ 100000) : redpencillaw05_orders.f l m a n = some (decide (ordT l m = (a, n))) := by
  unfold redpencillaw05_orders.f vector_Order.f
  rw [if_pos hl, Option.bind_some]
  obtain ⟨⟨p, q⟩, e⟩ : ∃ z, ordT l m = z := ⟨_, rfl⟩
  rw [e]
  by_cases h : p = a
  · subst h
    rw [if_pos rfl]
    by_cases h2 : q = n <;> simp [h2]
  · rw [if_neg h, decide_eq_false (fun z => h (by injection z))]
theorem toL_eq (a b : ByteArray) : a.toList = b.toList ↔ a = b := ⟨fun q => ByteArray.ext (Array.toList_inj.1 (by rw [← Lib.toList_data, ← Lib.toList_data]; exact q)), fun q => by rw [q]⟩
theorem vtexts_f (l : List S25) (s : ByteArray) (n : Int) (hl : l.length ≤ 100000) : redpencillaw05_texts.f l s n = some (decide (vecT l = (s, n))) := by
  unfold redpencillaw05_texts.f vector_Text.f
  rw [if_pos hl, Option.bind_some]
  obtain ⟨⟨p, q⟩, e⟩ : ∃ z, vecT l = z := ⟨_, rfl⟩
  rw [e]
  by_cases h : p = s
  · subst h
    rw [if_pos rfl]
    by_cases h2 : q = n <;> simp [h2]
  · rw [if_neg (fun z => h ((toL_eq _ _).1 z)), decide_eq_false (fun z => h (by injection z))]
theorem len_vecP (s : ByteArray) : (vecP s).1.length ≤ s.size + 1 := by
  unfold vecP
  have := splB_len s
  have e : (dotsB (splB s)).length = (splB s).length := List.length_map ..
  split
  · exact Nat.zero_le _
  · split
    · show (dotsB (splB s)).length ≤ _; omega
    · exact Nat.zero_le _
theorem vparses_f (k : Nat) (s : ByteArray) (m : List S25) (n : Int) (hs : s.size ≤ 100000) (hk : s.size + 1 < k) : redpencillaw05_parses.f k s m n = some (decide (vecP s = (m, n))) := by
  have hz := len_vecP s
  unfold redpencillaw05_parses.f vector_Parse.f
  rw [if_pos (by omega), Option.bind_some, gives_f _ _ _ _ (by omega) k (by omega), Option.bind_some]
theorem vhas_f (l : List S25) (hl : l.length ≤ 100000) (a b : Int) : vector_Has.f l a b = some (decide (hasV l ⟨a, b⟩)) := by
  unfold vector_Has.f vector_Get.f
  rw [dot_f, Option.bind_some]
  by_cases h : okDot a b
  · rw [if_pos (decide_eq_true h), if_pos hl, Option.bind_some]
    congr 1
    exact decide_eq_decide.2 ⟨fun q => ⟨h, q⟩, fun q => q.2⟩
  · rw [if_neg (by simpa using h), decide_eq_false (fun q => h q.1)]
theorem valid_f (l : List S25) (hl : l.length ≤ 100000) : vector_Valid.f l = some (decide (VOk l)) := if_pos hl
end Go.Proofs.YtnbjkpfpcggopaaGreatDoor.Ev
