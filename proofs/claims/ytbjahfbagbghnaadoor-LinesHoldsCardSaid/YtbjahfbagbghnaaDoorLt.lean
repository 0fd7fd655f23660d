/- Layer 41, plain law: words: LinesWords. -/
import Derived.Test.YtbjahfbagbghnaaDoorLc
import Derived.Test.YtbjahfbagbghnaaDoorPAllx2
import Derived.Test.YtbjahfbagbghnaaDoorPAllx10
namespace Go.Proofs.YtbjahfbagbghnaaDoor.Lp
open Go Go.RowKit Go.Proofs Go.Proofs.YtbjahfbagbghnaaDoorW.PrintWords Go.Proofs.YtbjahfbagbghnaaDoorW.PrintMore Go.Proofs.YtbjahfbagbghnaaDoor.Rn Go.Proofs.YtbjahfbagbghnaaDoor.PAll
set_option linter.unusedSimpArgs false
set_option linter.unusedVariables false

/-- A character of words. -/
def wrd (c : Int) : Bool := decide ((97 ≤ c ∧ c ≤ 122) ∨ (65 ≤ c ∧ c ≤ 90) ∨ (48 ≤ c ∧ c ≤ 57) ∨ c = 95 ∨ 127 < c)
theorem word_f (c : Int) : lines_word.f c = some (wrd c) := by
  unfold lines_word.f wrd
  (repeat' split) <;> congr 1 <;> (first | (symm; rw [decide_eq_true_eq]; omega) | (apply decide_eq_decide.2; omega))
theorem lettered_f (c : Int) : redpencillaw41_lettered.f c = some (wrd c) := by
  unfold redpencillaw41_lettered.f wrd
  (repeat' split) <;> congr 1 <;> (first | (symm; rw [decide_eq_true_eq]; omega) | (symm; rw [decide_eq_false_iff_not]; omega) | (apply decide_eq_decide.2; omega))
/-- The first place from one on at which no character of a kind stands; by at most so many steps. -/
def fo (l : List Int) (b : Bool) : Nat → Nat → Nat
  | 0, n => n
  | d + 1, n => if n < l.length ∧ wrd (l.getD n 0) = b then fo l b d (n + 1) else n
def ba (l : List Int) (b : Bool) : Nat → Nat
  | 0 => 0
  | n + 1 => if wrd (l.getD n 0) = b then ba l b n else n + 1
theorem fo_succ (l : List Int) (b : Bool) (d n : Nat) : fo l b (d + 1) n = if n < l.length ∧ wrd (l.getD n 0) = b then fo l b d (n + 1) else n := rfl
theorem ba_succ (l : List Int) (b : Bool) (n : Nat) : ba l b (n + 1) = if wrd (l.getD n 0) = b then ba l b n else n + 1 := rfl
theorem fo_spec (l : List Int) (b : Bool) : ∀ (d n : Nat), n ≤ l.length → l.length ≤ n + d → n ≤ fo l b d n ∧ fo l b d n ≤ l.length ∧ (∀ j, n ≤ j → j < fo l b d n → wrd (l.getD j 0) = b) ∧ (fo l b d n < l.length → wrd (l.getD (fo l b d n) 0) ≠ b)
  | 0, n, h1, h2 => ⟨Nat.le_refl _, h1, fun j a c => by unfold fo at c; omega, fun q => by unfold fo at q; omega⟩
  | d + 1, n, h1, h2 => by
    unfold fo
    by_cases h : n < l.length ∧ wrd (l.getD n 0) = b
    · rw [if_pos h]
      obtain ⟨a1, a2, a3, a4⟩ := fo_spec l b d (n + 1) (by omega) (by omega)
      refine ⟨by omega, a2, fun j c1 c2 => ?_, a4⟩
      rcases Nat.eq_or_lt_of_le c1 with q | q
      · subst q; exact h.2
      · exact a3 j q c2
    · rw [if_neg h]
      exact ⟨Nat.le_refl _, h1, fun j a c => by omega, fun q e => h ⟨q, e⟩⟩
theorem ba_spec (l : List Int) (b : Bool) : ∀ n, ba l b n ≤ n ∧ (∀ j, ba l b n ≤ j → j < n → wrd (l.getD j 0) = b) ∧ (0 < ba l b n → wrd (l.getD (ba l b n - 1) 0) ≠ b)
  | 0 => ⟨Nat.le_refl _, fun j a c => by omega, fun h => absurd h (by simp [ba])⟩
  | n + 1 => by
    unfold ba
    by_cases h : wrd (l.getD n 0) = b
    · rw [if_pos h]
      obtain ⟨a1, a2, a3⟩ := ba_spec l b n
      refine ⟨by omega, fun j c1 c2 => ?_, a3⟩
      rcases Nat.lt_or_ge j n with q | q
      · exact a2 j c1 q
      · obtain rfl : j = n := by omega
        exact h
    · rw [if_neg h]
      exact ⟨Nat.le_refl _, fun j a c => by omega, fun _ => by rw [Nat.add_sub_cancel]; exact h⟩
theorem forth_f (l : List Int) (b : Bool) (hl : l.length ≤ 1000000) : ∀ (d n : Nat), n ≤ l.length → l.length ≤ n + d → ∀ k, d + 1 ≤ k → lines_forth.f k l (n : Int) b = some ((fo l b d n : Nat) : Int)
  | d, n, h1, h2, k, hk => by
    obtain ⟨k, rfl⟩ : ∃ k', k = k' + 1 := ⟨k - 1, by omega⟩
    unfold lines_forth.f
    rw [lines_forth.l0]
    by_cases h : n < l.length
    · obtain ⟨d, rfl⟩ : ∃ d', d = d' + 1 := ⟨d - 1, by omega⟩
      rw [if_pos (by omega), if_pos (by omega), rd_nat, word_f, wi (by omega)]
      simp only [Option.bind_some]
      unfold fo
      by_cases q : wrd (l.getD n 0) = b
      · rw [if_pos (by rw [q]; simp), if_pos ⟨h, q⟩]
        exact forth_f l b hl d (n + 1) (by omega) (by omega) k (by omega)
      · rw [if_neg (by simpa using q), if_neg (fun e => q e.2)]
    · rw [if_neg (by omega)]
      cases d with
      | zero => rfl
      | succ d => unfold fo; rw [if_neg (fun e => h e.1)]
theorem back_f (l : List Int) (b : Bool) (hl : l.length ≤ 1000000) : ∀ (n : Nat), n ≤ l.length → ∀ k, n + 1 ≤ k → lines_back.f k l (n : Int) b = some ((ba l b n : Nat) : Int)
  | 0, h1, k, hk => by
    obtain ⟨k, rfl⟩ : ∃ k', k = k' + 1 := ⟨k - 1, by omega⟩
    unfold lines_back.f
    rw [lines_back.l0, if_neg (by omega)]
    rfl
  | n + 1, h1, k, hk => by
    obtain ⟨k, rfl⟩ : ∃ k', k = k' + 1 := ⟨k - 1, by omega⟩
    unfold lines_back.f
    have e : wrap64 (((n + 1 : Nat) : Int) - 1) = (n : Int) := by rw [w64 (by omega) (by omega)]; omega
    rw [lines_back.l0, if_pos (by omega), e, if_pos (by omega), if_pos (by omega), rd_nat, word_f]
    simp only [Option.bind_some]
    unfold ba
    by_cases q : wrd (l.getD n 0) = b
    · rw [if_pos (by rw [q]; simp), if_pos q]
      exact back_f l b hl n (by omega) k (by omega)
    · rw [if_neg (by simpa using q), if_neg q]
section
variable {s : ByteArray} {l : List Int} {k : Nat}
theorem Txt.checked (h : Txt s l k) {n : Nat} (hn : n ≤ l.length) : lines_checked.f k s (n : Int) = some (l, 0) := by
  unfold lines_checked.f
  rw [h.dcd]
  simp only [Option.bind_some]
  rw [if_pos trivial, if_neg (by omega), if_neg (by omega)]
theorem Txt.checked_out (h : Txt s l k) {n : Int} (hn : n < 0 ∨ (l.length : Int) < n) : lines_checked.f k s n = some ([], 3) := by
  unfold lines_checked.f
  rw [h.dcd]
  simp only [Option.bind_some]
  rw [if_pos trivial]
  split
  · rfl
  · rw [if_pos (by omega)]
/-- Where the next word begins, and the word before. -/
def nx (l : List Int) (n : Nat) : Nat := fo l false l.length (fo l true l.length n)
def bk (l : List Int) (n : Nat) : Nat := ba l true (ba l false n)
theorem Txt.next (h : Txt s l k) {n : Nat} (hn : n ≤ l.length) : lines_Next.f k s (n : Int) = some (((nx l n : Nat) : Int), 0) := by
  have hl := h.len
  have hr := h.rounds
  obtain ⟨a1, a2, _, _⟩ := fo_spec l true l.length n hn (by omega)
  unfold lines_Next.f
  rw [h.checked hn]
  simp only [Option.bind_some]
  rw [if_pos trivial, forth_f l true (by omega) l.length n hn (by omega) k (by omega)]
  simp only [Option.bind_some]
  rw [forth_f l false (by omega) l.length _ a2 (by omega) k (by omega)]
  rfl
theorem Txt.back (h : Txt s l k) {n : Nat} (hn : n ≤ l.length) : lines_Back.f k s (n : Int) = some (((bk l n : Nat) : Int), 0) := by
  have hl := h.len
  have hr := h.rounds
  obtain ⟨a1, _, _⟩ := ba_spec l false n
  unfold lines_Back.f
  rw [h.checked hn]
  simp only [Option.bind_some]
  rw [if_pos trivial, back_f l false (by omega) n hn k (by omega)]
  simp only [Option.bind_some]
  rw [back_f l true (by omega) _ (by omega) k (by omega)]
  rfl
theorem Txt.word (h : Txt s l k) {n : Nat} (hn : n ≤ l.length) : lines_Word.f k s (n : Int) = some (((ba l true n : Nat) : Int), ((fo l true l.length n : Nat) : Int), 0) := by
  have hl := h.len
  have hr := h.rounds
  unfold lines_Word.f
  rw [h.checked hn]
  simp only [Option.bind_some]
  rw [if_pos trivial, back_f l true (by omega) n hn k (by omega)]
  simp only [Option.bind_some]
  rw [forth_f l true (by omega) l.length n hn (by omega) k (by omega)]
  rfl
/-- A word begins here. -/
def beg (l : List Int) (j : Nat) : Prop := wrd (l.getD j 0) = true ∧ (j = 0 ∨ wrd (l.getD (j - 1) 0) = false)
instance (l : List Int) (j : Nat) : Decidable (beg l j) := by unfold beg; infer_instance
theorem nx_spec (l : List Int) {n : Nat} (hn : n ≤ l.length) : n ≤ nx l n ∧ nx l n ≤ l.length ∧ (∀ j, n < j → j < nx l n → ¬ beg l j) ∧ (nx l n < l.length → n < nx l n ∧ beg l (nx l n)) := by
  obtain ⟨a1, a2, a3, a4⟩ := fo_spec l true l.length n hn (by omega)
  obtain ⟨b1, b2, b3, b4⟩ := fo_spec l false l.length _ a2 (by omega)
  show n ≤ nx l n ∧ _
  have e : nx l n = fo l false l.length (fo l true l.length n) := rfl
  rw [← e] at b1 b2 b3 b4
  refine ⟨by omega, b2, fun j c1 c2 hb => ?_, fun c => ?_⟩
  · rcases Nat.lt_or_ge j (fo l true l.length n) with q | q
    · rcases hb.2 with h0 | h0
      · omega
      · have := a3 (j - 1) (by omega) (by omega)
        rw [h0] at this
        exact Bool.noConfusion this
    · have := b3 j q c2
      rw [hb.1] at this
      exact Bool.noConfusion this
  · have h4 := b4 c
    have hw : wrd (l.getD (nx l n) 0) = true := by
      cases hq : wrd (l.getD (nx l n) 0) with
      | true => rfl
      | false => exact absurd hq h4
    have hne : fo l true l.length n < nx l n := by
      rcases Nat.eq_or_lt_of_le b1 with q | q
      · exact absurd hw (by rw [← q]; exact a4 (by omega))
      · exact q
    refine ⟨by omega, hw, .inr ?_⟩
    exact b3 (nx l n - 1) (by omega) (by omega)
theorem bk_spec (l : List Int) {n : Nat} : bk l n ≤ n ∧ (∀ j, bk l n < j → j < n → ¬ beg l j) ∧ (0 < bk l n → bk l n < n ∧ beg l (bk l n)) := by
  obtain ⟨a1, a2, a3⟩ := ba_spec l false n
  obtain ⟨b1, b2, b3⟩ := ba_spec l true (ba l false n)
  have e : bk l n = ba l true (ba l false n) := rfl
  rw [← e] at b1 b2 b3
  refine ⟨by omega, fun j c1 c2 hb => ?_, fun c => ?_⟩
  · rcases Nat.lt_or_ge j (ba l false n) with q | q
    · rcases hb.2 with h0 | h0
      · omega
      · have := b2 (j - 1) (by omega) (by omega)
        rw [h0] at this
        exact Bool.noConfusion this
    · have := a2 j q c2
      rw [hb.1] at this
      exact Bool.noConfusion this
  · have h4 := b3 c
    have hw : wrd (l.getD (bk l n - 1) 0) = false := by
      cases hq : wrd (l.getD (bk l n - 1) 0) with
      | false => rfl
      | true => exact absurd hq h4
    have h5 : bk l n < ba l false n := by
      rcases Nat.eq_or_lt_of_le b1 with q | q
      · have := a3 (by omega)
        rw [← q, hw] at this
        exact absurd rfl this
      · exact q
    exact ⟨by omega, b2 _ (Nat.le_refl _) h5, .inr hw⟩

/-! LinesWords. -/
theorem nexts_yes {k : Nat} {n a e : Int} (h : lines_Next.f k s n = some (a, e)) : redpencillaw41_nexts.f k s n a e = some true := by
  unfold redpencillaw41_nexts.f
  rw [h]
  simp
theorem backs_yes {k : Nat} {n a e : Int} (h : lines_Back.f k s n = some (a, e)) : redpencillaw41_backs.f k s n a e = some true := by
  unfold redpencillaw41_backs.f
  rw [h]
  simp
theorem word_yes {k : Nat} {n a b e : Int} (h : lines_Word.f k s n = some (a, b, e)) : redpencillaw41_word.f k s n a b e = some true := by
  unfold redpencillaw41_word.f
  rw [h]
  simp
theorem lw_j8 (T : ∀ k, 301 ≤ k → Txt s l k) {n : Nat} (hn : n ≤ l.length) (k : Nat) (hk : 1000 ≤ k) : redpencillaw41_LinesWords.j8 k s (n : Int) ((nx l n : Nat) : Int) ((bk l n : Nat) : Int) ((ba l true n : Nat) : Int) ((fo l true l.length n : Nat) : Int) = some true := by
  obtain ⟨k, rfl⟩ : ∃ k', k = k' + 1 := ⟨k - 1, by omega⟩
  rw [redpencillaw41_LinesWords.j8, nexts_yes ((T k (by omega)).next hn)]
  simp only [Option.bind_some]
  rw [if_pos trivial, backs_yes ((T k (by omega)).back hn)]
  simp only [Option.bind_some]
  rw [if_pos trivial, word_yes ((T k (by omega)).word hn)]
  simp only [Option.bind_some]
  rw [if_pos trivial]
  exact then_known (by omega)
theorem lw_l2 (hl : l.length ≤ 300) (T : ∀ k, 301 ≤ k → Txt s l k) {n : Nat} (hn : n ≤ l.length) (K : Nat) (hK : 1001 ≤ K) : ∀ (d t : Nat), t ≤ l.length → l.length ≤ t + d → fo l true l.length n = fo l true d t → ∀ k, d + K ≤ k → redpencillaw41_LinesWords.l2 k s (n : Int) l ((nx l n : Nat) : Int) ((bk l n : Nat) : Int) ((ba l true n : Nat) : Int) (t : Int) = some true
  | d, t, h1, h2, he, k, hk => by
    obtain ⟨k, rfl⟩ : ∃ k', k = k' + 1 := ⟨k - 1, by omega⟩
    have fin : fo l true l.length n = t → redpencillaw41_LinesWords.j8 k s (n : Int) ((nx l n : Nat) : Int) ((bk l n : Nat) : Int) ((ba l true n : Nat) : Int) (t : Int) = some true := fun e => by
      rw [← e]
      exact lw_j8 T hn k (by omega)
    rw [redpencillaw41_LinesWords.l2]
    by_cases h : t < l.length
    · obtain ⟨d, rfl⟩ : ∃ d', d = d' + 1 := ⟨d - 1, by omega⟩
      rw [if_pos (by omega), if_pos (by omega), rd_nat, lettered_f, wi (by omega)]
      simp only [Option.bind_some]
      rw [fo_succ] at he
      by_cases q : wrd (l.getD t 0) = true
      · rw [if_pos ⟨h, q⟩] at he
        rw [if_pos q]
        exact lw_l2 hl T hn K hK d (t + 1) (by omega) (by omega) he k (by omega)
      · rw [if_neg (fun e => q e.2)] at he
        rw [if_neg q]
        exact fin he
    · rw [if_neg (by omega)]
      refine fin ?_
      rw [he]
      cases d with
      | zero => rfl
      | succ d => unfold fo; rw [if_neg (fun e => h e.1)]
theorem lw_l1 (hl : l.length ≤ 300) (T : ∀ k, 301 ≤ k → Txt s l k) {n : Nat} (hn : n ≤ l.length) (K : Nat) (hK : 1400 ≤ K) : ∀ (f : Nat), f ≤ n → ba l true n = ba l true f → ∀ k, f + K ≤ k → redpencillaw41_LinesWords.l1 k s (n : Int) l ((nx l n : Nat) : Int) ((bk l n : Nat) : Int) (f : Int) (n : Int) = some true
  | f, h1, he, k, hk => by
    obtain ⟨k, rfl⟩ : ∃ k', k = k' + 1 := ⟨k - 1, by omega⟩
    have fin : ba l true n = f → redpencillaw41_LinesWords.j6 k s (n : Int) l ((nx l n : Nat) : Int) ((bk l n : Nat) : Int) (f : Int) (n : Int) = some true := fun e => by
      obtain ⟨k, rfl⟩ : ∃ k', k = k' + 1 := ⟨k - 1, by omega⟩
      rw [redpencillaw41_LinesWords.j6, ← e]
      exact lw_l2 hl T hn 1001 (Nat.le_refl _) l.length n hn (by omega) rfl k (by omega)
    rw [redpencillaw41_LinesWords.l1]
    cases f with
    | zero =>
      rw [if_neg (by omega)]
      exact fin he
    | succ f =>
      have e : wrap64 (((f + 1 : Nat) : Int) - 1) = (f : Int) := by rw [w64 (by omega) (by omega)]; omega
      rw [if_pos (by omega), e, if_pos (by omega), if_pos (by omega), rd_nat, lettered_f]
      simp only [Option.bind_some]
      rw [ba_succ l true f] at he
      by_cases q : wrd (l.getD f 0) = true
      · rw [if_pos q] at he
        rw [if_pos q]
        exact lw_l1 hl T hn K hK f (by omega) he k (by omega)
      · rw [if_neg q] at he
        rw [if_neg q]
        exact fin he
/-- The state of the law's loop: the first beginning behind the index, and the last one ahead of it, among those that were looked at. -/
def LwI (l : List Int) (n i : Nat) (nxt bck : Int) : Prop :=
  (∃ a : Nat, nxt = a ∧ ((a = l.length ∧ ∀ j, n < j → j < i → ¬ beg l j) ∨ (a < i ∧ a < l.length ∧ n < a ∧ beg l a ∧ ∀ j, n < j → j < a → ¬ beg l j))) ∧
  (∃ b : Nat, bck = b ∧ ((b = 0 ∧ ∀ j, 0 < j → j < i → j < n → ¬ beg l j) ∨ (0 < b ∧ b < i ∧ b < n ∧ beg l b ∧ ∀ j, b < j → j < i → j < n → ¬ beg l j)))
theorem LwI.done {n : Nat} {a b : Int} (hn : n ≤ l.length) (h : LwI l n l.length a b) : a = ((nx l n : Nat) : Int) ∧ b = ((bk l n : Nat) : Int) := by
  obtain ⟨⟨a, rfl, ha⟩, ⟨b, rfl, hb⟩⟩ := h
  obtain ⟨p1, p2, p3, p4⟩ := nx_spec l hn
  obtain ⟨q1, q2, q3⟩ := bk_spec l (n := n)
  constructor
  · congr 1
    rcases ha with ⟨rfl, h⟩ | ⟨h1, h2, h3, h4, h5⟩
    · rcases Nat.lt_or_ge (nx l n) l.length with c | c
      · exact absurd (p4 c).2 (h _ (p4 c).1 c)
      · omega
    · rcases Nat.lt_trichotomy a (nx l n) with c | c | c
      · exact absurd h4 (p3 a h3 c)
      · exact c
      · exact absurd (p4 (by omega)).2 (h5 _ (p4 (by omega)).1 c)
  · congr 1
    rcases hb with ⟨rfl, h⟩ | ⟨h1, h2, h3, h4, h5⟩
    · rcases Nat.eq_zero_or_pos (bk l n) with c | c
      · exact c.symm
      · exact absurd (q3 c).2 (h _ c (by omega) (q3 c).1)
    · rcases Nat.lt_trichotomy b (bk l n) with c | c | c
      · exact absurd (q3 (by omega)).2 (h5 _ c (by omega) (q3 (by omega)).1)
      · exact c
      · exact absurd h4 (q2 b c h3)
theorem LwI.step {n i : Nat} {a b : Int} (hi : i < l.length) (h : LwI l n i a b) : LwI l n (i + 1) (if beg l i ∧ n < i ∧ a = (l.length : Int) then (i : Int) else a) (if beg l i ∧ i < n then (i : Int) else b) := by
  obtain ⟨⟨a, rfl, ha⟩, ⟨b, rfl, hb⟩⟩ := h
  constructor
  · by_cases q : beg l i ∧ n < i ∧ ((a : Nat) : Int) = (l.length : Int)
    · rw [if_pos q]
      obtain ⟨q1, q2, q3⟩ := q
      refine ⟨i, rfl, .inr ⟨by omega, hi, q2, q1, fun j c1 c2 => ?_⟩⟩
      rcases ha with ⟨_, h⟩ | ⟨h1, h2, _⟩
      · exact h j c1 c2
      · omega
    · rw [if_neg q]
      refine ⟨a, rfl, ?_⟩
      rcases ha with ⟨e, h⟩ | ⟨h1, h2, h3, h4, h5⟩
      · refine .inl ⟨e, fun j c1 c2 => ?_⟩
        rcases Nat.lt_or_ge j i with c | c
        · exact h j c1 c
        · obtain rfl : j = i := by omega
          exact fun hb => q ⟨hb, c1, by rw [e]⟩
      · exact .inr ⟨by omega, h2, h3, h4, h5⟩
  · by_cases q : beg l i ∧ i < n
    · rw [if_pos q]
      refine ⟨i, rfl, ?_⟩
      rcases Nat.eq_zero_or_pos i with c | c
      · exact .inl ⟨c, fun j c1 c2 => by omega⟩
      · exact .inr ⟨c, by omega, q.2, q.1, fun j c1 c2 => by omega⟩
    · rw [if_neg q]
      refine ⟨b, rfl, ?_⟩
      rcases hb with ⟨e, h⟩ | ⟨h1, h2, h3, h4, h5⟩
      · refine .inl ⟨e, fun j c1 c2 c3 => ?_⟩
        rcases Nat.lt_or_ge j i with c | c
        · exact h j c1 c c3
        · obtain rfl : j = i := by omega
          exact fun hb => q ⟨hb, c3⟩
      · refine .inr ⟨h1, by omega, h3, h4, fun j c1 c2 c3 => ?_⟩
        rcases Nat.lt_or_ge j i with c | c
        · exact h5 j c1 c c3
        · obtain rfl : j = i := by omega
          exact fun hb => q ⟨hb, c3⟩
theorem lw_j3 {n i : Nat} {a b : Int} (hi : i < l.length) (hl : l.length ≤ 300) (K : Nat) (hK : 10 ≤ K) (hfin : ∀ k, K ≤ k → redpencillaw41_LinesWords.l0 k s (n : Int) l (if beg l i ∧ n < i ∧ a = (l.length : Int) then (i : Int) else a) (if beg l i ∧ i < n then (i : Int) else b) ((i + 1 : Nat) : Int) = some true) (k : Nat) (hk : K + 2 ≤ k) (fl : Bool) (hfl : fl = true ↔ beg l i) :
    redpencillaw41_LinesWords.j3 k s (n : Int) l a b (i : Int) fl = some true := by
  obtain ⟨k, rfl⟩ : ∃ k', k = k' + 1 := ⟨k - 1, by omega⟩
  obtain ⟨k, rfl⟩ : ∃ k', k = k' + 1 := ⟨k - 1, by omega⟩
  have hf := hfin k (by omega)
  rw [redpencillaw41_LinesWords.j3]
  cases fl with
  | false =>
    have hb : ¬ beg l i := fun h => Bool.noConfusion (hfl.2 h)
    rw [if_neg (fun h => hb h.1), if_neg (fun h => hb h.1)] at hf
    rw [if_neg (by simp), redpencillaw41_LinesWords.j4, if_neg (by simp), if_neg (by simp), wi (by omega)]
    exact hf
  | true =>
    have hb : beg l i := hfl.1 rfl
    rw [if_pos rfl]
    have second : ∀ x : Int, (redpencillaw41_LinesWords.l0 k s (n : Int) l x (if beg l i ∧ i < n then (i : Int) else b) ((i + 1 : Nat) : Int) = some true) → (if (true : Bool) = true then (if (i : Int) < (n : Int) then redpencillaw41_LinesWords.l0 k s (n : Int) l x (i : Int) (wrap64 ((i : Int) + 1)) else redpencillaw41_LinesWords.l0 k s (n : Int) l x b (wrap64 ((i : Int) + 1))) else redpencillaw41_LinesWords.l0 k s (n : Int) l x b (wrap64 ((i : Int) + 1))) = some true := fun x hx => by
      rw [if_pos rfl, wi (by omega)]
      by_cases q : i < n
      · rw [if_pos ⟨hb, q⟩] at hx
        rw [if_pos (by omega)]
        exact hx
      · rw [if_neg (fun h => q h.2)] at hx
        rw [if_neg (by omega)]
        exact hx
    by_cases q : n < i
    · rw [if_pos (by omega)]
      by_cases q2 : a = (l.length : Int)
      · rw [if_pos ⟨hb, q, q2⟩] at hf
        rw [q2, beq_self_eq_true, redpencillaw41_LinesWords.j4, if_pos rfl]
        exact second _ hf
      · rw [if_neg (fun h => q2 h.2.2)] at hf
        rw [beq_eq_false_iff_ne.2 q2, redpencillaw41_LinesWords.j4, if_neg (by simp)]
        exact second _ hf
    · rw [if_neg (fun h => q h.2.1)] at hf
      rw [if_neg (by omega), redpencillaw41_LinesWords.j4, if_neg (by simp)]
      exact second _ hf
theorem lw_l0 (hl : l.length ≤ 300) (T : ∀ k, 301 ≤ k → Txt s l k) {n : Nat} (hn : n ≤ l.length) (K : Nat) (hK : 3000 ≤ K) : ∀ (m i : Nat) (a b : Int), m + i = l.length → LwI l n i a b → ∀ k, 4 * m + K ≤ k → redpencillaw41_LinesWords.l0 k s (n : Int) l a b (i : Int) = some true
  | m, i, a, b, hm, hI, k, hk => by
    obtain ⟨k, rfl⟩ : ∃ k', k = k' + 1 := ⟨k - 1, by omega⟩
    rw [redpencillaw41_LinesWords.l0]
    by_cases h : i < l.length
    · obtain ⟨m, rfl⟩ : ∃ m', m = m' + 1 := ⟨m - 1, by omega⟩
      have J := fun fl hfl => lw_j3 (s := s) (n := n) (a := a) (b := b) h hl (4 * m + K) (by omega) (fun k hk => lw_l0 hl T hn K hK m (i + 1) _ _ (by omega) (hI.step h) k hk) k (by omega) fl hfl
      rw [if_pos (by omega), if_pos (by omega), rd_nat, lettered_f]
      simp only [Option.bind_some]
      by_cases q : wrd (l.getD i 0) = true
      · rw [if_pos q]
        rcases Nat.eq_zero_or_pos i with c | c
        · subst c
          rw [if_pos (by omega)]
          exact J true ⟨fun _ => ⟨q, .inl rfl⟩, fun _ => rfl⟩
        · have e : wrap64 ((i : Int) - 1) = ((i - 1 : Nat) : Int) := by rw [w64 (by omega) (by omega)]; omega
          rw [if_neg (by omega), e, if_pos (by omega), if_pos (by omega), rd_nat, lettered_f]
          simp only [Option.bind_some]
          refine J _ ⟨fun hq => ⟨q, .inr (by simpa using hq)⟩, fun hb => ?_⟩
          rcases hb.2 with h0 | h0
          · omega
          · rw [h0]; rfl
      · rw [if_neg q]
        exact J false ⟨fun hq => Bool.noConfusion hq, fun hb => absurd hb.1 q⟩
    · obtain rfl : i = l.length := by omega
      obtain ⟨e1, e2⟩ := hI.done hn
      rw [if_neg (by omega), e1, e2]
      exact lw_l1 hl T hn 1400 (Nat.le_refl _) n (Nat.le_refl _) rfl k (by omega)
theorem linesWords_f (s : ByteArray) (n : Int) : redpencillaw41_LinesWords.f 30000 s n = some true := by
  generalize hK : (30000 : Nat) = k
  have hk : 30000 ≤ k := by omega
  clear hK
  unfold redpencillaw41_LinesWords.f
  by_cases hs : (s.size : Int) > 300
  · rw [if_pos hs]
    exact then_known (by omega)
  · have hs3 : s.size ≤ 300 := by omega
    rw [if_neg hs, decode_f s (by omega)]
    simp only [Option.bind_some]
    have errs : ∀ (x5 : List Int) (e : Int), e ≠ 0 → (∀ k, 20001 ≤ k → lines_checked.f k s n = some ([], e)) → ∀ k, 25000 ≤ k → redpencillaw41_LinesWords.j1 k s n x5 e = some true := fun x5 e he hc k hk => by
      obtain ⟨k, rfl⟩ : ∃ k', k = k' + 1 := ⟨k - 1, by omega⟩
      have h1 : redpencillaw41_nexts.f k s n 0 e = some true := by
        unfold redpencillaw41_nexts.f lines_Next.f
        rw [hc k (by omega)]
        simp only [Option.bind_some]
        rw [if_neg he]
        simp
      have h2 : redpencillaw41_backs.f k s n 0 e = some true := by
        unfold redpencillaw41_backs.f lines_Back.f
        rw [hc k (by omega)]
        simp only [Option.bind_some]
        rw [if_neg he]
        simp
      have h3 : redpencillaw41_word.f k s n 0 0 e = some true := by
        unfold redpencillaw41_word.f lines_Word.f
        rw [hc k (by omega)]
        simp only [Option.bind_some]
        rw [if_neg he]
        simp
      rw [redpencillaw41_LinesWords.j1, if_neg he, h1]
      simp only [Option.bind_some]
      rw [if_pos trivial, h2]
      simp only [Option.bind_some]
      rw [if_pos trivial, h3]
      simp only [Option.bind_some]
      rw [if_pos trivial]
      exact then_known (by omega)
    by_cases he : (decP s).2 = 0
    · have hlen := dec_len s
      have T : ∀ k, 301 ≤ k → Txt s (decP s).1 k := fun k hk => txt_of hs3 he hk
      rw [if_pos he, he]
      generalize (decP s).1 = l at *
      have out : n < 0 ∨ (l.length : Int) < n → redpencillaw41_LinesWords.j0 k s n l 0 true = some true := fun q => by
        obtain ⟨k, rfl⟩ : ∃ k', k = k' + 1 := ⟨k - 1, by omega⟩
        rw [redpencillaw41_LinesWords.j0, if_pos rfl]
        exact errs l 3 (by decide) (fun k hk => (T k (by omega)).checked_out q) k (by omega)
      by_cases q1 : n < 0
      · rw [if_pos q1]
        exact out (.inl q1)
      · rw [if_neg q1]
        by_cases q2 : (l.length : Int) < n
        · rw [decide_eq_true (show n > (l.length : Int) from q2)]
          exact out (.inr q2)
        · obtain ⟨n, rfl⟩ : ∃ m : Nat, n = m := ⟨n.toNat, by omega⟩
          have hn : n ≤ l.length := by omega
          rw [decide_eq_false (show ¬ (n : Int) > (l.length : Int) from q2)]
          obtain ⟨k, rfl⟩ : ∃ k', k = k' + 1 := ⟨k - 1, by omega⟩
          obtain ⟨k, rfl⟩ : ∃ k', k = k' + 1 := ⟨k - 1, by omega⟩
          rw [redpencillaw41_LinesWords.j0, if_neg (by simp), redpencillaw41_LinesWords.j1, if_pos rfl]
          exact lw_l0 (by omega) T hn 3000 (Nat.le_refl _) l.length 0 _ _ (by omega) ⟨⟨l.length, rfl, .inl ⟨rfl, fun j c1 c2 => by omega⟩⟩, ⟨0, rfl, .inl ⟨rfl, fun j c1 c2 => by omega⟩⟩⟩ k (by omega)
    · have B := bad_of hs3 he
      rw [if_neg he]
      obtain ⟨k, rfl⟩ : ∃ k', k = k' + 1 := ⟨k - 1, by omega⟩
      rw [redpencillaw41_LinesWords.j0, if_neg (by simp)]
      exact errs _ _ he (fun k hk => B.checked hk n) k (by omega)
end
end Go.Proofs.YtbjahfbagbghnaaDoor.Lp
