/- Numbers as bytes, in plain Lean: the groups of a number, what a list of bytes begins with; no program is named here. -/
import Derived.Laws.BitsLemmas
import Derived.Laws.BytesArg
namespace Go.Proofs.Ytfcpofkhcfilmaa.Vn
open Go

/-- The bytes of a number. -/
def enc (n : Nat) : List Int := if h : n < 128 then [(n : Int)] else (((n % 128 : Nat) : Int) + 128) :: enc (n / 128)
termination_by n
decreasing_by omega
theorem enc_lt {n : Nat} (h : n < 128) : enc n = [(n : Int)] := by unfold enc; rw [dif_pos h]
theorem enc_ge {n : Nat} (h : ¬ n < 128) : enc n = (((n % 128 : Nat) : Int) + 128) :: enc (n / 128) := by
  conv => lhs; unfold enc
  rw [dif_neg h]
theorem enc_pos (n : Nat) : 0 < (enc n).length := by
  by_cases h : n < 128
  · rw [enc_lt h]; simp
  · rw [enc_ge h]; simp
theorem enc_length : ∀ (j n : Nat), n < 128 ^ (j + 1) → (enc n).length ≤ j + 1
  | 0, n, h => by rw [enc_lt (by simpa using h)]; simp
  | j + 1, n, h => by
    by_cases q : n < 128
    · rw [enc_lt q]; simp
    · rw [enc_ge q]
      have := enc_length j (n / 128) (by rw [Nat.pow_succ] at h; omega)
      simp; omega
theorem enc_length64 {n : Nat} (h : n < 18446744073709551616) : (enc n).length ≤ 10 := enc_length 9 n (by omega)
/-- Bytes. -/
def Bys (xs : List Int) : Prop := ∀ x ∈ xs, 0 ≤ x ∧ x ≤ 255
theorem enc_bys (n : Nat) : Bys (enc n) := by
  induction n using Nat.strongRecOn with
  | _ n ih =>
    by_cases q : n < 128
    · rw [enc_lt q]
      intro x hx
      obtain rfl : x = n := by simpa using hx
      omega
    · rw [enc_ge q]
      intro x hx
      rcases List.mem_cons.1 hx with rfl | hx
      · omega
      · exact ih (n / 128) (by omega) x hx
theorem Bys.at {xs : List Int} (h : Bys xs) {j : Nat} (hj : j < xs.length) : 0 ≤ xs.getD j 0 ∧ xs.getD j 0 ≤ 255 := by
  rw [List.getD_eq_getElem?_getD, List.getElem?_eq_getElem hj]
  exact h _ (List.getElem_mem hj)
theorem Bys.app {xs ys : List Int} (h : Bys xs) (k : Bys ys) : Bys (xs ++ ys) := fun x hx => by
  rcases List.mem_append.1 hx with q | q
  · exact h x q
  · exact k x q
theorem Bys.drop {xs : List Int} (h : Bys xs) (k : Nat) : Bys (xs.drop k) := fun x hx => h x (List.mem_of_mem_drop hx)
theorem Bys.take {xs : List Int} (h : Bys xs) (k : Nat) : Bys (xs.take k) := fun x hx => h x (List.mem_of_mem_take hx)

/-- The groups of a list, so many of them, as a number. -/
def gs (l : List Int) : Nat → Int
  | 0 => 0
  | k + 1 => gs l k + (l.getD k 0 % 128) * 128 ^ k
theorem gs_nonneg (l : List Int) : ∀ k, 0 ≤ gs l k
  | 0 => Int.le_refl _
  | k + 1 => by
    have := gs_nonneg l k
    have h2 : 0 ≤ l.getD k 0 % 128 := Int.emod_nonneg _ (by decide)
    have h3 : (0 : Int) ≤ 128 ^ k := Int.pow_nonneg (by decide)
    have := Int.mul_nonneg h2 h3
    show 0 ≤ gs l k + (l.getD k 0 % 128) * 128 ^ k
    omega
theorem gs_lt (l : List Int) : ∀ k, gs l k < 128 ^ k
  | 0 => by show (0 : Int) < 1; decide
  | k + 1 => by
    have h1 := gs_lt l k
    have h2 : l.getD k 0 % 128 ≤ 127 := by have := Int.emod_lt_of_pos (l.getD k 0) (by decide : (0 : Int) < 128); omega
    have h3 : (0 : Int) ≤ 128 ^ k := Int.pow_nonneg (by decide)
    have h4 := Int.mul_le_mul_of_nonneg_right h2 h3
    show gs l k + (l.getD k 0 % 128) * 128 ^ k < 128 ^ (k + 1)
    rw [Int.pow_succ]
    omega
theorem gs_cons (x : Int) (l : List Int) : ∀ k, gs (x :: l) (k + 1) = x % 128 + 128 * gs l k
  | 0 => by simp [gs]
  | k + 1 => by
    have h := gs_cons x l k
    show gs (x :: l) (k + 1) + ((x :: l).getD (k + 1) 0 % 128) * 128 ^ (k + 1) = x % 128 + 128 * (gs l k + (l.getD k 0 % 128) * 128 ^ k)
    rw [h, List.getD_cons_succ, Int.pow_succ, Int.mul_add]
    have : (l.getD k 0 % 128) * (128 ^ k * 128) = 128 * ((l.getD k 0 % 128) * 128 ^ k) := by
      rw [← Int.mul_assoc, Int.mul_comm _ 128]
    omega
theorem gs_le (l : List Int) {j k : Nat} (h : j ≤ k) : gs l j ≤ gs l k := by
  induction k with
  | zero =>
    obtain rfl : j = 0 := by omega
    exact Int.le_refl _
  | succ k ih =>
    rcases Nat.lt_or_ge j (k + 1) with q | q
    · have h1 := ih (by omega)
      have h2 : 0 ≤ l.getD k 0 % 128 := Int.emod_nonneg _ (by decide)
      have h3 : (0 : Int) ≤ 128 ^ k := Int.pow_nonneg (by decide)
      have := Int.mul_nonneg h2 h3
      show gs l j ≤ gs l k + (l.getD k 0 % 128) * 128 ^ k
      omega
    · obtain rfl : j = k + 1 := by omega
      exact Int.le_refl _

/-- So many groups go on, and the next one is the last. -/
structure Ends (l : List Int) (e : Nat) : Prop where
  lt10 : e < 10
  lt : e < l.length
  last : l.getD e 0 < 128
  more : ∀ j, j < e → 128 ≤ l.getD j 0
def Bad (l : List Int) (e : Nat) : Prop := (0 < e ∧ l.getD e 0 = 0) ∨ (e = 9 ∧ 1 < l.getD e 0)
/-- What bytes begin with: a number, how many bytes it has, an error. -/
inductive RdR (l : List Int) : Int → Int → Int → Prop
  | short : l.length < 10 → (∀ j, j < l.length → 128 ≤ l.getD j 0) → RdR l 0 0 4
  | over : 10 ≤ l.length → (∀ j, j < 10 → 128 ≤ l.getD j 0) → RdR l 0 0 12
  | bad (e : Nat) : Ends l e → Bad l e → RdR l 0 0 12
  | good (e : Nat) : Ends l e → ¬ Bad l e → RdR l (gs l (e + 1)) (e + 1 : Nat) 0
theorem ends_or (l : List Int) : ∀ m, m ≤ 10 → m ≤ l.length → (∃ e, e < m ∧ Ends l e) ∨ ∀ j, j < m → 128 ≤ l.getD j 0
  | 0, _, _ => .inr fun j h => by omega
  | m + 1, h1, h2 => by
    rcases ends_or l m (by omega) (by omega) with ⟨e, he, h⟩ | h
    · exact .inl ⟨e, by omega, h⟩
    · by_cases q : l.getD m 0 < 128
      · exact .inl ⟨m, by omega, by omega, by omega, q, h⟩
      · exact .inr fun j hj => by
          rcases Nat.lt_or_ge j m with q2 | q2
          · exact h j q2
          · obtain rfl : j = m := by omega
            omega
theorem rdr_total (l : List Int) : ∃ v s e, RdR l v s e := by
  rcases ends_or l (min l.length 10) (by omega) (by omega) with ⟨e, _, h⟩ | h
  · by_cases q : Bad l e
    · exact ⟨_, _, _, .bad e h q⟩
    · exact ⟨_, _, _, .good e h q⟩
  · by_cases q : l.length < 10
    · exact ⟨_, _, _, .short q fun j hj => h j (by omega)⟩
    · exact ⟨_, _, _, .over (by omega) fun j hj => h j (by omega)⟩
theorem good_lt {l : List Int} {e : Nat} (hb : ∀ j, j < l.length → 0 ≤ l.getD j 0) (h : Ends l e) (hn : ¬ Bad l e) : gs l (e + 1) < 18446744073709551616 := by
  rcases Nat.lt_or_ge e 9 with q | q
  · have h1 := gs_lt l 9
    have h2 := gs_le l (show e + 1 ≤ 9 by omega)
    have h3 : (128 : Int) ^ 9 = 9223372036854775808 := by decide
    omega
  · obtain rfl : e = 9 := by have := h.lt10; omega
    have h1 := gs_lt l 9
    have h2 : l.getD 9 0 ≤ 1 := by
      rcases Int.lt_or_le 1 (l.getD 9 0) with q2 | q2
      · exact absurd (.inr ⟨rfl, q2⟩) hn
      · exact q2
    have h0 := hb 9 h.lt
    have h3 : (128 : Int) ^ 9 = 9223372036854775808 := by decide
    show gs l 9 + (l.getD 9 0 % 128) * 128 ^ 9 < 18446744073709551616
    have h4 : l.getD 9 0 % 128 = l.getD 9 0 := Int.emod_eq_of_lt h0 (by omega)
    rw [h4, h3]
    have : l.getD 9 0 * 9223372036854775808 ≤ 1 * 9223372036854775808 := Int.mul_le_mul_of_nonneg_right h2 (by decide)
    omega

/-- The bytes of a number are read. -/
theorem enc_ends : ∀ (m n : Nat) (r : List Int), n < 128 ^ (m + 1) → ∃ e, e + 1 = (enc n).length ∧ e < (enc n ++ r).length ∧ (enc n ++ r).getD e 0 < 128 ∧ (∀ j, j < e → 128 ≤ (enc n ++ r).getD j 0) ∧ gs (enc n ++ r) (e + 1) = n ∧ (0 < e → 0 < (enc n ++ r).getD e 0) ∧ 128 ^ e * (enc n ++ r).getD e 0 ≤ n
  | 0, n, r, h => by
    have h1 : n < 128 := by simpa using h
    rw [enc_lt h1]
    refine ⟨0, rfl, by simp, by simp; omega, fun j hj => by omega, ?_, fun h => by omega, by simp⟩
    simp [gs]
    omega
  | m + 1, n, r, h => by
    by_cases h1 : n < 128
    · rw [enc_lt h1]
      refine ⟨0, rfl, by simp, by simp; omega, fun j hj => by omega, ?_, fun h => by omega, by simp⟩
      simp [gs]
      omega
    · rw [enc_ge h1]
      obtain ⟨e, q1, q2, q3, q4, q5, q6, q7⟩ := enc_ends m (n / 128) r (by rw [Nat.pow_succ] at h; omega)
      refine ⟨e + 1, by simp [q1], by simp at q2 ⊢; omega, ?_, fun j hj => ?_, ?_, fun _ => ?_, ?_⟩
      · rw [List.cons_append, List.getD_cons_succ]; exact q3
      · rw [List.cons_append]
        cases j with
        | zero => rw [List.getD_cons_zero]; omega
        | succ j => rw [List.getD_cons_succ]; exact q4 j (by omega)
      · rw [List.cons_append, gs_cons, q5]; omega
      · rw [List.cons_append, List.getD_cons_succ]
        rcases Nat.eq_zero_or_pos e with q | q
        · subst q
          have hp : 0 < n / 128 := by omega
          have : gs (enc (n / 128) ++ r) 1 = (enc (n / 128) ++ r).getD 0 0 % 128 := by simp [gs]
          rw [this] at q5
          have h0 : 0 ≤ (enc (n / 128) ++ r).getD 0 0 ∨ (enc (n / 128) ++ r).getD 0 0 < 0 := by omega
          have hb : 0 ≤ (enc (n / 128) ++ r).getD 0 0 := by
            have hl := enc_pos (n / 128)
            rw [List.getD_eq_getElem?_getD, List.getElem?_append_left hl, ← List.getD_eq_getElem?_getD]
            exact ((enc_bys (n / 128)).at hl).1
          omega
        · exact q6 q
      · rw [List.cons_append, List.getD_cons_succ, Int.pow_succ]
        have : (128 : Int) ^ e * 128 * (enc (n / 128) ++ r).getD e 0 = 128 * (128 ^ e * (enc (n / 128) ++ r).getD e 0) := by
          rw [Int.mul_comm (128 ^ e) 128, Int.mul_assoc]
        rw [this]
        omega
theorem enc_read {n : Nat} (h : n < 18446744073709551616) (r : List Int) : RdR (enc n ++ r) n (enc n).length 0 := by
  obtain ⟨e, q1, q2, q3, q4, q5, q6, q7⟩ := enc_ends 9 n r (by omega)
  have h10 := enc_length64 h
  have he : Ends (enc n ++ r) e := ⟨by omega, q2, q3, q4⟩
  have hn : ¬ Bad (enc n ++ r) e := by
    rintro (⟨h1, h2⟩ | ⟨rfl, h2⟩)
    · have := q6 h1; omega
    · have h3 : (128 : Int) ^ 9 = 9223372036854775808 := by decide
      rw [h3] at q7
      have : (9223372036854775808 : Int) * 2 ≤ 9223372036854775808 * (enc n ++ r).getD 9 0 := Int.mul_le_mul_of_nonneg_left (by omega) (by decide)
      omega
  have := RdR.good e he hn
  rw [q5, q1] at this
  exact this
/-- No list is read in two ways. -/
theorem ends_one {l : List Int} {e f : Nat} (h : Ends l e) (k : Ends l f) : e = f := by
  rcases Nat.lt_trichotomy e f with q | q | q
  · have := k.more e q; have := h.last; omega
  · exact q
  · have := h.more f q; have := k.last; omega
theorem rdr_one {l : List Int} {v s e v' s' e' : Int} (h : RdR l v s e) (k : RdR l v' s' e') : v = v' ∧ s = s' ∧ e = e' := by
  have no : ∀ {f : Nat}, Ends l f → ∀ {m : Nat}, (m = l.length ∨ m = 10) → (∀ j, j < m → 128 ≤ l.getD j 0) → False := by
    intro f hf m hm hall
    have h1 := hf.lt
    have h2 := hf.lt10
    have h3 := hf.last
    have := hall f (by omega)
    omega
  cases h with
  | short a1 a2 => cases k with
    | short _ _ => exact ⟨rfl, rfl, rfl⟩
    | over b1 _ => omega
    | bad f hf _ => exact (no hf (.inl rfl) a2).elim
    | good f hf _ => exact (no hf (.inl rfl) a2).elim
  | over a1 a2 => cases k with
    | short b1 _ => omega
    | over _ _ => exact ⟨rfl, rfl, rfl⟩
    | bad f hf _ => exact ⟨rfl, rfl, rfl⟩
    | good f hf _ => exact (no hf (.inr rfl) a2).elim
  | bad f hf hb => cases k with
    | short _ b2 => exact (no hf (.inl rfl) b2).elim
    | over _ _ => exact ⟨rfl, rfl, rfl⟩
    | bad _ _ _ => exact ⟨rfl, rfl, rfl⟩
    | good f' hf' hb' => exact (hb' (ends_one hf hf' ▸ hb)).elim
  | good f hf hb => cases k with
    | short _ b2 => exact (no hf (.inl rfl) b2).elim
    | over _ b2 => exact (no hf (.inr rfl) b2).elim
    | bad f' hf' hb' => exact (hb (ends_one hf' hf ▸ hb')).elim
    | good f' hf' _ => obtain rfl := ends_one hf hf'; exact ⟨rfl, rfl, rfl⟩
/-- What was read has just these bytes. -/
theorem read_enc : ∀ (e : Nat) (l : List Int), Bys l → e < l.length → l.getD e 0 < 128 → (∀ j, j < e → 128 ≤ l.getD j 0) → (0 < e → l.getD e 0 ≠ 0) → enc (gs l (e + 1)).toNat = l.take (e + 1)
  | 0, l, hb, hl, h1, _, _ => by
    obtain ⟨x, l', rfl⟩ : ∃ x l', l = x :: l' := by cases l with | nil => simp at hl | cons x l' => exact ⟨x, l', rfl⟩
    have hx := hb.at (j := 0) (by simp)
    rw [List.getD_cons_zero] at h1 hx
    have : (gs (x :: l') 1).toNat = x.toNat := by rw [gs_cons]; simp [gs]; omega
    rw [this, enc_lt (by omega)]
    simp
    omega
  | e + 1, l, hb, hl, h1, h2, h3 => by
    obtain ⟨x, l', rfl⟩ : ∃ x l', l = x :: l' := by cases l with | nil => simp at hl | cons x l' => exact ⟨x, l', rfl⟩
    have hx := hb.at (j := 0) (by simp)
    have hx2 := h2 0 (by omega)
    rw [List.getD_cons_zero] at hx hx2
    rw [List.getD_cons_succ] at h1 h3
    have hb' : Bys l' := fun y hy => hb y (List.mem_cons_of_mem _ hy)
    have hl' : e < l'.length := by simpa using hl
    have ih := read_enc e l' hb' hl' h1 (fun j hj => by have := h2 (j + 1) (by omega); rwa [List.getD_cons_succ] at this) (fun _ => h3 (by omega))
    have hg : gs (x :: l') (e + 1 + 1) = x % 128 + 128 * gs l' (e + 1) := gs_cons x l' (e + 1)
    have hp : 0 < gs l' (e + 1) := by
      have h4 : 1 ≤ l'.getD e 0 := by have := hb'.at hl'; have := h3 (by omega); omega
      have h5 : l'.getD e 0 % 128 = l'.getD e 0 := Int.emod_eq_of_lt (by omega) h1
      have h6 : (1 : Int) * 1 ≤ l'.getD e 0 * 128 ^ e := Int.mul_le_mul h4 (by have : (0 : Int) < 128 ^ e := Int.pow_pos (by decide); omega) (by decide) (by omega)
      have h7 := gs_nonneg l' e
      show 0 < gs l' e + (l'.getD e 0 % 128) * 128 ^ e
      rw [h5]
      omega
    have h8 : 0 ≤ x % 128 ∧ x % 128 < 128 := ⟨Int.emod_nonneg _ (by decide), Int.emod_lt_of_pos _ (by decide)⟩
    rw [hg]
    have h9 : ¬ (x % 128 + 128 * gs l' (e + 1)).toNat < 128 := by omega
    rw [enc_ge h9, show (x % 128 + 128 * gs l' (e + 1)).toNat / 128 = (gs l' (e + 1)).toNat by omega, ih, show (((x % 128 + 128 * gs l' (e + 1)).toNat % 128 : Nat) : Int) + 128 = x by omega]
    rfl
end Go.Proofs.Ytfcpofkhcfilmaa.Vn
