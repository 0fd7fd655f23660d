/- Layer 2, plain law: what the reference's printed functions compute. -/
import Derived.Test.YtphgoaacmkagmaaDoorUs
import Derived.Test.YtphgoaacmkagmaaDoorRu
import Derived.Test.YtphgoaacmkagmaaDoorPAllx1
import Derived.Test.YtphgoaacmkagmaaDoorPAllx2
import Derived.Test.YtphgoaacmkagmaaDoorPAllx3
namespace Go.Proofs.YtphgoaacmkagmaaDoor.Up
open Go Go.RowKit Go.Proofs Go.Proofs.YtphgoaacmkagmaaDoorW.PrintWords Go.Proofs.YtphgoaacmkagmaaDoor.Rn Go.Proofs.YtphgoaacmkagmaaDoor.Hx Go.Proofs.YtphgoaacmkagmaaDoor.PAll
set_option linter.unusedSimpArgs false
set_option linter.unusedVariables false

theorem w64 {n : Int} (h0 : -9000000000000000000 ≤ n) (h1 : n ≤ 9000000000000000000) : wrap64 n = n := by simp only [wrap64]; omega
theorem w32 {n : Int} (h0 : -2147483648 ≤ n) (h1 : n ≤ 2147483647) : wrap32 n = n := by simp only [wrap32]; omega
theorem leO_up {α : Type} {g : Nat → Option α} {r : α} (h : ∀ k, LeO (g k) (g (k + 1))) {K : Nat} (hK : g K = some r) : ∀ k, K ≤ k → g k = some r := by
  intro k hk
  obtain ⟨n, rfl⟩ : ∃ n, k = K + n := ⟨k - K, by omega⟩
  clear hk
  induction n with
  | zero => exact hK
  | succ n ih => exact h (K + n) r ih
theorem rune_f (k : Nat) (r : Int) : runes_Valid.f (k + 1) r = some (decide (okRune r)) := by
  unfold runes_Valid.f
  by_cases h0 : r = 0
  · rw [if_pos h0, decide_eq_false (by unfold okRune; omega)]
  · rw [if_neg h0]
    have : utf8_ValidRune.f (k + 1) r = some (decide (okRune r)) := by
      have hj : ∀ b, utf8_ValidRune.j0 (k + 1) r b = if b = true then some true else (if 57343 < r then (if r ≤ 1114111 then some true else some false) else some false) := fun b => by unfold utf8_ValidRune.j0; rfl
      unfold utf8_ValidRune.f
      rw [hj, hj]
      by_cases h1 : 0 ≤ r
      · rw [if_pos h1]
        by_cases h2 : r < 55296
        · rw [decide_eq_true h2, if_pos rfl, decide_eq_true (by unfold okRune; omega)]
        · rw [decide_eq_false h2, if_neg (by simp)]
          by_cases h3 : 57343 < r
          · rw [if_pos h3]
            by_cases h4 : r ≤ 1114111
            · rw [if_pos h4, decide_eq_true (by unfold okRune; omega)]
            · rw [if_neg h4, decide_eq_false (by unfold okRune; omega)]
          · rw [if_neg h3, decide_eq_false (by unfold okRune; omega)]
      · rw [if_neg h1, if_neg (by simp), if_neg (by omega), decide_eq_false (by unfold okRune; omega)]
    rw [this]
    rfl
theorem rscalar_f (n : Int) : redpencilref02_scalar.f n = some (decide (okSc n)) := by
  unfold redpencilref02_scalar.f
  by_cases h1 : n ≥ 0
  · rw [if_pos h1]
    by_cases h2 : n ≤ 1114111
    · rw [if_pos h2]
      by_cases h3 : n < 55296
      · rw [if_pos h3, decide_eq_true (by unfold okSc; omega)]
      · rw [if_neg h3]
        congr 1
        exact decide_eq_decide.2 (by unfold okSc; omega)
    · rw [if_neg h2, decide_eq_false (by unfold okSc; omega)]
  · rw [if_neg h1, decide_eq_false (by unfold okSc; omega)]
theorem rvalid_f {r : Int} (h0 : -2147483648 ≤ r) (h1 : r ≤ 2147483647) : redpencilref02_Valid.f r = some (decide (okRune r)) := by
  unfold redpencilref02_Valid.f
  by_cases h : r = 0
  · rw [if_pos h, decide_eq_false (by unfold okRune; omega)]
  · rw [if_neg h, w64 (by omega) (by omega), rscalar_f]
    show some _ = some _
    congr 1
    exact decide_eq_decide.2 (by unfold okSc okRune; omega)
theorem rbytes_f {n : Int} (h : okSc n) : redpencilref02_Bytes.f n = some (Lib.encodeRuneZ n) := by
  obtain ⟨h0, h1, h2⟩ := h
  unfold redpencilref02_Bytes.f
  have d1 : Int.tdiv n 64 = n / 64 := Int.tdiv_eq_ediv_of_nonneg h0
  have d2 : Int.tdiv n 4096 = n / 4096 := Int.tdiv_eq_ediv_of_nonneg h0
  have d3 : Int.tdiv n 262144 = n / 262144 := Int.tdiv_eq_ediv_of_nonneg h0
  have m1 : Int.tmod n 64 = n % 64 := Int.tmod_eq_emod_of_nonneg h0
  have m2 : Int.tmod (n / 64) 64 = n / 64 % 64 := Int.tmod_eq_emod_of_nonneg (by omega)
  have m3 : Int.tmod (n / 4096) 64 = n / 4096 % 64 := Int.tmod_eq_emod_of_nonneg (by omega)
  rw [d1, d2, d3, m1, w64 (n := n / 64) (by omega) (by omega), w64 (n := n / 4096) (by omega) (by omega), w64 (n := n / 262144) (by omega) (by omega), m2, m3]
  by_cases q1 : n < 128
  · rw [if_pos q1, Lib.encodeRuneZ_one h0 (by omega)]
    congr 2
    omega
  · rw [if_neg q1]
    by_cases q2 : n < 2048
    · rw [if_pos q2, Lib.encodeRuneZ_two (by omega) (by omega), w64 (by omega) (by omega), w64 (by omega) (by omega)]
      rw [show (192 + n / 64) % 256 = 192 + n / 64 by omega, show (128 + n % 64) % 256 = 128 + n % 64 by omega]
    · rw [if_neg q2]
      by_cases q3 : n < 65536
      · rw [if_pos q3, Lib.encodeRuneZ_three (by omega), w64 (by omega) (by omega), w64 (by omega) (by omega), w64 (by omega) (by omega)]
        rw [show (224 + n / 4096) % 256 = 224 + n / 4096 by omega, show (128 + n / 64 % 64) % 256 = 128 + n / 64 % 64 by omega, show (128 + n % 64) % 256 = 128 + n % 64 by omega]
      · rw [if_neg q3, Lib.encodeRuneZ_four (by omega) (by omega), w64 (by omega) (by omega), w64 (by omega) (by omega), w64 (by omega) (by omega), w64 (by omega) (by omega)]
        rw [show (240 + n / 262144) % 256 = 240 + n / 262144 by omega, show (128 + n / 4096 % 64) % 256 = 128 + n / 4096 % 64 by omega, show (128 + n / 64 % 64) % 256 = 128 + n / 64 % 64 by omega, show (128 + n % 64) % 256 = 128 + n % 64 by omega]
/-- How many bytes a rune has. -/
def szOf (r : Int) : Int := if okRune r then (Lib.encodeRuneZ r).length else 0
theorem rsize_f {r : Int} (h0 : -2147483648 ≤ r) (h1 : r ≤ 2147483647) : redpencilref02_Size.f r = some (szOf r) := by
  unfold redpencilref02_Size.f szOf
  rw [rvalid_f h0 h1, Option.bind_some]
  by_cases h : okRune r
  · rw [decide_eq_true h, if_pos rfl, if_pos h, w64 (by omega) (by omega), rbytes_f (sc_rune.1 h).1]
    rfl
  · rw [decide_eq_false h, if_neg (by simp), if_neg h]
theorem size_f (k : Nat) (r : Int) : runes_Size.f (k + 1) r = some (szOf r) := by
  unfold runes_Size.f szOf
  rw [rune_f, Option.bind_some]
  by_cases h : okRune r
  · rw [decide_eq_true h, if_pos rfl, if_pos h]
    obtain ⟨h0, h1, h2⟩ := h
    have hj : ∀ b, utf8_RuneLen.j0 (k + 1) r b = if b = true then some (-1) else (if r ≤ 65535 then some 3 else (if r ≤ 1114111 then some 4 else some (-1))) := fun b => by unfold utf8_RuneLen.j0; rfl
    have : utf8_RuneLen.f (k + 1) r = some ((Lib.encodeRuneZ r).length : Int) := by
      unfold utf8_RuneLen.f
      rw [hj, hj, if_neg (by omega)]
      by_cases q1 : r ≤ 127
      · rw [if_pos q1, Lib.encodeRuneZ_one (by omega) q1]; rfl
      · rw [if_neg q1]
        by_cases q2 : r ≤ 2047
        · rw [if_pos q2, Lib.encodeRuneZ_two (by omega) q2]; rfl
        · rw [if_neg q2]
          have hb : ∀ b : Bool, b = false → (if b = true then some (-1 : Int) else (if r ≤ 65535 then some 3 else (if r ≤ 1114111 then some 4 else some (-1)))) = some ((Lib.encodeRuneZ r).length : Int) := by
            intro b hb
            rw [hb, if_neg (by simp)]
            by_cases q3 : r ≤ 65535
            · rw [if_pos q3, Lib.encodeRuneZ_three (by omega)]; rfl
            · rw [if_neg q3, if_pos h1, Lib.encodeRuneZ_four (by omega) h1]; rfl
          by_cases q5 : 55296 ≤ r
          · rw [if_pos q5, hb _ (decide_eq_false (by omega))]
          · rw [if_neg q5, hb _ rfl]
    rw [this]
    rfl
  · rw [decide_eq_false h, if_neg (by simp), if_neg h]
theorem rd_nat (l : List Int) (i : Nat) : rd l (i : Int) = l.getD i 0 := by unfold rd; rw [Int.toNat_natCast]
theorem wi {i : Nat} (h : i ≤ 1000000000) : wrap64 ((i : Int) + 1) = ((i + 1 : Nat) : Int) := by rw [w64 (by omega) (by omega)]; omega
theorem drop_getD {l : List Int} {i : Nat} (h : i < l.length) : l.drop i = l.getD i 0 :: l.drop (i + 1) := by
  rw [List.drop_eq_getElem_cons h, List.getD_eq_getElem?_getD, List.getElem?_eq_getElem h]
  rfl
theorem same_l0 (a b : List Int) (hl : a.length = b.length) (ha : a.length ≤ 1000000) : ∀ (m i : Nat), m + i = a.length → ∀ k, m + 1 ≤ k → redpencilref02_Same.l0 k a b (i : Int) = some (decide (a.drop i = b.drop i))
  | m, i, hm, k, hk => by
    obtain ⟨k, rfl⟩ : ∃ k', k = k' + 1 := ⟨k - 1, by omega⟩
    unfold redpencilref02_Same.l0
    by_cases h1 : i < a.length
    · obtain ⟨m, rfl⟩ : ∃ m', m = m' + 1 := ⟨m - 1, by omega⟩
      rw [if_pos (by omega), if_pos (by omega), if_pos (by omega), rd_nat, rd_nat, wi (by omega), drop_getD h1, drop_getD (by omega : i < b.length)]
      by_cases h2 : a.getD i 0 = b.getD i 0
      · rw [if_pos h2, same_l0 a b hl ha m (i + 1) (by omega) k (by omega)]
        congr 1
        exact decide_eq_decide.2 (by rw [h2]; simp)
      · rw [if_neg h2, decide_eq_false (fun h => h2 (List.cons.inj h).1)]
    · rw [if_neg (by omega), List.drop_eq_nil_of_le (by omega), List.drop_eq_nil_of_le (by omega)]
      rfl
theorem same_f (a b : List Int) (ha : a.length ≤ 1000000) (k : Nat) (hk : a.length + 1 ≤ k) : redpencilref02_Same.f k a b = some (decide (a = b)) := by
  unfold redpencilref02_Same.f
  by_cases hl : a.length = b.length
  · rw [if_pos (by omega)]
    have := same_l0 a b hl ha a.length 0 rfl k hk
    rwa [List.drop_zero, List.drop_zero] at this
  · rw [if_neg (by omega), decide_eq_false (fun h => hl (by rw [h]))]

/-! What a string begins with. -/
def bN (s : ByteArray) (i : Nat) : Nat := (s.data.toList.getD i 0).toNat
theorem bt_nat {s : ByteArray} {i : Nat} (h : i < s.size) : bt s (i : Int) = bN s i := by
  unfold bt bN
  rw [dif_pos (by rw [Int.toNat_natCast]; exact h)]
  have hs : i < s.data.toList.length := by rw [Array.length_toList]; exact h
  rw [List.getD_eq_getElem?_getD, List.getElem?_eq_getElem hs]
  simp [ByteArray.getElem_eq_getElem_data]
theorem bN_lt (s : ByteArray) (i : Nat) : bN s i < 256 := UInt8.toNat_lt _
def fstP (d : Nat × Nat) : Int × Int := if d.1 = 65533 ∧ d.2 = 1 then (0, 0) else ((d.1 : Int), (d.2 : Int))
theorem fst_end (k : Nat) (s : ByteArray) (m : Nat) (n : Int) (i : Nat) (h : m ≤ i) (hm : m ≤ 4) : redpencilref02_first.l0 (k + 1) s (m : Int) n (i : Int) = some (if okSc n ∧ (Lib.encodeRuneZ n).length = m then (n, (m : Int)) else (0, 0)) := by
  unfold redpencilref02_first.l0
  rw [if_neg (by omega), rscalar_f, Option.bind_some]
  by_cases h1 : okSc n
  · rw [decide_eq_true h1, if_pos rfl, rbytes_f h1, Option.bind_some]
    by_cases h2 : (Lib.encodeRuneZ n).length = m
    · rw [if_pos (by omega), if_pos ⟨h1, h2⟩]
    · rw [if_neg (by omega), if_neg (fun q => h2 q.2)]
  · rw [decide_eq_false h1, if_neg (by simp), if_neg (fun q => h1 q.1)]
theorem fst_step (k : Nat) (s : ByteArray) (m : Nat) (n : Int) (i : Nat) (h : i < m) (hs : i < s.size) (h0 : 0 ≤ n) (h1 : n ≤ 100000000) (hm : m ≤ 4) :
    redpencilref02_first.l0 (k + 1) s (m : Int) n (i : Int) = if bN s i / 64 = 2 then redpencilref02_first.l0 k s (m : Int) (64 * n + ((bN s i : Int) - 128)) ((i + 1 : Nat) : Int) else some (0, 0) := by
  have hb := bN_lt s i
  conv => lhs; unfold redpencilref02_first.l0
  rw [if_pos (by omega), if_pos (by omega), if_pos (by omega), bt_nat hs]
  by_cases q1 : (bN s i : Int) < 128
  · rw [if_pos q1, if_neg (by omega)]
  · rw [if_neg q1]
    by_cases q2 : (bN s i : Int) > 191
    · rw [if_pos q2, if_neg (by omega)]
    · rw [if_neg q2, if_pos (by omega), wi (by omega), w64 (n := 64 * n) (by omega) (by omega), w64 (n := (bN s i : Int)) (by omega) (by omega), w64 (n := 64 * n + (bN s i : Int)) (by omega) (by omega), w64 (by omega) (by omega)]
      congr 1
      omega
theorem enc_len_of {n : Int} (h : okSc n) : (Lib.encodeRuneZ n).length = if n < 128 then 1 else if n < 2048 then 2 else if n < 65536 then 3 else 4 := by
  obtain ⟨h0, h1, h2⟩ := h
  by_cases q1 : n < 128
  · rw [if_pos q1, Lib.encodeRuneZ_one h0 (by omega)]; rfl
  · rw [if_neg q1]
    by_cases q2 : n < 2048
    · rw [if_pos q2, Lib.encodeRuneZ_two (by omega) (by omega)]; rfl
    · rw [if_neg q2]
      by_cases q3 : n < 65536
      · rw [if_pos q3, Lib.encodeRuneZ_three (by omega)]; rfl
      · rw [if_neg q3, Lib.encodeRuneZ_four (by omega) (by omega)]; rfl
theorem fst_j0 (k : Nat) (s : ByteArray) (m n : Int) : redpencilref02_first.j0 (k + 1) s m n true = some (0, 0) := rfl
theorem fst_j1 (k : Nat) (s : ByteArray) (m n : Int) : redpencilref02_first.j0 (k + 1) s m n false = redpencilref02_first.l0 k s m n 1 := rfl
theorem lead_j0 (k : Nat) (c : Int) (b : Bool) : redpencilref02_lead.j0 (k + 1) c b = if b = true then some (2, wrap64 (wrap64 c - 192)) else (if c ≥ 224 then redpencilref02_lead.j1 k c (decide (c < 240)) else redpencilref02_lead.j1 k c false) := by
  conv => lhs; unfold redpencilref02_lead.j0
theorem lead_j1 (k : Nat) (c : Int) (b : Bool) : redpencilref02_lead.j1 (k + 1) c b = if b = true then some (3, wrap64 (wrap64 c - 224)) else (if c ≥ 240 then (if c < 248 then some (4, wrap64 (wrap64 c - 240)) else some (0, 0)) else some (0, 0)) := by
  conv => lhs; unfold redpencilref02_lead.j1
theorem first_f (s : ByteArray) (hs : 0 < s.size) (k : Nat) : redpencilref02_first.f (k + 8) s = some (fstP (Lib.decodeL s.data.toList)) := by
  have hlen : s.data.toList.length = s.size := by rw [Array.length_toList]; rfl
  have hd : Lib.decodeL s.data.toList = Lib.decodeN s.size (bN s 0) (bN s 1) (bN s 2) (bN s 3) := by rw [Lib.decodeL_N, hlen]; rfl
  rw [hd]
  unfold redpencilref02_first.f
  have b0 := bN_lt s 0
  have b1 := bN_lt s 1
  have b2 := bN_lt s 2
  have b3 := bN_lt s 3
  have hb : bt s 0 = (bN s 0 : Int) := bt_nat (i := 0) hs
  have hj0 : ∀ m n, redpencilref02_first.j0 (k + 8) s m n true = some (0, 0) := fst_j0 (k + 7) s
  have hj1 : ∀ m n, redpencilref02_first.j0 (k + 8) s m n false = redpencilref02_first.l0 (k + 7) s m n 1 := fst_j1 (k + 7) s
  rw [if_pos (by omega), hb]
  unfold redpencilref02_lead.f
  have hl0 : ∀ b, redpencilref02_lead.j0 (k + 8) (bN s 0 : Int) b = if b = true then some (2, wrap64 (wrap64 (bN s 0 : Int) - 192)) else (if (bN s 0 : Int) ≥ 224 then redpencilref02_lead.j1 (k + 7) (bN s 0 : Int) (decide ((bN s 0 : Int) < 240)) else redpencilref02_lead.j1 (k + 7) (bN s 0 : Int) false) := lead_j0 (k + 7) _
  have hl1 : ∀ b, redpencilref02_lead.j1 (k + 7) (bN s 0 : Int) b = if b = true then some (3, wrap64 (wrap64 (bN s 0 : Int) - 224)) else (if (bN s 0 : Int) ≥ 240 then (if (bN s 0 : Int) < 248 then some (4, wrap64 (wrap64 (bN s 0 : Int) - 240)) else some (0, 0)) else some (0, 0)) := lead_j1 (k + 6) _
  rw [w64 (n := (bN s 0 : Int)) (by omega) (by omega)] at hl0 hl1 ⊢
  have e1 : (1 : Int) = ((1 : Nat) : Int) := rfl
  by_cases q1 : (bN s 0 : Int) < 128
  · rw [if_pos q1, Option.bind_some, if_neg (by simp)]
    show redpencilref02_first.j0 (k + 8) s 1 (bN s 0) (decide (1 > (s.size : Int))) = _
    rw [decide_eq_false (by omega), hj1, e1, fst_end (k + 6) s 1 _ 1 (Nat.le_refl _) (by omega)]
    have ho : okSc (bN s 0 : Int) := by unfold okSc; omega
    rw [if_pos ⟨ho, by rw [enc_len_of ho, if_pos (by omega)]⟩]
    rw [show Lib.decodeN s.size (bN s 0) (bN s 1) (bN s 2) (bN s 3) = (bN s 0, 1) by unfold Lib.decodeN; rw [if_pos (by omega)]]
    unfold fstP
    rw [if_neg (by simp; omega)]
  · rw [if_neg q1]
    by_cases q2 : (bN s 0 : Int) ≥ 192
    · rw [if_pos q2]
      by_cases q3 : (bN s 0 : Int) < 224
      · rw [hl0, if_pos (decide_eq_true q3), Option.bind_some, if_neg (by simp)]
        show redpencilref02_first.j0 (k + 8) s 2 _ (decide (2 > (s.size : Int))) = _
        by_cases z : s.size < 2
        · rw [decide_eq_true (by omega), hj0]
          rw [show Lib.decodeN s.size (bN s 0) (bN s 1) (bN s 2) (bN s 3) = (65533, 1) by unfold Lib.decodeN; rw [if_neg (by omega), if_neg (by omega), if_neg (by omega), if_neg (by omega)]]
          rfl
        · rw [decide_eq_false (by omega), hj1, w64 (by omega) (by omega), e1, show (2 : Int) = ((2 : Nat) : Int) from rfl, fst_step (k + 6) s 2 _ 1 (by omega) (by omega) (by omega) (by omega) (by omega)]
          by_cases c1 : bN s 1 / 64 = 2
          · rw [if_pos c1, fst_end (k + 5) s 2 _ 2 (by omega) (by omega)]
            have ev : 64 * ((bN s 0 : Int) - 192) + ((bN s 1 : Int) - 128) = ((bN s 0 % 32 * 64 + bN s 1 % 64 : Nat) : Int) := by omega
            rw [ev]
            have ed : Lib.decodeN s.size (bN s 0) (bN s 1) (bN s 2) (bN s 3) = if bN s 0 % 32 * 64 + bN s 1 % 64 ≥ 128 then (bN s 0 % 32 * 64 + bN s 1 % 64, 2) else (65533, 1) := by unfold Lib.decodeN; rw [if_neg (by omega), if_pos (by omega)]
            rw [ed]
            have ho : okSc ((bN s 0 % 32 * 64 + bN s 1 % 64 : Nat) : Int) := by unfold okSc; omega
            by_cases g : bN s 0 % 32 * 64 + bN s 1 % 64 ≥ 128
            · rw [if_pos g, if_pos ⟨ho, by rw [enc_len_of ho, if_neg (by omega), if_pos (by omega)]⟩]
              unfold fstP
              rw [if_neg (by simp)]
            · rw [if_neg g, if_neg (fun q => by have := q.2; rw [enc_len_of ho, if_pos (by omega)] at this; omega)]
              unfold fstP
              rw [if_pos ⟨rfl, rfl⟩]
          · rw [if_neg c1]
            rw [show Lib.decodeN s.size (bN s 0) (bN s 1) (bN s 2) (bN s 3) = (65533, 1) by unfold Lib.decodeN; rw [if_neg (by omega), if_neg (by omega), if_neg (by omega), if_neg (by omega)]]
            rfl
      · rw [hl0, if_neg (by simp [q3])]
        by_cases q4 : (bN s 0 : Int) < 240
        · rw [if_pos (by omega), hl1, if_pos (decide_eq_true q4), Option.bind_some, if_neg (by simp)]
          show redpencilref02_first.j0 (k + 8) s 3 _ (decide (3 > (s.size : Int))) = _
          by_cases z : s.size < 3
          · rw [decide_eq_true (by omega), hj0]
            rw [show Lib.decodeN s.size (bN s 0) (bN s 1) (bN s 2) (bN s 3) = (65533, 1) by unfold Lib.decodeN; rw [if_neg (by omega), if_neg (by omega), if_neg (by omega), if_neg (by omega)]]
            rfl
          · rw [decide_eq_false (by omega), hj1, w64 (by omega) (by omega), e1, show (3 : Int) = ((3 : Nat) : Int) from rfl, fst_step (k + 6) s 3 _ 1 (by omega) (by omega) (by omega) (by omega) (by omega)]
            by_cases c1 : bN s 1 / 64 = 2
            · rw [if_pos c1, fst_step (k + 5) s 3 _ 2 (by omega) (by omega) (by omega) (by omega) (by omega)]
              by_cases c2 : bN s 2 / 64 = 2
              · rw [if_pos c2, fst_end (k + 4) s 3 _ 3 (by omega) (by omega)]
                have ev : 64 * (64 * ((bN s 0 : Int) - 224) + ((bN s 1 : Int) - 128)) + ((bN s 2 : Int) - 128) = ((bN s 0 % 16 * 4096 + bN s 1 % 64 * 64 + bN s 2 % 64 : Nat) : Int) := by omega
                rw [ev]
                have ed : Lib.decodeN s.size (bN s 0) (bN s 1) (bN s 2) (bN s 3) = if bN s 0 % 16 * 4096 + bN s 1 % 64 * 64 + bN s 2 % 64 ≥ 2048 ∧ (bN s 0 % 16 * 4096 + bN s 1 % 64 * 64 + bN s 2 % 64 < 55296 ∨ (57344 ≤ bN s 0 % 16 * 4096 + bN s 1 % 64 * 64 + bN s 2 % 64 ∧ bN s 0 % 16 * 4096 + bN s 1 % 64 * 64 + bN s 2 % 64 ≤ 1114111)) then (bN s 0 % 16 * 4096 + bN s 1 % 64 * 64 + bN s 2 % 64, 3) else (65533, 1) := by unfold Lib.decodeN; rw [if_neg (by omega), if_neg (by omega), if_pos (by omega)]
                rw [ed]
                clear ed ev
                generalize hv : bN s 0 % 16 * 4096 + bN s 1 % 64 * 64 + bN s 2 % 64 = v
                by_cases g : v ≥ 2048 ∧ (v < 55296 ∨ (57344 ≤ v ∧ v ≤ 1114111))
                · have ho : okSc (v : Int) := by unfold okSc; omega
                  rw [if_pos g, if_pos ⟨ho, by rw [enc_len_of ho, if_neg (by omega), if_neg (by omega), if_pos (by omega)]⟩]
                  unfold fstP
                  rw [if_neg (by simp)]
                · rw [if_neg g, if_neg (fun q => by
                    have h2 := q.2
                    rw [enc_len_of q.1] at h2
                    have h1 := q.1
                    unfold okSc at h1
                    split at h2
                    · omega
                    · split at h2 <;> omega)]
                  unfold fstP
                  rw [if_pos ⟨rfl, rfl⟩]
              · rw [if_neg c2]
                rw [show Lib.decodeN s.size (bN s 0) (bN s 1) (bN s 2) (bN s 3) = (65533, 1) by unfold Lib.decodeN; rw [if_neg (by omega), if_neg (by omega), if_neg (by omega), if_neg (by omega)]]
                rfl
            · rw [if_neg c1]
              rw [show Lib.decodeN s.size (bN s 0) (bN s 1) (bN s 2) (bN s 3) = (65533, 1) by unfold Lib.decodeN; rw [if_neg (by omega), if_neg (by omega), if_neg (by omega), if_neg (by omega)]]
              rfl
        · have hz : (if (bN s 0 : Int) ≥ 224 then redpencilref02_lead.j1 (k + 7) (bN s 0 : Int) (decide ((bN s 0 : Int) < 240)) else redpencilref02_lead.j1 (k + 7) (bN s 0 : Int) false) = if (bN s 0 : Int) < 248 then some (4, wrap64 ((bN s 0 : Int) - 240)) else some (0, 0) := by
            rw [if_pos (by omega), hl1, if_neg (by simp [q4]), if_pos (by omega)]
          rw [hz]
          by_cases q5 : (bN s 0 : Int) < 248
          · rw [if_pos q5, Option.bind_some, if_neg (by simp)]
            show redpencilref02_first.j0 (k + 8) s 4 _ (decide (4 > (s.size : Int))) = _
            by_cases z : s.size < 4
            · rw [decide_eq_true (by omega), hj0]
              rw [show Lib.decodeN s.size (bN s 0) (bN s 1) (bN s 2) (bN s 3) = (65533, 1) by unfold Lib.decodeN; rw [if_neg (by omega), if_neg (by omega), if_neg (by omega), if_neg (by omega)]]
              rfl
            · rw [decide_eq_false (by omega), hj1, w64 (by omega) (by omega), e1, show (4 : Int) = ((4 : Nat) : Int) from rfl, fst_step (k + 6) s 4 _ 1 (by omega) (by omega) (by omega) (by omega) (by omega)]
              by_cases c1 : bN s 1 / 64 = 2
              · rw [if_pos c1, fst_step (k + 5) s 4 _ 2 (by omega) (by omega) (by omega) (by omega) (by omega)]
                by_cases c2 : bN s 2 / 64 = 2
                · rw [if_pos c2, fst_step (k + 4) s 4 _ 3 (by omega) (by omega) (by omega) (by omega) (by omega)]
                  by_cases c3 : bN s 3 / 64 = 2
                  · rw [if_pos c3, fst_end (k + 3) s 4 _ 4 (by omega) (by omega)]
                    have ev : 64 * (64 * (64 * ((bN s 0 : Int) - 240) + ((bN s 1 : Int) - 128)) + ((bN s 2 : Int) - 128)) + ((bN s 3 : Int) - 128) = ((bN s 0 % 8 * 262144 + bN s 1 % 64 * 4096 + bN s 2 % 64 * 64 + bN s 3 % 64 : Nat) : Int) := by omega
                    rw [ev]
                    have ed : Lib.decodeN s.size (bN s 0) (bN s 1) (bN s 2) (bN s 3) = if bN s 0 % 8 * 262144 + bN s 1 % 64 * 4096 + bN s 2 % 64 * 64 + bN s 3 % 64 ≥ 65536 ∧ (bN s 0 % 8 * 262144 + bN s 1 % 64 * 4096 + bN s 2 % 64 * 64 + bN s 3 % 64 < 55296 ∨ (57344 ≤ bN s 0 % 8 * 262144 + bN s 1 % 64 * 4096 + bN s 2 % 64 * 64 + bN s 3 % 64 ∧ bN s 0 % 8 * 262144 + bN s 1 % 64 * 4096 + bN s 2 % 64 * 64 + bN s 3 % 64 ≤ 1114111)) then (bN s 0 % 8 * 262144 + bN s 1 % 64 * 4096 + bN s 2 % 64 * 64 + bN s 3 % 64, 4) else (65533, 1) := by unfold Lib.decodeN; rw [if_neg (by omega), if_neg (by omega), if_neg (by omega), if_pos (by omega)]
                    rw [ed]
                    clear ed ev
                    generalize hv : bN s 0 % 8 * 262144 + bN s 1 % 64 * 4096 + bN s 2 % 64 * 64 + bN s 3 % 64 = v
                    by_cases g : v ≥ 65536 ∧ (v < 55296 ∨ (57344 ≤ v ∧ v ≤ 1114111))
                    · have ho : okSc (v : Int) := by unfold okSc; omega
                      rw [if_pos g, if_pos ⟨ho, by rw [enc_len_of ho, if_neg (by omega), if_neg (by omega), if_neg (by omega)]⟩]
                      unfold fstP
                      rw [if_neg (by simp)]
                    · rw [if_neg g, if_neg (fun q => by
                        have h2 := q.2
                        rw [enc_len_of q.1] at h2
                        have h1 := q.1
                        unfold okSc at h1
                        split at h2
                        · omega
                        · split at h2
                          · omega
                          · split at h2 <;> omega)]
                      unfold fstP
                      rw [if_pos ⟨rfl, rfl⟩]
                  · rw [if_neg c3]
                    rw [show Lib.decodeN s.size (bN s 0) (bN s 1) (bN s 2) (bN s 3) = (65533, 1) by unfold Lib.decodeN; rw [if_neg (by omega), if_neg (by omega), if_neg (by omega), if_neg (by omega)]]
                    rfl
                · rw [if_neg c2]
                  rw [show Lib.decodeN s.size (bN s 0) (bN s 1) (bN s 2) (bN s 3) = (65533, 1) by unfold Lib.decodeN; rw [if_neg (by omega), if_neg (by omega), if_neg (by omega), if_neg (by omega)]]
                  rfl
              · rw [if_neg c1]
                rw [show Lib.decodeN s.size (bN s 0) (bN s 1) (bN s 2) (bN s 3) = (65533, 1) by unfold Lib.decodeN; rw [if_neg (by omega), if_neg (by omega), if_neg (by omega), if_neg (by omega)]]
                rfl
          · rw [if_neg q5, Option.bind_some, if_pos rfl, hj0]
            rw [show Lib.decodeN s.size (bN s 0) (bN s 1) (bN s 2) (bN s 3) = (65533, 1) by unfold Lib.decodeN; rw [if_neg (by omega), if_neg (by omega), if_neg (by omega), if_neg (by omega)]]
            rfl
    · rw [if_neg q2, hl0, if_neg (by simp), if_neg (by omega), hl1, if_neg (by simp), if_neg (by omega), Option.bind_some, if_pos rfl, hj0]
      rw [show Lib.decodeN s.size (bN s 0) (bN s 1) (bN s 2) (bN s 3) = (65533, 1) by unfold Lib.decodeN; rw [if_neg (by omega), if_neg (by omega), if_neg (by omega), if_neg (by omega)]]
      rfl
end Go.Proofs.YtphgoaacmkagmaaDoor.Up
