/- Layer 2, plain law: Name and ByName of the reference. -/
import Derived.Test.YtphgoaacmkagmaaDoorUq
namespace Go.Proofs.YtphgoaacmkagmaaDoor.Up
open Go Go.RowKit Go.Proofs Go.Proofs.YtphgoaacmkagmaaDoorW.PrintWords Go.Proofs.YtphgoaacmkagmaaDoor.Rn Go.Proofs.YtphgoaacmkagmaaDoor.Hx Go.Proofs.YtphgoaacmkagmaaDoor.PAll
set_option linter.unusedSimpArgs false
set_option linter.unusedVariables false

theorem hexD_fuel : ∀ (a b n : Nat), n < 16 ^ a → n < 16 ^ b → 0 < a → 0 < b → hexD a n = hexD b n
  | a + 1, b + 1, n, ha, hb, _, _ => by
    unfold hexD
    by_cases q : n < 16
    · rw [if_pos q, if_pos q]
    · rw [if_neg q, if_neg q]
      rw [Nat.pow_succ] at ha hb
      have ha0 : 0 < a := by
        rcases Nat.eq_zero_or_pos a with rfl | h
        · simp at ha; omega
        · exact h
      have hb0 : 0 < b := by
        rcases Nat.eq_zero_or_pos b with rfl | h
        · simp at hb; omega
        · exact h
      rw [hexD_fuel a b (n / 16) (by omega) (by omega) ha0 hb0]
/-- The digits, none for nought. -/
def digs0 (n : Nat) : List Nat := if n = 0 then [] else hexD 8 n
theorem digs0_step {n : Nat} (h0 : 0 < n) (h : n < 4294967296) : digs0 n = digs0 (n / 16) ++ [n % 16] := by
  unfold digs0
  rw [if_neg (by omega)]
  by_cases q : n < 16
  · rw [if_pos (by omega)]
    unfold hexD
    rw [if_pos q, Nat.mod_eq_of_lt q]
    rfl
  · rw [if_neg (by omega)]
    conv => lhs; unfold hexD
    rw [if_neg q, hexD_fuel 7 8 (n / 16) (by omega) (by omega) (by omega) (by omega)]
def upD : ByteArray := ⟨#[48, 49, 50, 51, 52, 53, 54, 55, 56, 57, 65, 66, 67, 68, 69, 70]⟩
theorem upD_at : ∀ d : Fin 16, upD.extract d.1 (d.1 + 1) = ⟨#[dup d.1]⟩ := by decide
theorem cons_str (c : UInt8) (l : List UInt8) : (⟨#[c]⟩ : ByteArray) ++ ⟨l.toArray⟩ = ⟨(c :: l).toArray⟩ := by
  apply ByteArray.ext
  simp [ByteArray.data_append]
theorem size_str (l : List UInt8) : (⟨l.toArray⟩ : ByteArray).size = l.length := by
  show l.toArray.size = l.length
  rw [List.size_toArray]
theorem name_step (k n : Nat) (out : List UInt8) (hn : n < 4294967296) (ho : out.length ≤ 100) (h : 0 < n ∨ out.length < 4) :
    redpencilref02_Name.l0 (k + 1) ⟨out.toArray⟩ (n : Int) = redpencilref02_Name.l0 k ⟨(dup (n % 16) :: out).toArray⟩ ((n / 16 : Nat) : Int) := by
  have hm : Int.tmod (n : Int) 16 = ((n % 16 : Nat) : Int) := by rw [Int.tmod_eq_emod_of_nonneg (by omega)]; omega
  have hd : Int.tdiv (n : Int) 16 = ((n / 16 : Nat) : Int) := by rw [Int.tdiv_eq_ediv_of_nonneg (by omega)]; omega
  have hex : (⟨#[48, 49, 50, 51, 52, 53, 54, 55, 56, 57, 65, 66, 67, 68, 69, 70]⟩ : ByteArray).extract (n % 16) (n % 16 + 1) = ⟨#[dup (n % 16)]⟩ := upD_at ⟨n % 16, by omega⟩
  have hw : wrap64 (((n % 16 : Nat) : Int) + 1) = ((n % 16 + 1 : Nat) : Int) := wi (by omega)
  conv => lhs; unfold redpencilref02_Name.l0
  rw [hm, hd, hw, Int.toNat_natCast, Int.toNat_natCast, hex, cons_str, w64 (n := ((n / 16 : Nat) : Int)) (by omega) (by omega)]
  have hso := size_str out
  have hz : (⟨#[dup (n % 16)]⟩ : ByteArray).size + (⟨out.toArray⟩ : ByteArray).size ≤ 9223372036854775807 := by rw [hso]; show 1 + out.length ≤ _; omega
  by_cases h1 : 0 < n
  · rw [if_pos (by omega), if_pos (by omega), if_pos (by omega), if_pos (by omega), if_pos hz]
  · rw [if_neg (by omega), if_pos (by omega), if_pos (by omega), if_pos (by omega), if_pos (by omega), if_pos hz]
theorem name_end (k : Nat) (out : List UInt8) (ho : out.length ≤ 100) (h : 4 ≤ out.length) : redpencilref02_Name.l0 (k + 1) ⟨out.toArray⟩ 0 = some ⟨([85, 43] ++ out).toArray⟩ := by
  unfold redpencilref02_Name.l0
  rw [if_neg (by omega), size_str, if_neg (by omega), if_pos (by omega)]
  rfl
theorem name_pad : ∀ (m k : Nat) (out : List UInt8), out.length ≤ 90 → 4 - out.length = m → m + 1 ≤ k → redpencilref02_Name.l0 k ⟨out.toArray⟩ 0 = some ⟨([85, 43] ++ (List.replicate (4 - out.length) 48 ++ out)).toArray⟩
  | m, k, out, ho, hm, hk => by
    obtain ⟨k, rfl⟩ : ∃ k', k = k' + 1 := ⟨k - 1, by omega⟩
    by_cases h : out.length < 4
    · obtain ⟨m, rfl⟩ : ∃ m', m = m' + 1 := ⟨m - 1, by omega⟩
      have := name_step k 0 out (by omega) (by omega) (.inr h)
      rw [show ((0 : Nat) : Int) = 0 from rfl, show dup (0 % 16) = 48 from rfl] at this
      rw [this, name_pad m k (48 :: out) (by simp; omega) (by simp; omega) (by omega)]
      rw [show 4 - out.length = (4 - (48 :: out).length) + 1 by simp; omega, List.replicate_succ', List.append_assoc]
      rfl
    · rw [name_end k out (by omega) (by omega), show 4 - out.length = 0 by omega]
      rfl
theorem name_l0 : ∀ (j n k : Nat) (out : List UInt8), n < 16 ^ j → n < 4294967296 → out.length + j ≤ 90 → j + 6 ≤ k →
    redpencilref02_Name.l0 k ⟨out.toArray⟩ (n : Int) = some ⟨([85, 43] ++ (List.replicate (4 - ((digs0 n).length + out.length)) 48 ++ ((digs0 n).map dup ++ out))).toArray⟩
  | j, n, k, out, hn, hn2, ho, hk => by
    rcases Nat.eq_zero_or_pos n with rfl | h0
    · have := name_pad (4 - out.length) k out (by omega) rfl (by omega)
      rw [show ((0 : Nat) : Int) = 0 from rfl, this]
      simp [digs0]
    · obtain ⟨k, rfl⟩ : ∃ k', k = k' + 1 := ⟨k - 1, by omega⟩
      cases j with
      | zero => simp at hn; omega
      | succ j =>
        rw [name_step k n out hn2 (by omega) (.inl h0), name_l0 j (n / 16) k _ (by rw [Nat.pow_succ] at hn; omega) (by omega) (by simp; omega) (by omega), digs0_step h0 hn2]
        simp only [List.length_append, List.length_cons, List.length_nil, List.map_append, List.map_cons, List.map_nil, List.append_assoc, List.singleton_append]
        rw [show (digs0 (n / 16)).length + (out.length + 1) = (digs0 (n / 16)).length + (0 + 1) + out.length by omega]
theorem name_f {r : Int} (h : okRune r) (k : Nat) (hk : 20 ≤ k) : redpencilref02_Name.f k r = some (nameP r.toNat) := by
  obtain ⟨h1, h2, _⟩ := h
  obtain ⟨n, rfl⟩ : ∃ n : Nat, r = n := ⟨r.toNat, by omega⟩
  unfold redpencilref02_Name.f
  rw [w64 (by omega) (by omega), Int.toNat_natCast]
  have := name_l0 8 n k [] (by omega) (by omega) (by simp) (by omega)
  rw [this]
  unfold digs0
  rw [if_neg (by omega)]
  simp [nameP, nameL, hexU]

/-! ByName. -/
theorem hv_int (c : UInt8) : hv c = if 48 ≤ (c.toNat : Int) ∧ (c.toNat : Int) ≤ 57 then some (c.toNat - 48) else if 65 ≤ (c.toNat : Int) ∧ (c.toNat : Int) ≤ 70 then some (c.toNat - 55) else none := by
  have e1 : (48 ≤ (c.toNat : Int) ∧ (c.toNat : Int) ≤ 57) ↔ (48 ≤ c.toNat ∧ c.toNat ≤ 57) := by omega
  have e2 : (65 ≤ (c.toNat : Int) ∧ (c.toNat : Int) ≤ 70) ↔ (65 ≤ c.toNat ∧ c.toNat ≤ 70) := by omega
  simp only [hv, e1, e2]
/-- How the reference's ByName ends behind its digits. -/
def bynE (k : Nat) (s : ByteArray) (n : Int) : Option (Int × Bool) := (redpencilref02_Valid.f (wrap32 n)).bind fun t => if t = true then ((redpencilref02_Name.f k (wrap32 n)).bind fun u => if u.toList = s.toList then some (wrap32 n, true) else some (0, false)) else some (0, false)
theorem byn_l0 (s : ByteArray) (hs : s.size ≤ 100) : ∀ (m i k n : Nat), m + i = s.size → n < 16 ^ i → i ≤ 10 → s.size ≤ 10 → 2 * m + 1 ≤ k →
    ∃ q, k ≤ q + 2 * m + 1 ∧ redpencilref02_ByName.l0 k s (n : Int) (i : Int) = if ∀ c ∈ s.data.toList.drop i, (hv c).isSome = true then bynE q s (((s.data.toList.drop i).foldl (fun n c => 16 * n + (hv c).getD 0) n : Nat) : Int) else some (0, false)
  | m, i, k, n, hm, hn, hi, h10, hk => by
    have hl : s.data.toList.length = s.size := by rw [Array.length_toList]; rfl
    obtain ⟨k, rfl⟩ : ∃ k', k = k' + 1 := ⟨k - 1, by omega⟩
    by_cases h1 : i < s.size
    · obtain ⟨m, rfl⟩ : ∃ m', m = m' + 1 := ⟨m - 1, by omega⟩
      obtain ⟨k, rfl⟩ : ∃ k', k = k' + 1 := ⟨k - 1, by omega⟩
      have hn9 : n < 1099511627776 := Nat.lt_of_lt_of_le hn (Nat.le_trans (Nat.pow_le_pow_right (by omega) hi) (by decide))
      have hdr : s.data.toList.drop i = s.data.toList[i]'(by omega) :: s.data.toList.drop (i + 1) := List.drop_eq_getElem_cons (by omega)
      have hb : bt s (i : Int) = ((s.data.toList[i]'(by omega)).toNat : Int) := by
        rw [bt_nat h1]
        unfold bN
        rw [List.getD_eq_getElem?_getD, List.getElem?_eq_getElem (by omega)]
        rfl
      have hc256 := (s.data.toList[i]'(by omega)).toNat_lt
      rw [hdr]
      generalize s.data.toList[i]'(by omega) = c at hb hc256
      have hvc := hv_int c
      have hj : ∀ b, redpencilref02_ByName.j2 (k + 1) s (n : Int) (i : Int) (bt s (i : Int)) b = if b = true then redpencilref02_ByName.l0 k s (wrap64 (wrap64 (16 * (n : Int)) + ((bt s (i : Int) - 48) % 256))) (wrap64 ((i : Int) + 1)) else (if bt s (i : Int) ≥ 65 then (if bt s (i : Int) ≤ 70 then redpencilref02_ByName.l0 k s (wrap64 (wrap64 (wrap64 (16 * (n : Int)) + 10) + ((bt s (i : Int) - 65) % 256))) (wrap64 ((i : Int) + 1)) else some (0, false)) else some (0, false)) := fun b => by rw [redpencilref02_ByName.j2]
      have hl0 : redpencilref02_ByName.l0 (k + 1 + 1) s (n : Int) (i : Int) = if bt s (i : Int) ≥ 48 then redpencilref02_ByName.j2 (k + 1) s (n : Int) (i : Int) (bt s (i : Int)) (decide (bt s (i : Int) ≤ 57)) else redpencilref02_ByName.j2 (k + 1) s (n : Int) (i : Int) (bt s (i : Int)) false := by
        rw [redpencilref02_ByName.l0, if_pos (by omega), if_pos (by omega)]
      rw [hl0, hj, hj, hb, wi (by omega), w64 (n := 16 * (n : Int)) (by omega) (by omega)]
      have hpow : 16 ^ (i + 1) = 16 ^ i * 16 := Nat.pow_succ ..
      by_cases c1 : 48 ≤ (c.toNat : Int) ∧ (c.toNat : Int) ≤ 57
      · rw [if_pos (show (c.toNat : Int) ≥ 48 from c1.1), decide_eq_true c1.2, if_pos rfl, w64 (by omega) (by omega)]
        rw [if_pos c1] at hvc
        have e : 16 * (n : Int) + ((c.toNat : Int) - 48) % 256 = ((16 * n + (c.toNat - 48) : Nat) : Int) := by omega
        rw [e]
        obtain ⟨q, hqk, hq⟩ := byn_l0 s hs m (i + 1) k (16 * n + (c.toNat - 48)) (by omega) (by omega) (by omega) h10 (by omega)
        refine ⟨q, by omega, ?_⟩
        rw [hq]
        simp only [List.mem_cons, forall_eq_or_imp, hvc, Option.isSome_some, true_and, List.foldl_cons, Option.getD_some]
      · rw [if_neg c1] at hvc
        have hfalse : (if (c.toNat : Int) ≥ 48 then (if decide ((c.toNat : Int) ≤ 57) = true then redpencilref02_ByName.l0 k s (wrap64 (16 * (n : Int) + ((c.toNat : Int) - 48) % 256)) ((i + 1 : Nat) : Int) else (if (c.toNat : Int) ≥ 65 then (if (c.toNat : Int) ≤ 70 then redpencilref02_ByName.l0 k s (wrap64 (wrap64 (16 * (n : Int) + 10) + ((c.toNat : Int) - 65) % 256)) ((i + 1 : Nat) : Int) else some (0, false)) else some (0, false))) else (if false = true then redpencilref02_ByName.l0 k s (wrap64 (16 * (n : Int) + ((c.toNat : Int) - 48) % 256)) ((i + 1 : Nat) : Int) else (if (c.toNat : Int) ≥ 65 then (if (c.toNat : Int) ≤ 70 then redpencilref02_ByName.l0 k s (wrap64 (wrap64 (16 * (n : Int) + 10) + ((c.toNat : Int) - 65) % 256)) ((i + 1 : Nat) : Int) else some (0, false)) else some (0, false)))) = (if (c.toNat : Int) ≥ 65 then (if (c.toNat : Int) ≤ 70 then redpencilref02_ByName.l0 k s (wrap64 (wrap64 (16 * (n : Int) + 10) + ((c.toNat : Int) - 65) % 256)) ((i + 1 : Nat) : Int) else some (0, false)) else some (0, false)) := by
          by_cases g : (c.toNat : Int) ≥ 48
          · rw [if_pos g, if_neg (by simp; omega)]
          · rw [if_neg g, if_neg (by simp)]
        rw [hfalse]
        by_cases c2 : 65 ≤ (c.toNat : Int) ∧ (c.toNat : Int) ≤ 70
        · rw [if_pos (show (c.toNat : Int) ≥ 65 from c2.1), if_pos c2.2, w64 (n := 16 * (n : Int) + 10) (by omega) (by omega), w64 (by omega) (by omega)]
          rw [if_pos c2] at hvc
          have e : 16 * (n : Int) + 10 + ((c.toNat : Int) - 65) % 256 = ((16 * n + (c.toNat - 55) : Nat) : Int) := by omega
          rw [e]
          obtain ⟨q, hqk, hq⟩ := byn_l0 s hs m (i + 1) k (16 * n + (c.toNat - 55)) (by omega) (by omega) (by omega) h10 (by omega)
          refine ⟨q, by omega, ?_⟩
          rw [hq]
          simp only [List.mem_cons, forall_eq_or_imp, hvc, Option.isSome_some, true_and, List.foldl_cons, Option.getD_some]
        · rw [if_neg c2] at hvc
          refine ⟨k + 2, by omega, ?_⟩
          have hno : ¬ ∀ c' ∈ c :: s.data.toList.drop (i + 1), (hv c').isSome = true := fun q => by have := q c List.mem_cons_self; rw [hvc] at this; cases this
          rw [if_neg hno]
          by_cases g : (c.toNat : Int) ≥ 65
          · rw [if_pos g, if_neg (by omega)]
          · rw [if_neg g]
    · refine ⟨k, by omega, ?_⟩
      rw [redpencilref02_ByName.l0, if_neg (by omega), List.drop_eq_nil_of_le (by omega), if_pos (by simp)]
      rfl
theorem str_eq {a b : ByteArray} : a.toList = b.toList ↔ a = b := by
  constructor
  · intro h
    rw [Lib.toList_data, Lib.toList_data] at h
    exact str_ext h
  · rintro rfl; rfl
/-- How ByName ends, in the words of what it returns. -/
def bynB (s : ByteArray) : Int × Bool := ((bynP s).1, (bynP s).2 == 0)
theorem byn_end (s : ByteArray) (n : Nat) (hn : n < 4294967296) (k : Nat) (hk : 20 ≤ k) : bynE k s n = some (if okRune (wrap32 n) ∧ nameP (wrap32 n).toNat = s then (wrap32 n, true) else (0, false)) := by
  unfold bynE
  have hw : -2147483648 ≤ wrap32 n ∧ wrap32 n ≤ 2147483647 := by simp only [wrap32]; omega
  rw [rvalid_f hw.1 hw.2, Option.bind_some]
  by_cases h : okRune (wrap32 n)
  · rw [decide_eq_true h, if_pos rfl, name_f h k hk, Option.bind_some]
    by_cases q : nameP (wrap32 n).toNat = s
    · rw [if_pos (str_eq.2 q), if_pos ⟨h, q⟩]
    · rw [if_neg (fun z => q (str_eq.1 z)), if_neg (fun z => q z.2)]
  · rw [decide_eq_false h, if_neg (by simp), if_neg (fun z => h z.1)]
theorem size_list (s : ByteArray) : s.data.toList.length = s.size := by rw [Array.length_toList]; rfl
theorem pre_ext (s : ByteArray) (h : 2 ≤ s.size) : ((s.extract 0 2).toList != ([85, 43] : List UInt8)) = decide (s.data.toList.take 2 ≠ [85, 43]) := by
  rw [Lib.extract_toList, List.drop_zero]
  by_cases q : s.data.toList.take 2 = [85, 43] <;> simp [q]
theorem hv_lt (c : UInt8) : (hv c).getD 0 < 16 := by
  unfold hv
  split
  · show c.toNat - 48 < 16; omega
  · split
    · show c.toNat - 55 < 16; omega
    · decide
theorem fold_lt : ∀ (l : List UInt8) (n j : Nat), n < 16 ^ j → l.foldl (fun n c => 16 * n + (hv c).getD 0) n < 16 ^ (j + l.length)
  | [], n, j, h => h
  | c :: l, n, j, h => by
    have := hv_lt c
    have e : 16 ^ (j + 1) = 16 ^ j * 16 := Nat.pow_succ ..
    have := fold_lt l (16 * n + (hv c).getD 0) (j + 1) (by omega)
    rw [List.length_cons, show j + (l.length + 1) = j + 1 + l.length by omega]
    exact this
theorem byname_f (s : ByteArray) (k : Nat) (hk : 60 ≤ k) : redpencilref02_ByName.f k s = some (bynB s) := by
  have hl := size_list s
  obtain ⟨k, rfl⟩ : ∃ k', k = k' + 1 := ⟨k - 1, by omega⟩
  have hj : ∀ b, redpencilref02_ByName.j0 (k + 1) s b = if b = true then some (0, false) else redpencilref02_ByName.l0 k s 0 2 := fun b => by rw [redpencilref02_ByName.j0]
  have hno : (∀ r : Nat, okRune (r : Int) → nameP r ≠ s) → bynB s = (0, false) := fun h => by unfold bynB; rw [byn_no h]; rfl
  have hsz : ∀ r : Nat, okRune (r : Int) → nameP r = s → s.size ≤ 8 ∧ 6 ≤ s.size ∧ s.data.toList.take 2 = [85, 43] ∧ ∀ c ∈ s.data.toList.drop 2, (hv c).isSome = true := fun r h1 h2 => by
    have h3 := nameL_len (n := r) (by have := h1.2.1; omega)
    have e : s.data.toList = nameL r := by rw [← h2]; rfl
    rw [← hl, e]
    exact ⟨h3.1, h3.2, rfl, by rw [nameL_drop]; exact all_pad _ r⟩
  unfold redpencilref02_ByName.f
  simp only [hj]
  by_cases h1 : (s.size : Int) < 6
  · rw [if_pos h1, if_pos trivial, hno (fun r a b => by have := (hsz r a b).2.1; omega)]
  · rw [if_neg h1]
    by_cases h2 : (s.size : Int) > 8
    · rw [if_pos h2, if_pos trivial, hno (fun r a b => by have := (hsz r a b).1; omega)]
    · rw [if_neg h2, if_pos (by omega), if_pos (by omega), pre_ext s (by omega)]
      by_cases h3 : s.data.toList.take 2 = [85, 43]
      · rw [if_neg (by simp [h3])]
        obtain ⟨q, hqk, hq⟩ := byn_l0 s (by omega) (s.size - 2) 2 k 0 (by omega) (by decide) (by omega) (by omega) (by omega)
        rw [show ((0 : Nat) : Int) = 0 from rfl, show ((2 : Nat) : Int) = 2 from rfl] at hq
        rw [hq]
        by_cases h4 : ∀ c ∈ s.data.toList.drop 2, (hv c).isSome = true
        · rw [if_pos h4]
          show bynE q s ((hexV (s.data.toList.drop 2) : Nat) : Int) = _
          have hlt : hexV (s.data.toList.drop 2) < 16777216 := by
            have := fold_lt (s.data.toList.drop 2) 0 0 (by decide)
            have h6 : 0 + (s.data.toList.drop 2).length ≤ 6 := by rw [List.length_drop]; omega
            exact Nat.lt_of_lt_of_le this (Nat.le_trans (Nat.pow_le_pow_right (by omega) h6) (by decide))
          rw [byn_end s _ (by omega) q (by omega), w32 (by omega) (by omega), Int.toNat_natCast]
          unfold bynB bynP
          have e : (okRune ((hexV (s.data.toList.drop 2) : Nat) : Int) ∧ nameP (hexV (s.data.toList.drop 2)) = s) ↔ (okRune ((hexV (s.data.toList.drop 2) : Nat) : Int) ∧ s.size ≤ 8 ∧ (nameP (hexV (s.data.toList.drop 2))).data.toList = s.data.toList) := by
            constructor
            · rintro ⟨a, b⟩
              exact ⟨a, by omega, by rw [b]⟩
            · rintro ⟨a, _, b⟩
              exact ⟨a, str_ext b⟩
          by_cases g : okRune ((hexV (s.data.toList.drop 2) : Nat) : Int) ∧ nameP (hexV (s.data.toList.drop 2)) = s
          · rw [if_pos g, if_pos (e.1 g)]; rfl
          · rw [if_neg g, if_neg (fun z => g (e.2 z))]; rfl
        · rw [if_neg h4, hno (fun r a b => h4 (hsz r a b).2.2.2)]
      · rw [if_pos (by simp [h3]), hno (fun r a b => h3 (hsz r a b).2.2.1)]
end Go.Proofs.YtphgoaacmkagmaaDoor.Up
