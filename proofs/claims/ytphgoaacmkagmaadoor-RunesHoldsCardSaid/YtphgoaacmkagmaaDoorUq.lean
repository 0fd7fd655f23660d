/- Layer 2, plain law: Decode, Encode, Cut, Name and ByName of the reference. -/
import Derived.Test.YtphgoaacmkagmaaDoorUp
import Derived.Test.YtphgoaacmkagmaaDoorPAllx3
import Derived.Test.YtphgoaacmkagmaaDoorPAllx4
namespace Go.Proofs.YtphgoaacmkagmaaDoor.Up
open Go Go.RowKit Go.Proofs Go.Proofs.YtphgoaacmkagmaaDoorW.PrintWords Go.Proofs.YtphgoaacmkagmaaDoor.Rn Go.Proofs.YtphgoaacmkagmaaDoor.Hx Go.Proofs.YtphgoaacmkagmaaDoor.PAll
set_option linter.unusedSimpArgs false
set_option linter.unusedVariables false

theorem ext_drop (s : ByteArray) (p : Nat) : (s.extract p s.size).data.toList = s.data.toList.drop p := by
  rw [Lib.extract_data, List.take_of_length_le]
  rw [List.length_drop, Array.length_toList]
  exact Nat.le_refl _
theorem dec_l0 (s : ByteArray) (hl : s.size ≤ 1000000) : ∀ (m p : Nat) (acc : List Int) (z : Bool), s.size ≤ m + p → acc.length ≤ p → p ≤ s.size → ∀ k, m + 10 ≤ k →
    redpencilref02_Decode.l0 k s acc z (p : Int) = some (if Lib.validD (s.data.toList.drop p) = true then (if z = true ∨ (0 : Int) ∈ runesFrom s m p then ([], 13) else (acc ++ runesFrom s m p, 0)) else ([], 12))
  | m, p, acc, z, hm, ha, hp, k, hk => by
    have hs : s.data.toList.length = s.size := by rw [Array.length_toList]; rfl
    obtain ⟨k, rfl⟩ : ∃ k', k = k' + 1 := ⟨k - 1, by omega⟩
    unfold redpencilref02_Decode.l0
    by_cases h1 : p < s.size
    · obtain ⟨m, rfl⟩ : ∃ m', m = m' + 1 := ⟨m - 1, by omega⟩
      obtain ⟨k, rfl⟩ : ∃ k', k = k' + 8 := ⟨k - 8, by omega⟩
      have hne : s.data.toList.drop p ≠ [] := by
        intro h
        have := congrArg List.length h
        rw [List.length_drop, List.length_nil] at this
        omega
      have hd := Lib.decodeL_drop s p
      have hsz : (s.extract p s.size).size = s.size - p := by simp [ByteArray.size_extract]
      have hf := first_f (s.extract p s.size) (by omega) k
      rw [ext_drop, hd] at hf
      have hle := Lib.decodeL_le _ hne
      rw [hd, List.length_drop] at hle
      have hw := width_pos s p h1
      have hsc := sc_of_valid (dec_rune_ok s p)
      rw [if_pos (by omega), if_pos (by omega), if_pos (by omega), Int.toNat_natCast, hf, Option.bind_some, Lib.validD_step _ hne, hd]
      have hrf : runesFrom s (m + 1) p = ((Utf8.decode s p).1 : Int) :: runesFrom s m (p + (Utf8.decode s p).2) := by
        conv => lhs; unfold runesFrom
        rw [if_pos h1]
      rw [hrf]
      unfold fstP
      by_cases hb : (Utf8.decode s p).1 = 65533 ∧ (Utf8.decode s p).2 = 1
      · rw [if_pos hb, if_pos rfl, if_pos hb, if_neg (by simp)]
      · rw [if_neg hb, if_neg hb]
        show (if (((Utf8.decode s p).2 : Nat) : Int) = 0 then _ else _) = _
        have hac : acc.length < 35184372088832 := by omega
        rw [if_neg (by omega), List.drop_drop]
        simp only [if_pos hac]
        show (if z = true then redpencilref02_Decode.l0 (k + 8) s (acc ++ [wrap32 (((Utf8.decode s p).1 : Nat) : Int)]) true (wrap64 ((p : Int) + (((Utf8.decode s p).2 : Nat) : Int))) else redpencilref02_Decode.l0 (k + 8) s (acc ++ [wrap32 (((Utf8.decode s p).1 : Nat) : Int)]) ((((Utf8.decode s p).1 : Nat) : Int) == 0) (wrap64 ((p : Int) + (((Utf8.decode s p).2 : Nat) : Int)))) = _
        rw [w32 (by have := hsc.1; omega) (by have := hsc.2.1; omega), w64 (by omega) (by omega), ← Int.natCast_add]
        have hIH := fun z => dec_l0 s hl m (p + (Utf8.decode s p).2) (acc ++ [((Utf8.decode s p).1 : Int)]) z (by omega) (by rw [List.length_append]; simp; omega) (by omega) (k + 8) (by omega)
        rw [hIH, hIH]
        cases z with
        | true => rw [if_pos rfl]; simp
        | false =>
          rw [if_neg (by simp)]
          by_cases hz : (((Utf8.decode s p).1 : Nat) : Int) = 0
          · have : (0 : Int) ∈ ((Utf8.decode s p).1 : Int) :: runesFrom s m (p + (Utf8.decode s p).2) := by rw [hz]; simp
            simp [hz]
          · have hz2 : ¬ (0 : Int) = ((Utf8.decode s p).1 : Int) := fun q => hz q.symm
            have e0 : ((((Utf8.decode s p).1 : Nat) : Int) == 0) = false := beq_eq_false_iff_ne.2 hz
            rw [e0]
            simp only [Bool.false_eq_true, false_or, List.mem_cons, hz2, List.append_assoc, List.singleton_append]
    · rw [if_neg (by omega), List.drop_eq_nil_of_le (by omega), Lib.validD_nil, if_pos rfl]
      have hrf : runesFrom s m p = [] := by
        cases m with
        | zero => rfl
        | succ m => unfold runesFrom; rw [if_neg h1]
      rw [hrf]
      cases z <;> simp
theorem decode_f (s : ByteArray) (hl : s.size ≤ 1000000) (k : Nat) (hk : s.size + 10 ≤ k) : redpencilref02_Decode.f k s = some (decP s) := by
  unfold redpencilref02_Decode.f
  have := dec_l0 s hl s.size 0 [] false (by omega) (by simp) (by omega) k hk
  rw [show ((0 : Nat) : Int) = 0 from rfl, List.drop_zero] at this
  rw [this]
  unfold decP runesOf
  simp
/-- Runes as numbers of 32 bits. -/
def R32 (l : List Int) : Prop := ∀ r ∈ l, -2147483648 ≤ r ∧ r ≤ 2147483647
theorem getD_mem {xs : List Int} {k : Nat} (h : k < xs.length) : xs.getD k 0 ∈ xs := by
  rw [List.getD_eq_getElem?_getD, List.getElem?_eq_getElem h]
  exact List.getElem_mem h
theorem enc_l0 (l : List Int) (hl : l.length ≤ 1000000) (h32 : R32 l) : ∀ (m i : Nat) (acc : List Int), m + i = l.length → acc.length ≤ 4 * i → ∀ k, m + 1 ≤ k →
    redpencilref02_Encode.l0 k l acc (i : Int) = some (if ∀ r ∈ l.drop i, okRune r then (strOfNums (acc ++ utf8 (l.drop i)), 0) else (⟨#[]⟩, 13))
  | m, i, acc, hm, ha, k, hk => by
    obtain ⟨k, rfl⟩ : ∃ k', k = k' + 1 := ⟨k - 1, by omega⟩
    unfold redpencilref02_Encode.l0
    by_cases h1 : i < l.length
    · obtain ⟨m, rfl⟩ : ∃ m', m = m' + 1 := ⟨m - 1, by omega⟩
      have hr := h32 _ (getD_mem h1)
      rw [if_pos (by omega), if_pos (by omega), rd_nat, rvalid_f hr.1 hr.2, Option.bind_some, drop_getD h1]
      by_cases hv : okRune (l.getD i 0)
      · have hle := (Lib.encodeRuneZ_length (l.getD i 0)).2
        rw [decide_eq_true hv, if_pos rfl, w64 (by omega) (by omega), rbytes_f (sc_rune.1 hv).1, Option.bind_some, if_pos (by omega), wi (by omega), enc_l0 l hl h32 m (i + 1) _ (by omega) (by rw [List.length_append]; omega) k (by omega)]
        congr 1
        rw [utf8_cons, List.append_assoc]
        by_cases hq : ∀ r ∈ l.drop (i + 1), okRune r
        · rw [if_pos hq, if_pos (fun r hr => by
            rcases List.mem_cons.1 hr with rfl | hr
            · exact hv
            · exact hq r hr)]
        · rw [if_neg hq, if_neg (fun q => hq (fun r hr => q r (List.mem_cons_of_mem _ hr)))]
      · rw [decide_eq_false hv, if_neg (by simp), if_neg (fun q => hv (q _ List.mem_cons_self))]
    · rw [if_neg (by omega), List.drop_eq_nil_of_le (by omega), if_pos (by simp)]
      show some (strOfNums acc, 0) = some (strOfNums (acc ++ []), 0)
      rw [List.append_nil]
theorem rencode_f (l : List Int) (hl : l.length ≤ 1000000) (h32 : R32 l) (k : Nat) (hk : l.length + 1 ≤ k) : redpencilref02_Encode.f k l = some (encP l) := by
  unfold redpencilref02_Encode.f encP
  have := enc_l0 l hl h32 l.length 0 [] rfl (by simp) k hk
  rwa [List.drop_zero, List.nil_append] at this
theorem encode_f (l : List Int) : runes_Encode.f l = some (encP l) := rfl
theorem decodes_f (s : ByteArray) (hs : s.size ≤ 1000000) : runes_Decode.f s = some (decP s) := if_pos (by omega)
theorem from_len (s : ByteArray) : ∀ fuel p, (runesFrom s fuel p).length ≤ fuel
  | 0, _ => Nat.le_refl _
  | fuel + 1, p => by
    unfold runesFrom
    split
    · have := from_len s fuel (p + (Utf8.decode s p).2)
      simp; omega
    · simp
theorem dec_len (s : ByteArray) : (decP s).1.length ≤ s.size := by
  unfold decP
  split
  · split
    · simp
    · exact from_len s _ _
  · simp
theorem from_sc (s : ByteArray) : ∀ fuel p, ∀ r ∈ runesFrom s fuel p, okSc r
  | 0, _, r, h => by cases h
  | fuel + 1, p, r, h => by
    unfold runesFrom at h
    split at h
    · rcases List.mem_cons.1 h with rfl | h
      · exact sc_of_valid (dec_rune_ok s p)
      · exact from_sc s fuel _ r h
    · cases h
theorem dec_32 (s : ByteArray) : R32 (decP s).1 := by
  intro r hr
  have : okSc r := by
    unfold decP at hr
    split at hr
    · split at hr
      · cases hr
      · exact from_sc s _ _ r hr
    · cases hr
  unfold okSc at this
  omega
/-- What Cut returns. -/
def cutP (s : ByteArray) (a b : Int) : ByteArray × Int :=
  if (decP s).2 = 0 then (if a < 0 ∨ b < a ∨ ((decP s).1.length : Int) < b then (⟨#[]⟩, 3) else (strOfNums (utf8 (((decP s).1.take b.toNat).drop a.toNat)), 0)) else (⟨#[]⟩, (decP s).2)
theorem ok_all {s : ByteArray} (h : (decP s).2 = 0) : ∀ r ∈ (decP s).1, okRune r := ((decP_iff s (decP s).1).1 (by rw [← h])).2
theorem cut_f (s : ByteArray) (hs : s.size ≤ 1000000) (a b : Int) : runes_Cut.f s a b = some (cutP s a b) := by
  unfold runes_Cut.f cutP
  rw [decodes_f s hs, Option.bind_some]
  by_cases h0 : (decP s).2 = 0
  · rw [if_pos h0, if_pos h0]
    by_cases h1 : a < 0
    · rw [if_pos h1, if_pos (.inl h1)]
    · rw [if_neg h1]
      by_cases h2 : b < a
      · rw [if_pos h2, if_pos (.inr (.inl h2))]
      · rw [if_neg h2]
        by_cases h3 : ((decP s).1.length : Int) < b
        · rw [if_pos h3, if_pos (.inr (.inr h3))]
        · rw [if_neg h3, if_pos (by omega), if_pos (by omega), if_pos (by omega), if_neg (by omega), encode_f]
          have hok : ∀ r ∈ ((decP s).1.take b.toNat).drop a.toNat, okRune r := fun r hr => ok_all h0 r (List.mem_of_mem_take (List.mem_of_mem_drop hr))
          unfold encP
          rw [if_pos hok]
          rfl
  · rw [if_neg h0, if_neg h0]
theorem rcut_f (s : ByteArray) (hs : s.size ≤ 1000000) (a b : Int) (k : Nat) (hk : s.size + 10 ≤ k) : redpencilref02_Cut.f k s a b = some (cutP s a b) := by
  unfold redpencilref02_Cut.f cutP
  rw [decode_f s hs k hk, Option.bind_some]
  by_cases h0 : (decP s).2 = 0
  · rw [if_pos h0, if_pos h0]
    by_cases h1 : a < 0
    · rw [if_pos h1, if_pos (.inl h1)]
    · rw [if_neg h1]
      by_cases h2 : b < a
      · rw [if_pos h2, if_pos (.inr (.inl h2))]
      · rw [if_neg h2]
        by_cases h3 : ((decP s).1.length : Int) < b
        · rw [if_pos h3, if_pos (.inr (.inr h3))]
        · have hok : ∀ r ∈ ((decP s).1.take b.toNat).drop a.toNat, okRune r := fun r hr => ok_all h0 r (List.mem_of_mem_take (List.mem_of_mem_drop hr))
          have hle : (((decP s).1.take b.toNat).drop a.toNat).length ≤ s.size := by
            have := dec_len s
            rw [List.length_drop, List.length_take]
            omega
          rw [if_neg h3, if_pos (by omega), if_pos (by omega), if_pos (by omega), if_neg (by omega), rencode_f _ (by omega) (fun r hr => dec_32 s r (List.mem_of_mem_take (List.mem_of_mem_drop hr))) k (by omega)]
          unfold encP
          rw [if_pos hok]
          rfl
  · rw [if_neg h0, if_neg h0]
end Go.Proofs.YtphgoaacmkagmaaDoor.Up
