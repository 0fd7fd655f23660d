/- Layer 2, plain law: the statements but for RunesHolds. -/
import Derived.Test.YtphgoaacmkagmaaDoorUn
import Derived.Test.YtphgoaacmkagmaaDoorPAllx5
import Derived.Test.YtphgoaacmkagmaaDoorPAllx6
import Derived.Test.YtphgoaacmkagmaaDoorPAllx7
import Derived.Test.YtphgoaacmkagmaaDoorPAllx8
import Derived.Test.YtphgoaacmkagmaaDoorPAllx9
import Derived.Test.YtphgoaacmkagmaaDoorPAllx10
namespace Go.Proofs.YtphgoaacmkagmaaDoor.Up
open Go Go.RowKit Go.Proofs Go.Proofs.YtphgoaacmkagmaaDoorW.PrintWords Go.Proofs.YtphgoaacmkagmaaDoor.Rn Go.Proofs.YtphgoaacmkagmaaDoor.Hx Go.Proofs.YtphgoaacmkagmaaDoor.PAll
set_option linter.unusedSimpArgs false
set_option linter.unusedVariables false

theorem known_f {k : Nat} (h : 60 ≤ k) : redpencillaw02_known.f k = some true := leO_up redpencillaw02_known.mono redpencillaw02_known.at_ k h
theorem then_known {k : Nat} (h : 60 ≤ k) : ((redpencillaw02_known.f k).bind fun t => some t) = some true := by rw [known_f h]; rfl
theorem decodes_t (s : ByteArray) (hs : s.size ≤ 1000) (k : Nat) (hk : 1001 ≤ k) : redpencillaw02_decodes.f k s (decP s).1 (decP s).2 = some true := by
  have := dec_len s
  unfold redpencillaw02_decodes.f
  rw [decodes_f s (by omega), Option.bind_some, same_f _ _ (by omega) k (by omega), Option.bind_some, decide_eq_true rfl, if_pos rfl, beq_self_eq_true]
theorem encodes_t (l : List Int) : redpencillaw02_encodes.f l (encP l).1 (encP l).2 = some true := by
  unfold redpencillaw02_encodes.f
  rw [encode_f, Option.bind_some, if_pos rfl, beq_self_eq_true]
theorem cuts_t (s : ByteArray) (hs : s.size ≤ 1000000) (a b : Int) : redpencillaw02_cuts.f s a b (cutP s a b).1 (cutP s a b).2 = some true := by
  unfold redpencillaw02_cuts.f
  rw [cut_f s hs, Option.bind_some, if_pos rfl, beq_self_eq_true]
theorem has_t (s : ByteArray) (hs : s.size ≤ 1000000) : redpencillaw02_has.f s ((decP s).1.length : Int) (decP s).2 = some true := by
  unfold redpencillaw02_has.f runes_Len.f
  rw [decodes_f s hs, Option.bind_some, Option.bind_some, if_pos rfl, beq_self_eq_true]
theorem named_t (r : Int) : redpencillaw02_named.f r (namP r).1 (namP r).2 = some true := by
  unfold redpencillaw02_named.f
  show ((some (namP r)).bind _) = _
  rw [Option.bind_some, if_pos rfl, beq_self_eq_true]
theorem found_t (s : ByteArray) (hs : s.size ≤ 1000000) : redpencillaw02_found.f s (bynP s).1 (bynP s).2 = some true := by
  unfold redpencillaw02_found.f runes_ByName.f
  rw [if_pos hs, Option.bind_some, if_pos rfl, beq_self_eq_true]
theorem runesDecodes_f (s : ByteArray) : redpencillaw02_RunesDecodes.f 2000 s = some true := by
  unfold redpencillaw02_RunesDecodes.f
  by_cases h : (s.size : Int) > 300
  · rw [if_pos h]; exact then_known (by omega)
  · rw [if_neg h, decode_f s (by omega) 2000 (by omega), Option.bind_some, decodes_t s (by omega) 2000 (by omega), Option.bind_some, if_pos rfl, has_t s (by omega), Option.bind_some, if_pos rfl]
    exact then_known (by omega)
theorem runesEncodes_f (l : List Int) (h32 : R32 l) : redpencillaw02_RunesEncodes.f 2000 l = some true := by
  unfold redpencillaw02_RunesEncodes.f
  by_cases h : (l.length : Int) > 100
  · rw [if_pos h]; exact then_known (by omega)
  · rw [if_neg h, if_pos (by simp; omega), Option.bind_some, List.nil_append, rencode_f l (by omega) h32 2000 (by omega), Option.bind_some, encodes_t, Option.bind_some, if_pos rfl, same_f l l (by omega) 2000 (by omega), Option.bind_some, decide_eq_true rfl, if_pos rfl]
    exact then_known (by omega)
theorem runesCuts_f (s : ByteArray) (a b : Int) : redpencillaw02_RunesCuts.f 2000 s a b = some true := by
  unfold redpencillaw02_RunesCuts.f
  by_cases h : (s.size : Int) > 300
  · rw [if_pos h]; exact then_known (by omega)
  · rw [if_neg h, rcut_f s (by omega) a b 2000 (by omega), Option.bind_some, cuts_t s (by omega), Option.bind_some, if_pos rfl]
    exact then_known (by omega)
theorem byn_code (s : ByteArray) : (∃ r, bynP s = (r, 0)) ∨ bynP s = (0, 6) := by
  unfold bynP
  split
  · exact .inl ⟨_, rfl⟩
  · exact .inr rfl
theorem runesNames_f (s : ByteArray) : redpencillaw02_RunesNames.f 2000 s = some true := by
  unfold redpencillaw02_RunesNames.f
  by_cases h : (s.size : Int) > 60
  · rw [if_pos h]; exact then_known (by omega)
  · rw [if_neg h, byname_f s 2000 (by omega), Option.bind_some]
    have hf := found_t s (by omega)
    unfold bynB
    rcases byn_code s with ⟨r, e⟩ | e
    · rw [e] at hf ⊢
      show (if ((0 : Int) == 0) = true then _ else _) = _
      rw [if_pos (by decide)]
      show ((redpencillaw02_found.f s r 0).bind _) = _
      have hf : redpencillaw02_found.f s r 0 = some true := hf
      rw [hf, Option.bind_some, if_pos rfl]
      exact then_known (by omega)
    · rw [e] at hf ⊢
      show (if ((6 : Int) == 0) = true then _ else _) = _
      rw [if_neg (by decide)]
      have hf : redpencillaw02_found.f s 0 6 = some true := hf
      rw [hf, Option.bind_some, if_pos rfl]
      exact then_known (by omega)
theorem runesOne_f (r : Int) (h0 : -2147483648 ≤ r) (h1 : r ≤ 2147483647) : redpencillaw02_RunesOne.f 2000 r = some true := by
  unfold redpencillaw02_RunesOne.f
  rw [rune_f 1999 r, Option.bind_some, rvalid_f h0 h1, Option.bind_some, if_neg (by simp), size_f 1999 r, Option.bind_some, rsize_f h0 h1, Option.bind_some, bne_self_eq_false]
  rw [redpencillaw02_RunesOne.j0, if_neg (by simp), rvalid_f h0 h1, Option.bind_some]
  by_cases h : okRune r
  · have hn := named_t r
    have hr : r.toNat = r := Int.toNat_of_nonneg (by have := h.1; omega)
    have en : namP r = (nameP r.toNat, 0) := if_pos h
    rw [en] at hn
    have hn : redpencillaw02_named.f r (nameP r.toNat) 0 = some true := hn
    have hl : (nameP r.toNat).size ≤ 1000000 := by
      have := (nameL_len (n := r.toNat) (by have := h.2.1; omega)).1
      show (nameL r.toNat).toArray.size ≤ _
      rw [List.size_toArray]
      omega
    have hf := found_t _ hl
    have eb : bynP (nameP r.toNat) = (r, 0) := by have := byn_yes (r := r.toNat) (by rw [hr]; exact h); rw [hr] at this; exact this
    rw [eb] at hf
    have hf : redpencillaw02_found.f (nameP r.toNat) r 0 = some true := hf
    have he := encodes_t [r]
    have ee : encP [r] = (strOfNums (Lib.encodeRuneZ r), 0) := by
      unfold encP
      rw [if_pos (by simpa using h)]
      show (strOfNums (Lib.encodeRuneZ r ++ []), _) = _
      rw [List.append_nil]
    rw [ee] at he
    have he : redpencillaw02_encodes.f [r] (strOfNums (Lib.encodeRuneZ r)) 0 = some true := he
    have hz : (strOfNums (Lib.encodeRuneZ r)).size ≤ 1000 := by
      have := (Lib.encodeRuneZ_length r).2
      show ((Lib.encodeRuneZ r).map _).toArray.size ≤ _
      rw [List.size_toArray, List.length_map]
      omega
    have hd := decodes_t _ hz 1999 (by omega)
    have ed : decP (strOfNums (Lib.encodeRuneZ r)) = ([r], 0) := by
      have := decP_str (rs := [r]) (by simpa using h)
      rw [show utf8 [r] = Lib.encodeRuneZ r from List.append_nil _] at this
      exact this
    rw [ed] at hd
    have hd : redpencillaw02_decodes.f 1999 (strOfNums (Lib.encodeRuneZ r)) [r] 0 = some true := hd
    rw [decide_eq_true h, if_pos rfl, w64 (by omega) (by omega), rbytes_f (sc_rune.1 h).1, Option.bind_some, name_f h 1999 (by omega), Option.bind_some, hn, Option.bind_some, if_pos rfl, Option.bind_some, hf, Option.bind_some, if_pos rfl, he, Option.bind_some, if_pos rfl, hd, Option.bind_some, if_pos rfl]
    exact then_known (by omega)
  · have hn := named_t r
    have en : namP r = (⟨#[]⟩, 13) := if_neg h
    rw [en] at hn
    have hn : redpencillaw02_named.f r ⟨#[]⟩ 13 = some true := hn
    have he := encodes_t [97, r]
    have ee : encP [97, r] = (⟨#[]⟩, 13) := if_neg (fun q => h (q r (by simp)))
    rw [ee] at he
    have he : redpencillaw02_encodes.f [97, r] ⟨#[]⟩ 13 = some true := he
    rw [decide_eq_false h, if_neg (by simp), hn, Option.bind_some, if_pos rfl, he, Option.bind_some, if_pos rfl]
    exact then_known (by omega)
end Go.Proofs.YtphgoaacmkagmaaDoor.Up
