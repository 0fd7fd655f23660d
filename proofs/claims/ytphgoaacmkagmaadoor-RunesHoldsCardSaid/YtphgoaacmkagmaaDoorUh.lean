/- Layer 2, plain law: RunesHolds. -/
import Derived.Test.YtphgoaacmkagmaaDoorUl
import Derived.Test.YtphgoaacmkagmaaDoorPAllx11
namespace Go.Proofs.YtphgoaacmkagmaaDoor.Up
open Go Go.RowKit Go.Proofs Go.Proofs.YtphgoaacmkagmaaDoorW.PrintWords Go.Proofs.YtphgoaacmkagmaaDoor.Rn Go.Proofs.YtphgoaacmkagmaaDoor.Hx Go.Proofs.YtphgoaacmkagmaaDoor.PAll
set_option linter.unusedSimpArgs false
set_option linter.unusedVariables false

theorem utf8_app (a b : List Int) : utf8 (a ++ b) = utf8 a ++ utf8 b := by unfold utf8; rw [List.flatMap_append]
theorem utf8_len : ∀ rs : List Int, (utf8 rs).length ≤ 4 * rs.length
  | [] => by simp [utf8]
  | r :: rs => by
    have := utf8_len rs
    have := (Lib.encodeRuneZ_length r).2
    rw [utf8_cons, List.length_append, List.length_cons]
    omega
theorem str_size (l : List Int) : (strOfNums l).size = l.length := by
  show (l.map _).toArray.size = _
  rw [List.size_toArray, List.length_map]
section
variable {s : ByteArray} {L : List Int}
/-- A string that has characters. -/
structure Txt (s : ByteArray) (L : List Int) : Prop where
  size : s.size ≤ 300
  dec : decP s = (L, 0)
  str : s = strOfNums (utf8 L)
  ok : ∀ r ∈ L, okRune r
theorem Txt.len (h : Txt s L) : L.length ≤ 300 := by have := dec_len s; rw [h.dec] at this; exact Nat.le_trans this h.size
theorem Txt.enc (h : Txt s L) : encP L = (s, 0) := by unfold encP; rw [if_pos h.ok, ← h.str]
theorem Txt.cut (h : Txt s L) {a b : Int} (h0 : 0 ≤ a) (h1 : a ≤ b) (h2 : b ≤ L.length) : cutP s a b = (strOfNums (utf8 ((L.take b.toNat).drop a.toNat)), 0) := by
  unfold cutP
  rw [h.dec]
  show (if (0 : Int) = 0 then (if a < 0 ∨ b < a ∨ (L.length : Int) < b then _ else _) else _) = _
  rw [if_pos rfl, if_neg (by omega)]
theorem Txt.cut_in (h : Txt s L) {a b : Int} (hc : (cutP s a b).2 = 0) : 0 ≤ a ∧ a ≤ b ∧ b ≤ L.length := by
  unfold cutP at hc
  rw [h.dec] at hc
  have hc : (if (0 : Int) = 0 then (if a < 0 ∨ b < a ∨ (L.length : Int) < b then ((⟨#[]⟩ : ByteArray), (3 : Int)) else (strOfNums (utf8 ((L.take b.toNat).drop a.toNat)), 0)) else (⟨#[]⟩, 0)).2 = 0 := hc
  rw [if_pos rfl] at hc
  by_cases q : a < 0 ∨ b < a ∨ (L.length : Int) < b
  · rw [if_pos q] at hc
    exact absurd hc (by decide)
  · omega
theorem holds_j4 (h : Txt s L) (k : Nat) (hk : 60 ≤ k) : redpencillaw02_RunesHolds.j4 (k + 1) s L false = some true := by
  rw [redpencillaw02_RunesHolds.j4, if_neg (by simp)]
  have hc := cuts_t s (by have := h.size; omega) 0 (L.length : Int)
  rw [h.cut (by omega) (by omega) (by omega)] at hc
  have e : ((L.take (L.length : Int).toNat).drop (0 : Int).toNat) = L := by
    rw [Int.toNat_natCast, List.take_length]
    rfl
  rw [e, ← h.str] at hc
  have hc : redpencillaw02_cuts.f s 0 (L.length : Int) s 0 = some true := hc
  rw [hc, Option.bind_some, if_pos rfl]
  exact then_known hk
theorem holds_j3 (h : Txt s L) (a b c : Int) (k : Nat) (hk : 61 ≤ k) : redpencillaw02_RunesHolds.j3 (k + 1) s a b c L false = some true := by
  have hs := h.size
  obtain ⟨k, rfl⟩ : ∃ k', k = k' + 1 := ⟨k - 1, by omega⟩
  rw [redpencillaw02_RunesHolds.j3, if_neg (by simp), cut_f s (by omega), Option.bind_some, cut_f s (by omega), Option.bind_some]
  by_cases h1 : (cutP s a b).2 = 0
  · rw [if_pos h1]
    by_cases h2 : (cutP s b c).2 = 0
    · rw [if_pos h2]
      obtain ⟨a0, a1, a2⟩ := h.cut_in h1
      obtain ⟨b0, b1, b2⟩ := h.cut_in h2
      have hl := h.len
      rw [h.cut a0 a1 a2, h.cut b0 b1 b2]
      have l1 := utf8_len ((L.take b.toNat).drop a.toNat)
      have l2 := utf8_len ((L.take c.toNat).drop b.toNat)
      rw [List.length_drop, List.length_take] at l1 l2
      have hc := cuts_t s (by omega) a c
      rw [h.cut a0 (by omega) b2] at hc
      have hc : redpencillaw02_cuts.f s a c (strOfNums (utf8 ((L.take c.toNat).drop a.toNat))) 0 = some true := hc
      have e : strOfNums (utf8 ((L.take b.toNat).drop a.toNat)) ++ strOfNums (utf8 ((L.take c.toNat).drop b.toNat)) = strOfNums (utf8 ((L.take c.toNat).drop a.toNat)) := by
        rw [← str_app, ← utf8_app]
        congr 2
        have e1 : L.take c.toNat = L.take b.toNat ++ (L.take c.toNat).drop b.toNat := by
          conv => lhs; rw [← List.take_append_drop b.toNat (L.take c.toNat), List.take_take, Nat.min_eq_left (by omega)]
        conv => rhs; rw [e1, List.drop_append_of_le_length (by rw [List.length_take]; omega)]
      show (if (strOfNums (utf8 ((L.take b.toNat).drop a.toNat))).size + (strOfNums (utf8 ((L.take c.toNat).drop b.toNat))).size ≤ 9223372036854775807 then ((redpencillaw02_cuts.f s a c (strOfNums (utf8 ((L.take b.toNat).drop a.toNat)) ++ strOfNums (utf8 ((L.take c.toNat).drop b.toNat))) 0).bind fun t => redpencillaw02_RunesHolds.j4 (k + 1) s L (!t)) else none) = some true
      rw [if_pos (by rw [str_size, str_size]; omega), e, hc, Option.bind_some]
      exact holds_j4 h k (by omega)
    · rw [if_neg h2]
      exact holds_j4 h k (by omega)
  · rw [if_neg h1]
    exact holds_j4 h k (by omega)
theorem take_snoc {i : Nat} (h : i < L.length) : L.take (i + 1) = L.take i ++ [L.getD i 0] := by
  rw [List.take_succ_eq_append_getElem h, List.getD_eq_getElem?_getD, List.getElem?_eq_getElem h]
  rfl
theorem holds_l0 (h : Txt s L) (a b c : Int) : ∀ (m i k : Nat), m + i = L.length → m + 64 ≤ k → redpencillaw02_RunesHolds.l0 k s a b c L ((utf8 (L.take i)).length : Int) L (L.length : Int) (i : Int) = some true
  | m, i, k, hm, hk => by
    obtain ⟨k, rfl⟩ : ∃ k', k = k' + 1 := ⟨k - 1, by omega⟩
    have hl := h.len
    have hu := utf8_len (L.take i)
    rw [List.length_take] at hu
    rw [redpencillaw02_RunesHolds.l0]
    by_cases h1 : i < L.length
    · obtain ⟨m, rfl⟩ : ∃ m', m = m' + 1 := ⟨m - 1, by omega⟩
      obtain ⟨k, rfl⟩ : ∃ k', k = k' + 1 := ⟨k - 1, by omega⟩
      have hr := h.ok _ (getD_mem h1)
      have hle := (Lib.encodeRuneZ_length (L.getD i 0)).2
      rw [if_pos (by omega), if_pos (by omega), if_pos (by omega), rd_nat, size_f, Option.bind_some, wi (by omega)]
      have e : wrap64 (((utf8 (L.take i)).length : Int) + szOf (L.getD i 0)) = ((utf8 (L.take (i + 1))).length : Int) := by
        unfold szOf
        rw [if_pos hr, w64 (by omega) (by omega), take_snoc h1, utf8_app, List.length_append]
        show _ = (((utf8 (L.take i)).length + (Lib.encodeRuneZ (L.getD i 0) ++ []).length : Nat) : Int)
        rw [List.append_nil]
        omega
      rw [e]
      exact holds_l0 h a b c m (i + 1) (k + 1) (by omega) (by omega)
    · have hi : i = L.length := by omega
      have hsz : ((utf8 (L.take i)).length : Int) = (s.size : Int) := by
        rw [hi, List.take_length]
        conv => rhs; rw [h.str, str_size]
      rw [if_neg (by omega), if_pos hsz]
      have he := encodes_t L
      rw [h.enc] at he
      have he : redpencillaw02_encodes.f L s 0 = some true := he
      obtain ⟨k, rfl⟩ : ∃ k', k = k' + 1 := ⟨k - 1, by omega⟩
      rw [he, Option.bind_some]
      exact holds_j3 h a b c k (by omega)
end
theorem holds_j1 (s : ByteArray) (hs : s.size ≤ 300) (a b c : Int) (k : Nat) (hk : 400 ≤ k) : redpencillaw02_RunesHolds.j1 (k + 1) s a b c false = some true := by
  rw [redpencillaw02_RunesHolds.j1, if_neg (by simp), decodes_f s (by omega), Option.bind_some]
  by_cases h : (decP s).2 = 0
  · rw [if_pos h]
    have hd : decP s = ((decP s).1, 0) := by rw [← h]
    obtain ⟨h1, h2⟩ := (decP_iff s _).1 hd
    have hT : Txt s (decP s).1 := ⟨hs, hd, h1, h2⟩
    have hl := hT.len
    have := holds_l0 hT a b c (decP s).1.length 0 k (by omega) (by omega)
    rw [List.take_zero] at this
    exact this
  · rw [if_neg h]
    exact then_known (by omega)
theorem runesHolds_f (s : ByteArray) (l : List Int) (a b c : Int) : redpencillaw02_RunesHolds.f 2000 s l a b c = some true := by
  have hj0 : redpencillaw02_RunesHolds.j0 2000 s l a b c true = some true := by
    rw [redpencillaw02_RunesHolds.j0, if_pos rfl]
    exact then_known (by omega)
  unfold redpencillaw02_RunesHolds.f
  by_cases h1 : (s.size : Int) > 300
  · rw [if_pos h1]; exact hj0
  · rw [if_neg h1]
    by_cases h2 : (l.length : Int) > 100
    · rw [decide_eq_true h2]; exact hj0
    · rw [decide_eq_false h2, redpencillaw02_RunesHolds.j0, if_neg (by simp), encode_f, Option.bind_some]
      have hj := holds_j1 s (by omega) a b c 1998 (by omega)
      unfold encP
      by_cases h3 : ∀ r ∈ l, okRune r
      · rw [if_pos h3]
        show (if (0 : Int) = 0 then ((redpencillaw02_decodes.f 1999 (strOfNums (utf8 l)) l 0).bind fun t => redpencillaw02_RunesHolds.j1 1999 s a b c (!t)) else _) = _
        have hu := utf8_len l
        have hd := decodes_t (strOfNums (utf8 l)) (by rw [str_size]; omega) 1999 (by omega)
        rw [decP_str h3] at hd
        have hd : redpencillaw02_decodes.f 1999 (strOfNums (utf8 l)) l 0 = some true := hd
        rw [if_pos rfl, hd, Option.bind_some]
        exact hj
      · rw [if_neg h3]
        show (if (13 : Int) = 0 then _ else redpencillaw02_RunesHolds.j1 1999 s a b c false) = _
        rw [if_neg (by decide)]
        exact hj
end Go.Proofs.YtphgoaacmkagmaaDoor.Up
