/- Layer 41, plain law: LinesLongs. -/
import Derived.Test.YtbjahfbagbghnaaDoorLc
import Derived.Lib.ValidLaws
import Derived.Test.YtbjahfbagbghnaaDoorPAllx11
namespace Go.Proofs.YtbjahfbagbghnaaDoor.Lp
open Go Go.RowKit Go.Proofs Go.Proofs.YtbjahfbagbghnaaDoorW.PrintWords Go.Proofs.YtbjahfbagbghnaaDoorW.PrintMore Go.Proofs.YtbjahfbagbghnaaDoor.Rn Go.Proofs.YtbjahfbagbghnaaDoor.PAll
set_option linter.unusedSimpArgs false
set_option linter.unusedVariables false

/-! Strings of ASCII characters. -/
theorem get_data (s : ByteArray) {i : Nat} (h : i < s.data.toList.length) : s.get! i = s.data.toList[i] := by
  have h2 : i < s.data.size := by simpa using h
  show s.data[i]! = _
  rw [getElem!_pos s.data i h2]
  simp
theorem runes_ascii (s : ByteArray) (h : ∀ b ∈ s.data.toList, b.toNat < 128) : ∀ fuel pos, s.size ≤ fuel + pos → runesFrom s fuel pos = (s.data.toList.drop pos).map (fun b => ((b.toNat : Nat) : Int))
  | 0, pos, hf => by
    have hs : s.size = s.data.toList.length := by rw [Array.length_toList]; rfl
    rw [List.drop_eq_nil_of_le (by omega)]
    rfl
  | fuel + 1, pos, hf => by
    have hs : s.size = s.data.toList.length := by rw [Array.length_toList]; rfl
    unfold runesFrom
    by_cases hp : pos < s.size
    · have hd : Utf8.decode s pos = ((s.get! pos).toNat, 1) := by
        rw [Lib.decode_at]
        have := h _ (List.getElem_mem (show pos < s.data.toList.length by omega))
        rw [← get_data s (by omega)] at this
        simp [Lib.decodeN, this]
      rw [if_pos hp, hd, runes_ascii s h fuel (pos + 1) (by omega), List.drop_eq_getElem_cons (show pos < s.data.toList.length by omega), List.map_cons, ← get_data s (by omega)]
    · rw [if_neg hp, List.drop_eq_nil_of_le (by omega)]
      rfl
theorem nums_back : ∀ (l : List Int), (∀ x ∈ l, 1 ≤ x ∧ x < 128) → (l.map fun n => UInt8.ofNat n.toNat).map (fun b => ((b.toNat : Nat) : Int)) = l
  | [], _ => rfl
  | x :: l, h => by
    have hx := h x List.mem_cons_self
    rw [List.map_cons, List.map_cons, nums_back l (fun y hy => h y (List.mem_cons_of_mem _ hy)), UInt8.toNat_ofNat']
    congr 1
    omega
theorem decP_ascii (l : List Int) (h : ∀ x ∈ l, 1 ≤ x ∧ x < 128) : decP (strOfNums l) = (l, 0) := by
  have hd : (strOfNums l).data.toList = l.map fun n => UInt8.ofNat n.toNat := strOfNums_data l
  have ha : ∀ b ∈ (strOfNums l).data.toList, b.toNat < 128 := by
    intro b hb
    rw [hd] at hb
    obtain ⟨x, hx, rfl⟩ := List.mem_map.1 hb
    have := h x hx
    rw [UInt8.toNat_ofNat']
    omega
  have hr : runesOf (strOfNums l) = l := by
    unfold runesOf
    rw [runes_ascii _ ha _ 0 (by omega), List.drop_zero, hd]
    exact nums_back l h
  have hv : Lib.validD (strOfNums l).data.toList = true := by
    rw [Lib.validD_ascii (strOfNums l).data.toList.length _ (by rw [List.take_length]; exact ha), List.drop_length]
    exact Lib.validD_nil
  unfold decP
  rw [if_pos hv, hr, if_neg (fun h0 => by have := h 0 h0; omega)]

/-! The longest texts. -/
def tower : Nat → List Int → List Int
  | 0, r => r
  | f + 1, r => List.replicate 1000 97 ++ 10 :: tower f r
theorem tower_len : ∀ (f : Nat) (r : List Int), (tower f r).length = 1001 * f + r.length
  | 0, r => by show r.length = _; omega
  | f + 1, r => by
    show (List.replicate 1000 (97 : Int) ++ 10 :: tower f r).length = _
    rw [List.length_append, List.length_replicate, List.length_cons, tower_len f r]
    omega
theorem tower_in : ∀ (f : Nat) (r : List Int), (∀ x ∈ r, (1 : Int) ≤ x ∧ x < 128) → ∀ x ∈ tower f r, 1 ≤ x ∧ x < 128
  | 0, _, h => h
  | f + 1, r, h => by
    intro x hx
    rcases List.mem_append.1 hx with hx | hx
    · rw [List.eq_of_mem_replicate hx]; omega
    · rcases List.mem_cons.1 hx with rfl | hx
      · omega
      · exact tower_in f r h x hx
theorem plc_rep (k : Nat) (r : List Int) : ∀ (a b : Int), plc (List.replicate k 97 ++ r) a b = plc r a (b + k) := by
  induction k with
  | zero => intro a b; rw [List.replicate_zero, List.nil_append]; congr 1; omega
  | succ k ih =>
    intro a b
    rw [List.replicate_succ, List.cons_append]
    show (if (97 : Int) = 10 then _ else _) = _
    rw [if_neg (by decide), ih]
    congr 1
    omega
theorem plc_tower : ∀ (f m : Nat) (a : Int), plc (tower f (List.replicate m 97)) a 0 = (a + f, (m : Int))
  | 0, m, a => by
    show plc (List.replicate m 97) a 0 = _
    have := plc_rep m [] a 0
    rw [List.append_nil] at this
    rw [this]
    show (a, 0 + (m : Int)) = _
    congr 1 <;> omega
  | f + 1, m, a => by
    show plc (List.replicate 1000 97 ++ 10 :: tower f (List.replicate m 97)) a 0 = _
    rw [plc_rep]
    show (if (10 : Int) = 10 then plc (tower f (List.replicate m 97)) (a + 1) 0 else _) = _
    rw [if_pos rfl, plc_tower f m (a + 1)]
    congr 1
    omega
theorem tower_set : ∀ (f m : Nat), (tower f (List.replicate (1001 + m) 97)).set (1001 * (f + 1) - 1) 10 = tower (f + 1) (List.replicate m 97)
  | 0, m => by
    show (List.replicate (1001 + m) (97 : Int)).set 1000 10 = List.replicate 1000 97 ++ 10 :: List.replicate m 97
    have h : List.replicate (1001 + m) (97 : Int) = List.replicate 1000 97 ++ 97 :: List.replicate m 97 := by
      rw [← List.replicate_succ, List.replicate_append_replicate]
      congr 1
      omega
    rw [h, List.set_append_right _ _ (by rw [List.length_replicate]; omega), List.length_replicate]
    rfl
  | f + 1, m => by
    show (List.replicate 1000 97 ++ 10 :: tower f (List.replicate (1001 + m) 97)).set _ 10 = List.replicate 1000 97 ++ 10 :: tower (f + 1) (List.replicate m 97)
    rw [List.set_append_right _ _ (by rw [List.length_replicate]; omega), List.length_replicate, show 1001 * (f + 1 + 1) - 1 - 1000 = (1001 * (f + 1) - 1) + 1 by omega, List.set_cons_succ, tower_set f m]
theorem set_rep (i m : Nat) : (List.replicate i (97 : Int) ++ List.replicate (m + 1) 0).set i 97 = List.replicate (i + 1) 97 ++ List.replicate m 0 := by
  rw [List.set_append_right _ _ (by rw [List.length_replicate]; omega), List.length_replicate, Nat.sub_self, List.replicate_succ, List.set_cons_zero, List.replicate_succ', List.append_assoc]
  rfl
section
variable {s : ByteArray} {l : List Int}
theorem counts_yes {k : Nat} {a e : Int} (h : lines_Count.f k s = some (a, e)) : redpencillaw41_counts.f k s a e = some true := by
  unfold redpencillaw41_counts.f
  rw [h]
  simp
theorem move_end {K f : Nat} {m : Int} (T : Txt s l (K + 1)) (hb : (bg l).length = f + 1) (hf : f ≤ 5) (hline : (bg l).getD f 0 = (l.length : Int) - m) (hend : (l.length : Int) = (bg l).getD f 0 + ((sp l).getD f []).length) {c : Int} (hc : (l.length : Int) ≤ c) :
    lines_Move.f (K + 1) s 0 99 c = some ((l.length : Int), 0) := by
  have hg := bg_at l (j := f) (by omega)
  have h := T.move (n := 0) (by omega) 99 c (by omega)
  rw [List.take_zero, show cnt [] = 0 from rfl, hb, show mvL (f + 1) ((0 : Nat) : Int) 99 = (f : Int) by unfold mvL; rw [if_neg (by omega), if_pos (by omega)]; omega, Int.toNat_natCast, show mn c ((sp l).getD f []).length = (((sp l).getD f []).length : Int) by unfold mn; split <;> omega, ← hend] at h
  exact h
theorem longs_end (f m : Nat) (hf : f ≤ 5) (h0 : 19998 ≤ 1001 * f + m) (h1 : 1001 * f + m ≤ 20002) (K : Nat) (hK : 20100 ≤ K) :
    redpencillaw41_LinesLongs.l1 (K + 2) ((1001 * f + m : Nat) : Int) (f : Int) (tower f (List.replicate m 97)) ((f + 1 : Nat) : Int) = some true := by
  have hin : ∀ x ∈ tower f (List.replicate m 97), (1 : Int) ≤ x ∧ x < 128 := tower_in f _ (fun x hx => by rw [List.eq_of_mem_replicate hx]; omega)
  have hd := decP_ascii _ hin
  have hlen : (tower f (List.replicate m 97)).length = 1001 * f + m := by rw [tower_len, List.length_replicate]
  have hp := plc_tower f m 0
  have hs : (strOfNums (tower f (List.replicate m 97))).size = 1001 * f + m := by rw [strOfNums_size, hlen]
  have ef : wrap64 (f : Int) = f := w64 (by omega) (by omega)
  have e1 : wrap64 ((f : Int) + 1) = f + 1 := w64 (by omega) (by omega)
  have e2 : wrap64 (1001 * (f : Int)) = 1001 * f := w64 (by omega) (by omega)
  have e3 : wrap64 (((1001 * f + m : Nat) : Int) - 1001 * (f : Int)) = m := by rw [w64 (by omega) (by omega)]; omega
  generalize tower f (List.replicate m 97) = l at *
  rw [redpencillaw41_LinesLongs.l1, ef, if_neg (by omega), e1, e2, e3]
  generalize strOfNums l = s at *
  by_cases h : 20000 < 1001 * f + m
  · have B : Bad s 5 := ⟨by omega, by unfold dcd; rw [hd, if_pos rfl, if_neg (show ¬ l.length ≤ 20000 by omega)], by decide⟩
    rw [if_pos (by omega), B.count (by omega), Option.bind_some, if_pos rfl, B.line (by omega), Option.bind_some, if_pos rfl, B.place (by omega), Option.bind_some, if_pos rfl, B.at (by omega), Option.bind_some, if_pos rfl,
      B.wide (by omega) 0 1, Option.bind_some, if_pos rfl, B.move (by omega) 0 0 0, Option.bind_some, if_pos rfl, B.next (by omega), Option.bind_some, if_pos rfl, B.back (by omega), Option.bind_some, if_pos rfl, B.word (by omega), Option.bind_some, if_pos rfl]
    exact then_known (by omega)
  · have T : Txt s l (K + 1) := ⟨by omega, hd, by omega, by omega⟩
    have hc : cnt l = f := by have := plc_cnt l 0 0; rw [hp] at this; simp only at this; omega
    have hcol : col l l.length = m := by unfold col; rw [List.take_length, hp]
    have hb : (bg l).length = f + 1 := by rw [bg_len, hc]
    have hline := bg_line l l.length (Nat.le_refl _)
    rw [List.take_length, hc, hcol] at hline
    have hend := line_end l (j := f) (by omega)
    rw [if_neg (by omega)] at hend
    have hplace := T.place (n := l.length) (Nat.le_refl _)
    rw [List.take_length, hc, hcol] at hplace
    have hat := T.at (f : Int) (m : Int)
    have hata : atP l (f : Int) (m : Int) = ((l.length : Int), 0) := by
      unfold atP
      rw [Int.toNat_natCast, if_neg (by rw [sp_len]; omega)]
      congr 1
      omega
    rw [hata] at hat
    have hmove := move_end T hb (by omega) hline hend (c := 4611686018427387904) (by omega)
    rw [if_neg (by omega)]
    rw [hlen] at hplace hat hmove
    have hcount := T.count
    rw [hb, show ((f + 1 : Nat) : Int) = (f : Int) + 1 by omega] at hcount
    rw [counts_yes hcount, Option.bind_some, if_pos rfl, places_yes hplace, Option.bind_some, if_pos rfl, at_yes hat, Option.bind_some, if_pos rfl, moves_yes hmove, Option.bind_some, if_pos rfl]
    exact then_known (by omega)
end
theorem longs_l1 (n f : Nat) (hf : f ≤ 5) (h0 : 19998 ≤ n) (h1 : n ≤ 20002) (K : Nat) (hK : 20100 ≤ K) : ∀ (d i : Nat), d + i = f →
    redpencillaw41_LinesLongs.l1 (d + (K + 2)) (n : Int) (f : Int) (tower i (List.replicate (n - 1001 * i) 97)) ((i + 1 : Nat) : Int) = some true
  | 0, i, hd => by
    obtain rfl : i = f := by omega
    obtain ⟨m, rfl⟩ : ∃ m, n = 1001 * i + m := ⟨n - 1001 * i, by omega⟩
    rw [Nat.zero_add, show 1001 * i + m - 1001 * i = m by omega]
    exact longs_end i m hf h0 h1 K hK
  | d + 1, i, hd => by
    have IH := longs_l1 n f hf h0 h1 K hK d (i + 1) (by omega)
    have hl : (tower i (List.replicate (n - 1001 * i) 97)).length = n := by rw [tower_len, List.length_replicate]; omega
    have ef : wrap64 (f : Int) = f := w64 (by omega) (by omega)
    have e1 : wrap64 (wrap64 (1001 * ((i + 1 : Nat) : Int)) - 1) = ((1001 * (i + 1) - 1 : Nat) : Int) := by
      rw [w64 (n := 1001 * ((i + 1 : Nat) : Int)) (by omega) (by omega), w64 (by omega) (by omega)]; omega
    have e2 : wrap64 (((i + 1 : Nat) : Int) + 1) = ((i + 1 + 1 : Nat) : Int) := by rw [w64 (by omega) (by omega)]; omega
    have hs := tower_set i (n - 1001 * (i + 1))
    rw [show 1001 + (n - 1001 * (i + 1)) = n - 1001 * i by omega] at hs
    rw [show d + 1 + (K + 2) = (d + (K + 2)) + 1 by omega, redpencillaw41_LinesLongs.l1, ef, if_pos (by omega), e1, if_pos (by omega), if_pos (by rw [hl]; omega), Int.toNat_natCast, hs, e2]
    exact IH
theorem longs_l0 (n f : Nat) (hf : f ≤ 5) (h0 : 19998 ≤ n) (h1 : n ≤ 20002) (K : Nat) (hK : 20100 ≤ K) : ∀ (d i : Nat), d + i = n →
    redpencillaw41_LinesLongs.l0 (d + (f + (K + 2) + 1)) (n : Int) (f : Int) (List.replicate i 97 ++ List.replicate d 0) (i : Int) = some true
  | 0, i, hd => by
    obtain rfl : i = n := by omega
    have h := longs_l1 i f hf h0 h1 K hK f 0 rfl
    rw [List.replicate_zero, List.append_nil, Nat.zero_add, redpencillaw41_LinesLongs.l0, if_neg (by omega)]
    exact h
  | d + 1, i, hd => by
    have IH := longs_l0 n f hf h0 h1 K hK d (i + 1) (by omega)
    have hl : (List.replicate i (97 : Int) ++ List.replicate (d + 1) 0).length = n := by rw [List.length_append, List.length_replicate, List.length_replicate]; omega
    have e2 : wrap64 ((i : Int) + 1) = ((i + 1 : Nat) : Int) := by rw [w64 (by omega) (by omega)]; omega
    rw [show d + 1 + (f + (K + 2) + 1) = (d + (f + (K + 2) + 1)) + 1 by omega, redpencillaw41_LinesLongs.l0, if_pos (by omega), if_pos (by omega), if_pos (by rw [hl]; omega), Int.toNat_natCast, set_rep, e2]
    exact IH
theorem linesLongs_f (a b : Int) (b0 : 0 ≤ b) (b1 : b ≤ 255) (k : Nat) (hk : 50000 ≤ k) : redpencillaw41_LinesLongs.f k a b = some true := by
  have hj : redpencillaw41_LinesLongs.j0 k a b true = some true := by
    obtain ⟨q, rfl⟩ : ∃ q, k = q + 1 := ⟨k - 1, by omega⟩
    rw [redpencillaw41_LinesLongs.j0, if_pos rfl]
    exact then_known (by omega)
  unfold redpencillaw41_LinesLongs.f
  by_cases h1 : a < 19998
  · rw [if_pos h1]; exact hj
  · rw [if_neg h1]
    by_cases h2 : a > 20002
    · rw [if_pos h2]; exact hj
    · rw [if_neg h2]
      by_cases h3 : b > 5
      · rw [decide_eq_true h3]; exact hj
      · rw [decide_eq_false h3]
        obtain ⟨n, rfl⟩ : ∃ n : Nat, a = n := ⟨a.toNat, by omega⟩
        obtain ⟨f, rfl⟩ : ∃ f : Nat, b = f := ⟨b.toNat, by omega⟩
        obtain ⟨K, rfl⟩ : ∃ K, k = (n + (f + (K + 2) + 1)) + 1 := ⟨k - n - f - 4, by omega⟩
        have h := longs_l0 n f (by omega) (by omega) (by omega) K (by omega) n 0 rfl
        rw [redpencillaw41_LinesLongs.j0, if_neg (by simp), if_pos (by omega), Int.toNat_natCast, if_pos (by omega)]
        exact h
end Go.Proofs.YtbjahfbagbghnaaDoor.Lp
