/- Layer 41, plain law: what Decode returned, encoded; the lines, joined; places and moves in lines. -/
import Derived.Test.YtbjahfbagbghnaaDoorLc
import Derived.Lib.MapLaws
import Derived.Lib.TrimUEq
import Derived.Lib.ValidLaws
namespace Go.Proofs.YtbjahfbagbghnaaDoor.Lp
open Go Go.RowKit Go.Proofs Go.Proofs.YtbjahfbagbghnaaDoorW.PrintWords Go.Proofs.YtbjahfbagbghnaaDoorW.PrintMore Go.Proofs.YtbjahfbagbghnaaDoor.Rn Go.Proofs.YtbjahfbagbghnaaDoor.PAll
set_option linter.unusedSimpArgs false
set_option linter.unusedVariables false

/-! What Decode returned, encoded, is the string. -/
def bts (l : List Int) : List UInt8 := l.map fun n => UInt8.ofNat n.toNat
theorem bts_app (a b : List Int) : bts (a ++ b) = bts a ++ bts b := by unfold bts; rw [List.map_append]
theorem rt_from (s : ByteArray) : ∀ fuel pos, s.size ≤ fuel + pos → Lib.validD (s.data.toList.drop pos) = true → bts (utf8 (runesFrom s fuel pos)) = s.data.toList.drop pos
  | 0, pos, hf, _ => by
    have hs : s.size = s.data.toList.length := by rw [Array.length_toList]; rfl
    rw [List.drop_eq_nil_of_le (by omega)]
    rfl
  | fuel + 1, pos, hf, hv => by
    have hs : s.size = s.data.toList.length := by rw [Array.length_toList]; rfl
    unfold runesFrom
    by_cases hp : pos < s.size
    · have hne : s.data.toList.drop pos ≠ [] := by
        intro h
        have := congrArg List.length h
        rw [List.length_drop, List.length_nil] at this
        omega
      have hd := Lib.decodeL_drop s pos
      have hw := Lib.decodeL_width (s.data.toList.drop pos)
      rw [Lib.validD_step _ hne] at hv
      by_cases hb : (Lib.decodeL (s.data.toList.drop pos)).1 = 65533 ∧ (Lib.decodeL (s.data.toList.drop pos)).2 = 1
      · rw [if_pos hb] at hv; cases hv
      · rw [if_neg hb, List.drop_drop] at hv
        have he := Lib.encode_decode _ hne hb
        rw [hd] at hv he hw
        rw [if_pos hp]
        show bts (Lib.encodeRuneZ _ ++ utf8 _) = _
        rw [bts_app, rt_from s fuel (pos + (Utf8.decode s pos).2) (by omega) hv]
        show Lib.encodeRune _ ++ _ = _
        rw [he, ← List.drop_drop, List.take_append_drop]
    · rw [if_neg hp, List.drop_eq_nil_of_le (by omega)]
      rfl
theorem round_trip {s : ByteArray} {l : List Int} (h : decP s = (l, 0)) : (strOfNums (utf8 l)).data.toList = s.data.toList ∧ ∀ r ∈ l, okRune r := by
  unfold decP at h
  by_cases hv : Lib.validD s.data.toList = true
  · rw [if_pos hv] at h
    by_cases h0 : (0 : Int) ∈ runesOf s
    · rw [if_pos h0] at h; cases h
    · rw [if_neg h0] at h
      injection h with h1 _
      subst h1
      have := rt_from s s.size 0 (by omega) (by rw [List.drop_zero]; exact hv)
      rw [List.drop_zero] at this
      refine ⟨this, fun r hr => ?_⟩
      have hne : r ≠ 0 := fun q => h0 (by rw [← q]; exact hr)
      have hall : ∀ fuel pos, ∀ r ∈ runesFrom s fuel pos, 0 ≤ r ∧ r ≤ 1114111 ∧ (r < 55296 ∨ 57343 < r) := by
        intro fuel
        induction fuel with
        | zero => intro pos r hr; cases hr
        | succ f ih =>
          intro pos r hr
          unfold runesFrom at hr
          split at hr
          · rcases List.mem_cons.1 hr with rfl | hr
            · have := decode_rune s pos
              unfold Lib.validRune at this
              simp at this
              omega
            · exact ih _ r hr
          · cases hr
      have := hall s.size 0 r hr
      unfold okRune
      omega
  · rw [if_neg hv] at h
    have := congrArg Prod.snd h
    simp at this

/-! The lines, joined. -/
def jn : List (List Int) → List Int
  | [] => []
  | x :: xs => x ++ xs.flatMap (fun y => 10 :: y)
theorem jn_sp : ∀ l : List Int, jn (sp l) = l
  | [] => rfl
  | c :: cs => by
    obtain ⟨x, xs, hs⟩ := sp_ne cs
    have ih := jn_sp cs
    rw [hs] at ih
    by_cases h : c = 10
    · subst h
      rw [sp_feed, hs]
      show [] ++ (10 :: x ++ xs.flatMap (fun y => 10 :: y)) = _
      rw [List.nil_append, List.cons_append]
      exact congrArg _ ih
    · rw [sp_other h hs]
      show (c :: x) ++ _ = _
      rw [List.cons_append]
      exact congrArg _ ih
theorem jn_snoc : ∀ (xs : List (List Int)) (y : List Int), xs ≠ [] → jn (xs ++ [y]) = jn xs ++ (10 :: y)
  | [], _, h => absurd rfl h
  | x :: xs, y, _ => by
    show x ++ (xs ++ [y]).flatMap _ = (x ++ xs.flatMap _) ++ (10 :: y)
    rw [List.flatMap_append, List.append_assoc]
    simp
theorem strOfNums_app (a b : List Int) : strOfNums a ++ strOfNums b = strOfNums (a ++ b) := by
  apply ByteArray.ext
  unfold strOfNums
  simp
theorem feed_str : (⟨#[10]⟩ : ByteArray) = strOfNums [10] := rfl

/-! Lines and places. -/
theorem count_sorted : ∀ (xs : List Int) (j : Nat) (x : Int), xs.Pairwise (fun a b => a ≤ b) → j < xs.length → xs.getD j 0 ≤ x → (j + 1 < xs.length → x < xs.getD (j + 1) 0) → xs.countP (fun y => decide (y ≤ x)) = j + 1
  | [], j, _, _, h, _, _ => by simp at h
  | y :: ys, 0, x, hp, h, h1, h2 => by
    rw [List.getD_cons_zero] at h1
    rw [List.countP_cons, if_pos (by simpa using h1)]
    have : ys.countP (fun y => decide (y ≤ x)) = 0 := by
      rw [List.countP_eq_zero]
      intro a ha
      obtain ⟨i, hi, rfl⟩ := List.getElem_of_mem ha
      have h3 := h2 (by simp; omega)
      rw [List.getD_cons_succ, List.getD_eq_getElem?_getD, List.getElem?_eq_getElem (by omega)] at h3
      have h4 : ys[0]'(by omega) ≤ ys[i] := by
        rcases Nat.eq_zero_or_pos i with q | q
        · subst q; exact Int.le_refl _
        · exact List.pairwise_iff_getElem.1 (List.pairwise_cons.1 hp).2 0 i (by omega) hi q
      simp only [Option.getD_some] at h3
      simp
      omega
    omega
  | y :: ys, j + 1, x, hp, h, h1, h2 => by
    rw [List.getD_cons_succ] at h1
    have hj : j < ys.length := by simpa using h
    have hy : y ≤ x := by
      have := (List.pairwise_cons.1 hp).1 _ (List.getElem_mem hj)
      rw [List.getD_eq_getElem?_getD, List.getElem?_eq_getElem hj] at h1
      exact Int.le_trans this h1
    rw [List.countP_cons, if_pos (by simpa using hy), count_sorted ys j x (List.pairwise_cons.1 hp).2 hj h1 (fun q => by
      have := h2 (by simpa using q)
      rwa [List.getD_cons_succ] at this)]
theorem count_ge : ∀ (xs : List Int) (j : Nat) (x : Int), xs.Pairwise (fun a b => a ≤ b) → j < xs.length → xs.getD j 0 ≤ x → j + 1 ≤ xs.countP (fun y => decide (y ≤ x))
  | [], j, _, _, h, _ => by simp at h
  | y :: ys, 0, x, hp, h, h1 => by
    rw [List.getD_cons_zero] at h1
    rw [List.countP_cons, if_pos (by simpa using h1)]
    omega
  | y :: ys, j + 1, x, hp, h, h1 => by
    rw [List.getD_cons_succ] at h1
    have hj : j < ys.length := by simpa using h
    have hy : y ≤ x := by
      have := (List.pairwise_cons.1 hp).1 _ (List.getElem_mem hj)
      rw [List.getD_eq_getElem?_getD, List.getElem?_eq_getElem hj] at h1
      exact Int.le_trans this h1
    have := count_ge ys j x (List.pairwise_cons.1 hp).2 hj h1
    rw [List.countP_cons, if_pos (by simpa using hy)]
    omega
/-- The line of a place in a line. -/
theorem cnt_at (l : List Int) {j : Nat} (hj : j < (bg l).length) {x : Nat} (h1 : (bg l).getD j 0 ≤ x) (h2 : (x : Int) ≤ (bg l).getD j 0 + ((sp l).getD j []).length) : cnt (l.take x) = j := by
  have he := line_end l hj
  have hu := bg_upto l x
  rw [count_sorted (bg l) j x (bg_sorted l) hj h1 (fun q => by rw [if_pos q] at he; omega)] at hu
  omega
/-- A column is not behind its line's end. -/
theorem col_le (l : List Int) {n : Nat} (hn : n ≤ l.length) : col l n ≤ ((sp l).getD (cnt (l.take n)) []).length := by
  have hj := cnt_lt l n
  have he := line_end l hj
  have hb := bg_line l n hn
  by_cases q : cnt (l.take n) + 1 < (bg l).length
  · rw [if_pos q] at he
    have hu := bg_upto l n
    by_cases h : (bg l).getD (cnt (l.take n) + 1) 0 ≤ n
    · have := count_ge (bg l) _ n (bg_sorted l) q h
      omega
    · omega
  · rw [if_neg q] at he
    omega
theorem line_in (l : List Int) (j : Nat) : ∀ r ∈ (sp l).getD j [], r ∈ l := by
  intro r hr
  by_cases hj : j < (bg l).length
  · rw [← line_text l hj] at hr
    exact List.mem_of_mem_drop (List.mem_of_mem_take hr)
  · rw [List.getD_eq_getElem?_getD, List.getElem?_eq_none (by rw [sp_len]; omega)] at hr
    cases hr
section
variable {s : ByteArray} {l : List Int} {k : Nat}
theorem Txt.line (h : Txt s l (k + 1)) {j : Nat} (hj : j < (bg l).length) : lines_Line.f (k + 1) s (j : Int) = some (strOfNums (utf8 ((sp l).getD j [])), 0) := by
  have hl := h.len
  have h2 := bg_len l
  have h3 := cnt_le l
  have h4 := bg_at l hj
  have h5 := line_len l hj
  have hok := (round_trip h.dec).2
  unfold lines_Line.f
  rw [h.dcd, Option.bind_some, if_pos rfl]
  dsimp only
  rw [if_neg (by omega), decide_eq_false (show ¬ (j : Int) ≥ ((bg l).length : Int) by omega), lines_Line.j0, if_neg (by simp), if_pos (by omega), if_pos (by omega), end_f l (by omega) hj, Option.bind_some, rd_nat, if_pos (by omega), if_pos (by omega), if_pos (by omega)]
  have ht : (l.take ((bg l).getD j 0 + ((sp l).getD j []).length).toNat).drop ((bg l).getD j 0).toNat = (sp l).getD j [] := by
    rw [show ((bg l).getD j 0 + ((sp l).getD j []).length).toNat = ((bg l).getD j 0).toNat + ((sp l).getD j []).length by omega, ← List.take_drop, line_text l hj]
  rw [ht]
  show (some (encP ((sp l).getD j []))).bind _ = _
  unfold encP
  rw [if_pos (fun r hr => hok r (line_in l j r hr))]
  rfl
theorem Txt.line_at (h : Txt s l (k + 1)) {n : Nat} (hn : n ≤ l.length) : lines_At.f (k + 1) s ((cnt (l.take n) : Nat) : Int) (col l n) = some ((n : Int), 0) := by
  have hj := cnt_lt l n
  have hc := col_range l n hn
  have hb := bg_line l n hn
  have hl := col_le l hn
  rw [h.at]
  unfold atP
  rw [Int.toNat_natCast, if_neg (by rw [sp_len]; omega), hb]
  congr 2
  omega
theorem Txt.stay (h : Txt s l (k + 1)) {n : Nat} (hn : n ≤ l.length) : lines_Move.f (k + 1) s (n : Int) 0 (col l n) = some ((n : Int), 0) := by
  have hj := cnt_lt l n
  have hc := col_range l n hn
  have hb := bg_line l n hn
  have hl := col_le l hn
  rw [h.move hn 0 (col l n) hc.1, show mvL (bg l).length ((cnt (l.take n) : Nat) : Int) 0 = ((cnt (l.take n) : Nat) : Int) by unfold mvL; rw [if_neg (by omega), if_neg (by omega)]; omega, Int.toNat_natCast, hb]
  congr 2
  unfold mn
  split <;> omega
/-- Where a move ends, in a line that there is. -/
theorem Txt.to (h : Txt s l (k + 1)) {n : Nat} (hn : n ≤ l.length) {b c : Int} (hc : 0 ≤ c) {j : Nat} (hj : j < (bg l).length) (hb : ((cnt (l.take n) : Nat) : Int) + b = j) :
    ∃ x : Nat, lines_Move.f (k + 1) s (n : Int) b c = some ((x : Int), 0) ∧ x ≤ l.length ∧ cnt (l.take x) = j := by
  have h4 := bg_at l hj
  have h5 := line_len l hj
  have hm : 0 ≤ mn c (((sp l).getD j []).length : Int) ∧ mn c (((sp l).getD j []).length : Int) ≤ ((sp l).getD j []).length := by unfold mn; split <;> omega
  refine ⟨((bg l).getD j 0 + mn c (((sp l).getD j []).length : Int)).toNat, ?_, by omega, cnt_at l hj (by omega) (by omega)⟩
  rw [h.move hn b c hc, show mvL (bg l).length ((cnt (l.take n) : Nat) : Int) b = (j : Int) by unfold mvL; rw [if_neg (by omega), if_neg (by omega)]; omega, Int.toNat_natCast]
  congr 2
  omega

end
end Go.Proofs.YtbjahfbagbghnaaDoor.Lp
