/- Layer 41, plain law: what the printed functions of the package lines and of the laws' helpers compute. -/
import Derived.Test.YtbjahfbagbghnaaDoorLk
namespace Go.Proofs.YtbjahfbagbghnaaDoor.Lp
open Go Go.RowKit Go.Proofs Go.Proofs.YtbjahfbagbghnaaDoorW.PrintWords Go.Proofs.YtbjahfbagbghnaaDoorW.PrintMore Go.Proofs.YtbjahfbagbghnaaDoor.Rn Go.Proofs.YtbjahfbagbghnaaDoor.PAll
set_option linter.unusedSimpArgs false
set_option linter.unusedVariables false

theorem wi {i : Nat} (h : i ≤ 1000000) : wrap64 ((i : Int) + 1) = ((i + 1 : Nat) : Int) := by rw [w64 (by omega) (by omega)]; omega
theorem succ_of {k m : Nat} (h : m + 1 ≤ k) : ∃ k', k = k' + 1 ∧ m ≤ k' := ⟨k - 1, by omega, by omega⟩
theorem nls_feed {i : Nat} {c : Int} {cs : List Int} (h : c = 10) : nls i (c :: cs) = ((i + 1 : Nat) : Int) :: nls (i + 1) cs := by
  show (if c = 10 then _ else _) = _
  rw [if_pos h, show ((i + 1 : Nat) : Int) = (i : Int) + 1 by omega]
theorem nls_other {i : Nat} {c : Int} {cs : List Int} (h : c ≠ 10) : nls i (c :: cs) = nls (i + 1) cs := by
  show (if c = 10 then _ else _) = _
  rw [if_neg h]
theorem dec_l0 (l : List Int) (hl : l.length ≤ 20000) : ∀ (m i : Nat) (acc : List Int), m + i = l.length → acc.length ≤ i + 1 → ∀ k, m + 1 ≤ k → lines_decoded.l0 k l acc l (l.length : Int) (i : Int) = some (l, acc ++ nls i (l.drop i), 0)
  | m, i, acc, hm, ha, k, hk => by
    obtain ⟨k, rfl, hk⟩ := succ_of hk
    unfold lines_decoded.l0
    by_cases h : i < l.length
    · obtain ⟨m, rfl⟩ : ∃ m', m = m' + 1 := ⟨m - 1, by omega⟩
      rw [if_pos (by omega), if_pos (by omega), if_pos (by omega), rd_nat, wi (by omega), drop_getD h]
      by_cases hc : l.getD i 0 = 10
      · rw [if_pos hc, if_pos (by omega), dec_l0 l hl m (i + 1) _ (by omega) (by simp; omega) k (by omega), nls_feed hc, List.append_assoc]
        rfl
      · rw [if_neg hc, dec_l0 l hl m (i + 1) _ (by omega) (by omega) k (by omega), nls_other hc]
    · rw [if_neg (by omega), List.drop_of_length_le (by omega)]
      simp [nls]
/-- What decoded returns. -/
def dcd (s : ByteArray) : List Int × List Int × Int := if (decP s).2 = 0 then (if (decP s).1.length ≤ 20000 then ((decP s).1, bg (decP s).1, 0) else ([], [], 5)) else ([], [], (decP s).2)
theorem decode_f (s : ByteArray) (hs : s.size ≤ 35184372088832) : runes_Decode.f s = some (decP s) := if_pos hs
theorem decoded_f (s : ByteArray) (hs : s.size ≤ 35184372088832) (k : Nat) (hk : (decP s).1.length + 1 ≤ k ∨ 20000 < (decP s).1.length) : lines_decoded.f k s = some (dcd s) := by
  unfold lines_decoded.f
  rw [decode_f s hs]
  simp only [Option.bind_some]
  unfold dcd
  by_cases h : (decP s).2 = 0
  · rw [if_pos h, if_pos h]
    by_cases hl : (decP s).1.length ≤ 20000
    · rw [if_neg (by omega), if_pos hl]
      exact dec_l0 _ hl (decP s).1.length 0 [0] (by omega) (by simp) k (by omega)
    · rw [if_pos (by omega), if_neg hl]
  · rw [if_neg h, if_neg h]
/-- A string that has characters. -/
structure Txt (s : ByteArray) (l : List Int) (k : Nat) : Prop where
  size : s.size ≤ 35184372088832
  dec : decP s = (l, 0)
  len : l.length ≤ 20000
  rounds : l.length + 1 ≤ k
theorem Txt.dcd {s : ByteArray} {l : List Int} {k : Nat} (h : Txt s l k) : lines_decoded.f k s = some (l, bg l, 0) := by
  have := decoded_f s h.size k (by rw [h.dec]; exact .inl h.rounds)
  rw [this]
  unfold Lp.dcd
  rw [h.dec, if_pos rfl, if_pos h.len]
theorem Txt.up {s : ByteArray} {l : List Int} {k : Nat} (h : Txt s l (k + 1)) (hk : l.length + 1 ≤ k) : Txt s l k := ⟨h.size, h.dec, h.len, hk⟩
/-- A string that has none, or too many. -/
structure Bad (s : ByteArray) (e : Int) : Prop where
  size : s.size ≤ 35184372088832
  dec : dcd s = ([], [], e)
  ne : e ≠ 0
theorem Bad.dcd {s : ByteArray} {e : Int} (h : Bad s e) {k : Nat} (hk : 20001 ≤ k) : lines_decoded.f k s = some ([], [], e) := by
  rw [decoded_f s h.size k (by omega), h.dec]

/-! The functions of the package, with an error. -/
theorem Bad.count {s : ByteArray} {e : Int} (h : Bad s e) {k : Nat} (hk : 20001 ≤ k) : redpencillaw41_counts.f k s 0 e = some true := by
  unfold redpencillaw41_counts.f lines_Count.f
  rw [h.dcd hk]
  simp
theorem Bad.line {s : ByteArray} {e : Int} (h : Bad s e) {k : Nat} (hk : 20001 ≤ k) (i : Int) : redpencillaw41_line.f k s i (⟨#[]⟩ : ByteArray) e = some true := by
  unfold redpencillaw41_line.f lines_Line.f
  rw [h.dcd hk]
  simp only [Option.bind_some]
  rw [if_neg h.ne]
  simp
theorem Bad.place {s : ByteArray} {e : Int} (h : Bad s e) {k : Nat} (hk : 20001 ≤ k) (i : Int) : redpencillaw41_places.f k s i 0 0 e = some true := by
  unfold redpencillaw41_places.f lines_Place.f
  rw [h.dcd hk]
  simp only [Option.bind_some]
  rw [if_neg h.ne]
  simp
theorem Bad.at {s : ByteArray} {e : Int} (h : Bad s e) {k : Nat} (hk : 20001 ≤ k) (i j : Int) : redpencillaw41_at.f k s i j 0 e = some true := by
  unfold redpencillaw41_at.f lines_At.f
  rw [h.dcd hk]
  simp only [Option.bind_some]
  rw [if_neg h.ne]
  simp
theorem Bad.wide {s : ByteArray} {e : Int} (h : Bad s e) {k : Nat} (hk : 20001 ≤ k) (i j : Int) : redpencillaw41_wide.f k s i j 0 e = some true := by
  unfold redpencillaw41_wide.f lines_Width.f
  rw [h.dcd hk]
  simp only [Option.bind_some]
  rw [if_neg h.ne]
  simp
theorem Bad.move {s : ByteArray} {e : Int} (h : Bad s e) {k : Nat} (hk : 20001 ≤ k) (i j c : Int) : redpencillaw41_moves.f k s i j c 0 e = some true := by
  unfold redpencillaw41_moves.f lines_Move.f
  rw [h.dcd hk]
  simp only [Option.bind_some]
  rw [if_neg h.ne]
  simp
theorem Bad.checked {s : ByteArray} {e : Int} (h : Bad s e) {k : Nat} (hk : 20001 ≤ k) (i : Int) : lines_checked.f k s i = some ([], e) := by
  unfold lines_checked.f
  rw [h.dcd hk]
  simp only [Option.bind_some]
  rw [if_neg h.ne]
theorem Bad.next {s : ByteArray} {e : Int} (h : Bad s e) {k : Nat} (hk : 20001 ≤ k) (i : Int) : redpencillaw41_nexts.f k s i 0 e = some true := by
  unfold redpencillaw41_nexts.f lines_Next.f
  rw [h.checked hk]
  simp only [Option.bind_some]
  rw [if_neg h.ne]
  simp
theorem Bad.back {s : ByteArray} {e : Int} (h : Bad s e) {k : Nat} (hk : 20001 ≤ k) (i : Int) : redpencillaw41_backs.f k s i 0 e = some true := by
  unfold redpencillaw41_backs.f lines_Back.f
  rw [h.checked hk]
  simp only [Option.bind_some]
  rw [if_neg h.ne]
  simp
theorem Bad.word {s : ByteArray} {e : Int} (h : Bad s e) {k : Nat} (hk : 20001 ≤ k) (i : Int) : redpencillaw41_word.f k s i 0 0 e = some true := by
  unfold redpencillaw41_word.f lines_Word.f
  rw [h.checked hk]
  simp only [Option.bind_some]
  rw [if_neg h.ne]
  simp

/-! The functions of the package, on characters. -/
variable {s : ByteArray} {l : List Int} {k : Nat}
theorem Txt.count (h : Txt s l k) : lines_Count.f k s = some (((bg l).length : Int), 0) := by
  unfold lines_Count.f
  rw [h.dcd]
  rfl
theorem Txt.place (h : Txt s l k) {n : Nat} (hn : n ≤ l.length) : lines_Place.f k s (n : Int) = some (((cnt (l.take n) : Nat) : Int), col l n, 0) := by
  have hl := h.len
  have h1 := cnt_lt l n
  have h2 := bg_len l
  have h3 := cnt_le l
  have h4 := col_range l n hn
  unfold lines_Place.f
  rw [h.dcd]
  simp only [Option.bind_some]
  rw [if_pos trivial, if_neg (by omega), if_neg (by omega), in_f l n (by omega)]
  simp only [Option.bind_some]
  rw [if_pos (by omega), if_pos (by omega), rd_nat, bg_line l n hn, w64 (by omega) (by omega)]
  congr 3
  omega
theorem Txt.place_out (h : Txt s l k) {n : Int} (hn : n < 0 ∨ l.length < n) : lines_Place.f k s n = some (0, 0, 3) := by
  unfold lines_Place.f
  rw [h.dcd]
  simp only [Option.bind_some]
  rw [if_pos trivial]
  split
  · rfl
  · rw [if_pos (by omega)]
/-- The index with a line and a column, or the error. -/
def atP (l : List Int) (i c : Int) : Int × Int := if i < 0 ∨ ((sp l).length : Int) ≤ i ∨ c < 0 ∨ (((sp l).getD i.toNat []).length : Int) < c then (0, 3) else ((bg l).getD i.toNat 0 + c, 0)
theorem Txt.at (h : Txt s l k) (i c : Int) : lines_At.f k s i c = some (atP l i c) := by
  have hl := h.len
  have h2 := bg_len l
  have h3 := cnt_le l
  unfold lines_At.f atP
  rw [h.dcd, sp_len]
  simp only [Option.bind_some]
  rw [if_pos trivial]
  by_cases q1 : i < 0
  · rw [if_pos q1, if_pos (.inl q1)]
  · rw [if_neg q1]
    by_cases q2 : ((bg l).length : Int) ≤ i
    · rw [if_pos (by omega), if_pos (.inr (.inl q2))]
    · rw [if_neg (by omega)]
      by_cases q3 : c < 0
      · rw [if_pos q3, if_pos (.inr (.inr (.inl q3)))]
      · obtain ⟨j, rfl⟩ : ∃ j : Nat, i = j := ⟨i.toNat, by omega⟩
        have hj : j < (bg l).length := by omega
        have h4 := bg_at l hj
        have h5 := line_len l hj
        rw [if_neg q3, end_f l (by omega) hj, Int.toNat_natCast]
        simp only [Option.bind_some]
        rw [if_pos (by omega), if_pos (by omega), rd_nat, w64 (n := (bg l).getD j 0 + _ - _) (by omega) (by omega)]
        by_cases q4 : (((sp l).getD j []).length : Int) < c
        · rw [if_pos (by omega), if_pos (.inr (.inr (.inr q4)))]
        · rw [if_neg (by omega), if_neg (by omega), w64 (by omega) (by omega)]
/-- The width behind some characters. -/
def wd (tab : Int) : Int → List Int → Int
  | w, [] => w
  | w, c :: cs => wd tab (if c = 9 then (w / tab + 1) * tab else w + 1) cs
theorem tab_mul {w tab : Int} (h0 : 0 ≤ w) (h1 : 1 ≤ tab) (h2 : tab ≤ 16) : w < (w / tab + 1) * tab ∧ (w / tab + 1) * tab ≤ w + 16 := by
  have h3 := Int.mul_ediv_add_emod w tab
  have h4 := Int.emod_nonneg w (show tab ≠ 0 by omega)
  have h5 := Int.emod_lt_of_pos w (show 0 < tab by omega)
  rw [Int.add_mul, Int.mul_comm (w / tab) tab]
  omega
theorem wd_l0 (tab : Int) (h1 : 1 ≤ tab) (h2 : tab ≤ 16) (ys : List Int) (hl : ys.length ≤ 20000) : ∀ (m i : Nat) (w : Int), m + i = ys.length → 0 ≤ w → w ≤ 16 * i → ∀ k, m + 1 ≤ k → lines_Width.l0 k tab w ys (ys.length : Int) (i : Int) = some (wd tab w (ys.drop i), 0)
  | m, i, w, hm, h0, hw, k, hk => by
    obtain ⟨k, rfl, hk⟩ := succ_of hk
    unfold lines_Width.l0
    by_cases h : i < ys.length
    · obtain ⟨m, rfl⟩ : ∃ m', m = m' + 1 := ⟨m - 1, by omega⟩
      have ht := tab_mul h0 h1 h2
      rw [if_pos (by omega), if_pos (by omega), if_pos (by omega), rd_nat, wi (by omega), drop_getD h]
      by_cases hc : ys.getD i 0 = 9
      · have hq : Int.tdiv w tab = w / tab := Int.tdiv_eq_ediv_of_nonneg h0
        have hd0 : 0 ≤ w / tab := Int.ediv_nonneg h0 (by omega)
        have hd1 : w / tab ≤ w := Int.ediv_le_self _ h0
        rw [if_pos hc, if_neg (by omega), hq, w64 (n := w / tab) (by omega) (by omega), w64 (n := w / tab + 1) (by omega) (by omega), w64 (n := (w / tab + 1) * tab) (by omega) (by omega), wd_l0 tab h1 h2 ys hl m (i + 1) _ (by omega) (by omega) (by omega) k (by omega)]
        show _ = some (wd tab (if _ = 9 then _ else _) _, 0)
        rw [if_pos hc]
      · rw [if_neg hc, w64 (n := w + 1) (by omega) (by omega), wd_l0 tab h1 h2 ys hl m (i + 1) _ (by omega) (by omega) (by omega) k (by omega)]
        show _ = some (wd tab (if _ = 9 then _ else _) _, 0)
        rw [if_neg hc]
    · rw [if_neg (by omega), List.drop_of_length_le (by omega)]
      rfl
theorem Txt.wide (h : Txt s l (k + 1)) (hk : l.length + 1 ≤ k) {n : Nat} (hn : n ≤ l.length) {tab : Int} (h1 : 1 ≤ tab) (h2 : tab ≤ 16) : lines_Width.f (k + 1) s (n : Int) tab = some (wd tab 0 ((l.take n).drop ((n : Int) - col l n).toNat), 0) := by
  have hl := h.len
  have c1 := cnt_lt l n
  have c2 := bg_len l
  have c3 := cnt_le l
  have c4 := col_range l n hn
  have e16 : decide (tab > 16) = false := decide_eq_false (by omega)
  unfold lines_Width.f
  rw [h.dcd]
  simp only [Option.bind_some]
  rw [if_pos trivial, if_neg (by omega), e16]
  rw [lines_Width.j0]
  rw [if_neg (by simp), if_neg (by omega), if_neg (by omega), in_f l n (by omega)]
  simp only [Option.bind_some]
  rw [if_pos (by omega), if_pos (by omega), rd_nat, bg_line l n hn, if_pos (by omega), if_pos (by omega), if_pos (by omega), Int.toNat_natCast]
  have hlen : ((l.take n).drop ((n : Int) - col l n).toNat).length ≤ l.length := by rw [List.length_drop, List.length_take]; omega
  exact wd_l0 tab h1 h2 _ (by omega) ((l.take n).drop ((n : Int) - col l n).toNat).length 0 0 (by omega) (by omega) (by omega) k (by omega)
theorem Txt.wide_arg (h : Txt s l (k + 1)) {n tab : Int} (ht : tab < 1 ∨ 16 < tab) : lines_Width.f (k + 1) s n tab = some (0, 2) := by
  unfold lines_Width.f
  rw [h.dcd]
  simp only [Option.bind_some]
  rw [if_pos trivial]
  split
  · rw [lines_Width.j0]; rw [if_pos rfl]
  · rw [lines_Width.j0]; rw [if_pos (by simp; omega)]
theorem Txt.wide_out (h : Txt s l (k + 1)) {n tab : Int} (h1 : 1 ≤ tab) (h2 : tab ≤ 16) (hn : n < 0 ∨ l.length < n) : lines_Width.f (k + 1) s n tab = some (0, 3) := by
  have e16 : decide (tab > 16) = false := decide_eq_false (by omega)
  unfold lines_Width.f
  rw [h.dcd]
  simp only [Option.bind_some]
  rw [if_pos trivial, if_neg (by omega), e16]
  rw [lines_Width.j0]
  rw [if_neg (by simp)]
  split
  · rfl
  · rw [if_pos (by omega)]
/-- The line behind a move. -/
def mvL (m : Nat) (a by_ : Int) : Int := if a + by_ < 0 then 0 else if (m : Int) ≤ a + by_ then m - 1 else a + by_
theorem mv_in (b : Int) (m : Nat) : -(m : Int) ≤ mn (mx b (-(m : Int))) m ∧ mn (mx b (-(m : Int))) m ≤ m := by
  unfold mx mn
  split <;> split <;> omega
theorem mv_eq (a m : Nat) (b : Int) (h0 : 0 < m) (h : a < m) : mn (mx ((a : Int) + mn (mx b (-(m : Int))) m) 0) ((m : Int) - 1) = mvL m a b := by
  unfold mvL
  have e1 : mx b (-(m : Int)) = if b < -(m : Int) then -(m : Int) else b := rfl
  rw [e1]
  by_cases q1 : b < -(m : Int)
  · rw [if_pos q1, if_pos (by omega)]
    unfold mx mn
    (repeat' split) <;> omega
  · rw [if_neg q1]
    by_cases q2 : (m : Int) < b
    · rw [if_neg (by omega), if_pos (by omega)]
      unfold mx mn
      (repeat' split) <;> omega
    · have e2 : mn b (m : Int) = b := by unfold mn; rw [if_neg q2]
      rw [e2]
      unfold mx mn
      (repeat' split) <;> omega
theorem Txt.move (h : Txt s l (k + 1)) {n : Nat} (hn : n ≤ l.length) (b c : Int) (hc : 0 ≤ c) :
    lines_Move.f (k + 1) s (n : Int) b c = some ((bg l).getD (mvL (bg l).length (cnt (l.take n)) b).toNat 0 + mn c ((sp l).getD (mvL (bg l).length (cnt (l.take n)) b).toNat []).length, 0) := by
  have hl := h.len
  have c1 := cnt_lt l n
  have c2 := bg_len l
  have c3 := cnt_le l
  have e16 : decide ((n : Int) > (l.length : Int)) = false := decide_eq_false (by omega)
  unfold lines_Move.f
  rw [h.dcd]
  simp only [Option.bind_some]
  rw [if_pos trivial, if_neg (by omega), if_neg (by omega), e16]
  rw [lines_Move.j0]
  rw [if_neg (by simp), in_f l n (by omega)]
  rw [Option.bind_some]
  have e1 : wrap64 (-((bg l).length : Int)) = -((bg l).length : Int) := w64 (by omega) (by omega)
  have hr := mv_in b (bg l).length
  have e2 : wrap64 (((cnt (l.take n) : Nat) : Int) + mn (mx b (-((bg l).length : Int))) ((bg l).length : Int)) = ((cnt (l.take n) : Nat) : Int) + mn (mx b (-((bg l).length : Int))) ((bg l).length : Int) := w64 (by omega) (by omega)
  have e3 : wrap64 (((bg l).length : Int) - 1) = (bg l).length - 1 := w64 (by omega) (by omega)
  have e4 : mn (mx (((cnt (l.take n) : Nat) : Int) + mn (mx b (-((bg l).length : Int))) ((bg l).length : Int)) 0) ((bg l).length - 1) = mvL (bg l).length (cnt (l.take n)) b := by
    exact mv_eq _ _ b (by omega) (by omega)
  rw [e1, e2, e3, e4]
  have h6 : 0 ≤ mvL (bg l).length (cnt (l.take n)) b ∧ mvL (bg l).length (cnt (l.take n)) b < (bg l).length := by unfold mvL; split <;> (try split) <;> omega
  generalize mvL (bg l).length (cnt (l.take n)) b = z at *
  obtain ⟨j, rfl⟩ : ∃ j : Nat, z = j := ⟨z.toNat, by omega⟩
  have hj : j < (bg l).length := by omega
  have h4 := bg_at l hj
  have h5 := line_len l hj
  rw [end_f l (by omega) hj, Int.toNat_natCast]
  rw [Option.bind_some]
  rw [if_pos (by omega), if_pos (by omega), rd_nat]
  have h7 : 0 ≤ mn c (l.length : Int) ∧ mn c (l.length : Int) ≤ l.length := by unfold mn; split <;> omega
  rw [w64 (by omega) (by omega)]
  congr 2
  unfold mn
  split <;> split <;> (try split) <;> omega
theorem Txt.move_arg (h : Txt s l k) {n b c : Int} (hc : c < 0) : lines_Move.f k s n b c = some (0, 2) := by
  unfold lines_Move.f
  rw [h.dcd]
  simp only [Option.bind_some]
  rw [if_pos trivial, if_pos hc]
theorem Txt.move_out (h : Txt s l (k + 1)) {n b c : Int} (hc : 0 ≤ c) (hn : n < 0 ∨ l.length < n) : lines_Move.f (k + 1) s n b c = some (0, 3) := by
  unfold lines_Move.f
  rw [h.dcd]
  simp only [Option.bind_some]
  rw [if_pos trivial, if_neg (by omega)]
  split
  · rw [lines_Move.j0]; rw [if_pos rfl]
  · rw [lines_Move.j0]; rw [if_pos (by simp; omega)]

/-! The laws' helpers. -/
theorem split_l0 (l : List Int) (hl : l.length ≤ 1000000) : ∀ (m i : Nat) (pre : List (List Int)) (cur x : List Int) (xs : List (List Int)), m + i = l.length → pre.length ≤ i → cur.length ≤ i → sp (l.drop i) = x :: xs → ∀ k, m + 1 ≤ k →
    redpencillaw41_split.l0 k l (pre ++ [cur]) (i : Int) = some (pre ++ (cur ++ x) :: xs)
  | m, i, pre, cur, x, xs, hm, hp, hcu, hs, k, hk => by
    obtain ⟨k, rfl, hk⟩ := succ_of hk
    unfold redpencillaw41_split.l0
    by_cases h : i < l.length
    · obtain ⟨m, rfl⟩ : ∃ m', m = m' + 1 := ⟨m - 1, by omega⟩
      obtain ⟨y, ys, hy⟩ := sp_ne (l.drop (i + 1))
      rw [if_pos (by omega), if_pos (by omega), rd_nat, wi (by omega)]
      rw [drop_getD h] at hs
      by_cases hc : l.getD i 0 = 10
      · rw [hc, sp_feed, hy] at hs
        injection hs with h1 h2
        subst h1 h2
        rw [if_pos hc, if_pos (by simp; omega), split_l0 l hl m (i + 1) (pre ++ [cur]) [] y ys (by omega) (by simp; omega) (by simp) hy k (by omega)]
        simp
      · rw [sp_other hc hy] at hs
        injection hs with h1 h2
        subst h1 h2
        have e : wrap64 (((pre ++ [cur]).length : Int) - 1) = (pre.length : Int) := by
          rw [List.length_append]
          simp
          rw [w64 (by omega) (by omega)]
        have e2 : rd_L2 (pre ++ [cur]) (pre.length : Int) = cur := by unfold rd_L2; rw [Int.toNat_natCast, List.getD_eq_getElem?_getD, List.getElem?_append_right (Nat.le_refl _), Nat.sub_self]; rfl
        have e3 : (pre ++ [cur]).set pre.length (cur ++ [l.getD i 0]) = pre ++ [cur ++ [l.getD i 0]] := by rw [List.set_append_right _ _ (Nat.le_refl _), Nat.sub_self]; rfl
        rw [if_neg hc, e, if_pos (by omega), if_pos (by simp; omega), e2, if_pos (by omega), Int.toNat_natCast, e3, split_l0 l hl m (i + 1) pre _ y ys (by omega) (by omega) (by simp; omega) hy k (by omega)]
        simp
    · rw [List.drop_of_length_le (by omega)] at hs
      injection hs with h1 h2
      subst h1 h2
      rw [if_neg (by omega)]
      simp
theorem split_f (l : List Int) (hl : l.length ≤ 1000000) (hk : l.length + 1 ≤ k) : redpencillaw41_split.f k l = some (sp l) := by
  obtain ⟨x, xs, h⟩ := sp_ne l
  have := split_l0 l hl l.length 0 [] [] x xs (by omega) (by simp) (by simp) h k hk
  rw [h]
  exact this
theorem place_l0 (l : List Int) (n : Nat) (hn : n ≤ l.length) (hl : l.length ≤ 1000000) : ∀ (m i : Nat) (a b : Int), m + i = n → 0 ≤ a → a ≤ i → 0 ≤ b → b ≤ i → ∀ k, m + 1 ≤ k → redpencillaw41_place.l0 k l (n : Int) a b (i : Int) = some (plc ((l.take n).drop i) a b)
  | m, i, a, b, hm, a0, a1, b0, b1, k, hk => by
    obtain ⟨k, rfl, hk⟩ := succ_of hk
    unfold redpencillaw41_place.l0
    by_cases h : i < n
    · obtain ⟨m, rfl⟩ : ∃ m', m = m' + 1 := ⟨m - 1, by omega⟩
      have hd : (l.take n).drop i = l.getD i 0 :: (l.take n).drop (i + 1) := by
        rw [drop_getD (by rw [List.length_take]; omega)]
        congr 1
        rw [List.getD_eq_getElem?_getD, List.getD_eq_getElem?_getD, List.getElem?_take_of_lt h]
      rw [if_pos (by omega), if_pos (by omega), if_pos (by omega), rd_nat, wi (by omega), hd]
      by_cases hc : l.getD i 0 = 10
      · rw [if_pos hc, w64 (by omega) (by omega), place_l0 l n hn hl m (i + 1) _ _ (by omega) (by omega) (by omega) (by omega) (by omega) k (by omega)]
        show _ = some (if _ = 10 then _ else _)
        rw [if_pos hc]
      · rw [if_neg hc, w64 (by omega) (by omega), place_l0 l n hn hl m (i + 1) _ _ (by omega) (by omega) (by omega) (by omega) (by omega) k (by omega)]
        show _ = some (if _ = 10 then _ else _)
        rw [if_neg hc]
    · rw [if_neg (by omega), List.drop_of_length_le (by rw [List.length_take]; omega)]
      rfl
theorem place_f (l : List Int) (n : Nat) (hn : n ≤ l.length) (hl : l.length ≤ 1000000) (hk : n + 1 ≤ k) : redpencillaw41_place.f k l (n : Int) = some (((cnt (l.take n) : Nat) : Int), col l n) := by
  have := place_l0 l n hn hl n 0 0 0 (by omega) (by omega) (by omega) (by omega) (by omega) k hk
  rw [← plc_take]
  exact this
theorem index_l0 (l : List Int) (hl : l.length ≤ 1000000) (i : Nat) (hi : i < (bg l).length) (c : Int) (c0 : 0 ≤ c) (c1 : c ≤ 1000000) : ∀ (m j : Nat), m + j = i → ∀ k, m + 1 ≤ k → redpencillaw41_index.l0 k (sp l) (i : Int) (c + (bg l).getD j 0) (j : Int) = some (c + (bg l).getD i 0)
  | m, j, hm, k, hk => by
    have hb := bg_len l
    have hcl := cnt_le l
    obtain ⟨k, rfl, hk⟩ := succ_of hk
    unfold redpencillaw41_index.l0
    by_cases h : j < i
    · obtain ⟨m, rfl⟩ : ∃ m', m = m' + 1 := ⟨m - 1, by omega⟩
      have hs := sp_len l
      have h1 := bg_at l (show j < (bg l).length by omega)
      have h2 := line_len l (show j < (bg l).length by omega)
      have h3 := starts_next (sp l) 0 j (by omega)
      rw [← bg_starts] at h3
      have e2 : rd_L2 (sp l) (j : Int) = (sp l).getD j [] := by unfold rd_L2; rw [Int.toNat_natCast]
      rw [if_pos (by omega), if_pos (by omega), if_pos (by omega), e2, wi (by omega), w64 (n := c + (bg l).getD j 0 + _) (by omega) (by omega), w64 (by omega) (by omega), show c + (bg l).getD j 0 + (((sp l).getD j []).length : Int) + 1 = c + (bg l).getD (j + 1) 0 by omega]
      exact index_l0 l hl i hi c c0 c1 m (j + 1) (by omega) k (by omega)
    · obtain rfl : j = i := by omega
      rw [if_neg (by omega)]
theorem index_f (l : List Int) (hl : l.length ≤ 1000000) {i : Nat} (hi : i < (bg l).length) {c : Int} (c0 : 0 ≤ c) (c1 : c ≤ 1000000) (hk : i + 1 ≤ k) : redpencillaw41_index.f k (sp l) (i : Int) c = some (c + (bg l).getD i 0) := by
  have := index_l0 l hl i hi c c0 c1 i 0 (by omega) k hk
  have e : (bg l).getD 0 0 = 0 := rfl
  rw [e, Int.add_zero] at this
  exact this
end Go.Proofs.YtbjahfbagbghnaaDoor.Lp
