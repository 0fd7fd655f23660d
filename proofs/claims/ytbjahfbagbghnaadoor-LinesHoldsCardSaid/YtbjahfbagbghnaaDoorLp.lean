/- Layer 41, plain law: the lines of a list of characters, and what the printed functions compute on them. -/
import Derived.Test.YtbjahfbagbghnaaDoorPAllx1
import Derived.Test.YtbjahfbagbghnaaDoorPAllx2
import Derived.Test.YtbjahfbagbghnaaDoorPAllx3
import Derived.Test.YtbjahfbagbghnaaDoorPAllx4
import Derived.Test.YtbjahfbagbghnaaDoorPAllx5
import Derived.Test.YtbjahfbagbghnaaDoorPAllx6
namespace Go.Proofs.YtbjahfbagbghnaaDoor.Lp
open Go Go.RowKit Go.Proofs Go.Proofs.YtbjahfbagbghnaaDoorW.PrintWords Go.Proofs.YtbjahfbagbghnaaDoorW.PrintMore Go.Proofs.YtbjahfbagbghnaaDoor.Rn Go.Proofs.YtbjahfbagbghnaaDoor.PAll
set_option linter.unusedSimpArgs false
set_option linter.unusedVariables false

theorem w64 {n : Int} (h0 : -9000000000000000000 ≤ n) (h1 : n ≤ 9000000000000000000) : wrap64 n = n := by simp only [wrap64]; omega
theorem rd_nat (l : List Int) (i : Nat) : rd l (i : Int) = l.getD i 0 := by unfold rd; rw [Int.toNat_natCast]
theorem drop_getD {l : List Int} {i : Nat} (h : i < l.length) : l.drop i = l.getD i 0 :: l.drop (i + 1) := by
  rw [List.getD_eq_getElem?_getD, List.getElem?_eq_getElem h]
  exact List.drop_eq_getElem_cons h
theorem getD_cons_pos {x : Int} {l : List Int} {j : Nat} (h : 0 < j) : (x :: l).getD j 0 = l.getD (j - 1) 0 := by
  obtain ⟨j, rfl⟩ : ∃ m, j = m + 1 := ⟨j - 1, by omega⟩
  rw [List.getD_cons_succ, Nat.add_sub_cancel]
/-- Where lines begin, behind line feeds, from a place on. -/
def nls : Nat → List Int → List Int
  | _, [] => []
  | i, c :: cs => if c = 10 then ((i : Int) + 1) :: nls (i + 1) cs else nls (i + 1) cs
def bg (l : List Int) : List Int := 0 :: nls 0 l
def cnt (l : List Int) : Nat := l.countP (fun c => decide (c = 10))
theorem cnt_cons (c : Int) (cs : List Int) : cnt (c :: cs) = (if c = 10 then 1 else 0) + cnt cs := by
  unfold cnt
  rw [List.countP_cons]
  by_cases h : c = 10 <;> simp [h] <;> omega
theorem nls_len : ∀ (i : Nat) (l : List Int), (nls i l).length = cnt l
  | _, [] => rfl
  | i, c :: cs => by
    rw [cnt_cons]
    unfold nls
    split
    · rw [List.length_cons, nls_len]; omega
    · rw [nls_len]; omega
theorem cnt_le (l : List Int) : cnt l ≤ l.length := List.countP_le_length
theorem bg_len (l : List Int) : (bg l).length = cnt l + 1 := by
  show (nls 0 l).length + 1 = _
  rw [nls_len]
theorem nls_ge : ∀ (i : Nat) (l : List Int), ∀ x ∈ nls i l, (i : Int) + 1 ≤ x ∧ x ≤ i + l.length
  | _, [], x, h => by cases h
  | i, c :: cs, x, h => by
    have hr : x ∈ nls (i + 1) cs → (i : Int) + 1 ≤ x ∧ x ≤ i + (c :: cs).length := fun q => by
      have := nls_ge (i + 1) cs x q
      rw [List.length_cons]
      omega
    unfold nls at h
    split at h
    · rcases List.mem_cons.1 h with rfl | h
      · rw [List.length_cons]; omega
      · exact hr h
    · exact hr h
theorem nls_sorted : ∀ (i : Nat) (l : List Int), (nls i l).Pairwise (fun x y => x ≤ y)
  | _, [] => List.Pairwise.nil
  | i, c :: cs => by
    unfold nls
    split
    · refine List.Pairwise.cons (fun x hx => ?_) (nls_sorted (i + 1) cs)
      have := nls_ge (i + 1) cs x hx
      omega
    · exact nls_sorted (i + 1) cs
theorem bg_sorted (l : List Int) : (bg l).Pairwise (fun x y => x ≤ y) := List.Pairwise.cons (fun x hx => by have := nls_ge 0 l x hx; omega) (nls_sorted 0 l)
theorem bg_in (l : List Int) : ∀ x ∈ bg l, 0 ≤ x ∧ x ≤ l.length := fun x hx => by
  rcases List.mem_cons.1 hx with rfl | hx
  · omega
  · have := nls_ge 0 l x hx
    omega
theorem bg_at (l : List Int) {j : Nat} (h : j < (bg l).length) : 0 ≤ (bg l).getD j 0 ∧ (bg l).getD j 0 ≤ l.length := by
  refine bg_in l _ ?_
  rw [List.getD_eq_getElem?_getD, List.getElem?_eq_getElem h]
  exact List.getElem_mem h
theorem nls_app : ∀ (i : Nat) (p q : List Int), nls i (p ++ q) = nls i p ++ nls (i + p.length) q
  | i, [], q => rfl
  | i, c :: cs, q => by
    show (if c = 10 then _ else _) = _
    have := nls_app (i + 1) cs q
    rw [show i + 1 + cs.length = i + (c :: cs).length by rw [List.length_cons]; omega] at this
    have e : nls i (c :: cs) = if c = 10 then ((i : Int) + 1) :: nls (i + 1) cs else nls (i + 1) cs := rfl
    rw [e]
    split
    · show _ :: nls (i + 1) (cs ++ q) = _
      rw [this]; rfl
    · exact this
/-- How many lines begin up to a place: one more than the line feeds ahead of it. -/
theorem nls_upto : ∀ (l : List Int) (i x : Nat), i ≤ x → (nls i l).countP (fun y => decide (y ≤ (x : Int))) = cnt (l.take (x - i))
  | [], i, x, _ => by simp [nls, cnt]
  | c :: cs, i, x, h => by
    rcases Nat.eq_or_lt_of_le h with q | q
    · subst q
      rw [Nat.sub_self]
      show _ = 0
      rw [List.countP_eq_zero]
      intro y hy
      have := nls_ge i _ y hy
      simp
      omega
    · have ih := nls_upto cs (i + 1) x (by omega)
      obtain ⟨d, hd⟩ : ∃ d, x - i = d + 1 := ⟨x - i - 1, by omega⟩
      rw [hd, List.take_succ_cons, cnt_cons]
      rw [show x - (i + 1) = d by omega] at ih
      unfold nls
      split
      · rw [List.countP_cons, ih, if_pos (by simp; omega)]; omega
      · rw [ih]; omega
theorem bg_upto (l : List Int) (x : Nat) : (bg l).countP (fun y => decide (y ≤ (x : Int))) = cnt (l.take x) + 1 := by
  unfold bg
  rw [List.countP_cons, nls_upto l 0 x (Nat.zero_le _), if_pos (by simp)]
  rfl
theorem in_f (l : List Int) (x : Nat) (hl : l.length ≤ 1000000) : lines_in.f (bg l) (x : Int) = some ((cnt (l.take x) : Nat) : Int) := by
  have h1 := bg_len l
  have h2 := cnt_le l
  unfold lines_in.f
  rw [if_pos ⟨bg_sorted l, by omega⟩, bg_upto]
  congr 1
  omega
/-- The column and the line behind some characters, from a line and a column on. -/
def plc : List Int → Int → Int → Int × Int
  | [], a, b => (a, b)
  | c :: cs, a, b => if c = 10 then plc cs (a + 1) 0 else plc cs a (b + 1)
theorem plc_cnt : ∀ (l : List Int) (a b : Int), (plc l a b).1 = a + cnt l
  | [], a, b => by show a = a + ((0 : Nat) : Int); omega
  | c :: cs, a, b => by
    rw [cnt_cons]
    unfold plc
    split
    · rw [plc_cnt]; omega
    · rw [plc_cnt]; omega
theorem plc_col : ∀ (l : List Int) (i : Nat) (st a : Int), (st :: nls i l).getD (cnt l) 0 = i + l.length - (plc l a (i - st)).2
  | [], i, st, a => by show st = (i : Int) + ((0 : Nat) : Int) - (i - st); omega
  | c :: cs, i, st, a => by
    rw [cnt_cons]
    unfold plc nls
    by_cases h : c = 10
    · have ih := plc_col cs (i + 1) ((i : Int) + 1) (a + 1)
      rw [show ((i + 1 : Nat) : Int) - ((i : Int) + 1) = 0 by omega] at ih
      rw [if_pos h, if_pos h, if_pos h, show 1 + cnt cs = cnt cs + 1 by omega, List.getD_cons_succ, ih, List.length_cons]
      omega
    · have ih := plc_col cs (i + 1) st a
      rw [show ((i + 1 : Nat) : Int) - st = (i : Int) - st + 1 by omega] at ih
      rw [if_neg h, if_neg h, if_neg h, Nat.zero_add, ih, List.length_cons]
      omega
theorem plc_range : ∀ (l : List Int) (a b : Int), 0 ≤ b → 0 ≤ (plc l a b).2 ∧ (plc l a b).2 ≤ b + l.length
  | [], a, b, h => by show 0 ≤ b ∧ b ≤ b + ((0 : Nat) : Int); omega
  | c :: cs, a, b, h => by
    rw [List.length_cons]
    unfold plc
    split
    · have := plc_range cs (a + 1) 0 (by omega); omega
    · have := plc_range cs a (b + 1) (by omega); omega
/-- The column of an index. -/
def col (l : List Int) (n : Nat) : Int := (plc (l.take n) 0 0).2
theorem plc_take (l : List Int) (n : Nat) : plc (l.take n) 0 0 = (((cnt (l.take n) : Nat) : Int), col l n) := by
  refine Prod.ext ?_ rfl
  show (plc (l.take n) 0 0).1 = _
  rw [plc_cnt]; omega
theorem col_range (l : List Int) (n : Nat) (h : n ≤ l.length) : 0 ≤ col l n ∧ col l n ≤ n := by
  have := plc_range (l.take n) 0 0 (by omega)
  rw [List.length_take] at this
  unfold col
  omega
/-- Where the line of an index begins. -/
theorem bg_line (l : List Int) (n : Nat) (h : n ≤ l.length) : (bg l).getD (cnt (l.take n)) 0 = n - col l n := by
  have h1 := plc_col (l.take n) 0 0 0
  rw [List.length_take, Nat.min_eq_left h] at h1
  have h2 : bg l = bg (l.take n) ++ nls n (l.drop n) := by
    show 0 :: nls 0 l = 0 :: (nls 0 (l.take n) ++ nls n (l.drop n))
    conv => lhs; rw [← List.take_append_drop n l, nls_app]
    rw [List.length_take, Nat.min_eq_left h, Nat.zero_add]
  have h3 := bg_len (l.take n)
  rw [h2, List.getD_eq_getElem?_getD, List.getElem?_append_left (by omega), ← List.getD_eq_getElem?_getD]
  unfold bg col
  rw [h1]
  simp
theorem cnt_lt (l : List Int) (n : Nat) : cnt (l.take n) < (bg l).length := by
  rw [bg_len]
  have : cnt (l.take n) ≤ cnt l := (List.take_sublist n l).countP_le
  omega

/-- The lines. -/
def sp : List Int → List (List Int)
  | [] => [[]]
  | c :: cs => if c = 10 then [] :: sp cs else match sp cs with
    | [] => [[c]]
    | x :: xs => (c :: x) :: xs
theorem sp_ne (l : List Int) : ∃ x xs, sp l = x :: xs := by
  cases l with
  | nil => exact ⟨[], [], rfl⟩
  | cons c cs =>
    unfold sp
    split
    · exact ⟨_, _, rfl⟩
    · split <;> exact ⟨_, _, rfl⟩
theorem sp_other {c : Int} {cs x : List Int} {xs : List (List Int)} (h : c ≠ 10) (hs : sp cs = x :: xs) : sp (c :: cs) = (c :: x) :: xs := by
  show (if c = 10 then _ else _) = _
  rw [if_neg h, hs]
theorem sp_feed (cs : List Int) : sp (10 :: cs) = [] :: sp cs := by
  show (if (10 : Int) = 10 then _ else _) = _
  rw [if_pos rfl]
/-- Where rows begin that stand one behind the other, a sign between. -/
def starts : Int → List (List Int) → List Int
  | _, [] => []
  | st, x :: xs => st :: starts (st + x.length + 1) xs
theorem sp_starts : ∀ (l : List Int) (i : Nat) (pre : List Int) (st : Int) (x : List Int) (xs : List (List Int)), st = i - pre.length → sp l = x :: xs → st :: nls i l = starts st ((pre ++ x) :: xs)
  | [], i, pre, st, x, xs, hs, h => by
    injection h with h1 h2
    subst h1 h2
    rfl
  | c :: cs, i, pre, st, x, xs, hs, h => by
    obtain ⟨y, ys, hy⟩ := sp_ne cs
    by_cases hc : c = 10
    · subst hc
      rw [sp_feed, hy] at h
      injection h with h1 h2
      subst h1 h2
      have ih := sp_starts cs (i + 1) [] ((i : Int) + 1) y ys (by simp) hy
      show st :: (if (10 : Int) = 10 then _ else _) = st :: starts (st + ((pre ++ []).length : Int) + 1) (y :: ys)
      rw [if_pos rfl, ih, List.append_nil, hs, show (i : Int) - pre.length + pre.length + 1 = i + 1 by omega]
      rfl
    · rw [sp_other hc hy] at h
      injection h with h1 h2
      subst h1 h2
      have ih := sp_starts cs (i + 1) (pre ++ [c]) st y ys (by rw [List.length_append, hs]; simp; omega) hy
      show st :: (if c = 10 then _ else _) = _
      rw [if_neg hc, ih, List.append_assoc]
      rfl
theorem bg_starts (l : List Int) : bg l = starts 0 (sp l) := by
  obtain ⟨x, xs, h⟩ := sp_ne l
  have := sp_starts l 0 [] 0 x xs (by simp) h
  rw [h]
  exact this
theorem starts_len : ∀ (st : Int) (ls : List (List Int)), (starts st ls).length = ls.length
  | _, [] => rfl
  | st, x :: xs => by show (starts _ xs).length + 1 = _; rw [starts_len]; rfl
theorem sp_len (l : List Int) : (sp l).length = (bg l).length := by rw [bg_starts, starts_len]
theorem starts_next : ∀ (ls : List (List Int)) (st : Int) (j : Nat), j + 1 < ls.length → (starts st ls).getD (j + 1) 0 = (starts st ls).getD j 0 + (ls.getD j []).length + 1
  | [], _, _, h => by simp at h
  | [x], _, _, h => by simp at h
  | x :: y :: zs, st, 0, _ => by
    show (starts (st + x.length + 1) (y :: zs)).getD 0 0 = st + x.length + 1
    rfl
  | x :: y :: zs, st, j + 1, h => by
    show (starts (st + x.length + 1) (y :: zs)).getD (j + 1) 0 = (starts (st + x.length + 1) (y :: zs)).getD j 0 + ((y :: zs).getD j []).length + 1
    exact starts_next (y :: zs) _ j (by simpa using h)
def total : List (List Int) → Nat
  | [] => 0
  | x :: xs => x.length + 1 + total xs
theorem starts_last : ∀ (ls : List (List Int)) (st : Int), 0 < ls.length → (starts st ls).getD (ls.length - 1) 0 + (ls.getD (ls.length - 1) []).length + 1 = st + total ls
  | [], _, h => by simp at h
  | [x], st, _ => by
    show st + (x.length : Int) + 1 = st + ((x.length + 1 + 0 : Nat) : Int)
    omega
  | x :: y :: zs, st, _ => by
    have := starts_last (y :: zs) (st + x.length + 1) (by simp)
    simp only [List.length_cons, Nat.add_sub_cancel] at this ⊢
    show (starts (st + x.length + 1) (y :: zs)).getD zs.length 0 + ((y :: zs).getD zs.length []).length + 1 = st + ((x.length + 1 + total (y :: zs) : Nat) : Int)
    rw [this]
    omega
theorem sp_total : ∀ l : List Int, total (sp l) = l.length + 1
  | [] => rfl
  | c :: cs => by
    obtain ⟨y, ys, hy⟩ := sp_ne cs
    have ih := sp_total cs
    by_cases hc : c = 10
    · subst hc
      rw [sp_feed]
      show 0 + 1 + total (sp cs) = _
      rw [ih, List.length_cons]; omega
    · rw [sp_other hc hy]
      rw [hy] at ih
      have : total (y :: ys) = y.length + 1 + total ys := rfl
      show (c :: y).length + 1 + total ys = _
      rw [List.length_cons, List.length_cons]
      omega
/-- Where a line ends. -/
theorem line_end (l : List Int) {j : Nat} (h : j < (bg l).length) : (if j + 1 < (bg l).length then (bg l).getD (j + 1) 0 - 1 else (l.length : Int)) = (bg l).getD j 0 + ((sp l).getD j []).length := by
  rw [← sp_len] at h ⊢
  split
  · rename_i q
    rw [bg_starts, starts_next (sp l) 0 j q]
    omega
  · have := starts_last (sp l) 0 (by omega)
    rw [sp_total] at this
    obtain rfl : j = (sp l).length - 1 := by omega
    rw [bg_starts]
    omega
theorem end_f (l : List Int) (hl : l.length ≤ 1000000) {j : Nat} (h : j < (bg l).length) : lines_end.f l (bg l) (j : Int) = some ((bg l).getD j 0 + ((sp l).getD j []).length) := by
  have hb := bg_len l
  have hc := cnt_le l
  unfold lines_end.f
  rw [w64 (n := (j : Int) + 1) (by omega) (by omega), ← line_end l h]
  by_cases q : j + 1 < (bg l).length
  · have ha := bg_at l q
    rw [if_pos (by omega), if_pos (by omega), if_pos q, show (j : Int) + 1 = ((j + 1 : Nat) : Int) by omega, rd_nat, w64 (by omega) (by omega)]
  · rw [if_neg (by omega), if_neg q]
theorem line_len (l : List Int) {j : Nat} (h : j < (bg l).length) : (bg l).getD j 0 + ((sp l).getD j []).length ≤ l.length := by
  rw [← line_end l h]
  split
  · rename_i q
    have := bg_at l q
    omega
  · omega
/-- A line's characters. -/
theorem sp_drop : ∀ (l : List Int) (i : Nat) (pre : List Int) (x : List Int) (xs : List (List Int)) (j : Nat) (p : List Int), p.length = i - pre.length → pre.length ≤ i → sp l = x :: xs → j < (x :: xs).length →
    ((p ++ pre ++ l).drop ((((((i : Int) - pre.length) :: nls i l)).getD j 0).toNat)).take (((pre ++ x) :: xs).getD j []).length = ((pre ++ x) :: xs).getD j []
  | [], i, pre, x, xs, j, p, hp, hi, h, hj => by
    injection h with h1 h2
    subst h1 h2
    obtain rfl : j = 0 := by simpa using hj
    show ((p ++ pre ++ []).drop (((i : Int) - pre.length).toNat)).take (pre ++ []).length = pre ++ []
    rw [show ((i : Int) - pre.length).toNat = p.length by omega, List.append_assoc, List.drop_left, List.take_length]
  | c :: cs, i, pre, x, xs, j, p, hp, hi, h, hj => by
    obtain ⟨y, ys, hy⟩ := sp_ne cs
    by_cases hc : c = 10
    · subst hc
      rw [sp_feed, hy] at h
      injection h with h1 h2
      subst h1 h2
      cases j with
      | zero =>
        show ((p ++ pre ++ 10 :: cs).drop (((i : Int) - pre.length).toNat)).take (pre ++ []).length = pre ++ []
        rw [show ((i : Int) - pre.length).toNat = p.length by omega, List.append_assoc, List.drop_left, List.append_nil, List.take_left]
      | succ j =>
        have ih := sp_drop cs (i + 1) [] y ys j (p ++ pre ++ [10]) (by simp; omega) (by simp) hy (by simpa using hj)
        show ((p ++ pre ++ 10 :: cs).drop ((nls i (10 :: cs)).getD j 0).toNat).take ((y :: ys).getD j []).length = (y :: ys).getD j []
        have e : nls i (10 :: cs) = ((i : Int) + 1) :: nls (i + 1) cs := by show (if (10 : Int) = 10 then _ else _) = _; rw [if_pos rfl]
        rw [e]
        simp only [List.nil_append, List.append_nil, List.length_nil, List.append_assoc, List.cons_append, Int.ofNat_zero, Int.sub_zero] at ih
        rw [show ((i + 1 : Nat) : Int) = (i : Int) + 1 by omega] at ih
        simpa only [List.append_assoc, Int.sub_zero, Int.ofNat_zero] using ih
    · rw [sp_other hc hy] at h
      injection h with h1 h2
      subst h1 h2
      have ih := sp_drop cs (i + 1) (pre ++ [c]) y ys j p (by simp; omega) (by simp; omega) hy (by simpa using hj)
      have e : nls i (c :: cs) = nls (i + 1) cs := by show (if c = 10 then _ else _) = _; rw [if_neg hc]
      rw [e]
      have e2 : ((i + 1 : Nat) : Int) - ((pre ++ [c]).length : Int) = (i : Int) - pre.length := by simp; omega
      rw [e2] at ih
      simpa only [List.append_assoc, List.cons_append, List.nil_append] using ih
theorem line_text (l : List Int) {j : Nat} (h : j < (bg l).length) : (l.drop ((bg l).getD j 0).toNat).take ((sp l).getD j []).length = (sp l).getD j [] := by
  obtain ⟨x, xs, hs⟩ := sp_ne l
  have hj : j < (x :: xs).length := by rw [← hs, sp_len]; exact h
  have := sp_drop l 0 [] x xs j [] (by simp) (by simp) hs hj
  rw [hs]
  simpa [bg] using this
end Go.Proofs.YtbjahfbagbghnaaDoor.Lp
