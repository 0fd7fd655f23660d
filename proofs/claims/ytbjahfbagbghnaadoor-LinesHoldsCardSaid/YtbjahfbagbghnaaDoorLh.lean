/- Layer 41, plain law: LinesHolds. -/
import Derived.Test.YtbjahfbagbghnaaDoorLt
import Derived.Test.YtbjahfbagbghnaaDoorLg
import Derived.Test.YtbjahfbagbghnaaDoorPAllx12
namespace Go.Proofs.YtbjahfbagbghnaaDoor.Lp
open Go Go.RowKit Go.Proofs Go.Proofs.YtbjahfbagbghnaaDoorW.PrintWords Go.Proofs.YtbjahfbagbghnaaDoorW.PrintMore Go.Proofs.YtbjahfbagbghnaaDoor.Rn Go.Proofs.YtbjahfbagbghnaaDoor.PAll
set_option linter.unusedSimpArgs false
set_option linter.unusedVariables false

section
variable {s : ByteArray} {l : List Int} {k : Nat}
/-! LinesHolds. -/
theorem hl_l1 (hl : l.length ≤ 300) {b : Nat} (hb : b ≤ l.length) : ∀ (d a : Nat), a + d = b → (∀ j, a ≤ j → j < b → wrd (l.getD j 0) = true) → ∀ k, 60 ≤ k → redpencillaw41_LinesHolds.l1 (k + d + 1) l (b : Int) (a : Int) = some true
  | 0, a, hd, hw, k, hk => by
    rw [redpencillaw41_LinesHolds.l1, if_neg (by omega)]
    exact then_known (by omega)
  | d + 1, a, hd, hw, k, hk => by
    rw [show k + (d + 1) + 1 = (k + d + 1) + 1 by omega, redpencillaw41_LinesHolds.l1, if_pos (by omega), if_pos (by omega), if_pos (by omega), rd_nat, lettered_f, Option.bind_some, hw a (Nat.le_refl _) (by omega), if_pos rfl, wi (by omega)]
    exact hl_l1 hl hb d (a + 1) (by omega) (fun j h1 h2 => hw j (by omega) h2) k hk
theorem hl_j4 (hl : l.length ≤ 300) (T : ∀ k, 301 ≤ k → Txt s l k) {n : Nat} (hn : n ≤ l.length) (k : Nat) (hk : 1000 ≤ k) : redpencillaw41_LinesHolds.j4 (k + 1) s l (n : Int) = some true := by
  obtain ⟨n1, n2, n3, n4⟩ := nx_spec l hn
  obtain ⟨b1, b2, b3⟩ := bk_spec l (n := nx l n)
  obtain ⟨a1, a2, a3⟩ := ba_spec l true n
  obtain ⟨f1, f2, f3, f4⟩ := fo_spec l true l.length n hn (by omega)
  have hj5 : redpencillaw41_LinesHolds.j5 k l ((ba l true n : Nat) : Int) ((fo l true l.length n : Nat) : Int) false = some true := by
    obtain ⟨q, rfl⟩ : ∃ q, k = (q + (fo l true l.length n - ba l true n) + 1) + 1 := ⟨k - (fo l true l.length n - ba l true n) - 2, by omega⟩
    rw [redpencillaw41_LinesHolds.j5, if_neg (by decide)]
    refine hl_l1 hl f2 (fo l true l.length n - ba l true n) (ba l true n) (by omega) (fun j h1 h2 => ?_) q (by omega)
    rcases Nat.lt_or_ge j n with p | p
    · exact a2 j h1 p
    · exact f3 j p h2
  rw [redpencillaw41_LinesHolds.j4, (T k (by omega)).next hn, Option.bind_some, (T k (by omega)).back n2, Option.bind_some, (T k (by omega)).word hn, Option.bind_some, if_pos rfl, if_pos rfl, if_pos rfl]
  dsimp only
  rw [if_neg (by omega), if_neg (by omega), if_neg (by omega), if_neg (by omega), if_neg (by omega)]
  by_cases h : n < l.length
  · rw [if_pos (by omega), if_pos (by omega), rd_nat, lettered_f, Option.bind_some]
    cases hw : wrd (l.getD n 0) with
    | false => rw [if_neg (by decide)]; exact hj5
    | true =>
      rw [if_pos rfl, decide_eq_false (show ¬ ((bk l (nx l n) : Nat) : Int) > (n : Int) from fun q => by
        have q2 : n < bk l (nx l n) := by omega
        have h3 := b3 (by omega)
        exact n3 _ q2 h3.1 h3.2)]
      exact hj5
  · rw [if_neg (by omega)]
    exact hj5
theorem hl_out (hl : l.length ≤ 300) (T : ∀ k, 301 ≤ k → Txt s l k) {n : Nat} (hn : n ≤ l.length) {b c : Int} (b0 : 0 ≤ b) (b1 : b ≤ 255) (c0 : 0 ≤ c) (c1 : c ≤ 65535) {S : ByteArray} (hS : S.toList = s.toList) (i : Int) (k : Nat) (hk : 1000 ≤ k) :
    redpencillaw41_LinesHolds.j3 (k + 2) s b c l (n : Int) ((cnt (l.take n) : Nat) : Int) ((bg l).length : Int) S i false = some true := by
  have hj := cnt_lt l n
  have hbl := bg_len l
  have hcl := cnt_le l
  have h4 := hl_j4 hl T hn k hk
  have e1 : wrap64 b = b := w64 (by omega) (by omega)
  have e2 : wrap64 c = c := w64 (by omega) (by omega)
  have e3 : wrap64 (-b) = -b := w64 (by omega) (by omega)
  have e4 : wrap64 (((cnt (l.take n) : Nat) : Int) + b) = ((cnt (l.take n) : Nat) : Int) + b := w64 (by omega) (by omega)
  rw [redpencillaw41_LinesHolds.j3, if_neg (by decide), if_pos hS, e1, e2, e3, e4]
  by_cases h : ((cnt (l.take n) : Nat) : Int) + b < ((bg l).length : Int)
  · obtain ⟨x, hx1, hx2, hx3⟩ := (T (k + 1) (by omega)).to hn (b := b) c0 (j := cnt (l.take n) + b.toNat) (by omega) (by omega)
    obtain ⟨y, hy1, hy2, hy3⟩ := (T (k + 1) (by omega)).to hx2 (b := -b) c0 (j := cnt (l.take n)) hj (by rw [hx3]; omega)
    rw [if_pos h, hx1, Option.bind_some, hy1, Option.bind_some, (T (k + 1) (by omega)).place hy2, Option.bind_some, if_pos rfl, if_pos rfl, if_pos rfl, if_pos (by rw [hy3])]
    exact h4
  · rw [if_neg h]
    exact h4
theorem utf8_app' (a b : List Int) : utf8 (a ++ b) = utf8 a ++ utf8 b := by unfold utf8; rw [List.flatMap_append]
theorem utf8_len' : ∀ rs : List Int, (utf8 rs).length ≤ 4 * rs.length
  | [] => by simp [utf8]
  | r :: rs => by
    have h1 := utf8_len' rs
    have h2 := (Lib.encodeRuneZ_length r).2
    show (Lib.encodeRuneZ r ++ utf8 rs).length ≤ _
    rw [List.length_append, List.length_cons]
    omega
theorem jn_take (xs : List (List Int)) (i : Nat) : (jn (xs.take i)).length ≤ (jn xs).length := by
  cases xs with
  | nil => simp [jn]
  | cons x xs =>
    cases i with
    | zero => simp [jn]
    | succ i =>
      show (x ++ (xs.take i).flatMap _).length ≤ (x ++ xs.flatMap (fun y => 10 :: y)).length
      conv => rhs; rw [← List.take_append_drop i xs]
      rw [List.flatMap_append, List.length_append, List.length_append, List.length_append]
      omega
theorem take_snoc (xs : List (List Int)) {i : Nat} (h : i < xs.length) : xs.take (i + 1) = xs.take i ++ [xs.getD i []] := by
  rw [List.take_add_one, List.getD_eq_getElem?_getD, List.getElem?_eq_getElem h]
  rfl
theorem hl_l0 (hl : l.length ≤ 300) (T : ∀ k, 301 ≤ k → Txt s l k) {n : Nat} (hn : n ≤ l.length) {b c : Int} (b0 : 0 ≤ b) (b1 : b ≤ 255) (c0 : 0 ≤ c) (c1 : c ≤ 65535) (k : Nat) (hk : 1000 ≤ k) : ∀ (d i : Nat), i + d = (bg l).length →
    redpencillaw41_LinesHolds.l0 (k + 2 * d + 3) s b c l (n : Int) ((cnt (l.take n) : Nat) : Int) ((bg l).length : Int) (strOfNums (utf8 (jn ((sp l).take i)))) (i : Int) = some true
  | 0, i, hd => by
    have hlen := sp_len l
    have hr := (round_trip (T 301 (Nat.le_refl _)).dec).1
    have hs : strOfNums (utf8 l) = s := ByteArray.ext (Array.toList_inj.1 hr)
    rw [show k + 2 * 0 + 3 = (k + 2) + 1 by omega, redpencillaw41_LinesHolds.l0, if_neg (by omega)]
    refine hl_out hl T hn b0 b1 c0 c1 ?_ _ k hk
    rw [List.take_of_length_le (by omega), jn_sp, hs]
  | d + 1, i, hd => by
    have hlen := sp_len l
    have hbl := bg_len l
    have hcl := cnt_le l
    have IH := hl_l0 hl T hn b0 b1 c0 c1 k hk d (i + 1) (by omega)
    have z1 := utf8_len' (jn ((sp l).take i))
    have z2 := jn_take (sp l) i
    rw [jn_sp] at z2
    have z3 := utf8_len' ((sp l).getD i [])
    have z4 := line_len l (j := i) (by omega)
    have z5 := bg_at l (j := i) (by omega)
    have s1 : (strOfNums (utf8 (jn ((sp l).take i)))).size = (utf8 (jn ((sp l).take i))).length := strOfNums_size _
    have s2 : (strOfNums (utf8 ((sp l).getD i []))).size = (utf8 ((sp l).getD i [])).length := strOfNums_size _
    rw [show k + 2 * (d + 1) + 3 = ((k + 2 * d + 3) + 1) + 1 by omega, redpencillaw41_LinesHolds.l0, if_pos (by omega), decide_eq_true (show (i : Int) < 400 by omega), redpencillaw41_LinesHolds.j3, if_pos rfl, (T (k + 2 * d + 2 + 1) (by omega)).line (j := i) (by omega), Option.bind_some, if_pos rfl, wi (by omega)]
    dsimp only
    rw [take_snoc (sp l) (by omega)] at IH
    by_cases h : i = 0
    · subst h
      rw [if_neg (by omega), if_pos (by rw [s1, s2]; omega)]
      have e : jn ((sp l).take 0 ++ [(sp l).getD 0 []]) = (sp l).getD 0 [] := by
        rw [List.take_zero]
        show (sp l).getD 0 [] ++ [] = _
        rw [List.append_nil]
      rw [e] at IH
      rw [strOfNums_app, List.take_zero, show utf8 (jn []) = [] from rfl, List.nil_append]
      exact IH
    · rw [if_pos (by omega), if_pos (by rw [s1]; omega), feed_str, strOfNums_app, if_pos (by rw [s2, strOfNums_size, List.length_append]; simp only [List.length_cons, List.length_nil]; omega), strOfNums_app]
      have hne : (sp l).take i ≠ [] := by
        intro q
        have := congrArg List.length q
        rw [List.length_take, List.length_nil] at this
        omega
      rw [jn_snoc _ _ hne, utf8_app'] at IH
      have e : utf8 (10 :: (sp l).getD i []) = [10] ++ utf8 ((sp l).getD i []) := rfl
      rw [e, ← List.append_assoc] at IH
      exact IH
theorem hl_j0 (hs : s.size ≤ 300) {x b c : Int} (x0 : 0 ≤ x) (x1 : x ≤ 65535) (b0 : 0 ≤ b) (b1 : b ≤ 255) (c0 : 0 ≤ c) (c1 : c ≤ 65535) (k : Nat) (hk : 5000 ≤ k) : redpencillaw41_LinesHolds.j0 (k + 1) s x b c false = some true := by
  have hlen := dec_len s
  have hl : (decP s).1.length ≤ 300 := by omega
  rw [redpencillaw41_LinesHolds.j0, if_neg (by decide), decode_f s (by omega), Option.bind_some]
  by_cases he : (decP s).2 = 0
  · have T : ∀ k, 301 ≤ k → Txt s (decP s).1 k := fun k hk => txt_of hs he hk
    generalize (decP s).1 = l at *
    have e1 : wrap64 ((l.length : Int) + 1) = l.length + 1 := w64 (by omega) (by omega)
    have e2 : wrap64 x = x := w64 (by omega) (by omega)
    obtain ⟨n, hn⟩ : ∃ n : Nat, Int.tmod x ((l.length : Int) + 1) = n := ⟨(x % (l.length + 1)).toNat, by
      rw [Int.tmod_eq_emod_of_nonneg x0]
      have := Int.emod_nonneg x (show (l.length : Int) + 1 ≠ 0 by omega)
      omega⟩
    have hnl : n ≤ l.length := by
      have h1 := Int.emod_lt_of_pos x (show (0 : Int) < (l.length : Int) + 1 by omega)
      rw [← Int.tmod_eq_emod_of_nonneg x0, hn] at h1
      omega
    have hb := bg_len l
    have hc := cnt_le l
    obtain ⟨q, rfl⟩ : ∃ q, k = q + 2 * (bg l).length + 4 := ⟨k - 2 * (bg l).length - 4, by omega⟩
    have h0 := hl_l0 hl T hnl b0 b1 c0 c1 q (by omega) (bg l).length 0 (by omega)
    have Tk := T (q + 2 * (bg l).length + 3 + 1) (by omega)
    rw [if_pos he, e1, e2, if_neg (by omega), hn, Tk.place hnl, Option.bind_some, Tk.count, Option.bind_some, if_pos rfl, if_pos rfl, at_yes (Tk.line_at hnl), Option.bind_some, if_pos rfl, moves_yes (Tk.stay hnl), Option.bind_some, redpencillaw41_LinesHolds.j1, if_neg (by decide)]
    exact h0
  · rw [if_neg he]
    exact then_known (by omega)
theorem linesHolds_f (s : ByteArray) {x b c : Int} (x0 : 0 ≤ x) (x1 : x ≤ 65535) (b0 : 0 ≤ b) (b1 : b ≤ 255) (c0 : 0 ≤ c) (c1 : c ≤ 65535) (k : Nat) (hk : 5000 ≤ k) : redpencillaw41_LinesHolds.f (k + 1) s x b c = some true := by
  have hj : redpencillaw41_LinesHolds.j0 (k + 1) s x b c true = some true := by
    rw [redpencillaw41_LinesHolds.j0, if_pos rfl]
    exact then_known (by omega)
  unfold redpencillaw41_LinesHolds.f
  by_cases h1 : s.size ≤ 300
  · rw [if_neg (by omega)]
    by_cases h2 : b > 20
    · rw [if_pos h2]; exact hj
    · rw [if_neg h2]
      by_cases h3 : c > 300
      · rw [decide_eq_true h3]; exact hj
      · rw [decide_eq_false h3]
        exact hl_j0 h1 x0 x1 b0 b1 c0 c1 k hk
  · rw [if_pos (by omega)]; exact hj
end
theorem wf_u16 {n : Int} (h : (Lit.int .u16 n).wf = true) : 0 ≤ n ∧ n ≤ 65535 := by
  simp only [Lit.wf, Bool.and_eq_true, decide_eq_true_eq] at h
  exact ⟨by have := h.1; simpa [IntKind.min, IntKind.signed] using this, by have := h.2; simp [IntKind.max, IntKind.signed, IntKind.bits] at this; omega⟩
end Go.Proofs.YtbjahfbagbghnaaDoor.Lp
