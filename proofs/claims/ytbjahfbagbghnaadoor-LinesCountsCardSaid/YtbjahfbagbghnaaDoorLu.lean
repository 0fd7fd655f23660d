/- Layer 41, plain law: LinesCounts. -/
import Derived.Test.YtbjahfbagbghnaaDoorLg
import Derived.Test.YtbjahfbagbghnaaDoorPAllx13
namespace Go.Proofs.YtbjahfbagbghnaaDoor.Lp
open Go Go.RowKit Go.Proofs Go.Proofs.YtbjahfbagbghnaaDoorW.PrintWords Go.Proofs.YtbjahfbagbghnaaDoorW.PrintMore Go.Proofs.YtbjahfbagbghnaaDoor.Rn Go.Proofs.YtbjahfbagbghnaaDoor.PAll
set_option linter.unusedSimpArgs false
set_option linter.unusedVariables false
section
variable {s : ByteArray} {l : List Int}
theorem line_yes {k : Nat} {i e : Int} {t : ByteArray} (h : lines_Line.f k s i = some (t, e)) : redpencillaw41_line.f k s i t e = some true := by
  unfold redpencillaw41_line.f
  rw [h]
  simp
theorem count_yes {k : Nat} {a e : Int} (h : lines_Count.f k s = some (a, e)) : redpencillaw41_counts.f k s a e = some true := by
  unfold redpencillaw41_counts.f
  rw [h]
  simp
theorem Txt.line_out {k : Nat} (h : Txt s l (k + 1)) {i : Int} (hi : i < 0 ∨ ((bg l).length : Int) ≤ i) : lines_Line.f (k + 1) s i = some (⟨#[]⟩, 3) := by
  unfold lines_Line.f
  rw [h.dcd, Option.bind_some, if_pos rfl]
  dsimp only
  by_cases q : i < 0
  · rw [if_pos q, lines_Line.j0, if_pos rfl]
  · rw [if_neg q, decide_eq_true (show i ≥ ((bg l).length : Int) by omega), lines_Line.j0, if_pos rfl]
theorem lc_j1 (T : ∀ k, 301 ≤ k → Txt s l k) (k : Nat) (hk : 1000 ≤ k) : redpencillaw41_LinesCounts.j1 (k + 1) s (sp l) false = some true := by
  rw [redpencillaw41_LinesCounts.j1, if_neg (by decide), sp_len, count_yes (T k (by omega)).count, Option.bind_some, if_pos rfl]
  exact then_known (by omega)
theorem lc_l0 (hl : l.length ≤ 300) (T : ∀ k, 301 ≤ k → Txt s l k) (x : Int) (k : Nat) (hk : 1000 ≤ k) : ∀ (d i : Nat), i + d = (bg l).length → redpencillaw41_LinesCounts.l0 (k + d + 2) s x (sp l) (i : Int) = some true
  | 0, i, hd => by
    have hlen := sp_len l
    have hj := lc_j1 T k hk
    rw [show k + 0 + 2 = (k + 1) + 1 by omega, redpencillaw41_LinesCounts.l0, if_neg (by omega)]
    by_cases h : x < 0
    · rw [if_pos h, line_yes ((T (k + 1) (by omega)).line_out (.inl h)), Option.bind_some]
      exact hj
    · rw [if_neg h]
      by_cases h2 : x ≥ ((sp l).length : Int)
      · rw [if_pos h2, line_yes ((T (k + 1) (by omega)).line_out (.inr (by omega))), Option.bind_some]
        exact hj
      · rw [if_neg h2]
        exact hj
  | d + 1, i, hd => by
    have hlen := sp_len l
    have hbl := bg_len l
    have hcl := cnt_le l
    have hr : rd_L2 (sp l) (i : Int) = (sp l).getD i [] := by unfold rd_L2; rw [Int.toNat_natCast]
    have hok := (round_trip (T 301 (Nat.le_refl _)).dec).2
    have hs : runesBytes ((sp l).getD i []) = strOfNums (utf8 ((sp l).getD i [])) := runes_str _ (fun r hr => hok r (line_in l i r hr))
    rw [show k + (d + 1) + 2 = (k + d + 1 + 1) + 1 by omega, redpencillaw41_LinesCounts.l0, if_pos (by omega), if_pos (by omega), hr, hs, line_yes ((T (k + d + 1 + 1) (by omega)).line (j := i) (by omega)), Option.bind_some, if_pos rfl, wi (by omega)]
    exact lc_l0 hl T x k hk d (i + 1) (by omega)
end
theorem linesCounts_f (s : ByteArray) (x : Int) : redpencillaw41_LinesCounts.f 30000 s x = some true := by
  unfold redpencillaw41_LinesCounts.f
  by_cases hs : s.size ≤ 300
  · have hs3 : s.size ≤ 300 := hs
    rw [if_neg (by omega), decode_f s (by omega), Option.bind_some]
    by_cases he : (decP s).2 = 0
    · have hlen := dec_len s
      have T : ∀ k, 301 ≤ k → Txt s (decP s).1 k := fun k hk => txt_of hs3 he hk
      generalize (decP s).1 = l at *
      have hb := bg_len l
      have hc := cnt_le l
      obtain ⟨q, hq⟩ : ∃ q, 30000 = q + (bg l).length + 2 := ⟨30000 - (bg l).length - 2, by omega⟩
      have h0 := lc_l0 (by omega) T x q (by omega) (bg l).length 0 (by omega)
      rw [← hq] at h0
      rw [if_pos he, split_f l (by omega) (by omega), Option.bind_some]
      exact h0
    · have B := bad_of hs3 he
      rw [if_neg he, B.count (by omega), Option.bind_some, if_pos rfl, B.line (by omega), Option.bind_some, if_pos rfl]
      exact then_known (by omega)
  · rw [if_pos (by omega)]
    exact then_known (by omega)
end Go.Proofs.YtbjahfbagbghnaaDoor.Lp
