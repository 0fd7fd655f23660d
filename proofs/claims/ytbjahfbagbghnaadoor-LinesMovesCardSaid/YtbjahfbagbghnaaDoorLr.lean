/- Layer 41, plain law: LinesPlaces and LinesMoves. -/
import Derived.Test.YtbjahfbagbghnaaDoorLq
import Derived.Test.YtbjahfbagbghnaaDoorPAllx7
import Derived.Test.YtbjahfbagbghnaaDoorPAllx8
namespace Go.Proofs.YtbjahfbagbghnaaDoor.Lp
open Go Go.RowKit Go.Proofs Go.Proofs.YtbjahfbagbghnaaDoorW.PrintWords Go.Proofs.YtbjahfbagbghnaaDoorW.PrintMore Go.Proofs.YtbjahfbagbghnaaDoor.Rn Go.Proofs.YtbjahfbagbghnaaDoor.PAll
set_option linter.unusedSimpArgs false
set_option linter.unusedVariables false

theorem dec_len (s : ByteArray) : (decP s).1.length ≤ s.size := by
  unfold decP
  split
  · split
    · simp
    · exact runesFrom_len s s.size 0
  · simp
theorem bad_of {s : ByteArray} (hs : s.size ≤ 300) (he : (decP s).2 ≠ 0) : Bad s (decP s).2 := ⟨by omega, by unfold dcd; rw [if_neg he], he⟩
theorem txt_of {s : ByteArray} (hs : s.size ≤ 300) (he : (decP s).2 = 0) {k : Nat} (hk : 301 ≤ k) : Txt s (decP s).1 k := by
  have := dec_len s
  exact ⟨by omega, Prod.ext rfl he, by omega, by omega⟩

section
variable {s : ByteArray} {l : List Int}
theorem places_yes {k : Nat} {n a b e : Int} (h : lines_Place.f k s n = some (a, b, e)) : redpencillaw41_places.f k s n a b e = some true := by
  unfold redpencillaw41_places.f
  rw [h]
  simp
theorem at_yes {k : Nat} {n a b e : Int} (h : lines_At.f k s a b = some (n, e)) : redpencillaw41_at.f k s a b n e = some true := by
  unfold redpencillaw41_at.f
  rw [h]
  simp
theorem wide_yes {k : Nat} {n t a e : Int} (h : lines_Width.f k s n t = some (a, e)) : redpencillaw41_wide.f k s n t a e = some true := by
  unfold redpencillaw41_wide.f
  rw [h]
  simp
theorem moves_yes {k : Nat} {n b c a e : Int} (h : lines_Move.f k s n b c = some (a, e)) : redpencillaw41_moves.f k s n b c a e = some true := by
  unfold redpencillaw41_moves.f
  rw [h]
  simp
theorem then_known {k : Nat} (hk : 40 ≤ k) : ((redpencillaw41_known.f k).bind fun t => some t) = some true := by rw [known_f k hk]; rfl

/-! LinesPlaces. -/
theorem tab_only {w w1 tab : Int} (h0 : 0 ≤ w) (h1 : 1 ≤ tab) (h2 : w < w1) (h3 : w1 ≤ (w / tab + 1) * tab) (h4 : w1 % tab = 0) : w1 = (w / tab + 1) * tab := by
  have a1 := Int.mul_ediv_add_emod w tab
  have a2 := Int.emod_nonneg w (show tab ≠ 0 by omega)
  have a3 := Int.mul_ediv_add_emod w1 tab
  rw [h4, Int.add_zero] at a3
  have a4 : w / tab < w1 / tab := by
    refine Int.not_le.1 fun q => ?_
    have := Int.mul_le_mul_of_nonneg_left q (show 0 ≤ tab by omega)
    omega
  have a5 : w1 / tab ≤ w / tab + 1 := by
    refine Int.not_lt.1 fun q => ?_
    have := Int.mul_le_mul_of_nonneg_left (show w / tab + 2 ≤ w1 / tab by omega) (show 0 ≤ tab by omega)
    rw [Int.mul_add] at this
    rw [Int.add_mul, Int.mul_comm (w / tab) tab] at h3
    omega
  have a6 : w1 / tab = w / tab + 1 := by omega
  rw [← a3, a6, Int.mul_comm]
theorem pl_l1 (x1 tab : Int) (t1 : 1 ≤ tab) (t2 : tab ≤ 16) {j : Nat} (hj : j < l.length) (hc : l.getD j 0 = 9) (hl : l.length ≤ 1000) {w : Int} (w0 : 0 ≤ w) (w1 : w ≤ 100000) (K : Nat) (hfin : ∀ k, K ≤ k → redpencillaw41_LinesPlaces.l0 k s x1 tab l ((w / tab + 1) * tab) ((j + 1 : Nat) : Int) = some true) :
    ∀ (d : Nat) (v : Int), w < v → v + d = (w / tab + 1) * tab → ∀ k, K + d + 1 ≤ k → redpencillaw41_LinesPlaces.l1 k s x1 tab l v (j : Int) = some true
  | d, v, hv, hd, k, hk => by
    obtain ⟨k, rfl, hk⟩ := succ_of hk
    have ht := tab_mul w0 t1 t2
    rw [redpencillaw41_LinesPlaces.l1, if_pos (by omega), if_pos (by omega), rd_nat, if_pos hc, if_neg (by omega), Int.tmod_eq_emod_of_nonneg (by omega)]
    by_cases q : v % tab = 0
    · rw [if_pos q, wi (by omega), tab_only w0 t1 hv (by omega) q]
      exact hfin k (by omega)
    · have hne : d ≠ 0 := fun e => q (by
        subst e
        rw [show v = (w / tab + 1) * tab by omega]
        exact Int.mul_emod_left _ _)
      obtain ⟨d, rfl⟩ : ∃ d', d = d' + 1 := ⟨d - 1, by omega⟩
      rw [if_neg q, w64 (by omega) (by omega)]
      exact pl_l1 x1 tab t1 t2 hj hc hl w0 w1 K hfin d (v + 1) (by omega) (by omega) k (by omega)
theorem pl_l0 (hl : l.length ≤ 300) {n : Nat} (hn : n ≤ l.length) (tab : Int) (t1 : 1 ≤ tab) (t2 : tab ≤ 16) (W : Int) (hW : ∀ k, 400 ≤ k → lines_Width.f k s (n : Int) tab = some (W, 0)) (K : Nat) (hK : 500 ≤ K) :
    ∀ (m j : Nat) (w : Int), m + j = n → 0 ≤ w → w ≤ 16 * j → wd tab w ((l.take n).drop j) = W → ∀ k, 20 * m + K ≤ k → redpencillaw41_LinesPlaces.l0 k s (n : Int) tab l w (j : Int) = some true
  | m, j, w, hm, w0, w1, hw, k, hk => by
    obtain ⟨k, rfl⟩ : ∃ k', k = k' + 1 := ⟨k - 1, by omega⟩
    rw [redpencillaw41_LinesPlaces.l0]
    by_cases h : j < n
    · obtain ⟨m, rfl⟩ : ∃ m', m = m' + 1 := ⟨m - 1, by omega⟩
      have hd : (l.take n).drop j = l.getD j 0 :: (l.take n).drop (j + 1) := by
        rw [drop_getD (by rw [List.length_take]; omega)]
        congr 1
        rw [List.getD_eq_getElem?_getD, List.getD_eq_getElem?_getD, List.getElem?_take_of_lt h]
      rw [hd] at hw
      have hw2 : wd tab (if l.getD j 0 = 9 then (w / tab + 1) * tab else w + 1) ((l.take n).drop (j + 1)) = W := hw
      have ht := tab_mul w0 t1 t2
      rw [if_pos (by omega), w64 (by omega) (by omega)]
      by_cases hc : l.getD j 0 = 9
      · rw [if_pos hc] at hw2
        exact pl_l1 (n : Int) tab t1 t2 (by omega) hc (by omega) w0 (by omega) (20 * m + K) (fun k hk => pl_l0 hl hn tab t1 t2 W hW K hK m (j + 1) _ (by omega) (by omega) (by omega) hw2 k hk) ((w / tab + 1) * tab - (w + 1)).toNat (w + 1) (by omega) (by omega) k (by omega)
      · rw [if_neg hc] at hw2
        obtain ⟨k, rfl⟩ : ∃ k', k = k' + 1 := ⟨k - 1, by omega⟩
        rw [redpencillaw41_LinesPlaces.l1, if_pos (by omega), if_pos (by omega), rd_nat, if_neg hc, wi (by omega)]
        exact pl_l0 hl hn tab t1 t2 W hW K hK m (j + 1) _ (by omega) (by omega) (by omega) hw2 k (by omega)
    · rw [List.drop_of_length_le (by rw [List.length_take]; omega)] at hw
      have hw2 : w = W := hw
      rw [if_neg (by omega), hw2, wide_yes (hW k (by omega))]
      simp only [Option.bind_some]
      rw [if_pos trivial]
      exact then_known (by omega)
theorem pl_j1 (hs : s.size ≤ 300) (he : (decP s).2 = 0) (n tab : Int) (k : Nat) (hk : 8000 ≤ k) : redpencillaw41_LinesPlaces.j1 k s n tab (decP s).1 = some true := by
  have hlen := dec_len s
  have T : ∀ k, 301 ≤ k → Txt s (decP s).1 k := fun k hk => txt_of hs he hk
  generalize (decP s).1 = l at *
  have out : n < 0 ∨ (l.length : Int) < n → ∀ k, 7000 ≤ k → redpencillaw41_LinesPlaces.j2 k s n tab l true = some true := fun hn k hk => by
    obtain ⟨k, rfl, hk⟩ := succ_of (show 6999 + 1 ≤ k by omega)
    obtain ⟨k, rfl, hk⟩ := succ_of (show 6998 + 1 ≤ k by omega)
    obtain ⟨k, rfl, hk⟩ := succ_of (show 6997 + 1 ≤ k by omega)
    rw [redpencillaw41_LinesPlaces.j2, if_pos rfl]
    have hp := places_yes ((T (k + 1) (by omega)).place_out hn)
    by_cases q : tab < 1 ∨ 16 < tab
    · have hj : redpencillaw41_LinesPlaces.j3 (k + 1 + 1) s n tab 3 true = some true := by
        rw [redpencillaw41_LinesPlaces.j3, if_pos rfl, hp]
        simp only [Option.bind_some]
        rw [if_pos trivial, wide_yes ((T (k + 1) (by omega)).wide_arg q)]
        simp only [Option.bind_some]
        rw [if_pos trivial]
        exact then_known (by omega)
      by_cases q1 : tab < 1
      · rw [if_pos q1, hj]
      · rw [if_neg q1, decide_eq_true (show tab > 16 by omega), hj]
    · rw [if_neg (by omega), decide_eq_false (show ¬ tab > 16 by omega), redpencillaw41_LinesPlaces.j3, if_neg (by simp), hp]
      simp only [Option.bind_some]
      rw [if_pos trivial, wide_yes ((T (k + 1) (by omega)).wide_out (by omega) (by omega) hn)]
      simp only [Option.bind_some]
      rw [if_pos trivial]
      exact then_known (by omega)
  obtain ⟨k, rfl, hk⟩ := succ_of (show 7999 + 1 ≤ k by omega)
  rw [redpencillaw41_LinesPlaces.j1]
  by_cases q1 : n < 0
  · rw [if_pos q1]
    exact out (.inl q1) k (by omega)
  · rw [if_neg q1]
    by_cases q2 : (l.length : Int) < n
    · rw [decide_eq_true (show n > (l.length : Int) from q2)]
      exact out (.inr q2) k (by omega)
    · obtain ⟨n, rfl⟩ : ∃ m : Nat, n = m := ⟨n.toNat, by omega⟩
      have hn : n ≤ l.length := by omega
      have hc := col_range l n hn
      rw [decide_eq_false (show ¬ (n : Int) > (l.length : Int) from q2)]
      obtain ⟨k, rfl, hk⟩ := succ_of (show 7998 + 1 ≤ k by omega)
      obtain ⟨k, rfl, hk⟩ := succ_of (show 7997 + 1 ≤ k by omega)
      obtain ⟨k, rfl, hk⟩ := succ_of (show 7996 + 1 ≤ k by omega)
      rw [redpencillaw41_LinesPlaces.j2, if_neg (by simp), place_f l n hn (by omega) (by omega)]
      simp only [Option.bind_some]
      rw [places_yes ((T (k + 1 + 1) (by omega)).place hn)]
      simp only [Option.bind_some]
      rw [if_pos trivial]
      by_cases q : tab < 1 ∨ 16 < tab
      · have hj : redpencillaw41_LinesPlaces.j4 (k + 1 + 1) s n tab l (col l n) true = some true := by
          rw [redpencillaw41_LinesPlaces.j4, if_pos rfl, wide_yes ((T (k + 1) (by omega)).wide_arg q)]
          simp only [Option.bind_some]
          rw [if_pos trivial]
          exact then_known (by omega)
        by_cases q1 : tab < 1
        · rw [if_pos q1, hj]
        · rw [if_neg q1, decide_eq_true (show tab > 16 by omega), hj]
      · rw [if_neg (by omega), decide_eq_false (show ¬ tab > 16 by omega), redpencillaw41_LinesPlaces.j4, if_neg (by simp), w64 (by omega) (by omega), show (n : Int) - col l n = (((n : Int) - col l n).toNat : Int) by omega]
        refine pl_l0 (by omega) hn tab (by omega) (by omega) (wd tab 0 ((l.take n).drop ((n : Int) - col l n).toNat)) (fun k hk => ?_) 500 (Nat.le_refl _) (n - ((n : Int) - col l n).toNat) _ 0 (by omega) (by omega) (by omega) rfl (k + 1) (by omega)
        obtain ⟨k, rfl, hk⟩ := succ_of (show 399 + 1 ≤ k by omega)
        exact (T (k + 1) (by omega)).wide (by omega) hn (by omega) (by omega)
theorem linesPlaces_f (s : ByteArray) (n i c tab : Int) : redpencillaw41_LinesPlaces.f 30000 s n i c tab = some true := by
  generalize hK : (30000 : Nat) = k
  have hk : 30000 ≤ k := by omega
  clear hK
  unfold redpencillaw41_LinesPlaces.f
  by_cases hs : (s.size : Int) > 300
  · rw [if_pos hs]
    exact then_known (by omega)
  · have hs3 : s.size ≤ 300 := by omega
    rw [if_neg hs, decode_f s (by omega)]
    simp only [Option.bind_some]
    by_cases he : (decP s).2 = 0
    · have hlen := dec_len s
      have J := fun k hk => pl_j1 hs3 he n tab k hk
      have T : ∀ k, 301 ≤ k → Txt s (decP s).1 k := fun k hk => txt_of hs3 he hk
      rw [if_pos he]
      generalize (decP s).1 = l at *
      have hb := bg_len l
      have hcl := cnt_le l
      rw [split_f l (by omega) (by omega)]
      simp only [Option.bind_some]
      have bad : atP l i c = (0, 3) → redpencillaw41_LinesPlaces.j0 k s n i c tab l (sp l) true = some true := fun q => by
        obtain ⟨k, rfl, hk⟩ := succ_of (show 29999 + 1 ≤ k by omega)
        rw [redpencillaw41_LinesPlaces.j0, if_pos rfl, at_yes (((T k (by omega)).at i c).trans (congrArg some q))]
        simp only [Option.bind_some]
        rw [if_pos trivial]
        exact J k (by omega)
      by_cases q1 : i < 0
      · rw [if_pos q1]
        exact bad (if_pos (.inl q1))
      · rw [if_neg q1]
        by_cases q2 : ((sp l).length : Int) ≤ i
        · rw [if_pos (by omega)]
          exact bad (if_pos (.inr (.inl q2)))
        · rw [if_neg (by omega)]
          by_cases q3 : c < 0
          · rw [if_pos q3]
            exact bad (if_pos (.inr (.inr (.inl q3))))
          · have e2 : rd_L2 (sp l) i = (sp l).getD i.toNat [] := rfl
            rw [if_neg q3, if_pos (by omega), if_pos (by omega), e2]
            by_cases q4 : (((sp l).getD i.toNat []).length : Int) < c
            · rw [decide_eq_true (show c > _ from q4)]
              exact bad (if_pos (.inr (.inr (.inr q4))))
            · rw [decide_eq_false (show ¬ c > _ from q4)]
              obtain ⟨i, rfl⟩ : ∃ j : Nat, i = j := ⟨i.toNat, by omega⟩
              rw [Int.toNat_natCast] at q4
              have hi : i < (bg l).length := by rw [← sp_len]; omega
              have hll := line_len l hi
              have hba := bg_at l hi
              obtain ⟨k, rfl, hk⟩ := succ_of (show 29999 + 1 ≤ k by omega)
              rw [redpencillaw41_LinesPlaces.j0, if_neg (by simp), index_f l (by omega) hi (by omega) (by omega) (by omega)]
              simp only [Option.bind_some]
              have ha : atP l (i : Int) c = (c + (bg l).getD i 0, 0) := by
                unfold atP
                rw [Int.toNat_natCast, if_neg (by omega), Int.add_comm]
              rw [at_yes (((T k (by omega)).at i c).trans (congrArg some ha))]
              simp only [Option.bind_some]
              rw [if_pos trivial]
              exact J k (by omega)
    · have B := bad_of hs3 he
      rw [if_neg he, B.place (by omega)]
      simp only [Option.bind_some]
      rw [if_pos trivial, B.at (by omega)]
      simp only [Option.bind_some]
      rw [if_pos trivial, B.wide (by omega)]
      simp only [Option.bind_some]
      rw [if_pos trivial]
      exact then_known (by omega)

/-! LinesMoves. -/
theorem mv_fin (hl : l.length ≤ 300) (T : ∀ k, 301 ≤ k → Txt s l k) {n : Nat} (hn : n ≤ l.length) (by_ c : Int) (hc : 0 ≤ c) (z : Nat) (hz : z < (bg l).length) (hm : mvL (bg l).length (cnt (l.take n)) by_ = z) (k : Nat) (hk : 1000 ≤ k) :
    ((redpencillaw41_index.f k (sp l) (z : Int) (mn c ((rd_L2 (sp l) (z : Int)).length : Int))).bind fun t => ((redpencillaw41_moves.f k s (n : Int) by_ c t 0).bind fun t2 => (if t2 = true then ((redpencillaw41_known.f k).bind fun t3 => (some t3)) else (some false)))) = some true := by
  have hb := bg_len l
  have hcl := cnt_le l
  have hll := line_len l hz
  have hba := bg_at l hz
  obtain ⟨k, rfl, hk⟩ := succ_of (show 999 + 1 ≤ k by omega)
  have e2 : rd_L2 (sp l) (z : Int) = (sp l).getD z [] := by unfold rd_L2; rw [Int.toNat_natCast]
  have hmn : 0 ≤ mn c (((sp l).getD z []).length : Int) ∧ mn c (((sp l).getD z []).length : Int) ≤ ((sp l).getD z []).length := by unfold mn; split <;> omega
  have hmv := (T (k + 1) (by omega)).move (k := k) hn by_ c hc
  rw [hm, Int.toNat_natCast] at hmv
  rw [e2, index_f l (by omega) hz hmn.1 (by omega) (by omega)]
  rw [Option.bind_some, Int.add_comm, moves_yes hmv]
  rw [Option.bind_some, if_pos rfl]
  exact then_known (by omega)
theorem mv_l1 (hl : l.length ≤ 300) (T : ∀ k, 301 ≤ k → Txt s l k) {n : Nat} (hn : n ≤ l.length) (by_ c : Int) (hc : 0 ≤ c) (K : Nat) (hK : 1001 ≤ K) :
    ∀ (z : Nat) (b : Int), -9223372036854775808 ≤ b → z < (bg l).length → mvL (bg l).length (cnt (l.take n)) by_ = (if b < 0 then (if (z : Int) + b < 0 then 0 else z + b) else z) → ∀ k, z + K ≤ k → redpencillaw41_LinesMoves.l1 k s (n : Int) by_ c (sp l) (z : Int) b = some true
  | z, b, hb0, hz, hm, k, hk => by
    have hsl := sp_len l
    obtain ⟨k, rfl⟩ : ∃ k', k = k' + 1 := ⟨k - 1, by omega⟩
    rw [redpencillaw41_LinesMoves.l1]
    by_cases q : b < 0
    · rw [if_pos q]
      rw [if_pos q] at hm
      by_cases q2 : z = 0
      · subst q2
        rw [if_neg (by omega), if_pos (by omega), if_pos (by omega)]
        exact mv_fin hl T hn by_ c hc 0 hz (by rw [hm]; split <;> omega) k (by omega)
      · obtain ⟨z, rfl⟩ : ∃ z', z = z' + 1 := ⟨z - 1, by omega⟩
        have e1 : wrap64 (((z + 1 : Nat) : Int) - 1) = (z : Int) := by
          have : ((z + 1 : Nat) : Int) - 1 = z := by omega
          rw [this]
          have := bg_len l
          have := cnt_le l
          exact w64 (by omega) (by omega)
        have e2 : wrap64 (b + 1) = b + 1 := by simp only [wrap64]; omega
        rw [if_pos (by omega), e1, e2]
        exact mv_l1 hl T hn by_ c hc K hK z (b + 1) (by omega) (by omega) (by rw [hm]; split <;> split <;> (try split) <;> omega) k (by omega)
    · rw [if_neg q, if_pos (by omega), if_pos (by omega)]
      rw [if_neg q] at hm
      exact mv_fin hl T hn by_ c hc z hz hm k (by omega)
theorem mv_l0 (hl : l.length ≤ 300) (T : ∀ k, 301 ≤ k → Txt s l k) {n : Nat} (hn : n ≤ l.length) (by_ c : Int) (hc : 0 ≤ c) (hb0 : -9223372036854775808 ≤ by_) (hb1 : by_ ≤ 9223372036854775807) (K : Nat) (hK : 2000 ≤ K) :
    ∀ (m a : Nat) (b : Int), m + a + 1 = (bg l).length → b ≤ 9223372036854775807 → (0 < by_ → mvL (bg l).length (cnt (l.take n)) by_ = if 0 < b then (if (a : Int) + b < (bg l).length then a + b else (bg l).length - 1) else a) → (by_ ≤ 0 → a = cnt (l.take n) ∧ b = by_) → ∀ k, m + K ≤ k →
      redpencillaw41_LinesMoves.l0 k s (n : Int) by_ c (sp l) (a : Int) b = some true
  | m, a, b, hm, hb, h1, h2, k, hk => by
    have hsl := sp_len l
    have hbl := bg_len l
    have hcl := cnt_le l
    obtain ⟨k, rfl⟩ : ∃ k', k = k' + 1 := ⟨k - 1, by omega⟩
    rw [redpencillaw41_LinesMoves.l0]
    have fin : (0 < by_ → mvL (bg l).length (cnt (l.take n)) by_ = a) → (by_ ≤ 0 → a = cnt (l.take n)) → redpencillaw41_LinesMoves.j2 k s (n : Int) by_ c (sp l) (a : Int) = some true := fun g1 g2 => by
      obtain ⟨k, rfl⟩ : ∃ k', k = k' + 1 := ⟨k - 1, by omega⟩
      rw [redpencillaw41_LinesMoves.j2]
      refine mv_l1 hl T hn by_ c hc 1001 (Nat.le_refl _) a by_ hb0 (by omega) ?_ k (by omega)
      by_cases q : by_ < 0
      · rw [if_pos q, g2 (by omega)]
        unfold mvL
        split
        · rfl
        · rw [if_neg (by have := cnt_lt l n; omega)]
      · rw [if_neg q]
        by_cases q2 : 0 < by_
        · exact g1 q2
        · have := g2 (by omega)
          have := cnt_lt l n
          unfold mvL
          split <;> (try split) <;> omega
    by_cases q : b > 0
    · have hp : 0 < by_ := Int.not_le.1 fun q2 => by have := (h2 q2).2; omega
      have h3 := h1 hp
      rw [if_pos q]
      rw [if_pos (by omega)] at h3
      by_cases q2 : a + 1 < (bg l).length
      · obtain ⟨m, rfl⟩ : ∃ m', m = m' + 1 := ⟨m - 1, by omega⟩
        have e2 : wrap64 (b - 1) = b - 1 := by simp only [wrap64]; omega
        rw [wi (by omega), if_pos (by omega), e2]
        refine mv_l0 hl T hn by_ c hc hb0 hb1 K hK m (a + 1) (b - 1) (by omega) (by omega) (fun _ => ?_) (fun q3 => absurd hp (by omega)) k (by omega)
        rw [h3]
        split <;> split <;> (try split) <;> omega
      · rw [wi (by omega), if_neg (by omega)]
        refine fin (fun _ => ?_) (fun q3 => absurd hp (by omega))
        rw [h3]
        split <;> omega
    · rw [if_neg q]
      refine fin (fun hp => ?_) (fun q3 => (h2 q3).1)
      have h3 := h1 hp
      rwa [if_neg (by omega)] at h3
theorem linesMoves_f (s : ByteArray) (n by_ c : Int) (hb0 : -9223372036854775808 ≤ by_) (hb1 : by_ ≤ 9223372036854775807) : redpencillaw41_LinesMoves.f 30000 s n by_ c = some true := by
  generalize hK : (30000 : Nat) = k
  have hk : 30000 ≤ k := by omega
  clear hK
  unfold redpencillaw41_LinesMoves.f
  by_cases hs : (s.size : Int) > 300
  · rw [if_pos hs]
    exact then_known (by omega)
  · have hs3 : s.size ≤ 300 := by omega
    rw [if_neg hs, decode_f s (by omega)]
    simp only [Option.bind_some]
    by_cases he : (decP s).2 = 0
    · have hlen := dec_len s
      have T : ∀ k, 301 ≤ k → Txt s (decP s).1 k := fun k hk => txt_of hs3 he hk
      rw [if_pos he]
      generalize (decP s).1 = l at *
      have hb := bg_len l
      have hcl := cnt_le l
      by_cases hc : c < 0
      · rw [if_pos hc, moves_yes ((T k (by omega)).move_arg hc)]
        simp only [Option.bind_some]
        rw [if_pos trivial]
        exact then_known (by omega)
      · rw [if_neg hc]
        have out : n < 0 ∨ (l.length : Int) < n → redpencillaw41_LinesMoves.j0 k s n by_ c l true = some true := fun q => by
          obtain ⟨k, rfl, hk⟩ := succ_of (show 29999 + 1 ≤ k by omega)
          obtain ⟨k, rfl, hk⟩ := succ_of (show 29998 + 1 ≤ k by omega)
          rw [redpencillaw41_LinesMoves.j0, if_pos rfl, moves_yes ((T (k + 1) (by omega)).move_out (by omega) q)]
          simp only [Option.bind_some]
          rw [if_pos trivial]
          exact then_known (by omega)
        by_cases q1 : n < 0
        · rw [if_pos q1]
          exact out (.inl q1)
        · rw [if_neg q1]
          by_cases q2 : (l.length : Int) < n
          · rw [decide_eq_true (show n > (l.length : Int) from q2)]
            exact out (.inr q2)
          · obtain ⟨n, rfl⟩ : ∃ m : Nat, n = m := ⟨n.toNat, by omega⟩
            have hn : n ≤ l.length := by omega
            have hlt := cnt_lt l n
            rw [decide_eq_false (show ¬ (n : Int) > (l.length : Int) from q2)]
            obtain ⟨k, rfl, hk⟩ := succ_of (show 29999 + 1 ≤ k by omega)
            rw [redpencillaw41_LinesMoves.j0, if_neg (by simp), split_f l (by omega) (by omega)]
            simp only [Option.bind_some]
            rw [place_f l n hn (by omega) (by omega)]
            simp only [Option.bind_some]
            refine mv_l0 (by omega) T hn by_ c (by omega) hb0 hb1 2000 (Nat.le_refl _) ((bg l).length - cnt (l.take n) - 1) (cnt (l.take n)) by_ (by omega) hb1 (fun hp => ?_) (fun _ => ⟨rfl, rfl⟩) k (by omega)
            rw [if_pos hp]
            unfold mvL
            rw [if_neg (by omega)]
            split <;> split <;> omega
    · have B := bad_of hs3 he
      rw [if_neg he, B.move (by omega)]
      simp only [Option.bind_some]
      rw [if_pos trivial]
      exact then_known (by omega)
end
end Go.Proofs.YtbjahfbagbghnaaDoor.Lp
