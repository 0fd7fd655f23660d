/- Layer 17, plain law: the bytes of a state as the reference tells them. -/
import Derived.Test.YtfbjbajbjlcjfaaCf
import Derived.Test.YtfbjbajbjlcjfaaPCanonStatesx11
import Derived.Test.YtfbjbajbjlcjfaaPCanonStatesx12
namespace Go.Proofs.Ytfbjbajbjlcjfaa.Cn
open Go Go.RowKit Go.Proofs.Ytfbjbajbjlcjfaa.Vn Go.Proofs.Ytfbjbajbjlcjfaa.PCanonStates Go.Proofs.YtfbjbajbjlcjfaaW.PrintWords
set_option linter.unusedSimpArgs false
set_option linter.unusedVariables false

theorem rrune_b (r : Int) (h : okRune r) : redpencilref17_Rune.f r = some (Lib.encodeRuneZ r) := by
  obtain ⟨h1, h2, h3⟩ := h
  unfold redpencilref17_Rune.f
  have t1 : ∀ k : Int, 0 < k → Int.tdiv r k = r / k := fun k hk => Int.tdiv_eq_ediv_of_nonneg (by omega)
  have m1 : ∀ k : Int, Int.tmod r k = r % k := fun k => Int.tmod_eq_emod_of_nonneg (by omega)
  by_cases q1 : r < 128
  · rw [if_pos q1, Lib.encodeRuneZ_one (by omega) (by omega), show r % 256 = r by omega]
  · rw [if_neg q1]
    by_cases q2 : r < 2048
    · rw [if_pos q2, Lib.encodeRuneZ_two (by omega) (by omega), t1 _ (by decide), m1, w32 (n := r / 64) (by omega) (by omega), w32 (by omega) (by omega), w32 (by omega) (by omega)]
      congr 2
      · omega
      · congr 1; omega
    · rw [if_neg q2]
      by_cases q3 : r < 65536
      · rw [if_pos q3, Lib.encodeRuneZ_three (by omega), t1 _ (by decide), t1 _ (by decide), m1, w32 (n := r / 4096) (by omega) (by omega), w32 (n := r / 64) (by omega) (by omega), Int.tmod_eq_emod_of_nonneg (by omega), w32 (by omega) (by omega), w32 (by omega) (by omega), w32 (by omega) (by omega)]
        congr 2
        · omega
        · congr 1
          · omega
          · congr 1; omega
      · rw [if_neg q3, Lib.encodeRuneZ_four (by omega) (by omega), t1 _ (by decide), t1 _ (by decide), t1 _ (by decide), m1, w32 (n := r / 262144) (by omega) (by omega), w32 (n := r / 4096) (by omega) (by omega), w32 (n := r / 64) (by omega) (by omega), Int.tmod_eq_emod_of_nonneg (by omega), Int.tmod_eq_emod_of_nonneg (by omega), w32 (by omega) (by omega), w32 (by omega) (by omega), w32 (by omega) (by omega), w32 (by omega) (by omega)]
        congr 2
        · omega
        · congr 1
          · omega
          · congr 1
            · omega
            · congr 1; omega

theorem ok_in {x : S38} (h : okNode x) (d : Nat) : redpencilref17_Number.f (10 + d) (IntKind.u64.wrap x.f0.f0) = some (enc x.f0.f0.toNat) ∧ redpencilref17_Number.f (10 + d) (IntKind.u64.wrap x.f1.f0) = some (enc x.f1.f0.toNat) ∧ redpencilref17_Number.f (10 + d) (IntKind.u64.wrap x.f1.f1) = some (enc x.f1.f1.toNat) ∧
    (x.f3 = 0 → redpencilref17_Number.f (10 + d) (IntKind.u64.wrap (IntKind.u64.wrap (2 * IntKind.u64.wrap x.f2) + 1)) = some (enc (whenOf x).toNat)) ∧ (x.f3 ≠ 0 → redpencilref17_Number.f (10 + d) (IntKind.u64.wrap (2 * IntKind.u64.wrap x.f2)) = some (enc (whenOf x).toNat)) := by
  obtain ⟨⟨a1, a2, a3, a4⟩, hp, _, t1, t2, _⟩ := h
  have p0 : 0 ≤ x.f1.f0 ∧ x.f1.f0 ≤ 64 := by rcases hp with ⟨q, _⟩ | ⟨_, q, _⟩ <;> omega
  have p1 : 0 ≤ x.f1.f1 ∧ x.f1.f1 ≤ 4294967295 := by rcases hp with ⟨_, q⟩ | ⟨_, _, _, q⟩ <;> omega
  have u : ∀ n : Int, 0 ≤ n → n < 18446744073709551616 → IntKind.u64.wrap n = n := fun n h0 h1 => by rw [wrapu]; omega
  refine ⟨?_, ?_, ?_, fun h3 => ?_, fun h3 => ?_⟩
  · rw [u _ (by omega) (by omega), rnum_f _ (by omega) (by omega)]
  · rw [u _ (by omega) (by omega), rnum_f _ (by omega) (by omega)]
  · rw [u _ (by omega) (by omega), rnum_f _ (by omega) (by omega)]
  · rw [u x.f2 (by omega) (by omega), u (2 * x.f2) (by omega) (by omega), u (2 * x.f2 + 1) (by omega) (by omega), rnum_f _ (by omega) (by omega)]
    unfold whenOf
    rw [if_pos h3]
  · rw [u x.f2 (by omega) (by omega), u (2 * x.f2) (by omega) (by omega), rnum_f _ (by omega) (by omega)]
    unfold whenOf
    rw [if_neg h3, Int.add_zero]
theorem rbytes_l0 (xs : List S38) (hl : xs.length ≤ 100000) (hok : StoreOk xs) : ∀ (m i : Nat) (b tx : List Int) (last : Int), m + i = xs.length → 0 ≤ last → (i < xs.length → last ≤ (xs.getD i z38).f0.f1) → b.length ≤ 20 + 50 * i → tx.length ≤ 4 * i →
    redpencilref17_Bytes.l0 (2 * m + 12) xs b tx last (i : Int) = some (b ++ nodesBs last (xs.drop i) ++ (enc (tx ++ utf8 (textOf (xs.drop i))).length ++ (tx ++ utf8 (textOf (xs.drop i)))))
  | m, i, b, tx, last, hm, h0, hlast, hb, ht => by
    rw [show 2 * m + 12 = (2 * m + 11) + 1 by omega]
    unfold redpencilref17_Bytes.l0
    by_cases h : i < xs.length
    · obtain ⟨m, rfl⟩ : ∃ m', m = m' + 1 := ⟨m - 1, by omega⟩
      have hx := hok.1 i h
      have hla := hlast h
      have r2 : rd_T38 xs (i : Int) = xs.getD i z38 := by unfold rd_T38; rw [Int.toNat_natCast]
      have e2 : wrap64 ((i : Int) + 1) = ((i + 1 : Nat) : Int) := by rw [w64 (by omega) (by omega)]; omega
      have hd : xs.drop i = xs.getD i z38 :: xs.drop (i + 1) := by
        rw [List.getD_eq_getElem?_getD, List.getElem?_eq_getElem h]
        exact List.drop_eq_getElem_cons h
      have hnext : i + 1 < xs.length → (xs.getD i z38).f0.f1 ≤ (xs.getD (i + 1) z38).f0.f1 := fun q => by
        rcases hok.2 i q with q | ⟨q, _⟩ <;> omega
      rw [if_pos (by omega), if_pos (by omega), r2]
      have hnb := nodeBs_len last (xs.getD i z38) hx h0 hla
      generalize xs.getD i z38 = x at *
      obtain ⟨n1, n2, n3, n4, n5⟩ := ok_in hx (2 * m + 3)
      obtain ⟨k1, k2, k3, k4, k5⟩ := ok_in hx (2 * m + 2)
      have hxd := hx
      obtain ⟨⟨a1, a2, a3, a4⟩, hp, _, t1, t2, hr⟩ := hx
      have hcd : redpencilref17_Number.f (10 + (2 * m + 3)) (IntKind.u64.wrap (wrap64 (x.f0.f1 - last))) = some (enc (x.f0.f1 - last).toNat) := by
        rw [w64 (by omega) (by omega), show IntKind.u64.wrap (x.f0.f1 - last) = x.f0.f1 - last by rw [wrapu]; omega, rnum_f _ (by omega) (by omega)]
      have hlen : (headBs last x).length + (parBs x).length + (enc (whenOf x).toNat).length ≤ 50 := by
        have := hnb
        unfold nodeBs at this
        simp only [List.length_append] at this
        omega
      have hh : (headBs last x).length = (enc x.f0.f0.toNat).length + (enc (x.f0.f1 - last).toNat).length + (enc x.f1.f0.toNat).length := by unfold headBs; simp only [List.length_append]
      rw [show 2 * (m + 1) + 11 = 10 + (2 * m + 3) by omega, n1, hcd, n2]
      simp only [Option.bind_some]
      rw [if_pos (by omega), if_pos (by rw [List.length_append]; omega), if_pos (by simp only [List.length_append]; omega)]
      have hj : ∀ y, y = b ++ headBs last x ++ parBs x → redpencilref17_Bytes.j1 (10 + (2 * m + 3)) xs y tx x.f0.f1 (i : Int) x.f0.f0 x.f0.f1 x.f1.f0 x.f1.f1 x.f2 x.f3 = some (b ++ nodesBs last (xs.drop i) ++ (enc (tx ++ utf8 (textOf (xs.drop i))).length ++ (tx ++ utf8 (textOf (xs.drop i))))) := fun y hy => by
        have hyl : y.length = b.length + (headBs last x).length + (parBs x).length := by rw [hy]; simp only [List.length_append]
        rw [show 10 + (2 * m + 3) = (10 + (2 * m + 2)) + 1 by omega]
        unfold redpencilref17_Bytes.j1
        rw [hd, e2]
        by_cases h3 : x.f3 = 0
        · rw [if_pos h3, k4 h3]
          simp only [Option.bind_some]
          rw [if_pos (by omega), show 10 + (2 * m + 2) = 2 * m + 12 by omega, rbytes_l0 xs hl hok m (i + 1) _ tx _ (by omega) (by omega) hnext (by rw [List.length_append]; omega) (by omega)]
          have ht0 : textOf (x :: xs.drop (i + 1)) = textOf (xs.drop (i + 1)) := by unfold textOf; simp [h3]
          rw [ht0, hy]
          simp only [nodesBs, nodeBs, List.append_assoc]
        · have hor := hr.resolve_left h3
          have hrl := rune_len x.f3
          rw [if_neg h3, k5 h3]
          simp only [Option.bind_some]
          rw [if_pos (by omega), rrune_b _ hor]
          simp only [Option.bind_some]
          rw [if_pos (by omega), show 10 + (2 * m + 2) = 2 * m + 12 by omega, rbytes_l0 xs hl hok m (i + 1) _ _ _ (by omega) (by omega) hnext (by rw [List.length_append]; omega) (by rw [List.length_append]; omega)]
          have ht0 : textOf (x :: xs.drop (i + 1)) = x.f3 :: textOf (xs.drop (i + 1)) := by unfold textOf; simp [h3]
          have hu : utf8 (x.f3 :: textOf (xs.drop (i + 1))) = Lib.encodeRuneZ x.f3 ++ utf8 (textOf (xs.drop (i + 1))) := rfl
          rw [ht0, hu, hy]
          simp only [nodesBs, nodeBs, List.append_assoc]
      by_cases h4 : x.f1.f0 = 0
      · rw [if_pos h4]
        exact hj _ (by unfold headBs parBs; rw [if_pos h4]; simp only [List.append_assoc, List.append_nil])
      · have hpb : (parBs x) = enc x.f1.f1.toNat := if_neg h4
        rw [if_neg h4, n3]
        simp only [Option.bind_some]
        rw [if_pos (by rw [hpb] at hlen; simp only [List.length_append]; omega)]
        exact hj _ (by rw [hpb]; unfold headBs; simp only [List.append_assoc])
    · have hi : xs.length ≤ i := by omega
      have ht8 : IntKind.u64.wrap (tx.length : Int) = tx.length := by rw [wrapu]; omega
      have he := enc_length64 (n := tx.length) (by omega)
      rw [if_neg (by omega), show 2 * m + 11 = 10 + (2 * m + 1) by omega, ht8, rnum_f _ (by omega) (by omega), Int.toNat_natCast]
      simp only [Option.bind_some]
      rw [if_pos (by omega), if_pos (by rw [List.length_append]; omega), List.drop_of_length_le hi]
      simp [nodesBs, textOf, utf8]
theorem rbytes_f (xs : List S38) (hl : xs.length ≤ 65536) (hok : StoreOk xs) : redpencilref17_Bytes.f (2 * xs.length + 12) xs = some (canonBs xs) := by
  unfold redpencilref17_Bytes.f
  have hlw : IntKind.u64.wrap (xs.length : Int) = xs.length := by rw [wrapu]; omega
  have he := enc_length64 (n := xs.length) (by omega)
  rw [show 2 * xs.length + 12 = 10 + (2 * xs.length + 2) by omega, hlw, rnum_f _ (by omega) (by omega), Int.toNat_natCast]
  simp only [Option.bind_some]
  have := rbytes_l0 xs (by omega) hok xs.length 0 (enc xs.length) [] 0 (by omega) (by omega) (fun h => by have := (hok.1 0 h).1; have := this.2.2.1; omega) (by omega) (by simp)
  rw [show 10 + (2 * xs.length + 2) = 2 * xs.length + 12 by omega]
  simpa [canonBs] using this
end Go.Proofs.Ytfbjbajbjlcjfaa.Cn
