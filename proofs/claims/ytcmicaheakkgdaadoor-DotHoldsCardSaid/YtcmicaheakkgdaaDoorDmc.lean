/- What the printed functions of dot and of its reference compute (layer 4). -/
/- Layer 4, plain law: the examples of the chapter. -/
import Derived.Test.YtcmicaheakkgdaaDoorDmb
import Derived.Test.YtcmicaheakkgdaaDoorPAllx3
import Derived.Test.YtcmicaheakkgdaaDoorPAllx3k
namespace Go.Proofs.YtcmicaheakkgdaaDoor.Dl
open Go Go.RowKit Go.Proofs Go.Proofs.YtcmicaheakkgdaaDoorW.PrintWords Go.Proofs.YtcmicaheakkgdaaDoor.PAll Go.Proofs.YtcmicaheakkgdaaDoor.Dx
set_option linter.unusedSimpArgs false
set_option linter.unusedVariables false

theorem valid_val (r c : Int) : dot_Valid.f r c = some (decide (okDot r c)) := by
  unfold dot_Valid.f
  by_cases h1 : r ≥ 1
  · rw [if_pos h1]
    by_cases h2 : r ≤ 64
    · rw [if_pos h2]
      by_cases h3 : c ≥ 1
      · rw [if_pos h3]; congr 1; exact decide_eq_decide.2 (by unfold okDot; omega)
      · rw [if_neg h3, decide_eq_false (by unfold okDot; omega)]
    · rw [if_neg h2, decide_eq_false (by unfold okDot; omega)]
  · rw [if_neg h1, decide_eq_false (by unfold okDot; omega)]
theorem root_val (r c : Int) : dot_Root.f r c = some (decide (r = 0 ∧ c = 0)) := by
  unfold dot_Root.f
  congr 1
  by_cases a : r = 0 <;> by_cases b : c = 0 <;> simp [a, b]
theorem ne_dots (x y : S23) : ((!(x.f0 == y.f0)) || (!(x.f1 == y.f1))) = decide (x ≠ y) := by
  rw [← Bool.not_and, eq_dots]
  by_cases h : x = y <;> simp [h]
theorem same_l0 (l m : List S23) (hl : l.length ≤ 1000000) (hlm : l.length = m.length) : ∀ (n i : Nat), i + n = l.length → ∀ k, n < k → redpencilref04_Same.l0 k l m (i : Int) = some (decide (l.drop i = m.drop i))
  | n, i, h, 0, hk => absurd hk (Nat.not_lt_zero _)
  | 0, i, h, k + 1, _ => by
    rw [redpencilref04_Same.l0, if_neg (by omega), List.drop_of_length_le (by omega), List.drop_of_length_le (by omega)]
    simp
  | n + 1, i, h, k + 1, hk => by
    have hi : i < l.length := by omega
    have hi2 : i < m.length := by omega
    rw [redpencilref04_Same.l0, if_pos (by omega), if_pos (by omega), if_pos (by omega), rdN, rdN, getDN l i hi, getDN m i hi2, ne_dots, wi (by omega)]
    rw [List.drop_eq_getElem_cons hi, List.drop_eq_getElem_cons hi2]
    by_cases q : l[i] = m[i]
    · rw [if_neg (by simp [q]), same_l0 l m hl hlm n (i + 1) (by omega) k (by omega)]
      congr 1
      exact decide_eq_decide.2 ⟨fun p => by rw [q, p], fun p => (List.cons.inj p).2⟩
    · rw [if_pos (decide_eq_true q), decide_eq_false (fun p => q (List.cons.inj p).1)]
theorem same_val (l m : List S23) (hl : l.length ≤ 1000000) (k : Nat) (hk : l.length < k) : redpencilref04_Same.f k l m = some (decide (l = m)) := by
  unfold redpencilref04_Same.f
  by_cases h : l.length = m.length
  · rw [if_pos (by omega)]
    exact same_l0 l m hl h l.length 0 (by omega) k hk
  · rw [if_neg (by omega), decide_eq_false (fun q => h (by rw [q]))]
/-- A list is in order from a place on. -/
theorem srt_from (l : List S23) : Srt l ↔ ∀ i, 1 ≤ i → (h : i < l.length) → ltD (l[i - 1]'(by omega)) l[i] := by
  constructor
  · intro hs i h1 h
    exact List.pairwise_iff_getElem.1 hs (i - 1) i (by omega) h (by omega)
  · intro hs
    have key : ∀ (d i : Nat) (h : i + d + 1 < l.length), ltD (l[i]'(by omega)) l[i + d + 1] := by
      intro d
      induction d with
      | zero => intro i h; exact hs (i + 1) (by omega) h
      | succ d ih =>
        intro i h
        exact lt_trans (ih i (by omega)) (hs (i + (d + 1) + 1) (by omega) h)
    refine List.pairwise_iff_getElem.2 fun i j hi hj hij => ?_
    have := key (j - i - 1) i (by omega)
    have e : i + (j - i - 1) + 1 = j := by omega
    simp only [e] at this
    exact this
theorem cmp_at (k : Nat) (x y : S23) : dot_Compare.f (k + 3) x.f0 x.f1 y.f0 y.f1 = some (cmpD x y) := cmp_val k x.f0 x.f1 y.f0 y.f1
theorem isset_l0 (l : List S23) (hl : l.length ≤ 1000000) : ∀ (n i : Nat), 1 ≤ i → i + n = l.length ∨ (n = 0 ∧ l.length < i ∧ i ≤ 1000000) → (∀ j, 1 ≤ j → j < i → (h : j < l.length) → ltD (l[j - 1]'(by omega)) l[j]) → ∀ k, n + 3 < k → dot_IsSet.l0 k l (i : Int) = some (decide (Srt l))
  | n, i, h1, h, hs, 0, hk => absurd hk (Nat.not_lt_zero _)
  | 0, i, h1, h, hs, k + 1, _ => by
    rw [dot_IsSet.l0, if_neg (by omega), decide_eq_true]
    exact (srt_from l).2 fun j q1 q2 => hs j q1 (by omega) q2
  | n + 1, i, h1, h, hs, k + 1, hk => by
    have hi : i < l.length := by omega
    have e1 : wrap64 ((i : Int) - 1) = ((i - 1 : Nat) : Int) := by rw [w64 (by omega) (by omega)]; omega
    obtain ⟨kk, rfl⟩ : ∃ kk, k = kk + 3 := ⟨k - 3, by omega⟩
    rw [dot_IsSet.l0, if_pos (by omega), e1, if_pos (by omega), if_pos (by omega), if_pos (by omega), rdN, rdN, getDN l i hi, getDN l (i - 1) (by omega), cmp_at, Option.bind_some, wi (by omega)]
    by_cases q : ltD (l[i - 1]'(by omega)) l[i]
    · rw [if_neg (by have := (cmpD_neg (l[i - 1]'(by omega)) l[i]).2 q; omega)]
      exact isset_l0 l hl n (i + 1) (by omega) (by omega) (fun j a b c => by
        by_cases e : j = i
        · subst e; exact q
        · exact hs j a (by omega) c) (kk + 3) (by omega)
    · rw [if_pos (by have := mt (cmpD_neg (l[i - 1]'(by omega)) l[i]).1 q; omega), decide_eq_false]
      exact fun p => q ((srt_from l).1 p i h1 hi)
theorem isset_val (l : List S23) (hl : l.length ≤ 100000) (k : Nat) (hk : l.length + 3 < k) : dot_IsSet.f k l = some (decide (Srt l)) := by
  unfold dot_IsSet.f
  exact isset_l0 l (by omega) (l.length - 1) 1 (by omega) (by omega) (fun j a b _ => by omega) k (by omega)
theorem idx_l0 (l : List S23) (x : S23) (hl : l.length ≤ 1000000) : ∀ (n i : Nat), i + n = l.length → ∀ k, n < k → ∃ r, api_Dot_51.l0 k l (l.length : Int) (i : Int) x.f0 x.f1 = some r ∧ (r ≥ 0 ↔ x ∈ l.drop i)
  | n, i, h, 0, hk => absurd hk (Nat.not_lt_zero _)
  | 0, i, h, k + 1, _ => ⟨-1, by rw [api_Dot_51.l0, if_neg (by omega)], by rw [List.drop_of_length_le (by omega)]; simp⟩
  | n + 1, i, h, k + 1, hk => by
    have hi : i < l.length := by omega
    rw [api_Dot_51.l0, if_pos (by omega), if_pos (by omega), if_pos (by omega), rdN, getDN l i hi, eq_dots, wi (by omega), List.drop_eq_getElem_cons hi]
    by_cases q : x = l[i]
    · rw [if_pos (decide_eq_true q)]
      exact ⟨i, rfl, by rw [← q]; simp⟩
    · rw [if_neg (by simp [q])]
      obtain ⟨r, e, hr⟩ := idx_l0 l x hl n (i + 1) (by omega) k (by omega)
      refine ⟨r, e, hr.trans ?_⟩
      rw [List.mem_cons]
      constructor
      · exact Or.inr
      · rintro (p | p)
        · exact absurd p q
        · exact p
theorem dhas_val (l : List S23) (x : S23) (hl : l.length ≤ 1000000) (k : Nat) (hk : l.length < k) : dot_Has.f k l x.f0 x.f1 = some (decide (x ∈ l)) := by
  unfold dot_Has.f api_Dot_38.f api_Dot_51.f
  obtain ⟨r, e, hr⟩ := idx_l0 l x hl l.length 0 (by omega) k hk
  rw [show ((0 : Nat) : Int) = 0 from rfl] at e
  rw [e, Option.bind_some, Option.bind_some]
  congr 1
  rw [List.drop_zero] at hr
  exact decide_eq_decide.2 hr
theorem toL_eq (a b : ByteArray) : a.toList = b.toList ↔ a = b := ⟨fun q => ByteArray.ext (Array.toList_inj.1 (by rw [← Lib.toList_data, ← Lib.toList_data]; exact q)), fun q => by rw [q]⟩
theorem texts_val (r c : Int) (s : ByteArray) (e : Int) : redpencillaw04_texts.f r c s e = some (decide (dotT r c = (s, e))) := by
  unfold redpencillaw04_texts.f dot_Text.f
  rw [Option.bind_some]
  generalize dotT r c = p
  obtain ⟨p1, p2⟩ := p
  by_cases h : p1 = s
  · subst h
    rw [if_pos rfl]
    by_cases k : p2 = e <;> simp [k]
  · rw [if_neg (fun q => h ((toL_eq _ _).1 q)), decide_eq_false (fun q => h (by injection q))]
theorem parses_val (s : ByteArray) (hs : s.size ≤ 1000000) (r c e : Int) : redpencillaw04_parses.f s r c e = some (decide (dotP s = (r, c, e))) := by
  unfold redpencillaw04_parses.f dot_Parse.f
  rw [if_pos hs, Option.bind_some]
  generalize dotP s = p
  obtain ⟨p1, p2, p3⟩ := p
  by_cases h1 : p1 = r <;> by_cases h2 : p2 = c <;> by_cases h3 : p3 = e <;> simp [h1, h2, h3]
end Go.Proofs.YtcmicaheakkgdaaDoor.Dl

namespace Go.Proofs.YtcmicaheakkgdaaDoor.Dl
open Go Go.RowKit Go.Proofs Go.Proofs.YtcmicaheakkgdaaDoorW.PrintWords Go.Proofs.YtcmicaheakkgdaaDoor.PAll Go.Proofs.YtcmicaheakkgdaaDoor.Dx
set_option linter.unusedSimpArgs false
set_option linter.unusedVariables false

theorem cv {k : Nat} (hk : 3 ≤ k) (a b c d v : Int) (h : cmpD ⟨a, b⟩ ⟨c, d⟩ = v) : dot_Compare.f k a b c d = some v := by
  obtain ⟨j, rfl⟩ : ∃ j, k = j + 3 := ⟨k - 3, by omega⟩
  rw [cmp_val, h]
theorem sv {k : Nat} (l : List S23) (b : Bool) (hl : l.length + 3 < k) (hl2 : l.length ≤ 100000) (h : decide (Srt l) = b) : dot_IsSet.f k l = some b := by rw [isset_val l hl2 k hl, h]
theorem pv (s : ByteArray) (r c e : Int) (hs : s.size ≤ 1000000) (h : dotP s = (r, c, e)) : redpencillaw04_parses.f s r c e = some true := by rw [parses_val s hs, decide_eq_true h]
theorem dt37 : dtL 3 7 = [51, 46, 55] := by
  unfold dtL
  rw [if_neg (by decide)]
  show Lib.decDigits 3 ++ 46 :: Lib.decDigits 7 = _
  rw [dec_one (by decide), dec_one (by decide)]
  rfl
theorem p_bad (s : ByteArray) (a b : List UInt8) (k : Bool) (hc : Lib.cut s.data.toList [46] = (a, b, k)) (h0 : s.data.toList ≠ rootL) (h : ¬ okDot (decV a) (decV b)) : dotP s = (0, 0, 6) := by
  unfold dotP
  rw [if_neg h0, hc, if_neg (fun q => h q.1)]
theorem known_true (m : Nat) : redpencillaw04_known.f (m + 20) = some true := by
  have k2 : redpencillaw04_known.j2 (m + 18) false 3 7 0 0 = some true := by
    rw [redpencillaw04_known.j2, if_neg (by decide), pv _ 3 7 0 (by decide) (by
      rw [show (⟨#[51, 46, 55]⟩ : ByteArray) = dtP 3 7 from by unfold dtP; rw [dt37]]
      exact dotP_yes (by decide)), Option.bind_some, if_pos rfl]
    rw [pv ⟨#[114, 111, 111, 116]⟩ 0 0 0 (by decide) dotP_root, Option.bind_some, if_pos rfl]
    rw [pv _ 0 0 6 (by decide) (p_bad _ [48] [48] true (by decide) (by decide) (by decide)), Option.bind_some, if_pos rfl]
    unfold redpencillaw04_of.f
    rw [Option.bind_some, texts_val, decide_eq_true (show dotT 65 1 = (⟨#[]⟩, 2) from if_neg (by decide)), Option.bind_some, if_pos rfl]
    rw [pv _ 0 0 6 (by decide) (by
      unfold dotP
      rw [if_neg (by decide), if_neg]
      rintro ⟨_, q⟩
      have hc : Lib.cut [48, 51, 46, 55] [46] = ([48, 51], [55], true) := by decide
      have hc : Lib.cut (⟨#[48, 51, 46, 55]⟩ : ByteArray).data.toList [46] = ([48, 51], [55], true) := hc
      rw [hc] at q
      have q : dtL 3 7 = [48, 51, 46, 55] := q
      rw [dt37] at q
      exact absurd q (by decide)), Option.bind_some, if_pos rfl]
    rw [pv _ 0 0 6 (by decide) (p_bad _ [51] [52, 50, 57, 52, 57, 54, 55, 50, 57, 54] true (by decide) (by decide) (by decide)), Option.bind_some, if_pos rfl]
    rw [pv _ 0 0 6 (by decide) (p_bad _ [51] [] false (by decide) (by decide) (by decide)), Option.bind_some]
  have k1 : redpencillaw04_known.j1 (m + 19) false 3 7 0 0 = some true := by
    rw [redpencillaw04_known.j1, if_neg (by decide)]
    unfold redpencillaw04_of.f
    rw [Option.bind_some, valid_val, decide_eq_true (by decide), Option.bind_some, if_pos rfl, Option.bind_some, valid_val, decide_eq_false (by decide), Option.bind_some, if_neg (by decide), Option.bind_some, valid_val, decide_eq_false (by decide), Option.bind_some, if_neg (by decide), valid_val, decide_eq_false (by decide), Option.bind_some, if_neg (by decide), root_val, decide_eq_true (by decide), Option.bind_some]
    exact k2
  have s0 : setD [(⟨5, 7⟩ : S23), ⟨3, 7⟩, ⟨5, 6⟩, ⟨3, 7⟩] = [⟨5, 6⟩, ⟨3, 7⟩, ⟨5, 7⟩] := by decide
  have u0 : unionD [(⟨5, 7⟩ : S23), ⟨3, 7⟩] [⟨5, 6⟩, ⟨3, 7⟩] = [⟨5, 6⟩, ⟨3, 7⟩, ⟨5, 7⟩] := by decide
  have m0 : minusD [(⟨5, 7⟩ : S23), ⟨3, 7⟩] [⟨5, 6⟩, ⟨3, 7⟩] = [⟨5, 7⟩] := by decide
  have k0 : redpencillaw04_known.j0 (m + 20) false 3 7 5 6 5 7 0 0 = some true := by
    rw [redpencillaw04_known.j0, if_neg (by decide), Option.bind_some, Option.bind_some, Option.bind_some]
    rw [show dot_Set.f [(⟨5, 7⟩ : S23), ⟨3, 7⟩, ⟨5, 6⟩, ⟨3, 7⟩] = some [⟨5, 6⟩, ⟨3, 7⟩, ⟨5, 7⟩] from by unfold dot_Set.f; rw [if_pos (by decide), s0], Option.bind_some, same_val _ _ (by decide) _ (by simp), decide_eq_true rfl, Option.bind_some, if_pos rfl]
    rw [show dot_Union.f [(⟨5, 7⟩ : S23), ⟨3, 7⟩] [⟨5, 6⟩, ⟨3, 7⟩] = some [⟨5, 6⟩, ⟨3, 7⟩, ⟨5, 7⟩] from by unfold dot_Union.f; rw [if_pos (by decide), u0], Option.bind_some, same_val _ _ (by decide) _ (by simp), decide_eq_true rfl, Option.bind_some, if_pos rfl]
    rw [show dot_Minus.f [(⟨5, 7⟩ : S23), ⟨3, 7⟩] [⟨5, 6⟩, ⟨3, 7⟩] = some [⟨5, 7⟩] from by unfold dot_Minus.f; rw [if_pos (by decide), m0], Option.bind_some, same_val _ _ (by decide) _ (by simp), decide_eq_true rfl, Option.bind_some, if_pos rfl]
    rw [dhas_val _ ⟨3, 7⟩ (by decide) _ (by simp), decide_eq_true (by decide), Option.bind_some]
    exact k1
  unfold redpencillaw04_known.f redpencillaw04_of.f
  simp only [Option.bind_some]
  rw [cv (by omega) 3 7 5 6 1 (by decide), Option.bind_some, if_pos rfl, cv (by omega) 3 7 5 7 (-1) (by decide), Option.bind_some, if_pos rfl, cv (by omega) 3 7 3 7 0 (by decide), Option.bind_some, if_pos rfl, cv (by omega) 0 0 1 1 (-1) (by decide), Option.bind_some, if_pos rfl]
  rw [sv _ true (by simp) (by decide) (by decide), Option.bind_some, if_pos rfl, sv _ false (by simp) (by decide) (by decide), Option.bind_some, if_neg (by decide), sv _ true (by simp) (by decide) (by decide), Option.bind_some]
  exact k0
theorem known_f {k : Nat} (h : 20 ≤ k) : redpencillaw04_known.f k = some true := by
  obtain ⟨m, rfl⟩ : ∃ m, k = m + 20 := ⟨k - 20, by omega⟩
  exact known_true m
theorem then_known {k : Nat} (h : 20 ≤ k) : ((redpencillaw04_known.f k).bind fun t => some t) = some true := by rw [known_f h]; rfl
end Go.Proofs.YtcmicaheakkgdaaDoor.Dl
