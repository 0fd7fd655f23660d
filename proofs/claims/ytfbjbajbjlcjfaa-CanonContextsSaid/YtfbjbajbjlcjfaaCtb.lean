/- Layer 17, plain law: the reference's Compact, and CanonContexts. -/
import Derived.Test.YtfbjbajbjlcjfaaCta
import Derived.Test.YtfbjbajbjlcjfaaCfs
import Derived.Test.YtfbjbajbjlcjfaaPCanonStatesx6
import Derived.Test.YtfbjbajbjlcjfaaPCanonStatesx15
import Derived.Test.YtfbjbajbjlcjfaaPCanonStatesx14
import Derived.Test.YtfbjbajbjlcjfaaPCanonStatesx20
namespace Go.Proofs.Ytfbjbajbjlcjfaa.Cn
open Go Go.RowKit Go.Proofs Go.Proofs.Ytfbjbajbjlcjfaa.PCanonStates Go.Proofs.YtfbjbajbjlcjfaaW.PrintWords
set_option linter.unusedSimpArgs false
set_option linter.unusedVariables false

theorem rd36 (xs : List S36) (i : Nat) : rd_T36 xs (i : Int) = xs.getD i z36 := by unfold rd_T36; rw [Int.toNat_natCast]
theorem drop36 {l : List S36} {i : Nat} (h : i < l.length) : l.drop i = l.getD i z36 :: l.drop (i + 1) := by
  rw [List.drop_eq_getElem_cons h, List.getD_eq_getElem?_getD, List.getElem?_eq_getElem h]; rfl
theorem last_l0 (ds : List S36) (r : Int) (hl : ds.length ≤ 1000000) : ∀ (m i : Nat), m + i = ds.length → redpencilref14_Last.l0 (m + 1) ds r (i : Int) = some (getV (ds.drop i) r)
  | m, i, hm => by
    unfold redpencilref14_Last.l0
    by_cases h : i < ds.length
    · obtain ⟨m, rfl⟩ : ∃ m', m = m' + 1 := ⟨m - 1, by omega⟩
      rw [if_pos (by omega), if_pos (by omega), rd36, drop36 h]
      show _ = some (if (ds.getD i z36).f0 = r then (ds.getD i z36).f1 else getV (ds.drop (i + 1)) r)
      by_cases h2 : (ds.getD i z36).f0 = r
      · rw [if_pos h2, if_pos h2]
      · rw [if_neg h2, if_neg h2, show wrap64 ((i : Int) + 1) = ((i + 1 : Nat) : Int) by rw [w64 (by omega) (by omega)]; omega]
        exact last_l0 ds r hl m (i + 1) (by omega)
    · rw [if_neg (by omega), List.drop_eq_nil_of_le (by omega)]
      rfl
theorem last_f (ds : List S36) (r : Int) (hl : ds.length ≤ 1000000) {k : Nat} (hk : ds.length + 1 ≤ k) : redpencilref14_Last.f k ds r = some (getV ds r) :=
  leO_up (redpencilref14_Last.mono ds r) (show redpencilref14_Last.f (ds.length + 1) ds r = some (getV ds r) from last_l0 ds r hl ds.length 0 rfl) k hk
theorem getV_bound : ∀ (ds : List S36) (r : Int), (∀ x ∈ ds, okDot x.f0 x.f1) → 0 ≤ getV ds r ∧ getV ds r ≤ 4294967295
  | [], r, _ => by unfold getV; omega
  | x :: xs, r, h => by
    unfold getV
    split
    · have := h x List.mem_cons_self
      unfold okDot at this
      omega
    · exact getV_bound xs r (fun y hy => h y (List.mem_cons_of_mem _ hy))
theorem at36 {P : S36 → Prop} {ds : List S36} : (∀ j, j < ds.length → P (ds.getD j z36)) ↔ ∀ x ∈ ds, P x := by
  constructor
  · intro h x hx
    obtain ⟨j, hj, rfl⟩ := List.getElem_of_mem hx
    have := h j hj
    rwa [List.getD_eq_getElem?_getD, List.getElem?_eq_getElem hj] at this
  · intro h j hj
    rw [List.getD_eq_getElem?_getD, List.getElem?_eq_getElem hj]
    exact h _ (List.getElem_mem hj)
def CloudOk (vs cl : List S36) : Prop := (∀ j, j < cl.length → okDot (cl.getD j z36).f0 (cl.getD j z36).f1) ∧ (∀ j, j + 1 < cl.length → before (cl.getD j z36) (cl.getD (j + 1) z36)) ∧ ∀ j, j < cl.length → ¬ (cl.getD j z36).f1 ≤ getV vs (cl.getD j z36).f0 + 1
def VectOk (vs : List S36) : Prop := (∀ j, j < vs.length → okDot (vs.getD j z36).f0 (vs.getD j z36).f1) ∧ ∀ j, j + 1 < vs.length → (vs.getD j z36).f0 < (vs.getD (j + 1) z36).f0
theorem compact_iff (vs cl : List S36) : CompactOk vs cl ↔ VectOk vs ∧ CloudOk vs cl := by
  unfold CompactOk CtxOk VecOk VectOk CloudOk Inc
  rw [at36 (P := fun x => okDot x.f0 x.f1) (ds := vs), at36 (P := fun x => okDot x.f0 x.f1) (ds := cl), at36 (P := fun x => ¬ x.f1 ≤ getV vs x.f0 + 1) (ds := cl)]
  constructor
  · rintro ⟨⟨⟨h1, h2⟩, h3, h4⟩, h5⟩
    exact ⟨⟨h2, h1⟩, h4, h3, h5⟩
  · rintro ⟨⟨h2, h1⟩, h4, h3, h5⟩
    exact ⟨⟨⟨h1, h2⟩, h3, h4⟩, h5⟩
theorem upto {P : Nat → Prop} {i : Nat} (h : ∀ j, j < i → P j) (hi : P i) : ∀ j, j < i + 1 → P j := fun j hj => by
  rcases Nat.lt_or_ge j i with q | q
  · exact h j q
  · obtain rfl : j = i := by omega
    exact hi
theorem upto1 {P : Nat → Prop} {i : Nat} (h : ∀ j, j + 1 < i → P j) (hi : ∀ j, j + 1 = i → P j) : ∀ j, j + 1 < i + 1 → P j := fun j hj => by
  rcases Nat.lt_or_ge (j + 1) i with q | q
  · exact h j q
  · exact hi j (by omega)
theorem compact_l1 (vs cl : List S36) (hv : ∀ x ∈ vs, okDot x.f0 x.f1) (lv : vs.length ≤ 1000000) (lc : cl.length ≤ 1000000) : ∀ (m i : Nat), m + i = cl.length →
    (∀ j, j < i → okDot (cl.getD j z36).f0 (cl.getD j z36).f1) → (∀ j, j + 1 < i → before (cl.getD j z36) (cl.getD (j + 1) z36)) → (∀ j, j < i → ¬ (cl.getD j z36).f1 ≤ getV vs (cl.getD j z36).f0 + 1) →
    ∃ b, redpencilref14_Compact.l1 (m + vs.length + 3) (i : Int) vs cl = some b ∧ (b = true ↔ CloudOk vs cl)
  | m, i, hm, h1, h2, h3 => by
    rw [show m + vs.length + 3 = (m + vs.length + 2) + 1 by omega, redpencilref14_Compact.l1]
    by_cases h : i < cl.length
    · obtain ⟨m, rfl⟩ : ∃ m', m = m' + 1 := ⟨m - 1, by omega⟩
      have e2 : wrap64 ((i : Int) + 1) = ((i + 1 : Nat) : Int) := by rw [w64 (by omega) (by omega)]; omega
      have hg := getV_bound vs (cl.getD i z36).f0 hv
      have e3 : wrap64 (getV vs (cl.getD i z36).f0 + 1) = getV vs (cl.getD i z36).f0 + 1 := by rw [w64 (by omega) (by omega)]
      rw [if_pos (by omega), if_pos (by omega), rd36, e2, rdot_f, last_f vs _ lv (by omega)]
      simp only [Option.bind_some, decide_eq_true_eq]
      rw [e3]
      by_cases q1 : okDot (cl.getD i z36).f0 (cl.getD i z36).f1
      · rw [if_pos q1]
        have g1 := upto (P := fun j => okDot (cl.getD j z36).f0 (cl.getD j z36).f1) h1 q1
        by_cases h4 : 0 < i
        · have e1 : wrap64 ((i : Int) - 1) = ((i - 1 : Nat) : Int) := by rw [w64 (by omega) (by omega)]; omega
          rw [if_pos (by omega), e1, if_pos (by omega), if_pos (by omega), rd36, rbefore_f]
          simp only [Option.bind_some, decide_eq_true_eq]
          by_cases q2 : before (cl.getD (i - 1) z36) (cl.getD i z36)
          · rw [if_pos q2]
            have g2 := upto1 (P := fun j => before (cl.getD j z36) (cl.getD (j + 1) z36)) h2 (fun j hj => by
              obtain rfl : j = i - 1 := by omega
              show before _ (cl.getD (i - 1 + 1) z36)
              rw [show i - 1 + 1 = i by omega]; exact q2)
            by_cases q3 : (cl.getD i z36).f1 ≤ getV vs (cl.getD i z36).f0 + 1
            · rw [if_pos q3]
              exact ⟨false, rfl, ⟨fun q => absurd q (by simp), fun q => absurd q3 (q.2.2 i h)⟩⟩
            · rw [if_neg q3, show m + 1 + vs.length + 2 = m + vs.length + 3 by omega]
              exact compact_l1 vs cl hv lv lc m (i + 1) (by omega) g1 g2 (upto (P := fun j => ¬ (cl.getD j z36).f1 ≤ getV vs (cl.getD j z36).f0 + 1) h3 q3)
          · rw [if_neg q2]
            refine ⟨false, rfl, ⟨fun q => absurd q (by simp), fun q => ?_⟩⟩
            have := q.2.1 (i - 1) (by omega)
            rw [show i - 1 + 1 = i by omega] at this
            exact absurd this q2
        · rw [if_neg (by omega)]
          by_cases q3 : (cl.getD i z36).f1 ≤ getV vs (cl.getD i z36).f0 + 1
          · rw [if_pos q3]
            exact ⟨false, rfl, ⟨fun q => absurd q (by simp), fun q => absurd q3 (q.2.2 i h)⟩⟩
          · rw [if_neg q3, show m + 1 + vs.length + 2 = m + vs.length + 3 by omega]
            exact compact_l1 vs cl hv lv lc m (i + 1) (by omega) g1 (fun j hj => by omega) (upto (P := fun j => ¬ (cl.getD j z36).f1 ≤ getV vs (cl.getD j z36).f0 + 1) h3 q3)
      · rw [if_neg q1]
        exact ⟨false, rfl, ⟨fun q => absurd q (by simp), fun q => absurd (q.1 i h) q1⟩⟩
    · rw [if_neg (by omega)]
      exact ⟨true, rfl, ⟨fun _ => ⟨fun j hj => h1 j (by omega), fun j hj => h2 j (by omega), fun j hj => h3 j (by omega)⟩, fun _ => rfl⟩⟩
theorem compact_l0 (vs cl : List S36) (lv : vs.length ≤ 1000000) (lc : cl.length ≤ 1000000) : ∀ (m i : Nat), m + i = vs.length →
    (∀ j, j < i → okDot (vs.getD j z36).f0 (vs.getD j z36).f1) → (∀ j, j + 1 < i → (vs.getD j z36).f0 < (vs.getD (j + 1) z36).f0) →
    ∃ b, redpencilref14_Compact.l0 (m + cl.length + vs.length + 4) (i : Int) vs cl = some b ∧ (b = true ↔ CompactOk vs cl)
  | m, i, hm, h1, h2 => by
    rw [show m + cl.length + vs.length + 4 = (m + cl.length + vs.length + 3) + 1 by omega, redpencilref14_Compact.l0]
    by_cases h : i < vs.length
    · obtain ⟨m, rfl⟩ : ∃ m', m = m' + 1 := ⟨m - 1, by omega⟩
      have e2 : wrap64 ((i : Int) + 1) = ((i + 1 : Nat) : Int) := by rw [w64 (by omega) (by omega)]; omega
      rw [if_pos (by omega), if_pos (by omega), rd36, e2, rdot_f]
      simp only [Option.bind_some, decide_eq_true_eq]
      by_cases q1 : okDot (vs.getD i z36).f0 (vs.getD i z36).f1
      · rw [if_pos q1]
        have g1 := upto (P := fun j => okDot (vs.getD j z36).f0 (vs.getD j z36).f1) h1 q1
        by_cases h4 : 0 < i
        · have e1 : wrap64 ((i : Int) - 1) = ((i - 1 : Nat) : Int) := by rw [w64 (by omega) (by omega)]; omega
          rw [if_pos (by omega), e1, if_pos (by omega), if_pos (by omega), rd36]
          by_cases q2 : (vs.getD (i - 1) z36).f0 ≥ (vs.getD i z36).f0
          · rw [if_pos q2]
            refine ⟨false, rfl, ⟨fun q => absurd q (by simp), fun q => ?_⟩⟩
            have := ((compact_iff vs cl).1 q).1.2 (i - 1) (by omega)
            rw [show i - 1 + 1 = i by omega] at this
            omega
          · rw [if_neg q2, show m + 1 + cl.length + vs.length + 3 = m + cl.length + vs.length + 4 by omega]
            exact compact_l0 vs cl lv lc m (i + 1) (by omega) g1 (upto1 (P := fun j => (vs.getD j z36).f0 < (vs.getD (j + 1) z36).f0) h2 (fun j hj => by
              obtain rfl : j = i - 1 := by omega
              show _ < (vs.getD (i - 1 + 1) z36).f0
              rw [show i - 1 + 1 = i by omega]; omega))
        · rw [if_neg (by omega), show m + 1 + cl.length + vs.length + 3 = m + cl.length + vs.length + 4 by omega]
          exact compact_l0 vs cl lv lc m (i + 1) (by omega) g1 (fun j hj => by omega)
      · rw [if_neg q1]
        exact ⟨false, rfl, ⟨fun q => absurd q (by simp), fun q => absurd (((compact_iff vs cl).1 q).1.1 i h) q1⟩⟩
    · rw [if_neg (by omega)]
      obtain rfl : m = 0 := by omega
      have hv : ∀ x ∈ vs, okDot x.f0 x.f1 := at36.1 (fun j hj => h1 j (by omega))
      obtain ⟨b, hb1, hb2⟩ := compact_l1 vs cl hv lv lc cl.length 0 rfl (fun j hj => by omega) (fun j hj => by omega) (fun j hj => by omega)
      refine ⟨b, ?_, ?_⟩
      · rw [show 0 + cl.length + vs.length + 3 = cl.length + vs.length + 3 by omega]; exact hb1
      · rw [hb2, compact_iff]
        exact ⟨fun q => ⟨⟨fun j hj => h1 j (by omega), fun j hj => h2 j (by omega)⟩, q⟩, fun q => q.2⟩
theorem compact_f (vs cl : List S36) (lv : vs.length ≤ 1000000) (lc : cl.length ≤ 1000000) {k : Nat} (hk : 2 * vs.length + cl.length + 4 ≤ k) : redpencilref14_Compact.f k vs cl = some (decide (CompactOk vs cl)) := by
  obtain ⟨b, hb1, hb2⟩ := compact_l0 vs cl lv lc vs.length 0 rfl (fun j hj => by omega) (fun j hj => by omega)
  refine leO_up (redpencilref14_Compact.mono vs cl) (K := 2 * vs.length + cl.length + 4) ?_ k hk
  unfold redpencilref14_Compact.f
  rw [show 2 * vs.length + cl.length + 4 = vs.length + cl.length + vs.length + 4 by omega]
  rw [show decide (CompactOk vs cl) = b by
    cases b with
    | false => exact decide_eq_false (fun q => absurd (hb2.2 q) (by simp))
    | true => exact decide_eq_true (hb2.1 rfl)]
  exact hb1
theorem small_f (vs cl : List S36) : redpencilref17_Small.f vs cl = some (decide (vs.length ≤ 60 ∧ cl.length ≤ 60)) := by
  unfold redpencilref17_Small.f
  by_cases h : vs.length ≤ 60
  · rw [if_pos (by omega)]; congr 1; exact decide_eq_decide.2 (by omega)
  · rw [if_neg (by omega), decide_eq_false (by omega)]
theorem rctx_f {vs cl : List S36} (h : CompactOk vs cl) (h1 : vs.length ≤ 65536) (h2 : cl.length ≤ 65536) : redpencilref17_Context.f vs cl = some (ctxBs vs cl) := if_pos ⟨h1, h2, h.1.1.2, h.1.2.2⟩
theorem canonContexts_f (vs cl : List S36) : redpencillaw17_CanonContexts.f 300 vs cl = some true := by
  unfold redpencillaw17_CanonContexts.f
  rw [small_f, Option.bind_some]
  by_cases h : vs.length ≤ 60 ∧ cl.length ≤ 60
  · obtain ⟨h1, h2⟩ := h
    have hc := contexts_t (vs := vs) (cl := cl) (by omega) (by omega)
    rw [if_pos (decide_eq_true ⟨h1, h2⟩), compact_f vs cl (by omega) (by omega) (by omega), Option.bind_some]
    by_cases q : CompactOk vs cl
    · rw [ccxP_ok q (by omega) (by omega)] at hc
      rw [if_pos (decide_eq_true q), rctx_f q (by omega) (by omega), Option.bind_some, hc, Option.bind_some, if_pos rfl]
      exact then_known (by omega)
    · rw [ccxP_bad q] at hc
      rw [if_neg (by simpa using q), hc, Option.bind_some, if_pos rfl]
      exact then_known (by omega)
  · rw [if_neg (by simpa using h)]
    exact then_known (by omega)
end Go.Proofs.Ytfbjbajbjlcjfaa.Cn
