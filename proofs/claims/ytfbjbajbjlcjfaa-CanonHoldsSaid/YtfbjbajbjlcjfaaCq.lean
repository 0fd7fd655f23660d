/- Layer 17, plain law: no bytes of a state or of a context begin with those of another one, and killing a node never makes them longer. -/
import Derived.Test.YtfbjbajbjlcjfaaCmb
namespace Go.Proofs.Ytfbjbajbjlcjfaa.Cn
open Go Go.RowKit Go.Proofs Go.Proofs.Ytfbjbajbjlcjfaa.Vn Go.Proofs.Ytfbjbajbjlcjfaa.Kit Go.Proofs.Ytfbjbajbjlcjfaa.PCanonStates Go.Proofs.YtfbjbajbjlcjfaaW.PrintWords
set_option linter.unusedSimpArgs false
set_option linter.unusedVariables false

theorem enc_pre {m n : Nat} {r s : List Int} (hm : m < 18446744073709551616) (hn : n < 18446744073709551616) (h : enc m ++ r = enc n ++ s) : m = n ∧ r = s := by
  have h1 := enc_read hm r
  have h2 := enc_read hn s
  rw [h] at h1
  have h3 := (rdr_one h1 h2).1
  obtain rfl : m = n := by omega
  exact ⟨rfl, List.append_cancel_left h⟩

/-- Nodes in order behind a counter. -/
def From : Int → List S38 → Prop
  | _, [] => True
  | l, x :: xs => okNode x ∧ l ≤ x.f0.f1 ∧ From x.f0.f1 xs
theorem from_ok : ∀ (l : Int) (xs : List S38), StoreOk xs → (0 < xs.length → l ≤ (xs.getD 0 z38).f0.f1) → From l xs
  | _, [], _, _ => trivial
  | l, x :: xs, h, hl => by
    refine ⟨?_, ?_, from_ok _ xs ⟨fun j hj => ?_, fun j hj => ?_⟩ (fun hp => ?_)⟩
    · have := h.1 0 (by simp)
      rwa [List.getD_cons_zero] at this
    · have := hl (by simp)
      rwa [List.getD_cons_zero] at this
    · have := h.1 (j + 1) (by simp; omega)
      rwa [List.getD_cons_succ] at this
    · have := h.2 (j + 1) (by simp; omega)
      rwa [List.getD_cons_succ, List.getD_cons_succ] at this
    · have := h.2 0 (by simp; omega)
      rw [List.getD_cons_zero, List.getD_cons_succ] at this
      rcases this with q | ⟨q, _⟩ <;> omega
theorem from_store {xs : List S38} (h : StoreOk xs) : From 0 xs := from_ok 0 xs h (fun hp => by have := (h.1 0 hp).1.2.2.1; omega)

/-- Two nodes with the same parts but for the rune, both dead or both alive. -/
def Like (x y : S38) : Prop := x.f0 = y.f0 ∧ x.f1 = y.f1 ∧ x.f2 = y.f2 ∧ (x.f3 = 0 ↔ y.f3 = 0)
theorem node_pre {l : Int} {x y : S38} {r s : List Int} (hx : okNode x) (hy : okNode y) (h0 : 0 ≤ l) (lx : l ≤ x.f0.f1) (ly : l ≤ y.f0.f1) (h : nodeBs l x ++ r = nodeBs l y ++ s) : Like x y ∧ r = s := by
  obtain ⟨⟨a1, a2⟩, ⟨b1, b2⟩, t, u⟩ := x
  obtain ⟨⟨c1, c2⟩, ⟨d1, d2⟩, t', u'⟩ := y
  obtain ⟨⟨x1, x2, x3, x4⟩, xp, _, x5, x6, _⟩ := hx
  obtain ⟨⟨y1, y2, y3, y4⟩, yp, _, y5, y6, _⟩ := hy
  simp only at x1 x2 x3 x4 xp x5 x6 y1 y2 y3 y4 yp y5 y6 lx ly
  have xb : 0 ≤ b1 ∧ b1 ≤ 64 ∧ 0 ≤ b2 ∧ b2 ≤ 4294967295 ∧ (b1 = 0 → b2 = 0) := by rcases xp with ⟨q1, q2⟩ | ⟨q1, q2, q3, q4⟩ <;> omega
  have yb : 0 ≤ d1 ∧ d1 ≤ 64 ∧ 0 ≤ d2 ∧ d2 ≤ 4294967295 ∧ (d1 = 0 → d2 = 0) := by rcases yp with ⟨q1, q2⟩ | ⟨q1, q2, q3, q4⟩ <;> omega
  obtain ⟨xb1, xb2, xb3, xb4, xb5⟩ := xb
  obtain ⟨yb1, yb2, yb3, yb4, yb5⟩ := yb
  clear xp yp
  unfold nodeBs headBs at h
  simp only [List.append_assoc] at h
  obtain ⟨e1, h⟩ := enc_pre (by omega) (by omega) h
  obtain ⟨e2, h⟩ := enc_pre (by omega) (by omega) h
  obtain ⟨e3, h⟩ := enc_pre (by omega) (by omega) h
  obtain rfl : a1 = c1 := by omega
  obtain rfl : a2 = c2 := by omega
  obtain rfl : b1 = d1 := by omega
  have hw : ∀ (p q z : Int), 0 ≤ z → z ≤ 4611686018427387904 → (whenOf ⟨⟨a1, a2⟩, ⟨b1, p⟩, z, q⟩).toNat < 18446744073709551616 := fun p q z h0 h1 => by
    unfold whenOf; simp only; split <;> omega
  have key : b2 = d2 ∧ enc (whenOf ⟨⟨a1, a2⟩, ⟨b1, b2⟩, t, u⟩).toNat ++ r = enc (whenOf ⟨⟨a1, a2⟩, ⟨b1, d2⟩, t', u'⟩).toNat ++ s := by
    unfold parBs at h
    simp only at h
    by_cases hb : b1 = 0
    · rw [if_pos hb, if_pos hb] at h
      exact ⟨by rw [xb5 hb, yb5 hb], h⟩
    · rw [if_neg hb, if_neg hb] at h
      obtain ⟨e4, h⟩ := enc_pre (by omega) (by omega) h
      exact ⟨by omega, h⟩
  obtain ⟨rfl, h⟩ := key
  obtain ⟨e5, h6⟩ := enc_pre (hw _ _ _ (by omega) (by omega)) (hw _ _ _ (by omega) (by omega)) h
  unfold whenOf at e5
  simp only at e5
  have e6 : t = t' ∧ (u = 0 ↔ u' = 0) := by
    by_cases q1 : u = 0 <;> by_cases q2 : u' = 0
    · rw [if_pos q1, if_pos q2] at e5; exact ⟨by omega, by simp [q1, q2]⟩
    · rw [if_pos q1, if_neg q2] at e5; omega
    · rw [if_neg q1, if_pos q2] at e5; omega
    · rw [if_neg q1, if_neg q2] at e5; exact ⟨by omega, by simp [q1, q2]⟩
  obtain ⟨rfl, e7⟩ := e6
  exact ⟨⟨rfl, rfl, rfl, e7⟩, h6⟩
def Likes : List S38 → List S38 → Prop
  | [], [] => True
  | x :: xs, y :: ys => Like x y ∧ Likes xs ys
  | _, _ => False
theorem nodes_pre : ∀ (l : Int) (xs ys : List S38) (r s : List Int), xs.length = ys.length → From l xs → From l ys → 0 ≤ l → nodesBs l xs ++ r = nodesBs l ys ++ s → Likes xs ys ∧ r = s
  | _, [], [], _, _, _, _, _, _, h => ⟨trivial, h⟩
  | _, [], _ :: _, _, _, hl, _, _, _, _ => by simp at hl
  | _, _ :: _, [], _, _, hl, _, _, _, _ => by simp at hl
  | l, x :: xs, y :: ys, r, s, hl, hx, hy, h0, h => by
    obtain ⟨x1, x2, x3⟩ := hx
    obtain ⟨y1, y2, y3⟩ := hy
    simp only [nodesBs, List.append_assoc] at h
    obtain ⟨k, h⟩ := node_pre x1 y1 h0 x2 y2 h
    have hx0 : 0 ≤ x.f0.f1 := by have := x1.1.2.2.1; omega
    have hk := k.1
    rw [← hk] at h y3
    obtain ⟨k2, h⟩ := nodes_pre _ xs ys r s (by simpa using hl) x3 y3 hx0 h
    exact ⟨⟨k, k2⟩, h⟩
theorem rune_form (a : Int) (h : okRune a) : (a ≤ 127 ∧ Lib.encodeRuneZ a = [a]) ∨ (128 ≤ a ∧ a ≤ 2047 ∧ Lib.encodeRuneZ a = [192 + a / 64, 128 + a % 64]) ∨ (2048 ≤ a ∧ a ≤ 65535 ∧ Lib.encodeRuneZ a = [224 + a / 4096, 128 + a / 64 % 64, 128 + a % 64]) ∨ (65536 ≤ a ∧ a ≤ 1114111 ∧ Lib.encodeRuneZ a = [240 + a / 262144, 128 + a / 4096 % 64, 128 + a / 64 % 64, 128 + a % 64]) := by
  obtain ⟨h1, h2, h3⟩ := h
  by_cases q1 : a ≤ 127
  · exact .inl ⟨q1, Lib.encodeRuneZ_one (by omega) q1⟩
  · by_cases q2 : a ≤ 2047
    · exact .inr (.inl ⟨by omega, q2, Lib.encodeRuneZ_two (by omega) q2⟩)
    · by_cases q3 : a ≤ 65535
      · exact .inr (.inr (.inl ⟨by omega, q3, Lib.encodeRuneZ_three (by omega)⟩))
      · exact .inr (.inr (.inr ⟨by omega, h2, Lib.encodeRuneZ_four (by omega) h2⟩))
theorem rune_pre {a b : Int} {r s : List Int} (ha : okRune a) (hb : okRune b) (h : Lib.encodeRuneZ a ++ r = Lib.encodeRuneZ b ++ s) : a = b ∧ r = s := by
  have h1 := ha.1
  have h2 := hb.1
  rcases rune_form a ha with ⟨p1, e⟩ | ⟨p1, p2, e⟩ | ⟨p1, p2, e⟩ | ⟨p1, p2, e⟩ <;> rcases rune_form b hb with ⟨q1, f⟩ | ⟨q1, q2, f⟩ | ⟨q1, q2, f⟩ | ⟨q1, q2, f⟩ <;> rw [e, f] at h <;> simp only [List.cons_append, List.nil_append, List.cons.injEq] at h <;> first | (exfalso; omega) | exact ⟨by omega, h.2⟩ | exact ⟨by omega, h.2.2⟩ | exact ⟨by omega, h.2.2.2⟩ | exact ⟨by omega, h.2.2.2.2⟩
theorem utf8_cons (a : Int) (us : List Int) : utf8 (a :: us) = Lib.encodeRuneZ a ++ utf8 us := rfl
theorem utf8_inj : ∀ (us vs : List Int), (∀ r ∈ us, okRune r) → (∀ r ∈ vs, okRune r) → utf8 us = utf8 vs → us = vs
  | [], [], _, _, _ => rfl
  | [], b :: vs, _, _, h => by
    have h1 := congrArg List.length h
    have h2 := Lib.encodeRuneZ_length b
    rw [utf8_cons, List.length_append] at h1
    have h3 : (utf8 []).length = 0 := rfl
    omega
  | a :: us, [], _, _, h => by
    have h1 := congrArg List.length h
    have h2 := Lib.encodeRuneZ_length a
    rw [utf8_cons, List.length_append] at h1
    have h3 : (utf8 []).length = 0 := rfl
    omega
  | a :: us, b :: vs, ha, hb, h => by
    obtain ⟨e1, h1⟩ := rune_pre (r := utf8 us) (s := utf8 vs) (ha a List.mem_cons_self) (hb b List.mem_cons_self) h
    rw [e1, utf8_inj us vs (fun r hr => ha r (List.mem_cons_of_mem _ hr)) (fun r hr => hb r (List.mem_cons_of_mem _ hr)) h1]
theorem text_cons (x : S38) (xs : List S38) : textOf (x :: xs) = if x.f3 = 0 then textOf xs else x.f3 :: textOf xs := by
  unfold textOf
  by_cases h : x.f3 = 0 <;> simp [h]
theorem likes_eq : ∀ (xs ys : List S38), Likes xs ys → textOf xs = textOf ys → xs = ys
  | [], [], _, _ => rfl
  | [], _ :: _, h, _ => h.elim
  | _ :: _, [], h, _ => h.elim
  | x :: xs, y :: ys, ⟨⟨h1, h2, h3, h4⟩, h5⟩, h => by
    rw [text_cons, text_cons] at h
    obtain ⟨a, b, c, d⟩ := x
    obtain ⟨a', b', c', d'⟩ := y
    simp only at h1 h2 h3 h4 h
    subst h1 h2 h3
    by_cases q : d = 0
    · rw [if_pos q, if_pos (h4.1 q)] at h
      rw [likes_eq xs ys h5 h, q, h4.1 q]
    · rw [if_neg q, if_neg (fun e => q (h4.2 e))] at h
      injection h with h6 h7
      rw [likes_eq xs ys h5 h7, h6]
theorem utf8_lt {xs : List S38} (hl : xs.length ≤ 65536) : (utf8 (textOf xs)).length < 18446744073709551616 := by
  have h1 := utf8_len (textOf xs)
  have h2 := text_len xs xs.length
  rw [List.take_length] at h2
  omega
theorem canon_pre {xs ys : List S38} {t : List Int} (hx : StoreOk xs) (hy : StoreOk ys) (lx : xs.length ≤ 65536) (ly : ys.length ≤ 65536) (h : canonBs xs = canonBs ys ++ t) : xs = ys := by
  unfold canonBs at h
  simp only [List.append_assoc] at h
  obtain ⟨e1, h⟩ := enc_pre (by omega) (by omega) h
  obtain ⟨k, h⟩ := nodes_pre 0 xs ys _ _ e1 (from_store hx) (from_store hy) (Int.le_refl _) h
  obtain ⟨e2, h⟩ := enc_pre (utf8_lt lx) (utf8_lt ly) h
  have e3 : utf8 (textOf xs) = utf8 (textOf ys) := by
    have := congrArg (List.take (utf8 (textOf xs)).length) h
    rw [List.take_length, e2, List.take_left] at this
    exact this
  exact likes_eq xs ys k (utf8_inj _ _ (text_ok hx) (text_ok hy) e3)
theorem canon_pos (xs : List S38) : 0 < (canonBs xs).length := by
  have := enc_pos xs.length
  unfold canonBs
  simp only [List.length_append]
  omega

theorem dots_pre : ∀ (vs ws : List S36) (r s : List Int), vs.length = ws.length → (∀ x ∈ vs, okDot x.f0 x.f1) → (∀ x ∈ ws, okDot x.f0 x.f1) → dotsOf vs ++ r = dotsOf ws ++ s → vs = ws ∧ r = s
  | [], [], _, _, _, _, _, h => ⟨rfl, h⟩
  | [], _ :: _, _, _, hl, _, _, _ => by simp at hl
  | _ :: _, [], _, _, hl, _, _, _ => by simp at hl
  | ⟨a, b⟩ :: vs, ⟨c, d⟩ :: ws, r, s, hl, hv, hw, h => by
    obtain ⟨a1, a2, a3, a4⟩ := hv _ List.mem_cons_self
    obtain ⟨c1, c2, c3, c4⟩ := hw _ List.mem_cons_self
    simp only at a1 a2 a3 a4 c1 c2 c3 c4
    have h' : enc a.toNat ++ (enc b.toNat ++ (dotsOf vs ++ r)) = enc c.toNat ++ (enc d.toNat ++ (dotsOf ws ++ s)) := by
      have h2 := h
      simp only [dotsOf, List.flatMap_cons, dotB, List.append_assoc] at h2
      exact h2
    obtain ⟨e1, h'⟩ := enc_pre (by omega) (by omega) h'
    obtain ⟨e2, h2⟩ := enc_pre (by omega) (by omega) h'
    obtain ⟨rfl, h3⟩ := dots_pre vs ws r s (by simpa using hl) (fun x hx => hv x (List.mem_cons_of_mem _ hx)) (fun x hx => hw x (List.mem_cons_of_mem _ hx)) h2
    obtain rfl : a = c := by omega
    obtain rfl : b = d := by omega
    exact ⟨rfl, h3⟩
theorem ctx_pre {vs cl ws dl : List S36} {t : List Int} (h1 : CompactOk vs cl) (h2 : CompactOk ws dl) (l1 : vs.length ≤ 65536) (l2 : cl.length ≤ 65536) (l3 : ws.length ≤ 65536) (l4 : dl.length ≤ 65536) (h : ctxBs vs cl = ctxBs ws dl ++ t) : vs = ws ∧ cl = dl := by
  unfold ctxBs dotsBs at h
  simp only [List.append_assoc] at h
  obtain ⟨e1, h⟩ := enc_pre (by omega) (by omega) h
  obtain ⟨e3, h3⟩ := dots_pre vs ws _ _ e1 h1.1.1.2 h2.1.1.2 h
  obtain ⟨e2, h4⟩ := enc_pre (m := cl.length) (n := dl.length) (by omega) (by omega) h3
  have h5 := dots_pre cl dl [] t e2 h1.1.2.2 h2.1.2.2 (by rw [List.append_nil]; exact h4)
  exact ⟨e3, h5.1⟩

theorem enc_mono : ∀ (n m : Nat), m ≤ n → (enc m).length ≤ (enc n).length := by
  intro n
  induction n using Nat.strongRecOn with
  | _ n ih =>
    intro m h
    by_cases q : n < 128
    · rw [enc_lt q, enc_lt (by omega)]
      exact Nat.le_refl _
    · rw [enc_ge q]
      by_cases p : m < 128
      · rw [enc_lt p]
        simp
      · rw [enc_ge p]
        have := ih (n / 128) (by omega) (m / 128) (by omega)
        simpa using this
theorem enc_odd (t : Nat) : (enc (2 * t + 1)).length = (enc (2 * t)).length := by
  by_cases q : 2 * t < 128
  · rw [enc_lt q, enc_lt (by omega)]
    rfl
  · rw [enc_ge q, enc_ge (by omega), show (2 * t + 1) / 128 = 2 * t / 128 by omega]
    simp only [List.length_cons]
/-- A node, killed. -/
def dead (x : S38) : S38 := ⟨x.f0, x.f1, x.f2, 0⟩
theorem dead_ok {x : S38} (h : okNode x) : okNode (dead x) := ⟨h.1, h.2.1, h.2.2.1, h.2.2.2.1, h.2.2.2.2.1, .inl rfl⟩
theorem node_dead (l : Int) {x : S38} (h : okNode x) : (nodeBs l (dead x)).length = (nodeBs l x).length := by
  obtain ⟨_, _, _, t1, t2, _⟩ := h
  unfold nodeBs
  simp only [List.length_append]
  show (headBs l x).length + (parBs x).length + _ = _
  have hw : (enc (whenOf (dead x)).toNat).length = (enc (whenOf x).toNat).length := by
    unfold whenOf dead
    simp only [if_true]
    by_cases q : x.f3 = 0
    · rw [if_pos q]
    · rw [if_neg q, show (2 * x.f2 + 1).toNat = 2 * x.f2.toNat + 1 by omega, show (2 * x.f2 + 0).toNat = 2 * x.f2.toNat by omega, enc_odd]
  omega
theorem nodes_dead : ∀ (l : Int) (xs : List S38) (j : Nat), (∀ x ∈ xs, okNode x) → j < xs.length → (nodesBs l (xs.set j (dead (xs.getD j z38)))).length = (nodesBs l xs).length
  | _, [], _, _, h => by simp at h
  | l, x :: xs, 0, hk, _ => by
    rw [List.getD_cons_zero, List.set_cons_zero]
    show (nodeBs l (dead x) ++ nodesBs x.f0.f1 xs).length = (nodeBs l x ++ nodesBs x.f0.f1 xs).length
    rw [List.length_append, List.length_append, node_dead l (hk x List.mem_cons_self)]
  | l, x :: xs, j + 1, hk, h => by
    rw [List.getD_cons_succ, List.set_cons_succ]
    show (nodeBs l x ++ nodesBs x.f0.f1 _).length = (nodeBs l x ++ nodesBs x.f0.f1 xs).length
    rw [List.length_append, List.length_append, nodes_dead _ xs j (fun y hy => hk y (List.mem_cons_of_mem _ hy)) (by simpa using h)]
theorem text_dead : ∀ (xs : List S38) (j : Nat), (utf8 (textOf (xs.set j (dead (xs.getD j z38))))).length ≤ (utf8 (textOf xs)).length
  | [], _ => by simp
  | x :: xs, 0 => by
    rw [List.getD_cons_zero, List.set_cons_zero, text_cons, text_cons, if_pos (show (dead x).f3 = 0 from rfl)]
    split
    · exact Nat.le_refl _
    · show _ ≤ (Lib.encodeRuneZ x.f3 ++ utf8 (textOf xs)).length
      rw [List.length_append]
      omega
  | x :: xs, j + 1 => by
    have := text_dead xs j
    rw [List.getD_cons_succ, List.set_cons_succ, text_cons, text_cons]
    split
    · exact this
    · show (Lib.encodeRuneZ x.f3 ++ utf8 _).length ≤ (Lib.encodeRuneZ x.f3 ++ utf8 (textOf xs)).length
      rw [List.length_append, List.length_append]
      omega
theorem canon_dead {xs : List S38} (h : StoreOk xs) {j : Nat} (hj : j < xs.length) : (canonBs (xs.set j (dead (xs.getD j z38)))).length ≤ (canonBs xs).length := by
  have h1 := nodes_dead 0 xs j (((storeOk_iff xs).1 h).1) hj
  have h2 := text_dead xs j
  have h3 := enc_mono _ _ h2
  unfold canonBs
  simp only [List.length_append, List.length_set]
  omega
theorem set_dots : ∀ (xs : List S38) (j : Nat), (xs.set j (dead (xs.getD j z38))).map (fun x => x.f0) = xs.map (fun x => x.f0)
  | [], _ => by simp
  | x :: xs, 0 => by rw [List.getD_cons_zero, List.set_cons_zero]; rfl
  | x :: xs, j + 1 => by
    rw [List.getD_cons_succ, List.set_cons_succ, List.map_cons, List.map_cons, set_dots xs j]
theorem store_dead {xs : List S38} (h : StoreOk xs) {j : Nat} (hj : j < xs.length) : StoreOk (xs.set j (dead (xs.getD j z38))) := by
  rw [storeOk_iff] at h ⊢
  refine ⟨fun x hx => ?_, by rw [set_dots]; exact h.2⟩
  rcases List.mem_or_eq_of_mem_set hx with q | rfl
  · exact h.1 x q
  · refine dead_ok (h.1 _ ?_)
    rw [List.getD_eq_getElem?_getD, List.getElem?_eq_getElem hj]
    exact List.getElem_mem hj

/-- The long state and the long cloud of CanonLongs. -/
def lnode (r : Int) (i : Nat) : S38 := ⟨⟨r, 2 * i + 2⟩, ⟨0, 0⟩, 1 + i % 60, 97⟩
def longS (r : Int) (a n : Nat) : List S38 := (List.range' a n).map (lnode r)
def longD (r : Int) (a n : Nat) : List S36 := (List.range' a n).map (fun i : Nat => (⟨r, 2 * (i : Int) + 2⟩ : S36))
theorem longS_len (r : Int) (a n : Nat) : (longS r a n).length = n := by simp [longS]
theorem longD_len (r : Int) (a n : Nat) : (longD r a n).length = n := by simp [longD]
theorem longS_get (r : Int) (n j : Nat) (h : j < n) : (longS r 0 n).getD j z38 = lnode r j := by
  unfold longS
  rw [List.getD_eq_getElem?_getD, List.getElem?_map, List.getElem?_range' h]
  simp
theorem longD_get (r : Int) (n j : Nat) (h : j < n) : (longD r 0 n).getD j z36 = ⟨r, 2 * (j : Int) + 2⟩ := by
  unfold longD
  rw [List.getD_eq_getElem?_getD, List.getElem?_map, List.getElem?_range' h]
  simp
theorem long_ok (r : Int) (n : Nat) (h1 : 1 ≤ r) (h2 : r ≤ 64) (hn : n ≤ 100000) : StoreOk (longS r 0 n) := by
  refine ⟨fun j hj => ?_, fun j hj => ?_⟩
  · rw [longS_len] at hj
    rw [longS_get r n j hj]
    refine ⟨⟨h1, h2, ?_, ?_⟩, .inl ⟨rfl, rfl⟩, ?_, ?_, ?_, .inr ⟨?_, ?_, ?_⟩⟩ <;> simp only [lnode] <;> omega
  · rw [longS_len] at hj
    rw [longS_get r n j (by omega), longS_get r n (j + 1) hj]
    left
    simp only [lnode]
    omega
theorem enc_one {n : Nat} (h : n < 128) : (enc n).length = 1 := by rw [enc_lt h]; rfl
theorem enc_three {n : Nat} (h0 : 16384 ≤ n) (h1 : n < 2097152) : (enc n).length = 3 := by
  rw [enc_ge (by omega), enc_ge (by omega), enc_lt (by omega)]
  rfl
theorem long_nodes (r : Int) (h1 : 1 ≤ r) (h2 : r ≤ 64) : ∀ (n a : Nat), (nodesBs (2 * a) (longS r a n)).length = 4 * n
  | 0, a => by simp [longS, nodesBs]
  | n + 1, a => by
    have ih := long_nodes r h1 h2 n (a + 1)
    have he : longS r a (n + 1) = lnode r a :: longS r (a + 1) n := by simp [longS, List.range'_succ]
    rw [he]
    show (nodeBs _ (lnode r a) ++ nodesBs (2 * (a : Int) + 2) (longS r (a + 1) n)).length = _
    rw [show 2 * (a : Int) + 2 = 2 * ((a + 1 : Nat) : Int) by omega, List.length_append, ih]
    have h3 : (nodeBs (2 * a) (lnode r a)).length = 4 := by
      unfold nodeBs headBs parBs whenOf lnode
      simp only [List.length_append, if_true]
      rw [if_neg (by decide), enc_one (by omega), enc_one (by omega), enc_one (by decide), enc_one (by omega)]
      rfl
    omega
theorem long_text (r : Int) : ∀ (n a : Nat), textOf (longS r a n) = List.replicate n 97
  | 0, a => by simp [longS, textOf]
  | n + 1, a => by
    have he : longS r a (n + 1) = lnode r a :: longS r (a + 1) n := by simp [longS, List.range'_succ]
    rw [he, text_cons, if_neg (by simp [lnode]), long_text r n (a + 1), List.replicate_succ]
    rfl
theorem utf8_rep (n : Nat) : (utf8 (List.replicate n 97)).length = n := by
  induction n with
  | zero => rfl
  | succ n ih =>
    rw [List.replicate_succ]
    show (Lib.encodeRuneZ 97 ++ utf8 (List.replicate n 97)).length = _
    rw [List.length_append, ih, Lib.encodeRuneZ_one (by decide) (by decide)]
    simp
    omega
theorem long_len (r : Int) (n : Nat) (h1 : 1 ≤ r) (h2 : r ≤ 64) (h3 : 16384 ≤ n) (h4 : n < 2097152) : (canonBs (longS r 0 n)).length = 6 + 5 * n := by
  unfold canonBs
  have := long_nodes r h1 h2 n 0
  rw [show (2 : Int) * ((0 : Nat) : Int) = 0 from rfl] at this
  rw [long_text, utf8_rep, longS_len]
  simp only [List.length_append]
  rw [this, utf8_rep, enc_three h3 h4]
  omega
theorem longD_ok (r : Int) (n : Nat) (h1 : 1 ≤ r) (h2 : r ≤ 64) (hn : n ≤ 100000) : CompactOk [] (longD r 0 n) := by
  have hm : ∀ x ∈ longD r 0 n, ∃ j, j < n ∧ x = ⟨r, 2 * (j : Int) + 2⟩ := fun x hx => by
    obtain ⟨j, hj, rfl⟩ := List.getElem_of_mem hx
    rw [longD_len] at hj
    refine ⟨j, hj, ?_⟩
    rw [← longD_get r n j hj, List.getD_eq_getElem?_getD, List.getElem?_eq_getElem (by rw [longD_len]; exact hj)]
    rfl
  refine ⟨⟨⟨?_, ?_⟩, ?_, ?_⟩, ?_⟩
  · intro j hj; simp at hj
  · simp
  · intro j hj
    rw [longD_len] at hj
    rw [longD_get r n j (by omega), longD_get r n (j + 1) hj]
    left
    simp only
    omega
  · intro x hx
    obtain ⟨j, hj, rfl⟩ := hm x hx
    exact ⟨h1, h2, by simp only; omega, by simp only; omega⟩
  · intro x hx
    obtain ⟨j, hj, rfl⟩ := hm x hx
    simp only [getV]
    omega
theorem long_dots (r : Int) (h1 : 1 ≤ r) (h2 : r ≤ 64) (b : Nat) (hb : ∀ i : Nat, 8191 ≤ i → b ≤ i → 3 ≤ (enc (2 * (i : Int) + 2).toNat).length) : ∀ (n a : Nat), 2 * n ≤ (dotsOf (longD r a n)).length ∧ (8191 ≤ a → b ≤ a → 4 * n ≤ (dotsOf (longD r a n)).length)
  | 0, a => by simp
  | n + 1, a => by
    obtain ⟨i1, i2⟩ := long_dots r h1 h2 b hb n (a + 1)
    have he : longD r a (n + 1) = ⟨r, 2 * (a : Int) + 2⟩ :: longD r (a + 1) n := by simp [longD, List.range'_succ]
    rw [he]
    have h3 : (dotsOf (⟨r, 2 * (a : Int) + 2⟩ :: longD r (a + 1) n)).length = (enc r.toNat).length + (enc (2 * (a : Int) + 2).toNat).length + (dotsOf (longD r (a + 1) n)).length := by
      show (dotB _ ++ dotsOf _).length = _
      unfold dotB
      simp only [List.length_append]
    have h4 := enc_pos (2 * (a : Int) + 2).toNat
    have h5 := enc_pos r.toNat
    rw [h3]
    refine ⟨by omega, fun q p => ?_⟩
    have := i2 (by omega) (by omega)
    have := hb a q p
    omega
theorem longD_app (r : Int) (n : Nat) (h : 8191 ≤ n) : longD r 0 n = longD r 0 8191 ++ longD r 8191 (n - 8191) := by
  unfold longD
  rw [← List.map_append, show List.range' 8191 (n - 8191) = List.range' (0 + 1 * 8191) (n - 8191) from rfl, List.range'_append, Nat.add_sub_cancel' h]
theorem long_ctx (r : Int) (n : Nat) (h1 : 1 ≤ r) (h2 : r ≤ 64) (h3 : 65534 ≤ n) (h4 : n ≤ 65536) : 3 * n < (ctxBs [] (longD r 0 n)).length := by
  have hb : ∀ i : Nat, 8191 ≤ i → 0 ≤ i → 3 ≤ (enc (2 * (i : Int) + 2).toNat).length := fun i hi _ => by
    have := enc_mono (2 * (i : Int) + 2).toNat 16384 (by omega)
    rw [enc_three (by decide) (by decide)] at this
    exact this
  have k1 := (long_dots r h1 h2 0 hb 8191 0).1
  have k2 := (long_dots r h1 h2 0 hb (n - 8191) 8191).2 (by omega) (by omega)
  unfold ctxBs dotsBs
  rw [longD_app r n (by omega)]
  have h5 : dotsOf (longD r 0 8191 ++ longD r 8191 (n - 8191)) = dotsOf (longD r 0 8191) ++ dotsOf (longD r 8191 (n - 8191)) := by unfold dotsOf; rw [List.flatMap_append]
  rw [h5]
  simp only [List.length_append]
  omega
end Go.Proofs.Ytfbjbajbjlcjfaa.Cn
