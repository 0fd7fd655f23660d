/- Layer 17, plain law: CanonHolds. -/
import Derived.Test.YtfbjbajbjlcjfaaCt
import Derived.Test.YtfbjbajbjlcjfaaCz
import Derived.Lib.Bytes
import Derived.Test.YtfbjbajbjlcjfaaPCanonStatesx16
import Derived.Test.YtfbjbajbjlcjfaaPCanonStatesx13
import Derived.Test.YtfbjbajbjlcjfaaPCanonStatesx7
import Derived.Test.YtfbjbajbjlcjfaaPCanonStatesx14
import Derived.Test.YtfbjbajbjlcjfaaPCanonStatesx22
namespace Go.Proofs.Ytfbjbajbjlcjfaa.Cn
open Go Go.RowKit Go.Proofs Go.Proofs.Ytfbjbajbjlcjfaa.Vn Go.Proofs.Ytfbjbajbjlcjfaa.Kit Go.Proofs.Ytfbjbajbjlcjfaa.PCanonStates Go.Proofs.YtfbjbajbjlcjfaaW.PrintWords
set_option linter.unusedSimpArgs false
set_option linter.unusedVariables false

/-! Bytes. -/
def Bz (l : List Int) : Prop := ∀ x ∈ l, 0 ≤ x ∧ x ≤ 255
theorem bz_app {a b : List Int} (ha : Bz a) (hb : Bz b) : Bz (a ++ b) := fun x hx => by
  rcases List.mem_append.1 hx with h | h
  · exact ha x h
  · exact hb x h
theorem bz_enc : ∀ n : Nat, Bz (enc n) := by
  intro n
  induction n using Nat.strongRecOn with
  | ind n ih =>
    by_cases h : n < 128
    · rw [enc_lt h]
      intro x hx
      obtain rfl : x = n := by simpa using hx
      omega
    · rw [enc_ge h]
      intro x hx
      rcases List.mem_cons.1 hx with rfl | hx
      · omega
      · exact ih (n / 128) (by omega) x hx
theorem bz_node (l : Int) (x : S38) : Bz (nodeBs l x) := by
  unfold nodeBs headBs parBs
  refine bz_app (bz_app (bz_app (bz_app (bz_enc _) (bz_enc _)) (bz_enc _)) ?_) (bz_enc _)
  split
  · intro x hx; cases hx
  · exact bz_enc _
theorem bz_nodes : ∀ (l : Int) (xs : List S38), Bz (nodesBs l xs)
  | _, [] => fun x hx => by cases hx
  | l, x :: xs => bz_app (bz_node l x) (bz_nodes _ xs)
theorem bz_rune {r : Int} (h : okRune r) : Bz (Lib.encodeRuneZ r) := by
  obtain ⟨a, b, c⟩ := h
  rcases rune_form r ⟨a, b, c⟩ with ⟨_, e⟩ | ⟨_, _, e⟩ | ⟨_, _, e⟩ | ⟨_, _, e⟩ <;> rw [e] <;> intro x hx <;> simp at hx <;> omega
theorem bz_utf8 : ∀ rs : List Int, (∀ r ∈ rs, okRune r) → Bz (utf8 rs)
  | [], _ => fun x hx => by cases hx
  | r :: rs, h => by
    rw [utf8_cons]
    exact bz_app (bz_rune (h r List.mem_cons_self)) (bz_utf8 rs (fun y hy => h y (List.mem_cons_of_mem _ hy)))
theorem textz_ok {xs : List S38} (h : StoreOk xs) : ∀ r ∈ textOf xs, okRune r := by
  intro r hr
  unfold textOf at hr
  obtain ⟨h1, h2⟩ := List.mem_filter.1 hr
  obtain ⟨x, hx, rfl⟩ := List.mem_map.1 h1
  have hn := ((storeOk_iff xs).1 h).1 x hx
  rcases hn.2.2.2.2.2 with q | q
  · simp [q] at h2
  · exact q
theorem bz_canon {xs : List S38} (h : StoreOk xs) : Bz (canonBs xs) := bz_app (bz_app (bz_enc _) (bz_nodes _ _)) (bz_app (bz_enc _) (bz_utf8 _ (textz_ok h)))
theorem bz_dots : ∀ ds : List S36, Bz (dotsOf ds)
  | [] => fun x hx => by cases hx
  | d :: ds => bz_app (bz_app (bz_enc _) (bz_enc _)) (bz_dots ds)
theorem bz_ctx (vs cl : List S36) : Bz (ctxBs vs cl) := bz_app (bz_app (bz_enc _) (bz_dots _)) (bz_app (bz_enc _) (bz_dots _))
theorem bytes_inj : ∀ {a b : List Int}, Bz a → Bz b → (a.map fun n => UInt8.ofNat n.toNat) = (b.map fun n => UInt8.ofNat n.toNat) → a = b
  | [], [], _, _, _ => rfl
  | [], _ :: _, _, _, h => by simp at h
  | _ :: _, [], _, _, h => by simp at h
  | x :: a, y :: b, ha, hb, h => by
    simp only [List.map_cons, List.cons.injEq] at h
    obtain ⟨h1, h2⟩ := h
    have hx := ha x List.mem_cons_self
    have hy := hb y List.mem_cons_self
    have h3 := congrArg UInt8.toNat h1
    rw [UInt8.toNat_ofNat', UInt8.toNat_ofNat'] at h3
    have : x = y := by omega
    subst this
    rw [bytes_inj (fun z hz => ha z (List.mem_cons_of_mem _ hz)) (fun z hz => hb z (List.mem_cons_of_mem _ hz)) h2]
theorem str_inj {a b : List Int} (ha : Bz a) (hb : Bz b) (h : (strOfNums a).toList = (strOfNums b).toList) : a = b := by
  rw [Lib.strOfNums_toList, Lib.strOfNums_toList] at h
  exact bytes_inj ha hb h
theorem begins_f {p q : List Int} (hp : Bz p) (hq : Bz q) : ∃ r, redpencillaw17_begins.f p q = some r ∧ (r = true ↔ ∃ t, p = q ++ t) := by
  unfold redpencillaw17_begins.f
  by_cases h : q.length ≤ p.length
  · rw [if_pos (by omega), if_pos (by omega), Int.toNat_natCast]
    refine ⟨_, rfl, ?_⟩
    rw [beq_iff_eq]
    constructor
    · intro e
      have e2 := str_inj (fun x hx => hp x (List.mem_of_mem_take hx)) hq e
      exact ⟨p.drop q.length, by conv => lhs; rw [← List.take_append_drop q.length p, e2]⟩
    · rintro ⟨t, rfl⟩
      rw [List.take_left]
  · rw [if_neg (by omega)]
    refine ⟨false, rfl, ⟨(fun q => by cases q), ?_⟩⟩
    rintro ⟨t, rfl⟩
    rw [List.length_append] at h
    omega

/-! Same. -/
theorem diff38 (x y : S38) : (((!((x.f0.f0) == (y.f0.f0)) || (!((x.f0.f1) == (y.f0.f1)))) || ((!((x.f1.f0) == (y.f1.f0)) || (!((x.f1.f1) == (y.f1.f1)))) || (!((x.f2) == (y.f2)) || (!((x.f3) == (y.f3)))))) = true) ↔ x ≠ y := by
  obtain ⟨⟨a, b⟩, ⟨c, d⟩, e, f⟩ := x
  obtain ⟨⟨a', b'⟩, ⟨c', d'⟩, e', f'⟩ := y
  simp only [Bool.or_eq_true, Bool.not_eq_true', beq_eq_false_iff_ne, ne_eq, S38.mk.injEq, S36.mk.injEq]
  omega
theorem diff36 (x y : S36) : ((!((x.f0) == (y.f0)) || (!((x.f1) == (y.f1)))) = true) ↔ x ≠ y := by
  obtain ⟨a, b⟩ := x
  obtain ⟨a', b'⟩ := y
  simp only [Bool.or_eq_true, Bool.not_eq_true', beq_eq_false_iff_ne, ne_eq, S36.mk.injEq]
  omega
theorem eq_get {α : Type} (z : α) {a b : List α} (hl : a.length = b.length) (h : ∀ j, j < a.length → a.getD j z = b.getD j z) : a = b := by
  apply List.ext_getElem hl
  intro j h1 h2
  have := h j h1
  rw [List.getD_eq_getElem?_getD, List.getD_eq_getElem?_getD, List.getElem?_eq_getElem h1, List.getElem?_eq_getElem h2] at this
  exact this
theorem same_l0 (a b : List S38) (hl : a.length = b.length) (ha : a.length ≤ 1000000) : ∀ (m i : Nat), m + i = a.length → (∀ j, j < i → a.getD j z38 = b.getD j z38) →
    ∃ r, redpencilref14_Same.l0 (m + 1) a b (i : Int) = some r ∧ (r = true ↔ a = b)
  | m, i, hm, hall => by
    unfold redpencilref14_Same.l0
    by_cases h : i < a.length
    · obtain ⟨m, rfl⟩ : ∃ m', m = m' + 1 := ⟨m - 1, by omega⟩
      have r1 : rd_T38 a (i : Int) = a.getD i z38 := by unfold rd_T38; rw [Int.toNat_natCast]
      have r2 : rd_T38 b (i : Int) = b.getD i z38 := by unfold rd_T38; rw [Int.toNat_natCast]
      rw [if_pos (by omega), if_pos (by omega), if_pos (by omega), r1, r2, show wrap64 ((i : Int) + 1) = ((i + 1 : Nat) : Int) by rw [w64 (by omega) (by omega)]; omega]
      by_cases q : a.getD i z38 = b.getD i z38
      · rw [if_neg (fun e => (diff38 _ _).1 e q)]
        refine same_l0 a b hl ha m (i + 1) (by omega) (fun j hj => ?_)
        rcases Nat.lt_or_ge j i with p | p
        · exact hall j p
        · obtain rfl : j = i := by omega
          exact q
      · rw [if_pos ((diff38 _ _).2 q)]
        exact ⟨false, rfl, ⟨(fun e => by cases e), fun e => absurd (by rw [e]) q⟩⟩
    · rw [if_neg (by omega)]
      exact ⟨true, rfl, ⟨fun _ => eq_get z38 hl (fun j hj => hall j (by omega)), fun _ => rfl⟩⟩
theorem same_f (a b : List S38) (ha : a.length ≤ 60) {k : Nat} (hk : 61 ≤ k) : ∃ r, redpencilref14_Same.f k a b = some r ∧ (r = true ↔ a = b) := by
  unfold redpencilref14_Same.f
  by_cases h : a.length = b.length
  · rw [if_pos (by omega)]
    obtain ⟨r, h1, h2⟩ := same_l0 a b h (by omega) a.length 0 rfl (fun j hj => by omega)
    exact ⟨r, leO_up (g := fun k => redpencilref14_Same.l0 k a b 0) (fun k => redpencilref14_Same.mono_l k a b 0) h1 k (by omega), h2⟩
  · rw [if_neg (by omega)]
    exact ⟨false, rfl, ⟨(fun e => by cases e), fun e => absurd (by rw [e]) h⟩⟩
theorem samed_l0 (a b : List S36) (hl : a.length = b.length) (ha : a.length ≤ 1000000) : ∀ (m i : Nat), m + i = a.length → (∀ j, j < i → a.getD j z36 = b.getD j z36) →
    ∃ r, redpencilref14_sameDots.l0 (m + 1) a b (i : Int) = some r ∧ (r = true ↔ a = b)
  | m, i, hm, hall => by
    unfold redpencilref14_sameDots.l0
    by_cases h : i < a.length
    · obtain ⟨m, rfl⟩ : ∃ m', m = m' + 1 := ⟨m - 1, by omega⟩
      have r1 : rd_T36 a (i : Int) = a.getD i z36 := by unfold rd_T36; rw [Int.toNat_natCast]
      have r2 : rd_T36 b (i : Int) = b.getD i z36 := by unfold rd_T36; rw [Int.toNat_natCast]
      rw [if_pos (by omega), if_pos (by omega), if_pos (by omega), r1, r2, show wrap64 ((i : Int) + 1) = ((i + 1 : Nat) : Int) by rw [w64 (by omega) (by omega)]; omega]
      by_cases q : a.getD i z36 = b.getD i z36
      · rw [if_neg (fun e => (diff36 _ _).1 e q)]
        refine samed_l0 a b hl ha m (i + 1) (by omega) (fun j hj => ?_)
        rcases Nat.lt_or_ge j i with p | p
        · exact hall j p
        · obtain rfl : j = i := by omega
          exact q
      · rw [if_pos ((diff36 _ _).2 q)]
        exact ⟨false, rfl, ⟨(fun e => by cases e), fun e => absurd (by rw [e]) q⟩⟩
    · rw [if_neg (by omega)]
      exact ⟨true, rfl, ⟨fun _ => eq_get z36 hl (fun j hj => hall j (by omega)), fun _ => rfl⟩⟩
theorem samed_f (a b : List S36) (ha : a.length ≤ 60) {k : Nat} (hk : 61 ≤ k) : ∃ r, redpencilref14_sameDots.f k a b = some r ∧ (r = true ↔ a = b) := by
  unfold redpencilref14_sameDots.f
  by_cases h : a.length = b.length
  · rw [if_pos (by omega)]
    obtain ⟨r, h1, h2⟩ := samed_l0 a b h (by omega) a.length 0 rfl (fun j hj => by omega)
    exact ⟨r, leO_up (g := fun k => redpencilref14_sameDots.l0 k a b 0) (fun k => redpencilref14_sameDots.mono_l k a b 0) h1 k (by omega), h2⟩
  · rw [if_neg (by omega)]
    exact ⟨false, rfl, ⟨(fun e => by cases e), fun e => absurd (by rw [e]) h⟩⟩
theorem samec_f (v c v' c' : List S36) (hv : v.length ≤ 60) (hc : c.length ≤ 60) {k : Nat} (hk : 61 ≤ k) : ∃ r, redpencilref14_SameContext.f k v c v' c' = some r ∧ (r = true ↔ v = v' ∧ c = c') := by
  obtain ⟨r1, a1, b1⟩ := samed_f v v' hv hk
  obtain ⟨r2, a2, b2⟩ := samed_f c c' hc hk
  unfold redpencilref14_SameContext.f
  rw [a1, Option.bind_some]
  cases r1 with
  | false => exact ⟨false, rfl, ⟨(fun e => by cases e), fun e => b1.2 e.1⟩⟩
  | true =>
    rw [if_pos rfl, a2]
    exact ⟨r2, rfl, ⟨fun e => ⟨b1.1 rfl, b2.1 e⟩, fun e => b2.2 e.2⟩⟩
theorem small_f (vs cl : List S36) : redpencilref17_Small.f vs cl = some (decide (vs.length ≤ 60 ∧ cl.length ≤ 60)) := by
  unfold redpencilref17_Small.f
  by_cases h : vs.length ≤ 60
  · rw [if_pos (by omega)]; congr 1; exact decide_eq_decide.2 (by omega)
  · rw [if_neg (by omega), decide_eq_false (by omega)]

/-! CanonHolds. -/
theorem cen_dec (xs : List S38) (hl : xs.length ≤ 60) : (StoreOk xs ∧ cenP xs = (canonBs xs, 0)) ∨ (¬ StoreOk xs ∧ cenP xs = ([], 2)) := by
  by_cases h : StoreOk xs
  · exact .inl ⟨h, cenP_ok h (by omega)⟩
  · exact .inr ⟨h, cenP_bad h⟩
theorem ccx_dec (vs cl : List S36) (h1 : vs.length ≤ 60) (h2 : cl.length ≤ 60) : (CompactOk vs cl ∧ ccxP vs cl = (ctxBs vs cl, 0)) ∨ (¬ CompactOk vs cl ∧ ccxP vs cl = ([], 2)) := by
  by_cases h : CompactOk vs cl
  · exact .inl ⟨h, ccxP_ok h (by omega) (by omega)⟩
  · exact .inr ⟨h, ccxP_bad h⟩
section
variable {c0 c1 d0 d1 : List S36} (hc0 : c0.length ≤ 60) (hc1 : c1.length ≤ 60) (hd0 : d0.length ≤ 60) (hd1 : d1.length ≤ 60)
include hc0 hc1 hd0 hd1
theorem holds_j3 (k : Nat) (hk : 61 ≤ k) : redpencillaw17_CanonHolds.j3 (k + 1) c0 c1 d0 d1 = some true := by
  rw [redpencillaw17_CanonHolds.j3, ctx_f (by omega) (by omega), Option.bind_some, ctx_f (by omega) (by omega), Option.bind_some]
  rcases ccx_dec c0 c1 hc0 hc1 with ⟨h1, e1⟩ | ⟨h1, e1⟩
  · rcases ccx_dec d0 d1 hd0 hd1 with ⟨h2, e2⟩ | ⟨h2, e2⟩
    · obtain ⟨r, a, b⟩ := begins_f (bz_ctx c0 c1) (bz_ctx d0 d1)
      obtain ⟨s, a', b'⟩ := samec_f c0 c1 d0 d1 hc0 hc1 hk
      rw [e1, e2, if_pos rfl, if_pos rfl, a, Option.bind_some, a', Option.bind_some]
      have hrs : r = s := by
        rw [Bool.eq_iff_iff, b, b']
        constructor
        · rintro ⟨t, ht⟩
          exact ctx_pre h1 h2 (by omega) (by omega) (by omega) (by omega) ht
        · rintro ⟨rfl, rfl⟩
          exact ⟨[], (List.append_nil _).symm⟩
      rw [hrs, if_pos (by simp)]
      exact then_known (by omega)
    · rw [e1, e2, if_pos rfl, if_neg (by decide)]
      exact then_known (by omega)
  · rw [e1, if_neg (by decide)]
    exact then_known (by omega)
theorem holds_j2 {xs : List S38} (hx : xs.length ≤ 60) {n : Int} (n0 : 0 ≤ n) (n1 : n ≤ 255) {B : List Int} {b : Bool} (hb : b = true → StoreOk xs ∧ B = canonBs xs ∧ 0 < xs.length) (k : Nat) (hk : 61 ≤ k) :
    redpencillaw17_CanonHolds.j2 (k + 2) xs n B b c0 c1 d0 d1 = some true := by
  rw [redpencillaw17_CanonHolds.j2]
  cases b with
  | false =>
    rw [if_neg (by decide)]
    exact holds_j3 hc0 hc1 hd0 hd1 k hk
  | true =>
    obtain ⟨ho, rfl, hp⟩ := hb rfl
    have hcp : redpencilref14_Copy.f xs = some xs := if_pos (by omega)
    have hw : wrap64 n = n := w64 (by omega) (by omega)
    obtain ⟨j, hj⟩ : ∃ j : Nat, Int.tmod n (xs.length : Int) = j := ⟨(n % xs.length).toNat, by
      rw [Int.tmod_eq_emod_of_nonneg n0]
      have := Int.emod_nonneg n (show (xs.length : Int) ≠ 0 by omega)
      omega⟩
    have hjl : j < xs.length := by
      have h1 := Int.emod_lt_of_pos n (show (0 : Int) < xs.length by omega)
      rw [← Int.tmod_eq_emod_of_nonneg n0, hj] at h1
      omega
    have hr : rd_T38 xs (j : Int) = xs.getD j z38 := by unfold rd_T38; rw [Int.toNat_natCast]
    rw [if_pos rfl, hcp, Option.bind_some, hw, hj, if_neg (by omega), if_pos (by omega), if_pos (by omega), hr, Int.toNat_natCast]
    show ((canon_Size.f (xs.set j (dead (xs.getD j z38)))).bind _) = some true
    have hd := store_dead ho hjl
    have hl := canon_dead ho hjl
    rw [siz_f (by rw [List.length_set]; omega), Option.bind_some, cenP_ok hd (by rw [List.length_set]; omega), if_pos rfl, if_neg (show ¬ (((canonBs (xs.set j (dead (xs.getD j z38)))).length : Int) > ((canonBs xs).length : Int)) by omega)]
    exact holds_j3 hc0 hc1 hd0 hd1 k hk
theorem holds_j1 {xs : List S38} (hx : xs.length ≤ 60) {n : Int} (n0 : 0 ≤ n) (n1 : n ≤ 255) (k : Nat) (hk : 61 ≤ k) :
    redpencillaw17_CanonHolds.j1 (k + 3) xs n (cenP xs).1 (cenP xs).2 false c0 c1 d0 d1 = some true := by
  rw [redpencillaw17_CanonHolds.j1, if_neg (by decide)]
  rcases cen_dec xs hx with ⟨h, e⟩ | ⟨h, e⟩
  · rw [e, if_pos rfl]
    exact holds_j2 hc0 hc1 hd0 hd1 hx n0 n1 (fun hb => ⟨h, rfl, by have := of_decide_eq_true hb; omega⟩) k hk
  · rw [e, if_neg (by decide)]
    exact holds_j2 hc0 hc1 hd0 hd1 hx n0 n1 (fun hb => by cases hb) k hk
theorem holds_j0 {xs ys : List S38} (hx : xs.length ≤ 60) (hy : ys.length ≤ 60) {n : Int} (n0 : 0 ≤ n) (n1 : n ≤ 255) (k : Nat) (hk : 61 ≤ k) :
    redpencillaw17_CanonHolds.j0 (k + 4) xs ys n false c0 c1 d0 d1 = some true := by
  have hj := holds_j1 hc0 hc1 hd0 hd1 hx n0 n1 k hk
  rw [redpencillaw17_CanonHolds.j0, if_neg (by decide), enc_f (by omega), Option.bind_some, enc_f (by omega), Option.bind_some]
  rcases cen_dec xs hx with ⟨h1, e1⟩ | ⟨h1, e1⟩
  · rcases cen_dec ys hy with ⟨h2, e2⟩ | ⟨h2, e2⟩
    · obtain ⟨r, a, b⟩ := begins_f (bz_canon h1) (bz_canon h2)
      obtain ⟨s, a', b'⟩ := same_f xs ys hx (k := k + 3) (by omega)
      rw [e1] at hj
      rw [e1, e2, if_pos rfl, if_pos rfl, a, Option.bind_some, a', Option.bind_some]
      have hrs : r = s := by
        rw [Bool.eq_iff_iff, b, b']
        constructor
        · rintro ⟨t, ht⟩
          exact canon_pre h1 h2 (by omega) (by omega) ht
        · rintro rfl
          exact ⟨[], (List.append_nil _).symm⟩
      have hp := canon_pos xs
      rw [hrs, if_neg (by simp), show (((canonBs xs).length : Int) == 0) = false from beq_eq_false_iff_ne.2 (by omega)]
      exact hj
    · rw [e1] at hj
      rw [e1, e2, if_pos rfl, if_neg (by decide)]
      exact hj
  · rw [e1] at hj
    rw [e1, if_neg (by decide)]
    exact hj
end
theorem canonHolds_f (xs ys : List S38) {n : Int} (n0 : 0 ≤ n) (n1 : n ≤ 255) (c0 c1 d0 d1 : List S36) : redpencillaw17_CanonHolds.f 100 xs ys n c0 c1 d0 d1 = some true := by
  have hj : redpencillaw17_CanonHolds.j0 100 xs ys n true c0 c1 d0 d1 = some true := by
    rw [redpencillaw17_CanonHolds.j0, if_pos rfl]
    exact then_known (by omega)
  unfold redpencillaw17_CanonHolds.f
  by_cases h1 : xs.length ≤ 60
  · rw [if_neg (by omega)]
    by_cases h2 : ys.length ≤ 60
    · rw [if_neg (by omega), small_f, Option.bind_some]
      by_cases h3 : c0.length ≤ 60 ∧ c1.length ≤ 60
      · rw [if_pos (decide_eq_true h3), small_f, Option.bind_some]
        by_cases h4 : d0.length ≤ 60 ∧ d1.length ≤ 60
        · rw [decide_eq_true h4]
          exact holds_j0 h3.1 h3.2 h4.1 h4.2 h1 h2 n0 n1 96 (by omega)
        · rw [decide_eq_false h4]
          exact hj
      · rw [if_neg (by simpa using h3)]
        exact hj
    · rw [if_pos (by omega)]
      exact hj
  · rw [if_pos (by omega)]
    exact hj
theorem canonHolds_walk (A0 : Option Addr) (c0 : Nat) (xs : List S38) (A1 : Option Addr) (c1 : Nat) (ys : List S38) (n : Int) (v w : Value) (x y : List S36 × List S36) (W : World) (C0 : k38.C W A0 xs.length xs) (l0 : xs.length ≤ c0) (C1 : k38.C W A1 ys.length ys) (l1 : ys.length ≤ c1)
    (n0 : 0 ≤ n) (n1 : n ≤ 255) (K : (Kd.pair (Kd.slice 36 k36) (Kd.slice 36 k36)).K W x v.cells.toList) (L : (Kd.pair (Kd.slice 36 k36) (Kd.slice 36 k36)).K W y w.cells.toList) :
    Calls Try.prog 7 #[.slice A0 xs.length c0, .slice A1 ys.length c1, .int .u8 n, v, w] W fun e W' => e = .returned (.bool true) ∧ Below W.heap.size W W' := by
  obtain ⟨B0, b0, B1, b1, rfl, D0, e0, D1, e1⟩ := ctx_open K
  obtain ⟨G0, g0, G1, g1, rfl, H0, f0, H1, f1⟩ := ctx_open L
  exact redpencillaw17_CanonHolds.calls 100 A0 c0 xs A1 c1 ys n B0 b0 x.1 B1 b1 x.2 G0 g0 y.1 G1 g1 y.2 W C0 l0 C1 l1 D0 e0 D1 e1 H0 f0 H1 f1 (canonHolds_f xs ys n0 n1 _ _ _ _)
end Go.Proofs.Ytfbjbajbjlcjfaa.Cn
