/- Readers of layer 1: contracts of IndexFunc with number's closure, and of number. -/
import Derived.Test.YtfcpofkhcfilmaaVd
namespace Go.Proofs.Ytfcpofkhcfilmaa.Vn
open Go.RowKit Go.Proofs Go.Proofs.YtfcpofkhcfilmaaW.PrintWords Go.Proofs.Ytfcpofkhcfilmaa.Kit
set_option linter.unusedSimpArgs false
set_option linter.unusedVariables false

/-- The first byte that is no more than 127, or -1. -/
def FI (xs : List Int) (r : Int) : Prop := (∃ e : Nat, r = e ∧ e < xs.length ∧ xs.getD e 0 < 128 ∧ ∀ j, j < e → 128 ≤ xs.getD j 0) ∨ (r = -1 ∧ ∀ j, j < xs.length → 128 ≤ xs.getD j 0)
set_option maxHeartbeats 1000000 in
theorem index_any (A : Option Addr) (c : Nat) (xs : List Int) (r : Int) (w : World) (hx : k8.C w A xs.length xs) (h : FI xs r) :
    Calls Try.prog 50 #[.slice A xs.length c, .func (.func 51) #[] #[]] w fun en w' => en = .returned (.int .i64 r) ∧ w = w' := by
  have lx : xs.length ≤ 9223372036854775807 := hx.2.1
  have HX := Lib.hid hx
  have H := Lib.hid h
  clear hx h
  go_enter Try.func50, Try.ntmps50
  go_wp2
  go_loopw [8] (fun i wr => ∃ k : Nat, k ≤ xs.length ∧ i = .int .i64 k ∧ (∀ j, j < k → 128 ≤ xs.getD j 0) ∧ w = wr) (fun i _ => (xs.length : Int).toNat - (intOf i).toNat)
  case atStart => exact ⟨0, by omega, rfl, fun j hj => by omega, by first | rfl | trivial⟩
  case round =>
    obtain ⟨k, hk, rfl, hall, rfl⟩ := hrel
    have HA := Lib.hid hall
    clear hall
    by_cases hlt : k < xs.length
    · obtain ⟨ad, eA, q0⟩ := at_int HX.out (k : Int) (by omega) (by omega)
      subst eA
      rw [Int.toNat_natCast] at q0
      generalize hx : xs.getD k 0 = x at *
      have X := Lib.hid hx
      clear hx
      by_cases hq : x < 128
      · have hd : decide (x < 128) = true := decide_eq_true hq
        go_wp2_with (go_at_call 51; refine (lit_any x _).mono ?_; rintro en w1 ⟨rfl, rfl⟩)
        go_ret
        have hr : r = k := by
          rcases H.out with ⟨e, rfl, h1, h2, h3⟩ | ⟨_, h2⟩
          · rcases Nat.lt_trichotomy e k with q | q | q
            · have := HA.out e q; omega
            · rw [q]
            · have := h3 k q; rw [X.out] at this; omega
          · have := h2 k hlt; rw [X.out] at this; omega
        exact ⟨by rw [hr]; rfl, rfl⟩
      · have hd : decide (x < 128) = false := decide_eq_false hq
        go_wp2_with (go_at_call 51; refine (lit_any x _).mono ?_; rintro en w1 ⟨rfl, rfl⟩)
        go_roundw
        case rel =>
          refine ⟨k + 1, by omega, by go_num, fun j hj => ?_, by first | rfl | trivial⟩
          rcases Nat.lt_or_ge j k with q | q
          · exact HA.out j q
          · obtain rfl : j = k := by omega
            rw [X.out]; omega
        case measure => simp [intOf]; omega
    · go_wp2
      go_ret
      have hr : r = -1 := by
        rcases H.out with ⟨e, rfl, h1, h2, h3⟩ | ⟨h1, _⟩
        · have := HA.out e (by omega); omega
        · exact h1
      exact ⟨by rw [hr]; rfl, rfl⟩

theorem getD_take (l : List Int) (m j : Nat) (h : j < m) : (l.take m).getD j 0 = l.getD j 0 := by
  rw [List.getD_eq_getElem?_getD, List.getD_eq_getElem?_getD, List.getElem?_take, if_pos h]
theorem andNot128 (x : Int) (h0 : 0 ≤ x) (h1 : x ≤ 255) : Go.bits .andNot .u8 x 128 = x % 128 := by
  obtain ⟨n, rfl⟩ : ∃ n : Nat, x = n := ⟨x.toNat, by omega⟩
  have : ∀ n : Fin 256, Go.bits .andNot .u8 (n.1 : Int) 128 = (n.1 : Int) % 128 := by decide +kernel
  exact this ⟨n, by omega⟩
theorem join7 (n y : Int) (h0 : 0 ≤ n) (h1 : n * 128 < 18446744073709551616) (h2 : 0 ≤ y) (h3 : y < 128) : Go.bits .or .u64 (n * 128) y = n * 128 + y :=
  bits_join .u64 64 (by decide) (fun n h1 h2 => by rw [wrapu]; omega) 7 (n * 128) y (by omega) (by omega) (by omega) h2 (by omega) (by omega)
def NumV (v s e : Int) (w : World) (en : Ending) (w' : World) : Prop := en = .returned (.tuple #[.int .u64 v, .int .i64 s, .int .i64 e]) ∧ ∃ n, w' = w.drewN n
theorem fi_none {l : List Int} {m : Nat} (h : ∀ j, j < m → 128 ≤ l.getD j 0) : FI (l.take m) (-1) := .inr ⟨rfl, fun j hj => by
  have : j < m := by rw [List.length_take] at hj; omega
  rw [getD_take l m j this]; exact h j this⟩
theorem fi_some {l : List Int} {e m : Nat} (h : Ends l e) (hm : e < m) : FI (l.take m) e := .inl ⟨e, rfl, by rw [List.length_take]; have := h.lt; omega, by rw [getD_take l m e hm]; exact h.last, fun j hj => by rw [getD_take l m j (by omega)]; exact h.more j hj⟩
attribute [local go_sem] Go.Proofs.YtfcpofkhcfilmaaW.PrintMore.max2_int Go.Proofs.YtfcpofkhcfilmaaW.PrintMore.min2_int Go.Proofs.YtfcpofkhcfilmaaW.PrintMore.max_two Go.Proofs.YtfcpofkhcfilmaaW.PrintMore.min_two
section
variable {g : Nat} {A : Option Addr} {c : Nat} {xs : List Int} {p : Nat}
theorem take10 (A : Option Addr) (c : Nat) (l : List Int) (h : 10 ≤ l.length) (hc : l.length ≤ c) :
    (∀ W : World, (Instr.slice 23 (.slice A l.length c) none (some (.int .i64 10)) none).run Try.prog W = .ok (.slice A 10 c) W) ∧ (∀ w, k8.C w A l.length l → k8.C w A (l.take 10).length (l.take 10)) := by
  obtain ⟨k1, k2, _⟩ := take8 A c l 10 h hc
  have e : (l.take 10).length = 10 := by rw [List.length_take]; omega
  refine ⟨fun W => ?_, k2⟩
  have := k1 W
  rw [e] at this
  exact this
theorem index10 (A : Option Addr) (c : Nat) (l : List Int) (r : Int) (w : World) (hl : 10 ≤ l.length) (hx : k8.C w A (l.take 10).length (l.take 10)) (h : FI (l.take 10) r) :
    Calls Try.prog 50 #[.slice A 10 c, .func (.func 51) #[] #[]] w fun en w' => en = .returned (.int .i64 r) ∧ w = w' := by
  have e : (l.take 10).length = 10 := by rw [List.length_take]; omega
  have := index_any A c (l.take 10) r w hx h
  rw [e] at this
  exact this
set_option maxHeartbeats 2000000 in
theorem num_short (w : World) (l : List Int) (he : xs.drop p = l) (h : Rd w g A c xs p) (h1 : l.length < 10) (h2 : ∀ j, j < l.length → 128 ≤ l.getD j 0) : Calls Try.prog 47 #[.pointer (some ⟨g, 0, none⟩)] w (NumV 0 0 4 w) := by
  have H := Lib.hid h
  have HE := Lib.hid he
  have ll : l.length ≤ 10000000 := by rw [← he, List.length_drop]; have := h.len; omega
  clear h he
  have F := Lib.hid (show FI l (-1) by have := fi_none h2; rwa [List.take_length] at this)
  clear h2
  go_enter Try.func47, Try.ntmps47
  go_wp2_with (first | (go_at_call 45; refine (rest_any _ H.out).mono ?_; rintro en w1 ⟨A', c', rfl, hC, hc, n, rfl⟩; rw [HE.out] at hC hc; rw [HE.out]; obtain ⟨k1, _, _⟩ := take8 A' c' l l.length (Nat.le_refl _) hc; rw [List.take_length] at k1; have HC := Lib.hid hC; clear hC hc) | (go_at_call 50; refine (index_any A' c' l (-1) _ HC.out F.out).mono ?_; rintro en w2 ⟨rfl, rfl⟩))
  go_ret3
  exact ⟨rfl, _, rfl⟩
set_option maxHeartbeats 2000000 in
theorem num_over (w : World) (l : List Int) (he : xs.drop p = l) (h : Rd w g A c xs p) (h1 : 10 ≤ l.length) (h2 : ∀ j, j < 10 → 128 ≤ l.getD j 0) : Calls Try.prog 47 #[.pointer (some ⟨g, 0, none⟩)] w (NumV 0 0 12 w) := by
  have H := Lib.hid h
  have HE := Lib.hid he
  have ll : l.length ≤ 10000000 := by rw [← he, List.length_drop]; have := h.len; omega
  clear h he
  by_cases h10 : l.length ≤ 10
  · have F := Lib.hid (show FI l (-1) by have := fi_none h2; rwa [show (10 : Nat) = l.length by omega, List.take_length] at this)
    clear h2
    go_enter Try.func47, Try.ntmps47
    go_wp2_with (first | (go_at_call 45; refine (rest_any _ H.out).mono ?_; rintro en w1 ⟨A', c', rfl, hC, hc, n, rfl⟩; rw [HE.out] at hC hc; rw [HE.out]; obtain ⟨k1, _, _⟩ := take8 A' c' l l.length (Nat.le_refl _) hc; rw [List.take_length] at k1; have HC := Lib.hid hC; clear hC hc) | (go_at_call 50; refine (index_any A' c' l (-1) _ HC.out F.out).mono ?_; rintro en w2 ⟨rfl, rfl⟩))
    go_ret3
    exact ⟨rfl, _, rfl⟩
  · have F := Lib.hid (fi_none h2)
    have L10 := Lib.hid h1
    clear h2
    go_enter Try.func47, Try.ntmps47
    go_wp2_with (first | (go_at_call 45; refine (rest_any _ H.out).mono ?_; rintro en w1 ⟨A', c', rfl, hC, hc, n, rfl⟩; rw [HE.out] at hC hc; rw [HE.out]; obtain ⟨k1, k2⟩ := take10 A' c' l L10.out hc; have TK := Lib.hid (k2 _ hC); have HC := Lib.hid hC; clear hC hc k2) | (go_at_call 50; refine (index10 A' c' l (-1) _ L10.out TK.out F.out).mono ?_; rintro en w2 ⟨rfl, rfl⟩))
    go_ret3
    exact ⟨rfl, _, rfl⟩
set_option maxHeartbeats 2000000 in
theorem num_bad0 (w : World) (l : List Int) (he : xs.drop p = l) (h : Rd w g A c xs p) (e : Nat) (en : Ends l e) (x : Int) (hx : l.getD e 0 = x) (b1 : 0 < e) (b2 : x = 0) : Calls Try.prog 47 #[.pointer (some ⟨g, 0, none⟩)] w (NumV 0 0 12 w) := by
  have H := Lib.hid h
  have HE := Lib.hid he
  have ll : l.length ≤ 10000000 := by rw [← he, List.length_drop]; have := h.len; omega
  clear h he
  have EN := Lib.hid en
  have X := Lib.hid hx
  have e10 := en.lt10
  have el := en.lt
  subst b2
  clear en hx
  by_cases h10 : l.length ≤ 10
  · have h10 := h10
    have F := Lib.hid (show FI l e by have := fi_some EN.out EN.out.lt; rwa [List.take_length] at this)
    go_enter Try.func47, Try.ntmps47
    go_wp2_with (first | (go_at_call 45; refine (rest_any _ H.out).mono ?_; rintro en w1 ⟨A', c', rfl, hC, hc, n, rfl⟩; rw [HE.out] at hC hc; rw [HE.out]; obtain ⟨k1, _, _⟩ := take8 A' c' l l.length (Nat.le_refl _) hc; rw [List.take_length] at k1; have HC := Lib.hid hC; clear hC hc) | (go_at_call 50; refine (index_any A' c' l ((e : Int)) _ HC.out F.out).mono ?_; rintro en w2 ⟨rfl, rfl⟩; (obtain ⟨ad, eA, q0⟩ := at_int HC.out (e : Int) (by omega) (by omega)); subst eA; rw [Int.toNat_natCast] at q0; rw [X.out] at q0))
    go_ret3
    exact ⟨rfl, _, rfl⟩
  · have h10 := h10
    have F := Lib.hid (fi_some EN.out EN.out.lt10)
    have L10 := Lib.hid (show 10 ≤ l.length by omega)
    go_enter Try.func47, Try.ntmps47
    go_wp2_with (first | (go_at_call 45; refine (rest_any _ H.out).mono ?_; rintro en w1 ⟨A', c', rfl, hC, hc, n, rfl⟩; rw [HE.out] at hC hc; rw [HE.out]; obtain ⟨k1, k2⟩ := take10 A' c' l L10.out hc; have TK := Lib.hid (k2 _ hC); have HC := Lib.hid hC; clear hC hc k2) | (go_at_call 50; refine (index10 A' c' l ((e : Int)) _ L10.out TK.out F.out).mono ?_; rintro en w2 ⟨rfl, rfl⟩; (obtain ⟨ad, eA, q0⟩ := at_int HC.out (e : Int) (by omega) (by omega)); subst eA; rw [Int.toNat_natCast] at q0; rw [X.out] at q0))
    go_ret3
    exact ⟨rfl, _, rfl⟩
set_option maxHeartbeats 2000000 in
theorem num_bad9 (w : World) (l : List Int) (he : xs.drop p = l) (h : Rd w g A c xs p) (e : Nat) (en : Ends l e) (x : Int) (hx : l.getD e 0 = x) (b1 : e = 9) (b2 : 1 < x) : Calls Try.prog 47 #[.pointer (some ⟨g, 0, none⟩)] w (NumV 0 0 12 w) := by
  have H := Lib.hid h
  have HE := Lib.hid he
  have ll : l.length ≤ 10000000 := by rw [← he, List.length_drop]; have := h.len; omega
  clear h he
  have EN := Lib.hid en
  have X := Lib.hid hx
  have e10 := en.lt10
  have el := en.lt
  have E9 := Lib.hid b1
  have b5 : ((e : Int) == 9) = true := by subst b1; rfl
  have b3 : (x == 0) = false := beq_eq_false_iff_ne.2 (by omega)
  clear en hx
  by_cases h10 : l.length ≤ 10
  · have h10 := h10
    have F := Lib.hid (show FI l e by have := fi_some EN.out EN.out.lt; rwa [List.take_length] at this)
    go_enter Try.func47, Try.ntmps47
    go_wp2_with (first | (go_at_call 45; refine (rest_any _ H.out).mono ?_; rintro en w1 ⟨A', c', rfl, hC, hc, n, rfl⟩; rw [HE.out] at hC hc; rw [HE.out]; obtain ⟨k1, _, _⟩ := take8 A' c' l l.length (Nat.le_refl _) hc; rw [List.take_length] at k1; have HC := Lib.hid hC; clear hC hc) | (go_at_call 50; refine (index_any A' c' l ((e : Int)) _ HC.out F.out).mono ?_; rintro en w2 ⟨rfl, rfl⟩; (obtain ⟨ad, eA, q0⟩ := at_int HC.out (e : Int) (by omega) (by omega)); subst eA; rw [Int.toNat_natCast] at q0; rw [X.out] at q0; have q9 := q0; rw [E9.out] at q9; replace q9 : World.cell? (w.drewN n) ⟨ad.block, ad.off + 9, none⟩ = some (.int .u8 x) := q9))
    go_ret3
    exact ⟨rfl, _, rfl⟩
  · have h10 := h10
    have F := Lib.hid (fi_some EN.out EN.out.lt10)
    have L10 := Lib.hid (show 10 ≤ l.length by omega)
    go_enter Try.func47, Try.ntmps47
    go_wp2_with (first | (go_at_call 45; refine (rest_any _ H.out).mono ?_; rintro en w1 ⟨A', c', rfl, hC, hc, n, rfl⟩; rw [HE.out] at hC hc; rw [HE.out]; obtain ⟨k1, k2⟩ := take10 A' c' l L10.out hc; have TK := Lib.hid (k2 _ hC); have HC := Lib.hid hC; clear hC hc k2) | (go_at_call 50; refine (index10 A' c' l ((e : Int)) _ L10.out TK.out F.out).mono ?_; rintro en w2 ⟨rfl, rfl⟩; (obtain ⟨ad, eA, q0⟩ := at_int HC.out (e : Int) (by omega) (by omega)); subst eA; rw [Int.toNat_natCast] at q0; rw [X.out] at q0; have q9 := q0; rw [E9.out] at q9; replace q9 : World.cell? (w.drewN n) ⟨ad.block, ad.off + 9, none⟩ = some (.int .u8 x) := q9))
    go_ret3
    exact ⟨rfl, _, rfl⟩
theorem num_round {l : List Int} {e k : Nat} {N : Int} (hN : 0 ≤ N) (hV : N * 128 ^ (k + 1) + gs l (k + 1) = gs l (e + 1)) (hk : k + 1 ≤ e + 1) (hlt : gs l (e + 1) < 18446744073709551616) (hx : 0 ≤ l.getD k 0) :
    N * 128 < 18446744073709551616 ∧ 0 ≤ N * 128 ∧ (N * 128 + l.getD k 0 % 128) * 128 ^ k + gs l k = gs l (e + 1) ∧ True := by
  have h1 := gs_nonneg l (k + 1)
  have hp : (1 : Int) ≤ 128 ^ k := by have : (0 : Int) < 128 ^ k := Int.pow_pos (by decide); omega
  have h2 : N * 128 * 1 ≤ N * 128 * 128 ^ k := Int.mul_le_mul_of_nonneg_left hp (by omega)
  have h3 : N * 128 ^ (k + 1) = N * 128 * 128 ^ k := by rw [Int.pow_succ, Int.mul_comm (128 ^ k) 128, Int.mul_assoc]
  refine ⟨by omega, by omega, ?_, trivial⟩
  have h4 : gs l (k + 1) = gs l k + (l.getD k 0 % 128) * 128 ^ k := rfl
  rw [Int.add_mul]
  omega
set_option maxHeartbeats 2000000 in
theorem num_good0 (w : World) (l : List Int) (he : xs.drop p = l) (h : Rd w g A c xs p) (e : Nat) (en : Ends l e) (x : Int) (hx : l.getD e 0 = x) (by_ : Bys l) (lt : gs l (e + 1) < 18446744073709551616) (b1 : e = 0) (b2 : x < 128) : Calls Try.prog 47 #[.pointer (some ⟨g, 0, none⟩)] w (NumV (gs l (e + 1)) ((e + 1 : Nat) : Int) 0 w) := by
  have H := Lib.hid h
  have HE := Lib.hid he
  have ll : l.length ≤ 10000000 := by rw [← he, List.length_drop]; have := h.len; omega
  clear h he
  have EN := Lib.hid en
  have X := Lib.hid hx
  have e10 := en.lt10
  have el := en.lt
  have LT := Lib.hid lt
  have BY := Lib.hid by_
  clear lt by_
  have b6 : decide ((0 : Int) < e) = false := decide_eq_false (by omega)
  have b7 : ((e : Int) == 9) = false := beq_eq_false_iff_ne.2 (by omega)
  clear en hx
  by_cases h10 : l.length ≤ 10
  · have h10 := h10
    have F := Lib.hid (show FI l e by have := fi_some EN.out EN.out.lt; rwa [List.take_length] at this)
    go_enter Try.func47, Try.ntmps47
    go_wp2_with (first | (go_at_call 45; refine (rest_any _ H.out).mono ?_; rintro en w1 ⟨A', c', rfl, hC, hc, n, rfl⟩; rw [HE.out] at hC hc; rw [HE.out]; obtain ⟨k1, _, _⟩ := take8 A' c' l l.length (Nat.le_refl _) hc; rw [List.take_length] at k1; have HC := Lib.hid hC; clear hC hc) | (go_at_call 50; refine (index_any A' c' l ((e : Int)) _ HC.out F.out).mono ?_; rintro en w2 ⟨rfl, rfl⟩; (obtain ⟨ad, eA, q0⟩ := at_int HC.out (e : Int) (by omega) (by omega)); subst eA; rw [Int.toNat_natCast] at q0; rw [X.out] at q0))
    have HD := Lib.hid HC.out
    go_loopw [7, 8] (fun nv i wr => ∃ (k : Nat) (N : Int), k ≤ e + 1 ∧ nv = .int .u64 N ∧ i = .int .i64 ((k : Int) - 1) ∧ 0 ≤ N ∧ N * 128 ^ k + gs l k = gs l (e + 1) ∧ w.drewN n = wr) (fun _ i _ => (intOf i + 1).toNat)
    case atStart => exact ⟨e + 1, 0, Nat.le_refl _, rfl, by go_num, by omega, by omega, by first | rfl | trivial⟩
    case round =>
      obtain ⟨k, N, hk, rfl, rfl, hN, hV, rfl⟩ := hrel
      rcases k with _ | k
      · have hz : N = gs l (e + 1) := by
          have : N * 128 ^ 0 + 0 = gs l (e + 1) := hV
          omega
        subst hz
        have hd : decide ((0 : Int) ≤ ((0 : Nat) : Int) - 1) = false := by decide
        go_wp2
        go_ret3
        first
        | exact ⟨rfl, _, rfl⟩
        | (subst b1; exact ⟨rfl, _, rfl⟩)
      · have hk1 : k < l.length := by omega
        obtain ⟨bd, eB, p0⟩ := at_int HD.out (k : Int) (by omega) (by omega)
        injection eB with eB
        subst eB
        rw [Int.toNat_natCast] at p0
        have hb := BY.out.at hk1
        obtain ⟨y1, y2, y3, y4⟩ := num_round hN hV (by omega) LT.out hb.1
        generalize l.getD k 0 = x' at *
        have z1 : IntKind.u64.wrap (N * 128) = N * 128 := by rw [wrapu]; omega
        have z2 := andNot128 x' hb.1 hb.2
        have z3 : IntKind.u64.wrap (x' % 128) = x' % 128 := by rw [wrapu]; omega
        have z4 := join7 N (x' % 128) hN y1 (by omega) (by omega)
        have e1 : ((k + 1 : Nat) : Int) - 1 = k := by omega
        rw [e1]
        have Y := Lib.hid y3
        clear y3 hV
        go_wp2
        go_roundw
        case rel => exact ⟨k, N * 128 + x' % 128, by omega, rfl, by go_num, by omega, Y.out, by first | rfl | trivial⟩
        case measure => first | (simp [intOf]; done) | (simp [intOf]; omega)
  · have h10 := h10
    have F := Lib.hid (fi_some EN.out EN.out.lt10)
    have L10 := Lib.hid (show 10 ≤ l.length by omega)
    go_enter Try.func47, Try.ntmps47
    go_wp2_with (first | (go_at_call 45; refine (rest_any _ H.out).mono ?_; rintro en w1 ⟨A', c', rfl, hC, hc, n, rfl⟩; rw [HE.out] at hC hc; rw [HE.out]; obtain ⟨k1, k2⟩ := take10 A' c' l L10.out hc; have TK := Lib.hid (k2 _ hC); have HC := Lib.hid hC; clear hC hc k2) | (go_at_call 50; refine (index10 A' c' l ((e : Int)) _ L10.out TK.out F.out).mono ?_; rintro en w2 ⟨rfl, rfl⟩; (obtain ⟨ad, eA, q0⟩ := at_int HC.out (e : Int) (by omega) (by omega)); subst eA; rw [Int.toNat_natCast] at q0; rw [X.out] at q0))
    have HD := Lib.hid HC.out
    go_loopw [7, 8] (fun nv i wr => ∃ (k : Nat) (N : Int), k ≤ e + 1 ∧ nv = .int .u64 N ∧ i = .int .i64 ((k : Int) - 1) ∧ 0 ≤ N ∧ N * 128 ^ k + gs l k = gs l (e + 1) ∧ w.drewN n = wr) (fun _ i _ => (intOf i + 1).toNat)
    case atStart => exact ⟨e + 1, 0, Nat.le_refl _, rfl, by go_num, by omega, by omega, by first | rfl | trivial⟩
    case round =>
      obtain ⟨k, N, hk, rfl, rfl, hN, hV, rfl⟩ := hrel
      rcases k with _ | k
      · have hz : N = gs l (e + 1) := by
          have : N * 128 ^ 0 + 0 = gs l (e + 1) := hV
          omega
        subst hz
        have hd : decide ((0 : Int) ≤ ((0 : Nat) : Int) - 1) = false := by decide
        go_wp2
        go_ret3
        first
        | exact ⟨rfl, _, rfl⟩
        | (subst b1; exact ⟨rfl, _, rfl⟩)
      · have hk1 : k < l.length := by omega
        obtain ⟨bd, eB, p0⟩ := at_int HD.out (k : Int) (by omega) (by omega)
        injection eB with eB
        subst eB
        rw [Int.toNat_natCast] at p0
        have hb := BY.out.at hk1
        obtain ⟨y1, y2, y3, y4⟩ := num_round hN hV (by omega) LT.out hb.1
        generalize l.getD k 0 = x' at *
        have z1 : IntKind.u64.wrap (N * 128) = N * 128 := by rw [wrapu]; omega
        have z2 := andNot128 x' hb.1 hb.2
        have z3 : IntKind.u64.wrap (x' % 128) = x' % 128 := by rw [wrapu]; omega
        have z4 := join7 N (x' % 128) hN y1 (by omega) (by omega)
        have e1 : ((k + 1 : Nat) : Int) - 1 = k := by omega
        rw [e1]
        have Y := Lib.hid y3
        clear y3 hV
        go_wp2
        go_roundw
        case rel => exact ⟨k, N * 128 + x' % 128, by omega, rfl, by go_num, by omega, Y.out, by first | rfl | trivial⟩
        case measure => first | (simp [intOf]; done) | (simp [intOf]; omega)
set_option maxHeartbeats 2000000 in
theorem num_good1 (w : World) (l : List Int) (he : xs.drop p = l) (h : Rd w g A c xs p) (e : Nat) (en : Ends l e) (x : Int) (hx : l.getD e 0 = x) (by_ : Bys l) (lt : gs l (e + 1) < 18446744073709551616) (b1 : 0 < e) (b2 : x ≠ 0) (b3 : e ≠ 9) : Calls Try.prog 47 #[.pointer (some ⟨g, 0, none⟩)] w (NumV (gs l (e + 1)) ((e + 1 : Nat) : Int) 0 w) := by
  have H := Lib.hid h
  have HE := Lib.hid he
  have ll : l.length ≤ 10000000 := by rw [← he, List.length_drop]; have := h.len; omega
  clear h he
  have EN := Lib.hid en
  have X := Lib.hid hx
  have e10 := en.lt10
  have el := en.lt
  have LT := Lib.hid lt
  have BY := Lib.hid by_
  clear lt by_
  have b4 : (x == 0) = false := beq_eq_false_iff_ne.2 b2
  have b5 : ((e : Int) == 9) = false := beq_eq_false_iff_ne.2 (by omega)
  clear en hx
  by_cases h10 : l.length ≤ 10
  · have h10 := h10
    have F := Lib.hid (show FI l e by have := fi_some EN.out EN.out.lt; rwa [List.take_length] at this)
    go_enter Try.func47, Try.ntmps47
    go_wp2_with (first | (go_at_call 45; refine (rest_any _ H.out).mono ?_; rintro en w1 ⟨A', c', rfl, hC, hc, n, rfl⟩; rw [HE.out] at hC hc; rw [HE.out]; obtain ⟨k1, _, _⟩ := take8 A' c' l l.length (Nat.le_refl _) hc; rw [List.take_length] at k1; have HC := Lib.hid hC; clear hC hc) | (go_at_call 50; refine (index_any A' c' l ((e : Int)) _ HC.out F.out).mono ?_; rintro en w2 ⟨rfl, rfl⟩; (obtain ⟨ad, eA, q0⟩ := at_int HC.out (e : Int) (by omega) (by omega)); subst eA; rw [Int.toNat_natCast] at q0; rw [X.out] at q0))
    have HD := Lib.hid HC.out
    go_loopw [7, 8] (fun nv i wr => ∃ (k : Nat) (N : Int), k ≤ e + 1 ∧ nv = .int .u64 N ∧ i = .int .i64 ((k : Int) - 1) ∧ 0 ≤ N ∧ N * 128 ^ k + gs l k = gs l (e + 1) ∧ w.drewN n = wr) (fun _ i _ => (intOf i + 1).toNat)
    case atStart => exact ⟨e + 1, 0, Nat.le_refl _, rfl, by go_num, by omega, by omega, by first | rfl | trivial⟩
    case round =>
      obtain ⟨k, N, hk, rfl, rfl, hN, hV, rfl⟩ := hrel
      rcases k with _ | k
      · have hz : N = gs l (e + 1) := by
          have : N * 128 ^ 0 + 0 = gs l (e + 1) := hV
          omega
        subst hz
        have hd : decide ((0 : Int) ≤ ((0 : Nat) : Int) - 1) = false := by decide
        go_wp2
        go_ret3
        first
        | exact ⟨rfl, _, rfl⟩
        | (subst b1; exact ⟨rfl, _, rfl⟩)
      · have hk1 : k < l.length := by omega
        obtain ⟨bd, eB, p0⟩ := at_int HD.out (k : Int) (by omega) (by omega)
        injection eB with eB
        subst eB
        rw [Int.toNat_natCast] at p0
        have hb := BY.out.at hk1
        obtain ⟨y1, y2, y3, y4⟩ := num_round hN hV (by omega) LT.out hb.1
        generalize l.getD k 0 = x' at *
        have z1 : IntKind.u64.wrap (N * 128) = N * 128 := by rw [wrapu]; omega
        have z2 := andNot128 x' hb.1 hb.2
        have z3 : IntKind.u64.wrap (x' % 128) = x' % 128 := by rw [wrapu]; omega
        have z4 := join7 N (x' % 128) hN y1 (by omega) (by omega)
        have e1 : ((k + 1 : Nat) : Int) - 1 = k := by omega
        rw [e1]
        have Y := Lib.hid y3
        clear y3 hV
        go_wp2
        go_roundw
        case rel => exact ⟨k, N * 128 + x' % 128, by omega, rfl, by go_num, by omega, Y.out, by first | rfl | trivial⟩
        case measure => first | (simp [intOf]; done) | (simp [intOf]; omega)
  · have h10 := h10
    have F := Lib.hid (fi_some EN.out EN.out.lt10)
    have L10 := Lib.hid (show 10 ≤ l.length by omega)
    go_enter Try.func47, Try.ntmps47
    go_wp2_with (first | (go_at_call 45; refine (rest_any _ H.out).mono ?_; rintro en w1 ⟨A', c', rfl, hC, hc, n, rfl⟩; rw [HE.out] at hC hc; rw [HE.out]; obtain ⟨k1, k2⟩ := take10 A' c' l L10.out hc; have TK := Lib.hid (k2 _ hC); have HC := Lib.hid hC; clear hC hc k2) | (go_at_call 50; refine (index10 A' c' l ((e : Int)) _ L10.out TK.out F.out).mono ?_; rintro en w2 ⟨rfl, rfl⟩; (obtain ⟨ad, eA, q0⟩ := at_int HC.out (e : Int) (by omega) (by omega)); subst eA; rw [Int.toNat_natCast] at q0; rw [X.out] at q0))
    have HD := Lib.hid HC.out
    go_loopw [7, 8] (fun nv i wr => ∃ (k : Nat) (N : Int), k ≤ e + 1 ∧ nv = .int .u64 N ∧ i = .int .i64 ((k : Int) - 1) ∧ 0 ≤ N ∧ N * 128 ^ k + gs l k = gs l (e + 1) ∧ w.drewN n = wr) (fun _ i _ => (intOf i + 1).toNat)
    case atStart => exact ⟨e + 1, 0, Nat.le_refl _, rfl, by go_num, by omega, by omega, by first | rfl | trivial⟩
    case round =>
      obtain ⟨k, N, hk, rfl, rfl, hN, hV, rfl⟩ := hrel
      rcases k with _ | k
      · have hz : N = gs l (e + 1) := by
          have : N * 128 ^ 0 + 0 = gs l (e + 1) := hV
          omega
        subst hz
        have hd : decide ((0 : Int) ≤ ((0 : Nat) : Int) - 1) = false := by decide
        go_wp2
        go_ret3
        first
        | exact ⟨rfl, _, rfl⟩
        | (subst b1; exact ⟨rfl, _, rfl⟩)
      · have hk1 : k < l.length := by omega
        obtain ⟨bd, eB, p0⟩ := at_int HD.out (k : Int) (by omega) (by omega)
        injection eB with eB
        subst eB
        rw [Int.toNat_natCast] at p0
        have hb := BY.out.at hk1
        obtain ⟨y1, y2, y3, y4⟩ := num_round hN hV (by omega) LT.out hb.1
        generalize l.getD k 0 = x' at *
        have z1 : IntKind.u64.wrap (N * 128) = N * 128 := by rw [wrapu]; omega
        have z2 := andNot128 x' hb.1 hb.2
        have z3 : IntKind.u64.wrap (x' % 128) = x' % 128 := by rw [wrapu]; omega
        have z4 := join7 N (x' % 128) hN y1 (by omega) (by omega)
        have e1 : ((k + 1 : Nat) : Int) - 1 = k := by omega
        rw [e1]
        have Y := Lib.hid y3
        clear y3 hV
        go_wp2
        go_roundw
        case rel => exact ⟨k, N * 128 + x' % 128, by omega, rfl, by go_num, by omega, Y.out, by first | rfl | trivial⟩
        case measure => first | (simp [intOf]; done) | (simp [intOf]; omega)
set_option maxHeartbeats 2000000 in
theorem num_good9 (w : World) (l : List Int) (he : xs.drop p = l) (h : Rd w g A c xs p) (e : Nat) (en : Ends l e) (x : Int) (hx : l.getD e 0 = x) (by_ : Bys l) (lt : gs l (e + 1) < 18446744073709551616) (b1 : e = 9) (b2 : x ≠ 0) (b3 : x ≤ 1) : Calls Try.prog 47 #[.pointer (some ⟨g, 0, none⟩)] w (NumV (gs l (e + 1)) ((e + 1 : Nat) : Int) 0 w) := by
  have H := Lib.hid h
  have HE := Lib.hid he
  have ll : l.length ≤ 10000000 := by rw [← he, List.length_drop]; have := h.len; omega
  clear h he
  have EN := Lib.hid en
  have X := Lib.hid hx
  have e10 := en.lt10
  have el := en.lt
  have LT := Lib.hid lt
  have BY := Lib.hid by_
  clear lt by_
  have b4 : (x == 0) = false := beq_eq_false_iff_ne.2 b2
  have b5 : decide (1 < x) = false := decide_eq_false (by omega)
  have E9 := Lib.hid b1
  have b6 : ((e : Int) == 9) = true := by subst b1; rfl
  clear en hx
  by_cases h10 : l.length ≤ 10
  · have h10 := h10
    have F := Lib.hid (show FI l e by have := fi_some EN.out EN.out.lt; rwa [List.take_length] at this)
    go_enter Try.func47, Try.ntmps47
    go_wp2_with (first | (go_at_call 45; refine (rest_any _ H.out).mono ?_; rintro en w1 ⟨A', c', rfl, hC, hc, n, rfl⟩; rw [HE.out] at hC hc; rw [HE.out]; obtain ⟨k1, _, _⟩ := take8 A' c' l l.length (Nat.le_refl _) hc; rw [List.take_length] at k1; have HC := Lib.hid hC; clear hC hc) | (go_at_call 50; refine (index_any A' c' l ((e : Int)) _ HC.out F.out).mono ?_; rintro en w2 ⟨rfl, rfl⟩; (obtain ⟨ad, eA, q0⟩ := at_int HC.out (e : Int) (by omega) (by omega)); subst eA; rw [Int.toNat_natCast] at q0; rw [X.out] at q0; have q9 := q0; rw [E9.out] at q9; replace q9 : World.cell? (w.drewN n) ⟨ad.block, ad.off + 9, none⟩ = some (.int .u8 x) := q9))
    have HD := Lib.hid HC.out
    go_loopw [7, 8] (fun nv i wr => ∃ (k : Nat) (N : Int), k ≤ e + 1 ∧ nv = .int .u64 N ∧ i = .int .i64 ((k : Int) - 1) ∧ 0 ≤ N ∧ N * 128 ^ k + gs l k = gs l (e + 1) ∧ w.drewN n = wr) (fun _ i _ => (intOf i + 1).toNat)
    case atStart => exact ⟨e + 1, 0, Nat.le_refl _, rfl, by go_num, by omega, by omega, by first | rfl | trivial⟩
    case round =>
      obtain ⟨k, N, hk, rfl, rfl, hN, hV, rfl⟩ := hrel
      rcases k with _ | k
      · have hz : N = gs l (e + 1) := by
          have : N * 128 ^ 0 + 0 = gs l (e + 1) := hV
          omega
        subst hz
        have hd : decide ((0 : Int) ≤ ((0 : Nat) : Int) - 1) = false := by decide
        go_wp2
        go_ret3
        first
        | exact ⟨rfl, _, rfl⟩
        | (subst b1; exact ⟨rfl, _, rfl⟩)
      · have hk1 : k < l.length := by omega
        obtain ⟨bd, eB, p0⟩ := at_int HD.out (k : Int) (by omega) (by omega)
        injection eB with eB
        subst eB
        rw [Int.toNat_natCast] at p0
        have hb := BY.out.at hk1
        obtain ⟨y1, y2, y3, y4⟩ := num_round hN hV (by omega) LT.out hb.1
        generalize l.getD k 0 = x' at *
        have z1 : IntKind.u64.wrap (N * 128) = N * 128 := by rw [wrapu]; omega
        have z2 := andNot128 x' hb.1 hb.2
        have z3 : IntKind.u64.wrap (x' % 128) = x' % 128 := by rw [wrapu]; omega
        have z4 := join7 N (x' % 128) hN y1 (by omega) (by omega)
        have e1 : ((k + 1 : Nat) : Int) - 1 = k := by omega
        rw [e1]
        have Y := Lib.hid y3
        clear y3 hV
        go_wp2
        go_roundw
        case rel => exact ⟨k, N * 128 + x' % 128, by omega, rfl, by go_num, by omega, Y.out, by first | rfl | trivial⟩
        case measure => first | (simp [intOf]; done) | (simp [intOf]; omega)
  · have h10 := h10
    have F := Lib.hid (fi_some EN.out EN.out.lt10)
    have L10 := Lib.hid (show 10 ≤ l.length by omega)
    go_enter Try.func47, Try.ntmps47
    go_wp2_with (first | (go_at_call 45; refine (rest_any _ H.out).mono ?_; rintro en w1 ⟨A', c', rfl, hC, hc, n, rfl⟩; rw [HE.out] at hC hc; rw [HE.out]; obtain ⟨k1, k2⟩ := take10 A' c' l L10.out hc; have TK := Lib.hid (k2 _ hC); have HC := Lib.hid hC; clear hC hc k2) | (go_at_call 50; refine (index10 A' c' l ((e : Int)) _ L10.out TK.out F.out).mono ?_; rintro en w2 ⟨rfl, rfl⟩; (obtain ⟨ad, eA, q0⟩ := at_int HC.out (e : Int) (by omega) (by omega)); subst eA; rw [Int.toNat_natCast] at q0; rw [X.out] at q0; have q9 := q0; rw [E9.out] at q9; replace q9 : World.cell? (w.drewN n) ⟨ad.block, ad.off + 9, none⟩ = some (.int .u8 x) := q9))
    have HD := Lib.hid HC.out
    go_loopw [7, 8] (fun nv i wr => ∃ (k : Nat) (N : Int), k ≤ e + 1 ∧ nv = .int .u64 N ∧ i = .int .i64 ((k : Int) - 1) ∧ 0 ≤ N ∧ N * 128 ^ k + gs l k = gs l (e + 1) ∧ w.drewN n = wr) (fun _ i _ => (intOf i + 1).toNat)
    case atStart => exact ⟨e + 1, 0, Nat.le_refl _, rfl, by go_num, by omega, by omega, by first | rfl | trivial⟩
    case round =>
      obtain ⟨k, N, hk, rfl, rfl, hN, hV, rfl⟩ := hrel
      rcases k with _ | k
      · have hz : N = gs l (e + 1) := by
          have : N * 128 ^ 0 + 0 = gs l (e + 1) := hV
          omega
        subst hz
        have hd : decide ((0 : Int) ≤ ((0 : Nat) : Int) - 1) = false := by decide
        go_wp2
        go_ret3
        first
        | exact ⟨rfl, _, rfl⟩
        | (subst b1; exact ⟨rfl, _, rfl⟩)
      · have hk1 : k < l.length := by omega
        obtain ⟨bd, eB, p0⟩ := at_int HD.out (k : Int) (by omega) (by omega)
        injection eB with eB
        subst eB
        rw [Int.toNat_natCast] at p0
        have hb := BY.out.at hk1
        obtain ⟨y1, y2, y3, y4⟩ := num_round hN hV (by omega) LT.out hb.1
        generalize l.getD k 0 = x' at *
        have z1 : IntKind.u64.wrap (N * 128) = N * 128 := by rw [wrapu]; omega
        have z2 := andNot128 x' hb.1 hb.2
        have z3 : IntKind.u64.wrap (x' % 128) = x' % 128 := by rw [wrapu]; omega
        have z4 := join7 N (x' % 128) hN y1 (by omega) (by omega)
        have e1 : ((k + 1 : Nat) : Int) - 1 = k := by omega
        rw [e1]
        have Y := Lib.hid y3
        clear y3 hV
        go_wp2
        go_roundw
        case rel => exact ⟨k, N * 128 + x' % 128, by omega, rfl, by go_num, by omega, Y.out, by first | rfl | trivial⟩
        case measure => first | (simp [intOf]; done) | (simp [intOf]; omega)
theorem rnum_any (w : World) (h : Rd w g A c xs p) (hb : Bys xs) {v s e : Int} (hr : RdR (xs.drop p) v s e) : Calls Try.prog 47 #[.pointer (some ⟨g, 0, none⟩)] w (NumV v s e w) := by
  have hb' := hb.drop p
  generalize he : xs.drop p = l at *
  cases hr with
  | short h1 h2 => exact num_short w l he h h1 h2
  | over h1 h2 => exact num_over w l he h h1 h2
  | bad e h1 h2 =>
    rcases h2 with ⟨h2, h3⟩ | ⟨h2, h3⟩
    · exact num_bad0 w l he h e h1 _ rfl h2 h3
    · exact num_bad9 w l he h e h1 _ rfl h2 h3
  | good e h1 h2 =>
    have hlt := good_lt (fun j hj => (hb'.at hj).1) h1 h2
    by_cases q0 : e = 0
    · exact num_good0 w l he h e h1 _ rfl hb' hlt q0 h1.last
    · have q1 : l.getD e 0 ≠ 0 := fun q => h2 (.inl ⟨by omega, q⟩)
      by_cases q9 : e = 9
      · have q2 : l.getD e 0 ≤ 1 := by
          rcases Int.lt_or_le 1 (l.getD e 0) with q | q
          · exact absurd (.inr ⟨q9, q⟩) h2
          · exact q
        exact num_good9 w l he h e h1 _ rfl hb' hlt q9 q1 q2
      · exact num_good1 w l he h e h1 _ rfl hb' hlt (by omega) q1 q9
end
end Go.Proofs.Ytfcpofkhcfilmaa.Vn
