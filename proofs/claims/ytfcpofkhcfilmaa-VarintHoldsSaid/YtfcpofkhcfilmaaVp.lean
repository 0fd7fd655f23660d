/- Readers of layer 1, more: contracts of Raw, Bytes, Copy. -/
import Derived.Test.YtfcpofkhcfilmaaVo
namespace Go.Proofs.Ytfcpofkhcfilmaa.Vn
open Go.RowKit Go.Proofs Go.Proofs.YtfcpofkhcfilmaaW.PrintWords Go.Proofs.Ytfcpofkhcfilmaa.Kit
set_option linter.unusedSimpArgs false
set_option linter.unusedVariables false

/-- Raw's error and bytes. -/
def tE (n : Int) (l : List Int) : Int := if n < 0 then 2 else if (l.length : Int) < n then 4 else 0
def tY (n : Int) (l : List Int) : List Int := if 0 ≤ n ∧ n ≤ (l.length : Int) then l.take n.toNat else []
theorem tY_len (n : Int) (l : List Int) : (tY n l).length ≤ l.length := by
  unfold tY; split
  · rw [List.length_take]; omega
  · simp
/-- A list of bytes, and an error; the reader has read so many more. -/
def TakeP (g : Nat) (A : Option Addr) (c : Nat) (xs : List Int) (q : Nat) (ys : List Int) (e : Int) (w : World) (en : Ending) (w' : World) : Prop :=
  ∃ v, en = .returned (.tuple #[v, .int .i64 e]) ∧ k8.R 5 w' w.heap.size (fun j => w.heap.size ≤ j) v ys ∧ Rd w' g A c xs q ∧ Fr w w' (fun i => i = g)
section
variable {g : Nat} {A : Option Addr} {c : Nat} {xs : List Int} {p : Nat}
theorem take_nil (w w' : World) (q : Nat) (e : Int) (h : Rd w' g A c xs q) (f : Fr w w' (fun i => i = g)) : TakeP g A c xs q [] e w (.returned (.tuple #[.slice none 0 0, .int .i64 e])) w' := ⟨_, rfl, Kd.R_nil _ _ _ _ _, h, f⟩
theorem rest_l {l : List Int} (hl : xs.drop p = l) (w : World) (h : Rd w g A c xs p) : Calls Try.prog 45 #[.pointer (some ⟨g, 0, none⟩)] w fun en w' =>
    ∃ A' c', en = .returned (.slice A' l.length c') ∧ k8.C w' A' l.length l ∧ l.length ≤ c' ∧ ∃ n, w' = w.drewN n := by
  subst hl
  exact rest_any w h
theorem clone_n (A : Option Addr) (c : Nat) (xs : List Int) {m : Nat} (e : xs.length = m) (w : World) (hx : k8.C w A m xs) (hl : xs.length ≤ 100000000) : Calls Try.prog 40 #[.slice A m c] w (MadeP xs w) := by
  subst e
  exact clone_any A c xs w hx hl
set_option maxHeartbeats 2000000 in
theorem raw_l {l : List Int} (hl : xs.drop p = l) (w : World) (h : Rd w g A c xs p) (n : Int) : Calls Try.prog 35 #[.pointer (some ⟨g, 0, none⟩), .int .i64 n] w (TakeP g A c xs (p + (tY n l).length) (tY n l) (tE n l) w) := by
  have hle := h.le
  have hlen := h.len
  have hdl : l.length = xs.length - p := by rw [← hl]; exact List.length_drop
  have HL := Lib.hid hl
  have H := Lib.hid h
  clear h hl
  by_cases h0 : n < 0
  · have e1 : tY n l = [] := if_neg (by omega)
    have e2 : tE n l = 2 := if_pos h0
    rw [e1, e2]
    have hd : decide (n < 0) = true := decide_eq_true h0
    clear e1 e2 h0 hle hlen hdl
    go_enter Try.func35, Try.ntmps35
    go_wp2_with (first | (go_at_call 41; refine (zero_any _ H.out).mono ?_; rintro en w1 ⟨rfl, rfl⟩))
    go_ret2
    exact take_nil _ _ _ _ H.out (Fr.refl _ _)
  · by_cases h1 : (l.length : Int) < n
    · have e1 : tY n l = [] := if_neg (by omega)
      have e2 : tE n l = 4 := by unfold tE; rw [if_neg h0, if_pos h1]
      rw [e1, e2]
      have hd : decide (n < 0) = false := decide_eq_false h0
      have hd2 : decide ((l.length : Int) < n) = true := decide_eq_true h1
      clear e1 e2 h0 hle hlen hdl h1
      go_enter Try.func35, Try.ntmps35
      go_wp2_with (first | (go_at_call 41; refine (zero_any _ H.out).mono ?_; rintro en w1 ⟨rfl, rfl⟩) | (go_at_call 45; refine (rest_l HL.out _ H.out).mono ?_; rintro en w1 ⟨A', c', rfl, _, _, nd, rfl⟩))
      go_ret2
      exact take_nil _ _ _ _ (H.out.drewN nd) (fr_drewN _ _ nd)
    · obtain ⟨m, rfl⟩ : ∃ m : Nat, n = m := ⟨n.toNat, by omega⟩
      have hm : m ≤ l.length := by omega
      have e1 : tY (m : Int) l = l.take m := by unfold tY; rw [if_pos (by omega), Int.toNat_natCast]
      have e2 : tE (m : Int) l = 0 := by unfold tE; rw [if_neg h0, if_neg h1]
      have e3 : (l.take m).length = m := by rw [List.length_take]; omega
      have hpm : p + m ≤ xs.length := by omega
      have hl3 : (l.take m).length ≤ 100000000 := by omega
      have hi3 : ((p : Int) + m) ≤ 10000000 := by omega
      rw [e1, e2]
      have hd2 : decide (l.length < m) = false := decide_eq_false (by omega)
      have fin : ∀ v w', k8.R 5 w' w.heap.size (fun j => w.heap.size ≤ j) v (l.take m) → Rd w' g A c xs (p + m) → Fr w w' (fun i => i = g) → TakeP g A c xs (p + (l.take m).length) (l.take m) 0 w (.returned (.tuple #[v, .int .i64 0])) w' := fun v w' a b d => ⟨v, rfl, a, by rw [e3]; exact b, d⟩
      have FIN := Lib.hid fin
      clear e1 e2 h0 hle hlen hdl h1 fin
      go_enter Try.func35, Try.ntmps35
      go_wp2_with (first | (go_at_call 41; refine (zero_any _ H.out).mono ?_; rintro en w1 ⟨rfl, rfl⟩) | (go_at_call 45; (first | refine (rest_l HL.out _ H.out).mono ?_ | refine (rest_l HL.out _ (H.out.drewN _)).mono ?_); rintro en w1 ⟨A', c', rfl, hC', hc', nd, rfl⟩; obtain ⟨k1, k2, _⟩ := take8 A' c' l m hm hc'; have T := Lib.hid (k2 _ hC'); rw [e3] at k1 T; (try rw [World.drewN_drewN] at T); clear hC' k2) | (go_at_call 40; refine (clone_n A' c' (l.take m) e3 _ T.out hl3).mono ?_; rintro en w2 ⟨v2, rfl, hr2, hb2⟩; have R2 := Lib.hid hr2; have B2 := Lib.hid hb2; have H2 := Lib.hid ((H.out.drewN _).below hb2); have c2 := H2.out.c2; have f2 := H2.out.f 2; clear hr2 hb2))
      go_ret2
      refine FIN.out _ _ ?_ ?_ ?_
      · exact (Fr.set _ g 2 _).row rfl R2.out (fun j hj q => absurd (R2.out.1 j hj) (by subst q; have := blk_lt H.out.own; exact Nat.not_le_of_gt this))
      · have := H2.out.set _ hpm
        rw [Int.natCast_add] at this
        exact this
      · exact ((fr_drewN _ _ _).then (Fr.below B2.out _) (fun _ _ q => q)).then (Fr.set _ _ _ _) (fun _ _ q => q)
theorem raw_rd (w : World) (h : Rd w g A c xs p) (n : Int) : Calls Try.prog 35 #[.pointer (some ⟨g, 0, none⟩), .int .i64 n] w (TakeP g A c xs (p + (tY n (xs.drop p)).length) (tY n (xs.drop p)) (tE n (xs.drop p)) w) := raw_l rfl w h n

/-- Bytes' error, bytes, and how many bytes are read. -/
def hE (most v s e n : Int) : Int := if e ≠ 0 then e else if most < 0 ∨ most < v then 5 else if n - s < v then 4 else 0
def hY (l : List Int) (v s E : Int) : List Int := if E = 0 then (l.drop s.toNat).take v.toNat else []
def hS (v s E : Int) : Nat := if E = 0 then (s + v).toNat else 0
set_option maxHeartbeats 2000000 in
theorem hear_l {l : List Int} (hl : xs.drop p = l) (w : World) (h : Rd w g A c xs p) (hb : Bys xs) (most : Int) (hm : most ≤ 9223372036854775807) {v s e : Int} (hr : RdR l v s e) :
    Calls Try.prog 46 #[.pointer (some ⟨g, 0, none⟩), .int .i64 most] w (TakeP g A c xs (p + hS v s (hE most v s e l.length)) (hY l v s (hE most v s e l.length)) (hE most v s e l.length) w) := by
  obtain ⟨i1, i2, i3, i4, i5, i6, i7, i8⟩ := rdr_in (by rw [← hl]; exact hb.drop p) hr
  have hle := h.le
  have hlen := h.len
  have hdl : l.length = xs.length - p := by rw [← hl]; exact List.length_drop
  have HR := Lib.hid (show RdR (xs.drop p) v s e by rw [hl]; exact hr)
  have HL := Lib.hid hl
  have H := Lib.hid h
  have HB := Lib.hid hb
  clear h hl hr hb
  have no : hE most v s e l.length ≠ 0 → ∀ w', Rd w' g A c xs p → Fr w w' (fun i => i = g) → ∀ q, q = hE most v s e l.length → TakeP g A c xs (p + hS v s (hE most v s e l.length)) (hY l v s (hE most v s e l.length)) (hE most v s e l.length) w (.returned (.tuple #[.slice none 0 0, .int .i64 q])) w' := fun q w' h1 h2 q2 e2 => by
    subst e2
    have e1 : hY l v s (hE most v s e l.length) = [] := if_neg q
    have e2 : hS v s (hE most v s e l.length) = 0 := if_neg q
    rw [e1, e2]
    exact take_nil _ _ _ _ h1 h2
  by_cases h0 : e = 0
  · subst h0
    have i7 := i7 rfl
    by_cases h1 : most < 0
    · have e1 : hE most v s 0 l.length = 5 := by unfold hE; rw [if_neg (by simp), if_pos (.inl h1)]
      have NO := Lib.hid (no (by rw [e1]; decide))
      have E1 := Lib.hid e1
      have hd : decide (most < 0) = true := decide_eq_true h1
      clear no e1 h1 i1 i2 i3 i4 i5 i6 i7 i8 hle hlen hdl
      go_enter Try.func46, Try.ntmps46
      go_wp2_with (first | (go_at_call 41; refine (zero_any _ H.out).mono ?_; rintro en w1 ⟨rfl, rfl⟩) | (go_at_call 47; refine (rnum_any _ H.out HB.out HR.out).mono ?_; rintro en w2 ⟨rfl, n, rfl⟩))
      go_ret2
      exact NO.out _ (H.out.drewN n) (fr_drewN _ _ n) _ E1.out.symm
    · have hd : decide (most < 0) = false := decide_eq_false h1
      have hw : IntKind.u64.wrap most = most := by rw [wrapu]; omega
      by_cases h2 : most < v
      · have e1 : hE most v s 0 l.length = 5 := by unfold hE; rw [if_neg (by simp), if_pos (.inr h2)]
        have NO := Lib.hid (no (by rw [e1]; decide))
        have E1 := Lib.hid e1
        have hd2 : decide (most < v) = true := decide_eq_true h2
        clear no e1 h1 h2 i1 i2 i3 i4 i5 i6 i7 i8 hle hlen hdl hm
        go_enter Try.func46, Try.ntmps46
        go_wp2_with (first | (go_at_call 41; refine (zero_any _ H.out).mono ?_; rintro en w1 ⟨rfl, rfl⟩) | (go_at_call 47; refine (rnum_any _ H.out HB.out HR.out).mono ?_; rintro en w2 ⟨rfl, n, rfl⟩))
        go_ret2
        exact NO.out _ (H.out.drewN n) (fr_drewN _ _ n) _ E1.out.symm
      · have hd2 : decide (most < v) = false := decide_eq_false h2
        have hw2 : IntKind.u64.wrap ((l.length : Int) - s) = (l.length : Int) - s := by rw [wrapu]; omega
        by_cases h3 : (l.length : Int) - s < v
        · have e1 : hE most v s 0 l.length = 4 := by unfold hE; rw [if_neg (by simp), if_neg (by omega), if_pos h3]
          have NO := Lib.hid (no (by rw [e1]; decide))
          have E1 := Lib.hid e1
          have hd3 : decide ((l.length : Int) - s < v) = true := decide_eq_true h3
          have hlo : -1000000000 ≤ (l.length : Int) - s := by omega
          have hhi : (l.length : Int) - s ≤ 1000000000 := by omega
          clear no e1 h1 h2 h3 i1 i2 i3 i4 i5 i6 i7 i8 hle hlen hdl hm
          go_enter Try.func46, Try.ntmps46
          go_wp2_with (first | (go_at_call 41; refine (zero_any _ H.out).mono ?_; rintro en w1 ⟨rfl, rfl⟩) | (go_at_call 47; refine (rnum_any _ H.out HB.out HR.out).mono ?_; rintro en w2 ⟨rfl, n, rfl⟩) | (go_at_call 45; refine (rest_l HL.out _ (H.out.drewN n)).mono ?_; rintro en w3 ⟨A', c', rfl, _, _, nd, rfl⟩))
          go_ret2
          exact NO.out _ (H.out.drewN (n + nd)) (fr_drewN _ _ (n + nd)) _ E1.out.symm
        · obtain ⟨S, rfl⟩ : ∃ S : Nat, s = S := ⟨s.toNat, by omega⟩
          obtain ⟨V, rfl⟩ : ∃ V : Nat, v = V := ⟨v.toNat, by omega⟩
          have e1 : hE most V S 0 l.length = 0 := by unfold hE; rw [if_neg (by simp), if_neg (by omega), if_neg h3]
          have e2 : tE (V : Int) (l.drop S) = 0 := by unfold tE; rw [if_neg (by omega), if_neg (by rw [List.length_drop]; omega)]
          have e3 : tY (V : Int) (l.drop S) = (l.drop S).take V := by unfold tY; rw [if_pos (by rw [List.length_drop]; omega), Int.toNat_natCast]
          have e4 : ((l.drop S).take V).length = V := by rw [List.length_take, List.length_drop]; omega
          have e5 : hY l V S 0 = (l.drop S).take V := by unfold hY; rw [if_pos rfl, Int.toNat_natCast, Int.toNat_natCast]
          have e6 : hS V S 0 = S + V := by unfold hS; rw [if_pos rfl]; omega
          rw [e1, e5, e6]
          have hd3 : decide ((l.length : Int) - S < V) = false := decide_eq_false h3
          have hlo : -1000000000 ≤ (l.length : Int) - S := by omega
          have hhi : (l.length : Int) - S ≤ 1000000000 := by omega
          have hps : p + S ≤ xs.length := by omega
          have hpi : (p : Int) + S ≤ 1000000000 := by omega
          have hv64 : wrap64 (V : Int) = V := by simp only [wrap64]; omega
          have hl2 : xs.drop (p + S) = l.drop S := by rw [← HL.out, List.drop_drop]
          have HL2 := Lib.hid hl2
          have E2 := Lib.hid (And.intro e2 (And.intro e3 e4))
          clear no e1 h1 h2 h3 i1 i2 i3 i4 i5 i6 i7 i8 hle hlen hdl hm hl2 e2 e3 e4 e5 e6
          go_enter Try.func46, Try.ntmps46
          go_wp2_with (first | (go_at_call 41; refine (zero_any _ H.out).mono ?_; rintro en w1 ⟨rfl, rfl⟩) | (go_at_call 47; refine (rnum_any _ H.out HB.out HR.out).mono ?_; rintro en w2 ⟨rfl, n, rfl⟩) | (go_at_call 45; refine (rest_l HL.out _ (H.out.drewN n)).mono ?_; rintro en w3 ⟨A', c', rfl, _, _, nd, rfl⟩; have H2 := Lib.hid (H.out.drewN (n + nd)); have H3 := H2.out.set _ hps; rw [Int.natCast_add] at H3; have H3 := Lib.hid H3; have c2 := H2.out.c2; have f2 := H2.out.f 2) | (go_at_call 35; refine (raw_l HL2.out _ H3.out _).mono ?_; rintro en w4 ⟨v4, rfl, hr4, h4, f4⟩; have R4 := Lib.hid hr4; have H4 := Lib.hid h4; have F4 := Lib.hid f4; clear hr4 h4 f4))
          go_ret2
          refine ⟨v4, ?_, ?_, ?_, ?_⟩
          · rw [E2.out.1]; rfl
          · have := R4.out
            rw [E2.out.2.1] at this
            simpa [World.setCell] using this
          · have := H4.out
            rw [E2.out.2.1, E2.out.2.2, Nat.add_assoc] at this
            exact this
          · exact ((fr_drewN _ _ _).then (Fr.set _ g 2 _) (fun _ _ q => q)).then F4.out (fun _ _ q => q)
  · have e1 : hE most v s e l.length = e := by unfold hE; rw [if_pos h0]
    have NO := Lib.hid (no (by rw [e1]; exact h0))
    have E1 := Lib.hid e1
    have hd : (e != 0) = true := bne_iff_ne.2 h0
    clear no e1 h0 i1 i2 i3 i4 i5 i6 i7 i8 hle hlen hdl hm
    go_enter Try.func46, Try.ntmps46
    go_wp2_with (first | (go_at_call 41; refine (zero_any _ H.out).mono ?_; rintro en w1 ⟨rfl, rfl⟩) | (go_at_call 47; refine (rnum_any _ H.out HB.out HR.out).mono ?_; rintro en w2 ⟨rfl, n, rfl⟩))
    go_ret2
    exact NO.out _ (H.out.drewN n) (fr_drewN _ _ n) _ E1.out.symm
theorem hear_rd (w : World) (h : Rd w g A c xs p) (hb : Bys xs) (most : Int) (hm : most ≤ 9223372036854775807) {v s e : Int} (hr : RdR (xs.drop p) v s e) :
    Calls Try.prog 46 #[.pointer (some ⟨g, 0, none⟩), .int .i64 most] w (TakeP g A c xs (p + hS v s (hE most v s e (xs.drop p).length)) (hY (xs.drop p) v s (hE most v s e (xs.drop p).length)) (hE most v s e (xs.drop p).length) w) := hear_l rfl w h hb most hm hr

theorem raw_zd (q : Value) (w : World) (h : Zd w q) (n : Int) : Calls Try.prog 35 #[q, .int .i64 n] w fun en w' => en = .returned (.tuple #[.slice none 0 0, .int .i64 1]) ∧ w' = w := by
  have H := Lib.hid h
  clear h
  go_enter Try.func35, Try.ntmps35
  go_wp2_with (go_at_call 41; refine (zero_zd _ _ H.out).mono ?_; rintro en w1 ⟨rfl, rfl⟩)
  go_ret2
  exact ⟨rfl, rfl⟩
theorem hear_zd (q : Value) (w : World) (h : Zd w q) (n : Int) : Calls Try.prog 46 #[q, .int .i64 n] w fun en w' => en = .returned (.tuple #[.slice none 0 0, .int .i64 1]) ∧ w' = w := by
  have H := Lib.hid h
  clear h
  go_enter Try.func46, Try.ntmps46
  go_wp2_with (go_at_call 41; refine (zero_zd _ _ H.out).mono ?_; rintro en w1 ⟨rfl, rfl⟩)
  go_ret2
  exact ⟨rfl, rfl⟩
theorem C_lt {k : IntKind} {w : World} {A : Option Addr} {n : Nat} {zs : List Int} (h : (Kd.int k).C w A n zs) {ad : Addr} (e : A = some ad) (hp : 0 < n) : ad.block < w.heap.size := by
  obtain ⟨ad', e', hcell⟩ := at_int h 0 (by omega) (by omega)
  rw [e] at e'
  injection e' with e'
  subst e'
  exact World.block_lt_of_cell? w _ hcell
/-- A copy: a reader in a new block. -/
def CopyP (A : Option Addr) (c : Nat) (xs : List Int) (p : Nat) (w : World) (en : Ending) (w' : World) : Prop :=
  ∃ g, en = .returned (.pointer (some ⟨g, 0, none⟩)) ∧ Rd w' g A c xs p ∧ w.heap.size ≤ g ∧ Below w.heap.size w w'
theorem copy_rd (w : World) (h : Rd w g A c xs p) : Calls Try.prog 34 #[.pointer (some ⟨g, 0, none⟩)] w (CopyP A c xs p w) := by
  have H := Lib.hid h
  have c0 := h.c0
  have c1 := h.c1
  have c2 := h.c2
  clear h
  go_enter Try.func34, Try.ntmps34
  go_wp2_with (first | (go_at_call 41; refine (zero_any _ H.out).mono ?_; rintro en w1 ⟨rfl, rfl⟩))
  go_ret
  exact ⟨_, rfl, ⟨blk_new _ _, Kd.C_below H.out.rd (below_alloc (Below.refl _ _) _), H.out.cap, H.out.le, fun ad e hp => Nat.ne_of_lt (C_lt H.out.rd e hp), H.out.len⟩, Nat.le_refl _, below_alloc (Below.refl _ _) _⟩
end
end Go.Proofs.Ytfcpofkhcfilmaa.Vn
