/- Readers of layer 1: contracts of Num, Int, Bytes, Raw, Left, At, End, Copy. -/
import Derived.Test.YtfcpofkhcfilmaaVn
namespace Go.Proofs.Ytfcpofkhcfilmaa.Vn
open Go.RowKit Go.Proofs Go.Proofs.YtfcpofkhcfilmaaW.PrintWords Go.Proofs.Ytfcpofkhcfilmaa.Kit
set_option linter.unusedSimpArgs false
set_option linter.unusedVariables false

theorem rdr_in {l : List Int} {v s e : Int} (hb : Bys l) (h : RdR l v s e) : 0 ≤ v ∧ v ≤ 18446744073709551615 ∧ 0 ≤ s ∧ s ≤ l.length ∧ s ≤ 10 ∧ (e = 0 ∨ e = 4 ∨ e = 12) ∧ (e = 0 → 1 ≤ s) ∧ (e ≠ 0 → v = 0 ∧ s = 0) := by
  cases h with
  | short _ _ => exact ⟨by omega, by omega, by omega, by omega, by omega, by omega, by omega, by omega⟩
  | over _ _ => exact ⟨by omega, by omega, by omega, by omega, by omega, by omega, by omega, by omega⟩
  | bad _ _ _ => exact ⟨by omega, by omega, by omega, by omega, by omega, by omega, by omega, by omega⟩
  | good e h1 h2 =>
    have hlt := good_lt (fun j hj => (hb.at hj).1) h1 h2
    have h0 := gs_nonneg l (e + 1)
    have := h1.lt
    have := h1.lt10
    exact ⟨h0, by omega, by omega, by omega, by omega, by omega, by omega, by omega⟩
def nV (most v e : Int) : Int := if e = 0 ∧ v ≤ most then v else 0
def nE (most v e : Int) : Int := if e ≠ 0 then e else if most < v then 3 else 0
def nS (most v s e : Int) : Nat := if e = 0 ∧ v ≤ most then s.toNat else 0
def RNumP (g : Nat) (A : Option Addr) (c : Nat) (xs : List Int) (p : Nat) (most v s e : Int) (w : World) (en : Ending) (w' : World) : Prop :=
  en = .returned (.tuple #[.int .u64 (nV most v e), .int .i64 (nE most v e)]) ∧ Rd w' g A c xs (p + nS most v s e) ∧ Fr w w' (fun i => i = g)
section
variable {g : Nat} {A : Option Addr} {c : Nat} {xs : List Int} {p : Nat}
theorem fr_drewN (w : World) (S : Nat → Prop) (n : Nat) : Fr w (w.drewN n) S := Fr.below (pw_below_drewN (Below.refl _ _) n) S
set_option maxHeartbeats 1000000 in
theorem rdnum_any (w : World) (h : Rd w g A c xs p) (hb : Bys xs) (most : Int) {v s e : Int} (hr : RdR (xs.drop p) v s e) : Calls Try.prog 33 #[.pointer (some ⟨g, 0, none⟩), .int .u64 most] w (RNumP g A c xs p most v s e w) := by
  obtain ⟨i1, i2, i3, i4, i5, i6, i7, i8⟩ := rdr_in (hb.drop p) hr
  rw [List.length_drop] at i4
  have hle := h.le
  have hlen := h.len
  obtain ⟨S, rfl⟩ : ∃ S : Nat, s = S := ⟨s.toNat, by omega⟩
  have H := Lib.hid h
  have HB := Lib.hid hb
  have HR := Lib.hid hr
  clear h hb hr
  by_cases he : e = 0
  · subst he
    have i7 := i7 rfl
    by_cases hm : v ≤ most
    · have fin : ∀ w' , Rd w' g A c xs (p + S) → Fr w w' (fun i => i = g) → RNumP g A c xs p most v S 0 w (.returned (.tuple #[.int .u64 v, .int .i64 0])) w' := fun w' h1 h2 => ⟨by unfold nV nE; rw [if_pos ⟨rfl, hm⟩, if_neg (by omega), if_neg (by omega)], by unfold nS; rw [if_pos ⟨rfl, hm⟩, Int.toNat_natCast]; exact h1, h2⟩
      have FIN := Lib.hid fin
      have hd : decide (most < v) = false := decide_eq_false (by omega)
      have hle2 : p + S ≤ xs.length := by omega
      have hle3 : ((p + S : Nat) : Int) ≤ 10000000 := by omega
      clear fin i1 i2 i3 i4 i5 i6 i7 i8 hm
      go_enter Try.func33, Try.ntmps33
      go_wp2_with (first | (go_at_call 41; refine (zero_any _ H.out).mono ?_; rintro en w1 ⟨rfl, rfl⟩) | (go_at_call 47; refine (rnum_any _ H.out HB.out HR.out).mono ?_; rintro en w2 ⟨rfl, n, rfl⟩; have c2 := (H.out.drewN n).c2; have f2 := (H.out.drewN n).f 2))
      go_ret2
      refine FIN.out _ ?_ ?_
      · have := (H.out.drewN n).set _ hle2
        rw [Int.natCast_add] at this
        exact this
      · exact (fr_drewN _ _ n).then (Fr.set _ _ _ _) (fun _ _ q => q)
    · have fin : ∀ w' , Rd w' g A c xs p → Fr w w' (fun i => i = g) → RNumP g A c xs p most v S 0 w (.returned (.tuple #[.int .u64 0, .int .i64 3])) w' := fun w' h1 h2 => ⟨by unfold nV nE; rw [if_neg (by omega), if_neg (by omega), if_pos (by omega)], by unfold nS; rw [if_neg (by omega)]; exact h1, h2⟩
      have FIN := Lib.hid fin
      have hd : decide (most < v) = true := decide_eq_true (by omega)
      clear fin i1 i2 i3 i4 i5 i6 i7 i8 hm
      go_enter Try.func33, Try.ntmps33
      go_wp2_with (first | (go_at_call 41; refine (zero_any _ H.out).mono ?_; rintro en w1 ⟨rfl, rfl⟩) | (go_at_call 47; refine (rnum_any _ H.out HB.out HR.out).mono ?_; rintro en w2 ⟨rfl, n, rfl⟩))
      go_ret2
      exact FIN.out _ (H.out.drewN n) (fr_drewN _ _ n)
  · have fin : ∀ w' , Rd w' g A c xs p → Fr w w' (fun i => i = g) → RNumP g A c xs p most v S e w (.returned (.tuple #[.int .u64 0, .int .i64 e])) w' := fun w' h1 h2 => ⟨by unfold nV nE; rw [if_neg (by omega), if_pos (by omega)], by unfold nS; rw [if_neg (by omega)]; exact h1, h2⟩
    have FIN := Lib.hid fin
    have hd : (e != 0) = true := bne_iff_ne.2 he
    clear fin i1 i2 i3 i4 i5 i6 i7 i8 he
    go_enter Try.func33, Try.ntmps33
    go_wp2_with (first | (go_at_call 41; refine (zero_any _ H.out).mono ?_; rintro en w1 ⟨rfl, rfl⟩) | (go_at_call 47; refine (rnum_any _ H.out HB.out HR.out).mono ?_; rintro en w2 ⟨rfl, n, rfl⟩))
    go_ret2
    exact FIN.out _ (H.out.drewN n) (fr_drewN _ _ n)
theorem rdnum_zd (p : Value) (w : World) (h : Zd w p) (most : Int) : Calls Try.prog 33 #[p, .int .u64 most] w fun en w' => en = .returned (.tuple #[.int .u64 0, .int .i64 1]) ∧ w' = w := by
  have H := Lib.hid h
  clear h
  go_enter Try.func33, Try.ntmps33
  go_wp2_with (go_at_call 41; refine (zero_zd _ _ H.out).mono ?_; rintro en w1 ⟨rfl, rfl⟩)
  go_ret2
  exact ⟨rfl, rfl⟩

def RIntP (g : Nat) (A : Option Addr) (c : Nat) (xs : List Int) (p : Nat) (v s e : Int) (w : World) (en : Ending) (w' : World) : Prop :=
  en = .returned (.tuple #[.int .i64 (zag v), .int .i64 e]) ∧ Rd w' g A c xs (p + s.toNat) ∧ Fr w w' (fun i => i = g)
set_option maxHeartbeats 1000000 in
theorem rdint_any (w : World) (h : Rd w g A c xs p) (hb : Bys xs) {v s e : Int} (hr : RdR (xs.drop p) v s e) : Calls Try.prog 42 #[.pointer (some ⟨g, 0, none⟩)] w (RIntP g A c xs p v s e w) := by
  obtain ⟨i1, i2, i3, i4, i5, i6, i7, i8⟩ := rdr_in (hb.drop p) hr
  have q : nV 18446744073709551615 v e = v ∧ nE 18446744073709551615 v e = e ∧ nS 18446744073709551615 v s e = s.toNat := by
    unfold nV nE nS
    by_cases he : e = 0
    · refine ⟨if_pos ⟨he, i2⟩, ?_, if_pos ⟨he, i2⟩⟩
      rw [if_neg (by simp [he]), if_neg (by omega), he]
    · have := i8 he
      refine ⟨?_, if_pos he, ?_⟩
      · rw [if_neg (fun q => he q.1)]; omega
      · rw [if_neg (fun q => he q.1)]; omega
  have Q := Lib.hid q
  have H := Lib.hid h
  have HB := Lib.hid hb
  have HR := Lib.hid hr
  clear h hb hr q i3 i4 i5 i6 i7 i8
  go_enter Try.func42, Try.ntmps42
  go_wp2_with (first | (go_at_call 33; refine (rdnum_any _ H.out HB.out 18446744073709551615 HR.out).mono ?_; rintro en w1 ⟨rfl, h1, h2⟩; rw [Q.out.1, Q.out.2.1]; rw [Q.out.2.2] at h1; have R := Lib.hid (And.intro h1 h2); clear h1 h2) | (go_at_call 12; refine (zag_any v _ i1 i2).mono ?_; rintro en w2 ⟨rfl, n, rfl⟩))
  go_ret2
  exact ⟨rfl, R.out.1.drewN n, R.out.2.then (fr_drewN _ _ n) (fun _ _ q => q)⟩
theorem rdint_zd (p : Value) (w : World) (h : Zd w p) : Calls Try.prog 42 #[p] w fun en w' => en = .returned (.tuple #[.int .i64 0, .int .i64 1]) ∧ Below w.heap.size w w' := by
  have H := Lib.hid h
  clear h
  go_enter Try.func42, Try.ntmps42
  go_wp2_with (first | (go_at_call 33; refine (rdnum_zd _ _ H.out _).mono ?_; rintro en w1 ⟨rfl, rfl⟩) | (go_at_call 12; refine (zag_any 0 _ (by decide) (by decide)).mono ?_; rintro en w2 ⟨rfl, n, rfl⟩))
  go_ret2
  exact ⟨rfl, pw_below_drewN (Below.refl _ _) n⟩

set_option maxHeartbeats 1000000 in
theorem left_any (w : World) (h : Rd w g A c xs p) : Calls Try.prog 29 #[.pointer (some ⟨g, 0, none⟩)] w (QuP (.int .i64 (xs.length - p : Nat)) w) := by
  have H := Lib.hid h
  clear h
  go_enter Try.func29, Try.ntmps29
  go_wp2_with (first | (go_at_call 41; refine (zero_any _ H.out).mono ?_; rintro en w1 ⟨rfl, rfl⟩) | (go_at_call 45; refine (rest_any _ H.out).mono ?_; rintro en w1 ⟨A', c', rfl, _, _, n, rfl⟩; rw [List.length_drop]))
  go_ret
  exact ⟨rfl, n, rfl⟩
theorem at_any (w : World) (h : Rd w g A c xs p) : Calls Try.prog 32 #[.pointer (some ⟨g, 0, none⟩)] w (QuP (.int .i64 p) w) := by
  have c2 := h.c2
  have H := Lib.hid h
  clear h
  go_enter Try.func32, Try.ntmps32
  go_wp2_with (first | (go_at_call 41; refine (zero_any _ H.out).mono ?_; rintro en w1 ⟨rfl, rfl⟩))
  go_ret
  exact ⟨rfl, 0, rfl⟩
theorem end_any (w : World) (h : Rd w g A c xs p) : Calls Try.prog 17 #[.pointer (some ⟨g, 0, none⟩)] w (QuP (.int .i64 (if p < xs.length then 12 else 0)) w) := by
  have H := Lib.hid h
  clear h
  by_cases q : p < xs.length
  · have e1 : (if p < xs.length then (12 : Int) else 0) = 12 := if_pos q
    have hd : decide ((0 : Int) < ((xs.length - p : Nat) : Int)) = true := decide_eq_true (by omega)
    rw [e1]
    go_enter Try.func17, Try.ntmps17
    go_wp2_with (first | (go_at_call 41; refine (zero_any _ H.out).mono ?_; rintro en w1 ⟨rfl, rfl⟩) | (go_at_call 29; refine (left_any _ H.out).mono ?_; rintro en w1 ⟨rfl, n, rfl⟩))
    go_ret
    exact ⟨rfl, n, rfl⟩
  · have e1 : (if p < xs.length then (12 : Int) else 0) = 0 := if_neg q
    have hd : decide ((0 : Int) < ((xs.length - p : Nat) : Int)) = false := decide_eq_false (by omega)
    rw [e1]
    go_enter Try.func17, Try.ntmps17
    go_wp2_with (first | (go_at_call 41; refine (zero_any _ H.out).mono ?_; rintro en w1 ⟨rfl, rfl⟩) | (go_at_call 29; refine (left_any _ H.out).mono ?_; rintro en w1 ⟨rfl, n, rfl⟩))
    go_ret
    exact ⟨rfl, n, rfl⟩
theorem left_zd (p : Value) (w : World) (h : Zd w p) : Calls Try.prog 29 #[p] w fun en w' => en = .returned (.int .i64 0) ∧ w' = w := by
  have H := Lib.hid h
  clear h
  go_enter Try.func29, Try.ntmps29
  go_wp2_with (go_at_call 41; refine (zero_zd _ _ H.out).mono ?_; rintro en w1 ⟨rfl, rfl⟩)
  go_ret
  exact ⟨rfl, rfl⟩
theorem at_zd (p : Value) (w : World) (h : Zd w p) : Calls Try.prog 32 #[p] w fun en w' => en = .returned (.int .i64 0) ∧ w' = w := by
  have H := Lib.hid h
  clear h
  go_enter Try.func32, Try.ntmps32
  go_wp2_with (go_at_call 41; refine (zero_zd _ _ H.out).mono ?_; rintro en w1 ⟨rfl, rfl⟩)
  go_ret
  exact ⟨rfl, rfl⟩
theorem end_zd (p : Value) (w : World) (h : Zd w p) : Calls Try.prog 17 #[p] w fun en w' => en = .returned (.int .i64 1) ∧ w' = w := by
  have H := Lib.hid h
  clear h
  go_enter Try.func17, Try.ntmps17
  go_wp2_with (go_at_call 41; refine (zero_zd _ _ H.out).mono ?_; rintro en w1 ⟨rfl, rfl⟩)
  go_ret
  exact ⟨rfl, rfl⟩
theorem copy_zd (p : Value) (w : World) (h : Zd w p) : Calls Try.prog 34 #[p] w fun en w' => en = .returned (.pointer none) ∧ w' = w := by
  have H := Lib.hid h
  clear h
  go_enter Try.func34, Try.ntmps34
  go_wp2_with (go_at_call 41; refine (zero_zd _ _ H.out).mono ?_; rintro en w1 ⟨rfl, rfl⟩)
  go_ret
  exact ⟨rfl, rfl⟩
end
end Go.Proofs.Ytfcpofkhcfilmaa.Vn
