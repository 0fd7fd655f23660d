/- The reference of layer 22: what its methods return. -/
import Derived.Test.YtnkblfokfmbbhaaRt
namespace Go.Proofs.Ytnkblfokfmbbhaa.Al
open Go.RowKit Go.Proofs Go.Proofs.YtnkblfokfmbbhaaW.PrintWords Go.Proofs.Ytnkblfokfmbbhaa.Kit
set_option linter.unusedSimpArgs false
set_option linter.unusedVariables false

/-- Block g is the reference's counters. -/
def Rr (w : World) (g : Nat) (r l e s : Int) : Prop := w.heap[g]? = some (.cells #[.int .i64 r, .int .i64 l, .int .i64 e, .int .i64 s] 62 (0, 0))
section
variable {w w1 : World} {g : Nat} {r l e s : Int}
theorem Rr.c0 (h : Rr w g r l e s) : w.cell? ⟨g, 0, none⟩ = some (.int .i64 r) := (blk_cell h 0).trans rfl
theorem Rr.c1 (h : Rr w g r l e s) : w.cell? ⟨g, 1, none⟩ = some (.int .i64 l) := (blk_cell h 1).trans rfl
theorem Rr.c2 (h : Rr w g r l e s) : w.cell? ⟨g, 2, none⟩ = some (.int .i64 e) := (blk_cell h 2).trans rfl
theorem Rr.c3 (h : Rr w g r l e s) : w.cell? ⟨g, 3, none⟩ = some (.int .i64 s) := (blk_cell h 3).trans rfl
theorem Rr.f (h : Rr w g r l e s) (i : Nat) : w.frozen? ⟨g, i, none⟩ = false := blk_frozen h i
theorem Rr.lt (h : Rr w g r l e s) : g < w.heap.size := blk_lt h
theorem Rr.below (h : Rr w g r l e s) (hb : Below w.heap.size w w1) : Rr w1 g r l e s := blk_below h hb
theorem Rr.grown {row : Option Nat} (h : Rr w g r l e s) (hg : w.grownBy w1 row) (hne : some g ≠ row) : Rr w1 g r l e s := blk_grown h hg hne
theorem Rr.set1 (h : Rr w g r l e s) (x : Int) : Rr (w.setCell ⟨g, 1, none⟩ (.int .i64 x)) g r x e s := blk_put h 1 _ rfl
theorem Rr.set2 (h : Rr w g r l e s) (x : Int) : Rr (w.setCell ⟨g, 2, none⟩ (.int .i64 x)) g r l x s := blk_put h 2 _ rfl
end

set_option maxHeartbeats 400000 in
theorem bad_any (g : Nat) (r l e s n : Int) (w : World) (hl : 0 ≤ l) (hle : l ≤ 4294967295) (h : Rr w g r l e s) :
    Calls Try.prog 34 #[.pointer (some ⟨g, 0, none⟩), .int .i64 n] w fun en w' => en = .returned (.int .i64 (chk l n)) ∧ w = w' := by
  have hc1 := h.c1
  clear h
  have k1 : n < 0 ∨ 65536 < n → chk l n = 2 := fun q => by unfold chk; rw [if_pos q]
  have k2 : 0 ≤ n → n ≤ 65536 → 4294967295 - l < n → chk l n = 14 := fun q1 q2 q3 => by unfold chk; rw [if_neg (by omega), if_pos q3]
  have k3 : 0 ≤ n → n ≤ 65536 → ¬ (4294967295 - l < n) → chk l n = 0 := fun q1 q2 q3 => by unfold chk; rw [if_neg (by omega), if_neg q3]
  have K := Lib.hid (And.intro k1 (And.intro k2 k3))
  clear k1 k2 k3
  by_cases h1 : n < 0
  · go_enter Try.func34, Try.ntmps34
    go_wp2
    go_ret
    exact ⟨by rw [K.out.1 (by omega)]; rfl, rfl⟩
  by_cases h2 : 65536 < n
  · go_enter Try.func34, Try.ntmps34
    go_wp2
    go_ret
    exact ⟨by rw [K.out.1 (by omega)]; rfl, rfl⟩
  have h3 : 0 ≤ n := by omega
  have h4 : n ≤ 65536 := by omega
  clear h1 h2
  by_cases h5 : 4294967295 < l + n
  · go_enter Try.func34, Try.ntmps34
    go_wp2
    go_ret
    exact ⟨by rw [K.out.2.1 (by omega) (by omega) (by omega)]; rfl, rfl⟩
  · go_enter Try.func34, Try.ntmps34
    go_wp2
    go_ret
    exact ⟨by rw [K.out.2.2 (by omega) (by omega) (by omega)]; rfl, rfl⟩

theorem rrgrant_any (g : Nat) (r l e s u : Int) (w : World) (h : Rr w g r l e s) :
    Calls Try.prog 24 #[.pointer (some ⟨g, 0, none⟩), .int .i64 u] w fun en w' => en = .returned (.int .i64 (grantE u)) ∧ Rr w' g r l (grantEnd e u) s ∧ w.grownBy w' (some g) := by
  have hc2 := h.c2
  have hf2 := h.f 2
  have fin : ∀ x y w', grantE u = x → grantEnd e u = y → Rr w' g r l y s → w.grownBy w' (some g) → (fun en w' => en = .returned (.int .i64 (grantE u)) ∧ Rr w' g r l (grantEnd e u) s ∧ w.grownBy w' (some g)) (Ending.returned (.int .i64 x)) w' := fun x y w' h1 h2 h3 h4 => ⟨by rw [h1], by rw [h2]; exact h3, h4⟩
  have FIN := Lib.hid fin
  have H := Lib.hid h
  clear h fin
  by_cases h1 : u < 0 ∨ 4294967295 < u
  · have e1 : grantE u = 2 ∧ grantEnd e u = e := by unfold grantE grantEnd; rw [if_pos h1, if_pos h1]; exact ⟨rfl, rfl⟩
    have E1 := Lib.hid e1
    clear e1
    rcases h1 with h1 | h1
    · go_enter Try.func24, Try.ntmps24
      go_wp2
      go_ret
      exact FIN.out _ _ _ E1.out.1 E1.out.2 H.out (grown_refl _ _)
    · go_enter Try.func24, Try.ntmps24
      go_wp2
      go_ret
      exact FIN.out _ _ _ E1.out.1 E1.out.2 H.out (grown_refl _ _)
  · have u1 : 0 ≤ u ∧ u ≤ 4294967295 := by omega
    obtain ⟨u1, u2⟩ := u1
    by_cases h2 : e < u
    · have e1 : grantE u = 0 ∧ grantEnd e u = u := by unfold grantE grantEnd; rw [if_neg h1, if_neg h1, if_pos h2]; exact ⟨rfl, rfl⟩
      have E1 := Lib.hid e1
      clear e1 h1
      go_enter Try.func24, Try.ntmps24
      go_wp2
      go_ret
      exact FIN.out _ _ _ E1.out.1 E1.out.2 (H.out.set2 _) (grown_set _ _ _ _)
    · have e1 : grantE u = 0 ∧ grantEnd e u = e := by unfold grantE grantEnd; rw [if_neg h1, if_neg h1, if_neg h2]; exact ⟨rfl, rfl⟩
      have E1 := Lib.hid e1
      have h3 : u ≤ e := by omega
      clear e1 h1 h2
      go_enter Try.func24, Try.ntmps24
      go_wp2
      go_ret
      exact FIN.out _ _ _ E1.out.1 E1.out.2 (H.out.set2 _) (grown_set _ _ _ _)

attribute [local go_sem] Go.Proofs.YtnkblfokfmbbhaaW.PrintMore.max2_int Go.Proofs.YtnkblfokfmbbhaaW.PrintMore.min2_int Go.Proofs.YtnkblfokfmbbhaaW.PrintMore.max_two Go.Proofs.YtnkblfokfmbbhaaW.PrintMore.min_two
set_option maxHeartbeats 1000000 in
theorem rrneed_any (g : Nat) (r l e s n : Int) (w : World) (ok : RsOk r l e s) (h : Rr w g r l e s) :
    Calls Try.prog 23 #[.pointer (some ⟨g, 0, none⟩), .int .i64 n] w (NeedP l e s n w) := by
  have hl := ok.l0
  have hle := ok.le
  have he := ok.e1
  have hs1 := ok.s1
  have hs2 := ok.s2
  have H := Lib.hid h
  have fin : ∀ x y w', needV l e s n = x → chk l n = y → Below w.heap.size w w' → NeedP l e s n w (.returned (.tuple #[.int .i64 x, .int .i64 y])) w' := fun x y w' h1 h2 hb => ⟨by rw [h1, h2], hb⟩
  have FIN := Lib.hid fin
  clear h ok fin
  by_cases h1 : chk l n = 0
  · obtain ⟨n0, n1, n2⟩ := chk_zero h1
    have hn0 : ¬ (chk l n ≠ 0) := by simp [h1]
    have hc1 := H.out.c1
    have hc2 := H.out.c2
    have hc3 := H.out.c3
    have C := Lib.hid h1
    clear h1
    have hw1 : IntKind.i64.wrap (l + n) = l + n := IntWalk.i64_in _ (by omega)
    have W1 := Lib.hid hw1
    have W2 := Lib.hid (IntWalk.i64_in (l + n + s) (by omega))
    clear hw1
    by_cases h2 : n ≤ e - l
    · have e1 : needV l e s n = e := by unfold needV; rw [if_neg hn0, if_pos h2]
      have E1 := Lib.hid e1
      have hd : decide (l + n ≤ e) = true := decide_eq_true (by omega)
      clear e1 hn0 h2
      go_enter Try.func23, Try.ntmps23
      go_wp2_with (go_at_call 34; refine (bad_any g r l e s n _ hl (by omega) H.out).mono ?_; rintro en w1 ⟨rfl, rfl⟩; rw [C.out])
      have hw1 := W1.out
      go_quiet (fail)
      clear hw1
      go_wp2
      go_ret2
      exact FIN.out _ _ _ E1.out C.out (pw_below_drewN (Below.refl _ _) _)
    · have e1 : needV l e s n = if l + n + s < 4294967295 then l + n + s else 4294967295 := by unfold needV; rw [if_neg hn0, if_neg h2]
      have hd : decide (l + n ≤ e) = false := decide_eq_false (by omega)
      clear hn0 h2
      by_cases h3 : l + n + s < 4294967295
      · rw [if_pos h3] at e1
        have E1 := Lib.hid e1
        clear e1
        go_enter Try.func23, Try.ntmps23
        go_wp2_with (go_at_call 34; refine (bad_any g r l e s n _ hl (by omega) H.out).mono ?_; rintro en w1 ⟨rfl, rfl⟩; rw [C.out])
        have hw1 := W1.out
        go_quiet (fail)
        clear hw1
        go_wp2
        have BQ := Lib.hid (pw_below_drewN (Below.refl w.heap.size w) nq)
        have H2 := Lib.hid (H.out.below (pw_below_drewN (Below.refl w.heap.size w) nq))
        clear hc1 hc2 hc3
        generalize w.drewN nq = w2 at *
        have hc1 := H2.out.c1
        have hc3 := H2.out.c3
        have hw1 := W1.out
        have hw2 := W2.out
        go_quiet (fail)
        clear hw1 hw2
        go_wp2
        go_ret2
        exact FIN.out _ _ _ E1.out C.out (pw_below_drewN BQ.out _)
      · rw [if_neg h3] at e1
        have E1 := Lib.hid e1
        clear e1
        go_enter Try.func23, Try.ntmps23
        go_wp2_with (go_at_call 34; refine (bad_any g r l e s n _ hl (by omega) H.out).mono ?_; rintro en w1 ⟨rfl, rfl⟩; rw [C.out])
        have hw1 := W1.out
        go_quiet (fail)
        clear hw1
        go_wp2
        have BQ := Lib.hid (pw_below_drewN (Below.refl w.heap.size w) nq)
        have H2 := Lib.hid (H.out.below (pw_below_drewN (Below.refl w.heap.size w) nq))
        clear hc1 hc2 hc3
        generalize w.drewN nq = w2 at *
        have hc1 := H2.out.c1
        have hc3 := H2.out.c3
        have hw1 := W1.out
        have hw2 := W2.out
        go_quiet (fail)
        clear hw1 hw2
        go_wp2
        go_ret2
        exact FIN.out _ _ _ E1.out C.out (pw_below_drewN BQ.out _)
  · have hx : (chk l n != 0) = true := bne_iff_ne.2 h1
    have e1 : needV l e s n = 0 := by unfold needV; rw [if_pos h1]
    have E1 := Lib.hid e1
    clear e1 h1
    generalize hck : chk l n = ck at *
    have CK := Lib.hid hck
    clear hck
    go_enter Try.func23, Try.ntmps23
    go_wp2_with (go_at_call 34; refine (bad_any g r l e s n _ hl (by omega) H.out).mono ?_; rintro en w1 ⟨rfl, rfl⟩; rw [CK.out])
    go_ret2
    exact FIN.out _ _ _ E1.out rfl (Below.refl _ _)
end Go.Proofs.Ytnkblfokfmbbhaa.Al
