/- AllocNew answers true for all numbers. -/
import Derived.Test.YthbngkaajhbdjaaKn
namespace Go.Proofs.Ythbngkaajhbdjaa.Al
open Go.RowKit Go.Proofs Go.Proofs.YthbngkaajhbdjaaW.PrintWords Go.Proofs.Ythbngkaajhbdjaa.Kit

def RNewP (r l e : Int) (w : World) (en : Ending) (w' : World) : Prop :=
  en = .returned (.tuple #[.agg #[.int .i64 (if validB r l e = true then r else 0), .int .i64 (if validB r l e = true then l else 0), .int .i64 (if validB r l e = true then e else 0)], .int .i64 (if validB r l e = true then 0 else 2)]) ∧ Below w.heap.size w w'
set_option maxHeartbeats 400000 in
theorem rnew_any (r l e : Int) (w : World) : Calls Try.prog 14 #[.int .i64 r, .int .i64 l, .int .i64 e] w (RNewP r l e w) := by
  have yes : ∀ w', validB r l e = true → Below w.heap.size w w' → RNewP r l e w (.returned (.tuple #[.agg #[.int .i64 r, .int .i64 l, .int .i64 e], .int .i64 0])) w' := fun w' h hb => ⟨by simp only [if_pos h], hb⟩
  have no : ∀ w', validB r l e = false → Below w.heap.size w w' → RNewP r l e w (.returned (.tuple #[.agg #[.int .i64 0, .int .i64 0, .int .i64 0], .int .i64 2])) w' := fun w' h hb => ⟨by rw [h]; rfl, hb⟩
  have NO := Lib.hid no
  have YES := Lib.hid yes
  clear no yes
  go_enter Try.func14, Try.ntmps14
  go_wp2
  all_goals first
  | (refine bodyPost_ret (results_ct rfl _ _ w.heap.size 36 #[.int .i64 r, .int .i64 l, .int .i64 e] (0, 0) _ rfl (blk_new w _) Try.underlying36 rfl (by kernel_rfl)) rfl ?_
     exact YES.out _ (by simp [validB]; omega) (below_alloc (Below.refl _ _) _))
  | (refine bodyPost_ret (results_ct rfl _ _ w.heap.size 36 #[.int .i64 0, .int .i64 0, .int .i64 0] (0, 0) _ rfl (blk_new w _) Try.underlying36 rfl (by kernel_rfl)) rfl ?_
     exact NO.out _ (by simp [validB]; omega) (below_alloc (Below.refl _ _) _))

set_option maxHeartbeats 400000 in
theorem rnew_yes (r l e : Int) (w : World) (h : validB r l e = true) : Calls Try.prog 14 #[.int .i64 r, .int .i64 l, .int .i64 e] w fun en w' => en = .returned (.tuple #[.agg #[.int .i64 r, .int .i64 l, .int .i64 e], .int .i64 0]) ∧ Below w.heap.size w w' :=
  (rnew_any r l e w).mono fun en w' ⟨he, hb⟩ => ⟨by rw [he]; simp only [if_pos h], hb⟩
theorem rnew_no (r l e : Int) (w : World) (h : validB r l e = false) : Calls Try.prog 14 #[.int .i64 r, .int .i64 l, .int .i64 e] w fun en w' => en = .returned (.tuple #[.agg #[.int .i64 0, .int .i64 0, .int .i64 0], .int .i64 2]) ∧ Below w.heap.size w w' :=
  (rnew_any r l e w).mono fun en w' ⟨he, hb⟩ => ⟨by rw [he, h]; rfl, hb⟩

/-- The law's walk. -/
def LawP (w : World) (en : Ending) (w' : World) : Prop := en = .returned (.bool true) ∧ Below w.heap.size w w'
theorem valid_parts {r l e : Int} (h : validB r l e = true) : (r == 0) = false ∧ 1 ≤ r ∧ r ≤ 64 ∧ 0 ≤ l ∧ l ≤ e ∧ e ≤ 4294967295 := by
  simp only [validB, Bool.and_eq_true, decide_eq_true_eq] at h
  obtain ⟨⟨⟨⟨h1, h2⟩, h3⟩, h4⟩, h5⟩ := h
  exact ⟨beq_eq_false_iff_ne.2 (by omega), h1, h2, h3, h4, h5⟩
set_option maxHeartbeats 1000000 in
theorem allocNew_walk (r l e : Int) (w : World) : Calls Try.prog 4 #[.int .i64 r, .int .i64 l, .int .i64 e] w (LawP w) := by
  cases h : validB r l e with
  | false =>
    have HV := Lib.hid h
    clear h
    go_enter Try.func4, Try.ntmps4
    go_wp2_with (first | (go_at_call 14; ((with_reducible refine (rnew_no _ _ _ _ HV.out).mono ?_); rintro en w1 ⟨rfl, hb1⟩; have B := Lib.hid hb1; clear hb1)) | (go_at_call 15; refine (none_ok _ _ _ _ HV.out).mono ?_; rintro en w2 ⟨rfl, hb2⟩; have B2 := Lib.hid hb2; clear hb2) | (go_at_call 8; refine (known_a _).mono ?_; rintro en w3 ⟨rfl, hb3⟩; have B3 := Lib.hid hb3; clear hb3))
    go_ret
    exact ⟨rfl, below_step (below_step (below_alloc B.out _) B2.out) B3.out⟩
  | true =>
    obtain ⟨hr, h1, h2, h3, h4, h5⟩ := valid_parts h
    have HV := Lib.hid h
    clear h
    go_enter Try.func4, Try.ntmps4
    go_wp2_with (first | (go_at_call 14; ((with_reducible refine (rnew_yes _ _ _ _ HV.out).mono ?_); rintro en w1 ⟨rfl, hb1⟩; have B := Lib.hid hb1; clear hb1)) | (go_at_call 9; refine (new_yes _ _ _ _ HV.out).mono ?_; rintro en w2 ⟨b, rfl, hbw, HA2, hb2⟩; have hx := blk_below (blk_new w1 (.cells #[.int .i64 r, .int .i64 l, .int .i64 e] 36 (0, 0))) hb2; have p0 := (blk_cell hx 0).trans rfl; have p1 := (blk_cell hx 1).trans rfl; have p2 := (blk_cell hx 2).trans rfl; clear hx; have B2 := Lib.hid hb2; have HA2 := Lib.hid HA2; clear hb2) | (go_at_call 16; refine (looks_ok b r l e _ hr HA2.out h3 h4 h5).mono ?_; rintro en w3 ⟨rfl, hb3⟩; have B3 := Lib.hid hb3; clear hb3) | (go_at_call 8; refine (known_a _).mono ?_; rintro en w4 ⟨rfl, hb4⟩; have B4 := Lib.hid hb4; clear hb4))
    go_ret
    exact ⟨rfl, below_step (below_step (below_step (below_alloc B.out _) B2.out) B3.out) B4.out⟩
end Go.Proofs.Ythbngkaajhbdjaa.Al
