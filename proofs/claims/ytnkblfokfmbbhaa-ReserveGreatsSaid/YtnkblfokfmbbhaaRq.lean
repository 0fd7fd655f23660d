/- The reference of layer 22: Next, Use and New. -/
import Derived.Test.YtnkblfokfmbbhaaRr
namespace Go.Proofs.Ytnkblfokfmbbhaa.Al
open Go.RowKit Go.Proofs Go.Proofs.YtnkblfokfmbbhaaW.PrintWords Go.Proofs.Ytnkblfokfmbbhaa.Kit
set_option linter.unusedSimpArgs false
set_option linter.unusedVariables false

theorem nx_zero {l e n : Int} (h : nx l e n = 0) : chk l n = 0 ∧ n ≤ e - l := by
  unfold nx at h
  by_cases q : chk l n ≠ 0
  · rw [if_pos q] at h; exact absurd h q
  · rw [if_neg q] at h
    by_cases q2 : e - l < n
    · rw [if_pos q2] at h; cases h
    · exact ⟨by simpa using q, by omega⟩
theorem nx_cases (l e n : Int) : (chk l n ≠ 0 ∧ nx l e n = chk l n) ∨ (chk l n = 0 ∧ e - l < n ∧ nx l e n = 8) ∨ (chk l n = 0 ∧ n ≤ e - l ∧ nx l e n = 0) := by
  by_cases q : chk l n = 0
  · by_cases q2 : e - l < n
    · exact .inr (.inl ⟨q, q2, by unfold nx; rw [if_neg (by simp [q]), if_pos q2]⟩)
    · exact .inr (.inr ⟨q, by omega, by unfold nx; rw [if_neg (by simp [q]), if_neg q2]⟩)
  · exact .inl ⟨q, by unfold nx; rw [if_pos q]⟩

set_option maxHeartbeats 2000000 in
theorem rrnext_any (g : Nat) (r l e s n : Int) (w : World) (ok : RsOk r l e s) (h : Rr w g r l e s) :
    Calls Try.prog 20 #[.pointer (some ⟨g, 0, none⟩), .int .i64 n] w (RsNextP r l e n w) := by
  have hl := ok.l0
  have hle := ok.le
  have he := ok.e1
  have hc0 := h.c0
  have hc1 := h.c1
  have hc2 := h.c2
  have nofin : ∀ x w', nx l e n = x → x ≠ 0 → Below w.heap.size w w' → RsNextP r l e n w (.returned (.tuple #[.slice none 0 0, .int .i64 x])) w' := fun x w' h1 h2 hb =>
    ⟨.slice none 0 0, by rw [h1], by unfold nxN; rw [h1, if_neg h2]; exact Kd.R_nil _ _ _ _ _, hb⟩
  have NO := Lib.hid nofin
  have H := Lib.hid h
  clear h ok nofin
  rcases nx_cases l e n with ⟨h1, h2⟩ | ⟨h1, h2, h3⟩ | ⟨h1, h2, h3⟩
  · have hx : (chk l n != 0) = true := bne_iff_ne.2 h1
    have fin := NO.out (chk l n) w h2 h1 (Below.refl _ _)
    have FIN := Lib.hid fin
    clear fin h1 h2
    generalize hck : chk l n = ck at *
    have CK := Lib.hid hck
    clear hck
    go_enter Try.func20, Try.ntmps20
    go_wp2_with (go_at_call 34; refine (bad_any g r l e s n _ hl (by omega) H.out).mono ?_; rintro en w1 ⟨rfl, rfl⟩; rw [CK.out])
    go_ret2
    exact FIN.out
  · obtain ⟨n0, n1, n2⟩ := chk_zero h1
    have C := Lib.hid h1
    have E3 := Lib.hid h3
    have hd : decide (e < l + n) = true := decide_eq_true (by omega)
    have W1 := Lib.hid (IntWalk.i64_in (l + n) (by omega))
    clear h1 h3
    go_enter Try.func20, Try.ntmps20
    go_wp2_with (go_at_call 34; refine (bad_any g r l e s n _ hl (by omega) H.out).mono ?_; rintro en w1 ⟨rfl, rfl⟩; rw [C.out])
    have hw1 := W1.out
    go_quiet (fail)
    clear hw1
    go_wp2
    go_ret2
    exact NO.out _ _ E3.out (by decide) (pw_below_drewN (Below.refl _ _) _)
  · obtain ⟨n0, n1, n2⟩ := chk_zero h1
    have C := Lib.hid h1
    have hd : decide (e < l + n) = false := decide_eq_false (by omega)
    have W1 := Lib.hid (IntWalk.i64_in (l + n) (by omega))
    have fin : ∀ v w', d32.R 34 w' w.heap.size (fun j => w.heap.size ≤ j) v (dots r l n.toNat) → Below w.heap.size w w' → RsNextP r l e n w (.returned (.tuple #[v, .int .i64 0])) w' := fun v w' hv hb =>
      ⟨v, by rw [h3], by unfold nxN; rw [if_pos h3]; exact hv, hb⟩
    have FIN := Lib.hid fin
    clear h1 h3 fin
    go_enter Try.func20, Try.ntmps20
    go_wp2_with (go_at_call 34; refine (bad_any g r l e s n _ hl (by omega) H.out).mono ?_; rintro en w1 ⟨rfl, rfl⟩; rw [C.out])
    have hw1 := W1.out
    go_quiet (fail)
    clear hw1
    go_wp2
    go_loopw [7, 8] (fun v i wr => ∃ k : Nat, (k : Int) ≤ n ∧ i = .int .i64 (k + 1) ∧ d32.R 34 wr w.heap.size (fun j => w.heap.size ≤ j) v (dots r l k) ∧ Below w.heap.size w wr) (fun _ i _ => (n + 1 - intOf i).toNat)
    case atStart => exact ⟨0, by omega, rfl, Kd.R_nil _ _ _ _ _, pw_below_drewN (Below.refl _ _) _⟩
    case round =>
      obtain ⟨k, hk, rfl, HR, hb⟩ := hrel
      have hx := H.out.below hb
      have p0 := hx.c0
      have p1 := hx.c1
      have HBW := Lib.hid hb
      have hsz := hb.size
      have hlen := dots_length r l k
      clear hx hb hc0 hc1 hc2
      by_cases hlt : (k : Int) < n
      · go_wp2
        have hw2 : IntKind.i64.wrap (l + ((k : Int) + 1)) = l + (k + 1) := IntWalk.i64_in _ (by omega)
        go_region_law (refine Kd.R_append_step d32 (w0 := w) (W := wr.drew) w.heap.size (by rfl) (.tmp 31) (.tmp 43) 28 34 (.agg #[.int .i64 0, .int .i64 0]) 16 (by rfl) Try.underlying28 infoDot rfl (by decide) (by decide) u7 (dots r l k) (r, l + (k + 1)) [.int .i64 r, .int .i64 (l + (k + 1))] (fun j => w.heap.size ≤ j) (fun _ => False) (by rfl) (by rfl) ⟨[.int .i64 r], [.int .i64 (l + (k + 1))], rfl, rfl, rfl⟩ (fun _ h => h.elim) (fun j hj => Nat.le_trans hsz hj) HR (below_drew HBW.out) hsz (by rw [hlen]; omega) ?_; intro v1 w1 HR2 HB2 HG2 HT2)
        all_goals
          clear hw2
          go_wp2
          go_roundw
          case rel => exact ⟨k + 1, by omega, by go_num, by rw [dots_succ, show l + 1 + (k : Int) = l + (k + 1) by omega]; exact HR2, HB2⟩
          case measure => simp [intOf]; omega
      · go_wp2
        go_ret2
        have hnk : n = k := by omega
        exact FIN.out _ _ (by rw [hnk, Int.toNat_natCast]; exact HR) HBW.out

def RrUseP (g : Nat) (r l e s n : Int) (w : World) (en : Ending) (w' : World) : Prop :=
  en = .returned (.int .i64 (nx l e n)) ∧ Rr w' g r (useL l e n) e s ∧ w.grownBy w' (some g)
theorem rruse_any (g : Nat) (r l e s n : Int) (w : World) (ok : RsOk r l e s) (h : Rr w g r l e s) :
    Calls Try.prog 22 #[.pointer (some ⟨g, 0, none⟩), .int .i64 n] w (RrUseP g r l e s n w) := by
  have fin : ∀ w' l', useL l e n = l' → Rr w' g r l' e s → w.grownBy w' (some g) → RrUseP g r l e s n w (Ending.returned (.int .i64 (nx l e n))) w' := fun w' l' h1 h2 h3 => ⟨rfl, by rw [h1]; exact h2, h3⟩
  have hl := ok.l0
  have hle := ok.le
  have he := ok.e1
  by_cases h1 : nx l e n = 0
  · have e2 : useL l e n = l + n := by unfold useL; rw [if_pos h1]
    obtain ⟨hc, hn⟩ := nx_zero h1
    obtain ⟨n0, n1, n2⟩ := chk_zero hc
    rw [h1] at fin
    have FIN := Lib.hid fin
    have E1 := Lib.hid h1
    have E2 := Lib.hid e2
    have OK := Lib.hid ok
    have H := Lib.hid h
    clear fin h1 e2 hc ok h
    go_enter Try.func22, Try.ntmps22
    go_wp2_with (go_at_call 20; refine (rrnext_any g r l e s n _ OK.out H.out).mono ?_; rintro en w1 ⟨v, rfl, _, hb1⟩; rw [E1.out]; have H1 := Lib.hid (H.out.below hb1); have hc1 := H1.out.c1; have hf1 := H1.out.f 1; have B1 := Lib.hid hb1; clear hb1)
    go_ret
    exact FIN.out _ _ E2.out (H1.out.set1 _) (grown_then (below_grown B1.out _) (grown_set _ _ _ _) (fun _ _ => .inr rfl))
  · have e2 : useL l e n = l := by unfold useL; rw [if_neg h1]
    have hx : (nx l e n != 0) = true := bne_iff_ne.2 h1
    generalize hck : nx l e n = ck at *
    have FIN := Lib.hid fin
    have CK := Lib.hid hck
    have E2 := Lib.hid e2
    have OK := Lib.hid ok
    have H := Lib.hid h
    clear fin h1 e2 hck ok h
    go_enter Try.func22, Try.ntmps22
    go_wp2_with (go_at_call 20; refine (rrnext_any g r l e s n _ OK.out H.out).mono ?_; rintro en w1 ⟨v, rfl, _, hb1⟩; rw [CK.out]; have H1 := Lib.hid (H.out.below hb1); have B1 := Lib.hid hb1; clear hb1)
    go_ret
    exact FIN.out _ _ E2.out H1.out (below_grown B1.out _)

def RrNewP (r l s : Int) (w : World) (en : Ending) (w' : World) : Prop :=
  (rvalid r l s = true ∧ ∃ g, en = .returned (.tuple #[.pointer (some ⟨g, 0, none⟩), .int .i64 0]) ∧ w.heap.size ≤ g ∧ Rr w' g r l l s ∧ Below w.heap.size w w') ∨
  (rvalid r l s = false ∧ en = .returned (.tuple #[.pointer none, .int .i64 2]) ∧ Below w.heap.size w w')
set_option maxHeartbeats 400000 in
theorem rrnew_any (r l s : Int) (w : World) : Calls Try.prog 17 #[.int .i64 r, .int .i64 l, .int .i64 s] w (RrNewP r l s w) := by
  have no : rvalid r l s = false → RrNewP r l s w (.returned (.tuple #[.pointer none, .int .i64 2])) w := fun h => .inr ⟨h, rfl, Below.refl _ _⟩
  have yes : rvalid r l s = true → RrNewP r l s w (.returned (.tuple #[.pointer (some ⟨w.heap.size, 0, none⟩), .int .i64 0])) (w.alloc (.cells #[.int .i64 r, .int .i64 l, .int .i64 l, .int .i64 s] 62)) := fun h =>
    .inl ⟨h, _, rfl, Nat.le_refl _, blk_new w _, below_alloc (Below.refl _ _) _⟩
  have NO := Lib.hid no
  have YES := Lib.hid yes
  clear no yes
  go_enter Try.func17, Try.ntmps17
  go_wp2
  all_goals go_ret2
  all_goals first
  | exact YES.out (by simp [rvalid, validB]; omega)
  | exact NO.out (by simp [rvalid, validB]; omega)
end Go.Proofs.Ytnkblfokfmbbhaa.Al
