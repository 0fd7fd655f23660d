/- AllocNil answers true for all numbers. -/
import Derived.Test.YthbngkaajhbdjaaNw
namespace Go.Proofs.Ythbngkaajhbdjaa.Al
open Go.RowKit Go.Proofs Go.Proofs.YthbngkaajhbdjaaW.PrintWords Go.Proofs.Ythbngkaajhbdjaa.Kit
set_option linter.unusedSimpArgs false
set_option linter.unusedVariables false

structure ZS (w0 : World) (b g : Nat) (w : World) : Prop where
  al : Al w b 0 0 0
  bel : Below w0.heap.size w0 w
  row : w.heap[g]? = some (.cells #[.pointer none, .pointer (some ⟨b, 0, none⟩)] 23 (0, 0))
section
variable {w0 w w1 : World} {b g : Nat}
theorem ZS.below (h : ZS w0 b g w) (hb : Below w.heap.size w w1) : ZS w0 b g w1 := ⟨h.al.below hb, below_step h.bel hb, blk_below h.row hb⟩
theorem ZS.e0 (h : ZS w0 b g w) : w.cell? ⟨g, 0, none⟩ = some (.pointer none) := (blk_cell h.row 0).trans rfl
theorem ZS.e1 (h : ZS w0 b g w) : w.cell? ⟨g, 1, none⟩ = some (.pointer (some ⟨b, 0, none⟩)) := (blk_cell h.row 1).trans rfl
theorem ZS.zr (h : ZS w0 b g w) (p : Value) (hp : p = .pointer none ∨ p = .pointer (some ⟨b, 0, none⟩)) : Zr w p := by
  rcases hp with hp | hp
  · exact .inl hp
  · exact .inr ⟨b, hp, h.al⟩
end

set_option maxHeartbeats 1000000 in
theorem allocNil_walk (n : Int) (w : World) : Calls Try.prog 7 #[.int .i64 n] w (LawP w) := by
  go_enter Try.func7, Try.ntmps7
  go_wp2
  go_loopw [11] (fun i wr => ∃ k : Nat, k ≤ 2 ∧ i = .int .i64 k ∧ ZS w w.heap.size (w.heap.size + 1) wr) (fun i _ => (2 - intOf i).toNat)
  case atStart =>
    refine ⟨0, by omega, rfl, ?_, ?_, ?_⟩
    · exact blk_alloc (blk_new w _) _
    · exact below_alloc (below_alloc (Below.refl _ _) _) _
    · have := blk_new (w.alloc (.cells #[.int .i64 0, .int .i64 0, .int .i64 0] 54)) (.cells #[.pointer none, .pointer (some ⟨w.heap.size, 0, none⟩)] 23)
      simpa using this
  case round =>
    obtain ⟨k, hk, rfl, hz⟩ := hrel
    have e0 := hz.e0
    have e1 := hz.e1
    have Z := Lib.hid hz
    clear hz
    have hk3 : k = 0 ∨ k = 1 ∨ k = 2 := by omega
    rcases hk3 with rfl | rfl | rfl
    · go_wp2_with (first | (go_at_call 19; refine (next_zr_ok _ _ (Z.out.zr _ (.inl rfl))).mono ?_; rintro en w1 ⟨rfl, hb1⟩; have Z := Lib.hid (Z.out.below hb1); clear hb1) | (go_at_call 25; refine (takes_zr_ok _ n _ (Z.out.zr _ (.inl rfl))).mono ?_; rintro en w1 ⟨rfl, hb1⟩; have Z := Lib.hid (Z.out.below hb1); clear hb1) | (go_at_call 20; refine (extend_zr _ _ (Z.out.zr _ (.inl rfl)) n).mono ?_; rintro en w1 ⟨rfl, rfl⟩) | (go_at_call 21; refine (pass_zr _ _ (Z.out.zr _ (.inl rfl)) n).mono ?_; rintro en w1 ⟨rfl, rfl⟩) | (go_at_call 26; refine (replica_zr _ _ (Z.out.zr _ (.inl rfl))).mono ?_; rintro en w1 ⟨rfl, rfl⟩) | (go_at_call 11; refine (last_zr _ _ (Z.out.zr _ (.inl rfl))).mono ?_; rintro en w1 ⟨rfl, rfl⟩) | (go_at_call 22; refine (end_zr _ _ (Z.out.zr _ (.inl rfl))).mono ?_; rintro en w1 ⟨rfl, rfl⟩) | (go_at_call 12; refine (left_zr _ _ (Z.out.zr _ (.inl rfl))).mono ?_; rintro en w1 ⟨rfl, rfl⟩) | (go_at_call 18; refine (copy_zr _ _ (Z.out.zr _ (.inl rfl))).mono ?_; rintro en w1 ⟨rfl, rfl⟩))
      go_roundw
      case rel => exact ⟨1, by omega, rfl, Z.out⟩
      case measure => simp [intOf]
    · go_wp2_with (first | (go_at_call 19; refine (next_zr_ok _ _ (Z.out.zr _ (.inr rfl))).mono ?_; rintro en w1 ⟨rfl, hb1⟩; have Z := Lib.hid (Z.out.below hb1); clear hb1) | (go_at_call 25; refine (takes_zr_ok _ n _ (Z.out.zr _ (.inr rfl))).mono ?_; rintro en w1 ⟨rfl, hb1⟩; have Z := Lib.hid (Z.out.below hb1); clear hb1) | (go_at_call 20; refine (extend_zr _ _ (Z.out.zr _ (.inr rfl)) n).mono ?_; rintro en w1 ⟨rfl, rfl⟩) | (go_at_call 21; refine (pass_zr _ _ (Z.out.zr _ (.inr rfl)) n).mono ?_; rintro en w1 ⟨rfl, rfl⟩) | (go_at_call 26; refine (replica_zr _ _ (Z.out.zr _ (.inr rfl))).mono ?_; rintro en w1 ⟨rfl, rfl⟩) | (go_at_call 11; refine (last_zr _ _ (Z.out.zr _ (.inr rfl))).mono ?_; rintro en w1 ⟨rfl, rfl⟩) | (go_at_call 22; refine (end_zr _ _ (Z.out.zr _ (.inr rfl))).mono ?_; rintro en w1 ⟨rfl, rfl⟩) | (go_at_call 12; refine (left_zr _ _ (Z.out.zr _ (.inr rfl))).mono ?_; rintro en w1 ⟨rfl, rfl⟩) | (go_at_call 18; refine (copy_zr _ _ (Z.out.zr _ (.inr rfl))).mono ?_; rintro en w1 ⟨rfl, rfl⟩))
      go_roundw
      case rel => exact ⟨2, by omega, rfl, Z.out⟩
      case measure => simp [intOf]
    · go_wp2_with (go_at_call 8; refine (known_a _).mono ?_; rintro en w3 ⟨rfl, hb3⟩; have B3 := Lib.hid hb3; clear hb3)
      go_ret
      exact ⟨rfl, below_step Z.out.bel B3.out⟩
end Go.Proofs.Ythbngkaajhbdjaa.Al
