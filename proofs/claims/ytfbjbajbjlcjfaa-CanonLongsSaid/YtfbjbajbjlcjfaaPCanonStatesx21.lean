-- Printed by a program of this session (wip/tools/mkprint2.py) out of the translation; Lean checks it. -- narrowed
import Derived.Test.YtfbjbajbjlcjfaaPCanonStatesx0
import Derived.Test.YtfbjbajbjlcjfaaPCanonStatesx3
import Derived.Test.YtfbjbajbjlcjfaaPCanonStatesx18
import Derived.Test.YtfbjbajbjlcjfaaCmb
namespace Go.Proofs.Ytfbjbajbjlcjfaa.PCanonStates
open Go.RowKit Go.Proofs.YtfbjbajbjlcjfaaW.PrintWords Go.Proofs.YtfbjbajbjlcjfaaW.PrintLast Go.Proofs.YtfbjbajbjlcjfaaW.PrintMore
attribute [local go_sem] max2_int min2_int max_two min_two max_three min_three max_four min_four   -- for this text's walks alone
set_option linter.unusedVariables false
set_option linter.unusedSimpArgs false

/-! ### redpencillaw17_CanonLongs: function 6 -/
mutual
def redpencillaw17_CanonLongs.j0 : Nat → Int → Int → Bool → Option (Bool)
 | 0, _, _, _ => none
 | k + 1, x0, x1, x27 => if x27 = true then ((redpencillaw17_known.f k).bind fun t319 => (some t319)) else (if 0 ≤ x0 then (if (x0 : Int).toNat ≤ 5864062014805 then (if (x0 : Int).toNat ≤ 17592186044416 then (redpencillaw17_CanonLongs.l0 k x0 x1 (List.replicate (x0 : Int).toNat z38) (List.replicate (x0 : Int).toNat z36) 0) else (none)) else (none)) else (none))
def redpencillaw17_CanonLongs.l0 : Nat → Int → Int → List (S38) → List (S36) → Int → Option (Bool)
 | 0, _, _, _, _, _ => none
 | k + 1, x0, x1, x5, x6, x7 => if x7 < x0 then ((redpencillaw17_dot.f x1 (wrap64 ((wrap64 (2 * x7)) + 2))).bind fun bt326 => (if 0 ≤ x7 then (if x7 < (x6.length : Int) then ((some (x6.set (x7 : Int).toNat (⟨bt326.1, bt326.2⟩ : S36) : List (S36))).bind fun y328 => (if x7 < (x5.length : Int) then (redpencillaw17_CanonLongs.l0 k x0 x1 (x5.set (x7 : Int).toNat (⟨(⟨(rd_T36 y328 x7).f0, (rd_T36 y328 x7).f1⟩ : S36), (⟨0, 0⟩ : S36), wrap64 (1 + (Int.tmod x7 60)), 97⟩ : S38)) y328 (wrap64 (x7 + 1))) else (none))) else (none)) else (none))) else ((canon_Size.f x5).bind fun bt331 => ((canon_Encode.f x5).bind fun bt333 => ((canon_Context.f ([] : List (S36)) x6).bind fun bt337 => (if x0 > 65536 then (if bt331.1 = 0 then (if bt331.2 = 5 then (if (bt333.1.length : Int) = 0 then (if bt333.2 = 5 then (if (bt337.1.length : Int) = 0 then (if bt337.2 = 5 then ((redpencillaw17_known.f k).bind fun t341 => (some t341)) else (some false)) else (some false)) else (some false)) else (some false)) else (some false)) else (some false)) else (if bt331.1 = (wrap64 (6 + (wrap64 (5 * x0)))) then (if bt331.2 = 0 then (if (bt333.1.length : Int) = bt331.1 then (if bt333.2 = 0 then (if bt337.2 = 0 then (if (bt337.1.length : Int) > (wrap64 (3 * x0)) then ((redpencillaw17_known.f k).bind fun t342 => (some t342)) else (some false)) else (some false)) else (some false)) else (some false)) else (some false)) else (some false))))))
end
def redpencillaw17_CanonLongs.f (k : Nat) (a0 : Int) (a1 : Int) : Option (Bool) := if a0 < 65534 then (redpencillaw17_CanonLongs.j0 k a0 a1 true) else (if a0 > 65538 then (redpencillaw17_CanonLongs.j0 k a0 a1 true) else (if a1 < 1 then (redpencillaw17_CanonLongs.j0 k a0 a1 true) else (redpencillaw17_CanonLongs.j0 k a0 a1 (decide (a1 > 64)))))
set_option maxHeartbeats 8000000 in
set_option maxRecDepth 100000 in
theorem redpencillaw17_CanonLongs.calls (k : Nat) (a0 : Int) (a1 : Int) (w : World) (h : redpencillaw17_CanonLongs.f k a0 a1 = some true) :
  Calls Try.prog 6 #[.int .i64 a0, .int .i64 a1] w fun e w' => e = .returned (.bool true) ∧ Below w.heap.size w w' := by
 have hu36 := Try.underlying36
 have hu38 := Try.underlying38
 have hu43 := Try.underlying43
 have HB := Aside0.mk (Below.refl w.heap.size w)
 have H : (if a0 < 65534 then (redpencillaw17_CanonLongs.j0 k a0 a1 true) else (if a0 > 65538 then (redpencillaw17_CanonLongs.j0 k a0 a1 true) else (if a1 < 1 then (redpencillaw17_CanonLongs.j0 k a0 a1 true) else (redpencillaw17_CanonLongs.j0 k a0 a1 (decide (a1 > 64)))))) = some true := h
 clear h
 have HC3 := Aside0.mk H
 clear H
 go_enter Try.func6, Try.ntmps6
 go_upto_region 1 with (fail)
 go_cut [27] (fun v27 wc => ∃ (kq : Nat) (x27_2 : Bool), v27 = .bool x27_2 ∧ Aside0 (redpencillaw17_CanonLongs.j0 kq a0 a1 x27_2 = some true) ∧ Aside0 (kq ≤ k) ∧ Aside0 (Below w.heap.size w wc))
 case first =>
  have H := HC3.out
  clear HC3
  by_cases c4 : a0 < 65534
  ·
   rw [if_pos c4] at H
   have c4b0 : decide (a0 < 65534) = true := decide_eq_true c4
   clear c4
   (first | rw [c4b0] | (simp only [i64_w, i32_w]; rw [c4b0]) | skip)
   have H' := Aside0.mk H
   clear H
   go_wp2
   go_meet
   case rel => exact ⟨_, (true), (by first | rfl | (simp; done) | (simp [*]; done)), H', ⟨by first | omega | exact Nat.le_refl _⟩, ⟨by repeat (first | (with_reducible first | exact HB.out | apply below_alloc | apply pw_below_drewN | apply below_drew1) | exact HB.out)⟩⟩
  ·
   rw [if_neg c4] at H
   have c4b0 : decide (a0 < 65534) = false := decide_eq_false c4
   clear c4
   (first | rw [c4b0] | (simp only [i64_w, i32_w]; rw [c4b0]) | skip)
   by_cases c5 : a0 > 65538
   ·
    rw [if_pos c5] at H
    have c5b0 : decide (65538 < a0) = true := decide_eq_true c5
    clear c5
    have H' := Aside0.mk H
    clear H
    go_wp2
    go_meet
    case rel => exact ⟨_, (true), (by first | rfl | (simp; done) | (simp [*]; done)), H', ⟨by first | omega | exact Nat.le_refl _⟩, ⟨by repeat (first | (with_reducible first | exact HB.out | apply below_alloc | apply pw_below_drewN | apply below_drew1) | exact HB.out)⟩⟩
   ·
    rw [if_neg c5] at H
    have c5b0 : decide (65538 < a0) = false := decide_eq_false c5
    clear c5
    by_cases c6 : a1 < 1
    ·
     rw [if_pos c6] at H
     have c6b0 : decide (a1 < 1) = true := decide_eq_true c6
     clear c6
     have H' := Aside0.mk H
     clear H
     go_wp2
     go_meet
     case rel => exact ⟨_, (true), (by first | rfl | (simp; done) | (simp [*]; done)), H', ⟨by first | omega | exact Nat.le_refl _⟩, ⟨by repeat (first | (with_reducible first | exact HB.out | apply below_alloc | apply pw_below_drewN | apply below_drew1) | exact HB.out)⟩⟩
    ·
     rw [if_neg c6] at H
     have c6b0 : decide (a1 < 1) = false := decide_eq_false c6
     clear c6
     have H' := Aside0.mk H
     clear H
     go_wp2
     go_meet
     case rel => exact ⟨_, (decide (a1 > 64)), (by first | rfl | (simp; done) | (simp [*]; done)), H', ⟨by first | omega | exact Nat.le_refl _⟩, ⟨by repeat (first | (with_reducible first | exact HB.out | apply below_alloc | apply pw_below_drewN | apply below_drew1) | exact HB.out)⟩⟩
 case rest =>
  clear HC3
  try clear p2
  try clear c4
  try clear c4b0
  try clear c5
  try clear c5b0
  try clear c6
  try clear c6b0
  obtain ⟨kq, x27_2, rfl, HA, HJ2, HB⟩ := hcut
  cases kq with
  | zero => exact absurd HA.out (by simp [redpencillaw17_CanonLongs.j0])
  | succ kj2 =>
   have H := HA.out
   clear HA
   simp only [redpencillaw17_CanonLongs.j0] at H
   by_cases c7 : x27_2 = true
   ·
    subst c7
    have H1 : ((redpencillaw17_known.f kj2).bind fun t319 => (some t319)) = some true := by rw [if_pos rfl] at H; exact H
    clear H
    have H := H1
    clear H1
    replace H := Option.bind_eq_some_iff.mp H
    obtain ⟨t319, A80, H⟩ := H
    replace H : (some t319) = some true := H
    have A8 := Aside0.mk A80
    clear A80
    obtain rfl := Option.some.inj H
    go_wp2_with (first | ((with_reducible refine gate_callee (f := 8) rfl ?_); refine goesL_ (some 28) rfl rfl Try.func8 (by kernel_rfl) rfl #[] rfl (by (try simp only [List.map_toArray, List.map_cons, List.map_nil]); first | done | rfl | (simp only [List.length_drop, List.length_take]; rfl)) ?_; (with_reducible refine (redpencillaw17_known.calls kj2  true _ A8.out).mono ?_); rintro e w9 ⟨rfl, hb⟩; refine ⟨_, rfl, ?_⟩; have n0_ := Aside0.mk (below_step (by repeat (first | (with_reducible first | exact HB.out | apply below_alloc | apply pw_below_drewN | apply below_drew1) | exact HB.out)) hb); clear HB; have HB := n0_; clear n0_; (try clear hb); (try clear hb2); (try clear hk); (try clear hi)))
    go_ret
    exact ⟨by first | rfl | (simp [errW_none, errW_some] <;> rfl) | (simp [*, errW_none, errW_some] <;> rfl), by repeat (first | (with_reducible first | exact HB.out | apply below_alloc | apply pw_below_drewN | apply below_drew1) | exact HB.out)⟩
   ·
    replace c7 := Bool.eq_false_iff.mpr c7
    subst c7
    have H1 : (if 0 ≤ a0 then (if (a0 : Int).toNat ≤ 5864062014805 then (if (a0 : Int).toNat ≤ 17592186044416 then (redpencillaw17_CanonLongs.l0 kj2 a0 a1 (List.replicate (a0 : Int).toNat z38) (List.replicate (a0 : Int).toNat z36) 0) else (none)) else (none)) else (none)) = some true := by rw [if_neg (show ¬ (false = true) by decide)] at H; exact H
    clear H
    have H := H1
    clear H1
    by_cases c10 : 0 ≤ a0
    ·
     rw [if_pos c10] at H
     have c10b0 := eq_true c10
     have c10b1 : decide (0 ≤ a0) = true := decide_eq_true c10
     clear c10
     by_cases c11 : (a0 : Int).toNat ≤ 5864062014805
     ·
      rw [if_pos c11] at H
      have c11b0 := eq_true c11
      have c11b1 : decide ((a0 : Int).toNat ≤ 5864062014805) = true := decide_eq_true c11
      clear c11
      obtain ⟨y320, hy320⟩ : ∃ y_ : List (S38), y_ = (List.replicate (a0 : Int).toNat z38) := ⟨_, rfl⟩
      replace H : (if (a0 : Int).toNat ≤ 17592186044416 then (redpencillaw17_CanonLongs.l0 kj2 a0 a1 y320 (List.replicate (a0 : Int).toNat z36) 0) else (none)) = some true := by first | (rw [hy320]; with_reducible exact H) | (have H2_ := (Option.bind_some _ _).symm.trans H; rw [hy320]; with_reducible exact H2_) | (have H2_ := (Option.bind_some _ _).symm.trans H; with_reducible exact H2_) | with_reducible exact H | (rw [hy320]; exact H) | exact H
      have Ny320 := Aside0.mk hy320
      clear hy320
      by_cases c12 : (a0 : Int).toNat ≤ 17592186044416
      ·
       rw [if_pos c12] at H
       have c12b0 := eq_true c12
       have c12b1 : decide ((a0 : Int).toNat ≤ 17592186044416) = true := decide_eq_true c12
       clear c12
       obtain ⟨y323, hy323⟩ : ∃ y_ : List (S36), y_ = (List.replicate (a0 : Int).toNat z36) := ⟨_, rfl⟩
       replace H : (redpencillaw17_CanonLongs.l0 kj2 a0 a1 y320 y323 0) = some true := by first | (rw [hy323]; with_reducible exact H) | (have H2_ := (Option.bind_some _ _).symm.trans H; rw [hy323]; with_reducible exact H2_) | (have H2_ := (Option.bind_some _ _).symm.trans H; with_reducible exact H2_) | with_reducible exact H | (rw [hy323]; exact H) | exact H
       have Ny323 := Aside0.mk hy323
       clear hy323
       have H' := Aside0.mk H
       clear H
       go_wp2_with (first | ((with_reducible refine gate_dst (N := 30) rfl ?_); (try (refine gate_guard (by rfl) ?_; dsimp only)); refine Kd.R_make k38 _ 38 rfl (N := 30) rfl 23 _ _ rfl a0 rfl rfl Try.underlying23 (.agg #[(.int .i64 0), (.int .i64 0), (.int .i64 0), (.int .i64 0), (.int .i64 0), (.int .i32 0)]) 48 info38 rfl (by decide) (by omega) z38 (ok := fun _ => True) (okp := fun _ => True) (k38_mkM _ _ _ z38 ) (fun _ hk => hk) trivial (of_decide_eq_true (by first | (with_reducible assumption) | assumption)) (Nat.le_trans (Nat.mul_le_mul_right _ (of_decide_eq_true (by first | (with_reducible assumption) | assumption) : a0.toNat ≤ 5864062014805)) (by omega)) (Below.refl _ _) (Nat.le_refl _) ?_; intro v321 w13 ho14 hb hg_ hnew_; clear hg_ hnew_; (first | rw [← Ny320.out] at ho14 | (simp only [Int.reduceToNat] at ho14; rw [← Ny320.out] at ho14)); have n0_ := Aside0.mk (Kd.R_lower ho14 (below_size (by repeat (first | (with_reducible first | exact HB.out | apply below_alloc | apply pw_below_drewN | apply below_drew1) | exact HB.out)))); have n1_ := Aside0.mk (below_step (by repeat (first | (with_reducible first | exact HB.out | apply below_alloc | apply pw_below_drewN | apply below_drew1) | exact HB.out)) hb); clear HB; have HO322 := n0_; have HB := n1_; clear n0_ n1_; clear hb ho14) | ((with_reducible refine gate_dst (N := 32) rfl ?_); (try (refine gate_guard (by rfl) ?_; dsimp only)); refine Kd.R_make k36 _ 36 rfl (N := 32) rfl 40 _ _ rfl a0 rfl rfl Try.underlying40 (.agg #[(.int .i64 0), (.int .i64 0)]) 16 info36 rfl (by decide) (by omega) z36 (ok := fun _ => True) (okp := fun _ => True) (k36_mkM _ _ _ z36 ) (fun _ hk => hk) trivial (of_decide_eq_true (by first | (with_reducible assumption) | assumption)) (Nat.le_trans (Nat.mul_le_mul_right _ (of_decide_eq_true (by first | (with_reducible assumption) | assumption) : a0.toNat ≤ 17592186044416)) (by omega)) (Below.refl _ _) (Nat.le_refl _) ?_; intro v324 w15 ho16 hb hg_ hnew_; clear hg_ hnew_; (first | rw [← Ny323.out] at ho16 | (simp only [Int.reduceToNat] at ho16; rw [← Ny323.out] at ho16)); have n0_ := Aside0.mk (Kd.R_below (by (with_reducible repeat (first | apply Kd.R_alloc | apply Kd.R_drewN | apply Kd.R_drew)); exact HO322.out) hb); have n1_ := Aside0.mk (Kd.R_lower ho16 (below_size (by repeat (first | (with_reducible first | exact HB.out | apply below_alloc | apply pw_below_drewN | apply below_drew1) | exact HB.out)))); have n2_ := Aside0.mk (below_step (by repeat (first | (with_reducible first | exact HB.out | apply below_alloc | apply pw_below_drewN | apply below_drew1) | exact HB.out)) hb); clear HO322; clear HB; have HO322 := n0_; have HO325 := n1_; have HB := n2_; clear n0_ n1_ n2_; clear hb ho16))
       go_loopg [7] kj2 (fun kq v7 w' => ∃ (x5_2 : List (S38)) (x6_2 : List (S36)) (x7_2 : Int), v7 = .int .i64 x7_2 ∧ Aside0 (redpencillaw17_CanonLongs.l0 kq a0 a1 x5_2 x6_2 x7_2 = some true) ∧ Aside0 (kq ≤ kj2) ∧ Aside0 (Kd.R k38 38 w' w.heap.size (fun _ => True) v321 x5_2) ∧ Aside0 (Kd.R k36 36 w' w.heap.size (fun _ => True) v324 x6_2) ∧ Aside0 (Below w.heap.size w w'))
       case atStart => exact ⟨(y320), (y323), (0), (by first | rfl | (simp; done) | (simp [*]; done)), H', ⟨Nat.le_refl _⟩, ⟨by (with_reducible repeat (first | apply Kd.R_alloc | apply Kd.R_drewN | apply Kd.R_drew)); exact HO322.out⟩, ⟨by (with_reducible repeat (first | apply Kd.R_alloc | apply Kd.R_drewN | apply Kd.R_drew)); exact HO325.out⟩, ⟨by repeat (first | (with_reducible first | exact HB.out | apply below_alloc | apply pw_below_drewN | apply below_drew1) | exact HB.out)⟩⟩
       case round =>
        clear H'
        try clear c1
        try clear p2
        try clear c4
        try clear c4b0
        try clear c5
        try clear c5b0
        try clear c6
        try clear c6b0
        try clear c7
        try clear c8
        try clear c10
        try clear c10b0
        try clear c10b1
        try clear c11
        try clear c11b0
        try clear c11b1
        try clear c12
        try clear c12b0
        try clear c12b1
        try clear p2
        obtain ⟨x5_2, x6_2, x7_2, rfl, HA, HK2, HO_5, HO_6, HB⟩ := hrel
        cases gk with
        | zero => exact absurd HA.out (by simp [redpencillaw17_CanonLongs.l0])
        | succ k2 =>
         have H := HA.out
         clear HA
         simp only [redpencillaw17_CanonLongs.l0] at H
         by_cases c17 : x7_2 < a0
         ·
          rw [if_pos c17] at H
          have c17b0 : decide (x7_2 < a0) = true := decide_eq_true c17
          clear c17
          replace H := Option.bind_eq_some_iff.mp H
          obtain ⟨⟨t326, t327⟩, A180, H⟩ := H
          replace H : (if 0 ≤ x7_2 then (if x7_2 < (x6_2.length : Int) then ((some (x6_2.set (x7_2 : Int).toNat (⟨t326, t327⟩ : S36) : List (S36))).bind fun y328 => (if x7_2 < (x5_2.length : Int) then (redpencillaw17_CanonLongs.l0 k2 a0 a1 (x5_2.set (x7_2 : Int).toNat (⟨(⟨(rd_T36 y328 x7_2).f0, (rd_T36 y328 x7_2).f1⟩ : S36), (⟨0, 0⟩ : S36), wrap64 (1 + (Int.tmod x7_2 60)), 97⟩ : S38)) y328 (wrap64 (x7_2 + 1))) else (none))) else (none)) else (none)) = some true := H
          have A18 := Aside0.mk A180
          clear A180
          by_cases c19 : 0 ≤ x7_2
          ·
           rw [if_pos c19] at H
           have c19b0 : decide (0 ≤ x7_2) = true := decide_eq_true c19
           clear c19
           by_cases c20 : x7_2 < (x6_2.length : Int)
           ·
            rw [if_pos c20] at H
            have c20b0 : decide (x7_2 < (x6_2.length : Int)) = true := decide_eq_true c20
            clear c20
            obtain ⟨y328, hy328⟩ : ∃ y_ : List (S36), y_ = (x6_2.set (x7_2 : Int).toNat (⟨t326, t327⟩ : S36)) := ⟨_, rfl⟩
            replace H : (if x7_2 < (x5_2.length : Int) then (redpencillaw17_CanonLongs.l0 k2 a0 a1 (x5_2.set (x7_2 : Int).toNat (⟨(⟨(rd_T36 y328 x7_2).f0, (rd_T36 y328 x7_2).f1⟩ : S36), (⟨0, 0⟩ : S36), wrap64 (1 + (Int.tmod x7_2 60)), 97⟩ : S38)) y328 (wrap64 (x7_2 + 1))) else (none)) = some true := by first | (rw [hy328]; with_reducible exact H) | (have H2_ := (Option.bind_some _ _).symm.trans H; rw [hy328]; with_reducible exact H2_) | (have H2_ := (Option.bind_some _ _).symm.trans H; with_reducible exact H2_) | with_reducible exact H | (rw [hy328]; exact H) | exact H
            have Ny328 := Aside0.mk hy328
            clear hy328
            by_cases c22 : x7_2 < (x5_2.length : Int)
            ·
             rw [if_pos c22] at H
             have c22b0 : decide (x7_2 < (x5_2.length : Int)) = true := decide_eq_true c22
             clear c22
             obtain ⟨y330, hy330⟩ : ∃ y_ : List (S38), y_ = (x5_2.set (x7_2 : Int).toNat (⟨(⟨(rd_T36 y328 x7_2).f0, (rd_T36 y328 x7_2).f1⟩ : S36), (⟨0, 0⟩ : S36), wrap64 (1 + (Int.tmod x7_2 60)), 97⟩ : S38)) := ⟨_, rfl⟩
             replace H : (redpencillaw17_CanonLongs.l0 k2 a0 a1 y330 y328 (wrap64 (x7_2 + 1))) = some true := by first | (rw [hy330]; with_reducible exact H) | (have H2_ := (Option.bind_some _ _).symm.trans H; rw [hy330]; with_reducible exact H2_) | (have H2_ := (Option.bind_some _ _).symm.trans H; with_reducible exact H2_) | with_reducible exact H | (rw [hy330]; exact H) | exact H
             have Ny330 := Aside0.mk hy330
             clear hy330
             have H' := Aside0.mk H
             clear H
             go_wp2_with (first | ((with_reducible refine gate_callee (f := 21) rfl ?_); refine goesL_ (some 44) rfl rfl Try.func21 (by kernel_rfl) rfl #[.int .i64 a1, .int .i64 (wrap64 ((wrap64 (2 * x7_2)) + 2))] rfl (by (try simp only [List.map_toArray, List.map_cons, List.map_nil]); first | done | rfl | (simp only [List.length_drop, List.length_take]; rfl)) ?_; (with_reducible refine (redpencillaw17_dot.calls a1 (wrap64 ((wrap64 (2 * x7_2)) + 2)) t326 t327 _ A18.out).mono ?_); rintro e w24 ⟨rfl, hb⟩; refine ⟨_, rfl, ?_⟩; have n0_ := Aside0.mk (Kd.R_below (by (with_reducible repeat (first | apply Kd.R_alloc | apply Kd.R_drewN | apply Kd.R_drew)); exact HO_5.out) hb); have n1_ := Aside0.mk (Kd.R_below (by (with_reducible repeat (first | apply Kd.R_alloc | apply Kd.R_drewN | apply Kd.R_drew)); exact HO_6.out) hb); have n2_ := Aside0.mk (below_step (by repeat (first | (with_reducible first | exact HB.out | apply below_alloc | apply pw_below_drewN | apply below_drew1) | exact HB.out)) hb); clear HO_5; clear HO_6; clear HB; have HO_5 := n0_; have HO_6 := n1_; have HB := n2_; clear n0_ n1_ n2_; (try clear hb); (try clear hb2); (try clear hk); (try clear hi); have p21 : 0 ≤ (x7_2 : Int) := of_decide_eq_true (by first | (with_reducible assumption) | assumption); have q21 : (x7_2 : Int) < ((x6_2.length : Int) : Int) := of_decide_eq_true (by first | (with_reducible assumption) | assumption); obtain ⟨go21, co21, eo21, gb21, gl21, cl21, HG21⟩ := Kd.R_form HO_6.out (by omega); (first | cases eo21 | (injection eo21 with ea_ en_ ec_; (first | subst ea_ | (injection ea_ with ea_; subst ea_)); subst ec_; clear en_)); have GB21 := Aside0.mk gb21; have GG21 := Aside0.mk HG21; clear gb21 gl21 HG21; obtain ⟨ce21, hcl21, hM21, hcc21, hfr21⟩ := Kd.R_elem HO_6.out z36 (x7_2 : Int) p21 q21; obtain rfl := k36_openM hM21; have hx21_0 : w24.cell? ⟨go21, (x7_2 : Int).toNat * 2, none⟩ = some (.int .i64 ((rd_T36 x6_2 x7_2).f0)) := hcc21 0 _ rfl; have hx21_1 : w24.cell? ⟨go21, (x7_2 : Int).toNat * 2 + 1, none⟩ = some (.int .i64 ((rd_T36 x6_2 x7_2).f1)) := hcc21 1 _ rfl; have hf21_0 : w24.frozen? ⟨go21, (x7_2 : Int).toNat * 2, none⟩ = false := hfr21 0; have hf21_1 : w24.frozen? ⟨go21, (x7_2 : Int).toNat * 2 + 1, none⟩ = false := hfr21 1; clear hcl21 hcc21 hfr21 hM21; replace p21 := eq_true p21; replace q21 := eq_true q21; have HX25 := Aside0.mk (show Kd.R k36 36 w24 w.heap.size (fun _ => True) (.slice (some ⟨go21, 0, none⟩) x6_2.length co21) x6_2 from (by (with_reducible repeat (first | apply Kd.R_alloc | apply Kd.R_drewN | apply Kd.R_drew)); exact HO_6.out)); obtain ⟨ce25, hcl25, hM25, hcc25, hfr25⟩ := Kd.R_elem HX25.out z36 (x7_2 : Int) (of_decide_eq_true (by first | (with_reducible assumption) | assumption)) (by have h_ : (x7_2 : Int) < ((x6_2.length : Int) : Int) := of_decide_eq_true (by first | (with_reducible assumption) | assumption); first | exact h_ | (have e_ := (Kd.R_reads' HO_6.out).1; omega) | simpa using h_); obtain rfl := k36_openM hM25; have HP25 := Kd.R_seg HX25.out (x7_2 : Int) (of_decide_eq_true (by first | (with_reducible assumption) | assumption)) (by have h_ : (x7_2 : Int) < ((x6_2.length : Int) : Int) := of_decide_eq_true (by first | (with_reducible assumption) | assumption); first | exact h_ | (have e_ := (Kd.R_reads' HO_6.out).1; omega) | simpa using h_) (seg := [.int .i64 t326, .int .i64 t327]) (j := 0) hcl25 hcc25 (show 2 ≤ 2 from by decide) (x' := (⟨t326, t327⟩ : S36)) (k36_mkM _ _ _ (⟨t326, t327⟩ : S36) ) (fun _ hk => hk); have hx25_0 := hcc25 0 _ rfl; (try simp only [show (k36).sz = 2 from rfl, Nat.mul_one, Nat.add_zero] at hx25_0); have hf25_0 := hfr25 0; (try simp only [show (k36).sz = 2 from rfl, Nat.mul_one, Nat.add_zero] at hf25_0); have hx25_1 := hcc25 1 _ rfl; (try simp only [show (k36).sz = 2 from rfl, Nat.mul_one, Nat.add_zero] at hx25_1); have hf25_1 := hfr25 1; (try simp only [show (k36).sz = 2 from rfl, Nat.mul_one, Nat.add_zero] at hf25_1); clear hcl25 hcc25 hfr25 hM25) | ((with_reducible refine gate_store (t := 36) (p := 45) rfl ?_); refine store_event (t := 36) (p := 45) (v := ?vo_w26) (w1 := ((w24.setCell ⟨go21, (x7_2 : Int).toNat * 2, none⟩ (.int .i64 t326)).setCell ⟨go21, (x7_2 : Int).toNat * 2 + 1, none⟩ (.int .i64 t327))) ?hg ?ho ?hn ?hr ?_; (case ho => rfl); (case hg => rfl); (case hn => rfl); (case hr => first | (go_simp; done) | (go_simp; rfl)); intro w26 hw; have hg : w24.grownBy w26 (some go21) := (by rw [hw]; exact HP25.2); have hp_ : Kd.R k36 36 w26 w.heap.size (fun _ => True) (.slice (some ⟨go21, 0, none⟩) x6_2.length co21) y328 := (by rw [hw, Ny328.out]; exact HP25.1); clear HP25; have n0_ := Aside0.mk (Kd.R_over' (v := (.slice (some ⟨go21, 0, none⟩) x6_2.length co21)) (by (with_reducible repeat (first | apply Kd.R_alloc | apply Kd.R_drewN | apply Kd.R_drew)); exact HO_5.out) (Kd.R_typed HO_6.out) (by decide) hg); have n1_ := Aside0.mk (hp_); have n2_ := Aside0.mk ((by rw [hw]; exact below_set (below_set (HB.out) GB21.out) GB21.out : Below w.heap.size w w26)); clear HO_5; clear HO_6; clear HB; have HO_5 := n0_; have HO_6 := n1_; have HB := n2_; clear n0_ n1_ n2_; clear hg hw hp_; have p329 : 0 ≤ (x7_2 : Int) := of_decide_eq_true (by first | (with_reducible assumption) | assumption); have q329 : x7_2 < (y328.length : Int) := (by have h_ : (x7_2 : Int) < ((x6_2.length : Int) : Int) := of_decide_eq_true (by first | (with_reducible assumption) | assumption); first | (have e_ := (Kd.R_reads' HO_6.out).1; omega) | simpa only [Ny328.out, List.length_set] using h_); have ql329 : ((x7_2 : Int) < ((x6_2.length : Int) : Int)) = True := eq_true (of_decide_eq_true (by first | (with_reducible assumption) | assumption)); obtain ⟨ad329, e329, hx329_0, hx329_1⟩ := at_T36 (Kd.R_reads' HO_6.out).2.2 x7_2 p329 q329; obtain rfl : (⟨go21, 0, none⟩ : Addr) = ad329 := (by injection e329); (first | simp only [add_plain] at hx329_0 | simp only [add_at] at hx329_0 | simp only [Addr.add, Nat.zero_add] at hx329_0 | skip); (first | simp only [add_plain] at hx329_1 | simp only [add_at] at hx329_1 | simp only [Addr.add, Nat.zero_add] at hx329_1 | skip); replace p329 := eq_true p329; replace q329 := eq_true q329; have p23 : 0 ≤ (x7_2 : Int) := of_decide_eq_true (by first | (with_reducible assumption) | assumption); have q23 : (x7_2 : Int) < ((x5_2.length : Int) : Int) := of_decide_eq_true (by first | (with_reducible assumption) | assumption); obtain ⟨go23, co23, eo23, gb23, gl23, cl23, HG23⟩ := Kd.R_form HO_5.out (by omega); (first | cases eo23 | (injection eo23 with ea_ en_ ec_; (first | subst ea_ | (injection ea_ with ea_; subst ea_)); subst ec_; clear en_)); have GB23 := Aside0.mk gb23; have GG23 := Aside0.mk HG23; clear gb23 gl23 HG23; obtain ⟨ce23, hcl23, hM23, hcc23, hfr23⟩ := Kd.R_elem HO_5.out z38 (x7_2 : Int) p23 q23; obtain rfl := k38_openM hM23; have hx23_0 : w26.cell? ⟨go23, (x7_2 : Int).toNat * 6, none⟩ = some (.int .i64 ((rd_T38 x5_2 x7_2).f0.f0)) := hcc23 0 _ rfl; have hx23_1 : w26.cell? ⟨go23, (x7_2 : Int).toNat * 6 + 1, none⟩ = some (.int .i64 ((rd_T38 x5_2 x7_2).f0.f1)) := hcc23 1 _ rfl; have hx23_2 : w26.cell? ⟨go23, (x7_2 : Int).toNat * 6 + 2, none⟩ = some (.int .i64 ((rd_T38 x5_2 x7_2).f1.f0)) := hcc23 2 _ rfl; have hx23_3 : w26.cell? ⟨go23, (x7_2 : Int).toNat * 6 + 3, none⟩ = some (.int .i64 ((rd_T38 x5_2 x7_2).f1.f1)) := hcc23 3 _ rfl; have hx23_4 : w26.cell? ⟨go23, (x7_2 : Int).toNat * 6 + 4, none⟩ = some (.int .i64 ((rd_T38 x5_2 x7_2).f2)) := hcc23 4 _ rfl; have hx23_5 : w26.cell? ⟨go23, (x7_2 : Int).toNat * 6 + 5, none⟩ = some (.int .i32 ((rd_T38 x5_2 x7_2).f3)) := hcc23 5 _ rfl; have hf23_0 : w26.frozen? ⟨go23, (x7_2 : Int).toNat * 6, none⟩ = false := hfr23 0; have hf23_1 : w26.frozen? ⟨go23, (x7_2 : Int).toNat * 6 + 1, none⟩ = false := hfr23 1; have hf23_2 : w26.frozen? ⟨go23, (x7_2 : Int).toNat * 6 + 2, none⟩ = false := hfr23 2; have hf23_3 : w26.frozen? ⟨go23, (x7_2 : Int).toNat * 6 + 3, none⟩ = false := hfr23 3; have hf23_4 : w26.frozen? ⟨go23, (x7_2 : Int).toNat * 6 + 4, none⟩ = false := hfr23 4; have hf23_5 : w26.frozen? ⟨go23, (x7_2 : Int).toNat * 6 + 5, none⟩ = false := hfr23 5; clear hcl23 hcc23 hfr23 hM23; replace p23 := eq_true p23; replace q23 := eq_true q23; have HX27 := Aside0.mk (show Kd.R k38 38 w26 w.heap.size (fun _ => True) (.slice (some ⟨go23, 0, none⟩) x5_2.length co23) x5_2 from (by (with_reducible repeat (first | apply Kd.R_alloc | apply Kd.R_drewN | apply Kd.R_drew)); exact HO_5.out)); obtain ⟨ce27, hcl27, hM27, hcc27, hfr27⟩ := Kd.R_elem HX27.out z38 (x7_2 : Int) (of_decide_eq_true (by first | (with_reducible assumption) | assumption)) (by have h_ : (x7_2 : Int) < ((x5_2.length : Int) : Int) := of_decide_eq_true (by first | (with_reducible assumption) | assumption); first | exact h_ | (have e_ := (Kd.R_reads' HO_5.out).1; omega) | simpa using h_); obtain rfl := k38_openM hM27; have HP27 := Kd.R_seg HX27.out (x7_2 : Int) (of_decide_eq_true (by first | (with_reducible assumption) | assumption)) (by have h_ : (x7_2 : Int) < ((x5_2.length : Int) : Int) := of_decide_eq_true (by first | (with_reducible assumption) | assumption); first | exact h_ | (have e_ := (Kd.R_reads' HO_5.out).1; omega) | simpa using h_) (seg := [.int .i64 ((rd_T36 y328 x7_2).f0), .int .i64 ((rd_T36 y328 x7_2).f1), .int .i64 0, .int .i64 0, .int .i64 (wrap64 (1 + (Int.tmod x7_2 60))), .int .i32 97]) (j := 0) hcl27 hcc27 (show 6 ≤ 6 from by decide) (x' := (⟨(⟨(rd_T36 y328 x7_2).f0, (rd_T36 y328 x7_2).f1⟩ : S36), (⟨0, 0⟩ : S36), wrap64 (1 + (Int.tmod x7_2 60)), 97⟩ : S38)) (k38_mkM _ _ _ (⟨(⟨(rd_T36 y328 x7_2).f0, (rd_T36 y328 x7_2).f1⟩ : S36), (⟨0, 0⟩ : S36), wrap64 (1 + (Int.tmod x7_2 60)), 97⟩ : S38) ) (fun _ hk => hk); have hx27_0 := hcc27 0 _ rfl; (try simp only [show (k38).sz = 6 from rfl, Nat.mul_one, Nat.add_zero] at hx27_0); have hf27_0 := hfr27 0; (try simp only [show (k38).sz = 6 from rfl, Nat.mul_one, Nat.add_zero] at hf27_0); have hx27_1 := hcc27 1 _ rfl; (try simp only [show (k38).sz = 6 from rfl, Nat.mul_one, Nat.add_zero] at hx27_1); have hf27_1 := hfr27 1; (try simp only [show (k38).sz = 6 from rfl, Nat.mul_one, Nat.add_zero] at hf27_1); have hx27_2 := hcc27 2 _ rfl; (try simp only [show (k38).sz = 6 from rfl, Nat.mul_one, Nat.add_zero] at hx27_2); have hf27_2 := hfr27 2; (try simp only [show (k38).sz = 6 from rfl, Nat.mul_one, Nat.add_zero] at hf27_2); have hx27_3 := hcc27 3 _ rfl; (try simp only [show (k38).sz = 6 from rfl, Nat.mul_one, Nat.add_zero] at hx27_3); have hf27_3 := hfr27 3; (try simp only [show (k38).sz = 6 from rfl, Nat.mul_one, Nat.add_zero] at hf27_3); have hx27_4 := hcc27 4 _ rfl; (try simp only [show (k38).sz = 6 from rfl, Nat.mul_one, Nat.add_zero] at hx27_4); have hf27_4 := hfr27 4; (try simp only [show (k38).sz = 6 from rfl, Nat.mul_one, Nat.add_zero] at hf27_4); have hx27_5 := hcc27 5 _ rfl; (try simp only [show (k38).sz = 6 from rfl, Nat.mul_one, Nat.add_zero] at hx27_5); have hf27_5 := hfr27 5; (try simp only [show (k38).sz = 6 from rfl, Nat.mul_one, Nat.add_zero] at hf27_5); clear hcl27 hcc27 hfr27 hM27) | ((with_reducible refine gate_store (t := 38) (p := 56) rfl ?_); refine store_event (t := 38) (p := 56) (v := ?vo_w28) (w1 := ((((((w26.setCell ⟨go23, (x7_2 : Int).toNat * 6, none⟩ (.int .i64 ((rd_T36 y328 x7_2).f0))).setCell ⟨go23, (x7_2 : Int).toNat * 6 + 1, none⟩ (.int .i64 ((rd_T36 y328 x7_2).f1))).setCell ⟨go23, (x7_2 : Int).toNat * 6 + 2, none⟩ (.int .i64 0)).setCell ⟨go23, (x7_2 : Int).toNat * 6 + 3, none⟩ (.int .i64 0)).setCell ⟨go23, (x7_2 : Int).toNat * 6 + 4, none⟩ (.int .i64 (wrap64 (1 + (Int.tmod x7_2 60))))).setCell ⟨go23, (x7_2 : Int).toNat * 6 + 5, none⟩ (.int .i32 97))) ?hg ?ho ?hn ?hr ?_; (case ho => rfl); (case hg => rfl); (case hn => rfl); (case hr => first | (go_simp; done) | (go_simp; rfl)); intro w28 hw; have hg : w26.grownBy w28 (some go23) := (by rw [hw]; exact HP27.2); have hp_ : Kd.R k38 38 w28 w.heap.size (fun _ => True) (.slice (some ⟨go23, 0, none⟩) x5_2.length co23) y330 := (by rw [hw, Ny330.out]; exact HP27.1); clear HP27; have n0_ := Aside0.mk (hp_); have n1_ := Aside0.mk (Kd.R_over' (v := (.slice (some ⟨go23, 0, none⟩) x5_2.length co23)) (by (with_reducible repeat (first | apply Kd.R_alloc | apply Kd.R_drewN | apply Kd.R_drew)); exact HO_6.out) (Kd.R_typed HO_5.out) (by decide) hg); have n2_ := Aside0.mk ((by rw [hw]; exact below_set (below_set (below_set (below_set (below_set (below_set (HB.out) GB23.out) GB23.out) GB23.out) GB23.out) GB23.out) GB23.out : Below w.heap.size w w28)); clear HO_5; clear HO_6; clear HB; have HO_5 := n0_; have HO_6 := n1_; have HB := n2_; clear n0_ n1_ n2_; clear hg hw hp_))
             go_roundg k2
             case measure => have := HJ2.out; have := HK2.out; omega
             case rel => exact ⟨(y330), (y328), (wrap64 (x7_2 + 1)), (by first | rfl | (simp; done) | (simp [*]; done)), H', ⟨by have := HJ2.out; have := HK2.out; omega⟩, ⟨by (with_reducible repeat (first | apply Kd.R_alloc | apply Kd.R_drewN | apply Kd.R_drew)); exact HO_5.out⟩, ⟨by (with_reducible repeat (first | apply Kd.R_alloc | apply Kd.R_drewN | apply Kd.R_drew)); exact HO_6.out⟩, ⟨by repeat (first | (with_reducible first | exact HB.out | apply below_alloc | apply pw_below_drewN | apply below_drew1) | exact HB.out)⟩⟩
            ·
             rw [if_neg c22] at H
             exact absurd H (by simp)
           ·
            rw [if_neg c20] at H
            exact absurd H (by simp)
          ·
           rw [if_neg c19] at H
           exact absurd H (by simp)
         ·
          rw [if_neg c17] at H
          have c17b0 : decide (x7_2 < a0) = false := decide_eq_false c17
          clear c17
          replace H := Option.bind_eq_some_iff.mp H
          obtain ⟨⟨t331, t332⟩, A290, H⟩ := H
          replace H : ((canon_Encode.f x5_2).bind fun bt333 => ((canon_Context.f ([] : List (S36)) x6_2).bind fun bt337 => (if a0 > 65536 then (if t331 = 0 then (if t332 = 5 then (if (bt333.1.length : Int) = 0 then (if bt333.2 = 5 then (if (bt337.1.length : Int) = 0 then (if bt337.2 = 5 then ((redpencillaw17_known.f k2).bind fun t341 => (some t341)) else (some false)) else (some false)) else (some false)) else (some false)) else (some false)) else (some false)) else (if t331 = (wrap64 (6 + (wrap64 (5 * a0)))) then (if t332 = 0 then (if (bt333.1.length : Int) = t331 then (if bt333.2 = 0 then (if bt337.2 = 0 then (if (bt337.1.length : Int) > (wrap64 (3 * a0)) then ((redpencillaw17_known.f k2).bind fun t342 => (some t342)) else (some false)) else (some false)) else (some false)) else (some false)) else (some false)) else (some false))))) = some true := H
          have A29 := Aside0.mk A290
          clear A290
          replace H := Option.bind_eq_some_iff.mp H
          obtain ⟨⟨t333, t334⟩, A300, H⟩ := H
          replace H : ((canon_Context.f ([] : List (S36)) x6_2).bind fun bt337 => (if a0 > 65536 then (if t331 = 0 then (if t332 = 5 then (if (t333.length : Int) = 0 then (if t334 = 5 then (if (bt337.1.length : Int) = 0 then (if bt337.2 = 5 then ((redpencillaw17_known.f k2).bind fun t341 => (some t341)) else (some false)) else (some false)) else (some false)) else (some false)) else (some false)) else (some false)) else (if t331 = (wrap64 (6 + (wrap64 (5 * a0)))) then (if t332 = 0 then (if (t333.length : Int) = t331 then (if t334 = 0 then (if bt337.2 = 0 then (if (bt337.1.length : Int) > (wrap64 (3 * a0)) then ((redpencillaw17_known.f k2).bind fun t342 => (some t342)) else (some false)) else (some false)) else (some false)) else (some false)) else (some false)) else (some false)))) = some true := H
          have A30 := Aside0.mk A300
          clear A300
          replace H := Option.bind_eq_some_iff.mp H
          obtain ⟨⟨t337, t340⟩, A310, H⟩ := H
          replace H : (if a0 > 65536 then (if t331 = 0 then (if t332 = 5 then (if (t333.length : Int) = 0 then (if t334 = 5 then (if (t337.length : Int) = 0 then (if t340 = 5 then ((redpencillaw17_known.f k2).bind fun t341 => (some t341)) else (some false)) else (some false)) else (some false)) else (some false)) else (some false)) else (some false)) else (if t331 = (wrap64 (6 + (wrap64 (5 * a0)))) then (if t332 = 0 then (if (t333.length : Int) = t331 then (if t334 = 0 then (if t340 = 0 then (if (t337.length : Int) > (wrap64 (3 * a0)) then ((redpencillaw17_known.f k2).bind fun t342 => (some t342)) else (some false)) else (some false)) else (some false)) else (some false)) else (some false)) else (some false))) = some true := H
          have A31 := Aside0.mk A310
          clear A310
          by_cases c32 : a0 > 65536
          ·
           rw [if_pos c32] at H
           have c32b0 : decide (65536 < a0) = true := decide_eq_true c32
           clear c32
           by_cases c33 : t331 = 0
           ·
            rw [if_pos c33] at H
            have c33b0 : (t331 == 0) = true := beq_iff_eq.mpr c33
            have c33b1 : (t331 != 0) = false := bne_eq_false_iff_eq.mpr c33
            clear c33
            by_cases c34 : t332 = 5
            ·
             rw [if_pos c34] at H
             have c34b0 : (t332 == 5) = true := beq_iff_eq.mpr c34
             have c34b1 : (t332 != 5) = false := bne_eq_false_iff_eq.mpr c34
             clear c34
             by_cases c35 : (t333.length : Int) = 0
             ·
              rw [if_pos c35] at H
              have c35b0 : ((t333.length : Int) == 0) = true := beq_iff_eq.mpr c35
              have c35b1 : ((t333.length : Int) != 0) = false := bne_eq_false_iff_eq.mpr c35
              clear c35
              by_cases c36 : t334 = 5
              ·
               rw [if_pos c36] at H
               have c36b0 : (t334 == 5) = true := beq_iff_eq.mpr c36
               have c36b1 : (t334 != 5) = false := bne_eq_false_iff_eq.mpr c36
               clear c36
               by_cases c37 : (t337.length : Int) = 0
               ·
                rw [if_pos c37] at H
                have c37b0 : ((t337.length : Int) == 0) = true := beq_iff_eq.mpr c37
                have c37b1 : ((t337.length : Int) != 0) = false := bne_eq_false_iff_eq.mpr c37
                clear c37
                by_cases c38 : t340 = 5
                ·
                 rw [if_pos c38] at H
                 have c38b0 : (t340 == 5) = true := beq_iff_eq.mpr c38
                 have c38b1 : (t340 != 5) = false := bne_eq_false_iff_eq.mpr c38
                 clear c38
                 replace H := Option.bind_eq_some_iff.mp H
                 obtain ⟨t341, A390, H⟩ := H
                 replace H : (some t341) = some true := H
                 have A39 := Aside0.mk A390
                 clear A390
                 obtain rfl := Option.some.inj H
                 obtain ⟨Ao40, co40, eo40⟩ := Kd.R_slice HO_5.out
                 subst eo40
                 go_wp2_with (first | ((with_reducible refine gate_callee (f := 22) rfl ?_); refine goesL_ (some 59) rfl rfl Try.func22 (by kernel_rfl) rfl #[.slice Ao40 x5_2.length co40] rfl (by (try simp only [List.map_toArray, List.map_cons, List.map_nil]); first | done | rfl | (simp only [List.length_drop, List.length_take]; rfl)) ?_; (with_reducible refine (canon_Size.calls _ _ x5_2 t331 t332 _ ?side1 ?side2 A29.out).mono ?_); (case side1 => repeat (first | exact (Kd.R_reads' HO_5.out).2.2 | (with_reducible refine Kd.C_alloc ?_ _) | (with_reducible refine Kd.C_drewN ?_ _) | (with_reducible refine Kd.C_drew ?_))); (case side2 => exact (Kd.R_reads' HO_5.out).2.1); rintro e w41 ⟨rfl, hb⟩; refine ⟨_, rfl, ?_⟩; have n0_ := Aside0.mk (Kd.R_below (by (with_reducible repeat (first | apply Kd.R_alloc | apply Kd.R_drewN | apply Kd.R_drew)); exact HO_5.out) hb); have n1_ := Aside0.mk (Kd.R_below (by (with_reducible repeat (first | apply Kd.R_alloc | apply Kd.R_drewN | apply Kd.R_drew)); exact HO_6.out) hb); have n2_ := Aside0.mk (below_step (by repeat (first | (with_reducible first | exact HB.out | apply below_alloc | apply pw_below_drewN | apply below_drew1) | exact HB.out)) hb); clear HO_5; clear HO_6; clear HB; have HO_5 := n0_; have HO_6 := n1_; have HB := n2_; clear n0_ n1_ n2_; (try clear hb); (try clear hb2); (try clear hk); (try clear hi)) | ((with_reducible refine gate_callee (f := 23) rfl ?_); refine goesL_ (some 64) rfl rfl Try.func23 (by kernel_rfl) rfl #[.slice Ao40 x5_2.length co40] rfl (by (try simp only [List.map_toArray, List.map_cons, List.map_nil]); first | done | rfl | (simp only [List.length_drop, List.length_take]; rfl)) ?_; (with_reducible refine (canon_Encode.calls _ _ x5_2 t333 t334 _ ?side1 ?side2 A30.out).mono ?_); (case side1 => repeat (first | exact (Kd.R_reads' HO_5.out).2.2 | (with_reducible refine Kd.C_alloc ?_ _) | (with_reducible refine Kd.C_drewN ?_ _) | (with_reducible refine Kd.C_drew ?_))); (case side2 => exact (Kd.R_reads' HO_5.out).2.1); rintro e w42 ⟨v335, rfl, ho0, hb⟩; refine ⟨_, rfl, ?_⟩; have n0_ := Aside0.mk (Kd.R_below (by (with_reducible repeat (first | apply Kd.R_alloc | apply Kd.R_drewN | apply Kd.R_drew)); exact HO_5.out) hb); have n1_ := Aside0.mk (Kd.R_below (by (with_reducible repeat (first | apply Kd.R_alloc | apply Kd.R_drewN | apply Kd.R_drew)); exact HO_6.out) hb); have n2_ := Aside0.mk (Kd.R_lower ho0 (below_size (by repeat (first | (with_reducible first | exact HB.out | apply below_alloc | apply pw_below_drewN | apply below_drew1) | exact HB.out)))); have n3_ := Aside0.mk (below_step (by repeat (first | (with_reducible first | exact HB.out | apply below_alloc | apply pw_below_drewN | apply below_drew1) | exact HB.out)) hb); clear HO_5; clear HO_6; clear HB; have HO_5 := n0_; have HO_6 := n1_; have HO336 := n2_; have HB := n3_; clear n0_ n1_ n2_ n3_; (try clear hb); (try clear hb2); (try clear hk); (try clear hi); (try clear ho0); obtain ⟨Ao43, co43, eo43⟩ := Kd.R_slice HO_6.out; subst eo43) | ((with_reducible refine gate_callee (f := 24) rfl ?_); refine goesL_ (some 70) rfl rfl Try.func24 (by kernel_rfl) rfl #[.agg #[.slice none 0 0, .slice Ao43 x6_2.length co43]] rfl (by (try simp only [List.map_toArray, List.map_cons, List.map_nil]); first | done | rfl | (simp only [List.length_drop, List.length_take]; rfl)) ?_; (refine (canon_Context.calls _ _ ([] : List (S36)) _ _ x6_2 t337 t340 _ ?side1 ?side2 ?side3 ?side4 A31.out).mono ?_); (case side1 => exact Kd.C_nil _ _); (case side2 => exact Nat.le_refl _); (case side3 => repeat (first | exact (Kd.R_reads' HO_6.out).2.2 | (with_reducible refine Kd.C_alloc ?_ _) | (with_reducible refine Kd.C_drewN ?_ _) | (with_reducible refine Kd.C_drew ?_))); (case side4 => exact (Kd.R_reads' HO_6.out).2.1); rintro e w44 ⟨v338, rfl, ho0, hb⟩; refine ⟨_, rfl, ?_⟩; have n0_ := Aside0.mk (Kd.R_below (by (with_reducible repeat (first | apply Kd.R_alloc | apply Kd.R_drewN | apply Kd.R_drew)); exact HO_5.out) hb); have n1_ := Aside0.mk (Kd.R_below (by (with_reducible repeat (first | apply Kd.R_alloc | apply Kd.R_drewN | apply Kd.R_drew)); exact HO_6.out) hb); have n2_ := Aside0.mk (Kd.R_elder' (by (with_reducible repeat (first | apply Kd.R_alloc | apply Kd.R_drewN | apply Kd.R_drew)); exact HO336.out) (Kd.R_base ho0) hb); have n3_ := Aside0.mk (Kd.R_lower (Kd.R_new' ho0 (Kd.R_lt (by (with_reducible repeat (first | apply Kd.R_alloc | apply Kd.R_drewN | apply Kd.R_drew)); exact HO336.out))) (below_size (by repeat (first | (with_reducible first | exact HB.out | apply below_alloc | apply pw_below_drewN | apply below_drew1) | exact HB.out)))); have n4_ := Aside0.mk (below_step (by repeat (first | (with_reducible first | exact HB.out | apply below_alloc | apply pw_below_drewN | apply below_drew1) | exact HB.out)) hb); clear HO_5; clear HO_6; clear HO336; clear HB; have HO_5 := n0_; have HO_6 := n1_; have HO336 := n2_; have HO339 := n3_; have HB := n4_; clear n0_ n1_ n2_ n3_ n4_; (try clear hb); (try clear hb2); (try clear hk); (try clear hi); (try clear ho0); obtain ⟨Ao45, co45, eo45⟩ := Kd.R_slice HO336.out; subst eo45; obtain ⟨Ao46, co46, eo46⟩ := Kd.R_slice HO339.out; subst eo46) | (go_at_call 8; (with_reducible refine (redpencillaw17_known.calls k2  true _ A39.out).mono ?_); rintro e w47 ⟨rfl, hb⟩; have n0_ := Aside0.mk (Kd.R_below (by (with_reducible repeat (first | apply Kd.R_alloc | apply Kd.R_drewN | apply Kd.R_drew)); exact HO_5.out) hb); have n1_ := Aside0.mk (Kd.R_below (by (with_reducible repeat (first | apply Kd.R_alloc | apply Kd.R_drewN | apply Kd.R_drew)); exact HO_6.out) hb); have n2_ := Aside0.mk (Kd.R_below (by (with_reducible repeat (first | apply Kd.R_alloc | apply Kd.R_drewN | apply Kd.R_drew)); exact HO336.out) hb); have n3_ := Aside0.mk (Kd.R_below (by (with_reducible repeat (first | apply Kd.R_alloc | apply Kd.R_drewN | apply Kd.R_drew)); exact HO339.out) hb); have n4_ := Aside0.mk (below_step (by repeat (first | (with_reducible first | exact HB.out | apply below_alloc | apply pw_below_drewN | apply below_drew1) | exact HB.out)) hb); clear HO_5; clear HO_6; clear HO336; clear HO339; clear HB; have HO_5 := n0_; have HO_6 := n1_; have HO336 := n2_; have HO339 := n3_; have HB := n4_; clear n0_ n1_ n2_ n3_ n4_; (try clear hb); (try clear hb2); (try clear hk); (try clear hi)))
                 go_ret
                 exact ⟨by first | rfl | (simp [errW_none, errW_some] <;> rfl) | (simp [*, errW_none, errW_some] <;> rfl), by repeat (first | (with_reducible first | exact HB.out | apply below_alloc | apply pw_below_drewN | apply below_drew1) | exact HB.out)⟩
                ·
                 rw [if_neg c38] at H
                 exact absurd H (by simp)
               ·
                rw [if_neg c37] at H
                exact absurd H (by simp)
              ·
               rw [if_neg c36] at H
               exact absurd H (by simp)
             ·
              rw [if_neg c35] at H
              exact absurd H (by simp)
            ·
             rw [if_neg c34] at H
             exact absurd H (by simp)
           ·
            rw [if_neg c33] at H
            exact absurd H (by simp)
          ·
           rw [if_neg c32] at H
           have c32b0 : decide (65536 < a0) = false := decide_eq_false c32
           clear c32
           by_cases c84 : t331 = (wrap64 (6 + (wrap64 (5 * a0))))
           ·
            rw [if_pos c84] at H
            have c84b0 : (t331 == (wrap64 (6 + (wrap64 (5 * a0))))) = true := beq_iff_eq.mpr c84
            have c84b1 : (t331 != (wrap64 (6 + (wrap64 (5 * a0))))) = false := bne_eq_false_iff_eq.mpr c84
            clear c84
            by_cases c85 : t332 = 0
            ·
             rw [if_pos c85] at H
             have c85b0 : (t332 == 0) = true := beq_iff_eq.mpr c85
             have c85b1 : (t332 != 0) = false := bne_eq_false_iff_eq.mpr c85
             clear c85
             by_cases c86 : (t333.length : Int) = t331
             ·
              rw [if_pos c86] at H
              have c86b0 : ((t333.length : Int) == t331) = true := beq_iff_eq.mpr c86
              have c86b1 : ((t333.length : Int) != t331) = false := bne_eq_false_iff_eq.mpr c86
              clear c86
              by_cases c87 : t334 = 0
              ·
               rw [if_pos c87] at H
               have c87b0 : (t334 == 0) = true := beq_iff_eq.mpr c87
               have c87b1 : (t334 != 0) = false := bne_eq_false_iff_eq.mpr c87
               clear c87
               by_cases c88 : t340 = 0
               ·
                rw [if_pos c88] at H
                have c88b0 : (t340 == 0) = true := beq_iff_eq.mpr c88
                have c88b1 : (t340 != 0) = false := bne_eq_false_iff_eq.mpr c88
                clear c88
                by_cases c89 : (t337.length : Int) > (wrap64 (3 * a0))
                ·
                 rw [if_pos c89] at H
                 have c89b0 : decide ((wrap64 (3 * a0)) < (t337.length : Int)) = true := decide_eq_true c89
                 clear c89
                 replace H := Option.bind_eq_some_iff.mp H
                 obtain ⟨t342, A900, H⟩ := H
                 replace H : (some t342) = some true := H
                 have A90 := Aside0.mk A900
                 clear A900
                 obtain rfl := Option.some.inj H
                 obtain ⟨Ao91, co91, eo91⟩ := Kd.R_slice HO_5.out
                 subst eo91
                 go_wp2_with (first | ((with_reducible refine gate_callee (f := 22) rfl ?_); refine goesL_ (some 59) rfl rfl Try.func22 (by kernel_rfl) rfl #[.slice Ao91 x5_2.length co91] rfl (by (try simp only [List.map_toArray, List.map_cons, List.map_nil]); first | done | rfl | (simp only [List.length_drop, List.length_take]; rfl)) ?_; (with_reducible refine (canon_Size.calls _ _ x5_2 t331 t332 _ ?side1 ?side2 A29.out).mono ?_); (case side1 => repeat (first | exact (Kd.R_reads' HO_5.out).2.2 | (with_reducible refine Kd.C_alloc ?_ _) | (with_reducible refine Kd.C_drewN ?_ _) | (with_reducible refine Kd.C_drew ?_))); (case side2 => exact (Kd.R_reads' HO_5.out).2.1); rintro e w92 ⟨rfl, hb⟩; refine ⟨_, rfl, ?_⟩; have n0_ := Aside0.mk (Kd.R_below (by (with_reducible repeat (first | apply Kd.R_alloc | apply Kd.R_drewN | apply Kd.R_drew)); exact HO_5.out) hb); have n1_ := Aside0.mk (Kd.R_below (by (with_reducible repeat (first | apply Kd.R_alloc | apply Kd.R_drewN | apply Kd.R_drew)); exact HO_6.out) hb); have n2_ := Aside0.mk (below_step (by repeat (first | (with_reducible first | exact HB.out | apply below_alloc | apply pw_below_drewN | apply below_drew1) | exact HB.out)) hb); clear HO_5; clear HO_6; clear HB; have HO_5 := n0_; have HO_6 := n1_; have HB := n2_; clear n0_ n1_ n2_; (try clear hb); (try clear hb2); (try clear hk); (try clear hi)) | ((with_reducible refine gate_callee (f := 23) rfl ?_); refine goesL_ (some 64) rfl rfl Try.func23 (by kernel_rfl) rfl #[.slice Ao91 x5_2.length co91] rfl (by (try simp only [List.map_toArray, List.map_cons, List.map_nil]); first | done | rfl | (simp only [List.length_drop, List.length_take]; rfl)) ?_; (with_reducible refine (canon_Encode.calls _ _ x5_2 t333 t334 _ ?side1 ?side2 A30.out).mono ?_); (case side1 => repeat (first | exact (Kd.R_reads' HO_5.out).2.2 | (with_reducible refine Kd.C_alloc ?_ _) | (with_reducible refine Kd.C_drewN ?_ _) | (with_reducible refine Kd.C_drew ?_))); (case side2 => exact (Kd.R_reads' HO_5.out).2.1); rintro e w93 ⟨v335, rfl, ho0, hb⟩; refine ⟨_, rfl, ?_⟩; have n0_ := Aside0.mk (Kd.R_below (by (with_reducible repeat (first | apply Kd.R_alloc | apply Kd.R_drewN | apply Kd.R_drew)); exact HO_5.out) hb); have n1_ := Aside0.mk (Kd.R_below (by (with_reducible repeat (first | apply Kd.R_alloc | apply Kd.R_drewN | apply Kd.R_drew)); exact HO_6.out) hb); have n2_ := Aside0.mk (Kd.R_lower ho0 (below_size (by repeat (first | (with_reducible first | exact HB.out | apply below_alloc | apply pw_below_drewN | apply below_drew1) | exact HB.out)))); have n3_ := Aside0.mk (below_step (by repeat (first | (with_reducible first | exact HB.out | apply below_alloc | apply pw_below_drewN | apply below_drew1) | exact HB.out)) hb); clear HO_5; clear HO_6; clear HB; have HO_5 := n0_; have HO_6 := n1_; have HO336 := n2_; have HB := n3_; clear n0_ n1_ n2_ n3_; (try clear hb); (try clear hb2); (try clear hk); (try clear hi); (try clear ho0); obtain ⟨Ao94, co94, eo94⟩ := Kd.R_slice HO_6.out; subst eo94) | ((with_reducible refine gate_callee (f := 24) rfl ?_); refine goesL_ (some 70) rfl rfl Try.func24 (by kernel_rfl) rfl #[.agg #[.slice none 0 0, .slice Ao94 x6_2.length co94]] rfl (by (try simp only [List.map_toArray, List.map_cons, List.map_nil]); first | done | rfl | (simp only [List.length_drop, List.length_take]; rfl)) ?_; (refine (canon_Context.calls _ _ ([] : List (S36)) _ _ x6_2 t337 t340 _ ?side1 ?side2 ?side3 ?side4 A31.out).mono ?_); (case side1 => exact Kd.C_nil _ _); (case side2 => exact Nat.le_refl _); (case side3 => repeat (first | exact (Kd.R_reads' HO_6.out).2.2 | (with_reducible refine Kd.C_alloc ?_ _) | (with_reducible refine Kd.C_drewN ?_ _) | (with_reducible refine Kd.C_drew ?_))); (case side4 => exact (Kd.R_reads' HO_6.out).2.1); rintro e w95 ⟨v338, rfl, ho0, hb⟩; refine ⟨_, rfl, ?_⟩; have n0_ := Aside0.mk (Kd.R_below (by (with_reducible repeat (first | apply Kd.R_alloc | apply Kd.R_drewN | apply Kd.R_drew)); exact HO_5.out) hb); have n1_ := Aside0.mk (Kd.R_below (by (with_reducible repeat (first | apply Kd.R_alloc | apply Kd.R_drewN | apply Kd.R_drew)); exact HO_6.out) hb); have n2_ := Aside0.mk (Kd.R_elder' (by (with_reducible repeat (first | apply Kd.R_alloc | apply Kd.R_drewN | apply Kd.R_drew)); exact HO336.out) (Kd.R_base ho0) hb); have n3_ := Aside0.mk (Kd.R_lower (Kd.R_new' ho0 (Kd.R_lt (by (with_reducible repeat (first | apply Kd.R_alloc | apply Kd.R_drewN | apply Kd.R_drew)); exact HO336.out))) (below_size (by repeat (first | (with_reducible first | exact HB.out | apply below_alloc | apply pw_below_drewN | apply below_drew1) | exact HB.out)))); have n4_ := Aside0.mk (below_step (by repeat (first | (with_reducible first | exact HB.out | apply below_alloc | apply pw_below_drewN | apply below_drew1) | exact HB.out)) hb); clear HO_5; clear HO_6; clear HO336; clear HB; have HO_5 := n0_; have HO_6 := n1_; have HO336 := n2_; have HO339 := n3_; have HB := n4_; clear n0_ n1_ n2_ n3_ n4_; (try clear hb); (try clear hb2); (try clear hk); (try clear hi); (try clear ho0); obtain ⟨Ao96, co96, eo96⟩ := Kd.R_slice HO336.out; subst eo96; obtain ⟨Ao97, co97, eo97⟩ := Kd.R_slice HO339.out; subst eo97) | (go_at_call 8; (with_reducible refine (redpencillaw17_known.calls k2  true _ A90.out).mono ?_); rintro e w98 ⟨rfl, hb⟩; have n0_ := Aside0.mk (Kd.R_below (by (with_reducible repeat (first | apply Kd.R_alloc | apply Kd.R_drewN | apply Kd.R_drew)); exact HO_5.out) hb); have n1_ := Aside0.mk (Kd.R_below (by (with_reducible repeat (first | apply Kd.R_alloc | apply Kd.R_drewN | apply Kd.R_drew)); exact HO_6.out) hb); have n2_ := Aside0.mk (Kd.R_below (by (with_reducible repeat (first | apply Kd.R_alloc | apply Kd.R_drewN | apply Kd.R_drew)); exact HO336.out) hb); have n3_ := Aside0.mk (Kd.R_below (by (with_reducible repeat (first | apply Kd.R_alloc | apply Kd.R_drewN | apply Kd.R_drew)); exact HO339.out) hb); have n4_ := Aside0.mk (below_step (by repeat (first | (with_reducible first | exact HB.out | apply below_alloc | apply pw_below_drewN | apply below_drew1) | exact HB.out)) hb); clear HO_5; clear HO_6; clear HO336; clear HO339; clear HB; have HO_5 := n0_; have HO_6 := n1_; have HO336 := n2_; have HO339 := n3_; have HB := n4_; clear n0_ n1_ n2_ n3_ n4_; (try clear hb); (try clear hb2); (try clear hk); (try clear hi)))
                 go_ret
                 exact ⟨by first | rfl | (simp [errW_none, errW_some] <;> rfl) | (simp [*, errW_none, errW_some] <;> rfl), by repeat (first | (with_reducible first | exact HB.out | apply below_alloc | apply pw_below_drewN | apply below_drew1) | exact HB.out)⟩
                ·
                 rw [if_neg c89] at H
                 exact absurd H (by simp)
               ·
                rw [if_neg c88] at H
                exact absurd H (by simp)
              ·
               rw [if_neg c87] at H
               exact absurd H (by simp)
             ·
              rw [if_neg c86] at H
              exact absurd H (by simp)
            ·
             rw [if_neg c85] at H
             exact absurd H (by simp)
           ·
            rw [if_neg c84] at H
            exact absurd H (by simp)
      ·
       rw [if_neg c12] at H
       exact absurd H (by simp)
     ·
      rw [if_neg c11] at H
      exact absurd H (by simp)
    ·
     rw [if_neg c10] at H
     exact absurd H (by simp)

end Go.Proofs.Ytfbjbajbjlcjfaa.PCanonStates
