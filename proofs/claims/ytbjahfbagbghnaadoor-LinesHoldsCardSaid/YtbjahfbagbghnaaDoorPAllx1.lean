-- Printed by a program of this session (wip/tools/mkprint2.py) out of the translation; Lean checks it. -- narrowed
import Derived.Test.YtbjahfbagbghnaaDoorPAllx0
namespace Go.Proofs.YtbjahfbagbghnaaDoor.PAll
open Go.RowKit Go.Proofs.YtbjahfbagbghnaaDoorW.PrintWords Go.Proofs.YtbjahfbagbghnaaDoorW.PrintLast Go.Proofs.YtbjahfbagbghnaaDoorW.PrintMore
attribute [local go_sem] max2_int min2_int max_two min_two max_three min_three max_four min_four   -- for this text's walks alone
set_option linter.unusedVariables false
set_option linter.unusedSimpArgs false

/-! ### lines_end: function 38 -/
def lines_end.f (l0 : List Int) (l1 : List Int) (a2 : Int) : Option (Int) := if (wrap64 (a2 + 1)) < (l1.length : Int) then (if 0 ≤ (wrap64 (a2 + 1)) then (some (wrap64 ((rd l1 (wrap64 (a2 + 1))) - 1))) else (none)) else (some (l0.length : Int))
set_option maxHeartbeats 8000000 in
set_option maxRecDepth 100000 in
theorem lines_end.calls (A0 : Option Addr) (c0 : Nat) (l0 : List Int) (A1 : Option Addr) (c1 : Nat) (l1 : List Int) (a2 : Int) (r : Int) (w : World) (hr0 : Kd.C (Kd.int .i32) w A0 l0.length l0) (hc0 : l0.length ≤ c0) (hr1 : Kd.C (Kd.int .i64) w A1 l1.length l1) (hc1 : l1.length ≤ c1) (h : lines_end.f l0 l1 a2 = some r) :
  Calls Tryd.prog 38 #[.slice A0 l0.length c0, .slice A1 l1.length c1, .int .i64 a2] w fun e w' => e = .returned (.int .i64 r) ∧ Drawn0 w w' := by
 have HR0 := Aside0.mk hr0
 have HC0 := Aside0.mk hc0
 clear hr0 hc0
 have HR1 := Aside0.mk hr1
 have HC1 := Aside0.mk hc1
 clear hr1 hc1
 have H : (if (wrap64 (a2 + 1)) < (l1.length : Int) then (if 0 ≤ (wrap64 (a2 + 1)) then (some (wrap64 ((rd l1 (wrap64 (a2 + 1))) - 1))) else (none)) else (some (l0.length : Int))) = some r := h
 clear h
 by_cases c4 : (wrap64 (a2 + 1)) < (l1.length : Int)
 ·
  rw [if_pos c4] at H
  have c4b0 : decide ((wrap64 (a2 + 1)) < (l1.length : Int)) = true := decide_eq_true c4
  clear c4
  obtain ⟨ji5, hji5⟩ : ∃ j_ : Int, (wrap64 (a2 + 1)) = j_ := ⟨_, rfl⟩
  replace H : (if 0 ≤ (ji5) then (some (wrap64 ((rd l1 (ji5)) - 1))) else (none)) = some r := by first | (rw [hji5] at H; exact H) | (simp only [hji5] at H ⊢; exact H)
  (try rw [hji5] at c4b0)
  have hji5w : (IntKind.i64.wrap (a2 + 1)) = ji5 := (i64_w _).trans hji5
  by_cases c6 : 0 ≤ (ji5)
  ·
   rw [if_pos c6] at H
   have c6b0 : decide (0 ≤ (ji5)) = true := decide_eq_true c6
   clear c6
   obtain rfl := Option.some.inj H
   have p121 : 0 ≤ ((ji5) : Int) := of_decide_eq_true (by first | (with_reducible assumption) | assumption)
   have q121 : (ji5) < (l1.length : Int) := of_decide_eq_true (by first | (with_reducible assumption) | assumption)
   obtain ⟨ad121, e121, hx121_0⟩ := Kd.at_int HR1.out (ji5) p121 q121
   cases e121
   replace p121 := eq_true p121
   replace q121 := eq_true q121
   go_enter Tryd.func38, Tryd.ntmps38
   go_wp2
   go_ret
   exact ⟨by first | rfl | (simp; done) | (simp only [← hji5] <;> (first | rfl | simp)) | (simp [*]; done), by repeat (first | exact Drawn0.refl _ | apply Drawn0.step)⟩
  ·
   rw [if_neg c6] at H
   exact absurd H (by simp)
 ·
  rw [if_neg c4] at H
  have c4b0 : decide ((wrap64 (a2 + 1)) < (l1.length : Int)) = false := decide_eq_false c4
  clear c4
  obtain rfl := Option.some.inj H
  go_enter Tryd.func38, Tryd.ntmps38
  go_wp2
  go_ret
  exact ⟨by first | rfl | (simp; done) | (simp [*]; done), by repeat (first | exact Drawn0.refl _ | apply Drawn0.step)⟩

/-! ### lines_word: function 48 -/
def lines_word.f (a0 : Int) : Option (Bool) := if a0 ≥ 97 then (if a0 ≤ 122 then (some true) else (if a0 ≥ 65 then (if a0 ≤ 90 then (some true) else (if a0 ≥ 48 then (if a0 ≤ 57 then (some true) else (if a0 = 95 then (some true) else (some (decide (a0 > 127))))) else (if a0 = 95 then (some true) else (some (decide (a0 > 127)))))) else (if a0 ≥ 48 then (if a0 ≤ 57 then (some true) else (if a0 = 95 then (some true) else (some (decide (a0 > 127))))) else (if a0 = 95 then (some true) else (some (decide (a0 > 127))))))) else (if a0 ≥ 65 then (if a0 ≤ 90 then (some true) else (if a0 ≥ 48 then (if a0 ≤ 57 then (some true) else (if a0 = 95 then (some true) else (some (decide (a0 > 127))))) else (if a0 = 95 then (some true) else (some (decide (a0 > 127)))))) else (if a0 ≥ 48 then (if a0 ≤ 57 then (some true) else (if a0 = 95 then (some true) else (some (decide (a0 > 127))))) else (if a0 = 95 then (some true) else (some (decide (a0 > 127))))))
set_option maxHeartbeats 8000000 in
set_option maxRecDepth 100000 in
theorem lines_word.calls (a0 : Int) (r : Bool) (w : World) (h : lines_word.f a0 = some r) :
  Calls Tryd.prog 48 #[.int .i32 a0] w fun e w' => e = .returned (.bool r) ∧ Drawn0 w w' := by
 have H : (if a0 ≥ 97 then (if a0 ≤ 122 then (some true) else (if a0 ≥ 65 then (if a0 ≤ 90 then (some true) else (if a0 ≥ 48 then (if a0 ≤ 57 then (some true) else (if a0 = 95 then (some true) else (some (decide (a0 > 127))))) else (if a0 = 95 then (some true) else (some (decide (a0 > 127)))))) else (if a0 ≥ 48 then (if a0 ≤ 57 then (some true) else (if a0 = 95 then (some true) else (some (decide (a0 > 127))))) else (if a0 = 95 then (some true) else (some (decide (a0 > 127))))))) else (if a0 ≥ 65 then (if a0 ≤ 90 then (some true) else (if a0 ≥ 48 then (if a0 ≤ 57 then (some true) else (if a0 = 95 then (some true) else (some (decide (a0 > 127))))) else (if a0 = 95 then (some true) else (some (decide (a0 > 127)))))) else (if a0 ≥ 48 then (if a0 ≤ 57 then (some true) else (if a0 = 95 then (some true) else (some (decide (a0 > 127))))) else (if a0 = 95 then (some true) else (some (decide (a0 > 127))))))) = some r := h
 clear h
 by_cases c2 : a0 ≥ 97
 ·
  rw [if_pos c2] at H
  have c2b0 : decide (97 ≤ a0) = true := decide_eq_true c2
  clear c2
  by_cases c3 : a0 ≤ 122
  ·
   rw [if_pos c3] at H
   have c3b0 : decide (a0 ≤ 122) = true := decide_eq_true c3
   clear c3
   obtain rfl := Option.some.inj H
   go_enter Tryd.func48, Tryd.ntmps48
   go_wp2
   go_ret
   exact ⟨by first | rfl | (simp; done) | (simp [*]; done), by repeat (first | exact Drawn0.refl _ | apply Drawn0.step)⟩
  ·
   rw [if_neg c3] at H
   have c3b0 : decide (a0 ≤ 122) = false := decide_eq_false c3
   clear c3
   by_cases c4 : a0 ≥ 65
   ·
    rw [if_pos c4] at H
    have c4b0 : decide (65 ≤ a0) = true := decide_eq_true c4
    clear c4
    by_cases c5 : a0 ≤ 90
    ·
     rw [if_pos c5] at H
     have c5b0 : decide (a0 ≤ 90) = true := decide_eq_true c5
     clear c5
     obtain rfl := Option.some.inj H
     go_enter Tryd.func48, Tryd.ntmps48
     go_wp2
     go_ret
     exact ⟨by first | rfl | (simp; done) | (simp [*]; done), by repeat (first | exact Drawn0.refl _ | apply Drawn0.step)⟩
    ·
     rw [if_neg c5] at H
     have c5b0 : decide (a0 ≤ 90) = false := decide_eq_false c5
     clear c5
     by_cases c6 : a0 ≥ 48
     ·
      rw [if_pos c6] at H
      have c6b0 : decide (48 ≤ a0) = true := decide_eq_true c6
      clear c6
      by_cases c7 : a0 ≤ 57
      ·
       rw [if_pos c7] at H
       have c7b0 : decide (a0 ≤ 57) = true := decide_eq_true c7
       clear c7
       obtain rfl := Option.some.inj H
       go_enter Tryd.func48, Tryd.ntmps48
       go_wp2
       go_ret
       exact ⟨by first | rfl | (simp; done) | (simp [*]; done), by repeat (first | exact Drawn0.refl _ | apply Drawn0.step)⟩
      ·
       rw [if_neg c7] at H
       have c7b0 : decide (a0 ≤ 57) = false := decide_eq_false c7
       clear c7
       by_cases c8 : a0 = 95
       ·
        rw [if_pos c8] at H
        have c8b0 : (a0 == 95) = true := beq_iff_eq.mpr c8
        have c8b1 : (a0 != 95) = false := bne_eq_false_iff_eq.mpr c8
        clear c8
        obtain rfl := Option.some.inj H
        go_enter Tryd.func48, Tryd.ntmps48
        go_wp2
        go_ret
        exact ⟨by first | rfl | (simp; done) | (simp [*]; done), by repeat (first | exact Drawn0.refl _ | apply Drawn0.step)⟩
       ·
        rw [if_neg c8] at H
        have c8b0 : (a0 == 95) = false := beq_eq_false_iff_ne.mpr c8
        have c8b1 : (a0 != 95) = true := bne_iff_ne.mpr c8
        obtain rfl := Option.some.inj H
        go_enter Tryd.func48, Tryd.ntmps48
        go_wp2
        go_ret
        exact ⟨by first | rfl | (simp; done) | (simp [*]; done), by repeat (first | exact Drawn0.refl _ | apply Drawn0.step)⟩
     ·
      rw [if_neg c6] at H
      have c6b0 : decide (48 ≤ a0) = false := decide_eq_false c6
      clear c6
      by_cases c9 : a0 = 95
      ·
       rw [if_pos c9] at H
       have c9b0 : (a0 == 95) = true := beq_iff_eq.mpr c9
       have c9b1 : (a0 != 95) = false := bne_eq_false_iff_eq.mpr c9
       clear c9
       obtain rfl := Option.some.inj H
       go_enter Tryd.func48, Tryd.ntmps48
       go_wp2
       go_ret
       exact ⟨by first | rfl | (simp; done) | (simp [*]; done), by repeat (first | exact Drawn0.refl _ | apply Drawn0.step)⟩
      ·
       rw [if_neg c9] at H
       have c9b0 : (a0 == 95) = false := beq_eq_false_iff_ne.mpr c9
       have c9b1 : (a0 != 95) = true := bne_iff_ne.mpr c9
       obtain rfl := Option.some.inj H
       go_enter Tryd.func48, Tryd.ntmps48
       go_wp2
       go_ret
       exact ⟨by first | rfl | (simp; done) | (simp [*]; done), by repeat (first | exact Drawn0.refl _ | apply Drawn0.step)⟩
   ·
    rw [if_neg c4] at H
    have c4b0 : decide (65 ≤ a0) = false := decide_eq_false c4
    clear c4
    by_cases c10 : a0 ≥ 48
    ·
     rw [if_pos c10] at H
     have c10b0 : decide (48 ≤ a0) = true := decide_eq_true c10
     clear c10
     by_cases c11 : a0 ≤ 57
     ·
      rw [if_pos c11] at H
      have c11b0 : decide (a0 ≤ 57) = true := decide_eq_true c11
      clear c11
      obtain rfl := Option.some.inj H
      go_enter Tryd.func48, Tryd.ntmps48
      go_wp2
      go_ret
      exact ⟨by first | rfl | (simp; done) | (simp [*]; done), by repeat (first | exact Drawn0.refl _ | apply Drawn0.step)⟩
     ·
      rw [if_neg c11] at H
      have c11b0 : decide (a0 ≤ 57) = false := decide_eq_false c11
      clear c11
      by_cases c12 : a0 = 95
      ·
       rw [if_pos c12] at H
       have c12b0 : (a0 == 95) = true := beq_iff_eq.mpr c12
       have c12b1 : (a0 != 95) = false := bne_eq_false_iff_eq.mpr c12
       clear c12
       obtain rfl := Option.some.inj H
       go_enter Tryd.func48, Tryd.ntmps48
       go_wp2
       go_ret
       exact ⟨by first | rfl | (simp; done) | (simp [*]; done), by repeat (first | exact Drawn0.refl _ | apply Drawn0.step)⟩
      ·
       rw [if_neg c12] at H
       have c12b0 : (a0 == 95) = false := beq_eq_false_iff_ne.mpr c12
       have c12b1 : (a0 != 95) = true := bne_iff_ne.mpr c12
       obtain rfl := Option.some.inj H
       go_enter Tryd.func48, Tryd.ntmps48
       go_wp2
       go_ret
       exact ⟨by first | rfl | (simp; done) | (simp [*]; done), by repeat (first | exact Drawn0.refl _ | apply Drawn0.step)⟩
    ·
     rw [if_neg c10] at H
     have c10b0 : decide (48 ≤ a0) = false := decide_eq_false c10
     clear c10
     by_cases c13 : a0 = 95
     ·
      rw [if_pos c13] at H
      have c13b0 : (a0 == 95) = true := beq_iff_eq.mpr c13
      have c13b1 : (a0 != 95) = false := bne_eq_false_iff_eq.mpr c13
      clear c13
      obtain rfl := Option.some.inj H
      go_enter Tryd.func48, Tryd.ntmps48
      go_wp2
      go_ret
      exact ⟨by first | rfl | (simp; done) | (simp [*]; done), by repeat (first | exact Drawn0.refl _ | apply Drawn0.step)⟩
     ·
      rw [if_neg c13] at H
      have c13b0 : (a0 == 95) = false := beq_eq_false_iff_ne.mpr c13
      have c13b1 : (a0 != 95) = true := bne_iff_ne.mpr c13
      obtain rfl := Option.some.inj H
      go_enter Tryd.func48, Tryd.ntmps48
      go_wp2
      go_ret
      exact ⟨by first | rfl | (simp; done) | (simp [*]; done), by repeat (first | exact Drawn0.refl _ | apply Drawn0.step)⟩
 ·
  rw [if_neg c2] at H
  have c2b0 : decide (97 ≤ a0) = false := decide_eq_false c2
  clear c2
  by_cases c14 : a0 ≥ 65
  ·
   rw [if_pos c14] at H
   have c14b0 : decide (65 ≤ a0) = true := decide_eq_true c14
   clear c14
   by_cases c15 : a0 ≤ 90
   ·
    rw [if_pos c15] at H
    have c15b0 : decide (a0 ≤ 90) = true := decide_eq_true c15
    clear c15
    obtain rfl := Option.some.inj H
    go_enter Tryd.func48, Tryd.ntmps48
    go_wp2
    go_ret
    exact ⟨by first | rfl | (simp; done) | (simp [*]; done), by repeat (first | exact Drawn0.refl _ | apply Drawn0.step)⟩
   ·
    rw [if_neg c15] at H
    have c15b0 : decide (a0 ≤ 90) = false := decide_eq_false c15
    clear c15
    by_cases c16 : a0 ≥ 48
    ·
     rw [if_pos c16] at H
     have c16b0 : decide (48 ≤ a0) = true := decide_eq_true c16
     clear c16
     by_cases c17 : a0 ≤ 57
     ·
      rw [if_pos c17] at H
      have c17b0 : decide (a0 ≤ 57) = true := decide_eq_true c17
      clear c17
      obtain rfl := Option.some.inj H
      go_enter Tryd.func48, Tryd.ntmps48
      go_wp2
      go_ret
      exact ⟨by first | rfl | (simp; done) | (simp [*]; done), by repeat (first | exact Drawn0.refl _ | apply Drawn0.step)⟩
     ·
      rw [if_neg c17] at H
      have c17b0 : decide (a0 ≤ 57) = false := decide_eq_false c17
      clear c17
      by_cases c18 : a0 = 95
      ·
       rw [if_pos c18] at H
       have c18b0 : (a0 == 95) = true := beq_iff_eq.mpr c18
       have c18b1 : (a0 != 95) = false := bne_eq_false_iff_eq.mpr c18
       clear c18
       obtain rfl := Option.some.inj H
       go_enter Tryd.func48, Tryd.ntmps48
       go_wp2
       go_ret
       exact ⟨by first | rfl | (simp; done) | (simp [*]; done), by repeat (first | exact Drawn0.refl _ | apply Drawn0.step)⟩
      ·
       rw [if_neg c18] at H
       have c18b0 : (a0 == 95) = false := beq_eq_false_iff_ne.mpr c18
       have c18b1 : (a0 != 95) = true := bne_iff_ne.mpr c18
       obtain rfl := Option.some.inj H
       go_enter Tryd.func48, Tryd.ntmps48
       go_wp2
       go_ret
       exact ⟨by first | rfl | (simp; done) | (simp [*]; done), by repeat (first | exact Drawn0.refl _ | apply Drawn0.step)⟩
    ·
     rw [if_neg c16] at H
     have c16b0 : decide (48 ≤ a0) = false := decide_eq_false c16
     clear c16
     by_cases c19 : a0 = 95
     ·
      rw [if_pos c19] at H
      have c19b0 : (a0 == 95) = true := beq_iff_eq.mpr c19
      have c19b1 : (a0 != 95) = false := bne_eq_false_iff_eq.mpr c19
      clear c19
      obtain rfl := Option.some.inj H
      go_enter Tryd.func48, Tryd.ntmps48
      go_wp2
      go_ret
      exact ⟨by first | rfl | (simp; done) | (simp [*]; done), by repeat (first | exact Drawn0.refl _ | apply Drawn0.step)⟩
     ·
      rw [if_neg c19] at H
      have c19b0 : (a0 == 95) = false := beq_eq_false_iff_ne.mpr c19
      have c19b1 : (a0 != 95) = true := bne_iff_ne.mpr c19
      obtain rfl := Option.some.inj H
      go_enter Tryd.func48, Tryd.ntmps48
      go_wp2
      go_ret
      exact ⟨by first | rfl | (simp; done) | (simp [*]; done), by repeat (first | exact Drawn0.refl _ | apply Drawn0.step)⟩
  ·
   rw [if_neg c14] at H
   have c14b0 : decide (65 ≤ a0) = false := decide_eq_false c14
   clear c14
   by_cases c20 : a0 ≥ 48
   ·
    rw [if_pos c20] at H
    have c20b0 : decide (48 ≤ a0) = true := decide_eq_true c20
    clear c20
    by_cases c21 : a0 ≤ 57
    ·
     rw [if_pos c21] at H
     have c21b0 : decide (a0 ≤ 57) = true := decide_eq_true c21
     clear c21
     obtain rfl := Option.some.inj H
     go_enter Tryd.func48, Tryd.ntmps48
     go_wp2
     go_ret
     exact ⟨by first | rfl | (simp; done) | (simp [*]; done), by repeat (first | exact Drawn0.refl _ | apply Drawn0.step)⟩
    ·
     rw [if_neg c21] at H
     have c21b0 : decide (a0 ≤ 57) = false := decide_eq_false c21
     clear c21
     by_cases c22 : a0 = 95
     ·
      rw [if_pos c22] at H
      have c22b0 : (a0 == 95) = true := beq_iff_eq.mpr c22
      have c22b1 : (a0 != 95) = false := bne_eq_false_iff_eq.mpr c22
      clear c22
      obtain rfl := Option.some.inj H
      go_enter Tryd.func48, Tryd.ntmps48
      go_wp2
      go_ret
      exact ⟨by first | rfl | (simp; done) | (simp [*]; done), by repeat (first | exact Drawn0.refl _ | apply Drawn0.step)⟩
     ·
      rw [if_neg c22] at H
      have c22b0 : (a0 == 95) = false := beq_eq_false_iff_ne.mpr c22
      have c22b1 : (a0 != 95) = true := bne_iff_ne.mpr c22
      obtain rfl := Option.some.inj H
      go_enter Tryd.func48, Tryd.ntmps48
      go_wp2
      go_ret
      exact ⟨by first | rfl | (simp; done) | (simp [*]; done), by repeat (first | exact Drawn0.refl _ | apply Drawn0.step)⟩
   ·
    rw [if_neg c20] at H
    have c20b0 : decide (48 ≤ a0) = false := decide_eq_false c20
    clear c20
    by_cases c23 : a0 = 95
    ·
     rw [if_pos c23] at H
     have c23b0 : (a0 == 95) = true := beq_iff_eq.mpr c23
     have c23b1 : (a0 != 95) = false := bne_eq_false_iff_eq.mpr c23
     clear c23
     obtain rfl := Option.some.inj H
     go_enter Tryd.func48, Tryd.ntmps48
     go_wp2
     go_ret
     exact ⟨by first | rfl | (simp; done) | (simp [*]; done), by repeat (first | exact Drawn0.refl _ | apply Drawn0.step)⟩
    ·
     rw [if_neg c23] at H
     have c23b0 : (a0 == 95) = false := beq_eq_false_iff_ne.mpr c23
     have c23b1 : (a0 != 95) = true := bne_iff_ne.mpr c23
     obtain rfl := Option.some.inj H
     go_enter Tryd.func48, Tryd.ntmps48
     go_wp2
     go_ret
     exact ⟨by first | rfl | (simp; done) | (simp [*]; done), by repeat (first | exact Drawn0.refl _ | apply Drawn0.step)⟩

/-! ### lines_forth: function 40 -/
def lines_forth.l0 : Nat → List Int → Int → Bool → Option (Int)
 | 0, _, _, _ => none
 | k + 1, x0, x1, x2 => if x1 < (x0.length : Int) then (if 0 ≤ x1 then ((lines_word.f (rd x0 x1)).bind fun t199 => (if (t199 == x2) = true then (lines_forth.l0 k x0 (wrap64 (x1 + 1)) x2) else (some x1))) else (none)) else (some x1)
def lines_forth.f (k : Nat) (l0 : List Int) (a1 : Int) (a2 : Bool) : Option (Int) := lines_forth.l0 k l0 a1 a2
theorem lines_forth.mono_l : ∀ k, (∀ y0 y1 y2, LeO (lines_forth.l0 k y0 y1 y2) (lines_forth.l0 (k + 1) y0 y1 y2))
 | 0 => fun _ _ _ r h => by simp [lines_forth.l0] at h
 | k + 1 => by
  have ih0 := lines_forth.mono_l k
  ·
   intro y0 y1 y2
   unfold lines_forth.l0
   repeat' first
   | (with_reducible exact ih0 _ _ _)
   | (with_reducible exact LeO.refl _)
   | (with_reducible exact LeO.none _)
   | (with_reducible refine LeO.ite ?_ ?_)
   | (with_reducible refine LeO.bind ?_ (fun _ => ?_))
   | exact ih0 _ _ _
   | exact LeO.none _
   | refine LeO.ite ?_ ?_
   | refine LeO.bind ?_ (fun _ => ?_)
theorem lines_forth.mono : ∀ a0 a1 a2 k, LeO (lines_forth.f k a0 a1 a2) (lines_forth.f (k + 1) a0 a1 a2) := by
 intro a0 a1 a2 k
 have ih0 := lines_forth.mono_l k
 unfold lines_forth.f
 repeat' first
   | (with_reducible exact ih0 _ _ _)
   | (with_reducible exact LeO.refl _)
   | (with_reducible exact LeO.none _)
   | (with_reducible refine LeO.ite ?_ ?_)
   | (with_reducible refine LeO.bind ?_ (fun _ => ?_))
   | exact ih0 _ _ _
   | exact LeO.none _
   | refine LeO.ite ?_ ?_
   | refine LeO.bind ?_ (fun _ => ?_)
set_option maxHeartbeats 8000000 in
set_option maxRecDepth 100000 in
theorem lines_forth.calls (k : Nat) (A0 : Option Addr) (c0 : Nat) (l0 : List Int) (a1 : Int) (a2 : Bool) (r : Int) (w : World) (hr0 : Kd.C (Kd.int .i32) w A0 l0.length l0) (hc0 : l0.length ≤ c0) (h : lines_forth.f k l0 a1 a2 = some r) :
  Calls Tryd.prog 40 #[.slice A0 l0.length c0, .int .i64 a1, .bool a2] w fun e w' => e = .returned (.int .i64 r) ∧ Drawn0 w w' := by
 have HR0 := Aside0.mk hr0
 have HC0 := Aside0.mk hc0
 clear hr0 hc0
 have H : (lines_forth.l0 k l0 a1 a2) = some r := h
 clear h
 have H' := Aside0.mk H
 clear H
 go_enter Tryd.func40, Tryd.ntmps40
 go_wp2
 go_loopg [1] k (fun kq v1 w' => ∃ (x1_1 : Int), v1 = .int .i64 x1_1 ∧ Aside0 (lines_forth.l0 kq l0 x1_1 a2 = some r) ∧ Aside0 (kq ≤ k) ∧ Drawn0 w w')
 case atStart => exact ⟨(a1), (by first | rfl | (simp; done) | (simp [*]; done)), H', ⟨Nat.le_refl _⟩, by repeat (first | exact Drawn0.refl _ | apply Drawn0.step)⟩
 case round =>
  clear H'
  try clear p2
  obtain ⟨x1_1, rfl, HA, HK1, ⟨m1, rfl⟩⟩ := hrel
  cases gk with
  | zero => exact absurd HA.out (by simp [lines_forth.l0])
  | succ k1 =>
   have H := HA.out
   clear HA
   simp only [lines_forth.l0] at H
   by_cases c4 : x1_1 < (l0.length : Int)
   ·
    rw [if_pos c4] at H
    have c4b0 : decide (x1_1 < (l0.length : Int)) = true := decide_eq_true c4
    clear c4
    by_cases c5 : 0 ≤ x1_1
    ·
     rw [if_pos c5] at H
     have c5b0 : decide (0 ≤ x1_1) = true := decide_eq_true c5
     clear c5
     replace H := Option.bind_eq_some_iff.mp H
     obtain ⟨t199, A60, H⟩ := H
     replace H : (if (t199 == a2) = true then (lines_forth.l0 k1 l0 (wrap64 (x1_1 + 1)) a2) else (some x1_1)) = some r := H
     have A6 := Aside0.mk A60
     clear A60
     by_cases c7 : (t199 == a2) = true
     ·
      rw [if_pos c7] at H
      have c7b0 : (t199 == a2) = true := c7
      (try (have c7b1 : decide (t199 = a2) = true := by simpa using c7))
      (try (have c7b2 : (t199 == a2) = true := by simpa using c7))
      clear c7
      have H' := Aside0.mk H
      clear H
      have p198 : 0 ≤ (x1_1 : Int) := of_decide_eq_true (by first | (with_reducible assumption) | assumption)
      have q198 : x1_1 < (l0.length : Int) := of_decide_eq_true (by first | (with_reducible assumption) | assumption)
      obtain ⟨ad198, e198, hx198_0⟩ := Kd.at_int HR0.out x1_1 p198 q198
      cases e198
      replace p198 := eq_true p198
      replace q198 := eq_true q198
      go_wp2_with (first | (go_at_call 48; (with_reducible refine (lines_word.calls (rd l0 x1_1) t199 _ A6.out).mono ?_); rintro e w' ⟨rfl, ⟨nd, rfl⟩⟩))
      go_roundg k1
      case measure => have := HK1.out; omega
      case rel => exact ⟨(wrap64 (x1_1 + 1)), (by first | rfl | (simp; done) | (simp [*]; done)), H', ⟨by have := HK1.out; omega⟩, by repeat (first | exact Drawn0.refl _ | apply Drawn0.step)⟩
     ·
      rw [if_neg c7] at H
      have c7b0 : (t199 == a2) = false := by simpa using c7
      (try (have c7b1 : decide (t199 = a2) = false := by simpa using c7))
      (try (have c7b2 : (t199 == a2) = false := by simpa using c7))
      (try (have c7b3 : ¬ (t199 = a2) := by simpa using c7))
      clear c7
      obtain rfl := Option.some.inj H
      have p198 : 0 ≤ (x1_1 : Int) := of_decide_eq_true (by first | (with_reducible assumption) | assumption)
      have q198 : x1_1 < (l0.length : Int) := of_decide_eq_true (by first | (with_reducible assumption) | assumption)
      obtain ⟨ad198, e198, hx198_0⟩ := Kd.at_int HR0.out x1_1 p198 q198
      cases e198
      replace p198 := eq_true p198
      replace q198 := eq_true q198
      go_wp2_with (first | (go_at_call 48; (with_reducible refine (lines_word.calls (rd l0 x1_1) t199 _ A6.out).mono ?_); rintro e w' ⟨rfl, ⟨nd, rfl⟩⟩))
      go_ret
      exact ⟨by first | rfl | (simp; done) | (simp [*]; done), by repeat (first | exact Drawn0.refl _ | apply Drawn0.step)⟩
    ·
     rw [if_neg c5] at H
     exact absurd H (by simp)
   ·
    rw [if_neg c4] at H
    have c4b0 : decide (x1_1 < (l0.length : Int)) = false := decide_eq_false c4
    clear c4
    obtain rfl := Option.some.inj H
    go_wp2
    go_ret
    exact ⟨by first | rfl | (simp; done) | (simp [*]; done), by repeat (first | exact Drawn0.refl _ | apply Drawn0.step)⟩

/-! ### lines_back: function 41 -/
def lines_back.l0 : Nat → List Int → Int → Bool → Option (Int)
 | 0, _, _, _ => none
 | k + 1, x0, x1, x2 => if x1 > 0 then (if 0 ≤ (wrap64 (x1 - 1)) then (if (wrap64 (x1 - 1)) < (x0.length : Int) then ((lines_word.f (rd x0 (wrap64 (x1 - 1)))).bind fun t209 => (if (t209 == x2) = true then (lines_back.l0 k x0 (wrap64 (x1 - 1)) x2) else (some x1))) else (none)) else (none)) else (some x1)
def lines_back.f (k : Nat) (l0 : List Int) (a1 : Int) (a2 : Bool) : Option (Int) := lines_back.l0 k l0 a1 a2
theorem lines_back.mono_l : ∀ k, (∀ y0 y1 y2, LeO (lines_back.l0 k y0 y1 y2) (lines_back.l0 (k + 1) y0 y1 y2))
 | 0 => fun _ _ _ r h => by simp [lines_back.l0] at h
 | k + 1 => by
  have ih0 := lines_back.mono_l k
  ·
   intro y0 y1 y2
   unfold lines_back.l0
   repeat' first
   | (with_reducible exact ih0 _ _ _)
   | (with_reducible exact LeO.refl _)
   | (with_reducible exact LeO.none _)
   | (with_reducible refine LeO.ite ?_ ?_)
   | (with_reducible refine LeO.bind ?_ (fun _ => ?_))
   | exact ih0 _ _ _
   | exact LeO.none _
   | refine LeO.ite ?_ ?_
   | refine LeO.bind ?_ (fun _ => ?_)
theorem lines_back.mono : ∀ a0 a1 a2 k, LeO (lines_back.f k a0 a1 a2) (lines_back.f (k + 1) a0 a1 a2) := by
 intro a0 a1 a2 k
 have ih0 := lines_back.mono_l k
 unfold lines_back.f
 repeat' first
   | (with_reducible exact ih0 _ _ _)
   | (with_reducible exact LeO.refl _)
   | (with_reducible exact LeO.none _)
   | (with_reducible refine LeO.ite ?_ ?_)
   | (with_reducible refine LeO.bind ?_ (fun _ => ?_))
   | exact ih0 _ _ _
   | exact LeO.none _
   | refine LeO.ite ?_ ?_
   | refine LeO.bind ?_ (fun _ => ?_)
set_option maxHeartbeats 8000000 in
set_option maxRecDepth 100000 in
theorem lines_back.calls (k : Nat) (A0 : Option Addr) (c0 : Nat) (l0 : List Int) (a1 : Int) (a2 : Bool) (r : Int) (w : World) (hr0 : Kd.C (Kd.int .i32) w A0 l0.length l0) (hc0 : l0.length ≤ c0) (h : lines_back.f k l0 a1 a2 = some r) :
  Calls Tryd.prog 41 #[.slice A0 l0.length c0, .int .i64 a1, .bool a2] w fun e w' => e = .returned (.int .i64 r) ∧ Drawn0 w w' := by
 have HR0 := Aside0.mk hr0
 have HC0 := Aside0.mk hc0
 clear hr0 hc0
 have H : (lines_back.l0 k l0 a1 a2) = some r := h
 clear h
 have H' := Aside0.mk H
 clear H
 go_enter Tryd.func41, Tryd.ntmps41
 go_wp2
 go_loopg [1] k (fun kq v1 w' => ∃ (x1_1 : Int), v1 = .int .i64 x1_1 ∧ Aside0 (lines_back.l0 kq l0 x1_1 a2 = some r) ∧ Aside0 (kq ≤ k) ∧ Drawn0 w w')
 case atStart => exact ⟨(a1), (by first | rfl | (simp; done) | (simp [*]; done)), H', ⟨Nat.le_refl _⟩, by repeat (first | exact Drawn0.refl _ | apply Drawn0.step)⟩
 case round =>
  clear H'
  try clear p2
  obtain ⟨x1_1, rfl, HA, HK1, ⟨m1, rfl⟩⟩ := hrel
  cases gk with
  | zero => exact absurd HA.out (by simp [lines_back.l0])
  | succ k1 =>
   have H := HA.out
   clear HA
   simp only [lines_back.l0] at H
   by_cases c4 : x1_1 > 0
   ·
    rw [if_pos c4] at H
    have c4b0 : decide (0 < x1_1) = true := decide_eq_true c4
    clear c4
    obtain ⟨ji5, hji5⟩ : ∃ j_ : Int, (wrap64 (x1_1 - 1)) = j_ := ⟨_, rfl⟩
    replace H : (if 0 ≤ (ji5) then (if (ji5) < (l0.length : Int) then ((lines_word.f (rd l0 (ji5))).bind fun t209 => (if (t209 == a2) = true then (lines_back.l0 k1 l0 ji5 a2) else (some x1_1))) else (none)) else (none)) = some r := by first | (rw [hji5] at H; exact H) | (simp only [hji5] at H ⊢; exact H)
    have hji5w : (IntKind.i64.wrap (x1_1 - 1)) = ji5 := (i64_w _).trans hji5
    by_cases c6 : 0 ≤ (ji5)
    ·
     rw [if_pos c6] at H
     have c6b0 : decide (0 ≤ (ji5)) = true := decide_eq_true c6
     clear c6
     by_cases c7 : (ji5) < (l0.length : Int)
     ·
      rw [if_pos c7] at H
      have c7b0 : decide ((ji5) < (l0.length : Int)) = true := decide_eq_true c7
      clear c7
      replace H := Option.bind_eq_some_iff.mp H
      obtain ⟨t209, A80, H⟩ := H
      replace H : (if (t209 == a2) = true then (lines_back.l0 k1 l0 ji5 a2) else (some x1_1)) = some r := H
      have A8 := Aside0.mk A80
      clear A80
      by_cases c9 : (t209 == a2) = true
      ·
       rw [if_pos c9] at H
       have c9b0 : (t209 == a2) = true := c9
       (try (have c9b1 : decide (t209 = a2) = true := by simpa using c9))
       (try (have c9b2 : (t209 == a2) = true := by simpa using c9))
       clear c9
       have H' := Aside0.mk H
       clear H
       have p208 : 0 ≤ ((ji5) : Int) := of_decide_eq_true (by first | (with_reducible assumption) | assumption)
       have q208 : (ji5) < (l0.length : Int) := of_decide_eq_true (by first | (with_reducible assumption) | assumption)
       obtain ⟨ad208, e208, hx208_0⟩ := Kd.at_int HR0.out (ji5) p208 q208
       cases e208
       replace p208 := eq_true p208
       replace q208 := eq_true q208
       go_wp2_with (first | (go_at_call 48; (with_reducible refine (lines_word.calls (rd l0 (ji5)) t209 _ A8.out).mono ?_); rintro e w' ⟨rfl, ⟨nd, rfl⟩⟩))
       go_roundg k1
       case measure => have := HK1.out; omega
       case rel => exact ⟨(ji5), (by first | rfl | (simp; done) | (simp only [← hji5] <;> (first | rfl | simp)) | (simp [*]; done)), H', ⟨by have := HK1.out; omega⟩, by repeat (first | exact Drawn0.refl _ | apply Drawn0.step)⟩
      ·
       rw [if_neg c9] at H
       have c9b0 : (t209 == a2) = false := by simpa using c9
       (try (have c9b1 : decide (t209 = a2) = false := by simpa using c9))
       (try (have c9b2 : (t209 == a2) = false := by simpa using c9))
       (try (have c9b3 : ¬ (t209 = a2) := by simpa using c9))
       clear c9
       obtain rfl := Option.some.inj H
       have p208 : 0 ≤ ((ji5) : Int) := of_decide_eq_true (by first | (with_reducible assumption) | assumption)
       have q208 : (ji5) < (l0.length : Int) := of_decide_eq_true (by first | (with_reducible assumption) | assumption)
       obtain ⟨ad208, e208, hx208_0⟩ := Kd.at_int HR0.out (ji5) p208 q208
       cases e208
       replace p208 := eq_true p208
       replace q208 := eq_true q208
       go_wp2_with (first | (go_at_call 48; (with_reducible refine (lines_word.calls (rd l0 (ji5)) t209 _ A8.out).mono ?_); rintro e w' ⟨rfl, ⟨nd, rfl⟩⟩))
       go_ret
       exact ⟨by first | rfl | (simp; done) | (simp only [← hji5] <;> (first | rfl | simp)) | (simp [*]; done), by repeat (first | exact Drawn0.refl _ | apply Drawn0.step)⟩
     ·
      rw [if_neg c7] at H
      exact absurd H (by simp)
    ·
     rw [if_neg c6] at H
     exact absurd H (by simp)
   ·
    rw [if_neg c4] at H
    have c4b0 : decide (0 < x1_1) = false := decide_eq_false c4
    clear c4
    obtain rfl := Option.some.inj H
    go_wp2
    go_ret
    exact ⟨by first | rfl | (simp; done) | (simp [*]; done), by repeat (first | exact Drawn0.refl _ | apply Drawn0.step)⟩

end Go.Proofs.YtbjahfbagbghnaaDoor.PAll
