-- Printed by a program of this session (wip/tools/mkprint2.py) out of the translation; Lean checks it. -- narrowed
import Derived.Test.YtphgoaacmkagmaaDoorPAllx0
import Derived.Test.YtphgoaacmkagmaaDoorPAllx1
import Derived.Test.YtphgoaacmkagmaaDoorPAllx4
import Derived.Test.YtphgoaacmkagmaaDoorPAllx5
import Derived.Test.YtphgoaacmkagmaaDoorUs
namespace Go.Proofs.YtphgoaacmkagmaaDoor.PAll
open Go.RowKit Go.Proofs.YtphgoaacmkagmaaDoorW.PrintWords Go.Proofs.YtphgoaacmkagmaaDoorW.PrintLast Go.Proofs.YtphgoaacmkagmaaDoorW.PrintMore
attribute [local go_sem] max2_int min2_int max_two min_two max_three min_three max_four min_four   -- for this text's walks alone
set_option linter.unusedVariables false
set_option linter.unusedSimpArgs false

/-! ### redpencillaw02_RunesHolds: function 8 -/
mutual
def redpencillaw02_RunesHolds.j0 : Nat → ByteArray → List Int → Int → Int → Int → Bool → Option (Bool)
 | 0, _, _, _, _, _, _ => none
 | k + 1, x0, x1, x2, x3, x4, x28 => if x28 = true then ((redpencillaw02_known.f k).bind fun t283 => (some t283)) else ((runes_Encode.f x1).bind fun bt284 => (if bt284.2 = 0 then ((redpencillaw02_decodes.f k bt284.1 x1 0).bind fun t286 => (redpencillaw02_RunesHolds.j1 k x0 x2 x3 x4 (!t286))) else (redpencillaw02_RunesHolds.j1 k x0 x2 x3 x4 false)))
def redpencillaw02_RunesHolds.j1 : Nat → ByteArray → Int → Int → Int → Bool → Option (Bool)
 | 0, _, _, _, _, _ => none
 | k + 1, x0, x2, x3, x4, x42 => if x42 = true then (some false) else ((runes_Decode.f x0).bind fun bt287 => (if bt287.2 = 0 then (redpencillaw02_RunesHolds.l0 k x0 x2 x3 x4 bt287.1 0 bt287.1 (bt287.1.length : Int) 0) else ((redpencillaw02_known.f k).bind fun t291 => (some t291))))
def redpencillaw02_RunesHolds.l0 : Nat → ByteArray → Int → Int → Int → List Int → Int → List Int → Int → Int → Option (Bool)
 | 0, _, _, _, _, _, _, _, _, _ => none
 | k + 1, x0, x2, x3, x4, x13, x15, x51, x52, x53 => if x53 < x52 then (if 0 ≤ x53 then (if x53 < (x51.length : Int) then ((runes_Size.f k (rd x51 x53)).bind fun t293 => (redpencillaw02_RunesHolds.l0 k x0 x2 x3 x4 x13 (wrap64 (x15 + t293)) x51 x52 (wrap64 (x53 + 1)))) else (none)) else (none)) else (if x15 = (x0.size : Int) then ((redpencillaw02_encodes.f x13 x0 0).bind fun t294 => (redpencillaw02_RunesHolds.j3 k x0 x2 x3 x4 x13 (!t294))) else (redpencillaw02_RunesHolds.j3 k x0 x2 x3 x4 x13 true))
def redpencillaw02_RunesHolds.j3 : Nat → ByteArray → Int → Int → Int → List Int → Bool → Option (Bool)
 | 0, _, _, _, _, _, _ => none
 | k + 1, x0, x2, x3, x4, x13, x71 => if x71 = true then (some false) else ((runes_Cut.f x0 x2 x3).bind fun bt295 => ((runes_Cut.f x0 x3 x4).bind fun bt297 => (if bt295.2 = 0 then (if bt297.2 = 0 then (if bt295.1.size + bt297.1.size ≤ 9223372036854775807 then ((redpencillaw02_cuts.f x0 x2 x4 (bt295.1 ++ bt297.1) 0).bind fun t299 => (redpencillaw02_RunesHolds.j4 k x0 x13 (!t299))) else (none)) else (redpencillaw02_RunesHolds.j4 k x0 x13 false)) else (redpencillaw02_RunesHolds.j4 k x0 x13 false))))
def redpencillaw02_RunesHolds.j4 : Nat → ByteArray → List Int → Bool → Option (Bool)
 | 0, _, _, _ => none
 | k + 1, x0, x13, x101 => if x101 = true then (some false) else ((redpencillaw02_cuts.f x0 0 (x13.length : Int) x0 0).bind fun t300 => (if t300 = true then ((redpencillaw02_known.f k).bind fun t301 => (some t301)) else (some false)))
end
def redpencillaw02_RunesHolds.f (k : Nat) (a0 : ByteArray) (l1 : List Int) (a2 : Int) (a3 : Int) (a4 : Int) : Option (Bool) := if (a0.size : Int) > 300 then (redpencillaw02_RunesHolds.j0 k a0 l1 a2 a3 a4 true) else (redpencillaw02_RunesHolds.j0 k a0 l1 a2 a3 a4 (decide ((l1.length : Int) > 100)))
set_option maxHeartbeats 8000000 in
set_option maxRecDepth 100000 in
theorem redpencillaw02_RunesHolds.calls (k : Nat) (a0 : ByteArray) (A1 : Option Addr) (c1 : Nat) (l1 : List Int) (a2 : Int) (a3 : Int) (a4 : Int) (w : World) (hG : GOK w) (hr1 : Kd.C (Kd.int .i32) w A1 l1.length l1) (hc1 : l1.length ≤ c1) (h : redpencillaw02_RunesHolds.f k a0 l1 a2 a3 a4 = some true) :
  Calls Tryd.prog 8 #[.string a0, .slice A1 l1.length c1, .int .i64 a2, .int .i64 a3, .int .i64 a4] w fun e w' => e = .returned (.bool true) ∧ Below w.heap.size w w' := by
 have HR1 := Aside0.mk hr1
 have HC1 := Aside0.mk hc1
 clear hr1 hc1
 have HB := Aside0.mk (Below.refl w.heap.size w)
 have HG := Aside0.mk hG
 clear hG
 have H : (if (a0.size : Int) > 300 then (redpencillaw02_RunesHolds.j0 k a0 l1 a2 a3 a4 true) else (redpencillaw02_RunesHolds.j0 k a0 l1 a2 a3 a4 (decide ((l1.length : Int) > 100)))) = some true := h
 clear h
 have HC6 := Aside0.mk H
 clear H
 go_enter Tryd.func8, Tryd.ntmps8
 go_upto_region 1 with (fail)
 go_cut [28] (fun v28 wc => ∃ (kq : Nat) (x28_5 : Bool), v28 = .bool x28_5 ∧ Aside0 (redpencillaw02_RunesHolds.j0 kq a0 l1 a2 a3 a4 x28_5 = some true) ∧ Aside0 (kq ≤ k) ∧ Aside0 (Below w.heap.size w wc))
 case first =>
  have H := HC6.out
  clear HC6
  by_cases c7 : (a0.size : Int) > 300
  ·
   rw [if_pos c7] at H
   have c7b0 : decide (300 < (a0.size : Int)) = true := decide_eq_true c7
   have c7b1 : decide (300 < a0.size) = true := decide_eq_true (by omega)
   clear c7
   (first | rw [c7b0] | (simp only [i64_w, i32_w]; rw [c7b0]) | skip)
   have H' := Aside0.mk H
   clear H
   go_wp2
   go_meet
   case rel => exact ⟨_, (true), (by first | rfl | (simp; done) | (simp [*]; done)), H', ⟨by first | omega | exact Nat.le_refl _⟩, ⟨by repeat (first | (with_reducible first | exact HB.out | apply below_alloc | apply pw_below_drewN | apply below_drew1) | exact HB.out)⟩⟩
  ·
   rw [if_neg c7] at H
   have c7b0 : decide (300 < (a0.size : Int)) = false := decide_eq_false c7
   have c7b1 : decide (300 < a0.size) = false := decide_eq_false (by omega)
   clear c7
   (first | rw [c7b0] | (simp only [i64_w, i32_w]; rw [c7b0]) | skip)
   have H' := Aside0.mk H
   clear H
   go_wp2
   go_meet
   case rel => exact ⟨_, (decide ((l1.length : Int) > 100)), (by first | rfl | (simp; done) | (simp [*]; done)), H', ⟨by first | omega | exact Nat.le_refl _⟩, ⟨by repeat (first | (with_reducible first | exact HB.out | apply below_alloc | apply pw_below_drewN | apply below_drew1) | exact HB.out)⟩⟩
 case rest =>
  clear HC6
  try clear c1
  try clear p2
  try clear c7
  try clear c7b0
  try clear c7b1
  obtain ⟨kq, x28_5, rfl, HA, HJ5, HB⟩ := hcut
  cases kq with
  | zero => exact absurd HA.out (by simp [redpencillaw02_RunesHolds.j0])
  | succ kj5 =>
   have H := HA.out
   clear HA
   simp only [redpencillaw02_RunesHolds.j0] at H
   by_cases c8 : x28_5 = true
   ·
    subst c8
    have H1 : ((redpencillaw02_known.f kj5).bind fun t283 => (some t283)) = some true := by rw [if_pos rfl] at H; exact H
    clear H
    have H := H1
    clear H1
    replace H := Option.bind_eq_some_iff.mp H
    obtain ⟨t283, A90, H⟩ := H
    replace H : (some t283) = some true := H
    have A9 := Aside0.mk A90
    clear A90
    obtain rfl := Option.some.inj H
    go_wp2_with (first | ((with_reducible refine gate_callee (f := 15) rfl ?_); refine goesL_ (some 29) rfl rfl Tryd.func15 (by kernel_rfl) rfl #[] rfl (by (try simp only [List.map_toArray, List.map_cons, List.map_nil]); first | done | rfl | (simp only [List.length_drop, List.length_take]; rfl)) ?_; (with_reducible refine (redpencillaw02_known.calls kj5  true _ ?side1 A9.out).mono ?_); (case side1 => exact GOK_below HG.out (by repeat (first | (with_reducible first | exact HB.out | apply below_alloc | apply pw_below_drewN | apply below_drew1) | exact HB.out))); rintro e w10 ⟨rfl, hb⟩; refine ⟨_, rfl, ?_⟩; have n0_ := Aside0.mk (below_step (by repeat (first | (with_reducible first | exact HB.out | apply below_alloc | apply pw_below_drewN | apply below_drew1) | exact HB.out)) hb); clear HB; have HB := n0_; clear n0_; (try clear hb); (try clear hb2); (try clear hk); (try clear hi)))
    go_ret
    exact ⟨by first | rfl | (simp [errW_none, errW_some] <;> rfl) | (simp [*, errW_none, errW_some] <;> rfl), by repeat (first | (with_reducible first | exact HB.out | apply below_alloc | apply pw_below_drewN | apply below_drew1) | exact HB.out)⟩
   ·
    replace c8 := Bool.eq_false_iff.mpr c8
    subst c8
    have H1 : ((runes_Encode.f l1).bind fun bt284 => (if bt284.2 = 0 then ((redpencillaw02_decodes.f kj5 bt284.1 l1 0).bind fun t286 => (redpencillaw02_RunesHolds.j1 kj5 a0 a2 a3 a4 (!t286))) else (redpencillaw02_RunesHolds.j1 kj5 a0 a2 a3 a4 false))) = some true := by rw [if_neg (show ¬ (false = true) by decide)] at H; exact H
    clear H
    have H := H1
    clear H1
    replace H := Option.bind_eq_some_iff.mp H
    obtain ⟨⟨t284, t285⟩, A110, H⟩ := H
    replace H : (if t285 = 0 then ((redpencillaw02_decodes.f kj5 t284 l1 0).bind fun t286 => (redpencillaw02_RunesHolds.j1 kj5 a0 a2 a3 a4 (!t286))) else (redpencillaw02_RunesHolds.j1 kj5 a0 a2 a3 a4 false)) = some true := H
    have A11 := Aside0.mk A110
    clear A110
    have HC12 := Aside0.mk H
    clear H
    go_upto_region 4 with (first | ((with_reducible refine gate_callee (f := 27) rfl ?_); refine goesL_ (some 32) rfl rfl Tryd.func27 (by kernel_rfl) rfl #[.slice A1 l1.length c1] rfl (by (try simp only [List.map_toArray, List.map_cons, List.map_nil]); first | done | rfl | (simp only [List.length_drop, List.length_take]; rfl)) ?_; (with_reducible refine (runes_Encode.calls _ _ l1 t284 t285 _ ?side1 ?side2 A11.out).mono ?_); (case side1 => repeat (first | exact (Kd.C_below HR1.out HB.out) | (with_reducible refine Kd.C_alloc ?_ _) | (with_reducible refine Kd.C_drewN ?_ _) | (with_reducible refine Kd.C_drew ?_))); (case side2 => exact HC1.out); rintro e w13 ⟨rfl, hb⟩; refine ⟨_, rfl, ?_⟩; have n0_ := Aside0.mk (below_step (by repeat (first | (with_reducible first | exact HB.out | apply below_alloc | apply pw_below_drewN | apply below_drew1) | exact HB.out)) hb); clear HB; have HB := n0_; clear n0_; (try clear hb); (try clear hb2); (try clear hk); (try clear hi)))
    (try simp only [Act.put, List.setIfInBounds_toArray, List.set_cons_zero, List.set_cons_succ])
    go_cut [42] (fun v42 wc => ∃ (kq : Nat) (x42_11 : Bool), v42 = .bool x42_11 ∧ Aside0 (redpencillaw02_RunesHolds.j1 kq a0 a2 a3 a4 x42_11 = some true) ∧ Aside0 (kq ≤ kj5) ∧ Aside0 (Below w.heap.size w wc))
    case first =>
     have H := HC12.out
     clear HC12
     by_cases c14 : t285 = 0
     ·
      rw [if_pos c14] at H
      have c14b0 : (t285 == 0) = true := beq_iff_eq.mpr c14
      have c14b1 : (t285 != 0) = false := bne_eq_false_iff_eq.mpr c14
      clear c14
      (first | rw [c14b0] | (simp only [i64_w, i32_w]; rw [c14b0]) | skip)
      replace H := Option.bind_eq_some_iff.mp H
      obtain ⟨t286, A150, H⟩ := H
      replace H : (redpencillaw02_RunesHolds.j1 kj5 a0 a2 a3 a4 (!t286)) = some true := H
      have A15 := Aside0.mk A150
      clear A150
      have H' := Aside0.mk H
      clear H
      go_wp2_with (first | (go_at_call 19; (with_reducible refine (redpencillaw02_decodes.calls kj5 t284 _ _ l1 0 t286 _ ?side1 ?side2 ?side3 A15.out).mono ?_); (case side1 => exact GOK_below HG.out (by repeat (first | (with_reducible first | exact HB.out | apply below_alloc | apply pw_below_drewN | apply below_drew1) | exact HB.out))); (case side2 => repeat (first | exact (Kd.C_below HR1.out HB.out) | (with_reducible refine Kd.C_alloc ?_ _) | (with_reducible refine Kd.C_drewN ?_ _) | (with_reducible refine Kd.C_drew ?_))); (case side3 => exact HC1.out); rintro e w16 ⟨rfl, hb⟩; have n0_ := Aside0.mk (below_step (by repeat (first | (with_reducible first | exact HB.out | apply below_alloc | apply pw_below_drewN | apply below_drew1) | exact HB.out)) hb); clear HB; have HB := n0_; clear n0_; (try clear hb); (try clear hb2); (try clear hk); (try clear hi)))
      go_meet
      case rel => exact ⟨_, (!t286), (by first | rfl | (simp; done) | (simp [*]; done)), H', ⟨by have := HJ5.out; first | omega | exact Nat.le_refl _⟩, ⟨by repeat (first | (with_reducible first | exact HB.out | apply below_alloc | apply pw_below_drewN | apply below_drew1) | exact HB.out)⟩⟩
     ·
      rw [if_neg c14] at H
      have c14b0 : (t285 == 0) = false := beq_eq_false_iff_ne.mpr c14
      have c14b1 : (t285 != 0) = true := bne_iff_ne.mpr c14
      (first | rw [c14b0] | (simp only [i64_w, i32_w]; rw [c14b0]) | skip)
      have H' := Aside0.mk H
      clear H
      go_wp2
      go_meet
      case rel => exact ⟨_, (false), (by first | rfl | (simp; done) | (simp [*]; done)), H', ⟨by have := HJ5.out; first | omega | exact Nat.le_refl _⟩, ⟨by repeat (first | (with_reducible first | exact HB.out | apply below_alloc | apply pw_below_drewN | apply below_drew1) | exact HB.out)⟩⟩
    case rest =>
     clear HC12
     try clear c1
     try clear c2
     try clear p2
     try clear c7
     try clear c7b0
     try clear c7b1
     try clear c8
     try clear c14
     try clear c14b0
     try clear c14b1
     try clear c15
     try clear p2
     obtain ⟨kq, x42_11, rfl, HA, HJ11, HB⟩ := hcut
     cases kq with
     | zero => exact absurd HA.out (by simp [redpencillaw02_RunesHolds.j1])
     | succ kj11 =>
      have H := HA.out
      clear HA
      simp only [redpencillaw02_RunesHolds.j1] at H
      by_cases c17 : x42_11 = true
      ·
       subst c17
       have H1 : (some false) = some true := by rw [if_pos rfl] at H; exact H
       exact absurd H1 (by simp)
      ·
       replace c17 := Bool.eq_false_iff.mpr c17
       subst c17
       have H1 : ((runes_Decode.f a0).bind fun bt287 => (if bt287.2 = 0 then (redpencillaw02_RunesHolds.l0 kj11 a0 a2 a3 a4 bt287.1 0 bt287.1 (bt287.1.length : Int) 0) else ((redpencillaw02_known.f kj11).bind fun t291 => (some t291)))) = some true := by rw [if_neg (show ¬ (false = true) by decide)] at H; exact H
       clear H
       have H := H1
       clear H1
       replace H := Option.bind_eq_some_iff.mp H
       obtain ⟨⟨t287, t288⟩, A180, H⟩ := H
       replace H : (if t288 = 0 then (redpencillaw02_RunesHolds.l0 kj11 a0 a2 a3 a4 t287 0 t287 (t287.length : Int) 0) else ((redpencillaw02_known.f kj11).bind fun t291 => (some t291))) = some true := H
       have A18 := Aside0.mk A180
       clear A180
       by_cases c19 : t288 = 0
       ·
        rw [if_pos c19] at H
        have c19b0 : (t288 == 0) = true := beq_iff_eq.mpr c19
        have c19b1 : (t288 != 0) = false := bne_eq_false_iff_eq.mpr c19
        clear c19
        have H' := Aside0.mk H
        clear H
        go_wp2_with (first | ((with_reducible refine gate_callee (f := 28) rfl ?_); refine goesL_ (some 45) rfl rfl Tryd.func28 (by kernel_rfl) rfl #[.string a0] rfl (by (try simp only [List.map_toArray, List.map_cons, List.map_nil]); first | done | rfl | (simp only [List.length_drop, List.length_take]; rfl)) ?_; (with_reducible refine (runes_Decode.calls a0 t287 t288 _ ?side1 A18.out).mono ?_); (case side1 => exact GOK_below HG.out (by repeat (first | (with_reducible first | exact HB.out | apply below_alloc | apply pw_below_drewN | apply below_drew1) | exact HB.out))); rintro e w20 ⟨v289, rfl, ho0, hb⟩; refine ⟨_, rfl, ?_⟩; have n0_ := Aside0.mk (Kd.R_lower ho0 (below_size (by repeat (first | (with_reducible first | exact HB.out | apply below_alloc | apply pw_below_drewN | apply below_drew1) | exact HB.out)))); have n1_ := Aside0.mk (below_step (by repeat (first | (with_reducible first | exact HB.out | apply below_alloc | apply pw_below_drewN | apply below_drew1) | exact HB.out)) hb); clear HB; have HO290 := n0_; have HB := n1_; clear n0_ n1_; (try clear hb); (try clear hb2); (try clear hk); (try clear hi); (try clear ho0); obtain ⟨Ao21, co21, eo21⟩ := Kd.R_slice HO290.out; subst eo21))
        go_loopg [15, 53] kj11 (fun kq v15 v53 w' => ∃ (x15_3 : Int) (x53_3 : Int), v15 = .int .i64 x15_3 ∧ v53 = .int .i64 x53_3 ∧ Aside0 (redpencillaw02_RunesHolds.l0 kq a0 a2 a3 a4 t287 x15_3 t287 (t287.length : Int) x53_3 = some true) ∧ Aside0 (kq ≤ kj11) ∧ Aside0 (Kd.R (Kd.int .i32) 21 w' w.heap.size (fun _ => True) (.slice Ao21 t287.length co21) t287) ∧ Aside0 (Kd.R (Kd.int .i32) 21 w' w.heap.size (fun _ => True) (.slice Ao21 t287.length co21) t287) ∧ Aside0 (Below w.heap.size w w'))
        case atStart => exact ⟨(0), (0), (by first | rfl | (simp; done) | (simp [*]; done)), (by first | rfl | (simp; done) | (simp [*]; done)), H', ⟨Nat.le_refl _⟩, ⟨by (with_reducible repeat (first | apply Kd.R_alloc | apply Kd.R_drewN | apply Kd.R_drew)); exact HO290.out⟩, ⟨by (with_reducible repeat (first | apply Kd.R_alloc | apply Kd.R_drewN | apply Kd.R_drew)); exact HO290.out⟩, ⟨by repeat (first | (with_reducible first | exact HB.out | apply below_alloc | apply pw_below_drewN | apply below_drew1) | exact HB.out)⟩⟩
        case round =>
         clear H'
         try clear c1
         try clear c2
         try clear p2
         try clear c7
         try clear c7b0
         try clear c7b1
         try clear c8
         try clear c14
         try clear c14b0
         try clear c14b1
         try clear c15
         try clear c17
         try clear c19
         try clear c19b0
         try clear c19b1
         try clear p2
         obtain ⟨x15_3, x53_3, rfl, rfl, HA, HK3, HO_13, HO_51, HB⟩ := hrel
         cases gk with
         | zero => exact absurd HA.out (by simp [redpencillaw02_RunesHolds.l0])
         | succ k3 =>
          have H := HA.out
          clear HA
          simp only [redpencillaw02_RunesHolds.l0] at H
          by_cases c22 : x53_3 < (t287.length : Int)
          ·
           rw [if_pos c22] at H
           have c22b0 : decide (x53_3 < (t287.length : Int)) = true := decide_eq_true c22
           clear c22
           by_cases c23 : 0 ≤ x53_3
           ·
            rw [if_pos c23] at H
            have c23b0 : decide (0 ≤ x53_3) = true := decide_eq_true c23
            clear c23
            by_cases c24 : x53_3 < (t287.length : Int)
            ·
             rw [if_pos c24] at H
             have c24b0 : decide (x53_3 < (t287.length : Int)) = true := decide_eq_true c24
             clear c24
             replace H := Option.bind_eq_some_iff.mp H
             obtain ⟨t293, A250, H⟩ := H
             replace H : (redpencillaw02_RunesHolds.l0 k3 a0 a2 a3 a4 t287 (wrap64 (x15_3 + t293)) t287 (t287.length : Int) (wrap64 (x53_3 + 1))) = some true := H
             have A25 := Aside0.mk A250
             clear A250
             have H' := Aside0.mk H
             clear H
             have p292 : 0 ≤ (x53_3 : Int) := of_decide_eq_true (by first | (with_reducible assumption) | assumption)
             have q292 : x53_3 < (t287.length : Int) := of_decide_eq_true (by first | (with_reducible assumption) | assumption)
             obtain ⟨ad292, e292, hx292_0⟩ := Kd.at_int (Kd.R_reads' HO_51.out).2.2 x53_3 p292 q292
             cases e292
             replace p292 := eq_true p292
             replace q292 := eq_true q292
             go_wp2_with (first | ((with_reducible refine gate_callee (f := 11) rfl ?_); refine goesL_ (some 59) rfl rfl Tryd.func11 (by kernel_rfl) rfl #[.int .i32 (rd t287 x53_3)] rfl (by (try simp only [List.map_toArray, List.map_cons, List.map_nil]); first | done | rfl | (simp only [List.length_drop, List.length_take]; rfl)) ?_; (with_reducible refine (runes_Size.calls k3 (rd t287 x53_3) t293 _ A25.out).mono ?_); rintro e w' ⟨rfl, ⟨nd, rfl⟩⟩; refine ⟨_, rfl, ?_⟩))
             go_roundg k3
             case measure => have := HJ5.out; have := HJ11.out; have := HK3.out; omega
             case rel => exact ⟨(wrap64 (x15_3 + t293)), (wrap64 (x53_3 + 1)), (by first | rfl | (simp; done) | (simp [*]; done)), (by first | rfl | (simp; done) | (simp [*]; done)), H', ⟨by have := HJ5.out; have := HJ11.out; have := HK3.out; omega⟩, ⟨by (with_reducible repeat (first | apply Kd.R_alloc | apply Kd.R_drewN | apply Kd.R_drew)); exact HO_13.out⟩, ⟨by (with_reducible repeat (first | apply Kd.R_alloc | apply Kd.R_drewN | apply Kd.R_drew)); exact HO_51.out⟩, ⟨by repeat (first | (with_reducible first | exact HB.out | apply below_alloc | apply pw_below_drewN | apply below_drew1) | exact HB.out)⟩⟩
            ·
             rw [if_neg c24] at H
             exact absurd H (by simp)
           ·
            rw [if_neg c23] at H
            exact absurd H (by simp)
          ·
           rw [if_neg c22] at H
           have c22b0 : decide (x53_3 < (t287.length : Int)) = false := decide_eq_false c22
           clear c22
           have HC26 := Aside0.mk H
           clear H
           go_upto_region 15 with (fail)
           go_cut [71] (fun v71 wc => ∃ (kq : Nat) (x71_25 : Bool), v71 = .bool x71_25 ∧ Aside0 (redpencillaw02_RunesHolds.j3 kq a0 a2 a3 a4 t287 x71_25 = some true) ∧ Aside0 (kq ≤ k3) ∧ Aside0 (Kd.R (Kd.int .i32) 21 wc w.heap.size (fun _ => True) (.slice Ao21 t287.length co21) t287) ∧ Aside0 (Below w.heap.size w wc))
           case first =>
            have H := HC26.out
            clear HC26
            by_cases c27 : x15_3 = (a0.size : Int)
            ·
             rw [if_pos c27] at H
             have c27b0 : (x15_3 == (a0.size : Int)) = true := beq_iff_eq.mpr c27
             have c27b1 : (x15_3 != (a0.size : Int)) = false := bne_eq_false_iff_eq.mpr c27
             clear c27
             (first | rw [c27b0] | (simp only [i64_w, i32_w]; rw [c27b0]) | skip)
             replace H := Option.bind_eq_some_iff.mp H
             obtain ⟨t294, A280, H⟩ := H
             replace H : (redpencillaw02_RunesHolds.j3 k3 a0 a2 a3 a4 t287 (!t294)) = some true := H
             have A28 := Aside0.mk A280
             clear A280
             have H' := Aside0.mk H
             clear H
             go_wp2_with (first | (go_at_call 14; (with_reducible refine (redpencillaw02_encodes.calls _ _ t287 a0 0 t294 _ ?side1 ?side2 A28.out).mono ?_); (case side1 => repeat (first | exact (Kd.R_reads' HO_13.out).2.2 | (with_reducible refine Kd.C_alloc ?_ _) | (with_reducible refine Kd.C_drewN ?_ _) | (with_reducible refine Kd.C_drew ?_))); (case side2 => exact (Kd.R_reads' HO_13.out).2.1); rintro e w29 ⟨rfl, hb⟩; have n0_ := Aside0.mk (Kd.R_below (by (with_reducible repeat (first | apply Kd.R_alloc | apply Kd.R_drewN | apply Kd.R_drew)); exact HO_13.out) hb); have n1_ := Aside0.mk (Kd.R_below (by (with_reducible repeat (first | apply Kd.R_alloc | apply Kd.R_drewN | apply Kd.R_drew)); exact HO_51.out) hb); have n2_ := Aside0.mk (below_step (by repeat (first | (with_reducible first | exact HB.out | apply below_alloc | apply pw_below_drewN | apply below_drew1) | exact HB.out)) hb); clear HO_13; clear HO_51; clear HB; have HO_13 := n0_; have HO_51 := n1_; have HB := n2_; clear n0_ n1_ n2_; (try clear hb); (try clear hb2); (try clear hk); (try clear hi)))
             go_meet
             case rel => exact ⟨_, (!t294), (by first | rfl | (simp; done) | (simp [*]; done)), H', ⟨by have := HJ5.out; have := HJ11.out; have := HK3.out; first | omega | exact Nat.le_refl _⟩, ⟨by (with_reducible repeat (first | apply Kd.R_alloc | apply Kd.R_drewN | apply Kd.R_drew)); exact HO_13.out⟩, ⟨by repeat (first | (with_reducible first | exact HB.out | apply below_alloc | apply pw_below_drewN | apply below_drew1) | exact HB.out)⟩⟩
            ·
             rw [if_neg c27] at H
             have c27b0 : (x15_3 == (a0.size : Int)) = false := beq_eq_false_iff_ne.mpr c27
             have c27b1 : (x15_3 != (a0.size : Int)) = true := bne_iff_ne.mpr c27
             (first | rw [c27b0] | (simp only [i64_w, i32_w]; rw [c27b0]) | skip)
             have H' := Aside0.mk H
             clear H
             go_wp2
             go_meet
             case rel => exact ⟨_, (true), (by first | rfl | (simp; done) | (simp [*]; done)), H', ⟨by have := HJ5.out; have := HJ11.out; have := HK3.out; first | omega | exact Nat.le_refl _⟩, ⟨by (with_reducible repeat (first | apply Kd.R_alloc | apply Kd.R_drewN | apply Kd.R_drew)); exact HO_13.out⟩, ⟨by repeat (first | (with_reducible first | exact HB.out | apply below_alloc | apply pw_below_drewN | apply below_drew1) | exact HB.out)⟩⟩
           case rest =>
            clear HC26
            try clear c1
            try clear c2
            try clear p2
            try clear q2
            try clear hx2
            try clear p6
            try clear c7
            try clear c7b0
            try clear c7b1
            try clear c8
            try clear c11
            try clear c14
            try clear c14b0
            try clear c14b1
            try clear c15
            try clear c17
            try clear c19
            try clear c19b0
            try clear c19b1
            try clear c22
            try clear c22b0
            try clear c23
            try clear c23b0
            try clear c24
            try clear c24b0
            try clear c27
            try clear c27b0
            try clear c27b1
            try clear c28
            try clear p29
            try clear q29
            try clear hx29
            try clear hx292_0
            try clear p2
            try clear p292
            try clear q292
            obtain ⟨kq, x71_25, rfl, HA, HJ25, HO_13, HB⟩ := hcut
            cases kq with
            | zero => exact absurd HA.out (by simp [redpencillaw02_RunesHolds.j3])
            | succ kj25 =>
             have H := HA.out
             clear HA
             simp only [redpencillaw02_RunesHolds.j3] at H
             by_cases c30 : x71_25 = true
             ·
              subst c30
              have H1 : (some false) = some true := by rw [if_pos rfl] at H; exact H
              exact absurd H1 (by simp)
             ·
              replace c30 := Bool.eq_false_iff.mpr c30
              subst c30
              have H1 : ((runes_Cut.f a0 a2 a3).bind fun bt295 => ((runes_Cut.f a0 a3 a4).bind fun bt297 => (if bt295.2 = 0 then (if bt297.2 = 0 then (if bt295.1.size + bt297.1.size ≤ 9223372036854775807 then ((redpencillaw02_cuts.f a0 a2 a4 (bt295.1 ++ bt297.1) 0).bind fun t299 => (redpencillaw02_RunesHolds.j4 kj25 a0 t287 (!t299))) else (none)) else (redpencillaw02_RunesHolds.j4 kj25 a0 t287 false)) else (redpencillaw02_RunesHolds.j4 kj25 a0 t287 false)))) = some true := by rw [if_neg (show ¬ (false = true) by decide)] at H; exact H
              clear H
              have H := H1
              clear H1
              replace H := Option.bind_eq_some_iff.mp H
              obtain ⟨⟨t295, t296⟩, A310, H⟩ := H
              replace H : ((runes_Cut.f a0 a3 a4).bind fun bt297 => (if t296 = 0 then (if bt297.2 = 0 then (if t295.size + bt297.1.size ≤ 9223372036854775807 then ((redpencillaw02_cuts.f a0 a2 a4 (t295 ++ bt297.1) 0).bind fun t299 => (redpencillaw02_RunesHolds.j4 kj25 a0 t287 (!t299))) else (none)) else (redpencillaw02_RunesHolds.j4 kj25 a0 t287 false)) else (redpencillaw02_RunesHolds.j4 kj25 a0 t287 false))) = some true := H
              have A31 := Aside0.mk A310
              clear A310
              replace H := Option.bind_eq_some_iff.mp H
              obtain ⟨⟨t297, t298⟩, A320, H⟩ := H
              replace H : (if t296 = 0 then (if t298 = 0 then (if t295.size + t297.size ≤ 9223372036854775807 then ((redpencillaw02_cuts.f a0 a2 a4 (t295 ++ t297) 0).bind fun t299 => (redpencillaw02_RunesHolds.j4 kj25 a0 t287 (!t299))) else (none)) else (redpencillaw02_RunesHolds.j4 kj25 a0 t287 false)) else (redpencillaw02_RunesHolds.j4 kj25 a0 t287 false)) = some true := H
              have A32 := Aside0.mk A320
              clear A320
              have HC33 := Aside0.mk H
              clear H
              go_upto_region 19 with (first | ((with_reducible refine gate_callee (f := 29) rfl ?_); refine goesL_ (some 76) rfl rfl Tryd.func29 (by kernel_rfl) rfl #[.string a0, .int .i64 a2, .int .i64 a3] rfl (by (try simp only [List.map_toArray, List.map_cons, List.map_nil]); first | done | rfl | (simp only [List.length_drop, List.length_take]; rfl)) ?_; (with_reducible refine (runes_Cut.calls a0 a2 a3 t295 t296 _ ?side1 A31.out).mono ?_); (case side1 => exact GOK_below HG.out (by repeat (first | (with_reducible first | exact HB.out | apply below_alloc | apply pw_below_drewN | apply below_drew1) | exact HB.out))); rintro e w34 ⟨rfl, hb⟩; refine ⟨_, rfl, ?_⟩; have n0_ := Aside0.mk (Kd.R_below (by (with_reducible repeat (first | apply Kd.R_alloc | apply Kd.R_drewN | apply Kd.R_drew)); exact HO_13.out) hb); have n1_ := Aside0.mk (below_step (by repeat (first | (with_reducible first | exact HB.out | apply below_alloc | apply pw_below_drewN | apply below_drew1) | exact HB.out)) hb); clear HO_13; clear HB; have HO_13 := n0_; have HB := n1_; clear n0_ n1_; (try clear hb); (try clear hb2); (try clear hk); (try clear hi)) | ((with_reducible refine gate_callee (f := 29) rfl ?_); refine goesL_ (some 83) rfl rfl Tryd.func29 (by kernel_rfl) rfl #[.string a0, .int .i64 a3, .int .i64 a4] rfl (by (try simp only [List.map_toArray, List.map_cons, List.map_nil]); first | done | rfl | (simp only [List.length_drop, List.length_take]; rfl)) ?_; (with_reducible refine (runes_Cut.calls a0 a3 a4 t297 t298 _ ?side1 A32.out).mono ?_); (case side1 => exact GOK_below HG.out (by repeat (first | (with_reducible first | exact HB.out | apply below_alloc | apply pw_below_drewN | apply below_drew1) | exact HB.out))); rintro e w35 ⟨rfl, hb⟩; refine ⟨_, rfl, ?_⟩; have n0_ := Aside0.mk (Kd.R_below (by (with_reducible repeat (first | apply Kd.R_alloc | apply Kd.R_drewN | apply Kd.R_drew)); exact HO_13.out) hb); have n1_ := Aside0.mk (below_step (by repeat (first | (with_reducible first | exact HB.out | apply below_alloc | apply pw_below_drewN | apply below_drew1) | exact HB.out)) hb); clear HO_13; clear HB; have HO_13 := n0_; have HB := n1_; clear n0_ n1_; (try clear hb); (try clear hb2); (try clear hk); (try clear hi)))
              (try simp only [Act.put, List.setIfInBounds_toArray, List.set_cons_zero, List.set_cons_succ])
              go_cut [101] (fun v101 wc => ∃ (kq : Nat) (x101_32 : Bool), v101 = .bool x101_32 ∧ Aside0 (redpencillaw02_RunesHolds.j4 kq a0 t287 x101_32 = some true) ∧ Aside0 (kq ≤ kj25) ∧ Aside0 (Kd.R (Kd.int .i32) 21 wc w.heap.size (fun _ => True) (.slice Ao21 t287.length co21) t287) ∧ Aside0 (Below w.heap.size w wc))
              case first =>
               have H := HC33.out
               clear HC33
               by_cases c36 : t296 = 0
               ·
                rw [if_pos c36] at H
                have c36b0 : (t296 == 0) = true := beq_iff_eq.mpr c36
                have c36b1 : (t296 != 0) = false := bne_eq_false_iff_eq.mpr c36
                clear c36
                (first | rw [c36b0] | (simp only [i64_w, i32_w]; rw [c36b0]) | skip)
                by_cases c37 : t298 = 0
                ·
                 rw [if_pos c37] at H
                 have c37b0 : (t298 == 0) = true := beq_iff_eq.mpr c37
                 have c37b1 : (t298 != 0) = false := bne_eq_false_iff_eq.mpr c37
                 clear c37
                 by_cases c38 : t295.size + t297.size ≤ 9223372036854775807
                 ·
                  rw [if_pos c38] at H
                  have c38b0 := eq_true c38
                  have c38b1 : decide (t295.size + t297.size ≤ 9223372036854775807) = true := decide_eq_true c38
                  try have c38b2 : (9223372036854775807 < t295.size + t297.size) = False := eq_false (Nat.not_lt.2 c38)
                  replace H := Option.bind_eq_some_iff.mp H
                  obtain ⟨t299, A390, H⟩ := H
                  replace H : (redpencillaw02_RunesHolds.j4 kj25 a0 t287 (!t299)) = some true := H
                  have A39 := Aside0.mk A390
                  clear A390
                  have H' := Aside0.mk H
                  clear H
                  go_wp2_with (first | (go_at_call 25; (with_reducible refine (redpencillaw02_cuts.calls a0 a2 a4 (t295 ++ t297) 0 t299 _ ?side1 A39.out).mono ?_); (case side1 => exact GOK_below HG.out (by repeat (first | (with_reducible first | exact HB.out | apply below_alloc | apply pw_below_drewN | apply below_drew1) | exact HB.out))); rintro e w40 ⟨rfl, hb⟩; have n0_ := Aside0.mk (Kd.R_below (by (with_reducible repeat (first | apply Kd.R_alloc | apply Kd.R_drewN | apply Kd.R_drew)); exact HO_13.out) hb); have n1_ := Aside0.mk (below_step (by repeat (first | (with_reducible first | exact HB.out | apply below_alloc | apply pw_below_drewN | apply below_drew1) | exact HB.out)) hb); clear HO_13; clear HB; have HO_13 := n0_; have HB := n1_; clear n0_ n1_; (try clear hb); (try clear hb2); (try clear hk); (try clear hi)))
                  go_meet
                  case rel => exact ⟨_, (!t299), (by first | rfl | (simp; done) | (simp [*]; done)), H', ⟨by have := HJ5.out; have := HJ11.out; have := HK3.out; have := HJ25.out; first | omega | exact Nat.le_refl _⟩, ⟨by (with_reducible repeat (first | apply Kd.R_alloc | apply Kd.R_drewN | apply Kd.R_drew)); exact HO_13.out⟩, ⟨by repeat (first | (with_reducible first | exact HB.out | apply below_alloc | apply pw_below_drewN | apply below_drew1) | exact HB.out)⟩⟩
                 ·
                  rw [if_neg c38] at H
                  exact absurd H (by simp)
                ·
                 rw [if_neg c37] at H
                 have c37b0 : (t298 == 0) = false := beq_eq_false_iff_ne.mpr c37
                 have c37b1 : (t298 != 0) = true := bne_iff_ne.mpr c37
                 have H' := Aside0.mk H
                 clear H
                 go_wp2
                 go_meet
                 case rel => exact ⟨_, (false), (by first | rfl | (simp; done) | (simp [*]; done)), H', ⟨by have := HJ5.out; have := HJ11.out; have := HK3.out; have := HJ25.out; first | omega | exact Nat.le_refl _⟩, ⟨by (with_reducible repeat (first | apply Kd.R_alloc | apply Kd.R_drewN | apply Kd.R_drew)); exact HO_13.out⟩, ⟨by repeat (first | (with_reducible first | exact HB.out | apply below_alloc | apply pw_below_drewN | apply below_drew1) | exact HB.out)⟩⟩
               ·
                rw [if_neg c36] at H
                have c36b0 : (t296 == 0) = false := beq_eq_false_iff_ne.mpr c36
                have c36b1 : (t296 != 0) = true := bne_iff_ne.mpr c36
                (first | rw [c36b0] | (simp only [i64_w, i32_w]; rw [c36b0]) | skip)
                have H' := Aside0.mk H
                clear H
                go_wp2
                go_meet
                case rel => exact ⟨_, (false), (by first | rfl | (simp; done) | (simp [*]; done)), H', ⟨by have := HJ5.out; have := HJ11.out; have := HK3.out; have := HJ25.out; first | omega | exact Nat.le_refl _⟩, ⟨by (with_reducible repeat (first | apply Kd.R_alloc | apply Kd.R_drewN | apply Kd.R_drew)); exact HO_13.out⟩, ⟨by repeat (first | (with_reducible first | exact HB.out | apply below_alloc | apply pw_below_drewN | apply below_drew1) | exact HB.out)⟩⟩
              case rest =>
               clear HC33
               try clear c1
               try clear c2
               try clear p2
               try clear q2
               try clear hx2
               try clear c3
               try clear p6
               try clear c7
               try clear c7b0
               try clear c7b1
               try clear c8
               try clear c11
               try clear c14
               try clear c14b0
               try clear c14b1
               try clear c15
               try clear c17
               try clear c19
               try clear c19b0
               try clear c19b1
               try clear c22
               try clear c22b0
               try clear c23
               try clear c23b0
               try clear c24
               try clear c24b0
               try clear c27
               try clear c27b0
               try clear c27b1
               try clear c28
               try clear c29
               try clear p29
               try clear q29
               try clear hx29
               try clear c30
               try clear c36
               try clear c36b0
               try clear c36b1
               try clear c37
               try clear c37b0
               try clear c37b1
               try clear c38
               try clear c38b0
               try clear c38b1
               try clear c38b2
               try clear hx292_0
               try clear p2
               try clear p29
               try clear p292
               try clear p6
               try clear q2
               try clear q29
               try clear q292
               obtain ⟨kq, x101_32, rfl, HA, HJ32, HO_13, HB⟩ := hcut
               cases kq with
               | zero => exact absurd HA.out (by simp [redpencillaw02_RunesHolds.j4])
               | succ kj32 =>
                have H := HA.out
                clear HA
                simp only [redpencillaw02_RunesHolds.j4] at H
                by_cases c41 : x101_32 = true
                ·
                 subst c41
                 have H1 : (some false) = some true := by rw [if_pos rfl] at H; exact H
                 exact absurd H1 (by simp)
                ·
                 replace c41 := Bool.eq_false_iff.mpr c41
                 subst c41
                 have H1 : ((redpencillaw02_cuts.f a0 0 (t287.length : Int) a0 0).bind fun t300 => (if t300 = true then ((redpencillaw02_known.f kj32).bind fun t301 => (some t301)) else (some false))) = some true := by rw [if_neg (show ¬ (false = true) by decide)] at H; exact H
                 clear H
                 have H := H1
                 clear H1
                 replace H := Option.bind_eq_some_iff.mp H
                 obtain ⟨t300, A420, H⟩ := H
                 replace H : (if t300 = true then ((redpencillaw02_known.f kj32).bind fun t301 => (some t301)) else (some false)) = some true := H
                 have A42 := Aside0.mk A420
                 clear A420
                 by_cases c43 : t300 = true
                 ·
                  subst c43
                  have H1 : ((redpencillaw02_known.f kj32).bind fun t301 => (some t301)) = some true := by rw [if_pos rfl] at H; exact H
                  clear H
                  have H := H1
                  clear H1
                  replace H := Option.bind_eq_some_iff.mp H
                  obtain ⟨t301, A440, H⟩ := H
                  replace H : (some t301) = some true := H
                  have A44 := Aside0.mk A440
                  clear A440
                  obtain rfl := Option.some.inj H
                  go_wp2_with (first | ((with_reducible refine gate_callee (f := 25) rfl ?_); refine goesL_ (some 106) rfl rfl Tryd.func25 (by kernel_rfl) rfl #[.string a0, .int .i64 0, .int .i64 (t287.length : Int), .string a0, .int .i64 0] rfl (by (try simp only [List.map_toArray, List.map_cons, List.map_nil]); first | done | rfl | (simp only [List.length_drop, List.length_take]; rfl)) ?_; (with_reducible refine (redpencillaw02_cuts.calls a0 0 (t287.length : Int) a0 0 true _ ?side1 A42.out).mono ?_); (case side1 => exact GOK_below HG.out (by repeat (first | (with_reducible first | exact HB.out | apply below_alloc | apply pw_below_drewN | apply below_drew1) | exact HB.out))); rintro e w45 ⟨rfl, hb⟩; refine ⟨_, rfl, ?_⟩; have n0_ := Aside0.mk (Kd.R_below (by (with_reducible repeat (first | apply Kd.R_alloc | apply Kd.R_drewN | apply Kd.R_drew)); exact HO_13.out) hb); have n1_ := Aside0.mk (below_step (by repeat (first | (with_reducible first | exact HB.out | apply below_alloc | apply pw_below_drewN | apply below_drew1) | exact HB.out)) hb); clear HO_13; clear HB; have HO_13 := n0_; have HB := n1_; clear n0_ n1_; (try clear hb); (try clear hb2); (try clear hk); (try clear hi)) | (go_at_call 15; (with_reducible refine (redpencillaw02_known.calls kj32  true _ ?side1 A44.out).mono ?_); (case side1 => exact GOK_below HG.out (by repeat (first | (with_reducible first | exact HB.out | apply below_alloc | apply pw_below_drewN | apply below_drew1) | exact HB.out))); rintro e w46 ⟨rfl, hb⟩; have n0_ := Aside0.mk (Kd.R_below (by (with_reducible repeat (first | apply Kd.R_alloc | apply Kd.R_drewN | apply Kd.R_drew)); exact HO_13.out) hb); have n1_ := Aside0.mk (below_step (by repeat (first | (with_reducible first | exact HB.out | apply below_alloc | apply pw_below_drewN | apply below_drew1) | exact HB.out)) hb); clear HO_13; clear HB; have HO_13 := n0_; have HB := n1_; clear n0_ n1_; (try clear hb); (try clear hb2); (try clear hk); (try clear hi)))
                  go_ret
                  exact ⟨by first | rfl | (simp [errW_none, errW_some] <;> rfl) | (simp [*, errW_none, errW_some] <;> rfl), by repeat (first | (with_reducible first | exact HB.out | apply below_alloc | apply pw_below_drewN | apply below_drew1) | exact HB.out)⟩
                 ·
                  replace c43 := Bool.eq_false_iff.mpr c43
                  subst c43
                  have H1 : (some false) = some true := by rw [if_neg (show ¬ (false = true) by decide)] at H; exact H
                  exact absurd H1 (by simp)
       ·
        rw [if_neg c19] at H
        have c19b0 : (t288 == 0) = false := beq_eq_false_iff_ne.mpr c19
        have c19b1 : (t288 != 0) = true := bne_iff_ne.mpr c19
        replace H := Option.bind_eq_some_iff.mp H
        obtain ⟨t291, A480, H⟩ := H
        replace H : (some t291) = some true := H
        have A48 := Aside0.mk A480
        clear A480
        obtain rfl := Option.some.inj H
        go_wp2_with (first | ((with_reducible refine gate_callee (f := 28) rfl ?_); refine goesL_ (some 45) rfl rfl Tryd.func28 (by kernel_rfl) rfl #[.string a0] rfl (by (try simp only [List.map_toArray, List.map_cons, List.map_nil]); first | done | rfl | (simp only [List.length_drop, List.length_take]; rfl)) ?_; (with_reducible refine (runes_Decode.calls a0 t287 t288 _ ?side1 A18.out).mono ?_); (case side1 => exact GOK_below HG.out (by repeat (first | (with_reducible first | exact HB.out | apply below_alloc | apply pw_below_drewN | apply below_drew1) | exact HB.out))); rintro e w49 ⟨v289, rfl, ho0, hb⟩; refine ⟨_, rfl, ?_⟩; have n0_ := Aside0.mk (Kd.R_lower ho0 (below_size (by repeat (first | (with_reducible first | exact HB.out | apply below_alloc | apply pw_below_drewN | apply below_drew1) | exact HB.out)))); have n1_ := Aside0.mk (below_step (by repeat (first | (with_reducible first | exact HB.out | apply below_alloc | apply pw_below_drewN | apply below_drew1) | exact HB.out)) hb); clear HB; have HO290 := n0_; have HB := n1_; clear n0_ n1_; (try clear hb); (try clear hb2); (try clear hk); (try clear hi); (try clear ho0)) | ((with_reducible refine gate_callee (f := 15) rfl ?_); refine goesL_ (some 50) rfl rfl Tryd.func15 (by kernel_rfl) rfl #[] rfl (by (try simp only [List.map_toArray, List.map_cons, List.map_nil]); first | done | rfl | (simp only [List.length_drop, List.length_take]; rfl)) ?_; (with_reducible refine (redpencillaw02_known.calls kj11  true _ ?side1 A48.out).mono ?_); (case side1 => exact GOK_below HG.out (by repeat (first | (with_reducible first | exact HB.out | apply below_alloc | apply pw_below_drewN | apply below_drew1) | exact HB.out))); rintro e w50 ⟨rfl, hb⟩; refine ⟨_, rfl, ?_⟩; have n0_ := Aside0.mk (Kd.R_below (by (with_reducible repeat (first | apply Kd.R_alloc | apply Kd.R_drewN | apply Kd.R_drew)); exact HO290.out) hb); have n1_ := Aside0.mk (below_step (by repeat (first | (with_reducible first | exact HB.out | apply below_alloc | apply pw_below_drewN | apply below_drew1) | exact HB.out)) hb); clear HO290; clear HB; have HO290 := n0_; have HB := n1_; clear n0_ n1_; (try clear hb); (try clear hb2); (try clear hk); (try clear hi)))
        go_ret
        exact ⟨by first | rfl | (simp [errW_none, errW_some] <;> rfl) | (simp [*, errW_none, errW_some] <;> rfl), by repeat (first | (with_reducible first | exact HB.out | apply below_alloc | apply pw_below_drewN | apply below_drew1) | exact HB.out)⟩

end Go.Proofs.YtphgoaacmkagmaaDoor.PAll
