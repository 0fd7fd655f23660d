-- Printed by a program of this session (wip/tools/mkprint2.py) out of the translation; Lean checks it. -- narrowed
import Derived.Test.YtnbjkpfpcggopaaGreatDoorPAllx0
import Derived.Test.YtnbjkpfpcggopaaGreatDoorPAllx2
import Derived.Test.YtnbjkpfpcggopaaGreatDoorPAllx3
import Derived.Test.YtnbjkpfpcggopaaGreatDoorEb3
namespace Go.Proofs.YtnbjkpfpcggopaaGreatDoor.PAll
open Go.RowKit Go.Proofs.YtnbjkpfpcggopaaGreatDoorW.PrintWords Go.Proofs.YtnbjkpfpcggopaaGreatDoorW.PrintLast Go.Proofs.YtnbjkpfpcggopaaGreatDoorW.PrintMore
attribute [local go_sem] max2_int min2_int max_two min_two max_three min_three max_four min_four   -- for this text's walks alone
set_option linter.unusedVariables false
set_option linter.unusedSimpArgs false

/-! ### redpencillaw05_VectorMerges: function 5 -/
mutual
def redpencillaw05_VectorMerges.j0 : Nat → List (S25) → List (S25) → Bool → Option (Bool)
 | 0, _, _, _ => none
 | k + 1, x0, x1, x17 => if x17 = true then ((redpencillaw05_known.f k).bind fun t274 => (some t274)) else ((redpencilref05_Valid.f k x0).bind fun t275 => (if t275 = true then ((redpencilref05_Valid.f k x1).bind fun t276 => (redpencillaw05_VectorMerges.j1 k x0 x1 (!t276))) else (redpencillaw05_VectorMerges.j1 k x0 x1 true)))
def redpencillaw05_VectorMerges.j1 : Nat → List (S25) → List (S25) → Bool → Option (Bool)
 | 0, _, _, _ => none
 | k + 1, x0, x1, x26 => if x26 = true then ((redpencillaw05_merged.f k x0 x1 ([] : List (S25)) 2).bind fun t277 => (if t277 = true then ((redpencillaw05_orders.f x0 x1 0 2).bind fun t278 => (if t278 = true then ((redpencillaw05_known.f k).bind fun t279 => (some t279)) else (some false))) else (some false))) else (if ([] : List (S25)).length + x0.length < 8796093022208 then ((some (([] : List (S25)) ++ x0 : List (S25))).bind fun y280 => (if ([] : List (S25)).length + x1.length < 8796093022208 then ((some (([] : List (S25)) ++ x1 : List (S25))).bind fun y283 => ((vector_Merge.f y280 y283).bind fun bt286 => ((redpencilref05_Merge.f x0 x1).bind fun t290 => ((redpencillaw05_gives.f k bt286.1 bt286.2 t290 0).bind fun t293 => (if t293 = true then ((redpencilref05_Order.f k x0 x1).bind fun t294 => ((redpencillaw05_orders.f y280 y283 t294 0).bind fun t295 => (redpencillaw05_VectorMerges.j2 k x0 x1 y280 y283 bt286.1 (!t295)))) else (redpencillaw05_VectorMerges.j2 k x0 x1 y280 y283 bt286.1 true)))))) else (none))) else (none))
def redpencillaw05_VectorMerges.j2 : Nat → List (S25) → List (S25) → List (S25) → List (S25) → List (S25) → Bool → Option (Bool)
 | 0, _, _, _, _, _, _ => none
 | k + 1, x0, x1, x5, x6, x7, x63 => if x63 = true then (some false) else (redpencillaw05_VectorMerges.l0 k x0 x1 x5 x6 x7 (x7.length : Int) 0)
def redpencillaw05_VectorMerges.l0 : Nat → List (S25) → List (S25) → List (S25) → List (S25) → List (S25) → Int → Int → Option (Bool)
 | 0, _, _, _, _, _, _, _ => none
 | k + 1, x0, x1, x5, x6, x7, x65, x66 => if x66 < x65 then (if 0 ≤ x66 then (if x66 < (x7.length : Int) then (redpencillaw05_VectorMerges.l0 k x0 x1 x5 x6 (x7.set (x66 : Int).toNat (⟨(rd_T25 x7 x66).f0, wrap64 (((rd_T25 x7 x66).f1) + 1)⟩ : S25)) x65 (wrap64 (x66 + 1))) else (none)) else (none)) else ((redpencilref04_Same.f k x5 x0).bind fun t298 => (if t298 = true then ((redpencilref04_Same.f k x6 x1).bind fun t299 => (if t299 = true then ((redpencillaw05_known.f k).bind fun t300 => (some t300)) else (some false))) else (some false)))
end
def redpencillaw05_VectorMerges.f (k : Nat) (l0 : List (S25)) (l1 : List (S25)) : Option (Bool) := if (l0.length : Int) > 40 then (redpencillaw05_VectorMerges.j0 k l0 l1 true) else (redpencillaw05_VectorMerges.j0 k l0 l1 (decide ((l1.length : Int) > 40)))
theorem redpencillaw05_VectorMerges.j2_no : ∀ k y0 y1 y2 y3 y4, ¬ redpencillaw05_VectorMerges.j2 k y0 y1 y2 y3 y4 true = some true := by
  intro k y0 y1 y2 y3 y4
  cases k with
  | zero => rw [redpencillaw05_VectorMerges.j2]; simp
  | succ k => rw [redpencillaw05_VectorMerges.j2]; simp
set_option maxHeartbeats 8000000 in
set_option maxRecDepth 100000 in
theorem redpencillaw05_VectorMerges.calls (k : Nat) (A0 : Option Addr) (c0 : Nat) (l0 : List (S25)) (A1 : Option Addr) (c1 : Nat) (l1 : List (S25)) (w : World) (hG : GOK w) (hr0 : Kd.C k25 w A0 l0.length l0) (hc0 : l0.length ≤ c0) (hr1 : Kd.C k25 w A1 l1.length l1) (hc1 : l1.length ≤ c1) (h : redpencillaw05_VectorMerges.f k l0 l1 = some true) :
  Calls Tryz.prog 5 #[.slice A0 l0.length c0, .slice A1 l1.length c1] w fun e w' => e = .returned (.bool true) ∧ Below w.heap.size w w' := by
 have HR0 := Aside0.mk hr0
 have HC0 := Aside0.mk hc0
 clear hr0 hc0
 have HR1 := Aside0.mk hr1
 have HC1 := Aside0.mk hc1
 clear hr1 hc1
 have HB := Aside0.mk (Below.refl w.heap.size w)
 have HG := Aside0.mk hG
 clear hG
 have H : (if (l0.length : Int) > 40 then (redpencillaw05_VectorMerges.j0 k l0 l1 true) else (redpencillaw05_VectorMerges.j0 k l0 l1 (decide ((l1.length : Int) > 40)))) = some true := h
 clear h
 have HC3 := Aside0.mk H
 clear H
 go_enter Tryz.func5, Tryz.ntmps5
 go_upto_region 1 with (fail)
 go_cut [17] (fun v17 wc => ∃ (kq : Nat) (x17_2 : Bool), v17 = .bool x17_2 ∧ Aside0 (redpencillaw05_VectorMerges.j0 kq l0 l1 x17_2 = some true) ∧ Aside0 (kq ≤ k) ∧ Aside0 (Below w.heap.size w wc))
 case first =>
  have H := HC3.out
  clear HC3
  by_cases c4 : (l0.length : Int) > 40
  ·
   rw [if_pos c4] at H
   have c4b0 : decide (40 < (l0.length : Int)) = true := decide_eq_true c4
   have c4b1 : decide (40 < l0.length) = true := decide_eq_true (by omega)
   clear c4
   (first | rw [c4b0] | (simp only [i64_w, i32_w]; rw [c4b0]) | skip)
   have H' := Aside0.mk H
   clear H
   go_wp2
   go_meet
   case rel => exact ⟨_, (true), (by first | rfl | (simp; done) | (simp [*]; done)), H', ⟨by first | omega | exact Nat.le_refl _⟩, ⟨by repeat (first | (with_reducible first | exact HB.out | apply below_alloc | apply pw_below_drewN | apply below_drew1) | exact HB.out)⟩⟩
  ·
   rw [if_neg c4] at H
   have c4b0 : decide (40 < (l0.length : Int)) = false := decide_eq_false c4
   have c4b1 : decide (40 < l0.length) = false := decide_eq_false (by omega)
   clear c4
   (first | rw [c4b0] | (simp only [i64_w, i32_w]; rw [c4b0]) | skip)
   have H' := Aside0.mk H
   clear H
   go_wp2
   go_meet
   case rel => exact ⟨_, (decide ((l1.length : Int) > 40)), (by first | rfl | (simp; done) | (simp [*]; done)), H', ⟨by first | omega | exact Nat.le_refl _⟩, ⟨by repeat (first | (with_reducible first | exact HB.out | apply below_alloc | apply pw_below_drewN | apply below_drew1) | exact HB.out)⟩⟩
 case rest =>
  clear HC3
  try clear c1
  try clear p2
  try clear c4
  try clear c4b0
  try clear c4b1
  obtain ⟨kq, x17_2, rfl, HA, HJ2, HB⟩ := hcut
  cases kq with
  | zero => exact absurd HA.out (by simp [redpencillaw05_VectorMerges.j0])
  | succ kj2 =>
   have H := HA.out
   clear HA
   simp only [redpencillaw05_VectorMerges.j0] at H
   by_cases c5 : x17_2 = true
   ·
    subst c5
    have H1 : ((redpencillaw05_known.f kj2).bind fun t274 => (some t274)) = some true := by rw [if_pos rfl] at H; exact H
    clear H
    have H := H1
    clear H1
    replace H := Option.bind_eq_some_iff.mp H
    obtain ⟨t274, A60, H⟩ := H
    replace H : (some t274) = some true := H
    have A6 := Aside0.mk A60
    clear A60
    obtain rfl := Option.some.inj H
    go_wp2_with (first | ((with_reducible refine gate_callee (f := 8) rfl ?_); refine goesL_ (some 18) rfl rfl Tryz.func8 (by kernel_rfl) rfl #[] rfl (by (try simp only [List.map_toArray, List.map_cons, List.map_nil]); first | done | rfl | (simp only [List.length_drop, List.length_take]; rfl)) ?_; (with_reducible refine (redpencillaw05_known.calls kj2  true _ ?side1 A6.out).mono ?_); (case side1 => exact GOK_below HG.out (by repeat (first | (with_reducible first | exact HB.out | apply below_alloc | apply pw_below_drewN | apply below_drew1) | exact HB.out))); rintro e w7 ⟨rfl, hb⟩; (try clear A6); refine ⟨_, rfl, ?_⟩; have n0_ := Aside0.mk (below_step (by repeat (first | (with_reducible first | exact HB.out | apply below_alloc | apply pw_below_drewN | apply below_drew1) | exact HB.out)) hb); clear HB; have HB := n0_; clear n0_; (try clear hb); (try clear hb2); (try clear hk); (try clear hi)))
    go_ret
    exact ⟨by first | rfl | (simp [errW_none, errW_some] <;> rfl) | (simp [*, errW_none, errW_some] <;> rfl), by repeat (first | (with_reducible first | exact HB.out | apply below_alloc | apply pw_below_drewN | apply below_drew1) | exact HB.out)⟩
   ·
    replace c5 := Bool.eq_false_iff.mpr c5
    subst c5
    have H1 : ((redpencilref05_Valid.f kj2 l0).bind fun t275 => (if t275 = true then ((redpencilref05_Valid.f kj2 l1).bind fun t276 => (redpencillaw05_VectorMerges.j1 kj2 l0 l1 (!t276))) else (redpencillaw05_VectorMerges.j1 kj2 l0 l1 true))) = some true := by rw [if_neg (show ¬ (false = true) by decide)] at H; exact H
    clear H
    have H := H1
    clear H1
    have HC8 := Aside0.mk H
    clear H
    go_upto_region 3 with (fail)
    go_cut [26] (fun v26 wc => ∃ (kq : Nat) (x26_7 : Bool), v26 = .bool x26_7 ∧ Aside0 (redpencillaw05_VectorMerges.j1 kq l0 l1 x26_7 = some true) ∧ Aside0 (kq ≤ kj2) ∧ Aside0 (Below w.heap.size w wc))
    case first =>
     have H := HC8.out
     clear HC8
     replace H := Option.bind_eq_some_iff.mp H
     obtain ⟨t275, A90, H⟩ := H
     replace H : (if t275 = true then ((redpencilref05_Valid.f kj2 l1).bind fun t276 => (redpencillaw05_VectorMerges.j1 kj2 l0 l1 (!t276))) else (redpencillaw05_VectorMerges.j1 kj2 l0 l1 true)) = some true := H
     have A9 := Aside0.mk A90
     clear A90
     by_cases c10 : t275 = true
     ·
      subst c10
      have H1 : ((redpencilref05_Valid.f kj2 l1).bind fun t276 => (redpencillaw05_VectorMerges.j1 kj2 l0 l1 (!t276))) = some true := by rw [if_pos rfl] at H; exact H
      clear H
      have H := H1
      clear H1
      replace H := Option.bind_eq_some_iff.mp H
      obtain ⟨t276, A110, H⟩ := H
      replace H : (redpencillaw05_VectorMerges.j1 kj2 l0 l1 (!t276)) = some true := H
      have A11 := Aside0.mk A110
      clear A110
      have H' := Aside0.mk H
      clear H
      go_wp2_with (first | ((with_reducible refine gate_callee (f := 10) rfl ?_); refine goesL_ (some 20) rfl rfl Tryz.func10 (by kernel_rfl) rfl #[.slice A0 l0.length c0] rfl (by (try simp only [List.map_toArray, List.map_cons, List.map_nil]); first | done | rfl | (simp only [List.length_drop, List.length_take]; rfl)) ?_; (with_reducible refine (redpencilref05_Valid.calls kj2 _ _ l0 true _ ?side1 ?side2 A9.out).mono ?_); (case side1 => repeat (first | exact (Kd.C_below HR0.out HB.out) | (with_reducible refine Kd.C_alloc ?_ _) | (with_reducible refine Kd.C_drewN ?_ _) | (with_reducible refine Kd.C_drew ?_))); (case side2 => exact HC0.out); rintro e w12 ⟨rfl, hb⟩; (try clear A9); refine ⟨_, rfl, ?_⟩; have n0_ := Aside0.mk (below_step (by repeat (first | (with_reducible first | exact HB.out | apply below_alloc | apply pw_below_drewN | apply below_drew1) | exact HB.out)) hb); clear HB; have HB := n0_; clear n0_; (try clear hb); (try clear hb2); (try clear hk); (try clear hi)) | (go_at_call 10; (with_reducible refine (redpencilref05_Valid.calls kj2 _ _ l1 t276 _ ?side1 ?side2 A11.out).mono ?_); (case side1 => repeat (first | exact (Kd.C_below HR1.out HB.out) | (with_reducible refine Kd.C_alloc ?_ _) | (with_reducible refine Kd.C_drewN ?_ _) | (with_reducible refine Kd.C_drew ?_))); (case side2 => exact HC1.out); rintro e w13 ⟨rfl, hb⟩; (try clear A11); have n0_ := Aside0.mk (below_step (by repeat (first | (with_reducible first | exact HB.out | apply below_alloc | apply pw_below_drewN | apply below_drew1) | exact HB.out)) hb); clear HB; have HB := n0_; clear n0_; (try clear hb); (try clear hb2); (try clear hk); (try clear hi)))
      go_meet
      case rel => exact ⟨_, (!t276), (by first | rfl | (simp; done) | (simp [*]; done)), H', ⟨by have := HJ2.out; first | omega | exact Nat.le_refl _⟩, ⟨by repeat (first | (with_reducible first | exact HB.out | apply below_alloc | apply pw_below_drewN | apply below_drew1) | exact HB.out)⟩⟩
     ·
      replace c10 := Bool.eq_false_iff.mpr c10
      subst c10
      have H1 : (redpencillaw05_VectorMerges.j1 kj2 l0 l1 true) = some true := by rw [if_neg (show ¬ (false = true) by decide)] at H; exact H
      clear H
      have H := H1
      clear H1
      have H' := Aside0.mk H
      clear H
      go_wp2_with (first | ((with_reducible refine gate_callee (f := 10) rfl ?_); refine goesL_ (some 20) rfl rfl Tryz.func10 (by kernel_rfl) rfl #[.slice A0 l0.length c0] rfl (by (try simp only [List.map_toArray, List.map_cons, List.map_nil]); first | done | rfl | (simp only [List.length_drop, List.length_take]; rfl)) ?_; (with_reducible refine (redpencilref05_Valid.calls kj2 _ _ l0 false _ ?side1 ?side2 A9.out).mono ?_); (case side1 => repeat (first | exact (Kd.C_below HR0.out HB.out) | (with_reducible refine Kd.C_alloc ?_ _) | (with_reducible refine Kd.C_drewN ?_ _) | (with_reducible refine Kd.C_drew ?_))); (case side2 => exact HC0.out); rintro e w14 ⟨rfl, hb⟩; (try clear A9); refine ⟨_, rfl, ?_⟩; have n0_ := Aside0.mk (below_step (by repeat (first | (with_reducible first | exact HB.out | apply below_alloc | apply pw_below_drewN | apply below_drew1) | exact HB.out)) hb); clear HB; have HB := n0_; clear n0_; (try clear hb); (try clear hb2); (try clear hk); (try clear hi)))
      go_meet
      case rel => exact ⟨_, (true), (by first | rfl | (simp; done) | (simp [*]; done)), H', ⟨by have := HJ2.out; first | omega | exact Nat.le_refl _⟩, ⟨by repeat (first | (with_reducible first | exact HB.out | apply below_alloc | apply pw_below_drewN | apply below_drew1) | exact HB.out)⟩⟩
    case rest =>
     clear HC8
     try clear c1
     try clear p2
     try clear c4
     try clear c4b0
     try clear c4b1
     try clear c5
     try clear c8
     try clear c10
     try clear p2
     obtain ⟨kq, x26_7, rfl, HA, HJ7, HB⟩ := hcut
     cases kq with
     | zero => exact absurd HA.out (by simp [redpencillaw05_VectorMerges.j1])
     | succ kj7 =>
      have H := HA.out
      clear HA
      simp only [redpencillaw05_VectorMerges.j1] at H
      by_cases c15 : x26_7 = true
      ·
       subst c15
       have H1 : ((redpencillaw05_merged.f kj7 l0 l1 ([] : List (S25)) 2).bind fun t277 => (if t277 = true then ((redpencillaw05_orders.f l0 l1 0 2).bind fun t278 => (if t278 = true then ((redpencillaw05_known.f kj7).bind fun t279 => (some t279)) else (some false))) else (some false))) = some true := by rw [if_pos rfl] at H; exact H
       clear H
       have H := H1
       clear H1
       replace H := Option.bind_eq_some_iff.mp H
       obtain ⟨t277, A160, H⟩ := H
       replace H : (if t277 = true then ((redpencillaw05_orders.f l0 l1 0 2).bind fun t278 => (if t278 = true then ((redpencillaw05_known.f kj7).bind fun t279 => (some t279)) else (some false))) else (some false)) = some true := H
       have A16 := Aside0.mk A160
       clear A160
       by_cases c17 : t277 = true
       ·
        subst c17
        have H1 : ((redpencillaw05_orders.f l0 l1 0 2).bind fun t278 => (if t278 = true then ((redpencillaw05_known.f kj7).bind fun t279 => (some t279)) else (some false))) = some true := by rw [if_pos rfl] at H; exact H
        clear H
        have H := H1
        clear H1
        replace H := Option.bind_eq_some_iff.mp H
        obtain ⟨t278, A180, H⟩ := H
        replace H : (if t278 = true then ((redpencillaw05_known.f kj7).bind fun t279 => (some t279)) else (some false)) = some true := H
        have A18 := Aside0.mk A180
        clear A180
        by_cases c19 : t278 = true
        ·
         subst c19
         have H1 : ((redpencillaw05_known.f kj7).bind fun t279 => (some t279)) = some true := by rw [if_pos rfl] at H; exact H
         clear H
         have H := H1
         clear H1
         replace H := Option.bind_eq_some_iff.mp H
         obtain ⟨t279, A200, H⟩ := H
         replace H : (some t279) = some true := H
         have A20 := Aside0.mk A200
         clear A200
         obtain rfl := Option.some.inj H
         go_wp2_with (first | ((with_reducible refine gate_callee (f := 21) rfl ?_); refine goesL_ (some 29) rfl rfl Tryz.func21 (by kernel_rfl) rfl #[.slice A0 l0.length c0, .slice A1 l1.length c1, .slice none 0 0, .int .i64 2] rfl (by (try simp only [List.map_toArray, List.map_cons, List.map_nil]); first | done | rfl | (simp only [List.length_drop, List.length_take]; rfl)) ?_; (refine (redpencillaw05_merged.calls kj7 _ _ l0 _ _ l1 _ _ ([] : List (S25)) 2 true _ ?side1 ?side2 ?side3 ?side4 ?side5 ?side6 A16.out).mono ?_); (case side1 => repeat (first | exact (Kd.C_below HR0.out HB.out) | (with_reducible refine Kd.C_alloc ?_ _) | (with_reducible refine Kd.C_drewN ?_ _) | (with_reducible refine Kd.C_drew ?_))); (case side2 => exact HC0.out); (case side3 => repeat (first | exact (Kd.C_below HR1.out HB.out) | (with_reducible refine Kd.C_alloc ?_ _) | (with_reducible refine Kd.C_drewN ?_ _) | (with_reducible refine Kd.C_drew ?_))); (case side4 => exact HC1.out); (case side5 => exact Kd.C_nil _ _); (case side6 => exact Nat.le_refl _); rintro e w21 ⟨rfl, hb⟩; (try clear A16); refine ⟨_, rfl, ?_⟩; have n0_ := Aside0.mk (below_step (by repeat (first | (with_reducible first | exact HB.out | apply below_alloc | apply pw_below_drewN | apply below_drew1) | exact HB.out)) hb); clear HB; have HB := n0_; clear n0_; (try clear hb); (try clear hb2); (try clear hk); (try clear hi)) | (go_at_call 22; (with_reducible refine (redpencillaw05_orders.calls _ _ l0 _ _ l1 0 2 true _ ?side1 ?side2 ?side3 ?side4 A18.out).mono ?_); (case side1 => repeat (first | exact (Kd.C_below HR0.out HB.out) | (with_reducible refine Kd.C_alloc ?_ _) | (with_reducible refine Kd.C_drewN ?_ _) | (with_reducible refine Kd.C_drew ?_))); (case side2 => exact HC0.out); (case side3 => repeat (first | exact (Kd.C_below HR1.out HB.out) | (with_reducible refine Kd.C_alloc ?_ _) | (with_reducible refine Kd.C_drewN ?_ _) | (with_reducible refine Kd.C_drew ?_))); (case side4 => exact HC1.out); rintro e w22 ⟨rfl, hb⟩; (try clear A18); have n0_ := Aside0.mk (below_step (by repeat (first | (with_reducible first | exact HB.out | apply below_alloc | apply pw_below_drewN | apply below_drew1) | exact HB.out)) hb); clear HB; have HB := n0_; clear n0_; (try clear hb); (try clear hb2); (try clear hk); (try clear hi)) | (go_at_call 8; (with_reducible refine (redpencillaw05_known.calls kj7  true _ ?side1 A20.out).mono ?_); (case side1 => exact GOK_below HG.out (by repeat (first | (with_reducible first | exact HB.out | apply below_alloc | apply pw_below_drewN | apply below_drew1) | exact HB.out))); rintro e w23 ⟨rfl, hb⟩; (try clear A20); have n0_ := Aside0.mk (below_step (by repeat (first | (with_reducible first | exact HB.out | apply below_alloc | apply pw_below_drewN | apply below_drew1) | exact HB.out)) hb); clear HB; have HB := n0_; clear n0_; (try clear hb); (try clear hb2); (try clear hk); (try clear hi)))
         go_ret
         exact ⟨by first | rfl | (simp [errW_none, errW_some] <;> rfl) | (simp [*, errW_none, errW_some] <;> rfl), by repeat (first | (with_reducible first | exact HB.out | apply below_alloc | apply pw_below_drewN | apply below_drew1) | exact HB.out)⟩
        ·
         replace c19 := Bool.eq_false_iff.mpr c19
         subst c19
         have H1 : (some false) = some true := by rw [if_neg (show ¬ (false = true) by decide)] at H; exact H
         exact absurd H1 (by simp)
       ·
        replace c17 := Bool.eq_false_iff.mpr c17
        subst c17
        have H1 : (some false) = some true := by rw [if_neg (show ¬ (false = true) by decide)] at H; exact H
        exact absurd H1 (by simp)
      ·
       replace c15 := Bool.eq_false_iff.mpr c15
       subst c15
       have H1 : (if ([] : List (S25)).length + l0.length < 8796093022208 then ((some (([] : List (S25)) ++ l0 : List (S25))).bind fun y280 => (if ([] : List (S25)).length + l1.length < 8796093022208 then ((some (([] : List (S25)) ++ l1 : List (S25))).bind fun y283 => ((vector_Merge.f y280 y283).bind fun bt286 => ((redpencilref05_Merge.f l0 l1).bind fun t290 => ((redpencillaw05_gives.f kj7 bt286.1 bt286.2 t290 0).bind fun t293 => (if t293 = true then ((redpencilref05_Order.f kj7 l0 l1).bind fun t294 => ((redpencillaw05_orders.f y280 y283 t294 0).bind fun t295 => (redpencillaw05_VectorMerges.j2 kj7 l0 l1 y280 y283 bt286.1 (!t295)))) else (redpencillaw05_VectorMerges.j2 kj7 l0 l1 y280 y283 bt286.1 true)))))) else (none))) else (none)) = some true := by rw [if_neg (show ¬ (false = true) by decide)] at H; exact H
       clear H
       have H := H1
       clear H1
       by_cases c27 : ([] : List (S25)).length + l0.length < 8796093022208
       ·
        rw [if_pos c27] at H
        have LMc27 := Aside0.mk c27
        clear c27
        obtain ⟨y280, hy280⟩ : ∃ y_ : List (S25), y_ = (([] : List (S25)) ++ l0) := ⟨_, rfl⟩
        replace H : (if ([] : List (S25)).length + l1.length < 8796093022208 then ((some (([] : List (S25)) ++ l1 : List (S25))).bind fun y283 => ((vector_Merge.f y280 y283).bind fun bt286 => ((redpencilref05_Merge.f l0 l1).bind fun t290 => ((redpencillaw05_gives.f kj7 bt286.1 bt286.2 t290 0).bind fun t293 => (if t293 = true then ((redpencilref05_Order.f kj7 l0 l1).bind fun t294 => ((redpencillaw05_orders.f y280 y283 t294 0).bind fun t295 => (redpencillaw05_VectorMerges.j2 kj7 l0 l1 y280 y283 bt286.1 (!t295)))) else (redpencillaw05_VectorMerges.j2 kj7 l0 l1 y280 y283 bt286.1 true)))))) else (none)) = some true := by first | (rw [hy280]; with_reducible exact H) | (have H2_ := (Option.bind_some _ _).symm.trans H; rw [hy280]; with_reducible exact H2_) | (have H2_ := (Option.bind_some _ _).symm.trans H; with_reducible exact H2_) | with_reducible exact H | (rw [hy280]; exact H) | exact H
        have Ny280 := Aside0.mk hy280
        clear hy280
        by_cases c28 : ([] : List (S25)).length + l1.length < 8796093022208
        ·
         rw [if_pos c28] at H
         have LMc28 := Aside0.mk c28
         clear c28
         obtain ⟨y283, hy283⟩ : ∃ y_ : List (S25), y_ = (([] : List (S25)) ++ l1) := ⟨_, rfl⟩
         replace H : ((vector_Merge.f y280 y283).bind fun bt286 => ((redpencilref05_Merge.f l0 l1).bind fun t290 => ((redpencillaw05_gives.f kj7 bt286.1 bt286.2 t290 0).bind fun t293 => (if t293 = true then ((redpencilref05_Order.f kj7 l0 l1).bind fun t294 => ((redpencillaw05_orders.f y280 y283 t294 0).bind fun t295 => (redpencillaw05_VectorMerges.j2 kj7 l0 l1 y280 y283 bt286.1 (!t295)))) else (redpencillaw05_VectorMerges.j2 kj7 l0 l1 y280 y283 bt286.1 true))))) = some true := by first | (rw [hy283]; with_reducible exact H) | (have H2_ := (Option.bind_some _ _).symm.trans H; rw [hy283]; with_reducible exact H2_) | (have H2_ := (Option.bind_some _ _).symm.trans H; with_reducible exact H2_) | with_reducible exact H | (rw [hy283]; exact H) | exact H
         have Ny283 := Aside0.mk hy283
         clear hy283
         replace H := Option.bind_eq_some_iff.mp H
         obtain ⟨⟨t286, t287⟩, A290, H⟩ := H
         replace H : ((redpencilref05_Merge.f l0 l1).bind fun t290 => ((redpencillaw05_gives.f kj7 t286 t287 t290 0).bind fun t293 => (if t293 = true then ((redpencilref05_Order.f kj7 l0 l1).bind fun t294 => ((redpencillaw05_orders.f y280 y283 t294 0).bind fun t295 => (redpencillaw05_VectorMerges.j2 kj7 l0 l1 y280 y283 t286 (!t295)))) else (redpencillaw05_VectorMerges.j2 kj7 l0 l1 y280 y283 t286 true)))) = some true := H
         have A29 := Aside0.mk A290
         clear A290
         have HC30 := Aside0.mk H
         clear H
         go_upto_region 7 with (first | ((with_reducible refine gate_builtin (b := .append) (xs := #[.const (.slice none 0 0), .tmp 38]) rfl ?_); (try (refine gate_guard (by rfl) ?_; dsimp only)); at_builtin; refine Kd.R_append_rows k25 (w0 := w) w.heap.size rfl (.const (.slice none 0 0)) (.tmp 38) 23 25 (.agg #[(.int .i64 0), (.int .i64 0)]) 16 rfl Tryz.underlying23 info25 rfl (by decide) (by omega) (.slice none 0 0) ([] : List (S25)) l0 _ _ _ (fun _ => True) (fun _ => False) rfl rfl ?aO ?aR (fun _ _ h => h) (fun _ h => h.elim) ?aF ?aB ?aS ?aL ?_; (case aR => repeat (first | exact (Kd.C_below HR0.out HB.out) | (with_reducible refine Kd.C_alloc ?_ _) | (with_reducible refine Kd.C_drewN ?_ _) | (with_reducible refine Kd.C_drew ?_))); (case aB => exact (by repeat (first | (with_reducible first | exact HB.out | apply below_alloc | apply pw_below_drewN | apply below_drew1) | exact HB.out))); (case aF => exact (fun _ _ => trivial)); (case aO => exact ((Kd.R_nil _ _ _ _ (fun _ => True)))); (case aS => exact (below_size (by repeat (first | (with_reducible first | exact HB.out | apply below_alloc | apply pw_below_drewN | apply below_drew1) | exact HB.out)))); (case aL => have := LMc27.out; omega); intro v281 w31 ho hb hg hat; rw [← Ny280.out] at ho; have n0_ := Aside0.mk (hb); have n1_ := Aside0.mk (ho); clear HB; have HB := n0_; have HO282 := n1_; clear n0_ n1_; clear ho hb hg hat) | ((with_reducible refine gate_builtin (b := .append) (xs := #[.const (.slice none 0 0), .tmp 40]) rfl ?_); (try (refine gate_guard (by rfl) ?_; dsimp only)); at_builtin; refine Kd.R_append_rows k25 (w0 := w) w.heap.size rfl (.const (.slice none 0 0)) (.tmp 40) 23 25 (.agg #[(.int .i64 0), (.int .i64 0)]) 16 rfl Tryz.underlying23 info25 rfl (by decide) (by omega) (.slice none 0 0) ([] : List (S25)) l1 _ _ _ (fun k_ => some k_ ≠ (v281 : Value).ownBlock) (fun _ => False) rfl rfl ?aO ?aR (fun _ _ h => h) (fun _ h => h.elim) ?aF ?aB ?aS ?aL ?_; (case aR => repeat (first | exact (Kd.C_below HR1.out HB.out) | (with_reducible refine Kd.C_alloc ?_ _) | (with_reducible refine Kd.C_drewN ?_ _) | (with_reducible refine Kd.C_drew ?_))); (case aB => exact (by repeat (first | (with_reducible first | exact HB.out | apply below_alloc | apply pw_below_drewN | apply below_drew1) | exact HB.out))); (case aF => exact (fun k_ hk => Kd.fresh' (Kd.R_lt (by (with_reducible repeat (first | apply Kd.R_alloc | apply Kd.R_drewN | apply Kd.R_drew)); exact HO282.out)) k_ hk)); (case aO => exact ((Kd.R_nil _ _ _ _ (fun k_ => some k_ ≠ (v281 : Value).ownBlock)))); (case aS => exact (below_size (by repeat (first | (with_reducible first | exact HB.out | apply below_alloc | apply pw_below_drewN | apply below_drew1) | exact HB.out)))); (case aL => have := LMc28.out; omega); intro v284 w32 ho hb hg hat; rw [← Ny283.out] at ho; have n0_ := Aside0.mk (Kd.R_after (Kd.R_apart_nil (by (with_reducible repeat (first | apply Kd.R_alloc | apply Kd.R_drewN | apply Kd.R_drew)); exact HO282.out)) hg hat); have n1_ := Aside0.mk (hb); have n2_ := Aside0.mk (ho); clear HO282; clear HB; have HO282 := n0_; have HB := n1_; have HO285 := n2_; clear n0_ n1_ n2_; clear ho hb hg hat; obtain ⟨Ao33, co33, eo33⟩ := Kd.R_slice HO282.out; subst eo33; obtain ⟨Ao34, co34, eo34⟩ := Kd.R_slice HO285.out; subst eo34) | ((with_reducible refine gate_callee (f := 23) rfl ?_); refine goesL_ (some 45) rfl rfl Tryz.func23 (by kernel_rfl) rfl #[.slice Ao33 y280.length co33, .slice Ao34 y283.length co34] rfl (by (try simp only [List.map_toArray, List.map_cons, List.map_nil]); first | done | rfl | (simp only [List.length_drop, List.length_take]; rfl)) ?_; (with_reducible refine (vector_Merge.calls _ _ y280 _ _ y283 t286 t287 _ ?side1 ?side2 ?side3 ?side4 A29.out).mono ?_); (case side1 => repeat (first | exact (Kd.R_reads' HO282.out).2.2 | (with_reducible refine Kd.C_alloc ?_ _) | (with_reducible refine Kd.C_drewN ?_ _) | (with_reducible refine Kd.C_drew ?_))); (case side2 => exact (Kd.R_reads' HO282.out).2.1); (case side3 => repeat (first | exact (Kd.R_reads' HO285.out).2.2 | (with_reducible refine Kd.C_alloc ?_ _) | (with_reducible refine Kd.C_drewN ?_ _) | (with_reducible refine Kd.C_drew ?_))); (case side4 => exact (Kd.R_reads' HO285.out).2.1); rintro e w35 ⟨v288, rfl, ho0, hb⟩; (try clear A29); refine ⟨_, rfl, ?_⟩; have n0_ := Aside0.mk (Kd.R_elder' (by (with_reducible repeat (first | apply Kd.R_alloc | apply Kd.R_drewN | apply Kd.R_drew)); exact HO282.out) (Kd.R_base ho0) hb); have n1_ := Aside0.mk (Kd.R_elder' (by (with_reducible repeat (first | apply Kd.R_alloc | apply Kd.R_drewN | apply Kd.R_drew)); exact HO285.out) (Kd.R_base ho0) hb); have n2_ := Aside0.mk (Kd.R_lower (Kd.R_new' (Kd.R_new' ho0 (Kd.R_lt (by (with_reducible repeat (first | apply Kd.R_alloc | apply Kd.R_drewN | apply Kd.R_drew)); exact HO282.out))) (Kd.R_lt (by (with_reducible repeat (first | apply Kd.R_alloc | apply Kd.R_drewN | apply Kd.R_drew)); exact HO285.out))) (below_size (by repeat (first | (with_reducible first | exact HB.out | apply below_alloc | apply pw_below_drewN | apply below_drew1) | exact HB.out)))); have n3_ := Aside0.mk (below_step (by repeat (first | (with_reducible first | exact HB.out | apply below_alloc | apply pw_below_drewN | apply below_drew1) | exact HB.out)) hb); clear HO282; clear HO285; clear HB; have HO282 := n0_; have HO285 := n1_; have HO289 := n2_; have HB := n3_; clear n0_ n1_ n2_ n3_; (try clear hb); (try clear hb2); (try clear hk); (try clear hi); (try clear ho0)))
         (try simp only [Act.put, List.setIfInBounds_toArray, List.set_cons_zero, List.set_cons_succ])
         go_cut [63] (fun v63 wc => ∃ (kq : Nat) (x63_29 : Bool), v63 = .bool x63_29 ∧ Aside0 (redpencillaw05_VectorMerges.j2 kq l0 l1 y280 y283 t286 x63_29 = some true) ∧ Aside0 (kq ≤ kj7) ∧ Aside0 (Kd.R k25 25 wc w.heap.size (fun k_ => some k_ ≠ ((.slice Ao34 y283.length co34) : Value).ownBlock ∧ some k_ ≠ (v288 : Value).ownBlock) (.slice Ao33 y280.length co33) y280) ∧ Aside0 (Kd.R k25 25 wc w.heap.size (fun k_ => some k_ ≠ ((.slice Ao33 y280.length co33) : Value).ownBlock ∧ some k_ ≠ (v288 : Value).ownBlock) (.slice Ao34 y283.length co34) y283) ∧ Aside0 (Kd.R k25 25 wc w.heap.size (fun k_ => some k_ ≠ ((.slice Ao33 y280.length co33) : Value).ownBlock ∧ some k_ ≠ ((.slice Ao34 y283.length co34) : Value).ownBlock) v288 t286) ∧ Aside0 (Below w.heap.size w wc))
         case first =>
          have H := HC30.out
          clear HC30
          replace H := Option.bind_eq_some_iff.mp H
          obtain ⟨t290, A360, H⟩ := H
          replace H : ((redpencillaw05_gives.f kj7 t286 t287 t290 0).bind fun t293 => (if t293 = true then ((redpencilref05_Order.f kj7 l0 l1).bind fun t294 => ((redpencillaw05_orders.f y280 y283 t294 0).bind fun t295 => (redpencillaw05_VectorMerges.j2 kj7 l0 l1 y280 y283 t286 (!t295)))) else (redpencillaw05_VectorMerges.j2 kj7 l0 l1 y280 y283 t286 true))) = some true := H
          have A36 := Aside0.mk A360
          clear A360
          replace H := Option.bind_eq_some_iff.mp H
          obtain ⟨t293, A370, H⟩ := H
          replace H : (if t293 = true then ((redpencilref05_Order.f kj7 l0 l1).bind fun t294 => ((redpencillaw05_orders.f y280 y283 t294 0).bind fun t295 => (redpencillaw05_VectorMerges.j2 kj7 l0 l1 y280 y283 t286 (!t295)))) else (redpencillaw05_VectorMerges.j2 kj7 l0 l1 y280 y283 t286 true)) = some true := H
          have A37 := Aside0.mk A370
          clear A370
          by_cases c38 : t293 = true
          ·
           subst c38
           have H1 : ((redpencilref05_Order.f kj7 l0 l1).bind fun t294 => ((redpencillaw05_orders.f y280 y283 t294 0).bind fun t295 => (redpencillaw05_VectorMerges.j2 kj7 l0 l1 y280 y283 t286 (!t295)))) = some true := by rw [if_pos rfl] at H; exact H
           clear H
           have H := H1
           clear H1
           replace H := Option.bind_eq_some_iff.mp H
           obtain ⟨t294, A390, H⟩ := H
           replace H : ((redpencillaw05_orders.f y280 y283 t294 0).bind fun t295 => (redpencillaw05_VectorMerges.j2 kj7 l0 l1 y280 y283 t286 (!t295))) = some true := H
           have A39 := Aside0.mk A390
           clear A390
           replace H := Option.bind_eq_some_iff.mp H
           obtain ⟨t295, A400, H⟩ := H
           replace H : (redpencillaw05_VectorMerges.j2 kj7 l0 l1 y280 y283 t286 (!t295)) = some true := H
           have A40 := Aside0.mk A400
           clear A400
           have H' := Aside0.mk H
           clear H
           go_wp2_with (first | ((with_reducible refine gate_callee (f := 25) rfl ?_); refine goesL_ (some 52) rfl rfl Tryz.func25 (by kernel_rfl) rfl #[.slice A0 l0.length c0, .slice A1 l1.length c1] rfl (by (try simp only [List.map_toArray, List.map_cons, List.map_nil]); first | done | rfl | (simp only [List.length_drop, List.length_take]; rfl)) ?_; (with_reducible refine (redpencilref05_Merge.calls _ _ l0 _ _ l1 t290 _ ?side1 ?side2 ?side3 ?side4 A36.out).mono ?_); (case side1 => repeat (first | exact (Kd.C_below HR0.out HB.out) | (with_reducible refine Kd.C_alloc ?_ _) | (with_reducible refine Kd.C_drewN ?_ _) | (with_reducible refine Kd.C_drew ?_))); (case side2 => exact HC0.out); (case side3 => repeat (first | exact (Kd.C_below HR1.out HB.out) | (with_reducible refine Kd.C_alloc ?_ _) | (with_reducible refine Kd.C_drewN ?_ _) | (with_reducible refine Kd.C_drew ?_))); (case side4 => exact HC1.out); rintro e w41 ⟨v291, rfl, ho0, hb⟩; (try clear A36); refine ⟨_, rfl, ?_⟩; have n0_ := Aside0.mk (R_elderD (by (with_reducible repeat (first | apply Kd.R_alloc | apply Kd.R_drewN | apply Kd.R_drew)); exact HO282.out) hb); have n1_ := Aside0.mk (R_elderD (by (with_reducible repeat (first | apply Kd.R_alloc | apply Kd.R_drewN | apply Kd.R_drew)); exact HO285.out) hb); have n2_ := Aside0.mk (R_elderD (by (with_reducible repeat (first | apply Kd.R_alloc | apply Kd.R_drewN | apply Kd.R_drew)); exact HO289.out) hb); have n3_ := Aside0.mk (ho0); have n4_ := Aside0.mk (below_step (by repeat (first | (with_reducible first | exact HB.out | apply below_alloc | apply pw_below_drewN | apply below_drew1) | exact HB.out)) hb); clear HO282; clear HO285; clear HO289; clear HB; have HO282 := n0_; have HO285 := n1_; have HO289 := n2_; have HO292 := n3_; have HB := n4_; clear n0_ n1_ n2_ n3_ n4_; (try clear hb); (try clear hb2); (try clear hk); (try clear hi); (try clear ho0); obtain ⟨Ao42, co42, eo42⟩ := Kd.R_slice HO289.out; subst eo42; obtain ⟨Ao43, co43, eo43⟩ := Rd_slice HO292.out; subst eo43) | ((with_reducible refine gate_callee (f := 24) rfl ?_); refine goesL_ (some 53) rfl rfl Tryz.func24 (by kernel_rfl) rfl #[.slice Ao42 t286.length co42, .int .i64 t287, .slice Ao43 t290.length co43, .int .i64 0] rfl (by (try simp only [List.map_toArray, List.map_cons, List.map_nil]); first | done | rfl | (simp only [List.length_drop, List.length_take]; rfl)) ?_; (with_reducible refine (redpencillaw05_gives.calls kj7 _ _ t286 t287 _ _ t290 0 true _ ?side1 ?side2 ?side3 ?side4 A37.out).mono ?_); (case side1 => repeat (first | exact (Kd.R_reads' HO289.out).2.2 | (with_reducible refine Kd.C_alloc ?_ _) | (with_reducible refine Kd.C_drewN ?_ _) | (with_reducible refine Kd.C_drew ?_))); (case side2 => exact (Kd.R_reads' HO289.out).2.1); (case side3 => repeat (first | exact (Rd_reads' HO292.out).2.2 | (with_reducible refine Kd.C_alloc ?_ _) | (with_reducible refine Kd.C_drewN ?_ _) | (with_reducible refine Kd.C_drew ?_))); (case side4 => exact (Rd_reads' HO292.out).2.1); rintro e w' ⟨rfl, ⟨nd, rfl⟩⟩; (try clear A37); refine ⟨_, rfl, ?_⟩) | (go_at_call 26; (with_reducible refine (redpencilref05_Order.calls kj7 _ _ l0 _ _ l1 t294 _ ?side1 ?side2 ?side3 ?side4 A39.out).mono ?_); (case side1 => repeat (first | exact (Kd.C_below HR0.out (by repeat (first | (with_reducible first | exact HB.out | apply below_alloc | apply pw_below_drewN | apply below_drew1) | exact HB.out))) | (with_reducible refine Kd.C_alloc ?_ _) | (with_reducible refine Kd.C_drewN ?_ _) | (with_reducible refine Kd.C_drew ?_))); (case side2 => exact HC0.out); (case side3 => repeat (first | exact (Kd.C_below HR1.out (by repeat (first | (with_reducible first | exact HB.out | apply below_alloc | apply pw_below_drewN | apply below_drew1) | exact HB.out))) | (with_reducible refine Kd.C_alloc ?_ _) | (with_reducible refine Kd.C_drewN ?_ _) | (with_reducible refine Kd.C_drew ?_))); (case side4 => exact HC1.out); rintro e w44 ⟨rfl, hb⟩; (try clear A39); have n0_ := Aside0.mk (Kd.R_below (by (with_reducible repeat (first | apply Kd.R_alloc | apply Kd.R_drewN | apply Kd.R_drew)); exact HO282.out) hb); have n1_ := Aside0.mk (Kd.R_below (by (with_reducible repeat (first | apply Kd.R_alloc | apply Kd.R_drewN | apply Kd.R_drew)); exact HO285.out) hb); have n2_ := Aside0.mk (Kd.R_below (by (with_reducible repeat (first | apply Kd.R_alloc | apply Kd.R_drewN | apply Kd.R_drew)); exact HO289.out) hb); have n3_ := Aside0.mk (Rd_below (by (with_reducible repeat (first | apply Rd_alloc | apply Rd_drewN | apply Rd_drew)); exact HO292.out) hb); have n4_ := Aside0.mk (below_step (by repeat (first | (with_reducible first | exact HB.out | apply below_alloc | apply pw_below_drewN | apply below_drew1) | exact HB.out)) hb); clear HO282; clear HO285; clear HO289; clear HO292; clear HB; have HO282 := n0_; have HO285 := n1_; have HO289 := n2_; have HO292 := n3_; have HB := n4_; clear n0_ n1_ n2_ n3_ n4_; (try clear hb); (try clear hb2); (try clear hk); (try clear hi)) | (go_at_call 22; (with_reducible refine (redpencillaw05_orders.calls _ _ y280 _ _ y283 t294 0 t295 _ ?side1 ?side2 ?side3 ?side4 A40.out).mono ?_); (case side1 => repeat (first | exact (Kd.R_reads' HO282.out).2.2 | (with_reducible refine Kd.C_alloc ?_ _) | (with_reducible refine Kd.C_drewN ?_ _) | (with_reducible refine Kd.C_drew ?_))); (case side2 => exact (Kd.R_reads' HO282.out).2.1); (case side3 => repeat (first | exact (Kd.R_reads' HO285.out).2.2 | (with_reducible refine Kd.C_alloc ?_ _) | (with_reducible refine Kd.C_drewN ?_ _) | (with_reducible refine Kd.C_drew ?_))); (case side4 => exact (Kd.R_reads' HO285.out).2.1); rintro e w45 ⟨rfl, hb⟩; (try clear A40); have n0_ := Aside0.mk (Kd.R_below (by (with_reducible repeat (first | apply Kd.R_alloc | apply Kd.R_drewN | apply Kd.R_drew)); exact HO282.out) hb); have n1_ := Aside0.mk (Kd.R_below (by (with_reducible repeat (first | apply Kd.R_alloc | apply Kd.R_drewN | apply Kd.R_drew)); exact HO285.out) hb); have n2_ := Aside0.mk (Kd.R_below (by (with_reducible repeat (first | apply Kd.R_alloc | apply Kd.R_drewN | apply Kd.R_drew)); exact HO289.out) hb); have n3_ := Aside0.mk (Rd_below (by (with_reducible repeat (first | apply Rd_alloc | apply Rd_drewN | apply Rd_drew)); exact HO292.out) hb); have n4_ := Aside0.mk (below_step (by repeat (first | (with_reducible first | exact HB.out | apply below_alloc | apply pw_below_drewN | apply below_drew1) | exact HB.out)) hb); clear HO282; clear HO285; clear HO289; clear HO292; clear HB; have HO282 := n0_; have HO285 := n1_; have HO289 := n2_; have HO292 := n3_; have HB := n4_; clear n0_ n1_ n2_ n3_ n4_; (try clear hb); (try clear hb2); (try clear hk); (try clear hi)))
           go_meet
           case rel => exact ⟨_, (!t295), (by first | rfl | (simp; done) | (simp [*]; done)), H', ⟨by have := HJ2.out; have := HJ7.out; first | omega | exact Nat.le_refl _⟩, ⟨by (with_reducible repeat (first | apply Kd.R_alloc | apply Kd.R_drewN | apply Kd.R_drew)); exact Kd.R_mono HO282.out (fun _ hk => ⟨hk.1.1.2, hk.1.2⟩)⟩, ⟨by (with_reducible repeat (first | apply Kd.R_alloc | apply Kd.R_drewN | apply Kd.R_drew)); exact Kd.R_mono HO285.out (fun _ hk => ⟨hk.1.1, hk.1.2⟩)⟩, ⟨by (with_reducible repeat (first | apply Kd.R_alloc | apply Kd.R_drewN | apply Kd.R_drew)); exact Kd.R_mono HO289.out (fun _ hk => ⟨hk.1.1.2, hk.1.2⟩)⟩, ⟨by repeat (first | (with_reducible first | exact HB.out | apply below_alloc | apply pw_below_drewN | apply below_drew1) | exact HB.out)⟩⟩
          ·
           replace c38 := Bool.eq_false_iff.mpr c38
           subst c38
           have H1 : (redpencillaw05_VectorMerges.j2 kj7 l0 l1 y280 y283 t286 true) = some true := by rw [if_neg (show ¬ (false = true) by decide)] at H; exact H
           exact absurd H1 (redpencillaw05_VectorMerges.j2_no _ _ _ _ _ _)
         case rest =>
          clear HC30
          try clear c1
          try clear c2
          try clear p2
          try clear c3
          try clear c4
          try clear c4b0
          try clear c4b1
          try clear c5
          try clear c8
          try clear c10
          try clear c15
          try clear c17
          try clear c19
          try clear c21
          try clear c23
          try clear c24
          try clear c25
          try clear c27
          try clear c28
          try clear c38
          try clear p2
          obtain ⟨kq, x63_29, rfl, HA, HJ29, HO_5, HO_6, HO_7, HB⟩ := hcut
          cases kq with
          | zero => exact absurd HA.out (by simp [redpencillaw05_VectorMerges.j2])
          | succ kj29 =>
           have H := HA.out
           clear HA
           simp only [redpencillaw05_VectorMerges.j2] at H
           by_cases c49 : x63_29 = true
           ·
            subst c49
            have H1 : (some false) = some true := by rw [if_pos rfl] at H; exact H
            exact absurd H1 (by simp)
           ·
            replace c49 := Bool.eq_false_iff.mpr c49
            subst c49
            have H1 : (redpencillaw05_VectorMerges.l0 kj29 l0 l1 y280 y283 t286 (t286.length : Int) 0) = some true := by rw [if_neg (show ¬ (false = true) by decide)] at H; exact H
            clear H
            have H := H1
            clear H1
            have H' := Aside0.mk H
            clear H
            obtain ⟨Ao50, co50, eo50⟩ := Kd.R_slice HO_7.out
            subst eo50
            go_wp2
            go_loopg [66] kj29 (fun kq v66 w' => ∃ (x7_4 : List (S25)) (x66_4 : Int), v66 = .int .i64 x66_4 ∧ Aside0 (redpencillaw05_VectorMerges.l0 kq l0 l1 y280 y283 x7_4 (t286.length : Int) x66_4 = some true) ∧ Aside0 (kq ≤ kj29) ∧ Aside0 (Kd.R k25 25 w' w.heap.size (fun k_ => some k_ ≠ ((.slice Ao34 y283.length co34) : Value).ownBlock ∧ some k_ ≠ ((.slice Ao50 t286.length co50) : Value).ownBlock) (.slice Ao33 y280.length co33) y280) ∧ Aside0 (Kd.R k25 25 w' w.heap.size (fun k_ => some k_ ≠ ((.slice Ao33 y280.length co33) : Value).ownBlock ∧ some k_ ≠ ((.slice Ao50 t286.length co50) : Value).ownBlock) (.slice Ao34 y283.length co34) y283) ∧ Aside0 (Kd.R k25 25 w' w.heap.size (fun k_ => some k_ ≠ ((.slice Ao33 y280.length co33) : Value).ownBlock ∧ some k_ ≠ ((.slice Ao34 y283.length co34) : Value).ownBlock) (.slice Ao50 t286.length co50) x7_4) ∧ Aside0 (Below w.heap.size w w'))
            case atStart => exact ⟨(t286), (0), (by first | rfl | (simp; done) | (simp [*]; done)), H', ⟨Nat.le_refl _⟩, ⟨by (with_reducible repeat (first | apply Kd.R_alloc | apply Kd.R_drewN | apply Kd.R_drew)); exact HO_5.out⟩, ⟨by (with_reducible repeat (first | apply Kd.R_alloc | apply Kd.R_drewN | apply Kd.R_drew)); exact HO_6.out⟩, ⟨by (with_reducible repeat (first | apply Kd.R_alloc | apply Kd.R_drewN | apply Kd.R_drew)); exact HO_7.out⟩, ⟨by repeat (first | (with_reducible first | exact HB.out | apply below_alloc | apply pw_below_drewN | apply below_drew1) | exact HB.out)⟩⟩
            case round =>
             clear H'
             try clear c1
             try clear c2
             try clear p2
             try clear c3
             try clear c4
             try clear c4b0
             try clear c4b1
             try clear c5
             try clear c8
             try clear c10
             try clear c15
             try clear c17
             try clear c19
             try clear c21
             try clear c23
             try clear c24
             try clear c25
             try clear c27
             try clear c28
             try clear c38
             try clear c49
             try clear p2
             obtain ⟨x7_4, x66_4, rfl, HA, HK4, HO_5, HO_6, HO_7, HB⟩ := hrel
             have hl7_4 := (Kd.R_reads' HO_7.out).1
             rw [hl7_4] at HO_7
             (try simp only [hl7_4])
             (try simp only [hl7_4] at HO_5)
             (try simp only [hl7_4] at HO_6)
             cases gk with
             | zero => exact absurd HA.out (by simp [redpencillaw05_VectorMerges.l0])
             | succ k4 =>
              have H := HA.out
              clear HA
              simp only [redpencillaw05_VectorMerges.l0] at H
              by_cases c51 : x66_4 < (t286.length : Int)
              ·
               rw [if_pos c51] at H
               have c51b0 : decide (x66_4 < (t286.length : Int)) = true := decide_eq_true c51
               have c51b9 : decide (x66_4 < (x7_4.length : Int)) = true := by rw [← hl7_4]; exact c51b0
               clear c51
               by_cases c52 : 0 ≤ x66_4
               ·
                rw [if_pos c52] at H
                have c52b0 : decide (0 ≤ x66_4) = true := decide_eq_true c52
                clear c52
                by_cases c53 : x66_4 < (x7_4.length : Int)
                ·
                 rw [if_pos c53] at H
                 have c53b0 : decide (x66_4 < (x7_4.length : Int)) = true := decide_eq_true c53
                 clear c53
                 obtain ⟨y297, hy297⟩ : ∃ y_ : List (S25), y_ = (x7_4.set (x66_4 : Int).toNat (⟨(rd_T25 x7_4 x66_4).f0, wrap64 (((rd_T25 x7_4 x66_4).f1) + 1)⟩ : S25)) := ⟨_, rfl⟩
                 replace H : (redpencillaw05_VectorMerges.l0 k4 l0 l1 y280 y283 y297 (t286.length : Int) (wrap64 (x66_4 + 1))) = some true := by first | (rw [hy297]; with_reducible exact H) | (have H2_ := (Option.bind_some _ _).symm.trans H; rw [hy297]; with_reducible exact H2_) | (have H2_ := (Option.bind_some _ _).symm.trans H; with_reducible exact H2_) | with_reducible exact H | (rw [hy297]; exact H) | exact H
                 have Ny297 := Aside0.mk hy297
                 clear hy297
                 have H' := Aside0.mk H
                 clear H
                 have p296 : 0 ≤ (x66_4 : Int) := of_decide_eq_true (by first | (with_reducible assumption) | assumption)
                 have q296 : x66_4 < (x7_4.length : Int) := of_decide_eq_true (by first | (with_reducible assumption) | assumption)
                 obtain ⟨ad296, e296, hx296_0, hx296_1⟩ := at_T25 (Kd.R_reads' HO_7.out).2.2 x66_4 p296 q296
                 cases e296
                 replace p296 := eq_true p296
                 replace q296 := eq_true q296
                 have p54 : 0 ≤ (x66_4 : Int) := of_decide_eq_true (by first | (with_reducible assumption) | assumption)
                 have q54 : (x66_4 : Int) < ((x7_4.length : Int) : Int) := of_decide_eq_true (by first | (with_reducible assumption) | assumption)
                 obtain ⟨go54, co54, eo54, gb54, gl54, cl54, HG54⟩ := Kd.R_form HO_7.out (by omega)
                 (first | cases eo54 | (injection eo54 with ea_ en_ ec_; (first | subst ea_ | (injection ea_ with ea_; subst ea_)); subst ec_; clear en_))
                 have GB54 := Aside0.mk gb54
                 have GG54 := Aside0.mk HG54
                 clear gb54 gl54 HG54
                 (first | simp only [add_plain] at hx296_0 | skip)
                 (first | simp only [add_plain] at hx296_1 | skip)
                 obtain ⟨ce54, hcl54, hM54, hcc54, hfr54⟩ := Kd.R_elem HO_7.out z25 (x66_4 : Int) p54 q54
                 obtain rfl := k25_openM hM54
                 have hx54_0 : wr.cell? ⟨go54, (x66_4 : Int).toNat * 2, none⟩ = some (.int .i64 ((rd_T25 x7_4 x66_4).f0)) := hcc54 0 _ rfl
                 have hx54_1 : wr.cell? ⟨go54, (x66_4 : Int).toNat * 2 + 1, none⟩ = some (.int .i64 ((rd_T25 x7_4 x66_4).f1)) := hcc54 1 _ rfl
                 have hf54_0 : wr.frozen? ⟨go54, (x66_4 : Int).toNat * 2, none⟩ = false := hfr54 0
                 have hf54_1 : wr.frozen? ⟨go54, (x66_4 : Int).toNat * 2 + 1, none⟩ = false := hfr54 1
                 clear hcl54 hcc54 hfr54 hM54
                 replace p54 := eq_true p54
                 replace q54 := eq_true q54
                 have HX55 := Aside0.mk (show Kd.R k25 25 wr w.heap.size (fun k_ => some k_ ≠ (.slice Ao33 y280.length co33 : Value).ownBlock ∧ some k_ ≠ (.slice Ao34 y283.length co34 : Value).ownBlock) (.slice (some ⟨go54, 0, none⟩) x7_4.length co50) x7_4 from (by (with_reducible repeat (first | apply Kd.R_alloc | apply Kd.R_drewN | apply Kd.R_drew)); exact HO_7.out))
                 obtain ⟨ce55, hcl55, hM55, hcc55, hfr55⟩ := Kd.R_elem HX55.out z25 (x66_4 : Int) (of_decide_eq_true (by first | (with_reducible assumption) | assumption)) (by have h_ : (x66_4 : Int) < ((x7_4.length : Int) : Int) := of_decide_eq_true (by first | (with_reducible assumption) | assumption); first | exact h_ | (have e_ := (Kd.R_reads' HO_7.out).1; omega) | simpa using h_)
                 obtain rfl := k25_openM hM55
                 have HP55 := Kd.R_seg HX55.out (x66_4 : Int) (of_decide_eq_true (by first | (with_reducible assumption) | assumption)) (by have h_ : (x66_4 : Int) < ((x7_4.length : Int) : Int) := of_decide_eq_true (by first | (with_reducible assumption) | assumption); first | exact h_ | (have e_ := (Kd.R_reads' HO_7.out).1; omega) | simpa using h_) (seg := [.int .i64 (wrap64 (((rd_T25 x7_4 x66_4).f1) + 1))]) (j := 1) hcl55 hcc55 (show 2 ≤ 2 from by decide) (x' := (⟨(rd_T25 x7_4 x66_4).f0, wrap64 (((rd_T25 x7_4 x66_4).f1) + 1)⟩ : S25)) (k25_mkM _ _ _ (⟨(rd_T25 x7_4 x66_4).f0, wrap64 (((rd_T25 x7_4 x66_4).f1) + 1)⟩ : S25) ) (fun _ hk => hk)
                 have hx55_1 := hcc55 1 _ rfl
                 (try simp only [show (k25).sz = 2 from rfl, Nat.mul_one, Nat.add_zero] at hx55_1)
                 have hf55_1 := hfr55 1
                 (try simp only [show (k25).sz = 2 from rfl, Nat.mul_one, Nat.add_zero] at hf55_1)
                 clear hcl55 hcc55 hfr55 hM55
                 go_wp2_with (first | ((with_reducible refine gate_store (t := 3) (p := 76) rfl ?_); refine store_event (t := 3) (p := 76) (v := ?vo_w56) (w1 := (wr.setCell ⟨go54, (x66_4 : Int).toNat * 2 + 1, none⟩ (.int .i64 (wrap64 (((rd_T25 x7_4 x66_4).f1) + 1))))) ?hg ?ho ?hn ?hr ?_; (case ho => rfl); (case hg => rfl); (case hn => rfl); (case hr => first | (go_simp; done) | (go_simp; rfl)); intro w56 hw; have hg : wr.grownBy w56 (some go54) := (by rw [hw]; exact HP55.2); have hp_ : Kd.R k25 25 w56 w.heap.size (fun k_ => some k_ ≠ (.slice Ao33 y280.length co33 : Value).ownBlock ∧ some k_ ≠ (.slice Ao34 y283.length co34 : Value).ownBlock) (.slice (some ⟨go54, 0, none⟩) x7_4.length co50) y297 := (by rw [hw, Ny297.out]; exact HP55.1); clear HP55; have n0_ := Aside0.mk (Kd.R_after (v := (.slice (some ⟨go54, 0, none⟩) x7_4.length co50)) (v1 := (.slice (some ⟨go54, 0, none⟩) x7_4.length co50)) (ok := (fun k_ => some k_ ≠ (.slice Ao34 y283.length co34 : Value).ownBlock)) (by (with_reducible repeat (first | apply Kd.R_alloc | apply Kd.R_drewN | apply Kd.R_drew)); exact HO_5.out) hg (.inl rfl)); have n1_ := Aside0.mk (Kd.R_after (v := (.slice (some ⟨go54, 0, none⟩) x7_4.length co50)) (v1 := (.slice (some ⟨go54, 0, none⟩) x7_4.length co50)) (ok := (fun k_ => some k_ ≠ (.slice Ao33 y280.length co33 : Value).ownBlock)) (by (with_reducible repeat (first | apply Kd.R_alloc | apply Kd.R_drewN | apply Kd.R_drew)); exact HO_6.out) hg (.inl rfl)); have n2_ := Aside0.mk (hp_); have n3_ := Aside0.mk ((by rw [hw]; exact below_set (HB.out) GB54.out : Below w.heap.size w w56)); clear HO_5; clear HO_6; clear HO_7; clear HB; have HO_5 := n0_; have HO_6 := n1_; have HO_7 := n2_; have HB := n3_; clear n0_ n1_ n2_ n3_; clear hg hw hp_))
                 (try simp only [← hl7_4])
                 go_roundg k4
                 case measure => have := HJ2.out; have := HJ7.out; have := HJ29.out; have := HK4.out; omega
                 case rel => exact ⟨(y297), (wrap64 (x66_4 + 1)), (by first | rfl | (simp; done) | (simp [*]; done)), H', ⟨by have := HJ2.out; have := HJ7.out; have := HJ29.out; have := HK4.out; omega⟩, ⟨by (try simp only [hl7_4]); (with_reducible repeat (first | apply Kd.R_alloc | apply Kd.R_drewN | apply Kd.R_drew)); exact HO_5.out⟩, ⟨by (try simp only [hl7_4]); (with_reducible repeat (first | apply Kd.R_alloc | apply Kd.R_drewN | apply Kd.R_drew)); exact HO_6.out⟩, ⟨by (try simp only [hl7_4]); (with_reducible repeat (first | apply Kd.R_alloc | apply Kd.R_drewN | apply Kd.R_drew)); exact HO_7.out⟩, ⟨by repeat (first | (with_reducible first | exact HB.out | apply below_alloc | apply pw_below_drewN | apply below_drew1) | exact HB.out)⟩⟩
                ·
                 rw [if_neg c53] at H
                 exact absurd H (by simp)
               ·
                rw [if_neg c52] at H
                exact absurd H (by simp)
              ·
               rw [if_neg c51] at H
               have c51b0 : decide (x66_4 < (t286.length : Int)) = false := decide_eq_false c51
               have c51b9 : decide (x66_4 < (x7_4.length : Int)) = false := by rw [← hl7_4]; exact c51b0
               clear c51
               replace H := Option.bind_eq_some_iff.mp H
               obtain ⟨t298, A570, H⟩ := H
               replace H : (if t298 = true then ((redpencilref04_Same.f k4 y283 l1).bind fun t299 => (if t299 = true then ((redpencillaw05_known.f k4).bind fun t300 => (some t300)) else (some false))) else (some false)) = some true := H
               have A57 := Aside0.mk A570
               clear A570
               by_cases c58 : t298 = true
               ·
                subst c58
                have H1 : ((redpencilref04_Same.f k4 y283 l1).bind fun t299 => (if t299 = true then ((redpencillaw05_known.f k4).bind fun t300 => (some t300)) else (some false))) = some true := by rw [if_pos rfl] at H; exact H
                clear H
                have H := H1
                clear H1
                replace H := Option.bind_eq_some_iff.mp H
                obtain ⟨t299, A590, H⟩ := H
                replace H : (if t299 = true then ((redpencillaw05_known.f k4).bind fun t300 => (some t300)) else (some false)) = some true := H
                have A59 := Aside0.mk A590
                clear A590
                by_cases c60 : t299 = true
                ·
                 subst c60
                 have H1 : ((redpencillaw05_known.f k4).bind fun t300 => (some t300)) = some true := by rw [if_pos rfl] at H; exact H
                 clear H
                 have H := H1
                 clear H1
                 replace H := Option.bind_eq_some_iff.mp H
                 obtain ⟨t300, A610, H⟩ := H
                 replace H : (some t300) = some true := H
                 have A61 := Aside0.mk A610
                 clear A610
                 obtain rfl := Option.some.inj H
                 go_wp2_with (first | ((with_reducible refine gate_callee (f := 17) rfl ?_); refine goesL_ (some 80) rfl rfl Tryz.func17 (by kernel_rfl) rfl #[.slice Ao33 y280.length co33, .slice A0 l0.length c0] rfl (by (try simp only [List.map_toArray, List.map_cons, List.map_nil]); first | done | rfl | (simp only [List.length_drop, List.length_take]; rfl)) ?_; (with_reducible refine (redpencilref04_Same.calls k4 _ _ y280 _ _ l0 true _ ?side1 ?side2 ?side3 ?side4 A57.out).mono ?_); (case side1 => repeat (first | exact (Kd.R_reads' HO_5.out).2.2 | (with_reducible refine Kd.C_alloc ?_ _) | (with_reducible refine Kd.C_drewN ?_ _) | (with_reducible refine Kd.C_drew ?_))); (case side2 => exact (Kd.R_reads' HO_5.out).2.1); (case side3 => repeat (first | exact (Kd.C_below HR0.out HB.out) | (with_reducible refine Kd.C_alloc ?_ _) | (with_reducible refine Kd.C_drewN ?_ _) | (with_reducible refine Kd.C_drew ?_))); (case side4 => exact HC0.out); rintro e w' ⟨rfl, ⟨nd, rfl⟩⟩; (try clear A57); refine ⟨_, rfl, ?_⟩) | (go_at_call 17; (with_reducible refine (redpencilref04_Same.calls k4 _ _ y283 _ _ l1 true _ ?side1 ?side2 ?side3 ?side4 A59.out).mono ?_); (case side1 => repeat (first | exact (Kd.R_reads' HO_6.out).2.2 | (with_reducible refine Kd.C_alloc ?_ _) | (with_reducible refine Kd.C_drewN ?_ _) | (with_reducible refine Kd.C_drew ?_))); (case side2 => exact (Kd.R_reads' HO_6.out).2.1); (case side3 => repeat (first | exact (Kd.C_below HR1.out (by repeat (first | (with_reducible first | exact HB.out | apply below_alloc | apply pw_below_drewN | apply below_drew1) | exact HB.out))) | (with_reducible refine Kd.C_alloc ?_ _) | (with_reducible refine Kd.C_drewN ?_ _) | (with_reducible refine Kd.C_drew ?_))); (case side4 => exact HC1.out); rintro e w' ⟨rfl, ⟨nd, rfl⟩⟩) | (go_at_call 8; (with_reducible refine (redpencillaw05_known.calls k4  true _ ?side1 A61.out).mono ?_); (case side1 => exact GOK_below HG.out (by repeat (first | (with_reducible first | exact HB.out | apply below_alloc | apply pw_below_drewN | apply below_drew1) | exact HB.out))); rintro e w62 ⟨rfl, hb⟩; (try clear A61); have n0_ := Aside0.mk (Kd.R_below (by (with_reducible repeat (first | apply Kd.R_alloc | apply Kd.R_drewN | apply Kd.R_drew)); exact HO_5.out) hb); have n1_ := Aside0.mk (Kd.R_below (by (with_reducible repeat (first | apply Kd.R_alloc | apply Kd.R_drewN | apply Kd.R_drew)); exact HO_6.out) hb); have n2_ := Aside0.mk (Kd.R_below (by (with_reducible repeat (first | apply Kd.R_alloc | apply Kd.R_drewN | apply Kd.R_drew)); exact HO_7.out) hb); have n3_ := Aside0.mk (below_step (by repeat (first | (with_reducible first | exact HB.out | apply below_alloc | apply pw_below_drewN | apply below_drew1) | exact HB.out)) hb); clear HO_5; clear HO_6; clear HO_7; clear HB; have HO_5 := n0_; have HO_6 := n1_; have HO_7 := n2_; have HB := n3_; clear n0_ n1_ n2_ n3_; (try clear hb); (try clear hb2); (try clear hk); (try clear hi)))
                 go_ret
                 exact ⟨by first | rfl | (simp [errW_none, errW_some] <;> rfl) | (simp [*, errW_none, errW_some] <;> rfl), by repeat (first | (with_reducible first | exact HB.out | apply below_alloc | apply pw_below_drewN | apply below_drew1) | exact HB.out)⟩
                ·
                 replace c60 := Bool.eq_false_iff.mpr c60
                 subst c60
                 have H1 : (some false) = some true := by rw [if_neg (show ¬ (false = true) by decide)] at H; exact H
                 exact absurd H1 (by simp)
               ·
                replace c58 := Bool.eq_false_iff.mpr c58
                subst c58
                have H1 : (some false) = some true := by rw [if_neg (show ¬ (false = true) by decide)] at H; exact H
                exact absurd H1 (by simp)
        ·
         rw [if_neg c28] at H
         exact absurd H (by simp)
       ·
        rw [if_neg c27] at H
        exact absurd H (by simp)

end Go.Proofs.YtnbjkpfpcggopaaGreatDoor.PAll
