-- Printed by a program of this session (wip/tools/mkprint2.py) out of the translation; Lean checks it. -- narrowed
import Derived.Test.YtnbjkpfpcggopaaGreatDoorPAllx0
import Derived.Test.YtnbjkpfpcggopaaGreatDoorPAllx2
import Derived.Test.YtnbjkpfpcggopaaGreatDoorPAllx3
import Derived.Test.YtnbjkpfpcggopaaGreatDoorEb3
namespace Go.Proofs.YtnbjkpfpcggopaaGreatDoor.PAll
open Go.RowKit Go.Proofs.YtnbjkpfpcggopaaGreatDoorW.PrintWords Go.Proofs.YtnbjkpfpcggopaaGreatDoorW.PrintLast Go.Proofs.YtnbjkpfpcggopaaGreatDoorW.PrintMore
attribute [local go_sem] max2_int min2_int max_two min_two max_three min_three max_four min_four   -- for this text's walks alone
set_option linter.unusedVariables false
set_option linter.unusedSimpArgs false

/-! ### redpencillaw05_VectorTexts: function 6 -/
mutual
def redpencillaw05_VectorTexts.j0 : Nat → List (S25) → ByteArray → Bool → Option (Bool)
 | 0, _, _, _ => none
 | k + 1, x0, x1, x14 => if x14 = true then ((redpencillaw05_known.f k).bind fun t320 => (some t320)) else ((redpencilref05_Valid.f k x0).bind fun t321 => (if t321 = true then ((redpencilref05_Text.f k x0).bind fun t322 => ((redpencillaw05_texts.f x0 t322 0).bind fun t323 => (if t323 = true then (redpencillaw05_VectorTexts.j1 k x1) else (some false)))) else ((redpencillaw05_texts.f x0 (⟨#[]⟩ : ByteArray) 2).bind fun t324 => (if t324 = true then (redpencillaw05_VectorTexts.j1 k x1) else (some false)))))
def redpencillaw05_VectorTexts.j1 : Nat → ByteArray → Option (Bool)
 | 0, _ => none
 | k + 1, x1 => (redpencilref05_Parse.f k x1).bind fun bt325 => (if bt325.2 = true then ((redpencillaw05_parses.f k x1 bt325.1 0).bind fun t329 => (if t329 = true then ((redpencillaw05_known.f k).bind fun t330 => (some t330)) else (some false))) else ((redpencillaw05_parses.f k x1 ([] : List (S25)) 6).bind fun t331 => (if t331 = true then ((redpencillaw05_known.f k).bind fun t332 => (some t332)) else (some false))))
end
def redpencillaw05_VectorTexts.f (k : Nat) (l0 : List (S25)) (a1 : ByteArray) : Option (Bool) := if (l0.length : Int) > 40 then (redpencillaw05_VectorTexts.j0 k l0 a1 true) else (redpencillaw05_VectorTexts.j0 k l0 a1 (decide ((a1.size : Int) > 300)))
set_option maxHeartbeats 8000000 in
set_option maxRecDepth 100000 in
theorem redpencillaw05_VectorTexts.calls (k : Nat) (A0 : Option Addr) (c0 : Nat) (l0 : List (S25)) (a1 : ByteArray) (w : World) (hG : GOK w) (hr0 : Kd.C k25 w A0 l0.length l0) (hc0 : l0.length ≤ c0) (h : redpencillaw05_VectorTexts.f k l0 a1 = some true) :
  Calls Tryz.prog 6 #[.slice A0 l0.length c0, .string a1] w fun e w' => e = .returned (.bool true) ∧ Below w.heap.size w w' := by
 have HR0 := Aside0.mk hr0
 have HC0 := Aside0.mk hc0
 clear hr0 hc0
 have HB := Aside0.mk (Below.refl w.heap.size w)
 have HG := Aside0.mk hG
 clear hG
 have H : (if (l0.length : Int) > 40 then (redpencillaw05_VectorTexts.j0 k l0 a1 true) else (redpencillaw05_VectorTexts.j0 k l0 a1 (decide ((a1.size : Int) > 300)))) = some true := h
 clear h
 have HC3 := Aside0.mk H
 clear H
 go_enter Tryz.func6, Tryz.ntmps6
 go_upto_region 1 with (fail)
 go_cut [14] (fun v14 wc => ∃ (kq : Nat) (x14_2 : Bool), v14 = .bool x14_2 ∧ Aside0 (redpencillaw05_VectorTexts.j0 kq l0 a1 x14_2 = some true) ∧ Aside0 (kq ≤ k) ∧ Aside0 (Below w.heap.size w wc))
 case first =>
  have H := HC3.out
  clear HC3
  by_cases c4 : (l0.length : Int) > 40
  ·
   rw [if_pos c4] at H
   have c4b0 : decide (40 < (l0.length : Int)) = true := decide_eq_true c4
   have c4b1 : decide (40 < l0.length) = true := decide_eq_true (by omega)
   clear c4
   (first | rw [c4b0] | (simp only [i64_w, i32_w]; rw [c4b0]) | skip)
   have H' := Aside0.mk H
   clear H
   go_wp2
   go_meet
   case rel => exact ⟨_, (true), (by first | rfl | (simp; done) | (simp [*]; done)), H', ⟨by first | omega | exact Nat.le_refl _⟩, ⟨by repeat (first | (with_reducible first | exact HB.out | apply below_alloc | apply pw_below_drewN | apply below_drew1) | exact HB.out)⟩⟩
  ·
   rw [if_neg c4] at H
   have c4b0 : decide (40 < (l0.length : Int)) = false := decide_eq_false c4
   have c4b1 : decide (40 < l0.length) = false := decide_eq_false (by omega)
   clear c4
   (first | rw [c4b0] | (simp only [i64_w, i32_w]; rw [c4b0]) | skip)
   have H' := Aside0.mk H
   clear H
   go_wp2
   go_meet
   case rel => exact ⟨_, (decide ((a1.size : Int) > 300)), (by first | rfl | (simp; done) | (simp [*]; done)), H', ⟨by first | omega | exact Nat.le_refl _⟩, ⟨by repeat (first | (with_reducible first | exact HB.out | apply below_alloc | apply pw_below_drewN | apply below_drew1) | exact HB.out)⟩⟩
 case rest =>
  clear HC3
  try clear p2
  try clear c4
  try clear c4b0
  try clear c4b1
  obtain ⟨kq, x14_2, rfl, HA, HJ2, HB⟩ := hcut
  cases kq with
  | zero => exact absurd HA.out (by simp [redpencillaw05_VectorTexts.j0])
  | succ kj2 =>
   have H := HA.out
   clear HA
   simp only [redpencillaw05_VectorTexts.j0] at H
   by_cases c5 : x14_2 = true
   ·
    subst c5
    have H1 : ((redpencillaw05_known.f kj2).bind fun t320 => (some t320)) = some true := by rw [if_pos rfl] at H; exact H
    clear H
    have H := H1
    clear H1
    replace H := Option.bind_eq_some_iff.mp H
    obtain ⟨t320, A60, H⟩ := H
    replace H : (some t320) = some true := H
    have A6 := Aside0.mk A60
    clear A60
    obtain rfl := Option.some.inj H
    go_wp2_with (first | ((with_reducible refine gate_callee (f := 8) rfl ?_); refine goesL_ (some 15) rfl rfl Tryz.func8 (by kernel_rfl) rfl #[] rfl (by (try simp only [List.map_toArray, List.map_cons, List.map_nil]); first | done | rfl | (simp only [List.length_drop, List.length_take]; rfl)) ?_; (with_reducible refine (redpencillaw05_known.calls kj2  true _ ?side1 A6.out).mono ?_); (case side1 => exact GOK_below HG.out (by repeat (first | (with_reducible first | exact HB.out | apply below_alloc | apply pw_below_drewN | apply below_drew1) | exact HB.out))); rintro e w7 ⟨rfl, hb⟩; (try clear A6); refine ⟨_, rfl, ?_⟩; have n0_ := Aside0.mk (below_step (by repeat (first | (with_reducible first | exact HB.out | apply below_alloc | apply pw_below_drewN | apply below_drew1) | exact HB.out)) hb); clear HB; have HB := n0_; clear n0_; (try clear hb); (try clear hb2); (try clear hk); (try clear hi)))
    go_ret
    exact ⟨by first | rfl | (simp [errW_none, errW_some] <;> rfl) | (simp [*, errW_none, errW_some] <;> rfl), by repeat (first | (with_reducible first | exact HB.out | apply below_alloc | apply pw_below_drewN | apply below_drew1) | exact HB.out)⟩
   ·
    replace c5 := Bool.eq_false_iff.mpr c5
    subst c5
    have H1 : ((redpencilref05_Valid.f kj2 l0).bind fun t321 => (if t321 = true then ((redpencilref05_Text.f kj2 l0).bind fun t322 => ((redpencillaw05_texts.f l0 t322 0).bind fun t323 => (if t323 = true then (redpencillaw05_VectorTexts.j1 kj2 a1) else (some false)))) else ((redpencillaw05_texts.f l0 (⟨#[]⟩ : ByteArray) 2).bind fun t324 => (if t324 = true then (redpencillaw05_VectorTexts.j1 kj2 a1) else (some false))))) = some true := by rw [if_neg (show ¬ (false = true) by decide)] at H; exact H
    clear H
    have H := H1
    clear H1
    replace H := Option.bind_eq_some_iff.mp H
    obtain ⟨t321, A80, H⟩ := H
    replace H : (if t321 = true then ((redpencilref05_Text.f kj2 l0).bind fun t322 => ((redpencillaw05_texts.f l0 t322 0).bind fun t323 => (if t323 = true then (redpencillaw05_VectorTexts.j1 kj2 a1) else (some false)))) else ((redpencillaw05_texts.f l0 (⟨#[]⟩ : ByteArray) 2).bind fun t324 => (if t324 = true then (redpencillaw05_VectorTexts.j1 kj2 a1) else (some false)))) = some true := H
    have A8 := Aside0.mk A80
    clear A80
    have HC9 := Aside0.mk H
    clear H
    go_upto_if 18 with (first | ((with_reducible refine gate_callee (f := 10) rfl ?_); refine goesL_ (some 17) rfl rfl Tryz.func10 (by kernel_rfl) rfl #[.slice A0 l0.length c0] rfl (by (try simp only [List.map_toArray, List.map_cons, List.map_nil]); first | done | rfl | (simp only [List.length_drop, List.length_take]; rfl)) ?_; (with_reducible refine (redpencilref05_Valid.calls kj2 _ _ l0 t321 _ ?side1 ?side2 A8.out).mono ?_); (case side1 => repeat (first | exact (Kd.C_below HR0.out HB.out) | (with_reducible refine Kd.C_alloc ?_ _) | (with_reducible refine Kd.C_drewN ?_ _) | (with_reducible refine Kd.C_drew ?_))); (case side2 => exact HC0.out); rintro e w10 ⟨rfl, hb⟩; refine ⟨_, rfl, ?_⟩; have n0_ := Aside0.mk (below_step (by repeat (first | (with_reducible first | exact HB.out | apply below_alloc | apply pw_below_drewN | apply below_drew1) | exact HB.out)) hb); clear HB; have HB := n0_; clear n0_; (try clear hb); (try clear hb2); (try clear hk); (try clear hi)))
    (try simp only [Act.put, List.setIfInBounds_toArray, List.set_cons_zero, List.set_cons_succ])
    go_cut [] (fun wc => ∃ (kq : Nat), Aside0 (redpencillaw05_VectorTexts.j1 kq a1 = some true) ∧ Aside0 (kq ≤ kj2) ∧ Aside0 (Below w.heap.size w wc))
    case first =>
     have H := HC9.out
     clear HC9
     by_cases c11 : t321 = true
     ·
      subst c11
      have H1 : ((redpencilref05_Text.f kj2 l0).bind fun t322 => ((redpencillaw05_texts.f l0 t322 0).bind fun t323 => (if t323 = true then (redpencillaw05_VectorTexts.j1 kj2 a1) else (some false)))) = some true := by rw [if_pos rfl] at H; exact H
      clear H
      have H := H1
      clear H1
      replace H := Option.bind_eq_some_iff.mp H
      obtain ⟨t322, A120, H⟩ := H
      replace H : ((redpencillaw05_texts.f l0 t322 0).bind fun t323 => (if t323 = true then (redpencillaw05_VectorTexts.j1 kj2 a1) else (some false))) = some true := H
      have A12 := Aside0.mk A120
      clear A120
      replace H := Option.bind_eq_some_iff.mp H
      obtain ⟨t323, A130, H⟩ := H
      replace H : (if t323 = true then (redpencillaw05_VectorTexts.j1 kj2 a1) else (some false)) = some true := H
      have A13 := Aside0.mk A130
      clear A130
      by_cases c14 : t323 = true
      ·
       subst c14
       have H1 : (redpencillaw05_VectorTexts.j1 kj2 a1) = some true := by rw [if_pos rfl] at H; exact H
       clear H
       have H := H1
       clear H1
       have H' := Aside0.mk H
       clear H
       go_wp2_with (first | ((with_reducible refine gate_callee (f := 28) rfl ?_); refine goesL_ (some 24) rfl rfl Tryz.func28 (by kernel_rfl) rfl #[.slice A0 l0.length c0] rfl (by (try simp only [List.map_toArray, List.map_cons, List.map_nil]); first | done | rfl | (simp only [List.length_drop, List.length_take]; rfl)) ?_; (with_reducible refine (redpencilref05_Text.calls kj2 _ _ l0 t322 _ ?side1 ?side2 A12.out).mono ?_); (case side1 => repeat (first | exact (Kd.C_below HR0.out HB.out) | (with_reducible refine Kd.C_alloc ?_ _) | (with_reducible refine Kd.C_drewN ?_ _) | (with_reducible refine Kd.C_drew ?_))); (case side2 => exact HC0.out); rintro e w15 ⟨rfl, hb⟩; (try clear A12); refine ⟨_, rfl, ?_⟩; have n0_ := Aside0.mk (below_step (by repeat (first | (with_reducible first | exact HB.out | apply below_alloc | apply pw_below_drewN | apply below_drew1) | exact HB.out)) hb); clear HB; have HB := n0_; clear n0_; (try clear hb); (try clear hb2); (try clear hk); (try clear hi)) | ((with_reducible refine gate_callee (f := 27) rfl ?_); refine goesL_ (some 25) rfl rfl Tryz.func27 (by kernel_rfl) rfl #[.slice A0 l0.length c0, .string t322, .int .i64 0] rfl (by (try simp only [List.map_toArray, List.map_cons, List.map_nil]); first | done | rfl | (simp only [List.length_drop, List.length_take]; rfl)) ?_; (with_reducible refine (redpencillaw05_texts.calls _ _ l0 t322 0 true _ ?side1 ?side2 ?side3 A13.out).mono ?_); (case side1 => exact GOK_below HG.out (by repeat (first | (with_reducible first | exact HB.out | apply below_alloc | apply pw_below_drewN | apply below_drew1) | exact HB.out))); (case side2 => repeat (first | exact (Kd.C_below HR0.out HB.out) | (with_reducible refine Kd.C_alloc ?_ _) | (with_reducible refine Kd.C_drewN ?_ _) | (with_reducible refine Kd.C_drew ?_))); (case side3 => exact HC0.out); rintro e w16 ⟨rfl, hb⟩; (try clear A13); refine ⟨_, rfl, ?_⟩; have n0_ := Aside0.mk (below_step (by repeat (first | (with_reducible first | exact HB.out | apply below_alloc | apply pw_below_drewN | apply below_drew1) | exact HB.out)) hb); clear HB; have HB := n0_; clear n0_; (try clear hb); (try clear hb2); (try clear hk); (try clear hi)))
       go_meet
       case rel => exact ⟨_, H', ⟨by have := HJ2.out; first | omega | exact Nat.le_refl _⟩, ⟨by repeat (first | (with_reducible first | exact HB.out | apply below_alloc | apply pw_below_drewN | apply below_drew1) | exact HB.out)⟩⟩
      ·
       replace c14 := Bool.eq_false_iff.mpr c14
       subst c14
       have H1 : (some false) = some true := by rw [if_neg (show ¬ (false = true) by decide)] at H; exact H
       exact absurd H1 (by simp)
     ·
      replace c11 := Bool.eq_false_iff.mpr c11
      subst c11
      have H1 : ((redpencillaw05_texts.f l0 (⟨#[]⟩ : ByteArray) 2).bind fun t324 => (if t324 = true then (redpencillaw05_VectorTexts.j1 kj2 a1) else (some false))) = some true := by rw [if_neg (show ¬ (false = true) by decide)] at H; exact H
      clear H
      have H := H1
      clear H1
      replace H := Option.bind_eq_some_iff.mp H
      obtain ⟨t324, A190, H⟩ := H
      replace H : (if t324 = true then (redpencillaw05_VectorTexts.j1 kj2 a1) else (some false)) = some true := H
      have A19 := Aside0.mk A190
      clear A190
      by_cases c20 : t324 = true
      ·
       subst c20
       have H1 : (redpencillaw05_VectorTexts.j1 kj2 a1) = some true := by rw [if_pos rfl] at H; exact H
       clear H
       have H := H1
       clear H1
       have H' := Aside0.mk H
       clear H
       go_wp2_with (first | ((with_reducible refine gate_callee (f := 27) rfl ?_); refine goesL_ (some 20) rfl rfl Tryz.func27 (by kernel_rfl) rfl #[.slice A0 l0.length c0, .string (⟨#[]⟩ : ByteArray), .int .i64 2] rfl (by (try simp only [List.map_toArray, List.map_cons, List.map_nil]); first | done | rfl | (simp only [List.length_drop, List.length_take]; rfl)) ?_; (with_reducible refine (redpencillaw05_texts.calls _ _ l0 (⟨#[]⟩ : ByteArray) 2 true _ ?side1 ?side2 ?side3 A19.out).mono ?_); (case side1 => exact GOK_below HG.out (by repeat (first | (with_reducible first | exact HB.out | apply below_alloc | apply pw_below_drewN | apply below_drew1) | exact HB.out))); (case side2 => repeat (first | exact (Kd.C_below HR0.out HB.out) | (with_reducible refine Kd.C_alloc ?_ _) | (with_reducible refine Kd.C_drewN ?_ _) | (with_reducible refine Kd.C_drew ?_))); (case side3 => exact HC0.out); rintro e w21 ⟨rfl, hb⟩; (try clear A19); refine ⟨_, rfl, ?_⟩; have n0_ := Aside0.mk (below_step (by repeat (first | (with_reducible first | exact HB.out | apply below_alloc | apply pw_below_drewN | apply below_drew1) | exact HB.out)) hb); clear HB; have HB := n0_; clear n0_; (try clear hb); (try clear hb2); (try clear hk); (try clear hi)))
       go_meet
       case rel => exact ⟨_, H', ⟨by have := HJ2.out; first | omega | exact Nat.le_refl _⟩, ⟨by repeat (first | (with_reducible first | exact HB.out | apply below_alloc | apply pw_below_drewN | apply below_drew1) | exact HB.out)⟩⟩
      ·
       replace c20 := Bool.eq_false_iff.mpr c20
       subst c20
       have H1 : (some false) = some true := by rw [if_neg (show ¬ (false = true) by decide)] at H; exact H
       exact absurd H1 (by simp)
    case rest =>
     clear HC9
     try clear c1
     try clear c2
     try clear p2
     try clear c4
     try clear c4b0
     try clear c4b1
     try clear c5
     try clear c6
     try clear c8
     try clear c10
     try clear c11
     try clear c14
     try clear c20
     try clear p2
     obtain ⟨kq, HA, HJ8, HB⟩ := hcut
     cases kq with
     | zero => exact absurd HA.out (by simp [redpencillaw05_VectorTexts.j1])
     | succ kj8 =>
      have H := HA.out
      clear HA
      simp only [redpencillaw05_VectorTexts.j1] at H
      replace H := Option.bind_eq_some_iff.mp H
      obtain ⟨⟨t325, t326⟩, A230, H⟩ := H
      replace H : (if t326 = true then ((redpencillaw05_parses.f kj8 a1 t325 0).bind fun t329 => (if t329 = true then ((redpencillaw05_known.f kj8).bind fun t330 => (some t330)) else (some false))) else ((redpencillaw05_parses.f kj8 a1 ([] : List (S25)) 6).bind fun t331 => (if t331 = true then ((redpencillaw05_known.f kj8).bind fun t332 => (some t332)) else (some false)))) = some true := H
      have A23 := Aside0.mk A230
      clear A230
      by_cases c24 : t326 = true
      ·
       subst c24
       have H1 : ((redpencillaw05_parses.f kj8 a1 t325 0).bind fun t329 => (if t329 = true then ((redpencillaw05_known.f kj8).bind fun t330 => (some t330)) else (some false))) = some true := by rw [if_pos rfl] at H; exact H
       clear H
       have H := H1
       clear H1
       replace H := Option.bind_eq_some_iff.mp H
       obtain ⟨t329, A250, H⟩ := H
       replace H : (if t329 = true then ((redpencillaw05_known.f kj8).bind fun t330 => (some t330)) else (some false)) = some true := H
       have A25 := Aside0.mk A250
       clear A250
       by_cases c26 : t329 = true
       ·
        subst c26
        have H1 : ((redpencillaw05_known.f kj8).bind fun t330 => (some t330)) = some true := by rw [if_pos rfl] at H; exact H
        clear H
        have H := H1
        clear H1
        replace H := Option.bind_eq_some_iff.mp H
        obtain ⟨t330, A270, H⟩ := H
        replace H : (some t330) = some true := H
        have A27 := Aside0.mk A270
        clear A270
        obtain rfl := Option.some.inj H
        go_wp2_with (first | ((with_reducible refine gate_callee (f := 29) rfl ?_); refine goesL_ (some 29) rfl rfl Tryz.func29 (by kernel_rfl) rfl #[.string a1] rfl (by (try simp only [List.map_toArray, List.map_cons, List.map_nil]); first | done | rfl | (simp only [List.length_drop, List.length_take]; rfl)) ?_; (with_reducible refine (redpencilref05_Parse.calls kj8 a1 t325 true _ A23.out).mono ?_); rintro e w28 ⟨v327, rfl, ho0, hb⟩; (try clear A23); refine ⟨_, rfl, ?_⟩; have n0_ := Aside0.mk (Kd.R_lower ho0 (below_size (by repeat (first | (with_reducible first | exact HB.out | apply below_alloc | apply pw_below_drewN | apply below_drew1) | exact HB.out)))); have n1_ := Aside0.mk (below_step (by repeat (first | (with_reducible first | exact HB.out | apply below_alloc | apply pw_below_drewN | apply below_drew1) | exact HB.out)) hb); clear HB; have HO328 := n0_; have HB := n1_; clear n0_ n1_; (try clear hb); (try clear hb2); (try clear hk); (try clear hi); (try clear ho0); obtain ⟨Ao29, co29, eo29⟩ := Kd.R_slice HO328.out; subst eo29) | ((with_reducible refine gate_callee (f := 30) rfl ?_); refine goesL_ (some 41) rfl rfl Tryz.func30 (by kernel_rfl) rfl #[.string a1, .slice Ao29 t325.length co29, .int .i64 0] rfl (by (try simp only [List.map_toArray, List.map_cons, List.map_nil]); first | done | rfl | (simp only [List.length_drop, List.length_take]; rfl)) ?_; (with_reducible refine (redpencillaw05_parses.calls kj8 a1 _ _ t325 0 true _ ?side1 ?side2 ?side3 A25.out).mono ?_); (case side1 => exact GOK_below HG.out (by repeat (first | (with_reducible first | exact HB.out | apply below_alloc | apply pw_below_drewN | apply below_drew1) | exact HB.out))); (case side2 => repeat (first | exact (Kd.R_reads' HO328.out).2.2 | (with_reducible refine Kd.C_alloc ?_ _) | (with_reducible refine Kd.C_drewN ?_ _) | (with_reducible refine Kd.C_drew ?_))); (case side3 => exact (Kd.R_reads' HO328.out).2.1); rintro e w30 ⟨rfl, hb⟩; (try clear A25); refine ⟨_, rfl, ?_⟩; have n0_ := Aside0.mk (Kd.R_below (by (with_reducible repeat (first | apply Kd.R_alloc | apply Kd.R_drewN | apply Kd.R_drew)); exact HO328.out) hb); have n1_ := Aside0.mk (below_step (by repeat (first | (with_reducible first | exact HB.out | apply below_alloc | apply pw_below_drewN | apply below_drew1) | exact HB.out)) hb); clear HO328; clear HB; have HO328 := n0_; have HB := n1_; clear n0_ n1_; (try clear hb); (try clear hb2); (try clear hk); (try clear hi)) | (go_at_call 8; (with_reducible refine (redpencillaw05_known.calls kj8  true _ ?side1 A27.out).mono ?_); (case side1 => exact GOK_below HG.out (by repeat (first | (with_reducible first | exact HB.out | apply below_alloc | apply pw_below_drewN | apply below_drew1) | exact HB.out))); rintro e w31 ⟨rfl, hb⟩; (try clear A27); have n0_ := Aside0.mk (Kd.R_below (by (with_reducible repeat (first | apply Kd.R_alloc | apply Kd.R_drewN | apply Kd.R_drew)); exact HO328.out) hb); have n1_ := Aside0.mk (below_step (by repeat (first | (with_reducible first | exact HB.out | apply below_alloc | apply pw_below_drewN | apply below_drew1) | exact HB.out)) hb); clear HO328; clear HB; have HO328 := n0_; have HB := n1_; clear n0_ n1_; (try clear hb); (try clear hb2); (try clear hk); (try clear hi)))
        go_ret
        exact ⟨by first | rfl | (simp [errW_none, errW_some] <;> rfl) | (simp [*, errW_none, errW_some] <;> rfl), by repeat (first | (with_reducible first | exact HB.out | apply below_alloc | apply pw_below_drewN | apply below_drew1) | exact HB.out)⟩
       ·
        replace c26 := Bool.eq_false_iff.mpr c26
        subst c26
        have H1 : (some false) = some true := by rw [if_neg (show ¬ (false = true) by decide)] at H; exact H
        exact absurd H1 (by simp)
      ·
       replace c24 := Bool.eq_false_iff.mpr c24
       subst c24
       have H1 : ((redpencillaw05_parses.f kj8 a1 ([] : List (S25)) 6).bind fun t331 => (if t331 = true then ((redpencillaw05_known.f kj8).bind fun t332 => (some t332)) else (some false))) = some true := by rw [if_neg (show ¬ (false = true) by decide)] at H; exact H
       clear H
       have H := H1
       clear H1
       replace H := Option.bind_eq_some_iff.mp H
       obtain ⟨t331, A350, H⟩ := H
       replace H : (if t331 = true then ((redpencillaw05_known.f kj8).bind fun t332 => (some t332)) else (some false)) = some true := H
       have A35 := Aside0.mk A350
       clear A350
       by_cases c36 : t331 = true
       ·
        subst c36
        have H1 : ((redpencillaw05_known.f kj8).bind fun t332 => (some t332)) = some true := by rw [if_pos rfl] at H; exact H
        clear H
        have H := H1
        clear H1
        replace H := Option.bind_eq_some_iff.mp H
        obtain ⟨t332, A370, H⟩ := H
        replace H : (some t332) = some true := H
        have A37 := Aside0.mk A370
        clear A370
        obtain rfl := Option.some.inj H
        go_wp2_with (first | ((with_reducible refine gate_callee (f := 29) rfl ?_); refine goesL_ (some 29) rfl rfl Tryz.func29 (by kernel_rfl) rfl #[.string a1] rfl (by (try simp only [List.map_toArray, List.map_cons, List.map_nil]); first | done | rfl | (simp only [List.length_drop, List.length_take]; rfl)) ?_; (with_reducible refine (redpencilref05_Parse.calls kj8 a1 t325 false _ A23.out).mono ?_); rintro e w38 ⟨v327, rfl, ho0, hb⟩; (try clear A23); refine ⟨_, rfl, ?_⟩; have n0_ := Aside0.mk (Kd.R_lower ho0 (below_size (by repeat (first | (with_reducible first | exact HB.out | apply below_alloc | apply pw_below_drewN | apply below_drew1) | exact HB.out)))); have n1_ := Aside0.mk (below_step (by repeat (first | (with_reducible first | exact HB.out | apply below_alloc | apply pw_below_drewN | apply below_drew1) | exact HB.out)) hb); clear HB; have HO328 := n0_; have HB := n1_; clear n0_ n1_; (try clear hb); (try clear hb2); (try clear hk); (try clear hi); (try clear ho0)) | ((with_reducible refine gate_callee (f := 30) rfl ?_); refine goesL_ (some 35) rfl rfl Tryz.func30 (by kernel_rfl) rfl #[.string a1, .slice none 0 0, .int .i64 6] rfl (by (try simp only [List.map_toArray, List.map_cons, List.map_nil]); first | done | rfl | (simp only [List.length_drop, List.length_take]; rfl)) ?_; (refine (redpencillaw05_parses.calls kj8 a1 _ _ ([] : List (S25)) 6 true _ ?side1 ?side2 ?side3 A35.out).mono ?_); (case side1 => exact GOK_below HG.out (by repeat (first | (with_reducible first | exact HB.out | apply below_alloc | apply pw_below_drewN | apply below_drew1) | exact HB.out))); (case side2 => exact Kd.C_nil _ _); (case side3 => exact Nat.le_refl _); rintro e w39 ⟨rfl, hb⟩; (try clear A35); refine ⟨_, rfl, ?_⟩; have n0_ := Aside0.mk (Kd.R_below (by (with_reducible repeat (first | apply Kd.R_alloc | apply Kd.R_drewN | apply Kd.R_drew)); exact HO328.out) hb); have n1_ := Aside0.mk (below_step (by repeat (first | (with_reducible first | exact HB.out | apply below_alloc | apply pw_below_drewN | apply below_drew1) | exact HB.out)) hb); clear HO328; clear HB; have HO328 := n0_; have HB := n1_; clear n0_ n1_; (try clear hb); (try clear hb2); (try clear hk); (try clear hi)) | (go_at_call 8; (with_reducible refine (redpencillaw05_known.calls kj8  true _ ?side1 A37.out).mono ?_); (case side1 => exact GOK_below HG.out (by repeat (first | (with_reducible first | exact HB.out | apply below_alloc | apply pw_below_drewN | apply below_drew1) | exact HB.out))); rintro e w40 ⟨rfl, hb⟩; (try clear A37); have n0_ := Aside0.mk (Kd.R_below (by (with_reducible repeat (first | apply Kd.R_alloc | apply Kd.R_drewN | apply Kd.R_drew)); exact HO328.out) hb); have n1_ := Aside0.mk (below_step (by repeat (first | (with_reducible first | exact HB.out | apply below_alloc | apply pw_below_drewN | apply below_drew1) | exact HB.out)) hb); clear HO328; clear HB; have HO328 := n0_; have HB := n1_; clear n0_ n1_; (try clear hb); (try clear hb2); (try clear hk); (try clear hi)))
        go_ret
        exact ⟨by first | rfl | (simp [errW_none, errW_some] <;> rfl) | (simp [*, errW_none, errW_some] <;> rfl), by repeat (first | (with_reducible first | exact HB.out | apply below_alloc | apply pw_below_drewN | apply below_drew1) | exact HB.out)⟩
       ·
        replace c36 := Bool.eq_false_iff.mpr c36
        subst c36
        have H1 : (some false) = some true := by rw [if_neg (show ¬ (false = true) by decide)] at H; exact H
        exact absurd H1 (by simp)
end Go.Proofs.YtnbjkpfpcggopaaGreatDoor.PAll
