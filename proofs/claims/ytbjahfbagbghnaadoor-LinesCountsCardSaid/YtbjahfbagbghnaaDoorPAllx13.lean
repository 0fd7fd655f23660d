-- Printed by a program of this session (wip/tools/mkprint2.py) out of the translation; Lean checks it. -- narrowed
import Derived.Test.YtbjahfbagbghnaaDoorPAllx0
import Derived.Test.YtbjahfbagbghnaaDoorPAllx2
import Derived.Test.YtbjahfbagbghnaaDoorPAllx3
import Derived.Test.YtbjahfbagbghnaaDoorPAllx7
import Derived.Test.YtbjahfbagbghnaaDoorLs
import Derived.Test.YtbjahfbagbghnaaDoorLv
namespace Go.Proofs.YtbjahfbagbghnaaDoor.PAll
open Go.RowKit Go.Proofs.YtbjahfbagbghnaaDoorW.PrintWords Go.Proofs.YtbjahfbagbghnaaDoorW.PrintLast Go.Proofs.YtbjahfbagbghnaaDoorW.PrintMore
attribute [local go_sem] max2_int min2_int max_two min_two max_three min_three max_four min_four   -- for this text's walks alone
set_option linter.unusedVariables false
set_option linter.unusedSimpArgs false

/-! ### redpencillaw41_LinesCounts: function 3 -/
mutual
def redpencillaw41_LinesCounts.l0 : Nat → ByteArray → Int → List (List Int) → Int → Option (Bool)
 | 0, _, _, _, _ => none
 | k + 1, x0, x1, x7, x8 => if x8 < (x7.length : Int) then (if 0 ≤ x8 then ((redpencillaw41_line.f k x0 x8 (runesBytes (rd_L2 x7 x8)) 0).bind fun t273 => (if t273 = true then (redpencillaw41_LinesCounts.l0 k x0 x1 x7 (wrap64 (x8 + 1))) else (some false))) else (none)) else (if x1 < 0 then ((redpencillaw41_line.f k x0 x1 (⟨#[]⟩ : ByteArray) 3).bind fun t274 => (redpencillaw41_LinesCounts.j1 k x0 x7 (!t274))) else (if x1 ≥ (x7.length : Int) then ((redpencillaw41_line.f k x0 x1 (⟨#[]⟩ : ByteArray) 3).bind fun t275 => (redpencillaw41_LinesCounts.j1 k x0 x7 (!t275))) else (redpencillaw41_LinesCounts.j1 k x0 x7 false)))
def redpencillaw41_LinesCounts.j1 : Nat → ByteArray → List (List Int) → Bool → Option (Bool)
 | 0, _, _, _ => none
 | k + 1, x0, x7, x62 => if x62 = true then (some false) else ((redpencillaw41_counts.f k x0 (x7.length : Int) 0).bind fun t276 => (if t276 = true then ((redpencillaw41_known.f k).bind fun t277 => (some t277)) else (some false)))
end
def redpencillaw41_LinesCounts.f (k : Nat) (a0 : ByteArray) (a1 : Int) : Option (Bool) := if (a0.size : Int) > 300 then ((redpencillaw41_known.f k).bind fun t261 => (some t261)) else ((runes_Decode.f a0).bind fun bt262 => (if bt262.2 = 0 then ((redpencillaw41_split.f k bt262.1).bind fun t269 => (redpencillaw41_LinesCounts.l0 k a0 a1 t269 0)) else ((redpencillaw41_counts.f k a0 0 bt262.2).bind fun t266 => (if t266 = true then ((redpencillaw41_line.f k a0 a1 (⟨#[]⟩ : ByteArray) bt262.2).bind fun t267 => (if t267 = true then ((redpencillaw41_known.f k).bind fun t268 => (some t268)) else (some false))) else (some false)))))
theorem redpencillaw41_LinesCounts.mono_l : ∀ k, (∀ y0 y1 y2 y3, LeO (redpencillaw41_LinesCounts.l0 k y0 y1 y2 y3) (redpencillaw41_LinesCounts.l0 (k + 1) y0 y1 y2 y3)) ∧ (∀ y0 y1 y2, LeO (redpencillaw41_LinesCounts.j1 k y0 y1 y2) (redpencillaw41_LinesCounts.j1 (k + 1) y0 y1 y2))
 | 0 => ⟨fun _ _ _ _ r h => by simp [redpencillaw41_LinesCounts.l0] at h, fun _ _ _ r h => by simp [redpencillaw41_LinesCounts.j1] at h⟩
 | k + 1 => by
  obtain ⟨ih0, ih1⟩ := redpencillaw41_LinesCounts.mono_l k
  refine ⟨?_, ?_⟩
  ·
   intro y0 y1 y2 y3
   unfold redpencillaw41_LinesCounts.l0
   repeat' first
   | (with_reducible exact ih0 _ _ _ _)
   | (with_reducible exact ih1 _ _ _)
   | (with_reducible exact redpencillaw41_counts.mono _ _ _ _)
   | (with_reducible exact redpencillaw41_known.mono _)
   | (with_reducible exact redpencillaw41_line.mono _ _ _ _ _)
   | (with_reducible exact redpencillaw41_split.mono _ _)
   | (with_reducible exact LeO.refl _)
   | (with_reducible exact LeO.none _)
   | (with_reducible refine LeO.ite ?_ ?_)
   | (with_reducible refine LeO.bind ?_ (fun _ => ?_))
   | exact ih0 _ _ _ _
   | exact ih1 _ _ _
   | exact redpencillaw41_counts.mono _ _ _ _
   | exact redpencillaw41_known.mono _
   | exact redpencillaw41_line.mono _ _ _ _ _
   | exact redpencillaw41_split.mono _ _
   | exact LeO.none _
   | refine LeO.ite ?_ ?_
   | refine LeO.bind ?_ (fun _ => ?_)
  ·
   intro y0 y1 y2
   unfold redpencillaw41_LinesCounts.j1
   repeat' first
   | (with_reducible exact ih0 _ _ _ _)
   | (with_reducible exact ih1 _ _ _)
   | (with_reducible exact redpencillaw41_counts.mono _ _ _ _)
   | (with_reducible exact redpencillaw41_known.mono _)
   | (with_reducible exact redpencillaw41_line.mono _ _ _ _ _)
   | (with_reducible exact redpencillaw41_split.mono _ _)
   | (with_reducible exact LeO.refl _)
   | (with_reducible exact LeO.none _)
   | (with_reducible refine LeO.ite ?_ ?_)
   | (with_reducible refine LeO.bind ?_ (fun _ => ?_))
   | exact ih0 _ _ _ _
   | exact ih1 _ _ _
   | exact redpencillaw41_counts.mono _ _ _ _
   | exact redpencillaw41_known.mono _
   | exact redpencillaw41_line.mono _ _ _ _ _
   | exact redpencillaw41_split.mono _ _
   | exact LeO.none _
   | refine LeO.ite ?_ ?_
   | refine LeO.bind ?_ (fun _ => ?_)
theorem redpencillaw41_LinesCounts.mono : ∀ a0 a1 k, LeO (redpencillaw41_LinesCounts.f k a0 a1) (redpencillaw41_LinesCounts.f (k + 1) a0 a1) := by
 intro a0 a1 k
 obtain ⟨ih0, ih1⟩ := redpencillaw41_LinesCounts.mono_l k
 unfold redpencillaw41_LinesCounts.f
 repeat' first
   | (with_reducible exact ih0 _ _ _ _)
   | (with_reducible exact ih1 _ _ _)
   | (with_reducible exact redpencillaw41_counts.mono _ _ _ _)
   | (with_reducible exact redpencillaw41_known.mono _)
   | (with_reducible exact redpencillaw41_line.mono _ _ _ _ _)
   | (with_reducible exact redpencillaw41_split.mono _ _)
   | (with_reducible exact LeO.refl _)
   | (with_reducible exact LeO.none _)
   | (with_reducible refine LeO.ite ?_ ?_)
   | (with_reducible refine LeO.bind ?_ (fun _ => ?_))
   | exact ih0 _ _ _ _
   | exact ih1 _ _ _
   | exact redpencillaw41_counts.mono _ _ _ _
   | exact redpencillaw41_known.mono _
   | exact redpencillaw41_line.mono _ _ _ _ _
   | exact redpencillaw41_split.mono _ _
   | exact LeO.none _
   | refine LeO.ite ?_ ?_
   | refine LeO.bind ?_ (fun _ => ?_)
set_option maxHeartbeats 8000000 in
set_option maxRecDepth 100000 in
theorem redpencillaw41_LinesCounts.calls (k : Nat) (a0 : ByteArray) (a1 : Int) (w : World) (hG : GOK w) (h : redpencillaw41_LinesCounts.f k a0 a1 = some true) :
  Calls Tryd.prog 3 #[.string a0, .int .i64 a1] w fun e w' => e = .returned (.bool true) ∧ Below w.heap.size w w' := by
 have HB := Aside0.mk (Below.refl w.heap.size w)
 have HG := Aside0.mk hG
 clear hG
 have H : (if (a0.size : Int) > 300 then ((redpencillaw41_known.f k).bind fun t261 => (some t261)) else ((runes_Decode.f a0).bind fun bt262 => (if bt262.2 = 0 then ((redpencillaw41_split.f k bt262.1).bind fun t269 => (redpencillaw41_LinesCounts.l0 k a0 a1 t269 0)) else ((redpencillaw41_counts.f k a0 0 bt262.2).bind fun t266 => (if t266 = true then ((redpencillaw41_line.f k a0 a1 (⟨#[]⟩ : ByteArray) bt262.2).bind fun t267 => (if t267 = true then ((redpencillaw41_known.f k).bind fun t268 => (some t268)) else (some false))) else (some false)))))) = some true := h
 clear h
 by_cases c3 : (a0.size : Int) > 300
 ·
  rw [if_pos c3] at H
  have c3b0 : decide (300 < (a0.size : Int)) = true := decide_eq_true c3
  have c3b1 : decide (300 < a0.size) = true := decide_eq_true (by omega)
  clear c3
  replace H := Option.bind_eq_some_iff.mp H
  obtain ⟨t261, A40, H⟩ := H
  replace H : (some t261) = some true := H
  have A4 := Aside0.mk A40
  clear A40
  obtain rfl := Option.some.inj H
  go_enter Tryd.func3, Tryd.ntmps3
  go_wp2_with (first | ((with_reducible refine gate_callee (f := 9) rfl ?_); refine goesL_ (some 12) rfl rfl Tryd.func9 (by kernel_rfl) rfl #[] rfl (by (try simp only [List.map_toArray, List.map_cons, List.map_nil]); first | done | rfl | (simp only [List.length_drop, List.length_take]; rfl)) ?_; (with_reducible refine (redpencillaw41_known.calls k  true _ ?side1 A4.out).mono ?_); (case side1 => exact GOK_below HG.out (by repeat (first | (with_reducible first | exact HB.out | apply below_alloc | apply pw_below_drewN | apply below_drew1) | exact HB.out))); rintro e w5 ⟨rfl, hb⟩; refine ⟨_, rfl, ?_⟩; have n0_ := Aside0.mk (below_step (by repeat (first | (with_reducible first | exact HB.out | apply below_alloc | apply pw_below_drewN | apply below_drew1) | exact HB.out)) hb); clear HB; have HB := n0_; clear n0_; (try clear hb); (try clear hb2); (try clear hk); (try clear hi)))
  go_ret
  exact ⟨by first | rfl | (simp [errW_none, errW_some] <;> rfl) | (simp [*, errW_none, errW_some] <;> rfl), by repeat (first | (with_reducible first | exact HB.out | apply below_alloc | apply pw_below_drewN | apply below_drew1) | exact HB.out)⟩
 ·
  rw [if_neg c3] at H
  have c3b0 : decide (300 < (a0.size : Int)) = false := decide_eq_false c3
  have c3b1 : decide (300 < a0.size) = false := decide_eq_false (by omega)
  clear c3
  replace H := Option.bind_eq_some_iff.mp H
  obtain ⟨⟨t262, t263⟩, A60, H⟩ := H
  replace H : (if t263 = 0 then ((redpencillaw41_split.f k t262).bind fun t269 => (redpencillaw41_LinesCounts.l0 k a0 a1 t269 0)) else ((redpencillaw41_counts.f k a0 0 t263).bind fun t266 => (if t266 = true then ((redpencillaw41_line.f k a0 a1 (⟨#[]⟩ : ByteArray) t263).bind fun t267 => (if t267 = true then ((redpencillaw41_known.f k).bind fun t268 => (some t268)) else (some false))) else (some false)))) = some true := H
  have A6 := Aside0.mk A60
  clear A60
  by_cases c7 : t263 = 0
  ·
   rw [if_pos c7] at H
   have c7b0 : (t263 == 0) = true := beq_iff_eq.mpr c7
   have c7b1 : (t263 != 0) = false := bne_eq_false_iff_eq.mpr c7
   clear c7
   replace H := Option.bind_eq_some_iff.mp H
   obtain ⟨t269, A80, H⟩ := H
   replace H : (redpencillaw41_LinesCounts.l0 k a0 a1 t269 0) = some true := H
   have A8 := Aside0.mk A80
   clear A80
   have H' := Aside0.mk H
   clear H
   go_enter Tryd.func3, Tryd.ntmps3
   go_wp2_with (first | ((with_reducible refine gate_callee (f := 10) rfl ?_); refine goesL_ (some 15) rfl rfl Tryd.func10 (by kernel_rfl) rfl #[.string a0] rfl (by (try simp only [List.map_toArray, List.map_cons, List.map_nil]); first | done | rfl | (simp only [List.length_drop, List.length_take]; rfl)) ?_; (with_reducible refine (runes_Decode.calls a0 t262 t263 _ ?side1 A6.out).mono ?_); (case side1 => exact GOK_below HG.out (by repeat (first | (with_reducible first | exact HB.out | apply below_alloc | apply pw_below_drewN | apply below_drew1) | exact HB.out))); rintro e w9 ⟨v264, rfl, ho0, hb⟩; refine ⟨_, rfl, ?_⟩; have n0_ := Aside0.mk (Kd.R_lower ho0 (below_size (by repeat (first | (with_reducible first | exact HB.out | apply below_alloc | apply pw_below_drewN | apply below_drew1) | exact HB.out)))); have n1_ := Aside0.mk (below_step (by repeat (first | (with_reducible first | exact HB.out | apply below_alloc | apply pw_below_drewN | apply below_drew1) | exact HB.out)) hb); clear HB; have HO265 := n0_; have HB := n1_; clear n0_ n1_; (try clear hb); (try clear hb2); (try clear hk); (try clear hi); (try clear ho0); obtain ⟨Ao10, co10, eo10⟩ := Kd.R_slice HO265.out; subst eo10) | ((with_reducible refine gate_callee (f := 13) rfl ?_); refine goesL_ (some 33) rfl rfl Tryd.func13 (by kernel_rfl) rfl #[.slice Ao10 t262.length co10] rfl (by (try simp only [List.map_toArray, List.map_cons, List.map_nil]); first | done | rfl | (simp only [List.length_drop, List.length_take]; rfl)) ?_; (with_reducible refine (redpencillaw41_split.calls k _ _ t262 t269 _ ?side1 ?side2 A8.out).mono ?_); (case side1 => repeat (first | exact (Kd.R_reads' HO265.out).2.2 | (with_reducible refine Kd.C_alloc ?_ _) | (with_reducible refine Kd.C_drewN ?_ _) | (with_reducible refine Kd.C_drew ?_))); (case side2 => exact (Kd.R_reads' HO265.out).2.1); rintro e w11 ⟨v270, rfl, ho0, hb⟩; refine ⟨_, rfl, ?_⟩; have n0_ := Aside0.mk (Kd.R_below (by (with_reducible repeat (first | apply Kd.R_alloc | apply Kd.R_drewN | apply Kd.R_drew)); exact HO265.out) hb); have n1_ := Aside0.mk (Kd.S_lower (Kd.S_new' ho0 (Kd.R_lt (by (with_reducible repeat (first | apply Kd.R_alloc | apply Kd.R_drewN | apply Kd.R_drew)); exact HO265.out))) (below_size (by repeat (first | (with_reducible first | exact HB.out | apply below_alloc | apply pw_below_drewN | apply below_drew1) | exact HB.out)))); have n2_ := Aside0.mk (below_step (by repeat (first | (with_reducible first | exact HB.out | apply below_alloc | apply pw_below_drewN | apply below_drew1) | exact HB.out)) hb); clear HO265; clear HB; have HO265 := n0_; have HO271 := n1_; have HB := n2_; clear n0_ n1_ n2_; (try clear hb); (try clear hb2); (try clear hk); (try clear hi); (try clear ho0)))
   go_loopg [8] k (fun kq v8 w' => ∃ (x8_1 : Int), v8 = .int .i64 x8_1 ∧ Aside0 (redpencillaw41_LinesCounts.l0 kq a0 a1 t269 x8_1 = some true) ∧ Aside0 (kq ≤ k) ∧ Aside0 (Kd.S (Kd.slice 21 (Kd.int .i32)) 23 w' w.heap.size (fun _ => True) v270 t269) ∧ Aside0 (Below w.heap.size w w'))
   case atStart => exact ⟨(0), (by first | rfl | (simp; done) | (simp [*]; done)), H', ⟨Nat.le_refl _⟩, ⟨by (with_reducible repeat (first | apply Kd.S_alloc | apply Kd.S_drewN | apply Kd.S_drew)); exact Kd.S_mono HO271.out (fun _ hk => trivial)⟩, ⟨by repeat (first | (with_reducible first | exact HB.out | apply below_alloc | apply pw_below_drewN | apply below_drew1) | exact HB.out)⟩⟩
   case round =>
    clear H'
    try clear c1
    try clear p2
    try clear c3
    try clear c3b0
    try clear c3b1
    try clear c7
    try clear c7b0
    try clear c7b1
    try clear c9
    try clear c10
    obtain ⟨x8_1, rfl, HA, HK1, HO_7, HB⟩ := hrel
    cases gk with
    | zero => exact absurd HA.out (by simp [redpencillaw41_LinesCounts.l0])
    | succ k1 =>
     have H := HA.out
     clear HA
     simp only [redpencillaw41_LinesCounts.l0] at H
     by_cases c12 : x8_1 < (t269.length : Int)
     ·
      rw [if_pos c12] at H
      have c12b0 : decide (x8_1 < (t269.length : Int)) = true := decide_eq_true c12
      clear c12
      by_cases c13 : 0 ≤ x8_1
      ·
       rw [if_pos c13] at H
       have c13b0 : decide (0 ≤ x8_1) = true := decide_eq_true c13
       clear c13
       replace H := Option.bind_eq_some_iff.mp H
       obtain ⟨t273, A140, H⟩ := H
       replace H : (if t273 = true then (redpencillaw41_LinesCounts.l0 k1 a0 a1 t269 (wrap64 (x8_1 + 1))) else (some false)) = some true := H
       have A14 := Aside0.mk A140
       clear A140
       by_cases c15 : t273 = true
       ·
        subst c15
        have H1 : (redpencillaw41_LinesCounts.l0 k1 a0 a1 t269 (wrap64 (x8_1 + 1))) = some true := by rw [if_pos rfl] at H; exact H
        clear H
        have H := H1
        clear H1
        have H' := Aside0.mk H
        clear H
        obtain ⟨Ao16, co16, eo16⟩ := Kd.S_slice HO_7.out
        subst eo16
        have p272 : 0 ≤ (x8_1 : Int) := of_decide_eq_true (by first | (with_reducible assumption) | assumption)
        have q272 : x8_1 < (t269.length : Int) := of_decide_eq_true (by first | (with_reducible assumption) | assumption)
        obtain ⟨ad272, A272_0, c272_0, e272, hx272_0, hl272_0, hi272_0⟩ := at_L2 (Kd.S_reads' HO_7.out).2.2 x8_1 p272 q272
        cases e272
        obtain ⟨ce272, hce272, hMe272, hcc272⟩ := Kd.S_get HO_7.out [] x8_1 p272 (by first | exact q272 | exact of_decide_eq_true (by first | (with_reducible assumption) | assumption) | (have e_ := (Kd.S_reads' HO_7.out).1; omega))
        obtain ⟨ve272_0, rfl, ge272_0⟩ := hMe272
        have hv272_0 := hcc272 0 _ rfl
        rw [Nat.add_zero, show ((Kd.slice 21 (Kd.int .i32))).sz = 1 from rfl, Nat.mul_one] at hv272_0
        replace hv272_0 := Option.some.inj (hv272_0.symm.trans hx272_0)
        rw [hv272_0] at ge272_0
        have HL272_0 := Aside0.mk (show Kd.R (Kd.int .i32) 21 _ _ _ _ (rd_L2 t269 x8_1) from ge272_0)
        clear hv272_0 ge272_0
        clear hcc272 hce272
        have HR272_0 := Aside0.mk hi272_0
        have HC272_0 := Aside0.mk hl272_0
        clear hi272_0 hl272_0
        replace p272 := eq_true p272
        replace q272 := eq_true q272
        have hcv17 := Kd.C_runes (P := Tryd.prog) (A := A272_0) (c := c272_0) Tryd.underlying23 Tryd.underlying21 Tryd.underlying9 (by repeat (first | (with_reducible exact HR272_0.out) | (with_reducible refine Kd.C_alloc ?_ _) | (with_reducible refine Kd.C_drewN ?_ _) | (with_reducible refine Kd.C_drew ?_) | exact HR272_0.out))
        go_wp2_with (first | ((with_reducible refine gate_callee (f := 12) rfl ?_); refine goesL_ (some 47) rfl rfl Tryd.func12 (by kernel_rfl) rfl #[.string a0, .int .i64 x8_1, .string (runesBytes (rd_L2 t269 x8_1)), .int .i64 0] rfl (by (try simp only [List.map_toArray, List.map_cons, List.map_nil]); first | done | rfl | (simp only [List.length_drop, List.length_take]; rfl)) ?_; (with_reducible refine (redpencillaw41_line.calls k1 a0 x8_1 (runesBytes (rd_L2 t269 x8_1)) 0 true _ ?side1 A14.out).mono ?_); (case side1 => exact GOK_below HG.out (by repeat (first | (with_reducible first | exact HB.out | apply below_alloc | apply pw_below_drewN | apply below_drew1) | exact HB.out))); rintro e w18 ⟨rfl, hb⟩; refine ⟨_, rfl, ?_⟩; have n0_ := Aside0.mk (Kd.S_below (by (with_reducible repeat (first | apply Kd.S_alloc | apply Kd.S_drewN | apply Kd.S_drew)); exact HO_7.out) hb); have n1_ := Aside0.mk (Kd.R_below (by (with_reducible repeat (first | apply Kd.R_alloc | apply Kd.R_drewN | apply Kd.R_drew)); exact HL272_0.out) hb); have n2_ := Aside0.mk (Kd.C_below (by repeat (first | (with_reducible exact HR272_0.out) | (with_reducible refine Kd.C_alloc ?_ _) | (with_reducible refine Kd.C_drewN ?_ _) | (with_reducible refine Kd.C_drew ?_) | exact HR272_0.out)) hb); have n3_ := Aside0.mk (below_step (by repeat (first | (with_reducible first | exact HB.out | apply below_alloc | apply pw_below_drewN | apply below_drew1) | exact HB.out)) hb); clear HO_7; clear HL272_0; clear HR272_0; clear HB; have HO_7 := n0_; have HL272_0 := n1_; have HR272_0 := n2_; have HB := n3_; clear n0_ n1_ n2_ n3_; (try clear hb); (try clear hb2); (try clear hk); (try clear hi)))
        go_roundg k1
        case measure => have := HK1.out; omega
        case rel => exact ⟨(wrap64 (x8_1 + 1)), (by first | rfl | (simp; done) | (simp [*]; done)), H', ⟨by have := HK1.out; omega⟩, ⟨by (with_reducible repeat (first | apply Kd.S_alloc | apply Kd.S_drewN | apply Kd.S_drew)); exact HO_7.out⟩, ⟨by repeat (first | (with_reducible first | exact HB.out | apply below_alloc | apply pw_below_drewN | apply below_drew1) | exact HB.out)⟩⟩
       ·
        replace c15 := Bool.eq_false_iff.mpr c15
        subst c15
        have H1 : (some false) = some true := by rw [if_neg (show ¬ (false = true) by decide)] at H; exact H
        exact absurd H1 (by simp)
      ·
       rw [if_neg c13] at H
       exact absurd H (by simp)
     ·
      rw [if_neg c12] at H
      have c12b0 : decide (x8_1 < (t269.length : Int)) = false := decide_eq_false c12
      clear c12
      have HC22 := Aside0.mk H
      clear H
      obtain ⟨Ao23, co23, eo23⟩ := Kd.S_slice HO_7.out
      subst eo23
      go_upto_region 12 with (fail)
      go_cut [62] (fun v62 wc => ∃ (kq : Nat) (x62_21 : Bool), v62 = .bool x62_21 ∧ Aside0 (redpencillaw41_LinesCounts.j1 kq a0 t269 x62_21 = some true) ∧ Aside0 (kq ≤ k1) ∧ Aside0 (Kd.S (Kd.slice 21 (Kd.int .i32)) 23 wc w.heap.size (fun _ => True) (.slice Ao23 t269.length co23) t269) ∧ Aside0 (Below w.heap.size w wc))
      case first =>
       have H := HC22.out
       clear HC22
       by_cases c24 : a1 < 0
       ·
        rw [if_pos c24] at H
        have c24b0 : decide (a1 < 0) = true := decide_eq_true c24
        clear c24
        (first | rw [c24b0] | (simp only [i64_w, i32_w]; rw [c24b0]) | skip)
        replace H := Option.bind_eq_some_iff.mp H
        obtain ⟨t274, A250, H⟩ := H
        replace H : (redpencillaw41_LinesCounts.j1 k1 a0 t269 (!t274)) = some true := H
        have A25 := Aside0.mk A250
        clear A250
        have H' := Aside0.mk H
        clear H
        go_wp2_with (first | (go_at_call 12; (with_reducible refine (redpencillaw41_line.calls k1 a0 a1 (⟨#[]⟩ : ByteArray) 3 t274 _ ?side1 A25.out).mono ?_); (case side1 => exact GOK_below HG.out (by repeat (first | (with_reducible first | exact HB.out | apply below_alloc | apply pw_below_drewN | apply below_drew1) | exact HB.out))); rintro e w26 ⟨rfl, hb⟩; have n0_ := Aside0.mk (Kd.S_below (by (with_reducible repeat (first | apply Kd.S_alloc | apply Kd.S_drewN | apply Kd.S_drew)); exact HO_7.out) hb); have n1_ := Aside0.mk (below_step (by repeat (first | (with_reducible first | exact HB.out | apply below_alloc | apply pw_below_drewN | apply below_drew1) | exact HB.out)) hb); clear HO_7; clear HB; have HO_7 := n0_; have HB := n1_; clear n0_ n1_; (try clear hb); (try clear hb2); (try clear hk); (try clear hi)))
        go_meet
        case rel => exact ⟨_, (!t274), (by first | rfl | (simp; done) | (simp [*]; done)), H', ⟨by have := HK1.out; first | omega | exact Nat.le_refl _⟩, ⟨by (with_reducible repeat (first | apply Kd.S_alloc | apply Kd.S_drewN | apply Kd.S_drew)); exact HO_7.out⟩, ⟨by repeat (first | (with_reducible first | exact HB.out | apply below_alloc | apply pw_below_drewN | apply below_drew1) | exact HB.out)⟩⟩
       ·
        rw [if_neg c24] at H
        have c24b0 : decide (a1 < 0) = false := decide_eq_false c24
        clear c24
        (first | rw [c24b0] | (simp only [i64_w, i32_w]; rw [c24b0]) | skip)
        by_cases c27 : a1 ≥ (t269.length : Int)
        ·
         rw [if_pos c27] at H
         have c27b0 : decide ((t269.length : Int) ≤ a1) = true := decide_eq_true c27
         clear c27
         replace H := Option.bind_eq_some_iff.mp H
         obtain ⟨t275, A280, H⟩ := H
         replace H : (redpencillaw41_LinesCounts.j1 k1 a0 t269 (!t275)) = some true := H
         have A28 := Aside0.mk A280
         clear A280
         have H' := Aside0.mk H
         clear H
         go_wp2_with (first | (go_at_call 12; (with_reducible refine (redpencillaw41_line.calls k1 a0 a1 (⟨#[]⟩ : ByteArray) 3 t275 _ ?side1 A28.out).mono ?_); (case side1 => exact GOK_below HG.out (by repeat (first | (with_reducible first | exact HB.out | apply below_alloc | apply pw_below_drewN | apply below_drew1) | exact HB.out))); rintro e w29 ⟨rfl, hb⟩; have n0_ := Aside0.mk (Kd.S_below (by (with_reducible repeat (first | apply Kd.S_alloc | apply Kd.S_drewN | apply Kd.S_drew)); exact HO_7.out) hb); have n1_ := Aside0.mk (below_step (by repeat (first | (with_reducible first | exact HB.out | apply below_alloc | apply pw_below_drewN | apply below_drew1) | exact HB.out)) hb); clear HO_7; clear HB; have HO_7 := n0_; have HB := n1_; clear n0_ n1_; (try clear hb); (try clear hb2); (try clear hk); (try clear hi)))
         go_meet
         case rel => exact ⟨_, (!t275), (by first | rfl | (simp; done) | (simp [*]; done)), H', ⟨by have := HK1.out; first | omega | exact Nat.le_refl _⟩, ⟨by (with_reducible repeat (first | apply Kd.S_alloc | apply Kd.S_drewN | apply Kd.S_drew)); exact HO_7.out⟩, ⟨by repeat (first | (with_reducible first | exact HB.out | apply below_alloc | apply pw_below_drewN | apply below_drew1) | exact HB.out)⟩⟩
        ·
         rw [if_neg c27] at H
         have c27b0 : decide ((t269.length : Int) ≤ a1) = false := decide_eq_false c27
         clear c27
         have H' := Aside0.mk H
         clear H
         go_wp2
         go_meet
         case rel => exact ⟨_, (false), (by first | rfl | (simp; done) | (simp [*]; done)), H', ⟨by have := HK1.out; first | omega | exact Nat.le_refl _⟩, ⟨by (with_reducible repeat (first | apply Kd.S_alloc | apply Kd.S_drewN | apply Kd.S_drew)); exact HO_7.out⟩, ⟨by repeat (first | (with_reducible first | exact HB.out | apply below_alloc | apply pw_below_drewN | apply below_drew1) | exact HB.out)⟩⟩
      case rest =>
       clear HC22
       try clear c1
       try clear hcv1
       try clear c2
       try clear p2
       try clear q2
       try clear hx2
       try clear hcv2
       try clear c3
       try clear c3b0
       try clear c3b1
       try clear p6
       try clear c7
       try clear c7b0
       try clear c7b1
       try clear c9
       try clear c10
       try clear c12
       try clear c12b0
       try clear c13
       try clear c13b0
       try clear c15
       try clear hcv17
       try clear hcv20
       try clear c24
       try clear c24b0
       try clear c27
       try clear c27b0
       try clear p27
       try clear q27
       try clear hx27
       try clear hx272_0
       try clear p2
       try clear p272
       try clear q272
       obtain ⟨kq, x62_21, rfl, HA, HJ21, HO_7, HB⟩ := hcut
       cases kq with
       | zero => exact absurd HA.out (by simp [redpencillaw41_LinesCounts.j1])
       | succ kj21 =>
        have H := HA.out
        clear HA
        simp only [redpencillaw41_LinesCounts.j1] at H
        by_cases c30 : x62_21 = true
        ·
         subst c30
         have H1 : (some false) = some true := by rw [if_pos rfl] at H; exact H
         exact absurd H1 (by simp)
        ·
         replace c30 := Bool.eq_false_iff.mpr c30
         subst c30
         have H1 : ((redpencillaw41_counts.f kj21 a0 (t269.length : Int) 0).bind fun t276 => (if t276 = true then ((redpencillaw41_known.f kj21).bind fun t277 => (some t277)) else (some false))) = some true := by rw [if_neg (show ¬ (false = true) by decide)] at H; exact H
         clear H
         have H := H1
         clear H1
         replace H := Option.bind_eq_some_iff.mp H
         obtain ⟨t276, A310, H⟩ := H
         replace H : (if t276 = true then ((redpencillaw41_known.f kj21).bind fun t277 => (some t277)) else (some false)) = some true := H
         have A31 := Aside0.mk A310
         clear A310
         by_cases c32 : t276 = true
         ·
          subst c32
          have H1 : ((redpencillaw41_known.f kj21).bind fun t277 => (some t277)) = some true := by rw [if_pos rfl] at H; exact H
          clear H
          have H := H1
          clear H1
          replace H := Option.bind_eq_some_iff.mp H
          obtain ⟨t277, A330, H⟩ := H
          replace H : (some t277) = some true := H
          have A33 := Aside0.mk A330
          clear A330
          obtain rfl := Option.some.inj H
          go_wp2_with (first | ((with_reducible refine gate_callee (f := 11) rfl ?_); refine goesL_ (some 66) rfl rfl Tryd.func11 (by kernel_rfl) rfl #[.string a0, .int .i64 (t269.length : Int), .int .i64 0] rfl (by (try simp only [List.map_toArray, List.map_cons, List.map_nil]); first | done | rfl | (simp only [List.length_drop, List.length_take]; rfl)) ?_; (with_reducible refine (redpencillaw41_counts.calls kj21 a0 (t269.length : Int) 0 true _ ?side1 A31.out).mono ?_); (case side1 => exact GOK_below HG.out (by repeat (first | (with_reducible first | exact HB.out | apply below_alloc | apply pw_below_drewN | apply below_drew1) | exact HB.out))); rintro e w34 ⟨rfl, hb⟩; refine ⟨_, rfl, ?_⟩; have n0_ := Aside0.mk (Kd.S_below (by (with_reducible repeat (first | apply Kd.S_alloc | apply Kd.S_drewN | apply Kd.S_drew)); exact HO_7.out) hb); have n1_ := Aside0.mk (below_step (by repeat (first | (with_reducible first | exact HB.out | apply below_alloc | apply pw_below_drewN | apply below_drew1) | exact HB.out)) hb); clear HO_7; clear HB; have HO_7 := n0_; have HB := n1_; clear n0_ n1_; (try clear hb); (try clear hb2); (try clear hk); (try clear hi)) | (go_at_call 9; (with_reducible refine (redpencillaw41_known.calls kj21  true _ ?side1 A33.out).mono ?_); (case side1 => exact GOK_below HG.out (by repeat (first | (with_reducible first | exact HB.out | apply below_alloc | apply pw_below_drewN | apply below_drew1) | exact HB.out))); rintro e w35 ⟨rfl, hb⟩; have n0_ := Aside0.mk (Kd.S_below (by (with_reducible repeat (first | apply Kd.S_alloc | apply Kd.S_drewN | apply Kd.S_drew)); exact HO_7.out) hb); have n1_ := Aside0.mk (below_step (by repeat (first | (with_reducible first | exact HB.out | apply below_alloc | apply pw_below_drewN | apply below_drew1) | exact HB.out)) hb); clear HO_7; clear HB; have HO_7 := n0_; have HB := n1_; clear n0_ n1_; (try clear hb); (try clear hb2); (try clear hk); (try clear hi)))
          go_ret
          exact ⟨by first | rfl | (simp [errW_none, errW_some] <;> rfl) | (simp [*, errW_none, errW_some] <;> rfl), by repeat (first | (with_reducible first | exact HB.out | apply below_alloc | apply pw_below_drewN | apply below_drew1) | exact HB.out)⟩
         ·
          replace c32 := Bool.eq_false_iff.mpr c32
          subst c32
          have H1 : (some false) = some true := by rw [if_neg (show ¬ (false = true) by decide)] at H; exact H
          exact absurd H1 (by simp)
  ·
   rw [if_neg c7] at H
   have c7b0 : (t263 == 0) = false := beq_eq_false_iff_ne.mpr c7
   have c7b1 : (t263 != 0) = true := bne_iff_ne.mpr c7
   replace H := Option.bind_eq_some_iff.mp H
   obtain ⟨t266, A370, H⟩ := H
   replace H : (if t266 = true then ((redpencillaw41_line.f k a0 a1 (⟨#[]⟩ : ByteArray) t263).bind fun t267 => (if t267 = true then ((redpencillaw41_known.f k).bind fun t268 => (some t268)) else (some false))) else (some false)) = some true := H
   have A37 := Aside0.mk A370
   clear A370
   by_cases c38 : t266 = true
   ·
    subst c38
    have H1 : ((redpencillaw41_line.f k a0 a1 (⟨#[]⟩ : ByteArray) t263).bind fun t267 => (if t267 = true then ((redpencillaw41_known.f k).bind fun t268 => (some t268)) else (some false))) = some true := by rw [if_pos rfl] at H; exact H
    clear H
    have H := H1
    clear H1
    replace H := Option.bind_eq_some_iff.mp H
    obtain ⟨t267, A390, H⟩ := H
    replace H : (if t267 = true then ((redpencillaw41_known.f k).bind fun t268 => (some t268)) else (some false)) = some true := H
    have A39 := Aside0.mk A390
    clear A390
    by_cases c40 : t267 = true
    ·
     subst c40
     have H1 : ((redpencillaw41_known.f k).bind fun t268 => (some t268)) = some true := by rw [if_pos rfl] at H; exact H
     clear H
     have H := H1
     clear H1
     replace H := Option.bind_eq_some_iff.mp H
     obtain ⟨t268, A410, H⟩ := H
     replace H : (some t268) = some true := H
     have A41 := Aside0.mk A410
     clear A410
     obtain rfl := Option.some.inj H
     go_enter Tryd.func3, Tryd.ntmps3
     go_wp2_with (first | ((with_reducible refine gate_callee (f := 10) rfl ?_); refine goesL_ (some 15) rfl rfl Tryd.func10 (by kernel_rfl) rfl #[.string a0] rfl (by (try simp only [List.map_toArray, List.map_cons, List.map_nil]); first | done | rfl | (simp only [List.length_drop, List.length_take]; rfl)) ?_; (with_reducible refine (runes_Decode.calls a0 t262 t263 _ ?side1 A6.out).mono ?_); (case side1 => exact GOK_below HG.out (by repeat (first | (with_reducible first | exact HB.out | apply below_alloc | apply pw_below_drewN | apply below_drew1) | exact HB.out))); rintro e w42 ⟨v264, rfl, ho0, hb⟩; refine ⟨_, rfl, ?_⟩; have n0_ := Aside0.mk (Kd.R_lower ho0 (below_size (by repeat (first | (with_reducible first | exact HB.out | apply below_alloc | apply pw_below_drewN | apply below_drew1) | exact HB.out)))); have n1_ := Aside0.mk (below_step (by repeat (first | (with_reducible first | exact HB.out | apply below_alloc | apply pw_below_drewN | apply below_drew1) | exact HB.out)) hb); clear HB; have HO265 := n0_; have HB := n1_; clear n0_ n1_; (try clear hb); (try clear hb2); (try clear hk); (try clear hi); (try clear ho0)) | ((with_reducible refine gate_callee (f := 11) rfl ?_); refine goesL_ (some 22) rfl rfl Tryd.func11 (by kernel_rfl) rfl #[.string a0, .int .i64 0, .int .i64 t263] rfl (by (try simp only [List.map_toArray, List.map_cons, List.map_nil]); first | done | rfl | (simp only [List.length_drop, List.length_take]; rfl)) ?_; (with_reducible refine (redpencillaw41_counts.calls k a0 0 t263 true _ ?side1 A37.out).mono ?_); (case side1 => exact GOK_below HG.out (by repeat (first | (with_reducible first | exact HB.out | apply below_alloc | apply pw_below_drewN | apply below_drew1) | exact HB.out))); rintro e w43 ⟨rfl, hb⟩; refine ⟨_, rfl, ?_⟩; have n0_ := Aside0.mk (Kd.R_below (by (with_reducible repeat (first | apply Kd.R_alloc | apply Kd.R_drewN | apply Kd.R_drew)); exact HO265.out) hb); have n1_ := Aside0.mk (below_step (by repeat (first | (with_reducible first | exact HB.out | apply below_alloc | apply pw_below_drewN | apply below_drew1) | exact HB.out)) hb); clear HO265; clear HB; have HO265 := n0_; have HB := n1_; clear n0_ n1_; (try clear hb); (try clear hb2); (try clear hk); (try clear hi)) | (go_at_call 12; (with_reducible refine (redpencillaw41_line.calls k a0 a1 (⟨#[]⟩ : ByteArray) t263 true _ ?side1 A39.out).mono ?_); (case side1 => exact GOK_below HG.out (by repeat (first | (with_reducible first | exact HB.out | apply below_alloc | apply pw_below_drewN | apply below_drew1) | exact HB.out))); rintro e w44 ⟨rfl, hb⟩; have n0_ := Aside0.mk (Kd.R_below (by (with_reducible repeat (first | apply Kd.R_alloc | apply Kd.R_drewN | apply Kd.R_drew)); exact HO265.out) hb); have n1_ := Aside0.mk (below_step (by repeat (first | (with_reducible first | exact HB.out | apply below_alloc | apply pw_below_drewN | apply below_drew1) | exact HB.out)) hb); clear HO265; clear HB; have HO265 := n0_; have HB := n1_; clear n0_ n1_; (try clear hb); (try clear hb2); (try clear hk); (try clear hi)) | (go_at_call 9; (with_reducible refine (redpencillaw41_known.calls k  true _ ?side1 A41.out).mono ?_); (case side1 => exact GOK_below HG.out (by repeat (first | (with_reducible first | exact HB.out | apply below_alloc | apply pw_below_drewN | apply below_drew1) | exact HB.out))); rintro e w45 ⟨rfl, hb⟩; have n0_ := Aside0.mk (Kd.R_below (by (with_reducible repeat (first | apply Kd.R_alloc | apply Kd.R_drewN | apply Kd.R_drew)); exact HO265.out) hb); have n1_ := Aside0.mk (below_step (by repeat (first | (with_reducible first | exact HB.out | apply below_alloc | apply pw_below_drewN | apply below_drew1) | exact HB.out)) hb); clear HO265; clear HB; have HO265 := n0_; have HB := n1_; clear n0_ n1_; (try clear hb); (try clear hb2); (try clear hk); (try clear hi)))
     go_ret
     exact ⟨by first | rfl | (simp [errW_none, errW_some] <;> rfl) | (simp [*, errW_none, errW_some] <;> rfl), by repeat (first | (with_reducible first | exact HB.out | apply below_alloc | apply pw_below_drewN | apply below_drew1) | exact HB.out)⟩
    ·
     replace c40 := Bool.eq_false_iff.mpr c40
     subst c40
     have H1 : (some false) = some true := by rw [if_neg (show ¬ (false = true) by decide)] at H; exact H
     exact absurd H1 (by simp)
   ·
    replace c38 := Bool.eq_false_iff.mpr c38
    subst c38
    have H1 : (some false) = some true := by rw [if_neg (show ¬ (false = true) by decide)] at H; exact H
    exact absurd H1 (by simp)
end Go.Proofs.YtbjahfbagbghnaaDoor.PAll
