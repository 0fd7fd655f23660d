-- Printed by a program of this session (wip/tools/mkprint2.py) out of the translation; Lean checks it. -- narrowed
import Derived.Test.YtcmicaheakkgdaaDoorPAllx0
import Derived.Test.YtcmicaheakkgdaaDoorPAllx1
import Derived.Test.YtcmicaheakkgdaaDoorPAllx2
import Derived.Test.YtcmicaheakkgdaaDoorDmb
namespace Go.Proofs.YtcmicaheakkgdaaDoor.PAll
open Go.RowKit Go.Proofs.YtcmicaheakkgdaaDoorW.PrintWords Go.Proofs.YtcmicaheakkgdaaDoorW.PrintLast Go.Proofs.YtcmicaheakkgdaaDoorW.PrintMore
attribute [local go_sem] max2_int min2_int max_two min_two max_three min_three max_four min_four   -- for this text's walks alone
set_option linter.unusedVariables false
set_option linter.unusedSimpArgs false

attribute [local go_sem high] eqA23
/-! ### redpencillaw04_texts: function 26 -/
def redpencillaw04_texts.f (a0_0 : Int) (a0_1 : Int) (a1 : ByteArray) (a2 : Int) : Option (Bool) := (dot_Text.f a0_0 a0_1).bind fun bt134 => (if bt134.1.toList = a1.toList then (some (bt134.2 == a2)) else (some false))
set_option maxHeartbeats 8000000 in
set_option maxRecDepth 100000 in
theorem redpencillaw04_texts.calls (a0_0 : Int) (a0_1 : Int) (a1 : ByteArray) (a2 : Int) (r : Bool) (w : World) (hG : GOK w) (h : redpencillaw04_texts.f a0_0 a0_1 a1 a2 = some r) :
  Calls Tryd.prog 26 #[.agg #[.int .i64 a0_0, .int .i64 a0_1], .string a1, .int .i64 a2] w fun e w' => e = .returned (.bool r) ∧ Below w.heap.size w w' := by
 have hu23 := Tryd.underlying23
 have HB := Aside0.mk (Below.refl w.heap.size w)
 have HG := Aside0.mk hG
 clear hG
 have H : ((dot_Text.f a0_0 a0_1).bind fun bt134 => (if bt134.1.toList = a1.toList then (some (bt134.2 == a2)) else (some false))) = some r := h
 clear h
 replace H := Option.bind_eq_some_iff.mp H
 obtain ⟨⟨t134, t135⟩, A40, H⟩ := H
 replace H : (if t134.toList = a1.toList then (some (t135 == a2)) else (some false)) = some r := H
 have A4 := Aside0.mk A40
 clear A40
 by_cases c5 : t134.toList = a1.toList
 ·
  rw [if_pos c5] at H
  have c5b0 : (t134.toList == a1.toList) = true := beq_iff_eq.mpr c5
  have c5b1 : (t134.toList != a1.toList) = false := bne_eq_false_iff_eq.mpr c5
  clear c5
  obtain rfl := Option.some.inj H
  go_enter Tryd.func26, Tryd.ntmps26
  go_wp2_with (first | ((with_reducible refine gate_dst (N := 3) rfl ?_); refine box_event ?hg (N := 3) ?hd (cs := #[.int .i64 a0_0, .int .i64 a0_1]) (t := 23) ?hr ?_; (case hd => rfl); (case hg => rfl); (case hr => first | (go_simp; done) | (go_simp; rfl)); intro gb133 hg w6 hbox hb; have n0_ := Aside0.mk (below_step (by repeat (first | (with_reducible first | exact HB.out | apply below_alloc | apply pw_below_drewN | apply below_drew1) | exact HB.out)) hb); have n1_ := Aside0.mk (hbox); have n2_ := Aside0.mk ((by rw [hg]; exact (below_size (by repeat (first | (with_reducible first | exact HB.out | apply below_alloc | apply pw_below_drewN | apply below_drew1) | exact HB.out))) : w.heap.size ≤ gb133)); have n3_ := Aside0.mk ((by rw [hg]; exact (below_size (by repeat (first | (with_reducible first | exact HB.out | apply below_alloc | apply pw_below_drewN | apply below_drew1) | exact HB.out))) : w.heap.size ≤ gb133)); clear HB; have HB := n0_; have BK133 := n1_; have GW133 := n2_; have GE133 := n3_; clear n0_ n1_ n2_ n3_; clear hb hbox hg; have hcz7_0 : w6.cell? ⟨gb133, 0, none⟩ = some (.int .i64 a0_0) := (blk_cell BK133.out 0).trans rfl; have hcz7_1 : w6.cell? ⟨gb133, 1, none⟩ = some (.int .i64 a0_1) := (blk_cell BK133.out 1).trans rfl; have hfz7_0 := blk_frozen BK133.out 0; have hfz7_1 := blk_frozen BK133.out 1) | ((with_reducible refine gate_callee (f := 30) rfl ?_); refine goesL_ (some 11) rfl rfl Tryd.func30 (by kernel_rfl) rfl #[.agg #[.int .i64 a0_0, .int .i64 a0_1]] rfl (by (try simp only [List.map_toArray, List.map_cons, List.map_nil]); first | done | rfl | (simp only [List.length_drop, List.length_take]; rfl)) ?_; (with_reducible refine (dot_Text.calls a0_0 a0_1 t134 t135 _ ?side1 A4.out).mono ?_); (case side1 => exact GOK_below HG.out (by repeat (first | (with_reducible first | exact HB.out | apply below_alloc | apply pw_below_drewN | apply below_drew1 | refine below_set ?_ GE133.out) | exact HB.out))); rintro e w8 ⟨rfl, hb⟩; refine ⟨_, rfl, ?_⟩; have n0_ := Aside0.mk (blk_below (g := gb133) (o := .cells #[.int .i64 a0_0, .int .i64 a0_1] 23 (0, 0)) (by (with_reducible repeat (first | refine blk_drewN ?_ _ | refine blk_drew ?_ | refine blk_alloc ?_ _)); exact BK133.out) hb); have n1_ := Aside0.mk (below_step (by repeat (first | (with_reducible first | exact HB.out | apply below_alloc | apply pw_below_drewN | apply below_drew1 | refine below_set ?_ GE133.out) | exact HB.out)) hb); clear BK133; clear HB; have BK133 := n0_; have HB := n1_; clear n0_ n1_; (try clear hb); (try clear hb2); (try clear hk); (try clear hi)))
  go_ret
  exact ⟨by first | rfl | (simp [errW_none, errW_some] <;> rfl) | (simp [*, errW_none, errW_some] <;> rfl), by repeat (first | (with_reducible first | exact HB.out | apply below_alloc | apply pw_below_drewN | apply below_drew1 | refine below_set ?_ GE133.out) | exact HB.out)⟩
 ·
  rw [if_neg c5] at H
  have c5b0 : (t134.toList == a1.toList) = false := beq_eq_false_iff_ne.mpr c5
  have c5b1 : (t134.toList != a1.toList) = true := bne_iff_ne.mpr c5
  obtain rfl := Option.some.inj H
  go_enter Tryd.func26, Tryd.ntmps26
  go_wp2_with (first | ((with_reducible refine gate_dst (N := 3) rfl ?_); refine box_event ?hg (N := 3) ?hd (cs := #[.int .i64 a0_0, .int .i64 a0_1]) (t := 23) ?hr ?_; (case hd => rfl); (case hg => rfl); (case hr => first | (go_simp; done) | (go_simp; rfl)); intro gb133 hg w9 hbox hb; have n0_ := Aside0.mk (below_step (by repeat (first | (with_reducible first | exact HB.out | apply below_alloc | apply pw_below_drewN | apply below_drew1) | exact HB.out)) hb); have n1_ := Aside0.mk (hbox); have n2_ := Aside0.mk ((by rw [hg]; exact (below_size (by repeat (first | (with_reducible first | exact HB.out | apply below_alloc | apply pw_below_drewN | apply below_drew1) | exact HB.out))) : w.heap.size ≤ gb133)); have n3_ := Aside0.mk ((by rw [hg]; exact (below_size (by repeat (first | (with_reducible first | exact HB.out | apply below_alloc | apply pw_below_drewN | apply below_drew1) | exact HB.out))) : w.heap.size ≤ gb133)); clear HB; have HB := n0_; have BK133 := n1_; have GW133 := n2_; have GE133 := n3_; clear n0_ n1_ n2_ n3_; clear hb hbox hg; have hcz10_0 : w9.cell? ⟨gb133, 0, none⟩ = some (.int .i64 a0_0) := (blk_cell BK133.out 0).trans rfl; have hcz10_1 : w9.cell? ⟨gb133, 1, none⟩ = some (.int .i64 a0_1) := (blk_cell BK133.out 1).trans rfl; have hfz10_0 := blk_frozen BK133.out 0; have hfz10_1 := blk_frozen BK133.out 1) | ((with_reducible refine gate_callee (f := 30) rfl ?_); refine goesL_ (some 11) rfl rfl Tryd.func30 (by kernel_rfl) rfl #[.agg #[.int .i64 a0_0, .int .i64 a0_1]] rfl (by (try simp only [List.map_toArray, List.map_cons, List.map_nil]); first | done | rfl | (simp only [List.length_drop, List.length_take]; rfl)) ?_; (with_reducible refine (dot_Text.calls a0_0 a0_1 t134 t135 _ ?side1 A4.out).mono ?_); (case side1 => exact GOK_below HG.out (by repeat (first | (with_reducible first | exact HB.out | apply below_alloc | apply pw_below_drewN | apply below_drew1 | refine below_set ?_ GE133.out) | exact HB.out))); rintro e w11 ⟨rfl, hb⟩; refine ⟨_, rfl, ?_⟩; have n0_ := Aside0.mk (blk_below (g := gb133) (o := .cells #[.int .i64 a0_0, .int .i64 a0_1] 23 (0, 0)) (by (with_reducible repeat (first | refine blk_drewN ?_ _ | refine blk_drew ?_ | refine blk_alloc ?_ _)); exact BK133.out) hb); have n1_ := Aside0.mk (below_step (by repeat (first | (with_reducible first | exact HB.out | apply below_alloc | apply pw_below_drewN | apply below_drew1 | refine below_set ?_ GE133.out) | exact HB.out)) hb); clear BK133; clear HB; have BK133 := n0_; have HB := n1_; clear n0_ n1_; (try clear hb); (try clear hb2); (try clear hk); (try clear hi)))
  go_ret
  exact ⟨by first | rfl | (simp [errW_none, errW_some] <;> rfl) | (simp [*, errW_none, errW_some] <;> rfl), by repeat (first | (with_reducible first | exact HB.out | apply below_alloc | apply pw_below_drewN | apply below_drew1 | refine below_set ?_ GE133.out) | exact HB.out)⟩

/-! ### redpencillaw04_parses: function 29 -/
def redpencillaw04_parses.f (a0 : ByteArray) (a1_0 : Int) (a1_1 : Int) (a2 : Int) : Option (Bool) := (dot_Parse.f a0).bind fun bt137 => (if (bt137.1 == a1_0 && (bt137.2.1 == a1_1)) = true then (some (bt137.2.2 == a2)) else (some false))
set_option maxHeartbeats 8000000 in
set_option maxRecDepth 100000 in
theorem redpencillaw04_parses.calls (a0 : ByteArray) (a1_0 : Int) (a1_1 : Int) (a2 : Int) (r : Bool) (w : World) (hG : GOK w) (h : redpencillaw04_parses.f a0 a1_0 a1_1 a2 = some r) :
  Calls Tryd.prog 29 #[.string a0, .agg #[.int .i64 a1_0, .int .i64 a1_1], .int .i64 a2] w fun e w' => e = .returned (.bool r) ∧ Below w.heap.size w w' := by
 have hu23 := Tryd.underlying23
 have HB := Aside0.mk (Below.refl w.heap.size w)
 have HG := Aside0.mk hG
 clear hG
 have H : ((dot_Parse.f a0).bind fun bt137 => (if (bt137.1 == a1_0 && (bt137.2.1 == a1_1)) = true then (some (bt137.2.2 == a2)) else (some false))) = some r := h
 clear h
 replace H := Option.bind_eq_some_iff.mp H
 obtain ⟨⟨t137, t138, t139⟩, A40, H⟩ := H
 replace H : (if (t137 == a1_0 && (t138 == a1_1)) = true then (some (t139 == a2)) else (some false)) = some r := H
 have A4 := Aside0.mk A40
 clear A40
 by_cases c5 : (t137 == a1_0 && (t138 == a1_1)) = true
 ·
  rw [if_pos c5] at H
  have c5b0 : (t137 == a1_0 && (t138 == a1_1)) = true := c5
  (try (have c5b1 : decide (t137 = a1_0 && (t138 == a1_1)) = true := by simpa using c5))
  (try (have c5b2 : (t137 == a1_0 && (t138 == a1_1)) = true := by simpa using c5))
  clear c5
  obtain rfl := Option.some.inj H
  go_enter Tryd.func29, Tryd.ntmps29
  go_wp2_with (first | ((with_reducible refine gate_dst (N := 4) rfl ?_); refine box_event ?hg (N := 4) ?hd (cs := #[.int .i64 a1_0, .int .i64 a1_1]) (t := 23) ?hr ?_; (case hd => rfl); (case hg => rfl); (case hr => first | (go_simp; done) | (go_simp; rfl)); intro gb136 hg w6 hbox hb; have n0_ := Aside0.mk (below_step (by repeat (first | (with_reducible first | exact HB.out | apply below_alloc | apply pw_below_drewN | apply below_drew1) | exact HB.out)) hb); have n1_ := Aside0.mk (hbox); have n2_ := Aside0.mk ((by rw [hg]; exact (below_size (by repeat (first | (with_reducible first | exact HB.out | apply below_alloc | apply pw_below_drewN | apply below_drew1) | exact HB.out))) : w.heap.size ≤ gb136)); have n3_ := Aside0.mk ((by rw [hg]; exact (below_size (by repeat (first | (with_reducible first | exact HB.out | apply below_alloc | apply pw_below_drewN | apply below_drew1) | exact HB.out))) : w.heap.size ≤ gb136)); clear HB; have HB := n0_; have BK136 := n1_; have GW136 := n2_; have GE136 := n3_; clear n0_ n1_ n2_ n3_; clear hb hbox hg) | ((with_reducible refine gate_callee (f := 46) rfl ?_); refine goesL_ (some 11) rfl rfl Tryd.func46 (by kernel_rfl) rfl #[.string a0] rfl (by (try simp only [List.map_toArray, List.map_cons, List.map_nil]); first | done | rfl | (simp only [List.length_drop, List.length_take]; rfl)) ?_; (with_reducible refine (dot_Parse.calls a0 t137 t138 t139 _ ?side1 A4.out).mono ?_); (case side1 => exact GOK_below HG.out (by repeat (first | (with_reducible first | exact HB.out | apply below_alloc | apply pw_below_drewN | apply below_drew1 | refine below_set ?_ GE136.out) | exact HB.out))); rintro e w7 ⟨rfl, hb⟩; refine ⟨_, rfl, ?_⟩; have n0_ := Aside0.mk (blk_below (g := gb136) (o := .cells #[.int .i64 a1_0, .int .i64 a1_1] 23 (0, 0)) (by (with_reducible repeat (first | refine blk_drewN ?_ _ | refine blk_drew ?_ | refine blk_alloc ?_ _)); exact BK136.out) hb); have n1_ := Aside0.mk (below_step (by repeat (first | (with_reducible first | exact HB.out | apply below_alloc | apply pw_below_drewN | apply below_drew1 | refine below_set ?_ GE136.out) | exact HB.out)) hb); clear BK136; clear HB; have BK136 := n0_; have HB := n1_; clear n0_ n1_; (try clear hb); (try clear hb2); (try clear hk); (try clear hi)) | ((with_reducible refine gate_dst (N := 7) rfl ?_); refine box_event ?hg (N := 7) ?hd (cs := #[.int .i64 0, .int .i64 0]) (t := 23) ?hr ?_; (case hd => rfl); (case hg => rfl); (case hr => first | (go_simp; done) | (go_simp; rfl)); intro gb140 hg w8 hbox hb; have n0_ := Aside0.mk (blk_below (g := gb136) (o := .cells #[.int .i64 a1_0, .int .i64 a1_1] 23 (0, 0)) (by (with_reducible repeat (first | refine blk_drewN ?_ _ | refine blk_drew ?_ | refine blk_alloc ?_ _)); exact BK136.out) hb); have n1_ := Aside0.mk (below_step (by repeat (first | (with_reducible first | exact HB.out | apply below_alloc | apply pw_below_drewN | apply below_drew1 | refine below_set ?_ GE136.out) | exact HB.out)) hb); have n2_ := Aside0.mk (hbox); have n3_ := Aside0.mk ((by rw [hg]; exact (below_size (by repeat (first | (with_reducible first | exact HB.out | apply below_alloc | apply pw_below_drewN | apply below_drew1 | refine below_set ?_ GE136.out) | exact HB.out))) : w.heap.size ≤ gb140)); have n4_ := Aside0.mk ((by rw [hg]; exact (below_size (by repeat (first | (with_reducible first | exact HB.out | apply below_alloc | apply pw_below_drewN | apply below_drew1 | refine below_set ?_ GE136.out) | exact HB.out))) : w.heap.size ≤ gb140)); have n5_ := Aside0.mk ((by rw [hg]; exact Nat.ne_of_lt (blk_lt (g := gb136) (o := .cells #[.int .i64 a1_0, .int .i64 a1_1] 23 (0, 0)) (by (with_reducible repeat (first | refine blk_drewN ?_ _ | refine blk_drew ?_ | refine blk_alloc ?_ _)); exact BK136.out)) : gb136 ≠ gb140)); have n6_ := Aside0.mk ((by rw [hg]; exact Nat.ne_of_gt (blk_lt (g := gb136) (o := .cells #[.int .i64 a1_0, .int .i64 a1_1] 23 (0, 0)) (by (with_reducible repeat (first | refine blk_drewN ?_ _ | refine blk_drew ?_ | refine blk_alloc ?_ _)); exact BK136.out)) : gb140 ≠ gb136)); clear BK136; clear HB; have BK136 := n0_; have HB := n1_; have BK140 := n2_; have GW140 := n3_; have GE140 := n4_; have NB136_140 := n5_; have NB140_136 := n6_; clear n0_ n1_ n2_ n3_ n4_ n5_ n6_; clear hb hbox hg; have hnb9 := NB140_136.out; have hnc9 := NB136_140.out; have hcz10_0 : w8.cell? ⟨gb140, 0, none⟩ = some (.int .i64 0) := (blk_cell BK140.out 0).trans rfl; have hcz10_1 : w8.cell? ⟨gb140, 1, none⟩ = some (.int .i64 0) := (blk_cell BK140.out 1).trans rfl; have hfz10_0 := blk_frozen BK140.out 0; have hfz10_1 := blk_frozen BK140.out 1; have hcz11_0 : w8.cell? ⟨gb136, 0, none⟩ = some (.int .i64 a1_0) := (blk_cell BK136.out 0).trans rfl; have hcz11_1 : w8.cell? ⟨gb136, 1, none⟩ = some (.int .i64 a1_1) := (blk_cell BK136.out 1).trans rfl; have hfz11_0 := blk_frozen BK136.out 0; have hfz11_1 := blk_frozen BK136.out 1))
  go_ret
  exact ⟨by first | rfl | (simp [errW_none, errW_some] <;> rfl) | (simp [*, errW_none, errW_some] <;> rfl), by repeat (first | (with_reducible first | exact HB.out | apply below_alloc | apply pw_below_drewN | apply below_drew1 | refine below_set ?_ GE136.out | refine below_set ?_ GE140.out) | exact HB.out)⟩
 ·
  rw [if_neg c5] at H
  have c5b0 : (t137 == a1_0 && (t138 == a1_1)) = false := by simpa using c5
  (try (have c5b1 : decide (t137 = a1_0 && (t138 == a1_1)) = false := by simpa using c5))
  (try (have c5b2 : (t137 == a1_0 && (t138 == a1_1)) = false := by simpa using c5))
  (try (have c5b3 : ¬ (t137 = a1_0 && (t138 == a1_1)) := by simpa using c5))
  clear c5
  obtain rfl := Option.some.inj H
  go_enter Tryd.func29, Tryd.ntmps29
  go_wp2_with (first | ((with_reducible refine gate_dst (N := 4) rfl ?_); refine box_event ?hg (N := 4) ?hd (cs := #[.int .i64 a1_0, .int .i64 a1_1]) (t := 23) ?hr ?_; (case hd => rfl); (case hg => rfl); (case hr => first | (go_simp; done) | (go_simp; rfl)); intro gb136 hg w12 hbox hb; have n0_ := Aside0.mk (below_step (by repeat (first | (with_reducible first | exact HB.out | apply below_alloc | apply pw_below_drewN | apply below_drew1) | exact HB.out)) hb); have n1_ := Aside0.mk (hbox); have n2_ := Aside0.mk ((by rw [hg]; exact (below_size (by repeat (first | (with_reducible first | exact HB.out | apply below_alloc | apply pw_below_drewN | apply below_drew1) | exact HB.out))) : w.heap.size ≤ gb136)); have n3_ := Aside0.mk ((by rw [hg]; exact (below_size (by repeat (first | (with_reducible first | exact HB.out | apply below_alloc | apply pw_below_drewN | apply below_drew1) | exact HB.out))) : w.heap.size ≤ gb136)); clear HB; have HB := n0_; have BK136 := n1_; have GW136 := n2_; have GE136 := n3_; clear n0_ n1_ n2_ n3_; clear hb hbox hg) | ((with_reducible refine gate_callee (f := 46) rfl ?_); refine goesL_ (some 11) rfl rfl Tryd.func46 (by kernel_rfl) rfl #[.string a0] rfl (by (try simp only [List.map_toArray, List.map_cons, List.map_nil]); first | done | rfl | (simp only [List.length_drop, List.length_take]; rfl)) ?_; (with_reducible refine (dot_Parse.calls a0 t137 t138 t139 _ ?side1 A4.out).mono ?_); (case side1 => exact GOK_below HG.out (by repeat (first | (with_reducible first | exact HB.out | apply below_alloc | apply pw_below_drewN | apply below_drew1 | refine below_set ?_ GE136.out) | exact HB.out))); rintro e w13 ⟨rfl, hb⟩; refine ⟨_, rfl, ?_⟩; have n0_ := Aside0.mk (blk_below (g := gb136) (o := .cells #[.int .i64 a1_0, .int .i64 a1_1] 23 (0, 0)) (by (with_reducible repeat (first | refine blk_drewN ?_ _ | refine blk_drew ?_ | refine blk_alloc ?_ _)); exact BK136.out) hb); have n1_ := Aside0.mk (below_step (by repeat (first | (with_reducible first | exact HB.out | apply below_alloc | apply pw_below_drewN | apply below_drew1 | refine below_set ?_ GE136.out) | exact HB.out)) hb); clear BK136; clear HB; have BK136 := n0_; have HB := n1_; clear n0_ n1_; (try clear hb); (try clear hb2); (try clear hk); (try clear hi)) | ((with_reducible refine gate_dst (N := 7) rfl ?_); refine box_event ?hg (N := 7) ?hd (cs := #[.int .i64 0, .int .i64 0]) (t := 23) ?hr ?_; (case hd => rfl); (case hg => rfl); (case hr => first | (go_simp; done) | (go_simp; rfl)); intro gb140 hg w14 hbox hb; have n0_ := Aside0.mk (blk_below (g := gb136) (o := .cells #[.int .i64 a1_0, .int .i64 a1_1] 23 (0, 0)) (by (with_reducible repeat (first | refine blk_drewN ?_ _ | refine blk_drew ?_ | refine blk_alloc ?_ _)); exact BK136.out) hb); have n1_ := Aside0.mk (below_step (by repeat (first | (with_reducible first | exact HB.out | apply below_alloc | apply pw_below_drewN | apply below_drew1 | refine below_set ?_ GE136.out) | exact HB.out)) hb); have n2_ := Aside0.mk (hbox); have n3_ := Aside0.mk ((by rw [hg]; exact (below_size (by repeat (first | (with_reducible first | exact HB.out | apply below_alloc | apply pw_below_drewN | apply below_drew1 | refine below_set ?_ GE136.out) | exact HB.out))) : w.heap.size ≤ gb140)); have n4_ := Aside0.mk ((by rw [hg]; exact (below_size (by repeat (first | (with_reducible first | exact HB.out | apply below_alloc | apply pw_below_drewN | apply below_drew1 | refine below_set ?_ GE136.out) | exact HB.out))) : w.heap.size ≤ gb140)); have n5_ := Aside0.mk ((by rw [hg]; exact Nat.ne_of_lt (blk_lt (g := gb136) (o := .cells #[.int .i64 a1_0, .int .i64 a1_1] 23 (0, 0)) (by (with_reducible repeat (first | refine blk_drewN ?_ _ | refine blk_drew ?_ | refine blk_alloc ?_ _)); exact BK136.out)) : gb136 ≠ gb140)); have n6_ := Aside0.mk ((by rw [hg]; exact Nat.ne_of_gt (blk_lt (g := gb136) (o := .cells #[.int .i64 a1_0, .int .i64 a1_1] 23 (0, 0)) (by (with_reducible repeat (first | refine blk_drewN ?_ _ | refine blk_drew ?_ | refine blk_alloc ?_ _)); exact BK136.out)) : gb140 ≠ gb136)); clear BK136; clear HB; have BK136 := n0_; have HB := n1_; have BK140 := n2_; have GW140 := n3_; have GE140 := n4_; have NB136_140 := n5_; have NB140_136 := n6_; clear n0_ n1_ n2_ n3_ n4_ n5_ n6_; clear hb hbox hg; have hnb15 := NB140_136.out; have hnc15 := NB136_140.out; have hcz16_0 : w14.cell? ⟨gb140, 0, none⟩ = some (.int .i64 0) := (blk_cell BK140.out 0).trans rfl; have hcz16_1 : w14.cell? ⟨gb140, 1, none⟩ = some (.int .i64 0) := (blk_cell BK140.out 1).trans rfl; have hfz16_0 := blk_frozen BK140.out 0; have hfz16_1 := blk_frozen BK140.out 1; have hcz17_0 : w14.cell? ⟨gb136, 0, none⟩ = some (.int .i64 a1_0) := (blk_cell BK136.out 0).trans rfl; have hcz17_1 : w14.cell? ⟨gb136, 1, none⟩ = some (.int .i64 a1_1) := (blk_cell BK136.out 1).trans rfl; have hfz17_0 := blk_frozen BK136.out 0; have hfz17_1 := blk_frozen BK136.out 1))
  go_ret
  exact ⟨by first | rfl | (simp [errW_none, errW_some] <;> rfl) | (simp [*, errW_none, errW_some] <;> rfl), by repeat (first | (with_reducible first | exact HB.out | apply below_alloc | apply pw_below_drewN | apply below_drew1 | refine below_set ?_ GE136.out | refine below_set ?_ GE140.out) | exact HB.out)⟩

/-! ### redpencillaw04_known: function 14 -/
mutual
def redpencillaw04_known.j0 : Nat → Bool → Int → Int → Int → Int → Int → Int → Int → Int → Option (Bool)
 | 0, _, _, _, _, _, _, _, _, _ => none
 | k + 1, x51, x149000, x149001, x150000, x150001, x151000, x151001, x152000, x152001 => if x51 = true then (some false) else ((some (([(⟨x150000, x150001⟩ : S23), (⟨x149000, x149001⟩ : S23), (⟨x151000, x151001⟩ : S23)] : List (S23)) : List (S23))).bind fun y167 => ((some (([(⟨x151000, x151001⟩ : S23), (⟨x149000, x149001⟩ : S23)] : List (S23)) : List (S23))).bind fun y170 => ((some (([(⟨x150000, x150001⟩ : S23), (⟨x149000, x149001⟩ : S23)] : List (S23)) : List (S23))).bind fun y173 => ((dot_Set.f (([(⟨x151000, x151001⟩ : S23), (⟨x149000, x149001⟩ : S23), (⟨x150000, x150001⟩ : S23), (⟨x149000, x149001⟩ : S23)] : List (S23)))).bind fun t179 => ((redpencilref04_Same.f k t179 y167).bind fun t182 => (if t182 = true then ((dot_Union.f y170 y173).bind fun t183 => ((redpencilref04_Same.f k t183 y167).bind fun t186 => (if t186 = true then ((dot_Minus.f y170 y173).bind fun t187 => ((redpencilref04_Same.f k t187 (([(⟨x151000, x151001⟩ : S23)] : List (S23)))).bind fun t193 => (if t193 = true then ((dot_Has.f k y170 x149000 x149001).bind fun t194 => (redpencillaw04_known.j1 k (!t194) x149000 x149001 x152000 x152001)) else (redpencillaw04_known.j1 k true x149000 x149001 x152000 x152001)))) else (redpencillaw04_known.j1 k true x149000 x149001 x152000 x152001)))) else (redpencillaw04_known.j1 k true x149000 x149001 x152000 x152001)))))))
def redpencillaw04_known.j1 : Nat → Bool → Int → Int → Int → Int → Option (Bool)
 | 0, _, _, _, _, _ => none
 | k + 1, x93, x149000, x149001, x152000, x152001 => if x93 = true then (some false) else ((redpencillaw04_of.f 64 4294967295).bind fun bt195 => ((dot_Valid.f bt195.1 bt195.2).bind fun t197 => (if t197 = true then ((redpencillaw04_of.f 65 1).bind fun bt198 => ((dot_Valid.f bt198.1 bt198.2).bind fun t200 => (if t200 = true then (redpencillaw04_known.j2 k true x149000 x149001 x152000 x152001) else ((redpencillaw04_of.f 1 0).bind fun bt201 => ((dot_Valid.f bt201.1 bt201.2).bind fun t203 => (if t203 = true then (redpencillaw04_known.j2 k true x149000 x149001 x152000 x152001) else ((dot_Valid.f x152000 x152001).bind fun t204 => (if t204 = true then (redpencillaw04_known.j2 k true x149000 x149001 x152000 x152001) else ((dot_Root.f x152000 x152001).bind fun t205 => (redpencillaw04_known.j2 k (!t205) x149000 x149001 x152000 x152001)))))))))) else (redpencillaw04_known.j2 k true x149000 x149001 x152000 x152001))))
def redpencillaw04_known.j2 : Nat → Bool → Int → Int → Int → Int → Option (Bool)
 | 0, _, _, _, _, _ => none
 | k + 1, x113, x149000, x149001, x152000, x152001 => if x113 = true then (some false) else ((redpencillaw04_parses.f (⟨#[51, 46, 55]⟩ : ByteArray) x149000 x149001 0).bind fun t206 => (if t206 = true then ((redpencillaw04_parses.f (⟨#[114, 111, 111, 116]⟩ : ByteArray) x152000 x152001 0).bind fun t207 => (if t207 = true then ((redpencillaw04_parses.f (⟨#[48, 46, 48]⟩ : ByteArray) x152000 x152001 6).bind fun t208 => (if t208 = true then ((redpencillaw04_of.f 65 1).bind fun bt209 => ((redpencillaw04_texts.f bt209.1 bt209.2 (⟨#[]⟩ : ByteArray) 2).bind fun t211 => (if t211 = true then ((redpencillaw04_parses.f (⟨#[48, 51, 46, 55]⟩ : ByteArray) x152000 x152001 6).bind fun t212 => (if t212 = true then ((redpencillaw04_parses.f (⟨#[51, 46, 52, 50, 57, 52, 57, 54, 55, 50, 57, 54]⟩ : ByteArray) x152000 x152001 6).bind fun t213 => (if t213 = true then ((redpencillaw04_parses.f (⟨#[51]⟩ : ByteArray) x152000 x152001 6).bind fun t214 => (some t214)) else (some false))) else (some false))) else (some false)))) else (some false))) else (some false))) else (some false)))
end
def redpencillaw04_known.f (k : Nat)  : Option (Bool) := (redpencillaw04_of.f 3 7).bind fun bt142 => ((redpencillaw04_of.f 5 6).bind fun bt144 => ((redpencillaw04_of.f 5 7).bind fun bt146 => ((dot_Compare.f k bt142.1 bt142.2 bt144.1 bt144.2).bind fun t152 => (if t152 = 1 then ((dot_Compare.f k bt142.1 bt142.2 bt146.1 bt146.2).bind fun t153 => (if t153 = (-1) then ((dot_Compare.f k bt142.1 bt142.2 bt142.1 bt142.2).bind fun t154 => (if t154 = 0 then ((redpencillaw04_of.f 1 1).bind fun bt155 => ((dot_Compare.f k 0 0 bt155.1 bt155.2).bind fun t157 => (if t157 = (-1) then ((dot_IsSet.f k (([(⟨bt144.1, bt144.2⟩ : S23), (⟨bt142.1, bt142.2⟩ : S23), (⟨bt146.1, bt146.2⟩ : S23)] : List (S23)))).bind fun t161 => (if t161 = true then ((dot_IsSet.f k (([(⟨bt142.1, bt142.2⟩ : S23), (⟨bt142.1, bt142.2⟩ : S23)] : List (S23)))).bind fun t165 => (if t165 = true then (redpencillaw04_known.j0 k true bt142.1 bt142.2 bt144.1 bt144.2 bt146.1 bt146.2 0 0) else ((dot_IsSet.f k ([] : List (S23))).bind fun t166 => (redpencillaw04_known.j0 k (!t166) bt142.1 bt142.2 bt144.1 bt144.2 bt146.1 bt146.2 0 0)))) else (redpencillaw04_known.j0 k true bt142.1 bt142.2 bt144.1 bt144.2 bt146.1 bt146.2 0 0))) else (redpencillaw04_known.j0 k true bt142.1 bt142.2 bt144.1 bt144.2 bt146.1 bt146.2 0 0)))) else (redpencillaw04_known.j0 k true bt142.1 bt142.2 bt144.1 bt144.2 bt146.1 bt146.2 0 0))) else (redpencillaw04_known.j0 k true bt142.1 bt142.2 bt144.1 bt144.2 bt146.1 bt146.2 0 0))) else (redpencillaw04_known.j0 k true bt142.1 bt142.2 bt144.1 bt144.2 bt146.1 bt146.2 0 0)))))
theorem redpencillaw04_known.mono_l : ∀ k, (∀ y0 y1 y2 y3 y4 y5 y6 y7 y8, LeO (redpencillaw04_known.j0 k y0 y1 y2 y3 y4 y5 y6 y7 y8) (redpencillaw04_known.j0 (k + 1) y0 y1 y2 y3 y4 y5 y6 y7 y8)) ∧ (∀ y0 y1 y2 y3 y4, LeO (redpencillaw04_known.j1 k y0 y1 y2 y3 y4) (redpencillaw04_known.j1 (k + 1) y0 y1 y2 y3 y4)) ∧ (∀ y0 y1 y2 y3 y4, LeO (redpencillaw04_known.j2 k y0 y1 y2 y3 y4) (redpencillaw04_known.j2 (k + 1) y0 y1 y2 y3 y4))
 | 0 => ⟨fun _ _ _ _ _ _ _ _ _ r h => by simp [redpencillaw04_known.j0] at h, fun _ _ _ _ _ r h => by simp [redpencillaw04_known.j1] at h, fun _ _ _ _ _ r h => by simp [redpencillaw04_known.j2] at h⟩
 | k + 1 => by
  obtain ⟨ih0, ih1, ih2⟩ := redpencillaw04_known.mono_l k
  refine ⟨?_, ?_, ?_⟩
  ·
   intro y0 y1 y2 y3 y4 y5 y6 y7 y8
   unfold redpencillaw04_known.j0
   repeat' first
   | (with_reducible exact ih0 _ _ _ _ _ _ _ _ _)
   | (with_reducible exact ih1 _ _ _ _ _)
   | (with_reducible exact ih2 _ _ _ _ _)
   | (with_reducible exact dot_Compare.mono _ _ _ _ _)
   | (with_reducible exact dot_Has.mono _ _ _ _)
   | (with_reducible exact dot_IsSet.mono _ _)
   | (with_reducible exact redpencilref04_Same.mono _ _ _)
   | (with_reducible exact LeO.refl _)
   | (with_reducible exact LeO.none _)
   | (with_reducible refine LeO.ite ?_ ?_)
   | (with_reducible refine LeO.bind ?_ (fun _ => ?_))
   | exact ih0 _ _ _ _ _ _ _ _ _
   | exact ih1 _ _ _ _ _
   | exact ih2 _ _ _ _ _
   | exact dot_Compare.mono _ _ _ _ _
   | exact dot_Has.mono _ _ _ _
   | exact dot_IsSet.mono _ _
   | exact redpencilref04_Same.mono _ _ _
   | exact LeO.none _
   | refine LeO.ite ?_ ?_
   | refine LeO.bind ?_ (fun _ => ?_)
  ·
   intro y0 y1 y2 y3 y4
   unfold redpencillaw04_known.j1
   repeat' first
   | (with_reducible exact ih0 _ _ _ _ _ _ _ _ _)
   | (with_reducible exact ih1 _ _ _ _ _)
   | (with_reducible exact ih2 _ _ _ _ _)
   | (with_reducible exact dot_Compare.mono _ _ _ _ _)
   | (with_reducible exact dot_Has.mono _ _ _ _)
   | (with_reducible exact dot_IsSet.mono _ _)
   | (with_reducible exact redpencilref04_Same.mono _ _ _)
   | (with_reducible exact LeO.refl _)
   | (with_reducible exact LeO.none _)
   | (with_reducible refine LeO.ite ?_ ?_)
   | (with_reducible refine LeO.bind ?_ (fun _ => ?_))
   | exact ih0 _ _ _ _ _ _ _ _ _
   | exact ih1 _ _ _ _ _
   | exact ih2 _ _ _ _ _
   | exact dot_Compare.mono _ _ _ _ _
   | exact dot_Has.mono _ _ _ _
   | exact dot_IsSet.mono _ _
   | exact redpencilref04_Same.mono _ _ _
   | exact LeO.none _
   | refine LeO.ite ?_ ?_
   | refine LeO.bind ?_ (fun _ => ?_)
  ·
   intro y0 y1 y2 y3 y4
   unfold redpencillaw04_known.j2
   repeat' first
   | (with_reducible exact ih0 _ _ _ _ _ _ _ _ _)
   | (with_reducible exact ih1 _ _ _ _ _)
   | (with_reducible exact ih2 _ _ _ _ _)
   | (with_reducible exact dot_Compare.mono _ _ _ _ _)
   | (with_reducible exact dot_Has.mono _ _ _ _)
   | (with_reducible exact dot_IsSet.mono _ _)
   | (with_reducible exact redpencilref04_Same.mono _ _ _)
   | (with_reducible exact LeO.refl _)
   | (with_reducible exact LeO.none _)
   | (with_reducible refine LeO.ite ?_ ?_)
   | (with_reducible refine LeO.bind ?_ (fun _ => ?_))
   | exact ih0 _ _ _ _ _ _ _ _ _
   | exact ih1 _ _ _ _ _
   | exact ih2 _ _ _ _ _
   | exact dot_Compare.mono _ _ _ _ _
   | exact dot_Has.mono _ _ _ _
   | exact dot_IsSet.mono _ _
   | exact redpencilref04_Same.mono _ _ _
   | exact LeO.none _
   | refine LeO.ite ?_ ?_
   | refine LeO.bind ?_ (fun _ => ?_)
theorem redpencillaw04_known.mono : ∀ k, LeO (redpencillaw04_known.f k ) (redpencillaw04_known.f (k + 1) ) := by
 intro  k
 obtain ⟨ih0, ih1, ih2⟩ := redpencillaw04_known.mono_l k
 unfold redpencillaw04_known.f
 repeat' first
   | (with_reducible exact ih0 _ _ _ _ _ _ _ _ _)
   | (with_reducible exact ih1 _ _ _ _ _)
   | (with_reducible exact ih2 _ _ _ _ _)
   | (with_reducible exact dot_Compare.mono _ _ _ _ _)
   | (with_reducible exact dot_Has.mono _ _ _ _)
   | (with_reducible exact dot_IsSet.mono _ _)
   | (with_reducible exact redpencilref04_Same.mono _ _ _)
   | (with_reducible exact LeO.refl _)
   | (with_reducible exact LeO.none _)
   | (with_reducible refine LeO.ite ?_ ?_)
   | (with_reducible refine LeO.bind ?_ (fun _ => ?_))
   | exact ih0 _ _ _ _ _ _ _ _ _
   | exact ih1 _ _ _ _ _
   | exact ih2 _ _ _ _ _
   | exact dot_Compare.mono _ _ _ _ _
   | exact dot_Has.mono _ _ _ _
   | exact dot_IsSet.mono _ _
   | exact redpencilref04_Same.mono _ _ _
   | exact LeO.none _
   | refine LeO.ite ?_ ?_
   | refine LeO.bind ?_ (fun _ => ?_)
def redpencillaw04_known.T2 : Bool × List (List Nat × List Nat) := (true, [([], []), ([], []), ([0, 1], [0, 1]), ([2], [2]), ([3, 2], [3]), ([4], [4]), ([4], [4]), ([5, 6, 4, 4], [4, 5, 6]), ([7, 4], [4, 7]), ([4, 8], [4, 8]), ([9, 7], [9]), ([10], [10]), ([10], [10]), ([11, 12, 10, 10], [10, 11, 12]), ([13, 10], [10, 13]), ([10, 14], [10, 14]), ([15, 13], [15]), ([16], [16]), ([16, 16], [16]), ([17, 18, 18, 16], [16, 17, 18]), ([19, 16], [16, 19]), ([16, 20], [16, 20]), ([21, 19], [21]), ([22], [22]), ([22], [22]), ([22], [22]), ([23, 24, 25, 22], [22, 23, 24, 25]), ([26, 22, 22], [22, 26]), ([27, 22], [22, 27]), ([22, 28], [22, 28]), ([29, 27], [29]), ([30], [30]), ([30], [30]), ([31, 32, 30], [30, 31, 32]), ([33, 30, 30], [30, 33]), ([30, 34], [30, 34]), ([35, 34], [35]), ([36, 36], [36]), ([37, 36], [36, 37]), ([36, 38], [36, 38])])
def redpencillaw04_known.B2 : List Nat := [0, 0, 3, 7, 15, 31, 31, 127, 255, 511, 1023, 2047, 2047, 8191, 16383, 32767, 65535, 131071, 131071, 524287, 1048575, 2097151, 4194303, 8388607, 8388607, 8388607, 67108863, 134217727, 268435455, 536870911, 1073741823, 2147483647, 2147483647, 8589934591, 17179869183, 34359738367, 68719476735, 137438953471, 274877906943, 549755813887]
theorem redpencillaw04_known.tab2 : rtab .any (opsOf Tryd.f14 2) = redpencillaw04_known.T2 := by kernel_rfl
theorem redpencillaw04_known.bits2 : waitsOk redpencillaw04_known.T2.2 redpencillaw04_known.B2 = true := by kernel_rfl
def redpencillaw04_known.T4 : Bool × List (List Nat × List Nat) := (true, [([], []), ([], []), ([], []), ([0, 1, 2], [0, 1, 2]), ([], []), ([], []), ([4, 5], [4, 5]), ([], []), ([], []), ([7, 8], [7, 8]), ([3, 0, 1, 2, 3], [3]), ([6, 10, 0, 1, 2, 3, 4, 5, 6, 10], [6]), ([9, 11, 0, 1, 2, 3, 4, 5, 6, 7, 8, 9, 10, 11], [9])])
def redpencillaw04_known.B4 : List Nat := [0, 0, 0, 7, 0, 0, 48, 0, 0, 384, 15, 1151, 4095]
theorem redpencillaw04_known.tab4 : rtab .any (opsOf Tryd.f14 4) = redpencillaw04_known.T4 := by kernel_rfl
theorem redpencillaw04_known.bits4 : waitsOk redpencillaw04_known.T4.2 redpencillaw04_known.B4 = true := by kernel_rfl
def redpencillaw04_known.T5 : Bool × List (List Nat × List Nat) := (true, [([], []), ([], []), ([], []), ([], []), ([0, 1, 2, 3], [0, 1, 2, 3]), ([4], [4]), ([], []), ([5, 6, 5], [5, 6]), ([7], [7]), ([8, 7], [8]), ([9], [9]), ([9], [9]), ([10, 11, 9, 9], [9, 10, 11]), ([9], [9]), ([12, 13, 12, 9], [9, 12, 13]), ([14, 9], [9, 14]), ([9, 15], [9, 15]), ([16, 14], [16]), ([17], [17]), ([17], [17]), ([18, 19, 17, 17], [17, 18, 19]), ([17], [17]), ([21, 17], [17, 21]), ([20, 22, 20, 17], [17, 20, 22]), ([23, 17], [17, 23]), ([17, 24], [17, 24]), ([25, 23], [25]), ([26], [26]), ([26], [26]), ([27, 28, 26, 26], [26, 27, 28]), ([29, 26], [26, 29]), ([26, 30], [26, 30])])
def redpencillaw04_known.B5 : List Nat := [0, 0, 0, 0, 15, 31, 0, 127, 255, 511, 1023, 1023, 4095, 1023, 16383, 32767, 65535, 131071, 262143, 262143, 1048575, 262143, 2359295, 8388607, 16777215, 33554431, 67108863, 134217727, 134217727, 536870911, 1073741823, 2147483647]
theorem redpencillaw04_known.tab5 : rtab .any (opsOf Tryd.f14 5) = redpencillaw04_known.T5 := by kernel_rfl
theorem redpencillaw04_known.bits5 : waitsOk redpencillaw04_known.T5.2 redpencillaw04_known.B5 = true := by kernel_rfl
theorem redpencillaw04_known.j0_no : ∀ k y1 y2 y3 y4 y5 y6 y7 y8, ¬ redpencillaw04_known.j0 k true y1 y2 y3 y4 y5 y6 y7 y8 = some true := by
  intro k y1 y2 y3 y4 y5 y6 y7 y8
  cases k with
  | zero => rw [redpencillaw04_known.j0]; simp
  | succ k => rw [redpencillaw04_known.j0]; simp
theorem redpencillaw04_known.j1_no : ∀ k y1 y2 y3 y4, ¬ redpencillaw04_known.j1 k true y1 y2 y3 y4 = some true := by
  intro k y1 y2 y3 y4
  cases k with
  | zero => rw [redpencillaw04_known.j1]; simp
  | succ k => rw [redpencillaw04_known.j1]; simp
theorem redpencillaw04_known.j2_no : ∀ k y1 y2 y3 y4, ¬ redpencillaw04_known.j2 k true y1 y2 y3 y4 = some true := by
  intro k y1 y2 y3 y4
  cases k with
  | zero => rw [redpencillaw04_known.j2]; simp
  | succ k => rw [redpencillaw04_known.j2]; simp
end Go.Proofs.YtcmicaheakkgdaaDoor.PAll
